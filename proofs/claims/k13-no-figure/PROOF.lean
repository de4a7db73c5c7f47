import PyProof.Rows.All
import Wide.All
import OpenK.AllK
import Wide.FinOn
import HandS.ForMost
import HandS.ForExc
import HandS.IsInst
import HandS.ExcIs
import HandS.Conv
import HandS.Wide
import HandS.Deep
import HandS.TupAny
import HandS.TupLen
import HandS.Walk
import HandS.Codes
import HandS.More
import HandS.SortOrd
import PySem.Challenge.RW_hexaddress_k13_no_figure
set_option Elab.async false
set_option linter.all false
set_option maxRecDepth 100000
set_option maxHeartbeats 4000000
/-! # the base: what every def's proof leans on (no row in sight) -/
namespace Hx
open PySem PySem.Spec PyProof.Rows L2

/-- a def as it stands behind the top: its body, its name in the module, how its arguments bind -/
structure Fn (K : PySem.W.Frag) (mg : Str → Option Value) (x qual : Str) (st : Stmt) (ps : List Str) : Prop where
  ex : ∃ (f : Addr) (fd : FuncData), Fun K x qual st f fd ∧ mg x = some (.ref f) ∧ Binds K fd ps []
/-- a def that keeps its promise, as a caller wants it -/
structure Ref (P : Program) (w : World) (K : PySem.W.Frag) (mg : Str → Option Value) (base : Heap) (CX : CXT) (k : Nat) (x : Str) (ps : List Str) (sp : Sp) : Prop where
  ex : ∃ (f : Addr) (fd : FuncData), FnOk P w K mg base CX k f fd ps sp ∧ mg x = some (.ref f) ∧ PySem.W.keepIn K (.ref f) = true ∧ Binds K fd ps []
section
variable {P : Program} {w : World} {K : PySem.W.Frag} {mg : Str → Option Value} {base : Heap}
theorem Fn.ok {x qual : Str} {st : Stmt} {N ps : List Str} {k : Nat} {sp : Sp} (F : Fn K mg x qual st ps) (S : FnScope N ps (defScope st)) (len : ∀ vs H Q E, sp vs H Q E → vs.length = ps.length)
    (hbody : ∀ (f : Addr) (cdv : Value) (A : Around) (outer : List Env) (s : Shared) (H : Hp) (vs : List V) (Q : VK) (E : XK), Room k (A.deeper (envOfC qual (defScope st) s.heap.objs.size f cdv)) → sp vs H Q E →
      ∃ t, PSs (cxOf CX0 P w K mg base N qual (defScope st) f cdv A outer s H E).nox (defBody st) t ∧ t { nx := fun _ H' => Q .non H', rt := Q } (start N vs) H) : Ref P w K mg base CX0 (k + 1) x ps sp := by
  obtain ⟨f, fd, F, g, b⟩ := F.ex
  exact ⟨f, fd, F.ok S len (hbody f), g, F.kp, b⟩
theorem Fn.okX {x qual : Str} {st : Stmt} {N ps : List Str} {k : Nat} {sp : Sp} (F : Fn K mg x qual st ps) (S : FnScope N ps (defScope st)) (len : ∀ vs H Q E, sp vs H Q E → vs.length = ps.length)
    (hbody : ∀ (f : Addr) (cdv : Value) (A : Around) (outer : List Env) (s : Shared) (H : Hp) (vs : List V) (Q : VK) (E : XK), Room k (A.deeper (envOfC qual (defScope st) s.heap.objs.size f cdv)) → sp vs H Q E →
      ∃ t, PSs (cxOf (L2.CX P w) P w K mg base N qual (defScope st) f cdv A outer s H E) (defBody st) t ∧ t { nx := fun _ H' => Q .non H', rt := Q } (start N vs) H) : Ref P w K mg base (L2.CX P w) (k + 1) x ps sp := by
  obtain ⟨f, fd, F, g, b⟩ := F.ex
  exact ⟨f, fd, F.okX S len (hbody f), g, F.kp, b⟩
theorem Ref.imp {CX : CXT} {k : Nat} {x : Str} {ps : List Str} {sp sp' : Sp} (R : Ref P w K mg base CX k x ps sp) (h : ∀ vs H Q E, sp' vs H Q E → sp vs H Q E) : Ref P w K mg base CX k x ps sp' := by
  obtain ⟨f, fd, F, r⟩ := R.ex
  exact ⟨f, fd, F.imp h, r⟩
theorem Ref.mono {CX : CXT} {j k : Nat} {x : Str} {ps : List Str} {sp : Sp} (R : Ref P w K mg base CX j x ps sp) (h : j ≤ k) : Ref P w K mg base CX k x ps sp := by
  obtain ⟨f, fd, F, r⟩ := R.ex
  exact ⟨f, fd, F.mono h, r⟩
end
section
variable {X : Cx} {k : Nat} {x : Str} {ps : List Str} {sp : Sp} {p pos : Pos} {e : Expr} {es : List Expr} {t : TA}
theorem pe_fn (R : Ref X.prog X.w X.K X.mg X.base CX0 k x ps sp) (hr : Room k X.A) (ha : PA X (e :: es) t) (hg : Gl X x := by rfl) (hdb : (x == ("__debug__" : Str)) = false := by decide)
    (he : starEach (e :: es) X.env = (false, eval e X.env) :: starEach es X.env := by rfl) (hpl : (backTo pos (starEach es X.env)).any (·.1) = false := by rfl) : PE X (.Call (.Name x p) (e :: es) [] pos) (tCall sp [] E0 t) := by
  obtain ⟨f, fd, F, g, kp, b⟩ := R.ex
  exact pe_call F hr hg g kp b .nil pass0 ha hdb he hpl
theorem pe_fn0 (R : Ref X.prog X.w X.K X.mg X.base CX0 k x ps sp) (hr : Room k X.A) (hg : Gl X x := by rfl) (hdb : (x == ("__debug__" : Str)) = false := by decide) : PE X (.Call (.Name x p) [] [] pos) (tCall sp [] E0 tNil) := by
  obtain ⟨f, fd, F, g, kp, b⟩ := R.ex
  exact pe_call0 F hr hg g kp b .nil pass0 hdb
end
/-- the built-in names are as Python has them -/
structure Tx (mg : Str → Option Value) : Prop where
  b_len : mg "len" = none
  b_range : mg "range" = none
  b_list : mg "list" = none
  b_tuple : mg "tuple" = none
  b_max : mg "max" = none
  b_min : mg "min" = none
  b_abs : mg "abs" = none
  b_int : mg "int" = none
  b_bool : mg "bool" = none
  b_isinstance : mg "isinstance" = none
  b_sorted : mg "sorted" = none
  b_dict : mg "dict" = none
  b_ValueError : mg "ValueError" = none

/-! ### heaps that grow -/
theorem _root_.L2.Same.seqT {K : PySem.W.Frag} {H H' : Hp} {a : Addr} {xs : List V} (e : Same H H') (h : SqT K H a xs) : SqT K H' a xs := by
  rcases h with (h | ⟨o, h⟩) | h
  · exact .inl (.inl (e _ _ h))
  · exact .inl (.inr ⟨o, e _ _ h⟩)
  · exact .inr h
theorem same_new {H : Hp} {p : Addr} {o : HO} (h : H p = none) : Same H (upd H p o) := fun b x e => by
  rw [upd_ne (ne_of_none e h)]
  exact e
/-- what H knows stays where another object, that H does not know, is changed -/
theorem _root_.L2.Same.mut {H H' : Hp} {p : Addr} {o : HO} (e : Same H H') (h : H p = none) : Same H (upd H' p o) := fun a u ha => by
  rw [upd_ne (ne_of_none ha h)]
  exact e a u ha
theorem SqT_putr {K : PySem.W.Frag} {H : Hp} {a p : Addr} {xs ys : List V} {o : HO} (hp : H p = some (.lst ys)) (h : SqT K H a xs) : SqT K (upd H p o) a xs := by
  rcases h with (h | ⟨ob, h⟩) | h
  · refine .inl (.inl ?_)
    rw [upd_ne (ne_of h hp (by intro z; cases z))]
    exact h
  · refine .inl (.inr ⟨ob, ?_⟩)
    rw [upd_ne (ne_of h hp (by intro z; cases z))]
    exact h
  · exact .inr h
theorem SqT_put {K : PySem.W.Frag} {H : Hp} {a p : Addr} {xs ys : List V} {o : HO} (h : SqT K H a xs) (hp : H p = some (.lst ys)) : SqT K (upd H p o) a xs := by
  rcases h with (h | ⟨ob, h⟩) | h
  · refine .inl (.inl ?_)
    rw [upd_ne (ne_of h hp (by intro z; cases z))]
    exact h
  · refine .inl (.inr ⟨ob, ?_⟩)
    rw [upd_ne (ne_of h hp (by intro z; cases z))]
    exact h
  · exact .inr h
theorem sqL_new {K : PySem.W.Frag} {H : Hp} {a : Addr} {xs : List V} : SqL K (upd H a (.lst xs)) a xs := .inl (.inl upd_same)
theorem sqT_new {K : PySem.W.Frag} {H : Hp} {a : Addr} {xs : List V} : SqT K (upd H a (.tup xs)) a xs := .inl (.inl upd_same)

theorem same_at {H H' : Hp} {a : Addr} {o : HO} (s : Same H H') (h : H a = some o) : H' a = some o := s _ _ h
theorem upd_at {H : Hp} {a b : Addr} {o u : HO} (n : a ≠ b) (h : H a = some o) : upd H b u a = some o := by
  rw [upd_ne n]
  exact h
theorem ne_ld {H : Hp} {a b : Addr} {x1 : List V} {x2 : List (List Key × V)} (h : H a = some (.lst x1)) (h2 : H b = some (.dT x2)) : a ≠ b := ne_of h h2 (by intro z; cases z)
theorem ne_lt {H : Hp} {a b : Addr} {x1 : List V} {x2 : List V} (h : H a = some (.lst x1)) (h2 : H b = some (.tup x2)) : a ≠ b := ne_of h h2 (by intro z; cases z)
theorem ne_li {H : Hp} {a b : Addr} {x1 : List V} {C2 dx2 : Addr} {fs2 : List (Str × V)} (h : H a = some (.lst x1)) (h2 : H b = some (.ins C2 dx2 fs2)) : a ≠ b := ne_of h h2 (by intro z; cases z)
theorem ne_lo {H : Hp} {a b : Addr} {x1 : List V} {y2 : Addr} (h : H a = some (.lst x1)) (h2 : H b = some (.own y2)) : a ≠ b := ne_of h h2 (by intro z; cases z)
theorem ne_dl {H : Hp} {a b : Addr} {x1 : List (List Key × V)} {x2 : List V} (h : H a = some (.dT x1)) (h2 : H b = some (.lst x2)) : a ≠ b := ne_of h h2 (by intro z; cases z)
theorem ne_dt {H : Hp} {a b : Addr} {x1 : List (List Key × V)} {x2 : List V} (h : H a = some (.dT x1)) (h2 : H b = some (.tup x2)) : a ≠ b := ne_of h h2 (by intro z; cases z)
theorem ne_di {H : Hp} {a b : Addr} {x1 : List (List Key × V)} {C2 dx2 : Addr} {fs2 : List (Str × V)} (h : H a = some (.dT x1)) (h2 : H b = some (.ins C2 dx2 fs2)) : a ≠ b := ne_of h h2 (by intro z; cases z)
theorem ne_do {H : Hp} {a b : Addr} {x1 : List (List Key × V)} {y2 : Addr} (h : H a = some (.dT x1)) (h2 : H b = some (.own y2)) : a ≠ b := ne_of h h2 (by intro z; cases z)
theorem ne_tl {H : Hp} {a b : Addr} {x1 : List V} {x2 : List V} (h : H a = some (.tup x1)) (h2 : H b = some (.lst x2)) : a ≠ b := ne_of h h2 (by intro z; cases z)
theorem ne_td {H : Hp} {a b : Addr} {x1 : List V} {x2 : List (List Key × V)} (h : H a = some (.tup x1)) (h2 : H b = some (.dT x2)) : a ≠ b := ne_of h h2 (by intro z; cases z)
theorem ne_ti {H : Hp} {a b : Addr} {x1 : List V} {C2 dx2 : Addr} {fs2 : List (Str × V)} (h : H a = some (.tup x1)) (h2 : H b = some (.ins C2 dx2 fs2)) : a ≠ b := ne_of h h2 (by intro z; cases z)
theorem ne_to {H : Hp} {a b : Addr} {x1 : List V} {y2 : Addr} (h : H a = some (.tup x1)) (h2 : H b = some (.own y2)) : a ≠ b := ne_of h h2 (by intro z; cases z)
theorem ne_il {H : Hp} {a b : Addr} {C1 dx1 : Addr} {fs1 : List (Str × V)} {x2 : List V} (h : H a = some (.ins C1 dx1 fs1)) (h2 : H b = some (.lst x2)) : a ≠ b := ne_of h h2 (by intro z; cases z)
theorem ne_id {H : Hp} {a b : Addr} {C1 dx1 : Addr} {fs1 : List (Str × V)} {x2 : List (List Key × V)} (h : H a = some (.ins C1 dx1 fs1)) (h2 : H b = some (.dT x2)) : a ≠ b := ne_of h h2 (by intro z; cases z)
theorem ne_it {H : Hp} {a b : Addr} {C1 dx1 : Addr} {fs1 : List (Str × V)} {x2 : List V} (h : H a = some (.ins C1 dx1 fs1)) (h2 : H b = some (.tup x2)) : a ≠ b := ne_of h h2 (by intro z; cases z)
theorem ne_io {H : Hp} {a b : Addr} {C1 dx1 : Addr} {fs1 : List (Str × V)} {y2 : Addr} (h : H a = some (.ins C1 dx1 fs1)) (h2 : H b = some (.own y2)) : a ≠ b := ne_of h h2 (by intro z; cases z)
theorem ne_ol {H : Hp} {a b : Addr} {y1 : Addr} {x2 : List V} (h : H a = some (.own y1)) (h2 : H b = some (.lst x2)) : a ≠ b := ne_of h h2 (by intro z; cases z)
theorem ne_od {H : Hp} {a b : Addr} {y1 : Addr} {x2 : List (List Key × V)} (h : H a = some (.own y1)) (h2 : H b = some (.dT x2)) : a ≠ b := ne_of h h2 (by intro z; cases z)
theorem ne_ot {H : Hp} {a b : Addr} {y1 : Addr} {x2 : List V} (h : H a = some (.own y1)) (h2 : H b = some (.tup x2)) : a ≠ b := ne_of h h2 (by intro z; cases z)
theorem ne_oi {H : Hp} {a b : Addr} {y1 : Addr} {C2 dx2 : Addr} {fs2 : List (Str × V)} (h : H a = some (.own y1)) (h2 : H b = some (.ins C2 dx2 fs2)) : a ≠ b := ne_of h h2 (by intro z; cases z)
/-! ### places -/
/-- v is the tuple of the place -/
def Pl (K : PySem.W.Frag) (H : Hp) (v : V) (p : Int × Int) : Prop := ∃ a, v = .ref a ∧ SqT K H a [.int p.1, .int p.2]
theorem Pl.same {K : PySem.W.Frag} {H H' : Hp} {v : V} {p : Int × Int} (h : Pl K H v p) (e : Same H H') : Pl K H' v p := by
  obtain ⟨a, rfl, h⟩ := h
  exact ⟨a, rfl, e.seqT h⟩
theorem Pl.sm {K : PySem.W.Frag} {H H' : Hp} {v : V} {p : Int × Int} (e : Same H H') (h : Pl K H v p) : Pl K H' v p := h.same e
theorem Pl.put {K : PySem.W.Frag} {H : Hp} {v : V} {p : Int × Int} {q : Addr} {ys : List V} {o : HO} (h : Pl K H v p) (hq : H q = some (.lst ys)) : Pl K (upd H q o) v p := by
  obtain ⟨a, rfl, h⟩ := h
  exact ⟨a, rfl, SqT_put h hq⟩
theorem Pl.putr {K : PySem.W.Frag} {H : Hp} {v : V} {p : Int × Int} {q : Addr} {ys : List V} {o : HO} (hq : H q = some (.lst ys)) (h : Pl K H v p) : Pl K (L2.upd H q o) v p := h.put hq
theorem Pl.new {K : PySem.W.Frag} {H : Hp} {a : Addr} {q r : Int} : Pl K (upd H a (.tup [.int q, .int r])) (.ref a) (q, r) := ⟨a, rfl, sqT_new⟩
end Hx
namespace Hx
open PySem PySem.Spec PyProof.Rows L2
/-! ### tuples that are tracked: keys of dicts -/
abbrev keyOf (p : Int × Int) : List Key := [.inl p.1, .inl p.2]
def Tp (H : Hp) (v : V) (p : Int × Int) : Prop := ∃ a, v = .ref a ∧ H a = some (.tup [.int p.1, .int p.2])
theorem Tp.pl {K : PySem.W.Frag} {H : Hp} {v : V} {p : Int × Int} (h : Tp H v p) : Pl K H v p := by
  obtain ⟨a, rfl, h⟩ := h
  exact ⟨a, rfl, .inl (.inl h)⟩
theorem Tp.new {H : Hp} {a : Addr} {q r : Int} : Tp (upd H a (.tup [.int q, .int r])) (.ref a) (q, r) := ⟨a, rfl, upd_same⟩
theorem Tp.sm {H H' : Hp} {v : V} {p : Int × Int} (e : Same H H') (h : Tp H v p) : Tp H' v p := by
  obtain ⟨a, rfl, h⟩ := h
  exact ⟨a, rfl, e _ _ h⟩
theorem Tp.putr {H : Hp} {v : V} {p : Int × Int} {q : Addr} {ys : List V} {o : HO} (hq : H q = some (.lst ys)) (h : Tp H v p) : Tp (L2.upd H q o) v p := by
  obtain ⟨a, rfl, h⟩ := h
  exact ⟨a, rfl, upd_at (ne_of h hq (by intro z; cases z)) h⟩
theorem Tp.putd {H : Hp} {v : V} {p : Int × Int} {q : Addr} {ys : List (List Key × V)} {o : HO} (hq : H q = some (.dT ys)) (h : Tp H v p) : Tp (L2.upd H q o) v p := by
  obtain ⟨a, rfl, h⟩ := h
  exact ⟨a, rfl, upd_at (ne_of h hq (by intro z; cases z)) h⟩
theorem SqT_putd {K : PySem.W.Frag} {H : Hp} {a p : Addr} {xs : List V} {ys : List (List Key × V)} {o : HO} (hp : H p = some (.dT ys)) (h : SqT K H a xs) : SqT K (upd H p o) a xs := by
  rcases h with (h | ⟨ob, h⟩) | h
  · exact .inl (.inl (upd_at (ne_of h hp (by intro z; cases z)) h))
  · exact .inl (.inr ⟨ob, upd_at (ne_of h hp (by intro z; cases z)) h⟩)
  · exact .inr h
theorem SqL_putd {K : PySem.W.Frag} {H : Hp} {a p : Addr} {xs : List V} {ys : List (List Key × V)} {o : HO} (hp : H p = some (.dT ys)) (h : SqL K H a xs) : SqL K (upd H p o) a xs := by
  rcases h with (h | ⟨ob, h⟩) | h
  · exact .inl (.inl (upd_at (ne_of h hp (by intro z; cases z)) h))
  · exact .inl (.inr ⟨ob, upd_at (ne_of h hp (by intro z; cases z)) h⟩)
  · exact .inr h
theorem Pl.putd {K : PySem.W.Frag} {H : Hp} {v : V} {p : Int × Int} {q : Addr} {ys : List (List Key × V)} {o : HO} (hq : H q = some (.dT ys)) (h : Pl K H v p) : Pl K (L2.upd H q o) v p := by
  obtain ⟨a, rfl, h⟩ := h
  exact ⟨a, rfl, SqT_putd hq h⟩
/-! ### lists of places, the constants of the module -/
abbrev Pls (K : PySem.W.Frag) (H : Hp) : List V → List (Int × Int) → Prop := Paired fun v p => Pl K H v p
theorem pr_len {α β : Type} {R : α → β → Prop} : ∀ {xs : List α} {ys : List β}, Paired R xs ys → xs.length = ys.length
  | _, _, .nil => rfl
  | _, _, .cons _ t => by rw [List.length_cons, List.length_cons, pr_len t]
theorem pr_get {α β : Type} {R : α → β → Prop} : ∀ {xs : List α} {ys : List β} {i : Nat} {x : α}, Paired R xs ys → xs[i]? = some x → ∃ y, ys[i]? = some y ∧ R x y
  | _, _, _, _, .nil, h => by simp at h
  | _, _, 0, _, .cons r _, h => by
    simp at h
    subst h
    exact ⟨_, rfl, r⟩
  | _, _, i + 1, _, .cons _ t, h => by
    obtain ⟨y, h1, h2⟩ := pr_get (i := i) t (by simpa using h)
    exact ⟨y, by simpa using h1, h2⟩
theorem pr_get' {α β : Type} {R : α → β → Prop} : ∀ {xs : List α} {ys : List β} {i : Nat} {y : β}, Paired R xs ys → ys[i]? = some y → ∃ x, xs[i]? = some x ∧ R x y
  | _, _, _, _, .nil, h => by simp at h
  | _, _, 0, _, .cons r _, h => by
    simp at h
    subst h
    exact ⟨_, rfl, r⟩
  | _, _, i + 1, _, .cons _ t, h => by
    obtain ⟨y, h1, h2⟩ := pr_get' (i := i) t (by simpa using h)
    exact ⟨y, by simpa using h1, h2⟩
theorem pr_mono {α β : Type} {R S : α → β → Prop} (f : ∀ a b, R a b → S a b) : ∀ {xs : List α} {ys : List β}, Paired R xs ys → Paired S xs ys
  | _, _, .nil => .nil
  | _, _, .cons r t => .cons (f _ _ r) (pr_mono f t)
theorem pr_snoc {α β : Type} {R : α → β → Prop} {x : α} {y : β} : ∀ {xs : List α} {ys : List β}, Paired R xs ys → R x y → Paired R (xs ++ [x]) (ys ++ [y])
  | _, _, .nil, h => .cons h .nil
  | _, _, .cons r t, h => .cons r (pr_snoc t h)
theorem pr_app {α β : Type} {R : α → β → Prop} : ∀ {xs xs' : List α} {ys ys' : List β}, Paired R xs ys → Paired R xs' ys' → Paired R (xs ++ xs') (ys ++ ys')
  | _, _, _, _, .nil, h => h
  | _, _, _, _, .cons r t, h => .cons r (pr_app t h)
theorem Pls.same {K : PySem.W.Frag} {H H' : Hp} {vs : List V} {ps : List (Int × Int)} (h : Pls K H vs ps) (e : Same H H') : Pls K H' vs ps := pr_mono (fun _ _ x => x.same e) h
theorem Pls.put {K : PySem.W.Frag} {H : Hp} {vs : List V} {ps : List (Int × Int)} {q : Addr} {ys : List V} {o : HO} (h : Pls K H vs ps) (hq : H q = some (.lst ys)) : Pls K (L2.upd H q o) vs ps := pr_mono (fun _ _ x => x.put hq) h
theorem Pls.sm {K : PySem.W.Frag} {H H' : Hp} {vs : List V} {ps : List (Int × Int)} (e : Same H H') (h : Pls K H vs ps) : Pls K H' vs ps := Pls.same h e
theorem Pls.putr {K : PySem.W.Frag} {H : Hp} {vs : List V} {ps : List (Int × Int)} {q : Addr} {ys : List V} {o : HO} (hq : H q = some (.lst ys)) (h : Pls K H vs ps) : Pls K (L2.upd H q o) vs ps := Pls.put h hq
theorem Pls.putd {K : PySem.W.Frag} {H : Hp} {vs : List V} {ps : List (Int × Int)} {q : Addr} {ys : List (List Key × V)} {o : HO} (hq : H q = some (.dT ys)) (h : Pls K H vs ps) : Pls K (L2.upd H q o) vs ps := pr_mono (fun _ _ x => x.putd hq) h
theorem map_get {fs : List Int} {i : Nat} {x : V} (h : (fs.map V.int)[i]? = some x) : ∃ f, fs[i]? = some f ∧ x = .int f := by
  rw [List.getElem?_map] at h
  cases e : fs[i]? with
  | none => rw [e] at h; cases h
  | some f =>
    rw [e] at h
    exact ⟨f, rfl, (Option.some.inj h).symm⟩
theorem map_snoc {ns : List Int} {x : Int} : ns.map V.int ++ [V.int x] = (ns ++ [x]).map V.int := by rw [List.map_append]; rfl
/-- a list of lists of ints -/
abbrev Rws (K : PySem.W.Frag) (H : Hp) : List V → List (List Int) → Prop := Paired fun v r => ∃ a, v = .ref a ∧ SqL K H a (r.map V.int)
theorem Rws.sm {K : PySem.W.Frag} {H H' : Hp} {vs : List V} {rs : List (List Int)} (e : Same H H') (h : Rws K H vs rs) : Rws K H' vs rs := pr_mono (fun _ _ ⟨a, e1, h⟩ => ⟨a, e1, e.seq h⟩) h
def steps : List (Int × Int) := [(1, 0), (0, 1), (-1, 1), (-1, 0), (0, -1), (1, -1)]
def figs : List Int := [0, 1, 5, 6, 3, 2, 4]
def sides : List Int := [3, 4, 5, 6, 1, 2]
def G_STEPS (K : PySem.W.Frag) (a : Addr) : Prop := ∃ vs : List V, (∀ H, SqT K H a vs) ∧ ∀ H, Pls K H vs steps
def G_FIGURES (K : PySem.W.Frag) (a : Addr) : Prop := ∀ H, SqT K H a (figs.map V.int)
def G_SIDES (K : PySem.W.Frag) (a : Addr) : Prop := ∀ H, SqT K H a (sides.map V.int)
theorem written2 {K : PySem.W.Frag} {b : Addr} {d : Option Addr} {n : Nat} {sl : Array (Option Value)} {i j : Int} {t u : Tok} (h : K.lookup b = some ⟨.type "tuple", d, .seq #[.int i t, .int j u] n, sl⟩) (H : Hp) : Pl K H (.ref b) (i, j) :=
  ⟨b, rfl, .inr ⟨_, _, _, h, rfl, rfl, by show 2 ≤ sizeLine; decide, .cons ⟨t, rfl⟩ (.cons ⟨u, rfl⟩ .nil)⟩⟩
/-! ### readings by name -/
def rLen (K : PySem.W.Frag) : List V → Hp → VK → Prop := fun xs H Q => ∃ p ys, xs = [.ref p] ∧ (SqL K H p ys ∨ SqT K H p ys) ∧ Q (.int ys.length) H
def rList (K : PySem.W.Frag) : List V → Hp → VK → Prop := fun xs H Q => ∃ p ys, xs = [.ref p] ∧ (SqL K H p ys ∨ SqT K H p ys) ∧ ∀ l, H l = none → Q (.ref l) (upd H l (.lst ys))
def rTuple (K : PySem.W.Frag) : List V → Hp → VK → Prop := fun xs H Q => ∃ p ys, xs = [.ref p] ∧ ((SqL K H p ys ∧ ∀ l, H l = none → Q (.ref l) (upd H l (.tup ys))) ∨ (SqT K H p ys ∧ Q (.ref p) H))
def rMax2 : List V → Hp → VK → Prop := fun xs H Q => ∃ i j, xs = [.int i, .int j] ∧ Q (.int (if j > i then j else i)) H
def rMin2 : List V → Hp → VK → Prop := fun xs H Q => ∃ i j, xs = [.int i, .int j] ∧ Q (.int (if j < i then j else i)) H
def rMax3 : List V → Hp → VK → Prop := fun xs H Q => ∃ i j k, xs = [.int i, .int j, .int k] ∧ Q (.int (max (max i j) k)) H
def rAbs : List V → Hp → VK → Prop := fun xs H Q => ∃ i, xs = [.int i] ∧ Q (.int (if i < 0 then -i else i)) H
def rInt1 : List V → Hp → VK → Prop := fun xs H Q => (∃ i, xs = [.int i] ∧ Q (.int i) H) ∨ ∃ k, xs = [.bl k] ∧ Q (.int (if k then 1 else 0)) H
section
variable {X : Cx}
theorem cl_len : CallR X (.builtin "len") (rLen X.K) := call_len_seq
theorem cl_list : CallR X (.type "list") (rList X.K) := call_list_of
theorem cl_tuple : CallR X (.type "tuple") (rTuple X.K) := call_tuple_of
theorem cl_max2 (hc : X.calm = true) : CallR X (.builtin "max") rMax2 := call_max2 hc
theorem cl_min2 (hc : X.calm = true) : CallR X (.builtin "min") rMin2 := call_min2 hc
theorem cl_max3 (hc : X.calm = true) : CallR X (.builtin "max") rMax3 := by
  intro pins s σ H xs us Q I r h
  obtain ⟨i, j, k, rfl, q⟩ := h
  cases r with
  | cons r1 r =>
    cases r with
    | cons r2 r =>
      cases r with
      | cons r3 r =>
        cases r
        obtain ⟨t1, rfl⟩ := r1
        obtain ⟨t2, rfl⟩ := r2
        obtain ⟨t3, rfl⟩ := r3
        refine max_three_ints (I.ok.hd hc) fun h' tk kk => ⟨_, H, I.kept kk, ?_, q⟩
        by_cases h1 : j > i
        · by_cases h2 : k > j
          · rw [if_pos h1, if_pos h2, show max (max i j) k = k by omega]
            exact ⟨_, rfl⟩
          · rw [if_pos h1, if_neg h2, show max (max i j) k = j by omega]
            exact ⟨_, rfl⟩
        · by_cases h2 : k > i
          · rw [if_neg h1, if_pos h2, show max (max i j) k = k by omega]
            exact ⟨_, rfl⟩
          · rw [if_neg h1, if_neg h2, show max (max i j) k = i by omega]
            exact ⟨_, rfl⟩
theorem cl_abs : CallR X (.builtin "abs") rAbs := call_abs
theorem cl_int : CallR X (.type "int") rInt1 := call_int1
end
def dispT (xs : List V) (H : Hp) (Q : VK) : Prop := xs.length ≤ sizeLine ∧ ∀ p, H p = none → Q (.ref p) (upd H p (.tup xs))
def dispL (xs : List V) (H : Hp) (Q : VK) : Prop := xs.length ≤ sizeLine ∧ ∀ p, H p = none → Q (.ref p) (upd H p (.lst xs))
def rng1 (R : It → Hp → Prop) (vs : List V) (H : Hp) : Prop := ∃ j : Int, vs = [.int j] ∧ -(2 ^ 62) ≤ j ∧ j < 2 ^ 62 ∧ R (Itr 0 j.toNat) H
def rng2 (R : It → Hp → Prop) (vs : List V) (H : Hp) : Prop := ∃ i j : Int, vs = [.int i, .int j] ∧ (-(2 ^ 62) ≤ i ∧ i < 2 ^ 62 ∧ -(2 ^ 62) ≤ j ∧ j < 2 ^ 62) ∧ R (Itr i (j - i).toNat) H
def itLst (K : PySem.W.Frag) (R : It → Hp → Prop) (x : V) (H : Hp) : Prop := ∃ a, x = .ref a ∧ (∃ xs, SqL K H a xs) ∧ R (Itl K a) H
def itTup (K : PySem.W.Frag) (R : It → Hp → Prop) (x : V) (H : Hp) : Prop := ∃ a, x = .ref a ∧ (∃ xs, SqT K H a xs) ∧ R (Itt K a) H
def rDIn (neg : Bool) (x y : V) (H : Hp) (Q : VK) : Prop := ∃ a o, x = .ref a ∧ DGet H a y o ∧ Q (.bl (if neg then !o.isSome else o.isSome)) H
def rDPut (x y v : V) (H : Hp) (R : Hp → Prop) : Prop := ∃ a H4, x = .ref a ∧ DPut H a y v H4 ∧ R H4
def rDGet (x y : V) (H : Hp) (Q : VK) : Prop := ∃ a v, x = .ref a ∧ DGet H a y (some v) ∧ Q v H
def tTruth (K : PySem.W.Frag) (ta : TE) : TT := fun σ H Q => ta σ H fun x H' => ∃ k, TruV K x H' k ∧ Q k H'
def rTru (K : PySem.W.Frag) (x : V) (H : Hp) (B : Bool → Hp → Prop) : Prop := ∃ k, TruV K x H k ∧ B k H
theorem pt_tru {X : Cx} {a : Expr} {ta : TE} (ha : PE X a ta) (he : ∀ whole, isTrue a X.env whole = (do let v ← whole; standAt a.pos; holding [v] (truthy v))) : PT X a (tTruth X.K ta) := pt_truth ha he
def rng3 (R : It → Hp → Prop) (vs : List V) (H : Hp) : Prop := ∃ (i j c : Int) (n : Nat), vs = [.int i, .int j, .int c] ∧ RgC i j c n ∧ R (Itc i c n) H
/-- what a for asks of its iterator -/
def forR (g : TG) (tb : TS) (D : Ends) (σ : L2.St) (J : It) (H1 : Hp) : Prop := ∃ W : Nat → Nat → L2.St → Hp → Prop, (∃ m, W 0 m σ H1) ∧ ∀ i m σ H, W i m σ H →
  (J.stop i H ∧ D.nx σ H) ∨ (J.go i H ∧ ∃ N : L2.St → Hp → Prop, (∀ σ' H', N σ' H' → ∃ m', m' < m ∧ W (i + 1) m' σ' H') ∧ ∀ x H', J.yld i H x H' → g x σ H' fun σ2 H2 => tb { D with nx := N, ct := N, bk := D.nx } σ2 H2)
/-- what a comprehension asks of its iterator -/
def lcR (g : TG) (tt : TT) (te : TE) (vs : List Nat) (σ : L2.St) (Q : VK) (J : It) (H1 : Hp) : Prop := ∀ D, H1 D = none → ∃ W : Nat → Nat → Hp → Prop, (∃ m, W 0 m (upd H1 D (.lst []))) ∧ ∀ i m H, W i m H →
  (J.stop i H ∧ Q (.ref D) H) ∨ (J.go i H ∧ ∃ Nx : Hp → Prop, (∀ H', Nx H' → ∃ m', m' < m ∧ W (i + 1) m' H') ∧ ∀ x H', J.yld i H x H' → g x (wipe σ vs) H' fun σ2 H2 => wipe σ2 vs = wipe σ vs ∧ tt σ2 H2 fun b H3 =>
    if b = true then te σ2 H3 fun y H4 => ∃ acc, H4 D = some (.lst acc) ∧ acc.length < sizeLine ∧ Nx (upd H4 D (.lst (acc ++ [y]))) else Nx H3)
/-- the new item of a comprehension goes onto its list -/
def lcAdd (D : Addr) (Nx : Hp → Prop) (y : V) (H : Hp) : Prop := ∃ acc, H D = some (.lst acc) ∧ acc.length < sizeLine ∧ Nx (upd H D (.lst (acc ++ [y])))
def lcPut (te : TE) (D : Addr) (Nx : Hp → Prop) (σ : L2.St) (b : Bool) (H : Hp) : Prop := if b = true then te σ H fun y H4 => lcAdd D Nx y H4 else Nx H
/-- what a while's test's answer asks -/
def whR (tb : TS) (D : Ends) (W : Nat → L2.St → Hp → Prop) (m : Nat) (σ : L2.St) (b : Bool) (H1 : Hp) : Prop :=
  if b = true then ∃ N : L2.St → Hp → Prop, (∀ σ' H', N σ' H' → ∃ m', m' < m ∧ W m' σ' H') ∧ tb { D with nx := N, ct := N, bk := D.nx } σ H1 else D.nx σ H1
/-! ### the readings, step by step -/
section
variable {K : PySem.W.Frag} {D : Ends} {σ : L2.St} {H : Hp} {Q : VK} {B : Bool → Hp → Prop} {v x y : V} {ta tb te : TE} {tl tr : TA} {t u : TS} {c c' : TT} {i : Nat} {b : Bool}
theorem w_seq (h : t { D with nx := u D } σ H) : tSeq t u D σ H := h
theorem w_next (h : D.nx σ H) : tNext D σ H := h
theorem w_cont (h : D.ct σ H) : tCont D σ H := h
theorem w_break (h : D.bk σ H) : tBreak D σ H := h
theorem w_ret (h : te σ H D.rt) : tRet te D σ H := h
theorem w_retN (h : D.rt .non H) : tRetN D σ H := h
theorem w_asg {g : TG} (h : te σ H fun x H1 => g x σ H1 D.nx) : tAsg te g D σ H := h
theorem w_drop (h : te σ H fun _ H1 => D.nx σ H1) : tDrop te D σ H := h
theorem w_ifS (h : c σ H fun b H1 => if b = true then t D σ H1 else u D σ H1) : tIfS c t u D σ H := h
theorem w_gName {R : L2.St → Hp → Prop} (h : R (σ.set i (some v)) H) : gName i v σ H R := h
theorem w_var (h : σ[i]? = some (some v)) (q : Q v H) : tVar i σ H Q := ⟨v, h, q⟩
theorem w_c (q : Q v H) : tC v σ H Q := q
theorem w_op {r : R2} (h : ta σ H fun x H1 => tb σ H1 fun y H2 => r x y H2 Q) : tOp r ta tb σ H Q := h
theorem w_un {r : V → Hp → VK → Prop} (h : ta σ H fun x H1 => r x H1 Q) : tUn r ta σ H Q := h
theorem w_nil {R : List V → Hp → Prop} (h : R [] H) : tNil σ H R := h
theorem w_cons {R : List V → Hp → Prop} (h : te σ H fun x H1 => tl σ H1 fun xs H2 => R (x :: xs) H2) : tCons te tl σ H R := h
theorem w_tTup (h : tl σ H fun xs H1 => dispT xs H1 Q) : tTup tl σ H Q := h
theorem w_tLst (h : tl σ H fun xs H1 => dispL xs H1 Q) : tLst tl σ H Q := h
theorem w_dispT {xs : List V} (z : xs.length ≤ 1000) (h : ∀ p, H p = none → Q (.ref p) (upd H p (.tup xs))) : dispT xs H Q := ⟨Nat.le_of_lt (small1000 z), h⟩
theorem w_dispL {xs : List V} (z : xs.length ≤ 1000) (h : ∀ p, H p = none → Q (.ref p) (upd H p (.lst xs))) : dispL xs H Q := ⟨Nat.le_of_lt (small1000 z), h⟩
theorem w_dispL1 {i : Int} (h : ∀ p, H p = none → Q (.ref p) (upd H p (.lst ([i].map V.int)))) : dispL [.int i] H Q := ⟨Nat.le_of_lt (small1000 (show 1 ≤ 1000 by decide)), h⟩
theorem w_dispL2 {i j : Int} (h : ∀ p, H p = none → Q (.ref p) (upd H p (.lst ([i, j].map V.int)))) : dispL [.int i, .int j] H Q := ⟨Nat.le_of_lt (small1000 (show 2 ≤ 1000 by decide)), h⟩
theorem w_call {sp : Sp} {E : XK} (h : tl σ H fun vs H1 => sp vs H1 Q E) : tCall sp [] E tl σ H Q := by
  show tl σ H fun vs H1 => sp (vs ++ []) H1 Q E
  simp only [List.append_nil]
  exact h
theorem w_CB {r : List V → Hp → VK → Prop} (h : tl σ H fun vs H1 => r vs H1 Q) : tCB r tl σ H Q := h
theorem w_test (h : te σ H fun x H' => ∃ k, x = .bl k ∧ B k H') : tTest te σ H B := h
theorem w_tB (h : te σ H fun x H' => ∃ k, x = .bl k ∧ B k H') : tB te σ H B := h
theorem w_blk {b : Bool} {B : Bool → Prop} (h : B b) : ∃ k, V.bl b = .bl k ∧ B k := ⟨b, rfl, h⟩
theorem w_and (h : c σ H fun b H1 => if b = true then c' σ H1 B else B false H1) : tAnd c c' σ H B := h
theorem w_or (h : c σ H fun b H1 => if b = true then B true H1 else c' σ H1 B) : tOr c c' σ H B := h
theorem w_not (h : c σ H fun b H1 => B (!b) H1) : tNot c σ H B := h
theorem w_andV (h : ta σ H fun x H1 => ∃ c, x = .bl c ∧ if c = true then tb σ H1 Q else Q (.bl false) H1) : tAndV ta tb σ H Q := h
theorem w_orV (h : ta σ H fun x H1 => ∃ c, x = .bl c ∧ if c = true then Q (.bl true) H1 else tb σ H1 Q) : tOrV ta tb σ H Q := h
theorem w_notV (h : ta σ H fun x H1 => ∃ c, x = .bl c ∧ Q (.bl (!c)) H1) : tNotV ta σ H Q := h
theorem w_ifV (h : c σ H fun b H1 => if b = true then ta σ H1 Q else tb σ H1 Q) : tIf c ta tb σ H Q := h
theorem w_chain {r r' : R2} {tc : TE} (h : ta σ H fun x H1 => tb σ H1 fun y H2 => r x y H2 fun z H3 => ∃ k, z = .bl k ∧ (if k = true then tc σ H3 fun w H4 => r' y w H4 Q else Q (.bl false) H3)) : tChain r r' ta tb tc σ H Q := h
theorem w_BM0 {T : String} {r : V → List V → Hp → VK → Prop} (h : te σ H fun x H1 => tyV K T x H1 ∧ r x [] H1 Q) : tBM0 K T r te σ H Q := h
theorem w_BM {T : String} {r : V → List V → Hp → VK → Prop} (h : te σ H fun x H1 => tyV K T x H1 ∧ tl σ H1 fun xs H2 => r x xs H2 Q) : tBM K T r te tl σ H Q := h
theorem w_tyL {a : Addr} {xs : List V} {R : Prop} (h : SqL K H a xs) (q : R) : tyV K "list" (.ref a) H ∧ R := ⟨.inl ⟨rfl, xs, h⟩, q⟩
theorem r_append {a : Addr} {xs : List V} (h : H a = some (.lst xs)) (z : xs.length ≤ 100000) (q : Q .non (upd H a (.lst (xs ++ [v])))) : rAppend (.ref a) [v] H Q := ⟨a, xs, v, rfl, rfl, h, Nat.lt_of_le_of_lt z (by decide), q⟩
theorem r_appendI {a : Addr} {ns : List Int} {i : Int} (h : H a = some (.lst (ns.map V.int))) (z : ns.length ≤ 100000) (q : Q .non (upd H a (.lst ((ns ++ [i]).map V.int)))) : rAppend (.ref a) [.int i] H Q := by
  rw [← map_snoc] at q
  exact r_append h (by rw [List.length_map]; exact z) q
theorem r_catI {a b : Addr} {ns ms : List Int} (h : H a = some (.lst (ns.map V.int))) (h' : H b = some (.lst (ms.map V.int))) (z : ns.length + ms.length ≤ 100000) (q : ∀ p, H p = none → Q (.ref p) (upd H p (.lst ((ns ++ ms).map V.int)))) : rCat (.ref a) (.ref b) H Q := by
  rw [List.map_append] at q
  exact ⟨a, b, _, _, rfl, rfl, h, h', by rw [List.length_map, List.length_map]; exact Nat.le_trans z (by decide), q⟩
theorem r_reverseI {a : Addr} {ns : List Int} (h : H a = some (.lst (ns.map V.int))) (q : Q .non (upd H a (.lst (ns.reverse.map V.int)))) : rReverse (.ref a) [] H Q := by
  rw [List.map_reverse] at q
  exact ⟨a, _, rfl, rfl, h, q⟩
theorem r_reverse {a : Addr} {xs : List V} (h : H a = some (.lst xs)) (q : Q .non (upd H a (.lst xs.reverse))) : rReverse (.ref a) [] H Q := ⟨a, xs, rfl, rfl, h, q⟩
theorem r_clear {a : Addr} {xs : List V} (h : H a = some (.lst xs)) (q : Q .non (upd H a (.lst []))) : rClear (.ref a) [] H Q := ⟨a, xs, rfl, rfl, h, q⟩
theorem r_cat {a b : Addr} {xs ys : List V} (h : H a = some (.lst xs)) (h' : H b = some (.lst ys)) (z : xs.length + ys.length ≤ 100000) (q : ∀ p, H p = none → Q (.ref p) (upd H p (.lst (xs ++ ys)))) : rCat (.ref a) (.ref b) H Q := ⟨a, b, xs, ys, rfl, rfl, h, h', Nat.le_trans z (by decide), q⟩
theorem w_fld {f : Str} (h : te σ H fun x H1 => ∃ a C dx fs v, x = .ref a ∧ H1 a = some (.ins C dx fs) ∧ Cls K C ∧ NoAttr K C f ∧ fs.lookup f = some v ∧ Q v H1) : tFld K te f σ H Q := h
theorem w_for {wi : TI} {g : TG} {tb : TS} (h : wi σ H fun J H1 => forR g tb D σ J H1) : tFor wi g tb D σ H := h
theorem w_rng1 {ta : TA} {R : It → Hp → Prop} (h : ta σ H fun vs H1 => rng1 R vs H1) : iRng1 ta σ H R := h
theorem w_rng2 {ta : TA} {R : It → Hp → Prop} (h : ta σ H fun vs H1 => rng2 R vs H1) : iRng2 ta σ H R := h
theorem w_iList {R : It → Hp → Prop} (h : te σ H fun x H1 => itLst K R x H1) : iList K te σ H R := h
theorem w_iTup {R : It → Hp → Prop} (h : te σ H fun x H1 => itTup K R x H1) : iTup K te σ H R := h
theorem r_rng1 {R : It → Hp → Prop} {n : Int} (h1 : -1000000000 ≤ n) (h2 : n ≤ 1000000000) (h : R (Itr 0 n.toNat) H) : rng1 R [.int n] H := ⟨n, rfl, by omega, by omega, h⟩
theorem r_rng2 {R : It → Hp → Prop} {i n : Int} (h1 : -1000000000 ≤ i ∧ i ≤ 1000000000) (h2 : -1000000000 ≤ n ∧ n ≤ 1000000000) (h : R (Itr i (n - i).toNat) H) : rng2 R [.int i, .int n] H := ⟨i, n, rfl, by omega, h⟩
theorem w_rng3 {ta : TA} {R : It → Hp → Prop} (h : ta σ H fun vs H1 => rng3 R vs H1) : iRng3 ta σ H R := h
theorem r_rng3 {R : It → Hp → Prop} {i j : Int} (h1 : -1000000000 ≤ i ∧ i ≤ 1000000000) (h2 : -1000000000 ≤ j ∧ j ≤ 1000000000) (h : R (Itc i (-1) (i - j).toNat) H) : rng3 R [.int i, .int j, .int (-1)] H := ⟨i, j, -1, _, rfl, RgC.neg (by omega) (by omega) (by omega) (by omega), h⟩
theorem w_truth (h : te σ H fun x H1 => rTru K x H1 B) : tTruth K te σ H B := h
theorem r_truL {a : Addr} {xs : List V} (h : SqL K H a xs) (q : B (!xs.isEmpty) H) : rTru K (.ref a) H B := ⟨_, .inl ⟨xs, h, rfl⟩, q⟩
theorem r_maxL {a : Addr} {ns : List Int} (h : SqL K H a (ns.map V.int)) (h0 : 0 < ns.length) (q : ∀ m, m ∈ ns → (∀ y, y ∈ ns → y ≤ m) → Q (.int m) H) : L2.rMax K [.ref a] H Q := ⟨a, ns, rfl, h, h0, q⟩
theorem r_iList {R : It → Hp → Prop} {a : Addr} {xs : List V} (hs : SqL K H a xs) (h : R (Itl K a) H) : itLst K R (.ref a) H := ⟨a, rfl, ⟨xs, hs⟩, h⟩
theorem r_iTup {R : It → Hp → Prop} {a : Addr} {xs : List V} (hs : SqT K H a xs) (h : R (Itt K a) H) : itTup K R (.ref a) H := ⟨a, rfl, ⟨xs, hs⟩, h⟩
theorem w_lc {wi : TI} {g : TG} {tt : TT} {vs : List Nat} (h : wi σ H fun J H1 => lcR g tt te vs σ Q J H1) : tLc wi g tt te vs σ H Q := h
/-- the loops: Pv by the turn, the slots, the heap -/
theorem f_list {a : Addr} {xs : List V} {g : TG} {tb : TS} (Pv : Nat → L2.St → Hp → Prop) (h0 : Pv 0 σ H) (hl : ∀ i σ H, i ≤ xs.length → Pv i σ H → SqL K H a xs)
    (hs : ∀ i x σ H, xs[i]? = some x → Pv i σ H → g x σ H fun σ2 H2 => tb { D with nx := Pv (i + 1), ct := Pv (i + 1), bk := D.nx } σ2 H2) (hd : ∀ σ H, Pv xs.length σ H → D.nx σ H) : forR g tb D σ (Itl K a) H := for_list Pv h0 hl hs hd
theorem f_tup {a : Addr} {xs : List V} {g : TG} {tb : TS} (Pv : Nat → L2.St → Hp → Prop) (h0 : Pv 0 σ H) (hl : ∀ i σ H, i ≤ xs.length → Pv i σ H → SqT K H a xs)
    (hs : ∀ i x σ H, xs[i]? = some x → Pv i σ H → g x σ H fun σ2 H2 => tb { D with nx := Pv (i + 1), ct := Pv (i + 1), bk := D.nx } σ2 H2) (hd : ∀ σ H, Pv xs.length σ H → D.nx σ H) : forR g tb D σ (Itt K a) H := for_tup Pv h0 hl hs hd
theorem f_range {lo : Int} {n : Nat} {g : TG} {tb : TS} (Pv : Nat → L2.St → Hp → Prop) (h0 : Pv 0 σ H)
    (hs : ∀ i σ H, i < n → Pv i σ H → g (.int (lo + i)) σ H fun σ2 H2 => tb { D with nx := Pv (i + 1), ct := Pv (i + 1), bk := D.nx } σ2 H2) (hd : ∀ σ H, Pv n σ H → D.nx σ H) : forR g tb D σ (Itr lo n) H := for_range Pv h0 hs hd
theorem f_range0 {n : Nat} {g : TG} {tb : TS} (Pv : Nat → L2.St → Hp → Prop) (h0 : Pv 0 σ H)
    (hs : ∀ i σ H, i < n → Pv i σ H → g (.int (i : Int)) σ H fun σ2 H2 => tb { D with nx := Pv (i + 1), ct := Pv (i + 1), bk := D.nx } σ2 H2) (hd : ∀ σ H, Pv n σ H → D.nx σ H) : forR g tb D σ (Itr 0 n) H := f_range Pv h0 (fun i σ H hi hp => by rw [Int.zero_add]; exact hs i σ H hi hp) hd
theorem c_list {a : Addr} {xs : List V} {g : TG} {tt : TT} {vs : List Nat} (Pv : Addr → Nat → Hp → Prop) (h0 : ∀ D, H D = none → Pv D 0 (upd H D (.lst []))) (hl : ∀ D i H', H D = none → i ≤ xs.length → Pv D i H' → SqL K H' a xs)
    (hs : ∀ D i x H', H D = none → xs[i]? = some x → Pv D i H' → g x (wipe σ vs) H' fun σ2 H2 => wipe σ2 vs = wipe σ vs ∧ tt σ2 H2 fun b H3 => lcPut te D (Pv D (i + 1)) σ2 b H3) (hd : ∀ D H', H D = none → Pv D xs.length H' → Q (.ref D) H') : lcR g tt te vs σ Q (Itl K a) H := fun D hD =>
  lc_list (Pv D) (h0 D hD) (fun i H' hi p => hl D i H' hD hi p) (fun i x H' hx p => hs D i x H' hD hx p) (fun H' p => hd D H' hD p)
theorem c_tup {a : Addr} {xs : List V} {g : TG} {tt : TT} {vs : List Nat} (Pv : Addr → Nat → Hp → Prop) (h0 : ∀ D, H D = none → Pv D 0 (upd H D (.lst []))) (hl : ∀ D i H', H D = none → i ≤ xs.length → Pv D i H' → SqT K H' a xs)
    (hs : ∀ D i x H', H D = none → xs[i]? = some x → Pv D i H' → g x (wipe σ vs) H' fun σ2 H2 => wipe σ2 vs = wipe σ vs ∧ tt σ2 H2 fun b H3 => lcPut te D (Pv D (i + 1)) σ2 b H3) (hd : ∀ D H', H D = none → Pv D xs.length H' → Q (.ref D) H') : lcR g tt te vs σ Q (Itt K a) H := fun D hD =>
  lc_tup (Pv D) (h0 D hD) (fun i H' hi p => hl D i H' hD hi p) (fun i x H' hx p => hs D i x H' hD hx p) (fun H' p => hd D H' hD p)
theorem c_range {lo : Int} {n : Nat} {g : TG} {tt : TT} {vs : List Nat} (Pv : Addr → Nat → Hp → Prop) (h0 : ∀ D, H D = none → Pv D 0 (upd H D (.lst [])))
    (hs : ∀ D i H', H D = none → i < n → Pv D i H' → g (.int (lo + i)) (wipe σ vs) H' fun σ2 H2 => wipe σ2 vs = wipe σ vs ∧ tt σ2 H2 fun b H3 => lcPut te D (Pv D (i + 1)) σ2 b H3) (hd : ∀ D H', H D = none → Pv D n H' → Q (.ref D) H') : lcR g tt te vs σ Q (Itr lo n) H := fun D hD =>
  lc_range (Pv D) (h0 D hD) (fun i H' hi p => hs D i H' hD hi p) (fun H' p => hd D H' hD p)
theorem c_range0 {n : Nat} {g : TG} {tt : TT} {vs : List Nat} (Pv : Addr → Nat → Hp → Prop) (h0 : ∀ D, H D = none → Pv D 0 (upd H D (.lst [])))
    (hs : ∀ D i H', H D = none → i < n → Pv D i H' → g (.int (i : Int)) (wipe σ vs) H' fun σ2 H2 => wipe σ2 vs = wipe σ vs ∧ tt σ2 H2 fun b H3 => lcPut te D (Pv D (i + 1)) σ2 b H3) (hd : ∀ D H', H D = none → Pv D n H' → Q (.ref D) H') : lcR g tt te vs σ Q (Itr 0 n) H := c_range Pv h0 (fun D i H' hD hi hp => by rw [Int.zero_add]; exact hs D i H' hD hi hp) hd
theorem w_yes (h : B true H) : tYes σ H B := h
theorem w_put1 {D : Addr} {Nx : Hp → Prop} (h : te σ H fun y H4 => lcAdd D Nx y H4) : lcPut te D Nx σ true H := iteT h
theorem w_put0 {D : Addr} {Nx : Hp → Prop} (h : Nx H) : lcPut te D Nx σ false H := iteF h
theorem w_putB {b : Bool} {D : Addr} {Nx : Hp → Prop} (h1 : b = true → te σ H fun y H4 => lcAdd D Nx y H4) (h2 : b = false → Nx H) : lcPut te D Nx σ b H := by
  cases b with
  | true => exact iteT (h1 rfl)
  | false => exact iteF (h2 rfl)
theorem w_addI {D : Addr} {Nx : Hp → Prop} {ns : List Int} {i : Int} (h : H D = some (.lst (ns.map V.int))) (z : ns.length ≤ 100000) (q : Nx (upd H D (.lst ((ns ++ [i]).map V.int)))) : lcAdd D Nx (.int i) H := ⟨_, h, Nat.lt_of_le_of_lt (by rw [List.length_map]; exact z) (by decide), by rw [map_snoc]; exact q⟩
/-- what a test's yes wants is shown once -/
theorem w_key {c : TT} (S : Hp → Prop) (P : Prop) (key : ∀ H2, S H2 → P → B true H2) (h : ∀ B' : Bool → Hp → Prop, (∀ H2, S H2 → P → B' true H2) → (∀ H2, B false H2 → B' false H2) → c σ H B') : c σ H B := h B key (fun _ h => h)
theorem w_add {D : Addr} {Nx : Hp → Prop} {acc : List V} (h : H D = some (.lst acc)) (z : acc.length ≤ 100000) (q : Nx (upd H D (.lst (acc ++ [v])))) : lcAdd D Nx v H := ⟨acc, h, Nat.lt_of_le_of_lt z (by decide), q⟩
/-- a comprehension of ints over a range, over a list of ints -/
theorem c_rangeI {n j : Nat} {vs : List Nat} (f : Nat → Int) (hz : n ≤ 100000) (hw : ∀ x : V, wipe ((wipe σ vs).set j (some x)) vs = wipe σ vs)
    (hs : ∀ i H' (R : VK), i < n → Same H H' → (∀ H4, Same H' H4 → R (.int (f i)) H4) → te ((wipe σ vs).set j (some (.int (i : Int)))) H' R)
    (hd : ∀ l H', Same H H' → H l = none → H' l = some (.lst (((List.range n).map f).map V.int)) → Q (.ref l) H') : lcR (gName j) tYes te vs σ Q (Itr 0 n) H := by
  refine c_range0 (fun D i H' => Same H H' ∧ H' D = some (.lst (((List.range i).map f).map V.int))) (fun D hD => ⟨same_new hD, upd_same⟩) (fun D i H' hD hi ⟨s, hd⟩ => ?_) (fun D H' hD ⟨s, hd'⟩ => hd D H' s hD hd')
  refine ⟨hw _, w_put1 (hs i H' _ hi s fun H4 s4 => ⟨_, s4 _ _ hd, Nat.lt_of_le_of_lt (show _ ≤ 100000 by rw [List.length_map, List.length_map, List.length_range]; omega) (by decide), (s.trans s4).mut hD, ?_⟩)⟩
  rw [upd_same, List.range_succ, List.map_append, List.map_append]
  rfl
theorem c_listI {a : Addr} {ns : List Int} {j : Nat} {vs : List Nat} (f : Int → Int) (hS : SqL K H a (ns.map V.int)) (hz : ns.length ≤ 100000) (hw : ∀ x : V, wipe ((wipe σ vs).set j (some x)) vs = wipe σ vs)
    (hs : ∀ x H' (R : VK), x ∈ ns → Same H H' → (∀ H4, Same H' H4 → R (.int (f x)) H4) → te ((wipe σ vs).set j (some (.int x))) H' R)
    (hd : ∀ l H', Same H H' → H l = none → H' l = some (.lst ((ns.map f).map V.int)) → Q (.ref l) H') : lcR (gName j) tYes te vs σ Q (Itl K a) H := by
  refine c_list (xs := ns.map V.int) (fun D i H' => Same H H' ∧ H' D = some (.lst (((ns.take i).map f).map V.int))) (fun D hD => ⟨same_new hD, upd_same⟩) (fun D i H' hD hi ⟨s, _⟩ => s.seq hS) (fun D i x H' hD hx ⟨s, hd⟩ => ?_) (fun D H' hD ⟨s, hd'⟩ => ?_)
  · obtain ⟨y, hy, rfl⟩ := map_get hx
    refine ⟨hw _, w_put1 (hs y H' _ (List.mem_of_getElem? hy) s fun H4 s4 => ⟨_, s4 _ _ hd, Nat.lt_of_le_of_lt (show _ ≤ 100000 by rw [List.length_map, List.length_map, List.length_take]; omega) (by decide), (s.trans s4).mut hD, ?_⟩)⟩
    rw [upd_same, List.take_add_one, hy, List.map_append, List.map_append]
    rfl
  · rw [List.length_map, List.take_length] at hd'
    exact hd D H' s hD hd'
theorem tYes_true {A C : Hp → Prop} (h : A H) : tYes σ H (fun b H3 => if b = true then A H3 else C H3) := by
  show (if true = true then A H else C H)
  exact iteT h
theorem c_rangeCI {lo c : Int} {n j : Nat} {vs : List Nat} (f : Nat → Int) (hz : n ≤ 100000) (hw : ∀ x : V, wipe ((wipe σ vs).set j (some x)) vs = wipe σ vs)
    (hs : ∀ i H' (R : VK), i < n → Same H H' → (∀ H4, Same H' H4 → R (.int (f i)) H4) → te ((wipe σ vs).set j (some (.int (lo + (i : Nat) * c)))) H' R)
    (hd : ∀ l H', Same H H' → H l = none → H' l = some (.lst (((List.range n).map f).map V.int)) → Q (.ref l) H') : lcR (gName j) tYes te vs σ Q (Itc lo c n) H := by
  intro D hD
  refine lc_it walk_rangeC (fun i H' => Same H H' ∧ H' D = some (.lst (((List.range i).map f).map V.int))) ⟨same_new hD, upd_same⟩ (fun _ _ _ _ => trivial) ?_ (fun H' ⟨s, hd'⟩ => hd D H' s hD hd')
  rintro i x H1 H2 hi ⟨s, hd⟩ ⟨rfl, rfl⟩
  refine ⟨hw _, tYes_true ?_⟩
  refine (hs i H2 _ hi s fun H4 s4 => ⟨_, s4 _ _ hd, Nat.lt_of_le_of_lt (show _ ≤ 100000 by rw [List.length_map, List.length_map, List.length_range]; omega) (by decide), (s.trans s4).mut hD, ?_⟩)
  rw [upd_same, List.range_succ, List.map_append, List.map_append]
  rfl
/-- ints out of a list of anything -/
theorem c_listVI {a : Addr} {xs : List V} {j : Nat} {vs : List Nat} (f : Nat → Int) (hS : SqL K H a xs) (hz : xs.length ≤ 100000) (hw : ∀ x : V, wipe ((wipe σ vs).set j (some x)) vs = wipe σ vs)
    (hs : ∀ i x H' (R : VK), xs[i]? = some x → Same H H' → (∀ H4, Same H' H4 → R (.int (f i)) H4) → te ((wipe σ vs).set j (some x)) H' R)
    (hd : ∀ l H', Same H H' → H l = none → H' l = some (.lst (((List.range xs.length).map f).map V.int)) → Q (.ref l) H') : lcR (gName j) tYes te vs σ Q (Itl K a) H := by
  refine c_list (xs := xs) (fun D i H' => i ≤ xs.length ∧ Same H H' ∧ H' D = some (.lst (((List.range i).map f).map V.int))) (fun D hD => ⟨Nat.zero_le _, same_new hD, upd_same⟩) (fun D i H' hD hi ⟨_, s, _⟩ => s.seq hS) (fun D i x H' hD hx ⟨hi, s, hd⟩ => ?_) (fun D H' hD ⟨_, s, hd'⟩ => hd D H' s hD hd')
  have hl := (List.getElem?_eq_some_iff.mp hx).1
  refine ⟨hw _, w_put1 (hs i x H' _ hx s fun H4 s4 => ⟨_, s4 _ _ hd, Nat.lt_of_le_of_lt (show _ ≤ 100000 by rw [List.length_map, List.length_map, List.length_range]; omega) (by decide), hl, (s.trans s4).mut hD, ?_⟩)⟩
  rw [upd_same, List.range_succ, List.map_append, List.map_append]
  rfl
theorem w_while {tb : TS} (W : Nat → L2.St → Hp → Prop) (m : Nat) (w0 : W m σ H) (hs : ∀ m σ H, W m σ H → c σ H fun b H1 => whR tb D W m σ b H1) : tWhile c tb D σ H := ⟨W, ⟨m, w0⟩, hs⟩
theorem w_whR {tb : TS} {W : Nat → L2.St → Hp → Prop} {m : Nat} {b : Bool} (h1 : b = true → tb { D with nx := fun σ' H' => ∃ m', m' < m ∧ W m' σ' H', ct := fun σ' H' => ∃ m', m' < m ∧ W m' σ' H', bk := D.nx } σ H) (h2 : b = false → D.nx σ H) : whR tb D W m σ b H := by
  cases b with
  | true => exact iteT ⟨_, fun _ _ h => h, h1 rfl⟩
  | false => exact iteF (h2 rfl)
theorem w_sl {r : V → Option Int → Option Int → Hp → VK → Prop} {lo hi : TO} (h : te σ H fun x H1 => lo σ H1 fun l H2 => hi σ H2 fun u H3 => r x l u H3 Q) : tSl r te lo hi σ H Q := h
theorem w_noPart {R : Option Int → Hp → Prop} (h : R none H) : tNoPart σ H R := h
theorem w_part {R : Option Int → Hp → Prop} (h : te σ H fun x H1 => ∃ i, x = .int i ∧ R (some i) H1) : tPart te σ H R := h
theorem w_partI {R : Int → Prop} {i : Int} (h : R i) : ∃ j, V.int i = .int j ∧ R j := ⟨i, rfl, h⟩
theorem ite_nt {A B : Prop} (h : B) : if (!true) = true then A else B := h
theorem ite_nf {A B : Prop} (h : A) : if (!false) = true then A else B := h
theorem ite_d {c A B : Prop} [Decidable c] (h1 : c → A) (h2 : ¬ c → B) : if decide c = true then A else B := by
  by_cases h : c
  · rw [if_pos (decide_eq_true h)]
    exact h1 h
  · rw [if_neg (by simpa using h)]
    exact h2 h
theorem ite_nd {c A B : Prop} [Decidable c] (h1 : ¬ c → A) (h2 : c → B) : if (!decide c) = true then A else B := by
  by_cases h : c
  · rw [if_neg (by simpa using h)]
    exact h2 h
  · rw [if_pos (by simpa using h)]
    exact h1 h
theorem ite_dT {c A B : Prop} [Decidable c] (hc : c) (h : A) : if decide c = true then A else B := by
  rw [if_pos (decide_eq_true hc)]
  exact h
theorem ite_dF {c A B : Prop} [Decidable c] (hc : ¬ c) (h : B) : if decide c = true then A else B := by
  rw [if_neg (by simpa using hc)]
  exact h
theorem ite_ndF {c A B : Prop} [Decidable c] (hc : ¬ c) (h : A) : if (!decide c) = true then A else B := by
  rw [if_pos (by simpa using hc)]
  exact h
theorem r_ixTn {p : Addr} {ns : List Int} {i : Int} (h : SqT K H p (ns.map V.int)) (h0 : 0 ≤ i) (h1 : i < ns.length) (q : Q (.int (ns.getD i.toNat 0)) H) : rIxT K (.ref p) (.int i) H Q := by
  have hl : i.toNat < ns.length := by omega
  refine ⟨p, _, i, _, rfl, rfl, h, at_of (j := i.toNat) (v := .int (ns.getD i.toNat 0)) (by omega) ?_, q⟩
  rw [List.getElem?_map, List.getElem?_eq_getElem hl, List.getD_eq_getElem?_getD, List.getElem?_eq_getElem hl]
  rfl
theorem r_ixLn {p : Addr} {ns : List Int} {i : Int} (h : SqL K H p (ns.map V.int)) (h0 : 0 ≤ i) (h1 : i < ns.length) (q : Q (.int (ns.getD i.toNat 0)) H) : rIxL K (.ref p) (.int i) H Q := by
  have hl : i.toNat < ns.length := by omega
  refine ⟨p, _, i, _, rfl, rfl, h, at_of (j := i.toNat) (v := .int (ns.getD i.toNat 0)) (by omega) ?_, q⟩
  rw [List.getElem?_map, List.getElem?_eq_getElem hl, List.getD_eq_getElem?_getD, List.getElem?_eq_getElem hl]
  rfl
theorem r_ixLP {p : Addr} {vs : List V} {ps : List (Int × Int)} {i : Int} (h : SqL K H p vs) (g : Pls K H vs ps) (h0 : 0 ≤ i) (h1 : i < ps.length) (q : ∀ v, Pl K H v (ps.getD i.toNat (0, 0)) → Q v H) : rIxL K (.ref p) (.int i) H Q := by
  have hl : i.toNat < ps.length := by omega
  obtain ⟨v, hv, hp⟩ := pr_get' g (show ps[i.toNat]? = some (ps.getD i.toNat (0, 0)) by rw [List.getD_eq_getElem?_getD, List.getElem?_eq_getElem hl]; rfl)
  exact ⟨p, vs, i, v, rfl, rfl, h, at_of (j := i.toNat) (by omega) hv, q v hp⟩
theorem ite_eqT {b : Bool} {A B : Prop} (hb : b = true) (h : A) : if b = true then A else B := by
  rw [if_pos hb]
  exact h
theorem ite_eqF {b : Bool} {A B : Prop} (hb : b = false) (h : B) : if b = true then A else B := by
  rw [hb]
  exact iteF h
theorem ite_neT {b : Bool} {A B : Prop} (hb : b = true) (h : B) : if (!b) = true then A else B := by
  rw [hb]
  exact h
theorem ite_neF {b : Bool} {A B : Prop} (hb : b = false) (h : A) : if (!b) = true then A else B := by
  rw [hb]
  exact h
theorem r_ixLm {p : Addr} {ns : List Int} {k : Nat} (h : SqL K H p (ns.map V.int)) (h0 : 1 ≤ k) (h1 : k ≤ ns.length) (q : Q (.int (ns.getD (ns.length - k) 0)) H) : rIxL K (.ref p) (.int (-(k : Int))) H Q := by
  have hl : ns.length - k < ns.length := by omega
  refine ⟨p, _, _, .int (ns.getD (ns.length - k) 0), rfl, rfl, h, ?_, q⟩
  unfold atI ixN
  rw [List.length_map, if_neg (by omega), if_pos (by omega), show (-(k : Int) + (ns.length : Int)).toNat = ns.length - k by omega]
  show (ns.map V.int)[ns.length - k]? = _
  rw [List.getElem?_map, List.getElem?_eq_getElem hl, List.getD_eq_getElem?_getD, List.getElem?_eq_getElem hl]
  rfl
theorem ite_b {b : Bool} {A B : Prop} (h1 : b = true → A) (h2 : b = false → B) : if b = true then A else B := by
  cases b with
  | true => exact iteT (h1 rfl)
  | false => exact iteF (h2 rfl)
theorem ite_nb {b : Bool} {A B : Prop} (h1 : b = false → A) (h2 : b = true → B) : if (!b) = true then A else B := by
  cases b with
  | true => exact h2 rfl
  | false => exact h1 rfl
theorem r_slL {a : Addr} {xs : List V} {lo hi : Option Int} (h : SqL K H a xs) (q : ∀ p, H p = none → Q (.ref p) (upd H p (.lst (cutV xs lo hi)))) : rSlL K (.ref a) lo hi H Q := ⟨a, xs, rfl, h, q⟩
theorem fin_of {b : Bool} (q : Q (.bl true) H) (hb : b = true) : Q (.bl b) H := by
  rw [hb]
  exact q
/-! on values -/
theorem r_I0 {g : Int → Int → V} {i j : Int} (q : Q (g i j) H) : rI0 g (.int i) (.int j) H Q := ⟨i, j, rfl, rfl, q⟩
theorem r_I {C : Int → Int → Prop} {g : Int → Int → V} {i j : Int} (hc : C i j) (q : Q (g i j) H) : rI C g (.int i) (.int j) H Q := ⟨i, j, rfl, rfl, hc, q⟩
theorem r_U {g : Int → V} {i : Int} (q : Q (g i) H) : rU g (.int i) H Q := ⟨i, rfl, q⟩
theorem r_eqI {i j : Int} (q : Q (.bl (decide (i = j))) H) : rEq (.int i) (.int j) H Q := ⟨rfl, by
  have e : decide (V.int i = V.int j) = decide (i = j) := by by_cases h : i = j <;> simp [h]
  rw [e]; exact q⟩
theorem r_neI {i j : Int} (q : Q (.bl (!decide (i = j))) H) : rNe (.int i) (.int j) H Q := ⟨rfl, by
  have e : decide (V.int i = V.int j) = decide (i = j) := by by_cases h : i = j <;> simp [h]
  rw [e]; exact q⟩
theorem r_eqB {i j : Bool} (q : Q (.bl (decide (i = j))) H) : rEq (.bl i) (.bl j) H Q := ⟨rfl, by
  have e : decide (V.bl i = V.bl j) = decide (i = j) := by by_cases h : i = j <;> simp [h]
  rw [e]; exact q⟩
theorem r_neB {i j : Bool} (q : Q (.bl (!decide (i = j))) H) : rNe (.bl i) (.bl j) H Q := ⟨rfl, by
  have e : decide (V.bl i = V.bl j) = decide (i = j) := by by_cases h : i = j <;> simp [h]
  rw [e]; exact q⟩
theorem r_ixT {p : Addr} {xs : List V} {i : Int} (h : SqT K H p xs) (ha : atI xs i = some v) (q : Q v H) : rIxT K (.ref p) (.int i) H Q := ⟨p, xs, i, v, rfl, rfl, h, ha, q⟩
theorem r_ixL {p : Addr} {xs : List V} {i : Int} (h : SqL K H p xs) (ha : atI xs i = some v) (q : Q v H) : rIxL K (.ref p) (.int i) H Q := ⟨p, xs, i, v, rfl, rfl, h, ha, q⟩
theorem r_ixP0 {p : Int × Int} (h : Pl K H v p) (q : Q (.int p.1) H) : rIxT K v (.int 0) H Q := by
  obtain ⟨a, rfl, h⟩ := h
  exact r_ixT h rfl q
theorem r_ixP1 {p : Int × Int} (h : Pl K H v p) (q : Q (.int p.2) H) : rIxT K v (.int 1) H Q := by
  obtain ⟨a, rfl, h⟩ := h
  exact r_ixT h rfl q
/-! dicts with tuple keys -/
theorem w_dIn {td ty : TE} (h : ty σ H fun y H1 => td σ H1 fun x H2 => rDIn false x y H2 Q) : tDIn ty td σ H Q := h
theorem w_dNotIn {td ty : TE} (h : ty σ H fun y H1 => td σ H1 fun x H2 => rDIn true x y H2 Q) : tDNotIn ty td σ H Q := h
theorem w_dPut {td ty tv : TE} (h : tv σ H fun v H1 => td σ H1 fun x H2 => ty σ H2 fun y H3 => rDPut x y v H3 fun H4 => D.nx σ H4) : sDPut td ty tv D σ H := h
theorem w_dGet {td ty : TE} (h : td σ H fun x H1 => ty σ H1 fun y H2 => rDGet x y H2 Q) : tDGet td ty σ H Q := h
theorem w_dNewT (h : ∀ p, H p = none → Q (.ref p) (upd H p (.dT []))) : tDNewT σ H Q := h
theorem r_dInP {a : Addr} {kvs : List (List Key × V)} {p : Int × Int} (h : H a = some (.dT kvs)) (g : Tp H v p) (q : Q (.bl (valV kvs (keyOf p)).isSome) H) : rDIn false (.ref a) v H Q := by
  obtain ⟨b, rfl, g⟩ := g
  exact ⟨a, _, rfl, DGet.t (k := keyOf p) h g, q⟩
theorem r_dNotInP {a : Addr} {kvs : List (List Key × V)} {p : Int × Int} (h : H a = some (.dT kvs)) (g : Tp H v p) (q : Q (.bl (!(valV kvs (keyOf p)).isSome)) H) : rDIn true (.ref a) v H Q := by
  obtain ⟨b, rfl, g⟩ := g
  exact ⟨a, _, rfl, DGet.t (k := keyOf p) h g, q⟩
theorem r_dPutP {a : Addr} {kvs : List (List Key × V)} {p : Int × Int} {R : Hp → Prop} (h : H a = some (.dT kvs)) (g : Tp H v p) (z : kvs.length ≤ 100000) (q : R (upd H a (.dT (putK kvs (keyOf p) x)))) : rDPut (.ref a) v x H R := by
  obtain ⟨b, rfl, g⟩ := g
  exact ⟨a, _, rfl, DPut.t (k := keyOf p) h g (Nat.lt_of_le_of_lt z (by decide)), q⟩
theorem r_dGetP {a : Addr} {kvs : List (List Key × V)} {p : Int × Int} (h : H a = some (.dT kvs)) (g : Tp H v p) (e : valV kvs (keyOf p) = some x) (q : Q x H) : rDGet (.ref a) v H Q := by
  obtain ⟨b, rfl, g⟩ := g
  exact ⟨a, x, rfl, by rw [← e]; exact DGet.t (k := keyOf p) h g, q⟩
/-! isinstance -/
theorem tyx_tup {a : Addr} {xs : List V} (h : SqT K H a xs) : TyX K H (.ref a) (.type "tuple") := by
  rcases h with (h | ⟨o, h⟩) | ⟨o, its, n, h, c, _⟩
  · exact .base (.tup h)
  · exact .fTuple h
  · exact .kTuple h c
theorem tyx_lst {a : Addr} {xs : List V} (h : SqL K H a xs) : TyX K H (.ref a) (.type "list") := by
  rcases h with (h | ⟨o, h⟩) | ⟨o, its, n, h, c, _⟩
  · exact .base (.lst h)
  · exact .base (.frz h)
  · exact .kList h c
theorem r_isi {n m : String} (ty : TyX K H x (.type n)) (e : kitB n m = some b) (q : Q (.bl b) H) : rIsi K [x, .ty m] H Q := ⟨x, .ty m, .type n, .type m, b, rfl, .ty m, ty, kit_ty e, q⟩
theorem r_isiInt {i : Int} {m : String} (e : kitB "int" m = some b) (q : Q (.bl b) H) : rIsi K [.int i, .ty m] H Q := r_isi (.base (.int i)) e q
theorem r_isiPl {p : Int × Int} {m : String} (h : Pl K H v p) (e : kitB "tuple" m = some b) (q : Q (.bl b) H) : rIsi K [v, .ty m] H Q := by
  obtain ⟨a, rfl, h⟩ := h
  exact r_isi (tyx_tup h) e q
theorem r_isiL {a : Addr} {xs : List V} {m : String} (h : SqL K H a xs) (e : kitB "list" m = some b) (q : Q (.bl b) H) : rIsi K [.ref a, .ty m] H Q := r_isi (tyx_lst h) e q
/-! len, max, min, abs, int -/
theorem r_lenL {p : Addr} {ys : List V} (h : SqL K H p ys) (q : Q (.int (ys.length : Nat)) H) : rLen K [.ref p] H Q := ⟨p, ys, rfl, .inl h, q⟩
theorem r_lenT {p : Addr} {ys : List V} (h : SqT K H p ys) (q : Q (.int (ys.length : Nat)) H) : rLen K [.ref p] H Q := ⟨p, ys, rfl, .inr h, q⟩
theorem r_lenPl {p : Int × Int} (h : Pl K H v p) (q : Q (.int 2) H) : rLen K [v] H Q := by
  obtain ⟨a, rfl, h⟩ := h
  exact ⟨a, _, rfl, .inr h, q⟩
theorem r_listL {p : Addr} {ys : List V} (h : SqL K H p ys) (q : ∀ l, H l = none → Q (.ref l) (upd H l (.lst ys))) : rList K [.ref p] H Q := ⟨p, ys, rfl, .inl h, q⟩
theorem r_listT {p : Addr} {ys : List V} (h : SqT K H p ys) (q : ∀ l, H l = none → Q (.ref l) (upd H l (.lst ys))) : rList K [.ref p] H Q := ⟨p, ys, rfl, .inr h, q⟩
theorem r_tupL {p : Addr} {ys : List V} (h : SqL K H p ys) (q : ∀ l, H l = none → Q (.ref l) (upd H l (.tup ys))) : rTuple K [.ref p] H Q := ⟨p, ys, rfl, .inl ⟨h, q⟩⟩
theorem r_tupPl {p : Int × Int} (h : Pl K H v p) (q : Q v H) : rTuple K [v] H Q := by
  obtain ⟨a, rfl, h⟩ := h
  exact ⟨a, _, rfl, .inr ⟨h, q⟩⟩
theorem r_tupT {p : Addr} {ys : List V} (h : SqT K H p ys) (q : Q (.ref p) H) : rTuple K [.ref p] H Q := ⟨p, ys, rfl, .inr ⟨h, q⟩⟩
theorem r_max2 {i j : Int} (q : Q (.int (max i j)) H) : rMax2 [.int i, .int j] H Q := ⟨i, j, rfl, by
  have e : (if j > i then j else i) = max i j := by rw [Int.max_def]; split <;> split <;> omega
  rw [e]; exact q⟩
theorem r_min2 {i j : Int} (q : Q (.int (min i j)) H) : rMin2 [.int i, .int j] H Q := ⟨i, j, rfl, by
  have e : (if j < i then j else i) = min i j := by rw [Int.min_def]; split <;> split <;> omega
  rw [e]; exact q⟩
theorem r_max3 {i j k : Int} (q : Q (.int (max (max i j) k)) H) : rMax3 [.int i, .int j, .int k] H Q := ⟨i, j, k, rfl, q⟩
theorem r_abs {i : Int} (q : Q (.int (i.natAbs : Int)) H) : rAbs [.int i] H Q := ⟨i, rfl, by
  have e : (if i < 0 then -i else i) = (i.natAbs : Int) := by split <;> omega
  rw [e]; exact q⟩
theorem r_intI {i : Int} (q : Q (.int i) H) : rInt1 [.int i] H Q := .inl ⟨i, rfl, q⟩
theorem r_intB {b : Bool} (q : Q (.int (if b then 1 else 0)) H) : rInt1 [.bl b] H Q := .inr ⟨b, rfl, q⟩
theorem kit_ii : kitB "int" "int" = some true := by decide +kernel
theorem kit_ib : kitB "int" "bool" = some false := by decide +kernel
theorem kit_bb : kitB "bool" "bool" = some true := by decide +kernel
theorem kit_bi : kitB "bool" "int" = some true := by decide +kernel
theorem kit_tt : kitB "tuple" "tuple" = some true := by decide +kernel
theorem kit_ll : kitB "list" "list" = some true := by decide +kernel
theorem kit_dd : kitB "dict" "dict" = some true := by decide +kernel
/-! equality of data -/
theorem dp_pl {p : Int × Int} (h : Pl K H v p) : Dp K H v (.tuple [.int p.1, .int p.2]) := by
  obtain ⟨a, rfl, h⟩ := h
  exact .tup h (.cons (.int _) (.cons (.int _) .nil))
theorem canLay_ints : ∀ ns : List Int, PyData.canLayAll0 (ns.map PyData.int) = true
  | [] => rfl
  | n :: r => by
    show (true && PyData.canLayAll0 (r.map PyData.int)) = true
    rw [canLay_ints r]
    rfl
theorem depth_ints : ∀ ns : List Int, PyData.depthAll (ns.map PyData.int) = 0
  | [] => rfl
  | n :: r => by
    show max 0 (PyData.depthAll (r.map PyData.int)) = 0
    rw [depth_ints r]
    rfl
theorem shaped_ints (ns : List Int) : SeqAt.shaped (.list (ns.map PyData.int)) = true := by
  have h1 : PyData.canLay0 (.list (ns.map PyData.int)) = true := by rw [PyData.canLay0]; exact canLay_ints ns
  have h2 : PyData.depth (.list (ns.map PyData.int)) = 1 := by rw [PyData.depth, depth_ints]
  unfold SeqAt.shaped
  rw [h1, h2]
  rfl
theorem r_rep1 {a : Addr} {i : Int} {k : Int} (h : H a = some (.lst ([i].map V.int))) (h0 : 0 ≤ k) (h1 : k ≤ 1000) (q : ∀ p, H p = none → Q (.ref p) (upd H p (.lst ((List.replicate k.toNat i).map V.int)))) : rRep (.ref a) (.int k) H Q := by
  refine ⟨a, k, _, rfl, rfl, h, by omega, by omega, ?_, fun p hp => ?_⟩
  · show 1 * k.toNat ≤ _
    exact Nat.le_trans (show 1 * k.toNat ≤ 1000 by omega) (by decide)
  · have e : ∀ n : Nat, (List.replicate n [V.int i]).flatten = (List.replicate n i).map V.int := fun n => by
      induction n with
      | zero => rfl
      | succ n ih =>
        rw [List.replicate_succ, List.replicate_succ, List.flatten_cons, ih]
        rfl
    rw [show [i].map V.int = [V.int i] from rfl, e]
    exact q p hp
theorem dpAll_ints : ∀ ns : List Int, DpAll K H (ns.map V.int) (ns.map PyData.int)
  | [] => .nil
  | n :: r => .cons (.int n) (dpAll_ints r)
theorem dp_ints {a : Addr} {ns : List Int} (h : SqL K H a (ns.map V.int)) : Dp K H (.ref a) (.list (ns.map PyData.int)) := .lst h (dpAll_ints ns)
theorem eqv_ints : ∀ ns ms : List Int, PyData.eqvAll (ns.map PyData.int) (ms.map PyData.int) = decide (ns = ms)
  | [], [] => rfl
  | [], _ :: _ => rfl
  | _ :: _, [] => rfl
  | n :: r, m :: q => by
    show ((n == m) && PyData.eqvAll (r.map PyData.int) (q.map PyData.int)) = _
    rw [eqv_ints r q]
    by_cases h1 : n = m <;> by_cases h2 : r = q <;> simp [h1, h2]
theorem eqv_intL (ns ms : List Int) : PyData.eqv (.list (ns.map PyData.int)) (.list (ms.map PyData.int)) = decide (ns = ms) := by
  rw [PyData.eqv]
  exact eqv_ints ns ms
theorem r_eqIL {a b : Addr} {ns ms : List Int} (h1 : SqL K H a (ns.map V.int)) (h2 : SqL K H b (ms.map V.int)) (k : Q (.bl (decide (ns = ms))) H) : rEqD K (.ref a) (.ref b) H Q := ⟨_, _, dp_ints h1, dp_ints h2, shaped_ints ns, shaped_ints ms, by rw [eqv_intL]; exact k⟩
theorem r_neIL {a b : Addr} {ns ms : List Int} (h1 : SqL K H a (ns.map V.int)) (h2 : SqL K H b (ms.map V.int)) (k : Q (.bl (!decide (ns = ms))) H) : rNeD K (.ref a) (.ref b) H Q := ⟨_, _, dp_ints h1, dp_ints h2, shaped_ints ns, shaped_ints ms, by rw [eqv_intL]; exact k⟩
theorem r_rep {a : Addr} {xs : List V} {k : Int} (h : H a = some (.lst xs)) (h0 : 0 ≤ k) (h1 : k ≤ 1000) (z : xs.length ≤ 10) (q : ∀ p, H p = none → Q (.ref p) (upd H p (.lst (List.replicate k.toNat xs).flatten))) : rRep (.ref a) (.int k) H Q := by
  refine ⟨a, k, xs, rfl, rfl, h, by omega, by omega, ?_, ?_⟩
  · have : xs.length * k.toNat ≤ 10 * 1000 := Nat.mul_le_mul z (by omega)
    exact Nat.le_trans this (by decide)
  · exact q
theorem r_eqPl {p q : Int × Int} (h1 : Pl K H x p) (h2 : Pl K H y q) (k : Q (.bl (decide (p = q))) H) : rEqD K x y H Q := ⟨_, _, dp_pl h1, dp_pl h2, rfl, rfl, by
  have e : PyData.eqv (.tuple [.int p.1, .int p.2]) (.tuple [.int q.1, .int q.2]) = decide (p = q) := by
    obtain ⟨p1, p2⟩ := p
    obtain ⟨q1, q2⟩ := q
    simp only [PyData.eqv, PyData.eqvAll, Prod.mk.injEq]
    by_cases h1 : p1 = q1 <;> by_cases h2 : p2 = q2 <;> simp [h1, h2]
  rw [e]; exact k⟩
theorem r_nePl {p q : Int × Int} (h1 : Pl K H x p) (h2 : Pl K H y q) (k : Q (.bl (!decide (p = q))) H) : rNeD K x y H Q := ⟨_, _, dp_pl h1, dp_pl h2, rfl, rfl, by
  have e : PyData.eqv (.tuple [.int p.1, .int p.2]) (.tuple [.int q.1, .int q.2]) = decide (p = q) := by
    obtain ⟨p1, p2⟩ := p
    obtain ⟨q1, q2⟩ := q
    simp only [PyData.eqv, PyData.eqvAll, Prod.mk.injEq]
    by_cases h1 : p1 = q1 <;> by_cases h2 : p2 = q2 <;> simp [h1, h2]
  rw [e]; exact k⟩
end
end Hx

/-! # places, steps, sevens: plain laws -/
namespace Hx
def turn1 (p : Int × Int) : Int × Int := (-p.2, p.1 + p.2)
def turnN : Nat → Int × Int → Int × Int
  | 0, p => p
  | n + 1, p => turn1 (turnN n p)
def numBy (c : Int) : Int := if c % 4 = 1 then c / 4 % (2 * 10 ^ (39 : Int).toNat - 1) - 10 ^ (39 : Int).toNat + 1 else c / 4 % 61 - 30
def cellAt (ns : List Int) (k : Int) : Int := if k < (ns.length : Int) then (ns.getD k.toNat 0) else 0
def stepOf (d : Int) : Int × Int := steps.getD (d - 1).toNat (0, 0)
def restPlace (f : Int) : Int × Int := if f = 0 then (0, 0) else stepOf f
def restOf (p : Int × Int) : Int := figs.getD ((p.1 + 5 * p.2) % 7).toNat 0
def greatOf (p : Int × Int) : Int × Int := (2 * p.1 - p.2, p.1 + 3 * p.2)
def centreOf (p : Int × Int) : Int × Int :=
  ((3 * (p.1 - (restPlace (restOf p)).1) + (p.2 - (restPlace (restOf p)).2)) / 7, (2 * (p.2 - (restPlace (restOf p)).2) - (p.1 - (restPlace (restOf p)).1)) / 7)
theorem fig_cases {f : Int} (h0 : 0 ≤ f) (h1 : f ≤ 6) : f = 0 ∨ f = 1 ∨ f = 2 ∨ f = 3 ∨ f = 4 ∨ f = 5 ∨ f = 6 := by omega
theorem rest_cases (p : Int × Int) : ((p.1 + 5 * p.2) % 7 = 0 ∧ restOf p = 0 ∧ restPlace (restOf p) = (0, 0)) ∨ ((p.1 + 5 * p.2) % 7 = 1 ∧ restOf p = 1 ∧ restPlace (restOf p) = (1, 0)) ∨
    ((p.1 + 5 * p.2) % 7 = 2 ∧ restOf p = 5 ∧ restPlace (restOf p) = (0, -1)) ∨ ((p.1 + 5 * p.2) % 7 = 3 ∧ restOf p = 6 ∧ restPlace (restOf p) = (1, -1)) ∨ ((p.1 + 5 * p.2) % 7 = 4 ∧ restOf p = 3 ∧ restPlace (restOf p) = (-1, 1)) ∨
    ((p.1 + 5 * p.2) % 7 = 5 ∧ restOf p = 2 ∧ restPlace (restOf p) = (0, 1)) ∨ ((p.1 + 5 * p.2) % 7 = 6 ∧ restOf p = 4 ∧ restPlace (restOf p) = (-1, 0)) := by
  have h : ∀ m : Int, 0 ≤ m → m < 7 → (m = 0 ∧ figs.getD m.toNat 0 = 0 ∧ restPlace (figs.getD m.toNat 0) = (0, 0)) ∨ (m = 1 ∧ figs.getD m.toNat 0 = 1 ∧ restPlace (figs.getD m.toNat 0) = (1, 0)) ∨
    (m = 2 ∧ figs.getD m.toNat 0 = 5 ∧ restPlace (figs.getD m.toNat 0) = (0, -1)) ∨ (m = 3 ∧ figs.getD m.toNat 0 = 6 ∧ restPlace (figs.getD m.toNat 0) = (1, -1)) ∨ (m = 4 ∧ figs.getD m.toNat 0 = 3 ∧ restPlace (figs.getD m.toNat 0) = (-1, 1)) ∨
    (m = 5 ∧ figs.getD m.toNat 0 = 2 ∧ restPlace (figs.getD m.toNat 0) = (0, 1)) ∨ (m = 6 ∧ figs.getD m.toNat 0 = 4 ∧ restPlace (figs.getD m.toNat 0) = (-1, 0)) := by
    intro m h0 h1
    obtain rfl | rfl | rfl | rfl | rfl | rfl | rfl := fig_cases (f := m) h0 (by omega) <;> simp [figs, restPlace, stepOf, steps]
  exact h _ (by omega) (by omega)
theorem rest_range (p : Int × Int) : 0 ≤ restOf p ∧ restOf p ≤ 6 := by
  rcases rest_cases p with h | h | h | h | h | h | h <;> omega
theorem great_centre (p : Int × Int) : greatOf (centreOf p) = (p.1 - (restPlace (restOf p)).1, p.2 - (restPlace (restOf p)).2) := by
  unfold greatOf centreOf
  rcases rest_cases p with ⟨h, _, e⟩ | ⟨h, _, e⟩ | ⟨h, _, e⟩ | ⟨h, _, e⟩ | ⟨h, _, e⟩ | ⟨h, _, e⟩ | ⟨h, _, e⟩ <;> rw [e] <;> simp only [Prod.mk.injEq] <;> omega
/-- q, r is a great step -/
def isGreat (q r : Int) : Bool := decide ((3 * q + r) % 7 = 0) && decide ((2 * r - q) % 7 = 0)
theorem isGreat_rest (p : Int × Int) {f : Int} (h0 : 0 ≤ f) (h1 : f ≤ 6) : isGreat (p.1 - (restPlace f).1) (p.2 - (restPlace f).2) = decide (f = restOf p) := by
  have h : ∀ b : Bool, (b = true ↔ f = restOf p) → b = decide (f = restOf p) := fun b hb => by
    cases b with
    | true => exact (decide_eq_true (hb.mp rfl)).symm
    | false => exact (decide_eq_false fun z => Bool.noConfusion (hb.mpr z)).symm
  refine h _ ?_
  unfold isGreat
  rw [Bool.and_eq_true, decide_eq_true_eq, decide_eq_true_eq]
  obtain ⟨r, hr⟩ : ∃ r, r = restOf p := ⟨_, rfl⟩
  rw [← hr]
  obtain rfl | rfl | rfl | rfl | rfl | rfl | rfl := fig_cases h0 h1 <;> simp only [restPlace, stepOf, steps] <;> rcases rest_cases p with ⟨h, e, _⟩ | ⟨h, e, _⟩ | ⟨h, e, _⟩ | ⟨h, e, _⟩ | ⟨h, e, _⟩ | ⟨h, e, _⟩ | ⟨h, e, _⟩ <;> rw [e] at hr <;> subst hr <;> simp <;> omega
end Hx

/-! # neighbours, distances: plain laws -/
namespace Hx
def nbrs (p : Int × Int) : List (Int × Int) := steps.map fun s => (p.1 + s.1, p.2 + s.2)
theorem nbrs_len (p : Int × Int) : (nbrs p).length = 6 := rfl
def distOf (p o : Int × Int) : Int := max (max ((p.1 - o.1).natAbs : Int) ((p.2 - o.2).natAbs : Int)) (((p.1 - o.1) + (p.2 - o.2)).natAbs : Int)
theorem dist_comm (p o : Int × Int) : distOf p o = distOf o p := by
  unfold distOf
  omega
theorem dist_self (p : Int × Int) : distOf p p = 0 := by
  unfold distOf
  omega
theorem nbrs_cases {p n : Int × Int} (h : n ∈ nbrs p) : n = (p.1 + 1, p.2 + 0) ∨ n = (p.1 + 0, p.2 + 1) ∨ n = (p.1 + -1, p.2 + 1) ∨ n = (p.1 + -1, p.2 + 0) ∨ n = (p.1 + 0, p.2 + -1) ∨ n = (p.1 + 1, p.2 + -1) := by
  simpa [nbrs, steps] using h
theorem dist_le (p o : Int × Int) (k : Int) : distOf p o ≤ k ↔ (-k ≤ p.1 - o.1 ∧ p.1 - o.1 ≤ k) ∧ (-k ≤ p.2 - o.2 ∧ p.2 - o.2 ≤ k) ∧ (-k ≤ (p.1 - o.1) + (p.2 - o.2) ∧ (p.1 - o.1) + (p.2 - o.2) ≤ k) := by
  unfold distOf
  rw [Int.max_le, Int.max_le]
  omega
theorem dist_nonneg (p o : Int × Int) : 0 ≤ distOf p o := by
  unfold distOf
  exact Int.le_trans (Int.natCast_nonneg _) (Int.le_max_right _ _)
theorem nbrs_back {p n : Int × Int} (h : n ∈ nbrs p) : p ∈ nbrs n := by
  obtain ⟨a, b⟩ := p
  simp only [nbrs, steps, List.map_cons, List.map_nil, List.mem_cons, List.not_mem_nil, or_false] at h ⊢
  rcases h with rfl | rfl | rfl | rfl | rfl | rfl <;> simp only [Prod.mk.injEq] <;> omega
theorem dist_up {p n : Int × Int} (o : Int × Int) (h : n ∈ nbrs p) : distOf n o ≤ distOf p o + 1 := by
  obtain ⟨⟨a1, a2⟩, ⟨b1, b2⟩, c1, c2⟩ := (dist_le p o (distOf p o)).mp (Int.le_refl _)
  obtain ⟨d, hd⟩ : ∃ d, d = distOf p o := ⟨_, rfl⟩
  rw [← hd] at a1 a2 b1 b2 c1 c2 ⊢
  rw [dist_le]
  rcases nbrs_cases h with h | h | h | h | h | h <;> subst h <;> simp only <;> omega
theorem dist_step {p n : Int × Int} (o : Int × Int) (h : n ∈ nbrs p) : (distOf n o - distOf p o).natAbs ≤ 1 := by
  have h1 := dist_up o h
  have h2 := dist_up o (nbrs_back h)
  omega
theorem dist_down {p o : Int × Int} (h : 0 < distOf p o) : ∃ n ∈ nbrs p, distOf n o = distOf p o - 1 := by
  obtain ⟨⟨a1, a2⟩, ⟨b1, b2⟩, c1, c2⟩ := (dist_le p o (distOf p o)).mp (Int.le_refl _)
  have z : ¬ distOf p o ≤ 0 := by omega
  rw [dist_le] at z
  obtain ⟨d, hd⟩ : ∃ d, d = distOf p o := ⟨_, rfl⟩
  rw [← hd] at a1 a2 b1 b2 c1 c2 h
  have m : ∀ n, n ∈ nbrs p → distOf n o ≤ d - 1 → ∃ n ∈ nbrs p, distOf n o = distOf p o - 1 := fun n hn hl => ⟨n, hn, by
    have := dist_step o hn
    omega⟩
  have mm : ∀ s ∈ steps, (p.1 + s.1, p.2 + s.2) ∈ nbrs p := fun s hs => List.mem_map.mpr ⟨s, hs, rfl⟩
  by_cases hu : p.1 - o.1 = 0
  · by_cases hv : 0 < p.2 - o.2
    · refine m _ (mm (0, -1) (by decide)) ?_
      rw [dist_le]
      simp only
      omega
    · refine m _ (mm (0, 1) (by decide)) ?_
      rw [dist_le]
      simp only
      omega
  · by_cases hu2 : 0 < p.1 - o.1
    · by_cases hv : 0 ≤ p.2 - o.2
      · refine m _ (mm (-1, 0) (by decide)) ?_
        rw [dist_le]
        simp only
        omega
      · refine m _ (mm (-1, 1) (by decide)) ?_
        rw [dist_le]
        simp only
        omega
    · by_cases hv : p.2 - o.2 ≤ 0
      · refine m _ (mm (1, 0) (by decide)) ?_
        rw [dist_le]
        simp only
        omega
      · refine m _ (mm (1, -1) (by decide)) ?_
        rw [dist_le]
        simp only
        omega
theorem dist_near (p o : Int × Int) : ((nbrs p).any fun n => decide (distOf n o - distOf p o = -1)) = decide (distOf p o > 0) := by
  by_cases h : distOf p o > 0
  · rw [decide_eq_true h, List.any_eq_true]
    obtain ⟨n, hn, e⟩ := dist_down h
    exact ⟨n, hn, decide_eq_true (by omega)⟩
  · rw [decide_eq_false h, List.any_eq_false]
    intro n hn
    have := dist_nonneg n o
    simp only [decide_eq_true_eq]
    omega
theorem dist_walk {p n : Int × Int} (o : Int × Int) {k : Nat} (h : n ∈ nbrs p) (hk : distOf o p ≤ k) : distOf o n ≤ k + 1 := by
  have h1 := dist_step o h
  rw [dist_comm o n]
  rw [dist_comm o p] at hk
  omega
theorem getD_mem {α : Type} {l : List α} {i : Nat} {d : α} (h : i < l.length) : l.getD i d ∈ l := by
  rw [List.getD_eq_getElem?_getD, List.getElem?_eq_getElem h]
  exact List.getElem_mem h
theorem take_snoc {α : Type} {l : List α} {i : Nat} {x : α} (h : l[i]? = some x) : l.take (i + 1) = l.take i ++ [x] := by
  rw [List.take_add_one, h]
  rfl
end Hx
namespace Hx
theorem cutV_drop (fs : List Int) (i : Nat) : L2.cutV (fs.map L2.V.int) (some (i : Int)) none = (fs.drop i).map L2.V.int := by
  unfold L2.cutV
  rw [HT.sIx_nat, HT.sIx_none, List.length_map, List.map_drop]
  by_cases h : i ≤ fs.length
  · rw [Nat.min_eq_left h, List.take_of_length_le (by rw [List.length_drop, List.length_map]; exact Nat.le_refl _)]
  · rw [Nat.min_eq_right (by omega), List.drop_eq_nil_of_le (by rw [List.length_map]; exact Nat.le_refl _), List.drop_eq_nil_of_le (by rw [List.length_map]; omega), List.take_nil]
end Hx
namespace Hx
theorem cutV_mid (ns : List Int) (i j : Nat) : ∃ cs : List Int, L2.cutV (ns.map L2.V.int) (some (i : Int)) (some (j : Int)) = cs.map L2.V.int ∧ cs.length ≤ j - i ∧ cs = (ns.drop (min i ns.length)).take (min j ns.length - min i ns.length) := by
  refine ⟨_, ?_, ?_, rfl⟩
  · unfold L2.cutV
    rw [HT.sIx_nat, HT.sIx_nat, List.length_map, List.map_take, List.map_drop]
  · rw [List.length_take, List.length_drop]
    omega
end Hx
namespace Hx
theorem cutV_take (fs : List Int) (j : Nat) : L2.cutV (fs.map L2.V.int) none (some (j : Int)) = (fs.take j).map L2.V.int := by
  unfold L2.cutV
  rw [HT.sIx_nat, HT.sIx_none, List.length_map, Nat.sub_zero, List.drop_zero, List.map_take]
  by_cases h : j ≤ fs.length
  · rw [Nat.min_eq_left h]
  · rw [Nat.min_eq_right (by omega), List.take_of_length_le (by rw [List.length_map]; exact Nat.le_refl _), List.take_of_length_le (by rw [List.length_map]; omega)]
end Hx

/-! # rings: plain laws -/
namespace Hx
def sideOf (k : Nat) : Int := sides.getD k 0
def sideStep (k : Nat) : Int × Int := stepOf (sideOf k)
def corner (n : Int) : Nat → Int × Int
  | 0 => ((stepOf 1).1 * n, (stepOf 1).2 * n)
  | k + 1 => ((corner n k).1 + (sideStep k).1 * n, (corner n k).2 + (sideStep k).2 * n)
def ringAt (n a : Int) : Int × Int :=
  ((corner n (a / n).toNat).1 + (sideStep (a / n).toNat).1 * (a % n), (corner n (a / n).toNat).2 + (sideStep (a / n).toNat).2 * (a % n))
theorem side_range {k : Nat} (h : k < 6) : 1 ≤ sideOf k ∧ sideOf k ≤ 6 := by
  have : ∀ k, k < 6 → 1 ≤ sideOf k ∧ sideOf k ≤ 6 := by decide
  exact this k h
theorem step_small {d : Int} (h0 : 1 ≤ d) (h1 : d ≤ 6) : (-1 ≤ (stepOf d).1 ∧ (stepOf d).1 ≤ 1) ∧ (-1 ≤ (stepOf d).2 ∧ (stepOf d).2 ≤ 1) := by
  obtain rfl | rfl | rfl | rfl | rfl | rfl : d = 1 ∨ d = 2 ∨ d = 3 ∨ d = 4 ∨ d = 5 ∨ d = 6 := by omega
  all_goals decide
theorem corner_is (n : Int) : corner n 0 = (n, 0) ∧ corner n 1 = (0, n) ∧ corner n 2 = (-n, n) ∧ corner n 3 = (-n, 0) ∧ corner n 4 = (0, -n) ∧ corner n 5 = (n, -n) := by
  simp only [corner, sideStep, sideOf, sides, stepOf, steps, List.getD_cons_zero, List.getD_cons_succ, Prod.mk.injEq]
  refine ⟨?_, ?_, ?_, ?_, ?_, ?_⟩ <;> (simp; try omega)
theorem side_is : sideStep 0 = (-1, 1) ∧ sideStep 1 = (-1, 0) ∧ sideStep 2 = (0, -1) ∧ sideStep 3 = (1, -1) ∧ sideStep 4 = (1, 0) ∧ sideStep 5 = (0, 1) := by decide
theorem div_bounds {n a : Int} (hn : 1 ≤ n) (h0 : 0 ≤ a) (h6 : a < 6 * n) : 0 ≤ a / n ∧ a / n < 6 := by
  refine ⟨Int.ediv_nonneg h0 (by omega), Int.ediv_lt_of_lt_mul (by omega) (by omega)⟩
theorem ring_form {n a : Int} (hn : 1 ≤ n) (h0 : 0 ≤ a) (h6 : a < 6 * n) : ∃ j, 0 ≤ j ∧ j < n ∧ j = a % n ∧ ((a / n = 0 ∧ a = j ∧ ringAt n a = (n - j, j)) ∨ (a / n = 1 ∧ a = n + j ∧ ringAt n a = (-j, n)) ∨ (a / n = 2 ∧ a = 2 * n + j ∧ ringAt n a = (-n, n - j)) ∨
    (a / n = 3 ∧ a = 3 * n + j ∧ ringAt n a = (j - n, -j)) ∨ (a / n = 4 ∧ a = 4 * n + j ∧ ringAt n a = (j, -n)) ∨ (a / n = 5 ∧ a = 5 * n + j ∧ ringAt n a = (n, j - n))) := by
  have hd := div_bounds hn h0 h6
  have hm0 : 0 ≤ a % n := Int.emod_nonneg _ (by omega)
  have hm1 : a % n < n := Int.emod_lt_of_pos _ (by omega)
  have hs : n * (a / n) + a % n = a := Int.mul_ediv_add_emod a n
  obtain ⟨c0, c1, c2, c3, c4, c5⟩ := corner_is n
  obtain ⟨s0, s1, s2, s3, s4, s5⟩ := side_is
  refine ⟨a % n, hm0, hm1, rfl, ?_⟩
  unfold ringAt
  obtain h | h | h | h | h | h : a / n = 0 ∨ a / n = 1 ∨ a / n = 2 ∨ a / n = 3 ∨ a / n = 4 ∨ a / n = 5 := by omega
  · rw [h] at hs ⊢
    exact .inl ⟨rfl, by omega, by show ((corner n 0).1 + (sideStep 0).1 * _, (corner n 0).2 + (sideStep 0).2 * _) = _; rw [c0, s0]; simp only [Prod.mk.injEq]; omega⟩
  · rw [h] at hs ⊢
    exact .inr (.inl ⟨rfl, by omega, by show ((corner n 1).1 + (sideStep 1).1 * _, (corner n 1).2 + (sideStep 1).2 * _) = _; rw [c1, s1]; simp only [Prod.mk.injEq]; omega⟩)
  · rw [h] at hs ⊢
    exact .inr (.inr (.inl ⟨rfl, by omega, by show ((corner n 2).1 + (sideStep 2).1 * _, (corner n 2).2 + (sideStep 2).2 * _) = _; rw [c2, s2]; simp only [Prod.mk.injEq]; omega⟩))
  · rw [h] at hs ⊢
    exact .inr (.inr (.inr (.inl ⟨rfl, by omega, by show ((corner n 3).1 + (sideStep 3).1 * _, (corner n 3).2 + (sideStep 3).2 * _) = _; rw [c3, s3]; simp only [Prod.mk.injEq]; omega⟩)))
  · rw [h] at hs ⊢
    exact .inr (.inr (.inr (.inr (.inl ⟨rfl, by omega, by show ((corner n 4).1 + (sideStep 4).1 * _, (corner n 4).2 + (sideStep 4).2 * _) = _; rw [c4, s4]; simp only [Prod.mk.injEq]; omega⟩))))
  · rw [h] at hs ⊢
    exact .inr (.inr (.inr (.inr (.inr ⟨rfl, by omega, by show ((corner n 5).1 + (sideStep 5).1 * _, (corner n 5).2 + (sideStep 5).2 * _) = _; rw [c5, s5]; simp only [Prod.mk.injEq]; omega⟩))))
theorem ring_inj {n a b : Int} (hn : 1 ≤ n) (a0 : 0 ≤ a) (a6 : a < 6 * n) (b0 : 0 ≤ b) (b6 : b < 6 * n) (e : ringAt n a = ringAt n b) : a = b := by
  obtain ⟨i, i0, i1, _, ha⟩ := ring_form hn a0 a6
  obtain ⟨j, j0, j1, _, hb⟩ := ring_form hn b0 b6
  rcases ha with ⟨_, h1, h2⟩ | ⟨_, h1, h2⟩ | ⟨_, h1, h2⟩ | ⟨_, h1, h2⟩ | ⟨_, h1, h2⟩ | ⟨_, h1, h2⟩ <;> rw [h2] at e <;>
  rcases hb with ⟨_, h3, h4⟩ | ⟨_, h3, h4⟩ | ⟨_, h3, h4⟩ | ⟨_, h3, h4⟩ | ⟨_, h3, h4⟩ | ⟨_, h3, h4⟩ <;> rw [h4] at e <;> simp only [Prod.mk.injEq] at e <;> omega
def farOf (p : Int × Int) : Int := max (max (p.1.natAbs : Int) (p.2.natAbs : Int)) ((p.1 + p.2).natAbs : Int)
theorem ring_far {n a : Int} (hn : 1 ≤ n) (a0 : 0 ≤ a) (a6 : a < 6 * n) : farOf (ringAt n a) = n := by
  obtain ⟨i, i0, i1, _, ha⟩ := ring_form hn a0 a6
  unfold farOf
  rcases ha with ⟨_, h1, h2⟩ | ⟨_, h1, h2⟩ | ⟨_, h1, h2⟩ | ⟨_, h1, h2⟩ | ⟨_, h1, h2⟩ | ⟨_, h1, h2⟩ <;> rw [h2] <;> simp only <;> omega
/-- where the walk stands behind a steps: at the ring's end again at its first place -/
def hereAt (n a : Int) : Int × Int := if a = 6 * n then (n, 0) else ringAt n a
theorem ring_first {n : Int} (hn : 1 ≤ n) : ringAt n 0 = (n, 0) := by
  obtain ⟨i, i0, i1, _, ha⟩ := ring_form (a := 0) hn (by omega) (by omega)
  rcases ha with ⟨_, h1, h2⟩ | ⟨_, h1, h2⟩ | ⟨_, h1, h2⟩ | ⟨_, h1, h2⟩ | ⟨_, h1, h2⟩ | ⟨_, h1, h2⟩ <;> rw [h2] <;> simp only [Prod.mk.injEq] <;> omega
theorem ring_next {n a : Int} (hn : 1 ≤ n) (a0 : 0 ≤ a) (a6 : a < 6 * n) : hereAt n (a + 1) = ((ringAt n a).1 + (sideStep (a / n).toNat).1, (ringAt n a).2 + (sideStep (a / n).toNat).2) := by
  obtain ⟨s0, s1, s2, s3, s4, s5⟩ := side_is
  obtain ⟨i, i0, i1, _, ha⟩ := ring_form hn a0 a6
  unfold hereAt
  by_cases hl : a + 1 = 6 * n
  · rw [if_pos hl]
    rcases ha with ⟨d, h1, h2⟩ | ⟨d, h1, h2⟩ | ⟨d, h1, h2⟩ | ⟨d, h1, h2⟩ | ⟨d, h1, h2⟩ | ⟨d, h1, h2⟩
    all_goals rw [h2, d]
    · exfalso; omega
    · exfalso; omega
    · exfalso; omega
    · exfalso; omega
    · exfalso; omega
    · show _ = ((n : Int) + (sideStep 5).1, i - n + (sideStep 5).2)
      rw [s5]; simp only [Prod.mk.injEq]; omega
  · rw [if_neg hl]
    obtain ⟨j, j0, j1, _, hb⟩ := ring_form (a := a + 1) hn (by omega) (by omega)
    rcases ha with ⟨d, h1, h2⟩ | ⟨d, h1, h2⟩ | ⟨d, h1, h2⟩ | ⟨d, h1, h2⟩ | ⟨d, h1, h2⟩ | ⟨d, h1, h2⟩
    all_goals rw [h2, d]
    · show _ = (n - i + (sideStep 0).1, i + (sideStep 0).2)
      rw [s0]
      rcases hb with ⟨_, h3, h4⟩ | ⟨_, h3, h4⟩ | ⟨_, h3, h4⟩ | ⟨_, h3, h4⟩ | ⟨_, h3, h4⟩ | ⟨_, h3, h4⟩ <;> rw [h4] <;> simp only [Prod.mk.injEq] <;> omega
    · show _ = (-i + (sideStep 1).1, n + (sideStep 1).2)
      rw [s1]
      rcases hb with ⟨_, h3, h4⟩ | ⟨_, h3, h4⟩ | ⟨_, h3, h4⟩ | ⟨_, h3, h4⟩ | ⟨_, h3, h4⟩ | ⟨_, h3, h4⟩ <;> rw [h4] <;> simp only [Prod.mk.injEq] <;> omega
    · show _ = (-n + (sideStep 2).1, n - i + (sideStep 2).2)
      rw [s2]
      rcases hb with ⟨_, h3, h4⟩ | ⟨_, h3, h4⟩ | ⟨_, h3, h4⟩ | ⟨_, h3, h4⟩ | ⟨_, h3, h4⟩ | ⟨_, h3, h4⟩ <;> rw [h4] <;> simp only [Prod.mk.injEq] <;> omega
    · show _ = (i - n + (sideStep 3).1, -i + (sideStep 3).2)
      rw [s3]
      rcases hb with ⟨_, h3, h4⟩ | ⟨_, h3, h4⟩ | ⟨_, h3, h4⟩ | ⟨_, h3, h4⟩ | ⟨_, h3, h4⟩ | ⟨_, h3, h4⟩ <;> rw [h4] <;> simp only [Prod.mk.injEq] <;> omega
    · show _ = (i + (sideStep 4).1, -n + (sideStep 4).2)
      rw [s4]
      rcases hb with ⟨_, h3, h4⟩ | ⟨_, h3, h4⟩ | ⟨_, h3, h4⟩ | ⟨_, h3, h4⟩ | ⟨_, h3, h4⟩ | ⟨_, h3, h4⟩ <;> rw [h4] <;> simp only [Prod.mk.injEq] <;> omega
    · show _ = (n + (sideStep 5).1, i - n + (sideStep 5).2)
      rw [s5]
      rcases hb with ⟨_, h3, h4⟩ | ⟨_, h3, h4⟩ | ⟨_, h3, h4⟩ | ⟨_, h3, h4⟩ | ⟨_, h3, h4⟩ | ⟨_, h3, h4⟩ <;> rw [h4] <;> simp only [Prod.mk.injEq] <;> omega
def ringPl (n : Int) : List (Int × Int) := if n = 0 then [(0, 0)] else (List.range (6 * n).toNat).map fun (i : Nat) => ringAt n (i : Int)
theorem ringPl_len {n : Int} (h : 0 ≤ n) : ((ringPl n).length : Int) = max 1 (6 * n) := by
  unfold ringPl
  split
  · simp only [List.length_cons, List.length_nil]; omega
  · rw [List.length_map, List.length_range]; omega
def wayL : List (Int × Int) := [(-1, 1), (-1, 0), (0, -1), (1, -1), (1, 0), (0, 1)]
theorem way_is {k : Nat} (h : k < 6) : wayL.getD k (0, 0) = sideStep k := by
  have : ∀ k, k < 6 → wayL.getD k (0, 0) = sideStep k := by decide
  exact this k h
/-! ### the dict of what was seen -/
def kvT (ps : List (Int × Int)) : List (List L2.Key × L2.V) := ps.map fun p => (keyOf p, .bl true)
theorem keyOf_inj {p q : Int × Int} (h : keyOf p = keyOf q) : p = q := by
  obtain ⟨a, b⟩ := p
  obtain ⟨c, d⟩ := q
  simpa using h
theorem valV_kvT (ps : List (Int × Int)) (q : Int × Int) : (L2.valV (kvT ps) (keyOf q)).isSome = decide (q ∈ ps) := by
  rw [← L2.valV_any]
  unfold kvT
  rw [List.any_map, Bool.eq_iff_iff, List.any_eq_true, decide_eq_true_eq]
  constructor
  · rintro ⟨p, hp, e⟩
    have e2 : keyOf p = keyOf q := of_decide_eq_true e
    rw [← keyOf_inj e2]
    exact hp
  · intro h
    exact ⟨q, h, decide_eq_true rfl⟩
theorem putK_kvT {ps : List (Int × Int)} {q : Int × Int} (h : q ∉ ps) : L2.putK (kvT ps) (keyOf q) (.bl true) = kvT (ps ++ [q]) := by
  have h2 : L2.valV (kvT ps) (keyOf q) = none := by
    have := valV_kvT ps q
    rw [decide_eq_false h] at this
    exact Option.isNone_iff_eq_none.mp (by rw [← Option.not_isSome, this]; rfl)
  rw [L2.putK_new _ h2]
  unfold kvT
  rw [List.map_append]
  rfl
end Hx

/-! # sevens and addresses: plain laws -/
namespace Hx
def nrm (p : Int × Int) : Int := p.1 * p.1 + p.1 * p.2 + p.2 * p.2
def step7 (p : Int × Int) (f : Int) : Int × Int := ((greatOf p).1 + (restPlace f).1, (greatOf p).2 + (restPlace f).2)
def placeOf (fs : List Int) : Int × Int := fs.foldl step7 (0, 0)
def Figs (fs : List Int) : Prop := ∀ f ∈ fs, 0 ≤ f ∧ f ≤ 6
def bareL (fs : List Int) : List Int := fs.dropWhile fun f => decide (f = 0)
theorem sq_nonneg (x : Int) : 0 ≤ x * x := by
  rcases Int.le_total 0 x with h | h
  · exact Int.mul_nonneg h h
  · exact Int.mul_nonneg_of_nonpos_of_nonpos h h
theorem nrm_nonneg (p : Int × Int) : 0 ≤ nrm p := by
  have h1 := sq_nonneg (2 * p.1 + p.2)
  have h2 := sq_nonneg p.2
  have e : 4 * nrm p = (2 * p.1 + p.2) * (2 * p.1 + p.2) + 3 * (p.2 * p.2) := by unfold nrm; grind
  omega
theorem sq_zero {x : Int} (h : x * x = 0) : x = 0 := by
  rcases Int.mul_eq_zero.mp h with h | h <;> exact h
theorem nrm_zero {p : Int × Int} (h : nrm p = 0) : p = (0, 0) := by
  have h1 := sq_nonneg (2 * p.1 + p.2)
  have h2 := sq_nonneg p.2
  have e : 4 * nrm p = (2 * p.1 + p.2) * (2 * p.1 + p.2) + 3 * (p.2 * p.2) := by unfold nrm; grind
  have z2 : p.2 = 0 := sq_zero (by omega)
  have z1 : 2 * p.1 + p.2 = 0 := sq_zero (by omega)
  obtain ⟨a, b⟩ := p
  simp only at z1 z2
  simp only [Prod.mk.injEq]
  omega
theorem nrm_great (p : Int × Int) : nrm (greatOf p) = 7 * nrm p := by
  unfold nrm greatOf
  grind
theorem nrm_rest {f : Int} (h0 : 0 ≤ f) (h1 : f ≤ 6) : 0 ≤ nrm (restPlace f) ∧ nrm (restPlace f) ≤ 1 := by
  obtain rfl | rfl | rfl | rfl | rfl | rfl | rfl := fig_cases h0 h1 <;> decide
theorem nrm_centre (p : Int × Int) : 7 * nrm (centreOf p) = nrm (p.1 - (restPlace (restOf p)).1, p.2 - (restPlace (restOf p)).2) := by
  rw [← great_centre, nrm_great]
theorem nrm_less {p : Int × Int} (h : p ≠ (0, 0)) : nrm (centreOf p) < nrm p := by
  have h1 := nrm_nonneg p
  have h2 : nrm p ≠ 0 := fun z => h (nrm_zero z)
  have h3 := nrm_rest (rest_range p).1 (rest_range p).2
  have h4 := nrm_centre p
  have h5 := nrm_nonneg (p.1 + (restPlace (restOf p)).1, p.2 + (restPlace (restOf p)).2)
  have e : nrm (p.1 - (restPlace (restOf p)).1, p.2 - (restPlace (restOf p)).2) + nrm (p.1 + (restPlace (restOf p)).1, p.2 + (restPlace (restOf p)).2) = 2 * nrm p + 2 * nrm (restPlace (restOf p)) := by
    unfold nrm
    grind
  omega
/-- the address -/
def lowF : Nat → Int × Int → List Int
  | 0, _ => []
  | n + 1, p => if p = (0, 0) then [] else restOf p :: lowF n (centreOf p)
def addrOf (p : Int × Int) : List Int := (lowF (nrm p).toNat p).reverse
theorem lowF_more : ∀ (n m : Nat) (p : Int × Int), (nrm p).toNat ≤ n → (nrm p).toNat ≤ m → lowF n p = lowF m p
  | 0, 0, _, _, _ => rfl
  | 0, m + 1, p, h, _ => by
    have z : p = (0, 0) := nrm_zero (by have := nrm_nonneg p; omega)
    show [] = if p = (0, 0) then [] else restOf p :: lowF m (centreOf p)
    rw [if_pos z]
  | n + 1, 0, p, _, h => by
    have z : p = (0, 0) := nrm_zero (by have := nrm_nonneg p; omega)
    show (if p = (0, 0) then [] else restOf p :: lowF n (centreOf p)) = []
    rw [if_pos z]
  | n + 1, m + 1, p, h, h2 => by
    show (if p = (0, 0) then [] else restOf p :: lowF n (centreOf p)) = if p = (0, 0) then [] else restOf p :: lowF m (centreOf p)
    by_cases z : p = (0, 0)
    · rw [if_pos z, if_pos z]
    · rw [if_neg z, if_neg z, lowF_more n m]
      · have := nrm_less z; have := nrm_nonneg (centreOf p); omega
      · have := nrm_less z; have := nrm_nonneg (centreOf p); omega
theorem addr_zero : addrOf (0, 0) = [] := rfl
theorem addr_step {p : Int × Int} (h : p ≠ (0, 0)) : addrOf p = addrOf (centreOf p) ++ [restOf p] := by
  have l := nrm_less h
  have l0 := nrm_nonneg (centreOf p)
  unfold addrOf
  rw [← List.reverse_cons]
  obtain ⟨k, hk⟩ : ∃ k, (nrm p).toNat = k + 1 := ⟨(nrm p).toNat - 1, by omega⟩
  rw [hk]
  show (if p = (0, 0) then [] else restOf p :: lowF k (centreOf p)).reverse = _
  rw [if_neg h, lowF_more k (nrm (centreOf p)).toNat _ (by omega) (Nat.le_refl _)]
theorem placeOf_snoc (fs : List Int) (f : Int) : placeOf (fs ++ [f]) = step7 (placeOf fs) f := by
  unfold placeOf
  rw [List.foldl_append]
  rfl
theorem step7_centre (p : Int × Int) : step7 (centreOf p) (restOf p) = p := by
  unfold step7
  rw [great_centre]
  obtain ⟨a, b⟩ := p
  simp only [Prod.mk.injEq]
  omega
theorem step7_back {p : Int × Int} {f : Int} (h0 : 0 ≤ f) (h1 : f ≤ 6) : restOf (step7 p f) = f ∧ centreOf (step7 p f) = p := by
  have key : restOf (step7 p f) = f := by
    obtain ⟨a, b⟩ := p
    obtain ⟨r, hr⟩ : ∃ r, r = restOf (step7 (a, b) f) := ⟨_, rfl⟩
    rw [← hr]
    have e1 : (step7 (a, b) f).1 = 2 * a - b + (restPlace f).1 := rfl
    have e2 : (step7 (a, b) f).2 = a + 3 * b + (restPlace f).2 := rfl
    obtain rfl | rfl | rfl | rfl | rfl | rfl | rfl := fig_cases h0 h1 <;> simp only [restPlace, stepOf, steps] at e1 e2 <;> simp at e1 e2 <;>
    rcases rest_cases (step7 (a, b) _) with ⟨h, e, _⟩ | ⟨h, e, _⟩ | ⟨h, e, _⟩ | ⟨h, e, _⟩ | ⟨h, e, _⟩ | ⟨h, e, _⟩ | ⟨h, e, _⟩ <;> rw [e] at hr <;> rw [e1, e2] at h <;> omega
  refine ⟨key, ?_⟩
  unfold centreOf
  rw [key]
  obtain ⟨a, b⟩ := p
  simp only [step7, greatOf, Prod.mk.injEq]
  omega
theorem step7_zero {p : Int × Int} {f : Int} (h0 : 0 ≤ f) (h1 : f ≤ 6) : step7 p f = (0, 0) ↔ p = (0, 0) ∧ f = 0 := by
  constructor
  · intro e
    obtain ⟨a, b⟩ := step7_back (p := p) h0 h1
    rw [e] at a b
    exact ⟨b.symm, a.symm⟩
  · rintro ⟨rfl, rfl⟩
    rfl
theorem figs_snoc {fs : List Int} {f : Int} (h : Figs (fs ++ [f])) : Figs fs ∧ 0 ≤ f ∧ f ≤ 6 := ⟨fun x hx => h x (List.mem_append_left _ hx), h f (by simp)⟩
theorem figs_app {fs gs : List Int} (h : Figs fs) (g : Figs gs) : Figs (fs ++ gs) := fun x hx => (List.mem_append.mp hx).elim (h x) (g x)
theorem figs_one {f : Int} (h0 : 0 ≤ f) (h1 : f ≤ 6) : Figs [f] := fun x hx => by
  rw [List.mem_singleton] at hx
  subst hx
  exact ⟨h0, h1⟩
theorem bareL_snoc (fs : List Int) (f : Int) : bareL (fs ++ [f]) = if bareL fs = [] then (if f = 0 then [] else [f]) else bareL fs ++ [f] := by
  unfold bareL
  induction fs with
  | nil => by_cases h : f = 0 <;> simp [h]
  | cons x r ih =>
    by_cases h : x = 0
    · subst h
      simpa using ih
    · simp [h]
/-- an address is without noughts ahead, and it is the only such list of its place -/
theorem addr_of : ∀ (n : Nat) (fs : List Int), fs.length = n → Figs fs → addrOf (placeOf fs) = bareL fs
  | 0, fs, h, _ => by
    rw [List.length_eq_zero_iff.mp h]
    rfl
  | n + 1, fs, h, g => by
    obtain ⟨r, f, rfl⟩ : ∃ r f, fs = r ++ [f] := ⟨fs.dropLast, fs.getLast (by intro z; rw [z] at h; cases h), (List.dropLast_concat_getLast _).symm⟩
    obtain ⟨gr, f0, f1⟩ := figs_snoc g
    have ih := addr_of n r (by rw [List.length_append] at h; simpa using h) gr
    rw [placeOf_snoc, bareL_snoc]
    by_cases z : step7 (placeOf r) f = (0, 0)
    · obtain ⟨a, b⟩ := (step7_zero f0 f1).mp z
      rw [z, addr_zero]
      rw [a, addr_zero] at ih
      rw [if_pos ih.symm, if_pos b]
    · rw [addr_step z, (step7_back f0 f1).1, (step7_back f0 f1).2, ih]
      by_cases e : bareL r = []
      · have pz : placeOf r = (0, 0) := by
          rw [e] at ih
          by_cases hz : placeOf r = (0, 0)
          · exact hz
          · rw [addr_step hz] at ih
            simp at ih
        have fz : f ≠ 0 := fun w => z ((step7_zero f0 f1).mpr ⟨pz, w⟩)
        rw [if_pos e, if_neg fz, e]
        rfl
      · rw [if_neg e]
theorem addr_place (fs : List Int) (h : Figs fs) : addrOf (placeOf fs) = bareL fs := addr_of _ fs rfl h
theorem addr_back : ∀ (n : Nat) (p : Int × Int), (nrm p).toNat ≤ n → placeOf (addrOf p) = p ∧ Figs (addrOf p)
  | 0, p, h => by
    have z : p = (0, 0) := nrm_zero (by have := nrm_nonneg p; omega)
    subst z
    exact ⟨rfl, fun x hx => by rw [addr_zero] at hx; cases hx⟩
  | n + 1, p, h => by
    by_cases z : p = (0, 0)
    · subst z
      exact ⟨rfl, fun x hx => by rw [addr_zero] at hx; cases hx⟩
    · have l := nrm_less z
      have l0 := nrm_nonneg (centreOf p)
      obtain ⟨i1, i2⟩ := addr_back n (centreOf p) (by omega)
      rw [addr_step z, placeOf_snoc, i1, step7_centre]
      exact ⟨rfl, figs_app i2 (figs_one (rest_range p).1 (rest_range p).2)⟩
theorem place_addr (p : Int × Int) : placeOf (addrOf p) = p := (addr_back _ p (Nat.le_refl _)).1
theorem figs_addr (p : Int × Int) : Figs (addrOf p) := (addr_back _ p (Nat.le_refl _)).2
theorem bare_addr (p : Int × Int) : bareL (addrOf p) = addrOf p := by
  have := addr_place (addrOf p) (figs_addr p)
  rw [place_addr] at this
  exact this.symm
theorem bareL_len (fs : List Int) : (bareL fs).length ≤ fs.length := by
  unfold bareL
  exact (List.dropWhile_sublist _).length_le
theorem place_bare (fs : List Int) : placeOf (bareL fs) = placeOf fs := by
  unfold bareL
  induction fs with
  | nil => rfl
  | cons x r ih =>
    by_cases h : x = 0
    · subst h
      have e : placeOf (0 :: r) = placeOf r := rfl
      rw [e, ← ih]
      simp
    · simp [h]
theorem figs_bare {fs : List Int} (h : Figs fs) : Figs (bareL fs) := fun x hx => h x ((List.dropWhile_sublist _).subset hx)
theorem bare_bare (fs : List Int) : bareL (bareL fs) = bareL fs := by
  unfold bareL
  induction fs with
  | nil => rfl
  | cons x r ih =>
    by_cases h : x = 0
    · subst h
      simpa using ih
    · simp [h]
theorem place_noughts (n : Nat) (fs : List Int) : placeOf (List.replicate n 0 ++ fs) = placeOf fs := by
  induction n with
  | zero => rfl
  | succ n ih =>
    rw [List.replicate_succ, List.cons_append]
    exact ih
theorem figs_noughts (n : Nat) {fs : List Int} (h : Figs fs) : Figs (List.replicate n 0 ++ fs) := figs_app (fun x hx => by
  rw [(List.mem_replicate.mp hx).2]
  omega) h
theorem figs_mod7 (cs : List Int) : Figs (cs.map (· % 7)) := fun f hf => by
  obtain ⟨c, _, rfl⟩ := List.mem_map.mp hf
  omega
theorem figs_getD {fs : List Int} (h : Figs fs) (i : Nat) : 0 ≤ fs.getD i 0 ∧ fs.getD i 0 ≤ 6 := by
  rw [List.getD_eq_getElem?_getD]
  cases e : fs[i]? with
  | none => decide
  | some f => exact h f (List.mem_of_getElem? e)
/-! ### how long an address is -/
/-- times a million: a place no further than so has an address of at most so many figures -/
def reach : Nat → Int
  | 0 => 999999
  | n + 1 => 2645751 * reach n / 1000000 - 1000000
theorem reach_pos : ∀ n, 999999 ≤ reach n
  | 0 => by decide
  | n + 1 => by
    have := reach_pos n
    show 999999 ≤ 2645751 * reach n / 1000000 - 1000000
    omega
theorem cauchy (p s : Int × Int) : (nrm (p.1 - s.1, p.2 - s.2) - nrm p - nrm s) * (nrm (p.1 - s.1, p.2 - s.2) - nrm p - nrm s) ≤ 4 * (nrm p * nrm s) := by
  have e : 4 * (nrm p * nrm s) - (nrm (p.1 - s.1, p.2 - s.2) - nrm p - nrm s) * (nrm (p.1 - s.1, p.2 - s.2) - nrm p - nrm s) = 3 * ((p.1 * s.2 - p.2 * s.1) * (p.1 * s.2 - p.2 * s.1)) := by
    unfold nrm
    grind
  have := sq_nonneg (p.1 * s.2 - p.2 * s.1)
  omega
theorem sq_le {x y : Int} (h0 : 0 ≤ x) (h : x ≤ y) : x * x ≤ y * y := Int.mul_le_mul h h h0 (by omega)
theorem reach_step {p : Int × Int} {n : Nat} (h : nrm p * 1000000000000 ≤ reach (n + 1) * reach (n + 1)) : nrm (centreOf p) * 1000000000000 ≤ reach n * reach n := by
  obtain ⟨s, hs⟩ : ∃ s, s = restPlace (restOf p) := ⟨_, rfl⟩
  have hn := nrm_rest (rest_range p).1 (rest_range p).2
  have hc := nrm_centre p
  rw [← hs] at hn hc
  have hb := cauchy p s
  obtain ⟨Y, hY⟩ : ∃ Y, Y = nrm (p.1 - s.1, p.2 - s.2) := ⟨_, rfl⟩
  obtain ⟨X, hX⟩ : ∃ X, X = nrm p := ⟨_, rfl⟩
  obtain ⟨u, hu⟩ : ∃ u, u = nrm s := ⟨_, rfl⟩
  obtain ⟨A, hA⟩ : ∃ A, A = reach (n + 1) := ⟨_, rfl⟩
  have hX0 : 0 ≤ X := by rw [hX]; exact nrm_nonneg p
  have hp := reach_pos (n + 1)
  rw [← hA] at h hp
  rw [← hY] at hc hb
  rw [← hX] at h hb
  rw [← hu] at hn hb
  have hb2 : (Y - X - u) * (Y - X - u) ≤ 4 * X := by
    have h1 : X * u ≤ X * 1 := Int.mul_le_mul_of_nonneg_left hn.2 hX0
    omega
  -- Y times 10^12 is at most (A + 10^6)^2
  have hY2 : Y * 1000000000000 ≤ (A + 1000000) * (A + 1000000) := by
    by_cases g : (Y - X - u) * 1000000 ≤ 2 * A
    · have e : (A + 1000000) * (A + 1000000) = A * A + 2000000 * A + 1000000000000 := by grind
      omega
    · have g2 : 2 * A + 1 ≤ (Y - X - u) * 1000000 := by omega
      have g3 := sq_le (show 0 ≤ 2 * A + 1 by omega) g2
      have e1 : (2 * A + 1) * (2 * A + 1) = 4 * (A * A) + 4 * A + 1 := by grind
      have e2 : (Y - X - u) * 1000000 * ((Y - X - u) * 1000000) = (Y - X - u) * (Y - X - u) * 1000000000000 := by grind
      omega
  have hl : A + 1000000 ≤ 2645751 * reach n / 1000000 := by
    rw [hA]
    show 2645751 * reach n / 1000000 - 1000000 + 1000000 ≤ _
    omega
  have hr := reach_pos n
  have hl2 : (A + 1000000) * 1000000 ≤ 2645751 * reach n := by omega
  have hl3 := sq_le (show 0 ≤ (A + 1000000) * 1000000 by omega) hl2
  have e3 : (A + 1000000) * 1000000 * ((A + 1000000) * 1000000) = (A + 1000000) * (A + 1000000) * 1000000000000 := by grind
  have e4 : 2645751 * reach n * (2645751 * reach n) = 6999998354001 * (reach n * reach n) := by grind
  have h0 := sq_nonneg (reach n)
  omega
theorem addr_short : ∀ (n : Nat) (p : Int × Int), nrm p * 1000000000000 ≤ reach n * reach n → (addrOf p).length ≤ n
  | 0, p, h => by
    have z : p = (0, 0) := nrm_zero (by
      have := nrm_nonneg p
      have e : reach 0 * reach 0 = 999998000001 := by decide
      omega)
    subst z
    exact Nat.le_refl _
  | n + 1, p, h => by
    by_cases z : p = (0, 0)
    · subst z
      exact Nat.zero_le _
    · have ih := addr_short n (centreOf p) (reach_step h)
      rw [addr_step z, List.length_append]
      show (addrOf (centreOf p)).length + 1 ≤ n + 1
      omega
/-- the drawn numbers have at most 39 figures -/
theorem numBy_range (c : Int) : -(10 ^ (39 : Int).toNat) ≤ numBy c ∧ numBy c ≤ 10 ^ (39 : Int).toNat := by
  unfold numBy
  have e : (10 : Int) ^ (39 : Int).toNat = 1000000000000000000000000000000000000000 := by decide
  rw [e]
  split <;> omega
theorem nrm_numBy (c d : Int) : nrm (numBy c, numBy d) ≤ 3000000000000000000000000000000000000000000000000000000000000000000000000000000 := by
  have e : (10 : Int) ^ (39 : Int).toNat = 1000000000000000000000000000000000000000 := by decide
  have h1 := numBy_range c
  have h2 := numBy_range d
  rw [e] at h1 h2
  obtain ⟨x, hx⟩ : ∃ x, x = numBy c := ⟨_, rfl⟩
  obtain ⟨y, hy⟩ : ∃ y, y = numBy d := ⟨_, rfl⟩
  rw [← hx] at h1 ⊢
  rw [← hy] at h2 ⊢
  have a := sq_le (x := x.natAbs) (y := 1000000000000000000000000000000000000000) (by omega) (by omega)
  have b := sq_le (x := y.natAbs) (y := 1000000000000000000000000000000000000000) (by omega) (by omega)
  have c1 : (x.natAbs : Int) * x.natAbs = x * x := Int.natAbs_mul_self
  have c2 : (y.natAbs : Int) * y.natAbs = y * y := Int.natAbs_mul_self
  have d0 := sq_nonneg (x - y)
  have e2 : (x - y) * (x - y) = x * x - 2 * (x * y) + y * y := by grind
  show x * x + x * y + y * y ≤ _
  omega
theorem addr_numBy (c d : Int) : (addrOf (numBy c, numBy d)).length ≤ 100 := by
  refine addr_short 100 _ ?_
  have h := nrm_numBy c d
  have e : (3000000000000000000000000000000000000000000000000000000000000000000000000000000 : Int) * 1000000000000 ≤ reach 100 * reach 100 := by decide +kernel
  omega
end Hx

/-! # the sum of two figures: plain laws -/
namespace Hx
def sumPl (p q : Int × Int) : Int × Int := (p.1 + q.1, p.2 + q.2)
def pairRow (a b : Int) : List Int := 0 :: 0 :: addrOf (sumPl (restPlace a) (restPlace b))
def pairSum (a b : Int) : Int × Int := ((pairRow a b).getD ((pairRow a b).length - 2) 0, (pairRow a b).getD ((pairRow a b).length - 1) 0)
theorem pair_all : ∀ a b : Fin 7, (0 ≤ (pairSum a.val b.val).1 ∧ (pairSum a.val b.val).1 ≤ 6) ∧ (0 ≤ (pairSum a.val b.val).2 ∧ (pairSum a.val b.val).2 ≤ 6) ∧ step7 (restPlace (pairSum a.val b.val).1) (pairSum a.val b.val).2 = sumPl (restPlace a.val) (restPlace b.val) ∧
    pairSum b.val a.val = pairSum a.val b.val ∧ (addrOf (sumPl (restPlace a.val) (restPlace b.val))).length ≤ 2 := by decide +kernel
theorem pair_facts {a b : Int} (a0 : 0 ≤ a) (a1 : a ≤ 6) (b0 : 0 ≤ b) (b1 : b ≤ 6) : (0 ≤ (pairSum a b).1 ∧ (pairSum a b).1 ≤ 6) ∧ (0 ≤ (pairSum a b).2 ∧ (pairSum a b).2 ≤ 6) ∧ step7 (restPlace (pairSum a b).1) (pairSum a b).2 = sumPl (restPlace a) (restPlace b) ∧
    pairSum b a = pairSum a b ∧ (addrOf (sumPl (restPlace a) (restPlace b))).length ≤ 2 := by
  have h := pair_all ⟨a.toNat, by omega⟩ ⟨b.toNat, by omega⟩
  simp only [Int.toNat_of_nonneg a0, Int.toNat_of_nonneg b0] at h
  exact h
theorem pair_zero : pairSum 0 0 = (0, 0) := by decide
theorem place_two (c l : Int) : placeOf [c, l] = step7 (restPlace c) l := by
  show step7 (step7 (0, 0) c) l = _
  have e : step7 (0, 0) c = restPlace c := by
    unfold step7 greatOf
    obtain ⟨x, y⟩ := restPlace c
    simp
  rw [e]
end Hx

/-! # addresses turned: plain laws -/
namespace Hx
def turnF (s f : Int) : Int := if f = 0 then 0 else (f - 1 + s) % 6 + 1
theorem turnN_add2 (n : Nat) (p q : Int × Int) : turnN n (sumPl p q) = sumPl (turnN n p) (turnN n q) := by
  induction n with
  | zero => rfl
  | succ n ih =>
    show turn1 (turnN n (sumPl p q)) = sumPl (turn1 (turnN n p)) (turn1 (turnN n q))
    rw [ih]
    simp only [turn1, sumPl, Prod.mk.injEq]
    omega
theorem turnN_great (n : Nat) (p : Int × Int) : turnN n (greatOf p) = greatOf (turnN n p) := by
  induction n with
  | zero => rfl
  | succ n ih =>
    show turn1 (turnN n (greatOf p)) = greatOf (turn1 (turnN n p))
    rw [ih]
    simp only [turn1, greatOf, Prod.mk.injEq]
    omega
theorem step7_sum (p : Int × Int) (f : Int) : step7 p f = sumPl (greatOf p) (restPlace f) := rfl
theorem turnF_all : ∀ f : Fin 7, ∀ s : Fin 6, restPlace (turnF s.val f.val) = turnN s.val (restPlace f.val) ∧ (0 ≤ turnF s.val f.val ∧ turnF s.val f.val ≤ 6) := by decide +kernel
theorem turnF_mod (s f : Int) : turnF s f = turnF (s % 6) f := by
  unfold turnF
  split
  · rfl
  · omega
theorem turnF_facts (s : Int) {f : Int} (h0 : 0 ≤ f) (h1 : f ≤ 6) : restPlace (turnF s f) = turnN (s % 6).toNat (restPlace f) ∧ (0 ≤ turnF s f ∧ turnF s f ≤ 6) := by
  have h := turnF_all ⟨f.toNat, by omega⟩ ⟨(s % 6).toNat, by omega⟩
  simp only [Int.toNat_of_nonneg h0, Int.toNat_of_nonneg (show 0 ≤ s % 6 by omega)] at h
  rw [turnF_mod]
  exact h
theorem figs_turned (s : Int) {fs : List Int} (h : Figs fs) : Figs (fs.map (turnF s)) := fun x hx => by
  obtain ⟨f, hf, rfl⟩ := List.mem_map.mp hx
  exact (turnF_facts s (h f hf).1 (h f hf).2).2
theorem place_turned (s : Int) : ∀ (n : Nat) (fs : List Int), fs.length = n → Figs fs → placeOf (fs.map (turnF s)) = turnN (s % 6).toNat (placeOf fs)
  | 0, fs, h, _ => by
    rw [List.length_eq_zero_iff.mp h]
    have e : ∀ k, turnN k (0, 0) = (0, 0) := fun k => by
      induction k with
      | zero => rfl
      | succ k ih =>
        show turn1 (turnN k (0, 0)) = (0, 0)
        rw [ih]
        rfl
    exact (e _).symm
  | n + 1, fs, h, g => by
    obtain ⟨r, f, rfl⟩ : ∃ r f, fs = r ++ [f] := ⟨fs.dropLast, fs.getLast (by intro z; rw [z] at h; cases h), (List.dropLast_concat_getLast _).symm⟩
    obtain ⟨gr, f0, f1⟩ := figs_snoc g
    have ih := place_turned s n r (by rw [List.length_append] at h; simpa using h) gr
    rw [List.map_append, List.map_cons, List.map_nil, placeOf_snoc, placeOf_snoc, ih, step7_sum, step7_sum, turnN_add2, turnN_great, (turnF_facts s f0 f1).1]
theorem place_great (fs : List Int) : placeOf (fs ++ [0]) = greatOf (placeOf fs) := by
  rw [placeOf_snoc, step7_sum]
  show sumPl _ (0, 0) = _
  unfold sumPl
  simp
end Hx

/-! # sums by columns: plain laws -/
namespace Hx
theorem sumPl_comm (p q : Int × Int) : sumPl p q = sumPl q p := by
  simp only [sumPl, Prod.mk.injEq]
  omega
theorem sumPl_assoc (p q r : Int × Int) : sumPl (sumPl p q) r = sumPl p (sumPl q r) := by
  simp only [sumPl, Prod.mk.injEq]
  omega
theorem sumPl_zero (p : Int × Int) : sumPl p (0, 0) = p := by
  obtain ⟨a, b⟩ := p
  simp [sumPl]
theorem zero_sumPl (p : Int × Int) : sumPl (0, 0) p = p := by
  obtain ⟨a, b⟩ := p
  simp [sumPl]
theorem great_sum (p q : Int × Int) : greatOf (sumPl p q) = sumPl (greatOf p) (greatOf q) := by
  simp only [greatOf, sumPl, Prod.mk.injEq]
  omega
theorem great_zero : greatOf (0, 0) = (0, 0) := rfl
/-- the sum of the rests of some figures -/
def sumR : List Int → Int × Int
  | [] => (0, 0)
  | f :: r => sumPl (restPlace f) (sumR r)
theorem sumR_app (fs gs : List Int) : sumR (fs ++ gs) = sumPl (sumR fs) (sumR gs) := by
  induction fs with
  | nil => exact (zero_sumPl _).symm
  | cons f r ih =>
    show sumPl (restPlace f) (sumR (r ++ gs)) = sumPl (sumPl (restPlace f) (sumR r)) (sumR gs)
    rw [ih, sumPl_assoc]
theorem sumR_one (f : Int) : sumR [f] = restPlace f := sumPl_zero _
def colStep (st : Int × List Int) (f : Int) : Int × List Int := ((pairSum st.1 f).2, if (pairSum st.1 f).1 = 0 then st.2 else st.2 ++ [(pairSum st.1 f).1])
def colOf (fs : List Int) : Int × List Int := fs.foldl colStep (0, [])
theorem colOf_snoc (fs : List Int) (f : Int) : colOf (fs ++ [f]) = colStep (colOf fs) f := by
  unfold colOf
  rw [List.foldl_append]
  rfl
theorem pair_nought : ∀ f : Fin 7, (pairSum 0 f.val).1 = 0 := by decide +kernel
theorem col_facts : ∀ (n : Nat) (fs : List Int), fs.length = n → Figs fs → (0 ≤ (colOf fs).1 ∧ (colOf fs).1 ≤ 6) ∧ Figs (colOf fs).2 ∧ sumR fs = sumPl (restPlace (colOf fs).1) (greatOf (sumR (colOf fs).2)) ∧ (colOf fs).2.length + 1 ≤ max 1 fs.length
  | 0, fs, h, _ => by
    rw [List.length_eq_zero_iff.mp h]
    exact ⟨by decide, (by intro x hx; cases hx), by decide, by decide⟩
  | n + 1, fs, h, g => by
    obtain ⟨r, f, rfl⟩ : ∃ r f, fs = r ++ [f] := ⟨fs.dropLast, fs.getLast (by intro z; rw [z] at h; cases h), (List.dropLast_concat_getLast _).symm⟩
    obtain ⟨gr, f0, f1⟩ := figs_snoc g
    have hr : r.length = n := by rw [List.length_append] at h; simpa using h
    obtain ⟨⟨l0, l1⟩, hc, hs, hn⟩ := col_facts n r hr gr
    obtain ⟨⟨c0, c1⟩, ⟨m0, m1⟩, e, _, _⟩ := pair_facts l0 l1 f0 f1
    rw [colOf_snoc]
    refine ⟨⟨m0, m1⟩, ?_, ?_, ?_⟩
    · show Figs (if _ then _ else _)
      split
      · exact hc
      · exact figs_app hc (figs_one c0 c1)
    · rw [sumR_app, sumR_one, hs]
      have e2 : sumPl (restPlace (colOf r).1) (restPlace f) = sumPl (greatOf (restPlace (pairSum (colOf r).1 f).1)) (restPlace (pairSum (colOf r).1 f).2) := by rw [← e, step7_sum]
      have e3 : sumR (colStep (colOf r) f).2 = sumPl (sumR (colOf r).2) (restPlace (pairSum (colOf r).1 f).1) := by
        show sumR (if _ then _ else _) = _
        split
        · rename_i z
          rw [z]
          exact (sumPl_zero _).symm
        · rw [sumR_app, sumR_one]
      rw [e3, great_sum]
      show _ = sumPl (restPlace (pairSum (colOf r).1 f).2) _
      generalize greatOf (sumR (colOf r).2) = G at *
      generalize greatOf (restPlace (pairSum (colOf r).1 f).1) = P at *
      generalize restPlace (pairSum (colOf r).1 f).2 = L at *
      generalize restPlace (colOf r).1 = A at *
      generalize restPlace f = B at *
      simp only [sumPl, Prod.mk.injEq] at e2 ⊢
      omega
    · show (if _ then _ else _ : List Int).length + 1 ≤ _
      rw [List.length_append]
      by_cases z : r = []
      · subst z
        have h0 := pair_nought ⟨f.toNat, by omega⟩
        simp only [Int.toNat_of_nonneg f0] at h0
        have h1 : (pairSum (colOf []).1 f).1 = 0 := h0
        rw [if_pos h1]
        exact (by decide : 0 + 1 ≤ max 1 (0 + 1))
      · have hp : 0 < r.length := List.length_pos_iff.mpr z
        split
        · show _ ≤ max 1 (r.length + 1)
          omega
        · rw [List.length_append]
          show (colOf r).2.length + 1 + 1 ≤ max 1 (r.length + 1)
          omega
/-- a row's place, its lowest figure first -/
def vLow : List Int → Int × Int
  | [] => (0, 0)
  | f :: r => step7 (vLow r) f
theorem vLow_place (l : List Int) : vLow l = placeOf l.reverse := by
  induction l with
  | nil => rfl
  | cons f r ih =>
    rw [List.reverse_cons, placeOf_snoc, ← ih]
    rfl
def sumRows : List (List Int) → Int × Int
  | [] => (0, 0)
  | r :: rs => sumPl (vLow r) (sumRows rs)
def headsAt (rows : List (List Int)) (k : Nat) : List Int := rows.filterMap fun r => r[k]?
def dropsAt (rows : List (List Int)) (k : Nat) : List (List Int) := rows.map fun r => r.drop k
theorem rows_step (rows : List (List Int)) (k : Nat) : sumRows (dropsAt rows k) = sumPl (sumR (headsAt rows k)) (greatOf (sumRows (dropsAt rows (k + 1)))) := by
  induction rows with
  | nil => rfl
  | cons r rs ih =>
    show sumPl (vLow (r.drop k)) (sumRows (dropsAt rs k)) = sumPl (sumR (List.filterMap (fun r : List Int => r[k]?) (r :: rs))) (greatOf (sumPl (vLow (r.drop (k + 1))) (sumRows (dropsAt rs (k + 1)))))
    rw [ih, great_sum]
    by_cases h : k < r.length
    · have e : List.filterMap (fun r : List Int => r[k]?) (r :: rs) = r[k] :: headsAt rs k := by rw [List.filterMap_cons, List.getElem?_eq_getElem h]; rfl
      rw [e, List.drop_eq_getElem_cons h]
      show sumPl (sumPl (greatOf (vLow (r.drop (k + 1)))) (restPlace r[k])) _ = sumPl (sumPl (restPlace r[k]) (sumR (headsAt rs k))) _
      generalize greatOf (vLow (r.drop (k + 1))) = A
      generalize restPlace r[k] = B
      generalize sumR (headsAt rs k) = C
      generalize greatOf (sumRows (dropsAt rs (k + 1))) = D
      simp only [sumPl, Prod.mk.injEq]
      omega
    · have e : List.filterMap (fun r : List Int => r[k]?) (r :: rs) = headsAt rs k := by rw [List.filterMap_cons, List.getElem?_eq_none (by omega)]; rfl
      rw [e, List.drop_eq_nil_of_le (by omega), List.drop_eq_nil_of_le (by omega)]
      show sumPl (0, 0) _ = sumPl _ (sumPl (greatOf (0, 0)) _)
      rw [great_zero, zero_sumPl, zero_sumPl]
theorem rows_end {rows : List (List Int)} {k : Nat} (h : ∀ r ∈ rows, r.length ≤ k) : sumRows (dropsAt rows k) = (0, 0) := by
  induction rows with
  | nil => rfl
  | cons r rs ih =>
    show sumPl (vLow (r.drop k)) (sumRows (dropsAt rs k)) = _
    rw [List.drop_eq_nil_of_le (h r (by simp)), ih fun x hx => h x (by simp [hx])]
    rfl
theorem drops_zero (rows : List (List Int)) : dropsAt rows 0 = rows := by
  unfold dropsAt
  simp
/-- what stands in out, and the rest above it -/
def comb : List Int → Int × Int → Int × Int
  | [], p => p
  | o :: r, p => step7 (comb r p) o
theorem comb_snoc (out : List Int) (x : Int) (p : Int × Int) : comb (out ++ [x]) p = comb out (step7 p x) := by
  induction out with
  | nil => rfl
  | cons o r ih =>
    show step7 (comb (r ++ [x]) p) o = step7 (comb r (step7 p x)) o
    rw [ih]
theorem comb_zero (out : List Int) : comb out (0, 0) = vLow out := by
  induction out with
  | nil => rfl
  | cons o r ih =>
    show step7 (comb r (0, 0)) o = step7 (vLow r) o
    rw [ih]
theorem comb_step {out carried : List Int} {rows : List (List Int)} {k : Nat} (h : Figs (carried ++ headsAt rows k)) :
    comb (out ++ [(colOf (carried ++ headsAt rows k)).1]) (sumPl (sumR (colOf (carried ++ headsAt rows k)).2) (sumRows (dropsAt rows (k + 1)))) = comb out (sumPl (sumR carried) (sumRows (dropsAt rows k))) := by
  obtain ⟨_, _, hs, _⟩ := col_facts _ _ rfl h
  rw [comb_snoc, rows_step rows k, ← sumPl_assoc, ← sumR_app, hs, step7_sum, great_sum]
  congr 1
  generalize greatOf (sumR (colOf (carried ++ headsAt rows k)).2) = A
  generalize greatOf (sumRows (dropsAt rows (k + 1))) = B
  generalize restPlace (colOf (carried ++ headsAt rows k)).1 = C
  simp only [sumPl, Prod.mk.injEq]
  omega
theorem figs_heads {rows : List (List Int)} (h : ∀ r ∈ rows, Figs r) (k : Nat) : Figs (headsAt rows k) := fun f hf => by
  obtain ⟨r, hr, e⟩ := List.mem_filterMap.mp hf
  exact h r hr f (List.mem_of_getElem? e)
theorem heads_len (rows : List (List Int)) (k : Nat) : (headsAt rows k).length ≤ rows.length := List.length_filterMap_le _ _
theorem heads_none {rows : List (List Int)} {k : Nat} (h : ∀ r ∈ rows, r.length ≤ k) : headsAt rows k = [] := by
  unfold headsAt
  rw [List.filterMap_eq_nil_iff]
  intro r hr
  exact List.getElem?_eq_none (h r hr)
theorem heads_snoc {rows : List (List Int)} {i : Nat} {r : List Int} (k : Nat) (h : rows[i]? = some r) : headsAt (rows.take (i + 1)) k = headsAt (rows.take i) k ++ (match r[k]? with | some x => [x] | none => []) := by
  unfold headsAt
  rw [take_snoc h, List.filterMap_append]
  congr 1
  rw [List.filterMap_cons]
  cases r[k]? <;> rfl
end Hx

/-! # products: plain laws -/
namespace Hx
def mulPl (p q : Int × Int) : Int × Int := (p.1 * q.1 - p.2 * q.2, p.1 * q.2 + p.2 * q.1 + p.2 * q.2)
theorem mul_add (p q r : Int × Int) : mulPl p (sumPl q r) = sumPl (mulPl p q) (mulPl p r) := by
  simp only [mulPl, sumPl, Prod.mk.injEq]
  constructor <;> grind
theorem mul_great (p q : Int × Int) : mulPl p (greatOf q) = greatOf (mulPl p q) := by
  simp only [mulPl, greatOf, Prod.mk.injEq]
  constructor <;> grind
theorem mul_comm' (p q : Int × Int) : mulPl p q = mulPl q p := by
  simp only [mulPl, Prod.mk.injEq]
  constructor <;> grind
theorem mul_zero' (p : Int × Int) : mulPl p (0, 0) = (0, 0) := by
  simp [mulPl]
theorem mul_one' (p : Int × Int) : mulPl p (1, 0) = p := by
  obtain ⟨a, b⟩ := p
  simp [mulPl]
theorem mul_turn1 (p q : Int × Int) : mulPl p (turn1 q) = turn1 (mulPl p q) := by
  simp only [mulPl, turn1, Prod.mk.injEq]
  constructor <;> grind
theorem mul_turnN (n : Nat) (p q : Int × Int) : mulPl p (turnN n q) = turnN n (mulPl p q) := by
  induction n with
  | zero => rfl
  | succ n ih =>
    show mulPl p (turn1 (turnN n q)) = turn1 (turnN n (mulPl p q))
    rw [mul_turn1, ih]
theorem rest_turn : ∀ f : Fin 6, restPlace ((f.val : Int) + 1) = turnN f.val (1, 0) := by decide
theorem mul_rest (p : Int × Int) {f : Int} (h0 : f ≠ 0) (h1 : 0 ≤ f) (h2 : f ≤ 6) : mulPl p (restPlace f) = turnN (((f - 1) % 6).toNat) p := by
  have h := rest_turn ⟨(f - 1).toNat, by omega⟩
  simp only [Int.toNat_of_nonneg (show 0 ≤ f - 1 by omega)] at h
  rw [show f - 1 + 1 = f by omega] at h
  rw [h, mul_turnN, mul_one', show (f - 1) % 6 = f - 1 by omega]
def greatN : Nat → Int × Int → Int × Int
  | 0, p => p
  | n + 1, p => greatOf (greatN n p)
theorem greatN_in (n : Nat) (p : Int × Int) : greatN n (greatOf p) = greatOf (greatN n p) := by
  induction n with
  | zero => rfl
  | succ n ih =>
    show greatOf (greatN n (greatOf p)) = greatOf (greatOf (greatN n p))
    rw [ih]
theorem mul_greatN (n : Nat) (p q : Int × Int) : mulPl p (greatN n q) = greatN n (mulPl p q) := by
  induction n with
  | zero => rfl
  | succ n ih =>
    show mulPl p (greatOf (greatN n q)) = greatOf (greatN n (mulPl p q))
    rw [mul_great, ih]
theorem greatN_zero (n : Nat) : greatN n (0, 0) = (0, 0) := by
  induction n with
  | zero => rfl
  | succ n ih =>
    show greatOf (greatN n (0, 0)) = _
    rw [ih]
    rfl
theorem vLow_snoc (l : List Int) (f : Int) : vLow (l ++ [f]) = sumPl (vLow l) (greatN l.length (restPlace f)) := by
  induction l with
  | nil =>
    show step7 (0, 0) f = sumPl (0, 0) (restPlace f)
    rw [step7_sum, great_zero]
  | cons x r ih =>
    show step7 (vLow (r ++ [f])) x = sumPl (step7 (vLow r) x) (greatOf (greatN r.length (restPlace f)))
    rw [step7_sum, step7_sum, ih, great_sum]
    generalize greatOf (vLow r) = A
    generalize greatOf (greatN r.length (restPlace f)) = B
    generalize restPlace x = C
    simp only [sumPl, Prod.mk.injEq]
    omega
theorem vLow_zeros (k : Nat) (l : List Int) : vLow (List.replicate k 0 ++ l) = greatN k (vLow l) := by
  induction k with
  | zero => rfl
  | succ k ih =>
    rw [List.replicate_succ, List.cons_append]
    show step7 (vLow (List.replicate k 0 ++ l)) 0 = greatOf (greatN k (vLow l))
    rw [step7_sum, ih]
    exact sumPl_zero _
theorem vLow_turned (s : Int) (l : List Int) (h : Figs l) : vLow (l.map (turnF s)) = turnN (s % 6).toNat (vLow l) := by
  rw [vLow_place, vLow_place, ← List.map_reverse, place_turned s _ _ rfl fun x hx => h x (List.mem_reverse.mp hx)]
theorem sumRows_snoc (rows : List (List Int)) (r : List Int) : sumRows (rows ++ [r]) = sumPl (sumRows rows) (vLow r) := by
  induction rows with
  | nil =>
    show sumPl (vLow r) (0, 0) = sumPl (0, 0) (vLow r)
    rw [sumPl_zero, zero_sumPl]
  | cons x rs ih =>
    show sumPl (vLow x) (sumRows (rs ++ [r])) = sumPl (sumPl (vLow x) (sumRows rs)) (vLow r)
    rw [ih, sumPl_assoc]
theorem prod_step {A : List Int} {l : List Int} {f : Int} (hA : Figs A) (h0 : f ≠ 0) (h1 : 0 ≤ f) (h2 : f ≤ 6) : sumPl (mulPl (vLow A) (vLow l)) (vLow (List.replicate l.length 0 ++ A.map (turnF (f - 1)))) = mulPl (vLow A) (vLow (l ++ [f])) := by
  rw [vLow_snoc, mul_add, mul_greatN, mul_rest _ h0 h1 h2, vLow_zeros, vLow_turned _ _ hA]
theorem prod_nought {A : List Int} {l : List Int} : mulPl (vLow A) (vLow (l ++ [0])) = mulPl (vLow A) (vLow l) := by
  rw [vLow_snoc]
  show mulPl _ (sumPl _ (greatN _ (0, 0))) = _
  rw [greatN_zero, sumPl_zero]
/-- how great a place of so many figures is -/
theorem place_bound : ∀ (n : Nat) (fs : List Int), fs.length = n → Figs fs → (placeOf fs).1.natAbs < 2 ^ (3 * n + 1) ∧ (placeOf fs).2.natAbs < 2 ^ (3 * n + 1)
  | 0, fs, h, _ => by
    rw [List.length_eq_zero_iff.mp h]
    decide
  | n + 1, fs, h, g => by
    obtain ⟨r, f, rfl⟩ : ∃ r f, fs = r ++ [f] := ⟨fs.dropLast, fs.getLast (by intro z; rw [z] at h; cases h), (List.dropLast_concat_getLast _).symm⟩
    obtain ⟨gr, f0, f1⟩ := figs_snoc g
    obtain ⟨i1, i2⟩ := place_bound n r (by rw [List.length_append] at h; simpa using h) gr
    have hr : (-1 ≤ (restPlace f).1 ∧ (restPlace f).1 ≤ 1) ∧ (-1 ≤ (restPlace f).2 ∧ (restPlace f).2 ≤ 1) := by
      obtain rfl | rfl | rfl | rfl | rfl | rfl | rfl := fig_cases f0 f1 <;> decide
    rw [placeOf_snoc]
    have e1 : (step7 (placeOf r) f).1 = 2 * (placeOf r).1 - (placeOf r).2 + (restPlace f).1 := rfl
    have e2 : (step7 (placeOf r) f).2 = (placeOf r).1 + 3 * (placeOf r).2 + (restPlace f).2 := rfl
    have e3 : 2 ^ (3 * (n + 1) + 1) = 8 * 2 ^ (3 * n + 1) := by
      rw [show 3 * (n + 1) + 1 = (3 * n + 1) + 3 by omega, Nat.pow_add]
      omega
    have e4 : 2 ≤ 2 ^ (3 * n + 1) := by
      rw [Nat.pow_succ]
      have := Nat.one_le_two_pow (n := 3 * n)
      omega
    rw [e1, e2, e3]
    omega
theorem place_wide {fs : List Int} (h : Figs fs) (z : fs.length ≤ 60) : (placeOf fs).1.natAbs < 2 ^ 200 ∧ (placeOf fs).2.natAbs < 2 ^ 200 := by
  obtain ⟨a, b⟩ := place_bound _ fs rfl h
  have e : 2 ^ (3 * fs.length + 1) ≤ 2 ^ 200 := Nat.pow_le_pow_right (by decide) (by omega)
  exact ⟨Nat.lt_of_lt_of_le a e, Nat.lt_of_lt_of_le b e⟩
theorem wide200 {a b : Int} (ha : a.natAbs < 2 ^ 200) (hb : b.natAbs < 2 ^ 200) : L2.CMulW a b := L2.wide_mul ha hb (by decide) (by decide) (by decide)
end Hx

/-! # errors of own classes: the facts of a class, raise, call in a try, isinstance of what is caught -/
namespace Hx
open PySem PySem.Spec PyProof.Rows L2
/-- an own class of errors over ValueError: where it stands, what it hands on -/
structure EC (K : PySem.W.Frag) (mg : Str → Option Value) (n : Str) (C : Addr) : Prop where
  g : mg n = some (.ref C)
  x : PySem.W.excIn K C [.type "ValueError", .type "Exception", .type "BaseException", .type "object"] "ValueError.__new__" = true
  k : PySem.W.keepIn K (.ref C) = true
  b : PySem.W.subIn K (.ref C) (.type "BaseException") = some true
  t : PySem.W.typeIn K (.ref C) = some (.type "type")
  e : ExcC K C
  v : PySem.W.kitOne K (.ref C) (.type "ValueError") = some true
/-- whether the class D is one of C -/
structure Rel (K : PySem.W.Frag) (D C : Addr) (b : Bool) : Prop where
  s : PySem.W.subIn K (.ref D) (.ref C) = some b
  i : PySem.W.kitOne K (.ref D) (.ref C) = some b
theorem exm_rel {K : PySem.W.Frag} {mg : Str → Option Value} {n : Str} {C D : Addr} {b : Bool} (e : EC K mg n C) (r : Rel K D C b) : PySem.W.exmOne K (.ref D) (.ref C) = some b :=
  PySem.W.exm_ref e.b e.e.hd e.t r.s
section
variable {X : Cx} {k : Nat} {x : Str} {ps : List Str} {sp : Sp} {p pos : Pos} {e : Expr} {es : List Expr} {t : TA} {W : WX}
theorem pe_fnX (R : Ref X.prog X.w X.K X.mg X.base (L2.CX X.prog X.w) k x ps sp) (hr : Room k X.A) (tk : Takes X W) (ha : PA X (e :: es) t) (hg : Gl X x := by rfl) (hdb : (x == ("__debug__" : Str)) = false := by decide)
    (he : starEach (e :: es) X.env = (false, eval e X.env) :: starEach es X.env := by rfl) (hpl : (backTo pos (starEach es X.env)).any (·.1) = false := by rfl) : PE X (.Call (.Name x p) (e :: es) [] pos) (tCallS sp (WE W) t) := by
  obtain ⟨f, fd, F, g, kp, b⟩ := R.ex
  exact pe_callS F hr hg g kp b (fun σ => passAt tk σ) ha hdb he hpl
end
/-- isinstance(e, c), e what the suite holds, of the class cls -/
def rIsX (K : PySem.W.Frag) (a : Addr) (cls : Value) (d : Option Addr) : List V → Hp → VK → Prop := fun xs H Q => ∃ D, cls = .ref D ∧ d = none ∧ ExcC K D ∧ rIsE K D a xs H Q
theorem call_isX {X : Cx} {a : Addr} {oe : Obj} {cls : Value} {d : Option Addr} {pn : List (Addr × Obj)} (hz : Zc cls d oe) (hf : ∃ vs, oe.data = .fields vs) : CallR (X.suite a ((a, oe) :: pn)) (.builtin "isinstance") (rIsX X.K a cls d) := by
  intro pins s σ H xs us Q I r h
  obtain ⟨D, rfl, rfl, C, h⟩ := h
  exact call_isE C hz hf pins s σ H xs us Q I r h
/-! ### reading -/
theorem w_callS {sp : Sp} {E : L2.St → XK} {t : TA} {σ : L2.St} {H : Hp} {Q : VK} (h : t σ H fun vs H1 => sp vs H1 Q (E σ)) : tCallS sp E t σ H Q := h
theorem r_isX {K : PySem.W.Frag} {a D C : Addr} {b : Bool} {H : Hp} {Q : VK} (e : ExcC K D) (r : Rel K D C b) (q : Q (.bl b) H) : rIsX K a (.ref D) none [.ref a, .ref C] H Q :=
  ⟨D, rfl, rfl, e, _, .ref C, b, rfl, fun _ r => r, r.i, q⟩
theorem r_isV {K : PySem.W.Frag} {a D : Addr} {mg : Str → Option Value} {n : Str} {H : Hp} {Q : VK} (e : EC K mg n D) (q : Q (.bl true) H) : rIsX K a (.ref D) none [.ref a, .ty "ValueError"] H Q :=
  ⟨D, rfl, rfl, e.e, _, .type "ValueError", true, rfl, fun _ r => r, e.v, q⟩
theorem w_as {K : PySem.W.Frag} {c cls : Value} {i : Nat} {ts : Addr → Value → Option Addr → TS} {Wout : WX} {D : Ends} {d : Option Addr} {σ : L2.St} {H : Hp} (e : PySem.W.exmOne K cls c = some true)
    (h : ∀ a, H a = none → ts a cls d { nx := fun σ' H' => D.nx (σ'.set i none) H', rt := D.rt, bk := fun σ' H' => D.bk (σ'.set i none) H', ct := fun σ' H' => D.ct (σ'.set i none) H' } (σ.set i (some (.ref a))) H) :
    wAs K c i ts Wout D cls d σ H := ⟨true, e, fun _ => h, fun z => nomatch z⟩
theorem w_only {K : PySem.W.Frag} {c cls : Value} {ts : Addr → Value → Option Addr → TS} {Wout : WX} {D : Ends} {d : Option Addr} {σ : L2.St} {H : Hp} (e : PySem.W.exmOne K cls c = some true)
    (h : ∀ a, H a = none → ts a cls d D σ H) : wOnly K c ts Wout D cls d σ H := ⟨true, e, fun _ => h, fun z => nomatch z⟩
/-! ### lists of truths -/
theorem canLay_bools : ∀ ns : List Bool, PyData.canLayAll0 (ns.map PyData.bool) = true
  | [] => rfl
  | n :: r => by
    show (true && PyData.canLayAll0 (r.map PyData.bool)) = true
    rw [canLay_bools r]
    rfl
theorem depth_bools : ∀ ns : List Bool, PyData.depthAll (ns.map PyData.bool) = 0
  | [] => rfl
  | n :: r => by
    show max 0 (PyData.depthAll (r.map PyData.bool)) = 0
    rw [depth_bools r]
    rfl
theorem shaped_bools (ns : List Bool) : SeqAt.shaped (.list (ns.map PyData.bool)) = true := by
  have h1 : PyData.canLay0 (.list (ns.map PyData.bool)) = true := by rw [PyData.canLay0]; exact canLay_bools ns
  have h2 : PyData.depth (.list (ns.map PyData.bool)) = 1 := by rw [PyData.depth, depth_bools]
  unfold SeqAt.shaped
  rw [h1, h2]
  rfl
section
variable {K : PySem.W.Frag} {H : Hp} {Q : VK}
theorem dpAll_bools : ∀ ns : List Bool, DpAll K H (ns.map V.bl) (ns.map PyData.bool)
  | [] => .nil
  | n :: r => .cons (.bl n) (dpAll_bools r)
theorem dp_bools {a : Addr} {ns : List Bool} (h : SqL K H a (ns.map V.bl)) : Dp K H (.ref a) (.list (ns.map PyData.bool)) := .lst h (dpAll_bools ns)
theorem eqv_bools : ∀ ns ms : List Bool, PyData.eqvAll (ns.map PyData.bool) (ms.map PyData.bool) = decide (ns = ms)
  | [], [] => rfl
  | [], _ :: _ => rfl
  | _ :: _, [] => rfl
  | n :: r, m :: q => by
    show ((n == m) && PyData.eqvAll (r.map PyData.bool) (q.map PyData.bool)) = _
    rw [eqv_bools r q]
    by_cases h1 : n = m <;> by_cases h2 : r = q <;> simp [h1, h2]
theorem eqv_boolL (ns ms : List Bool) : PyData.eqv (.list (ns.map PyData.bool)) (.list (ms.map PyData.bool)) = decide (ns = ms) := by
  rw [PyData.eqv]
  exact eqv_bools ns ms
theorem r_eqBL {a b : Addr} (ns ms : List Bool) (h1 : SqL K H a (ns.map V.bl)) (h2 : SqL K H b (ms.map V.bl)) (k : Q (.bl (decide (ns = ms))) H) : rEqD K (.ref a) (.ref b) H Q := ⟨_, _, dp_bools h1, dp_bools h2, shaped_bools ns, shaped_bools ms, by rw [eqv_boolL]; exact k⟩
theorem r_neBL {a b : Addr} (ns ms : List Bool) (h1 : SqL K H a (ns.map V.bl)) (h2 : SqL K H b (ms.map V.bl)) (k : Q (.bl (!decide (ns = ms))) H) : rNeD K (.ref a) (.ref b) H Q := ⟨_, _, dp_bools h1, dp_bools h2, shaped_bools ns, shaped_bools ms, by rw [eqv_boolL]; exact k⟩
end
end Hx

/-! # the spiral: plain laws -/
namespace Hx
/-- the first number of a ring -/
def ringStart (k : Int) : Int := 1 + 3 * k * (k - 1)
/-- the place of a number -/
def SpAt (m : Int) (p : Int × Int) : Prop := (m = 0 ∧ p = (0, 0)) ∨ ∃ k a, 1 ≤ k ∧ 0 ≤ a ∧ a < 6 * k ∧ m = ringStart k + a ∧ p = ringAt k a
theorem start_next (k : Int) : ringStart (k + 1) = ringStart k + 6 * k := by
  unfold ringStart
  have e1 : 3 * (k + 1) * (k + 1 - 1) = 3 * (k * k) + 3 * k := by
    rw [show k + 1 - 1 = k by omega, Int.mul_add, Int.add_mul, Int.mul_assoc]
    omega
  have e2 : 3 * k * (k - 1) = 3 * (k * k) - 3 * k := by
    rw [Int.mul_sub, Int.mul_one, Int.mul_assoc]
  omega
theorem start_mono {j k : Int} (h0 : 1 ≤ j) (h : j ≤ k) : ringStart j ≤ ringStart k := by
  obtain ⟨n, rfl⟩ : ∃ n : Nat, k = j + n := ⟨(k - j).toNat, by omega⟩
  induction n with
  | zero => exact Int.le_of_eq (by congr 1; omega)
  | succ n ih =>
    have := start_next (j + (n : Int))
    have e : j + ((n + 1 : Nat) : Int) = j + n + 1 := by omega
    rw [e, this]
    have := ih (by omega)
    omega
theorem start_one : ringStart 1 = 1 := rfl
theorem start_ge {k : Int} (h : 1 ≤ k) : k ≤ ringStart k := by
  have : ∀ n : Nat, (n : Int) + 1 ≤ ringStart ((n : Int) + 1) := fun n => by
    induction n with
    | zero => exact Int.le_refl _
    | succ n ih =>
      have := start_next ((n : Int) + 1)
      rw [show ((n + 1 : Nat) : Int) + 1 = (n : Int) + 1 + 1 by omega, this]
      omega
  have := this (k - 1).toNat
  rw [show (((k - 1).toNat : Nat) : Int) + 1 = k by omega] at this
  exact this
theorem start_pos {k : Int} (h : 1 ≤ k) : 1 ≤ ringStart k := Int.le_trans h (start_ge h)
theorem ring_of {j k m : Int} (hj : 1 ≤ j) (hk : 1 ≤ k) (j0 : ringStart j ≤ m) (j1 : m < ringStart j + 6 * j) (k0 : ringStart k ≤ m) (k1 : m < ringStart k + 6 * k) : j = k := by
  by_cases h : j < k
  · have := start_mono (j := j + 1) (k := k) (by omega) (by omega)
    rw [start_next] at this
    omega
  · by_cases h2 : k < j
    · have := start_mono (j := k + 1) (k := j) (by omega) (by omega)
      rw [start_next] at this
      omega
    · omega
theorem sp_far {m : Int} {p : Int × Int} (h : SpAt m p) : (m = 0 ∧ farOf p = 0) ∨ (1 ≤ farOf p ∧ ringStart (farOf p) ≤ m ∧ m < ringStart (farOf p) + 6 * farOf p) := by
  rcases h with ⟨rfl, rfl⟩ | ⟨k, a, hk, a0, a1, rfl, rfl⟩
  · exact .inl ⟨rfl, rfl⟩
  · rw [ring_far hk a0 a1]
    exact .inr ⟨hk, by omega, by omega⟩
theorem sp_nat {m : Int} {p : Int × Int} (h : SpAt m p) : 0 ≤ m := by
  rcases h with ⟨rfl, _⟩ | ⟨k, a, hk, a0, a1, rfl, _⟩
  · exact Int.le_refl _
  · have := start_pos hk
    omega
/-- one place a number -/
theorem sp_place {m : Int} {p q : Int × Int} (h : SpAt m p) (h2 : SpAt m q) : p = q := by
  rcases h with ⟨rfl, rfl⟩ | ⟨k, a, hk, a0, a1, rfl, rfl⟩
  · rcases h2 with ⟨_, rfl⟩ | ⟨j, b, hj, b0, b1, e, rfl⟩
    · rfl
    · have := start_pos hj
      omega
  · rcases h2 with ⟨e, rfl⟩ | ⟨j, b, hj, b0, b1, e, rfl⟩
    · have := start_pos hk
      omega
    · have ej := ring_of hj hk (m := ringStart k + a) (by omega) (by omega) (by omega) (by omega)
      subst ej
      have : a = b := by omega
      rw [this]
/-- one number a place -/
theorem sp_number {m n : Int} {p : Int × Int} (h : SpAt m p) (h2 : SpAt n p) : m = n := by
  rcases h with ⟨rfl, rfl⟩ | ⟨k, a, hk, a0, a1, rfl, e⟩
  · rcases h2 with ⟨e, _⟩ | ⟨j, b, hj, b0, b1, rfl, e⟩
    · exact e.symm
    · have := ring_far hj b0 b1
      rw [← e] at this
      have z : farOf (0, 0) = 0 := rfl
      omega
  · rcases h2 with ⟨rfl, e2⟩ | ⟨j, b, hj, b0, b1, rfl, e2⟩
    · have := ring_far hk a0 a1
      rw [← e, e2] at this
      have z : farOf (0, 0) = 0 := rfl
      omega
    · have h1 := ring_far hk a0 a1
      have h3 := ring_far hj b0 b1
      rw [← e] at h1
      rw [← e2] at h3
      have : j = k := by omega
      subst this
      rw [ring_inj hk a0 a1 b0 b1 (e.symm.trans e2)]
/-- the side's place that is at: corner and stride -/
def onSide (n : Int) (s : Nat) (al : Int) : Int × Int := ((corner n s).1 + (sideStep s).1 * al, (corner n s).2 + (sideStep s).2 * al)
theorem ring_side {n al : Int} {s : Nat} (hn : 1 ≤ n) (hs : s < 6) (h0 : 0 ≤ al) (h1 : al < n) : ringAt n (s * n + al) = onSide n s al := by
  have e1 : ((s : Int) * n + al) / n = s := by
    rw [Int.add_comm, Int.add_mul_ediv_right _ _ (by omega), Int.ediv_eq_zero_of_lt h0 h1]
    omega
  have e2 : ((s : Int) * n + al) % n = al := by
    rw [Int.add_comm, Int.add_mul_emod_self_right]
    exact Int.emod_eq_of_lt h0 h1
  unfold ringAt onSide
  rw [e1, e2]
  rfl
theorem side_max {s : Nat} (hs : s < 6) {al : Int} (h : 0 ≤ al) : max (((sideStep s).1 * al).natAbs : Int) (((sideStep s).2 * al).natAbs : Int) = al := by
  obtain ⟨s0, s1, s2, s3, s4, s5⟩ := side_is
  obtain rfl | rfl | rfl | rfl | rfl | rfl : s = 0 ∨ s = 1 ∨ s = 2 ∨ s = 3 ∨ s = 4 ∨ s = 5 := by omega
  · rw [s0]; simp only; omega
  · rw [s1]; simp only; omega
  · rw [s2]; simp only; omega
  · rw [s3]; simp only; omega
  · rw [s4]; simp only; omega
  · rw [s5]; simp only; omega
/-- each place of a ring is on a side -/
theorem side_ex {n : Int} {p : Int × Int} (hn : 1 ≤ n) (h : farOf p = n) : ∃ s al, s < 6 ∧ 0 ≤ al ∧ al < n ∧ p = onSide n s al := by
  obtain ⟨c0, c1, c2, c3, c4, c5⟩ := corner_is n
  obtain ⟨s0, s1, s2, s3, s4, s5⟩ := side_is
  obtain ⟨x, y⟩ := p
  unfold farOf at h
  simp only at h
  by_cases g0 : x + y = n ∧ 0 ≤ y ∧ 0 < x
  · refine ⟨0, y, by omega, by omega, by omega, ?_⟩
    unfold onSide; rw [c0, s0]; simp only [Prod.mk.injEq]; omega
  by_cases g1 : y = n ∧ x ≤ 0 ∧ -n < x
  · refine ⟨1, -x, by omega, by omega, by omega, ?_⟩
    unfold onSide; rw [c1, s1]; simp only [Prod.mk.injEq]; omega
  by_cases g2 : x = -n ∧ 0 < y
  · refine ⟨2, n - y, by omega, by omega, by omega, ?_⟩
    unfold onSide; rw [c2, s2]; simp only [Prod.mk.injEq]; omega
  by_cases g3 : x + y = -n ∧ x < 0
  · refine ⟨3, x + n, by omega, by omega, by omega, ?_⟩
    unfold onSide; rw [c3, s3]; simp only [Prod.mk.injEq]; omega
  by_cases g4 : y = -n ∧ x < n
  · refine ⟨4, x, by omega, by omega, by omega, ?_⟩
    unfold onSide; rw [c4, s4]; simp only [Prod.mk.injEq]; omega
  · refine ⟨5, y + n, by omega, by omega, by omega, ?_⟩
    unfold onSide; rw [c5, s5]; simp only [Prod.mk.injEq]; omega
end Hx
namespace Hx
theorem dist_far (p : Int × Int) : distOf p (0, 0) = farOf p := by
  unfold distOf farOf
  simp only [Int.sub_zero]
theorem far_nonneg (p : Int × Int) : 0 ≤ farOf p := by
  unfold farOf
  omega
theorem far_zero {p : Int × Int} (h : farOf p = 0) : p = (0, 0) := by
  obtain ⟨x, y⟩ := p
  unfold farOf at h
  simp only at h
  simp only [Prod.mk.injEq]
  omega
theorem mul3W {n : Int} (h0 : 0 ≤ n) (h : n < 2 ^ 311) : L2.CMulW (3 * n) (n - 1) :=
  L2.wide_mul (a := 313) (b := 312) (by omega) (by omega) (by decide) (by decide) (by decide)
theorem mul3W' {n : Int} (h0 : 0 ≤ n) (h : n < 2 ^ 311) : L2.CMulW (3 * n) (n + 1) :=
  L2.wide_mul (a := 313) (b := 312) (by omega) (by omega) (by decide) (by decide) (by decide)
/-- the next number's place -/
theorem sp_next {m : Int} {p q : Int × Int} (h : SpAt m p) (h2 : SpAt (m + 1) q) : farOf (q.1 - p.1, q.2 - p.2) = 1 ∨ (m = 3 * farOf p * (farOf p + 1) ∧ q = (farOf p + 1, 0)) := by
  rcases h with ⟨rfl, rfl⟩ | ⟨k, a, hk, a0, a1, rfl, rfl⟩
  · refine .inr ⟨rfl, ?_⟩
    exact sp_place h2 (.inr ⟨1, 0, by decide, by decide, by decide, rfl, (ring_first (by decide)).symm⟩)
  · by_cases hl : a + 1 = 6 * k
    · refine .inr ?_
      rw [ring_far hk a0 a1]
      refine ⟨?_, ?_⟩
      · unfold ringStart
        have e1 : 3 * k * (k + 1) = 3 * (k * k) + 3 * k := by rw [Int.mul_add, Int.mul_one, Int.mul_assoc]
        have e2 : 3 * k * (k - 1) = 3 * (k * k) - 3 * k := by rw [Int.mul_sub, Int.mul_one, Int.mul_assoc]
        omega
      · refine sp_place h2 (.inr ⟨k + 1, 0, by omega, by decide, by omega, ?_, (ring_first (by omega)).symm⟩)
        rw [start_next]
        omega
    · refine .inl ?_
      have e := sp_place h2 (.inr ⟨k, a + 1, hk, by omega, by omega, by omega, rfl⟩)
      have hn := ring_next hk a0 a1
      unfold hereAt at hn
      rw [if_neg hl] at hn
      rw [e, hn]
      obtain ⟨s0, s1, s2, s3, s4, s5⟩ := side_is
      have hd := div_bounds hk a0 a1
      have hs : farOf (sideStep (a / k).toNat) = 1 := by
        obtain h | h | h | h | h | h : (a / k).toNat = 0 ∨ (a / k).toNat = 1 ∨ (a / k).toNat = 2 ∨ (a / k).toNat = 3 ∨ (a / k).toNat = 4 ∨ (a / k).toNat = 5 := by omega
        all_goals rw [h]
        all_goals decide
      rw [show ∀ x y z w : Int, farOf (x + y - x, z + w - z) = farOf (y, w) from fun x y z w => by rw [show x + y - x = y by omega, show z + w - z = w by omega]]
      exact hs
/-- the bounds of a place's number -/
theorem sp_bounds {m : Int} {p : Int × Int} (h : SpAt m p) : (farOf p = 0 ∧ m = 0) ∨ (0 < farOf p ∧ 3 * farOf p * (farOf p - 1) < m ∧ m ≤ 3 * farOf p * (farOf p + 1)) := by
  rcases sp_far h with ⟨e, e2⟩ | ⟨e, e2, e3⟩
  · exact .inl ⟨e2, e⟩
  · refine .inr ⟨by omega, ?_, ?_⟩
    · unfold ringStart at e2
      omega
    · unfold ringStart at e3
      have e1 : 3 * farOf p * (farOf p + 1) = 3 * (farOf p * farOf p) + 3 * farOf p := by rw [Int.mul_add, Int.mul_one, Int.mul_assoc]
      have e2 : 3 * farOf p * (farOf p - 1) = 3 * (farOf p * farOf p) - 3 * farOf p := by rw [Int.mul_sub, Int.mul_one, Int.mul_assoc]
      omega
end Hx

/-! # lists of lists of ints as data; sizes -/
namespace Hx
open PySem PySem.Spec PyProof.Rows L2
def rowD (r : List Int) : PyData := .list (r.map PyData.int)
def rowsD (rs : List (List Int)) : PyData := .list (rs.map rowD)
theorem canLay_rows : ∀ rs : List (List Int), PyData.canLayAll0 (rs.map rowD) = true
  | [] => rfl
  | r :: t => by
    show (PyData.canLay0 (rowD r) && PyData.canLayAll0 (t.map rowD)) = true
    rw [canLay_rows t, Bool.and_true]
    unfold rowD
    rw [PyData.canLay0]
    exact canLay_ints r
theorem depth_rows : ∀ rs : List (List Int), PyData.depthAll (rs.map rowD) ≤ 1
  | [] => Nat.zero_le _
  | r :: t => by
    show max (PyData.depth (rowD r)) (PyData.depthAll (t.map rowD)) ≤ 1
    have h1 : PyData.depth (rowD r) = 1 := by
      unfold rowD
      rw [PyData.depth, depth_ints]
    rw [h1]
    have := depth_rows t
    omega
theorem shaped_rows (rs : List (List Int)) : SeqAt.shaped (rowsD rs) = true := by
  have h1 : PyData.canLay0 (rowsD rs) = true := by unfold rowsD; rw [PyData.canLay0]; exact canLay_rows rs
  have h2 : PyData.depth (rowsD rs) ≤ 64 := by
    unfold rowsD
    rw [PyData.depth]
    have := depth_rows rs
    omega
  unfold SeqAt.shaped
  rw [h1, decide_eq_true h2]
  rfl
section
variable {K : PySem.W.Frag} {H : Hp} {Q : VK}
theorem dpAll_rows : ∀ {ws : List V} {rs : List (List Int)}, Rws K H ws rs → DpAll K H ws (rs.map rowD)
  | _, _, .nil => .nil
  | _, _, .cons ⟨_, rfl, h⟩ t => .cons (dp_ints h) (dpAll_rows t)
theorem dp_rows {a : Addr} {ws : List V} {rs : List (List Int)} (h : SqL K H a ws) (g : Rws K H ws rs) : Dp K H (.ref a) (rowsD rs) := .lst h (dpAll_rows g)
theorem eqv_row (r q : List Int) : PyData.eqv (rowD r) (rowD q) = decide (r = q) := eqv_intL r q
theorem eqv_rows : ∀ rs qs : List (List Int), PyData.eqvAll (rs.map rowD) (qs.map rowD) = decide (rs = qs)
  | [], [] => rfl
  | [], _ :: _ => rfl
  | _ :: _, [] => rfl
  | r :: rs, q :: qs => by
    show (PyData.eqv (rowD r) (rowD q) && PyData.eqvAll (rs.map rowD) (qs.map rowD)) = _
    rw [eqv_rows rs qs, eqv_row]
    by_cases h1 : r = q <;> by_cases h2 : rs = qs <;> simp [h1, h2]
theorem eqv_rowsD (rs qs : List (List Int)) : PyData.eqv (rowsD rs) (rowsD qs) = decide (rs = qs) := by
  unfold rowsD
  rw [PyData.eqv]
  exact eqv_rows rs qs
theorem r_eqRws {a b : Addr} {ws us : List V} {rs qs : List (List Int)} (h1 : SqL K H a ws) (g1 : Rws K H ws rs) (h2 : SqL K H b us) (g2 : Rws K H us qs) (k : Q (.bl (decide (rs = qs))) H) : rEqD K (.ref a) (.ref b) H Q :=
  ⟨_, _, dp_rows h1 g1, dp_rows h2 g2, shaped_rows rs, shaped_rows qs, by rw [eqv_rowsD]; exact k⟩
theorem r_neRws {a b : Addr} {ws us : List V} {rs qs : List (List Int)} (h1 : SqL K H a ws) (g1 : Rws K H ws rs) (h2 : SqL K H b us) (g2 : Rws K H us qs) (k : Q (.bl (!decide (rs = qs))) H) : rNeD K (.ref a) (.ref b) H Q :=
  ⟨_, _, dp_rows h1 g1, dp_rows h2 g2, shaped_rows rs, shaped_rows qs, by rw [eqv_rowsD]; exact k⟩
/-- list.insert of ints -/
def rInsert (x : V) (vs : List V) (H : Hp) (Q : VK) : Prop := ∃ (l : Addr) (xs : List V) (i : Int) (y : V), x = .ref l ∧ vs = [.int i, y] ∧ H l = some (.lst xs) ∧ xs.length < sizeLine ∧ 0 ≤ i ∧ i < 2 ^ 63 ∧ Q .non (upd H l (.lst (xs.take i.toNat ++ [y] ++ xs.drop i.toNat)))
theorem mtr_insert {X : Cx} : MtR X "list.insert" rInsert := mt_insert
theorem r_insertI {a : Addr} {ns : List Int} {i y : Int} (h : H a = some (.lst (ns.map V.int))) (z : ns.length ≤ 100000) (h0 : 0 ≤ i) (h1 : i ≤ 100000) (q : Q .non (upd H a (.lst ((ns.take i.toNat ++ [y] ++ ns.drop i.toNat).map V.int)))) : rInsert (.ref a) [.int i, .int y] H Q := by
  refine ⟨a, _, i, _, rfl, rfl, h, Nat.lt_of_le_of_lt (by rw [List.length_map]; exact z) (by decide), h0, by omega, ?_⟩
  rw [List.map_append, List.map_append, List.map_take, List.map_drop] at q
  exact q
end
end Hx

local macro_rules | `(tactic| walk_at "fact") => `(tactic| (with_reducible first
  | assumption
  | exact Hx.Pl.new
  | exact Hx.Tp.new
  | exact Hx.Tp.pl (by assumption)
  | ((refine' Hx.Tp.sm ?hs ?hp); (case hs => first | assumption | exact Hx.same_new (by assumption)); (case hp => walk_at "fact"))
  | ((refine' Hx.Tp.putr ?hs ?hp); (case hs => walk_at "ofc"); (case hp => walk_at "fact"))
  | ((refine' Hx.Tp.putd ?hs ?hp); (case hs => walk_at "ofd"); (case hp => walk_at "fact"))
  | exact Hx.sqT_new
  | exact Hx.sqL_new
  | ((refine' Hx.Pl.sm ?hs ?hp); (case hs => first | assumption | exact Hx.same_new (by assumption)); (case hp => walk_at "fact"))
  | ((refine' Hx.Pl.putr ?hs ?hp); (case hs => walk_at "ofc"); (case hp => walk_at "fact"))
  | ((refine' Hx.Pl.putd ?hs ?hp); (case hs => walk_at "ofd"); (case hp => walk_at "fact"))
  | ((refine' Hx.Pls.putd ?hs ?hp); (case hs => walk_at "ofd"); (case hp => walk_at "fact"))
  | ((refine' Hx.SqT_putd ?hs ?hp); (case hs => walk_at "ofd"); (case hp => walk_at "fact"))
  | ((refine' Hx.SqL_putd ?hs ?hp); (case hs => walk_at "ofd"); (case hp => walk_at "fact"))
  | ((refine' Hx.Pls.sm ?hs ?hp); (case hs => first | assumption | exact Hx.same_new (by assumption)); (case hp => walk_at "fact"))
  | ((refine' Hx.Rws.sm ?hs ?hp); (case hs => first | assumption | exact Hx.same_new (by assumption)); (case hp => walk_at "fact"))
  | ((refine' Hx.Pls.putr ?hs ?hp); (case hs => walk_at "ofc"); (case hp => walk_at "fact"))
  | ((refine' L2.Same.seq ?hs ?hp); (case hs => first | assumption | exact Hx.same_new (by assumption)); (case hp => walk_at "fact"))
  | ((refine' L2.Same.seqT ?hs ?hp); (case hs => first | assumption | exact Hx.same_new (by assumption)); (case hp => walk_at "fact"))
  | ((refine' L2.SqL.of ?hs); (case hs => walk_at "ofact"))
  | ((refine' L2.SqT.of ?hs); (case hs => walk_at "ofact"))
  | ((refine' Hx.SqT_putr ?hs ?hp); (case hs => walk_at "ofc"); (case hp => walk_at "fact"))))
local macro_rules | `(tactic| walk_at "go") => `(tactic| first
  | with_reducible refine Hx.w_seq ?_
  | with_reducible refine Hx.w_op ?_
  | ((with_reducible refine' Hx.w_var ?hv ?_); (case hv => exact rfl))
  | with_reducible refine Hx.w_c ?_
  | with_reducible refine Hx.w_cons ?_
  | with_reducible refine Hx.w_nil ?_
  | with_reducible refine Hx.r_I0 ?_
  | ((with_reducible refine' Hx.r_I ?hc ?_); (case hc => walk_at "ric"))
  | with_reducible refine Hx.w_blk ?_
  | with_reducible refine Hx.w_test ?_
  | with_reducible refine Hx.w_asg ?_
  | with_reducible refine Hx.w_gName ?_
  | with_reducible refine Hx.w_ret ?_
  | with_reducible refine Hx.w_ifS ?_
  | with_reducible refine Hx.w_drop ?_
  | with_reducible refine Hx.w_next ?_
  | with_reducible refine Hx.w_retN ?_
  | with_reducible refine Hx.w_cont ?_
  | with_reducible refine Hx.w_break ?_
  | with_reducible refine Hx.w_un ?_
  | with_reducible refine Hx.r_U ?_
  | ((with_reducible refine' Hx.r_ixP0 ?hp ?_); (case hp => walk_at "fact"))
  | ((with_reducible refine' Hx.r_ixP1 ?hp ?_); (case hp => walk_at "fact"))
  | with_reducible refine Hx.w_tTup ?_
  | with_reducible refine Hx.w_tLst ?_
  | ((with_reducible refine' Hx.w_dispT ?hz fun p hp => ?_); (case hz => exact Nat.le_of_ble_eq_true rfl))
  | with_reducible refine Hx.w_dispL1 fun p hp => ?_
  | with_reducible refine Hx.w_dispL2 fun p hp => ?_
  | ((with_reducible refine' Hx.w_dispL ?hz fun p hp => ?_); (case hz => exact Nat.le_of_ble_eq_true rfl))
  | with_reducible refine Hx.r_eqI ?_
  | with_reducible refine Hx.r_neI ?_
  | with_reducible refine Hx.r_eqB ?_
  | with_reducible refine Hx.r_neB ?_
  | ((with_reducible refine' Hx.r_eqPl ?hp ?hq ?_); (case hp => walk_at "fact"); (case hq => walk_at "fact"))
  | ((with_reducible refine' Hx.r_nePl ?hp ?hq ?_); (case hp => walk_at "fact"); (case hq => walk_at "fact"))
  | ((with_reducible refine' Hx.r_eqIL ?hp ?hq ?_); (case hp => walk_at "fact"); (case hq => walk_at "fact"))
  | ((with_reducible refine' Hx.r_neIL ?hp ?hq ?_); (case hp => walk_at "fact"); (case hq => walk_at "fact"))
  | ((with_reducible refine' Hx.r_rep1 ?hp ?h0 ?h1 ?_); (case hp => walk_at "ofact"); (case h0 => omega); (case h1 => omega); (intro p hp))
  | ((with_reducible refine' Hx.r_rep ?hp ?h0 ?h1 ?hz ?_); (case hp => walk_at "ofact"); (case h0 => omega); (case h1 => omega); (case hz => exact Nat.le_of_ble_eq_true rfl); (intro p hp))
  | ((with_reducible refine' Hx.r_slL ?hp ?_); (case hp => walk_at "fact"); (intro p hp))
  | with_reducible refine Hx.w_call ?_
  | with_reducible refine Hx.w_CB ?_
  | with_reducible refine Hx.w_tB ?_
  | with_reducible refine Hx.w_and ?_
  | with_reducible refine Hx.w_or ?_
  | with_reducible refine Hx.w_not ?_
  | with_reducible refine Hx.w_andV ?_
  | with_reducible refine Hx.w_orV ?_
  | with_reducible refine Hx.w_notV ?_
  | with_reducible refine Hx.w_ifV ?_
  | with_reducible refine Hx.w_chain ?_
  | with_reducible refine Hx.w_BM0 ?_
  | with_reducible refine Hx.w_BM ?_
  | with_reducible refine Hx.w_sl ?_
  | with_reducible refine Hx.w_noPart ?_
  | with_reducible refine Hx.w_part ?_
  | with_reducible refine Hx.w_partI ?_
  | with_reducible refine L2.iteT ?_
  | with_reducible refine L2.iteF ?_
  | with_reducible refine Hx.ite_nt ?_
  | ((with_reducible refine' L2.iteNS ?hc ?_); (case hc => first | exact rfl | assumption | omega))
  | ((with_reducible refine' Hx.ite_eqT ?hc ?_); (case hc => assumption))
  | ((with_reducible refine' Hx.ite_eqF ?hc ?_); (case hc => assumption))
  | ((with_reducible refine' Hx.ite_neT ?hc ?_); (case hc => assumption))
  | ((with_reducible refine' Hx.ite_neF ?hc ?_); (case hc => assumption))
  | ((with_reducible refine' Hx.ite_dT ?hc ?_); (case hc => first | exact rfl | assumption | omega))
  | ((with_reducible refine' Hx.ite_dF ?hc ?_); (case hc => first | assumption | omega))
  | ((with_reducible refine' Hx.ite_ndF ?hc ?_); (case hc => first | assumption | omega))
  | with_reducible refine Hx.ite_nf ?_
  | with_reducible refine Hx.r_max2 ?_
  | with_reducible refine Hx.r_min2 ?_
  | with_reducible refine Hx.r_abs ?_
  | with_reducible refine Hx.r_max3 ?_
  | with_reducible refine Hx.r_isiInt Hx.kit_ii ?_
  | with_reducible refine Hx.r_isiInt Hx.kit_ib ?_
  | with_reducible refine Hx.r_isi (.base (.bl _)) Hx.kit_bb ?_
  | ((with_reducible refine' Hx.r_isiPl ?hp Hx.kit_tt ?_); (case hp => walk_at "fact"))
  | ((with_reducible refine' Hx.r_isiL ?hp Hx.kit_ll ?_); (case hp => walk_at "fact"))
  | with_reducible refine Hx.w_for ?_
  | with_reducible refine Hx.w_rng1 ?_
  | with_reducible refine Hx.w_rng2 ?_
  | with_reducible refine Hx.w_rng3 ?_
  | ((with_reducible refine' Hx.r_rng3 ?hz ?hy ?_); (case hz => omega); (case hy => omega))
  | with_reducible refine Hx.w_truth ?_
  | ((with_reducible refine' Hx.r_truL ?hp ?_); (case' hp => walk_at "fact"))
  | ((with_reducible refine' Hx.r_maxL ?hp ?hn ?_); (case' hp => walk_at "fact"); (case hn => walk_at "size"); (intro m hm hle))
  | with_reducible refine Hx.w_iList ?_
  | with_reducible refine Hx.w_iTup ?_
  | with_reducible refine Hx.w_lc ?_
  | with_reducible refine Hx.w_yes ?_
  | with_reducible refine Hx.w_put1 ?_
  | with_reducible refine Hx.w_put0 ?_
  | ((with_reducible refine' Hx.r_rng1 ?hz ?hy ?_); (case hz => omega); (case hy => omega))
  | ((with_reducible refine' Hx.r_rng2 ?hz ?hy ?_); (case hz => omega); (case hy => omega))
  | ((with_reducible refine' Hx.r_iList ?hp ?_); (case' hp => walk_at "fact"))
  | ((with_reducible refine' Hx.r_iTup ?hp ?_); (case' hp => walk_at "fact"))
  | ((with_reducible refine' Hx.r_ixL ?hp ?ha ?_); (case hp => walk_at "fact"); (case ha => first | assumption | exact rfl))
  | ((with_reducible refine' Hx.r_ixT ?hp ?ha ?_); (case hp => walk_at "fact"); (case ha => first | assumption | exact rfl))
  | ((with_reducible refine' Hx.r_ixLn ?hp ?h0 ?h1 ?_); (case' hp => walk_at "fact"); (case h0 => omega); (case h1 => omega))
  | ((with_reducible refine' Hx.w_tyL ?hp ?_); (case hp => walk_at "fact"))
  | ((with_reducible refine' Hx.r_appendI ?hp ?hz ?_); (case hp => walk_at "ofact"); (case hz => walk_at "size"))
  | ((with_reducible refine' Hx.r_append ?hp ?hz ?_); (case hp => walk_at "ofact"); (case hz => walk_at "size"))
  | ((with_reducible refine' Hx.r_reverseI ?hp ?_); (case hp => walk_at "ofact"))
  | ((with_reducible refine' Hx.r_reverse ?hp ?_); (case hp => walk_at "ofact"))
  | ((with_reducible refine' Hx.r_clear ?hp ?_); (case hp => walk_at "ofact"))
  | ((with_reducible refine' Hx.r_catI ?hp ?hq ?hz ?_); (case hp => walk_at "ofact"); (case hq => walk_at "ofact"); (case hz => walk_at "size"); (intro p hp))
  | ((with_reducible refine' Hx.r_cat ?hp ?hq ?hz ?_); (case hp => walk_at "ofact"); (case hq => walk_at "ofact"); (case hz => walk_at "size"); (intro p hp))
  | ((with_reducible refine' Hx.w_addI ?hp ?hz ?_); (case hp => walk_at "ofact"); (case hz => walk_at "size"))
  | ((with_reducible refine' Hx.w_add ?hp ?hz ?_); (case hp => walk_at "ofact"); (case hz => walk_at "size"))
  | ((with_reducible refine' Hx.r_listL ?hp ?_); (case hp => walk_at "fact"); (intro p hp))
  | ((with_reducible refine' Hx.r_listT ?hp ?_); (case hp => walk_at "fact"); (intro p hp))
  | ((with_reducible refine' Hx.r_tupL ?hp ?_); (case hp => walk_at "fact"); (intro p hp))
  | ((with_reducible refine' Hx.r_tupPl ?hp ?_); (case hp => walk_at "fact"))
  | ((with_reducible refine' Hx.r_tupT ?hp ?_); (case hp => walk_at "fact"))
  | with_reducible refine Hx.r_intI ?_
  | with_reducible refine Hx.w_dIn ?_
  | with_reducible refine Hx.w_dNotIn ?_
  | with_reducible refine Hx.w_dPut ?_
  | with_reducible refine Hx.w_dGet ?_
  | with_reducible refine Hx.w_dNewT fun p hp => ?_
  | ((with_reducible refine' Hx.r_dInP ?hp ?hq ?_); (case hp => walk_at "ofact"); (case hq => walk_at "fact"))
  | ((with_reducible refine' Hx.r_dNotInP ?hp ?hq ?_); (case hp => walk_at "ofact"); (case hq => walk_at "fact"))
  | ((with_reducible refine' Hx.r_dPutP ?hp ?hq ?hz ?_); (case hp => walk_at "ofact"); (case hq => walk_at "fact"); (case hz => walk_at "size"))
  | ((with_reducible refine' Hx.r_dGetP ?hp ?hq ?he ?_); (case hp => walk_at "ofact"); (case hq => walk_at "fact"); (case he => assumption))
  | with_reducible refine Hx.r_intB ?_
  | ((with_reducible refine' Hx.r_lenPl ?hp ?_); (case hp => walk_at "fact"))
  | ((with_reducible refine' Hx.r_lenL ?hp ?_); (case hp => walk_at "fact"))
  | ((with_reducible refine' Hx.r_lenT ?hp ?_); (case hp => walk_at "fact")))
local macro_rules | `(tactic| walk_at "run") => `(tactic| repeat (walk_at "go"))
local macro_rules | `(tactic| walk_at "same") => `(tactic| (with_reducible first
  | assumption
  | exact L2.Same.refl _
  | exact Hx.same_new (by assumption)
  | ((refine' L2.Same.trans ?ha ?hs); (case hs => first | assumption | exact Hx.same_new (by assumption)); (case ha => walk_at "same"))
  | ((refine' L2.Same.mut ?hs ?hn); (case hn => walk_at "free"); (case hs => walk_at "same"))))
local macro_rules | `(tactic| walk_at "ne0") => `(tactic| (with_reducible first
  | assumption
  | exact Ne.symm (by assumption)
  | exact L2.ne_of_none (by assumption) (by assumption)
  | exact Ne.symm (L2.ne_of_none (by assumption) (by assumption))
  | exact Hx.ne_ld (by assumption) (by assumption)
  | exact Hx.ne_lt (by assumption) (by assumption)
  | exact Hx.ne_li (by assumption) (by assumption)
  | exact Hx.ne_lo (by assumption) (by assumption)
  | exact Hx.ne_dl (by assumption) (by assumption)
  | exact Hx.ne_dt (by assumption) (by assumption)
  | exact Hx.ne_di (by assumption) (by assumption)
  | exact Hx.ne_do (by assumption) (by assumption)
  | exact Hx.ne_tl (by assumption) (by assumption)
  | exact Hx.ne_td (by assumption) (by assumption)
  | exact Hx.ne_ti (by assumption) (by assumption)
  | exact Hx.ne_to (by assumption) (by assumption)
  | exact Hx.ne_il (by assumption) (by assumption)
  | exact Hx.ne_id (by assumption) (by assumption)
  | exact Hx.ne_it (by assumption) (by assumption)
  | exact Hx.ne_io (by assumption) (by assumption)
  | exact Hx.ne_ol (by assumption) (by assumption)
  | exact Hx.ne_od (by assumption) (by assumption)
  | exact Hx.ne_ot (by assumption) (by assumption)
  | exact Hx.ne_oi (by assumption) (by assumption)))
local macro_rules | `(tactic| walk_at "ofd") => `(tactic| (with_reducible first
  | assumption
  | ((refine' Hx.same_at ?hs ?hp); (case hs => first | assumption | exact Hx.same_new (by assumption)); (case hp => walk_at "ofd"))))
local macro_rules | `(tactic| walk_at "ofc") => `(tactic| (with_reducible first
  | assumption
  | exact L2.upd_same
  | ((refine' Hx.same_at ?hs ?hp); (case hs => first | assumption | exact Hx.same_new (by assumption)); (case hp => walk_at "ofc"))
  | ((refine' Hx.upd_at ?hn ?hp); (case hn => walk_at "ne0"); (case hp => walk_at "ofc"))))
local macro_rules | `(tactic| walk_at "ne") => `(tactic| (with_reducible first
  | walk_at "ne0"
  | ((refine' L2.ne_of_none ?ha ?hb); (case hb => assumption); (case ha => walk_at "ofc"))
  | ((refine' Ne.symm (L2.ne_of_none ?ha ?hb)); (case hb => assumption); (case ha => walk_at "ofc"))))
local macro_rules | `(tactic| walk_at "ofact") => `(tactic| (with_reducible first
  | assumption
  | exact L2.upd_same
  | ((refine' Hx.same_at ?hs ?hp); (case hs => first | assumption | exact Hx.same_new (by assumption)); (case hp => walk_at "ofact"))
  | ((refine' Hx.upd_at ?hn ?hp); (case hn => walk_at "ne"); (case hp => walk_at "ofact"))))
local macro_rules | `(tactic| walk_at "size") => `(tactic| first
  | assumption
  | exact Nat.le_of_ble_eq_true rfl
  | (simp only [List.length_append, List.length_map, List.length_cons, List.length_nil, List.length_replicate, List.length_take, List.length_drop, List.length_range, List.length_reverse]; omega)
  | omega)
local macro_rules | `(tactic| walk_at "ric") => `(tactic| first
  | exact ⟨by decide, by decide⟩
  | exact .inr ⟨by decide, by decide⟩
  | exact .inl ⟨by omega, by omega⟩
  | exact ⟨by omega, by omega⟩
  | exact ⟨by omega, by assumption⟩
  | exact .inl ⟨by decide, by decide⟩
  | exact ⟨by decide, by decide, by decide⟩
  | ((show (0 : Int) < _); (first | decide | omega))
  | assumption)
local macro_rules | `(tactic| walk_at "free") => `(tactic| (with_reducible first
  | assumption
  | ((refine' L2.Same.free ?hs ?hp); (case' hp => assumption); (case hs => walk_at "same"))))
local macro_rules | `(tactic| walk_at "go") => `(tactic| first
  | with_reducible refine Hx.w_callS ?_
  | ((with_reducible refine' Hx.r_isX ?he ?hr ?_); (case he => exact Hx.EC.e (by assumption)); (case hr => assumption))
  | with_reducible refine Hx.r_isV (by assumption) ?_)
local macro_rules | `(tactic| walk_at "go") => `(tactic| first
  | ((with_reducible refine' Hx.r_insertI ?hp ?hz ?h0 ?h1 ?_); (case hp => walk_at "ofact"); (case hz => walk_at "size"); (case h0 => omega); (case h1 => omega)))
namespace Hx
open PySem PySem.Spec PyProof.Rows L2
def topS (i : Nat) : Stmt := PySem.Challenge.pw_hexaddress_k13_no_figure.main.body.getD i (.Pass ⟨0, 0, 0, 0⟩)
/-! _law_cell_at -/
abbrev s__law_cell_at : Stmt := topS 33
abbrev n__law_cell_at : List Str := ["script", "k"]
abbrev n__law_cell_at_p : List Str := ["script", "k"]
theorem sc__law_cell_at : FnScope n__law_cell_at n__law_cell_at_p (defScope s__law_cell_at) := ⟨rfl, rfl, rfl, by decide +kernel, rfl, by decide +kernel, by decide +kernel⟩
def sp__law_cell_at (K : PySem.W.Frag) : Sp := fun vs H Q _ => ∃ (a : Addr) (ns : List Int) (k : Int), vs = [.ref a, .int k] ∧ SqL K H a (ns.map V.int) ∧ 0 ≤ k ∧ Q (.int (cellAt ns k)) H
theorem c__law_cell_at {K : PySem.W.Frag} {H : Hp} {Q : VK} {E : XK} {a : Addr} {ns : List Int} {k : Int} (h : SqL K H a (ns.map V.int)) (hk : 0 ≤ k) (q : Q (.int (cellAt ns k)) H) : sp__law_cell_at K [.ref a, .int k] H Q E := ⟨a, ns, k, rfl, h, hk, q⟩
/-! see_figures -/
abbrev s_see_figures_X : Stmt := topS 17
abbrev n_see_figures_X : List Str := ["figures", "figure"]
abbrev n_see_figures_X_p : List Str := ["figures"]
theorem sc_see_figures_X : FnScope n_see_figures_X n_see_figures_X_p (defScope s_see_figures_X) := ⟨rfl, rfl, rfl, by decide +kernel, rfl, by decide +kernel, by decide +kernel⟩
def sp_see_figures_X (K : PySem.W.Frag) (c : Addr) : Sp := fun vs H Q E => ∃ a fs, vs = [.ref a] ∧ SqL K H a (fs.map V.int) ∧ (Figs fs → Q .non H) ∧ (¬ Figs fs → E (.ref c) none H)
theorem c_see_figures_X {K : PySem.W.Frag} {c : Addr} {H : Hp} {Q : VK} {E : XK} {a : Addr} {fs : List Int} (h : SqL K H a (fs.map V.int)) (hf : Figs fs) (q : Q .non H) : sp_see_figures_X K c [.ref a] H Q E := ⟨a, fs, rfl, h, fun _ => q, fun z => absurd hf z⟩
theorem c_see_figures_N {K : PySem.W.Frag} {c : Addr} {H : Hp} {Q : VK} {E : XK} {a : Addr} {fs : List Int} (h : SqL K H a (fs.map V.int)) (hf : ¬ Figs fs) (q : E (.ref c) none H) : sp_see_figures_X K c [.ref a] H Q E := ⟨a, fs, rfl, h, fun z => absurd z hf, fun _ => q⟩
/-! added -/
abbrev s_added : Stmt := topS 8
abbrev n_added : List Str := ["one", "other"]
abbrev n_added_p : List Str := ["one", "other"]
theorem sc_added : FnScope n_added n_added_p (defScope s_added) := ⟨rfl, rfl, rfl, by decide +kernel, rfl, by decide +kernel, by decide +kernel⟩
def sp_added (K : PySem.W.Frag) : Sp := fun vs H Q _ => ∃ v1 v2 p1 p2, vs = [v1, v2] ∧ Pl K H v1 p1 ∧ Pl K H v2 p2 ∧ ∀ v H', Same H H' → Pl K H' v (p1.1 + p2.1, p1.2 + p2.2) → Q v H'
theorem c_added {K : PySem.W.Frag} {H : Hp} {Q : VK} {E : XK} {v1 v2 : V} {p1 p2 : Int × Int} (h1 : Pl K H v1 p1) (h2 : Pl K H v2 p2) (q : ∀ v H', Same H H' → Pl K H' v (p1.1 + p2.1, p1.2 + p2.2) → Q v H') : sp_added K [v1, v2] H Q E := ⟨v1, v2, p1, p2, rfl, h1, h2, q⟩
/-! step -/
abbrev s_step : Stmt := topS 9
abbrev n_step : List Str := ["direction"]
abbrev n_step_p : List Str := ["direction"]
theorem sc_step : FnScope n_step n_step_p (defScope s_step) := ⟨rfl, rfl, rfl, by decide +kernel, rfl, by decide +kernel, by decide +kernel⟩
def sp_step (K : PySem.W.Frag) : Sp := fun vs H Q _ => ∃ d, vs = [.int d] ∧ 1 ≤ d ∧ d ≤ 6 ∧ ∀ v, Pl K H v (stepOf d) → Q v H
theorem c_step {K : PySem.W.Frag} {H : Hp} {Q : VK} {E : XK} {d : Int} (h0 : 1 ≤ d) (h1 : d ≤ 6) (q : ∀ v, Pl K H v (stepOf d) → Q v H) : sp_step K [.int d] H Q E := ⟨d, rfl, h0, h1, q⟩
/-! rest_place -/
abbrev s_rest_place : Stmt := topS 14
abbrev n_rest_place : List Str := ["figure"]
abbrev n_rest_place_p : List Str := ["figure"]
theorem sc_rest_place : FnScope n_rest_place n_rest_place_p (defScope s_rest_place) := ⟨rfl, rfl, rfl, by decide +kernel, rfl, by decide +kernel, by decide +kernel⟩
def sp_rest_place (K : PySem.W.Frag) : Sp := fun vs H Q _ => ∃ f, vs = [.int f] ∧ 0 ≤ f ∧ f ≤ 6 ∧ ∀ v H', Same H H' → Pl K H' v (restPlace f) → Q v H'
theorem c_rest_place {K : PySem.W.Frag} {H : Hp} {Q : VK} {E : XK} {f : Int} (h0 : 0 ≤ f) (h1 : f ≤ 6) (q : ∀ v H', Same H H' → Pl K H' v (restPlace f) → Q v H') : sp_rest_place K [.int f] H Q E := ⟨f, rfl, h0, h1, q⟩
/-! great -/
abbrev s_great : Stmt := topS 12
abbrev n_great : List Str := ["place"]
abbrev n_great_p : List Str := ["place"]
theorem sc_great : FnScope n_great n_great_p (defScope s_great) := ⟨rfl, rfl, rfl, by decide +kernel, rfl, by decide +kernel, by decide +kernel⟩
def sp_great (K : PySem.W.Frag) : Sp := fun vs H Q _ => ∃ v1 p1, vs = [v1] ∧ Pl K H v1 p1 ∧ ∀ v H', Same H H' → Pl K H' v (greatOf p1) → Q v H'
theorem c_great {K : PySem.W.Frag} {H : Hp} {Q : VK} {E : XK} {v1 : V} {p1 : Int × Int} (h1 : Pl K H v1 p1) (q : ∀ v H', Same H H' → Pl K H' v (greatOf p1) → Q v H') : sp_great K [v1] H Q E := ⟨v1, p1, rfl, h1, q⟩
/-! place_of -/
abbrev s_place_of_X : Stmt := topS 18
abbrev n_place_of_X : List Str := ["figures", "place", "figure"]
abbrev n_place_of_X_p : List Str := ["figures"]
theorem sc_place_of_X : FnScope n_place_of_X n_place_of_X_p (defScope s_place_of_X) := ⟨rfl, rfl, rfl, by decide +kernel, rfl, by decide +kernel, by decide +kernel⟩
def sp_place_of_X (K : PySem.W.Frag) (c : Addr) : Sp := fun vs H Q E => ∃ a fs, vs = [.ref a] ∧ SqL K H a (fs.map V.int) ∧ (Figs fs → ∀ v H', Same H H' → Pl K H' v (placeOf fs) → Q v H') ∧ (¬ Figs fs → E (.ref c) none H)
/-! rest -/
abbrev s_rest : Stmt := topS 13
abbrev n_rest : List Str := ["place"]
abbrev n_rest_p : List Str := ["place"]
theorem sc_rest : FnScope n_rest n_rest_p (defScope s_rest) := ⟨rfl, rfl, rfl, by decide +kernel, rfl, by decide +kernel, by decide +kernel⟩
def sp_rest (K : PySem.W.Frag) : Sp := fun vs H Q _ => ∃ v1 p1, vs = [v1] ∧ Pl K H v1 p1 ∧ Q (.int (restOf p1)) H
theorem c_rest {K : PySem.W.Frag} {H : Hp} {Q : VK} {E : XK} {v1 : V} {p1 : Int × Int} (h1 : Pl K H v1 p1) (q : Q (.int (restOf p1)) H) : sp_rest K [v1] H Q E := ⟨v1, p1, rfl, h1, q⟩
/-! centre -/
abbrev s_centre : Stmt := topS 15
abbrev n_centre : List Str := ["place", "near", "q", "r"]
abbrev n_centre_p : List Str := ["place"]
theorem sc_centre : FnScope n_centre n_centre_p (defScope s_centre) := ⟨rfl, rfl, rfl, by decide +kernel, rfl, by decide +kernel, by decide +kernel⟩
def sp_centre (K : PySem.W.Frag) : Sp := fun vs H Q _ => ∃ v1 p1, vs = [v1] ∧ Pl K H v1 p1 ∧ ∀ v H', Same H H' → Pl K H' v (centreOf p1) → Q v H'
theorem c_centre {K : PySem.W.Frag} {H : Hp} {Q : VK} {E : XK} {v1 : V} {p1 : Int × Int} (h1 : Pl K H v1 p1) (q : ∀ v H', Same H H' → Pl K H' v (centreOf p1) → Q v H') : sp_centre K [v1] H Q E := ⟨v1, p1, rfl, h1, q⟩
/-! address -/
abbrev s_address : Stmt := topS 16
abbrev n_address : List Str := ["place", "figures"]
abbrev n_address_p : List Str := ["place"]
theorem sc_address : FnScope n_address n_address_p (defScope s_address) := ⟨rfl, rfl, rfl, by decide +kernel, rfl, by decide +kernel, by decide +kernel⟩
def sp_address (K : PySem.W.Frag) : Sp := fun vs H Q _ => ∃ v1 p1, vs = [v1] ∧ Pl K H v1 p1 ∧ (addrOf p1).length ≤ 100000 ∧ ∀ l H', Same H H' → H l = none → H' l = some (.lst ((addrOf p1).map V.int)) → Q (.ref l) H'
theorem c_address {K : PySem.W.Frag} {H : Hp} {Q : VK} {E : XK} {v1 : V} {p1 : Int × Int} (h1 : Pl K H v1 p1) (hz : (addrOf p1).length ≤ 100000) (q : ∀ l H', Same H H' → H l = none → H' l = some (.lst ((addrOf p1).map V.int)) → Q (.ref l) H') : sp_address K [v1] H Q E := ⟨v1, p1, rfl, h1, hz, q⟩
/-! pair_sum -/
abbrev s_pair_sum : Stmt := topS 20
abbrev n_pair_sum : List Str := ["one", "other", "row"]
abbrev n_pair_sum_p : List Str := ["one", "other"]
theorem sc_pair_sum : FnScope n_pair_sum n_pair_sum_p (defScope s_pair_sum) := ⟨rfl, rfl, rfl, by decide +kernel, rfl, by decide +kernel, by decide +kernel⟩
def sp_pair_sum (K : PySem.W.Frag) : Sp := fun vs H Q _ => ∃ a b : Int, vs = [.int a, .int b] ∧ (0 ≤ a ∧ a ≤ 6) ∧ (0 ≤ b ∧ b ≤ 6) ∧ ∀ v H', Same H H' → Pl K H' v (pairSum a b) → Q v H'
theorem c_pair_sum {K : PySem.W.Frag} {H : Hp} {Q : VK} {E : XK} {a b : Int} (h1 : 0 ≤ a ∧ a ≤ 6) (h2 : 0 ≤ b ∧ b ≤ 6) (q : ∀ v H', Same H H' → Pl K H' v (pairSum a b) → Q v H') : sp_pair_sum K [.int a, .int b] H Q E := ⟨a, b, rfl, h1, h2, q⟩
/-! column -/
abbrev s_column : Stmt := topS 23
abbrev n_column : List Str := ["figures", "left", "carried", "figure", "pair"]
abbrev n_column_p : List Str := ["figures"]
theorem sc_column : FnScope n_column n_column_p (defScope s_column) := ⟨rfl, rfl, rfl, by decide +kernel, rfl, by decide +kernel, by decide +kernel⟩
def sp_column (K : PySem.W.Frag) : Sp := fun vs H Q _ => ∃ (a : Addr) (fs : List Int), vs = [.ref a] ∧ SqL K H a (fs.map V.int) ∧ Figs fs ∧ fs.length ≤ 100000 ∧ ∀ t l H', Same H H' → H l = none → H' t = some (.tup [.int (colOf fs).1, .ref l]) → H' l = some (.lst ((colOf fs).2.map V.int)) → Q (.ref t) H'
theorem c_column {K : PySem.W.Frag} {H : Hp} {Q : VK} {E : XK} {a : Addr} {fs : List Int} (h : SqL K H a (fs.map V.int)) (hf : Figs fs) (hz : fs.length ≤ 100000) (q : ∀ t l H', Same H H' → H l = none → H' t = some (.tup [.int (colOf fs).1, .ref l]) → H' l = some (.lst ((colOf fs).2.map V.int)) → Q (.ref t) H') : sp_column K [.ref a] H Q E := ⟨a, fs, rfl, h, hf, hz, q⟩
/-! bare -/
abbrev s_bare : Stmt := topS 22
abbrev n_bare : List Str := ["figures", "at"]
abbrev n_bare_p : List Str := ["figures"]
theorem sc_bare : FnScope n_bare n_bare_p (defScope s_bare) := ⟨rfl, rfl, rfl, by decide +kernel, rfl, by decide +kernel, by decide +kernel⟩
def sp_bare (K : PySem.W.Frag) : Sp := fun vs H Q _ => ∃ a fs, vs = [.ref a] ∧ SqL K H a (fs.map V.int) ∧ ∀ l H', Same H H' → H l = none → H' l = some (.lst ((bareL fs).map V.int)) → Q (.ref l) H'
theorem c_bare {K : PySem.W.Frag} {H : Hp} {Q : VK} {E : XK} {a : Addr} {fs : List Int} (h : SqL K H a (fs.map V.int)) (q : ∀ l H', Same H H' → H l = none → H' l = some (.lst ((bareL fs).map V.int)) → Q (.ref l) H') : sp_bare K [.ref a] H Q E := ⟨a, fs, rfl, h, q⟩
/-! columns_sum -/
abbrev s_columns_sum : Stmt := topS 24
abbrev n_columns_sum : List Str := ["rows", "out", "carried", "at", "here", "found", "row"]
abbrev n_columns_sum_p : List Str := ["rows"]
theorem sc_columns_sum : FnScope n_columns_sum n_columns_sum_p (defScope s_columns_sum) := ⟨rfl, rfl, rfl, by decide +kernel, rfl, by decide +kernel, by decide +kernel⟩
def sp_columns_sum (K : PySem.W.Frag) : Sp := fun vs H Q _ => ∃ (a : Addr) (ws : List V) (rows : List (List Int)), vs = [.ref a] ∧ SqL K H a ws ∧ Rws K H ws rows ∧ (∀ r ∈ rows, Figs r ∧ r.length ≤ 300) ∧ 0 < rows.length ∧ rows.length ≤ 50 ∧ ∀ l H', Same H H' → H l = none → H' l = some (.lst ((addrOf (sumRows rows)).map V.int)) → (addrOf (sumRows rows)).length ≤ 50000 → Q (.ref l) H'
theorem c_columns_sum {K : PySem.W.Frag} {H : Hp} {Q : VK} {E : XK} {a : Addr} {ws : List V} {rows : List (List Int)} (h : SqL K H a ws) (h2 : Rws K H ws rows) (h3 : ∀ r ∈ rows, Figs r ∧ r.length ≤ 300) (h4 : 0 < rows.length) (h5 : rows.length ≤ 50) (q : ∀ l H', Same H H' → H l = none → H' l = some (.lst ((addrOf (sumRows rows)).map V.int)) → (addrOf (sumRows rows)).length ≤ 50000 → Q (.ref l) H') : sp_columns_sum K [.ref a] H Q E := ⟨a, ws, rows, rfl, h, h2, h3, h4, h5, q⟩
/-! low_first -/
abbrev s_low_first : Stmt := topS 25
abbrev n_low_first : List Str := ["figures", "k"]
abbrev n_low_first_p : List Str := ["figures"]
theorem sc_low_first : FnScope n_low_first n_low_first_p (defScope s_low_first) := ⟨rfl, rfl, rfl, by decide +kernel, rfl, by decide +kernel, by decide +kernel⟩
def sp_low_first (K : PySem.W.Frag) : Sp := fun vs H Q _ => ∃ (a : Addr) (fs : List Int), vs = [.ref a] ∧ SqL K H a (fs.map V.int) ∧ fs.length ≤ 100000 ∧ ∀ l H', Same H H' → H l = none → H' l = some (.lst (fs.reverse.map V.int)) → Q (.ref l) H'
theorem c_low_first {K : PySem.W.Frag} {H : Hp} {Q : VK} {E : XK} {a : Addr} {fs : List Int} (h : SqL K H a (fs.map V.int)) (hz : fs.length ≤ 100000) (q : ∀ l H', Same H H' → H l = none → H' l = some (.lst (fs.reverse.map V.int)) → Q (.ref l) H') : sp_low_first K [.ref a] H Q E := ⟨a, fs, rfl, h, hz, q⟩
/-! address_sum -/
abbrev s_address_sum_X : Stmt := topS 27
abbrev n_address_sum_X : List Str := ["one", "other"]
abbrev n_address_sum_X_p : List Str := ["one", "other"]
theorem sc_address_sum_X : FnScope n_address_sum_X n_address_sum_X_p (defScope s_address_sum_X) := ⟨rfl, rfl, rfl, by decide +kernel, rfl, by decide +kernel, by decide +kernel⟩
def sp_address_sum_X (K : PySem.W.Frag) (c : Addr) : Sp := fun vs H Q E => ∃ (a b : Addr) (fs gs : List Int), vs = [.ref a, .ref b] ∧ SqL K H a (fs.map V.int) ∧ SqL K H b (gs.map V.int) ∧ fs.length ≤ 300 ∧ gs.length ≤ 300 ∧ (Figs fs → Figs gs → ∀ l H', Same H H' → H l = none → H' l = some (.lst ((addrOf ((placeOf fs).1 + (placeOf gs).1, (placeOf fs).2 + (placeOf gs).2)).map V.int)) → (addrOf ((placeOf fs).1 + (placeOf gs).1, (placeOf fs).2 + (placeOf gs).2)).length ≤ 50000 → Q (.ref l) H') ∧ (¬ (Figs fs ∧ Figs gs) → E (.ref c) none H)
/-! see_figures -/
abbrev s_see_figures : Stmt := topS 17
abbrev n_see_figures : List Str := ["figures", "figure"]
abbrev n_see_figures_p : List Str := ["figures"]
theorem sc_see_figures : FnScope n_see_figures n_see_figures_p (defScope s_see_figures) := ⟨rfl, rfl, rfl, by decide +kernel, rfl, by decide +kernel, by decide +kernel⟩
def sp_see_figures (K : PySem.W.Frag) : Sp := fun vs H Q _ => ∃ a fs, vs = [.ref a] ∧ SqL K H a (fs.map V.int) ∧ Figs fs ∧ Q .non H
theorem c_see_figures {K : PySem.W.Frag} {H : Hp} {Q : VK} {E : XK} {a : Addr} {fs : List Int} (h : SqL K H a (fs.map V.int)) (hf : Figs fs) (q : Q .non H) : sp_see_figures K [.ref a] H Q E := ⟨a, fs, rfl, h, hf, q⟩
/-! address_sum -/
abbrev s_address_sum : Stmt := topS 27
abbrev n_address_sum : List Str := ["one", "other"]
abbrev n_address_sum_p : List Str := ["one", "other"]
theorem sc_address_sum : FnScope n_address_sum n_address_sum_p (defScope s_address_sum) := ⟨rfl, rfl, rfl, by decide +kernel, rfl, by decide +kernel, by decide +kernel⟩
def sp_address_sum (K : PySem.W.Frag) : Sp := fun vs H Q _ => ∃ (a b : Addr) (fs gs : List Int), vs = [.ref a, .ref b] ∧ SqL K H a (fs.map V.int) ∧ SqL K H b (gs.map V.int) ∧ Figs fs ∧ Figs gs ∧ fs.length ≤ 300 ∧ gs.length ≤ 300 ∧ ∀ l H', Same H H' → H l = none → H' l = some (.lst ((addrOf ((placeOf fs).1 + (placeOf gs).1, (placeOf fs).2 + (placeOf gs).2)).map V.int)) → (addrOf ((placeOf fs).1 + (placeOf gs).1, (placeOf fs).2 + (placeOf gs).2)).length ≤ 50000 → Q (.ref l) H'
theorem c_address_sum {K : PySem.W.Frag} {H : Hp} {Q : VK} {E : XK} {a b : Addr} {fs gs : List Int} (h : SqL K H a (fs.map V.int)) (h2 : SqL K H b (gs.map V.int)) (hf : Figs fs) (hg : Figs gs) (zf : fs.length ≤ 300) (zg : gs.length ≤ 300) (q : ∀ l H', Same H H' → H l = none → H' l = some (.lst ((addrOf ((placeOf fs).1 + (placeOf gs).1, (placeOf fs).2 + (placeOf gs).2)).map V.int)) → (addrOf ((placeOf fs).1 + (placeOf gs).1, (placeOf fs).2 + (placeOf gs).2)).length ≤ 50000 → Q (.ref l) H') : sp_address_sum K [.ref a, .ref b] H Q E := ⟨a, b, fs, gs, rfl, h, h2, hf, hg, zf, zg, q⟩
/-! turned_figure -/
abbrev s_turned_figure : Stmt := topS 26
abbrev n_turned_figure : List Str := ["figure", "sixths"]
abbrev n_turned_figure_p : List Str := ["figure", "sixths"]
theorem sc_turned_figure : FnScope n_turned_figure n_turned_figure_p (defScope s_turned_figure) := ⟨rfl, rfl, rfl, by decide +kernel, rfl, by decide +kernel, by decide +kernel⟩
def sp_turned_figure (K : PySem.W.Frag) : Sp := fun vs H Q _ => ∃ f s : Int, vs = [.int f, .int s] ∧ Q (.int (turnF s f)) H
theorem c_turned_figure {K : PySem.W.Frag} {H : Hp} {Q : VK} {E : XK} {f s : Int} (q : Q (.int (turnF s f)) H) : sp_turned_figure K [.int f, .int s] H Q E := ⟨f, s, rfl, q⟩
/-! address_turned -/
abbrev s_address_turned_X : Stmt := topS 28
abbrev n_address_turned_X : List Str := ["figures", "sixths", "figure"]
abbrev n_address_turned_X_p : List Str := ["figures", "sixths"]
theorem sc_address_turned_X : FnScope n_address_turned_X n_address_turned_X_p (defScope s_address_turned_X) := ⟨rfl, rfl, rfl, by decide +kernel, rfl, by decide +kernel, by decide +kernel⟩
def sp_address_turned_X (K : PySem.W.Frag) (c : Addr) : Sp := fun vs H Q E => ∃ (a : Addr) (fs : List Int) (s : Int), vs = [.ref a, .int s] ∧ SqL K H a (fs.map V.int) ∧ fs.length ≤ 100000 ∧ (Figs fs → ∀ l H', Same H H' → H l = none → H' l = some (.lst ((bareL (fs.map (turnF s))).map V.int)) → Q (.ref l) H') ∧ (¬ Figs fs → E (.ref c) none H)
/-! address_less -/
abbrev s_address_less_X : Stmt := topS 29
abbrev n_address_less_X : List Str := ["one", "other"]
abbrev n_address_less_X_p : List Str := ["one", "other"]
theorem sc_address_less_X : FnScope n_address_less_X n_address_less_X_p (defScope s_address_less_X) := ⟨rfl, rfl, rfl, by decide +kernel, rfl, by decide +kernel, by decide +kernel⟩
def sp_address_less_X (K : PySem.W.Frag) (c : Addr) : Sp := fun vs H Q E => ∃ (a b : Addr) (fs gs : List Int), vs = [.ref a, .ref b] ∧ SqL K H a (fs.map V.int) ∧ SqL K H b (gs.map V.int) ∧ fs.length ≤ 300 ∧ gs.length ≤ 300 ∧ Figs fs ∧ (Figs gs → ∀ v H', Same H H' → Q v H') ∧ (¬ Figs gs → E (.ref c) none H)
/-! address_product -/
abbrev s_address_product_X : Stmt := topS 31
abbrev n_address_product_X : List Str := ["one", "other", "rows", "low", "k", "figure"]
abbrev n_address_product_X_p : List Str := ["one", "other"]
theorem sc_address_product_X : FnScope n_address_product_X n_address_product_X_p (defScope s_address_product_X) := ⟨rfl, rfl, rfl, by decide +kernel, rfl, by decide +kernel, by decide +kernel⟩
def sp_address_product_X (K : PySem.W.Frag) (c : Addr) : Sp := fun vs H Q E => ∃ (a b : Addr) (fs gs : List Int), vs = [.ref a, .ref b] ∧ SqL K H a (fs.map V.int) ∧ SqL K H b (gs.map V.int) ∧ fs.length ≤ 40 ∧ gs.length ≤ 40 ∧ (Figs fs → Figs gs → ∀ l H', Same H H' → H l = none → H' l = some (.lst ((addrOf ((placeOf fs).1 * (placeOf gs).1 - (placeOf fs).2 * (placeOf gs).2, (placeOf fs).1 * (placeOf gs).2 + (placeOf fs).2 * (placeOf gs).1 + (placeOf fs).2 * (placeOf gs).2)).map V.int)) → (addrOf ((placeOf fs).1 * (placeOf gs).1 - (placeOf fs).2 * (placeOf gs).2, (placeOf fs).1 * (placeOf gs).2 + (placeOf fs).2 * (placeOf gs).1 + (placeOf fs).2 * (placeOf gs).2)).length ≤ 50000 → Q (.ref l) H') ∧ (¬ (Figs fs ∧ Figs gs) → E (.ref c) none H)
def RwsX (lr : Addr) (H : Hp) : List V → List (List Int) → Prop := Paired fun v r => ∃ a, v = .ref a ∧ a ≠ lr ∧ H a = some (.lst (r.map V.int))
/-! address_great -/
abbrev s_address_great_X : Stmt := topS 30
abbrev n_address_great_X : List Str := ["figures"]
abbrev n_address_great_X_p : List Str := ["figures"]
theorem sc_address_great_X : FnScope n_address_great_X n_address_great_X_p (defScope s_address_great_X) := ⟨rfl, rfl, rfl, by decide +kernel, rfl, by decide +kernel, by decide +kernel⟩
def sp_address_great_X (K : PySem.W.Frag) (c : Addr) : Sp := fun vs H Q E => ∃ (a : Addr) (fs : List Int), vs = [.ref a] ∧ H a = some (.lst (fs.map V.int)) ∧ fs.length ≤ 1000 ∧ (Figs fs → ∀ l H', Same H H' → H l = none → H' l = some (.lst ((bareL (fs ++ [0])).map V.int)) → Q (.ref l) H') ∧ (¬ Figs fs → E (.ref c) none H)
/-! _law_done -/
abbrev s__law_done : Stmt := topS 36
abbrev n__law_done : List Str := ["call", "row", "other"]
abbrev n__law_done_p : List Str := ["call", "row", "other"]
theorem sc__law_done : FnScope n__law_done n__law_done_p (defScope s__law_done) := ⟨rfl, rfl, rfl, by decide +kernel, rfl, by decide +kernel, by decide +kernel⟩
def sp__law_done (K : PySem.W.Frag) (c : Addr) : Sp := fun vs H Q E => ∃ (i : Int) (a b : Addr) (fs gs : List Int), vs = [.int i, .ref a, .ref b] ∧ H a = some (.lst (fs.map V.int)) ∧ H b = some (.lst (gs.map V.int)) ∧ fs.length ≤ 40 ∧ gs.length ≤ 40 ∧ Figs gs ∧ 0 ≤ i ∧ i < 8 ∧ (Figs fs → ∀ H', Same H H' → Q .non H') ∧ (¬ Figs fs → E (.ref c) none H)
theorem c__law_done {K : PySem.W.Frag} {c : Addr} {H : Hp} {Q : VK} {E : XK} {i : Int} {a b : Addr} {fs gs : List Int} (h : H a = some (.lst (fs.map V.int))) (h2 : H b = some (.lst (gs.map V.int))) (z1 : fs.length ≤ 40) (z2 : gs.length ≤ 40) (hg : Figs gs) (h0 : 0 ≤ i) (h8 : i < 8) (q : Figs fs → ∀ H', Same H H' → Q .non H') (x : ¬ Figs fs → E (.ref c) none H) : sp__law_done K c [.int i, .ref a, .ref b] H Q E := ⟨i, a, b, fs, gs, rfl, h, h2, z1, z2, hg, h0, h8, q, x⟩
/-! _law_kinds -/
abbrev s__law_kinds : Stmt := topS 37
abbrev n__law_kinds : List Str := ["call", "row", "other", "kinds", "e"]
abbrev n__law_kinds_p : List Str := ["call", "row", "other"]
theorem sc__law_kinds : FnScope n__law_kinds n__law_kinds_p (defScope s__law_kinds) := ⟨rfl, rfl, rfl, by decide +kernel, rfl, by decide +kernel, by decide +kernel⟩
def sp__law_kinds (K : PySem.W.Frag) : Sp := fun vs H Q _ => ∃ (i : Int) (a b : Addr) (fs gs : List Int), vs = [.int i, .ref a, .ref b] ∧ H a = some (.lst (fs.map V.int)) ∧ H b = some (.lst (gs.map V.int)) ∧ fs.length ≤ 40 ∧ gs.length ≤ 40 ∧ Figs gs ∧ 0 ≤ i ∧ i < 8 ∧ ∀ l bs H', Same H H' → H' l = some (.lst (bs.map V.bl)) → (Figs fs → bs = []) → (¬ Figs fs → bs = [true, false, false, false, true]) → Q (.ref l) H'
theorem c__law_kinds {K : PySem.W.Frag} {H : Hp} {Q : VK} {E : XK} {i : Int} {a b : Addr} {fs gs : List Int} (h : H a = some (.lst (fs.map V.int))) (h2 : H b = some (.lst (gs.map V.int))) (z1 : fs.length ≤ 40) (z2 : gs.length ≤ 40) (hg : Figs gs) (h0 : 0 ≤ i) (h8 : i < 8) (q : ∀ l bs H', Same H H' → H' l = some (.lst (bs.map V.bl)) → (Figs fs → bs = []) → (¬ Figs fs → bs = [true, false, false, false, true]) → Q (.ref l) H') : sp__law_kinds K [.int i, .ref a, .ref b] H Q E := ⟨i, a, b, fs, gs, rfl, h, h2, z1, z2, hg, h0, h8, q⟩
/-! figure_sum -/
abbrev s_figure_sum_X : Stmt := topS 21
abbrev n_figure_sum_X : List Str := ["one", "other"]
abbrev n_figure_sum_X_p : List Str := ["one", "other"]
theorem sc_figure_sum_X : FnScope n_figure_sum_X n_figure_sum_X_p (defScope s_figure_sum_X) := ⟨rfl, rfl, rfl, by decide +kernel, rfl, by decide +kernel, by decide +kernel⟩
def sp_figure_sum_X (K : PySem.W.Frag) (c : Addr) : Sp := fun vs H Q E => ∃ a b : Int, vs = [.int a, .int b] ∧ (Figs [a, b] → ∀ v H', Same H H' → Q v H') ∧ (¬ Figs [a, b] → ∀ H', Same H H' → E (.ref c) none H')
theorem c_figure_sum_X {K : PySem.W.Frag} {c : Addr} {H : Hp} {Q : VK} {E : XK} {a b : Int} (q : Figs [a, b] → ∀ v H', Same H H' → Q v H') (x : ¬ Figs [a, b] → ∀ H', Same H H' → E (.ref c) none H') : sp_figure_sum_X K c [.int a, .int b] H Q E := ⟨a, b, rfl, q, x⟩
/-! _law_two -/
abbrev s__law_two : Stmt := topS 38
abbrev n__law_two : List Str := ["one", "other", "refused"]
abbrev n__law_two_p : List Str := ["one", "other"]
theorem sc__law_two : FnScope n__law_two n__law_two_p (defScope s__law_two) := ⟨rfl, rfl, rfl, by decide +kernel, rfl, by decide +kernel, by decide +kernel⟩
def sp__law_two (K : PySem.W.Frag) : Sp := fun vs H Q _ => ∃ a b : Int, vs = [.int a, .int b] ∧ ∀ t H', Same H H' → (t = true ↔ ¬ Figs [a, b]) → Q (.bl t) H'
theorem c__law_two {K : PySem.W.Frag} {H : Hp} {Q : VK} {E : XK} {a b : Int} (q : ∀ t H', Same H H' → (t = true ↔ ¬ Figs [a, b]) → Q (.bl t) H') : sp__law_two K [.int a, .int b] H Q E := ⟨a, b, rfl, q⟩
/-! law -/
abbrev s_law : Stmt := topS 39
abbrev n_law : List Str := ["script", "row", "other", "odd", "bad", "due", "handed", "k"]
abbrev n_law_p : List Str := ["script"]
theorem sc_law : FnScope n_law n_law_p (defScope s_law) := ⟨rfl, rfl, rfl, by decide +kernel, rfl, by decide +kernel, by decide +kernel⟩
def sp_law (K : PySem.W.Frag) : Sp := fun vs H Q _ => ∃ (a : Addr) (ns : List Int), vs = [.ref a] ∧ SqL K H a (ns.map V.int) ∧ ns.length ≤ 63 ∧ ∀ H', Q (.bl true) H'
end Hx
local macro_rules | `(tactic| walk_at "go") => `(tactic| ((with_reducible refine' Hx.c__law_cell_at ?hp ?hq ?_); (case' hp => walk_at "fact"); (case hq => first | decide | omega)))
local macro_rules | `(tactic| walk_at "go") => `(tactic| ((with_reducible refine' Hx.c_see_figures_X ?hp ?hf ?_); (case' hp => walk_at "fact"); (case hf => assumption)))
local macro_rules | `(tactic| walk_at "go") => `(tactic| ((with_reducible refine' Hx.c_see_figures_N ?hp ?hf ?_); (case' hp => walk_at "fact"); (case hf => assumption)))
local macro_rules | `(tactic| walk_at "go") => `(tactic| ((with_reducible refine' Hx.c_added ?hp ?hq ?_); (case hp => walk_at "fact"); (case hq => walk_at "fact"); (intro v H' s g)))
local macro_rules | `(tactic| walk_at "go") => `(tactic| ((with_reducible refine' Hx.c_step ?hp ?hq ?_); (case hp => omega); (case hq => omega); (intro v g)))
local macro_rules | `(tactic| walk_at "go") => `(tactic| ((with_reducible refine' Hx.c_rest_place ?hp ?hq ?_); (case hp => omega); (case hq => omega); (intro v H' s g)))
local macro_rules | `(tactic| walk_at "go") => `(tactic| ((with_reducible refine' Hx.c_great ?hp ?_); (case hp => walk_at "fact"); (intro v H' s g)))
local macro_rules | `(tactic| walk_at "go") => `(tactic| ((with_reducible refine' Hx.c_rest ?hp ?_); (case hp => walk_at "fact")))
local macro_rules | `(tactic| walk_at "go") => `(tactic| ((with_reducible refine' Hx.c_centre ?hp ?_); (case hp => walk_at "fact"); (intro v H' s g)))
local macro_rules | `(tactic| walk_at "go") => `(tactic| ((with_reducible refine' Hx.c_address ?hp ?hz ?_); (case hp => walk_at "fact"); (case hz => first | assumption | omega); (intro l H' s hn hl)))
local macro_rules | `(tactic| walk_at "go") => `(tactic| ((with_reducible refine' Hx.c_pair_sum ?hp ?hq ?_); (case hp => first | assumption | omega); (case hq => first | assumption | omega); (intro v H' s g)))
local macro_rules | `(tactic| walk_at "go") => `(tactic| ((with_reducible refine' Hx.c_column ?hp ?hf ?hz ?_); (case' hp => walk_at "fact"); (case hf => assumption); (case hz => walk_at "size"); (intro t l H' s hn ht hl)))
local macro_rules | `(tactic| walk_at "go") => `(tactic| ((with_reducible refine' Hx.c_bare ?hp ?_); (case' hp => walk_at "fact"); (intro l H' s hn hl)))
local macro_rules | `(tactic| walk_at "go") => `(tactic| ((with_reducible refine' Hx.c_columns_sum ?hp ?h2 ?h3 ?h4 ?h5 ?_); (case' hp => walk_at "fact"); (case h2 => assumption); (case h3 => assumption); (case h4 => assumption); (case h5 => assumption); (intro l H' s hn hl hz)))
local macro_rules | `(tactic| walk_at "go") => `(tactic| ((with_reducible refine' Hx.c_low_first ?hp ?hz ?_); (case' hp => walk_at "fact"); (case hz => walk_at "size"); (intro l H' s hn hl)))
local macro_rules | `(tactic| walk_at "go") => `(tactic| ((with_reducible refine' Hx.c_see_figures ?hp ?hf ?_); (case' hp => walk_at "fact"); (case hf => assumption)))
local macro_rules | `(tactic| walk_at "go") => `(tactic| ((with_reducible refine' Hx.c_address_sum ?hp ?h2 ?hf ?hg ?zf ?zg ?_); (case' hp => walk_at "fact"); (case' h2 => walk_at "fact"); (case hf => assumption); (case hg => assumption); (case zf => walk_at "size"); (case zg => walk_at "size"); (intro l H' s hn hl hz)))
local macro_rules | `(tactic| walk_at "go") => `(tactic| with_reducible refine Hx.c_turned_figure ?_)
local macro_rules | `(tactic| walk_at "go") => `(tactic| ((with_reducible refine' Hx.c__law_kinds ?hp ?hq ?z1 ?z2 ?hg ?h0 ?h8 ?_); (case hp => walk_at "ofact"); (case hq => walk_at "ofact"); (case z1 => omega); (case z2 => omega); (case hg => assumption); (case h0 => omega); (case h8 => omega); (intro l bs H' s hl h1 h2)))
local macro_rules | `(tactic| walk_at "go") => `(tactic| ((with_reducible refine' Hx.c__law_two ?_); (intro t H' s hb)))
namespace Hx
open PySem PySem.Spec PyProof.Rows L2
theorem ok__law_cell_at {P : Program} {w : World} {K : PySem.W.Frag} {mg : Str → Option Value} {base : Heap}  (F : Fn K mg "_law_cell_at" "_law_cell_at" s__law_cell_at n__law_cell_at_p) (T : Tx mg) : Ref P w K mg base CX0 1 "_law_cell_at" n__law_cell_at_p (sp__law_cell_at K) := by
  refine F.ok sc__law_cell_at (fun vs H Q E h => ?_) (fun f cdv A outer s H vs Q E hr h => ?_)
  · obtain ⟨a, ns, k, rfl, _⟩ := h
    rfl
  · refine ⟨_, (pss_cons (ps_if (pt_cmpR op_lt (pv 1) (pe_callB (r := rLen K) cl_len (by rfl) T.b_len (by decide +kernel) (pa_cons (pv 0) pa_nil)) (nomark _))
          (pss_one (ps_ret (pe_ix (r := rIxL K) ix_list (pv 0) (pv 1) (fun _ _ => rfl))))
          pss_nil)
        (pss_one (ps_ret pe_int))), ?_⟩
    try dsimp only [cxOf, Cx.nox, Cx.wish]
    obtain ⟨a, ns, k, rfl, hS, hk, q⟩ := h
    walk_at "run"
    refine ite_d (fun e => ?_) (fun e => ?_)
    · rw [List.length_map] at e
      have hg : atI (ns.map V.int) k = some (.int (ns.getD k.toNat 0)) := by
        refine at_of (j := k.toNat) (by omega) ?_
        have hl : k.toNat < ns.length := by omega
        rw [List.getElem?_map, List.getElem?_eq_getElem hl, List.getD_eq_getElem?_getD, List.getElem?_eq_getElem hl]
        rfl
      walk_at "run"
      unfold cellAt at q
      rw [if_pos e] at q
      exact q
    · rw [List.length_map] at e
      walk_at "run"
      unfold cellAt at q
      rw [if_neg e] at q
      exact q
end Hx
namespace Hx
open PySem PySem.Spec PyProof.Rows L2
theorem figs_take_succ {fs : List Int} {i : Nat} {f : Int} (h : Figs (fs.take i)) (hi : fs[i]? = some f) (h0 : 0 ≤ f) (h1 : f ≤ 6) : Figs (fs.take (i + 1)) := by
  rw [take_snoc hi]
  exact figs_app h (figs_one h0 h1)
theorem ok_see_figures_X {P : Program} {w : World} {K : PySem.W.Frag} {mg : Str → Option Value} {base : Heap} {c_NoFigure : Addr} (F : Fn K mg "see_figures" "see_figures" s_see_figures_X n_see_figures_X_p) (T : Tx mg) (e_NoFigure : EC K mg "NoFigure" c_NoFigure) : Ref P w K mg base (L2.CX P w) 1 "see_figures" n_see_figures_X_p (sp_see_figures_X K c_NoFigure) := by
  refine F.okX sc_see_figures_X (fun vs H Q E h => ?_) (fun f cdv A outer s H vs Q E hr h => ?_)
  · obtain ⟨a, fs, rfl, _⟩ := h
    rfl
  · refine ⟨_, (pss_one (ps_for (passes_of rfl) rfl (pi_list (pv 0)) (pg_name (i := 1) sc_see_figures_X.nd rfl (Or.inl rfl))
          (pss_one (ps_if (pt_not (pt_chain op_le op_le pe_int (pv 1) pe_int))
          (pss_one (ps_raise rfl (takes_of rfl rfl rfl rfl) (pmk_own PySem.F.excBase_ValueError e_NoFigure.x e_NoFigure.g e_NoFigure.k (raises_own e_NoFigure.b e_NoFigure.t) rfl)))
          pss_nil)))), ?_⟩
    try dsimp only [cxOf, Cx.nox, Cx.wish]
    obtain ⟨a, fs, rfl, hS, q, x⟩ := h
    walk_at "run"
    refine f_list (K := K) (xs := fs.map V.int) (fun i σ H' => (∃ y, σ = [some (.ref a), y]) ∧ H' = H ∧ Figs (fs.take i)) ⟨⟨none, rfl⟩, rfl, (by intro x hx; cases hx)⟩ (fun i σ H' _ ⟨_, e, _⟩ => by rw [e]; exact hS) ?_ ?_
    · rintro i y σ H1 hx ⟨⟨y, rfl⟩, rfl, hF⟩
      obtain ⟨f, hfi, rfl⟩ := map_get hx
      have hm := List.mem_of_getElem? hfi
      by_cases h0 : 0 ≤ f
      · by_cases h1 : f ≤ 6
        · walk_at "run"
          exact ⟨⟨_, rfl⟩, rfl, figs_take_succ hF hfi h0 h1⟩
        · walk_at "run"
          exact x fun z => h1 (z f hm).2
      · walk_at "run"
        exact x fun z => h0 (z f hm).1
    · rintro σ H1 ⟨⟨y, rfl⟩, rfl, hF⟩
      rw [List.length_map, List.take_length] at hF
      exact q hF
end Hx
namespace Hx
open PySem PySem.Spec PyProof.Rows L2
theorem ok_added {P : Program} {w : World} {K : PySem.W.Frag} {mg : Str → Option Value} {base : Heap}  (F : Fn K mg "added" "added" s_added n_added_p) (T : Tx mg) : Ref P w K mg base CX0 1 "added" n_added_p (sp_added K) := by
  refine F.ok sc_added (fun vs H Q E h => ?_) (fun f cdv A outer s H vs Q E hr h => ?_)
  · obtain ⟨v1, v2, p1, p2, rfl, _⟩ := h
    rfl
  · refine ⟨_, (pss_one (ps_ret (pe_tup (pa_cons (pe_op op_add (pe_ix (r := rIxT K) ix_tup (pv 0) pe_int (fun _ _ => rfl)) (pe_ix (r := rIxT K) ix_tup (pv 1) pe_int (fun _ _ => rfl))) (pa_cons (pe_op op_add (pe_ix (r := rIxT K) ix_tup (pv 0) pe_int (fun _ _ => rfl)) (pe_ix (r := rIxT K) ix_tup (pv 1) pe_int (fun _ _ => rfl))) pa_nil))))), ?_⟩
    try dsimp only [cxOf, Cx.nox, Cx.wish]
    obtain ⟨v1, v2, p1, p2, rfl, h1, h2, q⟩ := h
    walk_at "run"
    exact q _ _ (by walk_at "same") (by walk_at "fact")
end Hx
namespace Hx
open PySem PySem.Spec PyProof.Rows L2
theorem ok_step {P : Program} {w : World} {K : PySem.W.Frag} {mg : Str → Option Value} {base : Heap} {a_STEPS : Addr} (F : Fn K mg "step" "step" s_step n_step_p) (T : Tx mg) (g_STEPS : mg "STEPS" = some (.ref a_STEPS)) (k_STEPS : G_STEPS K a_STEPS) : Ref P w K mg base CX0 1 "step" n_step_p (sp_step K) := by
  refine F.ok sc_step (fun vs H Q E h => ?_) (fun f cdv A outer s H vs Q E hr h => ?_)
  · obtain ⟨d, rfl, _⟩ := h
    rfl
  · refine ⟨_, (pss_cons (ps_if (pt_not (pt_chain op_le op_le pe_int (pv 0) pe_int))
          (pss_one ps_never)
          pss_nil)
        (pss_one (ps_ret (pe_ix (r := rIxT K) ix_tup (pe_glob (v := .ref a_STEPS) rfl g_STEPS rfl) (pe_op op_sub (pv 0) pe_int) (fun _ _ => rfl))))), ?_⟩
    try dsimp only [cxOf, Cx.nox, Cx.wish]
    obtain ⟨d, rfl, h0, h1, q⟩ := h
    obtain ⟨vs, hA, hB⟩ := k_STEPS
    have hi : steps[(d - 1).toNat]? = some (stepOf d) := by
      have hl : (d - 1).toNat < steps.length := by show _ < 6; omega
      unfold stepOf
      rw [List.getD_eq_getElem?_getD, List.getElem?_eq_getElem hl]
      rfl
    obtain ⟨v, hv, hp⟩ := pr_get' (hB H) hi
    walk_at "run"
    exact r_ixT (hA _) (at_of (j := (d - 1).toNat) (by omega) hv) (q v hp)
end Hx
namespace Hx
open PySem PySem.Spec PyProof.Rows L2
theorem ok_rest_place {P : Program} {w : World} {K : PySem.W.Frag} {mg : Str → Option Value} {base : Heap}  (F : Fn K mg "rest_place" "rest_place" s_rest_place n_rest_place_p) (T : Tx mg) (R_step : Ref P w K mg base CX0 1 "step" n_step_p (sp_step K)) : Ref P w K mg base CX0 2 "rest_place" n_rest_place_p (sp_rest_place K) := by
  refine F.ok sc_rest_place (fun vs H Q E h => ?_) (fun f cdv A outer s H vs Q E hr h => ?_)
  · obtain ⟨d, rfl, _⟩ := h
    rfl
  · refine ⟨_, (pss_cons (ps_if (pt_cmpR op_eq (pv 0) pe_int (nomark _))
          (pss_one (ps_ret (pe_tup (pa_cons pe_int (pa_cons pe_int pa_nil)))))
          pss_nil)
        (pss_one (ps_ret (pe_fn R_step (hr.mono (by decide)) (pa_cons (pv 0) pa_nil))))), ?_⟩
    try dsimp only [cxOf, Cx.nox, Cx.wish]
    obtain ⟨f, rfl, h0, h1, q⟩ := h
    walk_at "run"
    refine ite_d (fun e => ?_) (fun e => ?_)
    · subst e
      walk_at "run"
      exact q _ _ (by walk_at "same") (by exact Pl.new)
    · walk_at "run"
      refine q _ _ (Same.refl _) ?_
      unfold restPlace
      rw [if_neg e]
      assumption
end Hx
namespace Hx
open PySem PySem.Spec PyProof.Rows L2
theorem ok_great {P : Program} {w : World} {K : PySem.W.Frag} {mg : Str → Option Value} {base : Heap}  (F : Fn K mg "great" "great" s_great n_great_p) (T : Tx mg) : Ref P w K mg base CX0 1 "great" n_great_p (sp_great K) := by
  refine F.ok sc_great (fun vs H Q E h => ?_) (fun f cdv A outer s H vs Q E hr h => ?_)
  · obtain ⟨v1, p1, rfl, _⟩ := h
    rfl
  · refine ⟨_, (pss_one (ps_ret (pe_tup (pa_cons (pe_op op_sub (pe_op op_mul pe_int (pe_ix (r := rIxT K) ix_tup (pv 0) pe_int (fun _ _ => rfl))) (pe_ix (r := rIxT K) ix_tup (pv 0) pe_int (fun _ _ => rfl))) (pa_cons (pe_op op_add (pe_ix (r := rIxT K) ix_tup (pv 0) pe_int (fun _ _ => rfl)) (pe_op op_mul pe_int (pe_ix (r := rIxT K) ix_tup (pv 0) pe_int (fun _ _ => rfl)))) pa_nil))))), ?_⟩
    try dsimp only [cxOf, Cx.nox, Cx.wish]
    obtain ⟨v1, p1, rfl, h1, q⟩ := h
    walk_at "run"
    exact q _ _ (by walk_at "same") (by exact Pl.new)
end Hx
namespace Hx
open PySem PySem.Spec PyProof.Rows L2
theorem ok_place_of_X {P : Program} {w : World} {K : PySem.W.Frag} {mg : Str → Option Value} {base : Heap} {c_NoFigure : Addr} (F : Fn K mg "place_of" "place_of" s_place_of_X n_place_of_X_p) (T : Tx mg) (e_NoFigure : EC K mg "NoFigure" c_NoFigure) (R_see_figures_X : Ref P w K mg base (L2.CX P w) 1 "see_figures" n_see_figures_X_p (sp_see_figures_X K c_NoFigure)) (R_added : Ref P w K mg base CX0 1 "added" n_added_p (sp_added K)) (R_rest_place : Ref P w K mg base CX0 2 "rest_place" n_rest_place_p (sp_rest_place K)) (R_great : Ref P w K mg base CX0 1 "great" n_great_p (sp_great K)) : Ref P w K mg base (L2.CX P w) 3 "place_of" n_place_of_X_p (sp_place_of_X K c_NoFigure) := by
  refine F.okX sc_place_of_X (fun vs H Q E h => ?_) (fun f cdv A outer s H vs Q E hr h => ?_)
  · obtain ⟨a, fs, rfl, _⟩ := h
    rfl
  · refine ⟨_, (pss_cons (ps_expr (pe_fnX R_see_figures_X (hr.mono (by decide)) (takes_of rfl rfl rfl rfl) (pa_cons (pv 0) pa_nil)))
        (pss_cons (ps_set (i := 1) sc_place_of_X.nd rfl (Or.inl rfl) (pe_tup (pa_cons pe_int (pa_cons pe_int pa_nil))))
        (pss_cons (ps_for (passes_of rfl) rfl (pi_list (pv 0)) (pg_name (i := 2) sc_place_of_X.nd rfl (Or.inl rfl))
          (pss_one (ps_set (i := 1) sc_place_of_X.nd rfl (Or.inl rfl) (pe_fn R_added (hr.mono (by decide)) (pa_cons (pe_fn R_great (hr.mono (by decide)) (pa_cons (pv 1) pa_nil)) (pa_cons (pe_fn R_rest_place (hr.mono (by decide)) (pa_cons (pv 2) pa_nil)) pa_nil))))))
        (pss_one (ps_ret (pv 1)))))), ?_⟩
    try dsimp only [cxOf, Cx.nox, Cx.wish]
    obtain ⟨a, fs, rfl, hS, q0, x⟩ := h
    by_cases hf : Figs fs
    · have q := q0 hf
      walk_at "run"
      refine f_list (K := K) (xs := fs.map V.int) (fun i σ H' => ∃ v y, σ = [some (.ref a), some v, y] ∧ Same H H' ∧ Pl K H' v (placeOf (fs.take i))) ⟨_, none, rfl, by walk_at "same", by exact Pl.new⟩ (fun i σ H' _ ⟨_, _, _, s, _⟩ => s.seq hS) ?_ ?_
      · rintro i x σ H1 hx ⟨v, y, rfl, s1, g⟩
        obtain ⟨f, hfi, rfl⟩ := map_get hx
        have hm := hf f (List.mem_of_getElem? hfi)
        have h0 := hm.1
        have h1 := hm.2
        walk_at "run"
        refine ⟨_, _, rfl, by walk_at "same", ?_⟩
        rw [take_snoc hfi, placeOf_snoc]
        assumption
      · rintro σ H1 ⟨v, y, rfl, s1, g⟩
        rw [List.length_map, List.take_length] at g
        walk_at "run"
        exact q _ _ s1 g
    · walk_at "run"
      exact x hf
end Hx
namespace Hx
open PySem PySem.Spec PyProof.Rows L2
theorem ok_rest {P : Program} {w : World} {K : PySem.W.Frag} {mg : Str → Option Value} {base : Heap} {a_FIGURES : Addr} (F : Fn K mg "rest" "rest" s_rest n_rest_p) (T : Tx mg) (g_FIGURES : mg "FIGURES" = some (.ref a_FIGURES)) (k_FIGURES : G_FIGURES K a_FIGURES) : Ref P w K mg base CX0 1 "rest" n_rest_p (sp_rest K) := by
  refine F.ok sc_rest (fun vs H Q E h => ?_) (fun f cdv A outer s H vs Q E hr h => ?_)
  · obtain ⟨v1, p1, rfl, _⟩ := h
    rfl
  · refine ⟨_, (pss_one (ps_ret (pe_ix (r := rIxT K) ix_tup (pe_glob (v := .ref a_FIGURES) rfl g_FIGURES rfl) (pe_op op_mod (pe_op op_add (pe_ix (r := rIxT K) ix_tup (pv 0) pe_int (fun _ _ => rfl)) (pe_op op_mul pe_int (pe_ix (r := rIxT K) ix_tup (pv 0) pe_int (fun _ _ => rfl)))) pe_int) (fun _ _ => rfl)))), ?_⟩
    try dsimp only [cxOf, Cx.nox, Cx.wish]
    obtain ⟨v1, p1, rfl, h1, q⟩ := h
    walk_at "run"
    exact r_ixTn (k_FIGURES _) (by omega) (by show _ < (7 : Int); omega) q
end Hx
namespace Hx
open PySem PySem.Spec PyProof.Rows L2
theorem ok_centre {P : Program} {w : World} {K : PySem.W.Frag} {mg : Str → Option Value} {base : Heap}  (F : Fn K mg "centre" "centre" s_centre n_centre_p) (T : Tx mg) (R_rest_place : Ref P w K mg base CX0 2 "rest_place" n_rest_place_p (sp_rest_place K)) (R_rest : Ref P w K mg base CX0 1 "rest" n_rest_p (sp_rest K)) : Ref P w K mg base CX0 3 "centre" n_centre_p (sp_centre K) := by
  refine F.ok sc_centre (fun vs H Q E h => ?_) (fun f cdv A outer s H vs Q E hr h => ?_)
  · obtain ⟨v1, p1, rfl, _⟩ := h
    rfl
  · refine ⟨_, (pss_cons (ps_set (i := 1) sc_centre.nd rfl (Or.inl rfl) (pe_fn R_rest_place (hr.mono (by decide)) (pa_cons (pe_fn R_rest (hr.mono (by decide)) (pa_cons (pv 0) pa_nil)) pa_nil)))
        (pss_cons (ps_set (i := 2) sc_centre.nd rfl (Or.inl rfl) (pe_op op_sub (pe_ix (r := rIxT K) ix_tup (pv 0) pe_int (fun _ _ => rfl)) (pe_ix (r := rIxT K) ix_tup (pv 1) pe_int (fun _ _ => rfl))))
        (pss_cons (ps_set (i := 3) sc_centre.nd rfl (Or.inl rfl) (pe_op op_sub (pe_ix (r := rIxT K) ix_tup (pv 0) pe_int (fun _ _ => rfl)) (pe_ix (r := rIxT K) ix_tup (pv 1) pe_int (fun _ _ => rfl))))
        (pss_one (ps_ret (pe_tup (pa_cons (pe_op op_fdiv (pe_op op_add (pe_op op_mul pe_int (pv 2)) (pv 3)) pe_int) (pa_cons (pe_op op_fdiv (pe_op op_sub (pe_op op_mul pe_int (pv 3)) (pv 2)) pe_int) pa_nil)))))))), ?_⟩
    try dsimp only [cxOf, Cx.nox, Cx.wish]
    obtain ⟨v1, p1, rfl, h1, q⟩ := h
    have hr0 := (rest_range p1).1
    have hr1 := (rest_range p1).2
    walk_at "run"
    exact q _ _ (by walk_at "same") (by exact Pl.new)
end Hx
namespace Hx
open PySem PySem.Spec PyProof.Rows L2
theorem ok_address {P : Program} {w : World} {K : PySem.W.Frag} {mg : Str → Option Value} {base : Heap}  (F : Fn K mg "address" "address" s_address n_address_p) (T : Tx mg) (R_rest : Ref P w K mg base CX0 1 "rest" n_rest_p (sp_rest K)) (R_centre : Ref P w K mg base CX0 3 "centre" n_centre_p (sp_centre K)) : Ref P w K mg base CX0 4 "address" n_address_p (sp_address K) := by
  refine F.ok sc_address (fun vs H Q E h => ?_) (fun f cdv A outer s H vs Q E hr h => ?_)
  · obtain ⟨v1, p1, rfl, _⟩ := h
    rfl
  · refine ⟨_, (pss_cons (ps_set (i := 1) sc_address.nd rfl (Or.inl rfl) (pe_lst pa_nil))
        (pss_cons (ps_while PassesOwn.never (pt_cmpR (r := rNeD K) (op_neD hr.units) (pv 0) (pe_tup (pa_cons pe_int (pa_cons pe_int pa_nil))) (nomark _))
          (pss_cons (ps_expr (pe_bm PySem.F.plainAttrs_list PySem.F.slot_list_append PySem.F.type_list_append mt_append (pv 1) (pa_cons (pe_fn R_rest (hr.mono (by decide)) (pa_cons (pv 0) pa_nil)) pa_nil)))
        (pss_one (ps_set (i := 0) sc_address.nd rfl (Or.inl rfl) (pe_fn R_centre (hr.mono (by decide)) (pa_cons (pv 0) pa_nil))))))
        (pss_cons (ps_expr (pe_bm0 PySem.F.plainAttrs_list PySem.F.slot_list_reverse PySem.F.type_list_reverse mt_reverse (pv 1)))
        (pss_one (ps_ret (pv 1)))))), ?_⟩
    try dsimp only [cxOf, Cx.nox, Cx.wish]
    obtain ⟨v1, p1, rfl, h1, hz, q⟩ := h
    walk_at "run"
    rename_i l hl0
    refine w_while (fun m σ H' => ∃ v p fs, σ = [some v, some (.ref l)] ∧ Same H H' ∧ Pl K H' v p ∧ H' l = some (.lst (fs.map V.int)) ∧ addrOf p1 = addrOf p ++ fs.reverse ∧ m = (nrm p).toNat) (nrm p1).toNat ⟨v1, p1, [], rfl, by walk_at "same", by walk_at "fact", upd_same, by simp, rfl⟩ ?_
    rintro m σ H1 ⟨v, p, fs, rfl, s1, g, hl, e, rfl⟩
    walk_at "run"
    refine w_whR (fun hb => ?_) (fun hb => ?_)
    · have hp : p ≠ (0, 0) := by simpa using hb
      have e2 := addr_step hp
      have hle : fs.length ≤ 100000 := by
        rw [e, List.length_append, List.length_reverse] at hz
        omega
      have hlt := nrm_less hp
      have hnn := nrm_nonneg (centreOf p)
      walk_at "run"
      refine ⟨_, by omega, _, centreOf p, fs ++ [restOf p], rfl, by walk_at "same", by walk_at "fact", by walk_at "ofact", ?_, rfl⟩
      · rw [e, e2, List.reverse_append, List.append_assoc]
        rfl
    · have hp : p = (0, 0) := by simpa using hb
      subst hp
      rw [addr_zero, List.nil_append] at e
      walk_at "run"
      refine q _ _ (by walk_at "same") hl0 ?_
      rw [e]
      exact upd_same
end Hx
namespace Hx
open PySem PySem.Spec PyProof.Rows L2
theorem ok_pair_sum {P : Program} {w : World} {K : PySem.W.Frag} {mg : Str → Option Value} {base : Heap}  (F : Fn K mg "pair_sum" "pair_sum" s_pair_sum n_pair_sum_p) (T : Tx mg) (R_address : Ref P w K mg base CX0 4 "address" n_address_p (sp_address K)) (R_added : Ref P w K mg base CX0 1 "added" n_added_p (sp_added K)) (R_rest_place : Ref P w K mg base CX0 2 "rest_place" n_rest_place_p (sp_rest_place K)) : Ref P w K mg base CX0 5 "pair_sum" n_pair_sum_p (sp_pair_sum K) := by
  refine F.ok sc_pair_sum (fun vs H Q E h => ?_) (fun f cdv A outer s H vs Q E hr h => ?_)
  · obtain ⟨a, b, rfl, _⟩ := h
    rfl
  · refine ⟨_, (pss_cons (ps_set (i := 2) sc_pair_sum.nd rfl (Or.inl rfl) (pe_fn R_address (hr.mono (by decide)) (pa_cons (pe_fn R_added (hr.mono (by decide)) (pa_cons (pe_fn R_rest_place (hr.mono (by decide)) (pa_cons (pv 0) pa_nil)) (pa_cons (pe_fn R_rest_place (hr.mono (by decide)) (pa_cons (pv 1) pa_nil)) pa_nil))) pa_nil)))
        (pss_cons (ps_set (i := 2) sc_pair_sum.nd rfl (Or.inl rfl) (pe_op op_cat (pe_lst (pa_cons pe_int (pa_cons pe_int pa_nil))) (pv 2)))
        (pss_one (ps_ret (pe_tup (pa_cons (pe_ix (r := rIxL K) ix_list (pv 2) (pe_un un_neg pe_int) (fun _ _ => rfl)) (pa_cons (pe_ix (r := rIxL K) ix_list (pv 2) (pe_un un_neg pe_int) (fun _ _ => rfl)) pa_nil))))))), ?_⟩
    try dsimp only [cxOf, Cx.nox, Cx.wish]
    obtain ⟨a, b, rfl, ⟨a0, a1⟩, ⟨b0, b1⟩, q⟩ := h
    have hz : (addrOf ((restPlace a).1 + (restPlace b).1, (restPlace a).2 + (restPlace b).2)).length ≤ 2 := (pair_facts a0 a1 b0 b1).2.2.2.2
    walk_at "run"
    refine r_ixLm (k := 2) (ns := pairRow a b) (by exact sqL_new) (by omega) (by show 2 ≤ _ + 1 + 1; omega) ?_
    walk_at "run"
    refine r_ixLm (k := 1) (ns := pairRow a b) (by exact sqL_new) (by omega) (by show 1 ≤ _ + 1 + 1; omega) ?_
    walk_at "run"
    exact q _ _ (by walk_at "same") (by exact Pl.new)
end Hx
namespace Hx
open PySem PySem.Spec PyProof.Rows L2
theorem ok_column {P : Program} {w : World} {K : PySem.W.Frag} {mg : Str → Option Value} {base : Heap}  (F : Fn K mg "column" "column" s_column n_column_p) (T : Tx mg) (R_pair_sum : Ref P w K mg base CX0 5 "pair_sum" n_pair_sum_p (sp_pair_sum K)) : Ref P w K mg base CX0 6 "column" n_column_p (sp_column K) := by
  refine F.ok sc_column (fun vs H Q E h => ?_) (fun f cdv A outer s H vs Q E hr h => ?_)
  · obtain ⟨a, fs, rfl, _⟩ := h
    rfl
  · refine ⟨_, (pss_cons (ps_set (i := 1) sc_column.nd rfl (Or.inl rfl) pe_int)
        (pss_cons (ps_set (i := 2) sc_column.nd rfl (Or.inl rfl) (pe_lst pa_nil))
        (pss_cons (ps_for PassesOwn.never rfl (pi_list (pv 0)) (pg_name (i := 3) sc_column.nd rfl (Or.inl rfl))
          (pss_cons (ps_set (i := 4) sc_column.nd rfl (Or.inl rfl) (pe_fn R_pair_sum (hr.mono (by decide)) (pa_cons (pv 1) (pa_cons (pv 3) pa_nil))))
        (pss_cons (ps_set (i := 1) sc_column.nd rfl (Or.inl rfl) (pe_ix (r := rIxT K) ix_tup (pv 4) pe_int (fun _ _ => rfl)))
        (pss_one (ps_if (pt_cmpR op_ne (pe_ix (r := rIxT K) ix_tup (pv 4) pe_int (fun _ _ => rfl)) pe_int (nomark _))
          (pss_one (ps_expr (pe_bm PySem.F.plainAttrs_list PySem.F.slot_list_append PySem.F.type_list_append mt_append (pv 2) (pa_cons (pe_ix (r := rIxT K) ix_tup (pv 4) pe_int (fun _ _ => rfl)) pa_nil))))
          pss_nil)))))
        (pss_one (ps_ret (pe_tup (pa_cons (pv 1) (pa_cons (pv 2) pa_nil)))))))), ?_⟩
    try dsimp only [cxOf, Cx.nox, Cx.wish]
    obtain ⟨a, fs, rfl, hS, hf, hz, q⟩ := h
    walk_at "run"
    rename_i l hl0
    refine f_list (K := K) (xs := fs.map V.int) (fun i σ H' => i ≤ fs.length ∧ ∃ y3 y4, σ = [some (.ref a), some (.int (colOf (fs.take i)).1), some (.ref l), y3, y4] ∧ Same H H' ∧ H' l = some (.lst ((colOf (fs.take i)).2.map V.int))) ⟨Nat.zero_le _, none, none, rfl, by walk_at "same", upd_same⟩ (fun i σ H' _ ⟨_, _, _, _, s, _⟩ => s.seq hS) ?_ ?_
    · rintro i x σ H1 hx ⟨hi, y3, y4, rfl, s1, hl⟩
      obtain ⟨f, hfi, rfl⟩ := map_get hx
      have hil := (List.getElem?_eq_some_iff.mp hfi).1
      have hm := hf f (List.mem_of_getElem? hfi)
      have h0 := hm.1
      have h1 := hm.2
      obtain ⟨hc, _, _, hn⟩ := col_facts _ (fs.take i) rfl (fun x hx => hf x (List.mem_of_mem_take hx))
      have hzz : (colOf (fs.take i)).2.length ≤ 100000 := by
        rw [List.length_take] at hn
        omega
      have e1 : colOf (fs.take (i + 1)) = colStep (colOf (fs.take i)) f := by rw [take_snoc hfi, colOf_snoc]
      walk_at "run"
      refine ite_nd (fun e => ?_) (fun e => ?_)
      · walk_at "run"
        refine ⟨hil, _, _, by rw [e1]; exact rfl, by walk_at "same", ?_⟩
        · rw [e1]
          unfold colStep
          rw [if_neg e]
          exact upd_same
      · walk_at "run"
        refine ⟨hil, _, _, by rw [e1]; exact rfl, by walk_at "same", ?_⟩
        · rw [e1]
          unfold colStep
          rw [if_pos e]
          walk_at "ofact"
    · rintro σ H1 ⟨_, y3, y4, rfl, s1, hl⟩
      rw [List.length_map, List.take_length] at hl ⊢
      walk_at "run"
      exact q _ _ _ (by walk_at "same") hl0 upd_same (by walk_at "ofact")
end Hx
namespace Hx
open PySem PySem.Spec PyProof.Rows L2
theorem ok_bare {P : Program} {w : World} {K : PySem.W.Frag} {mg : Str → Option Value} {base : Heap}  (F : Fn K mg "bare" "bare" s_bare n_bare_p) (T : Tx mg) : Ref P w K mg base CX0 1 "bare" n_bare_p (sp_bare K) := by
  refine F.ok sc_bare (fun vs H Q E h => ?_) (fun f cdv A outer s H vs Q E hr h => ?_)
  · obtain ⟨a, fs, rfl, _⟩ := h
    rfl
  · refine ⟨_, (pss_cons (ps_set (i := 1) sc_bare.nd rfl (Or.inl rfl) pe_int)
        (pss_cons (ps_while PassesOwn.never (PW.pt (pw_and (pt_cmpR op_lt (pv 1) (pe_callB (r := rLen K) cl_len (by rfl) T.b_len (by decide +kernel) (pa_cons (pv 0) pa_nil)) (nomark _)) (pw_and1 (pt_cmpR op_eq (pe_ix (r := rIxL K) ix_list (pv 0) (pv 1) (fun _ _ => rfl)) pe_int (nomark _)))))
          (pss_one (ps_set (i := 1) sc_bare.nd rfl (Or.inl rfl) (pe_op op_add (pv 1) pe_int))))
        (pss_one (ps_ret (pe_slice (r := rSlL K) sl_list (pv 0) (po_some (pv 1)) po_none))))), ?_⟩
    try dsimp only [cxOf, Cx.nox, Cx.wish]
    obtain ⟨a, fs, rfl, hS, q⟩ := h
    walk_at "run"
    refine w_while (fun m σ H' => ∃ i : Nat, σ = [some (.ref a), some (.int (i : Int))] ∧ H' = H ∧ i ≤ fs.length ∧ bareL fs = bareL (fs.drop i) ∧ m = fs.length - i) fs.length ⟨0, rfl, rfl, Nat.zero_le _, rfl, rfl⟩ ?_
    rintro m σ H1 ⟨i, rfl, rfl, hi, hb, rfl⟩
    walk_at "run"
    rw [List.length_map]
    refine ite_d (fun e => ?_) (fun e => ?_)
    · have hl : i < fs.length := by omega
      have ed : fs.drop i = fs[i] :: fs.drop (i + 1) := List.drop_eq_getElem_cons hl
      have eg : fs.getD ((i : Int)).toNat 0 = fs[i] := by
        rw [List.getD_eq_getElem?_getD, show ((i : Int)).toNat = i by omega, List.getElem?_eq_getElem hl]
        rfl
      walk_at "run"
      rw [eg]
      walk_at "run"
      refine w_whR (fun hb2 => ?_) (fun hb2 => ?_)
      · have z : fs[i] = 0 := of_decide_eq_true hb2
        walk_at "run"
        refine ⟨_, by omega, i + 1, rfl, rfl, by omega, ?_, rfl⟩
        rw [hb, ed, z]
        rfl
      · have z : ¬ fs[i] = 0 := of_decide_eq_false hb2
        walk_at "run"
        rename_i l hl0
        refine q l _ (same_new hl0) hl0 ?_
        rw [upd_same, hb, ed]
        have e3 : bareL (fs[i] :: fs.drop (i + 1)) = fs.drop i := by rw [ed]; unfold bareL; rw [List.dropWhile_cons, decide_eq_false z]; rfl
        rw [e3, cutV_drop]
    · refine w_whR (fun hb2 => Bool.noConfusion hb2) (fun hb2 => ?_)
      walk_at "run"
      rename_i l hl0
      refine q l _ (same_new hl0) hl0 ?_
      rw [upd_same, hb, List.drop_eq_nil_of_le (by omega), cutV_drop, List.drop_eq_nil_of_le (by omega)]
      rfl
end Hx
namespace Hx
open PySem PySem.Spec PyProof.Rows L2
theorem ok_columns_sum {P : Program} {w : World} {K : PySem.W.Frag} {mg : Str → Option Value} {base : Heap}  (F : Fn K mg "columns_sum" "columns_sum" s_columns_sum n_columns_sum_p) (T : Tx mg) (R_column : Ref P w K mg base CX0 6 "column" n_column_p (sp_column K)) (R_bare : Ref P w K mg base CX0 1 "bare" n_bare_p (sp_bare K)) : Ref P w K mg base CX0 7 "columns_sum" n_columns_sum_p (sp_columns_sum K) := by
  refine F.ok sc_columns_sum (fun vs H Q E h => ?_) (fun f cdv A outer s H vs Q E hr h => ?_)
  · obtain ⟨a, ws, rows, rfl, _⟩ := h
    rfl
  · refine ⟨_, (pss_cons (ps_set (i := 1) sc_columns_sum.nd rfl (Or.inl rfl) (pe_lst pa_nil))
        (pss_cons (ps_set (i := 2) sc_columns_sum.nd rfl (Or.inl rfl) (pe_lst pa_nil))
        (pss_cons (ps_set (i := 3) sc_columns_sum.nd rfl (Or.inr rfl) pe_int)
        (pss_cons (ps_while PassesOwn.never (PW.pt (pw_or (pt_tru (pv 2) (by intro _; rfl)) (pw_or1 (pt_cmpR op_lt (pv 3) (pe_callB (cr_max rfl) (by rfl) T.b_max (by decide +kernel) (pa_cons (pe_lc (own := [("row", 6)]) (g := gName 6) (tt := tYes) rfl sc_columns_sum.nd (pi_list (pv 0)) (blkOk_by (N := n_columns_sum) (sc := defScope s_columns_sum) (by decide +kernel)) (fun _ _ _ _ _ => pg_name (i := 6) sc_columns_sum.nd rfl (Or.inl rfl)) (fun _ _ _ _ _ => pts_nil) (fun _ _ _ _ _ => (pe_callB (r := rLen K) cl_len (by rfl) T.b_len (by decide +kernel) (pa_cons (pv 6) pa_nil)))) pa_nil)) (nomark _)))))
          (pss_cons (ps_set (i := 4) sc_columns_sum.nd rfl (Or.inl rfl) (pe_op op_cat (pv 2) (pe_lc (own := [("row", 6)]) (g := gName 6) rfl sc_columns_sum.nd (pi_list (pv 0)) (blkOk_by (N := n_columns_sum) (sc := defScope s_columns_sum) (by decide +kernel)) (fun _ _ _ _ _ => pg_name (i := 6) sc_columns_sum.nd rfl (Or.inl rfl)) (fun _ _ _ _ _ => (pts_one (pt_cmpR op_lt (pv 3) (pe_callB (r := rLen K) cl_len (by rfl) T.b_len (by decide +kernel) (pa_cons (pv 6) pa_nil)) (nomark _)))) (fun _ _ _ _ _ => (pe_ix (r := rIxL K) ix_list (pv 6) (pv 3) (fun _ _ => rfl))))))
        (pss_cons (ps_set (i := 5) sc_columns_sum.nd rfl (Or.inl rfl) (pe_fn R_column (hr.mono (by decide)) (pa_cons (pv 4) pa_nil)))
        (pss_cons (ps_expr (pe_bm PySem.F.plainAttrs_list PySem.F.slot_list_append PySem.F.type_list_append mt_append (pv 1) (pa_cons (pe_ix (r := rIxT K) ix_tup (pv 5) pe_int (fun _ _ => rfl)) pa_nil)))
        (pss_cons (ps_set (i := 2) sc_columns_sum.nd rfl (Or.inl rfl) (pe_ix (r := rIxT K) ix_tup (pv 5) pe_int (fun _ _ => rfl)))
        (pss_one (ps_set (i := 3) sc_columns_sum.nd rfl (Or.inr rfl) (pe_op op_add (pv 3) pe_int))))))))
        (pss_cons (ps_expr (pe_bm0 PySem.F.plainAttrs_list PySem.F.slot_list_reverse PySem.F.type_list_reverse mt_reverse (pv 1)))
        (pss_one (ps_ret (pe_fn R_bare (hr.mono (by decide)) (pa_cons (pv 1) pa_nil))))))))), ?_⟩
    try dsimp only [cxOf, Cx.nox, Cx.wish]
    obtain ⟨a, ws, rows, rfl, hS, hW, hR, hr0, hr1, q⟩ := h
    have hwl : ws.length = rows.length := pr_len hW
    have hFg : ∀ r ∈ rows, Figs r := fun r hr => (hR r hr).1
    walk_at "run"
    rename_i p1 hp1 p2 hp2
    refine w_while (fun m σ H' => ∃ (k : Nat) (out cs : List Int) (lo lc : Addr) (y4 y5 : Option V), σ = [some (.ref a), some (.ref lo), some (.ref lc), some (.int (k : Int)), y4, y5, none] ∧ Same H H' ∧ H lo = none ∧ H' lo = some (.lst (out.map V.int)) ∧ H' lc = some (.lst (cs.map V.int)) ∧ lc ≠ lo ∧
        Figs cs ∧ Figs out ∧ comb out (sumPl (sumR cs) (sumRows (dropsAt rows k))) = sumRows rows ∧ out.length = k ∧ m = (300 - k) * (rows.length + 1) + cs.length ∧ k + m ≤ 300 * (rows.length + 1))
      (300 * (rows.length + 1)) ⟨0, [], [], p1, p2, none, none, rfl, by walk_at "same", hp1, by show _ = some (HO.lst []); walk_at "ofact", by show _ = some (HO.lst []); walk_at "ofact", (ne_of_none upd_same hp2).symm, (by intro x hx; cases hx), (by intro x hx; cases hx), by rw [drops_zero]; exact zero_sumPl _, rfl, by simp, by omega⟩ ?_
    rintro m σ H1 ⟨k, out, cs, lo, lc, y4, y5, rfl, s1, hlo0, hlo, hlc, hne, hfc, hfo, hS2, hk, rfl, hb⟩
    have hfh := figs_heads hFg k
    have hhl := heads_len rows k
    have hfa : Figs (cs ++ headsAt rows k) := figs_app hfc hfh
    obtain ⟨⟨c0, c1⟩, hfc2, _, hcn⟩ := col_facts _ _ rfl hfa
    have hstep := comb_step (out := out) hfa
    rw [List.length_append] at hcn
    have hkz : out.length ≤ 100000 := by omega
    have hcz : cs.length ≤ 50000 := by
      have : 0 ≤ (300 - k) * (rows.length + 1) := Nat.zero_le _
      omega
    refine w_key (fun H2 => Same H1 H2) (cs ≠ [] ∨ ∃ r ∈ rows, k < r.length) (fun H2 s2 hP => w_whR (fun _ => ?_) (fun z => Bool.noConfusion z)) (fun B kt kf => ?_)
    · have hlt : (300 - (k + 1)) * (rows.length + 1) + (colOf (cs ++ headsAt rows k)).2.length < (300 - k) * (rows.length + 1) + cs.length := by
        by_cases hk3 : ∃ r ∈ rows, k < r.length
        · obtain ⟨r, hr, hkr⟩ := hk3
          have hr3 := (hR r hr).2
          obtain ⟨j, hj⟩ : ∃ j, 300 - k = j + 1 := ⟨300 - k - 1, by omega⟩
          rw [hj, show 300 - (k + 1) = j by omega, Nat.succ_mul]
          omega
        · have hh0 : headsAt rows k = [] := heads_none fun r hr => Nat.le_of_not_lt fun z => hk3 ⟨r, hr, z⟩
          have hc0 : cs ≠ [] := hP.resolve_right hk3
          have hcp : 0 < cs.length := List.length_pos_iff.mpr hc0
          rw [hh0, List.length_nil] at hcn
          rw [hh0]
          have : (300 - (k + 1)) * (rows.length + 1) ≤ (300 - k) * (rows.length + 1) := Nat.mul_le_mul_right _ (by omega)
          omega
      have hlo2 : H2 lo = some (.lst (out.map V.int)) := s2 _ _ hlo
      have hlc2 : H2 lc = some (.lst (cs.map V.int)) := s2 _ _ hlc
      walk_at "run"
      refine c_list (K := K) (a := a) (xs := ws) (fun D i H' => Same H2 H' ∧ H' D = some (.lst ((headsAt (rows.take i) k).map V.int))) (fun D hD => ⟨same_new hD, upd_same⟩) (fun D i H' hD hi ⟨s3, _⟩ => ((s1.trans s2).trans s3).seq hS) ?_ ?_
      · rintro D i x H3 hD hx ⟨s3, hd⟩
        obtain ⟨r, hri, ra, rfl, hra⟩ := pr_get hW hx
        have hra3 : SqL K H3 ra (r.map V.int) := ((s1.trans s2).trans s3).seq hra
        have hsn := heads_snoc k hri
        have hzz : (headsAt (rows.take i) k).length ≤ 100000 := Nat.le_trans (heads_len _ _) (by rw [List.length_take]; omega)
        walk_at "run"
        refine ⟨rfl, ?_⟩
        walk_at "run"
        rw [List.length_map]
        refine w_putB (fun hb2 => ?_) (fun hb2 => ?_)
        · have hkr : (k : Int) < r.length := of_decide_eq_true hb2
          have hkr2 : k < r.length := by omega
          have eg : r.getD ((k : Int)).toNat 0 = r[k] := by
            rw [List.getD_eq_getElem?_getD, show ((k : Int)).toNat = k by omega, List.getElem?_eq_getElem hkr2]
            rfl
          rw [List.getElem?_eq_getElem hkr2] at hsn
          walk_at "run"
          refine ⟨s3.mut hD, ?_⟩
          rw [hsn, eg]
          exact upd_same
        · have hkr : ¬ (k : Int) < r.length := of_decide_eq_false hb2
          rw [List.getElem?_eq_none (by omega), List.append_nil] at hsn
          rw [hsn]
          exact ⟨s3, hd⟩
      · rintro D H3 hD ⟨s3, hd⟩
        rw [hwl, List.take_length] at hd
        walk_at "run"
        rename_i ph hph t l2 H4 s4 hn4 ht hl2
        have hl2lo : l2 ≠ lo := (ne_of_none (by walk_at "ofact") hn4).symm
        walk_at "run"
        refine ⟨_, hlt, k + 1, out ++ [(colOf (cs ++ headsAt rows k)).1], (colOf (cs ++ headsAt rows k)).2, lo, l2, _, _, rfl, by walk_at "same", hlo0, upd_same, by walk_at "ofact", hl2lo, hfc2, figs_app hfo (figs_one c0 c1), by rw [hstep, hS2], by rw [List.length_append, hk]; rfl, rfl, by omega⟩
    · walk_at "run"
      refine ite_nb (fun he => ?_) (fun he => ?_)
      · exact kt H1 (Same.refl _) (.inl fun z => by rw [z] at he; cases he)
      · have hc0 : cs = [] := by
          cases cs with
          | nil => rfl
          | cons x r => cases he
        subst hc0
        walk_at "run"
        refine c_listVI (fun i => ((rows.getD i []).length : Int)) (s1.seq hS) (by omega) (fun x => rfl) (fun i x H' R hx s k => ?_) ?_
        · obtain ⟨r, hri, ra, rfl, hra⟩ := pr_get hW hx
          have hra3 : SqL K H' ra (r.map V.int) := (s1.trans s).seq hra
          have eg : ((rows.getD i []).length : Int) = ((r.map V.int).length : Nat) := by
            rw [List.getD_eq_getElem?_getD, hri, List.length_map]
            rfl
          walk_at "run"
          rw [eg] at k
          exact k _ (Same.refl _)
        · intro l H2 s2 hn2 hl2
          walk_at "run"
          rename_i mx hm hle
          obtain ⟨i, hi, hmi⟩ := List.mem_map.mp hm
          have hi2 := List.mem_range.mp hi
          have hrm : rows.getD i [] ∈ rows := getD_mem (by omega)
          by_cases hkm : (k : Int) < mx
          · rw [decide_eq_true hkm]
            exact kt H2 s2 (.inr ⟨_, hrm, by omega⟩)
          · rw [decide_eq_false hkm]
            refine kf H2 (w_whR (fun z => Bool.noConfusion z) (fun _ => ?_))
            have hall : ∀ r ∈ rows, r.length ≤ k := fun r hr => by
              obtain ⟨j, hj, ej⟩ := List.getElem_of_mem hr
              have e2 : rows.getD j [] = r := by
                rw [List.getD_eq_getElem?_getD, List.getElem?_eq_getElem hj, ej]
                rfl
              have := hle ((rows.getD j []).length : Int) (List.mem_map.mpr ⟨j, List.mem_range.mpr (by omega), rfl⟩)
              rw [e2] at this
              omega
            have hfin : placeOf out.reverse = sumRows rows := by
              rw [← hS2, rows_end hall]
              show _ = comb out (sumPl (0, 0) (0, 0))
              rw [sumPl_zero, comb_zero, vLow_place]
            have hres : bareL out.reverse = addrOf (sumRows rows) := by
              rw [← hfin, addr_place _ fun x hx => hfo x (List.mem_reverse.mp hx)]
            have hlen3 : (bareL out.reverse).length ≤ 50000 := Nat.le_trans (bareL_len _) (by rw [List.length_reverse]; omega)
            walk_at "run"
            rename_i l3 H3 s3 hn3 hl3
            rw [hres] at hl3 hlen3
            exact q _ _ (by walk_at "same") (by walk_at "free") hl3 hlen3
end Hx
namespace Hx
open PySem PySem.Spec PyProof.Rows L2
theorem ok_low_first {P : Program} {w : World} {K : PySem.W.Frag} {mg : Str → Option Value} {base : Heap}  (F : Fn K mg "low_first" "low_first" s_low_first n_low_first_p) (T : Tx mg) : Ref P w K mg base CX0 1 "low_first" n_low_first_p (sp_low_first K) := by
  refine F.ok sc_low_first (fun vs H Q E h => ?_) (fun f cdv A outer s H vs Q E hr h => ?_)
  · obtain ⟨a, fs, rfl, _⟩ := h
    rfl
  · refine ⟨_, (pss_one (ps_ret (pe_lc (own := [("k", 1)]) (g := gName 1) (tt := tYes) rfl sc_low_first.nd (pi_range3 (by rfl) T.b_range (pa_cons (pe_op op_sub (pe_callB (r := rLen K) cl_len (by rfl) T.b_len (by decide +kernel) (pa_cons (pv 0) pa_nil)) pe_int) (pa_cons (pe_un un_neg pe_int) (pa_cons (pe_un un_neg pe_int) pa_nil)))) (blkOk_by (N := n_low_first) (sc := defScope s_low_first) (by decide +kernel)) (fun _ _ _ _ _ => pg_name (i := 1) sc_low_first.nd rfl (Or.inl rfl)) (fun _ _ _ _ _ => pts_nil) (fun _ _ _ _ _ => (pe_ix (r := rIxL K) ix_list (pv 0) (pv 1) (fun _ _ => rfl)))))), ?_⟩
    try dsimp only [cxOf, Cx.nox, Cx.wish]
    obtain ⟨a, fs, rfl, hS, hz, q⟩ := h
    have hz2 : (((fs.map V.int).length : Nat) : Int) ≤ 100000 := by rw [List.length_map]; omega
    have hn : ((((fs.map V.int).length : Nat) : Int) - 1 - (-1)).toNat = fs.length := by rw [List.length_map]; omega
    walk_at "run"
    rw [hn]
    refine c_rangeCI (fun i => fs.getD ((((fs.map V.int).length : Nat) : Int) - 1 + (i : Nat) * (-1)).toNat 0) hz (fun x => rfl) (fun i H' R hi s k => ?_) ?_
    · have hi2 : 0 ≤ (((fs.map V.int).length : Nat) : Int) - 1 + (i : Nat) * (-1) ∧ (((fs.map V.int).length : Nat) : Int) - 1 + (i : Nat) * (-1) < fs.length := by rw [List.length_map]; omega
      have hi3 := hi2.1
      have hi4 := hi2.2
      walk_at "run"
      exact k _ (Same.refl _)
    · intro l H1 s1 hn1 hl
      refine q _ _ s1 hn1 ?_
      rw [hl]
      congr 3
      refine List.ext_getElem? fun i => ?_
      by_cases h : i < fs.length
      · rw [List.getElem?_map, List.getElem?_range h, List.getElem?_reverse h]
        show some (fs.getD _ 0) = _
        rw [List.length_map, show ((fs.length : Int) - 1 + (i : Nat) * (-1)).toNat = fs.length - 1 - i by omega, List.getD_eq_getElem?_getD, List.getElem?_eq_getElem (by omega)]
        rfl
      · rw [List.getElem?_eq_none (by rw [List.length_map, List.length_range]; omega), List.getElem?_eq_none (by rw [List.length_reverse]; omega)]
end Hx
namespace Hx
open PySem PySem.Spec PyProof.Rows L2
theorem ok_address_sum_X {P : Program} {w : World} {K : PySem.W.Frag} {mg : Str → Option Value} {base : Heap} {c_NoFigure : Addr} (F : Fn K mg "address_sum" "address_sum" s_address_sum_X n_address_sum_X_p) (T : Tx mg) (e_NoFigure : EC K mg "NoFigure" c_NoFigure) (R_see_figures_X : Ref P w K mg base (L2.CX P w) 1 "see_figures" n_see_figures_X_p (sp_see_figures_X K c_NoFigure)) (R_columns_sum : Ref P w K mg base CX0 7 "columns_sum" n_columns_sum_p (sp_columns_sum K)) (R_low_first : Ref P w K mg base CX0 1 "low_first" n_low_first_p (sp_low_first K)) : Ref P w K mg base (L2.CX P w) 8 "address_sum" n_address_sum_X_p (sp_address_sum_X K c_NoFigure) := by
  refine F.okX sc_address_sum_X (fun vs H Q E h => ?_) (fun f cdv A outer s H vs Q E hr h => ?_)
  · obtain ⟨a, b, fs, gs, rfl, _⟩ := h
    rfl
  · refine ⟨_, (pss_cons (ps_expr (pe_fnX R_see_figures_X (hr.mono (by decide)) (takes_of rfl rfl rfl rfl) (pa_cons (pv 0) pa_nil)))
        (pss_cons (ps_expr (pe_fnX R_see_figures_X (hr.mono (by decide)) (takes_of rfl rfl rfl rfl) (pa_cons (pv 1) pa_nil)))
        (pss_one (ps_ret (pe_fn R_columns_sum (hr.mono (by decide)) (pa_cons (pe_lst (pa_cons (pe_fn R_low_first (hr.mono (by decide)) (pa_cons (pv 0) pa_nil)) (pa_cons (pe_fn R_low_first (hr.mono (by decide)) (pa_cons (pv 1) pa_nil)) pa_nil))) pa_nil)))))), ?_⟩
    try dsimp only [cxOf, Cx.nox, Cx.wish]
    obtain ⟨a, b, fs, gs, rfl, hA, hB, zf, zg, q0, x⟩ := h
    by_cases hf : Figs fs
    · by_cases hg : Figs gs
      · have q := q0 hf hg
        walk_at "run"
        rename_i l1 H1 s1 hn1 hl1 l2 H2 s2 hn2 hl2 l3 hl3
        refine c_columns_sum (rows := [fs.reverse, gs.reverse]) sqL_new ?_ ?_ (by show 0 < 2; decide) (by show 2 ≤ 50; decide) ?_
        · exact .cons ⟨_, rfl, by walk_at "fact"⟩ (.cons ⟨_, rfl, by walk_at "fact"⟩ .nil)
        · intro r hr
          simp at hr
          rcases hr with rfl | rfl
          · exact ⟨fun x hx => hf x (List.mem_reverse.mp hx), by rw [List.length_reverse]; exact zf⟩
          · exact ⟨fun x hx => hg x (List.mem_reverse.mp hx), by rw [List.length_reverse]; exact zg⟩
        · intro l H3 s3 hn hl hz
          have e : sumRows [fs.reverse, gs.reverse] = ((placeOf fs).1 + (placeOf gs).1, (placeOf fs).2 + (placeOf gs).2) := by
            show sumPl (vLow fs.reverse) (sumPl (vLow gs.reverse) (0, 0)) = sumPl (placeOf fs) (placeOf gs)
            rw [sumPl_zero, vLow_place, vLow_place, List.reverse_reverse, List.reverse_reverse]
          rw [e] at hl hz
          exact q _ _ (by walk_at "same") (by walk_at "free") hl hz
      · walk_at "run"
        exact x fun z => hg z.2
    · walk_at "run"
      exact x fun z => hf z.1
end Hx
namespace Hx
open PySem PySem.Spec PyProof.Rows L2
theorem ok_see_figures {P : Program} {w : World} {K : PySem.W.Frag} {mg : Str → Option Value} {base : Heap}  (F : Fn K mg "see_figures" "see_figures" s_see_figures n_see_figures_p) (T : Tx mg) : Ref P w K mg base CX0 1 "see_figures" n_see_figures_p (sp_see_figures K) := by
  refine F.ok sc_see_figures (fun vs H Q E h => ?_) (fun f cdv A outer s H vs Q E hr h => ?_)
  · obtain ⟨a, fs, rfl, _⟩ := h
    rfl
  · refine ⟨_, (pss_one (ps_for PassesOwn.never rfl (pi_list (pv 0)) (pg_name (i := 1) sc_see_figures.nd rfl (Or.inl rfl))
          (pss_one (ps_if (pt_not (pt_chain op_le op_le pe_int (pv 1) pe_int))
          (pss_one ps_never)
          pss_nil)))), ?_⟩
    try dsimp only [cxOf, Cx.nox, Cx.wish]
    obtain ⟨a, fs, rfl, hS, hf, q⟩ := h
    walk_at "run"
    refine f_list (K := K) (xs := fs.map V.int) (fun i σ H' => ∃ y, σ = [some (.ref a), y] ∧ H' = H) ⟨none, rfl, rfl⟩ (fun i σ H' _ ⟨_, _, e⟩ => by rw [e]; exact hS) ?_ ?_
    · rintro i x σ H1 hx ⟨y, rfl, rfl⟩
      obtain ⟨f, hfi, rfl⟩ := map_get hx
      have hm := hf f (List.mem_of_getElem? hfi)
      have h0 := hm.1
      have h1 := hm.2
      walk_at "run"
      exact ⟨_, rfl, rfl⟩
    · rintro σ H1 ⟨y, rfl, rfl⟩
      exact q
end Hx
namespace Hx
open PySem PySem.Spec PyProof.Rows L2
theorem ok_address_sum {P : Program} {w : World} {K : PySem.W.Frag} {mg : Str → Option Value} {base : Heap}  (F : Fn K mg "address_sum" "address_sum" s_address_sum n_address_sum_p) (T : Tx mg) (R_see_figures : Ref P w K mg base CX0 1 "see_figures" n_see_figures_p (sp_see_figures K)) (R_columns_sum : Ref P w K mg base CX0 7 "columns_sum" n_columns_sum_p (sp_columns_sum K)) (R_low_first : Ref P w K mg base CX0 1 "low_first" n_low_first_p (sp_low_first K)) : Ref P w K mg base CX0 8 "address_sum" n_address_sum_p (sp_address_sum K) := by
  refine F.ok sc_address_sum (fun vs H Q E h => ?_) (fun f cdv A outer s H vs Q E hr h => ?_)
  · obtain ⟨a, b, fs, gs, rfl, _⟩ := h
    rfl
  · refine ⟨_, (pss_cons (ps_expr (pe_fn R_see_figures (hr.mono (by decide)) (pa_cons (pv 0) pa_nil)))
        (pss_cons (ps_expr (pe_fn R_see_figures (hr.mono (by decide)) (pa_cons (pv 1) pa_nil)))
        (pss_one (ps_ret (pe_fn R_columns_sum (hr.mono (by decide)) (pa_cons (pe_lst (pa_cons (pe_fn R_low_first (hr.mono (by decide)) (pa_cons (pv 0) pa_nil)) (pa_cons (pe_fn R_low_first (hr.mono (by decide)) (pa_cons (pv 1) pa_nil)) pa_nil))) pa_nil)))))), ?_⟩
    try dsimp only [cxOf, Cx.nox, Cx.wish]
    obtain ⟨a, b, fs, gs, rfl, hA, hB, hf, hg, zf, zg, q⟩ := h
    walk_at "run"
    rename_i l1 H1 s1 hn1 hl1 l2 H2 s2 hn2 hl2 l3 hl3
    refine c_columns_sum (rows := [fs.reverse, gs.reverse]) sqL_new ?_ ?_ (by show 0 < 2; decide) (by show 2 ≤ 50; decide) ?_
    · exact .cons ⟨_, rfl, by walk_at "fact"⟩ (.cons ⟨_, rfl, by walk_at "fact"⟩ .nil)
    · intro r hr
      simp at hr
      rcases hr with rfl | rfl
      · exact ⟨fun x hx => hf x (List.mem_reverse.mp hx), by rw [List.length_reverse]; exact zf⟩
      · exact ⟨fun x hx => hg x (List.mem_reverse.mp hx), by rw [List.length_reverse]; exact zg⟩
    · intro l H3 s3 hn hl hz
      have e : sumRows [fs.reverse, gs.reverse] = ((placeOf fs).1 + (placeOf gs).1, (placeOf fs).2 + (placeOf gs).2) := by
        show sumPl (vLow fs.reverse) (sumPl (vLow gs.reverse) (0, 0)) = sumPl (placeOf fs) (placeOf gs)
        rw [sumPl_zero, vLow_place, vLow_place, List.reverse_reverse, List.reverse_reverse]
      rw [e] at hl hz
      exact q _ _ (by walk_at "same") (by walk_at "free") hl hz
end Hx
namespace Hx
open PySem PySem.Spec PyProof.Rows L2
theorem ok_turned_figure {P : Program} {w : World} {K : PySem.W.Frag} {mg : Str → Option Value} {base : Heap}  (F : Fn K mg "turned_figure" "turned_figure" s_turned_figure n_turned_figure_p) (T : Tx mg) : Ref P w K mg base CX0 1 "turned_figure" n_turned_figure_p (sp_turned_figure K) := by
  refine F.ok sc_turned_figure (fun vs H Q E h => ?_) (fun f cdv A outer s H vs Q E hr h => ?_)
  · obtain ⟨f, s, rfl, _⟩ := h
    rfl
  · refine ⟨_, (pss_cons (ps_if (pt_cmpR op_eq (pv 0) pe_int (nomark _))
          (pss_one (ps_ret pe_int))
          pss_nil)
        (pss_one (ps_ret (pe_op op_add (pe_op op_mod (pe_op op_add (pe_op op_sub (pv 0) pe_int) (pv 1)) pe_int) pe_int)))), ?_⟩
    try dsimp only [cxOf, Cx.nox, Cx.wish]
    obtain ⟨f, s, rfl, q⟩ := h
    unfold turnF at q
    walk_at "run"
    refine ite_d (fun e => ?_) (fun e => ?_)
    · rw [if_pos e] at q
      walk_at "run"
      exact q
    · rw [if_neg e] at q
      walk_at "run"
      exact q
end Hx
namespace Hx
open PySem PySem.Spec PyProof.Rows L2
theorem ok_address_turned_X {P : Program} {w : World} {K : PySem.W.Frag} {mg : Str → Option Value} {base : Heap} {c_NoFigure : Addr} (F : Fn K mg "address_turned" "address_turned" s_address_turned_X n_address_turned_X_p) (T : Tx mg) (e_NoFigure : EC K mg "NoFigure" c_NoFigure) (R_see_figures_X : Ref P w K mg base (L2.CX P w) 1 "see_figures" n_see_figures_X_p (sp_see_figures_X K c_NoFigure)) (R_bare : Ref P w K mg base CX0 1 "bare" n_bare_p (sp_bare K)) (R_turned_figure : Ref P w K mg base CX0 1 "turned_figure" n_turned_figure_p (sp_turned_figure K)) : Ref P w K mg base (L2.CX P w) 2 "address_turned" n_address_turned_X_p (sp_address_turned_X K c_NoFigure) := by
  refine F.okX sc_address_turned_X (fun vs H Q E h => ?_) (fun f cdv A outer s H vs Q E hr h => ?_)
  · obtain ⟨a, fs, s, rfl, _⟩ := h
    rfl
  · refine ⟨_, (pss_cons (ps_expr (pe_fnX R_see_figures_X (hr.mono (by decide)) (takes_of rfl rfl rfl rfl) (pa_cons (pv 0) pa_nil)))
        (pss_one (ps_ret (pe_fn R_bare (hr.mono (by decide)) (pa_cons (pe_lc (own := [("figure", 2)]) (g := gName 2) (tt := tYes) rfl sc_address_turned_X.nd (pi_list (pv 0)) (blkOk_by (N := n_address_turned_X) (sc := defScope s_address_turned_X) (by decide +kernel)) (fun _ _ _ _ _ => pg_name (i := 2) sc_address_turned_X.nd rfl (Or.inl rfl)) (fun _ _ _ _ _ => pts_nil) (fun _ _ _ _ _ => (pe_fn R_turned_figure (hr.mono (by decide)) (pa_cons (pv 2) (pa_cons (pv 1) pa_nil))))) pa_nil))))), ?_⟩
    try dsimp only [cxOf, Cx.nox, Cx.wish]
    obtain ⟨a, fs, s, rfl, hS, hz, q0, x⟩ := h
    by_cases hf : Figs fs
    · have q := q0 hf
      walk_at "run"
      refine c_listI (turnF s) hS hz (fun x => rfl) (fun x H' R hx s1 k => ?_) ?_
      · walk_at "run"
        exact k _ (Same.refl _)
      · intro l H1 s1 hn hl
        walk_at "run"
        exact q _ _ (by walk_at "same") (s1.free (by assumption)) (by assumption)
    · walk_at "run"
      exact x hf
end Hx
namespace Hx
open PySem PySem.Spec PyProof.Rows L2
theorem ok_address_less_X {P : Program} {w : World} {K : PySem.W.Frag} {mg : Str → Option Value} {base : Heap} {c_NoFigure : Addr} (F : Fn K mg "address_less" "address_less" s_address_less_X n_address_less_X_p) (T : Tx mg) (e_NoFigure : EC K mg "NoFigure" c_NoFigure) (R_address_sum : Ref P w K mg base CX0 8 "address_sum" n_address_sum_p (sp_address_sum K)) (R_address_turned_X : Ref P w K mg base (L2.CX P w) 2 "address_turned" n_address_turned_X_p (sp_address_turned_X K c_NoFigure)) : Ref P w K mg base (L2.CX P w) 9 "address_less" n_address_less_X_p (sp_address_less_X K c_NoFigure) := by
  refine F.okX sc_address_less_X (fun vs H Q E h => ?_) (fun f cdv A outer s H vs Q E hr h => ?_)
  · obtain ⟨a, b, fs, gs, rfl, _⟩ := h
    rfl
  · refine ⟨_, (pss_one (ps_ret (pe_fn R_address_sum (hr.mono (by decide)) (pa_cons (pv 0) (pa_cons (pe_fnX R_address_turned_X (hr.mono (by decide)) (takes_of rfl rfl rfl rfl) (pa_cons (pv 1) (pa_cons pe_int pa_nil))) pa_nil))))), ?_⟩
    try dsimp only [cxOf, Cx.nox, Cx.wish]
    obtain ⟨a, b, fs, gs, rfl, hA, hB, zf, zg, hf, q, x⟩ := h
    walk_at "run"
    refine ⟨b, gs, 3, rfl, hB, Nat.le_trans zg (by decide), fun hg => ?_, x⟩
    have hgt := figs_bare (figs_turned 3 hg)
    have zgt : (bareL (gs.map (turnF 3))).length ≤ 300 := Nat.le_trans (bareL_len _) (by rw [List.length_map]; exact zg)
    intro l1 H1 s1 hn1 hl1
    walk_at "run"
    exact q hg _ _ (by walk_at "same")
end Hx
namespace Hx
open PySem PySem.Spec PyProof.Rows L2
theorem ok_address_product_X {P : Program} {w : World} {K : PySem.W.Frag} {mg : Str → Option Value} {base : Heap} {c_NoFigure : Addr} (F : Fn K mg "address_product" "address_product" s_address_product_X n_address_product_X_p) (T : Tx mg) (e_NoFigure : EC K mg "NoFigure" c_NoFigure) (R_see_figures_X : Ref P w K mg base (L2.CX P w) 1 "see_figures" n_see_figures_X_p (sp_see_figures_X K c_NoFigure)) (R_low_first : Ref P w K mg base CX0 1 "low_first" n_low_first_p (sp_low_first K)) (R_turned_figure : Ref P w K mg base CX0 1 "turned_figure" n_turned_figure_p (sp_turned_figure K)) (R_columns_sum : Ref P w K mg base CX0 7 "columns_sum" n_columns_sum_p (sp_columns_sum K)) : Ref P w K mg base (L2.CX P w) 8 "address_product" n_address_product_X_p (sp_address_product_X K c_NoFigure) := by
  refine F.okX sc_address_product_X (fun vs H Q E h => ?_) (fun f cdv A outer s H vs Q E hr h => ?_)
  · obtain ⟨a, b, fs, gs, rfl, _⟩ := h
    rfl
  · refine ⟨_, (pss_cons (ps_expr (pe_fnX R_see_figures_X (hr.mono (by decide)) (takes_of rfl rfl rfl rfl) (pa_cons (pv 0) pa_nil)))
        (pss_cons (ps_expr (pe_fnX R_see_figures_X (hr.mono (by decide)) (takes_of rfl rfl rfl rfl) (pa_cons (pv 1) pa_nil)))
        (pss_cons (ps_set (i := 2) sc_address_product_X.nd rfl (Or.inl rfl) (pe_lst (pa_cons (pe_lst pa_nil) pa_nil)))
        (pss_cons (ps_set (i := 3) sc_address_product_X.nd rfl (Or.inr rfl) (pe_fn R_low_first (hr.mono (by decide)) (pa_cons (pv 1) pa_nil)))
        (pss_cons (ps_for (passes_of rfl) rfl (pi_range1 (by rfl) T.b_range (pa_cons (pe_callB (r := rLen K) cl_len (by rfl) T.b_len (by decide +kernel) (pa_cons (pv 3) pa_nil)) pa_nil)) (pg_name (i := 4) sc_address_product_X.nd rfl (Or.inr rfl))
          (pss_one (ps_if (pt_cmpR op_ne (pe_ix (r := rIxL K) ix_list (pv 3) (pv 4) (fun _ _ => rfl)) pe_int (nomark _))
          (pss_one (ps_expr (pe_bm PySem.F.plainAttrs_list PySem.F.slot_list_append PySem.F.type_list_append mt_append (pv 2) (pa_cons (pe_op op_cat (pe_op op_rep (pe_lst (pa_cons pe_int pa_nil)) (pv 4)) (pe_lc (own := [("figure", 5)]) (g := gName 5) (tt := tYes) rfl sc_address_product_X.nd (pi_list (pe_fn R_low_first (hr.mono (by decide)) (pa_cons (pv 0) pa_nil))) (blkOk_by (N := n_address_product_X) (sc := defScope s_address_product_X) (by decide +kernel)) (fun _ _ _ _ _ => pg_name (i := 5) sc_address_product_X.nd rfl (Or.inl rfl)) (fun _ _ _ _ _ => pts_nil) (fun _ _ _ _ _ => (pe_fn R_turned_figure (hr.mono (by decide)) (pa_cons (pv 5) (pa_cons (pe_op op_sub (pe_ix (r := rIxL K) ix_list (pv 3) (pv 4) (fun _ _ => rfl)) pe_int) pa_nil)))))) pa_nil))))
          pss_nil)))
        (pss_one (ps_ret (pe_fn R_columns_sum (hr.mono (by decide)) (pa_cons (pv 2) pa_nil))))))))), ?_⟩
    try dsimp only [cxOf, Cx.nox, Cx.wish]
    obtain ⟨a, b, fs, gs, rfl, hA, hB, zf, zg, q0, x⟩ := h
    by_cases hf : Figs fs
    · by_cases hg : Figs gs
      · have q := q0 hf hg
        have hn2 : (((gs.reverse.map V.int).length : Nat) : Int) ≤ 1000 := by rw [List.length_map, List.length_reverse]; omega
        have hgr : Figs gs.reverse := fun x hx => hg x (List.mem_reverse.mp hx)
        have hfr : Figs fs.reverse := fun x hx => hf x (List.mem_reverse.mp hx)
        walk_at "run"
        rename_i p1 hp1 lr hlr ll H2 s2 hn2' hl2
        have hlr0 : H lr = none := Same.free (same_new hp1) hlr
        have hne0 : ll ≠ lr := (ne_of_none upd_same hn2').symm
        have hne1 : p1 ≠ lr := ne_of_none upd_same hlr
        refine f_range0 (fun i σ H' => ∃ (ws : List V) (rows : List (List Int)) (y4 : Option V), σ = [some (.ref a), some (.ref b), some (.ref lr), some (.ref ll), y4, none] ∧ Same H H' ∧ H' ll = some (.lst (gs.reverse.map V.int)) ∧ H' lr = some (.lst ws) ∧ RwsX lr H' ws rows ∧ (∀ r ∈ rows, Figs r ∧ r.length ≤ 300) ∧ 0 < rows.length ∧ rows.length ≤ i + 1 ∧ sumRows rows = mulPl (vLow fs.reverse) (vLow (gs.reverse.take i)))
          ⟨[.ref p1], [[]], none, rfl, by walk_at "same", hl2, s2 _ _ (by walk_at "ofact"), .cons ⟨p1, rfl, hne1, s2 _ _ (by show _ = some (HO.lst []); walk_at "ofact")⟩ .nil, (by intro r hr; rw [List.mem_singleton] at hr; subst hr; exact ⟨(by intro x hx; cases hx), Nat.zero_le _⟩), by show 0 < 1; decide, by show 1 ≤ 0 + 1; decide, by rw [List.take_zero]; exact (mul_zero' _).symm⟩ ?_ ?_
        · rintro i σ H3 hi ⟨ws, rows, y4, rfl, s3, hll, hlr3, hR, hrow, hr0, hr1, hS⟩
          have hi2 : i < gs.length := by rw [List.length_map, List.length_reverse] at hi; omega
          obtain ⟨f, hfi⟩ : ∃ f, gs.reverse[i]? = some f := ⟨_, List.getElem?_eq_getElem (by rw [List.length_reverse]; exact hi2)⟩
          have eg : gs.reverse.getD ((i : Int)).toNat 0 = f := by
            rw [List.getD_eq_getElem?_getD, show ((i : Int)).toNat = i by omega, hfi]
            rfl
          have hff := hgr f (List.mem_of_getElem? hfi)
          have h0 := hff.1
          have h1 := hff.2
          have hi3 : (i : Int) < (gs.reverse.length : Nat) := by rw [List.length_reverse]; omega
          have hwl : ws.length ≤ 100000 := by
            have := pr_len hR
            omega
          walk_at "run"
          rw [eg]
          refine ite_nd (fun e => ?_) (fun e => ?_)
          · walk_at "run"
            rename_i pz hpz pr hpr lf H4 s4 hn4 hl4
            refine c_listI (turnF (f - 1)) (SqL.of hl4) (by rw [List.length_reverse]; omega) (fun x => rfl) (fun x H' R hx s k => ?_) ?_
            · walk_at "run"
              rw [eg]
              exact k _ (Same.refl _)
            · intro lc H5 s5 hn5 hl5
              have hzl : (List.replicate ((i : Int)).toNat (0 : Int)).length + (fs.reverse.map (turnF (f - 1))).length ≤ 100000 := by
                rw [List.length_replicate, List.length_map, List.length_reverse]
                omega
              walk_at "run"
              rename_i pq hpq
              rw [show ((i : Int)).toNat = i by omega] at *
              have hlr5 : H5 lr = some (.lst ws) := by walk_at "ofact"
              have hpql : pq ≠ lr := (ne_of_none hlr5 hpq).symm
              have hll5 : H5 ll = some (.lst (gs.reverse.map V.int)) := by walk_at "ofact"
              have s35 : Same H3 H5 := by walk_at "same"
              refine ⟨ws ++ [.ref pq], rows ++ [List.replicate i 0 ++ fs.reverse.map (turnF (f - 1))], _, rfl, by walk_at "same", by walk_at "ofact", upd_same, ?_, ?_, by rw [List.length_append]; omega, by rw [List.length_append]; show rows.length + 1 ≤ _; omega, ?_⟩
              · refine pr_snoc (pr_mono (fun v r ⟨a2, e2, n2, h2⟩ => ⟨a2, e2, n2, ?_⟩) hR) ⟨pq, rfl, hpql, by walk_at "ofact"⟩
                have h5 := s35 _ _ h2
                walk_at "ofact"
              · intro r hr
                rcases List.mem_append.mp hr with hr | hr
                · exact hrow r hr
                · rw [List.mem_singleton] at hr
                  subst hr
                  exact ⟨figs_noughts _ (figs_turned _ hfr), by rw [List.length_append, List.length_replicate, List.length_map, List.length_reverse]; omega⟩
              · rw [sumRows_snoc, hS, take_snoc hfi]
                have hlt : (gs.reverse.take i).length = i := by rw [List.length_take, List.length_reverse]; omega
                have := prod_step (l := gs.reverse.take i) hfr e h0 h1
                rw [hlt] at this
                exact this
          · walk_at "run"
            refine ⟨ws, rows, _, rfl, s3, hll, hlr3, hR, hrow, hr0, by omega, ?_⟩
            rw [take_snoc hfi, e, prod_nought, hS]
        · rintro σ H3 ⟨ws, rows, y4, rfl, s3, hll, hlr3, hR, hrow, hr0, hr1, hS⟩
          rw [List.length_map, Int.toNat_natCast, List.take_length] at hS
          rw [List.length_map, Int.toNat_natCast, List.length_reverse] at hr1
          walk_at "run"
          refine c_columns_sum (rows := rows) (SqL.of hlr3) (pr_mono (fun _ _ ⟨a, e, _, h⟩ => ⟨a, e, SqL.of h⟩) hR) hrow hr0 (by omega) fun l H4 s4 hn4 hl4 hz4 => ?_
          have e : sumRows rows = mulPl (placeOf fs) (placeOf gs) := by rw [hS, vLow_place, vLow_place, List.reverse_reverse, List.reverse_reverse]
          rw [e] at hl4 hz4
          exact q _ _ (by walk_at "same") (by walk_at "free") hl4 hz4
      · walk_at "run"
        exact x fun z => hg z.2
    · walk_at "run"
      exact x fun z => hf z.1
end Hx
namespace Hx
open PySem PySem.Spec PyProof.Rows L2
theorem ok_address_great_X {P : Program} {w : World} {K : PySem.W.Frag} {mg : Str → Option Value} {base : Heap} {c_NoFigure : Addr} (F : Fn K mg "address_great" "address_great" s_address_great_X n_address_great_X_p) (T : Tx mg) (e_NoFigure : EC K mg "NoFigure" c_NoFigure) (R_see_figures_X : Ref P w K mg base (L2.CX P w) 1 "see_figures" n_see_figures_X_p (sp_see_figures_X K c_NoFigure)) (R_bare : Ref P w K mg base CX0 1 "bare" n_bare_p (sp_bare K)) : Ref P w K mg base (L2.CX P w) 2 "address_great" n_address_great_X_p (sp_address_great_X K c_NoFigure) := by
  refine F.okX sc_address_great_X (fun vs H Q E h => ?_) (fun f cdv A outer s H vs Q E hr h => ?_)
  · obtain ⟨a, fs, rfl, _⟩ := h
    rfl
  · refine ⟨_, (pss_cons (ps_expr (pe_fnX R_see_figures_X (hr.mono (by decide)) (takes_of rfl rfl rfl rfl) (pa_cons (pv 0) pa_nil)))
        (pss_one (ps_ret (pe_fn R_bare (hr.mono (by decide)) (pa_cons (pe_op op_cat (pv 0) (pe_lst (pa_cons pe_int pa_nil))) pa_nil))))), ?_⟩
    try dsimp only [cxOf, Cx.nox, Cx.wish]
    obtain ⟨a, fs, rfl, hS, hz, q0, x⟩ := h
    by_cases hf : Figs fs
    · have q := q0 hf
      have hS2 : SqL K H a (fs.map V.int) := SqL.of hS
      walk_at "run"
      exact q _ _ (by walk_at "same") (by walk_at "free") (by assumption)
    · walk_at "run"
      exact x hf
end Hx
namespace Hx
open PySem PySem.Spec PyProof.Rows L2
theorem ok__law_done {P : Program} {w : World} {K : PySem.W.Frag} {mg : Str → Option Value} {base : Heap} {c_NoFigure : Addr} (F : Fn K mg "_law_done" "_law_done" s__law_done n__law_done_p) (T : Tx mg) (e_NoFigure : EC K mg "NoFigure" c_NoFigure) (R_place_of_X : Ref P w K mg base (L2.CX P w) 3 "place_of" n_place_of_X_p (sp_place_of_X K c_NoFigure)) (R_address_sum_X : Ref P w K mg base (L2.CX P w) 8 "address_sum" n_address_sum_X_p (sp_address_sum_X K c_NoFigure)) (R_address_less_X : Ref P w K mg base (L2.CX P w) 9 "address_less" n_address_less_X_p (sp_address_less_X K c_NoFigure)) (R_address_product_X : Ref P w K mg base (L2.CX P w) 8 "address_product" n_address_product_X_p (sp_address_product_X K c_NoFigure)) (R_address_turned_X : Ref P w K mg base (L2.CX P w) 2 "address_turned" n_address_turned_X_p (sp_address_turned_X K c_NoFigure)) (R_address_great_X : Ref P w K mg base (L2.CX P w) 2 "address_great" n_address_great_X_p (sp_address_great_X K c_NoFigure)) : Ref P w K mg base (L2.CX P w) 10 "_law_done" n__law_done_p (sp__law_done K c_NoFigure) := by
  refine F.okX sc__law_done (fun vs H Q E h => ?_) (fun f cdv A outer s H vs Q E hr h => ?_)
  · obtain ⟨i, a, b, fs, gs, rfl, _⟩ := h
    rfl
  · refine ⟨_, (pss_cons (ps_if (pt_cmpR op_eq (pv 0) pe_int (nomark _))
          (pss_one (ps_expr (pe_fnX R_place_of_X (hr.mono (by decide)) (takes_of rfl rfl rfl rfl) (pa_cons (pv 1) pa_nil))))
          pss_nil)
        (pss_cons (ps_if (pt_cmpR op_eq (pv 0) pe_int (nomark _))
          (pss_one (ps_expr (pe_fnX R_address_sum_X (hr.mono (by decide)) (takes_of rfl rfl rfl rfl) (pa_cons (pv 1) (pa_cons (pv 2) pa_nil)))))
          pss_nil)
        (pss_cons (ps_if (pt_cmpR op_eq (pv 0) pe_int (nomark _))
          (pss_one (ps_expr (pe_fnX R_address_sum_X (hr.mono (by decide)) (takes_of rfl rfl rfl rfl) (pa_cons (pv 2) (pa_cons (pv 1) pa_nil)))))
          pss_nil)
        (pss_cons (ps_if (pt_cmpR op_eq (pv 0) pe_int (nomark _))
          (pss_one (ps_expr (pe_fnX R_address_less_X (hr.mono (by decide)) (takes_of rfl rfl rfl rfl) (pa_cons (pv 2) (pa_cons (pv 1) pa_nil)))))
          pss_nil)
        (pss_cons (ps_if (pt_cmpR op_eq (pv 0) pe_int (nomark _))
          (pss_one (ps_expr (pe_fnX R_address_product_X (hr.mono (by decide)) (takes_of rfl rfl rfl rfl) (pa_cons (pv 1) (pa_cons (pv 2) pa_nil)))))
          pss_nil)
        (pss_cons (ps_if (pt_cmpR op_eq (pv 0) pe_int (nomark _))
          (pss_one (ps_expr (pe_fnX R_address_product_X (hr.mono (by decide)) (takes_of rfl rfl rfl rfl) (pa_cons (pv 2) (pa_cons (pv 1) pa_nil)))))
          pss_nil)
        (pss_cons (ps_if (pt_cmpR op_eq (pv 0) pe_int (nomark _))
          (pss_one (ps_expr (pe_fnX R_address_turned_X (hr.mono (by decide)) (takes_of rfl rfl rfl rfl) (pa_cons (pv 1) (pa_cons pe_int pa_nil)))))
          pss_nil)
        (pss_one (ps_if (pt_cmpR op_eq (pv 0) pe_int (nomark _))
          (pss_one (ps_expr (pe_fnX R_address_great_X (hr.mono (by decide)) (takes_of rfl rfl rfl rfl) (pa_cons (pv 1) pa_nil))))
          pss_nil))))))))), ?_⟩
    try dsimp only [cxOf, Cx.nox, Cx.wish]
    obtain ⟨i, a, b, fs, gs, rfl, hA, hB, zf, zg, hg, i0, i8, q, x⟩ := h
    have hA2 : SqL K H a (fs.map V.int) := SqL.of hA
    have hB2 : SqL K H b (gs.map V.int) := SqL.of hB
    obtain rfl | rfl | rfl | rfl | rfl | rfl | rfl | rfl : i = 0 ∨ i = 1 ∨ i = 2 ∨ i = 3 ∨ i = 4 ∨ i = 5 ∨ i = 6 ∨ i = 7 := by omega
    · walk_at "run"
      refine ⟨a, fs, rfl, hA2, fun hf v H' s g => ?_, x⟩
      walk_at "run"
      exact q hf _ (by walk_at "same")
    · walk_at "run"
      refine ⟨a, b, fs, gs, rfl, hA2, hB2, by omega, by omega, fun hf _ l H' s hn hl hz => ?_, fun z => x fun hf => z ⟨hf, hg⟩⟩
      walk_at "run"
      exact q hf _ (by walk_at "same")
    · walk_at "run"
      refine ⟨b, a, gs, fs, rfl, hB2, hA2, by omega, by omega, fun _ hf l H' s hn hl hz => ?_, fun z => x fun hf => z ⟨hg, hf⟩⟩
      walk_at "run"
      exact q hf _ (by walk_at "same")
    · walk_at "run"
      refine ⟨b, a, gs, fs, rfl, hB2, hA2, by omega, by omega, hg, fun hf v H' s => ?_, x⟩
      walk_at "run"
      exact q hf _ (by walk_at "same")
    · walk_at "run"
      refine ⟨a, b, fs, gs, rfl, hA2, hB2, by omega, by omega, fun hf _ l H' s hn hl hz => ?_, fun z => x fun hf => z ⟨hf, hg⟩⟩
      walk_at "run"
      exact q hf _ (by walk_at "same")
    · walk_at "run"
      refine ⟨b, a, gs, fs, rfl, hB2, hA2, by omega, by omega, fun _ hf l H' s hn hl hz => ?_, fun z => x fun hf => z ⟨hg, hf⟩⟩
      walk_at "run"
      exact q hf _ (by walk_at "same")
    · walk_at "run"
      refine ⟨a, fs, 2, rfl, hA2, by omega, fun hf l H' s hn hl => ?_, x⟩
      walk_at "run"
      exact q hf _ (by walk_at "same")
    · walk_at "run"
      refine ⟨a, fs, rfl, hA, by omega, fun hf l H' s hn hl => ?_, x⟩
      walk_at "run"
      exact q hf _ (by walk_at "same")
end Hx
namespace Hx
open PySem PySem.Spec PyProof.Rows L2
theorem ok__law_kinds {P : Program} {w : World} {K : PySem.W.Frag} {mg : Str → Option Value} {base : Heap} {c_FloorError : Addr} {c_Apart : Addr} {c_NoLevel : Addr} {c_NoCell : Addr} {c_NoFigure : Addr} (F : Fn K mg "_law_kinds" "_law_kinds" s__law_kinds n__law_kinds_p) (T : Tx mg) (e_FloorError : EC K mg "FloorError" c_FloorError) (e_Apart : EC K mg "Apart" c_Apart) (e_NoLevel : EC K mg "NoLevel" c_NoLevel) (e_NoCell : EC K mg "NoCell" c_NoCell) (e_NoFigure : EC K mg "NoFigure" c_NoFigure) (z_FloorError_FloorError : Rel K c_FloorError c_FloorError true) (z_FloorError_Apart : Rel K c_FloorError c_Apart false) (z_FloorError_NoLevel : Rel K c_FloorError c_NoLevel false) (z_FloorError_NoCell : Rel K c_FloorError c_NoCell false) (z_FloorError_NoFigure : Rel K c_FloorError c_NoFigure false) (z_Apart_FloorError : Rel K c_Apart c_FloorError true) (z_Apart_Apart : Rel K c_Apart c_Apart true) (z_Apart_NoLevel : Rel K c_Apart c_NoLevel false) (z_Apart_NoCell : Rel K c_Apart c_NoCell false) (z_Apart_NoFigure : Rel K c_Apart c_NoFigure false) (z_NoLevel_FloorError : Rel K c_NoLevel c_FloorError true) (z_NoLevel_Apart : Rel K c_NoLevel c_Apart false) (z_NoLevel_NoLevel : Rel K c_NoLevel c_NoLevel true) (z_NoLevel_NoCell : Rel K c_NoLevel c_NoCell false) (z_NoLevel_NoFigure : Rel K c_NoLevel c_NoFigure false) (z_NoCell_FloorError : Rel K c_NoCell c_FloorError true) (z_NoCell_Apart : Rel K c_NoCell c_Apart false) (z_NoCell_NoLevel : Rel K c_NoCell c_NoLevel false) (z_NoCell_NoCell : Rel K c_NoCell c_NoCell true) (z_NoCell_NoFigure : Rel K c_NoCell c_NoFigure false) (z_NoFigure_FloorError : Rel K c_NoFigure c_FloorError true) (z_NoFigure_Apart : Rel K c_NoFigure c_Apart false) (z_NoFigure_NoLevel : Rel K c_NoFigure c_NoLevel false) (z_NoFigure_NoCell : Rel K c_NoFigure c_NoCell false) (z_NoFigure_NoFigure : Rel K c_NoFigure c_NoFigure true) (R__law_done : Ref P w K mg base (L2.CX P w) 10 "_law_done" n__law_done_p (sp__law_done K c_NoFigure)) : Ref P w K mg base CX0 11 "_law_kinds" n__law_kinds_p (sp__law_kinds K) := by
  refine F.ok sc__law_kinds (fun vs H Q E h => ?_) (fun f cdv A outer s H vs Q E hr h => ?_)
  · obtain ⟨i, a, b, fs, gs, rfl, _⟩ := h
    rfl
  · refine ⟨_, (pss_cons (ps_set (i := 3) sc__law_kinds.nd rfl (Or.inl rfl) (pe_lst pa_nil))
        (pss_cons (ps_try_as (i := 4) rfl rfl sc__law_kinds.nd rfl rfl ⟨rfl, by decide, Or.inl e_FloorError.g⟩ takes0 (fun W pn xe tk po =>
          (pss_one (ps_expr (pe_fnX R__law_done (hr.mono (by decide)) tk (pa_cons (pv 0) (pa_cons (pv 1) (pa_cons (pv 2) pa_nil))))))) (fun xa xo xc xd xp hz hf =>
          (pss_cons (ps_set (i := 3) sc__law_kinds.nd rfl (Or.inl rfl) (pe_lst (pa_cons (pe_callB (call_isX hz hf) (by rfl) T.b_isinstance (by decide +kernel) (pa_cons (pv 4) (pa_cons (pe_glob (v := .ref c_NoFigure) rfl e_NoFigure.g rfl) pa_nil))) (pa_cons (pe_callB (call_isX hz hf) (by rfl) T.b_isinstance (by decide +kernel) (pa_cons (pv 4) (pa_cons (pe_glob (v := .ref c_NoCell) rfl e_NoCell.g rfl) pa_nil))) (pa_cons (pe_callB (call_isX hz hf) (by rfl) T.b_isinstance (by decide +kernel) (pa_cons (pv 4) (pa_cons (pe_glob (v := .ref c_NoLevel) rfl e_NoLevel.g rfl) pa_nil))) (pa_cons (pe_callB (call_isX hz hf) (by rfl) T.b_isinstance (by decide +kernel) (pa_cons (pv 4) (pa_cons (pe_glob (v := .ref c_Apart) rfl e_Apart.g rfl) pa_nil))) pa_nil))))))
        (pss_one (ps_set (i := 3) sc__law_kinds.nd rfl (Or.inl rfl) (pe_op op_cat (pv 3) (pe_lst (pa_cons (pe_callB (call_isX hz hf) (by rfl) T.b_isinstance (by decide +kernel) (pa_cons (pv 4) (pa_cons (pe_bltn (v := .ty "ValueError") (by rfl) T.b_ValueError (by decide +kernel) rfl) pa_nil))) pa_nil))))))))
        (pss_one (ps_ret (pv 3))))), ?_⟩
    try dsimp only [cxOf, Cx.nox, Cx.wish]
    obtain ⟨i, a, b, fs, gs, rfl, hA, hB, zf, zg, hg, i0, i8, q⟩ := h
    walk_at "run"
    rename_i p hp
    refine c__law_done (upd_at (ne_of_none hA hp) hA) (upd_at (ne_of_none hB hp) hB) zf zg hg i0 i8 (fun hf H' s => ?_) (fun hn => ?_)
    · walk_at "run"
      exact q p [] _ (by walk_at "same") (by show _ = some (HO.lst []); walk_at "ofact") (fun _ => rfl) (fun z => absurd hf z)
    · refine w_as (exm_rel e_FloorError z_NoFigure_FloorError) (fun ea hea => ?_)
      walk_at "run"
      rename_i pA hpA pB hpB pC hpC
      exact q _ [true, false, false, false, true] _ (by walk_at "same") upd_same (fun z => absurd z hn) (fun _ => rfl)
end Hx
namespace Hx
open PySem PySem.Spec PyProof.Rows L2
theorem ok_figure_sum_X {P : Program} {w : World} {K : PySem.W.Frag} {mg : Str → Option Value} {base : Heap} {c_NoFigure : Addr} (F : Fn K mg "figure_sum" "figure_sum" s_figure_sum_X n_figure_sum_X_p) (T : Tx mg) (e_NoFigure : EC K mg "NoFigure" c_NoFigure) (R_see_figures_X : Ref P w K mg base (L2.CX P w) 1 "see_figures" n_see_figures_X_p (sp_see_figures_X K c_NoFigure)) (R_pair_sum : Ref P w K mg base CX0 5 "pair_sum" n_pair_sum_p (sp_pair_sum K)) : Ref P w K mg base (L2.CX P w) 6 "figure_sum" n_figure_sum_X_p (sp_figure_sum_X K c_NoFigure) := by
  refine F.okX sc_figure_sum_X (fun vs H Q E h => ?_) (fun f cdv A outer s H vs Q E hr h => ?_)
  · obtain ⟨a, b, rfl, _⟩ := h
    rfl
  · refine ⟨_, (pss_cons (ps_expr (pe_fnX R_see_figures_X (hr.mono (by decide)) (takes_of rfl rfl rfl rfl) (pa_cons (pe_lst (pa_cons (pv 0) (pa_cons (pv 1) pa_nil))) pa_nil)))
        (pss_one (ps_ret (pe_fn R_pair_sum (hr.mono (by decide)) (pa_cons (pv 0) (pa_cons (pv 1) pa_nil)))))), ?_⟩
    try dsimp only [cxOf, Cx.nox, Cx.wish]
    obtain ⟨a, b, rfl, q, x⟩ := h
    by_cases hf : Figs [a, b]
    · have ha := hf a (by simp)
      have hb := hf b (by simp)
      obtain ⟨a0, a1⟩ := ha
      obtain ⟨b0, b1⟩ := hb
      walk_at "run"
      exact q hf _ _ (by walk_at "same")
    · walk_at "run"
      exact x hf _ (by walk_at "same")
end Hx
namespace Hx
open PySem PySem.Spec PyProof.Rows L2
theorem ok__law_two {P : Program} {w : World} {K : PySem.W.Frag} {mg : Str → Option Value} {base : Heap} {c_NoFigure : Addr} (F : Fn K mg "_law_two" "_law_two" s__law_two n__law_two_p) (T : Tx mg) (e_NoFigure : EC K mg "NoFigure" c_NoFigure) (z_NoFigure_NoFigure : Rel K c_NoFigure c_NoFigure true) (R_figure_sum_X : Ref P w K mg base (L2.CX P w) 6 "figure_sum" n_figure_sum_X_p (sp_figure_sum_X K c_NoFigure)) : Ref P w K mg base CX0 7 "_law_two" n__law_two_p (sp__law_two K) := by
  refine F.ok sc__law_two (fun vs H Q E h => ?_) (fun f cdv A outer s H vs Q E hr h => ?_)
  · obtain ⟨a, b, rfl, _⟩ := h
    rfl
  · refine ⟨_, (pss_cons (ps_set (i := 2) sc__law_two.nd rfl (Or.inl rfl) pe_bl)
        (pss_cons (ps_try_only rfl rfl ⟨rfl, by decide, Or.inl e_NoFigure.g⟩ takes0 (fun W pn xe tk po =>
          (pss_one (ps_expr (pe_fnX R_figure_sum_X (hr.mono (by decide)) tk (pa_cons (pv 0) (pa_cons (pv 1) pa_nil)))))) (fun xa xo xc xd xp hz hf =>
          (pss_one (ps_set (i := 2) sc__law_two.nd rfl (Or.inl rfl) pe_bl))))
        (pss_one (ps_ret (pv 2))))), ?_⟩
    try dsimp only [cxOf, Cx.nox, Cx.wish]
    obtain ⟨a, b, rfl, q⟩ := h
    walk_at "run"
    refine c_figure_sum_X (fun hf v H' s => ?_) (fun hf H' s => ?_)
    · walk_at "run"
      exact q _ _ (by walk_at "same") ⟨fun z => Bool.noConfusion z, fun z => absurd hf z⟩
    · refine w_only (exm_rel e_NoFigure z_NoFigure_NoFigure) (fun ea hea => ?_)
      walk_at "run"
      exact q _ _ (by walk_at "same") ⟨fun _ => hf, fun _ => rfl⟩
end Hx
namespace Hx
open PySem PySem.Spec PyProof.Rows L2
theorem insert_figs {fs : List Int} {n : Nat} {y : Int} (h : ¬ (0 ≤ y ∧ y ≤ 6)) : ¬ Figs (fs.take n ++ [y] ++ fs.drop n) := fun z => h (z y (by simp))
theorem okF_law {P : Program} {w : World} {K : PySem.W.Frag} {mg : Str → Option Value} {base : Heap}  {fa : Addr} {fd : FuncData} (F : Fun K "law" "law" s_law fa fd) (T : Tx mg) (R__law_cell_at : Ref P w K mg base CX0 1 "_law_cell_at" n__law_cell_at_p (sp__law_cell_at K)) (R__law_kinds : Ref P w K mg base CX0 11 "_law_kinds" n__law_kinds_p (sp__law_kinds K)) (R__law_two : Ref P w K mg base CX0 7 "_law_two" n__law_two_p (sp__law_two K)) : FnOk P w K mg base CX0 12 fa fd n_law_p (sp_law K) := by
  refine F.ok sc_law (fun vs H Q E h => ?_) (fun cdv A outer s H vs Q E hr h => ?_)
  · obtain ⟨a, ns, rfl, _⟩ := h
    rfl
  · refine ⟨_, (pss_cons (ps_setLc (i := 1) (own := [("k", 7)]) (g := gName 7) (tt := tYes) rfl sc_law.nd rfl rfl (sw_true rfl rfl rfl (by decide +kernel)) (pi_range1 (by rfl) T.b_range (pa_cons (pe_op op_mod (pe_fn R__law_cell_at (hr.mono (by decide)) (pa_cons (pv 0) (pa_cons pe_int pa_nil))) pe_int) pa_nil)) (blkOk_by (N := n_law) (sc := defScope s_law) (by decide +kernel)) (fun _ _ _ _ _ => pg_name (i := 7) sc_law.nd rfl (Or.inl rfl)) (fun _ _ _ _ _ => pts_nil) (fun _ _ _ _ _ => (pe_op op_mod (pe_fn R__law_cell_at (hr.mono (by decide)) (pa_cons (pv 0) (pa_cons (pe_op op_add pe_int (pv 7)) pa_nil))) pe_int)))
        (pss_cons (ps_setLc (i := 2) (own := [("k", 7)]) (g := gName 7) (tt := tYes) rfl sc_law.nd rfl rfl (sw_true rfl rfl rfl (by decide +kernel)) (pi_range1 (by rfl) T.b_range (pa_cons (pe_op op_mod (pe_fn R__law_cell_at (hr.mono (by decide)) (pa_cons (pv 0) (pa_cons pe_int pa_nil))) pe_int) pa_nil)) (blkOk_by (N := n_law) (sc := defScope s_law) (by decide +kernel)) (fun _ _ _ _ _ => pg_name (i := 7) sc_law.nd rfl (Or.inl rfl)) (fun _ _ _ _ _ => pts_nil) (fun _ _ _ _ _ => (pe_op op_mod (pe_fn R__law_cell_at (hr.mono (by decide)) (pa_cons (pv 0) (pa_cons (pe_op op_add pe_int (pv 7)) pa_nil))) pe_int)))
        (pss_cons (ps_set (i := 3) sc_law.nd rfl (Or.inl rfl) (pe_op op_add pe_int (pe_op op_mod (pe_op op_fdiv (pe_fn R__law_cell_at (hr.mono (by decide)) (pa_cons (pv 0) (pa_cons pe_int pa_nil))) pe_int) (pe_op op_pow pe_int pe_int))))
        (C8.pss_cut (ps_if (pt_cmpR op_eq (pe_op op_mod (pe_op op_fdiv (pe_fn R__law_cell_at (hr.mono (by decide)) (pa_cons (pv 0) (pa_cons pe_int pa_nil))) pe_int) pe_int) pe_int (nomark _))
          (pss_one (ps_set (i := 3) sc_law.nd rfl (Or.inl rfl) (pe_op op_sub (pe_un un_neg pe_int) (pe_op op_mod (pe_op op_fdiv (pe_fn R__law_cell_at (hr.mono (by decide)) (pa_cons (pv 0) (pa_cons pe_int pa_nil))) pe_int) (pe_op op_pow pe_int pe_int)))))
          pss_nil)
        (pss_cons (ps_set (i := 4) sc_law.nd rfl (Or.inl rfl) (pe_cmpR op_gt (pe_op op_mod (pe_fn R__law_cell_at (hr.mono (by decide)) (pa_cons (pv 0) (pa_cons pe_int pa_nil))) pe_int) pe_int (nomark _)))
        (C8.pss_cut (ps_if (pt_val (pv 4))
          (pss_one (ps_expr (pe_bm PySem.F.plainAttrs_list PySem.F.slot_list_insert PySem.F.type_list_insert (r := rInsert) mtr_insert (pv 1) (pa_cons (pe_op op_mod (pe_fn R__law_cell_at (hr.mono (by decide)) (pa_cons (pv 0) (pa_cons pe_int pa_nil))) (pe_op op_add (pe_callB (r := rLen K) cl_len (by rfl) T.b_len (by decide +kernel) (pa_cons (pv 1) pa_nil)) pe_int)) (pa_cons (pv 3) pa_nil)))))
          pss_nil)
        (pss_cons (ps_set (i := 5) sc_law.nd rfl (Or.inl rfl) (pe_lst pa_nil))
        (C8.pss_cut (ps_if (pt_val (pv 4))
          (pss_one (ps_set (i := 5) sc_law.nd rfl (Or.inl rfl) (pe_lst (pa_cons pe_bl (pa_cons pe_bl (pa_cons pe_bl (pa_cons pe_bl (pa_cons pe_bl pa_nil))))))))
          pss_nil)
        (pss_cons (ps_set (i := 6) sc_law.nd rfl (Or.inl rfl) (pe_lst (pa_cons (pe_callTy (r := rList K) cl_list (by rfl) T.b_list (by decide +kernel) (pa_cons (pv 1) pa_nil)) (pa_cons (pe_callTy (r := rList K) cl_list (by rfl) T.b_list (by decide +kernel) (pa_cons (pv 2) pa_nil)) pa_nil))))
        (pss_cons (ps_if (PW.pt (pw_or (pt_cmpR (r := rNeD K) (op_neD hr.units) (pe_fn R__law_kinds (hr.mono (by decide)) (pa_cons (pe_op op_mod (pe_fn R__law_cell_at (hr.mono (by decide)) (pa_cons (pv 0) (pa_cons pe_int pa_nil))) pe_int) (pa_cons (pe_ix (r := rIxL K) ix_list (pv 6) pe_int (fun _ _ => rfl)) (pa_cons (pe_ix (r := rIxL K) ix_list (pv 6) pe_int (fun _ _ => rfl)) pa_nil)))) (pv 5) (nomark _)) (pw_or1 (pt_cmpR (r := rNeD K) (op_neD hr.units) (pv 6) (pe_lst (pa_cons (pv 1) (pa_cons (pv 2) pa_nil))) (nomark _)))))
          (pss_one (ps_ret pe_bl))
          pss_nil)
        (pss_one (ps_ret (pe_and (pe_fn R__law_two (hr.mono (by decide)) (pa_cons (pv 3) (pa_cons pe_int pa_nil))) (pe_and (pe_fn R__law_two (hr.mono (by decide)) (pa_cons pe_int (pa_cons (pv 3) pa_nil))) (pe_one (pe_not (pe_fn R__law_two (hr.mono (by decide)) (pa_cons pe_int (pa_cons pe_int pa_nil))))))))))))))))))), ?_⟩
    try dsimp only [cxOf, Cx.nox, Cx.wish]
    obtain ⟨a, ns, rfl, hS, hlen, q⟩ := h
    have e9 : (10 : Int) ^ (9 : Int).toNat = 1000000000 := by decide
    walk_at "run"
    refine c_rangeI (fun i => cellAt ns (3 + (i : Int)) % 7) (by omega) (fun x => rfl) (fun i H' R hi s k => ?_) ?_
    · walk_at "run"
      exact k _ (Same.refl _)
    intro l1 H1 s1 hn1 hl1
    have hf1 : Figs ((List.range (cellAt ns 0 % 7).toNat).map fun (i : Nat) => cellAt ns (3 + (i : Int)) % 7) := by
      intro x hx
      obtain ⟨i, _, rfl⟩ := List.mem_map.mp hx
      omega
    have hz1 : ((List.range (cellAt ns 0 % 7).toNat).map fun (i : Nat) => cellAt ns (3 + (i : Int)) % 7).length ≤ 6 := by
      rw [List.length_map, List.length_range]
      omega
    generalize ((List.range (cellAt ns 0 % 7).toNat).map fun (i : Nat) => cellAt ns (3 + (i : Int)) % 7) = fs at hl1 hf1 hz1
    walk_at "run"
    refine c_rangeI (fun i => cellAt ns (10 + (i : Int)) % 7) (by omega) (fun x => rfl) (fun i H' R hi s k => ?_) ?_
    · walk_at "run"
      exact k _ (Same.refl _)
    intro l2 H2 s2 hn2 hl2
    have hf2 : Figs ((List.range (cellAt ns 1 % 5).toNat).map fun (i : Nat) => cellAt ns (10 + (i : Int)) % 7) := by
      intro x hx
      obtain ⟨i, _, rfl⟩ := List.mem_map.mp hx
      omega
    have hz2 : ((List.range (cellAt ns 1 % 5).toNat).map fun (i : Nat) => cellAt ns (10 + (i : Int)) % 7).length ≤ 6 := by
      rw [List.length_map, List.length_range]
      omega
    generalize ((List.range (cellAt ns 1 % 5).toNat).map fun (i : Nat) => cellAt ns (10 + (i : Int)) % 7) = gs at hl2 hf2 hz2
    have hne : l1 ≠ l2 := ne_of_none hl1 hn2
    have hl1' := s2 _ _ hl1
    have hS2 : SqL K H2 a (ns.map V.int) := (s1.trans s2).seq hS
    have hl20 : H l2 = none := s1.free hn2
    clear hl1
    walk_at "run"
    refine ⟨fun σ H' => ∃ odd : Int, σ = [some (.ref a), some (.ref l1), some (.ref l2), some (.int odd), none, none, none, none] ∧ H' = H2 ∧ ¬ (0 ≤ odd ∧ odd ≤ 6), ?_, ?_⟩
    · walk_at "run"
      refine ite_d (fun e => ?_) (fun e => ?_)
      · walk_at "run"
        rw [e9]
        exact ⟨_, rfl, rfl, by omega⟩
      · walk_at "run"
        rw [e9]
        exact ⟨_, rfl, rfl, by omega⟩
    rintro σ H3 ⟨odd, rfl, rfl, hodd⟩
    walk_at "run"
    refine ⟨fun σ H' => ∃ (rs : List Int), σ = [some (.ref a), some (.ref l1), some (.ref l2), some (.int odd), some (.bl (decide (cellAt ns 2 % 3 > 0))), none, none, none] ∧ H' l1 = some (.lst (rs.map V.int)) ∧ H' l2 = some (.lst (gs.map V.int)) ∧ Same H H' ∧ rs.length ≤ 7 ∧ (cellAt ns 2 % 3 > 0 ↔ ¬ Figs rs), ?_, ?_⟩
    · walk_at "run"
      refine ite_d (fun e => ?_) (fun e => ?_)
      · have hl : (((fs.map V.int).length : Nat) : Int) ≤ 6 := by rw [List.length_map]; omega
        have hm0 := Int.emod_nonneg (cellAt ns 15) (show (((fs.map V.int).length : Nat) : Int) + 1 ≠ 0 by omega)
        have hm1 := Int.emod_lt_of_pos (cellAt ns 15) (show 0 < (((fs.map V.int).length : Nat) : Int) + 1 by omega)
        walk_at "run"
        refine ⟨_, rfl, upd_same, by rw [upd_ne hne.symm]; exact hl2, (s1.trans s2).mut hn1, ?_, ⟨fun _ => insert_figs hodd, fun _ => e⟩⟩
        rw [List.length_append, List.length_append, List.length_take, List.length_drop, List.length_singleton]
        omega
      · walk_at "run"
        exact ⟨fs, rfl, hl1', hl2, s1.trans s2, by omega, ⟨fun z => absurd z e, fun z => absurd hf1 z⟩⟩
    rintro σ H4 ⟨rs, rfl, hl1, hl2, s4, hz3, hb⟩
    have hS3 := s4.seq hS
    walk_at "run"
    refine ⟨fun σ H' => ∃ (ld : Addr) (bs : List Bool), σ = [some (.ref a), some (.ref l1), some (.ref l2), some (.int odd), some (.bl (decide (cellAt ns 2 % 3 > 0))), some (.ref ld), none, none] ∧ Same H4 H' ∧ H' ld = some (.lst (bs.map V.bl)) ∧ (Figs rs → bs = []) ∧ (¬ Figs rs → bs = [true, false, false, false, true]), ?_, ?_⟩
    · walk_at "run"
      refine ite_d (fun e => ?_) (fun e => ?_)
      · walk_at "run"
        exact ⟨_, [true, false, false, false, true], rfl, by walk_at "same", upd_same, fun z => absurd z (hb.mp e), fun _ => rfl⟩
      · walk_at "run"
        exact ⟨_, [], rfl, by walk_at "same", by show _ = some (HO.lst []); walk_at "ofact", fun _ => rfl, fun z => absurd (hb.mpr z) e⟩
    rintro σ H5 ⟨ld, bs, rfl, s5, hld, hbs1, hbs2⟩
    have hl15 := s5 _ _ hl1
    have hl25 := s5 _ _ hl2
    have hS5 := s5.seq hS3
    clear hl1 hl2 hS3 hl1' hS2 hS
    walk_at "run"
    rename_i p0 hp0 p1 hp1 p2 hp2 p3 hp3 l bs6 H6 s6 hl6 h61 h62
    have hbb : bs6 = bs := by
      by_cases hF : Figs rs
      · rw [h61 hF, hbs1 hF]
      · rw [h62 hF, hbs2 hF]
    have x1 : H6 p1 = some (.lst (rs.map V.int)) := s6 _ _ (by walk_at "ofact")
    have x2 : H6 p2 = some (.lst (gs.map V.int)) := s6 _ _ (by walk_at "ofact")
    have x3 : H6 p3 = some (.lst [V.ref p1, V.ref p2]) := s6 _ _ (by walk_at "ofact")
    have x4 : H6 l1 = some (.lst (rs.map V.int)) := s6 _ _ (by walk_at "ofact")
    have x5 : H6 l2 = some (.lst (gs.map V.int)) := s6 _ _ (by walk_at "ofact")
    have x6 : H6 ld = some (.lst (bs.map V.bl)) := s6 _ _ (by walk_at "ofact")
    clear hl15 hl25 hS5 hp0 s6 hp1 hp2 hp3 hld s5 hl2 s2 s4 s1 hn1 hn2 hl20
    refine r_neBL bs6 bs (SqL.of hl6) (SqL.of x6) ?_
    rw [decide_eq_true hbb]
    walk_at "run"
    rename_i p4 hp4
    refine r_neRws (rs := [rs, gs]) (qs := [rs, gs]) (SqL.of (upd_at (ne_of_none x3 hp4) x3)) (.cons ⟨p1, rfl, SqL.of (by walk_at "ofact")⟩ (.cons ⟨p2, rfl, SqL.of (by walk_at "ofact")⟩ .nil)) sqL_new (.cons ⟨l1, rfl, SqL.of (by walk_at "ofact")⟩ (.cons ⟨l2, rfl, SqL.of (by walk_at "ofact")⟩ .nil)) ?_
    have e0 : ([rs, gs] : List (List Int)) = [rs, gs] := rfl
    walk_at "run"
    rename_i t1 G1 r1 b1
    have c1 : t1 = true := b1.mpr fun z => hodd (z odd (by simp))
    subst c1
    walk_at "run"
    rename_i t2 G2 r2 b2
    have c2 : t2 = true := b2.mpr fun z => hodd (z odd (by simp))
    subst c2
    walk_at "run"
    rename_i t3 G3 r3 b3
    have c3 : t3 = false := by
      cases t3
      · rfl
      · exact absurd (show Figs [3, 6] by intro x hx; simp at hx; omega) (b3.mp rfl)
    subst c3
    walk_at "run"
    exact q _
end Hx
namespace Hx
open PySem PySem.Spec PyProof.Rows L2
set_option maxHeartbeats 0 in
theorem all_mk {P : Program} {w : World} {K : PySem.W.Frag} {h : Heap} {mg : Str → Option Value} {fa : Addr} (X : K.In h) (G : h.Ns mainGlobals mg) (hfa : mg "law" = some (.ref fa))
    {od__law_cell_at an__law_cell_at : Option Addr} {sl__law_cell_at : Array (Option Value)} {oc__law_cell_at kV__law_cell_at dc__law_cell_at pm__law_cell_at cd__law_cell_at ct__law_cell_at : Value} {f__law_cell_at : Addr}
    {od_see_figures_X an_see_figures_X : Option Addr} {sl_see_figures_X : Array (Option Value)} {oc_see_figures_X kV_see_figures_X dc_see_figures_X pm_see_figures_X cd_see_figures_X ct_see_figures_X : Value} {f_see_figures_X : Addr}
    {od_added an_added : Option Addr} {sl_added : Array (Option Value)} {oc_added kV_added dc_added pm_added cd_added ct_added : Value} {f_added : Addr}
    {od_step an_step : Option Addr} {sl_step : Array (Option Value)} {oc_step kV_step dc_step pm_step cd_step ct_step : Value} {f_step : Addr}
    {od_rest_place an_rest_place : Option Addr} {sl_rest_place : Array (Option Value)} {oc_rest_place kV_rest_place dc_rest_place pm_rest_place cd_rest_place ct_rest_place : Value} {f_rest_place : Addr}
    {od_great an_great : Option Addr} {sl_great : Array (Option Value)} {oc_great kV_great dc_great pm_great cd_great ct_great : Value} {f_great : Addr}
    {od_place_of_X an_place_of_X : Option Addr} {sl_place_of_X : Array (Option Value)} {oc_place_of_X kV_place_of_X dc_place_of_X pm_place_of_X cd_place_of_X ct_place_of_X : Value} {f_place_of_X : Addr}
    {od_rest an_rest : Option Addr} {sl_rest : Array (Option Value)} {oc_rest kV_rest dc_rest pm_rest cd_rest ct_rest : Value} {f_rest : Addr}
    {od_centre an_centre : Option Addr} {sl_centre : Array (Option Value)} {oc_centre kV_centre dc_centre pm_centre cd_centre ct_centre : Value} {f_centre : Addr}
    {od_address an_address : Option Addr} {sl_address : Array (Option Value)} {oc_address kV_address dc_address pm_address cd_address ct_address : Value} {f_address : Addr}
    {od_pair_sum an_pair_sum : Option Addr} {sl_pair_sum : Array (Option Value)} {oc_pair_sum kV_pair_sum dc_pair_sum pm_pair_sum cd_pair_sum ct_pair_sum : Value} {f_pair_sum : Addr}
    {od_column an_column : Option Addr} {sl_column : Array (Option Value)} {oc_column kV_column dc_column pm_column cd_column ct_column : Value} {f_column : Addr}
    {od_bare an_bare : Option Addr} {sl_bare : Array (Option Value)} {oc_bare kV_bare dc_bare pm_bare cd_bare ct_bare : Value} {f_bare : Addr}
    {od_columns_sum an_columns_sum : Option Addr} {sl_columns_sum : Array (Option Value)} {oc_columns_sum kV_columns_sum dc_columns_sum pm_columns_sum cd_columns_sum ct_columns_sum : Value} {f_columns_sum : Addr}
    {od_low_first an_low_first : Option Addr} {sl_low_first : Array (Option Value)} {oc_low_first kV_low_first dc_low_first pm_low_first cd_low_first ct_low_first : Value} {f_low_first : Addr}
    {od_address_sum_X an_address_sum_X : Option Addr} {sl_address_sum_X : Array (Option Value)} {oc_address_sum_X kV_address_sum_X dc_address_sum_X pm_address_sum_X cd_address_sum_X ct_address_sum_X : Value} {f_address_sum_X : Addr}
    {od_turned_figure an_turned_figure : Option Addr} {sl_turned_figure : Array (Option Value)} {oc_turned_figure kV_turned_figure dc_turned_figure pm_turned_figure cd_turned_figure ct_turned_figure : Value} {f_turned_figure : Addr}
    {od_address_turned_X an_address_turned_X : Option Addr} {sl_address_turned_X : Array (Option Value)} {oc_address_turned_X kV_address_turned_X dc_address_turned_X pm_address_turned_X cd_address_turned_X ct_address_turned_X : Value} {f_address_turned_X : Addr}
    {od_address_less_X an_address_less_X : Option Addr} {sl_address_less_X : Array (Option Value)} {oc_address_less_X kV_address_less_X dc_address_less_X pm_address_less_X cd_address_less_X ct_address_less_X : Value} {f_address_less_X : Addr}
    {od_address_product_X an_address_product_X : Option Addr} {sl_address_product_X : Array (Option Value)} {oc_address_product_X kV_address_product_X dc_address_product_X pm_address_product_X cd_address_product_X ct_address_product_X : Value} {f_address_product_X : Addr}
    {od_address_great_X an_address_great_X : Option Addr} {sl_address_great_X : Array (Option Value)} {oc_address_great_X kV_address_great_X dc_address_great_X pm_address_great_X cd_address_great_X ct_address_great_X : Value} {f_address_great_X : Addr}
    {od__law_done an__law_done : Option Addr} {sl__law_done : Array (Option Value)} {oc__law_done kV__law_done dc__law_done pm__law_done cd__law_done ct__law_done : Value} {f__law_done : Addr}
    {od__law_kinds an__law_kinds : Option Addr} {sl__law_kinds : Array (Option Value)} {oc__law_kinds kV__law_kinds dc__law_kinds pm__law_kinds cd__law_kinds ct__law_kinds : Value} {f__law_kinds : Addr}
    {od_figure_sum_X an_figure_sum_X : Option Addr} {sl_figure_sum_X : Array (Option Value)} {oc_figure_sum_X kV_figure_sum_X dc_figure_sum_X pm_figure_sum_X cd_figure_sum_X ct_figure_sum_X : Value} {f_figure_sum_X : Addr}
    {od__law_two an__law_two : Option Addr} {sl__law_two : Array (Option Value)} {oc__law_two kV__law_two dc__law_two pm__law_two cd__law_two ct__law_two : Value} {f__law_two : Addr}
    {od_law an_law : Option Addr} {sl_law : Array (Option Value)} {oc_law kV_law dc_law pm_law cd_law ct_law : Value} {f_law : Addr}
    (a__law_cell_at : PySem.W.nsIn K mainGlobals "_law_cell_at" = some (some (.ref f__law_cell_at))) (l__law_cell_at : K.lookup f__law_cell_at = some ⟨oc__law_cell_at, od__law_cell_at, .func (PySem.W.fnOf "_law_cell_at" "_law_cell_at" (defArgs s__law_cell_at) (defBody s__law_cell_at) (defScope s__law_cell_at) .none kV__law_cell_at dc__law_cell_at pm__law_cell_at an__law_cell_at cd__law_cell_at ct__law_cell_at), sl__law_cell_at⟩) (c__law_cell_at : PySem.W.codeIn K cd__law_cell_at "_law_cell_at" = true) (k__law_cell_at : PySem.W.keepIn K (.ref f__law_cell_at) = true)
    (a_see_figures_X : PySem.W.nsIn K mainGlobals "see_figures" = some (some (.ref f_see_figures_X))) (l_see_figures_X : K.lookup f_see_figures_X = some ⟨oc_see_figures_X, od_see_figures_X, .func (PySem.W.fnOf "see_figures" "see_figures" (defArgs s_see_figures_X) (defBody s_see_figures_X) (defScope s_see_figures_X) .none kV_see_figures_X dc_see_figures_X pm_see_figures_X an_see_figures_X cd_see_figures_X ct_see_figures_X), sl_see_figures_X⟩) (c_see_figures_X : PySem.W.codeIn K cd_see_figures_X "see_figures" = true) (k_see_figures_X : PySem.W.keepIn K (.ref f_see_figures_X) = true)
    (a_added : PySem.W.nsIn K mainGlobals "added" = some (some (.ref f_added))) (l_added : K.lookup f_added = some ⟨oc_added, od_added, .func (PySem.W.fnOf "added" "added" (defArgs s_added) (defBody s_added) (defScope s_added) .none kV_added dc_added pm_added an_added cd_added ct_added), sl_added⟩) (c_added : PySem.W.codeIn K cd_added "added" = true) (k_added : PySem.W.keepIn K (.ref f_added) = true)
    (a_step : PySem.W.nsIn K mainGlobals "step" = some (some (.ref f_step))) (l_step : K.lookup f_step = some ⟨oc_step, od_step, .func (PySem.W.fnOf "step" "step" (defArgs s_step) (defBody s_step) (defScope s_step) .none kV_step dc_step pm_step an_step cd_step ct_step), sl_step⟩) (c_step : PySem.W.codeIn K cd_step "step" = true) (k_step : PySem.W.keepIn K (.ref f_step) = true)
    (a_rest_place : PySem.W.nsIn K mainGlobals "rest_place" = some (some (.ref f_rest_place))) (l_rest_place : K.lookup f_rest_place = some ⟨oc_rest_place, od_rest_place, .func (PySem.W.fnOf "rest_place" "rest_place" (defArgs s_rest_place) (defBody s_rest_place) (defScope s_rest_place) .none kV_rest_place dc_rest_place pm_rest_place an_rest_place cd_rest_place ct_rest_place), sl_rest_place⟩) (c_rest_place : PySem.W.codeIn K cd_rest_place "rest_place" = true) (k_rest_place : PySem.W.keepIn K (.ref f_rest_place) = true)
    (a_great : PySem.W.nsIn K mainGlobals "great" = some (some (.ref f_great))) (l_great : K.lookup f_great = some ⟨oc_great, od_great, .func (PySem.W.fnOf "great" "great" (defArgs s_great) (defBody s_great) (defScope s_great) .none kV_great dc_great pm_great an_great cd_great ct_great), sl_great⟩) (c_great : PySem.W.codeIn K cd_great "great" = true) (k_great : PySem.W.keepIn K (.ref f_great) = true)
    (a_place_of_X : PySem.W.nsIn K mainGlobals "place_of" = some (some (.ref f_place_of_X))) (l_place_of_X : K.lookup f_place_of_X = some ⟨oc_place_of_X, od_place_of_X, .func (PySem.W.fnOf "place_of" "place_of" (defArgs s_place_of_X) (defBody s_place_of_X) (defScope s_place_of_X) .none kV_place_of_X dc_place_of_X pm_place_of_X an_place_of_X cd_place_of_X ct_place_of_X), sl_place_of_X⟩) (c_place_of_X : PySem.W.codeIn K cd_place_of_X "place_of" = true) (k_place_of_X : PySem.W.keepIn K (.ref f_place_of_X) = true)
    (a_rest : PySem.W.nsIn K mainGlobals "rest" = some (some (.ref f_rest))) (l_rest : K.lookup f_rest = some ⟨oc_rest, od_rest, .func (PySem.W.fnOf "rest" "rest" (defArgs s_rest) (defBody s_rest) (defScope s_rest) .none kV_rest dc_rest pm_rest an_rest cd_rest ct_rest), sl_rest⟩) (c_rest : PySem.W.codeIn K cd_rest "rest" = true) (k_rest : PySem.W.keepIn K (.ref f_rest) = true)
    (a_centre : PySem.W.nsIn K mainGlobals "centre" = some (some (.ref f_centre))) (l_centre : K.lookup f_centre = some ⟨oc_centre, od_centre, .func (PySem.W.fnOf "centre" "centre" (defArgs s_centre) (defBody s_centre) (defScope s_centre) .none kV_centre dc_centre pm_centre an_centre cd_centre ct_centre), sl_centre⟩) (c_centre : PySem.W.codeIn K cd_centre "centre" = true) (k_centre : PySem.W.keepIn K (.ref f_centre) = true)
    (a_address : PySem.W.nsIn K mainGlobals "address" = some (some (.ref f_address))) (l_address : K.lookup f_address = some ⟨oc_address, od_address, .func (PySem.W.fnOf "address" "address" (defArgs s_address) (defBody s_address) (defScope s_address) .none kV_address dc_address pm_address an_address cd_address ct_address), sl_address⟩) (c_address : PySem.W.codeIn K cd_address "address" = true) (k_address : PySem.W.keepIn K (.ref f_address) = true)
    (a_pair_sum : PySem.W.nsIn K mainGlobals "pair_sum" = some (some (.ref f_pair_sum))) (l_pair_sum : K.lookup f_pair_sum = some ⟨oc_pair_sum, od_pair_sum, .func (PySem.W.fnOf "pair_sum" "pair_sum" (defArgs s_pair_sum) (defBody s_pair_sum) (defScope s_pair_sum) .none kV_pair_sum dc_pair_sum pm_pair_sum an_pair_sum cd_pair_sum ct_pair_sum), sl_pair_sum⟩) (c_pair_sum : PySem.W.codeIn K cd_pair_sum "pair_sum" = true) (k_pair_sum : PySem.W.keepIn K (.ref f_pair_sum) = true)
    (a_column : PySem.W.nsIn K mainGlobals "column" = some (some (.ref f_column))) (l_column : K.lookup f_column = some ⟨oc_column, od_column, .func (PySem.W.fnOf "column" "column" (defArgs s_column) (defBody s_column) (defScope s_column) .none kV_column dc_column pm_column an_column cd_column ct_column), sl_column⟩) (c_column : PySem.W.codeIn K cd_column "column" = true) (k_column : PySem.W.keepIn K (.ref f_column) = true)
    (a_bare : PySem.W.nsIn K mainGlobals "bare" = some (some (.ref f_bare))) (l_bare : K.lookup f_bare = some ⟨oc_bare, od_bare, .func (PySem.W.fnOf "bare" "bare" (defArgs s_bare) (defBody s_bare) (defScope s_bare) .none kV_bare dc_bare pm_bare an_bare cd_bare ct_bare), sl_bare⟩) (c_bare : PySem.W.codeIn K cd_bare "bare" = true) (k_bare : PySem.W.keepIn K (.ref f_bare) = true)
    (a_columns_sum : PySem.W.nsIn K mainGlobals "columns_sum" = some (some (.ref f_columns_sum))) (l_columns_sum : K.lookup f_columns_sum = some ⟨oc_columns_sum, od_columns_sum, .func (PySem.W.fnOf "columns_sum" "columns_sum" (defArgs s_columns_sum) (defBody s_columns_sum) (defScope s_columns_sum) .none kV_columns_sum dc_columns_sum pm_columns_sum an_columns_sum cd_columns_sum ct_columns_sum), sl_columns_sum⟩) (c_columns_sum : PySem.W.codeIn K cd_columns_sum "columns_sum" = true) (k_columns_sum : PySem.W.keepIn K (.ref f_columns_sum) = true)
    (a_low_first : PySem.W.nsIn K mainGlobals "low_first" = some (some (.ref f_low_first))) (l_low_first : K.lookup f_low_first = some ⟨oc_low_first, od_low_first, .func (PySem.W.fnOf "low_first" "low_first" (defArgs s_low_first) (defBody s_low_first) (defScope s_low_first) .none kV_low_first dc_low_first pm_low_first an_low_first cd_low_first ct_low_first), sl_low_first⟩) (c_low_first : PySem.W.codeIn K cd_low_first "low_first" = true) (k_low_first : PySem.W.keepIn K (.ref f_low_first) = true)
    (a_address_sum_X : PySem.W.nsIn K mainGlobals "address_sum" = some (some (.ref f_address_sum_X))) (l_address_sum_X : K.lookup f_address_sum_X = some ⟨oc_address_sum_X, od_address_sum_X, .func (PySem.W.fnOf "address_sum" "address_sum" (defArgs s_address_sum_X) (defBody s_address_sum_X) (defScope s_address_sum_X) .none kV_address_sum_X dc_address_sum_X pm_address_sum_X an_address_sum_X cd_address_sum_X ct_address_sum_X), sl_address_sum_X⟩) (c_address_sum_X : PySem.W.codeIn K cd_address_sum_X "address_sum" = true) (k_address_sum_X : PySem.W.keepIn K (.ref f_address_sum_X) = true)
    (a_turned_figure : PySem.W.nsIn K mainGlobals "turned_figure" = some (some (.ref f_turned_figure))) (l_turned_figure : K.lookup f_turned_figure = some ⟨oc_turned_figure, od_turned_figure, .func (PySem.W.fnOf "turned_figure" "turned_figure" (defArgs s_turned_figure) (defBody s_turned_figure) (defScope s_turned_figure) .none kV_turned_figure dc_turned_figure pm_turned_figure an_turned_figure cd_turned_figure ct_turned_figure), sl_turned_figure⟩) (c_turned_figure : PySem.W.codeIn K cd_turned_figure "turned_figure" = true) (k_turned_figure : PySem.W.keepIn K (.ref f_turned_figure) = true)
    (a_address_turned_X : PySem.W.nsIn K mainGlobals "address_turned" = some (some (.ref f_address_turned_X))) (l_address_turned_X : K.lookup f_address_turned_X = some ⟨oc_address_turned_X, od_address_turned_X, .func (PySem.W.fnOf "address_turned" "address_turned" (defArgs s_address_turned_X) (defBody s_address_turned_X) (defScope s_address_turned_X) .none kV_address_turned_X dc_address_turned_X pm_address_turned_X an_address_turned_X cd_address_turned_X ct_address_turned_X), sl_address_turned_X⟩) (c_address_turned_X : PySem.W.codeIn K cd_address_turned_X "address_turned" = true) (k_address_turned_X : PySem.W.keepIn K (.ref f_address_turned_X) = true)
    (a_address_less_X : PySem.W.nsIn K mainGlobals "address_less" = some (some (.ref f_address_less_X))) (l_address_less_X : K.lookup f_address_less_X = some ⟨oc_address_less_X, od_address_less_X, .func (PySem.W.fnOf "address_less" "address_less" (defArgs s_address_less_X) (defBody s_address_less_X) (defScope s_address_less_X) .none kV_address_less_X dc_address_less_X pm_address_less_X an_address_less_X cd_address_less_X ct_address_less_X), sl_address_less_X⟩) (c_address_less_X : PySem.W.codeIn K cd_address_less_X "address_less" = true) (k_address_less_X : PySem.W.keepIn K (.ref f_address_less_X) = true)
    (a_address_product_X : PySem.W.nsIn K mainGlobals "address_product" = some (some (.ref f_address_product_X))) (l_address_product_X : K.lookup f_address_product_X = some ⟨oc_address_product_X, od_address_product_X, .func (PySem.W.fnOf "address_product" "address_product" (defArgs s_address_product_X) (defBody s_address_product_X) (defScope s_address_product_X) .none kV_address_product_X dc_address_product_X pm_address_product_X an_address_product_X cd_address_product_X ct_address_product_X), sl_address_product_X⟩) (c_address_product_X : PySem.W.codeIn K cd_address_product_X "address_product" = true) (k_address_product_X : PySem.W.keepIn K (.ref f_address_product_X) = true)
    (a_address_great_X : PySem.W.nsIn K mainGlobals "address_great" = some (some (.ref f_address_great_X))) (l_address_great_X : K.lookup f_address_great_X = some ⟨oc_address_great_X, od_address_great_X, .func (PySem.W.fnOf "address_great" "address_great" (defArgs s_address_great_X) (defBody s_address_great_X) (defScope s_address_great_X) .none kV_address_great_X dc_address_great_X pm_address_great_X an_address_great_X cd_address_great_X ct_address_great_X), sl_address_great_X⟩) (c_address_great_X : PySem.W.codeIn K cd_address_great_X "address_great" = true) (k_address_great_X : PySem.W.keepIn K (.ref f_address_great_X) = true)
    (a__law_done : PySem.W.nsIn K mainGlobals "_law_done" = some (some (.ref f__law_done))) (l__law_done : K.lookup f__law_done = some ⟨oc__law_done, od__law_done, .func (PySem.W.fnOf "_law_done" "_law_done" (defArgs s__law_done) (defBody s__law_done) (defScope s__law_done) .none kV__law_done dc__law_done pm__law_done an__law_done cd__law_done ct__law_done), sl__law_done⟩) (c__law_done : PySem.W.codeIn K cd__law_done "_law_done" = true) (k__law_done : PySem.W.keepIn K (.ref f__law_done) = true)
    (a__law_kinds : PySem.W.nsIn K mainGlobals "_law_kinds" = some (some (.ref f__law_kinds))) (l__law_kinds : K.lookup f__law_kinds = some ⟨oc__law_kinds, od__law_kinds, .func (PySem.W.fnOf "_law_kinds" "_law_kinds" (defArgs s__law_kinds) (defBody s__law_kinds) (defScope s__law_kinds) .none kV__law_kinds dc__law_kinds pm__law_kinds an__law_kinds cd__law_kinds ct__law_kinds), sl__law_kinds⟩) (c__law_kinds : PySem.W.codeIn K cd__law_kinds "_law_kinds" = true) (k__law_kinds : PySem.W.keepIn K (.ref f__law_kinds) = true)
    (a_figure_sum_X : PySem.W.nsIn K mainGlobals "figure_sum" = some (some (.ref f_figure_sum_X))) (l_figure_sum_X : K.lookup f_figure_sum_X = some ⟨oc_figure_sum_X, od_figure_sum_X, .func (PySem.W.fnOf "figure_sum" "figure_sum" (defArgs s_figure_sum_X) (defBody s_figure_sum_X) (defScope s_figure_sum_X) .none kV_figure_sum_X dc_figure_sum_X pm_figure_sum_X an_figure_sum_X cd_figure_sum_X ct_figure_sum_X), sl_figure_sum_X⟩) (c_figure_sum_X : PySem.W.codeIn K cd_figure_sum_X "figure_sum" = true) (k_figure_sum_X : PySem.W.keepIn K (.ref f_figure_sum_X) = true)
    (a__law_two : PySem.W.nsIn K mainGlobals "_law_two" = some (some (.ref f__law_two))) (l__law_two : K.lookup f__law_two = some ⟨oc__law_two, od__law_two, .func (PySem.W.fnOf "_law_two" "_law_two" (defArgs s__law_two) (defBody s__law_two) (defScope s__law_two) .none kV__law_two dc__law_two pm__law_two an__law_two cd__law_two ct__law_two), sl__law_two⟩) (c__law_two : PySem.W.codeIn K cd__law_two "_law_two" = true) (k__law_two : PySem.W.keepIn K (.ref f__law_two) = true)
    (a_law : PySem.W.nsIn K mainGlobals "law" = some (some (.ref f_law))) (l_law : K.lookup f_law = some ⟨oc_law, od_law, .func (PySem.W.fnOf "law" "law" (defArgs s_law) (defBody s_law) (defScope s_law) .none kV_law dc_law pm_law an_law cd_law ct_law), sl_law⟩) (c_law : PySem.W.codeIn K cd_law "law" = true) (k_law : PySem.W.keepIn K (.ref f_law) = true)
    (z_len : PySem.W.nsIn K mainGlobals "len" = some none)
    (z_range : PySem.W.nsIn K mainGlobals "range" = some none)
    (z_list : PySem.W.nsIn K mainGlobals "list" = some none)
    (z_tuple : PySem.W.nsIn K mainGlobals "tuple" = some none)
    (z_max : PySem.W.nsIn K mainGlobals "max" = some none)
    (z_min : PySem.W.nsIn K mainGlobals "min" = some none)
    (z_abs : PySem.W.nsIn K mainGlobals "abs" = some none)
    (z_int : PySem.W.nsIn K mainGlobals "int" = some none)
    (z_bool : PySem.W.nsIn K mainGlobals "bool" = some none)
    (z_isinstance : PySem.W.nsIn K mainGlobals "isinstance" = some none)
    (z_sorted : PySem.W.nsIn K mainGlobals "sorted" = some none)
    (z_dict : PySem.W.nsIn K mainGlobals "dict" = some none)
    (z_ValueError : PySem.W.nsIn K mainGlobals "ValueError" = some none)
    {a_STEPS b1 b2 b3 b4 b5 b6 : Addr} {dS d1 d2 d3 d4 d5 d6 : Option Addr} {nS m1 m2 m3 m4 m5 m6 : Nat} {slS sl1 sl2 sl3 sl4 sl5 sl6 : Array (Option Value)} {t1 t2 t3 t4 t5 t6 u1 u2 u3 u4 u5 u6 : Tok}
(hSTEPS : PySem.W.nsIn K mainGlobals "STEPS" = some (some (.ref a_STEPS))) (hS0 : K.lookup a_STEPS = some ⟨.type "tuple", dS, .seq #[.ref b1, .ref b2, .ref b3, .ref b4, .ref b5, .ref b6] nS, slS⟩)
(hS1 : K.lookup b1 = some ⟨.type "tuple", d1, .seq #[.int 1 t1, .int 0 u1] m1, sl1⟩) (hS2 : K.lookup b2 = some ⟨.type "tuple", d2, .seq #[.int 0 t2, .int 1 u2] m2, sl2⟩) (hS3 : K.lookup b3 = some ⟨.type "tuple", d3, .seq #[.int (-1) t3, .int 1 u3] m3, sl3⟩)
(hS4 : K.lookup b4 = some ⟨.type "tuple", d4, .seq #[.int (-1) t4, .int 0 u4] m4, sl4⟩) (hS5 : K.lookup b5 = some ⟨.type "tuple", d5, .seq #[.int 0 t5, .int (-1) u5] m5, sl5⟩) (hS6 : K.lookup b6 = some ⟨.type "tuple", d6, .seq #[.int 1 t6, .int (-1) u6] m6, sl6⟩)
    {a_FIGURES : Addr} {dFIGURES : Option Addr} {nFIGURES : Nat} {slFIGURES : Array (Option Value)} {wF0 wF1 wF2 wF3 wF4 wF5 wF6 : Tok} (hFIGURES : PySem.W.nsIn K mainGlobals "FIGURES" = some (some (.ref a_FIGURES))) (hFIGURES0 : K.lookup a_FIGURES = some ⟨.type "tuple", dFIGURES, .seq #[.int 0 wF0, .int 1 wF1, .int 5 wF2, .int 6 wF3, .int 3 wF4, .int 2 wF5, .int 4 wF6] nFIGURES, slFIGURES⟩)
    (yn : PySem.W.specialIn K (.builtin "object.__class__") "__get__" = some (some (.builtin "getset_descriptor.__get__"))) (yt : PySem.W.takesIn K (.builtin "object.__class__") = some true)
    {c_FloorError : Addr} (yg_FloorError : PySem.W.nsIn K mainGlobals "FloorError" = some (some (.ref c_FloorError))) (yx_FloorError : PySem.W.excIn K c_FloorError [.type "ValueError", .type "Exception", .type "BaseException", .type "object"] "ValueError.__new__" = true) (yk_FloorError : PySem.W.keepIn K (.ref c_FloorError) = true) (yb_FloorError : PySem.W.subIn K (.ref c_FloorError) (.type "BaseException") = some true) (yt_FloorError : PySem.W.typeIn K (.ref c_FloorError) = some (.type "type")) (yhg_FloorError : PySem.W.findIn K (.ref c_FloorError) "__getattribute__" = some (some (.builtin "BaseException.__getattribute__"))) (yhk_FloorError : PySem.W.findIn K (.ref c_FloorError) "__getattr__" = some none) (yhd_FloorError : PySem.W.hasDictIn K c_FloorError = true) (yha_FloorError : PySem.W.findIn K (.ref c_FloorError) "__class__" = some (some (.builtin "object.__class__"))) (yhm_FloorError : PySem.W.mroIn K c_FloorError (.type "object") = some true) (yv_FloorError : PySem.W.kitOne K (.ref c_FloorError) (.type "ValueError") = some true)
    {c_NoCell : Addr} (yg_NoCell : PySem.W.nsIn K mainGlobals "NoCell" = some (some (.ref c_NoCell))) (yx_NoCell : PySem.W.excIn K c_NoCell [.type "ValueError", .type "Exception", .type "BaseException", .type "object"] "ValueError.__new__" = true) (yk_NoCell : PySem.W.keepIn K (.ref c_NoCell) = true) (yb_NoCell : PySem.W.subIn K (.ref c_NoCell) (.type "BaseException") = some true) (yt_NoCell : PySem.W.typeIn K (.ref c_NoCell) = some (.type "type")) (yhg_NoCell : PySem.W.findIn K (.ref c_NoCell) "__getattribute__" = some (some (.builtin "BaseException.__getattribute__"))) (yhk_NoCell : PySem.W.findIn K (.ref c_NoCell) "__getattr__" = some none) (yhd_NoCell : PySem.W.hasDictIn K c_NoCell = true) (yha_NoCell : PySem.W.findIn K (.ref c_NoCell) "__class__" = some (some (.builtin "object.__class__"))) (yhm_NoCell : PySem.W.mroIn K c_NoCell (.type "object") = some true) (yv_NoCell : PySem.W.kitOne K (.ref c_NoCell) (.type "ValueError") = some true)
    {c_NoFigure : Addr} (yg_NoFigure : PySem.W.nsIn K mainGlobals "NoFigure" = some (some (.ref c_NoFigure))) (yx_NoFigure : PySem.W.excIn K c_NoFigure [.type "ValueError", .type "Exception", .type "BaseException", .type "object"] "ValueError.__new__" = true) (yk_NoFigure : PySem.W.keepIn K (.ref c_NoFigure) = true) (yb_NoFigure : PySem.W.subIn K (.ref c_NoFigure) (.type "BaseException") = some true) (yt_NoFigure : PySem.W.typeIn K (.ref c_NoFigure) = some (.type "type")) (yhg_NoFigure : PySem.W.findIn K (.ref c_NoFigure) "__getattribute__" = some (some (.builtin "BaseException.__getattribute__"))) (yhk_NoFigure : PySem.W.findIn K (.ref c_NoFigure) "__getattr__" = some none) (yhd_NoFigure : PySem.W.hasDictIn K c_NoFigure = true) (yha_NoFigure : PySem.W.findIn K (.ref c_NoFigure) "__class__" = some (some (.builtin "object.__class__"))) (yhm_NoFigure : PySem.W.mroIn K c_NoFigure (.type "object") = some true) (yv_NoFigure : PySem.W.kitOne K (.ref c_NoFigure) (.type "ValueError") = some true)
    {c_NoLevel : Addr} (yg_NoLevel : PySem.W.nsIn K mainGlobals "NoLevel" = some (some (.ref c_NoLevel))) (yx_NoLevel : PySem.W.excIn K c_NoLevel [.type "ValueError", .type "Exception", .type "BaseException", .type "object"] "ValueError.__new__" = true) (yk_NoLevel : PySem.W.keepIn K (.ref c_NoLevel) = true) (yb_NoLevel : PySem.W.subIn K (.ref c_NoLevel) (.type "BaseException") = some true) (yt_NoLevel : PySem.W.typeIn K (.ref c_NoLevel) = some (.type "type")) (yhg_NoLevel : PySem.W.findIn K (.ref c_NoLevel) "__getattribute__" = some (some (.builtin "BaseException.__getattribute__"))) (yhk_NoLevel : PySem.W.findIn K (.ref c_NoLevel) "__getattr__" = some none) (yhd_NoLevel : PySem.W.hasDictIn K c_NoLevel = true) (yha_NoLevel : PySem.W.findIn K (.ref c_NoLevel) "__class__" = some (some (.builtin "object.__class__"))) (yhm_NoLevel : PySem.W.mroIn K c_NoLevel (.type "object") = some true) (yv_NoLevel : PySem.W.kitOne K (.ref c_NoLevel) (.type "ValueError") = some true)
    {c_Apart : Addr} (yg_Apart : PySem.W.nsIn K mainGlobals "Apart" = some (some (.ref c_Apart))) (yx_Apart : PySem.W.excIn K c_Apart [.type "ValueError", .type "Exception", .type "BaseException", .type "object"] "ValueError.__new__" = true) (yk_Apart : PySem.W.keepIn K (.ref c_Apart) = true) (yb_Apart : PySem.W.subIn K (.ref c_Apart) (.type "BaseException") = some true) (yt_Apart : PySem.W.typeIn K (.ref c_Apart) = some (.type "type")) (yhg_Apart : PySem.W.findIn K (.ref c_Apart) "__getattribute__" = some (some (.builtin "BaseException.__getattribute__"))) (yhk_Apart : PySem.W.findIn K (.ref c_Apart) "__getattr__" = some none) (yhd_Apart : PySem.W.hasDictIn K c_Apart = true) (yha_Apart : PySem.W.findIn K (.ref c_Apart) "__class__" = some (some (.builtin "object.__class__"))) (yhm_Apart : PySem.W.mroIn K c_Apart (.type "object") = some true) (yv_Apart : PySem.W.kitOne K (.ref c_Apart) (.type "ValueError") = some true)
    (ys_Apart_Apart : PySem.W.subIn K (.ref c_Apart) (.ref c_Apart) = some true) (yi_Apart_Apart : PySem.W.kitOne K (.ref c_Apart) (.ref c_Apart) = some true)
    (ys_Apart_FloorError : PySem.W.subIn K (.ref c_Apart) (.ref c_FloorError) = some true) (yi_Apart_FloorError : PySem.W.kitOne K (.ref c_Apart) (.ref c_FloorError) = some true)
    (ys_Apart_NoCell : PySem.W.subIn K (.ref c_Apart) (.ref c_NoCell) = some false) (yi_Apart_NoCell : PySem.W.kitOne K (.ref c_Apart) (.ref c_NoCell) = some false)
    (ys_Apart_NoFigure : PySem.W.subIn K (.ref c_Apart) (.ref c_NoFigure) = some false) (yi_Apart_NoFigure : PySem.W.kitOne K (.ref c_Apart) (.ref c_NoFigure) = some false)
    (ys_Apart_NoLevel : PySem.W.subIn K (.ref c_Apart) (.ref c_NoLevel) = some false) (yi_Apart_NoLevel : PySem.W.kitOne K (.ref c_Apart) (.ref c_NoLevel) = some false)
    (ys_FloorError_Apart : PySem.W.subIn K (.ref c_FloorError) (.ref c_Apart) = some false) (yi_FloorError_Apart : PySem.W.kitOne K (.ref c_FloorError) (.ref c_Apart) = some false)
    (ys_FloorError_FloorError : PySem.W.subIn K (.ref c_FloorError) (.ref c_FloorError) = some true) (yi_FloorError_FloorError : PySem.W.kitOne K (.ref c_FloorError) (.ref c_FloorError) = some true)
    (ys_FloorError_NoCell : PySem.W.subIn K (.ref c_FloorError) (.ref c_NoCell) = some false) (yi_FloorError_NoCell : PySem.W.kitOne K (.ref c_FloorError) (.ref c_NoCell) = some false)
    (ys_FloorError_NoFigure : PySem.W.subIn K (.ref c_FloorError) (.ref c_NoFigure) = some false) (yi_FloorError_NoFigure : PySem.W.kitOne K (.ref c_FloorError) (.ref c_NoFigure) = some false)
    (ys_FloorError_NoLevel : PySem.W.subIn K (.ref c_FloorError) (.ref c_NoLevel) = some false) (yi_FloorError_NoLevel : PySem.W.kitOne K (.ref c_FloorError) (.ref c_NoLevel) = some false)
    (ys_NoCell_Apart : PySem.W.subIn K (.ref c_NoCell) (.ref c_Apart) = some false) (yi_NoCell_Apart : PySem.W.kitOne K (.ref c_NoCell) (.ref c_Apart) = some false)
    (ys_NoCell_FloorError : PySem.W.subIn K (.ref c_NoCell) (.ref c_FloorError) = some true) (yi_NoCell_FloorError : PySem.W.kitOne K (.ref c_NoCell) (.ref c_FloorError) = some true)
    (ys_NoCell_NoCell : PySem.W.subIn K (.ref c_NoCell) (.ref c_NoCell) = some true) (yi_NoCell_NoCell : PySem.W.kitOne K (.ref c_NoCell) (.ref c_NoCell) = some true)
    (ys_NoCell_NoFigure : PySem.W.subIn K (.ref c_NoCell) (.ref c_NoFigure) = some false) (yi_NoCell_NoFigure : PySem.W.kitOne K (.ref c_NoCell) (.ref c_NoFigure) = some false)
    (ys_NoCell_NoLevel : PySem.W.subIn K (.ref c_NoCell) (.ref c_NoLevel) = some false) (yi_NoCell_NoLevel : PySem.W.kitOne K (.ref c_NoCell) (.ref c_NoLevel) = some false)
    (ys_NoFigure_Apart : PySem.W.subIn K (.ref c_NoFigure) (.ref c_Apart) = some false) (yi_NoFigure_Apart : PySem.W.kitOne K (.ref c_NoFigure) (.ref c_Apart) = some false)
    (ys_NoFigure_FloorError : PySem.W.subIn K (.ref c_NoFigure) (.ref c_FloorError) = some true) (yi_NoFigure_FloorError : PySem.W.kitOne K (.ref c_NoFigure) (.ref c_FloorError) = some true)
    (ys_NoFigure_NoCell : PySem.W.subIn K (.ref c_NoFigure) (.ref c_NoCell) = some false) (yi_NoFigure_NoCell : PySem.W.kitOne K (.ref c_NoFigure) (.ref c_NoCell) = some false)
    (ys_NoFigure_NoFigure : PySem.W.subIn K (.ref c_NoFigure) (.ref c_NoFigure) = some true) (yi_NoFigure_NoFigure : PySem.W.kitOne K (.ref c_NoFigure) (.ref c_NoFigure) = some true)
    (ys_NoFigure_NoLevel : PySem.W.subIn K (.ref c_NoFigure) (.ref c_NoLevel) = some false) (yi_NoFigure_NoLevel : PySem.W.kitOne K (.ref c_NoFigure) (.ref c_NoLevel) = some false)
    (ys_NoLevel_Apart : PySem.W.subIn K (.ref c_NoLevel) (.ref c_Apart) = some false) (yi_NoLevel_Apart : PySem.W.kitOne K (.ref c_NoLevel) (.ref c_Apart) = some false)
    (ys_NoLevel_FloorError : PySem.W.subIn K (.ref c_NoLevel) (.ref c_FloorError) = some true) (yi_NoLevel_FloorError : PySem.W.kitOne K (.ref c_NoLevel) (.ref c_FloorError) = some true)
    (ys_NoLevel_NoCell : PySem.W.subIn K (.ref c_NoLevel) (.ref c_NoCell) = some false) (yi_NoLevel_NoCell : PySem.W.kitOne K (.ref c_NoLevel) (.ref c_NoCell) = some false)
    (ys_NoLevel_NoFigure : PySem.W.subIn K (.ref c_NoLevel) (.ref c_NoFigure) = some false) (yi_NoLevel_NoFigure : PySem.W.kitOne K (.ref c_NoLevel) (.ref c_NoFigure) = some false)
    (ys_NoLevel_NoLevel : PySem.W.subIn K (.ref c_NoLevel) (.ref c_NoLevel) = some true) (yi_NoLevel_NoLevel : PySem.W.kitOne K (.ref c_NoLevel) (.ref c_NoLevel) = some true) :
    ∃ fd : FuncData, (∀ (s : Shared) (v : Value), BindsTo s fd ⟨[v], []⟩ [("script", v)]) ∧ ∀ base : Heap, K.In base → base.Ns mainGlobals mg → FnOk P w K mg base CX0 12 fa fd ["script"] (sp_law K) := by
  have e := hfa.symm.trans (PySem.W.mg_of X G a_law)
  cases e
  have T : Tx mg := ⟨PySem.W.mg_none_of X G z_len, PySem.W.mg_none_of X G z_range, PySem.W.mg_none_of X G z_list, PySem.W.mg_none_of X G z_tuple, PySem.W.mg_none_of X G z_max, PySem.W.mg_none_of X G z_min, PySem.W.mg_none_of X G z_abs, PySem.W.mg_none_of X G z_int, PySem.W.mg_none_of X G z_bool, PySem.W.mg_none_of X G z_isinstance, PySem.W.mg_none_of X G z_sorted, PySem.W.mg_none_of X G z_dict, PySem.W.mg_none_of X G z_ValueError⟩
  have g_STEPS : mg "STEPS" = some (.ref a_STEPS) := PySem.W.mg_of X G hSTEPS
  have k_STEPS : G_STEPS K a_STEPS := ⟨[.ref b1, .ref b2, .ref b3, .ref b4, .ref b5, .ref b6], fun H => .inr ⟨_, _, _, hS0, rfl, rfl, by show 6 ≤ sizeLine; decide, .cons rfl (.cons rfl (.cons rfl (.cons rfl (.cons rfl (.cons rfl .nil)))))⟩, fun H => .cons (written2 hS1 H) (.cons (written2 hS2 H) (.cons (written2 hS3 H) (.cons (written2 hS4 H) (.cons (written2 hS5 H) (.cons (written2 hS6 H) .nil)))))⟩
  have g_FIGURES : mg "FIGURES" = some (.ref a_FIGURES) := PySem.W.mg_of X G hFIGURES
  have k_FIGURES : G_FIGURES K a_FIGURES := fun H => .inr ⟨_, _, _, hFIGURES0, rfl, rfl, by show 7 ≤ sizeLine; decide, .cons ⟨wF0, rfl⟩ (.cons ⟨wF1, rfl⟩ (.cons ⟨wF2, rfl⟩ (.cons ⟨wF3, rfl⟩ (.cons ⟨wF4, rfl⟩ (.cons ⟨wF5, rfl⟩ (.cons ⟨wF6, rfl⟩ .nil))))))⟩
  have e_FloorError : EC K mg "FloorError" c_FloorError := ⟨PySem.W.mg_of X G yg_FloorError, yx_FloorError, yk_FloorError, yb_FloorError, yt_FloorError, ⟨yhg_FloorError, yhk_FloorError, yb_FloorError, yhd_FloorError, yha_FloorError, yn, yt, yhm_FloorError⟩, yv_FloorError⟩
  have e_NoCell : EC K mg "NoCell" c_NoCell := ⟨PySem.W.mg_of X G yg_NoCell, yx_NoCell, yk_NoCell, yb_NoCell, yt_NoCell, ⟨yhg_NoCell, yhk_NoCell, yb_NoCell, yhd_NoCell, yha_NoCell, yn, yt, yhm_NoCell⟩, yv_NoCell⟩
  have e_NoFigure : EC K mg "NoFigure" c_NoFigure := ⟨PySem.W.mg_of X G yg_NoFigure, yx_NoFigure, yk_NoFigure, yb_NoFigure, yt_NoFigure, ⟨yhg_NoFigure, yhk_NoFigure, yb_NoFigure, yhd_NoFigure, yha_NoFigure, yn, yt, yhm_NoFigure⟩, yv_NoFigure⟩
  have e_NoLevel : EC K mg "NoLevel" c_NoLevel := ⟨PySem.W.mg_of X G yg_NoLevel, yx_NoLevel, yk_NoLevel, yb_NoLevel, yt_NoLevel, ⟨yhg_NoLevel, yhk_NoLevel, yb_NoLevel, yhd_NoLevel, yha_NoLevel, yn, yt, yhm_NoLevel⟩, yv_NoLevel⟩
  have e_Apart : EC K mg "Apart" c_Apart := ⟨PySem.W.mg_of X G yg_Apart, yx_Apart, yk_Apart, yb_Apart, yt_Apart, ⟨yhg_Apart, yhk_Apart, yb_Apart, yhd_Apart, yha_Apart, yn, yt, yhm_Apart⟩, yv_Apart⟩
  have z_Apart_Apart : Rel K c_Apart c_Apart true := ⟨ys_Apart_Apart, yi_Apart_Apart⟩
  have z_Apart_FloorError : Rel K c_Apart c_FloorError true := ⟨ys_Apart_FloorError, yi_Apart_FloorError⟩
  have z_Apart_NoCell : Rel K c_Apart c_NoCell false := ⟨ys_Apart_NoCell, yi_Apart_NoCell⟩
  have z_Apart_NoFigure : Rel K c_Apart c_NoFigure false := ⟨ys_Apart_NoFigure, yi_Apart_NoFigure⟩
  have z_Apart_NoLevel : Rel K c_Apart c_NoLevel false := ⟨ys_Apart_NoLevel, yi_Apart_NoLevel⟩
  have z_FloorError_Apart : Rel K c_FloorError c_Apart false := ⟨ys_FloorError_Apart, yi_FloorError_Apart⟩
  have z_FloorError_FloorError : Rel K c_FloorError c_FloorError true := ⟨ys_FloorError_FloorError, yi_FloorError_FloorError⟩
  have z_FloorError_NoCell : Rel K c_FloorError c_NoCell false := ⟨ys_FloorError_NoCell, yi_FloorError_NoCell⟩
  have z_FloorError_NoFigure : Rel K c_FloorError c_NoFigure false := ⟨ys_FloorError_NoFigure, yi_FloorError_NoFigure⟩
  have z_FloorError_NoLevel : Rel K c_FloorError c_NoLevel false := ⟨ys_FloorError_NoLevel, yi_FloorError_NoLevel⟩
  have z_NoCell_Apart : Rel K c_NoCell c_Apart false := ⟨ys_NoCell_Apart, yi_NoCell_Apart⟩
  have z_NoCell_FloorError : Rel K c_NoCell c_FloorError true := ⟨ys_NoCell_FloorError, yi_NoCell_FloorError⟩
  have z_NoCell_NoCell : Rel K c_NoCell c_NoCell true := ⟨ys_NoCell_NoCell, yi_NoCell_NoCell⟩
  have z_NoCell_NoFigure : Rel K c_NoCell c_NoFigure false := ⟨ys_NoCell_NoFigure, yi_NoCell_NoFigure⟩
  have z_NoCell_NoLevel : Rel K c_NoCell c_NoLevel false := ⟨ys_NoCell_NoLevel, yi_NoCell_NoLevel⟩
  have z_NoFigure_Apart : Rel K c_NoFigure c_Apart false := ⟨ys_NoFigure_Apart, yi_NoFigure_Apart⟩
  have z_NoFigure_FloorError : Rel K c_NoFigure c_FloorError true := ⟨ys_NoFigure_FloorError, yi_NoFigure_FloorError⟩
  have z_NoFigure_NoCell : Rel K c_NoFigure c_NoCell false := ⟨ys_NoFigure_NoCell, yi_NoFigure_NoCell⟩
  have z_NoFigure_NoFigure : Rel K c_NoFigure c_NoFigure true := ⟨ys_NoFigure_NoFigure, yi_NoFigure_NoFigure⟩
  have z_NoFigure_NoLevel : Rel K c_NoFigure c_NoLevel false := ⟨ys_NoFigure_NoLevel, yi_NoFigure_NoLevel⟩
  have z_NoLevel_Apart : Rel K c_NoLevel c_Apart false := ⟨ys_NoLevel_Apart, yi_NoLevel_Apart⟩
  have z_NoLevel_FloorError : Rel K c_NoLevel c_FloorError true := ⟨ys_NoLevel_FloorError, yi_NoLevel_FloorError⟩
  have z_NoLevel_NoCell : Rel K c_NoLevel c_NoCell false := ⟨ys_NoLevel_NoCell, yi_NoLevel_NoCell⟩
  have z_NoLevel_NoFigure : Rel K c_NoLevel c_NoFigure false := ⟨ys_NoLevel_NoFigure, yi_NoLevel_NoFigure⟩
  have z_NoLevel_NoLevel : Rel K c_NoLevel c_NoLevel true := ⟨ys_NoLevel_NoLevel, yi_NoLevel_NoLevel⟩
  have F__law_cell_at : Fn K mg "_law_cell_at" "_law_cell_at" s__law_cell_at n__law_cell_at_p := ⟨_, _, fun_mk (st := s__law_cell_at) l__law_cell_at c__law_cell_at k__law_cell_at, PySem.W.mg_of X G a__law_cell_at, (fun_mk (st := s__law_cell_at) l__law_cell_at c__law_cell_at k__law_cell_at).binds (ps := n__law_cell_at_p) fun _ _ _ _ _ _ us hl => match us, hl with | [_, _], _ => rfl⟩
  have F_see_figures_X : Fn K mg "see_figures" "see_figures" s_see_figures_X n_see_figures_X_p := ⟨_, _, fun_mk (st := s_see_figures_X) l_see_figures_X c_see_figures_X k_see_figures_X, PySem.W.mg_of X G a_see_figures_X, (fun_mk (st := s_see_figures_X) l_see_figures_X c_see_figures_X k_see_figures_X).binds (ps := n_see_figures_X_p) fun _ _ _ _ _ _ us hl => match us, hl with | [_], _ => rfl⟩
  have F_added : Fn K mg "added" "added" s_added n_added_p := ⟨_, _, fun_mk (st := s_added) l_added c_added k_added, PySem.W.mg_of X G a_added, (fun_mk (st := s_added) l_added c_added k_added).binds (ps := n_added_p) fun _ _ _ _ _ _ us hl => match us, hl with | [_, _], _ => rfl⟩
  have F_step : Fn K mg "step" "step" s_step n_step_p := ⟨_, _, fun_mk (st := s_step) l_step c_step k_step, PySem.W.mg_of X G a_step, (fun_mk (st := s_step) l_step c_step k_step).binds (ps := n_step_p) fun _ _ _ _ _ _ us hl => match us, hl with | [_], _ => rfl⟩
  have F_rest_place : Fn K mg "rest_place" "rest_place" s_rest_place n_rest_place_p := ⟨_, _, fun_mk (st := s_rest_place) l_rest_place c_rest_place k_rest_place, PySem.W.mg_of X G a_rest_place, (fun_mk (st := s_rest_place) l_rest_place c_rest_place k_rest_place).binds (ps := n_rest_place_p) fun _ _ _ _ _ _ us hl => match us, hl with | [_], _ => rfl⟩
  have F_great : Fn K mg "great" "great" s_great n_great_p := ⟨_, _, fun_mk (st := s_great) l_great c_great k_great, PySem.W.mg_of X G a_great, (fun_mk (st := s_great) l_great c_great k_great).binds (ps := n_great_p) fun _ _ _ _ _ _ us hl => match us, hl with | [_], _ => rfl⟩
  have F_place_of_X : Fn K mg "place_of" "place_of" s_place_of_X n_place_of_X_p := ⟨_, _, fun_mk (st := s_place_of_X) l_place_of_X c_place_of_X k_place_of_X, PySem.W.mg_of X G a_place_of_X, (fun_mk (st := s_place_of_X) l_place_of_X c_place_of_X k_place_of_X).binds (ps := n_place_of_X_p) fun _ _ _ _ _ _ us hl => match us, hl with | [_], _ => rfl⟩
  have F_rest : Fn K mg "rest" "rest" s_rest n_rest_p := ⟨_, _, fun_mk (st := s_rest) l_rest c_rest k_rest, PySem.W.mg_of X G a_rest, (fun_mk (st := s_rest) l_rest c_rest k_rest).binds (ps := n_rest_p) fun _ _ _ _ _ _ us hl => match us, hl with | [_], _ => rfl⟩
  have F_centre : Fn K mg "centre" "centre" s_centre n_centre_p := ⟨_, _, fun_mk (st := s_centre) l_centre c_centre k_centre, PySem.W.mg_of X G a_centre, (fun_mk (st := s_centre) l_centre c_centre k_centre).binds (ps := n_centre_p) fun _ _ _ _ _ _ us hl => match us, hl with | [_], _ => rfl⟩
  have F_address : Fn K mg "address" "address" s_address n_address_p := ⟨_, _, fun_mk (st := s_address) l_address c_address k_address, PySem.W.mg_of X G a_address, (fun_mk (st := s_address) l_address c_address k_address).binds (ps := n_address_p) fun _ _ _ _ _ _ us hl => match us, hl with | [_], _ => rfl⟩
  have F_pair_sum : Fn K mg "pair_sum" "pair_sum" s_pair_sum n_pair_sum_p := ⟨_, _, fun_mk (st := s_pair_sum) l_pair_sum c_pair_sum k_pair_sum, PySem.W.mg_of X G a_pair_sum, (fun_mk (st := s_pair_sum) l_pair_sum c_pair_sum k_pair_sum).binds (ps := n_pair_sum_p) fun _ _ _ _ _ _ us hl => match us, hl with | [_, _], _ => rfl⟩
  have F_column : Fn K mg "column" "column" s_column n_column_p := ⟨_, _, fun_mk (st := s_column) l_column c_column k_column, PySem.W.mg_of X G a_column, (fun_mk (st := s_column) l_column c_column k_column).binds (ps := n_column_p) fun _ _ _ _ _ _ us hl => match us, hl with | [_], _ => rfl⟩
  have F_bare : Fn K mg "bare" "bare" s_bare n_bare_p := ⟨_, _, fun_mk (st := s_bare) l_bare c_bare k_bare, PySem.W.mg_of X G a_bare, (fun_mk (st := s_bare) l_bare c_bare k_bare).binds (ps := n_bare_p) fun _ _ _ _ _ _ us hl => match us, hl with | [_], _ => rfl⟩
  have F_columns_sum : Fn K mg "columns_sum" "columns_sum" s_columns_sum n_columns_sum_p := ⟨_, _, fun_mk (st := s_columns_sum) l_columns_sum c_columns_sum k_columns_sum, PySem.W.mg_of X G a_columns_sum, (fun_mk (st := s_columns_sum) l_columns_sum c_columns_sum k_columns_sum).binds (ps := n_columns_sum_p) fun _ _ _ _ _ _ us hl => match us, hl with | [_], _ => rfl⟩
  have F_low_first : Fn K mg "low_first" "low_first" s_low_first n_low_first_p := ⟨_, _, fun_mk (st := s_low_first) l_low_first c_low_first k_low_first, PySem.W.mg_of X G a_low_first, (fun_mk (st := s_low_first) l_low_first c_low_first k_low_first).binds (ps := n_low_first_p) fun _ _ _ _ _ _ us hl => match us, hl with | [_], _ => rfl⟩
  have F_address_sum_X : Fn K mg "address_sum" "address_sum" s_address_sum_X n_address_sum_X_p := ⟨_, _, fun_mk (st := s_address_sum_X) l_address_sum_X c_address_sum_X k_address_sum_X, PySem.W.mg_of X G a_address_sum_X, (fun_mk (st := s_address_sum_X) l_address_sum_X c_address_sum_X k_address_sum_X).binds (ps := n_address_sum_X_p) fun _ _ _ _ _ _ us hl => match us, hl with | [_, _], _ => rfl⟩
  have F_turned_figure : Fn K mg "turned_figure" "turned_figure" s_turned_figure n_turned_figure_p := ⟨_, _, fun_mk (st := s_turned_figure) l_turned_figure c_turned_figure k_turned_figure, PySem.W.mg_of X G a_turned_figure, (fun_mk (st := s_turned_figure) l_turned_figure c_turned_figure k_turned_figure).binds (ps := n_turned_figure_p) fun _ _ _ _ _ _ us hl => match us, hl with | [_, _], _ => rfl⟩
  have F_address_turned_X : Fn K mg "address_turned" "address_turned" s_address_turned_X n_address_turned_X_p := ⟨_, _, fun_mk (st := s_address_turned_X) l_address_turned_X c_address_turned_X k_address_turned_X, PySem.W.mg_of X G a_address_turned_X, (fun_mk (st := s_address_turned_X) l_address_turned_X c_address_turned_X k_address_turned_X).binds (ps := n_address_turned_X_p) fun _ _ _ _ _ _ us hl => match us, hl with | [_, _], _ => rfl⟩
  have F_address_less_X : Fn K mg "address_less" "address_less" s_address_less_X n_address_less_X_p := ⟨_, _, fun_mk (st := s_address_less_X) l_address_less_X c_address_less_X k_address_less_X, PySem.W.mg_of X G a_address_less_X, (fun_mk (st := s_address_less_X) l_address_less_X c_address_less_X k_address_less_X).binds (ps := n_address_less_X_p) fun _ _ _ _ _ _ us hl => match us, hl with | [_, _], _ => rfl⟩
  have F_address_product_X : Fn K mg "address_product" "address_product" s_address_product_X n_address_product_X_p := ⟨_, _, fun_mk (st := s_address_product_X) l_address_product_X c_address_product_X k_address_product_X, PySem.W.mg_of X G a_address_product_X, (fun_mk (st := s_address_product_X) l_address_product_X c_address_product_X k_address_product_X).binds (ps := n_address_product_X_p) fun _ _ _ _ _ _ us hl => match us, hl with | [_, _], _ => rfl⟩
  have F_address_great_X : Fn K mg "address_great" "address_great" s_address_great_X n_address_great_X_p := ⟨_, _, fun_mk (st := s_address_great_X) l_address_great_X c_address_great_X k_address_great_X, PySem.W.mg_of X G a_address_great_X, (fun_mk (st := s_address_great_X) l_address_great_X c_address_great_X k_address_great_X).binds (ps := n_address_great_X_p) fun _ _ _ _ _ _ us hl => match us, hl with | [_], _ => rfl⟩
  have F__law_done : Fn K mg "_law_done" "_law_done" s__law_done n__law_done_p := ⟨_, _, fun_mk (st := s__law_done) l__law_done c__law_done k__law_done, PySem.W.mg_of X G a__law_done, (fun_mk (st := s__law_done) l__law_done c__law_done k__law_done).binds (ps := n__law_done_p) fun _ _ _ _ _ _ us hl => match us, hl with | [_, _, _], _ => rfl⟩
  have F__law_kinds : Fn K mg "_law_kinds" "_law_kinds" s__law_kinds n__law_kinds_p := ⟨_, _, fun_mk (st := s__law_kinds) l__law_kinds c__law_kinds k__law_kinds, PySem.W.mg_of X G a__law_kinds, (fun_mk (st := s__law_kinds) l__law_kinds c__law_kinds k__law_kinds).binds (ps := n__law_kinds_p) fun _ _ _ _ _ _ us hl => match us, hl with | [_, _, _], _ => rfl⟩
  have F_figure_sum_X : Fn K mg "figure_sum" "figure_sum" s_figure_sum_X n_figure_sum_X_p := ⟨_, _, fun_mk (st := s_figure_sum_X) l_figure_sum_X c_figure_sum_X k_figure_sum_X, PySem.W.mg_of X G a_figure_sum_X, (fun_mk (st := s_figure_sum_X) l_figure_sum_X c_figure_sum_X k_figure_sum_X).binds (ps := n_figure_sum_X_p) fun _ _ _ _ _ _ us hl => match us, hl with | [_, _], _ => rfl⟩
  have F__law_two : Fn K mg "_law_two" "_law_two" s__law_two n__law_two_p := ⟨_, _, fun_mk (st := s__law_two) l__law_two c__law_two k__law_two, PySem.W.mg_of X G a__law_two, (fun_mk (st := s__law_two) l__law_two c__law_two k__law_two).binds (ps := n__law_two_p) fun _ _ _ _ _ _ us hl => match us, hl with | [_, _], _ => rfl⟩
  have F_law : Fn K mg "law" "law" s_law n_law_p := ⟨_, _, fun_mk (st := s_law) l_law c_law k_law, PySem.W.mg_of X G a_law, (fun_mk (st := s_law) l_law c_law k_law).binds (ps := n_law_p) fun _ _ _ _ _ _ us hl => match us, hl with | [_], _ => rfl⟩
  have R (base : Heap) : FnOk P w K mg base CX0 12 fa (PySem.W.fnOf "law" "law" (defArgs s_law) (defBody s_law) (defScope s_law) .none kV_law dc_law pm_law an_law cd_law ct_law) n_law_p (sp_law K) := by
    have R__law_cell_at : Ref P w K mg base CX0 1 "_law_cell_at" n__law_cell_at_p (sp__law_cell_at K) := ok__law_cell_at F__law_cell_at T
    have R_see_figures_X : Ref P w K mg base (L2.CX P w) 1 "see_figures" n_see_figures_X_p (sp_see_figures_X K c_NoFigure) := ok_see_figures_X F_see_figures_X T e_NoFigure
    have R_added : Ref P w K mg base CX0 1 "added" n_added_p (sp_added K) := ok_added F_added T
    have R_step : Ref P w K mg base CX0 1 "step" n_step_p (sp_step K) := ok_step F_step T g_STEPS k_STEPS
    have R_rest_place : Ref P w K mg base CX0 2 "rest_place" n_rest_place_p (sp_rest_place K) := ok_rest_place F_rest_place T R_step
    have R_great : Ref P w K mg base CX0 1 "great" n_great_p (sp_great K) := ok_great F_great T
    have R_place_of_X : Ref P w K mg base (L2.CX P w) 3 "place_of" n_place_of_X_p (sp_place_of_X K c_NoFigure) := ok_place_of_X F_place_of_X T e_NoFigure R_see_figures_X R_added R_rest_place R_great
    have R_rest : Ref P w K mg base CX0 1 "rest" n_rest_p (sp_rest K) := ok_rest F_rest T g_FIGURES k_FIGURES
    have R_centre : Ref P w K mg base CX0 3 "centre" n_centre_p (sp_centre K) := ok_centre F_centre T R_rest_place R_rest
    have R_address : Ref P w K mg base CX0 4 "address" n_address_p (sp_address K) := ok_address F_address T R_rest R_centre
    have R_pair_sum : Ref P w K mg base CX0 5 "pair_sum" n_pair_sum_p (sp_pair_sum K) := ok_pair_sum F_pair_sum T R_address R_added R_rest_place
    have R_column : Ref P w K mg base CX0 6 "column" n_column_p (sp_column K) := ok_column F_column T R_pair_sum
    have R_bare : Ref P w K mg base CX0 1 "bare" n_bare_p (sp_bare K) := ok_bare F_bare T
    have R_columns_sum : Ref P w K mg base CX0 7 "columns_sum" n_columns_sum_p (sp_columns_sum K) := ok_columns_sum F_columns_sum T R_column R_bare
    have R_low_first : Ref P w K mg base CX0 1 "low_first" n_low_first_p (sp_low_first K) := ok_low_first F_low_first T
    have R_address_sum_X : Ref P w K mg base (L2.CX P w) 8 "address_sum" n_address_sum_X_p (sp_address_sum_X K c_NoFigure) := ok_address_sum_X F_address_sum_X T e_NoFigure R_see_figures_X R_columns_sum R_low_first
    have R_see_figures : Ref P w K mg base CX0 1 "see_figures" n_see_figures_p (sp_see_figures K) := ok_see_figures F_see_figures_X T
    have R_address_sum : Ref P w K mg base CX0 8 "address_sum" n_address_sum_p (sp_address_sum K) := ok_address_sum F_address_sum_X T R_see_figures R_columns_sum R_low_first
    have R_turned_figure : Ref P w K mg base CX0 1 "turned_figure" n_turned_figure_p (sp_turned_figure K) := ok_turned_figure F_turned_figure T
    have R_address_turned_X : Ref P w K mg base (L2.CX P w) 2 "address_turned" n_address_turned_X_p (sp_address_turned_X K c_NoFigure) := ok_address_turned_X F_address_turned_X T e_NoFigure R_see_figures_X R_bare R_turned_figure
    have R_address_less_X : Ref P w K mg base (L2.CX P w) 9 "address_less" n_address_less_X_p (sp_address_less_X K c_NoFigure) := ok_address_less_X F_address_less_X T e_NoFigure R_address_sum R_address_turned_X
    have R_address_product_X : Ref P w K mg base (L2.CX P w) 8 "address_product" n_address_product_X_p (sp_address_product_X K c_NoFigure) := ok_address_product_X F_address_product_X T e_NoFigure R_see_figures_X R_low_first R_turned_figure R_columns_sum
    have R_address_great_X : Ref P w K mg base (L2.CX P w) 2 "address_great" n_address_great_X_p (sp_address_great_X K c_NoFigure) := ok_address_great_X F_address_great_X T e_NoFigure R_see_figures_X R_bare
    have R__law_done : Ref P w K mg base (L2.CX P w) 10 "_law_done" n__law_done_p (sp__law_done K c_NoFigure) := ok__law_done F__law_done T e_NoFigure R_place_of_X R_address_sum_X R_address_less_X R_address_product_X R_address_turned_X R_address_great_X
    have R__law_kinds : Ref P w K mg base CX0 11 "_law_kinds" n__law_kinds_p (sp__law_kinds K) := ok__law_kinds F__law_kinds T e_FloorError e_Apart e_NoLevel e_NoCell e_NoFigure z_FloorError_FloorError z_FloorError_Apart z_FloorError_NoLevel z_FloorError_NoCell z_FloorError_NoFigure z_Apart_FloorError z_Apart_Apart z_Apart_NoLevel z_Apart_NoCell z_Apart_NoFigure z_NoLevel_FloorError z_NoLevel_Apart z_NoLevel_NoLevel z_NoLevel_NoCell z_NoLevel_NoFigure z_NoCell_FloorError z_NoCell_Apart z_NoCell_NoLevel z_NoCell_NoCell z_NoCell_NoFigure z_NoFigure_FloorError z_NoFigure_Apart z_NoFigure_NoLevel z_NoFigure_NoCell z_NoFigure_NoFigure R__law_done
    have R_figure_sum_X : Ref P w K mg base (L2.CX P w) 6 "figure_sum" n_figure_sum_X_p (sp_figure_sum_X K c_NoFigure) := ok_figure_sum_X F_figure_sum_X T e_NoFigure R_see_figures_X R_pair_sum
    have R__law_two : Ref P w K mg base CX0 7 "_law_two" n__law_two_p (sp__law_two K) := ok__law_two F__law_two T e_NoFigure z_NoFigure_NoFigure R_figure_sum_X
    exact okF_law (fun_mk (st := s_law) l_law c_law k_law) T R__law_cell_at R__law_kinds R__law_two
  exact ⟨_, fun s v => .of_eq rfl, fun base _ _ => R base⟩
end Hx
open PySem PySem.W PyProof.Rows
set_option maxRecDepth 100000 in
set_option maxHeartbeats 0 in
theorem PySem.Challenge.cw_hexaddress_k13_no_figure_holds : PySem.Challenge.rw_hexaddress_k13_no_figure.Holds := by
  w_on; o_law; k_head; (case hw => w_witness2)
  k_fill
  refine L2.walk_of (l := PySem.Challenge.rw_hexaddress_k13_no_figure) (n := 63) (k := 12) (x := "script") (CX := fun _ => L2.CX0) (sp := fun w => Hx.sp_law _) rfl (by decide) rfl ⟨rfl, by decide, by decide⟩ (fun w h Y => PySem.W.kIn_of Y) ?F (fun _ _ a ns hl _ hS => ⟨a, ns, rfl, hS, hl, fun _ => rfl⟩) (fun _ _ _ _ _ h => h)
  case F =>
    intro w mg fa h KX G hmg
    refine' Hx.all_mk KX G hmg ?a__law_cell_at ?l__law_cell_at ?c__law_cell_at ?k__law_cell_at ?a_see_figures_X ?l_see_figures_X ?c_see_figures_X ?k_see_figures_X ?a_added ?l_added ?c_added ?k_added ?a_step ?l_step ?c_step ?k_step ?a_rest_place ?l_rest_place ?c_rest_place ?k_rest_place ?a_great ?l_great ?c_great ?k_great ?a_place_of_X ?l_place_of_X ?c_place_of_X ?k_place_of_X ?a_rest ?l_rest ?c_rest ?k_rest ?a_centre ?l_centre ?c_centre ?k_centre ?a_address ?l_address ?c_address ?k_address ?a_pair_sum ?l_pair_sum ?c_pair_sum ?k_pair_sum ?a_column ?l_column ?c_column ?k_column ?a_bare ?l_bare ?c_bare ?k_bare ?a_columns_sum ?l_columns_sum ?c_columns_sum ?k_columns_sum ?a_low_first ?l_low_first ?c_low_first ?k_low_first ?a_address_sum_X ?l_address_sum_X ?c_address_sum_X ?k_address_sum_X ?a_turned_figure ?l_turned_figure ?c_turned_figure ?k_turned_figure ?a_address_turned_X ?l_address_turned_X ?c_address_turned_X ?k_address_turned_X ?a_address_less_X ?l_address_less_X ?c_address_less_X ?k_address_less_X ?a_address_product_X ?l_address_product_X ?c_address_product_X ?k_address_product_X ?a_address_great_X ?l_address_great_X ?c_address_great_X ?k_address_great_X ?a__law_done ?l__law_done ?c__law_done ?k__law_done ?a__law_kinds ?l__law_kinds ?c__law_kinds ?k__law_kinds ?a_figure_sum_X ?l_figure_sum_X ?c_figure_sum_X ?k_figure_sum_X ?a__law_two ?l__law_two ?c__law_two ?k__law_two ?a_law ?l_law ?c_law ?k_law ?z_len ?z_range ?z_list ?z_tuple ?z_max ?z_min ?z_abs ?z_int ?z_bool ?z_isinstance ?z_sorted ?z_dict ?z_ValueError ?hSTEPS ?hS0 ?hS1 ?hS2 ?hS3 ?hS4 ?hS5 ?hS6 ?hFIGURES ?hFIGURES0 ?yn ?yt ?yg_FloorError ?yx_FloorError ?yk_FloorError ?yb_FloorError ?yt_FloorError ?yhg_FloorError ?yhk_FloorError ?yhd_FloorError ?yha_FloorError ?yhm_FloorError ?yv_FloorError ?yg_NoCell ?yx_NoCell ?yk_NoCell ?yb_NoCell ?yt_NoCell ?yhg_NoCell ?yhk_NoCell ?yhd_NoCell ?yha_NoCell ?yhm_NoCell ?yv_NoCell ?yg_NoFigure ?yx_NoFigure ?yk_NoFigure ?yb_NoFigure ?yt_NoFigure ?yhg_NoFigure ?yhk_NoFigure ?yhd_NoFigure ?yha_NoFigure ?yhm_NoFigure ?yv_NoFigure ?yg_NoLevel ?yx_NoLevel ?yk_NoLevel ?yb_NoLevel ?yt_NoLevel ?yhg_NoLevel ?yhk_NoLevel ?yhd_NoLevel ?yha_NoLevel ?yhm_NoLevel ?yv_NoLevel ?yg_Apart ?yx_Apart ?yk_Apart ?yb_Apart ?yt_Apart ?yhg_Apart ?yhk_Apart ?yhd_Apart ?yha_Apart ?yhm_Apart ?yv_Apart ?ys_Apart_Apart ?yi_Apart_Apart ?ys_Apart_FloorError ?yi_Apart_FloorError ?ys_Apart_NoCell ?yi_Apart_NoCell ?ys_Apart_NoFigure ?yi_Apart_NoFigure ?ys_Apart_NoLevel ?yi_Apart_NoLevel ?ys_FloorError_Apart ?yi_FloorError_Apart ?ys_FloorError_FloorError ?yi_FloorError_FloorError ?ys_FloorError_NoCell ?yi_FloorError_NoCell ?ys_FloorError_NoFigure ?yi_FloorError_NoFigure ?ys_FloorError_NoLevel ?yi_FloorError_NoLevel ?ys_NoCell_Apart ?yi_NoCell_Apart ?ys_NoCell_FloorError ?yi_NoCell_FloorError ?ys_NoCell_NoCell ?yi_NoCell_NoCell ?ys_NoCell_NoFigure ?yi_NoCell_NoFigure ?ys_NoCell_NoLevel ?yi_NoCell_NoLevel ?ys_NoFigure_Apart ?yi_NoFigure_Apart ?ys_NoFigure_FloorError ?yi_NoFigure_FloorError ?ys_NoFigure_NoCell ?yi_NoFigure_NoCell ?ys_NoFigure_NoFigure ?yi_NoFigure_NoFigure ?ys_NoFigure_NoLevel ?yi_NoFigure_NoLevel ?ys_NoLevel_Apart ?yi_NoLevel_Apart ?ys_NoLevel_FloorError ?yi_NoLevel_FloorError ?ys_NoLevel_NoCell ?yi_NoLevel_NoCell ?ys_NoLevel_NoFigure ?yi_NoLevel_NoFigure ?ys_NoLevel_NoLevel ?yi_NoLevel_NoLevel
    (case a__law_cell_at => k_is)
    (case l__law_cell_at => k_is)
    (case c__law_cell_at => k_is)
    (case k__law_cell_at => k_is)
    (case a_see_figures_X => k_is)
    (case l_see_figures_X => k_is)
    (case c_see_figures_X => k_is)
    (case k_see_figures_X => k_is)
    (case a_added => k_is)
    (case l_added => k_is)
    (case c_added => k_is)
    (case k_added => k_is)
    (case a_step => k_is)
    (case l_step => k_is)
    (case c_step => k_is)
    (case k_step => k_is)
    (case a_rest_place => k_is)
    (case l_rest_place => k_is)
    (case c_rest_place => k_is)
    (case k_rest_place => k_is)
    (case a_great => k_is)
    (case l_great => k_is)
    (case c_great => k_is)
    (case k_great => k_is)
    (case a_place_of_X => k_is)
    (case l_place_of_X => k_is)
    (case c_place_of_X => k_is)
    (case k_place_of_X => k_is)
    (case a_rest => k_is)
    (case l_rest => k_is)
    (case c_rest => k_is)
    (case k_rest => k_is)
    (case a_centre => k_is)
    (case l_centre => k_is)
    (case c_centre => k_is)
    (case k_centre => k_is)
    (case a_address => k_is)
    (case l_address => k_is)
    (case c_address => k_is)
    (case k_address => k_is)
    (case a_pair_sum => k_is)
    (case l_pair_sum => k_is)
    (case c_pair_sum => k_is)
    (case k_pair_sum => k_is)
    (case a_column => k_is)
    (case l_column => k_is)
    (case c_column => k_is)
    (case k_column => k_is)
    (case a_bare => k_is)
    (case l_bare => k_is)
    (case c_bare => k_is)
    (case k_bare => k_is)
    (case a_columns_sum => k_is)
    (case l_columns_sum => k_is)
    (case c_columns_sum => k_is)
    (case k_columns_sum => k_is)
    (case a_low_first => k_is)
    (case l_low_first => k_is)
    (case c_low_first => k_is)
    (case k_low_first => k_is)
    (case a_address_sum_X => k_is)
    (case l_address_sum_X => k_is)
    (case c_address_sum_X => k_is)
    (case k_address_sum_X => k_is)
    (case a_turned_figure => k_is)
    (case l_turned_figure => k_is)
    (case c_turned_figure => k_is)
    (case k_turned_figure => k_is)
    (case a_address_turned_X => k_is)
    (case l_address_turned_X => k_is)
    (case c_address_turned_X => k_is)
    (case k_address_turned_X => k_is)
    (case a_address_less_X => k_is)
    (case l_address_less_X => k_is)
    (case c_address_less_X => k_is)
    (case k_address_less_X => k_is)
    (case a_address_product_X => k_is)
    (case l_address_product_X => k_is)
    (case c_address_product_X => k_is)
    (case k_address_product_X => k_is)
    (case a_address_great_X => k_is)
    (case l_address_great_X => k_is)
    (case c_address_great_X => k_is)
    (case k_address_great_X => k_is)
    (case a__law_done => k_is)
    (case l__law_done => k_is)
    (case c__law_done => k_is)
    (case k__law_done => k_is)
    (case a__law_kinds => k_is)
    (case l__law_kinds => k_is)
    (case c__law_kinds => k_is)
    (case k__law_kinds => k_is)
    (case a_figure_sum_X => k_is)
    (case l_figure_sum_X => k_is)
    (case c_figure_sum_X => k_is)
    (case k_figure_sum_X => k_is)
    (case a__law_two => k_is)
    (case l__law_two => k_is)
    (case c__law_two => k_is)
    (case k__law_two => k_is)
    (case a_law => k_is)
    (case l_law => k_is)
    (case c_law => k_is)
    (case k_law => k_is)
    (case z_len => k_is)
    (case z_range => k_is)
    (case z_list => k_is)
    (case z_tuple => k_is)
    (case z_max => k_is)
    (case z_min => k_is)
    (case z_abs => k_is)
    (case z_int => k_is)
    (case z_bool => k_is)
    (case z_isinstance => k_is)
    (case z_sorted => k_is)
    (case z_dict => k_is)
    (case z_ValueError => k_is)
    (case hSTEPS => k_is)
    (case hS0 => k_is)
    (case hS1 => k_is)
    (case hS2 => k_is)
    (case hS3 => k_is)
    (case hS4 => k_is)
    (case hS5 => k_is)
    (case hS6 => k_is)
    (case hFIGURES => k_is)
    (case hFIGURES0 => k_is)
    (case yn => k_is)
    (case yt => k_is)
    (case yg_FloorError => k_is)
    (case yx_FloorError => k_exc)
    (case yk_FloorError => k_is)
    (case yb_FloorError => k_is)
    (case yt_FloorError => k_is)
    (case yhg_FloorError => k_is)
    (case yhk_FloorError => k_is)
    (case yhd_FloorError => k_is)
    (case yha_FloorError => k_is)
    (case yhm_FloorError => k_is)
    (case yv_FloorError => first | k_is | rfl)
    (case yg_NoCell => k_is)
    (case yx_NoCell => k_exc)
    (case yk_NoCell => k_is)
    (case yb_NoCell => k_is)
    (case yt_NoCell => k_is)
    (case yhg_NoCell => k_is)
    (case yhk_NoCell => k_is)
    (case yhd_NoCell => k_is)
    (case yha_NoCell => k_is)
    (case yhm_NoCell => k_is)
    (case yv_NoCell => first | k_is | rfl)
    (case yg_NoFigure => k_is)
    (case yx_NoFigure => k_exc)
    (case yk_NoFigure => k_is)
    (case yb_NoFigure => k_is)
    (case yt_NoFigure => k_is)
    (case yhg_NoFigure => k_is)
    (case yhk_NoFigure => k_is)
    (case yhd_NoFigure => k_is)
    (case yha_NoFigure => k_is)
    (case yhm_NoFigure => k_is)
    (case yv_NoFigure => first | k_is | rfl)
    (case yg_NoLevel => k_is)
    (case yx_NoLevel => k_exc)
    (case yk_NoLevel => k_is)
    (case yb_NoLevel => k_is)
    (case yt_NoLevel => k_is)
    (case yhg_NoLevel => k_is)
    (case yhk_NoLevel => k_is)
    (case yhd_NoLevel => k_is)
    (case yha_NoLevel => k_is)
    (case yhm_NoLevel => k_is)
    (case yv_NoLevel => first | k_is | rfl)
    (case yg_Apart => k_is)
    (case yx_Apart => k_exc)
    (case yk_Apart => k_is)
    (case yb_Apart => k_is)
    (case yt_Apart => k_is)
    (case yhg_Apart => k_is)
    (case yhk_Apart => k_is)
    (case yhd_Apart => k_is)
    (case yha_Apart => k_is)
    (case yhm_Apart => k_is)
    (case yv_Apart => first | k_is | rfl)
    (case ys_Apart_Apart => first | k_is | rfl)
    (case yi_Apart_Apart => first | k_is | rfl)
    (case ys_Apart_FloorError => first | k_is | rfl)
    (case yi_Apart_FloorError => first | k_is | rfl)
    (case ys_Apart_NoCell => first | k_is | rfl)
    (case yi_Apart_NoCell => first | k_is | rfl)
    (case ys_Apart_NoFigure => first | k_is | rfl)
    (case yi_Apart_NoFigure => first | k_is | rfl)
    (case ys_Apart_NoLevel => first | k_is | rfl)
    (case yi_Apart_NoLevel => first | k_is | rfl)
    (case ys_FloorError_Apart => first | k_is | rfl)
    (case yi_FloorError_Apart => first | k_is | rfl)
    (case ys_FloorError_FloorError => first | k_is | rfl)
    (case yi_FloorError_FloorError => first | k_is | rfl)
    (case ys_FloorError_NoCell => first | k_is | rfl)
    (case yi_FloorError_NoCell => first | k_is | rfl)
    (case ys_FloorError_NoFigure => first | k_is | rfl)
    (case yi_FloorError_NoFigure => first | k_is | rfl)
    (case ys_FloorError_NoLevel => first | k_is | rfl)
    (case yi_FloorError_NoLevel => first | k_is | rfl)
    (case ys_NoCell_Apart => first | k_is | rfl)
    (case yi_NoCell_Apart => first | k_is | rfl)
    (case ys_NoCell_FloorError => first | k_is | rfl)
    (case yi_NoCell_FloorError => first | k_is | rfl)
    (case ys_NoCell_NoCell => first | k_is | rfl)
    (case yi_NoCell_NoCell => first | k_is | rfl)
    (case ys_NoCell_NoFigure => first | k_is | rfl)
    (case yi_NoCell_NoFigure => first | k_is | rfl)
    (case ys_NoCell_NoLevel => first | k_is | rfl)
    (case yi_NoCell_NoLevel => first | k_is | rfl)
    (case ys_NoFigure_Apart => first | k_is | rfl)
    (case yi_NoFigure_Apart => first | k_is | rfl)
    (case ys_NoFigure_FloorError => first | k_is | rfl)
    (case yi_NoFigure_FloorError => first | k_is | rfl)
    (case ys_NoFigure_NoCell => first | k_is | rfl)
    (case yi_NoFigure_NoCell => first | k_is | rfl)
    (case ys_NoFigure_NoFigure => first | k_is | rfl)
    (case yi_NoFigure_NoFigure => first | k_is | rfl)
    (case ys_NoFigure_NoLevel => first | k_is | rfl)
    (case yi_NoFigure_NoLevel => first | k_is | rfl)
    (case ys_NoLevel_Apart => first | k_is | rfl)
    (case yi_NoLevel_Apart => first | k_is | rfl)
    (case ys_NoLevel_FloorError => first | k_is | rfl)
    (case yi_NoLevel_FloorError => first | k_is | rfl)
    (case ys_NoLevel_NoCell => first | k_is | rfl)
    (case yi_NoLevel_NoCell => first | k_is | rfl)
    (case ys_NoLevel_NoFigure => first | k_is | rfl)
    (case yi_NoLevel_NoFigure => first | k_is | rfl)
    (case ys_NoLevel_NoLevel => first | k_is | rfl)
    (case yi_NoLevel_NoLevel => first | k_is | rfl)
