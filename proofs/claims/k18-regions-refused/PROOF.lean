import PyProof.Rows.All
import Wide.All
import OpenK.AllK
import Wide.FinOn
import HandS.ForMost
import HandS.ForExc
import HandS.IsInst
import HandS.ExcIs
import HandS.Conv
import HandS.Wide
import HandS.Deep
import HandS.TupAny
import HandS.TupLen
import HandS.Walk
import HandS.Codes
import HandS.More
import HandS.SortOrd
import KE.DataMinMax
import KE.SortData
import KE.DataFind
import HandS.SortKw
import HandS.Finally
import PySem.Challenge.RW_hexaddress_k18_regions_refused
set_option Elab.async false
set_option linter.all false
set_option maxRecDepth 100000
set_option maxHeartbeats 4000000
/-! # the base: what every def's proof leans on (no row in sight) -/
namespace Hx
open PySem PySem.Spec PyProof.Rows L2

/-- a def as it stands behind the top: its body, its name in the module, how its arguments bind -/
structure Fn (K : PySem.W.Frag) (mg : Str → Option Value) (x qual : Str) (st : Stmt) (ps : List Str) : Prop where
  ex : ∃ (f : Addr) (fd : FuncData), Fun K x qual st f fd ∧ mg x = some (.ref f) ∧ Binds K fd ps []
/-- a def that keeps its promise, as a caller wants it -/
structure Ref (P : Program) (w : World) (K : PySem.W.Frag) (mg : Str → Option Value) (base : Heap) (CX : CXT) (k : Nat) (x : Str) (ps : List Str) (sp : Sp) : Prop where
  ex : ∃ (f : Addr) (fd : FuncData), FnOk P w K mg base CX k f fd ps sp ∧ mg x = some (.ref f) ∧ PySem.W.keepIn K (.ref f) = true ∧ Binds K fd ps []
section
variable {P : Program} {w : World} {K : PySem.W.Frag} {mg : Str → Option Value} {base : Heap}
theorem Fn.ok {x qual : Str} {st : Stmt} {N ps : List Str} {k : Nat} {sp : Sp} (F : Fn K mg x qual st ps) (S : FnScope N ps (defScope st)) (len : ∀ vs H Q E, sp vs H Q E → vs.length = ps.length)
    (hbody : ∀ (f : Addr) (cdv : Value) (A : Around) (outer : List Env) (s : Shared) (H : Hp) (vs : List V) (Q : VK) (E : XK), Room k (A.deeper (envOfC qual (defScope st) s.heap.objs.size f cdv)) → sp vs H Q E →
      ∃ t, PSs (cxOf CX0 P w K mg base N qual (defScope st) f cdv A outer s H E).nox (defBody st) t ∧ t { nx := fun _ H' => Q .non H', rt := Q } (start N vs) H) : Ref P w K mg base CX0 (k + 1) x ps sp := by
  obtain ⟨f, fd, F, g, b⟩ := F.ex
  exact ⟨f, fd, F.ok S len (hbody f), g, F.kp, b⟩
theorem Fn.okX {x qual : Str} {st : Stmt} {N ps : List Str} {k : Nat} {sp : Sp} (F : Fn K mg x qual st ps) (S : FnScope N ps (defScope st)) (len : ∀ vs H Q E, sp vs H Q E → vs.length = ps.length)
    (hbody : ∀ (f : Addr) (cdv : Value) (A : Around) (outer : List Env) (s : Shared) (H : Hp) (vs : List V) (Q : VK) (E : XK), Room k (A.deeper (envOfC qual (defScope st) s.heap.objs.size f cdv)) → sp vs H Q E →
      ∃ t, PSs (cxOf (L2.CX P w) P w K mg base N qual (defScope st) f cdv A outer s H E) (defBody st) t ∧ t { nx := fun _ H' => Q .non H', rt := Q } (start N vs) H) : Ref P w K mg base (L2.CX P w) (k + 1) x ps sp := by
  obtain ⟨f, fd, F, g, b⟩ := F.ex
  exact ⟨f, fd, F.okX S len (hbody f), g, F.kp, b⟩
theorem Ref.imp {CX : CXT} {k : Nat} {x : Str} {ps : List Str} {sp sp' : Sp} (R : Ref P w K mg base CX k x ps sp) (h : ∀ vs H Q E, sp' vs H Q E → sp vs H Q E) : Ref P w K mg base CX k x ps sp' := by
  obtain ⟨f, fd, F, r⟩ := R.ex
  exact ⟨f, fd, F.imp h, r⟩
theorem Ref.mono {CX : CXT} {j k : Nat} {x : Str} {ps : List Str} {sp : Sp} (R : Ref P w K mg base CX j x ps sp) (h : j ≤ k) : Ref P w K mg base CX k x ps sp := by
  obtain ⟨f, fd, F, r⟩ := R.ex
  exact ⟨f, fd, F.mono h, r⟩
end
section
variable {X : Cx} {k : Nat} {x : Str} {ps : List Str} {sp : Sp} {p pos : Pos} {e : Expr} {es : List Expr} {t : TA}
theorem pe_fn (R : Ref X.prog X.w X.K X.mg X.base CX0 k x ps sp) (hr : Room k X.A) (ha : PA X (e :: es) t) (hg : Gl X x := by rfl) (hdb : (x == ("__debug__" : Str)) = false := by decide)
    (he : starEach (e :: es) X.env = (false, eval e X.env) :: starEach es X.env := by rfl) (hpl : (backTo pos (starEach es X.env)).any (·.1) = false := by rfl) : PE X (.Call (.Name x p) (e :: es) [] pos) (tCall sp [] E0 t) := by
  obtain ⟨f, fd, F, g, kp, b⟩ := R.ex
  exact pe_call F hr hg g kp b .nil pass0 ha hdb he hpl
theorem pe_fn0 (R : Ref X.prog X.w X.K X.mg X.base CX0 k x ps sp) (hr : Room k X.A) (hg : Gl X x := by rfl) (hdb : (x == ("__debug__" : Str)) = false := by decide) : PE X (.Call (.Name x p) [] [] pos) (tCall sp [] E0 tNil) := by
  obtain ⟨f, fd, F, g, kp, b⟩ := R.ex
  exact pe_call0 F hr hg g kp b .nil pass0 hdb
end
/-- the built-in names are as Python has them -/
structure Tx (mg : Str → Option Value) : Prop where
  b_len : mg "len" = none
  b_range : mg "range" = none
  b_list : mg "list" = none
  b_tuple : mg "tuple" = none
  b_max : mg "max" = none
  b_min : mg "min" = none
  b_abs : mg "abs" = none
  b_int : mg "int" = none
  b_bool : mg "bool" = none
  b_isinstance : mg "isinstance" = none
  b_sorted : mg "sorted" = none
  b_dict : mg "dict" = none
  b_ValueError : mg "ValueError" = none

/-! ### heaps that grow -/
theorem _root_.L2.Same.seqT {K : PySem.W.Frag} {H H' : Hp} {a : Addr} {xs : List V} (e : Same H H') (h : SqT K H a xs) : SqT K H' a xs := by
  rcases h with (h | ⟨o, h⟩) | h
  · exact .inl (.inl (e _ _ h))
  · exact .inl (.inr ⟨o, e _ _ h⟩)
  · exact .inr h
theorem same_new {H : Hp} {p : Addr} {o : HO} (h : H p = none) : Same H (upd H p o) := fun b x e => by
  rw [upd_ne (ne_of_none e h)]
  exact e
/-- what H knows stays where another object, that H does not know, is changed -/
theorem _root_.L2.Same.mut {H H' : Hp} {p : Addr} {o : HO} (e : Same H H') (h : H p = none) : Same H (upd H' p o) := fun a u ha => by
  rw [upd_ne (ne_of_none ha h)]
  exact e a u ha
theorem SqT_putr {K : PySem.W.Frag} {H : Hp} {a p : Addr} {xs ys : List V} {o : HO} (hp : H p = some (.lst ys)) (h : SqT K H a xs) : SqT K (upd H p o) a xs := by
  rcases h with (h | ⟨ob, h⟩) | h
  · refine .inl (.inl ?_)
    rw [upd_ne (ne_of h hp (by intro z; cases z))]
    exact h
  · refine .inl (.inr ⟨ob, ?_⟩)
    rw [upd_ne (ne_of h hp (by intro z; cases z))]
    exact h
  · exact .inr h
theorem SqT_put {K : PySem.W.Frag} {H : Hp} {a p : Addr} {xs ys : List V} {o : HO} (h : SqT K H a xs) (hp : H p = some (.lst ys)) : SqT K (upd H p o) a xs := by
  rcases h with (h | ⟨ob, h⟩) | h
  · refine .inl (.inl ?_)
    rw [upd_ne (ne_of h hp (by intro z; cases z))]
    exact h
  · refine .inl (.inr ⟨ob, ?_⟩)
    rw [upd_ne (ne_of h hp (by intro z; cases z))]
    exact h
  · exact .inr h
theorem sqL_new {K : PySem.W.Frag} {H : Hp} {a : Addr} {xs : List V} : SqL K (upd H a (.lst xs)) a xs := .inl (.inl upd_same)
theorem sqT_new {K : PySem.W.Frag} {H : Hp} {a : Addr} {xs : List V} : SqT K (upd H a (.tup xs)) a xs := .inl (.inl upd_same)

theorem same_at {H H' : Hp} {a : Addr} {o : HO} (s : Same H H') (h : H a = some o) : H' a = some o := s _ _ h
theorem upd_at {H : Hp} {a b : Addr} {o u : HO} (n : a ≠ b) (h : H a = some o) : upd H b u a = some o := by
  rw [upd_ne n]
  exact h
theorem ne_ld {H : Hp} {a b : Addr} {x1 : List V} {x2 : List (List Key × V)} (h : H a = some (.lst x1)) (h2 : H b = some (.dT x2)) : a ≠ b := ne_of h h2 (by intro z; cases z)
theorem ne_lt {H : Hp} {a b : Addr} {x1 : List V} {x2 : List V} (h : H a = some (.lst x1)) (h2 : H b = some (.tup x2)) : a ≠ b := ne_of h h2 (by intro z; cases z)
theorem ne_li {H : Hp} {a b : Addr} {x1 : List V} {C2 dx2 : Addr} {fs2 : List (Str × V)} (h : H a = some (.lst x1)) (h2 : H b = some (.ins C2 dx2 fs2)) : a ≠ b := ne_of h h2 (by intro z; cases z)
theorem ne_lo {H : Hp} {a b : Addr} {x1 : List V} {y2 : Addr} (h : H a = some (.lst x1)) (h2 : H b = some (.own y2)) : a ≠ b := ne_of h h2 (by intro z; cases z)
theorem ne_dl {H : Hp} {a b : Addr} {x1 : List (List Key × V)} {x2 : List V} (h : H a = some (.dT x1)) (h2 : H b = some (.lst x2)) : a ≠ b := ne_of h h2 (by intro z; cases z)
theorem ne_dt {H : Hp} {a b : Addr} {x1 : List (List Key × V)} {x2 : List V} (h : H a = some (.dT x1)) (h2 : H b = some (.tup x2)) : a ≠ b := ne_of h h2 (by intro z; cases z)
theorem ne_di {H : Hp} {a b : Addr} {x1 : List (List Key × V)} {C2 dx2 : Addr} {fs2 : List (Str × V)} (h : H a = some (.dT x1)) (h2 : H b = some (.ins C2 dx2 fs2)) : a ≠ b := ne_of h h2 (by intro z; cases z)
theorem ne_do {H : Hp} {a b : Addr} {x1 : List (List Key × V)} {y2 : Addr} (h : H a = some (.dT x1)) (h2 : H b = some (.own y2)) : a ≠ b := ne_of h h2 (by intro z; cases z)
theorem ne_tl {H : Hp} {a b : Addr} {x1 : List V} {x2 : List V} (h : H a = some (.tup x1)) (h2 : H b = some (.lst x2)) : a ≠ b := ne_of h h2 (by intro z; cases z)
theorem ne_td {H : Hp} {a b : Addr} {x1 : List V} {x2 : List (List Key × V)} (h : H a = some (.tup x1)) (h2 : H b = some (.dT x2)) : a ≠ b := ne_of h h2 (by intro z; cases z)
theorem ne_ti {H : Hp} {a b : Addr} {x1 : List V} {C2 dx2 : Addr} {fs2 : List (Str × V)} (h : H a = some (.tup x1)) (h2 : H b = some (.ins C2 dx2 fs2)) : a ≠ b := ne_of h h2 (by intro z; cases z)
theorem ne_to {H : Hp} {a b : Addr} {x1 : List V} {y2 : Addr} (h : H a = some (.tup x1)) (h2 : H b = some (.own y2)) : a ≠ b := ne_of h h2 (by intro z; cases z)
theorem ne_il {H : Hp} {a b : Addr} {C1 dx1 : Addr} {fs1 : List (Str × V)} {x2 : List V} (h : H a = some (.ins C1 dx1 fs1)) (h2 : H b = some (.lst x2)) : a ≠ b := ne_of h h2 (by intro z; cases z)
theorem ne_id {H : Hp} {a b : Addr} {C1 dx1 : Addr} {fs1 : List (Str × V)} {x2 : List (List Key × V)} (h : H a = some (.ins C1 dx1 fs1)) (h2 : H b = some (.dT x2)) : a ≠ b := ne_of h h2 (by intro z; cases z)
theorem ne_it {H : Hp} {a b : Addr} {C1 dx1 : Addr} {fs1 : List (Str × V)} {x2 : List V} (h : H a = some (.ins C1 dx1 fs1)) (h2 : H b = some (.tup x2)) : a ≠ b := ne_of h h2 (by intro z; cases z)
theorem ne_io {H : Hp} {a b : Addr} {C1 dx1 : Addr} {fs1 : List (Str × V)} {y2 : Addr} (h : H a = some (.ins C1 dx1 fs1)) (h2 : H b = some (.own y2)) : a ≠ b := ne_of h h2 (by intro z; cases z)
theorem ne_ol {H : Hp} {a b : Addr} {y1 : Addr} {x2 : List V} (h : H a = some (.own y1)) (h2 : H b = some (.lst x2)) : a ≠ b := ne_of h h2 (by intro z; cases z)
theorem ne_od {H : Hp} {a b : Addr} {y1 : Addr} {x2 : List (List Key × V)} (h : H a = some (.own y1)) (h2 : H b = some (.dT x2)) : a ≠ b := ne_of h h2 (by intro z; cases z)
theorem ne_ot {H : Hp} {a b : Addr} {y1 : Addr} {x2 : List V} (h : H a = some (.own y1)) (h2 : H b = some (.tup x2)) : a ≠ b := ne_of h h2 (by intro z; cases z)
theorem ne_oi {H : Hp} {a b : Addr} {y1 : Addr} {C2 dx2 : Addr} {fs2 : List (Str × V)} (h : H a = some (.own y1)) (h2 : H b = some (.ins C2 dx2 fs2)) : a ≠ b := ne_of h h2 (by intro z; cases z)
/-! ### places -/
/-- v is the tuple of the place -/
def Pl (K : PySem.W.Frag) (H : Hp) (v : V) (p : Int × Int) : Prop := ∃ a, v = .ref a ∧ SqT K H a [.int p.1, .int p.2]
theorem Pl.same {K : PySem.W.Frag} {H H' : Hp} {v : V} {p : Int × Int} (h : Pl K H v p) (e : Same H H') : Pl K H' v p := by
  obtain ⟨a, rfl, h⟩ := h
  exact ⟨a, rfl, e.seqT h⟩
theorem Pl.sm {K : PySem.W.Frag} {H H' : Hp} {v : V} {p : Int × Int} (e : Same H H') (h : Pl K H v p) : Pl K H' v p := h.same e
theorem Pl.put {K : PySem.W.Frag} {H : Hp} {v : V} {p : Int × Int} {q : Addr} {ys : List V} {o : HO} (h : Pl K H v p) (hq : H q = some (.lst ys)) : Pl K (upd H q o) v p := by
  obtain ⟨a, rfl, h⟩ := h
  exact ⟨a, rfl, SqT_put h hq⟩
theorem Pl.putr {K : PySem.W.Frag} {H : Hp} {v : V} {p : Int × Int} {q : Addr} {ys : List V} {o : HO} (hq : H q = some (.lst ys)) (h : Pl K H v p) : Pl K (L2.upd H q o) v p := h.put hq
theorem Pl.new {K : PySem.W.Frag} {H : Hp} {a : Addr} {q r : Int} : Pl K (upd H a (.tup [.int q, .int r])) (.ref a) (q, r) := ⟨a, rfl, sqT_new⟩
end Hx
namespace Hx
open PySem PySem.Spec PyProof.Rows L2
/-! ### tuples that are tracked: keys of dicts -/
abbrev keyOf (p : Int × Int) : List Key := [.inl p.1, .inl p.2]
def Tp (H : Hp) (v : V) (p : Int × Int) : Prop := ∃ a, v = .ref a ∧ H a = some (.tup [.int p.1, .int p.2])
theorem Tp.pl {K : PySem.W.Frag} {H : Hp} {v : V} {p : Int × Int} (h : Tp H v p) : Pl K H v p := by
  obtain ⟨a, rfl, h⟩ := h
  exact ⟨a, rfl, .inl (.inl h)⟩
theorem Tp.new {H : Hp} {a : Addr} {q r : Int} : Tp (upd H a (.tup [.int q, .int r])) (.ref a) (q, r) := ⟨a, rfl, upd_same⟩
theorem Tp.sm {H H' : Hp} {v : V} {p : Int × Int} (e : Same H H') (h : Tp H v p) : Tp H' v p := by
  obtain ⟨a, rfl, h⟩ := h
  exact ⟨a, rfl, e _ _ h⟩
theorem Tp.putr {H : Hp} {v : V} {p : Int × Int} {q : Addr} {ys : List V} {o : HO} (hq : H q = some (.lst ys)) (h : Tp H v p) : Tp (L2.upd H q o) v p := by
  obtain ⟨a, rfl, h⟩ := h
  exact ⟨a, rfl, upd_at (ne_of h hq (by intro z; cases z)) h⟩
theorem Tp.putd {H : Hp} {v : V} {p : Int × Int} {q : Addr} {ys : List (List Key × V)} {o : HO} (hq : H q = some (.dT ys)) (h : Tp H v p) : Tp (L2.upd H q o) v p := by
  obtain ⟨a, rfl, h⟩ := h
  exact ⟨a, rfl, upd_at (ne_of h hq (by intro z; cases z)) h⟩
theorem SqT_putd {K : PySem.W.Frag} {H : Hp} {a p : Addr} {xs : List V} {ys : List (List Key × V)} {o : HO} (hp : H p = some (.dT ys)) (h : SqT K H a xs) : SqT K (upd H p o) a xs := by
  rcases h with (h | ⟨ob, h⟩) | h
  · exact .inl (.inl (upd_at (ne_of h hp (by intro z; cases z)) h))
  · exact .inl (.inr ⟨ob, upd_at (ne_of h hp (by intro z; cases z)) h⟩)
  · exact .inr h
theorem SqL_putd {K : PySem.W.Frag} {H : Hp} {a p : Addr} {xs : List V} {ys : List (List Key × V)} {o : HO} (hp : H p = some (.dT ys)) (h : SqL K H a xs) : SqL K (upd H p o) a xs := by
  rcases h with (h | ⟨ob, h⟩) | h
  · exact .inl (.inl (upd_at (ne_of h hp (by intro z; cases z)) h))
  · exact .inl (.inr ⟨ob, upd_at (ne_of h hp (by intro z; cases z)) h⟩)
  · exact .inr h
theorem Pl.putd {K : PySem.W.Frag} {H : Hp} {v : V} {p : Int × Int} {q : Addr} {ys : List (List Key × V)} {o : HO} (hq : H q = some (.dT ys)) (h : Pl K H v p) : Pl K (L2.upd H q o) v p := by
  obtain ⟨a, rfl, h⟩ := h
  exact ⟨a, rfl, SqT_putd hq h⟩
/-! ### lists of places, the constants of the module -/
abbrev Pls (K : PySem.W.Frag) (H : Hp) : List V → List (Int × Int) → Prop := Paired fun v p => Pl K H v p
theorem pr_len {α β : Type} {R : α → β → Prop} : ∀ {xs : List α} {ys : List β}, Paired R xs ys → xs.length = ys.length
  | _, _, .nil => rfl
  | _, _, .cons _ t => by rw [List.length_cons, List.length_cons, pr_len t]
theorem pr_get {α β : Type} {R : α → β → Prop} : ∀ {xs : List α} {ys : List β} {i : Nat} {x : α}, Paired R xs ys → xs[i]? = some x → ∃ y, ys[i]? = some y ∧ R x y
  | _, _, _, _, .nil, h => by simp at h
  | _, _, 0, _, .cons r _, h => by
    simp at h
    subst h
    exact ⟨_, rfl, r⟩
  | _, _, i + 1, _, .cons _ t, h => by
    obtain ⟨y, h1, h2⟩ := pr_get (i := i) t (by simpa using h)
    exact ⟨y, by simpa using h1, h2⟩
theorem pr_get' {α β : Type} {R : α → β → Prop} : ∀ {xs : List α} {ys : List β} {i : Nat} {y : β}, Paired R xs ys → ys[i]? = some y → ∃ x, xs[i]? = some x ∧ R x y
  | _, _, _, _, .nil, h => by simp at h
  | _, _, 0, _, .cons r _, h => by
    simp at h
    subst h
    exact ⟨_, rfl, r⟩
  | _, _, i + 1, _, .cons _ t, h => by
    obtain ⟨y, h1, h2⟩ := pr_get' (i := i) t (by simpa using h)
    exact ⟨y, by simpa using h1, h2⟩
theorem pr_mono {α β : Type} {R S : α → β → Prop} (f : ∀ a b, R a b → S a b) : ∀ {xs : List α} {ys : List β}, Paired R xs ys → Paired S xs ys
  | _, _, .nil => .nil
  | _, _, .cons r t => .cons (f _ _ r) (pr_mono f t)
theorem pr_snoc {α β : Type} {R : α → β → Prop} {x : α} {y : β} : ∀ {xs : List α} {ys : List β}, Paired R xs ys → R x y → Paired R (xs ++ [x]) (ys ++ [y])
  | _, _, .nil, h => .cons h .nil
  | _, _, .cons r t, h => .cons r (pr_snoc t h)
theorem nodup_snoc {α : Type} {xs : List α} {x : α} (h : xs.Nodup) (n : x ∉ xs) : (xs ++ [x]).Nodup := by
  rw [List.nodup_append]
  refine ⟨h, by simp, fun a ha b hb => ?_⟩
  rw [List.mem_singleton] at hb
  subst hb
  intro e
  subst e
  exact n ha
theorem pr_app {α β : Type} {R : α → β → Prop} : ∀ {xs xs' : List α} {ys ys' : List β}, Paired R xs ys → Paired R xs' ys' → Paired R (xs ++ xs') (ys ++ ys')
  | _, _, _, _, .nil, h => h
  | _, _, _, _, .cons r t, h => .cons r (pr_app t h)
theorem Pls.same {K : PySem.W.Frag} {H H' : Hp} {vs : List V} {ps : List (Int × Int)} (h : Pls K H vs ps) (e : Same H H') : Pls K H' vs ps := pr_mono (fun _ _ x => x.same e) h
theorem Pls.put {K : PySem.W.Frag} {H : Hp} {vs : List V} {ps : List (Int × Int)} {q : Addr} {ys : List V} {o : HO} (h : Pls K H vs ps) (hq : H q = some (.lst ys)) : Pls K (L2.upd H q o) vs ps := pr_mono (fun _ _ x => x.put hq) h
theorem Pls.sm {K : PySem.W.Frag} {H H' : Hp} {vs : List V} {ps : List (Int × Int)} (e : Same H H') (h : Pls K H vs ps) : Pls K H' vs ps := Pls.same h e
theorem Pls.putr {K : PySem.W.Frag} {H : Hp} {vs : List V} {ps : List (Int × Int)} {q : Addr} {ys : List V} {o : HO} (hq : H q = some (.lst ys)) (h : Pls K H vs ps) : Pls K (L2.upd H q o) vs ps := Pls.put h hq
theorem Pls.putd {K : PySem.W.Frag} {H : Hp} {vs : List V} {ps : List (Int × Int)} {q : Addr} {ys : List (List Key × V)} {o : HO} (hq : H q = some (.dT ys)) (h : Pls K H vs ps) : Pls K (L2.upd H q o) vs ps := pr_mono (fun _ _ x => x.putd hq) h
theorem map_get {fs : List Int} {i : Nat} {x : V} (h : (fs.map V.int)[i]? = some x) : ∃ f, fs[i]? = some f ∧ x = .int f := by
  rw [List.getElem?_map] at h
  cases e : fs[i]? with
  | none => rw [e] at h; cases h
  | some f =>
    rw [e] at h
    exact ⟨f, rfl, (Option.some.inj h).symm⟩
theorem map_snoc {ns : List Int} {x : Int} : ns.map V.int ++ [V.int x] = (ns ++ [x]).map V.int := by rw [List.map_append]; rfl
/-- a list of lists of ints -/
abbrev Rws (K : PySem.W.Frag) (H : Hp) : List V → List (List Int) → Prop := Paired fun v r => ∃ a, v = .ref a ∧ SqL K H a (r.map V.int)
theorem Rws.sm {K : PySem.W.Frag} {H H' : Hp} {vs : List V} {rs : List (List Int)} (e : Same H H') (h : Rws K H vs rs) : Rws K H' vs rs := pr_mono (fun _ _ ⟨a, e1, h⟩ => ⟨a, e1, e.seq h⟩) h
def steps : List (Int × Int) := [(1, 0), (0, 1), (-1, 1), (-1, 0), (0, -1), (1, -1)]
def figs : List Int := [0, 1, 5, 6, 3, 2, 4]
def sides : List Int := [3, 4, 5, 6, 1, 2]
def G_STEPS (K : PySem.W.Frag) (a : Addr) : Prop := ∃ vs : List V, (∀ H, SqT K H a vs) ∧ ∀ H, Pls K H vs steps
def G_FIGURES (K : PySem.W.Frag) (a : Addr) : Prop := ∀ H, SqT K H a (figs.map V.int)
def G_SIDES (K : PySem.W.Frag) (a : Addr) : Prop := ∀ H, SqT K H a (sides.map V.int)
theorem written2 {K : PySem.W.Frag} {b : Addr} {d : Option Addr} {n : Nat} {sl : Array (Option Value)} {i j : Int} {t u : Tok} (h : K.lookup b = some ⟨.type "tuple", d, .seq #[.int i t, .int j u] n, sl⟩) (H : Hp) : Pl K H (.ref b) (i, j) :=
  ⟨b, rfl, .inr ⟨_, _, _, h, rfl, rfl, by show 2 ≤ sizeLine; decide, .cons ⟨t, rfl⟩ (.cons ⟨u, rfl⟩ .nil)⟩⟩
/-! ### readings by name -/
def rLen (K : PySem.W.Frag) : List V → Hp → VK → Prop := fun xs H Q => ∃ p ys, xs = [.ref p] ∧ (SqL K H p ys ∨ SqT K H p ys) ∧ Q (.int ys.length) H
def rList (K : PySem.W.Frag) : List V → Hp → VK → Prop := fun xs H Q => ∃ p ys, xs = [.ref p] ∧ (SqL K H p ys ∨ SqT K H p ys) ∧ ∀ l, H l = none → Q (.ref l) (upd H l (.lst ys))
def rTuple (K : PySem.W.Frag) : List V → Hp → VK → Prop := fun xs H Q => ∃ p ys, xs = [.ref p] ∧ ((SqL K H p ys ∧ ∀ l, H l = none → Q (.ref l) (upd H l (.tup ys))) ∨ (SqT K H p ys ∧ Q (.ref p) H))
def rMax2 : List V → Hp → VK → Prop := fun xs H Q => ∃ i j, xs = [.int i, .int j] ∧ Q (.int (if j > i then j else i)) H
def rMin2 : List V → Hp → VK → Prop := fun xs H Q => ∃ i j, xs = [.int i, .int j] ∧ Q (.int (if j < i then j else i)) H
def rMax3 : List V → Hp → VK → Prop := fun xs H Q => ∃ i j k, xs = [.int i, .int j, .int k] ∧ Q (.int (max (max i j) k)) H
def rAbs : List V → Hp → VK → Prop := fun xs H Q => ∃ i, xs = [.int i] ∧ Q (.int (if i < 0 then -i else i)) H
def rInt1 : List V → Hp → VK → Prop := fun xs H Q => (∃ i, xs = [.int i] ∧ Q (.int i) H) ∨ ∃ k, xs = [.bl k] ∧ Q (.int (if k then 1 else 0)) H
section
variable {X : Cx}
theorem cl_len : CallR X (.builtin "len") (rLen X.K) := call_len_seq
theorem cl_list : CallR X (.type "list") (rList X.K) := call_list_of
theorem cl_tuple : CallR X (.type "tuple") (rTuple X.K) := call_tuple_of
theorem cl_max2 (hc : X.calm = true) : CallR X (.builtin "max") rMax2 := call_max2 hc
theorem cl_min2 (hc : X.calm = true) : CallR X (.builtin "min") rMin2 := call_min2 hc
theorem cl_max3 (hc : X.calm = true) : CallR X (.builtin "max") rMax3 := by
  intro pins s σ H xs us Q I r h
  obtain ⟨i, j, k, rfl, q⟩ := h
  cases r with
  | cons r1 r =>
    cases r with
    | cons r2 r =>
      cases r with
      | cons r3 r =>
        cases r
        obtain ⟨t1, rfl⟩ := r1
        obtain ⟨t2, rfl⟩ := r2
        obtain ⟨t3, rfl⟩ := r3
        refine max_three_ints (I.ok.hd hc) fun h' tk kk => ⟨_, H, I.kept kk, ?_, q⟩
        by_cases h1 : j > i
        · by_cases h2 : k > j
          · rw [if_pos h1, if_pos h2, show max (max i j) k = k by omega]
            exact ⟨_, rfl⟩
          · rw [if_pos h1, if_neg h2, show max (max i j) k = j by omega]
            exact ⟨_, rfl⟩
        · by_cases h2 : k > i
          · rw [if_neg h1, if_pos h2, show max (max i j) k = k by omega]
            exact ⟨_, rfl⟩
          · rw [if_neg h1, if_neg h2, show max (max i j) k = i by omega]
            exact ⟨_, rfl⟩
theorem cl_abs : CallR X (.builtin "abs") rAbs := call_abs
theorem cl_int : CallR X (.type "int") rInt1 := call_int1
end
def dispT (xs : List V) (H : Hp) (Q : VK) : Prop := xs.length ≤ sizeLine ∧ ∀ p, H p = none → Q (.ref p) (upd H p (.tup xs))
def dispL (xs : List V) (H : Hp) (Q : VK) : Prop := xs.length ≤ sizeLine ∧ ∀ p, H p = none → Q (.ref p) (upd H p (.lst xs))
def rng1 (R : It → Hp → Prop) (vs : List V) (H : Hp) : Prop := ∃ j : Int, vs = [.int j] ∧ -(2 ^ 62) ≤ j ∧ j < 2 ^ 62 ∧ R (Itr 0 j.toNat) H
def rng2 (R : It → Hp → Prop) (vs : List V) (H : Hp) : Prop := ∃ i j : Int, vs = [.int i, .int j] ∧ (-(2 ^ 62) ≤ i ∧ i < 2 ^ 62 ∧ -(2 ^ 62) ≤ j ∧ j < 2 ^ 62) ∧ R (Itr i (j - i).toNat) H
def itLst (K : PySem.W.Frag) (R : It → Hp → Prop) (x : V) (H : Hp) : Prop := ∃ a, x = .ref a ∧ (∃ xs, SqL K H a xs) ∧ R (Itl K a) H
def itTup (K : PySem.W.Frag) (R : It → Hp → Prop) (x : V) (H : Hp) : Prop := ∃ a, x = .ref a ∧ (∃ xs, SqT K H a xs) ∧ R (Itt K a) H
def rDIn (neg : Bool) (x y : V) (H : Hp) (Q : VK) : Prop := ∃ a o, x = .ref a ∧ DGet H a y o ∧ Q (.bl (if neg then !o.isSome else o.isSome)) H
def rDPut (x y v : V) (H : Hp) (R : Hp → Prop) : Prop := ∃ a H4, x = .ref a ∧ DPut H a y v H4 ∧ R H4
def rDGet (x y : V) (H : Hp) (Q : VK) : Prop := ∃ a v, x = .ref a ∧ DGet H a y (some v) ∧ Q v H
def tTruth (K : PySem.W.Frag) (ta : TE) : TT := fun σ H Q => ta σ H fun x H' => ∃ k, TruV K x H' k ∧ Q k H'
def rTru (K : PySem.W.Frag) (x : V) (H : Hp) (B : Bool → Hp → Prop) : Prop := ∃ k, TruV K x H k ∧ B k H
theorem pt_tru {X : Cx} {a : Expr} {ta : TE} (ha : PE X a ta) (he : ∀ whole, isTrue a X.env whole = (do let v ← whole; standAt a.pos; holding [v] (truthy v))) : PT X a (tTruth X.K ta) := pt_truth ha he
def rng3 (R : It → Hp → Prop) (vs : List V) (H : Hp) : Prop := ∃ (i j c : Int) (n : Nat), vs = [.int i, .int j, .int c] ∧ RgC i j c n ∧ R (Itc i c n) H
/-- what a for asks of its iterator -/
def forR (g : TG) (tb : TS) (D : Ends) (σ : L2.St) (J : It) (H1 : Hp) : Prop := ∃ W : Nat → Nat → L2.St → Hp → Prop, (∃ m, W 0 m σ H1) ∧ ∀ i m σ H, W i m σ H →
  (J.stop i H ∧ D.nx σ H) ∨ (J.go i H ∧ ∃ N : L2.St → Hp → Prop, (∀ σ' H', N σ' H' → ∃ m', m' < m ∧ W (i + 1) m' σ' H') ∧ ∀ x H', J.yld i H x H' → g x σ H' fun σ2 H2 => tb { D with nx := N, ct := N, bk := D.nx } σ2 H2)
/-- what a comprehension asks of its iterator -/
def lcR (g : TG) (tt : TT) (te : TE) (vs : List Nat) (σ : L2.St) (Q : VK) (J : It) (H1 : Hp) : Prop := ∀ D, H1 D = none → ∃ W : Nat → Nat → Hp → Prop, (∃ m, W 0 m (upd H1 D (.lst []))) ∧ ∀ i m H, W i m H →
  (J.stop i H ∧ Q (.ref D) H) ∨ (J.go i H ∧ ∃ Nx : Hp → Prop, (∀ H', Nx H' → ∃ m', m' < m ∧ W (i + 1) m' H') ∧ ∀ x H', J.yld i H x H' → g x (wipe σ vs) H' fun σ2 H2 => wipe σ2 vs = wipe σ vs ∧ tt σ2 H2 fun b H3 =>
    if b = true then te σ2 H3 fun y H4 => ∃ acc, H4 D = some (.lst acc) ∧ acc.length < sizeLine ∧ Nx (upd H4 D (.lst (acc ++ [y]))) else Nx H3)
/-- the new item of a comprehension goes onto its list -/
def lcAdd (D : Addr) (Nx : Hp → Prop) (y : V) (H : Hp) : Prop := ∃ acc, H D = some (.lst acc) ∧ acc.length < sizeLine ∧ Nx (upd H D (.lst (acc ++ [y])))
def lcPut (te : TE) (D : Addr) (Nx : Hp → Prop) (σ : L2.St) (b : Bool) (H : Hp) : Prop := if b = true then te σ H fun y H4 => lcAdd D Nx y H4 else Nx H
/-- what a while's test's answer asks -/
def whR (tb : TS) (D : Ends) (W : Nat → L2.St → Hp → Prop) (m : Nat) (σ : L2.St) (b : Bool) (H1 : Hp) : Prop :=
  if b = true then ∃ N : L2.St → Hp → Prop, (∀ σ' H', N σ' H' → ∃ m', m' < m ∧ W m' σ' H') ∧ tb { D with nx := N, ct := N, bk := D.nx } σ H1 else D.nx σ H1
/-! ### the readings, step by step -/
section
variable {K : PySem.W.Frag} {D : Ends} {σ : L2.St} {H : Hp} {Q : VK} {B : Bool → Hp → Prop} {v x y : V} {ta tb te : TE} {tl tr : TA} {t u : TS} {c c' : TT} {i : Nat} {b : Bool}
theorem w_seq (h : t { D with nx := u D } σ H) : tSeq t u D σ H := h
theorem w_next (h : D.nx σ H) : tNext D σ H := h
theorem w_cont (h : D.ct σ H) : tCont D σ H := h
theorem w_break (h : D.bk σ H) : tBreak D σ H := h
theorem w_ret (h : te σ H D.rt) : tRet te D σ H := h
theorem w_retN (h : D.rt .non H) : tRetN D σ H := h
theorem w_asg {g : TG} (h : te σ H fun x H1 => g x σ H1 D.nx) : tAsg te g D σ H := h
theorem w_drop (h : te σ H fun _ H1 => D.nx σ H1) : tDrop te D σ H := h
theorem w_ifS (h : c σ H fun b H1 => if b = true then t D σ H1 else u D σ H1) : tIfS c t u D σ H := h
theorem w_gName {R : L2.St → Hp → Prop} (h : R (σ.set i (some v)) H) : gName i v σ H R := h
theorem w_var (h : σ[i]? = some (some v)) (q : Q v H) : tVar i σ H Q := ⟨v, h, q⟩
theorem w_c (q : Q v H) : tC v σ H Q := q
theorem w_op {r : R2} (h : ta σ H fun x H1 => tb σ H1 fun y H2 => r x y H2 Q) : tOp r ta tb σ H Q := h
theorem w_un {r : V → Hp → VK → Prop} (h : ta σ H fun x H1 => r x H1 Q) : tUn r ta σ H Q := h
theorem w_nil {R : List V → Hp → Prop} (h : R [] H) : tNil σ H R := h
theorem w_cons {R : List V → Hp → Prop} (h : te σ H fun x H1 => tl σ H1 fun xs H2 => R (x :: xs) H2) : tCons te tl σ H R := h
theorem w_tTup (h : tl σ H fun xs H1 => dispT xs H1 Q) : tTup tl σ H Q := h
theorem w_tLst (h : tl σ H fun xs H1 => dispL xs H1 Q) : tLst tl σ H Q := h
theorem w_dispT {xs : List V} (z : xs.length ≤ 1000) (h : ∀ p, H p = none → Q (.ref p) (upd H p (.tup xs))) : dispT xs H Q := ⟨Nat.le_of_lt (small1000 z), h⟩
theorem w_dispL {xs : List V} (z : xs.length ≤ 1000) (h : ∀ p, H p = none → Q (.ref p) (upd H p (.lst xs))) : dispL xs H Q := ⟨Nat.le_of_lt (small1000 z), h⟩
theorem w_dispL1 {i : Int} (h : ∀ p, H p = none → Q (.ref p) (upd H p (.lst ([i].map V.int)))) : dispL [.int i] H Q := ⟨Nat.le_of_lt (small1000 (show 1 ≤ 1000 by decide)), h⟩
theorem w_dispL2 {i j : Int} (h : ∀ p, H p = none → Q (.ref p) (upd H p (.lst ([i, j].map V.int)))) : dispL [.int i, .int j] H Q := ⟨Nat.le_of_lt (small1000 (show 2 ≤ 1000 by decide)), h⟩
theorem w_call {sp : Sp} {E : XK} (h : tl σ H fun vs H1 => sp vs H1 Q E) : tCall sp [] E tl σ H Q := by
  show tl σ H fun vs H1 => sp (vs ++ []) H1 Q E
  simp only [List.append_nil]
  exact h
theorem w_CB {r : List V → Hp → VK → Prop} (h : tl σ H fun vs H1 => r vs H1 Q) : tCB r tl σ H Q := h
theorem w_test (h : te σ H fun x H' => ∃ k, x = .bl k ∧ B k H') : tTest te σ H B := h
theorem w_tB (h : te σ H fun x H' => ∃ k, x = .bl k ∧ B k H') : tB te σ H B := h
theorem w_blk {b : Bool} {B : Bool → Prop} (h : B b) : ∃ k, V.bl b = .bl k ∧ B k := ⟨b, rfl, h⟩
theorem w_and (h : c σ H fun b H1 => if b = true then c' σ H1 B else B false H1) : tAnd c c' σ H B := h
theorem w_or (h : c σ H fun b H1 => if b = true then B true H1 else c' σ H1 B) : tOr c c' σ H B := h
theorem w_not (h : c σ H fun b H1 => B (!b) H1) : tNot c σ H B := h
theorem w_andV (h : ta σ H fun x H1 => ∃ c, x = .bl c ∧ if c = true then tb σ H1 Q else Q (.bl false) H1) : tAndV ta tb σ H Q := h
theorem w_orV (h : ta σ H fun x H1 => ∃ c, x = .bl c ∧ if c = true then Q (.bl true) H1 else tb σ H1 Q) : tOrV ta tb σ H Q := h
theorem w_notV (h : ta σ H fun x H1 => ∃ c, x = .bl c ∧ Q (.bl (!c)) H1) : tNotV ta σ H Q := h
theorem w_ifV (h : c σ H fun b H1 => if b = true then ta σ H1 Q else tb σ H1 Q) : tIf c ta tb σ H Q := h
theorem w_chain {r r' : R2} {tc : TE} (h : ta σ H fun x H1 => tb σ H1 fun y H2 => r x y H2 fun z H3 => ∃ k, z = .bl k ∧ (if k = true then tc σ H3 fun w H4 => r' y w H4 Q else Q (.bl false) H3)) : tChain r r' ta tb tc σ H Q := h
theorem w_BM0 {T : String} {r : V → List V → Hp → VK → Prop} (h : te σ H fun x H1 => tyV K T x H1 ∧ r x [] H1 Q) : tBM0 K T r te σ H Q := h
theorem w_BM {T : String} {r : V → List V → Hp → VK → Prop} (h : te σ H fun x H1 => tyV K T x H1 ∧ tl σ H1 fun xs H2 => r x xs H2 Q) : tBM K T r te tl σ H Q := h
theorem w_tyL {a : Addr} {xs : List V} {R : Prop} (h : SqL K H a xs) (q : R) : tyV K "list" (.ref a) H ∧ R := ⟨.inl ⟨rfl, xs, h⟩, q⟩
theorem r_append {a : Addr} {xs : List V} (h : H a = some (.lst xs)) (z : xs.length ≤ 100000) (q : Q .non (upd H a (.lst (xs ++ [v])))) : rAppend (.ref a) [v] H Q := ⟨a, xs, v, rfl, rfl, h, Nat.lt_of_le_of_lt z (by decide), q⟩
theorem r_appendI {a : Addr} {ns : List Int} {i : Int} (h : H a = some (.lst (ns.map V.int))) (z : ns.length ≤ 100000) (q : Q .non (upd H a (.lst ((ns ++ [i]).map V.int)))) : rAppend (.ref a) [.int i] H Q := by
  rw [← map_snoc] at q
  exact r_append h (by rw [List.length_map]; exact z) q
theorem r_catI {a b : Addr} {ns ms : List Int} (h : H a = some (.lst (ns.map V.int))) (h' : H b = some (.lst (ms.map V.int))) (z : ns.length + ms.length ≤ 100000) (q : ∀ p, H p = none → Q (.ref p) (upd H p (.lst ((ns ++ ms).map V.int)))) : rCat (.ref a) (.ref b) H Q := by
  rw [List.map_append] at q
  exact ⟨a, b, _, _, rfl, rfl, h, h', by rw [List.length_map, List.length_map]; exact Nat.le_trans z (by decide), q⟩
theorem r_reverseI {a : Addr} {ns : List Int} (h : H a = some (.lst (ns.map V.int))) (q : Q .non (upd H a (.lst (ns.reverse.map V.int)))) : rReverse (.ref a) [] H Q := by
  rw [List.map_reverse] at q
  exact ⟨a, _, rfl, rfl, h, q⟩
theorem r_reverse {a : Addr} {xs : List V} (h : H a = some (.lst xs)) (q : Q .non (upd H a (.lst xs.reverse))) : rReverse (.ref a) [] H Q := ⟨a, xs, rfl, rfl, h, q⟩
theorem r_clear {a : Addr} {xs : List V} (h : H a = some (.lst xs)) (q : Q .non (upd H a (.lst []))) : rClear (.ref a) [] H Q := ⟨a, xs, rfl, rfl, h, q⟩
theorem r_cat {a b : Addr} {xs ys : List V} (h : H a = some (.lst xs)) (h' : H b = some (.lst ys)) (z : xs.length + ys.length ≤ 100000) (q : ∀ p, H p = none → Q (.ref p) (upd H p (.lst (xs ++ ys)))) : rCat (.ref a) (.ref b) H Q := ⟨a, b, xs, ys, rfl, rfl, h, h', Nat.le_trans z (by decide), q⟩
theorem w_fld {f : Str} (h : te σ H fun x H1 => ∃ a C dx fs v, x = .ref a ∧ H1 a = some (.ins C dx fs) ∧ Cls K C ∧ NoAttr K C f ∧ fs.lookup f = some v ∧ Q v H1) : tFld K te f σ H Q := h
theorem w_for {wi : TI} {g : TG} {tb : TS} (h : wi σ H fun J H1 => forR g tb D σ J H1) : tFor wi g tb D σ H := h
theorem w_rng1 {ta : TA} {R : It → Hp → Prop} (h : ta σ H fun vs H1 => rng1 R vs H1) : iRng1 ta σ H R := h
theorem w_rng2 {ta : TA} {R : It → Hp → Prop} (h : ta σ H fun vs H1 => rng2 R vs H1) : iRng2 ta σ H R := h
theorem w_iList {R : It → Hp → Prop} (h : te σ H fun x H1 => itLst K R x H1) : iList K te σ H R := h
theorem w_iTup {R : It → Hp → Prop} (h : te σ H fun x H1 => itTup K R x H1) : iTup K te σ H R := h
theorem r_rng1 {R : It → Hp → Prop} {n : Int} (h1 : -1000000000 ≤ n) (h2 : n ≤ 1000000000) (h : R (Itr 0 n.toNat) H) : rng1 R [.int n] H := ⟨n, rfl, by omega, by omega, h⟩
theorem r_rng2 {R : It → Hp → Prop} {i n : Int} (h1 : -1000000000 ≤ i ∧ i ≤ 1000000000) (h2 : -1000000000 ≤ n ∧ n ≤ 1000000000) (h : R (Itr i (n - i).toNat) H) : rng2 R [.int i, .int n] H := ⟨i, n, rfl, by omega, h⟩
theorem w_rng3 {ta : TA} {R : It → Hp → Prop} (h : ta σ H fun vs H1 => rng3 R vs H1) : iRng3 ta σ H R := h
theorem r_rng3 {R : It → Hp → Prop} {i j : Int} (h1 : -1000000000 ≤ i ∧ i ≤ 1000000000) (h2 : -1000000000 ≤ j ∧ j ≤ 1000000000) (h : R (Itc i (-1) (i - j).toNat) H) : rng3 R [.int i, .int j, .int (-1)] H := ⟨i, j, -1, _, rfl, RgC.neg (by omega) (by omega) (by omega) (by omega), h⟩
theorem w_truth (h : te σ H fun x H1 => rTru K x H1 B) : tTruth K te σ H B := h
theorem r_truL {a : Addr} {xs : List V} (h : SqL K H a xs) (q : B (!xs.isEmpty) H) : rTru K (.ref a) H B := ⟨_, .inl ⟨xs, h, rfl⟩, q⟩
theorem r_maxL {a : Addr} {ns : List Int} (h : SqL K H a (ns.map V.int)) (h0 : 0 < ns.length) (q : ∀ m, m ∈ ns → (∀ y, y ∈ ns → y ≤ m) → Q (.int m) H) : L2.rMax K [.ref a] H Q := ⟨a, ns, rfl, h, h0, q⟩
theorem r_iList {R : It → Hp → Prop} {a : Addr} {xs : List V} (hs : SqL K H a xs) (h : R (Itl K a) H) : itLst K R (.ref a) H := ⟨a, rfl, ⟨xs, hs⟩, h⟩
theorem r_iTup {R : It → Hp → Prop} {a : Addr} {xs : List V} (hs : SqT K H a xs) (h : R (Itt K a) H) : itTup K R (.ref a) H := ⟨a, rfl, ⟨xs, hs⟩, h⟩
theorem w_lc {wi : TI} {g : TG} {tt : TT} {vs : List Nat} (h : wi σ H fun J H1 => lcR g tt te vs σ Q J H1) : tLc wi g tt te vs σ H Q := h
/-- the loops: Pv by the turn, the slots, the heap -/
theorem f_list {a : Addr} {xs : List V} {g : TG} {tb : TS} (Pv : Nat → L2.St → Hp → Prop) (h0 : Pv 0 σ H) (hl : ∀ i σ H, i ≤ xs.length → Pv i σ H → SqL K H a xs)
    (hs : ∀ i x σ H, xs[i]? = some x → Pv i σ H → g x σ H fun σ2 H2 => tb { D with nx := Pv (i + 1), ct := Pv (i + 1), bk := D.nx } σ2 H2) (hd : ∀ σ H, Pv xs.length σ H → D.nx σ H) : forR g tb D σ (Itl K a) H := for_list Pv h0 hl hs hd
theorem f_tup {a : Addr} {xs : List V} {g : TG} {tb : TS} (Pv : Nat → L2.St → Hp → Prop) (h0 : Pv 0 σ H) (hl : ∀ i σ H, i ≤ xs.length → Pv i σ H → SqT K H a xs)
    (hs : ∀ i x σ H, xs[i]? = some x → Pv i σ H → g x σ H fun σ2 H2 => tb { D with nx := Pv (i + 1), ct := Pv (i + 1), bk := D.nx } σ2 H2) (hd : ∀ σ H, Pv xs.length σ H → D.nx σ H) : forR g tb D σ (Itt K a) H := for_tup Pv h0 hl hs hd
theorem f_range {lo : Int} {n : Nat} {g : TG} {tb : TS} (Pv : Nat → L2.St → Hp → Prop) (h0 : Pv 0 σ H)
    (hs : ∀ i σ H, i < n → Pv i σ H → g (.int (lo + i)) σ H fun σ2 H2 => tb { D with nx := Pv (i + 1), ct := Pv (i + 1), bk := D.nx } σ2 H2) (hd : ∀ σ H, Pv n σ H → D.nx σ H) : forR g tb D σ (Itr lo n) H := for_range Pv h0 hs hd
theorem f_range0 {n : Nat} {g : TG} {tb : TS} (Pv : Nat → L2.St → Hp → Prop) (h0 : Pv 0 σ H)
    (hs : ∀ i σ H, i < n → Pv i σ H → g (.int (i : Int)) σ H fun σ2 H2 => tb { D with nx := Pv (i + 1), ct := Pv (i + 1), bk := D.nx } σ2 H2) (hd : ∀ σ H, Pv n σ H → D.nx σ H) : forR g tb D σ (Itr 0 n) H := f_range Pv h0 (fun i σ H hi hp => by rw [Int.zero_add]; exact hs i σ H hi hp) hd
theorem c_list {a : Addr} {xs : List V} {g : TG} {tt : TT} {vs : List Nat} (Pv : Addr → Nat → Hp → Prop) (h0 : ∀ D, H D = none → Pv D 0 (upd H D (.lst []))) (hl : ∀ D i H', H D = none → i ≤ xs.length → Pv D i H' → SqL K H' a xs)
    (hs : ∀ D i x H', H D = none → xs[i]? = some x → Pv D i H' → g x (wipe σ vs) H' fun σ2 H2 => wipe σ2 vs = wipe σ vs ∧ tt σ2 H2 fun b H3 => lcPut te D (Pv D (i + 1)) σ2 b H3) (hd : ∀ D H', H D = none → Pv D xs.length H' → Q (.ref D) H') : lcR g tt te vs σ Q (Itl K a) H := fun D hD =>
  lc_list (Pv D) (h0 D hD) (fun i H' hi p => hl D i H' hD hi p) (fun i x H' hx p => hs D i x H' hD hx p) (fun H' p => hd D H' hD p)
theorem c_tup {a : Addr} {xs : List V} {g : TG} {tt : TT} {vs : List Nat} (Pv : Addr → Nat → Hp → Prop) (h0 : ∀ D, H D = none → Pv D 0 (upd H D (.lst []))) (hl : ∀ D i H', H D = none → i ≤ xs.length → Pv D i H' → SqT K H' a xs)
    (hs : ∀ D i x H', H D = none → xs[i]? = some x → Pv D i H' → g x (wipe σ vs) H' fun σ2 H2 => wipe σ2 vs = wipe σ vs ∧ tt σ2 H2 fun b H3 => lcPut te D (Pv D (i + 1)) σ2 b H3) (hd : ∀ D H', H D = none → Pv D xs.length H' → Q (.ref D) H') : lcR g tt te vs σ Q (Itt K a) H := fun D hD =>
  lc_tup (Pv D) (h0 D hD) (fun i H' hi p => hl D i H' hD hi p) (fun i x H' hx p => hs D i x H' hD hx p) (fun H' p => hd D H' hD p)
theorem c_range {lo : Int} {n : Nat} {g : TG} {tt : TT} {vs : List Nat} (Pv : Addr → Nat → Hp → Prop) (h0 : ∀ D, H D = none → Pv D 0 (upd H D (.lst [])))
    (hs : ∀ D i H', H D = none → i < n → Pv D i H' → g (.int (lo + i)) (wipe σ vs) H' fun σ2 H2 => wipe σ2 vs = wipe σ vs ∧ tt σ2 H2 fun b H3 => lcPut te D (Pv D (i + 1)) σ2 b H3) (hd : ∀ D H', H D = none → Pv D n H' → Q (.ref D) H') : lcR g tt te vs σ Q (Itr lo n) H := fun D hD =>
  lc_range (Pv D) (h0 D hD) (fun i H' hi p => hs D i H' hD hi p) (fun H' p => hd D H' hD p)
theorem c_range0 {n : Nat} {g : TG} {tt : TT} {vs : List Nat} (Pv : Addr → Nat → Hp → Prop) (h0 : ∀ D, H D = none → Pv D 0 (upd H D (.lst [])))
    (hs : ∀ D i H', H D = none → i < n → Pv D i H' → g (.int (i : Int)) (wipe σ vs) H' fun σ2 H2 => wipe σ2 vs = wipe σ vs ∧ tt σ2 H2 fun b H3 => lcPut te D (Pv D (i + 1)) σ2 b H3) (hd : ∀ D H', H D = none → Pv D n H' → Q (.ref D) H') : lcR g tt te vs σ Q (Itr 0 n) H := c_range Pv h0 (fun D i H' hD hi hp => by rw [Int.zero_add]; exact hs D i H' hD hi hp) hd
theorem w_yes (h : B true H) : tYes σ H B := h
theorem w_put1 {D : Addr} {Nx : Hp → Prop} (h : te σ H fun y H4 => lcAdd D Nx y H4) : lcPut te D Nx σ true H := iteT h
theorem w_put0 {D : Addr} {Nx : Hp → Prop} (h : Nx H) : lcPut te D Nx σ false H := iteF h
theorem w_putB {b : Bool} {D : Addr} {Nx : Hp → Prop} (h1 : b = true → te σ H fun y H4 => lcAdd D Nx y H4) (h2 : b = false → Nx H) : lcPut te D Nx σ b H := by
  cases b with
  | true => exact iteT (h1 rfl)
  | false => exact iteF (h2 rfl)
theorem w_addI {D : Addr} {Nx : Hp → Prop} {ns : List Int} {i : Int} (h : H D = some (.lst (ns.map V.int))) (z : ns.length ≤ 100000) (q : Nx (upd H D (.lst ((ns ++ [i]).map V.int)))) : lcAdd D Nx (.int i) H := ⟨_, h, Nat.lt_of_le_of_lt (by rw [List.length_map]; exact z) (by decide), by rw [map_snoc]; exact q⟩
/-- what a test's yes wants is shown once -/
theorem w_key {c : TT} (S : Hp → Prop) (P : Prop) (key : ∀ H2, S H2 → P → B true H2) (h : ∀ B' : Bool → Hp → Prop, (∀ H2, S H2 → P → B' true H2) → (∀ H2, B false H2 → B' false H2) → c σ H B') : c σ H B := h B key (fun _ h => h)
theorem w_add {D : Addr} {Nx : Hp → Prop} {acc : List V} (h : H D = some (.lst acc)) (z : acc.length ≤ 100000) (q : Nx (upd H D (.lst (acc ++ [v])))) : lcAdd D Nx v H := ⟨acc, h, Nat.lt_of_le_of_lt z (by decide), q⟩
/-- a comprehension of ints over a range, over a list of ints -/
theorem c_rangeI {n j : Nat} {vs : List Nat} (f : Nat → Int) (hz : n ≤ 100000) (hw : ∀ x : V, wipe ((wipe σ vs).set j (some x)) vs = wipe σ vs)
    (hs : ∀ i H' (R : VK), i < n → Same H H' → (∀ H4, Same H' H4 → R (.int (f i)) H4) → te ((wipe σ vs).set j (some (.int (i : Int)))) H' R)
    (hd : ∀ l H', Same H H' → H l = none → H' l = some (.lst (((List.range n).map f).map V.int)) → Q (.ref l) H') : lcR (gName j) tYes te vs σ Q (Itr 0 n) H := by
  refine c_range0 (fun D i H' => Same H H' ∧ H' D = some (.lst (((List.range i).map f).map V.int))) (fun D hD => ⟨same_new hD, upd_same⟩) (fun D i H' hD hi ⟨s, hd⟩ => ?_) (fun D H' hD ⟨s, hd'⟩ => hd D H' s hD hd')
  refine ⟨hw _, w_put1 (hs i H' _ hi s fun H4 s4 => ⟨_, s4 _ _ hd, Nat.lt_of_le_of_lt (show _ ≤ 100000 by rw [List.length_map, List.length_map, List.length_range]; omega) (by decide), (s.trans s4).mut hD, ?_⟩)⟩
  rw [upd_same, List.range_succ, List.map_append, List.map_append]
  rfl
theorem c_listI {a : Addr} {ns : List Int} {j : Nat} {vs : List Nat} (f : Int → Int) (hS : SqL K H a (ns.map V.int)) (hz : ns.length ≤ 100000) (hw : ∀ x : V, wipe ((wipe σ vs).set j (some x)) vs = wipe σ vs)
    (hs : ∀ x H' (R : VK), x ∈ ns → Same H H' → (∀ H4, Same H' H4 → R (.int (f x)) H4) → te ((wipe σ vs).set j (some (.int x))) H' R)
    (hd : ∀ l H', Same H H' → H l = none → H' l = some (.lst ((ns.map f).map V.int)) → Q (.ref l) H') : lcR (gName j) tYes te vs σ Q (Itl K a) H := by
  refine c_list (xs := ns.map V.int) (fun D i H' => Same H H' ∧ H' D = some (.lst (((ns.take i).map f).map V.int))) (fun D hD => ⟨same_new hD, upd_same⟩) (fun D i H' hD hi ⟨s, _⟩ => s.seq hS) (fun D i x H' hD hx ⟨s, hd⟩ => ?_) (fun D H' hD ⟨s, hd'⟩ => ?_)
  · obtain ⟨y, hy, rfl⟩ := map_get hx
    refine ⟨hw _, w_put1 (hs y H' _ (List.mem_of_getElem? hy) s fun H4 s4 => ⟨_, s4 _ _ hd, Nat.lt_of_le_of_lt (show _ ≤ 100000 by rw [List.length_map, List.length_map, List.length_take]; omega) (by decide), (s.trans s4).mut hD, ?_⟩)⟩
    rw [upd_same, List.take_add_one, hy, List.map_append, List.map_append]
    rfl
  · rw [List.length_map, List.take_length] at hd'
    exact hd D H' s hD hd'
theorem tYes_true {A C : Hp → Prop} (h : A H) : tYes σ H (fun b H3 => if b = true then A H3 else C H3) := by
  show (if true = true then A H else C H)
  exact iteT h
theorem c_rangeCI {lo c : Int} {n j : Nat} {vs : List Nat} (f : Nat → Int) (hz : n ≤ 100000) (hw : ∀ x : V, wipe ((wipe σ vs).set j (some x)) vs = wipe σ vs)
    (hs : ∀ i H' (R : VK), i < n → Same H H' → (∀ H4, Same H' H4 → R (.int (f i)) H4) → te ((wipe σ vs).set j (some (.int (lo + (i : Nat) * c)))) H' R)
    (hd : ∀ l H', Same H H' → H l = none → H' l = some (.lst (((List.range n).map f).map V.int)) → Q (.ref l) H') : lcR (gName j) tYes te vs σ Q (Itc lo c n) H := by
  intro D hD
  refine lc_it walk_rangeC (fun i H' => Same H H' ∧ H' D = some (.lst (((List.range i).map f).map V.int))) ⟨same_new hD, upd_same⟩ (fun _ _ _ _ => trivial) ?_ (fun H' ⟨s, hd'⟩ => hd D H' s hD hd')
  rintro i x H1 H2 hi ⟨s, hd⟩ ⟨rfl, rfl⟩
  refine ⟨hw _, tYes_true ?_⟩
  refine (hs i H2 _ hi s fun H4 s4 => ⟨_, s4 _ _ hd, Nat.lt_of_le_of_lt (show _ ≤ 100000 by rw [List.length_map, List.length_map, List.length_range]; omega) (by decide), (s.trans s4).mut hD, ?_⟩)
  rw [upd_same, List.range_succ, List.map_append, List.map_append]
  rfl
/-- ints out of a list of anything -/
theorem c_listVI {a : Addr} {xs : List V} {j : Nat} {vs : List Nat} (f : Nat → Int) (hS : SqL K H a xs) (hz : xs.length ≤ 100000) (hw : ∀ x : V, wipe ((wipe σ vs).set j (some x)) vs = wipe σ vs)
    (hs : ∀ i x H' (R : VK), xs[i]? = some x → Same H H' → (∀ H4, Same H' H4 → R (.int (f i)) H4) → te ((wipe σ vs).set j (some x)) H' R)
    (hd : ∀ l H', Same H H' → H l = none → H' l = some (.lst (((List.range xs.length).map f).map V.int)) → Q (.ref l) H') : lcR (gName j) tYes te vs σ Q (Itl K a) H := by
  refine c_list (xs := xs) (fun D i H' => i ≤ xs.length ∧ Same H H' ∧ H' D = some (.lst (((List.range i).map f).map V.int))) (fun D hD => ⟨Nat.zero_le _, same_new hD, upd_same⟩) (fun D i H' hD hi ⟨_, s, _⟩ => s.seq hS) (fun D i x H' hD hx ⟨hi, s, hd⟩ => ?_) (fun D H' hD ⟨_, s, hd'⟩ => hd D H' s hD hd')
  have hl := (List.getElem?_eq_some_iff.mp hx).1
  refine ⟨hw _, w_put1 (hs i x H' _ hx s fun H4 s4 => ⟨_, s4 _ _ hd, Nat.lt_of_le_of_lt (show _ ≤ 100000 by rw [List.length_map, List.length_map, List.length_range]; omega) (by decide), hl, (s.trans s4).mut hD, ?_⟩)⟩
  rw [upd_same, List.range_succ, List.map_append, List.map_append]
  rfl
theorem w_while {tb : TS} (W : Nat → L2.St → Hp → Prop) (m : Nat) (w0 : W m σ H) (hs : ∀ m σ H, W m σ H → c σ H fun b H1 => whR tb D W m σ b H1) : tWhile c tb D σ H := ⟨W, ⟨m, w0⟩, hs⟩
theorem w_whR {tb : TS} {W : Nat → L2.St → Hp → Prop} {m : Nat} {b : Bool} (h1 : b = true → tb { D with nx := fun σ' H' => ∃ m', m' < m ∧ W m' σ' H', ct := fun σ' H' => ∃ m', m' < m ∧ W m' σ' H', bk := D.nx } σ H) (h2 : b = false → D.nx σ H) : whR tb D W m σ b H := by
  cases b with
  | true => exact iteT ⟨_, fun _ _ h => h, h1 rfl⟩
  | false => exact iteF (h2 rfl)
theorem w_sl {r : V → Option Int → Option Int → Hp → VK → Prop} {lo hi : TO} (h : te σ H fun x H1 => lo σ H1 fun l H2 => hi σ H2 fun u H3 => r x l u H3 Q) : tSl r te lo hi σ H Q := h
theorem w_noPart {R : Option Int → Hp → Prop} (h : R none H) : tNoPart σ H R := h
theorem w_part {R : Option Int → Hp → Prop} (h : te σ H fun x H1 => ∃ i, x = .int i ∧ R (some i) H1) : tPart te σ H R := h
theorem w_partI {R : Int → Prop} {i : Int} (h : R i) : ∃ j, V.int i = .int j ∧ R j := ⟨i, rfl, h⟩
theorem ite_nt {A B : Prop} (h : B) : if (!true) = true then A else B := h
theorem ite_nf {A B : Prop} (h : A) : if (!false) = true then A else B := h
theorem ite_d {c A B : Prop} [Decidable c] (h1 : c → A) (h2 : ¬ c → B) : if decide c = true then A else B := by
  by_cases h : c
  · rw [if_pos (decide_eq_true h)]
    exact h1 h
  · rw [if_neg (by simpa using h)]
    exact h2 h
theorem ite_nd {c A B : Prop} [Decidable c] (h1 : ¬ c → A) (h2 : c → B) : if (!decide c) = true then A else B := by
  by_cases h : c
  · rw [if_neg (by simpa using h)]
    exact h2 h
  · rw [if_pos (by simpa using h)]
    exact h1 h
theorem ite_dT {c A B : Prop} [Decidable c] (hc : c) (h : A) : if decide c = true then A else B := by
  rw [if_pos (decide_eq_true hc)]
  exact h
theorem ite_dF {c A B : Prop} [Decidable c] (hc : ¬ c) (h : B) : if decide c = true then A else B := by
  rw [if_neg (by simpa using hc)]
  exact h
theorem ite_ndF {c A B : Prop} [Decidable c] (hc : ¬ c) (h : A) : if (!decide c) = true then A else B := by
  rw [if_pos (by simpa using hc)]
  exact h
theorem r_ixTn {p : Addr} {ns : List Int} {i : Int} (h : SqT K H p (ns.map V.int)) (h0 : 0 ≤ i) (h1 : i < ns.length) (q : Q (.int (ns.getD i.toNat 0)) H) : rIxT K (.ref p) (.int i) H Q := by
  have hl : i.toNat < ns.length := by omega
  refine ⟨p, _, i, _, rfl, rfl, h, at_of (j := i.toNat) (v := .int (ns.getD i.toNat 0)) (by omega) ?_, q⟩
  rw [List.getElem?_map, List.getElem?_eq_getElem hl, List.getD_eq_getElem?_getD, List.getElem?_eq_getElem hl]
  rfl
theorem r_ixLn {p : Addr} {ns : List Int} {i : Int} (h : SqL K H p (ns.map V.int)) (h0 : 0 ≤ i) (h1 : i < ns.length) (q : Q (.int (ns.getD i.toNat 0)) H) : rIxL K (.ref p) (.int i) H Q := by
  have hl : i.toNat < ns.length := by omega
  refine ⟨p, _, i, _, rfl, rfl, h, at_of (j := i.toNat) (v := .int (ns.getD i.toNat 0)) (by omega) ?_, q⟩
  rw [List.getElem?_map, List.getElem?_eq_getElem hl, List.getD_eq_getElem?_getD, List.getElem?_eq_getElem hl]
  rfl
theorem r_ixLP {p : Addr} {vs : List V} {ps : List (Int × Int)} {i : Int} (h : SqL K H p vs) (g : Pls K H vs ps) (h0 : 0 ≤ i) (h1 : i < ps.length) (q : ∀ v, Pl K H v (ps.getD i.toNat (0, 0)) → Q v H) : rIxL K (.ref p) (.int i) H Q := by
  have hl : i.toNat < ps.length := by omega
  obtain ⟨v, hv, hp⟩ := pr_get' g (show ps[i.toNat]? = some (ps.getD i.toNat (0, 0)) by rw [List.getD_eq_getElem?_getD, List.getElem?_eq_getElem hl]; rfl)
  exact ⟨p, vs, i, v, rfl, rfl, h, at_of (j := i.toNat) (by omega) hv, q v hp⟩
theorem ite_eqT {b : Bool} {A B : Prop} (hb : b = true) (h : A) : if b = true then A else B := by
  rw [if_pos hb]
  exact h
theorem ite_eqF {b : Bool} {A B : Prop} (hb : b = false) (h : B) : if b = true then A else B := by
  rw [hb]
  exact iteF h
theorem ite_neT {b : Bool} {A B : Prop} (hb : b = true) (h : B) : if (!b) = true then A else B := by
  rw [hb]
  exact h
theorem ite_neF {b : Bool} {A B : Prop} (hb : b = false) (h : A) : if (!b) = true then A else B := by
  rw [hb]
  exact h
theorem r_ixLm {p : Addr} {ns : List Int} {k : Nat} (h : SqL K H p (ns.map V.int)) (h0 : 1 ≤ k) (h1 : k ≤ ns.length) (q : Q (.int (ns.getD (ns.length - k) 0)) H) : rIxL K (.ref p) (.int (-(k : Int))) H Q := by
  have hl : ns.length - k < ns.length := by omega
  refine ⟨p, _, _, .int (ns.getD (ns.length - k) 0), rfl, rfl, h, ?_, q⟩
  unfold atI ixN
  rw [List.length_map, if_neg (by omega), if_pos (by omega), show (-(k : Int) + (ns.length : Int)).toNat = ns.length - k by omega]
  show (ns.map V.int)[ns.length - k]? = _
  rw [List.getElem?_map, List.getElem?_eq_getElem hl, List.getD_eq_getElem?_getD, List.getElem?_eq_getElem hl]
  rfl
theorem ite_b {b : Bool} {A B : Prop} (h1 : b = true → A) (h2 : b = false → B) : if b = true then A else B := by
  cases b with
  | true => exact iteT (h1 rfl)
  | false => exact iteF (h2 rfl)
theorem ite_nb {b : Bool} {A B : Prop} (h1 : b = false → A) (h2 : b = true → B) : if (!b) = true then A else B := by
  cases b with
  | true => exact h2 rfl
  | false => exact h1 rfl
theorem r_slL {a : Addr} {xs : List V} {lo hi : Option Int} (h : SqL K H a xs) (q : ∀ p, H p = none → Q (.ref p) (upd H p (.lst (cutV xs lo hi)))) : rSlL K (.ref a) lo hi H Q := ⟨a, xs, rfl, h, q⟩
theorem fin_of {b : Bool} (q : Q (.bl true) H) (hb : b = true) : Q (.bl b) H := by
  rw [hb]
  exact q
/-! on values -/
theorem r_I0 {g : Int → Int → V} {i j : Int} (q : Q (g i j) H) : rI0 g (.int i) (.int j) H Q := ⟨i, j, rfl, rfl, q⟩
theorem r_I {C : Int → Int → Prop} {g : Int → Int → V} {i j : Int} (hc : C i j) (q : Q (g i j) H) : rI C g (.int i) (.int j) H Q := ⟨i, j, rfl, rfl, hc, q⟩
theorem r_U {g : Int → V} {i : Int} (q : Q (g i) H) : rU g (.int i) H Q := ⟨i, rfl, q⟩
theorem r_eqI {i j : Int} (q : Q (.bl (decide (i = j))) H) : rEq (.int i) (.int j) H Q := ⟨rfl, by
  have e : decide (V.int i = V.int j) = decide (i = j) := by by_cases h : i = j <;> simp [h]
  rw [e]; exact q⟩
theorem r_neI {i j : Int} (q : Q (.bl (!decide (i = j))) H) : rNe (.int i) (.int j) H Q := ⟨rfl, by
  have e : decide (V.int i = V.int j) = decide (i = j) := by by_cases h : i = j <;> simp [h]
  rw [e]; exact q⟩
theorem r_eqB {i j : Bool} (q : Q (.bl (decide (i = j))) H) : rEq (.bl i) (.bl j) H Q := ⟨rfl, by
  have e : decide (V.bl i = V.bl j) = decide (i = j) := by by_cases h : i = j <;> simp [h]
  rw [e]; exact q⟩
theorem r_neB {i j : Bool} (q : Q (.bl (!decide (i = j))) H) : rNe (.bl i) (.bl j) H Q := ⟨rfl, by
  have e : decide (V.bl i = V.bl j) = decide (i = j) := by by_cases h : i = j <;> simp [h]
  rw [e]; exact q⟩
theorem r_ixT {p : Addr} {xs : List V} {i : Int} (h : SqT K H p xs) (ha : atI xs i = some v) (q : Q v H) : rIxT K (.ref p) (.int i) H Q := ⟨p, xs, i, v, rfl, rfl, h, ha, q⟩
theorem r_ixL {p : Addr} {xs : List V} {i : Int} (h : SqL K H p xs) (ha : atI xs i = some v) (q : Q v H) : rIxL K (.ref p) (.int i) H Q := ⟨p, xs, i, v, rfl, rfl, h, ha, q⟩
theorem r_ixP0 {p : Int × Int} (h : Pl K H v p) (q : Q (.int p.1) H) : rIxT K v (.int 0) H Q := by
  obtain ⟨a, rfl, h⟩ := h
  exact r_ixT h rfl q
theorem r_ixP1 {p : Int × Int} (h : Pl K H v p) (q : Q (.int p.2) H) : rIxT K v (.int 1) H Q := by
  obtain ⟨a, rfl, h⟩ := h
  exact r_ixT h rfl q
/-! dicts with tuple keys -/
theorem w_dIn {td ty : TE} (h : ty σ H fun y H1 => td σ H1 fun x H2 => rDIn false x y H2 Q) : tDIn ty td σ H Q := h
theorem w_dNotIn {td ty : TE} (h : ty σ H fun y H1 => td σ H1 fun x H2 => rDIn true x y H2 Q) : tDNotIn ty td σ H Q := h
theorem w_dPut {td ty tv : TE} (h : tv σ H fun v H1 => td σ H1 fun x H2 => ty σ H2 fun y H3 => rDPut x y v H3 fun H4 => D.nx σ H4) : sDPut td ty tv D σ H := h
theorem w_dGet {td ty : TE} (h : td σ H fun x H1 => ty σ H1 fun y H2 => rDGet x y H2 Q) : tDGet td ty σ H Q := h
theorem w_dNewT (h : ∀ p, H p = none → Q (.ref p) (upd H p (.dT []))) : tDNewT σ H Q := h
theorem r_dInP {a : Addr} {kvs : List (List Key × V)} {p : Int × Int} (h : H a = some (.dT kvs)) (g : Tp H v p) (q : Q (.bl (valV kvs (keyOf p)).isSome) H) : rDIn false (.ref a) v H Q := by
  obtain ⟨b, rfl, g⟩ := g
  exact ⟨a, _, rfl, DGet.t (k := keyOf p) h g, q⟩
theorem r_dNotInP {a : Addr} {kvs : List (List Key × V)} {p : Int × Int} (h : H a = some (.dT kvs)) (g : Tp H v p) (q : Q (.bl (!(valV kvs (keyOf p)).isSome)) H) : rDIn true (.ref a) v H Q := by
  obtain ⟨b, rfl, g⟩ := g
  exact ⟨a, _, rfl, DGet.t (k := keyOf p) h g, q⟩
theorem r_dPutP {a : Addr} {kvs : List (List Key × V)} {p : Int × Int} {R : Hp → Prop} (h : H a = some (.dT kvs)) (g : Tp H v p) (z : kvs.length ≤ 100000) (q : R (upd H a (.dT (putK kvs (keyOf p) x)))) : rDPut (.ref a) v x H R := by
  obtain ⟨b, rfl, g⟩ := g
  exact ⟨a, _, rfl, DPut.t (k := keyOf p) h g (Nat.lt_of_le_of_lt z (by decide)), q⟩
theorem r_dGetP {a : Addr} {kvs : List (List Key × V)} {p : Int × Int} (h : H a = some (.dT kvs)) (g : Tp H v p) (e : valV kvs (keyOf p) = some x) (q : Q x H) : rDGet (.ref a) v H Q := by
  obtain ⟨b, rfl, g⟩ := g
  exact ⟨a, x, rfl, by rw [← e]; exact DGet.t (k := keyOf p) h g, q⟩
/-! isinstance -/
theorem tyx_tup {a : Addr} {xs : List V} (h : SqT K H a xs) : TyX K H (.ref a) (.type "tuple") := by
  rcases h with (h | ⟨o, h⟩) | ⟨o, its, n, h, c, _⟩
  · exact .base (.tup h)
  · exact .fTuple h
  · exact .kTuple h c
theorem tyx_lst {a : Addr} {xs : List V} (h : SqL K H a xs) : TyX K H (.ref a) (.type "list") := by
  rcases h with (h | ⟨o, h⟩) | ⟨o, its, n, h, c, _⟩
  · exact .base (.lst h)
  · exact .base (.frz h)
  · exact .kList h c
theorem r_isi {n m : String} (ty : TyX K H x (.type n)) (e : kitB n m = some b) (q : Q (.bl b) H) : rIsi K [x, .ty m] H Q := ⟨x, .ty m, .type n, .type m, b, rfl, .ty m, ty, kit_ty e, q⟩
theorem r_isiInt {i : Int} {m : String} (e : kitB "int" m = some b) (q : Q (.bl b) H) : rIsi K [.int i, .ty m] H Q := r_isi (.base (.int i)) e q
theorem r_isiPl {p : Int × Int} {m : String} (h : Pl K H v p) (e : kitB "tuple" m = some b) (q : Q (.bl b) H) : rIsi K [v, .ty m] H Q := by
  obtain ⟨a, rfl, h⟩ := h
  exact r_isi (tyx_tup h) e q
theorem r_isiL {a : Addr} {xs : List V} {m : String} (h : SqL K H a xs) (e : kitB "list" m = some b) (q : Q (.bl b) H) : rIsi K [.ref a, .ty m] H Q := r_isi (tyx_lst h) e q
/-! len, max, min, abs, int -/
theorem r_lenL {p : Addr} {ys : List V} (h : SqL K H p ys) (q : Q (.int (ys.length : Nat)) H) : rLen K [.ref p] H Q := ⟨p, ys, rfl, .inl h, q⟩
theorem r_lenT {p : Addr} {ys : List V} (h : SqT K H p ys) (q : Q (.int (ys.length : Nat)) H) : rLen K [.ref p] H Q := ⟨p, ys, rfl, .inr h, q⟩
theorem r_lenPl {p : Int × Int} (h : Pl K H v p) (q : Q (.int 2) H) : rLen K [v] H Q := by
  obtain ⟨a, rfl, h⟩ := h
  exact ⟨a, _, rfl, .inr h, q⟩
theorem r_listL {p : Addr} {ys : List V} (h : SqL K H p ys) (q : ∀ l, H l = none → Q (.ref l) (upd H l (.lst ys))) : rList K [.ref p] H Q := ⟨p, ys, rfl, .inl h, q⟩
theorem r_listT {p : Addr} {ys : List V} (h : SqT K H p ys) (q : ∀ l, H l = none → Q (.ref l) (upd H l (.lst ys))) : rList K [.ref p] H Q := ⟨p, ys, rfl, .inr h, q⟩
theorem r_tupL {p : Addr} {ys : List V} (h : SqL K H p ys) (q : ∀ l, H l = none → Q (.ref l) (upd H l (.tup ys))) : rTuple K [.ref p] H Q := ⟨p, ys, rfl, .inl ⟨h, q⟩⟩
theorem r_tupPl {p : Int × Int} (h : Pl K H v p) (q : Q v H) : rTuple K [v] H Q := by
  obtain ⟨a, rfl, h⟩ := h
  exact ⟨a, _, rfl, .inr ⟨h, q⟩⟩
theorem r_tupT {p : Addr} {ys : List V} (h : SqT K H p ys) (q : Q (.ref p) H) : rTuple K [.ref p] H Q := ⟨p, ys, rfl, .inr ⟨h, q⟩⟩
theorem r_max2 {i j : Int} (q : Q (.int (max i j)) H) : rMax2 [.int i, .int j] H Q := ⟨i, j, rfl, by
  have e : (if j > i then j else i) = max i j := by rw [Int.max_def]; split <;> split <;> omega
  rw [e]; exact q⟩
theorem r_min2 {i j : Int} (q : Q (.int (min i j)) H) : rMin2 [.int i, .int j] H Q := ⟨i, j, rfl, by
  have e : (if j < i then j else i) = min i j := by rw [Int.min_def]; split <;> split <;> omega
  rw [e]; exact q⟩
theorem r_max3 {i j k : Int} (q : Q (.int (max (max i j) k)) H) : rMax3 [.int i, .int j, .int k] H Q := ⟨i, j, k, rfl, q⟩
theorem r_abs {i : Int} (q : Q (.int (i.natAbs : Int)) H) : rAbs [.int i] H Q := ⟨i, rfl, by
  have e : (if i < 0 then -i else i) = (i.natAbs : Int) := by split <;> omega
  rw [e]; exact q⟩
theorem r_intI {i : Int} (q : Q (.int i) H) : rInt1 [.int i] H Q := .inl ⟨i, rfl, q⟩
theorem r_intB {b : Bool} (q : Q (.int (if b then 1 else 0)) H) : rInt1 [.bl b] H Q := .inr ⟨b, rfl, q⟩
theorem kit_ii : kitB "int" "int" = some true := by decide +kernel
theorem kit_ib : kitB "int" "bool" = some false := by decide +kernel
theorem kit_bb : kitB "bool" "bool" = some true := by decide +kernel
theorem kit_bi : kitB "bool" "int" = some true := by decide +kernel
theorem kit_tt : kitB "tuple" "tuple" = some true := by decide +kernel
theorem kit_ll : kitB "list" "list" = some true := by decide +kernel
theorem kit_dd : kitB "dict" "dict" = some true := by decide +kernel
/-! equality of data -/
theorem dp_pl {p : Int × Int} (h : Pl K H v p) : Dp K H v (.tuple [.int p.1, .int p.2]) := by
  obtain ⟨a, rfl, h⟩ := h
  exact .tup h (.cons (.int _) (.cons (.int _) .nil))
theorem canLay_ints : ∀ ns : List Int, PyData.canLayAll0 (ns.map PyData.int) = true
  | [] => rfl
  | n :: r => by
    show (true && PyData.canLayAll0 (r.map PyData.int)) = true
    rw [canLay_ints r]
    rfl
theorem depth_ints : ∀ ns : List Int, PyData.depthAll (ns.map PyData.int) = 0
  | [] => rfl
  | n :: r => by
    show max 0 (PyData.depthAll (r.map PyData.int)) = 0
    rw [depth_ints r]
    rfl
theorem shaped_ints (ns : List Int) : SeqAt.shaped (.list (ns.map PyData.int)) = true := by
  have h1 : PyData.canLay0 (.list (ns.map PyData.int)) = true := by rw [PyData.canLay0]; exact canLay_ints ns
  have h2 : PyData.depth (.list (ns.map PyData.int)) = 1 := by rw [PyData.depth, depth_ints]
  unfold SeqAt.shaped
  rw [h1, h2]
  rfl
theorem r_rep1 {a : Addr} {i : Int} {k : Int} (h : H a = some (.lst ([i].map V.int))) (h0 : 0 ≤ k) (h1 : k ≤ 1000) (q : ∀ p, H p = none → Q (.ref p) (upd H p (.lst ((List.replicate k.toNat i).map V.int)))) : rRep (.ref a) (.int k) H Q := by
  refine ⟨a, k, _, rfl, rfl, h, by omega, by omega, ?_, fun p hp => ?_⟩
  · show 1 * k.toNat ≤ _
    exact Nat.le_trans (show 1 * k.toNat ≤ 1000 by omega) (by decide)
  · have e : ∀ n : Nat, (List.replicate n [V.int i]).flatten = (List.replicate n i).map V.int := fun n => by
      induction n with
      | zero => rfl
      | succ n ih =>
        rw [List.replicate_succ, List.replicate_succ, List.flatten_cons, ih]
        rfl
    rw [show [i].map V.int = [V.int i] from rfl, e]
    exact q p hp
theorem dpAll_ints : ∀ ns : List Int, DpAll K H (ns.map V.int) (ns.map PyData.int)
  | [] => .nil
  | n :: r => .cons (.int n) (dpAll_ints r)
theorem dp_ints {a : Addr} {ns : List Int} (h : SqL K H a (ns.map V.int)) : Dp K H (.ref a) (.list (ns.map PyData.int)) := .lst h (dpAll_ints ns)
theorem eqv_ints : ∀ ns ms : List Int, PyData.eqvAll (ns.map PyData.int) (ms.map PyData.int) = decide (ns = ms)
  | [], [] => rfl
  | [], _ :: _ => rfl
  | _ :: _, [] => rfl
  | n :: r, m :: q => by
    show ((n == m) && PyData.eqvAll (r.map PyData.int) (q.map PyData.int)) = _
    rw [eqv_ints r q]
    by_cases h1 : n = m <;> by_cases h2 : r = q <;> simp [h1, h2]
theorem eqv_intL (ns ms : List Int) : PyData.eqv (.list (ns.map PyData.int)) (.list (ms.map PyData.int)) = decide (ns = ms) := by
  rw [PyData.eqv]
  exact eqv_ints ns ms
theorem r_eqIL {a b : Addr} {ns ms : List Int} (h1 : SqL K H a (ns.map V.int)) (h2 : SqL K H b (ms.map V.int)) (k : Q (.bl (decide (ns = ms))) H) : rEqD K (.ref a) (.ref b) H Q := ⟨_, _, dp_ints h1, dp_ints h2, shaped_ints ns, shaped_ints ms, by rw [eqv_intL]; exact k⟩
theorem r_neIL {a b : Addr} {ns ms : List Int} (h1 : SqL K H a (ns.map V.int)) (h2 : SqL K H b (ms.map V.int)) (k : Q (.bl (!decide (ns = ms))) H) : rNeD K (.ref a) (.ref b) H Q := ⟨_, _, dp_ints h1, dp_ints h2, shaped_ints ns, shaped_ints ms, by rw [eqv_intL]; exact k⟩
theorem r_rep {a : Addr} {xs : List V} {k : Int} (h : H a = some (.lst xs)) (h0 : 0 ≤ k) (h1 : k ≤ 1000) (z : xs.length ≤ 10) (q : ∀ p, H p = none → Q (.ref p) (upd H p (.lst (List.replicate k.toNat xs).flatten))) : rRep (.ref a) (.int k) H Q := by
  refine ⟨a, k, xs, rfl, rfl, h, by omega, by omega, ?_, ?_⟩
  · have : xs.length * k.toNat ≤ 10 * 1000 := Nat.mul_le_mul z (by omega)
    exact Nat.le_trans this (by decide)
  · exact q
theorem r_eqPl {p q : Int × Int} (h1 : Pl K H x p) (h2 : Pl K H y q) (k : Q (.bl (decide (p = q))) H) : rEqD K x y H Q := ⟨_, _, dp_pl h1, dp_pl h2, rfl, rfl, by
  have e : PyData.eqv (.tuple [.int p.1, .int p.2]) (.tuple [.int q.1, .int q.2]) = decide (p = q) := by
    obtain ⟨p1, p2⟩ := p
    obtain ⟨q1, q2⟩ := q
    simp only [PyData.eqv, PyData.eqvAll, Prod.mk.injEq]
    by_cases h1 : p1 = q1 <;> by_cases h2 : p2 = q2 <;> simp [h1, h2]
  rw [e]; exact k⟩
theorem r_nePl {p q : Int × Int} (h1 : Pl K H x p) (h2 : Pl K H y q) (k : Q (.bl (!decide (p = q))) H) : rNeD K x y H Q := ⟨_, _, dp_pl h1, dp_pl h2, rfl, rfl, by
  have e : PyData.eqv (.tuple [.int p.1, .int p.2]) (.tuple [.int q.1, .int q.2]) = decide (p = q) := by
    obtain ⟨p1, p2⟩ := p
    obtain ⟨q1, q2⟩ := q
    simp only [PyData.eqv, PyData.eqvAll, Prod.mk.injEq]
    by_cases h1 : p1 = q1 <;> by_cases h2 : p2 = q2 <;> simp [h1, h2]
  rw [e]; exact k⟩
end
end Hx

/-! # places, steps, sevens: plain laws -/
namespace Hx
def turn1 (p : Int × Int) : Int × Int := (-p.2, p.1 + p.2)
def turnN : Nat → Int × Int → Int × Int
  | 0, p => p
  | n + 1, p => turn1 (turnN n p)
def numBy (c : Int) : Int := if c % 4 = 1 then c / 4 % (2 * 10 ^ (39 : Int).toNat - 1) - 10 ^ (39 : Int).toNat + 1 else c / 4 % 61 - 30
def cellAt (ns : List Int) (k : Int) : Int := if k < (ns.length : Int) then (ns.getD k.toNat 0) else 0
def stepOf (d : Int) : Int × Int := steps.getD (d - 1).toNat (0, 0)
def restPlace (f : Int) : Int × Int := if f = 0 then (0, 0) else stepOf f
def restOf (p : Int × Int) : Int := figs.getD ((p.1 + 5 * p.2) % 7).toNat 0
def greatOf (p : Int × Int) : Int × Int := (2 * p.1 - p.2, p.1 + 3 * p.2)
def centreOf (p : Int × Int) : Int × Int :=
  ((3 * (p.1 - (restPlace (restOf p)).1) + (p.2 - (restPlace (restOf p)).2)) / 7, (2 * (p.2 - (restPlace (restOf p)).2) - (p.1 - (restPlace (restOf p)).1)) / 7)
theorem fig_cases {f : Int} (h0 : 0 ≤ f) (h1 : f ≤ 6) : f = 0 ∨ f = 1 ∨ f = 2 ∨ f = 3 ∨ f = 4 ∨ f = 5 ∨ f = 6 := by omega
theorem rest_cases (p : Int × Int) : ((p.1 + 5 * p.2) % 7 = 0 ∧ restOf p = 0 ∧ restPlace (restOf p) = (0, 0)) ∨ ((p.1 + 5 * p.2) % 7 = 1 ∧ restOf p = 1 ∧ restPlace (restOf p) = (1, 0)) ∨
    ((p.1 + 5 * p.2) % 7 = 2 ∧ restOf p = 5 ∧ restPlace (restOf p) = (0, -1)) ∨ ((p.1 + 5 * p.2) % 7 = 3 ∧ restOf p = 6 ∧ restPlace (restOf p) = (1, -1)) ∨ ((p.1 + 5 * p.2) % 7 = 4 ∧ restOf p = 3 ∧ restPlace (restOf p) = (-1, 1)) ∨
    ((p.1 + 5 * p.2) % 7 = 5 ∧ restOf p = 2 ∧ restPlace (restOf p) = (0, 1)) ∨ ((p.1 + 5 * p.2) % 7 = 6 ∧ restOf p = 4 ∧ restPlace (restOf p) = (-1, 0)) := by
  have h : ∀ m : Int, 0 ≤ m → m < 7 → (m = 0 ∧ figs.getD m.toNat 0 = 0 ∧ restPlace (figs.getD m.toNat 0) = (0, 0)) ∨ (m = 1 ∧ figs.getD m.toNat 0 = 1 ∧ restPlace (figs.getD m.toNat 0) = (1, 0)) ∨
    (m = 2 ∧ figs.getD m.toNat 0 = 5 ∧ restPlace (figs.getD m.toNat 0) = (0, -1)) ∨ (m = 3 ∧ figs.getD m.toNat 0 = 6 ∧ restPlace (figs.getD m.toNat 0) = (1, -1)) ∨ (m = 4 ∧ figs.getD m.toNat 0 = 3 ∧ restPlace (figs.getD m.toNat 0) = (-1, 1)) ∨
    (m = 5 ∧ figs.getD m.toNat 0 = 2 ∧ restPlace (figs.getD m.toNat 0) = (0, 1)) ∨ (m = 6 ∧ figs.getD m.toNat 0 = 4 ∧ restPlace (figs.getD m.toNat 0) = (-1, 0)) := by
    intro m h0 h1
    obtain rfl | rfl | rfl | rfl | rfl | rfl | rfl := fig_cases (f := m) h0 (by omega) <;> simp [figs, restPlace, stepOf, steps]
  exact h _ (by omega) (by omega)
theorem rest_range (p : Int × Int) : 0 ≤ restOf p ∧ restOf p ≤ 6 := by
  rcases rest_cases p with h | h | h | h | h | h | h <;> omega
theorem great_centre (p : Int × Int) : greatOf (centreOf p) = (p.1 - (restPlace (restOf p)).1, p.2 - (restPlace (restOf p)).2) := by
  unfold greatOf centreOf
  rcases rest_cases p with ⟨h, _, e⟩ | ⟨h, _, e⟩ | ⟨h, _, e⟩ | ⟨h, _, e⟩ | ⟨h, _, e⟩ | ⟨h, _, e⟩ | ⟨h, _, e⟩ <;> rw [e] <;> simp only [Prod.mk.injEq] <;> omega
/-- q, r is a great step -/
def isGreat (q r : Int) : Bool := decide ((3 * q + r) % 7 = 0) && decide ((2 * r - q) % 7 = 0)
theorem isGreat_rest (p : Int × Int) {f : Int} (h0 : 0 ≤ f) (h1 : f ≤ 6) : isGreat (p.1 - (restPlace f).1) (p.2 - (restPlace f).2) = decide (f = restOf p) := by
  have h : ∀ b : Bool, (b = true ↔ f = restOf p) → b = decide (f = restOf p) := fun b hb => by
    cases b with
    | true => exact (decide_eq_true (hb.mp rfl)).symm
    | false => exact (decide_eq_false fun z => Bool.noConfusion (hb.mpr z)).symm
  refine h _ ?_
  unfold isGreat
  rw [Bool.and_eq_true, decide_eq_true_eq, decide_eq_true_eq]
  obtain ⟨r, hr⟩ : ∃ r, r = restOf p := ⟨_, rfl⟩
  rw [← hr]
  obtain rfl | rfl | rfl | rfl | rfl | rfl | rfl := fig_cases h0 h1 <;> simp only [restPlace, stepOf, steps] <;> rcases rest_cases p with ⟨h, e, _⟩ | ⟨h, e, _⟩ | ⟨h, e, _⟩ | ⟨h, e, _⟩ | ⟨h, e, _⟩ | ⟨h, e, _⟩ | ⟨h, e, _⟩ <;> rw [e] at hr <;> subst hr <;> simp <;> omega
end Hx

/-! # neighbours, distances: plain laws -/
namespace Hx
def nbrs (p : Int × Int) : List (Int × Int) := steps.map fun s => (p.1 + s.1, p.2 + s.2)
theorem nbrs_len (p : Int × Int) : (nbrs p).length = 6 := rfl
def distOf (p o : Int × Int) : Int := max (max ((p.1 - o.1).natAbs : Int) ((p.2 - o.2).natAbs : Int)) (((p.1 - o.1) + (p.2 - o.2)).natAbs : Int)
theorem dist_comm (p o : Int × Int) : distOf p o = distOf o p := by
  unfold distOf
  omega
theorem dist_self (p : Int × Int) : distOf p p = 0 := by
  unfold distOf
  omega
theorem nbrs_cases {p n : Int × Int} (h : n ∈ nbrs p) : n = (p.1 + 1, p.2 + 0) ∨ n = (p.1 + 0, p.2 + 1) ∨ n = (p.1 + -1, p.2 + 1) ∨ n = (p.1 + -1, p.2 + 0) ∨ n = (p.1 + 0, p.2 + -1) ∨ n = (p.1 + 1, p.2 + -1) := by
  simpa [nbrs, steps] using h
theorem dist_le (p o : Int × Int) (k : Int) : distOf p o ≤ k ↔ (-k ≤ p.1 - o.1 ∧ p.1 - o.1 ≤ k) ∧ (-k ≤ p.2 - o.2 ∧ p.2 - o.2 ≤ k) ∧ (-k ≤ (p.1 - o.1) + (p.2 - o.2) ∧ (p.1 - o.1) + (p.2 - o.2) ≤ k) := by
  unfold distOf
  rw [Int.max_le, Int.max_le]
  omega
theorem dist_nonneg (p o : Int × Int) : 0 ≤ distOf p o := by
  unfold distOf
  exact Int.le_trans (Int.natCast_nonneg _) (Int.le_max_right _ _)
theorem nbrs_back {p n : Int × Int} (h : n ∈ nbrs p) : p ∈ nbrs n := by
  obtain ⟨a, b⟩ := p
  simp only [nbrs, steps, List.map_cons, List.map_nil, List.mem_cons, List.not_mem_nil, or_false] at h ⊢
  rcases h with rfl | rfl | rfl | rfl | rfl | rfl <;> simp only [Prod.mk.injEq] <;> omega
theorem dist_up {p n : Int × Int} (o : Int × Int) (h : n ∈ nbrs p) : distOf n o ≤ distOf p o + 1 := by
  obtain ⟨⟨a1, a2⟩, ⟨b1, b2⟩, c1, c2⟩ := (dist_le p o (distOf p o)).mp (Int.le_refl _)
  obtain ⟨d, hd⟩ : ∃ d, d = distOf p o := ⟨_, rfl⟩
  rw [← hd] at a1 a2 b1 b2 c1 c2 ⊢
  rw [dist_le]
  rcases nbrs_cases h with h | h | h | h | h | h <;> subst h <;> simp only <;> omega
theorem dist_step {p n : Int × Int} (o : Int × Int) (h : n ∈ nbrs p) : (distOf n o - distOf p o).natAbs ≤ 1 := by
  have h1 := dist_up o h
  have h2 := dist_up o (nbrs_back h)
  omega
theorem dist_down {p o : Int × Int} (h : 0 < distOf p o) : ∃ n ∈ nbrs p, distOf n o = distOf p o - 1 := by
  obtain ⟨⟨a1, a2⟩, ⟨b1, b2⟩, c1, c2⟩ := (dist_le p o (distOf p o)).mp (Int.le_refl _)
  have z : ¬ distOf p o ≤ 0 := by omega
  rw [dist_le] at z
  obtain ⟨d, hd⟩ : ∃ d, d = distOf p o := ⟨_, rfl⟩
  rw [← hd] at a1 a2 b1 b2 c1 c2 h
  have m : ∀ n, n ∈ nbrs p → distOf n o ≤ d - 1 → ∃ n ∈ nbrs p, distOf n o = distOf p o - 1 := fun n hn hl => ⟨n, hn, by
    have := dist_step o hn
    omega⟩
  have mm : ∀ s ∈ steps, (p.1 + s.1, p.2 + s.2) ∈ nbrs p := fun s hs => List.mem_map.mpr ⟨s, hs, rfl⟩
  by_cases hu : p.1 - o.1 = 0
  · by_cases hv : 0 < p.2 - o.2
    · refine m _ (mm (0, -1) (by decide)) ?_
      rw [dist_le]
      simp only
      omega
    · refine m _ (mm (0, 1) (by decide)) ?_
      rw [dist_le]
      simp only
      omega
  · by_cases hu2 : 0 < p.1 - o.1
    · by_cases hv : 0 ≤ p.2 - o.2
      · refine m _ (mm (-1, 0) (by decide)) ?_
        rw [dist_le]
        simp only
        omega
      · refine m _ (mm (-1, 1) (by decide)) ?_
        rw [dist_le]
        simp only
        omega
    · by_cases hv : p.2 - o.2 ≤ 0
      · refine m _ (mm (1, 0) (by decide)) ?_
        rw [dist_le]
        simp only
        omega
      · refine m _ (mm (1, -1) (by decide)) ?_
        rw [dist_le]
        simp only
        omega
theorem dist_near (p o : Int × Int) : ((nbrs p).any fun n => decide (distOf n o - distOf p o = -1)) = decide (distOf p o > 0) := by
  by_cases h : distOf p o > 0
  · rw [decide_eq_true h, List.any_eq_true]
    obtain ⟨n, hn, e⟩ := dist_down h
    exact ⟨n, hn, decide_eq_true (by omega)⟩
  · rw [decide_eq_false h, List.any_eq_false]
    intro n hn
    have := dist_nonneg n o
    simp only [decide_eq_true_eq]
    omega
theorem dist_walk {p n : Int × Int} (o : Int × Int) {k : Nat} (h : n ∈ nbrs p) (hk : distOf o p ≤ k) : distOf o n ≤ k + 1 := by
  have h1 := dist_step o h
  rw [dist_comm o n]
  rw [dist_comm o p] at hk
  omega
theorem getD_mem {α : Type} {l : List α} {i : Nat} {d : α} (h : i < l.length) : l.getD i d ∈ l := by
  rw [List.getD_eq_getElem?_getD, List.getElem?_eq_getElem h]
  exact List.getElem_mem h
theorem take_snoc {α : Type} {l : List α} {i : Nat} {x : α} (h : l[i]? = some x) : l.take (i + 1) = l.take i ++ [x] := by
  rw [List.take_add_one, h]
  rfl
end Hx
namespace Hx
theorem cutV_drop (fs : List Int) (i : Nat) : L2.cutV (fs.map L2.V.int) (some (i : Int)) none = (fs.drop i).map L2.V.int := by
  unfold L2.cutV
  rw [HT.sIx_nat, HT.sIx_none, List.length_map, List.map_drop]
  by_cases h : i ≤ fs.length
  · rw [Nat.min_eq_left h, List.take_of_length_le (by rw [List.length_drop, List.length_map]; exact Nat.le_refl _)]
  · rw [Nat.min_eq_right (by omega), List.drop_eq_nil_of_le (by rw [List.length_map]; exact Nat.le_refl _), List.drop_eq_nil_of_le (by rw [List.length_map]; omega), List.take_nil]
end Hx
namespace Hx
theorem cutV_mid (ns : List Int) (i j : Nat) : ∃ cs : List Int, L2.cutV (ns.map L2.V.int) (some (i : Int)) (some (j : Int)) = cs.map L2.V.int ∧ cs.length ≤ j - i ∧ cs = (ns.drop (min i ns.length)).take (min j ns.length - min i ns.length) := by
  refine ⟨_, ?_, ?_, rfl⟩
  · unfold L2.cutV
    rw [HT.sIx_nat, HT.sIx_nat, List.length_map, List.map_take, List.map_drop]
  · rw [List.length_take, List.length_drop]
    omega
end Hx
namespace Hx
theorem cutV_take (fs : List Int) (j : Nat) : L2.cutV (fs.map L2.V.int) none (some (j : Int)) = (fs.take j).map L2.V.int := by
  unfold L2.cutV
  rw [HT.sIx_nat, HT.sIx_none, List.length_map, Nat.sub_zero, List.drop_zero, List.map_take]
  by_cases h : j ≤ fs.length
  · rw [Nat.min_eq_left h]
  · rw [Nat.min_eq_right (by omega), List.take_of_length_le (by rw [List.length_map]; exact Nat.le_refl _), List.take_of_length_le (by rw [List.length_map]; omega)]
end Hx

/-! # rings: plain laws -/
namespace Hx
def sideOf (k : Nat) : Int := sides.getD k 0
def sideStep (k : Nat) : Int × Int := stepOf (sideOf k)
def corner (n : Int) : Nat → Int × Int
  | 0 => ((stepOf 1).1 * n, (stepOf 1).2 * n)
  | k + 1 => ((corner n k).1 + (sideStep k).1 * n, (corner n k).2 + (sideStep k).2 * n)
def ringAt (n a : Int) : Int × Int :=
  ((corner n (a / n).toNat).1 + (sideStep (a / n).toNat).1 * (a % n), (corner n (a / n).toNat).2 + (sideStep (a / n).toNat).2 * (a % n))
theorem side_range {k : Nat} (h : k < 6) : 1 ≤ sideOf k ∧ sideOf k ≤ 6 := by
  have : ∀ k, k < 6 → 1 ≤ sideOf k ∧ sideOf k ≤ 6 := by decide
  exact this k h
theorem step_small {d : Int} (h0 : 1 ≤ d) (h1 : d ≤ 6) : (-1 ≤ (stepOf d).1 ∧ (stepOf d).1 ≤ 1) ∧ (-1 ≤ (stepOf d).2 ∧ (stepOf d).2 ≤ 1) := by
  obtain rfl | rfl | rfl | rfl | rfl | rfl : d = 1 ∨ d = 2 ∨ d = 3 ∨ d = 4 ∨ d = 5 ∨ d = 6 := by omega
  all_goals decide
theorem corner_is (n : Int) : corner n 0 = (n, 0) ∧ corner n 1 = (0, n) ∧ corner n 2 = (-n, n) ∧ corner n 3 = (-n, 0) ∧ corner n 4 = (0, -n) ∧ corner n 5 = (n, -n) := by
  simp only [corner, sideStep, sideOf, sides, stepOf, steps, List.getD_cons_zero, List.getD_cons_succ, Prod.mk.injEq]
  refine ⟨?_, ?_, ?_, ?_, ?_, ?_⟩ <;> (simp; try omega)
theorem side_is : sideStep 0 = (-1, 1) ∧ sideStep 1 = (-1, 0) ∧ sideStep 2 = (0, -1) ∧ sideStep 3 = (1, -1) ∧ sideStep 4 = (1, 0) ∧ sideStep 5 = (0, 1) := by decide
theorem div_bounds {n a : Int} (hn : 1 ≤ n) (h0 : 0 ≤ a) (h6 : a < 6 * n) : 0 ≤ a / n ∧ a / n < 6 := by
  refine ⟨Int.ediv_nonneg h0 (by omega), Int.ediv_lt_of_lt_mul (by omega) (by omega)⟩
theorem ring_form {n a : Int} (hn : 1 ≤ n) (h0 : 0 ≤ a) (h6 : a < 6 * n) : ∃ j, 0 ≤ j ∧ j < n ∧ j = a % n ∧ ((a / n = 0 ∧ a = j ∧ ringAt n a = (n - j, j)) ∨ (a / n = 1 ∧ a = n + j ∧ ringAt n a = (-j, n)) ∨ (a / n = 2 ∧ a = 2 * n + j ∧ ringAt n a = (-n, n - j)) ∨
    (a / n = 3 ∧ a = 3 * n + j ∧ ringAt n a = (j - n, -j)) ∨ (a / n = 4 ∧ a = 4 * n + j ∧ ringAt n a = (j, -n)) ∨ (a / n = 5 ∧ a = 5 * n + j ∧ ringAt n a = (n, j - n))) := by
  have hd := div_bounds hn h0 h6
  have hm0 : 0 ≤ a % n := Int.emod_nonneg _ (by omega)
  have hm1 : a % n < n := Int.emod_lt_of_pos _ (by omega)
  have hs : n * (a / n) + a % n = a := Int.mul_ediv_add_emod a n
  obtain ⟨c0, c1, c2, c3, c4, c5⟩ := corner_is n
  obtain ⟨s0, s1, s2, s3, s4, s5⟩ := side_is
  refine ⟨a % n, hm0, hm1, rfl, ?_⟩
  unfold ringAt
  obtain h | h | h | h | h | h : a / n = 0 ∨ a / n = 1 ∨ a / n = 2 ∨ a / n = 3 ∨ a / n = 4 ∨ a / n = 5 := by omega
  · rw [h] at hs ⊢
    exact .inl ⟨rfl, by omega, by show ((corner n 0).1 + (sideStep 0).1 * _, (corner n 0).2 + (sideStep 0).2 * _) = _; rw [c0, s0]; simp only [Prod.mk.injEq]; omega⟩
  · rw [h] at hs ⊢
    exact .inr (.inl ⟨rfl, by omega, by show ((corner n 1).1 + (sideStep 1).1 * _, (corner n 1).2 + (sideStep 1).2 * _) = _; rw [c1, s1]; simp only [Prod.mk.injEq]; omega⟩)
  · rw [h] at hs ⊢
    exact .inr (.inr (.inl ⟨rfl, by omega, by show ((corner n 2).1 + (sideStep 2).1 * _, (corner n 2).2 + (sideStep 2).2 * _) = _; rw [c2, s2]; simp only [Prod.mk.injEq]; omega⟩))
  · rw [h] at hs ⊢
    exact .inr (.inr (.inr (.inl ⟨rfl, by omega, by show ((corner n 3).1 + (sideStep 3).1 * _, (corner n 3).2 + (sideStep 3).2 * _) = _; rw [c3, s3]; simp only [Prod.mk.injEq]; omega⟩)))
  · rw [h] at hs ⊢
    exact .inr (.inr (.inr (.inr (.inl ⟨rfl, by omega, by show ((corner n 4).1 + (sideStep 4).1 * _, (corner n 4).2 + (sideStep 4).2 * _) = _; rw [c4, s4]; simp only [Prod.mk.injEq]; omega⟩))))
  · rw [h] at hs ⊢
    exact .inr (.inr (.inr (.inr (.inr ⟨rfl, by omega, by show ((corner n 5).1 + (sideStep 5).1 * _, (corner n 5).2 + (sideStep 5).2 * _) = _; rw [c5, s5]; simp only [Prod.mk.injEq]; omega⟩))))
theorem ring_inj {n a b : Int} (hn : 1 ≤ n) (a0 : 0 ≤ a) (a6 : a < 6 * n) (b0 : 0 ≤ b) (b6 : b < 6 * n) (e : ringAt n a = ringAt n b) : a = b := by
  obtain ⟨i, i0, i1, _, ha⟩ := ring_form hn a0 a6
  obtain ⟨j, j0, j1, _, hb⟩ := ring_form hn b0 b6
  rcases ha with ⟨_, h1, h2⟩ | ⟨_, h1, h2⟩ | ⟨_, h1, h2⟩ | ⟨_, h1, h2⟩ | ⟨_, h1, h2⟩ | ⟨_, h1, h2⟩ <;> rw [h2] at e <;>
  rcases hb with ⟨_, h3, h4⟩ | ⟨_, h3, h4⟩ | ⟨_, h3, h4⟩ | ⟨_, h3, h4⟩ | ⟨_, h3, h4⟩ | ⟨_, h3, h4⟩ <;> rw [h4] at e <;> simp only [Prod.mk.injEq] at e <;> omega
def farOf (p : Int × Int) : Int := max (max (p.1.natAbs : Int) (p.2.natAbs : Int)) ((p.1 + p.2).natAbs : Int)
theorem ring_far {n a : Int} (hn : 1 ≤ n) (a0 : 0 ≤ a) (a6 : a < 6 * n) : farOf (ringAt n a) = n := by
  obtain ⟨i, i0, i1, _, ha⟩ := ring_form hn a0 a6
  unfold farOf
  rcases ha with ⟨_, h1, h2⟩ | ⟨_, h1, h2⟩ | ⟨_, h1, h2⟩ | ⟨_, h1, h2⟩ | ⟨_, h1, h2⟩ | ⟨_, h1, h2⟩ <;> rw [h2] <;> simp only <;> omega
/-- where the walk stands behind a steps: at the ring's end again at its first place -/
def hereAt (n a : Int) : Int × Int := if a = 6 * n then (n, 0) else ringAt n a
theorem ring_first {n : Int} (hn : 1 ≤ n) : ringAt n 0 = (n, 0) := by
  obtain ⟨i, i0, i1, _, ha⟩ := ring_form (a := 0) hn (by omega) (by omega)
  rcases ha with ⟨_, h1, h2⟩ | ⟨_, h1, h2⟩ | ⟨_, h1, h2⟩ | ⟨_, h1, h2⟩ | ⟨_, h1, h2⟩ | ⟨_, h1, h2⟩ <;> rw [h2] <;> simp only [Prod.mk.injEq] <;> omega
theorem ring_next {n a : Int} (hn : 1 ≤ n) (a0 : 0 ≤ a) (a6 : a < 6 * n) : hereAt n (a + 1) = ((ringAt n a).1 + (sideStep (a / n).toNat).1, (ringAt n a).2 + (sideStep (a / n).toNat).2) := by
  obtain ⟨s0, s1, s2, s3, s4, s5⟩ := side_is
  obtain ⟨i, i0, i1, _, ha⟩ := ring_form hn a0 a6
  unfold hereAt
  by_cases hl : a + 1 = 6 * n
  · rw [if_pos hl]
    rcases ha with ⟨d, h1, h2⟩ | ⟨d, h1, h2⟩ | ⟨d, h1, h2⟩ | ⟨d, h1, h2⟩ | ⟨d, h1, h2⟩ | ⟨d, h1, h2⟩
    all_goals rw [h2, d]
    · exfalso; omega
    · exfalso; omega
    · exfalso; omega
    · exfalso; omega
    · exfalso; omega
    · show _ = ((n : Int) + (sideStep 5).1, i - n + (sideStep 5).2)
      rw [s5]; simp only [Prod.mk.injEq]; omega
  · rw [if_neg hl]
    obtain ⟨j, j0, j1, _, hb⟩ := ring_form (a := a + 1) hn (by omega) (by omega)
    rcases ha with ⟨d, h1, h2⟩ | ⟨d, h1, h2⟩ | ⟨d, h1, h2⟩ | ⟨d, h1, h2⟩ | ⟨d, h1, h2⟩ | ⟨d, h1, h2⟩
    all_goals rw [h2, d]
    · show _ = (n - i + (sideStep 0).1, i + (sideStep 0).2)
      rw [s0]
      rcases hb with ⟨_, h3, h4⟩ | ⟨_, h3, h4⟩ | ⟨_, h3, h4⟩ | ⟨_, h3, h4⟩ | ⟨_, h3, h4⟩ | ⟨_, h3, h4⟩ <;> rw [h4] <;> simp only [Prod.mk.injEq] <;> omega
    · show _ = (-i + (sideStep 1).1, n + (sideStep 1).2)
      rw [s1]
      rcases hb with ⟨_, h3, h4⟩ | ⟨_, h3, h4⟩ | ⟨_, h3, h4⟩ | ⟨_, h3, h4⟩ | ⟨_, h3, h4⟩ | ⟨_, h3, h4⟩ <;> rw [h4] <;> simp only [Prod.mk.injEq] <;> omega
    · show _ = (-n + (sideStep 2).1, n - i + (sideStep 2).2)
      rw [s2]
      rcases hb with ⟨_, h3, h4⟩ | ⟨_, h3, h4⟩ | ⟨_, h3, h4⟩ | ⟨_, h3, h4⟩ | ⟨_, h3, h4⟩ | ⟨_, h3, h4⟩ <;> rw [h4] <;> simp only [Prod.mk.injEq] <;> omega
    · show _ = (i - n + (sideStep 3).1, -i + (sideStep 3).2)
      rw [s3]
      rcases hb with ⟨_, h3, h4⟩ | ⟨_, h3, h4⟩ | ⟨_, h3, h4⟩ | ⟨_, h3, h4⟩ | ⟨_, h3, h4⟩ | ⟨_, h3, h4⟩ <;> rw [h4] <;> simp only [Prod.mk.injEq] <;> omega
    · show _ = (i + (sideStep 4).1, -n + (sideStep 4).2)
      rw [s4]
      rcases hb with ⟨_, h3, h4⟩ | ⟨_, h3, h4⟩ | ⟨_, h3, h4⟩ | ⟨_, h3, h4⟩ | ⟨_, h3, h4⟩ | ⟨_, h3, h4⟩ <;> rw [h4] <;> simp only [Prod.mk.injEq] <;> omega
    · show _ = (n + (sideStep 5).1, i - n + (sideStep 5).2)
      rw [s5]
      rcases hb with ⟨_, h3, h4⟩ | ⟨_, h3, h4⟩ | ⟨_, h3, h4⟩ | ⟨_, h3, h4⟩ | ⟨_, h3, h4⟩ | ⟨_, h3, h4⟩ <;> rw [h4] <;> simp only [Prod.mk.injEq] <;> omega
def ringPl (n : Int) : List (Int × Int) := if n = 0 then [(0, 0)] else (List.range (6 * n).toNat).map fun (i : Nat) => ringAt n (i : Int)
theorem ringPl_len {n : Int} (h : 0 ≤ n) : ((ringPl n).length : Int) = max 1 (6 * n) := by
  unfold ringPl
  split
  · simp only [List.length_cons, List.length_nil]; omega
  · rw [List.length_map, List.length_range]; omega
def wayL : List (Int × Int) := [(-1, 1), (-1, 0), (0, -1), (1, -1), (1, 0), (0, 1)]
theorem way_is {k : Nat} (h : k < 6) : wayL.getD k (0, 0) = sideStep k := by
  have : ∀ k, k < 6 → wayL.getD k (0, 0) = sideStep k := by decide
  exact this k h
/-! ### the dict of what was seen -/
def kvT (ps : List (Int × Int)) : List (List L2.Key × L2.V) := ps.map fun p => (keyOf p, .bl true)
theorem keyOf_inj {p q : Int × Int} (h : keyOf p = keyOf q) : p = q := by
  obtain ⟨a, b⟩ := p
  obtain ⟨c, d⟩ := q
  simpa using h
theorem valV_kvT (ps : List (Int × Int)) (q : Int × Int) : (L2.valV (kvT ps) (keyOf q)).isSome = decide (q ∈ ps) := by
  rw [← L2.valV_any]
  unfold kvT
  rw [List.any_map, Bool.eq_iff_iff, List.any_eq_true, decide_eq_true_eq]
  constructor
  · rintro ⟨p, hp, e⟩
    have e2 : keyOf p = keyOf q := of_decide_eq_true e
    rw [← keyOf_inj e2]
    exact hp
  · intro h
    exact ⟨q, h, decide_eq_true rfl⟩
theorem putK_kvT {ps : List (Int × Int)} {q : Int × Int} (h : q ∉ ps) : L2.putK (kvT ps) (keyOf q) (.bl true) = kvT (ps ++ [q]) := by
  have h2 : L2.valV (kvT ps) (keyOf q) = none := by
    have := valV_kvT ps q
    rw [decide_eq_false h] at this
    exact Option.isNone_iff_eq_none.mp (by rw [← Option.not_isSome, this]; rfl)
  rw [L2.putK_new _ h2]
  unfold kvT
  rw [List.map_append]
  rfl
end Hx

/-! # sevens and addresses: plain laws -/
namespace Hx
def nrm (p : Int × Int) : Int := p.1 * p.1 + p.1 * p.2 + p.2 * p.2
def step7 (p : Int × Int) (f : Int) : Int × Int := ((greatOf p).1 + (restPlace f).1, (greatOf p).2 + (restPlace f).2)
def placeOf (fs : List Int) : Int × Int := fs.foldl step7 (0, 0)
def Figs (fs : List Int) : Prop := ∀ f ∈ fs, 0 ≤ f ∧ f ≤ 6
def bareL (fs : List Int) : List Int := fs.dropWhile fun f => decide (f = 0)
theorem sq_nonneg (x : Int) : 0 ≤ x * x := by
  rcases Int.le_total 0 x with h | h
  · exact Int.mul_nonneg h h
  · exact Int.mul_nonneg_of_nonpos_of_nonpos h h
theorem nrm_nonneg (p : Int × Int) : 0 ≤ nrm p := by
  have h1 := sq_nonneg (2 * p.1 + p.2)
  have h2 := sq_nonneg p.2
  have e : 4 * nrm p = (2 * p.1 + p.2) * (2 * p.1 + p.2) + 3 * (p.2 * p.2) := by unfold nrm; grind
  omega
theorem sq_zero {x : Int} (h : x * x = 0) : x = 0 := by
  rcases Int.mul_eq_zero.mp h with h | h <;> exact h
theorem nrm_zero {p : Int × Int} (h : nrm p = 0) : p = (0, 0) := by
  have h1 := sq_nonneg (2 * p.1 + p.2)
  have h2 := sq_nonneg p.2
  have e : 4 * nrm p = (2 * p.1 + p.2) * (2 * p.1 + p.2) + 3 * (p.2 * p.2) := by unfold nrm; grind
  have z2 : p.2 = 0 := sq_zero (by omega)
  have z1 : 2 * p.1 + p.2 = 0 := sq_zero (by omega)
  obtain ⟨a, b⟩ := p
  simp only at z1 z2
  simp only [Prod.mk.injEq]
  omega
theorem nrm_great (p : Int × Int) : nrm (greatOf p) = 7 * nrm p := by
  unfold nrm greatOf
  grind
theorem nrm_rest {f : Int} (h0 : 0 ≤ f) (h1 : f ≤ 6) : 0 ≤ nrm (restPlace f) ∧ nrm (restPlace f) ≤ 1 := by
  obtain rfl | rfl | rfl | rfl | rfl | rfl | rfl := fig_cases h0 h1 <;> decide
theorem nrm_centre (p : Int × Int) : 7 * nrm (centreOf p) = nrm (p.1 - (restPlace (restOf p)).1, p.2 - (restPlace (restOf p)).2) := by
  rw [← great_centre, nrm_great]
theorem nrm_less {p : Int × Int} (h : p ≠ (0, 0)) : nrm (centreOf p) < nrm p := by
  have h1 := nrm_nonneg p
  have h2 : nrm p ≠ 0 := fun z => h (nrm_zero z)
  have h3 := nrm_rest (rest_range p).1 (rest_range p).2
  have h4 := nrm_centre p
  have h5 := nrm_nonneg (p.1 + (restPlace (restOf p)).1, p.2 + (restPlace (restOf p)).2)
  have e : nrm (p.1 - (restPlace (restOf p)).1, p.2 - (restPlace (restOf p)).2) + nrm (p.1 + (restPlace (restOf p)).1, p.2 + (restPlace (restOf p)).2) = 2 * nrm p + 2 * nrm (restPlace (restOf p)) := by
    unfold nrm
    grind
  omega
/-- the address -/
def lowF : Nat → Int × Int → List Int
  | 0, _ => []
  | n + 1, p => if p = (0, 0) then [] else restOf p :: lowF n (centreOf p)
def addrOf (p : Int × Int) : List Int := (lowF (nrm p).toNat p).reverse
theorem lowF_more : ∀ (n m : Nat) (p : Int × Int), (nrm p).toNat ≤ n → (nrm p).toNat ≤ m → lowF n p = lowF m p
  | 0, 0, _, _, _ => rfl
  | 0, m + 1, p, h, _ => by
    have z : p = (0, 0) := nrm_zero (by have := nrm_nonneg p; omega)
    show [] = if p = (0, 0) then [] else restOf p :: lowF m (centreOf p)
    rw [if_pos z]
  | n + 1, 0, p, _, h => by
    have z : p = (0, 0) := nrm_zero (by have := nrm_nonneg p; omega)
    show (if p = (0, 0) then [] else restOf p :: lowF n (centreOf p)) = []
    rw [if_pos z]
  | n + 1, m + 1, p, h, h2 => by
    show (if p = (0, 0) then [] else restOf p :: lowF n (centreOf p)) = if p = (0, 0) then [] else restOf p :: lowF m (centreOf p)
    by_cases z : p = (0, 0)
    · rw [if_pos z, if_pos z]
    · rw [if_neg z, if_neg z, lowF_more n m]
      · have := nrm_less z; have := nrm_nonneg (centreOf p); omega
      · have := nrm_less z; have := nrm_nonneg (centreOf p); omega
theorem addr_zero : addrOf (0, 0) = [] := rfl
theorem addr_step {p : Int × Int} (h : p ≠ (0, 0)) : addrOf p = addrOf (centreOf p) ++ [restOf p] := by
  have l := nrm_less h
  have l0 := nrm_nonneg (centreOf p)
  unfold addrOf
  rw [← List.reverse_cons]
  obtain ⟨k, hk⟩ : ∃ k, (nrm p).toNat = k + 1 := ⟨(nrm p).toNat - 1, by omega⟩
  rw [hk]
  show (if p = (0, 0) then [] else restOf p :: lowF k (centreOf p)).reverse = _
  rw [if_neg h, lowF_more k (nrm (centreOf p)).toNat _ (by omega) (Nat.le_refl _)]
theorem placeOf_snoc (fs : List Int) (f : Int) : placeOf (fs ++ [f]) = step7 (placeOf fs) f := by
  unfold placeOf
  rw [List.foldl_append]
  rfl
theorem step7_centre (p : Int × Int) : step7 (centreOf p) (restOf p) = p := by
  unfold step7
  rw [great_centre]
  obtain ⟨a, b⟩ := p
  simp only [Prod.mk.injEq]
  omega
theorem step7_back {p : Int × Int} {f : Int} (h0 : 0 ≤ f) (h1 : f ≤ 6) : restOf (step7 p f) = f ∧ centreOf (step7 p f) = p := by
  have key : restOf (step7 p f) = f := by
    obtain ⟨a, b⟩ := p
    obtain ⟨r, hr⟩ : ∃ r, r = restOf (step7 (a, b) f) := ⟨_, rfl⟩
    rw [← hr]
    have e1 : (step7 (a, b) f).1 = 2 * a - b + (restPlace f).1 := rfl
    have e2 : (step7 (a, b) f).2 = a + 3 * b + (restPlace f).2 := rfl
    obtain rfl | rfl | rfl | rfl | rfl | rfl | rfl := fig_cases h0 h1 <;> simp only [restPlace, stepOf, steps] at e1 e2 <;> simp at e1 e2 <;>
    rcases rest_cases (step7 (a, b) _) with ⟨h, e, _⟩ | ⟨h, e, _⟩ | ⟨h, e, _⟩ | ⟨h, e, _⟩ | ⟨h, e, _⟩ | ⟨h, e, _⟩ | ⟨h, e, _⟩ <;> rw [e] at hr <;> rw [e1, e2] at h <;> omega
  refine ⟨key, ?_⟩
  unfold centreOf
  rw [key]
  obtain ⟨a, b⟩ := p
  simp only [step7, greatOf, Prod.mk.injEq]
  omega
theorem step7_zero {p : Int × Int} {f : Int} (h0 : 0 ≤ f) (h1 : f ≤ 6) : step7 p f = (0, 0) ↔ p = (0, 0) ∧ f = 0 := by
  constructor
  · intro e
    obtain ⟨a, b⟩ := step7_back (p := p) h0 h1
    rw [e] at a b
    exact ⟨b.symm, a.symm⟩
  · rintro ⟨rfl, rfl⟩
    rfl
theorem figs_snoc {fs : List Int} {f : Int} (h : Figs (fs ++ [f])) : Figs fs ∧ 0 ≤ f ∧ f ≤ 6 := ⟨fun x hx => h x (List.mem_append_left _ hx), h f (by simp)⟩
theorem figs_app {fs gs : List Int} (h : Figs fs) (g : Figs gs) : Figs (fs ++ gs) := fun x hx => (List.mem_append.mp hx).elim (h x) (g x)
theorem figs_one {f : Int} (h0 : 0 ≤ f) (h1 : f ≤ 6) : Figs [f] := fun x hx => by
  rw [List.mem_singleton] at hx
  subst hx
  exact ⟨h0, h1⟩
theorem bareL_snoc (fs : List Int) (f : Int) : bareL (fs ++ [f]) = if bareL fs = [] then (if f = 0 then [] else [f]) else bareL fs ++ [f] := by
  unfold bareL
  induction fs with
  | nil => by_cases h : f = 0 <;> simp [h]
  | cons x r ih =>
    by_cases h : x = 0
    · subst h
      simpa using ih
    · simp [h]
/-- an address is without noughts ahead, and it is the only such list of its place -/
theorem addr_of : ∀ (n : Nat) (fs : List Int), fs.length = n → Figs fs → addrOf (placeOf fs) = bareL fs
  | 0, fs, h, _ => by
    rw [List.length_eq_zero_iff.mp h]
    rfl
  | n + 1, fs, h, g => by
    obtain ⟨r, f, rfl⟩ : ∃ r f, fs = r ++ [f] := ⟨fs.dropLast, fs.getLast (by intro z; rw [z] at h; cases h), (List.dropLast_concat_getLast _).symm⟩
    obtain ⟨gr, f0, f1⟩ := figs_snoc g
    have ih := addr_of n r (by rw [List.length_append] at h; simpa using h) gr
    rw [placeOf_snoc, bareL_snoc]
    by_cases z : step7 (placeOf r) f = (0, 0)
    · obtain ⟨a, b⟩ := (step7_zero f0 f1).mp z
      rw [z, addr_zero]
      rw [a, addr_zero] at ih
      rw [if_pos ih.symm, if_pos b]
    · rw [addr_step z, (step7_back f0 f1).1, (step7_back f0 f1).2, ih]
      by_cases e : bareL r = []
      · have pz : placeOf r = (0, 0) := by
          rw [e] at ih
          by_cases hz : placeOf r = (0, 0)
          · exact hz
          · rw [addr_step hz] at ih
            simp at ih
        have fz : f ≠ 0 := fun w => z ((step7_zero f0 f1).mpr ⟨pz, w⟩)
        rw [if_pos e, if_neg fz, e]
        rfl
      · rw [if_neg e]
theorem addr_place (fs : List Int) (h : Figs fs) : addrOf (placeOf fs) = bareL fs := addr_of _ fs rfl h
theorem addr_back : ∀ (n : Nat) (p : Int × Int), (nrm p).toNat ≤ n → placeOf (addrOf p) = p ∧ Figs (addrOf p)
  | 0, p, h => by
    have z : p = (0, 0) := nrm_zero (by have := nrm_nonneg p; omega)
    subst z
    exact ⟨rfl, fun x hx => by rw [addr_zero] at hx; cases hx⟩
  | n + 1, p, h => by
    by_cases z : p = (0, 0)
    · subst z
      exact ⟨rfl, fun x hx => by rw [addr_zero] at hx; cases hx⟩
    · have l := nrm_less z
      have l0 := nrm_nonneg (centreOf p)
      obtain ⟨i1, i2⟩ := addr_back n (centreOf p) (by omega)
      rw [addr_step z, placeOf_snoc, i1, step7_centre]
      exact ⟨rfl, figs_app i2 (figs_one (rest_range p).1 (rest_range p).2)⟩
theorem place_addr (p : Int × Int) : placeOf (addrOf p) = p := (addr_back _ p (Nat.le_refl _)).1
theorem figs_addr (p : Int × Int) : Figs (addrOf p) := (addr_back _ p (Nat.le_refl _)).2
theorem bare_addr (p : Int × Int) : bareL (addrOf p) = addrOf p := by
  have := addr_place (addrOf p) (figs_addr p)
  rw [place_addr] at this
  exact this.symm
theorem bareL_len (fs : List Int) : (bareL fs).length ≤ fs.length := by
  unfold bareL
  exact (List.dropWhile_sublist _).length_le
theorem place_bare (fs : List Int) : placeOf (bareL fs) = placeOf fs := by
  unfold bareL
  induction fs with
  | nil => rfl
  | cons x r ih =>
    by_cases h : x = 0
    · subst h
      have e : placeOf (0 :: r) = placeOf r := rfl
      rw [e, ← ih]
      simp
    · simp [h]
theorem figs_bare {fs : List Int} (h : Figs fs) : Figs (bareL fs) := fun x hx => h x ((List.dropWhile_sublist _).subset hx)
theorem bare_bare (fs : List Int) : bareL (bareL fs) = bareL fs := by
  unfold bareL
  induction fs with
  | nil => rfl
  | cons x r ih =>
    by_cases h : x = 0
    · subst h
      simpa using ih
    · simp [h]
theorem place_noughts (n : Nat) (fs : List Int) : placeOf (List.replicate n 0 ++ fs) = placeOf fs := by
  induction n with
  | zero => rfl
  | succ n ih =>
    rw [List.replicate_succ, List.cons_append]
    exact ih
theorem figs_noughts (n : Nat) {fs : List Int} (h : Figs fs) : Figs (List.replicate n 0 ++ fs) := figs_app (fun x hx => by
  rw [(List.mem_replicate.mp hx).2]
  omega) h
theorem figs_mod7 (cs : List Int) : Figs (cs.map (· % 7)) := fun f hf => by
  obtain ⟨c, _, rfl⟩ := List.mem_map.mp hf
  omega
theorem figs_getD {fs : List Int} (h : Figs fs) (i : Nat) : 0 ≤ fs.getD i 0 ∧ fs.getD i 0 ≤ 6 := by
  rw [List.getD_eq_getElem?_getD]
  cases e : fs[i]? with
  | none => decide
  | some f => exact h f (List.mem_of_getElem? e)
/-! ### how long an address is -/
/-- times a million: a place no further than so has an address of at most so many figures -/
def reach : Nat → Int
  | 0 => 999999
  | n + 1 => 2645751 * reach n / 1000000 - 1000000
theorem reach_pos : ∀ n, 999999 ≤ reach n
  | 0 => by decide
  | n + 1 => by
    have := reach_pos n
    show 999999 ≤ 2645751 * reach n / 1000000 - 1000000
    omega
theorem cauchy (p s : Int × Int) : (nrm (p.1 - s.1, p.2 - s.2) - nrm p - nrm s) * (nrm (p.1 - s.1, p.2 - s.2) - nrm p - nrm s) ≤ 4 * (nrm p * nrm s) := by
  have e : 4 * (nrm p * nrm s) - (nrm (p.1 - s.1, p.2 - s.2) - nrm p - nrm s) * (nrm (p.1 - s.1, p.2 - s.2) - nrm p - nrm s) = 3 * ((p.1 * s.2 - p.2 * s.1) * (p.1 * s.2 - p.2 * s.1)) := by
    unfold nrm
    grind
  have := sq_nonneg (p.1 * s.2 - p.2 * s.1)
  omega
theorem sq_le {x y : Int} (h0 : 0 ≤ x) (h : x ≤ y) : x * x ≤ y * y := Int.mul_le_mul h h h0 (by omega)
theorem reach_step {p : Int × Int} {n : Nat} (h : nrm p * 1000000000000 ≤ reach (n + 1) * reach (n + 1)) : nrm (centreOf p) * 1000000000000 ≤ reach n * reach n := by
  obtain ⟨s, hs⟩ : ∃ s, s = restPlace (restOf p) := ⟨_, rfl⟩
  have hn := nrm_rest (rest_range p).1 (rest_range p).2
  have hc := nrm_centre p
  rw [← hs] at hn hc
  have hb := cauchy p s
  obtain ⟨Y, hY⟩ : ∃ Y, Y = nrm (p.1 - s.1, p.2 - s.2) := ⟨_, rfl⟩
  obtain ⟨X, hX⟩ : ∃ X, X = nrm p := ⟨_, rfl⟩
  obtain ⟨u, hu⟩ : ∃ u, u = nrm s := ⟨_, rfl⟩
  obtain ⟨A, hA⟩ : ∃ A, A = reach (n + 1) := ⟨_, rfl⟩
  have hX0 : 0 ≤ X := by rw [hX]; exact nrm_nonneg p
  have hp := reach_pos (n + 1)
  rw [← hA] at h hp
  rw [← hY] at hc hb
  rw [← hX] at h hb
  rw [← hu] at hn hb
  have hb2 : (Y - X - u) * (Y - X - u) ≤ 4 * X := by
    have h1 : X * u ≤ X * 1 := Int.mul_le_mul_of_nonneg_left hn.2 hX0
    omega
  -- Y times 10^12 is at most (A + 10^6)^2
  have hY2 : Y * 1000000000000 ≤ (A + 1000000) * (A + 1000000) := by
    by_cases g : (Y - X - u) * 1000000 ≤ 2 * A
    · have e : (A + 1000000) * (A + 1000000) = A * A + 2000000 * A + 1000000000000 := by grind
      omega
    · have g2 : 2 * A + 1 ≤ (Y - X - u) * 1000000 := by omega
      have g3 := sq_le (show 0 ≤ 2 * A + 1 by omega) g2
      have e1 : (2 * A + 1) * (2 * A + 1) = 4 * (A * A) + 4 * A + 1 := by grind
      have e2 : (Y - X - u) * 1000000 * ((Y - X - u) * 1000000) = (Y - X - u) * (Y - X - u) * 1000000000000 := by grind
      omega
  have hl : A + 1000000 ≤ 2645751 * reach n / 1000000 := by
    rw [hA]
    show 2645751 * reach n / 1000000 - 1000000 + 1000000 ≤ _
    omega
  have hr := reach_pos n
  have hl2 : (A + 1000000) * 1000000 ≤ 2645751 * reach n := by omega
  have hl3 := sq_le (show 0 ≤ (A + 1000000) * 1000000 by omega) hl2
  have e3 : (A + 1000000) * 1000000 * ((A + 1000000) * 1000000) = (A + 1000000) * (A + 1000000) * 1000000000000 := by grind
  have e4 : 2645751 * reach n * (2645751 * reach n) = 6999998354001 * (reach n * reach n) := by grind
  have h0 := sq_nonneg (reach n)
  omega
theorem addr_short : ∀ (n : Nat) (p : Int × Int), nrm p * 1000000000000 ≤ reach n * reach n → (addrOf p).length ≤ n
  | 0, p, h => by
    have z : p = (0, 0) := nrm_zero (by
      have := nrm_nonneg p
      have e : reach 0 * reach 0 = 999998000001 := by decide
      omega)
    subst z
    exact Nat.le_refl _
  | n + 1, p, h => by
    by_cases z : p = (0, 0)
    · subst z
      exact Nat.zero_le _
    · have ih := addr_short n (centreOf p) (reach_step h)
      rw [addr_step z, List.length_append]
      show (addrOf (centreOf p)).length + 1 ≤ n + 1
      omega
/-- the drawn numbers have at most 39 figures -/
theorem numBy_range (c : Int) : -(10 ^ (39 : Int).toNat) ≤ numBy c ∧ numBy c ≤ 10 ^ (39 : Int).toNat := by
  unfold numBy
  have e : (10 : Int) ^ (39 : Int).toNat = 1000000000000000000000000000000000000000 := by decide
  rw [e]
  split <;> omega
theorem nrm_numBy (c d : Int) : nrm (numBy c, numBy d) ≤ 3000000000000000000000000000000000000000000000000000000000000000000000000000000 := by
  have e : (10 : Int) ^ (39 : Int).toNat = 1000000000000000000000000000000000000000 := by decide
  have h1 := numBy_range c
  have h2 := numBy_range d
  rw [e] at h1 h2
  obtain ⟨x, hx⟩ : ∃ x, x = numBy c := ⟨_, rfl⟩
  obtain ⟨y, hy⟩ : ∃ y, y = numBy d := ⟨_, rfl⟩
  rw [← hx] at h1 ⊢
  rw [← hy] at h2 ⊢
  have a := sq_le (x := x.natAbs) (y := 1000000000000000000000000000000000000000) (by omega) (by omega)
  have b := sq_le (x := y.natAbs) (y := 1000000000000000000000000000000000000000) (by omega) (by omega)
  have c1 : (x.natAbs : Int) * x.natAbs = x * x := Int.natAbs_mul_self
  have c2 : (y.natAbs : Int) * y.natAbs = y * y := Int.natAbs_mul_self
  have d0 := sq_nonneg (x - y)
  have e2 : (x - y) * (x - y) = x * x - 2 * (x * y) + y * y := by grind
  show x * x + x * y + y * y ≤ _
  omega
theorem addr_numBy (c d : Int) : (addrOf (numBy c, numBy d)).length ≤ 100 := by
  refine addr_short 100 _ ?_
  have h := nrm_numBy c d
  have e : (3000000000000000000000000000000000000000000000000000000000000000000000000000000 : Int) * 1000000000000 ≤ reach 100 * reach 100 := by decide +kernel
  omega
end Hx

/-! # the sum of two figures: plain laws -/
namespace Hx
def sumPl (p q : Int × Int) : Int × Int := (p.1 + q.1, p.2 + q.2)
def pairRow (a b : Int) : List Int := 0 :: 0 :: addrOf (sumPl (restPlace a) (restPlace b))
def pairSum (a b : Int) : Int × Int := ((pairRow a b).getD ((pairRow a b).length - 2) 0, (pairRow a b).getD ((pairRow a b).length - 1) 0)
theorem pair_all : ∀ a b : Fin 7, (0 ≤ (pairSum a.val b.val).1 ∧ (pairSum a.val b.val).1 ≤ 6) ∧ (0 ≤ (pairSum a.val b.val).2 ∧ (pairSum a.val b.val).2 ≤ 6) ∧ step7 (restPlace (pairSum a.val b.val).1) (pairSum a.val b.val).2 = sumPl (restPlace a.val) (restPlace b.val) ∧
    pairSum b.val a.val = pairSum a.val b.val ∧ (addrOf (sumPl (restPlace a.val) (restPlace b.val))).length ≤ 2 := by decide +kernel
theorem pair_facts {a b : Int} (a0 : 0 ≤ a) (a1 : a ≤ 6) (b0 : 0 ≤ b) (b1 : b ≤ 6) : (0 ≤ (pairSum a b).1 ∧ (pairSum a b).1 ≤ 6) ∧ (0 ≤ (pairSum a b).2 ∧ (pairSum a b).2 ≤ 6) ∧ step7 (restPlace (pairSum a b).1) (pairSum a b).2 = sumPl (restPlace a) (restPlace b) ∧
    pairSum b a = pairSum a b ∧ (addrOf (sumPl (restPlace a) (restPlace b))).length ≤ 2 := by
  have h := pair_all ⟨a.toNat, by omega⟩ ⟨b.toNat, by omega⟩
  simp only [Int.toNat_of_nonneg a0, Int.toNat_of_nonneg b0] at h
  exact h
theorem pair_zero : pairSum 0 0 = (0, 0) := by decide
theorem place_two (c l : Int) : placeOf [c, l] = step7 (restPlace c) l := by
  show step7 (step7 (0, 0) c) l = _
  have e : step7 (0, 0) c = restPlace c := by
    unfold step7 greatOf
    obtain ⟨x, y⟩ := restPlace c
    simp
  rw [e]
end Hx

/-! # addresses turned: plain laws -/
namespace Hx
def turnF (s f : Int) : Int := if f = 0 then 0 else (f - 1 + s) % 6 + 1
theorem turnN_add2 (n : Nat) (p q : Int × Int) : turnN n (sumPl p q) = sumPl (turnN n p) (turnN n q) := by
  induction n with
  | zero => rfl
  | succ n ih =>
    show turn1 (turnN n (sumPl p q)) = sumPl (turn1 (turnN n p)) (turn1 (turnN n q))
    rw [ih]
    simp only [turn1, sumPl, Prod.mk.injEq]
    omega
theorem turnN_great (n : Nat) (p : Int × Int) : turnN n (greatOf p) = greatOf (turnN n p) := by
  induction n with
  | zero => rfl
  | succ n ih =>
    show turn1 (turnN n (greatOf p)) = greatOf (turn1 (turnN n p))
    rw [ih]
    simp only [turn1, greatOf, Prod.mk.injEq]
    omega
theorem step7_sum (p : Int × Int) (f : Int) : step7 p f = sumPl (greatOf p) (restPlace f) := rfl
theorem turnF_all : ∀ f : Fin 7, ∀ s : Fin 6, restPlace (turnF s.val f.val) = turnN s.val (restPlace f.val) ∧ (0 ≤ turnF s.val f.val ∧ turnF s.val f.val ≤ 6) := by decide +kernel
theorem turnF_mod (s f : Int) : turnF s f = turnF (s % 6) f := by
  unfold turnF
  split
  · rfl
  · omega
theorem turnF_facts (s : Int) {f : Int} (h0 : 0 ≤ f) (h1 : f ≤ 6) : restPlace (turnF s f) = turnN (s % 6).toNat (restPlace f) ∧ (0 ≤ turnF s f ∧ turnF s f ≤ 6) := by
  have h := turnF_all ⟨f.toNat, by omega⟩ ⟨(s % 6).toNat, by omega⟩
  simp only [Int.toNat_of_nonneg h0, Int.toNat_of_nonneg (show 0 ≤ s % 6 by omega)] at h
  rw [turnF_mod]
  exact h
theorem figs_turned (s : Int) {fs : List Int} (h : Figs fs) : Figs (fs.map (turnF s)) := fun x hx => by
  obtain ⟨f, hf, rfl⟩ := List.mem_map.mp hx
  exact (turnF_facts s (h f hf).1 (h f hf).2).2
theorem place_turned (s : Int) : ∀ (n : Nat) (fs : List Int), fs.length = n → Figs fs → placeOf (fs.map (turnF s)) = turnN (s % 6).toNat (placeOf fs)
  | 0, fs, h, _ => by
    rw [List.length_eq_zero_iff.mp h]
    have e : ∀ k, turnN k (0, 0) = (0, 0) := fun k => by
      induction k with
      | zero => rfl
      | succ k ih =>
        show turn1 (turnN k (0, 0)) = (0, 0)
        rw [ih]
        rfl
    exact (e _).symm
  | n + 1, fs, h, g => by
    obtain ⟨r, f, rfl⟩ : ∃ r f, fs = r ++ [f] := ⟨fs.dropLast, fs.getLast (by intro z; rw [z] at h; cases h), (List.dropLast_concat_getLast _).symm⟩
    obtain ⟨gr, f0, f1⟩ := figs_snoc g
    have ih := place_turned s n r (by rw [List.length_append] at h; simpa using h) gr
    rw [List.map_append, List.map_cons, List.map_nil, placeOf_snoc, placeOf_snoc, ih, step7_sum, step7_sum, turnN_add2, turnN_great, (turnF_facts s f0 f1).1]
theorem place_great (fs : List Int) : placeOf (fs ++ [0]) = greatOf (placeOf fs) := by
  rw [placeOf_snoc, step7_sum]
  show sumPl _ (0, 0) = _
  unfold sumPl
  simp
end Hx

/-! # sums by columns: plain laws -/
namespace Hx
theorem sumPl_comm (p q : Int × Int) : sumPl p q = sumPl q p := by
  simp only [sumPl, Prod.mk.injEq]
  omega
theorem sumPl_assoc (p q r : Int × Int) : sumPl (sumPl p q) r = sumPl p (sumPl q r) := by
  simp only [sumPl, Prod.mk.injEq]
  omega
theorem sumPl_zero (p : Int × Int) : sumPl p (0, 0) = p := by
  obtain ⟨a, b⟩ := p
  simp [sumPl]
theorem zero_sumPl (p : Int × Int) : sumPl (0, 0) p = p := by
  obtain ⟨a, b⟩ := p
  simp [sumPl]
theorem great_sum (p q : Int × Int) : greatOf (sumPl p q) = sumPl (greatOf p) (greatOf q) := by
  simp only [greatOf, sumPl, Prod.mk.injEq]
  omega
theorem great_zero : greatOf (0, 0) = (0, 0) := rfl
/-- the sum of the rests of some figures -/
def sumR : List Int → Int × Int
  | [] => (0, 0)
  | f :: r => sumPl (restPlace f) (sumR r)
theorem sumR_app (fs gs : List Int) : sumR (fs ++ gs) = sumPl (sumR fs) (sumR gs) := by
  induction fs with
  | nil => exact (zero_sumPl _).symm
  | cons f r ih =>
    show sumPl (restPlace f) (sumR (r ++ gs)) = sumPl (sumPl (restPlace f) (sumR r)) (sumR gs)
    rw [ih, sumPl_assoc]
theorem sumR_one (f : Int) : sumR [f] = restPlace f := sumPl_zero _
def colStep (st : Int × List Int) (f : Int) : Int × List Int := ((pairSum st.1 f).2, if (pairSum st.1 f).1 = 0 then st.2 else st.2 ++ [(pairSum st.1 f).1])
def colOf (fs : List Int) : Int × List Int := fs.foldl colStep (0, [])
theorem colOf_snoc (fs : List Int) (f : Int) : colOf (fs ++ [f]) = colStep (colOf fs) f := by
  unfold colOf
  rw [List.foldl_append]
  rfl
theorem pair_nought : ∀ f : Fin 7, (pairSum 0 f.val).1 = 0 := by decide +kernel
theorem col_facts : ∀ (n : Nat) (fs : List Int), fs.length = n → Figs fs → (0 ≤ (colOf fs).1 ∧ (colOf fs).1 ≤ 6) ∧ Figs (colOf fs).2 ∧ sumR fs = sumPl (restPlace (colOf fs).1) (greatOf (sumR (colOf fs).2)) ∧ (colOf fs).2.length + 1 ≤ max 1 fs.length
  | 0, fs, h, _ => by
    rw [List.length_eq_zero_iff.mp h]
    exact ⟨by decide, (by intro x hx; cases hx), by decide, by decide⟩
  | n + 1, fs, h, g => by
    obtain ⟨r, f, rfl⟩ : ∃ r f, fs = r ++ [f] := ⟨fs.dropLast, fs.getLast (by intro z; rw [z] at h; cases h), (List.dropLast_concat_getLast _).symm⟩
    obtain ⟨gr, f0, f1⟩ := figs_snoc g
    have hr : r.length = n := by rw [List.length_append] at h; simpa using h
    obtain ⟨⟨l0, l1⟩, hc, hs, hn⟩ := col_facts n r hr gr
    obtain ⟨⟨c0, c1⟩, ⟨m0, m1⟩, e, _, _⟩ := pair_facts l0 l1 f0 f1
    rw [colOf_snoc]
    refine ⟨⟨m0, m1⟩, ?_, ?_, ?_⟩
    · show Figs (if _ then _ else _)
      split
      · exact hc
      · exact figs_app hc (figs_one c0 c1)
    · rw [sumR_app, sumR_one, hs]
      have e2 : sumPl (restPlace (colOf r).1) (restPlace f) = sumPl (greatOf (restPlace (pairSum (colOf r).1 f).1)) (restPlace (pairSum (colOf r).1 f).2) := by rw [← e, step7_sum]
      have e3 : sumR (colStep (colOf r) f).2 = sumPl (sumR (colOf r).2) (restPlace (pairSum (colOf r).1 f).1) := by
        show sumR (if _ then _ else _) = _
        split
        · rename_i z
          rw [z]
          exact (sumPl_zero _).symm
        · rw [sumR_app, sumR_one]
      rw [e3, great_sum]
      show _ = sumPl (restPlace (pairSum (colOf r).1 f).2) _
      generalize greatOf (sumR (colOf r).2) = G at *
      generalize greatOf (restPlace (pairSum (colOf r).1 f).1) = P at *
      generalize restPlace (pairSum (colOf r).1 f).2 = L at *
      generalize restPlace (colOf r).1 = A at *
      generalize restPlace f = B at *
      simp only [sumPl, Prod.mk.injEq] at e2 ⊢
      omega
    · show (if _ then _ else _ : List Int).length + 1 ≤ _
      rw [List.length_append]
      by_cases z : r = []
      · subst z
        have h0 := pair_nought ⟨f.toNat, by omega⟩
        simp only [Int.toNat_of_nonneg f0] at h0
        have h1 : (pairSum (colOf []).1 f).1 = 0 := h0
        rw [if_pos h1]
        exact (by decide : 0 + 1 ≤ max 1 (0 + 1))
      · have hp : 0 < r.length := List.length_pos_iff.mpr z
        split
        · show _ ≤ max 1 (r.length + 1)
          omega
        · rw [List.length_append]
          show (colOf r).2.length + 1 + 1 ≤ max 1 (r.length + 1)
          omega
/-- a row's place, its lowest figure first -/
def vLow : List Int → Int × Int
  | [] => (0, 0)
  | f :: r => step7 (vLow r) f
theorem vLow_place (l : List Int) : vLow l = placeOf l.reverse := by
  induction l with
  | nil => rfl
  | cons f r ih =>
    rw [List.reverse_cons, placeOf_snoc, ← ih]
    rfl
def sumRows : List (List Int) → Int × Int
  | [] => (0, 0)
  | r :: rs => sumPl (vLow r) (sumRows rs)
def headsAt (rows : List (List Int)) (k : Nat) : List Int := rows.filterMap fun r => r[k]?
def dropsAt (rows : List (List Int)) (k : Nat) : List (List Int) := rows.map fun r => r.drop k
theorem rows_step (rows : List (List Int)) (k : Nat) : sumRows (dropsAt rows k) = sumPl (sumR (headsAt rows k)) (greatOf (sumRows (dropsAt rows (k + 1)))) := by
  induction rows with
  | nil => rfl
  | cons r rs ih =>
    show sumPl (vLow (r.drop k)) (sumRows (dropsAt rs k)) = sumPl (sumR (List.filterMap (fun r : List Int => r[k]?) (r :: rs))) (greatOf (sumPl (vLow (r.drop (k + 1))) (sumRows (dropsAt rs (k + 1)))))
    rw [ih, great_sum]
    by_cases h : k < r.length
    · have e : List.filterMap (fun r : List Int => r[k]?) (r :: rs) = r[k] :: headsAt rs k := by rw [List.filterMap_cons, List.getElem?_eq_getElem h]; rfl
      rw [e, List.drop_eq_getElem_cons h]
      show sumPl (sumPl (greatOf (vLow (r.drop (k + 1)))) (restPlace r[k])) _ = sumPl (sumPl (restPlace r[k]) (sumR (headsAt rs k))) _
      generalize greatOf (vLow (r.drop (k + 1))) = A
      generalize restPlace r[k] = B
      generalize sumR (headsAt rs k) = C
      generalize greatOf (sumRows (dropsAt rs (k + 1))) = D
      simp only [sumPl, Prod.mk.injEq]
      omega
    · have e : List.filterMap (fun r : List Int => r[k]?) (r :: rs) = headsAt rs k := by rw [List.filterMap_cons, List.getElem?_eq_none (by omega)]; rfl
      rw [e, List.drop_eq_nil_of_le (by omega), List.drop_eq_nil_of_le (by omega)]
      show sumPl (0, 0) _ = sumPl _ (sumPl (greatOf (0, 0)) _)
      rw [great_zero, zero_sumPl, zero_sumPl]
theorem rows_end {rows : List (List Int)} {k : Nat} (h : ∀ r ∈ rows, r.length ≤ k) : sumRows (dropsAt rows k) = (0, 0) := by
  induction rows with
  | nil => rfl
  | cons r rs ih =>
    show sumPl (vLow (r.drop k)) (sumRows (dropsAt rs k)) = _
    rw [List.drop_eq_nil_of_le (h r (by simp)), ih fun x hx => h x (by simp [hx])]
    rfl
theorem drops_zero (rows : List (List Int)) : dropsAt rows 0 = rows := by
  unfold dropsAt
  simp
/-- what stands in out, and the rest above it -/
def comb : List Int → Int × Int → Int × Int
  | [], p => p
  | o :: r, p => step7 (comb r p) o
theorem comb_snoc (out : List Int) (x : Int) (p : Int × Int) : comb (out ++ [x]) p = comb out (step7 p x) := by
  induction out with
  | nil => rfl
  | cons o r ih =>
    show step7 (comb (r ++ [x]) p) o = step7 (comb r (step7 p x)) o
    rw [ih]
theorem comb_zero (out : List Int) : comb out (0, 0) = vLow out := by
  induction out with
  | nil => rfl
  | cons o r ih =>
    show step7 (comb r (0, 0)) o = step7 (vLow r) o
    rw [ih]
theorem comb_step {out carried : List Int} {rows : List (List Int)} {k : Nat} (h : Figs (carried ++ headsAt rows k)) :
    comb (out ++ [(colOf (carried ++ headsAt rows k)).1]) (sumPl (sumR (colOf (carried ++ headsAt rows k)).2) (sumRows (dropsAt rows (k + 1)))) = comb out (sumPl (sumR carried) (sumRows (dropsAt rows k))) := by
  obtain ⟨_, _, hs, _⟩ := col_facts _ _ rfl h
  rw [comb_snoc, rows_step rows k, ← sumPl_assoc, ← sumR_app, hs, step7_sum, great_sum]
  congr 1
  generalize greatOf (sumR (colOf (carried ++ headsAt rows k)).2) = A
  generalize greatOf (sumRows (dropsAt rows (k + 1))) = B
  generalize restPlace (colOf (carried ++ headsAt rows k)).1 = C
  simp only [sumPl, Prod.mk.injEq]
  omega
theorem figs_heads {rows : List (List Int)} (h : ∀ r ∈ rows, Figs r) (k : Nat) : Figs (headsAt rows k) := fun f hf => by
  obtain ⟨r, hr, e⟩ := List.mem_filterMap.mp hf
  exact h r hr f (List.mem_of_getElem? e)
theorem heads_len (rows : List (List Int)) (k : Nat) : (headsAt rows k).length ≤ rows.length := List.length_filterMap_le _ _
theorem heads_none {rows : List (List Int)} {k : Nat} (h : ∀ r ∈ rows, r.length ≤ k) : headsAt rows k = [] := by
  unfold headsAt
  rw [List.filterMap_eq_nil_iff]
  intro r hr
  exact List.getElem?_eq_none (h r hr)
theorem heads_snoc {rows : List (List Int)} {i : Nat} {r : List Int} (k : Nat) (h : rows[i]? = some r) : headsAt (rows.take (i + 1)) k = headsAt (rows.take i) k ++ (match r[k]? with | some x => [x] | none => []) := by
  unfold headsAt
  rw [take_snoc h, List.filterMap_append]
  congr 1
  rw [List.filterMap_cons]
  cases r[k]? <;> rfl
end Hx

/-! # products: plain laws -/
namespace Hx
def mulPl (p q : Int × Int) : Int × Int := (p.1 * q.1 - p.2 * q.2, p.1 * q.2 + p.2 * q.1 + p.2 * q.2)
theorem mul_add (p q r : Int × Int) : mulPl p (sumPl q r) = sumPl (mulPl p q) (mulPl p r) := by
  simp only [mulPl, sumPl, Prod.mk.injEq]
  constructor <;> grind
theorem mul_great (p q : Int × Int) : mulPl p (greatOf q) = greatOf (mulPl p q) := by
  simp only [mulPl, greatOf, Prod.mk.injEq]
  constructor <;> grind
theorem mul_comm' (p q : Int × Int) : mulPl p q = mulPl q p := by
  simp only [mulPl, Prod.mk.injEq]
  constructor <;> grind
theorem mul_zero' (p : Int × Int) : mulPl p (0, 0) = (0, 0) := by
  simp [mulPl]
theorem mul_one' (p : Int × Int) : mulPl p (1, 0) = p := by
  obtain ⟨a, b⟩ := p
  simp [mulPl]
theorem mul_turn1 (p q : Int × Int) : mulPl p (turn1 q) = turn1 (mulPl p q) := by
  simp only [mulPl, turn1, Prod.mk.injEq]
  constructor <;> grind
theorem mul_turnN (n : Nat) (p q : Int × Int) : mulPl p (turnN n q) = turnN n (mulPl p q) := by
  induction n with
  | zero => rfl
  | succ n ih =>
    show mulPl p (turn1 (turnN n q)) = turn1 (turnN n (mulPl p q))
    rw [mul_turn1, ih]
theorem rest_turn : ∀ f : Fin 6, restPlace ((f.val : Int) + 1) = turnN f.val (1, 0) := by decide
theorem mul_rest (p : Int × Int) {f : Int} (h0 : f ≠ 0) (h1 : 0 ≤ f) (h2 : f ≤ 6) : mulPl p (restPlace f) = turnN (((f - 1) % 6).toNat) p := by
  have h := rest_turn ⟨(f - 1).toNat, by omega⟩
  simp only [Int.toNat_of_nonneg (show 0 ≤ f - 1 by omega)] at h
  rw [show f - 1 + 1 = f by omega] at h
  rw [h, mul_turnN, mul_one', show (f - 1) % 6 = f - 1 by omega]
def greatN : Nat → Int × Int → Int × Int
  | 0, p => p
  | n + 1, p => greatOf (greatN n p)
theorem greatN_in (n : Nat) (p : Int × Int) : greatN n (greatOf p) = greatOf (greatN n p) := by
  induction n with
  | zero => rfl
  | succ n ih =>
    show greatOf (greatN n (greatOf p)) = greatOf (greatOf (greatN n p))
    rw [ih]
theorem mul_greatN (n : Nat) (p q : Int × Int) : mulPl p (greatN n q) = greatN n (mulPl p q) := by
  induction n with
  | zero => rfl
  | succ n ih =>
    show mulPl p (greatOf (greatN n q)) = greatOf (greatN n (mulPl p q))
    rw [mul_great, ih]
theorem greatN_zero (n : Nat) : greatN n (0, 0) = (0, 0) := by
  induction n with
  | zero => rfl
  | succ n ih =>
    show greatOf (greatN n (0, 0)) = _
    rw [ih]
    rfl
theorem vLow_snoc (l : List Int) (f : Int) : vLow (l ++ [f]) = sumPl (vLow l) (greatN l.length (restPlace f)) := by
  induction l with
  | nil =>
    show step7 (0, 0) f = sumPl (0, 0) (restPlace f)
    rw [step7_sum, great_zero]
  | cons x r ih =>
    show step7 (vLow (r ++ [f])) x = sumPl (step7 (vLow r) x) (greatOf (greatN r.length (restPlace f)))
    rw [step7_sum, step7_sum, ih, great_sum]
    generalize greatOf (vLow r) = A
    generalize greatOf (greatN r.length (restPlace f)) = B
    generalize restPlace x = C
    simp only [sumPl, Prod.mk.injEq]
    omega
theorem vLow_zeros (k : Nat) (l : List Int) : vLow (List.replicate k 0 ++ l) = greatN k (vLow l) := by
  induction k with
  | zero => rfl
  | succ k ih =>
    rw [List.replicate_succ, List.cons_append]
    show step7 (vLow (List.replicate k 0 ++ l)) 0 = greatOf (greatN k (vLow l))
    rw [step7_sum, ih]
    exact sumPl_zero _
theorem vLow_turned (s : Int) (l : List Int) (h : Figs l) : vLow (l.map (turnF s)) = turnN (s % 6).toNat (vLow l) := by
  rw [vLow_place, vLow_place, ← List.map_reverse, place_turned s _ _ rfl fun x hx => h x (List.mem_reverse.mp hx)]
theorem sumRows_snoc (rows : List (List Int)) (r : List Int) : sumRows (rows ++ [r]) = sumPl (sumRows rows) (vLow r) := by
  induction rows with
  | nil =>
    show sumPl (vLow r) (0, 0) = sumPl (0, 0) (vLow r)
    rw [sumPl_zero, zero_sumPl]
  | cons x rs ih =>
    show sumPl (vLow x) (sumRows (rs ++ [r])) = sumPl (sumPl (vLow x) (sumRows rs)) (vLow r)
    rw [ih, sumPl_assoc]
theorem prod_step {A : List Int} {l : List Int} {f : Int} (hA : Figs A) (h0 : f ≠ 0) (h1 : 0 ≤ f) (h2 : f ≤ 6) : sumPl (mulPl (vLow A) (vLow l)) (vLow (List.replicate l.length 0 ++ A.map (turnF (f - 1)))) = mulPl (vLow A) (vLow (l ++ [f])) := by
  rw [vLow_snoc, mul_add, mul_greatN, mul_rest _ h0 h1 h2, vLow_zeros, vLow_turned _ _ hA]
theorem prod_nought {A : List Int} {l : List Int} : mulPl (vLow A) (vLow (l ++ [0])) = mulPl (vLow A) (vLow l) := by
  rw [vLow_snoc]
  show mulPl _ (sumPl _ (greatN _ (0, 0))) = _
  rw [greatN_zero, sumPl_zero]
/-- how great a place of so many figures is -/
theorem place_bound : ∀ (n : Nat) (fs : List Int), fs.length = n → Figs fs → (placeOf fs).1.natAbs < 2 ^ (3 * n + 1) ∧ (placeOf fs).2.natAbs < 2 ^ (3 * n + 1)
  | 0, fs, h, _ => by
    rw [List.length_eq_zero_iff.mp h]
    decide
  | n + 1, fs, h, g => by
    obtain ⟨r, f, rfl⟩ : ∃ r f, fs = r ++ [f] := ⟨fs.dropLast, fs.getLast (by intro z; rw [z] at h; cases h), (List.dropLast_concat_getLast _).symm⟩
    obtain ⟨gr, f0, f1⟩ := figs_snoc g
    obtain ⟨i1, i2⟩ := place_bound n r (by rw [List.length_append] at h; simpa using h) gr
    have hr : (-1 ≤ (restPlace f).1 ∧ (restPlace f).1 ≤ 1) ∧ (-1 ≤ (restPlace f).2 ∧ (restPlace f).2 ≤ 1) := by
      obtain rfl | rfl | rfl | rfl | rfl | rfl | rfl := fig_cases f0 f1 <;> decide
    rw [placeOf_snoc]
    have e1 : (step7 (placeOf r) f).1 = 2 * (placeOf r).1 - (placeOf r).2 + (restPlace f).1 := rfl
    have e2 : (step7 (placeOf r) f).2 = (placeOf r).1 + 3 * (placeOf r).2 + (restPlace f).2 := rfl
    have e3 : 2 ^ (3 * (n + 1) + 1) = 8 * 2 ^ (3 * n + 1) := by
      rw [show 3 * (n + 1) + 1 = (3 * n + 1) + 3 by omega, Nat.pow_add]
      omega
    have e4 : 2 ≤ 2 ^ (3 * n + 1) := by
      rw [Nat.pow_succ]
      have := Nat.one_le_two_pow (n := 3 * n)
      omega
    rw [e1, e2, e3]
    omega
theorem place_wide {fs : List Int} (h : Figs fs) (z : fs.length ≤ 60) : (placeOf fs).1.natAbs < 2 ^ 200 ∧ (placeOf fs).2.natAbs < 2 ^ 200 := by
  obtain ⟨a, b⟩ := place_bound _ fs rfl h
  have e : 2 ^ (3 * fs.length + 1) ≤ 2 ^ 200 := Nat.pow_le_pow_right (by decide) (by omega)
  exact ⟨Nat.lt_of_lt_of_le a e, Nat.lt_of_lt_of_le b e⟩
theorem wide200 {a b : Int} (ha : a.natAbs < 2 ^ 200) (hb : b.natAbs < 2 ^ 200) : L2.CMulW a b := L2.wide_mul ha hb (by decide) (by decide) (by decide)
end Hx

/-! # errors of own classes: the facts of a class, raise, call in a try, isinstance of what is caught -/
namespace Hx
open PySem PySem.Spec PyProof.Rows L2
/-- an own class of errors over ValueError: where it stands, what it hands on -/
structure EC (K : PySem.W.Frag) (mg : Str → Option Value) (n : Str) (C : Addr) : Prop where
  g : mg n = some (.ref C)
  x : PySem.W.excIn K C [.type "ValueError", .type "Exception", .type "BaseException", .type "object"] "ValueError.__new__" = true
  k : PySem.W.keepIn K (.ref C) = true
  b : PySem.W.subIn K (.ref C) (.type "BaseException") = some true
  t : PySem.W.typeIn K (.ref C) = some (.type "type")
  e : ExcC K C
  v : PySem.W.kitOne K (.ref C) (.type "ValueError") = some true
/-- whether the class D is one of C -/
structure Rel (K : PySem.W.Frag) (D C : Addr) (b : Bool) : Prop where
  s : PySem.W.subIn K (.ref D) (.ref C) = some b
  i : PySem.W.kitOne K (.ref D) (.ref C) = some b
theorem exm_rel {K : PySem.W.Frag} {mg : Str → Option Value} {n : Str} {C D : Addr} {b : Bool} (e : EC K mg n C) (r : Rel K D C b) : PySem.W.exmOne K (.ref D) (.ref C) = some b :=
  PySem.W.exm_ref e.b e.e.hd e.t r.s
section
variable {X : Cx} {k : Nat} {x : Str} {ps : List Str} {sp : Sp} {p pos : Pos} {e : Expr} {es : List Expr} {t : TA} {W : WX}
theorem pe_fnX (R : Ref X.prog X.w X.K X.mg X.base (L2.CX X.prog X.w) k x ps sp) (hr : Room k X.A) (tk : Takes X W) (ha : PA X (e :: es) t) (hg : Gl X x := by rfl) (hdb : (x == ("__debug__" : Str)) = false := by decide)
    (he : starEach (e :: es) X.env = (false, eval e X.env) :: starEach es X.env := by rfl) (hpl : (backTo pos (starEach es X.env)).any (·.1) = false := by rfl) : PE X (.Call (.Name x p) (e :: es) [] pos) (tCallS sp (WE W) t) := by
  obtain ⟨f, fd, F, g, kp, b⟩ := R.ex
  exact pe_callS F hr hg g kp b (fun σ => passAt tk σ) ha hdb he hpl
end
/-- isinstance(e, c), e what the suite holds, of the class cls -/
def rIsX (K : PySem.W.Frag) (a : Addr) (cls : Value) (d : Option Addr) : List V → Hp → VK → Prop := fun xs H Q => ∃ D, cls = .ref D ∧ d = none ∧ ExcC K D ∧ rIsE K D a xs H Q
theorem call_isX {X : Cx} {a : Addr} {oe : Obj} {cls : Value} {d : Option Addr} {pn : List (Addr × Obj)} (hz : Zc cls d oe) (hf : ∃ vs, oe.data = .fields vs) : CallR (X.suite a ((a, oe) :: pn)) (.builtin "isinstance") (rIsX X.K a cls d) := by
  intro pins s σ H xs us Q I r h
  obtain ⟨D, rfl, rfl, C, h⟩ := h
  exact call_isE C hz hf pins s σ H xs us Q I r h
/-! ### reading -/
theorem w_callS {sp : Sp} {E : L2.St → XK} {t : TA} {σ : L2.St} {H : Hp} {Q : VK} (h : t σ H fun vs H1 => sp vs H1 Q (E σ)) : tCallS sp E t σ H Q := h
theorem r_isX {K : PySem.W.Frag} {a D C : Addr} {b : Bool} {H : Hp} {Q : VK} (e : ExcC K D) (r : Rel K D C b) (q : Q (.bl b) H) : rIsX K a (.ref D) none [.ref a, .ref C] H Q :=
  ⟨D, rfl, rfl, e, _, .ref C, b, rfl, fun _ r => r, r.i, q⟩
theorem r_isV {K : PySem.W.Frag} {a D : Addr} {mg : Str → Option Value} {n : Str} {H : Hp} {Q : VK} (e : EC K mg n D) (q : Q (.bl true) H) : rIsX K a (.ref D) none [.ref a, .ty "ValueError"] H Q :=
  ⟨D, rfl, rfl, e.e, _, .type "ValueError", true, rfl, fun _ r => r, e.v, q⟩
theorem w_as {K : PySem.W.Frag} {c cls : Value} {i : Nat} {ts : Addr → Value → Option Addr → TS} {Wout : WX} {D : Ends} {d : Option Addr} {σ : L2.St} {H : Hp} (e : PySem.W.exmOne K cls c = some true)
    (h : ∀ a, H a = none → ts a cls d { nx := fun σ' H' => D.nx (σ'.set i none) H', rt := D.rt, bk := fun σ' H' => D.bk (σ'.set i none) H', ct := fun σ' H' => D.ct (σ'.set i none) H' } (σ.set i (some (.ref a))) H) :
    wAs K c i ts Wout D cls d σ H := ⟨true, e, fun _ => h, fun z => nomatch z⟩
theorem w_only {K : PySem.W.Frag} {c cls : Value} {ts : Addr → Value → Option Addr → TS} {Wout : WX} {D : Ends} {d : Option Addr} {σ : L2.St} {H : Hp} (e : PySem.W.exmOne K cls c = some true)
    (h : ∀ a, H a = none → ts a cls d D σ H) : wOnly K c ts Wout D cls d σ H := ⟨true, e, fun _ => h, fun z => nomatch z⟩
/-! ### lists of truths -/
theorem canLay_bools : ∀ ns : List Bool, PyData.canLayAll0 (ns.map PyData.bool) = true
  | [] => rfl
  | n :: r => by
    show (true && PyData.canLayAll0 (r.map PyData.bool)) = true
    rw [canLay_bools r]
    rfl
theorem depth_bools : ∀ ns : List Bool, PyData.depthAll (ns.map PyData.bool) = 0
  | [] => rfl
  | n :: r => by
    show max 0 (PyData.depthAll (r.map PyData.bool)) = 0
    rw [depth_bools r]
    rfl
theorem shaped_bools (ns : List Bool) : SeqAt.shaped (.list (ns.map PyData.bool)) = true := by
  have h1 : PyData.canLay0 (.list (ns.map PyData.bool)) = true := by rw [PyData.canLay0]; exact canLay_bools ns
  have h2 : PyData.depth (.list (ns.map PyData.bool)) = 1 := by rw [PyData.depth, depth_bools]
  unfold SeqAt.shaped
  rw [h1, h2]
  rfl
section
variable {K : PySem.W.Frag} {H : Hp} {Q : VK}
theorem dpAll_bools : ∀ ns : List Bool, DpAll K H (ns.map V.bl) (ns.map PyData.bool)
  | [] => .nil
  | n :: r => .cons (.bl n) (dpAll_bools r)
theorem dp_bools {a : Addr} {ns : List Bool} (h : SqL K H a (ns.map V.bl)) : Dp K H (.ref a) (.list (ns.map PyData.bool)) := .lst h (dpAll_bools ns)
theorem eqv_bools : ∀ ns ms : List Bool, PyData.eqvAll (ns.map PyData.bool) (ms.map PyData.bool) = decide (ns = ms)
  | [], [] => rfl
  | [], _ :: _ => rfl
  | _ :: _, [] => rfl
  | n :: r, m :: q => by
    show ((n == m) && PyData.eqvAll (r.map PyData.bool) (q.map PyData.bool)) = _
    rw [eqv_bools r q]
    by_cases h1 : n = m <;> by_cases h2 : r = q <;> simp [h1, h2]
theorem eqv_boolL (ns ms : List Bool) : PyData.eqv (.list (ns.map PyData.bool)) (.list (ms.map PyData.bool)) = decide (ns = ms) := by
  rw [PyData.eqv]
  exact eqv_bools ns ms
theorem r_eqBL {a b : Addr} (ns ms : List Bool) (h1 : SqL K H a (ns.map V.bl)) (h2 : SqL K H b (ms.map V.bl)) (k : Q (.bl (decide (ns = ms))) H) : rEqD K (.ref a) (.ref b) H Q := ⟨_, _, dp_bools h1, dp_bools h2, shaped_bools ns, shaped_bools ms, by rw [eqv_boolL]; exact k⟩
theorem r_neBL {a b : Addr} (ns ms : List Bool) (h1 : SqL K H a (ns.map V.bl)) (h2 : SqL K H b (ms.map V.bl)) (k : Q (.bl (!decide (ns = ms))) H) : rNeD K (.ref a) (.ref b) H Q := ⟨_, _, dp_bools h1, dp_bools h2, shaped_bools ns, shaped_bools ms, by rw [eqv_boolL]; exact k⟩
end
end Hx

/-! # the spiral: plain laws -/
namespace Hx
/-- the first number of a ring -/
def ringStart (k : Int) : Int := 1 + 3 * k * (k - 1)
/-- the place of a number -/
def SpAt (m : Int) (p : Int × Int) : Prop := (m = 0 ∧ p = (0, 0)) ∨ ∃ k a, 1 ≤ k ∧ 0 ≤ a ∧ a < 6 * k ∧ m = ringStart k + a ∧ p = ringAt k a
theorem start_next (k : Int) : ringStart (k + 1) = ringStart k + 6 * k := by
  unfold ringStart
  have e1 : 3 * (k + 1) * (k + 1 - 1) = 3 * (k * k) + 3 * k := by
    rw [show k + 1 - 1 = k by omega, Int.mul_add, Int.add_mul, Int.mul_assoc]
    omega
  have e2 : 3 * k * (k - 1) = 3 * (k * k) - 3 * k := by
    rw [Int.mul_sub, Int.mul_one, Int.mul_assoc]
  omega
theorem start_mono {j k : Int} (h0 : 1 ≤ j) (h : j ≤ k) : ringStart j ≤ ringStart k := by
  obtain ⟨n, rfl⟩ : ∃ n : Nat, k = j + n := ⟨(k - j).toNat, by omega⟩
  induction n with
  | zero => exact Int.le_of_eq (by congr 1; omega)
  | succ n ih =>
    have := start_next (j + (n : Int))
    have e : j + ((n + 1 : Nat) : Int) = j + n + 1 := by omega
    rw [e, this]
    have := ih (by omega)
    omega
theorem start_one : ringStart 1 = 1 := rfl
theorem start_ge {k : Int} (h : 1 ≤ k) : k ≤ ringStart k := by
  have : ∀ n : Nat, (n : Int) + 1 ≤ ringStart ((n : Int) + 1) := fun n => by
    induction n with
    | zero => exact Int.le_refl _
    | succ n ih =>
      have := start_next ((n : Int) + 1)
      rw [show ((n + 1 : Nat) : Int) + 1 = (n : Int) + 1 + 1 by omega, this]
      omega
  have := this (k - 1).toNat
  rw [show (((k - 1).toNat : Nat) : Int) + 1 = k by omega] at this
  exact this
theorem start_pos {k : Int} (h : 1 ≤ k) : 1 ≤ ringStart k := Int.le_trans h (start_ge h)
theorem ring_of {j k m : Int} (hj : 1 ≤ j) (hk : 1 ≤ k) (j0 : ringStart j ≤ m) (j1 : m < ringStart j + 6 * j) (k0 : ringStart k ≤ m) (k1 : m < ringStart k + 6 * k) : j = k := by
  by_cases h : j < k
  · have := start_mono (j := j + 1) (k := k) (by omega) (by omega)
    rw [start_next] at this
    omega
  · by_cases h2 : k < j
    · have := start_mono (j := k + 1) (k := j) (by omega) (by omega)
      rw [start_next] at this
      omega
    · omega
theorem sp_far {m : Int} {p : Int × Int} (h : SpAt m p) : (m = 0 ∧ farOf p = 0) ∨ (1 ≤ farOf p ∧ ringStart (farOf p) ≤ m ∧ m < ringStart (farOf p) + 6 * farOf p) := by
  rcases h with ⟨rfl, rfl⟩ | ⟨k, a, hk, a0, a1, rfl, rfl⟩
  · exact .inl ⟨rfl, rfl⟩
  · rw [ring_far hk a0 a1]
    exact .inr ⟨hk, by omega, by omega⟩
theorem sp_nat {m : Int} {p : Int × Int} (h : SpAt m p) : 0 ≤ m := by
  rcases h with ⟨rfl, _⟩ | ⟨k, a, hk, a0, a1, rfl, _⟩
  · exact Int.le_refl _
  · have := start_pos hk
    omega
/-- one place a number -/
theorem sp_place {m : Int} {p q : Int × Int} (h : SpAt m p) (h2 : SpAt m q) : p = q := by
  rcases h with ⟨rfl, rfl⟩ | ⟨k, a, hk, a0, a1, rfl, rfl⟩
  · rcases h2 with ⟨_, rfl⟩ | ⟨j, b, hj, b0, b1, e, rfl⟩
    · rfl
    · have := start_pos hj
      omega
  · rcases h2 with ⟨e, rfl⟩ | ⟨j, b, hj, b0, b1, e, rfl⟩
    · have := start_pos hk
      omega
    · have ej := ring_of hj hk (m := ringStart k + a) (by omega) (by omega) (by omega) (by omega)
      subst ej
      have : a = b := by omega
      rw [this]
/-- one number a place -/
theorem sp_number {m n : Int} {p : Int × Int} (h : SpAt m p) (h2 : SpAt n p) : m = n := by
  rcases h with ⟨rfl, rfl⟩ | ⟨k, a, hk, a0, a1, rfl, e⟩
  · rcases h2 with ⟨e, _⟩ | ⟨j, b, hj, b0, b1, rfl, e⟩
    · exact e.symm
    · have := ring_far hj b0 b1
      rw [← e] at this
      have z : farOf (0, 0) = 0 := rfl
      omega
  · rcases h2 with ⟨rfl, e2⟩ | ⟨j, b, hj, b0, b1, rfl, e2⟩
    · have := ring_far hk a0 a1
      rw [← e, e2] at this
      have z : farOf (0, 0) = 0 := rfl
      omega
    · have h1 := ring_far hk a0 a1
      have h3 := ring_far hj b0 b1
      rw [← e] at h1
      rw [← e2] at h3
      have : j = k := by omega
      subst this
      rw [ring_inj hk a0 a1 b0 b1 (e.symm.trans e2)]
/-- the side's place that is at: corner and stride -/
def onSide (n : Int) (s : Nat) (al : Int) : Int × Int := ((corner n s).1 + (sideStep s).1 * al, (corner n s).2 + (sideStep s).2 * al)
theorem ring_side {n al : Int} {s : Nat} (hn : 1 ≤ n) (hs : s < 6) (h0 : 0 ≤ al) (h1 : al < n) : ringAt n (s * n + al) = onSide n s al := by
  have e1 : ((s : Int) * n + al) / n = s := by
    rw [Int.add_comm, Int.add_mul_ediv_right _ _ (by omega), Int.ediv_eq_zero_of_lt h0 h1]
    omega
  have e2 : ((s : Int) * n + al) % n = al := by
    rw [Int.add_comm, Int.add_mul_emod_self_right]
    exact Int.emod_eq_of_lt h0 h1
  unfold ringAt onSide
  rw [e1, e2]
  rfl
theorem side_max {s : Nat} (hs : s < 6) {al : Int} (h : 0 ≤ al) : max (((sideStep s).1 * al).natAbs : Int) (((sideStep s).2 * al).natAbs : Int) = al := by
  obtain ⟨s0, s1, s2, s3, s4, s5⟩ := side_is
  obtain rfl | rfl | rfl | rfl | rfl | rfl : s = 0 ∨ s = 1 ∨ s = 2 ∨ s = 3 ∨ s = 4 ∨ s = 5 := by omega
  · rw [s0]; simp only; omega
  · rw [s1]; simp only; omega
  · rw [s2]; simp only; omega
  · rw [s3]; simp only; omega
  · rw [s4]; simp only; omega
  · rw [s5]; simp only; omega
/-- each place of a ring is on a side -/
theorem side_ex {n : Int} {p : Int × Int} (hn : 1 ≤ n) (h : farOf p = n) : ∃ s al, s < 6 ∧ 0 ≤ al ∧ al < n ∧ p = onSide n s al := by
  obtain ⟨c0, c1, c2, c3, c4, c5⟩ := corner_is n
  obtain ⟨s0, s1, s2, s3, s4, s5⟩ := side_is
  obtain ⟨x, y⟩ := p
  unfold farOf at h
  simp only at h
  by_cases g0 : x + y = n ∧ 0 ≤ y ∧ 0 < x
  · refine ⟨0, y, by omega, by omega, by omega, ?_⟩
    unfold onSide; rw [c0, s0]; simp only [Prod.mk.injEq]; omega
  by_cases g1 : y = n ∧ x ≤ 0 ∧ -n < x
  · refine ⟨1, -x, by omega, by omega, by omega, ?_⟩
    unfold onSide; rw [c1, s1]; simp only [Prod.mk.injEq]; omega
  by_cases g2 : x = -n ∧ 0 < y
  · refine ⟨2, n - y, by omega, by omega, by omega, ?_⟩
    unfold onSide; rw [c2, s2]; simp only [Prod.mk.injEq]; omega
  by_cases g3 : x + y = -n ∧ x < 0
  · refine ⟨3, x + n, by omega, by omega, by omega, ?_⟩
    unfold onSide; rw [c3, s3]; simp only [Prod.mk.injEq]; omega
  by_cases g4 : y = -n ∧ x < n
  · refine ⟨4, x, by omega, by omega, by omega, ?_⟩
    unfold onSide; rw [c4, s4]; simp only [Prod.mk.injEq]; omega
  · refine ⟨5, y + n, by omega, by omega, by omega, ?_⟩
    unfold onSide; rw [c5, s5]; simp only [Prod.mk.injEq]; omega
end Hx
namespace Hx
theorem dist_far (p : Int × Int) : distOf p (0, 0) = farOf p := by
  unfold distOf farOf
  simp only [Int.sub_zero]
theorem far_nonneg (p : Int × Int) : 0 ≤ farOf p := by
  unfold farOf
  omega
theorem far_zero {p : Int × Int} (h : farOf p = 0) : p = (0, 0) := by
  obtain ⟨x, y⟩ := p
  unfold farOf at h
  simp only at h
  simp only [Prod.mk.injEq]
  omega
theorem mul3W {n : Int} (h0 : 0 ≤ n) (h : n < 2 ^ 311) : L2.CMulW (3 * n) (n - 1) :=
  L2.wide_mul (a := 313) (b := 312) (by omega) (by omega) (by decide) (by decide) (by decide)
theorem mul3W' {n : Int} (h0 : 0 ≤ n) (h : n < 2 ^ 311) : L2.CMulW (3 * n) (n + 1) :=
  L2.wide_mul (a := 313) (b := 312) (by omega) (by omega) (by decide) (by decide) (by decide)
/-- the next number's place -/
theorem sp_next {m : Int} {p q : Int × Int} (h : SpAt m p) (h2 : SpAt (m + 1) q) : farOf (q.1 - p.1, q.2 - p.2) = 1 ∨ (m = 3 * farOf p * (farOf p + 1) ∧ q = (farOf p + 1, 0)) := by
  rcases h with ⟨rfl, rfl⟩ | ⟨k, a, hk, a0, a1, rfl, rfl⟩
  · refine .inr ⟨rfl, ?_⟩
    exact sp_place h2 (.inr ⟨1, 0, by decide, by decide, by decide, rfl, (ring_first (by decide)).symm⟩)
  · by_cases hl : a + 1 = 6 * k
    · refine .inr ?_
      rw [ring_far hk a0 a1]
      refine ⟨?_, ?_⟩
      · unfold ringStart
        have e1 : 3 * k * (k + 1) = 3 * (k * k) + 3 * k := by rw [Int.mul_add, Int.mul_one, Int.mul_assoc]
        have e2 : 3 * k * (k - 1) = 3 * (k * k) - 3 * k := by rw [Int.mul_sub, Int.mul_one, Int.mul_assoc]
        omega
      · refine sp_place h2 (.inr ⟨k + 1, 0, by omega, by decide, by omega, ?_, (ring_first (by omega)).symm⟩)
        rw [start_next]
        omega
    · refine .inl ?_
      have e := sp_place h2 (.inr ⟨k, a + 1, hk, by omega, by omega, by omega, rfl⟩)
      have hn := ring_next hk a0 a1
      unfold hereAt at hn
      rw [if_neg hl] at hn
      rw [e, hn]
      obtain ⟨s0, s1, s2, s3, s4, s5⟩ := side_is
      have hd := div_bounds hk a0 a1
      have hs : farOf (sideStep (a / k).toNat) = 1 := by
        obtain h | h | h | h | h | h : (a / k).toNat = 0 ∨ (a / k).toNat = 1 ∨ (a / k).toNat = 2 ∨ (a / k).toNat = 3 ∨ (a / k).toNat = 4 ∨ (a / k).toNat = 5 := by omega
        all_goals rw [h]
        all_goals decide
      rw [show ∀ x y z w : Int, farOf (x + y - x, z + w - z) = farOf (y, w) from fun x y z w => by rw [show x + y - x = y by omega, show z + w - z = w by omega]]
      exact hs
/-- the bounds of a place's number -/
theorem sp_bounds {m : Int} {p : Int × Int} (h : SpAt m p) : (farOf p = 0 ∧ m = 0) ∨ (0 < farOf p ∧ 3 * farOf p * (farOf p - 1) < m ∧ m ≤ 3 * farOf p * (farOf p + 1)) := by
  rcases sp_far h with ⟨e, e2⟩ | ⟨e, e2, e3⟩
  · exact .inl ⟨e2, e⟩
  · refine .inr ⟨by omega, ?_, ?_⟩
    · unfold ringStart at e2
      omega
    · unfold ringStart at e3
      have e1 : 3 * farOf p * (farOf p + 1) = 3 * (farOf p * farOf p) + 3 * farOf p := by rw [Int.mul_add, Int.mul_one, Int.mul_assoc]
      have e2 : 3 * farOf p * (farOf p - 1) = 3 * (farOf p * farOf p) - 3 * farOf p := by rw [Int.mul_sub, Int.mul_one, Int.mul_assoc]
      omega
end Hx

/-! # lists of lists of ints as data; sizes -/
namespace Hx
open PySem PySem.Spec PyProof.Rows L2
def rowD (r : List Int) : PyData := .list (r.map PyData.int)
def rowsD (rs : List (List Int)) : PyData := .list (rs.map rowD)
theorem canLay_rows : ∀ rs : List (List Int), PyData.canLayAll0 (rs.map rowD) = true
  | [] => rfl
  | r :: t => by
    show (PyData.canLay0 (rowD r) && PyData.canLayAll0 (t.map rowD)) = true
    rw [canLay_rows t, Bool.and_true]
    unfold rowD
    rw [PyData.canLay0]
    exact canLay_ints r
theorem depth_rows : ∀ rs : List (List Int), PyData.depthAll (rs.map rowD) ≤ 1
  | [] => Nat.zero_le _
  | r :: t => by
    show max (PyData.depth (rowD r)) (PyData.depthAll (t.map rowD)) ≤ 1
    have h1 : PyData.depth (rowD r) = 1 := by
      unfold rowD
      rw [PyData.depth, depth_ints]
    rw [h1]
    have := depth_rows t
    omega
theorem shaped_rows (rs : List (List Int)) : SeqAt.shaped (rowsD rs) = true := by
  have h1 : PyData.canLay0 (rowsD rs) = true := by unfold rowsD; rw [PyData.canLay0]; exact canLay_rows rs
  have h2 : PyData.depth (rowsD rs) ≤ 64 := by
    unfold rowsD
    rw [PyData.depth]
    have := depth_rows rs
    omega
  unfold SeqAt.shaped
  rw [h1, decide_eq_true h2]
  rfl
section
variable {K : PySem.W.Frag} {H : Hp} {Q : VK}
theorem dpAll_rows : ∀ {ws : List V} {rs : List (List Int)}, Rws K H ws rs → DpAll K H ws (rs.map rowD)
  | _, _, .nil => .nil
  | _, _, .cons ⟨_, rfl, h⟩ t => .cons (dp_ints h) (dpAll_rows t)
theorem dp_rows {a : Addr} {ws : List V} {rs : List (List Int)} (h : SqL K H a ws) (g : Rws K H ws rs) : Dp K H (.ref a) (rowsD rs) := .lst h (dpAll_rows g)
theorem eqv_row (r q : List Int) : PyData.eqv (rowD r) (rowD q) = decide (r = q) := eqv_intL r q
theorem eqv_rows : ∀ rs qs : List (List Int), PyData.eqvAll (rs.map rowD) (qs.map rowD) = decide (rs = qs)
  | [], [] => rfl
  | [], _ :: _ => rfl
  | _ :: _, [] => rfl
  | r :: rs, q :: qs => by
    show (PyData.eqv (rowD r) (rowD q) && PyData.eqvAll (rs.map rowD) (qs.map rowD)) = _
    rw [eqv_rows rs qs, eqv_row]
    by_cases h1 : r = q <;> by_cases h2 : rs = qs <;> simp [h1, h2]
theorem eqv_rowsD (rs qs : List (List Int)) : PyData.eqv (rowsD rs) (rowsD qs) = decide (rs = qs) := by
  unfold rowsD
  rw [PyData.eqv]
  exact eqv_rows rs qs
theorem r_eqRws {a b : Addr} {ws us : List V} {rs qs : List (List Int)} (h1 : SqL K H a ws) (g1 : Rws K H ws rs) (h2 : SqL K H b us) (g2 : Rws K H us qs) (k : Q (.bl (decide (rs = qs))) H) : rEqD K (.ref a) (.ref b) H Q :=
  ⟨_, _, dp_rows h1 g1, dp_rows h2 g2, shaped_rows rs, shaped_rows qs, by rw [eqv_rowsD]; exact k⟩
theorem r_neRws {a b : Addr} {ws us : List V} {rs qs : List (List Int)} (h1 : SqL K H a ws) (g1 : Rws K H ws rs) (h2 : SqL K H b us) (g2 : Rws K H us qs) (k : Q (.bl (!decide (rs = qs))) H) : rNeD K (.ref a) (.ref b) H Q :=
  ⟨_, _, dp_rows h1 g1, dp_rows h2 g2, shaped_rows rs, shaped_rows qs, by rw [eqv_rowsD]; exact k⟩
/-- list.insert of ints -/
def rInsert (x : V) (vs : List V) (H : Hp) (Q : VK) : Prop := ∃ (l : Addr) (xs : List V) (i : Int) (y : V), x = .ref l ∧ vs = [.int i, y] ∧ H l = some (.lst xs) ∧ xs.length < sizeLine ∧ 0 ≤ i ∧ i < 2 ^ 63 ∧ Q .non (upd H l (.lst (xs.take i.toNat ++ [y] ++ xs.drop i.toNat)))
theorem mtr_insert {X : Cx} : MtR X "list.insert" rInsert := mt_insert
theorem r_insertI {a : Addr} {ns : List Int} {i y : Int} (h : H a = some (.lst (ns.map V.int))) (z : ns.length ≤ 100000) (h0 : 0 ≤ i) (h1 : i ≤ 100000) (q : Q .non (upd H a (.lst ((ns.take i.toNat ++ [y] ++ ns.drop i.toNat).map V.int)))) : rInsert (.ref a) [.int i, .int y] H Q := by
  refine ⟨a, _, i, _, rfl, rfl, h, Nat.lt_of_le_of_lt (by rw [List.length_map]; exact z) (by decide), h0, by omega, ?_⟩
  rw [List.map_append, List.map_append, List.map_take, List.map_drop] at q
  exact q
end
end Hx

/-! # rows of ints as keys, dicts of rows, lists of rows; regions -/
namespace Hx
open PySem PySem.Spec PyProof.Rows L2
abbrev Row := List Int
def keyL (r : List Int) : List Key := r.map Sum.inl
theorem kv_keyL (r : List Int) : (keyL r).map kV = r.map V.int := by
  unfold keyL
  rw [List.map_map]
  rfl
theorem keyL_inj : ∀ {r q : List Int}, keyL r = keyL q → r = q
  | [], [], _ => rfl
  | [], _ :: _, h => by cases h
  | _ :: _, [], h => by cases h
  | x :: r, y :: q, h => by
    have h1 : (Sum.inl x : Key) = Sum.inl y := (List.cons.inj h).1
    have h2 : r = q := keyL_inj (List.cons.inj h).2
    cases h1
    rw [h2]
/-- v is the tuple of the row -/
def Tl (H : Hp) (v : V) (r : List Int) : Prop := ∃ t, v = .ref t ∧ H t = some (.tup (r.map V.int))
theorem Tl.sm {H H' : Hp} {v : V} {r : List Int} (e : Same H H') (h : Tl H v r) : Tl H' v r := by
  obtain ⟨a, rfl, h⟩ := h
  exact ⟨a, rfl, e _ _ h⟩
theorem Tl.new {H : Hp} {a : Addr} {r : List Int} : Tl (upd H a (.tup (r.map V.int))) (.ref a) r := ⟨a, rfl, upd_same⟩
theorem Tl.putr {H : Hp} {v : V} {r : List Int} {q : Addr} {ys : List V} {o : HO} (hq : H q = some (.lst ys)) (h : Tl H v r) : Tl (L2.upd H q o) v r := by
  obtain ⟨a, rfl, h⟩ := h
  exact ⟨a, rfl, upd_at (ne_of h hq (by intro z; cases z)) h⟩
theorem Tl.putd {H : Hp} {v : V} {r : List Int} {q : Addr} {ys : List (List Key × V)} {o : HO} (hq : H q = some (.dT ys)) (h : Tl H v r) : Tl (L2.upd H q o) v r := by
  obtain ⟨a, rfl, h⟩ := h
  exact ⟨a, rfl, upd_at (ne_of h hq (by intro z; cases z)) h⟩
theorem Tl.sqT {K : PySem.W.Frag} {H : Hp} {a : Addr} {r : List Int} (h : Tl H (.ref a) r) : SqT K H a (r.map V.int) := by
  obtain ⟨b, e, h⟩ := h
  cases e
  exact .inl (.inl h)
theorem Tl.pl {K : PySem.W.Frag} {H : Hp} {v : V} {x y : Int} (h : Tl H v [x, y]) : Pl K H v (x, y) := by
  obtain ⟨b, e, h⟩ := h
  exact ⟨b, e, .inl (.inl h)⟩
theorem Tp.tl {H : Hp} {v : V} {p : Int × Int} (h : Tp H v p) : Tl H v [p.1, p.2] := h
section
variable {K : PySem.W.Frag} {H : Hp} {Q : VK} {v x y : V}
theorem r_dInL {a : Addr} {kvs : List (List Key × V)} {r : List Int} (h : Rd H a (.dT kvs)) (g : Tl H v r) (q : Q (.bl (valV kvs (keyL r)).isSome) H) : rDIn false (.ref a) v H Q := by
  obtain ⟨b, rfl, g⟩ := g
  rw [← kv_keyL] at g
  exact ⟨a, _, rfl, .inr ⟨kvs, keyL r, b, h, rfl, g, rfl⟩, q⟩
theorem r_dNotInL {a : Addr} {kvs : List (List Key × V)} {r : List Int} (h : Rd H a (.dT kvs)) (g : Tl H v r) (q : Q (.bl (!(valV kvs (keyL r)).isSome)) H) : rDIn true (.ref a) v H Q := by
  obtain ⟨b, rfl, g⟩ := g
  rw [← kv_keyL] at g
  exact ⟨a, _, rfl, .inr ⟨kvs, keyL r, b, h, rfl, g, rfl⟩, q⟩
theorem r_dPutL {a : Addr} {kvs : List (List Key × V)} {r : List Int} {R : Hp → Prop} (h : H a = some (.dT kvs)) (g : Tl H v r) (z : kvs.length ≤ 100000) (q : R (upd H a (.dT (putK kvs (keyL r) x)))) : rDPut (.ref a) v x H R := by
  obtain ⟨b, rfl, g⟩ := g
  rw [← kv_keyL] at g
  exact ⟨a, _, rfl, DPut.t (k := keyL r) h g (Nat.lt_of_le_of_lt z (by decide)), q⟩
theorem r_dGetL {a : Addr} {kvs : List (List Key × V)} {r : List Int} (h : Rd H a (.dT kvs)) (g : Tl H v r) (e : valV kvs (keyL r) = some x) (q : Q x H) : rDGet (.ref a) v H Q := by
  obtain ⟨b, rfl, g⟩ := g
  rw [← kv_keyL] at g
  exact ⟨a, x, rfl, .inr ⟨kvs, keyL r, b, h, rfl, g, e.symm⟩, q⟩
end
/-! ### a dict of rows, all True -/
def kvR (ks : List Row) : List (List Key × V) := ks.map fun k => (keyL k, .bl true)
theorem valV_kvR (ks : List Row) (r : Row) : valV (kvR ks) (keyL r) = if r ∈ ks then some (.bl true) else none := by
  induction ks with
  | nil => rfl
  | cons k t ih =>
    by_cases e : k = r
    · subst e
      rw [if_pos List.mem_cons_self]
      exact valV_pos (p := (keyL k, V.bl true)) rfl
    · have e2 : ¬ (keyL k, V.bl true).1 = keyL r := fun z => e (keyL_inj z)
      have e3 : valV (kvR (k :: t)) (keyL r) = valV (kvR t) (keyL r) := valV_neg (p := (keyL k, V.bl true)) e2
      rw [e3, ih]
      by_cases h : r ∈ t
      · rw [if_pos h, if_pos (List.mem_cons_of_mem _ h)]
      · rw [if_neg h, if_neg (fun z => (List.mem_cons.mp z).elim (fun z => e z.symm) h)]
theorem kvR_isSome (ks : List Row) (r : Row) : (valV (kvR ks) (keyL r)).isSome = decide (r ∈ ks) := by
  rw [valV_kvR]
  by_cases h : r ∈ ks
  · rw [if_pos h, decide_eq_true h]; rfl
  · rw [if_neg h, decide_eq_false h]; rfl
def insK (ks : List Row) (r : Row) : List Row := if r ∈ ks then ks else ks ++ [r]
theorem putK_kvR (ks : List Row) (r : Row) : putK (kvR ks) (keyL r) (.bl true) = kvR (insK ks r) := by
  unfold insK
  by_cases h : r ∈ ks
  · rw [if_pos h]
    have ha : ((kvR ks).any fun kv => decide (kv.1 = keyL r)) = true := by
      rw [valV_any, kvR_isSome, decide_eq_true h]
    unfold putK
    rw [if_pos ha]
    unfold kvR
    rw [List.map_map]
    refine List.map_congr_left fun k _ => ?_
    show (if keyL k = keyL r then (keyL k, V.bl true) else (keyL k, V.bl true)) = _
    split <;> rfl
  · rw [if_neg h, putK_new _ (by rw [valV_kvR, if_neg h])]
    unfold kvR
    rw [List.map_append]
    rfl
theorem insK_mem {ks : List Row} {r x : Row} : x ∈ insK ks r ↔ x ∈ ks ∨ x = r := by
  unfold insK
  by_cases h : r ∈ ks
  · rw [if_pos h]
    exact ⟨.inl, fun z => z.elim id (fun e => e ▸ h)⟩
  · rw [if_neg h, List.mem_append, List.mem_singleton]
theorem insK_nd {ks : List Row} {r : Row} (h : ks.Nodup) : (insK ks r).Nodup := by
  unfold insK
  split
  · exact h
  · rename_i hn
    rw [List.nodup_append]
    refine ⟨h, by simp, fun a ha b hb => ?_⟩
    rw [List.mem_singleton] at hb
    subst hb
    intro e
    subst e
    exact hn ha
theorem insK_len (ks : List Row) (r : Row) : (insK ks r).length ≤ ks.length + 1 := by
  unfold insK
  split
  · omega
  · rw [List.length_append]; exact Nat.le_refl _
def insAll (ks : List Row) (rs : List Row) : List Row := rs.foldl insK ks
theorem insAll_snoc (ks rs : List Row) (r : Row) : insAll ks (rs ++ [r]) = insK (insAll ks rs) r := by
  unfold insAll
  rw [List.foldl_append]
  rfl
theorem insAll_app (ks rs qs : List Row) : insAll ks (rs ++ qs) = insAll (insAll ks rs) qs := List.foldl_append
theorem insAll_mem : ∀ {rs ks : List Row} {x : Row}, x ∈ insAll ks rs ↔ x ∈ ks ∨ x ∈ rs
  | [], _, _ => ⟨.inl, fun z => z.elim id (fun z => by cases z)⟩
  | r :: rs, ks, x => by
    show x ∈ insAll (insK ks r) rs ↔ _
    rw [insAll_mem, insK_mem, List.mem_cons, or_assoc]
theorem insAll_nd : ∀ {rs ks : List Row}, ks.Nodup → (insAll ks rs).Nodup
  | [], _, h => h
  | r :: rs, ks, h => insAll_nd (rs := rs) (ks := insK ks r) (insK_nd h)
theorem insAll_len : ∀ (rs ks : List Row), (insAll ks rs).length ≤ ks.length + rs.length
  | [], _ => Nat.le_refl _
  | r :: rs, ks => by
    have h1 := insAll_len rs (insK ks r)
    have h2 := insK_len ks r
    show (insAll (insK ks r) rs).length ≤ ks.length + (rs.length + 1)
    omega
theorem kvR_len (ks : List Row) : (kvR ks).length = ks.length := List.length_map _
/-! ### lists of tracked rows -/
abbrev Rwt (H : Hp) : List V → List Row → Prop := Paired fun v r => ∃ a, v = .ref a ∧ H a = some (.lst (r.map V.int))
theorem Rwt.sm {H H' : Hp} {vs : List V} {rs : List Row} (e : Same H H') (h : Rwt H vs rs) : Rwt H' vs rs := pr_mono (fun _ _ ⟨a, e1, h⟩ => ⟨a, e1, e _ _ h⟩) h
theorem Rwt.rws {K : PySem.W.Frag} {H : Hp} {vs : List V} {rs : List Row} (h : Rwt H vs rs) : Rws K H vs rs := pr_mono (fun _ _ ⟨a, e1, h⟩ => ⟨a, e1, SqL.of h⟩) h
theorem Rwt.put {H : Hp} {vs : List V} {rs : List Row} {p : Addr} {o : HO} (h : Rwt H vs rs) (hp : ∀ a, V.ref a ∈ vs → a ≠ p) : Rwt (upd H p o) vs rs := by
  induction h with
  | nil => exact .nil
  | cons h t ih =>
    obtain ⟨a, rfl, h⟩ := h
    exact .cons ⟨a, rfl, upd_at (hp a List.mem_cons_self) h⟩ (ih fun b hb => hp b (List.mem_cons_of_mem _ hb))
theorem Rwt.ne {H : Hp} {vs : List V} {rs : List Row} {p : Addr} (h : Rwt H vs rs) (hp : H p = none) : ∀ a, V.ref a ∈ vs → a ≠ p := by
  induction h with
  | nil => intro a ha; cases ha
  | cons h t ih =>
    obtain ⟨b, rfl, h⟩ := h
    intro a ha
    rcases List.mem_cons.mp ha with e | e
    · cases e
      exact ne_of_none h hp
    · exact ih a e
abbrev Tls (H : Hp) : List V → List Row → Prop := Paired fun v r => Tl H v r
theorem Tls.sm {H H' : Hp} {vs : List V} {rs : List Row} (e : Same H H') (h : Tls H vs rs) : Tls H' vs rs := pr_mono (fun _ _ h => Tl.sm e h) h
theorem Tls.putr {H : Hp} {vs : List V} {rs : List Row} {q : Addr} {ys : List V} {o : HO} (hq : H q = some (.lst ys)) (h : Tls H vs rs) : Tls (L2.upd H q o) vs rs := pr_mono (fun _ _ h => Tl.putr hq h) h
theorem Tls.putd {H : Hp} {vs : List V} {rs : List Row} {q : Addr} {ys : List (List Key × V)} {o : HO} (hq : H q = some (.dT ys)) (h : Tls H vs rs) : Tls (L2.upd H q o) vs rs := pr_mono (fun _ _ h => Tl.putd hq h) h
/-! ### the lines of a beginning -/
def figs7 : List Int := [0, 1, 2, 3, 4, 5, 6]
def grow (rs : List Row) : List Row := rs.flatMap fun r => figs7.map fun f => r ++ [f]
def growN : Nat → List Row → List Row
  | 0, rs => rs
  | n + 1, rs => grow (growN n rs)
/-- the lines of a level that begin so -/
def linesFrom (b : Row) (lv : Int) : List Row := growN (lv - b.length).toNat [b]
theorem grow_len (rs : List Row) : (grow rs).length = 7 * rs.length := by
  unfold grow
  induction rs with
  | nil => rfl
  | cons r t ih =>
    rw [List.flatMap_cons, List.length_append, ih, List.length_map, List.length_cons]
    show 7 + _ = _
    omega
theorem growN_len : ∀ (n : Nat) (rs : List Row), (growN n rs).length = 7 ^ n * rs.length
  | 0, rs => by show rs.length = _; rw [Nat.pow_zero, Nat.one_mul]
  | n + 1, rs => by
    show (grow (growN n rs)).length = _
    rw [grow_len, growN_len n rs, Nat.pow_succ, ← Nat.mul_assoc, Nat.mul_comm 7]
theorem mem_grow {rs : List Row} {x : Row} : x ∈ grow rs ↔ ∃ r ∈ rs, ∃ f, 0 ≤ f ∧ f ≤ 6 ∧ x = r ++ [f] := by
  unfold grow
  rw [List.mem_flatMap]
  constructor
  · rintro ⟨r, hr, hx⟩
    obtain ⟨f, hf, rfl⟩ := List.mem_map.mp hx
    refine ⟨r, hr, f, ?_, ?_, rfl⟩ <;> · unfold figs7 at hf; simp at hf; omega
  · rintro ⟨r, hr, f, h0, h1, rfl⟩
    refine ⟨r, hr, List.mem_map.mpr ⟨f, ?_, rfl⟩⟩
    unfold figs7
    simp
    omega
theorem mem_growN : ∀ {n : Nat} {rs : List Row} {x : Row}, x ∈ growN n rs ↔ ∃ r ∈ rs, ∃ e : Row, Figs e ∧ e.length = n ∧ x = r ++ e
  | 0, rs, x => by
    constructor
    · intro h
      exact ⟨x, h, [], (by intro y hy; cases hy), rfl, (List.append_nil x).symm⟩
    · rintro ⟨r, hr, e, _, he, rfl⟩
      rw [List.eq_nil_of_length_eq_zero he, List.append_nil]
      exact hr
  | n + 1, rs, x => by
    show x ∈ grow (growN n rs) ↔ _
    rw [mem_grow]
    constructor
    · rintro ⟨y, hy, f, h0, h1, rfl⟩
      obtain ⟨r, hr, e, he, hn, rfl⟩ := mem_growN.mp hy
      exact ⟨r, hr, e ++ [f], figs_app he (figs_one h0 h1), by rw [List.length_append, hn]; rfl, List.append_assoc _ _ _⟩
    · rintro ⟨r, hr, e, he, hn, rfl⟩
      obtain ⟨e', f, rfl⟩ : ∃ e' f, e = e' ++ [f] := by
        cases h : e.reverse with
        | nil =>
          rw [List.reverse_eq_nil_iff] at h
          subst h
          cases hn
        | cons f t => exact ⟨t.reverse, f, by rw [← List.reverse_reverse e, h, List.reverse_cons]⟩
      have hf := he f (List.mem_append_right _ List.mem_cons_self)
      refine ⟨r ++ e', mem_growN.mpr ⟨r, hr, e', fun y hy => he y (List.mem_append_left _ hy), ?_, rfl⟩, f, hf.1, hf.2, (List.append_assoc _ _ _).symm⟩
      rw [List.length_append] at hn
      simpa using hn
/-- what the lines of a beginning are -/
theorem mem_lines {b x : Row} {lv : Int} (h : (b.length : Int) ≤ lv) : x ∈ linesFrom b lv ↔ ∃ e : Row, Figs e ∧ x = b ++ e ∧ (x.length : Int) = lv := by
  unfold linesFrom
  rw [mem_growN]
  constructor
  · rintro ⟨r, hr, e, he, hn, rfl⟩
    rw [List.mem_singleton] at hr
    subst hr
    exact ⟨e, he, rfl, by rw [List.length_append]; omega⟩
  · rintro ⟨e, he, rfl, hl⟩
    rw [List.length_append] at hl
    exact ⟨b, List.mem_singleton.mpr rfl, e, he, by omega, rfl⟩
/-- all lines of some beginnings, in the order in which they come, each once -/
def linesOf (rows : List Row) (lv : Int) : List Row := insAll [] (rows.flatMap fun b => linesFrom b lv)
theorem linesOf_nd (rows : List Row) (lv : Int) : (linesOf rows lv).Nodup := insAll_nd List.nodup_nil
theorem mem_linesOf {rows : List Row} {lv : Int} {x : Row} : x ∈ linesOf rows lv ↔ ∃ b ∈ rows, x ∈ linesFrom b lv := by
  unfold linesOf
  rw [insAll_mem, List.mem_flatMap]
  exact ⟨fun z => z.elim (fun z => by cases z) id, .inr⟩
theorem linesFrom_len {b : Row} {lv : Int} (h : lv ≤ 4) : (linesFrom b lv).length ≤ 2401 := by
  unfold linesFrom
  rw [growN_len]
  have : 7 ^ (lv - b.length).toNat ≤ 7 ^ 4 := Nat.pow_le_pow_right (by decide) (by omega)
  simp only [List.length_cons, List.length_nil]
  omega
/-! ### a region -/
/-- what the class is -/
structure RegC (K : PySem.W.Frag) (mg : Str → Option Value) (C : Addr) : Prop where
  cl : Cls K C
  nL : NoAttr K C "level"
  nN : NoAttr K C "lines"
  mg : mg "Region" = some (.ref C)
theorem str_ll : ¬ (("level" : Str) = "lines") := by decide +kernel
/-- its attributes -/
def rflds (lv : Int) (d : Addr) : List (Str × V) := putF "lines" (.ref d) (putF "level" (.int lv) [])
theorem rflds_level (lv : Int) (d : Addr) : (rflds lv d).lookup ("level" : Str) = some (.int lv) := by
  unfold rflds
  rw [lookup_putF, if_neg str_ll, lookup_putF, if_pos rfl]
theorem rflds_lines (lv : Int) (d : Addr) : (rflds lv d).lookup ("lines" : Str) = some (.ref d) := by
  unfold rflds
  rw [lookup_putF, if_pos rfl]
theorem rflds_no (lv : Int) (d : Addr) {m : Str} (h1 : ¬ m = "lines") (h2 : ¬ m = "level") : (rflds lv d).lookup m = none := by
  unfold rflds
  rw [lookup_putF, if_neg h1, lookup_putF, if_neg h2]
  rfl
/-- a region of a level with the lines ks stands at p, its dict at d -/
structure RegAt (C : Addr) (H : Hp) (p d : Addr) (lv : Int) (ks : List Row) : Prop where
  ob : ∃ dx, H p = some (.ins C dx (rflds lv d))
  dc : H d = some (.dT (kvR ks))
theorem RegAt.sm {C : Addr} {H H' : Hp} {p d : Addr} {lv : Int} {ks : List Row} (e : Same H H') (h : RegAt C H p d lv ks) : RegAt C H' p d lv ks := by
  obtain ⟨⟨dx, h1⟩, h2⟩ := h
  exact ⟨⟨dx, e _ _ h1⟩, e _ _ h2⟩
/-- the constructor, a method, as a caller wants them -/
structure RefM (P : Program) (w : World) (K : PySem.W.Frag) (mg : Str → Option Value) (base : Heap) (CX : CXT) (k : Nat) (x : Str) (C : Addr) (ps : List Str) (sp : Sp) : Prop where
  ex : ∃ (f : Addr) (fd : FuncData), FnOk P w K mg base CX k f fd ps sp ∧ Mk K C f ∧ mg x = some (.ref C) ∧ Binds K fd ps []
structure RefT (P : Program) (w : World) (K : PySem.W.Frag) (mg : Str → Option Value) (base : Heap) (CX : CXT) (k : Nat) (m : Str) (C : Addr) (ps : List Str) (sp : Sp) : Prop where
  ex : ∃ (f : Addr) (fd : FuncData), FnOk P w K mg base CX k f fd ps sp ∧ Cls K C ∧ Meth K C m f ∧ Binds K fd ps []
/-- a method's text -/
structure FnM (K : PySem.W.Frag) (C : Addr) (m qual : Str) (st : Stmt) (ps : List Str) : Prop where
  ex : ∃ (f : Addr) (fd : FuncData), Fun K m qual st f fd ∧ Cls K C ∧ Meth K C m f ∧ Binds K fd ps []
structure FnI (K : PySem.W.Frag) (mg : Str → Option Value) (C : Addr) (x m qual : Str) (st : Stmt) (ps : List Str) : Prop where
  ex : ∃ (f : Addr) (fd : FuncData), Fun K m qual st f fd ∧ Mk K C f ∧ mg x = some (.ref C) ∧ Binds K fd ps []
section
variable {P : Program} {w : World} {K : PySem.W.Frag} {mg : Str → Option Value} {base : Heap} {C : Addr}
theorem FnM.ok {x qual : Str} {st : Stmt} {N ps : List Str} {k : Nat} {sp : Sp} (F : FnM K C x qual st ps) (S : FnScope N ps (defScope st)) (len : ∀ vs H Q E, sp vs H Q E → vs.length = ps.length)
    (hbody : ∀ (f : Addr) (cdv : Value) (A : Around) (outer : List Env) (s : Shared) (H : Hp) (vs : List V) (Q : VK) (E : XK), Room k (A.deeper (envOfC qual (defScope st) s.heap.objs.size f cdv)) → sp vs H Q E →
      ∃ t, PSs (cxOf CX0 P w K mg base N qual (defScope st) f cdv A outer s H E).nox (defBody st) t ∧ t { nx := fun _ H' => Q .non H', rt := Q } (start N vs) H) : RefT P w K mg base CX0 (k + 1) x C ps sp := by
  obtain ⟨f, fd, F, g, m, b⟩ := F.ex
  exact ⟨f, fd, F.ok S len (hbody f), g, m, b⟩
theorem FnI.ok {x m qual : Str} {st : Stmt} {N ps : List Str} {k : Nat} {sp : Sp} (F : FnI K mg C x m qual st ps) (S : FnScope N ps (defScope st)) (len : ∀ vs H Q E, sp vs H Q E → vs.length = ps.length)
    (hbody : ∀ (f : Addr) (cdv : Value) (A : Around) (outer : List Env) (s : Shared) (H : Hp) (vs : List V) (Q : VK) (E : XK), Room k (A.deeper (envOfC qual (defScope st) s.heap.objs.size f cdv)) → sp vs H Q E →
      ∃ t, PSs (cxOf CX0 P w K mg base N qual (defScope st) f cdv A outer s H E).nox (defBody st) t ∧ t { nx := fun _ H' => Q .non H', rt := Q } (start N vs) H) : RefM P w K mg base CX0 (k + 1) x C ps sp := by
  obtain ⟨f, fd, F, g, m, b⟩ := F.ex
  exact ⟨f, fd, F.ok S len (hbody f), g, m, b⟩
theorem FnI.okX {x m qual : Str} {st : Stmt} {N ps : List Str} {k : Nat} {sp : Sp} (F : FnI K mg C x m qual st ps) (S : FnScope N ps (defScope st)) (len : ∀ vs H Q E, sp vs H Q E → vs.length = ps.length)
    (hbody : ∀ (f : Addr) (cdv : Value) (A : Around) (outer : List Env) (s : Shared) (H : Hp) (vs : List V) (Q : VK) (E : XK), Room k (A.deeper (envOfC qual (defScope st) s.heap.objs.size f cdv)) → sp vs H Q E →
      ∃ t, PSs (cxOf (L2.CX P w) P w K mg base N qual (defScope st) f cdv A outer s H E) (defBody st) t ∧ t { nx := fun _ H' => Q .non H', rt := Q } (start N vs) H) : RefM P w K mg base (L2.CX P w) (k + 1) x C ps sp := by
  obtain ⟨f, fd, F, g, m, b⟩ := F.ex
  exact ⟨f, fd, F.okX S len (hbody f), g, m, b⟩
end
section
variable {X : Cx} {k : Nat} {x : Str} {C : Addr} {ps : List Str} {sp : Sp} {p pos apos : Pos} {e o : Expr} {es : List Expr} {t : TA} {ta : TE} {m : Str}
theorem pe_mk (R : RefM X.prog X.w X.K X.mg X.base CX0 k x C ps sp) (hr : Room (k + 1) X.A) (ha : PA X (e :: es) t) (hg : Gl X x := by rfl) (hdb : (x == ("__debug__" : Str)) = false := by decide)
    (he : starEach (e :: es) X.env = (false, eval e X.env) :: starEach es X.env := by rfl) (hpl : (backTo pos (starEach es X.env)).any (·.1) = false := by rfl) : PE X (.Call (.Name x p) (e :: es) [] pos) (tMake C sp [] E0 t) := by
  obtain ⟨f, fd, F, M, g, b⟩ := R.ex
  exact pe_make M F hr hg g b .nil pass0 ha hdb he hpl
end
/-! ### reading -/
section
variable {K : PySem.W.Frag} {H : Hp} {Q : VK} {σ : L2.St} {D : Ends}
def rFld (K : PySem.W.Frag) (f : Str) (x : V) (H : Hp) (Q : VK) : Prop := ∃ a C dx fs v, x = .ref a ∧ H a = some (.ins C dx fs) ∧ Cls K C ∧ NoAttr K C f ∧ fs.lookup f = some v ∧ Q v H
theorem w_fldR {te : TE} {f : Str} (h : te σ H fun x H1 => rFld K f x H1 Q) : tFld K te f σ H Q := h
theorem r_level {C p d : Addr} {lv : Int} {ks : List Row} {mg : Str → Option Value} (h : RegAt C H p d lv ks) (rc : RegC K mg C) (q : Q (.int lv) H) : rFld K "level" (.ref p) H Q := by
  obtain ⟨⟨dx, h1⟩, _⟩ := h
  exact ⟨p, C, dx, _, _, rfl, h1, rc.cl, rc.nL, rflds_level lv d, q⟩
theorem r_lines {C p d : Addr} {lv : Int} {ks : List Row} {mg : Str → Option Value} (h : RegAt C H p d lv ks) (rc : RegC K mg C) (q : Q (.ref d) H) : rFld K "lines" (.ref p) H Q := by
  obtain ⟨⟨dx, h1⟩, _⟩ := h
  exact ⟨p, C, dx, _, _, rfl, h1, rc.cl, rc.nN, rflds_lines lv d, q⟩
def rSFld (K : PySem.W.Frag) (f : Str) (y x : V) (H : Hp) (R : Hp → Prop) : Prop := ∃ a C dx fs, x = .ref a ∧ H a = some (.ins C dx fs) ∧ Cls K C ∧ NoAttr K C f ∧ fs.length < 1000 ∧ R (upd H a (.ins C dx (putF f y fs)))
theorem w_sfld {ta tv : TE} {f : Str} (h : tv σ H fun y H1 => ta σ H1 fun x H2 => rSFld K f y x H2 fun H3 => D.nx σ H3) : sFld K ta tv f D σ H := h
theorem r_slevel {C p dx : Addr} {lv : Int} {mg : Str → Option Value} {R : Hp → Prop} (h : H p = some (.ins C dx [])) (rc : RegC K mg C) (q : R (upd H p (.ins C dx (putF "level" (.int lv) [])))) : rSFld K "level" (.int lv) (.ref p) H R :=
  ⟨p, C, dx, _, rfl, h, rc.cl, rc.nL, by show 0 < 1000; decide, q⟩
theorem r_slines {C p dx d : Addr} {lv : Int} {mg : Str → Option Value} {R : Hp → Prop} (h : H p = some (.ins C dx (putF "level" (.int lv) []))) (rc : RegC K mg C) (q : R (upd H p (.ins C dx (rflds lv d)))) : rSFld K "lines" (.ref d) (.ref p) H R :=
  ⟨p, C, dx, _, rfl, h, rc.cl, rc.nN, by show 1 < 1000; decide, q⟩
def rMeth (C : Addr) (m : Str) (H : Hp) (x : V) (R : Prop) : Prop := ∃ a dx fs, x = .ref a ∧ H a = some (.ins C dx fs) ∧ fs.lookup m = none ∧ R
theorem w_meth {C : Addr} {m : Str} {sp : Sp} {E : XK} {ta : TE} {t : TA} (h : ta σ H fun x H1 => rMeth C m H1 x (t σ H1 fun vs H2 => sp (x :: vs) H2 Q E)) : tMeth C m sp [] E ta t σ H Q := by
  show ta σ H fun x H1 => rMeth C m H1 x (t σ H1 fun vs H2 => sp (x :: (vs ++ [])) H2 Q E)
  simp only [List.append_nil]
  exact h
theorem r_meth {C p dx : Addr} {m : Str} {fs : List (Str × V)} {R : Prop} (h : H p = some (.ins C dx fs)) (n : fs.lookup m = none) (q : R) : rMeth C m H (.ref p) R := ⟨p, dx, fs, rfl, h, n, q⟩
theorem r_methR {C p d : Addr} {m : Str} {lv : Int} {ks : List Row} {R : Prop} (h : RegAt C H p d lv ks) (h1 : ¬ m = "lines") (h2 : ¬ m = "level") (q : R) : rMeth C m H (.ref p) R := by
  obtain ⟨⟨dx, ho⟩, _⟩ := h
  exact r_meth ho (rflds_no lv d h1 h2) q
def rMake (C : Addr) (sp : Sp) (E : XK) (vs : List V) (H : Hp) (Q : VK) : Prop := ∀ x dx, H x = none → H dx = none → dx ≠ x → sp (.ref x :: vs) (upd (upd H dx (.own x)) x (.ins C dx [])) (fun v H2 => v = .non ∧ Q (.ref x) H2) E
theorem w_make {C : Addr} {sp : Sp} {E : XK} {t : TA} (h : t σ H fun vs H1 => rMake C sp E vs H1 Q) : tMake C sp [] E t σ H Q := by
  show t σ H fun vs H1 => ∀ x dx, H1 x = none → H1 dx = none → dx ≠ x → sp (.ref x :: (vs ++ [])) (upd (upd H1 dx (.own x)) x (.ins C dx [])) (fun v H2 => v = .non ∧ Q (.ref x) H2) E
  simp only [List.append_nil]
  exact h
end
end Hx
namespace Hx
open PySem PySem.Spec PyProof.Rows L2
/-! ### rows that are not the list in which they stand -/
def RwtX (f : Addr) (H : Hp) : List V → List Row → Prop := Paired fun v r => ∃ a, v = .ref a ∧ a ≠ f ∧ H a = some (.lst (r.map V.int))
theorem RwtX.sm {f : Addr} {H H' : Hp} {vs : List V} {rs : List Row} (e : Same H H') (h : RwtX f H vs rs) : RwtX f H' vs rs := pr_mono (fun _ _ ⟨a, e1, n, h⟩ => ⟨a, e1, n, e _ _ h⟩) h
theorem RwtX.put {f : Addr} {H : Hp} {vs : List V} {rs : List Row} {o : HO} (h : RwtX f H vs rs) : RwtX f (upd H f o) vs rs := pr_mono (fun _ _ ⟨a, e1, n, h⟩ => ⟨a, e1, n, upd_at n h⟩) h
theorem RwtX.rwt {f : Addr} {H : Hp} {vs : List V} {rs : List Row} (h : RwtX f H vs rs) : Rwt H vs rs := pr_mono (fun _ _ ⟨a, e1, _, h⟩ => ⟨a, e1, h⟩) h
def TlsX (f : Addr) (H : Hp) : List V → List Row → Prop := Paired fun v r => Tl H v r
/-- everything but p stays -/
def But (p : Addr) (H H' : Hp) : Prop := ∀ b o, H b = some o → b ≠ p → H' b = some o
theorem But.refl {p : Addr} {H : Hp} : But p H H := fun _ _ h _ => h
theorem But.sm {p : Addr} {H H1 H2 : Hp} (h : But p H H1) (s : Same H1 H2) : But p H H2 := fun b o e n => s _ _ (h b o e n)
theorem But.put {p : Addr} {H H1 : Hp} {o : HO} (h : But p H H1) : But p H (upd H1 p o) := fun b u e n => upd_at n (h b u e n)
theorem But.mut {p q : Addr} {H H1 : Hp} {o : HO} (h : But p H H1) (n : H q = none) : But p H (upd H1 q o) := fun b u e k => upd_at (ne_of_none e n) (h b u e k)
theorem Same.but {p : Addr} {H H1 : Hp} (h : Same H H1) : But p H H1 := fun b u e _ => h b u e
theorem But.seqI {K : PySem.W.Frag} {p a C dx : Addr} {fs : List (Str × V)} {H H1 : Hp} {xs : List V} (h : But p H H1) (hp : H p = some (.ins C dx fs)) (g : SqL K H a xs) : SqL K H1 a xs := by
  rcases g with (g | ⟨o, g⟩) | g
  · exact .inl (.inl (h _ _ g (ne_of g hp (by intro z; cases z))))
  · exact .inl (.inr ⟨o, h _ _ g (ne_of g hp (by intro z; cases z))⟩)
  · exact .inr g
theorem But.seqD {K : PySem.W.Frag} {p a : Addr} {kvs : List (List Key × V)} {H H1 : Hp} {xs : List V} (h : But p H H1) (hp : H p = some (.dT kvs)) (g : SqL K H a xs) : SqL K H1 a xs := by
  rcases g with (g | ⟨o, g⟩) | g
  · exact .inl (.inl (h _ _ g (ne_of g hp (by intro z; cases z))))
  · exact .inl (.inr ⟨o, h _ _ g (ne_of g hp (by intro z; cases z))⟩)
  · exact .inr g
theorem But.lst {p a : Addr} {kvs : List (List Key × V)} {H H1 : Hp} {xs : List V} (h : But p H H1) (hp : H p = some (.dT kvs)) (g : H a = some (.lst xs)) : H1 a = some (.lst xs) := h _ _ g (ne_of g hp (by intro z; cases z))
theorem But.rwt {p : Addr} {kvs : List (List Key × V)} {H H1 : Hp} {vs : List V} {rs : List Row} (h : But p H H1) (hp : H p = some (.dT kvs)) (g : Rwt H vs rs) : Rwt H1 vs rs := pr_mono (fun _ _ ⟨a, e, h2⟩ => ⟨a, e, h.lst hp h2⟩) g
theorem But.ins {p a C dx : Addr} {fs : List (Str × V)} {kvs : List (List Key × V)} {H H1 : Hp} (h : But p H H1) (hp : H p = some (.dT kvs)) (g : H a = some (.ins C dx fs)) : H1 a = some (.ins C dx fs) := h _ _ g (ne_of g hp (by intro z; cases z))
theorem growN_row {n : Nat} {b r : Row} (h : r ∈ growN n [b]) : r.length = b.length + n := by
  obtain ⟨r0, h0, e, _, hn, rfl⟩ := mem_growN.mp h
  rw [List.mem_singleton] at h0
  subst h0
  rw [List.length_append, hn]
theorem figs7_at {m : Nat} (h : m < 7) : figs7[m]? = some (m : Int) := by
  have : ∀ m : Nat, m < 7 → figs7[m]? = some (m : Int) := by decide
  exact this m h
theorem grow_snoc {rs : List Row} {i : Nat} {r : Row} (h : rs[i]? = some r) : grow (rs.take (i + 1)) = grow (rs.take i) ++ figs7.map fun f => r ++ [f] := by
  rw [take_snoc h]
  unfold grow
  rw [List.flatMap_append]
  simp
end Hx

/-! # rules that the layer lacks: max with default=, sorted and count of rows, dicts keyed by tuples -/
namespace Hx
open PySem PySem.Spec PyProof.Rows L2
section
variable {K : PySem.W.Frag} {H : Hp} {Q : VK}
/-! ### max(list of ints, default=d) -/
def rMaxD (K : PySem.W.Frag) : List V → List V → Hp → VK → Prop := fun vs zs H Q => ∃ (a : Addr) (ns : List Int) (d : Int), vs = [.ref a] ∧ zs = [.int d] ∧ SqL K H a (ns.map V.int) ∧ (ns = [] → Q (.int d) H) ∧ (∀ m, m ∈ ns → (∀ y, y ∈ ns → y ≤ m) → Q (.int m) H)
theorem foldl_max (n : Int) : ∀ ns : List Int, ns.foldl max n ∈ n :: ns ∧ ∀ y ∈ n :: ns, y ≤ ns.foldl max n := fun ns => by
  induction ns generalizing n with
  | nil => exact ⟨List.mem_cons_self, fun y hy => by rw [List.mem_singleton] at hy; subst hy; exact Int.le_refl _⟩
  | cons m r ih =>
    obtain ⟨h1, h2⟩ := ih (max n m)
    show (r.foldl max (max n m)) ∈ _ ∧ ∀ y ∈ n :: m :: r, y ≤ r.foldl max (max n m)
    refine ⟨?_, fun y hy => ?_⟩
    · rcases List.mem_cons.mp h1 with e | e
      · rw [e]
        by_cases h : n ≤ m
        · rw [Int.max_eq_right h]; exact List.mem_cons_of_mem _ List.mem_cons_self
        · rw [Int.max_eq_left (by omega)]; exact List.mem_cons_self
      · exact List.mem_cons_of_mem _ (List.mem_cons_of_mem _ e)
    · have h3 := h2 (max n m) List.mem_cons_self
      rcases List.mem_cons.mp hy with e | e
      · subst e; omega
      · rcases List.mem_cons.mp e with e | e
        · subst e; omega
        · exact h2 y (List.mem_cons_of_mem _ e)
theorem alike_all_ints (ns : List Int) : PySem.W.AlikeAll (ns.map PyData.int) := by
  refine ⟨fun x hx y hy => ?_, fun x hx => ?_⟩
  · obtain ⟨i, _, rfl⟩ := List.mem_map.mp hx
    obtain ⟨j, _, rfl⟩ := List.mem_map.mp hy
    rfl
  · obtain ⟨i, _, rfl⟩ := List.mem_map.mp hx
    intro z; cases z
end
section
variable {X : Cx}
theorem cl_maxD (hc : X.calm = true) (hu : X.A.units + 2 < cLine) : CallRK X (.builtin "max") [Str.ofString "default"] (rMaxD X.K) := by
  intro pins s σ H xs zs us ws Q I r rz h
  obtain ⟨a, ns, d, rfl, rfl, hs, q0, q1⟩ := h
  obtain rfl := Vals.ref1 r
  obtain ⟨w1, rfl, t, rfl⟩ := vals1 rz
  obtain ⟨its, rv, hl, _⟩ := I.list hs
  obtain ⟨as, hr⟩ := Dp.readsAll I _ _ its (dpAll_ints ns) rv
  have hd := depth_ints ns
  refine PySem.W.max_list_default (vs := its.toArray) (I.ok.hd hc) hl.isList (by simpa using hr) (alike_all_ints ns) (by omega) (fun e h' tk kp => ?_) (fun y ys i v h' tk bs e hv hrd kp => ?_)
  · have e0 : ns = [] := by simpa using e
    exact ⟨.int d, H, I.kept kp, ⟨t, rfl⟩, q0 e0⟩
  · cases ns with
    | nil => simp at e
    | cons n r2 =>
      simp only [List.map_cons, List.cons.injEq] at e
      obtain ⟨rfl, rfl⟩ := e
      rw [PySem.W.maxD_ints] at hrd
      obtain ⟨g1, g2⟩ := foldl_max n r2
      generalize r2.foldl max n = m at hrd g1 g2
      cases hrd with
      | int _ t2 => exact ⟨.int m, H, I.kept kp, ⟨t2, rfl⟩, q1 m g1 g2⟩
end
section
variable {K : PySem.W.Frag} {H : Hp} {Q : VK} {σ : L2.St}
theorem w_CKw {r : List V → List V → Hp → VK → Prop} {t tk : TA} (h : t σ H fun vs H1 => tk σ H1 fun zs H2 => r vs zs H2 Q) : tCKw r t tk σ H Q := h
theorem r_maxD {a : Addr} {ns : List Int} {d : Int} (h : SqL K H a (ns.map V.int)) (q0 : ns = [] → Q (.int d) H) (q1 : ∀ m, m ∈ ns → (∀ y, y ∈ ns → y ≤ m) → Q (.int m) H) : rMaxD K [.ref a] [.int d] H Q := ⟨a, ns, d, rfl, rfl, h, q0, q1⟩
end
end Hx

/-! # sorted: of rows (lists or tuples of ints, any number of them), of dicts keyed by tuples of ints -/
namespace Hx
open PySem PySem.Spec PySem.Calls PySem.W PyProof.Rows L2
/-- a row as data: a tuple or a list -/
def encR (tup : Bool) (r : List Int) : PyData := if tup then .tuple (r.map PyData.int) else .list (r.map PyData.int)
theorem encR_depth (tup : Bool) (r : List Int) : (encR tup r).depth = 1 := by
  cases tup
  · show PyData.depth (.list (r.map PyData.int)) = 1
    rw [PyData.depth, Hx.depth_ints]
  · show PyData.depth (.tuple (r.map PyData.int)) = 1
    rw [PyData.depth, Hx.depth_ints]
theorem encR_alike (tup : Bool) (r q : List Int) : alike (encR tup r) (encR tup q) = true := by
  cases tup
  · show alike (.list _) (.list _) = true
    rw [alike, alike_ints]
  · show alike (.tuple _) (.tuple _) = true
    rw [alike, alike_ints]
theorem encR_lt (tup : Bool) (r q : List Int) : dataLt (encR tup r) (encR tup q) = decide (r < q) := by
  cases tup
  · exact (dataLt_list _ _).trans (dataLt_ints r q)
  · exact (dataLt_tuple _ _).trans (dataLt_ints r q)
theorem le_encR (tup : Bool) : dataLe false (fun b : V × List Int => encR tup b.2) = fun p q => decide (p.2 ≤ q.2) := by
  funext p q
  have e : dataLe false (fun b : V × List Int => encR tup b.2) p q = !dataLt (encR tup q.2) (encR tup p.2) := rfl
  rw [e, encR_lt]
  by_cases h : q.2 < p.2
  · rw [decide_eq_true h, decide_eq_false (fun r => List.not_lt.mpr r h)]
    rfl
  · rw [decide_eq_false h, decide_eq_true (List.not_lt.mp h)]
    rfl
theorem sorted_rows (bs : List (V × List Int)) : (bs.mergeSort fun p q => decide (p.2 ≤ q.2)).Pairwise fun x y => x.2 ≤ y.2 := by
  have := List.pairwise_mergeSort (le := fun p q : V × List Int => decide (p.2 ≤ q.2)) (fun a b c h1 h2 => decide_eq_true (List.le_trans (of_decide_eq_true h1) (of_decide_eq_true h2))) (fun a b => by
    rcases List.le_total a.2 b.2 with h | h
    · rw [decide_eq_true h]; rfl
    · rw [decide_eq_true h, Bool.or_true]) bs
  exact this.imp fun h => of_decide_eq_true h
section
variable {prog : Program} {w : World} {A : Around} {E : Value → Shared → Prop} {s : Shared}
theorem each_perm {R : Value → V × List Int → Prop} : ∀ {vs : List Value} {bs : List (V × List Int)}, EachIs R vs bs → ∀ {out : List Value}, out.Perm vs → vs.length < 2 → EachIs R out bs
  | [], _, .nil, _, p, _ => by rw [List.Perm.eq_nil p]; exact .nil
  | [v], _, .cons h t, _, p, _ => by rw [List.perm_singleton.mp p]; exact .cons h t
  | _ :: _ :: _, _, _, _, _, z => absurd z (by simp)
theorem pair_short {R : V × List Int → V × List Int → Prop} : ∀ {bs : List (V × List Int)}, bs.length < 2 → bs.Pairwise R
  | [], _ => .nil
  | [_], _ => List.pairwise_singleton _ _
  | _ :: _ :: _, z => absurd z (by simp)
/-- xs.sort() of rows -/
theorem sort_rows {a : Addr} {vs : List Value} {n : Nat} {bs : List (V × List Int)} {tup : Bool} {P : PySem.Fin → Shared → Prop} (ho : s.heap.get? a = some (seqObj "list" vs.toArray n))
    (e : EachIs (fun v b => RelV b.1 v) vs bs) (er : EachIs (fun v b => ∃ as, Reads (sortingHeap s.heap a vs) v (encR tup b.2) as) vs bs) (hz : vs.length ≤ sizeLine) (hk : vs.length < 2 ∨ (tup = true → ∀ b ∈ bs, b.2 ≠ [])) (hu : A.units + 1 < cLine)
    (h : ∀ (out : List Value) (bs' : List (V × List Int)), bs'.Perm bs → bs'.Pairwise (fun x y => x.2 ≤ y.2) → EachIs (fun v b => RelV b.1 v) out bs' → P (.done (.ret .none)) { s with heap := sortedHeap s.heap a vs out.toArray }) :
    wpAny (model prog w) A (Builtin.«list.sort» ⟨[.ref a], []⟩) P E s := by
  by_cases h2 : vs.length < 2
  · refine SrtO.list_sort_ord (ltv := fun _ _ => false) ⟨fun _ _ _ => rfl, fun _ _ _ _ _ => rfl⟩ ho hz (fun z => absurd z (by omega)) fun out _ st => ?_
    exact h out bs (List.Perm.refl _) (pair_short (by rw [← e.length]; exact h2)) (each_perm e st.perm h2)
  · have hne := hk.resolve_left h2
    have hal : AllAlike (bs.map fun b => encR tup b.2) := AllAlike.of fun b b' => encR_alike tup b.2 b'.2
    have hsk : Sortable (bs.map fun b => encR tup b.2) := by
      cases tup with
      | true =>
        refine .inl fun d hd => ?_
        obtain ⟨b, hb, rfl⟩ := List.mem_map.mp hd
        have := hne rfl b hb
        obtain ⟨v, r⟩ := b
        cases r with
        | nil => exact absurd rfl this
        | cons x r => exact ⟨_, _, rfl⟩
      | false =>
        refine .inr fun d hd => ?_
        obtain ⟨b, hb, rfl⟩ := List.mem_map.mp hd
        exact ⟨fun z => (by cases z), fun _ z => (by cases z)⟩
    have hS := SortsAt.data (prog := prog) (w := w) (A := A) (s := { s with heap := sortingHeap s.heap a vs }) (each_map (R := fun v d => ∃ as, Reads (sortingHeap s.heap a vs) v d as) (fun b : V × List Int => encR tup b.2) er) hal hsk (fun d hd => by
      obtain ⟨b, _, rfl⟩ := List.mem_map.mp hd
      rw [encR_depth]
      exact hu)
    refine list_sort_vals ho hS hz (h _ (bs.mergeSort fun p q => decide (p.2 ≤ q.2)) (List.mergeSort_perm _ _) (sorted_rows bs) ?_)
    have := sortVals_data false e er hal
    rw [le_encR] at this
    exact this
end
theorem each_zip : ∀ {vs : List V} {us : List Value} {rs : List (List Int)}, Vals vs us → vs.length = rs.length → EachIs (fun v b => RelV b.1 v) us (vs.zip rs)
  | [], _, [], .nil, _ => .nil
  | _ :: _, _, _ :: _, .cons r t, h => .cons r (each_zip t (by simpa using h))
  | [], _, _ :: _, _, h => by simp at h
  | _ :: _, _, [], _, h => by simp at h
theorem vals_each : ∀ {us : List Value} {bs : List (V × List Int)}, EachIs (fun v b => RelV b.1 v) us bs → Vals (bs.map (·.1)) us
  | _, _, .nil => .nil
  | _, _, .cons r t => .cons r (vals_each t)
section
variable {X : Cx}
theorem each_reads {pins : List (Addr × Obj)} {σ : L2.St} {H : Hp} {s : Shared} {tup : Bool} {h' : Heap} (I : Inv X pins σ H s) (k : ∀ b o, s.heap.get? b = some o → h'.get? b = some o) : ∀ {vs : List V} {us : List Value} {rs : List (List Int)}, Vals vs us → Paired (fun v r => Dp X.K H v (encR tup r)) vs rs →
    EachIs (fun v b => ∃ as, Reads h' v (encR tup b.2) as) us (vs.zip rs)
  | _, _, _, .nil, .nil => .nil
  | _, _, _, .cons r t, .cons d u => by
    obtain ⟨as, q⟩ := Dp.reads I _ _ _ d r
    exact .cons ⟨as, Reads.keeps k q⟩ (each_reads I k t u)
/-- sorted(xs), xs a list of rows -/
def rSortRows (K : PySem.W.Frag) (tup : Bool) : List V → Hp → VK → Prop := fun vs H Q => ∃ (a : Addr) (ws : List V) (rs : List (List Int)), vs = [.ref a] ∧ SqL K H a ws ∧ Paired (fun v r => Dp K H v (encR tup r)) ws rs ∧ (ws.length < 2 ∨ (tup = true → ∀ r ∈ rs, r ≠ [])) ∧
  ∀ (bs : List (V × List Int)) p, bs.Perm (ws.zip rs) → bs.Pairwise (fun x y => x.2 ≤ y.2) → H p = none → Q (.ref p) (upd H p (.lst (bs.map (·.1))))
theorem mem_zip2 {ws : List V} {rs : List (List Int)} {b : V × List Int} (h : b ∈ ws.zip rs) : b.2 ∈ rs := (List.of_mem_zip h).2
theorem cl_sortRows {tup : Bool} (hu : X.A.units + 64 < cLine) : CallR X (.builtin "sorted") (rSortRows X.K tup) := by
  intro pins s σ H vs us Q I r h
  obtain ⟨a, ws, rs, rfl, hs, hp, hk, q⟩ := h
  obtain ⟨its, rv, hl, hz⟩ := I.list hs
  rw [Vals.ref1 r]
  have hlen := rv.length
  have hpl := Paired.length hp
  refine sorted_of_sort hl.isList (by rw [← hlen]; exact hz) (args_sorted1 _) (fun _ => args_list_sort _) fun E' => ?_
  refine sort_rows (s := { s with heap := copyHeap s.heap its }) (tup := tup) (copyHeap_at s.heap its) (each_zip rv hpl) (each_reads I (fun _ _ => sorting_copy_old) rv hp) (by rw [← hlen]; exact hz)
    (hk.imp (fun z => by rw [← hlen]; exact z) fun z t b hb => z t _ (mem_zip2 hb)) (by show X.A.units + 2 + 1 < _; omega) fun out bs pm pw ei => ⟨rfl, ?_⟩
  have hov := vals_each ei
  have hbl : (bs.map (·.1)).length ≤ sizeLine := by
    rw [List.length_map, pm.length_eq, List.length_zip, hpl, Nat.min_self, ← hpl]
    exact hz
  obtain ⟨ep, he'⟩ := sortedAll_at s.heap its out.toArray
  exact ⟨.ref _, upd H (s.heap.objs.size + 1) (.lst (bs.map (·.1))), I.laid (t' := s.toks) (fun _ _ => sortedAll_old) (Nat.le_succ _) ⟨hbl, out, ep, hov, he'⟩, rfl, q bs _ pm pw (I.hok.fresh (Nat.le_succ _))⟩
end
end Hx

/-! # the constructor called where it may raise -/
namespace Hx
open PySem PySem.Spec PyProof.Rows L2
theorem u64 {k : Nat} {A : Around} (r : Room k A) : A.units + 64 < cLine := by
  have := r.un
  omega
theorem u2 {k : Nat} {A : Around} (r : Room k A) : A.units + 2 < cLine := by
  have := r.un
  omega
section
variable {X : Cx} {CX : CXT} {k : Nat} {f C : Addr} {fd : FuncData} {ps : List Str} {sp : Sp} {x : Str} {p pos : Pos} {e : Expr} {es : List Expr} {t : TA}
theorem run_mkS {E : XK} {pins : List (Addr × Obj)} {σ : L2.St} {H : Hp} {s : Shared} {Q : VK} {us : List Value} {vs : List V} (M : Mk X.K C f) (F : FnOk X.prog X.w X.K X.mg X.base CX k f fd ps sp) (room : Room (k + 1) X.A) (hb : Binds X.K fd ps [])
    (out : PassesAt CX X σ E) (I : Inv X pins σ H s) (rv : Vals vs us) (h : rMake C sp E vs H Q) : wpAny (model X.prog X.w) X.A (call (.ref C) us) (EP X pins σ Q) X.xe s := by
  obtain ⟨n, hn⟩ : ∃ n, n = s.heap.objs.size := ⟨_, rfl⟩
  have go := h (n + 1) n (I.hok.fresh (by omega)) (I.hok.fresh (by omega)) (Nat.ne_of_lt (Nat.lt_succ_self n))
  have J := Inv.made (C := C) I; rw [← hn] at J
  have rv2 : Vals (V.ref (n + 1) :: vs) (Value.ref (n + 1) :: us) := .cons rfl rv
  have hl : (Value.ref (n + 1) :: us).length = ps.length := by rw [← rv2.length, F.len _ _ _ _ go]
  have bd := hb _ (Value.ref (n + 1) :: us) J.kIn (by rw [List.append_nil, hl]); rw [List.append_nil] at bd
  refine wpAny_call (make_map (f := f) I.kIn M.makes M.init (beq_iff_eq.mp M.fn) ?_); rw [← hn]
  refine codeAny_mono (F.run _ X.stack _ _ _ _ _ _ E (room.make C us []) (J.env0.make C us []) bd rv2 go) (fun z s' hz => ?_)
  match z, hz with
  | .error e, hz => exact out pins _ _ e s' J hz
  | .ok (.ret u), hz =>
    obtain ⟨v, H', J3, rw3, ⟨rfl, q⟩⟩ := J.after hz
    exact ⟨rw3, V.ref (n + 1), H', J3, rfl, q⟩
  | .ok .next, hz => exact hz.elim
  | .ok .brk, hz => exact hz.elim
  | .ok .cont, hz => exact hz.elim
def tMakeS (C : Addr) (sp : Sp) (E : L2.St → XK) (t : TA) : TE := fun σ H Q => t σ H fun vs H1 => rMake C sp (E σ) vs H1 Q
theorem pe_mkX {W : WX} (R : RefM X.prog X.w X.K X.mg X.base (L2.CX X.prog X.w) k x C ps sp) (room : Room (k + 1) X.A) (tk : Takes X W) (ha : PA X (e :: es) t) (hg : Gl X x := by rfl) (hdb : (x == ("__debug__" : Str)) = false := by decide)
    (he : starEach (e :: es) X.env = (false, eval e X.env) :: starEach es X.env := by rfl) (hpl : (backTo pos (starEach es X.env)).any (·.1) = false := by rfl) : PE X (.Call (.Name x p) (e :: es) [] pos) (tMakeS C sp (WE W) t) := by
  obtain ⟨f, fd, F, M, g, b⟩ := R.ex
  refine ⟨fun pins s σ H Q I h => wpAny_Call_Name_kw (ld_glob I hg g ?_ hdb)⟩
  refine PySem.W.callWith_K (h₀ := X.base) I.ok.mod.kin M.kp (thn (ha.run pos pins s σ H _ I h) fun us s1 ⟨vs, H1, I1, rv, q⟩ => ⟨I1.kIn, run_mkS M F room b (passAt tk σ) I1 rv q⟩) he hpl
theorem w_makeS {E : L2.St → XK} {σ : L2.St} {H : Hp} {Q : VK} (h : t σ H fun vs H1 => rMake C sp (E σ) vs H1 Q) : tMakeS C sp E t σ H Q := h
end
end Hx

/-! # stops, comprehensions that make lists -/
namespace Hx
open PySem PySem.Spec PyProof.Rows L2
/-- where the walk is to stand still -/
def tStop (t : TS) : TS := t
theorem ps_stop {X : Cx} {st : Stmt} {t : TS} (h : PS X st t) : PS X st (tStop t) := h
section
variable {K : PySem.W.Frag} {D : Ends} {σ : L2.St} {H : Hp} {Q : VK} {te : TE} {c : TT} {t u : TS}
theorem w_stop (h : t D σ H) : tStop t D σ H := h
/-- what an assignment's value is, is shown once -/
theorem w_asgK {g : TG} (P : V → Hp → Prop) (key : ∀ x H', P x H' → g x σ H' D.nx) (h : ∀ Q' : VK, (∀ x H', P x H' → Q' x H') → te σ H Q') : tAsg te g D σ H := h _ key
/-- what a test's answer is, is shown once -/
theorem w_ifK (P : Bool → Hp → Prop) (key : ∀ b H', P b H' → if b = true then t D σ H' else u D σ H') (h : ∀ B' : Bool → Hp → Prop, (∀ b H', P b H' → B' b H') → c σ H B') : tIfS c t u D σ H := h _ key
theorem w_retK (P : V → Hp → Prop) (key : ∀ x H', P x H' → D.rt x H') (h : ∀ Q' : VK, (∀ x H', P x H' → Q' x H') → te σ H Q') : tRet te D σ H := h _ key
/-- a list of new rows out of a list -/
theorem c_rowsL {a : Addr} {ws : List V} {j : Nat} {vs : List Nat} (g : Nat → Row) (hS : SqL K H a ws) (hz : ws.length ≤ 100000) (hw : ∀ x : V, wipe ((wipe σ vs).set j (some x)) vs = wipe σ vs)
    (hs : ∀ i v H' (R : VK), ws[i]? = some v → Same H H' → (∀ p H4, Same H' H4 → H' p = none → H4 p = some (.lst ((g i).map V.int)) → R (.ref p) H4) → te ((wipe σ vs).set j (some v)) H' R)
    (hd : ∀ l us H', Same H H' → H l = none → H' l = some (.lst us) → RwtX l H' us ((List.range ws.length).map g) → us.Nodup → Q (.ref l) H') : lcR (gName j) tYes te vs σ Q (Itl K a) H := by
  refine c_list (xs := ws) (fun D i H' => i ≤ ws.length ∧ Same H H' ∧ ∃ us, H' D = some (.lst us) ∧ RwtX D H' us ((List.range i).map g) ∧ us.Nodup) (fun D hD => ⟨Nat.zero_le _, same_new hD, [], upd_same, .nil, List.nodup_nil⟩) (fun D i H' hD hi ⟨_, s, _⟩ => s.seq hS) (fun D i x H' hD hx ⟨hi, s, us, hu, hr, nd⟩ => ?_) (fun D H' hD ⟨_, s, us, hu, hr, nd⟩ => hd D us H' s hD hu hr nd)
  have hl := (List.getElem?_eq_some_iff.mp hx).1
  have hul : us.length = i := by
    have := pr_len hr
    rw [List.length_map, List.length_range] at this
    exact this
  refine ⟨hw _, w_put1 (hs i x H' _ hx s fun p H4 s4 hp h4 => ⟨us, s4 _ _ hu, Nat.lt_of_le_of_lt (show us.length ≤ 100000 by omega) (by decide), hl, (s.trans s4).mut hD, us ++ [.ref p], upd_same, ?_, ?_⟩)⟩
  · have hne : p ≠ D := (ne_of_none hu hp).symm
    rw [List.range_succ, List.map_append]
    exact pr_snoc (RwtX.sm s4 hr).put ⟨p, rfl, hne, upd_at hne h4⟩
  · rw [List.nodup_append]
    refine ⟨nd, by simp, fun x hx y hy => ?_⟩
    rw [List.mem_singleton] at hy
    subst hy
    intro e
    subst e
    obtain ⟨i2, hi2⟩ := List.getElem?_of_mem hx
    obtain ⟨r, _, b, eb, _, hb⟩ := pr_get hr hi2
    cases eb
    rw [hp] at hb
    cases hb
theorem range_getD {rs : List Row} {n : Nat} (h : n = rs.length) : (List.range n).map (fun i => rs.getD i []) = rs := by
  subst h
  refine List.ext_getElem? fun i => ?_
  by_cases hi : i < rs.length
  · rw [List.getElem?_map, List.getElem?_range hi, List.getElem?_eq_getElem hi]
    show some (rs.getD i []) = _
    rw [List.getD_eq_getElem?_getD, List.getElem?_eq_getElem hi]
    rfl
  · rw [List.getElem?_eq_none (by rw [List.length_map, List.length_range]; omega), List.getElem?_eq_none (by omega)]
/-- [list(row) for row in rows] -/
theorem c_copyRows {a : Addr} {ws : List V} {rows : List Row} {j : Nat} {vs : List Nat} (hS : SqL K H a ws) (hW : Rws K H ws rows) (hz : ws.length ≤ 100000) (hw : ∀ x : V, wipe ((wipe σ vs).set j (some x)) vs = wipe σ vs)
    (hs : ∀ b r H' (R : VK), SqL K H' b (List.map V.int r) → (∀ p, H' p = none → R (.ref p) (upd H' p (.lst (List.map V.int r)))) → te ((wipe σ vs).set j (some (.ref b))) H' R)
    (hd : ∀ l us H', Same H H' → H l = none → H' l = some (.lst us) → RwtX l H' us rows → us.Nodup → Q (.ref l) H') : lcR (gName j) tYes te vs σ Q (Itl K a) H := by
  refine c_rowsL (fun i => rows.getD i []) hS hz hw (fun i v H' R hv s k => ?_) (fun l us H' s hn hl hr nd => ?_)
  · obtain ⟨r, hr, b, rfl, hb⟩ := pr_get hW hv
    have e : rows.getD i [] = r := by
      rw [List.getD_eq_getElem?_getD, hr]
      rfl
    refine hs b r H' R (s.seq hb) fun p hp => k p _ (same_new hp) hp ?_
    rw [e]
    exact upd_same
  · rw [range_getD (pr_len hW)] at hr
    exact hd l us H' s hn hl hr nd
end
theorem Rwt.set {H : Hp} {ra : Addr} {r' : Row} : ∀ {ws : List V} {rows : List Row} {i : Nat}, Rwt H ws rows → ws.Nodup → ws[i]? = some (.ref ra) → Rwt (upd H ra (.lst (r'.map V.int))) ws (rows.set i r')
  | _, _, _, .nil, _, h => by simp at h
  | _ :: ws, _ :: rows, 0, .cons ⟨b, e, hb⟩ t, nd, h => by
    obtain rfl : _ = V.ref ra := Option.some.inj h
    rw [List.nodup_cons] at nd
    exact .cons ⟨ra, rfl, upd_same⟩ (Rwt.put t fun a ha e2 => nd.1 (e2 ▸ ha))
  | _ :: ws, _ :: rows, i + 1, .cons ⟨b, e, hb⟩ t, nd, h => by
    rw [List.nodup_cons] at nd
    have h2 : ws[i]? = some (.ref ra) := by simpa using h
    have hne : b ≠ ra := fun e2 => nd.1 (by rw [e, e2]; exact List.mem_of_getElem? h2)
    exact .cons ⟨b, e, upd_at hne hb⟩ (Rwt.set t nd.2 h2)
end Hx

local macro_rules | `(tactic| walk_at "fact") => `(tactic| (with_reducible first
  | assumption
  | exact Hx.Pl.new
  | exact Hx.Tp.new
  | exact Hx.Tp.pl (by assumption)
  | ((refine' Hx.Tp.sm ?hs ?hp); (case hs => first | assumption | exact Hx.same_new (by assumption)); (case hp => walk_at "fact"))
  | ((refine' Hx.Tp.putr ?hs ?hp); (case hs => walk_at "ofc"); (case hp => walk_at "fact"))
  | ((refine' Hx.Tp.putd ?hs ?hp); (case hs => walk_at "ofd"); (case hp => walk_at "fact"))
  | exact Hx.sqT_new
  | exact Hx.sqL_new
  | ((refine' Hx.Pl.sm ?hs ?hp); (case hs => first | assumption | exact Hx.same_new (by assumption)); (case hp => walk_at "fact"))
  | ((refine' Hx.Pl.putr ?hs ?hp); (case hs => walk_at "ofc"); (case hp => walk_at "fact"))
  | ((refine' Hx.Pl.putd ?hs ?hp); (case hs => walk_at "ofd"); (case hp => walk_at "fact"))
  | ((refine' Hx.Pls.putd ?hs ?hp); (case hs => walk_at "ofd"); (case hp => walk_at "fact"))
  | ((refine' Hx.SqT_putd ?hs ?hp); (case hs => walk_at "ofd"); (case hp => walk_at "fact"))
  | ((refine' Hx.SqL_putd ?hs ?hp); (case hs => walk_at "ofd"); (case hp => walk_at "fact"))
  | ((refine' Hx.Pls.sm ?hs ?hp); (case hs => first | assumption | exact Hx.same_new (by assumption)); (case hp => walk_at "fact"))
  | ((refine' Hx.Rws.sm ?hs ?hp); (case hs => first | assumption | exact Hx.same_new (by assumption)); (case hp => walk_at "fact"))
  | ((refine' Hx.Pls.putr ?hs ?hp); (case hs => walk_at "ofc"); (case hp => walk_at "fact"))
  | ((refine' L2.Same.seq ?hs ?hp); (case hs => first | assumption | exact Hx.same_new (by assumption)); (case hp => walk_at "fact"))
  | ((refine' L2.Same.seqT ?hs ?hp); (case hs => first | assumption | exact Hx.same_new (by assumption)); (case hp => walk_at "fact"))
  | ((refine' L2.SqL.of ?hs); (case hs => walk_at "ofact"))
  | ((refine' L2.SqT.of ?hs); (case hs => walk_at "ofact"))
  | ((refine' Hx.SqT_putr ?hs ?hp); (case hs => walk_at "ofc"); (case hp => walk_at "fact"))))
local macro_rules | `(tactic| walk_at "go") => `(tactic| first
  | with_reducible refine Hx.w_seq ?_
  | with_reducible refine Hx.w_op ?_
  | ((with_reducible refine' Hx.w_var ?hv ?_); (case hv => exact rfl))
  | with_reducible refine Hx.w_c ?_
  | with_reducible refine Hx.w_cons ?_
  | with_reducible refine Hx.w_nil ?_
  | with_reducible refine Hx.r_I0 ?_
  | ((with_reducible refine' Hx.r_I ?hc ?_); (case hc => walk_at "ric"))
  | with_reducible refine Hx.w_blk ?_
  | with_reducible refine Hx.w_test ?_
  | with_reducible refine Hx.w_asg ?_
  | with_reducible refine Hx.w_gName ?_
  | with_reducible refine Hx.w_ret ?_
  | with_reducible refine Hx.w_ifS ?_
  | with_reducible refine Hx.w_drop ?_
  | with_reducible refine Hx.w_next ?_
  | with_reducible refine Hx.w_retN ?_
  | with_reducible refine Hx.w_cont ?_
  | with_reducible refine Hx.w_break ?_
  | with_reducible refine Hx.w_un ?_
  | with_reducible refine Hx.r_U ?_
  | ((with_reducible refine' Hx.r_ixP0 ?hp ?_); (case hp => walk_at "fact"))
  | ((with_reducible refine' Hx.r_ixP1 ?hp ?_); (case hp => walk_at "fact"))
  | with_reducible refine Hx.w_tTup ?_
  | with_reducible refine Hx.w_tLst ?_
  | ((with_reducible refine' Hx.w_dispT ?hz fun p hp => ?_); (case hz => exact Nat.le_of_ble_eq_true rfl))
  | with_reducible refine Hx.w_dispL1 fun p hp => ?_
  | with_reducible refine Hx.w_dispL2 fun p hp => ?_
  | ((with_reducible refine' Hx.w_dispL ?hz fun p hp => ?_); (case hz => exact Nat.le_of_ble_eq_true rfl))
  | with_reducible refine Hx.r_eqI ?_
  | with_reducible refine Hx.r_neI ?_
  | with_reducible refine Hx.r_eqB ?_
  | with_reducible refine Hx.r_neB ?_
  | ((with_reducible refine' Hx.r_eqPl ?hp ?hq ?_); (case hp => walk_at "fact"); (case hq => walk_at "fact"))
  | ((with_reducible refine' Hx.r_nePl ?hp ?hq ?_); (case hp => walk_at "fact"); (case hq => walk_at "fact"))
  | ((with_reducible refine' Hx.r_eqIL ?hp ?hq ?_); (case hp => walk_at "fact"); (case hq => walk_at "fact"))
  | ((with_reducible refine' Hx.r_neIL ?hp ?hq ?_); (case hp => walk_at "fact"); (case hq => walk_at "fact"))
  | ((with_reducible refine' Hx.r_rep1 ?hp ?h0 ?h1 ?_); (case hp => walk_at "ofact"); (case h0 => omega); (case h1 => omega); (intro p hp))
  | ((with_reducible refine' Hx.r_rep ?hp ?h0 ?h1 ?hz ?_); (case hp => walk_at "ofact"); (case h0 => omega); (case h1 => omega); (case hz => exact Nat.le_of_ble_eq_true rfl); (intro p hp))
  | ((with_reducible refine' Hx.r_slL ?hp ?_); (case hp => walk_at "fact"); (intro p hp))
  | with_reducible refine Hx.w_call ?_
  | with_reducible refine Hx.w_CB ?_
  | with_reducible refine Hx.w_tB ?_
  | with_reducible refine Hx.w_and ?_
  | with_reducible refine Hx.w_or ?_
  | with_reducible refine Hx.w_not ?_
  | with_reducible refine Hx.w_andV ?_
  | with_reducible refine Hx.w_orV ?_
  | with_reducible refine Hx.w_notV ?_
  | with_reducible refine Hx.w_ifV ?_
  | with_reducible refine Hx.w_chain ?_
  | with_reducible refine Hx.w_BM0 ?_
  | with_reducible refine Hx.w_BM ?_
  | with_reducible refine Hx.w_sl ?_
  | with_reducible refine Hx.w_noPart ?_
  | with_reducible refine Hx.w_part ?_
  | with_reducible refine Hx.w_partI ?_
  | with_reducible refine L2.iteT ?_
  | with_reducible refine L2.iteF ?_
  | with_reducible refine Hx.ite_nt ?_
  | ((with_reducible refine' L2.iteNS ?hc ?_); (case hc => first | exact rfl | assumption | omega))
  | ((with_reducible refine' Hx.ite_eqT ?hc ?_); (case hc => assumption))
  | ((with_reducible refine' Hx.ite_eqF ?hc ?_); (case hc => assumption))
  | ((with_reducible refine' Hx.ite_neT ?hc ?_); (case hc => assumption))
  | ((with_reducible refine' Hx.ite_neF ?hc ?_); (case hc => assumption))
  | ((with_reducible refine' Hx.ite_dT ?hc ?_); (case hc => first | exact rfl | assumption | omega))
  | ((with_reducible refine' Hx.ite_dF ?hc ?_); (case hc => first | assumption | omega))
  | ((with_reducible refine' Hx.ite_ndF ?hc ?_); (case hc => first | assumption | omega))
  | with_reducible refine Hx.ite_nf ?_
  | with_reducible refine Hx.r_max2 ?_
  | with_reducible refine Hx.r_min2 ?_
  | with_reducible refine Hx.r_abs ?_
  | with_reducible refine Hx.r_max3 ?_
  | with_reducible refine Hx.r_isiInt Hx.kit_ii ?_
  | with_reducible refine Hx.r_isiInt Hx.kit_ib ?_
  | with_reducible refine Hx.r_isi (.base (.bl _)) Hx.kit_bb ?_
  | ((with_reducible refine' Hx.r_isiPl ?hp Hx.kit_tt ?_); (case hp => walk_at "fact"))
  | ((with_reducible refine' Hx.r_isiL ?hp Hx.kit_ll ?_); (case hp => walk_at "fact"))
  | with_reducible refine Hx.w_for ?_
  | with_reducible refine Hx.w_rng1 ?_
  | with_reducible refine Hx.w_rng2 ?_
  | with_reducible refine Hx.w_rng3 ?_
  | ((with_reducible refine' Hx.r_rng3 ?hz ?hy ?_); (case hz => omega); (case hy => omega))
  | with_reducible refine Hx.w_truth ?_
  | ((with_reducible refine' Hx.r_truL ?hp ?_); (case' hp => walk_at "fact"))
  | ((with_reducible refine' Hx.r_maxL ?hp ?hn ?_); (case' hp => walk_at "fact"); (case hn => walk_at "size"); (intro m hm hle))
  | with_reducible refine Hx.w_iList ?_
  | with_reducible refine Hx.w_iTup ?_
  | with_reducible refine Hx.w_lc ?_
  | with_reducible refine Hx.w_yes ?_
  | with_reducible refine Hx.w_put1 ?_
  | with_reducible refine Hx.w_put0 ?_
  | ((with_reducible refine' Hx.r_rng1 ?hz ?hy ?_); (case hz => omega); (case hy => omega))
  | ((with_reducible refine' Hx.r_rng2 ?hz ?hy ?_); (case hz => omega); (case hy => omega))
  | ((with_reducible refine' Hx.r_iList ?hp ?_); (case' hp => walk_at "fact"))
  | ((with_reducible refine' Hx.r_iTup ?hp ?_); (case' hp => walk_at "fact"))
  | ((with_reducible refine' Hx.r_ixL ?hp ?ha ?_); (case hp => walk_at "fact"); (case ha => first | assumption | exact rfl))
  | ((with_reducible refine' Hx.r_ixT ?hp ?ha ?_); (case hp => walk_at "fact"); (case ha => first | assumption | exact rfl))
  | ((with_reducible refine' Hx.r_ixLn ?hp ?h0 ?h1 ?_); (case' hp => walk_at "fact"); (case h0 => omega); (case h1 => omega))
  | ((with_reducible refine' Hx.w_tyL ?hp ?_); (case hp => walk_at "fact"))
  | ((with_reducible refine' Hx.r_appendI ?hp ?hz ?_); (case hp => walk_at "ofact"); (case hz => walk_at "size"))
  | ((with_reducible refine' Hx.r_append ?hp ?hz ?_); (case hp => walk_at "ofact"); (case hz => walk_at "size"))
  | ((with_reducible refine' Hx.r_reverseI ?hp ?_); (case hp => walk_at "ofact"))
  | ((with_reducible refine' Hx.r_reverse ?hp ?_); (case hp => walk_at "ofact"))
  | ((with_reducible refine' Hx.r_clear ?hp ?_); (case hp => walk_at "ofact"))
  | ((with_reducible refine' Hx.r_catI ?hp ?hq ?hz ?_); (case hp => walk_at "ofact"); (case hq => walk_at "ofact"); (case hz => walk_at "size"); (intro p hp))
  | ((with_reducible refine' Hx.r_cat ?hp ?hq ?hz ?_); (case hp => walk_at "ofact"); (case hq => walk_at "ofact"); (case hz => walk_at "size"); (intro p hp))
  | ((with_reducible refine' Hx.w_addI ?hp ?hz ?_); (case hp => walk_at "ofact"); (case hz => walk_at "size"))
  | ((with_reducible refine' Hx.w_add ?hp ?hz ?_); (case hp => walk_at "ofact"); (case hz => walk_at "size"))
  | ((with_reducible refine' Hx.r_listL ?hp ?_); (case hp => walk_at "fact"); (intro p hp))
  | ((with_reducible refine' Hx.r_listT ?hp ?_); (case hp => walk_at "fact"); (intro p hp))
  | ((with_reducible refine' Hx.r_tupL ?hp ?_); (case hp => walk_at "fact"); (intro p hp))
  | ((with_reducible refine' Hx.r_tupPl ?hp ?_); (case hp => walk_at "fact"))
  | ((with_reducible refine' Hx.r_tupT ?hp ?_); (case hp => walk_at "fact"))
  | with_reducible refine Hx.r_intI ?_
  | with_reducible refine Hx.w_dIn ?_
  | with_reducible refine Hx.w_dNotIn ?_
  | with_reducible refine Hx.w_dPut ?_
  | with_reducible refine Hx.w_dGet ?_
  | with_reducible refine Hx.w_dNewT fun p hp => ?_
  | ((with_reducible refine' Hx.r_dInP ?hp ?hq ?_); (case hp => walk_at "ofact"); (case hq => walk_at "fact"))
  | ((with_reducible refine' Hx.r_dNotInP ?hp ?hq ?_); (case hp => walk_at "ofact"); (case hq => walk_at "fact"))
  | ((with_reducible refine' Hx.r_dPutP ?hp ?hq ?hz ?_); (case hp => walk_at "ofact"); (case hq => walk_at "fact"); (case hz => walk_at "size"))
  | ((with_reducible refine' Hx.r_dGetP ?hp ?hq ?he ?_); (case hp => walk_at "ofact"); (case hq => walk_at "fact"); (case he => assumption))
  | with_reducible refine Hx.r_intB ?_
  | ((with_reducible refine' Hx.r_lenPl ?hp ?_); (case hp => walk_at "fact"))
  | ((with_reducible refine' Hx.r_lenL ?hp ?_); (case hp => walk_at "fact"))
  | ((with_reducible refine' Hx.r_lenT ?hp ?_); (case hp => walk_at "fact")))
local macro_rules | `(tactic| walk_at "run") => `(tactic| repeat (walk_at "go"))
local macro_rules | `(tactic| walk_at "same") => `(tactic| (with_reducible first
  | assumption
  | exact L2.Same.refl _
  | exact Hx.same_new (by assumption)
  | ((refine' L2.Same.trans ?ha ?hs); (case hs => first | assumption | exact Hx.same_new (by assumption)); (case ha => walk_at "same"))
  | ((refine' L2.Same.mut ?hs ?hn); (case hn => walk_at "free"); (case hs => walk_at "same"))))
local macro_rules | `(tactic| walk_at "ne0") => `(tactic| (with_reducible first
  | assumption
  | exact Ne.symm (by assumption)
  | exact L2.ne_of_none (by assumption) (by assumption)
  | exact Ne.symm (L2.ne_of_none (by assumption) (by assumption))
  | exact Hx.ne_ld (by assumption) (by assumption)
  | exact Hx.ne_lt (by assumption) (by assumption)
  | exact Hx.ne_li (by assumption) (by assumption)
  | exact Hx.ne_lo (by assumption) (by assumption)
  | exact Hx.ne_dl (by assumption) (by assumption)
  | exact Hx.ne_dt (by assumption) (by assumption)
  | exact Hx.ne_di (by assumption) (by assumption)
  | exact Hx.ne_do (by assumption) (by assumption)
  | exact Hx.ne_tl (by assumption) (by assumption)
  | exact Hx.ne_td (by assumption) (by assumption)
  | exact Hx.ne_ti (by assumption) (by assumption)
  | exact Hx.ne_to (by assumption) (by assumption)
  | exact Hx.ne_il (by assumption) (by assumption)
  | exact Hx.ne_id (by assumption) (by assumption)
  | exact Hx.ne_it (by assumption) (by assumption)
  | exact Hx.ne_io (by assumption) (by assumption)
  | exact Hx.ne_ol (by assumption) (by assumption)
  | exact Hx.ne_od (by assumption) (by assumption)
  | exact Hx.ne_ot (by assumption) (by assumption)
  | exact Hx.ne_oi (by assumption) (by assumption)))
local macro_rules | `(tactic| walk_at "ofd") => `(tactic| (with_reducible first
  | assumption
  | ((refine' Hx.same_at ?hs ?hp); (case hs => first | assumption | exact Hx.same_new (by assumption)); (case hp => walk_at "ofd"))))
local macro_rules | `(tactic| walk_at "ofc") => `(tactic| (with_reducible first
  | assumption
  | exact L2.upd_same
  | ((refine' Hx.same_at ?hs ?hp); (case hs => first | assumption | exact Hx.same_new (by assumption)); (case hp => walk_at "ofc"))
  | ((refine' Hx.upd_at ?hn ?hp); (case hn => walk_at "ne0"); (case hp => walk_at "ofc"))))
local macro_rules | `(tactic| walk_at "ne") => `(tactic| (with_reducible first
  | walk_at "ne0"
  | ((refine' L2.ne_of_none ?ha ?hb); (case hb => assumption); (case ha => walk_at "ofc"))
  | ((refine' Ne.symm (L2.ne_of_none ?ha ?hb)); (case hb => assumption); (case ha => walk_at "ofc"))))
local macro_rules | `(tactic| walk_at "ofact") => `(tactic| (with_reducible first
  | assumption
  | exact L2.upd_same
  | ((refine' Hx.same_at ?hs ?hp); (case hs => first | assumption | exact Hx.same_new (by assumption)); (case hp => walk_at "ofact"))
  | ((refine' Hx.upd_at ?hn ?hp); (case hn => walk_at "ne"); (case hp => walk_at "ofact"))))
local macro_rules | `(tactic| walk_at "size") => `(tactic| first
  | assumption
  | exact Nat.le_of_ble_eq_true rfl
  | (simp only [List.length_append, List.length_map, List.length_cons, List.length_nil, List.length_replicate, List.length_take, List.length_drop, List.length_range, List.length_reverse]; omega)
  | omega)
local macro_rules | `(tactic| walk_at "ric") => `(tactic| first
  | exact ⟨by decide, by decide⟩
  | exact .inr ⟨by decide, by decide⟩
  | exact .inl ⟨by omega, by omega⟩
  | exact ⟨by omega, by omega⟩
  | exact ⟨by omega, by assumption⟩
  | exact .inl ⟨by decide, by decide⟩
  | exact ⟨by decide, by decide, by decide⟩
  | ((show (0 : Int) < _); (first | decide | omega))
  | assumption)
local macro_rules | `(tactic| walk_at "free") => `(tactic| (with_reducible first
  | assumption
  | ((refine' L2.Same.free ?hs ?hp); (case' hp => assumption); (case hs => walk_at "same"))))
local macro_rules | `(tactic| walk_at "go") => `(tactic| first
  | with_reducible refine Hx.w_callS ?_
  | ((with_reducible refine' Hx.r_isX ?he ?hr ?_); (case he => exact Hx.EC.e (by assumption)); (case hr => assumption))
  | with_reducible refine Hx.r_isV (by assumption) ?_)
local macro_rules | `(tactic| walk_at "go") => `(tactic| first
  | ((with_reducible refine' Hx.r_insertI ?hp ?hz ?h0 ?h1 ?_); (case hp => walk_at "ofact"); (case hz => walk_at "size"); (case h0 => omega); (case h1 => omega)))
local macro_rules | `(tactic| walk_at "fact") => `(tactic| (with_reducible first
  | exact Hx.Tl.new
  | ((refine' Hx.Tl.sm ?hs ?hp); (case hs => first | assumption | exact Hx.same_new (by assumption)); (case hp => walk_at "fact"))
  | ((refine' Hx.Tl.putr ?hs ?hp); (case hs => walk_at "ofc"); (case hp => walk_at "fact"))
  | ((refine' Hx.Tl.putd ?hs ?hp); (case hs => walk_at "ofd"); (case hp => walk_at "fact"))
  | ((refine' Hx.RegAt.sm ?hs ?hp); (case hs => first | assumption | exact Hx.same_new (by assumption)); (case hp => walk_at "fact"))
  | ((refine' L2.Rd.of ?hs); (case hs => walk_at "ofact"))))
local macro_rules | `(tactic| walk_at "go") => `(tactic| first
  | with_reducible refine Hx.w_fldR ?_
  | ((with_reducible refine' Hx.r_level ?hr ?hc ?_); (case hr => walk_at "fact"); (case hc => assumption))
  | ((with_reducible refine' Hx.r_lines ?hr ?hc ?_); (case hr => walk_at "fact"); (case hc => assumption))
  | with_reducible refine Hx.w_sfld ?_
  | ((with_reducible refine' Hx.r_slevel ?hr ?hc ?_); (case hr => walk_at "ofact"); (case hc => assumption))
  | ((with_reducible refine' Hx.r_slines ?hr ?hc ?_); (case hr => walk_at "ofact"); (case hc => assumption))
  | with_reducible refine Hx.w_make ?_
  | with_reducible refine Hx.w_makeS ?_
  | with_reducible refine Hx.w_meth ?_
  | ((with_reducible refine' Hx.r_methR ?hr ?h1 ?h2 ?_); (case hr => walk_at "fact"); (case h1 => decide +kernel); (case h2 => decide +kernel))
  | with_reducible refine Hx.w_CKw ?_
  | ((with_reducible refine' Hx.r_dInL ?hp ?hq ?_); (case hp => walk_at "fact"); (case hq => walk_at "fact"))
  | ((with_reducible refine' Hx.r_dNotInL ?hp ?hq ?_); (case hp => walk_at "fact"); (case hq => walk_at "fact"))
  | ((with_reducible refine' Hx.r_dPutL ?hp ?hq ?hz ?_); (case hp => walk_at "ofact"); (case hq => walk_at "fact"); (case hz => walk_at "size"))
  | ((with_reducible refine' Hx.r_dGetL ?hp ?hq ?he ?_); (case hp => walk_at "fact"); (case hq => walk_at "fact"); (case he => assumption)))
namespace Hx
open PySem PySem.Spec PyProof.Rows L2
def topS (i : Nat) : Stmt := PySem.Challenge.pw_hexaddress_k18_regions_refused.main.body.getD i (.Pass ⟨0, 0, 0, 0⟩)
/-! _law_cell_at -/
abbrev s__law_cell_at : Stmt := topS 13
abbrev n__law_cell_at : List Str := ["script", "k"]
abbrev n__law_cell_at_p : List Str := ["script", "k"]
theorem sc__law_cell_at : FnScope n__law_cell_at n__law_cell_at_p (defScope s__law_cell_at) := ⟨rfl, rfl, rfl, by decide +kernel, rfl, by decide +kernel, by decide +kernel⟩
def sp__law_cell_at (K : PySem.W.Frag) : Sp := fun vs H Q _ => ∃ (a : Addr) (ns : List Int) (k : Int), vs = [.ref a, .int k] ∧ SqL K H a (ns.map V.int) ∧ 0 ≤ k ∧ Q (.int (cellAt ns k)) H
theorem c__law_cell_at {K : PySem.W.Frag} {H : Hp} {Q : VK} {E : XK} {a : Addr} {ns : List Int} {k : Int} (h : SqL K H a (ns.map V.int)) (hk : 0 ≤ k) (q : Q (.int (cellAt ns k)) H) : sp__law_cell_at K [.ref a, .int k] H Q E := ⟨a, ns, k, rfl, h, hk, q⟩
/-! _law_rows -/
abbrev s__law_rows : Stmt := topS 17
abbrev n__law_rows : List Str := ["script", "rows", "k", "cell", "row", "j"]
abbrev n__law_rows_p : List Str := ["script"]
theorem sc__law_rows : FnScope n__law_rows n__law_rows_p (defScope s__law_rows) := ⟨rfl, rfl, rfl, by decide +kernel, rfl, by decide +kernel, by decide +kernel⟩
def sp__law_rows (K : PySem.W.Frag) : Sp := fun vs H Q _ => ∃ (a : Addr) (ns : List Int), vs = [.ref a] ∧ SqL K H a (ns.map V.int) ∧ ∀ l ws rows H', Same H H' → H l = none → H' l = some (.lst ws) → RwtX l H' ws rows → ws.Nodup → (∀ r ∈ rows, Figs r ∧ r.length ≤ 6) → rows.length ≤ 6 → Q (.ref l) H'
theorem c__law_rows {K : PySem.W.Frag} {a : Addr} {H : Hp} {Q : VK} {E : XK} {ns : List Int} (h : SqL K H a (ns.map V.int)) (q : ∀ l ws rows H', Same H H' → H l = none → H' l = some (.lst ws) → RwtX l H' ws rows → ws.Nodup → (∀ r ∈ rows, Figs r ∧ r.length ≤ 6) → rows.length ≤ 6 → Q (.ref l) H') : sp__law_rows K [.ref a] H Q E := ⟨a, ns, rfl, h, q⟩
/-! see_figures -/
abbrev s_see_figures_X : Stmt := topS 8
abbrev n_see_figures_X : List Str := ["figures", "figure"]
abbrev n_see_figures_X_p : List Str := ["figures"]
theorem sc_see_figures_X : FnScope n_see_figures_X n_see_figures_X_p (defScope s_see_figures_X) := ⟨rfl, rfl, rfl, by decide +kernel, rfl, by decide +kernel, by decide +kernel⟩
def sp_see_figures_X (K : PySem.W.Frag) (c : Addr) : Sp := fun vs H Q E => ∃ a fs, vs = [.ref a] ∧ SqL K H a (fs.map V.int) ∧ (Figs fs → Q .non H) ∧ (¬ Figs fs → E (.ref c) none H)
theorem c_see_figures_X {K : PySem.W.Frag} {c : Addr} {H : Hp} {Q : VK} {E : XK} {a : Addr} {fs : List Int} (h : SqL K H a (fs.map V.int)) (hf : Figs fs) (q : Q .non H) : sp_see_figures_X K c [.ref a] H Q E := ⟨a, fs, rfl, h, fun _ => q, fun z => absurd hf z⟩
theorem c_see_figures_N {K : PySem.W.Frag} {c : Addr} {H : Hp} {Q : VK} {E : XK} {a : Addr} {fs : List Int} (h : SqL K H a (fs.map V.int)) (hf : ¬ Figs fs) (q : E (.ref c) none H) : sp_see_figures_X K c [.ref a] H Q E := ⟨a, fs, rfl, h, fun z => absurd z hf, fun _ => q⟩
/-! lines_from -/
abbrev s_lines_from : Stmt := topS 10
abbrev n_lines_from : List Str := ["beginning", "level", "rows", "k", "fresh", "row", "figure"]
abbrev n_lines_from_p : List Str := ["beginning", "level"]
theorem sc_lines_from : FnScope n_lines_from n_lines_from_p (defScope s_lines_from) := ⟨rfl, rfl, rfl, by decide +kernel, rfl, by decide +kernel, by decide +kernel⟩
def sp_lines_from (K : PySem.W.Frag) : Sp := fun vs H Q _ => ∃ (a : Addr) (b : Row) (lv : Int), vs = [.ref a, .int lv] ∧ SqL K H a (b.map V.int) ∧ b.length ≤ 1000 ∧ -100 ≤ lv ∧ lv ≤ 4 ∧ ∀ l ws H', Same H H' → H l = none → H' l = some (.lst ws) → Rwt H' ws (linesFrom b lv) → Q (.ref l) H'
theorem c_lines_from {K : PySem.W.Frag} {H : Hp} {Q : VK} {E : XK} {a : Addr} {b : Row} {lv : Int} (h : SqL K H a (b.map V.int)) (hb : b.length ≤ 1000) (h0 : -100 ≤ lv) (h4 : lv ≤ 4) (q : ∀ l ws H', Same H H' → H l = none → H' l = some (.lst ws) → Rwt H' ws (linesFrom b lv) → Q (.ref l) H') : sp_lines_from K [.ref a, .int lv] H Q E := ⟨a, b, lv, rfl, h, hb, h0, h4, q⟩
/-! Region.__init__ -/
abbrev s_Region___init___X : Stmt := inClass (topS 11) 0
abbrev n_Region___init___X : List Str := ["self", "level", "beginnings", "row", "line"]
abbrev n_Region___init___X_p : List Str := ["self", "level", "beginnings"]
theorem sc_Region___init___X : FnScope n_Region___init___X n_Region___init___X_p (defScope s_Region___init___X) := ⟨rfl, rfl, rfl, by decide +kernel, rfl, by decide +kernel, by decide +kernel⟩
def sp_Region___init___X (K : PySem.W.Frag) (C cL cF cC : Addr) : Sp := fun vs H Q E => ∃ (p dx a : Addr) (lv : Int) (ws : List V) (rows : List Row), vs = [.ref p, .int lv, .ref a] ∧ H p = some (.ins C dx []) ∧ SqL K H a ws ∧ Rws K H ws rows ∧ (∀ r ∈ rows, r.length ≤ 1000) ∧ (¬ (0 ≤ lv ∧ lv ≤ 4) → E (.ref cL) none H) ∧ (0 ≤ lv → lv ≤ 4 → (∃ r ∈ rows, ¬ Figs r) → E (.ref cF) none H) ∧ (0 ≤ lv → lv ≤ 4 → (∀ r ∈ rows, Figs r) → (∃ r ∈ rows, lv < (r.length : Int)) → E (.ref cC) none H) ∧
  (0 ≤ lv → lv ≤ 4 → (∀ r ∈ rows, Figs r ∧ (r.length : Int) ≤ lv) → (rows.flatMap fun b => linesFrom b lv).length ≤ 100000 ∧ (∀ d H', But p H H' → H d = none → RegAt C H' p d lv (linesOf rows lv) → Q .non H'))
theorem c_makeX {K : PySem.W.Frag} {C cL cF cC a : Addr} {H : Hp} {Q : VK} {E : XK} {lv : Int} {ws : List V} {rows : List Row} (hS : SqL K H a ws) (hW : Rws K H ws rows) (hb : ∀ r ∈ rows, r.length ≤ 1000)
    (x1 : ¬ (0 ≤ lv ∧ lv ≤ 4) → ∀ H', Same H H' → E (.ref cL) none H') (x2 : 0 ≤ lv → lv ≤ 4 → (∃ r ∈ rows, ¬ Figs r) → ∀ H', Same H H' → E (.ref cF) none H') (x3 : 0 ≤ lv → lv ≤ 4 → (∀ r ∈ rows, Figs r) → (∃ r ∈ rows, lv < (r.length : Int)) → ∀ H', Same H H' → E (.ref cC) none H')
    (q : 0 ≤ lv → lv ≤ 4 → (∀ r ∈ rows, Figs r ∧ (r.length : Int) ≤ lv) → (rows.flatMap fun b => linesFrom b lv).length ≤ 100000 ∧ ∀ p H', Same H H' → Q (.ref p) H') : rMake C (sp_Region___init___X K C cL cF cC) E [.int lv, .ref a] H Q := by
  intro x dx hx hdx hne
  have s0 : Same H (upd (upd H dx (.own x)) x (.ins C dx [])) := ((Same.refl H).mut hdx).mut hx
  refine ⟨x, dx, a, lv, ws, rows, rfl, upd_same, s0.seq hS, Rws.sm s0 hW, hb, fun z => x1 z _ s0, fun z1 z2 z3 => x2 z1 z2 z3 _ s0, fun z1 z2 z3 z4 => x3 z1 z2 z3 z4 _ s0, fun z1 z2 z3 => ⟨(q z1 z2 z3).1, fun d H' k hd hr => ⟨rfl, (q z1 z2 z3).2 x H' (fun b o e => k b o (s0 b o e) (ne_of_none e hx))⟩⟩⟩
/-! _law_kinds -/
abbrev s__law_kinds : Stmt := topS 16
abbrev n__law_kinds : List Str := ["level", "rows", "kinds", "e"]
abbrev n__law_kinds_p : List Str := ["level", "rows"]
theorem sc__law_kinds : FnScope n__law_kinds n__law_kinds_p (defScope s__law_kinds) := ⟨rfl, rfl, rfl, by decide +kernel, rfl, by decide +kernel, by decide +kernel⟩
def dueK (lv : Int) (rows : List Row) (bs : List Bool) : Prop := (¬ (0 ≤ lv ∧ lv ≤ 4) → bs = [true, false, false, false, true]) ∧ (0 ≤ lv → lv ≤ 4 → (∃ r ∈ rows, ¬ Figs r) → bs = [false, true, false, false, true]) ∧ (0 ≤ lv → lv ≤ 4 → (∀ r ∈ rows, Figs r) → (∃ r ∈ rows, lv < (r.length : Int)) → bs = [false, false, true, false, true]) ∧ (0 ≤ lv → lv ≤ 4 → (∀ r ∈ rows, Figs r ∧ (r.length : Int) ≤ lv) → bs = [])
def sp__law_kinds (K : PySem.W.Frag) (C : Addr) : Sp := fun vs H Q _ => ∃ (lv : Int) (a : Addr) (ws : List V) (rows : List Row), vs = [.int lv, .ref a] ∧ SqL K H a ws ∧ Rws K H ws rows ∧ (∀ r ∈ rows, r.length ≤ 1000) ∧ rows.length ≤ 40 ∧ ∀ l bs H', Same H H' → H' l = some (.lst (bs.map V.bl)) → dueK lv rows bs → Q (.ref l) H'
theorem c__law_kinds {K : PySem.W.Frag} {C a : Addr} {H : Hp} {Q : VK} {E : XK} {lv : Int} {ws : List V} {rows : List Row} (h : SqL K H a ws) (h2 : Rws K H ws rows) (z1 : ∀ r ∈ rows, r.length ≤ 1000) (z2 : rows.length ≤ 40) (q : ∀ l bs H', Same H H' → H' l = some (.lst (bs.map V.bl)) → dueK lv rows bs → Q (.ref l) H') : sp__law_kinds K C [.int lv, .ref a] H Q E := ⟨lv, a, ws, rows, rfl, h, h2, z1, z2, q⟩
/-! law -/
abbrev s_law : Stmt := topS 18
abbrev n_law : List Str := ["script", "level", "rows", "bad", "odd", "row", "due"]
abbrev n_law_p : List Str := ["script"]
theorem sc_law : FnScope n_law n_law_p (defScope s_law) := ⟨rfl, rfl, rfl, by decide +kernel, rfl, by decide +kernel, by decide +kernel⟩
def sp_law (K : PySem.W.Frag) : Sp := fun vs H Q _ => ∃ (a : Addr) (ns : List Int), vs = [.ref a] ∧ SqL K H a (ns.map V.int) ∧ ns.length ≤ 63 ∧ ∀ H', Q (.bl true) H'
end Hx
local macro_rules | `(tactic| walk_at "go") => `(tactic| ((with_reducible refine' Hx.c__law_cell_at ?hp ?hq ?_); (case' hp => walk_at "fact"); (case hq => first | decide | omega)))
local macro_rules | `(tactic| walk_at "go") => `(tactic| ((with_reducible refine' Hx.c__law_rows ?hp ?_); (case' hp => walk_at "fact"); (intro l ws rows H' s hn hl hw nd hf hz)))
local macro_rules | `(tactic| walk_at "go") => `(tactic| ((with_reducible refine' Hx.c_see_figures_X ?hp ?hf ?_); (case' hp => walk_at "fact"); (case hf => assumption)))
local macro_rules | `(tactic| walk_at "go") => `(tactic| ((with_reducible refine' Hx.c_see_figures_N ?hp ?hf ?_); (case' hp => walk_at "fact"); (case hf => assumption)))
local macro_rules | `(tactic| walk_at "go") => `(tactic| ((with_reducible refine' Hx.c_lines_from ?hp ?hb ?h0 ?h4 ?_); (case' hp => walk_at "fact"); (case hb => omega); (case h0 => omega); (case h4 => omega); (intro l ws H' s hn hl hw)))
namespace Hx
open PySem PySem.Spec PyProof.Rows L2
theorem ok__law_cell_at {P : Program} {w : World} {K : PySem.W.Frag} {mg : Str → Option Value} {base : Heap}  (F : Fn K mg "_law_cell_at" "_law_cell_at" s__law_cell_at n__law_cell_at_p) (T : Tx mg) : Ref P w K mg base CX0 1 "_law_cell_at" n__law_cell_at_p (sp__law_cell_at K) := by
  refine F.ok sc__law_cell_at (fun vs H Q E h => ?_) (fun f cdv A outer s H vs Q E hr h => ?_)
  · obtain ⟨a, ns, k, rfl, _⟩ := h
    rfl
  · refine ⟨_, (pss_cons (ps_if (pt_cmpR op_lt (pv 1) (pe_callB (r := rLen K) cl_len (by rfl) T.b_len (by decide +kernel) (pa_cons (pv 0) pa_nil)) (nomark _))
          (pss_one (ps_ret (pe_ix (r := rIxL K) ix_list (pv 0) (pv 1) (fun _ _ => rfl))))
          pss_nil)
        (pss_one (ps_ret pe_int))), ?_⟩
    try dsimp only [cxOf, Cx.nox, Cx.wish]
    obtain ⟨a, ns, k, rfl, hS, hk, q⟩ := h
    walk_at "run"
    refine ite_d (fun e => ?_) (fun e => ?_)
    · rw [List.length_map] at e
      have hg : atI (ns.map V.int) k = some (.int (ns.getD k.toNat 0)) := by
        refine at_of (j := k.toNat) (by omega) ?_
        have hl : k.toNat < ns.length := by omega
        rw [List.getElem?_map, List.getElem?_eq_getElem hl, List.getD_eq_getElem?_getD, List.getElem?_eq_getElem hl]
        rfl
      walk_at "run"
      unfold cellAt at q
      rw [if_pos e] at q
      exact q
    · rw [List.length_map] at e
      walk_at "run"
      unfold cellAt at q
      rw [if_neg e] at q
      exact q
end Hx
namespace Hx
open PySem PySem.Spec PyProof.Rows L2
theorem ok__law_rows {P : Program} {w : World} {K : PySem.W.Frag} {mg : Str → Option Value} {base : Heap}  (F : Fn K mg "_law_rows" "_law_rows" s__law_rows n__law_rows_p) (T : Tx mg) (R__law_cell_at : Ref P w K mg base CX0 1 "_law_cell_at" n__law_cell_at_p (sp__law_cell_at K)) : Ref P w K mg base CX0 2 "_law_rows" n__law_rows_p (sp__law_rows K) := by
  refine F.ok sc__law_rows (fun vs H Q E h => ?_) (fun f cdv A outer s H vs Q E hr h => ?_)
  · obtain ⟨a, ns, rfl, _⟩ := h
    rfl
  · refine ⟨_, (pss_cons (ps_set (i := 1) sc__law_rows.nd rfl (Or.inl rfl) (pe_lst pa_nil))
        (pss_cons (ps_for PassesOwn.never rfl (pi_range1 (by rfl) T.b_range (pa_cons (pe_op op_mod (pe_fn R__law_cell_at (hr.mono (by decide)) (pa_cons (pv 0) (pa_cons pe_int pa_nil))) pe_int) pa_nil)) (pg_name (i := 2) sc__law_rows.nd rfl (Or.inl rfl))
          (pss_cons (ps_set (i := 3) sc__law_rows.nd rfl (Or.inl rfl) (pe_fn R__law_cell_at (hr.mono (by decide)) (pa_cons (pv 0) (pa_cons (pe_op op_add pe_int (pv 2)) pa_nil))))
        (pss_cons (ps_set (i := 4) sc__law_rows.nd rfl (Or.inl rfl) (pe_lst pa_nil))
        (pss_cons (ps_for PassesOwn.never rfl (pi_range1 (by rfl) T.b_range (pa_cons (pe_op op_mod (pv 3) pe_int) pa_nil)) (pg_name (i := 5) sc__law_rows.nd rfl (Or.inl rfl))
          (pss_one (ps_expr (pe_bm PySem.F.plainAttrs_list PySem.F.slot_list_append PySem.F.type_list_append mt_append (pv 4) (pa_cons (pe_op op_mod (pe_op op_fdiv (pv 3) (pe_op op_add pe_int (pv 5))) pe_int) pa_nil)))))
        (pss_one (ps_expr (pe_bm PySem.F.plainAttrs_list PySem.F.slot_list_append PySem.F.type_list_append mt_append (pv 1) (pa_cons (pv 4) pa_nil))))))))
        (pss_one (ps_ret (pv 1))))), ?_⟩
    try dsimp only [cxOf, Cx.nox, Cx.wish]
    obtain ⟨a, ns, rfl, hS, q⟩ := h
    walk_at "run"
    rename_i l hl
    refine f_range0 (fun i σ H' => ∃ ws rows y2 y3 y4 y5, σ = [some (.ref a), some (.ref l), y2, y3, y4, y5] ∧ Same H H' ∧ H' l = some (.lst ws) ∧ RwtX l H' ws rows ∧ ws.Nodup ∧ (∀ r ∈ rows, Figs r ∧ r.length ≤ 6) ∧ rows.length = i) ⟨[], [], none, none, none, none, rfl, same_new hl, upd_same, .nil, List.nodup_nil, (by intro r hr; cases hr), rfl⟩ ?_ ?_
    · rintro i σ H1 hi ⟨ws, rows, y2, y3, y4, y5, rfl, s1, hl1, hw, nd, hf, hn⟩
      have hi6 : i < 6 := by omega
      have hwl := pr_len hw
      walk_at "run"
      rename_i p hp
      have hpl : p ≠ l := (ne_of_none hl1 hp).symm
      refine f_range0 (fun j σ H' => ∃ r y5, σ = [some (.ref a), some (.ref l), some (.int (i : Int)), some (.int (cellAt ns (2 + (i : Int)))), some (.ref p), y5] ∧ Same H1 H' ∧ H' p = some (.lst (r.map V.int)) ∧ Figs r ∧ r.length = j) ⟨[], y5, rfl, same_new hp, by show _ = some (HO.lst []); walk_at "ofact", (by intro x hx; cases hx), rfl⟩ ?_ ?_
      · rintro j σ H2 hj ⟨r, y5, rfl, s2, hp2, hfr, hnr⟩
        have hj6 : j < 6 := by omega
        have hz2 : r.length ≤ 100000 := by omega
        have hc : 0 < (7 : Int) + (j : Int) ∧ (7 : Int) + (j : Int) < 1073741824 := by omega
        walk_at "run"
        refine ⟨r ++ [cellAt ns (2 + (i : Int)) / (7 + (j : Int)) % 7], _, rfl, s2.mut hp, upd_same, figs_app hfr (figs_one (by omega) (by omega)), by rw [List.length_append, hnr]; rfl⟩
      · rintro σ H2 ⟨r, y5, rfl, s2, hp2, hfr, hnr⟩
        have hl2 := s2 _ _ hl1
        have hz3 : ws.length ≤ 100000 := by omega
        walk_at "run"
        refine ⟨_, rows ++ [r], _, _, _, _, rfl, (s1.trans s2).mut hl, upd_same, ?_, ?_, ?_, by rw [List.length_append, hn]; rfl⟩
        · exact pr_snoc ((RwtX.sm s2 hw).put) ⟨p, rfl, hpl, by walk_at "ofact"⟩
        · exact nodup_snoc nd fun hx => by
            obtain ⟨i2, hi2⟩ := List.getElem?_of_mem hx
            obtain ⟨r2, _, b2, eb, _, hb2⟩ := pr_get hw hi2
            cases eb
            rw [hp] at hb2
            cases hb2
        · intro x hx
          rcases List.mem_append.mp hx with hx | hx
          · exact hf x hx
          · rw [List.mem_singleton] at hx
            subst hx
            exact ⟨hfr, by omega⟩
    · rintro σ H1 ⟨ws, rows, y2, y3, y4, y5, rfl, s1, hl1, hw, nd, hf, hn⟩
      walk_at "run"
      exact q l ws rows H1 s1 hl hl1 hw nd hf (by omega)
end Hx
namespace Hx
open PySem PySem.Spec PyProof.Rows L2
theorem figs_take_succ {fs : List Int} {i : Nat} {f : Int} (h : Figs (fs.take i)) (hi : fs[i]? = some f) (h0 : 0 ≤ f) (h1 : f ≤ 6) : Figs (fs.take (i + 1)) := by
  rw [take_snoc hi]
  exact figs_app h (figs_one h0 h1)
theorem ok_see_figures_X {P : Program} {w : World} {K : PySem.W.Frag} {mg : Str → Option Value} {base : Heap} {c_NoFigure : Addr} (F : Fn K mg "see_figures" "see_figures" s_see_figures_X n_see_figures_X_p) (T : Tx mg) (e_NoFigure : EC K mg "NoFigure" c_NoFigure) : Ref P w K mg base (L2.CX P w) 1 "see_figures" n_see_figures_X_p (sp_see_figures_X K c_NoFigure) := by
  refine F.okX sc_see_figures_X (fun vs H Q E h => ?_) (fun f cdv A outer s H vs Q E hr h => ?_)
  · obtain ⟨a, fs, rfl, _⟩ := h
    rfl
  · refine ⟨_, (pss_one (ps_for (passes_of rfl) rfl (pi_list (pv 0)) (pg_name (i := 1) sc_see_figures_X.nd rfl (Or.inl rfl))
          (pss_one (ps_if (pt_not (pt_chain op_le op_le pe_int (pv 1) pe_int))
          (pss_one (ps_raise rfl (takes_of rfl rfl rfl rfl) (pmk_own PySem.F.excBase_ValueError e_NoFigure.x e_NoFigure.g e_NoFigure.k (raises_own e_NoFigure.b e_NoFigure.t) rfl)))
          pss_nil)))), ?_⟩
    try dsimp only [cxOf, Cx.nox, Cx.wish]
    obtain ⟨a, fs, rfl, hS, q, x⟩ := h
    walk_at "run"
    refine f_list (K := K) (xs := fs.map V.int) (fun i σ H' => (∃ y, σ = [some (.ref a), y]) ∧ H' = H ∧ Figs (fs.take i)) ⟨⟨none, rfl⟩, rfl, (by intro x hx; cases hx)⟩ (fun i σ H' _ ⟨_, e, _⟩ => by rw [e]; exact hS) ?_ ?_
    · rintro i y σ H1 hx ⟨⟨y, rfl⟩, rfl, hF⟩
      obtain ⟨f, hfi, rfl⟩ := map_get hx
      have hm := List.mem_of_getElem? hfi
      by_cases h0 : 0 ≤ f
      · by_cases h1 : f ≤ 6
        · walk_at "run"
          exact ⟨⟨_, rfl⟩, rfl, figs_take_succ hF hfi h0 h1⟩
        · walk_at "run"
          exact x fun z => h1 (z f hm).2
      · walk_at "run"
        exact x fun z => h0 (z f hm).1
    · rintro σ H1 ⟨⟨y, rfl⟩, rfl, hF⟩
      rw [List.length_map, List.take_length] at hF
      exact q hF
end Hx
namespace Hx
open PySem PySem.Spec PyProof.Rows L2
theorem ok_lines_from {P : Program} {w : World} {K : PySem.W.Frag} {mg : Str → Option Value} {base : Heap}  (F : Fn K mg "lines_from" "lines_from" s_lines_from n_lines_from_p) (T : Tx mg) : Ref P w K mg base CX0 1 "lines_from" n_lines_from_p (sp_lines_from K) := by
  refine F.ok sc_lines_from (fun vs H Q E h => ?_) (fun f cdv A outer s H vs Q E hr h => ?_)
  · obtain ⟨a, b, lv, rfl, _⟩ := h
    rfl
  · refine ⟨_, (pss_cons (ps_set (i := 2) sc_lines_from.nd rfl (Or.inl rfl) (pe_lst (pa_cons (pe_callTy (r := rList K) cl_list (by rfl) T.b_list (by decide +kernel) (pa_cons (pv 0) pa_nil)) pa_nil)))
        (pss_cons (ps_for PassesOwn.never rfl (pi_range1 (by rfl) T.b_range (pa_cons (pe_op op_sub (pv 1) (pe_callB (r := rLen K) cl_len (by rfl) T.b_len (by decide +kernel) (pa_cons (pv 0) pa_nil))) pa_nil)) (pg_name (i := 3) sc_lines_from.nd rfl (Or.inl rfl))
          (pss_cons (ps_set (i := 4) sc_lines_from.nd rfl (Or.inl rfl) (pe_lst pa_nil))
        (pss_cons (ps_for PassesOwn.never rfl (pi_list (pv 2)) (pg_name (i := 5) sc_lines_from.nd rfl (Or.inl rfl))
          (pss_one (ps_for PassesOwn.never rfl (pi_range1 (by rfl) T.b_range (pa_cons pe_int pa_nil)) (pg_name (i := 6) sc_lines_from.nd rfl (Or.inl rfl))
          (pss_one (ps_expr (pe_bm PySem.F.plainAttrs_list PySem.F.slot_list_append PySem.F.type_list_append mt_append (pv 4) (pa_cons (pe_op op_cat (pv 5) (pe_lst (pa_cons (pv 6) pa_nil))) pa_nil)))))))
        (pss_one (ps_set (i := 2) sc_lines_from.nd rfl (Or.inl rfl) (pv 4))))))
        (pss_one (ps_ret (pv 2))))), ?_⟩
    try dsimp only [cxOf, Cx.nox, Cx.wish]
    obtain ⟨a, b, lv, rfl, hS, hb, l0, l4, q⟩ := h
    have hbl : (((b.map V.int).length : Nat) : Int) = b.length := by rw [List.length_map]
    walk_at "run"
    rename_i p1 hp1 l1 hl1
    rw [hbl]
    refine f_range0 (fun i σ H' => ∃ l ws y3 y4 y5 y6, σ = [some (.ref a), some (.int lv), some (.ref l), y3, y4, y5, y6] ∧ Same H H' ∧ H l = none ∧ H' l = some (.lst ws) ∧ Rwt H' ws (growN i [b])) ⟨l1, [.ref p1], none, none, none, none, rfl, by walk_at "same", Same.free (same_new hp1) hl1, upd_same, .cons ⟨p1, rfl, by walk_at "ofact"⟩ .nil⟩ ?_ ?_
    · rintro i σ H1 hi ⟨l, ws, y3, y4, y5, y6, rfl, s1, hl0, hl, hw⟩
      have hi4 : i ≤ 3 := by omega
      have hg : (growN i [b]).length ≤ 343 := by
        rw [growN_len]
        have : 7 ^ i ≤ 7 ^ 3 := Nat.pow_le_pow_right (by decide) hi4
        simp only [List.length_cons, List.length_nil]
        omega
      walk_at "run"
      rename_i f hf
      refine f_list (K := K) (xs := ws) (fun j σ H' => ∃ us y5 y6, σ = [some (.ref a), some (.int lv), some (.ref l), some (.int (i : Int)), some (.ref f), y5, y6] ∧ Same H1 H' ∧ H' f = some (.lst us) ∧ RwtX f H' us (grow ((growN i [b]).take j))) ⟨[], y5, y6, rfl, same_new hf, upd_same, .nil⟩ (fun j σ H' _ ⟨_, _, _, _, s, _⟩ => s.seq (SqL.of hl)) ?_ ?_
      · rintro j x σ H2 hx ⟨us, y5, y6, rfl, s2, hfl, hu⟩
        obtain ⟨r, hr, ra, rfl, hra⟩ := pr_get hw hx
        have hrl : r.length ≤ 1003 := by
          have := growN_row (List.mem_of_getElem? hr)
          omega
        walk_at "run"
        refine f_range0 (fun m σ H' => ∃ us y6, σ = [some (.ref a), some (.int lv), some (.ref l), some (.int (i : Int)), some (.ref f), some (.ref ra), y6] ∧ Same H1 H' ∧ H' f = some (.lst us) ∧ RwtX f H' us (grow ((growN i [b]).take j) ++ (figs7.take m).map fun x => r ++ [x])) ⟨us, y6, rfl, s2, hfl, by simpa using hu⟩ ?_ ?_
        · rintro m σ H3 hm ⟨us, y6, rfl, s3, hfl, hu⟩
          have hm7 : m < 7 := hm
          have hra3 : H3 ra = some (.lst (r.map V.int)) := s3 _ _ hra
          have hz1 : r.length + [(m : Int)].length ≤ 100000 := by show r.length + 1 ≤ _; omega
          have hz2 : us.length ≤ 100000 := by
            have h1 := pr_len hu
            rw [List.length_append, grow_len, List.length_take, List.length_map, List.length_take] at h1
            omega
          walk_at "run"
          rename_i p3 hp3 p4 hp4
          have hne : p4 ≠ f := (ne_of_none (upd_at (ne_of_none hfl hp3) hfl) hp4).symm
          refine ⟨_, _, rfl, ?_, upd_same, ?_⟩
          · exact ((s3.trans (same_new hp3)).trans (same_new hp4)).mut hf
          · have e7 : (figs7.take m ++ [(m : Int)]).map (fun x => r ++ [x]) = (figs7.take m).map (fun x => r ++ [x]) ++ [r ++ [(m : Int)]] := List.map_append
            rw [take_snoc (figs7_at hm7), e7, ← List.append_assoc]
            refine pr_snoc ?_ ⟨p4, rfl, hne, by walk_at "ofact"⟩
            exact ((RwtX.sm (same_new hp4) (RwtX.sm (same_new hp3) hu))).put
        · rintro σ H3 ⟨us, y6, rfl, s3, hfl, hu⟩
          refine ⟨us, _, _, rfl, s3, hfl, ?_⟩
          rw [grow_snoc hr]
          exact hu
      · rintro σ H2 ⟨us, y5, y6, rfl, s2, hfl, hu⟩
        walk_at "run"
        refine ⟨f, us, _, _, _, _, rfl, s1.trans s2, s1.free hf, hfl, ?_⟩
        have h1 := pr_len hw
        rw [h1, List.take_length] at hu
        exact hu.rwt
    · rintro σ H1 ⟨l, ws, y3, y4, y5, y6, rfl, s1, hl0, hl, hw⟩
      walk_at "run"
      exact q _ _ _ s1 hl0 hl hw
end Hx
namespace Hx
open PySem PySem.Spec PyProof.Rows L2
theorem ok_Region___init___X {P : Program} {w : World} {K : PySem.W.Frag} {mg : Str → Option Value} {base : Heap} {c_Region : Addr} {c_NoLevel : Addr} {c_NoCell : Addr} {c_NoFigure : Addr} (F : FnI K mg c_Region "Region" "__init__" "Region.__init__" s_Region___init___X n_Region___init___X_p) (T : Tx mg) (rc : RegC K mg c_Region) (e_NoLevel : EC K mg "NoLevel" c_NoLevel) (e_NoCell : EC K mg "NoCell" c_NoCell) (e_NoFigure : EC K mg "NoFigure" c_NoFigure) (R_see_figures_X : Ref P w K mg base (L2.CX P w) 1 "see_figures" n_see_figures_X_p (sp_see_figures_X K c_NoFigure)) (R_lines_from : Ref P w K mg base CX0 1 "lines_from" n_lines_from_p (sp_lines_from K)) : RefM P w K mg base (L2.CX P w) 2 "Region" c_Region n_Region___init___X_p (sp_Region___init___X K c_Region c_NoLevel c_NoFigure c_NoCell) := by
  refine F.okX sc_Region___init___X (fun vs H Q E h => ?_) (fun f cdv A outer s H vs Q E hr h => ?_)
  · obtain ⟨p, dx, a, lv, ws, rows, rfl, _⟩ := h
    rfl
  · refine ⟨_, (pss_cons (ps_if (pt_not (pt_chain op_le op_le pe_int (pv 1) pe_int))
          (pss_one (ps_raise rfl (takes_of rfl rfl rfl rfl) (pmk_own PySem.F.excBase_ValueError e_NoLevel.x e_NoLevel.g e_NoLevel.k (raises_own e_NoLevel.b e_NoLevel.t) rfl)))
          pss_nil)
        (pss_cons (ps_for (passes_of rfl) rfl (pi_list (pv 2)) (pg_name (i := 3) sc_Region___init___X.nd rfl (Or.inl rfl))
          (pss_one (ps_expr (pe_fnX R_see_figures_X (hr.mono (by decide)) (takes_of rfl rfl rfl rfl) (pa_cons (pv 3) pa_nil)))))
        (pss_cons (ps_for (passes_of rfl) rfl (pi_list (pv 2)) (pg_name (i := 3) sc_Region___init___X.nd rfl (Or.inl rfl))
          (pss_one (ps_if (pt_cmpR op_gt (pe_callB (r := rLen K) cl_len (by rfl) T.b_len (by decide +kernel) (pa_cons (pv 3) pa_nil)) (pv 1) (nomark _))
          (pss_one (ps_raise rfl (takes_of rfl rfl rfl rfl) (pmk_own PySem.F.excBase_ValueError e_NoCell.x e_NoCell.g e_NoCell.k (raises_own e_NoCell.b e_NoCell.t) rfl)))
          pss_nil)))
        (pss_cons (ps_fld (pv 0) (pv 1) rfl)
        (pss_cons (ps_fld (pv 0) pe_dnewT rfl)
        (pss_one (ps_for (passes_of rfl) rfl (pi_list (pv 2)) (pg_name (i := 3) sc_Region___init___X.nd rfl (Or.inl rfl))
          (pss_one (ps_for (passes_of rfl) rfl (pi_list (pe_fn R_lines_from (hr.mono (by decide)) (pa_cons (pv 3) (pa_cons (pv 1) pa_nil)))) (pg_name (i := 4) sc_Region___init___X.nd rfl (Or.inl rfl))
          (pss_one (ps_dput (hu_of hr) (pe_fld (pv 0) rfl) (pe_callTy (r := rTuple K) cl_tuple (by rfl) T.b_tuple (by decide +kernel) (pa_cons (pv 4) pa_nil)) pe_bl rfl))))))))))), ?_⟩
    try dsimp only [cxOf, Cx.nox, Cx.wish]
    obtain ⟨p, dx, a, lv, ws, rows, rfl, hp, hS, hW, hb, x1, x2, x3, q0⟩ := h
    by_cases hl0 : 0 ≤ lv
    case neg =>
      walk_at "run"
      exact x1 fun z => hl0 z.1
    by_cases hl4 : lv ≤ 4
    case neg =>
      walk_at "run"
      exact x1 fun z => hl4 z.2
    walk_at "run"
    refine f_list (K := K) (xs := ws) (fun i σ H' => (∃ y, σ = [some (.ref p), some (.int lv), some (.ref a), y, none]) ∧ H' = H ∧ ∀ r ∈ rows.take i, Figs r) ⟨⟨none, rfl⟩, rfl, (by intro r hr; cases hr)⟩ (fun i σ H' _ ⟨_, e, _⟩ => by rw [e]; exact hS) ?_ ?_
    · rintro i x σ H1 hx ⟨⟨y, rfl⟩, rfl, hF⟩
      obtain ⟨r, hr, ra, rfl, hra⟩ := pr_get hW hx
      have hm := List.mem_of_getElem? hr
      by_cases hf : Figs r
      · walk_at "run"
        refine ⟨⟨_, rfl⟩, rfl, ?_⟩
        rw [take_snoc hr]
        intro r2 h2
        rcases List.mem_append.mp h2 with h2 | h2
        · exact hF r2 h2
        · rw [List.mem_singleton] at h2
          subst h2
          exact hf
      · walk_at "run"
        exact x2 hl0 hl4 ⟨r, hm, hf⟩
    rintro σ H1 ⟨⟨y, rfl⟩, rfl, hF⟩
    have hwl := pr_len hW
    rw [hwl, List.take_length] at hF
    walk_at "run"
    refine f_list (K := K) (xs := ws) (fun i σ H' => (∃ y, σ = [some (.ref p), some (.int lv), some (.ref a), y, none]) ∧ H' = H1 ∧ ∀ r ∈ rows.take i, (r.length : Int) ≤ lv) ⟨⟨_, rfl⟩, rfl, (by intro r hr; cases hr)⟩ (fun i σ H' _ ⟨_, e, _⟩ => by rw [e]; exact hS) ?_ ?_
    · rintro i x σ H1 hx ⟨⟨y, rfl⟩, rfl, hL⟩
      obtain ⟨r, hr, ra, rfl, hra⟩ := pr_get hW hx
      have hm := List.mem_of_getElem? hr
      by_cases hl : (((r.map V.int).length : Nat) : Int) > lv
      · walk_at "run"
        rw [List.length_map] at hl
        exact x3 hl0 hl4 hF ⟨r, hm, hl⟩
      · walk_at "run"
        refine ⟨⟨_, rfl⟩, rfl, ?_⟩
        rw [take_snoc hr]
        rw [List.length_map] at hl
        intro r2 h2
        rcases List.mem_append.mp h2 with h2 | h2
        · exact hL r2 h2
        · rw [List.mem_singleton] at h2
          subst h2
          omega
    rintro σ H ⟨⟨y, rfl⟩, rfl, hL⟩
    rw [hwl, List.take_length] at hL
    have hR : ∀ r ∈ rows, Figs r ∧ (r.length : Int) ≤ lv := fun r hr => ⟨hF r hr, hL r hr⟩
    obtain ⟨hz, q⟩ := q0 hl0 hl4 hR
    walk_at "run"
    rename_i d hd
    have hpd : p ≠ d := (ne_of_none (by exact upd_same) hd)
    have hd0 : H d = none := by
      by_cases e : d = p
      · exact absurd e.symm hpd
      · rw [upd_ne e] at hd
        exact hd
    refine r_iList ((((But.refl (p := p) (H := H)).put).mut hd0).put.seqI hp hS) ?_
    refine f_list (K := K) (xs := ws) (fun i σ H' => ∃ y3 y4, σ = [some (.ref p), some (.int lv), some (.ref a), y3, y4] ∧ But p H H' ∧ H' p = some (.ins c_Region dx (rflds lv d)) ∧ H' d = some (.dT (kvR (insAll [] ((rows.take i).flatMap fun b => linesFrom b lv))))) ⟨_, _, rfl, (((But.refl (p := p) (H := H)).put).mut hd0).put, upd_same, (upd_ne hpd.symm).trans upd_same⟩ (fun i σ H' _ ⟨_, _, _, k, _⟩ => k.seqI hp hS) ?_ ?_
    · rintro i x σ H1 hx ⟨y3, y4, rfl, k1, hp1, hd1⟩
      obtain ⟨r, hr, ra, rfl, hra⟩ := pr_get hW hx
      have hrm := hR r (List.mem_of_getElem? hr)
      have hrl := hrm.2
      have hra1 : SqL K H1 ra (r.map V.int) := k1.seqI hp hra
      walk_at "run"
      rename_i l us H2 s2 hn2 hl2 hu2
      have hp2 := s2 _ _ hp1
      have hd2 := s2 _ _ hd1
      refine f_list (K := K) (xs := us) (fun j σ H' => ∃ y4, σ = [some (.ref p), some (.int lv), some (.ref a), some (.ref ra), y4] ∧ But d H2 H' ∧ H' d = some (.dT (kvR (insAll (insAll [] ((rows.take i).flatMap fun b => linesFrom b lv)) ((linesFrom r lv).take j))))) ⟨_, rfl, But.refl, hd2⟩ (fun j σ H' _ ⟨_, _, k, _⟩ => SqL.of (k.lst hd2 hl2)) ?_ ?_
      · rintro j x σ H3 hx ⟨y4, rfl, k3, hd3⟩
        obtain ⟨t, ht, ta, rfl, hta⟩ := pr_get hu2 hx
        have hta3 := k3.lst hd2 hta
        have hR3 : RegAt c_Region H3 p d lv (insAll (insAll [] ((rows.take i).flatMap fun b => linesFrom b lv)) ((linesFrom r lv).take j)) := ⟨⟨dx, k3.ins hd2 hp2⟩, hd3⟩
        have hz3 : (kvR (insAll (insAll [] ((rows.take i).flatMap fun b => linesFrom b lv)) ((linesFrom r lv).take j))).length ≤ 100000 := by
          rw [kvR_len, ← insAll_app]
          refine Nat.le_trans (insAll_len _ _) ?_
          rw [List.length_append, List.length_take, List.length_nil]
          have e1 : ((rows.take (i + 1)).flatMap fun b => linesFrom b lv).length ≤ (rows.flatMap fun b => linesFrom b lv).length := by
            conv => rhs; rw [← List.take_append_drop (i + 1) rows]
            rw [List.flatMap_append, List.length_append]
            exact Nat.le_add_right _ _
          rw [take_snoc hr, List.flatMap_append, List.length_append] at e1
          have e2 : ([r].flatMap fun b => linesFrom b lv).length = (linesFrom r lv).length := by simp
          omega
        walk_at "run"
        rename_i tt htt
        refine ⟨_, rfl, (k3.sm (same_new htt)).put, ?_⟩
        rw [upd_same, take_snoc ht, insAll_snoc, putK_kvR]
      · rintro σ H3 ⟨y4, rfl, k3, hd3⟩
        have hdl : H d = none := hd0
        refine ⟨_, _, rfl, ?_, k3.ins hd2 hp2, ?_⟩
        · intro b o e n
          exact k3 b o (s2 _ _ (k1 b o e n)) (ne_of_none e hd0)
        · have h1 := pr_len hu2
          rw [h1, List.take_length, ← insAll_app] at hd3
          rw [hd3, take_snoc hr, List.flatMap_append]
          simp
    · rintro σ H1 ⟨y3, y4, rfl, k1, hp1, hd1⟩
      have h1 := pr_len hW
      rw [h1, List.take_length] at hd1
      exact q d H1 k1 hd0 ⟨⟨dx, hp1⟩, hd1⟩
end Hx
namespace Hx
open PySem PySem.Spec PyProof.Rows L2
theorem flat_len {rows : List Row} {lv : Int} (h4 : lv ≤ 4) : (rows.flatMap fun b => linesFrom b lv).length ≤ 2401 * rows.length := by
  induction rows with
  | nil => exact Nat.le_refl _
  | cons r t ih =>
    rw [List.flatMap_cons, List.length_append, List.length_cons]
    have := linesFrom_len (b := r) h4
    omega
theorem ok__law_kinds {P : Program} {w : World} {K : PySem.W.Frag} {mg : Str → Option Value} {base : Heap} {c_Region : Addr} {c_FloorError : Addr} {c_Apart : Addr} {c_NoCell : Addr} {c_NoFigure : Addr} {c_NoLevel : Addr} (F : Fn K mg "_law_kinds" "_law_kinds" s__law_kinds n__law_kinds_p) (T : Tx mg) (rc : RegC K mg c_Region) (e_FloorError : EC K mg "FloorError" c_FloorError) (e_Apart : EC K mg "Apart" c_Apart) (e_NoCell : EC K mg "NoCell" c_NoCell) (e_NoFigure : EC K mg "NoFigure" c_NoFigure) (e_NoLevel : EC K mg "NoLevel" c_NoLevel) (z_FloorError_FloorError : Rel K c_FloorError c_FloorError true) (z_FloorError_Apart : Rel K c_FloorError c_Apart false) (z_FloorError_NoCell : Rel K c_FloorError c_NoCell false) (z_FloorError_NoFigure : Rel K c_FloorError c_NoFigure false) (z_FloorError_NoLevel : Rel K c_FloorError c_NoLevel false) (z_Apart_FloorError : Rel K c_Apart c_FloorError true) (z_Apart_Apart : Rel K c_Apart c_Apart true) (z_Apart_NoCell : Rel K c_Apart c_NoCell false) (z_Apart_NoFigure : Rel K c_Apart c_NoFigure false) (z_Apart_NoLevel : Rel K c_Apart c_NoLevel false) (z_NoCell_FloorError : Rel K c_NoCell c_FloorError true) (z_NoCell_Apart : Rel K c_NoCell c_Apart false) (z_NoCell_NoCell : Rel K c_NoCell c_NoCell true) (z_NoCell_NoFigure : Rel K c_NoCell c_NoFigure false) (z_NoCell_NoLevel : Rel K c_NoCell c_NoLevel false) (z_NoFigure_FloorError : Rel K c_NoFigure c_FloorError true) (z_NoFigure_Apart : Rel K c_NoFigure c_Apart false) (z_NoFigure_NoCell : Rel K c_NoFigure c_NoCell false) (z_NoFigure_NoFigure : Rel K c_NoFigure c_NoFigure true) (z_NoFigure_NoLevel : Rel K c_NoFigure c_NoLevel false) (z_NoLevel_FloorError : Rel K c_NoLevel c_FloorError true) (z_NoLevel_Apart : Rel K c_NoLevel c_Apart false) (z_NoLevel_NoCell : Rel K c_NoLevel c_NoCell false) (z_NoLevel_NoFigure : Rel K c_NoLevel c_NoFigure false) (z_NoLevel_NoLevel : Rel K c_NoLevel c_NoLevel true) (R_Region___init___X : RefM P w K mg base (L2.CX P w) 2 "Region" c_Region n_Region___init___X_p (sp_Region___init___X K c_Region c_NoLevel c_NoFigure c_NoCell)) : Ref P w K mg base CX0 4 "_law_kinds" n__law_kinds_p (sp__law_kinds K c_Region) := by
  refine F.ok sc__law_kinds (fun vs H Q E h => ?_) (fun f cdv A outer s H vs Q E hr h => ?_)
  · obtain ⟨lv, a, ws, rows, rfl, _⟩ := h
    rfl
  · refine ⟨_, (pss_cons (ps_set (i := 2) sc__law_kinds.nd rfl (Or.inl rfl) (pe_lst pa_nil))
        (pss_cons (ps_try_as (i := 3) rfl rfl sc__law_kinds.nd rfl rfl ⟨rfl, by decide, Or.inl e_FloorError.g⟩ takes0 (fun W pn xe tk po =>
          (pss_one (ps_expr (pe_mkX R_Region___init___X (hr.mono (by decide)) tk (pa_cons (pv 0) (pa_cons (pv 1) pa_nil)))))) (fun xa xo xc xd xp hz hf =>
          (pss_cons (ps_set (i := 2) sc__law_kinds.nd rfl (Or.inl rfl) (pe_lst (pa_cons (pe_callB (call_isX hz hf) (by rfl) T.b_isinstance (by decide +kernel) (pa_cons (pv 3) (pa_cons (pe_glob (v := .ref c_NoLevel) rfl e_NoLevel.g rfl) pa_nil))) (pa_cons (pe_callB (call_isX hz hf) (by rfl) T.b_isinstance (by decide +kernel) (pa_cons (pv 3) (pa_cons (pe_glob (v := .ref c_NoFigure) rfl e_NoFigure.g rfl) pa_nil))) (pa_cons (pe_callB (call_isX hz hf) (by rfl) T.b_isinstance (by decide +kernel) (pa_cons (pv 3) (pa_cons (pe_glob (v := .ref c_NoCell) rfl e_NoCell.g rfl) pa_nil))) (pa_cons (pe_callB (call_isX hz hf) (by rfl) T.b_isinstance (by decide +kernel) (pa_cons (pv 3) (pa_cons (pe_glob (v := .ref c_Apart) rfl e_Apart.g rfl) pa_nil))) pa_nil))))))
        (pss_one (ps_set (i := 2) sc__law_kinds.nd rfl (Or.inl rfl) (pe_op op_cat (pv 2) (pe_lst (pa_cons (pe_callB (call_isX hz hf) (by rfl) T.b_isinstance (by decide +kernel) (pa_cons (pv 3) (pa_cons (pe_bltn (v := .ty "ValueError") (by rfl) T.b_ValueError (by decide +kernel) rfl) pa_nil))) pa_nil))))))))
        (pss_one (ps_ret (pv 2))))), ?_⟩
    try dsimp only [cxOf, Cx.nox, Cx.wish]
    obtain ⟨lv, a, ws, rows, rfl, hS, hW, hb, hn, q⟩ := h
    walk_at "run"
    rename_i p hp
    refine c_makeX ((same_new hp).seq hS) (Rws.sm (same_new hp) hW) hb (fun z H' s => ?_) (fun l0 l4 z H' s => ?_) (fun l0 l4 hF z H' s => ?_) (fun l0 l4 hR => ⟨?_, fun x H' s => ?_⟩)
    · refine w_as (exm_rel e_FloorError z_NoLevel_FloorError) (fun ea hea => ?_)
      walk_at "run"
      exact q _ [true, false, false, false, true] _ (by walk_at "same") upd_same ⟨fun _ => rfl, fun l0 l4 => absurd ⟨l0, l4⟩ z, fun l0 l4 => absurd ⟨l0, l4⟩ z, fun l0 l4 => absurd ⟨l0, l4⟩ z⟩
    · refine w_as (exm_rel e_FloorError z_NoFigure_FloorError) (fun ea hea => ?_)
      walk_at "run"
      obtain ⟨r, hr, hf⟩ := z
      exact q _ [false, true, false, false, true] _ (by walk_at "same") upd_same ⟨fun z => absurd ⟨l0, l4⟩ z, fun _ _ _ => rfl, fun _ _ hF => absurd (hF r hr) hf, fun _ _ hF => absurd (hF r hr).1 hf⟩
    · refine w_as (exm_rel e_FloorError z_NoCell_FloorError) (fun ea hea => ?_)
      walk_at "run"
      obtain ⟨r, hr, hl⟩ := z
      exact q _ [false, false, true, false, true] _ (by walk_at "same") upd_same ⟨fun z => absurd ⟨l0, l4⟩ z, fun _ _ ⟨r2, h2, hf⟩ => absurd (hF r2 h2) hf, fun _ _ _ _ => rfl, fun _ _ hF => absurd (hF r hr).2 (by omega)⟩
    · have := flat_len (rows := rows) l4
      omega
    · walk_at "run"
      exact q p [] _ (by walk_at "same") (by show _ = some (HO.lst []); walk_at "ofact") ⟨fun z => absurd ⟨l0, l4⟩ z, fun _ _ ⟨r, hr, hf⟩ => absurd (hR r hr).1 hf, fun _ _ _ ⟨r, hr, hl⟩ => absurd (hR r hr).2 (by omega), fun _ _ _ => rfl⟩
end Hx
namespace Hx
open PySem PySem.Spec PyProof.Rows L2
theorem dueK_uniq {lv : Int} {rows : List Row} {bs cs : List Bool} (h : dueK lv rows bs) (g : dueK lv rows cs) : bs = cs := by
  obtain ⟨h1, h2, h3, h4⟩ := h
  obtain ⟨g1, g2, g3, g4⟩ := g
  by_cases hl : 0 ≤ lv ∧ lv ≤ 4
  · obtain ⟨l0, l4⟩ := hl
    by_cases hf : ∃ r ∈ rows, ¬ Figs r
    · rw [h2 l0 l4 hf, g2 l0 l4 hf]
    · have hF : ∀ r ∈ rows, Figs r := fun r hr => Classical.byContradiction fun z => hf ⟨r, hr, z⟩
      by_cases hz : ∃ r ∈ rows, lv < (r.length : Int)
      · rw [h3 l0 l4 hF hz, g3 l0 l4 hF hz]
      · have hR : ∀ r ∈ rows, Figs r ∧ (r.length : Int) ≤ lv := fun r hr => ⟨hF r hr, Int.not_lt.mp fun z => hz ⟨r, hr, z⟩⟩
        rw [h4 l0 l4 hR, g4 l0 l4 hR]
  · rw [h1 hl, g1 hl]
theorem insert_figs {fs : List Int} {n : Nat} {y : Int} (h : ¬ (0 ≤ y ∧ y ≤ 6)) : ¬ Figs (fs.take n ++ [y] ++ fs.drop n) := fun z => h (z y (by simp))
theorem okF_law {P : Program} {w : World} {K : PySem.W.Frag} {mg : Str → Option Value} {base : Heap} {c_Region : Addr} {fa : Addr} {fd : FuncData} (F : Fun K "law" "law" s_law fa fd) (T : Tx mg) (rc : RegC K mg c_Region) (R__law_cell_at : Ref P w K mg base CX0 1 "_law_cell_at" n__law_cell_at_p (sp__law_cell_at K)) (R__law_rows : Ref P w K mg base CX0 2 "_law_rows" n__law_rows_p (sp__law_rows K)) (R__law_kinds : Ref P w K mg base CX0 4 "_law_kinds" n__law_kinds_p (sp__law_kinds K c_Region)) : FnOk P w K mg base CX0 5 fa fd n_law_p (sp_law K) := by
  refine F.ok sc_law (fun vs H Q E h => ?_) (fun cdv A outer s H vs Q E hr h => ?_)
  · obtain ⟨a, ns, rfl, _⟩ := h
    rfl
  · refine ⟨_, (pss_cons (ps_set (i := 1) sc_law.nd rfl (Or.inl rfl) (pe_op op_sub (pe_op op_mod (pe_fn R__law_cell_at (hr.mono (by decide)) (pa_cons (pv 0) (pa_cons pe_int pa_nil))) pe_int) pe_int))
        (pss_cons (ps_set (i := 2) sc_law.nd rfl (Or.inl rfl) (pe_fn R__law_rows (hr.mono (by decide)) (pa_cons (pv 0) pa_nil)))
        (pss_cons (ps_stop (ps_set (i := 3) sc_law.nd rfl (Or.inl rfl) (pe_and (pe_cmpR (r := rNeD K) (op_neD hr.units) (pv 2) (pe_lst pa_nil) (nomark _)) (pe_one (pe_cmpR op_eq (pe_op op_mod (pe_fn R__law_cell_at (hr.mono (by decide)) (pa_cons (pv 0) (pa_cons pe_int pa_nil))) pe_int) pe_int (nomark _))))))
        (C8.pss_cut (ps_if (pt_val (pv 3))
          (pss_cons (ps_set (i := 4) sc_law.nd rfl (Or.inl rfl) (pe_op op_add pe_int (pe_op op_mod (pe_op op_fdiv (pe_fn R__law_cell_at (hr.mono (by decide)) (pa_cons (pv 0) (pa_cons pe_int pa_nil))) pe_int) (pe_op op_pow pe_int pe_int))))
        (C8.pss_cut (ps_if (pt_cmpR op_eq (pe_op op_mod (pe_op op_fdiv (pe_fn R__law_cell_at (hr.mono (by decide)) (pa_cons (pv 0) (pa_cons pe_int pa_nil))) pe_int) pe_int) pe_int (nomark _))
          (pss_one (ps_set (i := 4) sc_law.nd rfl (Or.inl rfl) (pe_op op_sub pe_int (pv 4))))
          pss_nil)
        (pss_cons (ps_set (i := 5) sc_law.nd rfl (Or.inl rfl) (pe_ix (r := rIxL K) ix_list (pv 2) (pe_op op_mod (pe_fn R__law_cell_at (hr.mono (by decide)) (pa_cons (pv 0) (pa_cons pe_int pa_nil))) (pe_callB (r := rLen K) cl_len (by rfl) T.b_len (by decide +kernel) (pa_cons (pv 2) pa_nil))) (fun _ _ => rfl)))
        (pss_one (ps_expr (pe_bm PySem.F.plainAttrs_list PySem.F.slot_list_insert PySem.F.type_list_insert (r := rInsert) mtr_insert (pv 5) (pa_cons (pe_op op_mod (pe_fn R__law_cell_at (hr.mono (by decide)) (pa_cons (pv 0) (pa_cons pe_int pa_nil))) (pe_op op_add (pe_callB (r := rLen K) cl_len (by rfl) T.b_len (by decide +kernel) (pa_cons (pv 5) pa_nil)) pe_int)) (pa_cons (pv 4) pa_nil))))))))
          pss_nil)
        (pss_cons (ps_set (i := 6) sc_law.nd rfl (Or.inl rfl) (pe_lst pa_nil))
        (C8.pss_cut (ps_if (pt_cmpR op_gt (pe_callBK (cl_maxD rfl (u2 hr)) (by rfl) T.b_max (by decide +kernel) (pa_cons (pe_lc (own := [("row", 5)]) (g := gName 5) (tt := tYes) rfl sc_law.nd (pi_list (pv 2)) (blkOk_by (N := n_law) (sc := defScope s_law) (by decide +kernel)) (fun _ _ _ _ _ => pg_name (i := 5) sc_law.nd rfl (Or.inl rfl)) (fun _ _ _ _ _ => pts_nil) (fun _ _ _ _ _ => (pe_callB (r := rLen K) cl_len (by rfl) T.b_len (by decide +kernel) (pa_cons (pv 5) pa_nil)))) pa_nil) (pk_cons pe_int pk_nil)) (pv 1) (nomark _))
          (pss_one (ps_set (i := 6) sc_law.nd rfl (Or.inl rfl) (pe_lst (pa_cons pe_bl (pa_cons pe_bl (pa_cons pe_bl (pa_cons pe_bl (pa_cons pe_bl pa_nil))))))))
          pss_nil)
        (C8.pss_cut (ps_if (pt_val (pv 3))
          (pss_one (ps_set (i := 6) sc_law.nd rfl (Or.inl rfl) (pe_lst (pa_cons pe_bl (pa_cons pe_bl (pa_cons pe_bl (pa_cons pe_bl (pa_cons pe_bl pa_nil))))))))
          pss_nil)
        (C8.pss_cut (ps_if (pt_not (pt_chain op_le op_le pe_int (pv 1) pe_int))
          (pss_one (ps_set (i := 6) sc_law.nd rfl (Or.inl rfl) (pe_lst (pa_cons pe_bl (pa_cons pe_bl (pa_cons pe_bl (pa_cons pe_bl (pa_cons pe_bl pa_nil))))))))
          pss_nil)
        (pss_one (ps_ret (pe_cmpR (r := rEqD K) (op_eqD hr.units) (pe_fn R__law_kinds (hr.mono (by decide)) (pa_cons (pv 1) (pa_cons (pe_lc (own := [("row", 5)]) (g := gName 5) (tt := tYes) rfl sc_law.nd (pi_list (pv 2)) (blkOk_by (N := n_law) (sc := defScope s_law) (by decide +kernel)) (fun _ _ _ _ _ => pg_name (i := 5) sc_law.nd rfl (Or.inl rfl)) (fun _ _ _ _ _ => pts_nil) (fun _ _ _ _ _ => (pe_callTy (r := rList K) cl_list (by rfl) T.b_list (by decide +kernel) (pa_cons (pv 5) pa_nil)))) pa_nil))) (pv 6) (nomark _)))))))))))), ?_⟩
    try dsimp only [cxOf, Cx.nox, Cx.wish]
    obtain ⟨a, ns, rfl, hS, hlen, q⟩ := h
    have e9 : (10 : Int) ^ (9 : Int).toNat = 1000000000 := by decide
    walk_at "run"
    rename_i l ws rows H1 s1 hn hl hw nd hf hz
    have hwl := pr_len hw
    have hS1 := s1.seq hS
    obtain ⟨lv, elv⟩ : ∃ lv, lv = cellAt ns 0 % 13 - 3 := ⟨_, rfl⟩
    rw [← elv]
    refine w_stop (w_asgK (fun x G => ∃ bad : Bool, x = .bl bad ∧ Same H1 G ∧ (bad = true ↔ rows ≠ [] ∧ cellAt ns 9 % 3 = 1)) ?_ ?_)
    case refine_2 =>
      intro Q' k
      by_cases he : rows = []
      · walk_at "run"
        rename_i p hp
        refine r_neRws (SqL.of (upd_at (ne_of_none hl hp) hl)) (RwtX.sm (same_new hp) hw).rwt.rws (qs := []) sqL_new .nil ?_
        rw [decide_eq_true he]
        walk_at "run"
        exact k _ _ ⟨false, rfl, same_new hp, ⟨fun z => Bool.noConfusion z, fun z => absurd he z.1⟩⟩
      · walk_at "run"
        rename_i p hp
        refine r_neRws (SqL.of (upd_at (ne_of_none hl hp) hl)) (RwtX.sm (same_new hp) hw).rwt.rws (qs := []) sqL_new .nil ?_
        rw [decide_eq_false he]
        walk_at "run"
        exact k _ _ ⟨decide (cellAt ns 9 % 3 = 1), rfl, same_new hp, by rw [decide_eq_true_eq]; exact ⟨fun z => ⟨he, z⟩, fun z => z.2⟩⟩
    rintro x G ⟨bad, rfl, sG, hbad⟩
    have hlG := sG _ _ hl
    have hwG := RwtX.sm sG hw
    have hSG := sG.seq hS1
    walk_at "run"
    refine ⟨fun σ H' => ∃ rows2 y4 y5, σ = [some (.ref a), some (.int lv), some (.ref l), some (.bl bad), y4, y5, none] ∧ H' l = some (.lst ws) ∧ Rwt H' ws rows2 ∧ (∀ r ∈ rows2, r.length ≤ 7) ∧ (bad = true ↔ ∃ r ∈ rows2, ¬ Figs r), ?_, ?_⟩
    · cases bad with
      | true =>
        obtain ⟨hne, _⟩ := hbad.mp rfl
        have hpos : 0 < ws.length := by rw [hwl]; exact List.length_pos_iff.mpr hne
        have hpi : (0 : Int) < ((ws.length : Nat) : Int) := by omega
        have hm0 := Int.emod_nonneg (cellAt ns 10) (show ((ws.length : Nat) : Int) ≠ 0 by omega)
        have hm1 := Int.emod_lt_of_pos (cellAt ns 10) hpi
        obtain ⟨v, hv⟩ : ∃ v, ws[(cellAt ns 10 % ((ws.length : Nat) : Int)).toNat]? = some v := ⟨_, List.getElem?_eq_getElem (by omega)⟩
        obtain ⟨r, hr, ra, rfl, hral, hra⟩ := pr_get hwG hv
        have hat : atI ws (cellAt ns 10 % ((ws.length : Nat) : Int)) = some (.ref ra) := at_of (by omega) hv
        have hrm := hf r (List.mem_of_getElem? hr)
        have hrl : r.length ≤ 100000 := by omega
        have hrz : (((r.map V.int).length : Nat) : Int) ≤ 6 := by rw [List.length_map]; omega
        have ho0 := Int.emod_nonneg (cellAt ns 11) (show (((r.map V.int).length : Nat) : Int) + 1 ≠ 0 by omega)
        have ho1 := Int.emod_lt_of_pos (cellAt ns 11) (show 0 < (((r.map V.int).length : Nat) : Int) + 1 by omega)
        walk_at "run"
        refine ⟨fun σ H' => ∃ odd : Int, σ = [some (.ref a), some (.int lv), some (.ref l), some (.bl true), some (.int odd), none, none] ∧ H' = G ∧ ¬ (0 ≤ odd ∧ odd ≤ 6), ?_, ?_⟩
        · walk_at "run"
          refine ite_d (fun e => ?_) (fun e => ?_)
          · walk_at "run"
            rw [e9]
            exact ⟨_, rfl, rfl, by omega⟩
          · walk_at "run"
            rw [e9]
            exact ⟨_, rfl, rfl, by omega⟩
        rintro σ H3 ⟨odd, rfl, rfl, hodd⟩
        walk_at "run"
        obtain ⟨io, hio⟩ : ∃ io, io = (cellAt ns 11 % ((((r.map V.int).length : Nat) : Int) + 1)).toNat := ⟨_, rfl⟩
        obtain ⟨ix, hix⟩ : ∃ ix, ix = (cellAt ns 10 % ((ws.length : Nat) : Int)).toNat := ⟨_, rfl⟩
        rw [← hio]
        rw [← hix] at hr hv
        have hsl : (rows.set ix (r.take io ++ [odd] ++ r.drop io))[ix]? = some (r.take io ++ [odd] ++ r.drop io) := List.getElem?_set_self (List.getElem?_eq_some_iff.mp hr).1
        refine ⟨rows.set ix (r.take io ++ [odd] ++ r.drop io), _, _, rfl, upd_at hral.symm hlG, Rwt.set hwG.rwt nd hv, ?_, ?_⟩
        · intro x hx
          rcases List.mem_or_eq_of_mem_set hx with hx | rfl
          · have := (hf x hx).2
            omega
          · rw [List.length_append, List.length_append, List.length_take, List.length_drop, List.length_singleton]
            omega
        · exact ⟨fun _ => ⟨_, List.mem_of_getElem? hsl, insert_figs hodd⟩, fun _ => rfl⟩
      | false =>
        walk_at "run"
        exact ⟨rows, _, _, rfl, hlG, hwG.rwt, fun r hr => by have := (hf r hr).2; omega, ⟨fun z => Bool.noConfusion z, fun ⟨r, hr, z⟩ => absurd (hf r hr).1 z⟩⟩
    rintro σ H4 ⟨rows2, y4, y5, rfl, hl4, hw4, hz4, hb4⟩
    have hwl2 := pr_len hw4
    clear hw hl hlG hwG hSG hS1 hS
    walk_at "run"
    rename_i ld hld
    have hl5 := same_new hld (o := .lst []) _ _ hl4
    have hw5 := Rwt.sm (same_new hld (o := .lst [])) hw4
    refine ⟨fun σ H' => ∃ (le : Addr) (bs : List Bool), σ = [some (.ref a), some (.int lv), some (.ref l), some (.bl bad), y4, y5, some (.ref le)] ∧ H' l = some (.lst ws) ∧ Rwt H' ws rows2 ∧ H' le = some (.lst (bs.map V.bl)) ∧ (0 ≤ lv → (∃ r ∈ rows2, lv < (r.length : Int)) → bs = [false, false, true, false, true]) ∧ (0 ≤ lv → (¬ ∃ r ∈ rows2, lv < (r.length : Int)) → bs = []), ?_, ?_⟩
    · walk_at "run"
      refine c_listVI (fun i => ((rows2.getD i []).length : Int)) (SqL.of hl5) (by omega) (fun x => rfl) (fun i x H' R hx s k => ?_) (fun lm H6 s6 hn6 hl6 => ?_)
      · obtain ⟨r, hr, ra, rfl, hra⟩ := pr_get hw5 hx
        have hra6 : SqL K H' ra (r.map V.int) := SqL.of (s _ _ hra)
        have e : rows2.getD i [] = r := by
          rw [List.getD_eq_getElem?_getD, hr]
          rfl
        walk_at "run"
        rw [List.length_map, ← e]
        exact k _ (Same.refl _)
      walk_at "run"
      have hmem : ∀ y : Int, y ∈ (List.range ws.length).map (fun i => ((rows2.getD i []).length : Int)) ↔ ∃ r ∈ rows2, y = (r.length : Int) := fun y => by
        rw [show (List.range ws.length).map (fun i => ((rows2.getD i []).length : Int)) = rows2.map fun r => (r.length : Int) by
          rw [← range_getD (n := ws.length) hwl2, List.map_map, range_getD hwl2]; rfl]
        rw [List.mem_map]
        exact ⟨fun ⟨r, h, e⟩ => ⟨r, h, e.symm⟩, fun ⟨r, h, e⟩ => ⟨r, h, e.symm⟩⟩
      have hl7 := s6 _ _ hl5
      have hw7 := Rwt.sm s6 hw5
      have hd7 := s6 _ _ (show upd H4 ld (.lst []) ld = some (.lst []) from upd_same)
      refine r_maxD (SqL.of hl6) (fun e0 => ?_) (fun m hm hle => ?_)
      · have hno : ¬ ∃ r ∈ rows2, lv < (r.length : Int) := fun ⟨r, hr, _⟩ => by
          have := (hmem _).mpr ⟨r, hr, rfl⟩
          rw [e0] at this
          cases this
        by_cases hl0 : (0 : Int) > lv
        · walk_at "run"
          exact ⟨_, [false, false, true, false, true], rfl, by walk_at "ofact", Rwt.sm (same_new (by assumption)) hw7, upd_same, fun z => absurd z (by omega), fun z => absurd z (by omega)⟩
        · walk_at "run"
          exact ⟨ld, [], rfl, hl7, hw7, hd7, fun _ z => absurd z hno, fun _ _ => rfl⟩
      · obtain ⟨r, hr, rfl⟩ := (hmem m).mp hm
        by_cases hgt : (r.length : Int) > lv
        · walk_at "run"
          exact ⟨_, [false, false, true, false, true], rfl, by walk_at "ofact", Rwt.sm (same_new (by assumption)) hw7, upd_same, fun _ _ => rfl, fun _ z => absurd ⟨r, hr, hgt⟩ z⟩
        · walk_at "run"
          refine ⟨ld, [], rfl, hl7, hw7, hd7, fun _ ⟨r2, h2, z⟩ => ?_, fun _ _ => rfl⟩
          have := hle _ ((hmem _).mpr ⟨r2, h2, rfl⟩)
          omega
    rintro σ H5 ⟨le, bs, rfl, hl8, hw8, hd8, hb1, hb2⟩
    clear hl5 hw5 hl4 hw4
    walk_at "run"
    refine ⟨fun σ H' => ∃ (le : Addr) (bs : List Bool), σ = [some (.ref a), some (.int lv), some (.ref l), some (.bl bad), y4, y5, some (.ref le)] ∧ H' l = some (.lst ws) ∧ Rwt H' ws rows2 ∧ H' le = some (.lst (bs.map V.bl)) ∧ (0 ≤ lv → (∃ r ∈ rows2, ¬ Figs r) → bs = [false, true, false, false, true]) ∧ (0 ≤ lv → (¬ ∃ r ∈ rows2, ¬ Figs r) → (∃ r ∈ rows2, lv < (r.length : Int)) → bs = [false, false, true, false, true]) ∧ (0 ≤ lv → (¬ ∃ r ∈ rows2, ¬ Figs r) → (¬ ∃ r ∈ rows2, lv < (r.length : Int)) → bs = []), ?_, ?_⟩
    · walk_at "run"
      cases bad with
      | true =>
        walk_at "run"
        exact ⟨_, [false, true, false, false, true], rfl, by walk_at "ofact", Rwt.sm (same_new (by assumption)) hw8, upd_same, fun _ _ => rfl, fun _ z => absurd (hb4.mp rfl) z, fun _ z => absurd (hb4.mp rfl) z⟩
      | false =>
        walk_at "run"
        exact ⟨le, bs, rfl, hl8, hw8, hd8, fun _ z => absurd (hb4.mpr z) (by decide), fun l0 _ => hb1 l0, fun l0 _ => hb2 l0⟩
    rintro σ H6 ⟨le2, bs2, rfl, hl9, hw9, hd9, hc1, hc2, hc3⟩
    clear hl8 hw8 hd8
    walk_at "run"
    refine ⟨fun σ H' => ∃ (le : Addr) (bs : List Bool), σ = [some (.ref a), some (.int lv), some (.ref l), some (.bl bad), y4, y5, some (.ref le)] ∧ H' l = some (.lst ws) ∧ Rwt H' ws rows2 ∧ H' le = some (.lst (bs.map V.bl)) ∧ dueK lv rows2 bs, ?_, ?_⟩
    · by_cases hl0 : 0 ≤ lv
      · by_cases hl4 : lv ≤ 4
        · walk_at "run"
          exact ⟨le2, bs2, rfl, hl9, hw9, hd9, fun z => absurd ⟨hl0, hl4⟩ z, fun _ _ => hc1 hl0, fun _ _ hF hz => hc2 hl0 (fun ⟨r, hr, z⟩ => z (hF r hr)) hz, fun _ _ hR => hc3 hl0 (fun ⟨r, hr, z⟩ => z (hR r hr).1) fun ⟨r, hr, z⟩ => absurd (hR r hr).2 (by omega)⟩
        · walk_at "run"
          exact ⟨_, [true, false, false, false, true], rfl, by walk_at "ofact", Rwt.sm (same_new (by assumption)) hw9, upd_same, fun _ => rfl, fun _ z => absurd z hl4, fun _ z => absurd z hl4, fun _ z => absurd z hl4⟩
      · walk_at "run"
        exact ⟨_, [true, false, false, false, true], rfl, by walk_at "ofact", Rwt.sm (same_new (by assumption)) hw9, upd_same, fun _ => rfl, fun z => absurd z hl0, fun z => absurd z hl0, fun z => absurd z hl0⟩
    rintro σ H7 ⟨le3, bs3, rfl, hl10, hw10, hd10, hdue⟩
    clear hl9 hw9 hd9 hc1 hc2 hc3
    walk_at "run"
    refine c_copyRows (SqL.of hl10) hw10.rws (by omega) (fun x => rfl) (fun b r H' R hb k => ?_) (fun lc us H8 s8 hn8 hl11 hr8 nd8 => ?_)
    · walk_at "run"
      exact k _ (by assumption)
    walk_at "run"
    refine c__law_kinds (SqL.of hl11) hr8.rwt.rws (fun r hr => by have := hz4 r hr; omega) (by omega) fun lk bk H9 s9 hlk hdk => ?_
    have ebk := dueK_uniq hdk hdue
    walk_at "run"
    refine r_eqBL bk bs3 (SqL.of hlk) (SqL.of (s9 _ _ (s8 _ _ hd10))) ?_
    rw [decide_eq_true ebk]
    walk_at "run"
    exact q _
end Hx
namespace Hx
open PySem PySem.Spec PyProof.Rows L2
set_option maxHeartbeats 0 in
theorem all_mk {P : Program} {w : World} {K : PySem.W.Frag} {h : Heap} {mg : Str → Option Value} {fa : Addr} (X : K.In h) (G : h.Ns mainGlobals mg) (hfa : mg "law" = some (.ref fa))
    {c_Region : Addr} (qC : PySem.W.nsIn K mainGlobals "Region" = some (some (.ref c_Region))) (qpg : PySem.W.plainGet K c_Region Str.empty = true) (qhd : PySem.W.hasDictIn K c_Region = true) (qpo : PySem.W.plainOver K c_Region = true) (qsa : PySem.W.findIn K (.ref c_Region) "__setattr__" = some (some (.builtin "object.__setattr__"))) (qmk : PySem.W.makesIn K c_Region = true) (qkc : PySem.W.keepIn K (.ref c_Region) = true) (qnL : PySem.W.findIn K (.ref c_Region) "level" = some none) (qnN : PySem.W.findIn K (.ref c_Region) "lines" = some none)
    {od__law_cell_at an__law_cell_at : Option Addr} {sl__law_cell_at : Array (Option Value)} {oc__law_cell_at kV__law_cell_at dc__law_cell_at pm__law_cell_at cd__law_cell_at ct__law_cell_at : Value} {f__law_cell_at : Addr}
    {od__law_rows an__law_rows : Option Addr} {sl__law_rows : Array (Option Value)} {oc__law_rows kV__law_rows dc__law_rows pm__law_rows cd__law_rows ct__law_rows : Value} {f__law_rows : Addr}
    {od_see_figures_X an_see_figures_X : Option Addr} {sl_see_figures_X : Array (Option Value)} {oc_see_figures_X kV_see_figures_X dc_see_figures_X pm_see_figures_X cd_see_figures_X ct_see_figures_X : Value} {f_see_figures_X : Addr}
    {od_lines_from an_lines_from : Option Addr} {sl_lines_from : Array (Option Value)} {oc_lines_from kV_lines_from dc_lines_from pm_lines_from cd_lines_from ct_lines_from : Value} {f_lines_from : Addr}
    {od_Region___init___X an_Region___init___X : Option Addr} {sl_Region___init___X : Array (Option Value)} {oc_Region___init___X kV_Region___init___X dc_Region___init___X pm_Region___init___X cd_Region___init___X ct_Region___init___X : Value} {f_Region___init___X : Addr}
    {od__law_kinds an__law_kinds : Option Addr} {sl__law_kinds : Array (Option Value)} {oc__law_kinds kV__law_kinds dc__law_kinds pm__law_kinds cd__law_kinds ct__law_kinds : Value} {f__law_kinds : Addr}
    {od_law an_law : Option Addr} {sl_law : Array (Option Value)} {oc_law kV_law dc_law pm_law cd_law ct_law : Value} {f_law : Addr}
    (a__law_cell_at : PySem.W.nsIn K mainGlobals "_law_cell_at" = some (some (.ref f__law_cell_at))) (l__law_cell_at : K.lookup f__law_cell_at = some ⟨oc__law_cell_at, od__law_cell_at, .func (PySem.W.fnOf "_law_cell_at" "_law_cell_at" (defArgs s__law_cell_at) (defBody s__law_cell_at) (defScope s__law_cell_at) .none kV__law_cell_at dc__law_cell_at pm__law_cell_at an__law_cell_at cd__law_cell_at ct__law_cell_at), sl__law_cell_at⟩) (c__law_cell_at : PySem.W.codeIn K cd__law_cell_at "_law_cell_at" = true) (k__law_cell_at : PySem.W.keepIn K (.ref f__law_cell_at) = true)
    (a__law_rows : PySem.W.nsIn K mainGlobals "_law_rows" = some (some (.ref f__law_rows))) (l__law_rows : K.lookup f__law_rows = some ⟨oc__law_rows, od__law_rows, .func (PySem.W.fnOf "_law_rows" "_law_rows" (defArgs s__law_rows) (defBody s__law_rows) (defScope s__law_rows) .none kV__law_rows dc__law_rows pm__law_rows an__law_rows cd__law_rows ct__law_rows), sl__law_rows⟩) (c__law_rows : PySem.W.codeIn K cd__law_rows "_law_rows" = true) (k__law_rows : PySem.W.keepIn K (.ref f__law_rows) = true)
    (a_see_figures_X : PySem.W.nsIn K mainGlobals "see_figures" = some (some (.ref f_see_figures_X))) (l_see_figures_X : K.lookup f_see_figures_X = some ⟨oc_see_figures_X, od_see_figures_X, .func (PySem.W.fnOf "see_figures" "see_figures" (defArgs s_see_figures_X) (defBody s_see_figures_X) (defScope s_see_figures_X) .none kV_see_figures_X dc_see_figures_X pm_see_figures_X an_see_figures_X cd_see_figures_X ct_see_figures_X), sl_see_figures_X⟩) (c_see_figures_X : PySem.W.codeIn K cd_see_figures_X "see_figures" = true) (k_see_figures_X : PySem.W.keepIn K (.ref f_see_figures_X) = true)
    (a_lines_from : PySem.W.nsIn K mainGlobals "lines_from" = some (some (.ref f_lines_from))) (l_lines_from : K.lookup f_lines_from = some ⟨oc_lines_from, od_lines_from, .func (PySem.W.fnOf "lines_from" "lines_from" (defArgs s_lines_from) (defBody s_lines_from) (defScope s_lines_from) .none kV_lines_from dc_lines_from pm_lines_from an_lines_from cd_lines_from ct_lines_from), sl_lines_from⟩) (c_lines_from : PySem.W.codeIn K cd_lines_from "lines_from" = true) (k_lines_from : PySem.W.keepIn K (.ref f_lines_from) = true)
    (a_Region___init___X : PySem.W.findIn K (.ref c_Region) "__init__" = some (some (.ref f_Region___init___X))) (i_Region___init___X : PySem.W.isFn K (.ref f_Region___init___X) = true) (l_Region___init___X : K.lookup f_Region___init___X = some ⟨oc_Region___init___X, od_Region___init___X, .func (PySem.W.fnOf "__init__" "Region.__init__" (defArgs s_Region___init___X) (defBody s_Region___init___X) (defScope s_Region___init___X) .none kV_Region___init___X dc_Region___init___X pm_Region___init___X an_Region___init___X cd_Region___init___X ct_Region___init___X), sl_Region___init___X⟩) (c_Region___init___X : PySem.W.codeIn K cd_Region___init___X "Region.__init__" = true) (k_Region___init___X : PySem.W.keepIn K (.ref f_Region___init___X) = true)
    (a__law_kinds : PySem.W.nsIn K mainGlobals "_law_kinds" = some (some (.ref f__law_kinds))) (l__law_kinds : K.lookup f__law_kinds = some ⟨oc__law_kinds, od__law_kinds, .func (PySem.W.fnOf "_law_kinds" "_law_kinds" (defArgs s__law_kinds) (defBody s__law_kinds) (defScope s__law_kinds) .none kV__law_kinds dc__law_kinds pm__law_kinds an__law_kinds cd__law_kinds ct__law_kinds), sl__law_kinds⟩) (c__law_kinds : PySem.W.codeIn K cd__law_kinds "_law_kinds" = true) (k__law_kinds : PySem.W.keepIn K (.ref f__law_kinds) = true)
    (a_law : PySem.W.nsIn K mainGlobals "law" = some (some (.ref f_law))) (l_law : K.lookup f_law = some ⟨oc_law, od_law, .func (PySem.W.fnOf "law" "law" (defArgs s_law) (defBody s_law) (defScope s_law) .none kV_law dc_law pm_law an_law cd_law ct_law), sl_law⟩) (c_law : PySem.W.codeIn K cd_law "law" = true) (k_law : PySem.W.keepIn K (.ref f_law) = true)
    (z_len : PySem.W.nsIn K mainGlobals "len" = some none)
    (z_range : PySem.W.nsIn K mainGlobals "range" = some none)
    (z_list : PySem.W.nsIn K mainGlobals "list" = some none)
    (z_tuple : PySem.W.nsIn K mainGlobals "tuple" = some none)
    (z_max : PySem.W.nsIn K mainGlobals "max" = some none)
    (z_min : PySem.W.nsIn K mainGlobals "min" = some none)
    (z_abs : PySem.W.nsIn K mainGlobals "abs" = some none)
    (z_int : PySem.W.nsIn K mainGlobals "int" = some none)
    (z_bool : PySem.W.nsIn K mainGlobals "bool" = some none)
    (z_isinstance : PySem.W.nsIn K mainGlobals "isinstance" = some none)
    (z_sorted : PySem.W.nsIn K mainGlobals "sorted" = some none)
    (z_dict : PySem.W.nsIn K mainGlobals "dict" = some none)
    (z_ValueError : PySem.W.nsIn K mainGlobals "ValueError" = some none)
    (yn : PySem.W.specialIn K (.builtin "object.__class__") "__get__" = some (some (.builtin "getset_descriptor.__get__"))) (yt : PySem.W.takesIn K (.builtin "object.__class__") = some true)
    {c_FloorError : Addr} (yg_FloorError : PySem.W.nsIn K mainGlobals "FloorError" = some (some (.ref c_FloorError))) (yx_FloorError : PySem.W.excIn K c_FloorError [.type "ValueError", .type "Exception", .type "BaseException", .type "object"] "ValueError.__new__" = true) (yk_FloorError : PySem.W.keepIn K (.ref c_FloorError) = true) (yb_FloorError : PySem.W.subIn K (.ref c_FloorError) (.type "BaseException") = some true) (yt_FloorError : PySem.W.typeIn K (.ref c_FloorError) = some (.type "type")) (yhg_FloorError : PySem.W.findIn K (.ref c_FloorError) "__getattribute__" = some (some (.builtin "BaseException.__getattribute__"))) (yhk_FloorError : PySem.W.findIn K (.ref c_FloorError) "__getattr__" = some none) (yhd_FloorError : PySem.W.hasDictIn K c_FloorError = true) (yha_FloorError : PySem.W.findIn K (.ref c_FloorError) "__class__" = some (some (.builtin "object.__class__"))) (yhm_FloorError : PySem.W.mroIn K c_FloorError (.type "object") = some true) (yv_FloorError : PySem.W.kitOne K (.ref c_FloorError) (.type "ValueError") = some true)
    {c_NoCell : Addr} (yg_NoCell : PySem.W.nsIn K mainGlobals "NoCell" = some (some (.ref c_NoCell))) (yx_NoCell : PySem.W.excIn K c_NoCell [.type "ValueError", .type "Exception", .type "BaseException", .type "object"] "ValueError.__new__" = true) (yk_NoCell : PySem.W.keepIn K (.ref c_NoCell) = true) (yb_NoCell : PySem.W.subIn K (.ref c_NoCell) (.type "BaseException") = some true) (yt_NoCell : PySem.W.typeIn K (.ref c_NoCell) = some (.type "type")) (yhg_NoCell : PySem.W.findIn K (.ref c_NoCell) "__getattribute__" = some (some (.builtin "BaseException.__getattribute__"))) (yhk_NoCell : PySem.W.findIn K (.ref c_NoCell) "__getattr__" = some none) (yhd_NoCell : PySem.W.hasDictIn K c_NoCell = true) (yha_NoCell : PySem.W.findIn K (.ref c_NoCell) "__class__" = some (some (.builtin "object.__class__"))) (yhm_NoCell : PySem.W.mroIn K c_NoCell (.type "object") = some true) (yv_NoCell : PySem.W.kitOne K (.ref c_NoCell) (.type "ValueError") = some true)
    {c_NoFigure : Addr} (yg_NoFigure : PySem.W.nsIn K mainGlobals "NoFigure" = some (some (.ref c_NoFigure))) (yx_NoFigure : PySem.W.excIn K c_NoFigure [.type "ValueError", .type "Exception", .type "BaseException", .type "object"] "ValueError.__new__" = true) (yk_NoFigure : PySem.W.keepIn K (.ref c_NoFigure) = true) (yb_NoFigure : PySem.W.subIn K (.ref c_NoFigure) (.type "BaseException") = some true) (yt_NoFigure : PySem.W.typeIn K (.ref c_NoFigure) = some (.type "type")) (yhg_NoFigure : PySem.W.findIn K (.ref c_NoFigure) "__getattribute__" = some (some (.builtin "BaseException.__getattribute__"))) (yhk_NoFigure : PySem.W.findIn K (.ref c_NoFigure) "__getattr__" = some none) (yhd_NoFigure : PySem.W.hasDictIn K c_NoFigure = true) (yha_NoFigure : PySem.W.findIn K (.ref c_NoFigure) "__class__" = some (some (.builtin "object.__class__"))) (yhm_NoFigure : PySem.W.mroIn K c_NoFigure (.type "object") = some true) (yv_NoFigure : PySem.W.kitOne K (.ref c_NoFigure) (.type "ValueError") = some true)
    {c_NoLevel : Addr} (yg_NoLevel : PySem.W.nsIn K mainGlobals "NoLevel" = some (some (.ref c_NoLevel))) (yx_NoLevel : PySem.W.excIn K c_NoLevel [.type "ValueError", .type "Exception", .type "BaseException", .type "object"] "ValueError.__new__" = true) (yk_NoLevel : PySem.W.keepIn K (.ref c_NoLevel) = true) (yb_NoLevel : PySem.W.subIn K (.ref c_NoLevel) (.type "BaseException") = some true) (yt_NoLevel : PySem.W.typeIn K (.ref c_NoLevel) = some (.type "type")) (yhg_NoLevel : PySem.W.findIn K (.ref c_NoLevel) "__getattribute__" = some (some (.builtin "BaseException.__getattribute__"))) (yhk_NoLevel : PySem.W.findIn K (.ref c_NoLevel) "__getattr__" = some none) (yhd_NoLevel : PySem.W.hasDictIn K c_NoLevel = true) (yha_NoLevel : PySem.W.findIn K (.ref c_NoLevel) "__class__" = some (some (.builtin "object.__class__"))) (yhm_NoLevel : PySem.W.mroIn K c_NoLevel (.type "object") = some true) (yv_NoLevel : PySem.W.kitOne K (.ref c_NoLevel) (.type "ValueError") = some true)
    {c_Apart : Addr} (yg_Apart : PySem.W.nsIn K mainGlobals "Apart" = some (some (.ref c_Apart))) (yx_Apart : PySem.W.excIn K c_Apart [.type "ValueError", .type "Exception", .type "BaseException", .type "object"] "ValueError.__new__" = true) (yk_Apart : PySem.W.keepIn K (.ref c_Apart) = true) (yb_Apart : PySem.W.subIn K (.ref c_Apart) (.type "BaseException") = some true) (yt_Apart : PySem.W.typeIn K (.ref c_Apart) = some (.type "type")) (yhg_Apart : PySem.W.findIn K (.ref c_Apart) "__getattribute__" = some (some (.builtin "BaseException.__getattribute__"))) (yhk_Apart : PySem.W.findIn K (.ref c_Apart) "__getattr__" = some none) (yhd_Apart : PySem.W.hasDictIn K c_Apart = true) (yha_Apart : PySem.W.findIn K (.ref c_Apart) "__class__" = some (some (.builtin "object.__class__"))) (yhm_Apart : PySem.W.mroIn K c_Apart (.type "object") = some true) (yv_Apart : PySem.W.kitOne K (.ref c_Apart) (.type "ValueError") = some true)
    (ys_Apart_Apart : PySem.W.subIn K (.ref c_Apart) (.ref c_Apart) = some true) (yi_Apart_Apart : PySem.W.kitOne K (.ref c_Apart) (.ref c_Apart) = some true)
    (ys_Apart_FloorError : PySem.W.subIn K (.ref c_Apart) (.ref c_FloorError) = some true) (yi_Apart_FloorError : PySem.W.kitOne K (.ref c_Apart) (.ref c_FloorError) = some true)
    (ys_Apart_NoCell : PySem.W.subIn K (.ref c_Apart) (.ref c_NoCell) = some false) (yi_Apart_NoCell : PySem.W.kitOne K (.ref c_Apart) (.ref c_NoCell) = some false)
    (ys_Apart_NoFigure : PySem.W.subIn K (.ref c_Apart) (.ref c_NoFigure) = some false) (yi_Apart_NoFigure : PySem.W.kitOne K (.ref c_Apart) (.ref c_NoFigure) = some false)
    (ys_Apart_NoLevel : PySem.W.subIn K (.ref c_Apart) (.ref c_NoLevel) = some false) (yi_Apart_NoLevel : PySem.W.kitOne K (.ref c_Apart) (.ref c_NoLevel) = some false)
    (ys_FloorError_Apart : PySem.W.subIn K (.ref c_FloorError) (.ref c_Apart) = some false) (yi_FloorError_Apart : PySem.W.kitOne K (.ref c_FloorError) (.ref c_Apart) = some false)
    (ys_FloorError_FloorError : PySem.W.subIn K (.ref c_FloorError) (.ref c_FloorError) = some true) (yi_FloorError_FloorError : PySem.W.kitOne K (.ref c_FloorError) (.ref c_FloorError) = some true)
    (ys_FloorError_NoCell : PySem.W.subIn K (.ref c_FloorError) (.ref c_NoCell) = some false) (yi_FloorError_NoCell : PySem.W.kitOne K (.ref c_FloorError) (.ref c_NoCell) = some false)
    (ys_FloorError_NoFigure : PySem.W.subIn K (.ref c_FloorError) (.ref c_NoFigure) = some false) (yi_FloorError_NoFigure : PySem.W.kitOne K (.ref c_FloorError) (.ref c_NoFigure) = some false)
    (ys_FloorError_NoLevel : PySem.W.subIn K (.ref c_FloorError) (.ref c_NoLevel) = some false) (yi_FloorError_NoLevel : PySem.W.kitOne K (.ref c_FloorError) (.ref c_NoLevel) = some false)
    (ys_NoCell_Apart : PySem.W.subIn K (.ref c_NoCell) (.ref c_Apart) = some false) (yi_NoCell_Apart : PySem.W.kitOne K (.ref c_NoCell) (.ref c_Apart) = some false)
    (ys_NoCell_FloorError : PySem.W.subIn K (.ref c_NoCell) (.ref c_FloorError) = some true) (yi_NoCell_FloorError : PySem.W.kitOne K (.ref c_NoCell) (.ref c_FloorError) = some true)
    (ys_NoCell_NoCell : PySem.W.subIn K (.ref c_NoCell) (.ref c_NoCell) = some true) (yi_NoCell_NoCell : PySem.W.kitOne K (.ref c_NoCell) (.ref c_NoCell) = some true)
    (ys_NoCell_NoFigure : PySem.W.subIn K (.ref c_NoCell) (.ref c_NoFigure) = some false) (yi_NoCell_NoFigure : PySem.W.kitOne K (.ref c_NoCell) (.ref c_NoFigure) = some false)
    (ys_NoCell_NoLevel : PySem.W.subIn K (.ref c_NoCell) (.ref c_NoLevel) = some false) (yi_NoCell_NoLevel : PySem.W.kitOne K (.ref c_NoCell) (.ref c_NoLevel) = some false)
    (ys_NoFigure_Apart : PySem.W.subIn K (.ref c_NoFigure) (.ref c_Apart) = some false) (yi_NoFigure_Apart : PySem.W.kitOne K (.ref c_NoFigure) (.ref c_Apart) = some false)
    (ys_NoFigure_FloorError : PySem.W.subIn K (.ref c_NoFigure) (.ref c_FloorError) = some true) (yi_NoFigure_FloorError : PySem.W.kitOne K (.ref c_NoFigure) (.ref c_FloorError) = some true)
    (ys_NoFigure_NoCell : PySem.W.subIn K (.ref c_NoFigure) (.ref c_NoCell) = some false) (yi_NoFigure_NoCell : PySem.W.kitOne K (.ref c_NoFigure) (.ref c_NoCell) = some false)
    (ys_NoFigure_NoFigure : PySem.W.subIn K (.ref c_NoFigure) (.ref c_NoFigure) = some true) (yi_NoFigure_NoFigure : PySem.W.kitOne K (.ref c_NoFigure) (.ref c_NoFigure) = some true)
    (ys_NoFigure_NoLevel : PySem.W.subIn K (.ref c_NoFigure) (.ref c_NoLevel) = some false) (yi_NoFigure_NoLevel : PySem.W.kitOne K (.ref c_NoFigure) (.ref c_NoLevel) = some false)
    (ys_NoLevel_Apart : PySem.W.subIn K (.ref c_NoLevel) (.ref c_Apart) = some false) (yi_NoLevel_Apart : PySem.W.kitOne K (.ref c_NoLevel) (.ref c_Apart) = some false)
    (ys_NoLevel_FloorError : PySem.W.subIn K (.ref c_NoLevel) (.ref c_FloorError) = some true) (yi_NoLevel_FloorError : PySem.W.kitOne K (.ref c_NoLevel) (.ref c_FloorError) = some true)
    (ys_NoLevel_NoCell : PySem.W.subIn K (.ref c_NoLevel) (.ref c_NoCell) = some false) (yi_NoLevel_NoCell : PySem.W.kitOne K (.ref c_NoLevel) (.ref c_NoCell) = some false)
    (ys_NoLevel_NoFigure : PySem.W.subIn K (.ref c_NoLevel) (.ref c_NoFigure) = some false) (yi_NoLevel_NoFigure : PySem.W.kitOne K (.ref c_NoLevel) (.ref c_NoFigure) = some false)
    (ys_NoLevel_NoLevel : PySem.W.subIn K (.ref c_NoLevel) (.ref c_NoLevel) = some true) (yi_NoLevel_NoLevel : PySem.W.kitOne K (.ref c_NoLevel) (.ref c_NoLevel) = some true) :
    ∃ fd : FuncData, (∀ (s : Shared) (v : Value), BindsTo s fd ⟨[v], []⟩ [("script", v)]) ∧ ∀ base : Heap, K.In base → base.Ns mainGlobals mg → FnOk P w K mg base CX0 5 fa fd ["script"] (sp_law K) := by
  have e := hfa.symm.trans (PySem.W.mg_of X G a_law)
  cases e
  have T : Tx mg := ⟨PySem.W.mg_none_of X G z_len, PySem.W.mg_none_of X G z_range, PySem.W.mg_none_of X G z_list, PySem.W.mg_none_of X G z_tuple, PySem.W.mg_none_of X G z_max, PySem.W.mg_none_of X G z_min, PySem.W.mg_none_of X G z_abs, PySem.W.mg_none_of X G z_int, PySem.W.mg_none_of X G z_bool, PySem.W.mg_none_of X G z_isinstance, PySem.W.mg_none_of X G z_sorted, PySem.W.mg_none_of X G z_dict, PySem.W.mg_none_of X G z_ValueError⟩
  have e_FloorError : EC K mg "FloorError" c_FloorError := ⟨PySem.W.mg_of X G yg_FloorError, yx_FloorError, yk_FloorError, yb_FloorError, yt_FloorError, ⟨yhg_FloorError, yhk_FloorError, yb_FloorError, yhd_FloorError, yha_FloorError, yn, yt, yhm_FloorError⟩, yv_FloorError⟩
  have e_NoCell : EC K mg "NoCell" c_NoCell := ⟨PySem.W.mg_of X G yg_NoCell, yx_NoCell, yk_NoCell, yb_NoCell, yt_NoCell, ⟨yhg_NoCell, yhk_NoCell, yb_NoCell, yhd_NoCell, yha_NoCell, yn, yt, yhm_NoCell⟩, yv_NoCell⟩
  have e_NoFigure : EC K mg "NoFigure" c_NoFigure := ⟨PySem.W.mg_of X G yg_NoFigure, yx_NoFigure, yk_NoFigure, yb_NoFigure, yt_NoFigure, ⟨yhg_NoFigure, yhk_NoFigure, yb_NoFigure, yhd_NoFigure, yha_NoFigure, yn, yt, yhm_NoFigure⟩, yv_NoFigure⟩
  have e_NoLevel : EC K mg "NoLevel" c_NoLevel := ⟨PySem.W.mg_of X G yg_NoLevel, yx_NoLevel, yk_NoLevel, yb_NoLevel, yt_NoLevel, ⟨yhg_NoLevel, yhk_NoLevel, yb_NoLevel, yhd_NoLevel, yha_NoLevel, yn, yt, yhm_NoLevel⟩, yv_NoLevel⟩
  have e_Apart : EC K mg "Apart" c_Apart := ⟨PySem.W.mg_of X G yg_Apart, yx_Apart, yk_Apart, yb_Apart, yt_Apart, ⟨yhg_Apart, yhk_Apart, yb_Apart, yhd_Apart, yha_Apart, yn, yt, yhm_Apart⟩, yv_Apart⟩
  have z_Apart_Apart : Rel K c_Apart c_Apart true := ⟨ys_Apart_Apart, yi_Apart_Apart⟩
  have z_Apart_FloorError : Rel K c_Apart c_FloorError true := ⟨ys_Apart_FloorError, yi_Apart_FloorError⟩
  have z_Apart_NoCell : Rel K c_Apart c_NoCell false := ⟨ys_Apart_NoCell, yi_Apart_NoCell⟩
  have z_Apart_NoFigure : Rel K c_Apart c_NoFigure false := ⟨ys_Apart_NoFigure, yi_Apart_NoFigure⟩
  have z_Apart_NoLevel : Rel K c_Apart c_NoLevel false := ⟨ys_Apart_NoLevel, yi_Apart_NoLevel⟩
  have z_FloorError_Apart : Rel K c_FloorError c_Apart false := ⟨ys_FloorError_Apart, yi_FloorError_Apart⟩
  have z_FloorError_FloorError : Rel K c_FloorError c_FloorError true := ⟨ys_FloorError_FloorError, yi_FloorError_FloorError⟩
  have z_FloorError_NoCell : Rel K c_FloorError c_NoCell false := ⟨ys_FloorError_NoCell, yi_FloorError_NoCell⟩
  have z_FloorError_NoFigure : Rel K c_FloorError c_NoFigure false := ⟨ys_FloorError_NoFigure, yi_FloorError_NoFigure⟩
  have z_FloorError_NoLevel : Rel K c_FloorError c_NoLevel false := ⟨ys_FloorError_NoLevel, yi_FloorError_NoLevel⟩
  have z_NoCell_Apart : Rel K c_NoCell c_Apart false := ⟨ys_NoCell_Apart, yi_NoCell_Apart⟩
  have z_NoCell_FloorError : Rel K c_NoCell c_FloorError true := ⟨ys_NoCell_FloorError, yi_NoCell_FloorError⟩
  have z_NoCell_NoCell : Rel K c_NoCell c_NoCell true := ⟨ys_NoCell_NoCell, yi_NoCell_NoCell⟩
  have z_NoCell_NoFigure : Rel K c_NoCell c_NoFigure false := ⟨ys_NoCell_NoFigure, yi_NoCell_NoFigure⟩
  have z_NoCell_NoLevel : Rel K c_NoCell c_NoLevel false := ⟨ys_NoCell_NoLevel, yi_NoCell_NoLevel⟩
  have z_NoFigure_Apart : Rel K c_NoFigure c_Apart false := ⟨ys_NoFigure_Apart, yi_NoFigure_Apart⟩
  have z_NoFigure_FloorError : Rel K c_NoFigure c_FloorError true := ⟨ys_NoFigure_FloorError, yi_NoFigure_FloorError⟩
  have z_NoFigure_NoCell : Rel K c_NoFigure c_NoCell false := ⟨ys_NoFigure_NoCell, yi_NoFigure_NoCell⟩
  have z_NoFigure_NoFigure : Rel K c_NoFigure c_NoFigure true := ⟨ys_NoFigure_NoFigure, yi_NoFigure_NoFigure⟩
  have z_NoFigure_NoLevel : Rel K c_NoFigure c_NoLevel false := ⟨ys_NoFigure_NoLevel, yi_NoFigure_NoLevel⟩
  have z_NoLevel_Apart : Rel K c_NoLevel c_Apart false := ⟨ys_NoLevel_Apart, yi_NoLevel_Apart⟩
  have z_NoLevel_FloorError : Rel K c_NoLevel c_FloorError true := ⟨ys_NoLevel_FloorError, yi_NoLevel_FloorError⟩
  have z_NoLevel_NoCell : Rel K c_NoLevel c_NoCell false := ⟨ys_NoLevel_NoCell, yi_NoLevel_NoCell⟩
  have z_NoLevel_NoFigure : Rel K c_NoLevel c_NoFigure false := ⟨ys_NoLevel_NoFigure, yi_NoLevel_NoFigure⟩
  have z_NoLevel_NoLevel : Rel K c_NoLevel c_NoLevel true := ⟨ys_NoLevel_NoLevel, yi_NoLevel_NoLevel⟩
  have rc : RegC K mg c_Region := ⟨⟨qpg, qhd, qpo, qsa⟩, qnL, qnN, PySem.W.mg_of X G qC⟩
  have F__law_cell_at : Fn K mg "_law_cell_at" "_law_cell_at" s__law_cell_at n__law_cell_at_p := ⟨_, _, fun_mk (st := s__law_cell_at) l__law_cell_at c__law_cell_at k__law_cell_at, PySem.W.mg_of X G a__law_cell_at, (fun_mk (st := s__law_cell_at) l__law_cell_at c__law_cell_at k__law_cell_at).binds (ps := n__law_cell_at_p) fun _ _ _ _ _ _ us hl => match us, hl with | [_, _], _ => rfl⟩
  have F__law_rows : Fn K mg "_law_rows" "_law_rows" s__law_rows n__law_rows_p := ⟨_, _, fun_mk (st := s__law_rows) l__law_rows c__law_rows k__law_rows, PySem.W.mg_of X G a__law_rows, (fun_mk (st := s__law_rows) l__law_rows c__law_rows k__law_rows).binds (ps := n__law_rows_p) fun _ _ _ _ _ _ us hl => match us, hl with | [_], _ => rfl⟩
  have F_see_figures_X : Fn K mg "see_figures" "see_figures" s_see_figures_X n_see_figures_X_p := ⟨_, _, fun_mk (st := s_see_figures_X) l_see_figures_X c_see_figures_X k_see_figures_X, PySem.W.mg_of X G a_see_figures_X, (fun_mk (st := s_see_figures_X) l_see_figures_X c_see_figures_X k_see_figures_X).binds (ps := n_see_figures_X_p) fun _ _ _ _ _ _ us hl => match us, hl with | [_], _ => rfl⟩
  have F_lines_from : Fn K mg "lines_from" "lines_from" s_lines_from n_lines_from_p := ⟨_, _, fun_mk (st := s_lines_from) l_lines_from c_lines_from k_lines_from, PySem.W.mg_of X G a_lines_from, (fun_mk (st := s_lines_from) l_lines_from c_lines_from k_lines_from).binds (ps := n_lines_from_p) fun _ _ _ _ _ _ us hl => match us, hl with | [_, _], _ => rfl⟩
  have F_Region___init___X : FnI K mg c_Region "Region" "__init__" "Region.__init__" s_Region___init___X n_Region___init___X_p := ⟨_, _, fun_mk (st := s_Region___init___X) l_Region___init___X c_Region___init___X k_Region___init___X, ⟨qmk, a_Region___init___X, i_Region___init___X, qkc⟩, PySem.W.mg_of X G qC, (fun_mk (st := s_Region___init___X) l_Region___init___X c_Region___init___X k_Region___init___X).binds (ps := n_Region___init___X_p) fun _ _ _ _ _ _ us hl => match us, hl with | [_, _, _], _ => rfl⟩
  have F__law_kinds : Fn K mg "_law_kinds" "_law_kinds" s__law_kinds n__law_kinds_p := ⟨_, _, fun_mk (st := s__law_kinds) l__law_kinds c__law_kinds k__law_kinds, PySem.W.mg_of X G a__law_kinds, (fun_mk (st := s__law_kinds) l__law_kinds c__law_kinds k__law_kinds).binds (ps := n__law_kinds_p) fun _ _ _ _ _ _ us hl => match us, hl with | [_, _], _ => rfl⟩
  have F_law : Fn K mg "law" "law" s_law n_law_p := ⟨_, _, fun_mk (st := s_law) l_law c_law k_law, PySem.W.mg_of X G a_law, (fun_mk (st := s_law) l_law c_law k_law).binds (ps := n_law_p) fun _ _ _ _ _ _ us hl => match us, hl with | [_], _ => rfl⟩
  have R (base : Heap) : FnOk P w K mg base CX0 5 fa (PySem.W.fnOf "law" "law" (defArgs s_law) (defBody s_law) (defScope s_law) .none kV_law dc_law pm_law an_law cd_law ct_law) n_law_p (sp_law K) := by
    have R__law_cell_at : Ref P w K mg base CX0 1 "_law_cell_at" n__law_cell_at_p (sp__law_cell_at K) := ok__law_cell_at F__law_cell_at T
    have R__law_rows : Ref P w K mg base CX0 2 "_law_rows" n__law_rows_p (sp__law_rows K) := ok__law_rows F__law_rows T R__law_cell_at
    have R_see_figures_X : Ref P w K mg base (L2.CX P w) 1 "see_figures" n_see_figures_X_p (sp_see_figures_X K c_NoFigure) := ok_see_figures_X F_see_figures_X T e_NoFigure
    have R_lines_from : Ref P w K mg base CX0 1 "lines_from" n_lines_from_p (sp_lines_from K) := ok_lines_from F_lines_from T
    have R_Region___init___X : RefM P w K mg base (L2.CX P w) 2 "Region" c_Region n_Region___init___X_p (sp_Region___init___X K c_Region c_NoLevel c_NoFigure c_NoCell) := ok_Region___init___X F_Region___init___X T rc e_NoLevel e_NoCell e_NoFigure R_see_figures_X R_lines_from
    have R__law_kinds : Ref P w K mg base CX0 4 "_law_kinds" n__law_kinds_p (sp__law_kinds K c_Region) := ok__law_kinds F__law_kinds T rc e_FloorError e_Apart e_NoCell e_NoFigure e_NoLevel z_FloorError_FloorError z_FloorError_Apart z_FloorError_NoCell z_FloorError_NoFigure z_FloorError_NoLevel z_Apart_FloorError z_Apart_Apart z_Apart_NoCell z_Apart_NoFigure z_Apart_NoLevel z_NoCell_FloorError z_NoCell_Apart z_NoCell_NoCell z_NoCell_NoFigure z_NoCell_NoLevel z_NoFigure_FloorError z_NoFigure_Apart z_NoFigure_NoCell z_NoFigure_NoFigure z_NoFigure_NoLevel z_NoLevel_FloorError z_NoLevel_Apart z_NoLevel_NoCell z_NoLevel_NoFigure z_NoLevel_NoLevel R_Region___init___X
    exact okF_law (fun_mk (st := s_law) l_law c_law k_law) T rc R__law_cell_at R__law_rows R__law_kinds
  exact ⟨_, fun s v => .of_eq rfl, fun base _ _ => R base⟩
end Hx
open PySem PySem.W PyProof.Rows
set_option maxRecDepth 100000 in
set_option maxHeartbeats 0 in
theorem PySem.Challenge.cw_hexaddress_k18_regions_refused_holds : PySem.Challenge.rw_hexaddress_k18_regions_refused.Holds := by
  w_on; o_law; k_head; (case hw => w_witness2)
  k_fill
  refine L2.walk_of (l := PySem.Challenge.rw_hexaddress_k18_regions_refused) (n := 63) (k := 5) (x := "script") (CX := fun _ => L2.CX0) (sp := fun w => Hx.sp_law _) rfl (by decide) rfl ⟨rfl, by decide, by decide⟩ (fun w h Y => PySem.W.kIn_of Y) ?F (fun _ _ a ns hl _ hS => ⟨a, ns, rfl, hS, hl, fun _ => rfl⟩) (fun _ _ _ _ _ h => h)
  case F =>
    intro w mg fa h KX G hmg
    refine' Hx.all_mk KX G hmg ?qC ?qpg ?qhd ?qpo ?qsa ?qmk ?qkc ?qnL ?qnN ?a__law_cell_at ?l__law_cell_at ?c__law_cell_at ?k__law_cell_at ?a__law_rows ?l__law_rows ?c__law_rows ?k__law_rows ?a_see_figures_X ?l_see_figures_X ?c_see_figures_X ?k_see_figures_X ?a_lines_from ?l_lines_from ?c_lines_from ?k_lines_from ?a_Region___init___X ?i_Region___init___X ?l_Region___init___X ?c_Region___init___X ?k_Region___init___X ?a__law_kinds ?l__law_kinds ?c__law_kinds ?k__law_kinds ?a_law ?l_law ?c_law ?k_law ?z_len ?z_range ?z_list ?z_tuple ?z_max ?z_min ?z_abs ?z_int ?z_bool ?z_isinstance ?z_sorted ?z_dict ?z_ValueError ?yn ?yt ?yg_FloorError ?yx_FloorError ?yk_FloorError ?yb_FloorError ?yt_FloorError ?yhg_FloorError ?yhk_FloorError ?yhd_FloorError ?yha_FloorError ?yhm_FloorError ?yv_FloorError ?yg_NoCell ?yx_NoCell ?yk_NoCell ?yb_NoCell ?yt_NoCell ?yhg_NoCell ?yhk_NoCell ?yhd_NoCell ?yha_NoCell ?yhm_NoCell ?yv_NoCell ?yg_NoFigure ?yx_NoFigure ?yk_NoFigure ?yb_NoFigure ?yt_NoFigure ?yhg_NoFigure ?yhk_NoFigure ?yhd_NoFigure ?yha_NoFigure ?yhm_NoFigure ?yv_NoFigure ?yg_NoLevel ?yx_NoLevel ?yk_NoLevel ?yb_NoLevel ?yt_NoLevel ?yhg_NoLevel ?yhk_NoLevel ?yhd_NoLevel ?yha_NoLevel ?yhm_NoLevel ?yv_NoLevel ?yg_Apart ?yx_Apart ?yk_Apart ?yb_Apart ?yt_Apart ?yhg_Apart ?yhk_Apart ?yhd_Apart ?yha_Apart ?yhm_Apart ?yv_Apart ?ys_Apart_Apart ?yi_Apart_Apart ?ys_Apart_FloorError ?yi_Apart_FloorError ?ys_Apart_NoCell ?yi_Apart_NoCell ?ys_Apart_NoFigure ?yi_Apart_NoFigure ?ys_Apart_NoLevel ?yi_Apart_NoLevel ?ys_FloorError_Apart ?yi_FloorError_Apart ?ys_FloorError_FloorError ?yi_FloorError_FloorError ?ys_FloorError_NoCell ?yi_FloorError_NoCell ?ys_FloorError_NoFigure ?yi_FloorError_NoFigure ?ys_FloorError_NoLevel ?yi_FloorError_NoLevel ?ys_NoCell_Apart ?yi_NoCell_Apart ?ys_NoCell_FloorError ?yi_NoCell_FloorError ?ys_NoCell_NoCell ?yi_NoCell_NoCell ?ys_NoCell_NoFigure ?yi_NoCell_NoFigure ?ys_NoCell_NoLevel ?yi_NoCell_NoLevel ?ys_NoFigure_Apart ?yi_NoFigure_Apart ?ys_NoFigure_FloorError ?yi_NoFigure_FloorError ?ys_NoFigure_NoCell ?yi_NoFigure_NoCell ?ys_NoFigure_NoFigure ?yi_NoFigure_NoFigure ?ys_NoFigure_NoLevel ?yi_NoFigure_NoLevel ?ys_NoLevel_Apart ?yi_NoLevel_Apart ?ys_NoLevel_FloorError ?yi_NoLevel_FloorError ?ys_NoLevel_NoCell ?yi_NoLevel_NoCell ?ys_NoLevel_NoFigure ?yi_NoLevel_NoFigure ?ys_NoLevel_NoLevel ?yi_NoLevel_NoLevel
    (case qC => k_is)
    (case qpg => k_is)
    (case qhd => k_is)
    (case qpo => k_is)
    (case qsa => k_is)
    (case qmk => k_is)
    (case qkc => k_is)
    (case qnL => k_is)
    (case qnN => k_is)
    (case a__law_cell_at => k_is)
    (case l__law_cell_at => k_is)
    (case c__law_cell_at => k_is)
    (case k__law_cell_at => k_is)
    (case a__law_rows => k_is)
    (case l__law_rows => k_is)
    (case c__law_rows => k_is)
    (case k__law_rows => k_is)
    (case a_see_figures_X => k_is)
    (case l_see_figures_X => k_is)
    (case c_see_figures_X => k_is)
    (case k_see_figures_X => k_is)
    (case a_lines_from => k_is)
    (case l_lines_from => k_is)
    (case c_lines_from => k_is)
    (case k_lines_from => k_is)
    (case a_Region___init___X => k_is)
    (case i_Region___init___X => k_is)
    (case l_Region___init___X => k_is)
    (case c_Region___init___X => k_is)
    (case k_Region___init___X => k_is)
    (case a__law_kinds => k_is)
    (case l__law_kinds => k_is)
    (case c__law_kinds => k_is)
    (case k__law_kinds => k_is)
    (case a_law => k_is)
    (case l_law => k_is)
    (case c_law => k_is)
    (case k_law => k_is)
    (case z_len => k_is)
    (case z_range => k_is)
    (case z_list => k_is)
    (case z_tuple => k_is)
    (case z_max => k_is)
    (case z_min => k_is)
    (case z_abs => k_is)
    (case z_int => k_is)
    (case z_bool => k_is)
    (case z_isinstance => k_is)
    (case z_sorted => k_is)
    (case z_dict => k_is)
    (case z_ValueError => k_is)
    (case yn => k_is)
    (case yt => k_is)
    (case yg_FloorError => k_is)
    (case yx_FloorError => k_exc)
    (case yk_FloorError => k_is)
    (case yb_FloorError => k_is)
    (case yt_FloorError => k_is)
    (case yhg_FloorError => k_is)
    (case yhk_FloorError => k_is)
    (case yhd_FloorError => k_is)
    (case yha_FloorError => k_is)
    (case yhm_FloorError => k_is)
    (case yv_FloorError => first | k_is | rfl)
    (case yg_NoCell => k_is)
    (case yx_NoCell => k_exc)
    (case yk_NoCell => k_is)
    (case yb_NoCell => k_is)
    (case yt_NoCell => k_is)
    (case yhg_NoCell => k_is)
    (case yhk_NoCell => k_is)
    (case yhd_NoCell => k_is)
    (case yha_NoCell => k_is)
    (case yhm_NoCell => k_is)
    (case yv_NoCell => first | k_is | rfl)
    (case yg_NoFigure => k_is)
    (case yx_NoFigure => k_exc)
    (case yk_NoFigure => k_is)
    (case yb_NoFigure => k_is)
    (case yt_NoFigure => k_is)
    (case yhg_NoFigure => k_is)
    (case yhk_NoFigure => k_is)
    (case yhd_NoFigure => k_is)
    (case yha_NoFigure => k_is)
    (case yhm_NoFigure => k_is)
    (case yv_NoFigure => first | k_is | rfl)
    (case yg_NoLevel => k_is)
    (case yx_NoLevel => k_exc)
    (case yk_NoLevel => k_is)
    (case yb_NoLevel => k_is)
    (case yt_NoLevel => k_is)
    (case yhg_NoLevel => k_is)
    (case yhk_NoLevel => k_is)
    (case yhd_NoLevel => k_is)
    (case yha_NoLevel => k_is)
    (case yhm_NoLevel => k_is)
    (case yv_NoLevel => first | k_is | rfl)
    (case yg_Apart => k_is)
    (case yx_Apart => k_exc)
    (case yk_Apart => k_is)
    (case yb_Apart => k_is)
    (case yt_Apart => k_is)
    (case yhg_Apart => k_is)
    (case yhk_Apart => k_is)
    (case yhd_Apart => k_is)
    (case yha_Apart => k_is)
    (case yhm_Apart => k_is)
    (case yv_Apart => first | k_is | rfl)
    (case ys_Apart_Apart => first | k_is | rfl)
    (case yi_Apart_Apart => first | k_is | rfl)
    (case ys_Apart_FloorError => first | k_is | rfl)
    (case yi_Apart_FloorError => first | k_is | rfl)
    (case ys_Apart_NoCell => first | k_is | rfl)
    (case yi_Apart_NoCell => first | k_is | rfl)
    (case ys_Apart_NoFigure => first | k_is | rfl)
    (case yi_Apart_NoFigure => first | k_is | rfl)
    (case ys_Apart_NoLevel => first | k_is | rfl)
    (case yi_Apart_NoLevel => first | k_is | rfl)
    (case ys_FloorError_Apart => first | k_is | rfl)
    (case yi_FloorError_Apart => first | k_is | rfl)
    (case ys_FloorError_FloorError => first | k_is | rfl)
    (case yi_FloorError_FloorError => first | k_is | rfl)
    (case ys_FloorError_NoCell => first | k_is | rfl)
    (case yi_FloorError_NoCell => first | k_is | rfl)
    (case ys_FloorError_NoFigure => first | k_is | rfl)
    (case yi_FloorError_NoFigure => first | k_is | rfl)
    (case ys_FloorError_NoLevel => first | k_is | rfl)
    (case yi_FloorError_NoLevel => first | k_is | rfl)
    (case ys_NoCell_Apart => first | k_is | rfl)
    (case yi_NoCell_Apart => first | k_is | rfl)
    (case ys_NoCell_FloorError => first | k_is | rfl)
    (case yi_NoCell_FloorError => first | k_is | rfl)
    (case ys_NoCell_NoCell => first | k_is | rfl)
    (case yi_NoCell_NoCell => first | k_is | rfl)
    (case ys_NoCell_NoFigure => first | k_is | rfl)
    (case yi_NoCell_NoFigure => first | k_is | rfl)
    (case ys_NoCell_NoLevel => first | k_is | rfl)
    (case yi_NoCell_NoLevel => first | k_is | rfl)
    (case ys_NoFigure_Apart => first | k_is | rfl)
    (case yi_NoFigure_Apart => first | k_is | rfl)
    (case ys_NoFigure_FloorError => first | k_is | rfl)
    (case yi_NoFigure_FloorError => first | k_is | rfl)
    (case ys_NoFigure_NoCell => first | k_is | rfl)
    (case yi_NoFigure_NoCell => first | k_is | rfl)
    (case ys_NoFigure_NoFigure => first | k_is | rfl)
    (case yi_NoFigure_NoFigure => first | k_is | rfl)
    (case ys_NoFigure_NoLevel => first | k_is | rfl)
    (case yi_NoFigure_NoLevel => first | k_is | rfl)
    (case ys_NoLevel_Apart => first | k_is | rfl)
    (case yi_NoLevel_Apart => first | k_is | rfl)
    (case ys_NoLevel_FloorError => first | k_is | rfl)
    (case yi_NoLevel_FloorError => first | k_is | rfl)
    (case ys_NoLevel_NoCell => first | k_is | rfl)
    (case yi_NoLevel_NoCell => first | k_is | rfl)
    (case ys_NoLevel_NoFigure => first | k_is | rfl)
    (case yi_NoLevel_NoFigure => first | k_is | rfl)
    (case ys_NoLevel_NoLevel => first | k_is | rfl)
    (case yi_NoLevel_NoLevel => first | k_is | rfl)
