import PyProof.Rows.All
import Wide.All
import OpenK.AllK
import Wide.FinOn
import HandS.ForMost
import HandS.ForExc
import HandS.IsInst
import HandS.ExcIs
import HandS.Conv
import HandS.Wide
import HandS.Deep
import HandS.TupAny
import HandS.TupLen
import HandS.Walk
import HandS.Codes
import HandS.More
import HandS.SortOrd
import KE.DataMinMax
import KE.SortData
import KE.DataFind
import HandS.SortKw
import HandS.Finally
import HandS.Style
import HandS.DictEq
import KE.KDictWalk
import KE.KDictCopyH
import KE.KDictDisplayH
import PySem.Challenge.RW_hexaddress_k20_whole_a_way
set_option Elab.async false
set_option linter.all false
set_option maxRecDepth 100000
set_option maxHeartbeats 4000000
/-! # the base: what every def's proof leans on (no row in sight) -/
namespace Hx
open PySem PySem.Spec PyProof.Rows L2

/-- a def as it stands behind the top: its body, its name in the module, how its arguments bind -/
structure Fn (K : PySem.W.Frag) (mg : Str → Option Value) (x qual : Str) (st : Stmt) (ps : List Str) : Prop where
  ex : ∃ (f : Addr) (fd : FuncData), Fun K x qual st f fd ∧ mg x = some (.ref f) ∧ Binds K fd ps []
/-- a def that keeps its promise, as a caller wants it -/
structure Ref (P : Program) (w : World) (K : PySem.W.Frag) (mg : Str → Option Value) (base : Heap) (CX : CXT) (k : Nat) (x : Str) (ps : List Str) (sp : Sp) : Prop where
  ex : ∃ (f : Addr) (fd : FuncData), FnOk P w K mg base CX k f fd ps sp ∧ mg x = some (.ref f) ∧ PySem.W.keepIn K (.ref f) = true ∧ Binds K fd ps []
section
variable {P : Program} {w : World} {K : PySem.W.Frag} {mg : Str → Option Value} {base : Heap}
theorem Fn.ok {x qual : Str} {st : Stmt} {N ps : List Str} {k : Nat} {sp : Sp} (F : Fn K mg x qual st ps) (S : FnScope N ps (defScope st)) (len : ∀ vs H Q E, sp vs H Q E → vs.length = ps.length)
    (hbody : ∀ (f : Addr) (cdv : Value) (A : Around) (outer : List Env) (s : Shared) (H : Hp) (vs : List V) (Q : VK) (E : XK), Room k (A.deeper (envOfC qual (defScope st) s.heap.objs.size f cdv)) → sp vs H Q E →
      ∃ t, PSs (cxOf CX0 P w K mg base N qual (defScope st) f cdv A outer s H E).nox (defBody st) t ∧ t { nx := fun _ H' => Q .non H', rt := Q } (start N vs) H) : Ref P w K mg base CX0 (k + 1) x ps sp := by
  obtain ⟨f, fd, F, g, b⟩ := F.ex
  exact ⟨f, fd, F.ok S len (hbody f), g, F.kp, b⟩
theorem Fn.okX {x qual : Str} {st : Stmt} {N ps : List Str} {k : Nat} {sp : Sp} (F : Fn K mg x qual st ps) (S : FnScope N ps (defScope st)) (len : ∀ vs H Q E, sp vs H Q E → vs.length = ps.length)
    (hbody : ∀ (f : Addr) (cdv : Value) (A : Around) (outer : List Env) (s : Shared) (H : Hp) (vs : List V) (Q : VK) (E : XK), Room k (A.deeper (envOfC qual (defScope st) s.heap.objs.size f cdv)) → sp vs H Q E →
      ∃ t, PSs (cxOf (L2.CX P w) P w K mg base N qual (defScope st) f cdv A outer s H E) (defBody st) t ∧ t { nx := fun _ H' => Q .non H', rt := Q } (start N vs) H) : Ref P w K mg base (L2.CX P w) (k + 1) x ps sp := by
  obtain ⟨f, fd, F, g, b⟩ := F.ex
  exact ⟨f, fd, F.okX S len (hbody f), g, F.kp, b⟩
theorem Ref.imp {CX : CXT} {k : Nat} {x : Str} {ps : List Str} {sp sp' : Sp} (R : Ref P w K mg base CX k x ps sp) (h : ∀ vs H Q E, sp' vs H Q E → sp vs H Q E) : Ref P w K mg base CX k x ps sp' := by
  obtain ⟨f, fd, F, r⟩ := R.ex
  exact ⟨f, fd, F.imp h, r⟩
theorem Ref.mono {CX : CXT} {j k : Nat} {x : Str} {ps : List Str} {sp : Sp} (R : Ref P w K mg base CX j x ps sp) (h : j ≤ k) : Ref P w K mg base CX k x ps sp := by
  obtain ⟨f, fd, F, r⟩ := R.ex
  exact ⟨f, fd, F.mono h, r⟩
end
section
variable {X : Cx} {k : Nat} {x : Str} {ps : List Str} {sp : Sp} {p pos : Pos} {e : Expr} {es : List Expr} {t : TA}
theorem pe_fn (R : Ref X.prog X.w X.K X.mg X.base CX0 k x ps sp) (hr : Room k X.A) (ha : PA X (e :: es) t) (hg : Gl X x := by rfl) (hdb : (x == ("__debug__" : Str)) = false := by decide)
    (he : starEach (e :: es) X.env = (false, eval e X.env) :: starEach es X.env := by rfl) (hpl : (backTo pos (starEach es X.env)).any (·.1) = false := by rfl) : PE X (.Call (.Name x p) (e :: es) [] pos) (tCall sp [] E0 t) := by
  obtain ⟨f, fd, F, g, kp, b⟩ := R.ex
  exact pe_call F hr hg g kp b .nil pass0 ha hdb he hpl
theorem pe_fn0 (R : Ref X.prog X.w X.K X.mg X.base CX0 k x ps sp) (hr : Room k X.A) (hg : Gl X x := by rfl) (hdb : (x == ("__debug__" : Str)) = false := by decide) : PE X (.Call (.Name x p) [] [] pos) (tCall sp [] E0 tNil) := by
  obtain ⟨f, fd, F, g, kp, b⟩ := R.ex
  exact pe_call0 F hr hg g kp b .nil pass0 hdb
end
/-- the built-in names are as Python has them -/
structure Tx (mg : Str → Option Value) : Prop where
  b_len : mg "len" = none
  b_range : mg "range" = none
  b_list : mg "list" = none
  b_tuple : mg "tuple" = none
  b_max : mg "max" = none
  b_min : mg "min" = none
  b_abs : mg "abs" = none
  b_int : mg "int" = none
  b_bool : mg "bool" = none
  b_isinstance : mg "isinstance" = none
  b_sorted : mg "sorted" = none
  b_dict : mg "dict" = none
  b_ValueError : mg "ValueError" = none

/-! ### heaps that grow -/
theorem _root_.L2.Same.seqT {K : PySem.W.Frag} {H H' : Hp} {a : Addr} {xs : List V} (e : Same H H') (h : SqT K H a xs) : SqT K H' a xs := by
  rcases h with (h | ⟨o, h⟩) | h
  · exact .inl (.inl (e _ _ h))
  · exact .inl (.inr ⟨o, e _ _ h⟩)
  · exact .inr h
theorem same_new {H : Hp} {p : Addr} {o : HO} (h : H p = none) : Same H (upd H p o) := fun b x e => by
  rw [upd_ne (ne_of_none e h)]
  exact e
/-- what H knows stays where another object, that H does not know, is changed -/
theorem _root_.L2.Same.mut {H H' : Hp} {p : Addr} {o : HO} (e : Same H H') (h : H p = none) : Same H (upd H' p o) := fun a u ha => by
  rw [upd_ne (ne_of_none ha h)]
  exact e a u ha
theorem SqT_putr {K : PySem.W.Frag} {H : Hp} {a p : Addr} {xs ys : List V} {o : HO} (hp : H p = some (.lst ys)) (h : SqT K H a xs) : SqT K (upd H p o) a xs := by
  rcases h with (h | ⟨ob, h⟩) | h
  · refine .inl (.inl ?_)
    rw [upd_ne (ne_of h hp (by intro z; cases z))]
    exact h
  · refine .inl (.inr ⟨ob, ?_⟩)
    rw [upd_ne (ne_of h hp (by intro z; cases z))]
    exact h
  · exact .inr h
theorem SqT_put {K : PySem.W.Frag} {H : Hp} {a p : Addr} {xs ys : List V} {o : HO} (h : SqT K H a xs) (hp : H p = some (.lst ys)) : SqT K (upd H p o) a xs := by
  rcases h with (h | ⟨ob, h⟩) | h
  · refine .inl (.inl ?_)
    rw [upd_ne (ne_of h hp (by intro z; cases z))]
    exact h
  · refine .inl (.inr ⟨ob, ?_⟩)
    rw [upd_ne (ne_of h hp (by intro z; cases z))]
    exact h
  · exact .inr h
theorem sqL_new {K : PySem.W.Frag} {H : Hp} {a : Addr} {xs : List V} : SqL K (upd H a (.lst xs)) a xs := .inl (.inl upd_same)
theorem sqT_new {K : PySem.W.Frag} {H : Hp} {a : Addr} {xs : List V} : SqT K (upd H a (.tup xs)) a xs := .inl (.inl upd_same)

theorem same_at {H H' : Hp} {a : Addr} {o : HO} (s : Same H H') (h : H a = some o) : H' a = some o := s _ _ h
theorem upd_at {H : Hp} {a b : Addr} {o u : HO} (n : a ≠ b) (h : H a = some o) : upd H b u a = some o := by
  rw [upd_ne n]
  exact h
theorem ne_ld {H : Hp} {a b : Addr} {x1 : List V} {x2 : List (List Key × V)} (h : H a = some (.lst x1)) (h2 : H b = some (.dT x2)) : a ≠ b := ne_of h h2 (by intro z; cases z)
theorem ne_lt {H : Hp} {a b : Addr} {x1 : List V} {x2 : List V} (h : H a = some (.lst x1)) (h2 : H b = some (.tup x2)) : a ≠ b := ne_of h h2 (by intro z; cases z)
theorem ne_li {H : Hp} {a b : Addr} {x1 : List V} {C2 dx2 : Addr} {fs2 : List (Str × V)} (h : H a = some (.lst x1)) (h2 : H b = some (.ins C2 dx2 fs2)) : a ≠ b := ne_of h h2 (by intro z; cases z)
theorem ne_lo {H : Hp} {a b : Addr} {x1 : List V} {y2 : Addr} (h : H a = some (.lst x1)) (h2 : H b = some (.own y2)) : a ≠ b := ne_of h h2 (by intro z; cases z)
theorem ne_dl {H : Hp} {a b : Addr} {x1 : List (List Key × V)} {x2 : List V} (h : H a = some (.dT x1)) (h2 : H b = some (.lst x2)) : a ≠ b := ne_of h h2 (by intro z; cases z)
theorem ne_dt {H : Hp} {a b : Addr} {x1 : List (List Key × V)} {x2 : List V} (h : H a = some (.dT x1)) (h2 : H b = some (.tup x2)) : a ≠ b := ne_of h h2 (by intro z; cases z)
theorem ne_di {H : Hp} {a b : Addr} {x1 : List (List Key × V)} {C2 dx2 : Addr} {fs2 : List (Str × V)} (h : H a = some (.dT x1)) (h2 : H b = some (.ins C2 dx2 fs2)) : a ≠ b := ne_of h h2 (by intro z; cases z)
theorem ne_do {H : Hp} {a b : Addr} {x1 : List (List Key × V)} {y2 : Addr} (h : H a = some (.dT x1)) (h2 : H b = some (.own y2)) : a ≠ b := ne_of h h2 (by intro z; cases z)
theorem ne_tl {H : Hp} {a b : Addr} {x1 : List V} {x2 : List V} (h : H a = some (.tup x1)) (h2 : H b = some (.lst x2)) : a ≠ b := ne_of h h2 (by intro z; cases z)
theorem ne_td {H : Hp} {a b : Addr} {x1 : List V} {x2 : List (List Key × V)} (h : H a = some (.tup x1)) (h2 : H b = some (.dT x2)) : a ≠ b := ne_of h h2 (by intro z; cases z)
theorem ne_ti {H : Hp} {a b : Addr} {x1 : List V} {C2 dx2 : Addr} {fs2 : List (Str × V)} (h : H a = some (.tup x1)) (h2 : H b = some (.ins C2 dx2 fs2)) : a ≠ b := ne_of h h2 (by intro z; cases z)
theorem ne_to {H : Hp} {a b : Addr} {x1 : List V} {y2 : Addr} (h : H a = some (.tup x1)) (h2 : H b = some (.own y2)) : a ≠ b := ne_of h h2 (by intro z; cases z)
theorem ne_il {H : Hp} {a b : Addr} {C1 dx1 : Addr} {fs1 : List (Str × V)} {x2 : List V} (h : H a = some (.ins C1 dx1 fs1)) (h2 : H b = some (.lst x2)) : a ≠ b := ne_of h h2 (by intro z; cases z)
theorem ne_id {H : Hp} {a b : Addr} {C1 dx1 : Addr} {fs1 : List (Str × V)} {x2 : List (List Key × V)} (h : H a = some (.ins C1 dx1 fs1)) (h2 : H b = some (.dT x2)) : a ≠ b := ne_of h h2 (by intro z; cases z)
theorem ne_it {H : Hp} {a b : Addr} {C1 dx1 : Addr} {fs1 : List (Str × V)} {x2 : List V} (h : H a = some (.ins C1 dx1 fs1)) (h2 : H b = some (.tup x2)) : a ≠ b := ne_of h h2 (by intro z; cases z)
theorem ne_io {H : Hp} {a b : Addr} {C1 dx1 : Addr} {fs1 : List (Str × V)} {y2 : Addr} (h : H a = some (.ins C1 dx1 fs1)) (h2 : H b = some (.own y2)) : a ≠ b := ne_of h h2 (by intro z; cases z)
theorem ne_ol {H : Hp} {a b : Addr} {y1 : Addr} {x2 : List V} (h : H a = some (.own y1)) (h2 : H b = some (.lst x2)) : a ≠ b := ne_of h h2 (by intro z; cases z)
theorem ne_od {H : Hp} {a b : Addr} {y1 : Addr} {x2 : List (List Key × V)} (h : H a = some (.own y1)) (h2 : H b = some (.dT x2)) : a ≠ b := ne_of h h2 (by intro z; cases z)
theorem ne_ot {H : Hp} {a b : Addr} {y1 : Addr} {x2 : List V} (h : H a = some (.own y1)) (h2 : H b = some (.tup x2)) : a ≠ b := ne_of h h2 (by intro z; cases z)
theorem ne_oi {H : Hp} {a b : Addr} {y1 : Addr} {C2 dx2 : Addr} {fs2 : List (Str × V)} (h : H a = some (.own y1)) (h2 : H b = some (.ins C2 dx2 fs2)) : a ≠ b := ne_of h h2 (by intro z; cases z)
/-! ### places -/
/-- v is the tuple of the place -/
def Pl (K : PySem.W.Frag) (H : Hp) (v : V) (p : Int × Int) : Prop := ∃ a, v = .ref a ∧ SqT K H a [.int p.1, .int p.2]
theorem Pl.same {K : PySem.W.Frag} {H H' : Hp} {v : V} {p : Int × Int} (h : Pl K H v p) (e : Same H H') : Pl K H' v p := by
  obtain ⟨a, rfl, h⟩ := h
  exact ⟨a, rfl, e.seqT h⟩
theorem Pl.sm {K : PySem.W.Frag} {H H' : Hp} {v : V} {p : Int × Int} (e : Same H H') (h : Pl K H v p) : Pl K H' v p := h.same e
theorem Pl.put {K : PySem.W.Frag} {H : Hp} {v : V} {p : Int × Int} {q : Addr} {ys : List V} {o : HO} (h : Pl K H v p) (hq : H q = some (.lst ys)) : Pl K (upd H q o) v p := by
  obtain ⟨a, rfl, h⟩ := h
  exact ⟨a, rfl, SqT_put h hq⟩
theorem Pl.putr {K : PySem.W.Frag} {H : Hp} {v : V} {p : Int × Int} {q : Addr} {ys : List V} {o : HO} (hq : H q = some (.lst ys)) (h : Pl K H v p) : Pl K (L2.upd H q o) v p := h.put hq
theorem Pl.new {K : PySem.W.Frag} {H : Hp} {a : Addr} {q r : Int} : Pl K (upd H a (.tup [.int q, .int r])) (.ref a) (q, r) := ⟨a, rfl, sqT_new⟩
end Hx
namespace Hx
open PySem PySem.Spec PyProof.Rows L2
/-! ### tuples that are tracked: keys of dicts -/
abbrev keyOf (p : Int × Int) : List Key := [.inl p.1, .inl p.2]
def Tp (H : Hp) (v : V) (p : Int × Int) : Prop := ∃ a, v = .ref a ∧ H a = some (.tup [.int p.1, .int p.2])
theorem Tp.pl {K : PySem.W.Frag} {H : Hp} {v : V} {p : Int × Int} (h : Tp H v p) : Pl K H v p := by
  obtain ⟨a, rfl, h⟩ := h
  exact ⟨a, rfl, .inl (.inl h)⟩
theorem Tp.new {H : Hp} {a : Addr} {q r : Int} : Tp (upd H a (.tup [.int q, .int r])) (.ref a) (q, r) := ⟨a, rfl, upd_same⟩
theorem Tp.sm {H H' : Hp} {v : V} {p : Int × Int} (e : Same H H') (h : Tp H v p) : Tp H' v p := by
  obtain ⟨a, rfl, h⟩ := h
  exact ⟨a, rfl, e _ _ h⟩
theorem Tp.putr {H : Hp} {v : V} {p : Int × Int} {q : Addr} {ys : List V} {o : HO} (hq : H q = some (.lst ys)) (h : Tp H v p) : Tp (L2.upd H q o) v p := by
  obtain ⟨a, rfl, h⟩ := h
  exact ⟨a, rfl, upd_at (ne_of h hq (by intro z; cases z)) h⟩
theorem Tp.putd {H : Hp} {v : V} {p : Int × Int} {q : Addr} {ys : List (List Key × V)} {o : HO} (hq : H q = some (.dT ys)) (h : Tp H v p) : Tp (L2.upd H q o) v p := by
  obtain ⟨a, rfl, h⟩ := h
  exact ⟨a, rfl, upd_at (ne_of h hq (by intro z; cases z)) h⟩
theorem SqT_putd {K : PySem.W.Frag} {H : Hp} {a p : Addr} {xs : List V} {ys : List (List Key × V)} {o : HO} (hp : H p = some (.dT ys)) (h : SqT K H a xs) : SqT K (upd H p o) a xs := by
  rcases h with (h | ⟨ob, h⟩) | h
  · exact .inl (.inl (upd_at (ne_of h hp (by intro z; cases z)) h))
  · exact .inl (.inr ⟨ob, upd_at (ne_of h hp (by intro z; cases z)) h⟩)
  · exact .inr h
theorem SqL_putd {K : PySem.W.Frag} {H : Hp} {a p : Addr} {xs : List V} {ys : List (List Key × V)} {o : HO} (hp : H p = some (.dT ys)) (h : SqL K H a xs) : SqL K (upd H p o) a xs := by
  rcases h with (h | ⟨ob, h⟩) | h
  · exact .inl (.inl (upd_at (ne_of h hp (by intro z; cases z)) h))
  · exact .inl (.inr ⟨ob, upd_at (ne_of h hp (by intro z; cases z)) h⟩)
  · exact .inr h
theorem Pl.putd {K : PySem.W.Frag} {H : Hp} {v : V} {p : Int × Int} {q : Addr} {ys : List (List Key × V)} {o : HO} (hq : H q = some (.dT ys)) (h : Pl K H v p) : Pl K (L2.upd H q o) v p := by
  obtain ⟨a, rfl, h⟩ := h
  exact ⟨a, rfl, SqT_putd hq h⟩
/-! ### lists of places, the constants of the module -/
abbrev Pls (K : PySem.W.Frag) (H : Hp) : List V → List (Int × Int) → Prop := Paired fun v p => Pl K H v p
theorem pr_len {α β : Type} {R : α → β → Prop} : ∀ {xs : List α} {ys : List β}, Paired R xs ys → xs.length = ys.length
  | _, _, .nil => rfl
  | _, _, .cons _ t => by rw [List.length_cons, List.length_cons, pr_len t]
theorem pr_get {α β : Type} {R : α → β → Prop} : ∀ {xs : List α} {ys : List β} {i : Nat} {x : α}, Paired R xs ys → xs[i]? = some x → ∃ y, ys[i]? = some y ∧ R x y
  | _, _, _, _, .nil, h => by simp at h
  | _, _, 0, _, .cons r _, h => by
    simp at h
    subst h
    exact ⟨_, rfl, r⟩
  | _, _, i + 1, _, .cons _ t, h => by
    obtain ⟨y, h1, h2⟩ := pr_get (i := i) t (by simpa using h)
    exact ⟨y, by simpa using h1, h2⟩
theorem pr_get' {α β : Type} {R : α → β → Prop} : ∀ {xs : List α} {ys : List β} {i : Nat} {y : β}, Paired R xs ys → ys[i]? = some y → ∃ x, xs[i]? = some x ∧ R x y
  | _, _, _, _, .nil, h => by simp at h
  | _, _, 0, _, .cons r _, h => by
    simp at h
    subst h
    exact ⟨_, rfl, r⟩
  | _, _, i + 1, _, .cons _ t, h => by
    obtain ⟨y, h1, h2⟩ := pr_get' (i := i) t (by simpa using h)
    exact ⟨y, by simpa using h1, h2⟩
theorem pr_mono {α β : Type} {R S : α → β → Prop} (f : ∀ a b, R a b → S a b) : ∀ {xs : List α} {ys : List β}, Paired R xs ys → Paired S xs ys
  | _, _, .nil => .nil
  | _, _, .cons r t => .cons (f _ _ r) (pr_mono f t)
theorem pr_snoc {α β : Type} {R : α → β → Prop} {x : α} {y : β} : ∀ {xs : List α} {ys : List β}, Paired R xs ys → R x y → Paired R (xs ++ [x]) (ys ++ [y])
  | _, _, .nil, h => .cons h .nil
  | _, _, .cons r t, h => .cons r (pr_snoc t h)
theorem nodup_snoc {α : Type} {xs : List α} {x : α} (h : xs.Nodup) (n : x ∉ xs) : (xs ++ [x]).Nodup := by
  rw [List.nodup_append]
  refine ⟨h, by simp, fun a ha b hb => ?_⟩
  rw [List.mem_singleton] at hb
  subst hb
  intro e
  subst e
  exact n ha
theorem pr_app {α β : Type} {R : α → β → Prop} : ∀ {xs xs' : List α} {ys ys' : List β}, Paired R xs ys → Paired R xs' ys' → Paired R (xs ++ xs') (ys ++ ys')
  | _, _, _, _, .nil, h => h
  | _, _, _, _, .cons r t, h => .cons r (pr_app t h)
theorem Pls.same {K : PySem.W.Frag} {H H' : Hp} {vs : List V} {ps : List (Int × Int)} (h : Pls K H vs ps) (e : Same H H') : Pls K H' vs ps := pr_mono (fun _ _ x => x.same e) h
theorem Pls.put {K : PySem.W.Frag} {H : Hp} {vs : List V} {ps : List (Int × Int)} {q : Addr} {ys : List V} {o : HO} (h : Pls K H vs ps) (hq : H q = some (.lst ys)) : Pls K (L2.upd H q o) vs ps := pr_mono (fun _ _ x => x.put hq) h
theorem Pls.sm {K : PySem.W.Frag} {H H' : Hp} {vs : List V} {ps : List (Int × Int)} (e : Same H H') (h : Pls K H vs ps) : Pls K H' vs ps := Pls.same h e
theorem Pls.putr {K : PySem.W.Frag} {H : Hp} {vs : List V} {ps : List (Int × Int)} {q : Addr} {ys : List V} {o : HO} (hq : H q = some (.lst ys)) (h : Pls K H vs ps) : Pls K (L2.upd H q o) vs ps := Pls.put h hq
theorem Pls.putd {K : PySem.W.Frag} {H : Hp} {vs : List V} {ps : List (Int × Int)} {q : Addr} {ys : List (List Key × V)} {o : HO} (hq : H q = some (.dT ys)) (h : Pls K H vs ps) : Pls K (L2.upd H q o) vs ps := pr_mono (fun _ _ x => x.putd hq) h
theorem map_get {fs : List Int} {i : Nat} {x : V} (h : (fs.map V.int)[i]? = some x) : ∃ f, fs[i]? = some f ∧ x = .int f := by
  rw [List.getElem?_map] at h
  cases e : fs[i]? with
  | none => rw [e] at h; cases h
  | some f =>
    rw [e] at h
    exact ⟨f, rfl, (Option.some.inj h).symm⟩
theorem map_snoc {ns : List Int} {x : Int} : ns.map V.int ++ [V.int x] = (ns ++ [x]).map V.int := by rw [List.map_append]; rfl
/-- a list of lists of ints -/
abbrev Rws (K : PySem.W.Frag) (H : Hp) : List V → List (List Int) → Prop := Paired fun v r => ∃ a, v = .ref a ∧ SqL K H a (r.map V.int)
theorem Rws.sm {K : PySem.W.Frag} {H H' : Hp} {vs : List V} {rs : List (List Int)} (e : Same H H') (h : Rws K H vs rs) : Rws K H' vs rs := pr_mono (fun _ _ ⟨a, e1, h⟩ => ⟨a, e1, e.seq h⟩) h
def steps : List (Int × Int) := [(1, 0), (0, 1), (-1, 1), (-1, 0), (0, -1), (1, -1)]
def figs : List Int := [0, 1, 5, 6, 3, 2, 4]
def sides : List Int := [3, 4, 5, 6, 1, 2]
def G_STEPS (K : PySem.W.Frag) (a : Addr) : Prop := ∃ vs : List V, (∀ H, SqT K H a vs) ∧ ∀ H, Pls K H vs steps
def G_FIGURES (K : PySem.W.Frag) (a : Addr) : Prop := ∀ H, SqT K H a (figs.map V.int)
def G_SIDES (K : PySem.W.Frag) (a : Addr) : Prop := ∀ H, SqT K H a (sides.map V.int)
theorem written2 {K : PySem.W.Frag} {b : Addr} {d : Option Addr} {n : Nat} {sl : Array (Option Value)} {i j : Int} {t u : Tok} (h : K.lookup b = some ⟨.type "tuple", d, .seq #[.int i t, .int j u] n, sl⟩) (H : Hp) : Pl K H (.ref b) (i, j) :=
  ⟨b, rfl, .inr ⟨_, _, _, h, rfl, rfl, by show 2 ≤ sizeLine; decide, .cons ⟨t, rfl⟩ (.cons ⟨u, rfl⟩ .nil)⟩⟩
/-! ### readings by name -/
def rLen (K : PySem.W.Frag) : List V → Hp → VK → Prop := fun xs H Q => ∃ p ys, xs = [.ref p] ∧ (SqL K H p ys ∨ SqT K H p ys) ∧ Q (.int ys.length) H
def rList (K : PySem.W.Frag) : List V → Hp → VK → Prop := fun xs H Q => ∃ p ys, xs = [.ref p] ∧ (SqL K H p ys ∨ SqT K H p ys) ∧ ∀ l, H l = none → Q (.ref l) (upd H l (.lst ys))
def rTuple (K : PySem.W.Frag) : List V → Hp → VK → Prop := fun xs H Q => ∃ p ys, xs = [.ref p] ∧ ((SqL K H p ys ∧ ∀ l, H l = none → Q (.ref l) (upd H l (.tup ys))) ∨ (SqT K H p ys ∧ Q (.ref p) H))
def rMax2 : List V → Hp → VK → Prop := fun xs H Q => ∃ i j, xs = [.int i, .int j] ∧ Q (.int (if j > i then j else i)) H
def rMin2 : List V → Hp → VK → Prop := fun xs H Q => ∃ i j, xs = [.int i, .int j] ∧ Q (.int (if j < i then j else i)) H
def rMax3 : List V → Hp → VK → Prop := fun xs H Q => ∃ i j k, xs = [.int i, .int j, .int k] ∧ Q (.int (max (max i j) k)) H
def rAbs : List V → Hp → VK → Prop := fun xs H Q => ∃ i, xs = [.int i] ∧ Q (.int (if i < 0 then -i else i)) H
def rInt1 : List V → Hp → VK → Prop := fun xs H Q => (∃ i, xs = [.int i] ∧ Q (.int i) H) ∨ ∃ k, xs = [.bl k] ∧ Q (.int (if k then 1 else 0)) H
section
variable {X : Cx}
theorem cl_len : CallR X (.builtin "len") (rLen X.K) := call_len_seq
theorem cl_list : CallR X (.type "list") (rList X.K) := call_list_of
theorem cl_tuple : CallR X (.type "tuple") (rTuple X.K) := call_tuple_of
theorem cl_max2 (hc : X.calm = true) : CallR X (.builtin "max") rMax2 := call_max2 hc
theorem cl_min2 (hc : X.calm = true) : CallR X (.builtin "min") rMin2 := call_min2 hc
theorem cl_max3 (hc : X.calm = true) : CallR X (.builtin "max") rMax3 := by
  intro pins s σ H xs us Q I r h
  obtain ⟨i, j, k, rfl, q⟩ := h
  cases r with
  | cons r1 r =>
    cases r with
    | cons r2 r =>
      cases r with
      | cons r3 r =>
        cases r
        obtain ⟨t1, rfl⟩ := r1
        obtain ⟨t2, rfl⟩ := r2
        obtain ⟨t3, rfl⟩ := r3
        refine max_three_ints (I.ok.hd hc) fun h' tk kk => ⟨_, H, I.kept kk, ?_, q⟩
        by_cases h1 : j > i
        · by_cases h2 : k > j
          · rw [if_pos h1, if_pos h2, show max (max i j) k = k by omega]
            exact ⟨_, rfl⟩
          · rw [if_pos h1, if_neg h2, show max (max i j) k = j by omega]
            exact ⟨_, rfl⟩
        · by_cases h2 : k > i
          · rw [if_neg h1, if_pos h2, show max (max i j) k = k by omega]
            exact ⟨_, rfl⟩
          · rw [if_neg h1, if_neg h2, show max (max i j) k = i by omega]
            exact ⟨_, rfl⟩
theorem cl_abs : CallR X (.builtin "abs") rAbs := call_abs
theorem cl_int : CallR X (.type "int") rInt1 := call_int1
end
def dispT (xs : List V) (H : Hp) (Q : VK) : Prop := xs.length ≤ sizeLine ∧ ∀ p, H p = none → Q (.ref p) (upd H p (.tup xs))
def dispL (xs : List V) (H : Hp) (Q : VK) : Prop := xs.length ≤ sizeLine ∧ ∀ p, H p = none → Q (.ref p) (upd H p (.lst xs))
def rng1 (R : It → Hp → Prop) (vs : List V) (H : Hp) : Prop := ∃ j : Int, vs = [.int j] ∧ -(2 ^ 62) ≤ j ∧ j < 2 ^ 62 ∧ R (Itr 0 j.toNat) H
def rng2 (R : It → Hp → Prop) (vs : List V) (H : Hp) : Prop := ∃ i j : Int, vs = [.int i, .int j] ∧ (-(2 ^ 62) ≤ i ∧ i < 2 ^ 62 ∧ -(2 ^ 62) ≤ j ∧ j < 2 ^ 62) ∧ R (Itr i (j - i).toNat) H
def itLst (K : PySem.W.Frag) (R : It → Hp → Prop) (x : V) (H : Hp) : Prop := ∃ a, x = .ref a ∧ (∃ xs, SqL K H a xs) ∧ R (Itl K a) H
def itTup (K : PySem.W.Frag) (R : It → Hp → Prop) (x : V) (H : Hp) : Prop := ∃ a, x = .ref a ∧ (∃ xs, SqT K H a xs) ∧ R (Itt K a) H
def rDIn (neg : Bool) (x y : V) (H : Hp) (Q : VK) : Prop := ∃ a o, x = .ref a ∧ DGet H a y o ∧ Q (.bl (if neg then !o.isSome else o.isSome)) H
def rDPut (x y v : V) (H : Hp) (R : Hp → Prop) : Prop := ∃ a H4, x = .ref a ∧ DPut H a y v H4 ∧ R H4
def rDGet (x y : V) (H : Hp) (Q : VK) : Prop := ∃ a v, x = .ref a ∧ DGet H a y (some v) ∧ Q v H
def tTruth (K : PySem.W.Frag) (ta : TE) : TT := fun σ H Q => ta σ H fun x H' => ∃ k, TruV K x H' k ∧ Q k H'
def rTru (K : PySem.W.Frag) (x : V) (H : Hp) (B : Bool → Hp → Prop) : Prop := ∃ k, TruV K x H k ∧ B k H
theorem pt_tru {X : Cx} {a : Expr} {ta : TE} (ha : PE X a ta) (he : ∀ whole, isTrue a X.env whole = (do let v ← whole; standAt a.pos; holding [v] (truthy v))) : PT X a (tTruth X.K ta) := pt_truth ha he
def rng3 (R : It → Hp → Prop) (vs : List V) (H : Hp) : Prop := ∃ (i j c : Int) (n : Nat), vs = [.int i, .int j, .int c] ∧ RgC i j c n ∧ R (Itc i c n) H
/-- what a for asks of its iterator -/
def forR (g : TG) (tb : TS) (D : Ends) (σ : L2.St) (J : It) (H1 : Hp) : Prop := ∃ W : Nat → Nat → L2.St → Hp → Prop, (∃ m, W 0 m σ H1) ∧ ∀ i m σ H, W i m σ H →
  (J.stop i H ∧ D.nx σ H) ∨ (J.go i H ∧ ∃ N : L2.St → Hp → Prop, (∀ σ' H', N σ' H' → ∃ m', m' < m ∧ W (i + 1) m' σ' H') ∧ ∀ x H', J.yld i H x H' → g x σ H' fun σ2 H2 => tb { D with nx := N, ct := N, bk := D.nx } σ2 H2)
/-- what a comprehension asks of its iterator -/
def lcR (g : TG) (tt : TT) (te : TE) (vs : List Nat) (σ : L2.St) (Q : VK) (J : It) (H1 : Hp) : Prop := ∀ D, H1 D = none → ∃ W : Nat → Nat → Hp → Prop, (∃ m, W 0 m (upd H1 D (.lst []))) ∧ ∀ i m H, W i m H →
  (J.stop i H ∧ Q (.ref D) H) ∨ (J.go i H ∧ ∃ Nx : Hp → Prop, (∀ H', Nx H' → ∃ m', m' < m ∧ W (i + 1) m' H') ∧ ∀ x H', J.yld i H x H' → g x (wipe σ vs) H' fun σ2 H2 => wipe σ2 vs = wipe σ vs ∧ tt σ2 H2 fun b H3 =>
    if b = true then te σ2 H3 fun y H4 => ∃ acc, H4 D = some (.lst acc) ∧ acc.length < sizeLine ∧ Nx (upd H4 D (.lst (acc ++ [y]))) else Nx H3)
/-- the new item of a comprehension goes onto its list -/
def lcAdd (D : Addr) (Nx : Hp → Prop) (y : V) (H : Hp) : Prop := ∃ acc, H D = some (.lst acc) ∧ acc.length < sizeLine ∧ Nx (upd H D (.lst (acc ++ [y])))
def lcPut (te : TE) (D : Addr) (Nx : Hp → Prop) (σ : L2.St) (b : Bool) (H : Hp) : Prop := if b = true then te σ H fun y H4 => lcAdd D Nx y H4 else Nx H
/-- what a while's test's answer asks -/
def whR (tb : TS) (D : Ends) (W : Nat → L2.St → Hp → Prop) (m : Nat) (σ : L2.St) (b : Bool) (H1 : Hp) : Prop :=
  if b = true then ∃ N : L2.St → Hp → Prop, (∀ σ' H', N σ' H' → ∃ m', m' < m ∧ W m' σ' H') ∧ tb { D with nx := N, ct := N, bk := D.nx } σ H1 else D.nx σ H1
/-! ### the readings, step by step -/
section
variable {K : PySem.W.Frag} {D : Ends} {σ : L2.St} {H : Hp} {Q : VK} {B : Bool → Hp → Prop} {v x y : V} {ta tb te : TE} {tl tr : TA} {t u : TS} {c c' : TT} {i : Nat} {b : Bool}
theorem w_seq (h : t { D with nx := u D } σ H) : tSeq t u D σ H := h
theorem w_next (h : D.nx σ H) : tNext D σ H := h
theorem w_cont (h : D.ct σ H) : tCont D σ H := h
theorem w_break (h : D.bk σ H) : tBreak D σ H := h
theorem w_ret (h : te σ H D.rt) : tRet te D σ H := h
theorem w_retN (h : D.rt .non H) : tRetN D σ H := h
theorem w_asg {g : TG} (h : te σ H fun x H1 => g x σ H1 D.nx) : tAsg te g D σ H := h
theorem w_drop (h : te σ H fun _ H1 => D.nx σ H1) : tDrop te D σ H := h
theorem w_ifS (h : c σ H fun b H1 => if b = true then t D σ H1 else u D σ H1) : tIfS c t u D σ H := h
theorem w_gName {R : L2.St → Hp → Prop} (h : R (σ.set i (some v)) H) : gName i v σ H R := h
theorem w_var (h : σ[i]? = some (some v)) (q : Q v H) : tVar i σ H Q := ⟨v, h, q⟩
theorem w_c (q : Q v H) : tC v σ H Q := q
theorem w_op {r : R2} (h : ta σ H fun x H1 => tb σ H1 fun y H2 => r x y H2 Q) : tOp r ta tb σ H Q := h
theorem w_un {r : V → Hp → VK → Prop} (h : ta σ H fun x H1 => r x H1 Q) : tUn r ta σ H Q := h
theorem w_nil {R : List V → Hp → Prop} (h : R [] H) : tNil σ H R := h
theorem w_cons {R : List V → Hp → Prop} (h : te σ H fun x H1 => tl σ H1 fun xs H2 => R (x :: xs) H2) : tCons te tl σ H R := h
theorem w_tTup (h : tl σ H fun xs H1 => dispT xs H1 Q) : tTup tl σ H Q := h
theorem w_tLst (h : tl σ H fun xs H1 => dispL xs H1 Q) : tLst tl σ H Q := h
theorem w_dispT {xs : List V} (z : xs.length ≤ 1000) (h : ∀ p, H p = none → Q (.ref p) (upd H p (.tup xs))) : dispT xs H Q := ⟨Nat.le_of_lt (small1000 z), h⟩
theorem w_dispL {xs : List V} (z : xs.length ≤ 1000) (h : ∀ p, H p = none → Q (.ref p) (upd H p (.lst xs))) : dispL xs H Q := ⟨Nat.le_of_lt (small1000 z), h⟩
theorem w_dispL1 {i : Int} (h : ∀ p, H p = none → Q (.ref p) (upd H p (.lst ([i].map V.int)))) : dispL [.int i] H Q := ⟨Nat.le_of_lt (small1000 (show 1 ≤ 1000 by decide)), h⟩
theorem w_dispL2 {i j : Int} (h : ∀ p, H p = none → Q (.ref p) (upd H p (.lst ([i, j].map V.int)))) : dispL [.int i, .int j] H Q := ⟨Nat.le_of_lt (small1000 (show 2 ≤ 1000 by decide)), h⟩
theorem w_call {sp : Sp} {E : XK} (h : tl σ H fun vs H1 => sp vs H1 Q E) : tCall sp [] E tl σ H Q := by
  show tl σ H fun vs H1 => sp (vs ++ []) H1 Q E
  simp only [List.append_nil]
  exact h
theorem w_CB {r : List V → Hp → VK → Prop} (h : tl σ H fun vs H1 => r vs H1 Q) : tCB r tl σ H Q := h
theorem w_test (h : te σ H fun x H' => ∃ k, x = .bl k ∧ B k H') : tTest te σ H B := h
theorem w_tB (h : te σ H fun x H' => ∃ k, x = .bl k ∧ B k H') : tB te σ H B := h
theorem w_blk {b : Bool} {B : Bool → Prop} (h : B b) : ∃ k, V.bl b = .bl k ∧ B k := ⟨b, rfl, h⟩
theorem w_and (h : c σ H fun b H1 => if b = true then c' σ H1 B else B false H1) : tAnd c c' σ H B := h
theorem w_or (h : c σ H fun b H1 => if b = true then B true H1 else c' σ H1 B) : tOr c c' σ H B := h
theorem w_not (h : c σ H fun b H1 => B (!b) H1) : tNot c σ H B := h
theorem w_andV (h : ta σ H fun x H1 => ∃ c, x = .bl c ∧ if c = true then tb σ H1 Q else Q (.bl false) H1) : tAndV ta tb σ H Q := h
theorem w_orV (h : ta σ H fun x H1 => ∃ c, x = .bl c ∧ if c = true then Q (.bl true) H1 else tb σ H1 Q) : tOrV ta tb σ H Q := h
theorem w_notV (h : ta σ H fun x H1 => ∃ c, x = .bl c ∧ Q (.bl (!c)) H1) : tNotV ta σ H Q := h
theorem w_ifV (h : c σ H fun b H1 => if b = true then ta σ H1 Q else tb σ H1 Q) : tIf c ta tb σ H Q := h
theorem w_chain {r r' : R2} {tc : TE} (h : ta σ H fun x H1 => tb σ H1 fun y H2 => r x y H2 fun z H3 => ∃ k, z = .bl k ∧ (if k = true then tc σ H3 fun w H4 => r' y w H4 Q else Q (.bl false) H3)) : tChain r r' ta tb tc σ H Q := h
theorem w_BM0 {T : String} {r : V → List V → Hp → VK → Prop} (h : te σ H fun x H1 => tyV K T x H1 ∧ r x [] H1 Q) : tBM0 K T r te σ H Q := h
theorem w_BM {T : String} {r : V → List V → Hp → VK → Prop} (h : te σ H fun x H1 => tyV K T x H1 ∧ tl σ H1 fun xs H2 => r x xs H2 Q) : tBM K T r te tl σ H Q := h
theorem w_tyL {a : Addr} {xs : List V} {R : Prop} (h : SqL K H a xs) (q : R) : tyV K "list" (.ref a) H ∧ R := ⟨.inl ⟨rfl, xs, h⟩, q⟩
theorem r_append {a : Addr} {xs : List V} (h : H a = some (.lst xs)) (z : xs.length ≤ 100000) (q : Q .non (upd H a (.lst (xs ++ [v])))) : rAppend (.ref a) [v] H Q := ⟨a, xs, v, rfl, rfl, h, Nat.lt_of_le_of_lt z (by decide), q⟩
theorem r_appendI {a : Addr} {ns : List Int} {i : Int} (h : H a = some (.lst (ns.map V.int))) (z : ns.length ≤ 100000) (q : Q .non (upd H a (.lst ((ns ++ [i]).map V.int)))) : rAppend (.ref a) [.int i] H Q := by
  rw [← map_snoc] at q
  exact r_append h (by rw [List.length_map]; exact z) q
theorem r_catI {a b : Addr} {ns ms : List Int} (h : H a = some (.lst (ns.map V.int))) (h' : H b = some (.lst (ms.map V.int))) (z : ns.length + ms.length ≤ 100000) (q : ∀ p, H p = none → Q (.ref p) (upd H p (.lst ((ns ++ ms).map V.int)))) : rCat (.ref a) (.ref b) H Q := by
  rw [List.map_append] at q
  exact ⟨a, b, _, _, rfl, rfl, h, h', by rw [List.length_map, List.length_map]; exact Nat.le_trans z (by decide), q⟩
theorem r_reverseI {a : Addr} {ns : List Int} (h : H a = some (.lst (ns.map V.int))) (q : Q .non (upd H a (.lst (ns.reverse.map V.int)))) : rReverse (.ref a) [] H Q := by
  rw [List.map_reverse] at q
  exact ⟨a, _, rfl, rfl, h, q⟩
theorem r_reverse {a : Addr} {xs : List V} (h : H a = some (.lst xs)) (q : Q .non (upd H a (.lst xs.reverse))) : rReverse (.ref a) [] H Q := ⟨a, xs, rfl, rfl, h, q⟩
theorem r_clear {a : Addr} {xs : List V} (h : H a = some (.lst xs)) (q : Q .non (upd H a (.lst []))) : rClear (.ref a) [] H Q := ⟨a, xs, rfl, rfl, h, q⟩
theorem r_cat {a b : Addr} {xs ys : List V} (h : H a = some (.lst xs)) (h' : H b = some (.lst ys)) (z : xs.length + ys.length ≤ 100000) (q : ∀ p, H p = none → Q (.ref p) (upd H p (.lst (xs ++ ys)))) : rCat (.ref a) (.ref b) H Q := ⟨a, b, xs, ys, rfl, rfl, h, h', Nat.le_trans z (by decide), q⟩
theorem w_fld {f : Str} (h : te σ H fun x H1 => ∃ a C dx fs v, x = .ref a ∧ H1 a = some (.ins C dx fs) ∧ Cls K C ∧ NoAttr K C f ∧ fs.lookup f = some v ∧ Q v H1) : tFld K te f σ H Q := h
theorem w_for {wi : TI} {g : TG} {tb : TS} (h : wi σ H fun J H1 => forR g tb D σ J H1) : tFor wi g tb D σ H := h
theorem w_rng1 {ta : TA} {R : It → Hp → Prop} (h : ta σ H fun vs H1 => rng1 R vs H1) : iRng1 ta σ H R := h
theorem w_rng2 {ta : TA} {R : It → Hp → Prop} (h : ta σ H fun vs H1 => rng2 R vs H1) : iRng2 ta σ H R := h
theorem w_iList {R : It → Hp → Prop} (h : te σ H fun x H1 => itLst K R x H1) : iList K te σ H R := h
theorem w_iTup {R : It → Hp → Prop} (h : te σ H fun x H1 => itTup K R x H1) : iTup K te σ H R := h
theorem r_rng1 {R : It → Hp → Prop} {n : Int} (h1 : -1000000000 ≤ n) (h2 : n ≤ 1000000000) (h : R (Itr 0 n.toNat) H) : rng1 R [.int n] H := ⟨n, rfl, by omega, by omega, h⟩
theorem r_rng2 {R : It → Hp → Prop} {i n : Int} (h1 : -1000000000 ≤ i ∧ i ≤ 1000000000) (h2 : -1000000000 ≤ n ∧ n ≤ 1000000000) (h : R (Itr i (n - i).toNat) H) : rng2 R [.int i, .int n] H := ⟨i, n, rfl, by omega, h⟩
theorem w_rng3 {ta : TA} {R : It → Hp → Prop} (h : ta σ H fun vs H1 => rng3 R vs H1) : iRng3 ta σ H R := h
theorem r_rng3 {R : It → Hp → Prop} {i j : Int} (h1 : -1000000000 ≤ i ∧ i ≤ 1000000000) (h2 : -1000000000 ≤ j ∧ j ≤ 1000000000) (h : R (Itc i (-1) (i - j).toNat) H) : rng3 R [.int i, .int j, .int (-1)] H := ⟨i, j, -1, _, rfl, RgC.neg (by omega) (by omega) (by omega) (by omega), h⟩
theorem w_truth (h : te σ H fun x H1 => rTru K x H1 B) : tTruth K te σ H B := h
theorem r_truL {a : Addr} {xs : List V} (h : SqL K H a xs) (q : B (!xs.isEmpty) H) : rTru K (.ref a) H B := ⟨_, .inl ⟨xs, h, rfl⟩, q⟩
theorem r_maxL {a : Addr} {ns : List Int} (h : SqL K H a (ns.map V.int)) (h0 : 0 < ns.length) (q : ∀ m, m ∈ ns → (∀ y, y ∈ ns → y ≤ m) → Q (.int m) H) : L2.rMax K [.ref a] H Q := ⟨a, ns, rfl, h, h0, q⟩
theorem r_iList {R : It → Hp → Prop} {a : Addr} {xs : List V} (hs : SqL K H a xs) (h : R (Itl K a) H) : itLst K R (.ref a) H := ⟨a, rfl, ⟨xs, hs⟩, h⟩
theorem r_iTup {R : It → Hp → Prop} {a : Addr} {xs : List V} (hs : SqT K H a xs) (h : R (Itt K a) H) : itTup K R (.ref a) H := ⟨a, rfl, ⟨xs, hs⟩, h⟩
theorem w_lc {wi : TI} {g : TG} {tt : TT} {vs : List Nat} (h : wi σ H fun J H1 => lcR g tt te vs σ Q J H1) : tLc wi g tt te vs σ H Q := h
/-- the loops: Pv by the turn, the slots, the heap -/
theorem f_list {a : Addr} {xs : List V} {g : TG} {tb : TS} (Pv : Nat → L2.St → Hp → Prop) (h0 : Pv 0 σ H) (hl : ∀ i σ H, i ≤ xs.length → Pv i σ H → SqL K H a xs)
    (hs : ∀ i x σ H, xs[i]? = some x → Pv i σ H → g x σ H fun σ2 H2 => tb { D with nx := Pv (i + 1), ct := Pv (i + 1), bk := D.nx } σ2 H2) (hd : ∀ σ H, Pv xs.length σ H → D.nx σ H) : forR g tb D σ (Itl K a) H := for_list Pv h0 hl hs hd
theorem f_tup {a : Addr} {xs : List V} {g : TG} {tb : TS} (Pv : Nat → L2.St → Hp → Prop) (h0 : Pv 0 σ H) (hl : ∀ i σ H, i ≤ xs.length → Pv i σ H → SqT K H a xs)
    (hs : ∀ i x σ H, xs[i]? = some x → Pv i σ H → g x σ H fun σ2 H2 => tb { D with nx := Pv (i + 1), ct := Pv (i + 1), bk := D.nx } σ2 H2) (hd : ∀ σ H, Pv xs.length σ H → D.nx σ H) : forR g tb D σ (Itt K a) H := for_tup Pv h0 hl hs hd
theorem f_range {lo : Int} {n : Nat} {g : TG} {tb : TS} (Pv : Nat → L2.St → Hp → Prop) (h0 : Pv 0 σ H)
    (hs : ∀ i σ H, i < n → Pv i σ H → g (.int (lo + i)) σ H fun σ2 H2 => tb { D with nx := Pv (i + 1), ct := Pv (i + 1), bk := D.nx } σ2 H2) (hd : ∀ σ H, Pv n σ H → D.nx σ H) : forR g tb D σ (Itr lo n) H := for_range Pv h0 hs hd
theorem f_range0 {n : Nat} {g : TG} {tb : TS} (Pv : Nat → L2.St → Hp → Prop) (h0 : Pv 0 σ H)
    (hs : ∀ i σ H, i < n → Pv i σ H → g (.int (i : Int)) σ H fun σ2 H2 => tb { D with nx := Pv (i + 1), ct := Pv (i + 1), bk := D.nx } σ2 H2) (hd : ∀ σ H, Pv n σ H → D.nx σ H) : forR g tb D σ (Itr 0 n) H := f_range Pv h0 (fun i σ H hi hp => by rw [Int.zero_add]; exact hs i σ H hi hp) hd
theorem c_list {a : Addr} {xs : List V} {g : TG} {tt : TT} {vs : List Nat} (Pv : Addr → Nat → Hp → Prop) (h0 : ∀ D, H D = none → Pv D 0 (upd H D (.lst []))) (hl : ∀ D i H', H D = none → i ≤ xs.length → Pv D i H' → SqL K H' a xs)
    (hs : ∀ D i x H', H D = none → xs[i]? = some x → Pv D i H' → g x (wipe σ vs) H' fun σ2 H2 => wipe σ2 vs = wipe σ vs ∧ tt σ2 H2 fun b H3 => lcPut te D (Pv D (i + 1)) σ2 b H3) (hd : ∀ D H', H D = none → Pv D xs.length H' → Q (.ref D) H') : lcR g tt te vs σ Q (Itl K a) H := fun D hD =>
  lc_list (Pv D) (h0 D hD) (fun i H' hi p => hl D i H' hD hi p) (fun i x H' hx p => hs D i x H' hD hx p) (fun H' p => hd D H' hD p)
theorem c_tup {a : Addr} {xs : List V} {g : TG} {tt : TT} {vs : List Nat} (Pv : Addr → Nat → Hp → Prop) (h0 : ∀ D, H D = none → Pv D 0 (upd H D (.lst []))) (hl : ∀ D i H', H D = none → i ≤ xs.length → Pv D i H' → SqT K H' a xs)
    (hs : ∀ D i x H', H D = none → xs[i]? = some x → Pv D i H' → g x (wipe σ vs) H' fun σ2 H2 => wipe σ2 vs = wipe σ vs ∧ tt σ2 H2 fun b H3 => lcPut te D (Pv D (i + 1)) σ2 b H3) (hd : ∀ D H', H D = none → Pv D xs.length H' → Q (.ref D) H') : lcR g tt te vs σ Q (Itt K a) H := fun D hD =>
  lc_tup (Pv D) (h0 D hD) (fun i H' hi p => hl D i H' hD hi p) (fun i x H' hx p => hs D i x H' hD hx p) (fun H' p => hd D H' hD p)
theorem c_range {lo : Int} {n : Nat} {g : TG} {tt : TT} {vs : List Nat} (Pv : Addr → Nat → Hp → Prop) (h0 : ∀ D, H D = none → Pv D 0 (upd H D (.lst [])))
    (hs : ∀ D i H', H D = none → i < n → Pv D i H' → g (.int (lo + i)) (wipe σ vs) H' fun σ2 H2 => wipe σ2 vs = wipe σ vs ∧ tt σ2 H2 fun b H3 => lcPut te D (Pv D (i + 1)) σ2 b H3) (hd : ∀ D H', H D = none → Pv D n H' → Q (.ref D) H') : lcR g tt te vs σ Q (Itr lo n) H := fun D hD =>
  lc_range (Pv D) (h0 D hD) (fun i H' hi p => hs D i H' hD hi p) (fun H' p => hd D H' hD p)
theorem c_range0 {n : Nat} {g : TG} {tt : TT} {vs : List Nat} (Pv : Addr → Nat → Hp → Prop) (h0 : ∀ D, H D = none → Pv D 0 (upd H D (.lst [])))
    (hs : ∀ D i H', H D = none → i < n → Pv D i H' → g (.int (i : Int)) (wipe σ vs) H' fun σ2 H2 => wipe σ2 vs = wipe σ vs ∧ tt σ2 H2 fun b H3 => lcPut te D (Pv D (i + 1)) σ2 b H3) (hd : ∀ D H', H D = none → Pv D n H' → Q (.ref D) H') : lcR g tt te vs σ Q (Itr 0 n) H := c_range Pv h0 (fun D i H' hD hi hp => by rw [Int.zero_add]; exact hs D i H' hD hi hp) hd
theorem w_yes (h : B true H) : tYes σ H B := h
theorem w_put1 {D : Addr} {Nx : Hp → Prop} (h : te σ H fun y H4 => lcAdd D Nx y H4) : lcPut te D Nx σ true H := iteT h
theorem w_put0 {D : Addr} {Nx : Hp → Prop} (h : Nx H) : lcPut te D Nx σ false H := iteF h
theorem w_putB {b : Bool} {D : Addr} {Nx : Hp → Prop} (h1 : b = true → te σ H fun y H4 => lcAdd D Nx y H4) (h2 : b = false → Nx H) : lcPut te D Nx σ b H := by
  cases b with
  | true => exact iteT (h1 rfl)
  | false => exact iteF (h2 rfl)
theorem w_addI {D : Addr} {Nx : Hp → Prop} {ns : List Int} {i : Int} (h : H D = some (.lst (ns.map V.int))) (z : ns.length ≤ 100000) (q : Nx (upd H D (.lst ((ns ++ [i]).map V.int)))) : lcAdd D Nx (.int i) H := ⟨_, h, Nat.lt_of_le_of_lt (by rw [List.length_map]; exact z) (by decide), by rw [map_snoc]; exact q⟩
/-- what a test's yes wants is shown once -/
theorem w_key {c : TT} (S : Hp → Prop) (P : Prop) (key : ∀ H2, S H2 → P → B true H2) (h : ∀ B' : Bool → Hp → Prop, (∀ H2, S H2 → P → B' true H2) → (∀ H2, B false H2 → B' false H2) → c σ H B') : c σ H B := h B key (fun _ h => h)
theorem w_add {D : Addr} {Nx : Hp → Prop} {acc : List V} (h : H D = some (.lst acc)) (z : acc.length ≤ 100000) (q : Nx (upd H D (.lst (acc ++ [v])))) : lcAdd D Nx v H := ⟨acc, h, Nat.lt_of_le_of_lt z (by decide), q⟩
/-- a comprehension of ints over a range, over a list of ints -/
theorem c_rangeI {n j : Nat} {vs : List Nat} (f : Nat → Int) (hz : n ≤ 100000) (hw : ∀ x : V, wipe ((wipe σ vs).set j (some x)) vs = wipe σ vs)
    (hs : ∀ i H' (R : VK), i < n → Same H H' → (∀ H4, Same H' H4 → R (.int (f i)) H4) → te ((wipe σ vs).set j (some (.int (i : Int)))) H' R)
    (hd : ∀ l H', Same H H' → H l = none → H' l = some (.lst (((List.range n).map f).map V.int)) → Q (.ref l) H') : lcR (gName j) tYes te vs σ Q (Itr 0 n) H := by
  refine c_range0 (fun D i H' => Same H H' ∧ H' D = some (.lst (((List.range i).map f).map V.int))) (fun D hD => ⟨same_new hD, upd_same⟩) (fun D i H' hD hi ⟨s, hd⟩ => ?_) (fun D H' hD ⟨s, hd'⟩ => hd D H' s hD hd')
  refine ⟨hw _, w_put1 (hs i H' _ hi s fun H4 s4 => ⟨_, s4 _ _ hd, Nat.lt_of_le_of_lt (show _ ≤ 100000 by rw [List.length_map, List.length_map, List.length_range]; omega) (by decide), (s.trans s4).mut hD, ?_⟩)⟩
  rw [upd_same, List.range_succ, List.map_append, List.map_append]
  rfl
theorem c_listI {a : Addr} {ns : List Int} {j : Nat} {vs : List Nat} (f : Int → Int) (hS : SqL K H a (ns.map V.int)) (hz : ns.length ≤ 100000) (hw : ∀ x : V, wipe ((wipe σ vs).set j (some x)) vs = wipe σ vs)
    (hs : ∀ x H' (R : VK), x ∈ ns → Same H H' → (∀ H4, Same H' H4 → R (.int (f x)) H4) → te ((wipe σ vs).set j (some (.int x))) H' R)
    (hd : ∀ l H', Same H H' → H l = none → H' l = some (.lst ((ns.map f).map V.int)) → Q (.ref l) H') : lcR (gName j) tYes te vs σ Q (Itl K a) H := by
  refine c_list (xs := ns.map V.int) (fun D i H' => Same H H' ∧ H' D = some (.lst (((ns.take i).map f).map V.int))) (fun D hD => ⟨same_new hD, upd_same⟩) (fun D i H' hD hi ⟨s, _⟩ => s.seq hS) (fun D i x H' hD hx ⟨s, hd⟩ => ?_) (fun D H' hD ⟨s, hd'⟩ => ?_)
  · obtain ⟨y, hy, rfl⟩ := map_get hx
    refine ⟨hw _, w_put1 (hs y H' _ (List.mem_of_getElem? hy) s fun H4 s4 => ⟨_, s4 _ _ hd, Nat.lt_of_le_of_lt (show _ ≤ 100000 by rw [List.length_map, List.length_map, List.length_take]; omega) (by decide), (s.trans s4).mut hD, ?_⟩)⟩
    rw [upd_same, List.take_add_one, hy, List.map_append, List.map_append]
    rfl
  · rw [List.length_map, List.take_length] at hd'
    exact hd D H' s hD hd'
theorem tYes_true {A C : Hp → Prop} (h : A H) : tYes σ H (fun b H3 => if b = true then A H3 else C H3) := by
  show (if true = true then A H else C H)
  exact iteT h
theorem c_rangeCI {lo c : Int} {n j : Nat} {vs : List Nat} (f : Nat → Int) (hz : n ≤ 100000) (hw : ∀ x : V, wipe ((wipe σ vs).set j (some x)) vs = wipe σ vs)
    (hs : ∀ i H' (R : VK), i < n → Same H H' → (∀ H4, Same H' H4 → R (.int (f i)) H4) → te ((wipe σ vs).set j (some (.int (lo + (i : Nat) * c)))) H' R)
    (hd : ∀ l H', Same H H' → H l = none → H' l = some (.lst (((List.range n).map f).map V.int)) → Q (.ref l) H') : lcR (gName j) tYes te vs σ Q (Itc lo c n) H := by
  intro D hD
  refine lc_it walk_rangeC (fun i H' => Same H H' ∧ H' D = some (.lst (((List.range i).map f).map V.int))) ⟨same_new hD, upd_same⟩ (fun _ _ _ _ => trivial) ?_ (fun H' ⟨s, hd'⟩ => hd D H' s hD hd')
  rintro i x H1 H2 hi ⟨s, hd⟩ ⟨rfl, rfl⟩
  refine ⟨hw _, tYes_true ?_⟩
  refine (hs i H2 _ hi s fun H4 s4 => ⟨_, s4 _ _ hd, Nat.lt_of_le_of_lt (show _ ≤ 100000 by rw [List.length_map, List.length_map, List.length_range]; omega) (by decide), (s.trans s4).mut hD, ?_⟩)
  rw [upd_same, List.range_succ, List.map_append, List.map_append]
  rfl
/-- ints out of a list of anything -/
theorem c_listVI {a : Addr} {xs : List V} {j : Nat} {vs : List Nat} (f : Nat → Int) (hS : SqL K H a xs) (hz : xs.length ≤ 100000) (hw : ∀ x : V, wipe ((wipe σ vs).set j (some x)) vs = wipe σ vs)
    (hs : ∀ i x H' (R : VK), xs[i]? = some x → Same H H' → (∀ H4, Same H' H4 → R (.int (f i)) H4) → te ((wipe σ vs).set j (some x)) H' R)
    (hd : ∀ l H', Same H H' → H l = none → H' l = some (.lst (((List.range xs.length).map f).map V.int)) → Q (.ref l) H') : lcR (gName j) tYes te vs σ Q (Itl K a) H := by
  refine c_list (xs := xs) (fun D i H' => i ≤ xs.length ∧ Same H H' ∧ H' D = some (.lst (((List.range i).map f).map V.int))) (fun D hD => ⟨Nat.zero_le _, same_new hD, upd_same⟩) (fun D i H' hD hi ⟨_, s, _⟩ => s.seq hS) (fun D i x H' hD hx ⟨hi, s, hd⟩ => ?_) (fun D H' hD ⟨_, s, hd'⟩ => hd D H' s hD hd')
  have hl := (List.getElem?_eq_some_iff.mp hx).1
  refine ⟨hw _, w_put1 (hs i x H' _ hx s fun H4 s4 => ⟨_, s4 _ _ hd, Nat.lt_of_le_of_lt (show _ ≤ 100000 by rw [List.length_map, List.length_map, List.length_range]; omega) (by decide), hl, (s.trans s4).mut hD, ?_⟩)⟩
  rw [upd_same, List.range_succ, List.map_append, List.map_append]
  rfl
theorem w_while {tb : TS} (W : Nat → L2.St → Hp → Prop) (m : Nat) (w0 : W m σ H) (hs : ∀ m σ H, W m σ H → c σ H fun b H1 => whR tb D W m σ b H1) : tWhile c tb D σ H := ⟨W, ⟨m, w0⟩, hs⟩
theorem w_whR {tb : TS} {W : Nat → L2.St → Hp → Prop} {m : Nat} {b : Bool} (h1 : b = true → tb { D with nx := fun σ' H' => ∃ m', m' < m ∧ W m' σ' H', ct := fun σ' H' => ∃ m', m' < m ∧ W m' σ' H', bk := D.nx } σ H) (h2 : b = false → D.nx σ H) : whR tb D W m σ b H := by
  cases b with
  | true => exact iteT ⟨_, fun _ _ h => h, h1 rfl⟩
  | false => exact iteF (h2 rfl)
theorem w_sl {r : V → Option Int → Option Int → Hp → VK → Prop} {lo hi : TO} (h : te σ H fun x H1 => lo σ H1 fun l H2 => hi σ H2 fun u H3 => r x l u H3 Q) : tSl r te lo hi σ H Q := h
theorem w_noPart {R : Option Int → Hp → Prop} (h : R none H) : tNoPart σ H R := h
theorem w_part {R : Option Int → Hp → Prop} (h : te σ H fun x H1 => ∃ i, x = .int i ∧ R (some i) H1) : tPart te σ H R := h
theorem w_partI {R : Int → Prop} {i : Int} (h : R i) : ∃ j, V.int i = .int j ∧ R j := ⟨i, rfl, h⟩
theorem ite_nt {A B : Prop} (h : B) : if (!true) = true then A else B := h
theorem ite_nf {A B : Prop} (h : A) : if (!false) = true then A else B := h
theorem ite_d {c A B : Prop} [Decidable c] (h1 : c → A) (h2 : ¬ c → B) : if decide c = true then A else B := by
  by_cases h : c
  · rw [if_pos (decide_eq_true h)]
    exact h1 h
  · rw [if_neg (by simpa using h)]
    exact h2 h
theorem ite_nd {c A B : Prop} [Decidable c] (h1 : ¬ c → A) (h2 : c → B) : if (!decide c) = true then A else B := by
  by_cases h : c
  · rw [if_neg (by simpa using h)]
    exact h2 h
  · rw [if_pos (by simpa using h)]
    exact h1 h
theorem ite_dT {c A B : Prop} [Decidable c] (hc : c) (h : A) : if decide c = true then A else B := by
  rw [if_pos (decide_eq_true hc)]
  exact h
theorem ite_dF {c A B : Prop} [Decidable c] (hc : ¬ c) (h : B) : if decide c = true then A else B := by
  rw [if_neg (by simpa using hc)]
  exact h
theorem ite_ndF {c A B : Prop} [Decidable c] (hc : ¬ c) (h : A) : if (!decide c) = true then A else B := by
  rw [if_pos (by simpa using hc)]
  exact h
theorem r_ixTn {p : Addr} {ns : List Int} {i : Int} (h : SqT K H p (ns.map V.int)) (h0 : 0 ≤ i) (h1 : i < ns.length) (q : Q (.int (ns.getD i.toNat 0)) H) : rIxT K (.ref p) (.int i) H Q := by
  have hl : i.toNat < ns.length := by omega
  refine ⟨p, _, i, _, rfl, rfl, h, at_of (j := i.toNat) (v := .int (ns.getD i.toNat 0)) (by omega) ?_, q⟩
  rw [List.getElem?_map, List.getElem?_eq_getElem hl, List.getD_eq_getElem?_getD, List.getElem?_eq_getElem hl]
  rfl
theorem r_ixLn {p : Addr} {ns : List Int} {i : Int} (h : SqL K H p (ns.map V.int)) (h0 : 0 ≤ i) (h1 : i < ns.length) (q : Q (.int (ns.getD i.toNat 0)) H) : rIxL K (.ref p) (.int i) H Q := by
  have hl : i.toNat < ns.length := by omega
  refine ⟨p, _, i, _, rfl, rfl, h, at_of (j := i.toNat) (v := .int (ns.getD i.toNat 0)) (by omega) ?_, q⟩
  rw [List.getElem?_map, List.getElem?_eq_getElem hl, List.getD_eq_getElem?_getD, List.getElem?_eq_getElem hl]
  rfl
theorem r_ixLP {p : Addr} {vs : List V} {ps : List (Int × Int)} {i : Int} (h : SqL K H p vs) (g : Pls K H vs ps) (h0 : 0 ≤ i) (h1 : i < ps.length) (q : ∀ v, Pl K H v (ps.getD i.toNat (0, 0)) → Q v H) : rIxL K (.ref p) (.int i) H Q := by
  have hl : i.toNat < ps.length := by omega
  obtain ⟨v, hv, hp⟩ := pr_get' g (show ps[i.toNat]? = some (ps.getD i.toNat (0, 0)) by rw [List.getD_eq_getElem?_getD, List.getElem?_eq_getElem hl]; rfl)
  exact ⟨p, vs, i, v, rfl, rfl, h, at_of (j := i.toNat) (by omega) hv, q v hp⟩
theorem ite_eqT {b : Bool} {A B : Prop} (hb : b = true) (h : A) : if b = true then A else B := by
  rw [if_pos hb]
  exact h
theorem ite_eqF {b : Bool} {A B : Prop} (hb : b = false) (h : B) : if b = true then A else B := by
  rw [hb]
  exact iteF h
theorem ite_neT {b : Bool} {A B : Prop} (hb : b = true) (h : B) : if (!b) = true then A else B := by
  rw [hb]
  exact h
theorem ite_neF {b : Bool} {A B : Prop} (hb : b = false) (h : A) : if (!b) = true then A else B := by
  rw [hb]
  exact h
theorem r_ixLm {p : Addr} {ns : List Int} {k : Nat} (h : SqL K H p (ns.map V.int)) (h0 : 1 ≤ k) (h1 : k ≤ ns.length) (q : Q (.int (ns.getD (ns.length - k) 0)) H) : rIxL K (.ref p) (.int (-(k : Int))) H Q := by
  have hl : ns.length - k < ns.length := by omega
  refine ⟨p, _, _, .int (ns.getD (ns.length - k) 0), rfl, rfl, h, ?_, q⟩
  unfold atI ixN
  rw [List.length_map, if_neg (by omega), if_pos (by omega), show (-(k : Int) + (ns.length : Int)).toNat = ns.length - k by omega]
  show (ns.map V.int)[ns.length - k]? = _
  rw [List.getElem?_map, List.getElem?_eq_getElem hl, List.getD_eq_getElem?_getD, List.getElem?_eq_getElem hl]
  rfl
theorem ite_b {b : Bool} {A B : Prop} (h1 : b = true → A) (h2 : b = false → B) : if b = true then A else B := by
  cases b with
  | true => exact iteT (h1 rfl)
  | false => exact iteF (h2 rfl)
theorem ite_nb {b : Bool} {A B : Prop} (h1 : b = false → A) (h2 : b = true → B) : if (!b) = true then A else B := by
  cases b with
  | true => exact h2 rfl
  | false => exact h1 rfl
theorem r_slL {a : Addr} {xs : List V} {lo hi : Option Int} (h : SqL K H a xs) (q : ∀ p, H p = none → Q (.ref p) (upd H p (.lst (cutV xs lo hi)))) : rSlL K (.ref a) lo hi H Q := ⟨a, xs, rfl, h, q⟩
theorem fin_of {b : Bool} (q : Q (.bl true) H) (hb : b = true) : Q (.bl b) H := by
  rw [hb]
  exact q
/-! on values -/
theorem r_I0 {g : Int → Int → V} {i j : Int} (q : Q (g i j) H) : rI0 g (.int i) (.int j) H Q := ⟨i, j, rfl, rfl, q⟩
theorem r_I {C : Int → Int → Prop} {g : Int → Int → V} {i j : Int} (hc : C i j) (q : Q (g i j) H) : rI C g (.int i) (.int j) H Q := ⟨i, j, rfl, rfl, hc, q⟩
theorem r_U {g : Int → V} {i : Int} (q : Q (g i) H) : rU g (.int i) H Q := ⟨i, rfl, q⟩
theorem r_eqI {i j : Int} (q : Q (.bl (decide (i = j))) H) : rEq (.int i) (.int j) H Q := ⟨rfl, by
  have e : decide (V.int i = V.int j) = decide (i = j) := by by_cases h : i = j <;> simp [h]
  rw [e]; exact q⟩
theorem r_neI {i j : Int} (q : Q (.bl (!decide (i = j))) H) : rNe (.int i) (.int j) H Q := ⟨rfl, by
  have e : decide (V.int i = V.int j) = decide (i = j) := by by_cases h : i = j <;> simp [h]
  rw [e]; exact q⟩
theorem r_eqB {i j : Bool} (q : Q (.bl (decide (i = j))) H) : rEq (.bl i) (.bl j) H Q := ⟨rfl, by
  have e : decide (V.bl i = V.bl j) = decide (i = j) := by by_cases h : i = j <;> simp [h]
  rw [e]; exact q⟩
theorem r_neB {i j : Bool} (q : Q (.bl (!decide (i = j))) H) : rNe (.bl i) (.bl j) H Q := ⟨rfl, by
  have e : decide (V.bl i = V.bl j) = decide (i = j) := by by_cases h : i = j <;> simp [h]
  rw [e]; exact q⟩
theorem r_ixT {p : Addr} {xs : List V} {i : Int} (h : SqT K H p xs) (ha : atI xs i = some v) (q : Q v H) : rIxT K (.ref p) (.int i) H Q := ⟨p, xs, i, v, rfl, rfl, h, ha, q⟩
theorem r_ixL {p : Addr} {xs : List V} {i : Int} (h : SqL K H p xs) (ha : atI xs i = some v) (q : Q v H) : rIxL K (.ref p) (.int i) H Q := ⟨p, xs, i, v, rfl, rfl, h, ha, q⟩
theorem r_ixP0 {p : Int × Int} (h : Pl K H v p) (q : Q (.int p.1) H) : rIxT K v (.int 0) H Q := by
  obtain ⟨a, rfl, h⟩ := h
  exact r_ixT h rfl q
theorem r_ixP1 {p : Int × Int} (h : Pl K H v p) (q : Q (.int p.2) H) : rIxT K v (.int 1) H Q := by
  obtain ⟨a, rfl, h⟩ := h
  exact r_ixT h rfl q
/-! dicts with tuple keys -/
theorem w_dIn {td ty : TE} (h : ty σ H fun y H1 => td σ H1 fun x H2 => rDIn false x y H2 Q) : tDIn ty td σ H Q := h
theorem w_dNotIn {td ty : TE} (h : ty σ H fun y H1 => td σ H1 fun x H2 => rDIn true x y H2 Q) : tDNotIn ty td σ H Q := h
theorem w_dPut {td ty tv : TE} (h : tv σ H fun v H1 => td σ H1 fun x H2 => ty σ H2 fun y H3 => rDPut x y v H3 fun H4 => D.nx σ H4) : sDPut td ty tv D σ H := h
theorem w_dGet {td ty : TE} (h : td σ H fun x H1 => ty σ H1 fun y H2 => rDGet x y H2 Q) : tDGet td ty σ H Q := h
theorem w_dNewT (h : ∀ p, H p = none → Q (.ref p) (upd H p (.dT []))) : tDNewT σ H Q := h
theorem r_dInP {a : Addr} {kvs : List (List Key × V)} {p : Int × Int} (h : H a = some (.dT kvs)) (g : Tp H v p) (q : Q (.bl (valV kvs (keyOf p)).isSome) H) : rDIn false (.ref a) v H Q := by
  obtain ⟨b, rfl, g⟩ := g
  exact ⟨a, _, rfl, DGet.t (k := keyOf p) h g, q⟩
theorem r_dNotInP {a : Addr} {kvs : List (List Key × V)} {p : Int × Int} (h : H a = some (.dT kvs)) (g : Tp H v p) (q : Q (.bl (!(valV kvs (keyOf p)).isSome)) H) : rDIn true (.ref a) v H Q := by
  obtain ⟨b, rfl, g⟩ := g
  exact ⟨a, _, rfl, DGet.t (k := keyOf p) h g, q⟩
theorem r_dPutP {a : Addr} {kvs : List (List Key × V)} {p : Int × Int} {R : Hp → Prop} (h : H a = some (.dT kvs)) (g : Tp H v p) (z : kvs.length ≤ 100000) (q : R (upd H a (.dT (putK kvs (keyOf p) x)))) : rDPut (.ref a) v x H R := by
  obtain ⟨b, rfl, g⟩ := g
  exact ⟨a, _, rfl, DPut.t (k := keyOf p) h g (Nat.lt_of_le_of_lt z (by decide)), q⟩
theorem r_dGetP {a : Addr} {kvs : List (List Key × V)} {p : Int × Int} (h : H a = some (.dT kvs)) (g : Tp H v p) (e : valV kvs (keyOf p) = some x) (q : Q x H) : rDGet (.ref a) v H Q := by
  obtain ⟨b, rfl, g⟩ := g
  exact ⟨a, x, rfl, by rw [← e]; exact DGet.t (k := keyOf p) h g, q⟩
/-! isinstance -/
theorem tyx_tup {a : Addr} {xs : List V} (h : SqT K H a xs) : TyX K H (.ref a) (.type "tuple") := by
  rcases h with (h | ⟨o, h⟩) | ⟨o, its, n, h, c, _⟩
  · exact .base (.tup h)
  · exact .fTuple h
  · exact .kTuple h c
theorem tyx_lst {a : Addr} {xs : List V} (h : SqL K H a xs) : TyX K H (.ref a) (.type "list") := by
  rcases h with (h | ⟨o, h⟩) | ⟨o, its, n, h, c, _⟩
  · exact .base (.lst h)
  · exact .base (.frz h)
  · exact .kList h c
theorem r_isi {n m : String} (ty : TyX K H x (.type n)) (e : kitB n m = some b) (q : Q (.bl b) H) : rIsi K [x, .ty m] H Q := ⟨x, .ty m, .type n, .type m, b, rfl, .ty m, ty, kit_ty e, q⟩
theorem r_isiInt {i : Int} {m : String} (e : kitB "int" m = some b) (q : Q (.bl b) H) : rIsi K [.int i, .ty m] H Q := r_isi (.base (.int i)) e q
theorem r_isiPl {p : Int × Int} {m : String} (h : Pl K H v p) (e : kitB "tuple" m = some b) (q : Q (.bl b) H) : rIsi K [v, .ty m] H Q := by
  obtain ⟨a, rfl, h⟩ := h
  exact r_isi (tyx_tup h) e q
theorem r_isiL {a : Addr} {xs : List V} {m : String} (h : SqL K H a xs) (e : kitB "list" m = some b) (q : Q (.bl b) H) : rIsi K [.ref a, .ty m] H Q := r_isi (tyx_lst h) e q
/-! len, max, min, abs, int -/
theorem r_lenL {p : Addr} {ys : List V} (h : SqL K H p ys) (q : Q (.int (ys.length : Nat)) H) : rLen K [.ref p] H Q := ⟨p, ys, rfl, .inl h, q⟩
theorem r_lenT {p : Addr} {ys : List V} (h : SqT K H p ys) (q : Q (.int (ys.length : Nat)) H) : rLen K [.ref p] H Q := ⟨p, ys, rfl, .inr h, q⟩
theorem r_lenPl {p : Int × Int} (h : Pl K H v p) (q : Q (.int 2) H) : rLen K [v] H Q := by
  obtain ⟨a, rfl, h⟩ := h
  exact ⟨a, _, rfl, .inr h, q⟩
theorem r_listL {p : Addr} {ys : List V} (h : SqL K H p ys) (q : ∀ l, H l = none → Q (.ref l) (upd H l (.lst ys))) : rList K [.ref p] H Q := ⟨p, ys, rfl, .inl h, q⟩
theorem r_listT {p : Addr} {ys : List V} (h : SqT K H p ys) (q : ∀ l, H l = none → Q (.ref l) (upd H l (.lst ys))) : rList K [.ref p] H Q := ⟨p, ys, rfl, .inr h, q⟩
theorem r_tupL {p : Addr} {ys : List V} (h : SqL K H p ys) (q : ∀ l, H l = none → Q (.ref l) (upd H l (.tup ys))) : rTuple K [.ref p] H Q := ⟨p, ys, rfl, .inl ⟨h, q⟩⟩
theorem r_tupPl {p : Int × Int} (h : Pl K H v p) (q : Q v H) : rTuple K [v] H Q := by
  obtain ⟨a, rfl, h⟩ := h
  exact ⟨a, _, rfl, .inr ⟨h, q⟩⟩
theorem r_tupT {p : Addr} {ys : List V} (h : SqT K H p ys) (q : Q (.ref p) H) : rTuple K [.ref p] H Q := ⟨p, ys, rfl, .inr ⟨h, q⟩⟩
theorem r_max2 {i j : Int} (q : Q (.int (max i j)) H) : rMax2 [.int i, .int j] H Q := ⟨i, j, rfl, by
  have e : (if j > i then j else i) = max i j := by rw [Int.max_def]; split <;> split <;> omega
  rw [e]; exact q⟩
theorem r_min2 {i j : Int} (q : Q (.int (min i j)) H) : rMin2 [.int i, .int j] H Q := ⟨i, j, rfl, by
  have e : (if j < i then j else i) = min i j := by rw [Int.min_def]; split <;> split <;> omega
  rw [e]; exact q⟩
theorem r_max3 {i j k : Int} (q : Q (.int (max (max i j) k)) H) : rMax3 [.int i, .int j, .int k] H Q := ⟨i, j, k, rfl, q⟩
theorem r_abs {i : Int} (q : Q (.int (i.natAbs : Int)) H) : rAbs [.int i] H Q := ⟨i, rfl, by
  have e : (if i < 0 then -i else i) = (i.natAbs : Int) := by split <;> omega
  rw [e]; exact q⟩
theorem r_intI {i : Int} (q : Q (.int i) H) : rInt1 [.int i] H Q := .inl ⟨i, rfl, q⟩
theorem r_intB {b : Bool} (q : Q (.int (if b then 1 else 0)) H) : rInt1 [.bl b] H Q := .inr ⟨b, rfl, q⟩
theorem kit_ii : kitB "int" "int" = some true := by decide +kernel
theorem kit_ib : kitB "int" "bool" = some false := by decide +kernel
theorem kit_bb : kitB "bool" "bool" = some true := by decide +kernel
theorem kit_bi : kitB "bool" "int" = some true := by decide +kernel
theorem kit_tt : kitB "tuple" "tuple" = some true := by decide +kernel
theorem kit_ll : kitB "list" "list" = some true := by decide +kernel
theorem kit_dd : kitB "dict" "dict" = some true := by decide +kernel
/-! equality of data -/
theorem dp_pl {p : Int × Int} (h : Pl K H v p) : Dp K H v (.tuple [.int p.1, .int p.2]) := by
  obtain ⟨a, rfl, h⟩ := h
  exact .tup h (.cons (.int _) (.cons (.int _) .nil))
theorem canLay_ints : ∀ ns : List Int, PyData.canLayAll0 (ns.map PyData.int) = true
  | [] => rfl
  | n :: r => by
    show (true && PyData.canLayAll0 (r.map PyData.int)) = true
    rw [canLay_ints r]
    rfl
theorem depth_ints : ∀ ns : List Int, PyData.depthAll (ns.map PyData.int) = 0
  | [] => rfl
  | n :: r => by
    show max 0 (PyData.depthAll (r.map PyData.int)) = 0
    rw [depth_ints r]
    rfl
theorem shaped_ints (ns : List Int) : SeqAt.shaped (.list (ns.map PyData.int)) = true := by
  have h1 : PyData.canLay0 (.list (ns.map PyData.int)) = true := by rw [PyData.canLay0]; exact canLay_ints ns
  have h2 : PyData.depth (.list (ns.map PyData.int)) = 1 := by rw [PyData.depth, depth_ints]
  unfold SeqAt.shaped
  rw [h1, h2]
  rfl
theorem r_rep1 {a : Addr} {i : Int} {k : Int} (h : H a = some (.lst ([i].map V.int))) (h0 : 0 ≤ k) (h1 : k ≤ 1000) (q : ∀ p, H p = none → Q (.ref p) (upd H p (.lst ((List.replicate k.toNat i).map V.int)))) : rRep (.ref a) (.int k) H Q := by
  refine ⟨a, k, _, rfl, rfl, h, by omega, by omega, ?_, fun p hp => ?_⟩
  · show 1 * k.toNat ≤ _
    exact Nat.le_trans (show 1 * k.toNat ≤ 1000 by omega) (by decide)
  · have e : ∀ n : Nat, (List.replicate n [V.int i]).flatten = (List.replicate n i).map V.int := fun n => by
      induction n with
      | zero => rfl
      | succ n ih =>
        rw [List.replicate_succ, List.replicate_succ, List.flatten_cons, ih]
        rfl
    rw [show [i].map V.int = [V.int i] from rfl, e]
    exact q p hp
theorem dpAll_ints : ∀ ns : List Int, DpAll K H (ns.map V.int) (ns.map PyData.int)
  | [] => .nil
  | n :: r => .cons (.int n) (dpAll_ints r)
theorem dp_ints {a : Addr} {ns : List Int} (h : SqL K H a (ns.map V.int)) : Dp K H (.ref a) (.list (ns.map PyData.int)) := .lst h (dpAll_ints ns)
theorem eqv_ints : ∀ ns ms : List Int, PyData.eqvAll (ns.map PyData.int) (ms.map PyData.int) = decide (ns = ms)
  | [], [] => rfl
  | [], _ :: _ => rfl
  | _ :: _, [] => rfl
  | n :: r, m :: q => by
    show ((n == m) && PyData.eqvAll (r.map PyData.int) (q.map PyData.int)) = _
    rw [eqv_ints r q]
    by_cases h1 : n = m <;> by_cases h2 : r = q <;> simp [h1, h2]
theorem eqv_intL (ns ms : List Int) : PyData.eqv (.list (ns.map PyData.int)) (.list (ms.map PyData.int)) = decide (ns = ms) := by
  rw [PyData.eqv]
  exact eqv_ints ns ms
theorem r_eqIL {a b : Addr} {ns ms : List Int} (h1 : SqL K H a (ns.map V.int)) (h2 : SqL K H b (ms.map V.int)) (k : Q (.bl (decide (ns = ms))) H) : rEqD K (.ref a) (.ref b) H Q := ⟨_, _, dp_ints h1, dp_ints h2, shaped_ints ns, shaped_ints ms, by rw [eqv_intL]; exact k⟩
theorem r_neIL {a b : Addr} {ns ms : List Int} (h1 : SqL K H a (ns.map V.int)) (h2 : SqL K H b (ms.map V.int)) (k : Q (.bl (!decide (ns = ms))) H) : rNeD K (.ref a) (.ref b) H Q := ⟨_, _, dp_ints h1, dp_ints h2, shaped_ints ns, shaped_ints ms, by rw [eqv_intL]; exact k⟩
theorem r_rep {a : Addr} {xs : List V} {k : Int} (h : H a = some (.lst xs)) (h0 : 0 ≤ k) (h1 : k ≤ 1000) (z : xs.length ≤ 10) (q : ∀ p, H p = none → Q (.ref p) (upd H p (.lst (List.replicate k.toNat xs).flatten))) : rRep (.ref a) (.int k) H Q := by
  refine ⟨a, k, xs, rfl, rfl, h, by omega, by omega, ?_, ?_⟩
  · have : xs.length * k.toNat ≤ 10 * 1000 := Nat.mul_le_mul z (by omega)
    exact Nat.le_trans this (by decide)
  · exact q
theorem r_eqPl {p q : Int × Int} (h1 : Pl K H x p) (h2 : Pl K H y q) (k : Q (.bl (decide (p = q))) H) : rEqD K x y H Q := ⟨_, _, dp_pl h1, dp_pl h2, rfl, rfl, by
  have e : PyData.eqv (.tuple [.int p.1, .int p.2]) (.tuple [.int q.1, .int q.2]) = decide (p = q) := by
    obtain ⟨p1, p2⟩ := p
    obtain ⟨q1, q2⟩ := q
    simp only [PyData.eqv, PyData.eqvAll, Prod.mk.injEq]
    by_cases h1 : p1 = q1 <;> by_cases h2 : p2 = q2 <;> simp [h1, h2]
  rw [e]; exact k⟩
theorem r_nePl {p q : Int × Int} (h1 : Pl K H x p) (h2 : Pl K H y q) (k : Q (.bl (!decide (p = q))) H) : rNeD K x y H Q := ⟨_, _, dp_pl h1, dp_pl h2, rfl, rfl, by
  have e : PyData.eqv (.tuple [.int p.1, .int p.2]) (.tuple [.int q.1, .int q.2]) = decide (p = q) := by
    obtain ⟨p1, p2⟩ := p
    obtain ⟨q1, q2⟩ := q
    simp only [PyData.eqv, PyData.eqvAll, Prod.mk.injEq]
    by_cases h1 : p1 = q1 <;> by_cases h2 : p2 = q2 <;> simp [h1, h2]
  rw [e]; exact k⟩
end
end Hx
namespace Hx
open PySem PySem.Spec PyProof.Rows L2
theorem pr_rev {α β : Type} {R : α → β → Prop} : ∀ {xs : List α} {ys : List β}, Paired R xs ys → Paired R xs.reverse ys.reverse
  | _, _, .nil => .nil
  | _, _, .cons r t => by rw [List.reverse_cons, List.reverse_cons]; exact pr_snoc (pr_rev t) r
end Hx

/-! # places, steps, sevens: plain laws -/
namespace Hx
def turn1 (p : Int × Int) : Int × Int := (-p.2, p.1 + p.2)
def turnN : Nat → Int × Int → Int × Int
  | 0, p => p
  | n + 1, p => turn1 (turnN n p)
def numBy (c : Int) : Int := if c % 4 = 1 then c / 4 % (2 * 10 ^ (39 : Int).toNat - 1) - 10 ^ (39 : Int).toNat + 1 else c / 4 % 61 - 30
def cellAt (ns : List Int) (k : Int) : Int := if k < (ns.length : Int) then (ns.getD k.toNat 0) else 0
def stepOf (d : Int) : Int × Int := steps.getD (d - 1).toNat (0, 0)
def restPlace (f : Int) : Int × Int := if f = 0 then (0, 0) else stepOf f
def restOf (p : Int × Int) : Int := figs.getD ((p.1 + 5 * p.2) % 7).toNat 0
def greatOf (p : Int × Int) : Int × Int := (2 * p.1 - p.2, p.1 + 3 * p.2)
def centreOf (p : Int × Int) : Int × Int :=
  ((3 * (p.1 - (restPlace (restOf p)).1) + (p.2 - (restPlace (restOf p)).2)) / 7, (2 * (p.2 - (restPlace (restOf p)).2) - (p.1 - (restPlace (restOf p)).1)) / 7)
theorem fig_cases {f : Int} (h0 : 0 ≤ f) (h1 : f ≤ 6) : f = 0 ∨ f = 1 ∨ f = 2 ∨ f = 3 ∨ f = 4 ∨ f = 5 ∨ f = 6 := by omega
theorem rest_cases (p : Int × Int) : ((p.1 + 5 * p.2) % 7 = 0 ∧ restOf p = 0 ∧ restPlace (restOf p) = (0, 0)) ∨ ((p.1 + 5 * p.2) % 7 = 1 ∧ restOf p = 1 ∧ restPlace (restOf p) = (1, 0)) ∨
    ((p.1 + 5 * p.2) % 7 = 2 ∧ restOf p = 5 ∧ restPlace (restOf p) = (0, -1)) ∨ ((p.1 + 5 * p.2) % 7 = 3 ∧ restOf p = 6 ∧ restPlace (restOf p) = (1, -1)) ∨ ((p.1 + 5 * p.2) % 7 = 4 ∧ restOf p = 3 ∧ restPlace (restOf p) = (-1, 1)) ∨
    ((p.1 + 5 * p.2) % 7 = 5 ∧ restOf p = 2 ∧ restPlace (restOf p) = (0, 1)) ∨ ((p.1 + 5 * p.2) % 7 = 6 ∧ restOf p = 4 ∧ restPlace (restOf p) = (-1, 0)) := by
  have h : ∀ m : Int, 0 ≤ m → m < 7 → (m = 0 ∧ figs.getD m.toNat 0 = 0 ∧ restPlace (figs.getD m.toNat 0) = (0, 0)) ∨ (m = 1 ∧ figs.getD m.toNat 0 = 1 ∧ restPlace (figs.getD m.toNat 0) = (1, 0)) ∨
    (m = 2 ∧ figs.getD m.toNat 0 = 5 ∧ restPlace (figs.getD m.toNat 0) = (0, -1)) ∨ (m = 3 ∧ figs.getD m.toNat 0 = 6 ∧ restPlace (figs.getD m.toNat 0) = (1, -1)) ∨ (m = 4 ∧ figs.getD m.toNat 0 = 3 ∧ restPlace (figs.getD m.toNat 0) = (-1, 1)) ∨
    (m = 5 ∧ figs.getD m.toNat 0 = 2 ∧ restPlace (figs.getD m.toNat 0) = (0, 1)) ∨ (m = 6 ∧ figs.getD m.toNat 0 = 4 ∧ restPlace (figs.getD m.toNat 0) = (-1, 0)) := by
    intro m h0 h1
    obtain rfl | rfl | rfl | rfl | rfl | rfl | rfl := fig_cases (f := m) h0 (by omega) <;> simp [figs, restPlace, stepOf, steps]
  exact h _ (by omega) (by omega)
theorem rest_range (p : Int × Int) : 0 ≤ restOf p ∧ restOf p ≤ 6 := by
  rcases rest_cases p with h | h | h | h | h | h | h <;> omega
theorem great_centre (p : Int × Int) : greatOf (centreOf p) = (p.1 - (restPlace (restOf p)).1, p.2 - (restPlace (restOf p)).2) := by
  unfold greatOf centreOf
  rcases rest_cases p with ⟨h, _, e⟩ | ⟨h, _, e⟩ | ⟨h, _, e⟩ | ⟨h, _, e⟩ | ⟨h, _, e⟩ | ⟨h, _, e⟩ | ⟨h, _, e⟩ <;> rw [e] <;> simp only [Prod.mk.injEq] <;> omega
/-- q, r is a great step -/
def isGreat (q r : Int) : Bool := decide ((3 * q + r) % 7 = 0) && decide ((2 * r - q) % 7 = 0)
theorem isGreat_rest (p : Int × Int) {f : Int} (h0 : 0 ≤ f) (h1 : f ≤ 6) : isGreat (p.1 - (restPlace f).1) (p.2 - (restPlace f).2) = decide (f = restOf p) := by
  have h : ∀ b : Bool, (b = true ↔ f = restOf p) → b = decide (f = restOf p) := fun b hb => by
    cases b with
    | true => exact (decide_eq_true (hb.mp rfl)).symm
    | false => exact (decide_eq_false fun z => Bool.noConfusion (hb.mpr z)).symm
  refine h _ ?_
  unfold isGreat
  rw [Bool.and_eq_true, decide_eq_true_eq, decide_eq_true_eq]
  obtain ⟨r, hr⟩ : ∃ r, r = restOf p := ⟨_, rfl⟩
  rw [← hr]
  obtain rfl | rfl | rfl | rfl | rfl | rfl | rfl := fig_cases h0 h1 <;> simp only [restPlace, stepOf, steps] <;> rcases rest_cases p with ⟨h, e, _⟩ | ⟨h, e, _⟩ | ⟨h, e, _⟩ | ⟨h, e, _⟩ | ⟨h, e, _⟩ | ⟨h, e, _⟩ | ⟨h, e, _⟩ <;> rw [e] at hr <;> subst hr <;> simp <;> omega
end Hx

/-! # neighbours, distances: plain laws -/
namespace Hx
def nbrs (p : Int × Int) : List (Int × Int) := steps.map fun s => (p.1 + s.1, p.2 + s.2)
theorem nbrs_len (p : Int × Int) : (nbrs p).length = 6 := rfl
def distOf (p o : Int × Int) : Int := max (max ((p.1 - o.1).natAbs : Int) ((p.2 - o.2).natAbs : Int)) (((p.1 - o.1) + (p.2 - o.2)).natAbs : Int)
theorem dist_comm (p o : Int × Int) : distOf p o = distOf o p := by
  unfold distOf
  omega
theorem dist_self (p : Int × Int) : distOf p p = 0 := by
  unfold distOf
  omega
theorem nbrs_cases {p n : Int × Int} (h : n ∈ nbrs p) : n = (p.1 + 1, p.2 + 0) ∨ n = (p.1 + 0, p.2 + 1) ∨ n = (p.1 + -1, p.2 + 1) ∨ n = (p.1 + -1, p.2 + 0) ∨ n = (p.1 + 0, p.2 + -1) ∨ n = (p.1 + 1, p.2 + -1) := by
  simpa [nbrs, steps] using h
theorem dist_le (p o : Int × Int) (k : Int) : distOf p o ≤ k ↔ (-k ≤ p.1 - o.1 ∧ p.1 - o.1 ≤ k) ∧ (-k ≤ p.2 - o.2 ∧ p.2 - o.2 ≤ k) ∧ (-k ≤ (p.1 - o.1) + (p.2 - o.2) ∧ (p.1 - o.1) + (p.2 - o.2) ≤ k) := by
  unfold distOf
  rw [Int.max_le, Int.max_le]
  omega
theorem dist_nonneg (p o : Int × Int) : 0 ≤ distOf p o := by
  unfold distOf
  exact Int.le_trans (Int.natCast_nonneg _) (Int.le_max_right _ _)
theorem nbrs_back {p n : Int × Int} (h : n ∈ nbrs p) : p ∈ nbrs n := by
  obtain ⟨a, b⟩ := p
  simp only [nbrs, steps, List.map_cons, List.map_nil, List.mem_cons, List.not_mem_nil, or_false] at h ⊢
  rcases h with rfl | rfl | rfl | rfl | rfl | rfl <;> simp only [Prod.mk.injEq] <;> omega
theorem dist_up {p n : Int × Int} (o : Int × Int) (h : n ∈ nbrs p) : distOf n o ≤ distOf p o + 1 := by
  obtain ⟨⟨a1, a2⟩, ⟨b1, b2⟩, c1, c2⟩ := (dist_le p o (distOf p o)).mp (Int.le_refl _)
  obtain ⟨d, hd⟩ : ∃ d, d = distOf p o := ⟨_, rfl⟩
  rw [← hd] at a1 a2 b1 b2 c1 c2 ⊢
  rw [dist_le]
  rcases nbrs_cases h with h | h | h | h | h | h <;> subst h <;> simp only <;> omega
theorem dist_step {p n : Int × Int} (o : Int × Int) (h : n ∈ nbrs p) : (distOf n o - distOf p o).natAbs ≤ 1 := by
  have h1 := dist_up o h
  have h2 := dist_up o (nbrs_back h)
  omega
theorem dist_down {p o : Int × Int} (h : 0 < distOf p o) : ∃ n ∈ nbrs p, distOf n o = distOf p o - 1 := by
  obtain ⟨⟨a1, a2⟩, ⟨b1, b2⟩, c1, c2⟩ := (dist_le p o (distOf p o)).mp (Int.le_refl _)
  have z : ¬ distOf p o ≤ 0 := by omega
  rw [dist_le] at z
  obtain ⟨d, hd⟩ : ∃ d, d = distOf p o := ⟨_, rfl⟩
  rw [← hd] at a1 a2 b1 b2 c1 c2 h
  have m : ∀ n, n ∈ nbrs p → distOf n o ≤ d - 1 → ∃ n ∈ nbrs p, distOf n o = distOf p o - 1 := fun n hn hl => ⟨n, hn, by
    have := dist_step o hn
    omega⟩
  have mm : ∀ s ∈ steps, (p.1 + s.1, p.2 + s.2) ∈ nbrs p := fun s hs => List.mem_map.mpr ⟨s, hs, rfl⟩
  by_cases hu : p.1 - o.1 = 0
  · by_cases hv : 0 < p.2 - o.2
    · refine m _ (mm (0, -1) (by decide)) ?_
      rw [dist_le]
      simp only
      omega
    · refine m _ (mm (0, 1) (by decide)) ?_
      rw [dist_le]
      simp only
      omega
  · by_cases hu2 : 0 < p.1 - o.1
    · by_cases hv : 0 ≤ p.2 - o.2
      · refine m _ (mm (-1, 0) (by decide)) ?_
        rw [dist_le]
        simp only
        omega
      · refine m _ (mm (-1, 1) (by decide)) ?_
        rw [dist_le]
        simp only
        omega
    · by_cases hv : p.2 - o.2 ≤ 0
      · refine m _ (mm (1, 0) (by decide)) ?_
        rw [dist_le]
        simp only
        omega
      · refine m _ (mm (1, -1) (by decide)) ?_
        rw [dist_le]
        simp only
        omega
theorem dist_near (p o : Int × Int) : ((nbrs p).any fun n => decide (distOf n o - distOf p o = -1)) = decide (distOf p o > 0) := by
  by_cases h : distOf p o > 0
  · rw [decide_eq_true h, List.any_eq_true]
    obtain ⟨n, hn, e⟩ := dist_down h
    exact ⟨n, hn, decide_eq_true (by omega)⟩
  · rw [decide_eq_false h, List.any_eq_false]
    intro n hn
    have := dist_nonneg n o
    simp only [decide_eq_true_eq]
    omega
theorem dist_walk {p n : Int × Int} (o : Int × Int) {k : Nat} (h : n ∈ nbrs p) (hk : distOf o p ≤ k) : distOf o n ≤ k + 1 := by
  have h1 := dist_step o h
  rw [dist_comm o n]
  rw [dist_comm o p] at hk
  omega
theorem getD_mem {α : Type} {l : List α} {i : Nat} {d : α} (h : i < l.length) : l.getD i d ∈ l := by
  rw [List.getD_eq_getElem?_getD, List.getElem?_eq_getElem h]
  exact List.getElem_mem h
theorem take_snoc {α : Type} {l : List α} {i : Nat} {x : α} (h : l[i]? = some x) : l.take (i + 1) = l.take i ++ [x] := by
  rw [List.take_add_one, h]
  rfl
end Hx
namespace Hx
theorem cutV_drop (fs : List Int) (i : Nat) : L2.cutV (fs.map L2.V.int) (some (i : Int)) none = (fs.drop i).map L2.V.int := by
  unfold L2.cutV
  rw [HT.sIx_nat, HT.sIx_none, List.length_map, List.map_drop]
  by_cases h : i ≤ fs.length
  · rw [Nat.min_eq_left h, List.take_of_length_le (by rw [List.length_drop, List.length_map]; exact Nat.le_refl _)]
  · rw [Nat.min_eq_right (by omega), List.drop_eq_nil_of_le (by rw [List.length_map]; exact Nat.le_refl _), List.drop_eq_nil_of_le (by rw [List.length_map]; omega), List.take_nil]
end Hx
namespace Hx
theorem cutV_mid (ns : List Int) (i j : Nat) : ∃ cs : List Int, L2.cutV (ns.map L2.V.int) (some (i : Int)) (some (j : Int)) = cs.map L2.V.int ∧ cs.length ≤ j - i ∧ cs = (ns.drop (min i ns.length)).take (min j ns.length - min i ns.length) := by
  refine ⟨_, ?_, ?_, rfl⟩
  · unfold L2.cutV
    rw [HT.sIx_nat, HT.sIx_nat, List.length_map, List.map_take, List.map_drop]
  · rw [List.length_take, List.length_drop]
    omega
end Hx
namespace Hx
theorem cutV_take (fs : List Int) (j : Nat) : L2.cutV (fs.map L2.V.int) none (some (j : Int)) = (fs.take j).map L2.V.int := by
  unfold L2.cutV
  rw [HT.sIx_nat, HT.sIx_none, List.length_map, Nat.sub_zero, List.drop_zero, List.map_take]
  by_cases h : j ≤ fs.length
  · rw [Nat.min_eq_left h]
  · rw [Nat.min_eq_right (by omega), List.take_of_length_le (by rw [List.length_map]; exact Nat.le_refl _), List.take_of_length_le (by rw [List.length_map]; omega)]
end Hx

/-! # rings: plain laws -/
namespace Hx
def sideOf (k : Nat) : Int := sides.getD k 0
def sideStep (k : Nat) : Int × Int := stepOf (sideOf k)
def corner (n : Int) : Nat → Int × Int
  | 0 => ((stepOf 1).1 * n, (stepOf 1).2 * n)
  | k + 1 => ((corner n k).1 + (sideStep k).1 * n, (corner n k).2 + (sideStep k).2 * n)
def ringAt (n a : Int) : Int × Int :=
  ((corner n (a / n).toNat).1 + (sideStep (a / n).toNat).1 * (a % n), (corner n (a / n).toNat).2 + (sideStep (a / n).toNat).2 * (a % n))
theorem side_range {k : Nat} (h : k < 6) : 1 ≤ sideOf k ∧ sideOf k ≤ 6 := by
  have : ∀ k, k < 6 → 1 ≤ sideOf k ∧ sideOf k ≤ 6 := by decide
  exact this k h
theorem step_small {d : Int} (h0 : 1 ≤ d) (h1 : d ≤ 6) : (-1 ≤ (stepOf d).1 ∧ (stepOf d).1 ≤ 1) ∧ (-1 ≤ (stepOf d).2 ∧ (stepOf d).2 ≤ 1) := by
  obtain rfl | rfl | rfl | rfl | rfl | rfl : d = 1 ∨ d = 2 ∨ d = 3 ∨ d = 4 ∨ d = 5 ∨ d = 6 := by omega
  all_goals decide
theorem corner_is (n : Int) : corner n 0 = (n, 0) ∧ corner n 1 = (0, n) ∧ corner n 2 = (-n, n) ∧ corner n 3 = (-n, 0) ∧ corner n 4 = (0, -n) ∧ corner n 5 = (n, -n) := by
  simp only [corner, sideStep, sideOf, sides, stepOf, steps, List.getD_cons_zero, List.getD_cons_succ, Prod.mk.injEq]
  refine ⟨?_, ?_, ?_, ?_, ?_, ?_⟩ <;> (simp; try omega)
theorem side_is : sideStep 0 = (-1, 1) ∧ sideStep 1 = (-1, 0) ∧ sideStep 2 = (0, -1) ∧ sideStep 3 = (1, -1) ∧ sideStep 4 = (1, 0) ∧ sideStep 5 = (0, 1) := by decide
theorem div_bounds {n a : Int} (hn : 1 ≤ n) (h0 : 0 ≤ a) (h6 : a < 6 * n) : 0 ≤ a / n ∧ a / n < 6 := by
  refine ⟨Int.ediv_nonneg h0 (by omega), Int.ediv_lt_of_lt_mul (by omega) (by omega)⟩
theorem ring_form {n a : Int} (hn : 1 ≤ n) (h0 : 0 ≤ a) (h6 : a < 6 * n) : ∃ j, 0 ≤ j ∧ j < n ∧ j = a % n ∧ ((a / n = 0 ∧ a = j ∧ ringAt n a = (n - j, j)) ∨ (a / n = 1 ∧ a = n + j ∧ ringAt n a = (-j, n)) ∨ (a / n = 2 ∧ a = 2 * n + j ∧ ringAt n a = (-n, n - j)) ∨
    (a / n = 3 ∧ a = 3 * n + j ∧ ringAt n a = (j - n, -j)) ∨ (a / n = 4 ∧ a = 4 * n + j ∧ ringAt n a = (j, -n)) ∨ (a / n = 5 ∧ a = 5 * n + j ∧ ringAt n a = (n, j - n))) := by
  have hd := div_bounds hn h0 h6
  have hm0 : 0 ≤ a % n := Int.emod_nonneg _ (by omega)
  have hm1 : a % n < n := Int.emod_lt_of_pos _ (by omega)
  have hs : n * (a / n) + a % n = a := Int.mul_ediv_add_emod a n
  obtain ⟨c0, c1, c2, c3, c4, c5⟩ := corner_is n
  obtain ⟨s0, s1, s2, s3, s4, s5⟩ := side_is
  refine ⟨a % n, hm0, hm1, rfl, ?_⟩
  unfold ringAt
  obtain h | h | h | h | h | h : a / n = 0 ∨ a / n = 1 ∨ a / n = 2 ∨ a / n = 3 ∨ a / n = 4 ∨ a / n = 5 := by omega
  · rw [h] at hs ⊢
    exact .inl ⟨rfl, by omega, by show ((corner n 0).1 + (sideStep 0).1 * _, (corner n 0).2 + (sideStep 0).2 * _) = _; rw [c0, s0]; simp only [Prod.mk.injEq]; omega⟩
  · rw [h] at hs ⊢
    exact .inr (.inl ⟨rfl, by omega, by show ((corner n 1).1 + (sideStep 1).1 * _, (corner n 1).2 + (sideStep 1).2 * _) = _; rw [c1, s1]; simp only [Prod.mk.injEq]; omega⟩)
  · rw [h] at hs ⊢
    exact .inr (.inr (.inl ⟨rfl, by omega, by show ((corner n 2).1 + (sideStep 2).1 * _, (corner n 2).2 + (sideStep 2).2 * _) = _; rw [c2, s2]; simp only [Prod.mk.injEq]; omega⟩))
  · rw [h] at hs ⊢
    exact .inr (.inr (.inr (.inl ⟨rfl, by omega, by show ((corner n 3).1 + (sideStep 3).1 * _, (corner n 3).2 + (sideStep 3).2 * _) = _; rw [c3, s3]; simp only [Prod.mk.injEq]; omega⟩)))
  · rw [h] at hs ⊢
    exact .inr (.inr (.inr (.inr (.inl ⟨rfl, by omega, by show ((corner n 4).1 + (sideStep 4).1 * _, (corner n 4).2 + (sideStep 4).2 * _) = _; rw [c4, s4]; simp only [Prod.mk.injEq]; omega⟩))))
  · rw [h] at hs ⊢
    exact .inr (.inr (.inr (.inr (.inr ⟨rfl, by omega, by show ((corner n 5).1 + (sideStep 5).1 * _, (corner n 5).2 + (sideStep 5).2 * _) = _; rw [c5, s5]; simp only [Prod.mk.injEq]; omega⟩))))
theorem ring_inj {n a b : Int} (hn : 1 ≤ n) (a0 : 0 ≤ a) (a6 : a < 6 * n) (b0 : 0 ≤ b) (b6 : b < 6 * n) (e : ringAt n a = ringAt n b) : a = b := by
  obtain ⟨i, i0, i1, _, ha⟩ := ring_form hn a0 a6
  obtain ⟨j, j0, j1, _, hb⟩ := ring_form hn b0 b6
  rcases ha with ⟨_, h1, h2⟩ | ⟨_, h1, h2⟩ | ⟨_, h1, h2⟩ | ⟨_, h1, h2⟩ | ⟨_, h1, h2⟩ | ⟨_, h1, h2⟩ <;> rw [h2] at e <;>
  rcases hb with ⟨_, h3, h4⟩ | ⟨_, h3, h4⟩ | ⟨_, h3, h4⟩ | ⟨_, h3, h4⟩ | ⟨_, h3, h4⟩ | ⟨_, h3, h4⟩ <;> rw [h4] at e <;> simp only [Prod.mk.injEq] at e <;> omega
def farOf (p : Int × Int) : Int := max (max (p.1.natAbs : Int) (p.2.natAbs : Int)) ((p.1 + p.2).natAbs : Int)
theorem ring_far {n a : Int} (hn : 1 ≤ n) (a0 : 0 ≤ a) (a6 : a < 6 * n) : farOf (ringAt n a) = n := by
  obtain ⟨i, i0, i1, _, ha⟩ := ring_form hn a0 a6
  unfold farOf
  rcases ha with ⟨_, h1, h2⟩ | ⟨_, h1, h2⟩ | ⟨_, h1, h2⟩ | ⟨_, h1, h2⟩ | ⟨_, h1, h2⟩ | ⟨_, h1, h2⟩ <;> rw [h2] <;> simp only <;> omega
/-- where the walk stands behind a steps: at the ring's end again at its first place -/
def hereAt (n a : Int) : Int × Int := if a = 6 * n then (n, 0) else ringAt n a
theorem ring_first {n : Int} (hn : 1 ≤ n) : ringAt n 0 = (n, 0) := by
  obtain ⟨i, i0, i1, _, ha⟩ := ring_form (a := 0) hn (by omega) (by omega)
  rcases ha with ⟨_, h1, h2⟩ | ⟨_, h1, h2⟩ | ⟨_, h1, h2⟩ | ⟨_, h1, h2⟩ | ⟨_, h1, h2⟩ | ⟨_, h1, h2⟩ <;> rw [h2] <;> simp only [Prod.mk.injEq] <;> omega
theorem ring_next {n a : Int} (hn : 1 ≤ n) (a0 : 0 ≤ a) (a6 : a < 6 * n) : hereAt n (a + 1) = ((ringAt n a).1 + (sideStep (a / n).toNat).1, (ringAt n a).2 + (sideStep (a / n).toNat).2) := by
  obtain ⟨s0, s1, s2, s3, s4, s5⟩ := side_is
  obtain ⟨i, i0, i1, _, ha⟩ := ring_form hn a0 a6
  unfold hereAt
  by_cases hl : a + 1 = 6 * n
  · rw [if_pos hl]
    rcases ha with ⟨d, h1, h2⟩ | ⟨d, h1, h2⟩ | ⟨d, h1, h2⟩ | ⟨d, h1, h2⟩ | ⟨d, h1, h2⟩ | ⟨d, h1, h2⟩
    all_goals rw [h2, d]
    · exfalso; omega
    · exfalso; omega
    · exfalso; omega
    · exfalso; omega
    · exfalso; omega
    · show _ = ((n : Int) + (sideStep 5).1, i - n + (sideStep 5).2)
      rw [s5]; simp only [Prod.mk.injEq]; omega
  · rw [if_neg hl]
    obtain ⟨j, j0, j1, _, hb⟩ := ring_form (a := a + 1) hn (by omega) (by omega)
    rcases ha with ⟨d, h1, h2⟩ | ⟨d, h1, h2⟩ | ⟨d, h1, h2⟩ | ⟨d, h1, h2⟩ | ⟨d, h1, h2⟩ | ⟨d, h1, h2⟩
    all_goals rw [h2, d]
    · show _ = (n - i + (sideStep 0).1, i + (sideStep 0).2)
      rw [s0]
      rcases hb with ⟨_, h3, h4⟩ | ⟨_, h3, h4⟩ | ⟨_, h3, h4⟩ | ⟨_, h3, h4⟩ | ⟨_, h3, h4⟩ | ⟨_, h3, h4⟩ <;> rw [h4] <;> simp only [Prod.mk.injEq] <;> omega
    · show _ = (-i + (sideStep 1).1, n + (sideStep 1).2)
      rw [s1]
      rcases hb with ⟨_, h3, h4⟩ | ⟨_, h3, h4⟩ | ⟨_, h3, h4⟩ | ⟨_, h3, h4⟩ | ⟨_, h3, h4⟩ | ⟨_, h3, h4⟩ <;> rw [h4] <;> simp only [Prod.mk.injEq] <;> omega
    · show _ = (-n + (sideStep 2).1, n - i + (sideStep 2).2)
      rw [s2]
      rcases hb with ⟨_, h3, h4⟩ | ⟨_, h3, h4⟩ | ⟨_, h3, h4⟩ | ⟨_, h3, h4⟩ | ⟨_, h3, h4⟩ | ⟨_, h3, h4⟩ <;> rw [h4] <;> simp only [Prod.mk.injEq] <;> omega
    · show _ = (i - n + (sideStep 3).1, -i + (sideStep 3).2)
      rw [s3]
      rcases hb with ⟨_, h3, h4⟩ | ⟨_, h3, h4⟩ | ⟨_, h3, h4⟩ | ⟨_, h3, h4⟩ | ⟨_, h3, h4⟩ | ⟨_, h3, h4⟩ <;> rw [h4] <;> simp only [Prod.mk.injEq] <;> omega
    · show _ = (i + (sideStep 4).1, -n + (sideStep 4).2)
      rw [s4]
      rcases hb with ⟨_, h3, h4⟩ | ⟨_, h3, h4⟩ | ⟨_, h3, h4⟩ | ⟨_, h3, h4⟩ | ⟨_, h3, h4⟩ | ⟨_, h3, h4⟩ <;> rw [h4] <;> simp only [Prod.mk.injEq] <;> omega
    · show _ = (n + (sideStep 5).1, i - n + (sideStep 5).2)
      rw [s5]
      rcases hb with ⟨_, h3, h4⟩ | ⟨_, h3, h4⟩ | ⟨_, h3, h4⟩ | ⟨_, h3, h4⟩ | ⟨_, h3, h4⟩ | ⟨_, h3, h4⟩ <;> rw [h4] <;> simp only [Prod.mk.injEq] <;> omega
def ringPl (n : Int) : List (Int × Int) := if n = 0 then [(0, 0)] else (List.range (6 * n).toNat).map fun (i : Nat) => ringAt n (i : Int)
theorem ringPl_len {n : Int} (h : 0 ≤ n) : ((ringPl n).length : Int) = max 1 (6 * n) := by
  unfold ringPl
  split
  · simp only [List.length_cons, List.length_nil]; omega
  · rw [List.length_map, List.length_range]; omega
def wayL : List (Int × Int) := [(-1, 1), (-1, 0), (0, -1), (1, -1), (1, 0), (0, 1)]
theorem way_is {k : Nat} (h : k < 6) : wayL.getD k (0, 0) = sideStep k := by
  have : ∀ k, k < 6 → wayL.getD k (0, 0) = sideStep k := by decide
  exact this k h
/-! ### the dict of what was seen -/
def kvT (ps : List (Int × Int)) : List (List L2.Key × L2.V) := ps.map fun p => (keyOf p, .bl true)
theorem keyOf_inj {p q : Int × Int} (h : keyOf p = keyOf q) : p = q := by
  obtain ⟨a, b⟩ := p
  obtain ⟨c, d⟩ := q
  simpa using h
theorem valV_kvT (ps : List (Int × Int)) (q : Int × Int) : (L2.valV (kvT ps) (keyOf q)).isSome = decide (q ∈ ps) := by
  rw [← L2.valV_any]
  unfold kvT
  rw [List.any_map, Bool.eq_iff_iff, List.any_eq_true, decide_eq_true_eq]
  constructor
  · rintro ⟨p, hp, e⟩
    have e2 : keyOf p = keyOf q := of_decide_eq_true e
    rw [← keyOf_inj e2]
    exact hp
  · intro h
    exact ⟨q, h, decide_eq_true rfl⟩
theorem putK_kvT {ps : List (Int × Int)} {q : Int × Int} (h : q ∉ ps) : L2.putK (kvT ps) (keyOf q) (.bl true) = kvT (ps ++ [q]) := by
  have h2 : L2.valV (kvT ps) (keyOf q) = none := by
    have := valV_kvT ps q
    rw [decide_eq_false h] at this
    exact Option.isNone_iff_eq_none.mp (by rw [← Option.not_isSome, this]; rfl)
  rw [L2.putK_new _ h2]
  unfold kvT
  rw [List.map_append]
  rfl
end Hx

/-! # sevens and addresses: plain laws -/
namespace Hx
def nrm (p : Int × Int) : Int := p.1 * p.1 + p.1 * p.2 + p.2 * p.2
def step7 (p : Int × Int) (f : Int) : Int × Int := ((greatOf p).1 + (restPlace f).1, (greatOf p).2 + (restPlace f).2)
def placeOf (fs : List Int) : Int × Int := fs.foldl step7 (0, 0)
def Figs (fs : List Int) : Prop := ∀ f ∈ fs, 0 ≤ f ∧ f ≤ 6
def bareL (fs : List Int) : List Int := fs.dropWhile fun f => decide (f = 0)
theorem sq_nonneg (x : Int) : 0 ≤ x * x := by
  rcases Int.le_total 0 x with h | h
  · exact Int.mul_nonneg h h
  · exact Int.mul_nonneg_of_nonpos_of_nonpos h h
theorem nrm_nonneg (p : Int × Int) : 0 ≤ nrm p := by
  have h1 := sq_nonneg (2 * p.1 + p.2)
  have h2 := sq_nonneg p.2
  have e : 4 * nrm p = (2 * p.1 + p.2) * (2 * p.1 + p.2) + 3 * (p.2 * p.2) := by unfold nrm; grind
  omega
theorem sq_zero {x : Int} (h : x * x = 0) : x = 0 := by
  rcases Int.mul_eq_zero.mp h with h | h <;> exact h
theorem nrm_zero {p : Int × Int} (h : nrm p = 0) : p = (0, 0) := by
  have h1 := sq_nonneg (2 * p.1 + p.2)
  have h2 := sq_nonneg p.2
  have e : 4 * nrm p = (2 * p.1 + p.2) * (2 * p.1 + p.2) + 3 * (p.2 * p.2) := by unfold nrm; grind
  have z2 : p.2 = 0 := sq_zero (by omega)
  have z1 : 2 * p.1 + p.2 = 0 := sq_zero (by omega)
  obtain ⟨a, b⟩ := p
  simp only at z1 z2
  simp only [Prod.mk.injEq]
  omega
theorem nrm_great (p : Int × Int) : nrm (greatOf p) = 7 * nrm p := by
  unfold nrm greatOf
  grind
theorem nrm_rest {f : Int} (h0 : 0 ≤ f) (h1 : f ≤ 6) : 0 ≤ nrm (restPlace f) ∧ nrm (restPlace f) ≤ 1 := by
  obtain rfl | rfl | rfl | rfl | rfl | rfl | rfl := fig_cases h0 h1 <;> decide
theorem nrm_centre (p : Int × Int) : 7 * nrm (centreOf p) = nrm (p.1 - (restPlace (restOf p)).1, p.2 - (restPlace (restOf p)).2) := by
  rw [← great_centre, nrm_great]
theorem nrm_less {p : Int × Int} (h : p ≠ (0, 0)) : nrm (centreOf p) < nrm p := by
  have h1 := nrm_nonneg p
  have h2 : nrm p ≠ 0 := fun z => h (nrm_zero z)
  have h3 := nrm_rest (rest_range p).1 (rest_range p).2
  have h4 := nrm_centre p
  have h5 := nrm_nonneg (p.1 + (restPlace (restOf p)).1, p.2 + (restPlace (restOf p)).2)
  have e : nrm (p.1 - (restPlace (restOf p)).1, p.2 - (restPlace (restOf p)).2) + nrm (p.1 + (restPlace (restOf p)).1, p.2 + (restPlace (restOf p)).2) = 2 * nrm p + 2 * nrm (restPlace (restOf p)) := by
    unfold nrm
    grind
  omega
/-- the address -/
def lowF : Nat → Int × Int → List Int
  | 0, _ => []
  | n + 1, p => if p = (0, 0) then [] else restOf p :: lowF n (centreOf p)
def addrOf (p : Int × Int) : List Int := (lowF (nrm p).toNat p).reverse
theorem lowF_more : ∀ (n m : Nat) (p : Int × Int), (nrm p).toNat ≤ n → (nrm p).toNat ≤ m → lowF n p = lowF m p
  | 0, 0, _, _, _ => rfl
  | 0, m + 1, p, h, _ => by
    have z : p = (0, 0) := nrm_zero (by have := nrm_nonneg p; omega)
    show [] = if p = (0, 0) then [] else restOf p :: lowF m (centreOf p)
    rw [if_pos z]
  | n + 1, 0, p, _, h => by
    have z : p = (0, 0) := nrm_zero (by have := nrm_nonneg p; omega)
    show (if p = (0, 0) then [] else restOf p :: lowF n (centreOf p)) = []
    rw [if_pos z]
  | n + 1, m + 1, p, h, h2 => by
    show (if p = (0, 0) then [] else restOf p :: lowF n (centreOf p)) = if p = (0, 0) then [] else restOf p :: lowF m (centreOf p)
    by_cases z : p = (0, 0)
    · rw [if_pos z, if_pos z]
    · rw [if_neg z, if_neg z, lowF_more n m]
      · have := nrm_less z; have := nrm_nonneg (centreOf p); omega
      · have := nrm_less z; have := nrm_nonneg (centreOf p); omega
theorem addr_zero : addrOf (0, 0) = [] := rfl
theorem addr_step {p : Int × Int} (h : p ≠ (0, 0)) : addrOf p = addrOf (centreOf p) ++ [restOf p] := by
  have l := nrm_less h
  have l0 := nrm_nonneg (centreOf p)
  unfold addrOf
  rw [← List.reverse_cons]
  obtain ⟨k, hk⟩ : ∃ k, (nrm p).toNat = k + 1 := ⟨(nrm p).toNat - 1, by omega⟩
  rw [hk]
  show (if p = (0, 0) then [] else restOf p :: lowF k (centreOf p)).reverse = _
  rw [if_neg h, lowF_more k (nrm (centreOf p)).toNat _ (by omega) (Nat.le_refl _)]
theorem placeOf_snoc (fs : List Int) (f : Int) : placeOf (fs ++ [f]) = step7 (placeOf fs) f := by
  unfold placeOf
  rw [List.foldl_append]
  rfl
theorem step7_centre (p : Int × Int) : step7 (centreOf p) (restOf p) = p := by
  unfold step7
  rw [great_centre]
  obtain ⟨a, b⟩ := p
  simp only [Prod.mk.injEq]
  omega
theorem step7_back {p : Int × Int} {f : Int} (h0 : 0 ≤ f) (h1 : f ≤ 6) : restOf (step7 p f) = f ∧ centreOf (step7 p f) = p := by
  have key : restOf (step7 p f) = f := by
    obtain ⟨a, b⟩ := p
    obtain ⟨r, hr⟩ : ∃ r, r = restOf (step7 (a, b) f) := ⟨_, rfl⟩
    rw [← hr]
    have e1 : (step7 (a, b) f).1 = 2 * a - b + (restPlace f).1 := rfl
    have e2 : (step7 (a, b) f).2 = a + 3 * b + (restPlace f).2 := rfl
    obtain rfl | rfl | rfl | rfl | rfl | rfl | rfl := fig_cases h0 h1 <;> simp only [restPlace, stepOf, steps] at e1 e2 <;> simp at e1 e2 <;>
    rcases rest_cases (step7 (a, b) _) with ⟨h, e, _⟩ | ⟨h, e, _⟩ | ⟨h, e, _⟩ | ⟨h, e, _⟩ | ⟨h, e, _⟩ | ⟨h, e, _⟩ | ⟨h, e, _⟩ <;> rw [e] at hr <;> rw [e1, e2] at h <;> omega
  refine ⟨key, ?_⟩
  unfold centreOf
  rw [key]
  obtain ⟨a, b⟩ := p
  simp only [step7, greatOf, Prod.mk.injEq]
  omega
theorem step7_zero {p : Int × Int} {f : Int} (h0 : 0 ≤ f) (h1 : f ≤ 6) : step7 p f = (0, 0) ↔ p = (0, 0) ∧ f = 0 := by
  constructor
  · intro e
    obtain ⟨a, b⟩ := step7_back (p := p) h0 h1
    rw [e] at a b
    exact ⟨b.symm, a.symm⟩
  · rintro ⟨rfl, rfl⟩
    rfl
theorem figs_snoc {fs : List Int} {f : Int} (h : Figs (fs ++ [f])) : Figs fs ∧ 0 ≤ f ∧ f ≤ 6 := ⟨fun x hx => h x (List.mem_append_left _ hx), h f (by simp)⟩
theorem figs_app {fs gs : List Int} (h : Figs fs) (g : Figs gs) : Figs (fs ++ gs) := fun x hx => (List.mem_append.mp hx).elim (h x) (g x)
theorem figs_one {f : Int} (h0 : 0 ≤ f) (h1 : f ≤ 6) : Figs [f] := fun x hx => by
  rw [List.mem_singleton] at hx
  subst hx
  exact ⟨h0, h1⟩
theorem bareL_snoc (fs : List Int) (f : Int) : bareL (fs ++ [f]) = if bareL fs = [] then (if f = 0 then [] else [f]) else bareL fs ++ [f] := by
  unfold bareL
  induction fs with
  | nil => by_cases h : f = 0 <;> simp [h]
  | cons x r ih =>
    by_cases h : x = 0
    · subst h
      simpa using ih
    · simp [h]
/-- an address is without noughts ahead, and it is the only such list of its place -/
theorem addr_of : ∀ (n : Nat) (fs : List Int), fs.length = n → Figs fs → addrOf (placeOf fs) = bareL fs
  | 0, fs, h, _ => by
    rw [List.length_eq_zero_iff.mp h]
    rfl
  | n + 1, fs, h, g => by
    obtain ⟨r, f, rfl⟩ : ∃ r f, fs = r ++ [f] := ⟨fs.dropLast, fs.getLast (by intro z; rw [z] at h; cases h), (List.dropLast_concat_getLast _).symm⟩
    obtain ⟨gr, f0, f1⟩ := figs_snoc g
    have ih := addr_of n r (by rw [List.length_append] at h; simpa using h) gr
    rw [placeOf_snoc, bareL_snoc]
    by_cases z : step7 (placeOf r) f = (0, 0)
    · obtain ⟨a, b⟩ := (step7_zero f0 f1).mp z
      rw [z, addr_zero]
      rw [a, addr_zero] at ih
      rw [if_pos ih.symm, if_pos b]
    · rw [addr_step z, (step7_back f0 f1).1, (step7_back f0 f1).2, ih]
      by_cases e : bareL r = []
      · have pz : placeOf r = (0, 0) := by
          rw [e] at ih
          by_cases hz : placeOf r = (0, 0)
          · exact hz
          · rw [addr_step hz] at ih
            simp at ih
        have fz : f ≠ 0 := fun w => z ((step7_zero f0 f1).mpr ⟨pz, w⟩)
        rw [if_pos e, if_neg fz, e]
        rfl
      · rw [if_neg e]
theorem addr_place (fs : List Int) (h : Figs fs) : addrOf (placeOf fs) = bareL fs := addr_of _ fs rfl h
theorem addr_back : ∀ (n : Nat) (p : Int × Int), (nrm p).toNat ≤ n → placeOf (addrOf p) = p ∧ Figs (addrOf p)
  | 0, p, h => by
    have z : p = (0, 0) := nrm_zero (by have := nrm_nonneg p; omega)
    subst z
    exact ⟨rfl, fun x hx => by rw [addr_zero] at hx; cases hx⟩
  | n + 1, p, h => by
    by_cases z : p = (0, 0)
    · subst z
      exact ⟨rfl, fun x hx => by rw [addr_zero] at hx; cases hx⟩
    · have l := nrm_less z
      have l0 := nrm_nonneg (centreOf p)
      obtain ⟨i1, i2⟩ := addr_back n (centreOf p) (by omega)
      rw [addr_step z, placeOf_snoc, i1, step7_centre]
      exact ⟨rfl, figs_app i2 (figs_one (rest_range p).1 (rest_range p).2)⟩
theorem place_addr (p : Int × Int) : placeOf (addrOf p) = p := (addr_back _ p (Nat.le_refl _)).1
theorem figs_addr (p : Int × Int) : Figs (addrOf p) := (addr_back _ p (Nat.le_refl _)).2
theorem bare_addr (p : Int × Int) : bareL (addrOf p) = addrOf p := by
  have := addr_place (addrOf p) (figs_addr p)
  rw [place_addr] at this
  exact this.symm
theorem bareL_len (fs : List Int) : (bareL fs).length ≤ fs.length := by
  unfold bareL
  exact (List.dropWhile_sublist _).length_le
theorem place_bare (fs : List Int) : placeOf (bareL fs) = placeOf fs := by
  unfold bareL
  induction fs with
  | nil => rfl
  | cons x r ih =>
    by_cases h : x = 0
    · subst h
      have e : placeOf (0 :: r) = placeOf r := rfl
      rw [e, ← ih]
      simp
    · simp [h]
theorem figs_bare {fs : List Int} (h : Figs fs) : Figs (bareL fs) := fun x hx => h x ((List.dropWhile_sublist _).subset hx)
theorem bare_bare (fs : List Int) : bareL (bareL fs) = bareL fs := by
  unfold bareL
  induction fs with
  | nil => rfl
  | cons x r ih =>
    by_cases h : x = 0
    · subst h
      simpa using ih
    · simp [h]
theorem place_noughts (n : Nat) (fs : List Int) : placeOf (List.replicate n 0 ++ fs) = placeOf fs := by
  induction n with
  | zero => rfl
  | succ n ih =>
    rw [List.replicate_succ, List.cons_append]
    exact ih
theorem figs_noughts (n : Nat) {fs : List Int} (h : Figs fs) : Figs (List.replicate n 0 ++ fs) := figs_app (fun x hx => by
  rw [(List.mem_replicate.mp hx).2]
  omega) h
theorem figs_mod7 (cs : List Int) : Figs (cs.map (· % 7)) := fun f hf => by
  obtain ⟨c, _, rfl⟩ := List.mem_map.mp hf
  omega
theorem figs_getD {fs : List Int} (h : Figs fs) (i : Nat) : 0 ≤ fs.getD i 0 ∧ fs.getD i 0 ≤ 6 := by
  rw [List.getD_eq_getElem?_getD]
  cases e : fs[i]? with
  | none => decide
  | some f => exact h f (List.mem_of_getElem? e)
/-! ### how long an address is -/
/-- times a million: a place no further than so has an address of at most so many figures -/
def reach : Nat → Int
  | 0 => 999999
  | n + 1 => 2645751 * reach n / 1000000 - 1000000
theorem reach_pos : ∀ n, 999999 ≤ reach n
  | 0 => by decide
  | n + 1 => by
    have := reach_pos n
    show 999999 ≤ 2645751 * reach n / 1000000 - 1000000
    omega
theorem cauchy (p s : Int × Int) : (nrm (p.1 - s.1, p.2 - s.2) - nrm p - nrm s) * (nrm (p.1 - s.1, p.2 - s.2) - nrm p - nrm s) ≤ 4 * (nrm p * nrm s) := by
  have e : 4 * (nrm p * nrm s) - (nrm (p.1 - s.1, p.2 - s.2) - nrm p - nrm s) * (nrm (p.1 - s.1, p.2 - s.2) - nrm p - nrm s) = 3 * ((p.1 * s.2 - p.2 * s.1) * (p.1 * s.2 - p.2 * s.1)) := by
    unfold nrm
    grind
  have := sq_nonneg (p.1 * s.2 - p.2 * s.1)
  omega
theorem sq_le {x y : Int} (h0 : 0 ≤ x) (h : x ≤ y) : x * x ≤ y * y := Int.mul_le_mul h h h0 (by omega)
theorem reach_step {p : Int × Int} {n : Nat} (h : nrm p * 1000000000000 ≤ reach (n + 1) * reach (n + 1)) : nrm (centreOf p) * 1000000000000 ≤ reach n * reach n := by
  obtain ⟨s, hs⟩ : ∃ s, s = restPlace (restOf p) := ⟨_, rfl⟩
  have hn := nrm_rest (rest_range p).1 (rest_range p).2
  have hc := nrm_centre p
  rw [← hs] at hn hc
  have hb := cauchy p s
  obtain ⟨Y, hY⟩ : ∃ Y, Y = nrm (p.1 - s.1, p.2 - s.2) := ⟨_, rfl⟩
  obtain ⟨X, hX⟩ : ∃ X, X = nrm p := ⟨_, rfl⟩
  obtain ⟨u, hu⟩ : ∃ u, u = nrm s := ⟨_, rfl⟩
  obtain ⟨A, hA⟩ : ∃ A, A = reach (n + 1) := ⟨_, rfl⟩
  have hX0 : 0 ≤ X := by rw [hX]; exact nrm_nonneg p
  have hp := reach_pos (n + 1)
  rw [← hA] at h hp
  rw [← hY] at hc hb
  rw [← hX] at h hb
  rw [← hu] at hn hb
  have hb2 : (Y - X - u) * (Y - X - u) ≤ 4 * X := by
    have h1 : X * u ≤ X * 1 := Int.mul_le_mul_of_nonneg_left hn.2 hX0
    omega
  -- Y times 10^12 is at most (A + 10^6)^2
  have hY2 : Y * 1000000000000 ≤ (A + 1000000) * (A + 1000000) := by
    by_cases g : (Y - X - u) * 1000000 ≤ 2 * A
    · have e : (A + 1000000) * (A + 1000000) = A * A + 2000000 * A + 1000000000000 := by grind
      omega
    · have g2 : 2 * A + 1 ≤ (Y - X - u) * 1000000 := by omega
      have g3 := sq_le (show 0 ≤ 2 * A + 1 by omega) g2
      have e1 : (2 * A + 1) * (2 * A + 1) = 4 * (A * A) + 4 * A + 1 := by grind
      have e2 : (Y - X - u) * 1000000 * ((Y - X - u) * 1000000) = (Y - X - u) * (Y - X - u) * 1000000000000 := by grind
      omega
  have hl : A + 1000000 ≤ 2645751 * reach n / 1000000 := by
    rw [hA]
    show 2645751 * reach n / 1000000 - 1000000 + 1000000 ≤ _
    omega
  have hr := reach_pos n
  have hl2 : (A + 1000000) * 1000000 ≤ 2645751 * reach n := by omega
  have hl3 := sq_le (show 0 ≤ (A + 1000000) * 1000000 by omega) hl2
  have e3 : (A + 1000000) * 1000000 * ((A + 1000000) * 1000000) = (A + 1000000) * (A + 1000000) * 1000000000000 := by grind
  have e4 : 2645751 * reach n * (2645751 * reach n) = 6999998354001 * (reach n * reach n) := by grind
  have h0 := sq_nonneg (reach n)
  omega
theorem addr_short : ∀ (n : Nat) (p : Int × Int), nrm p * 1000000000000 ≤ reach n * reach n → (addrOf p).length ≤ n
  | 0, p, h => by
    have z : p = (0, 0) := nrm_zero (by
      have := nrm_nonneg p
      have e : reach 0 * reach 0 = 999998000001 := by decide
      omega)
    subst z
    exact Nat.le_refl _
  | n + 1, p, h => by
    by_cases z : p = (0, 0)
    · subst z
      exact Nat.zero_le _
    · have ih := addr_short n (centreOf p) (reach_step h)
      rw [addr_step z, List.length_append]
      show (addrOf (centreOf p)).length + 1 ≤ n + 1
      omega
/-- the drawn numbers have at most 39 figures -/
theorem numBy_range (c : Int) : -(10 ^ (39 : Int).toNat) ≤ numBy c ∧ numBy c ≤ 10 ^ (39 : Int).toNat := by
  unfold numBy
  have e : (10 : Int) ^ (39 : Int).toNat = 1000000000000000000000000000000000000000 := by decide
  rw [e]
  split <;> omega
theorem nrm_numBy (c d : Int) : nrm (numBy c, numBy d) ≤ 3000000000000000000000000000000000000000000000000000000000000000000000000000000 := by
  have e : (10 : Int) ^ (39 : Int).toNat = 1000000000000000000000000000000000000000 := by decide
  have h1 := numBy_range c
  have h2 := numBy_range d
  rw [e] at h1 h2
  obtain ⟨x, hx⟩ : ∃ x, x = numBy c := ⟨_, rfl⟩
  obtain ⟨y, hy⟩ : ∃ y, y = numBy d := ⟨_, rfl⟩
  rw [← hx] at h1 ⊢
  rw [← hy] at h2 ⊢
  have a := sq_le (x := x.natAbs) (y := 1000000000000000000000000000000000000000) (by omega) (by omega)
  have b := sq_le (x := y.natAbs) (y := 1000000000000000000000000000000000000000) (by omega) (by omega)
  have c1 : (x.natAbs : Int) * x.natAbs = x * x := Int.natAbs_mul_self
  have c2 : (y.natAbs : Int) * y.natAbs = y * y := Int.natAbs_mul_self
  have d0 := sq_nonneg (x - y)
  have e2 : (x - y) * (x - y) = x * x - 2 * (x * y) + y * y := by grind
  show x * x + x * y + y * y ≤ _
  omega
theorem addr_numBy (c d : Int) : (addrOf (numBy c, numBy d)).length ≤ 100 := by
  refine addr_short 100 _ ?_
  have h := nrm_numBy c d
  have e : (3000000000000000000000000000000000000000000000000000000000000000000000000000000 : Int) * 1000000000000 ≤ reach 100 * reach 100 := by decide +kernel
  omega
end Hx

/-! # the sum of two figures: plain laws -/
namespace Hx
def sumPl (p q : Int × Int) : Int × Int := (p.1 + q.1, p.2 + q.2)
def pairRow (a b : Int) : List Int := 0 :: 0 :: addrOf (sumPl (restPlace a) (restPlace b))
def pairSum (a b : Int) : Int × Int := ((pairRow a b).getD ((pairRow a b).length - 2) 0, (pairRow a b).getD ((pairRow a b).length - 1) 0)
theorem pair_all : ∀ a b : Fin 7, (0 ≤ (pairSum a.val b.val).1 ∧ (pairSum a.val b.val).1 ≤ 6) ∧ (0 ≤ (pairSum a.val b.val).2 ∧ (pairSum a.val b.val).2 ≤ 6) ∧ step7 (restPlace (pairSum a.val b.val).1) (pairSum a.val b.val).2 = sumPl (restPlace a.val) (restPlace b.val) ∧
    pairSum b.val a.val = pairSum a.val b.val ∧ (addrOf (sumPl (restPlace a.val) (restPlace b.val))).length ≤ 2 := by decide +kernel
theorem pair_facts {a b : Int} (a0 : 0 ≤ a) (a1 : a ≤ 6) (b0 : 0 ≤ b) (b1 : b ≤ 6) : (0 ≤ (pairSum a b).1 ∧ (pairSum a b).1 ≤ 6) ∧ (0 ≤ (pairSum a b).2 ∧ (pairSum a b).2 ≤ 6) ∧ step7 (restPlace (pairSum a b).1) (pairSum a b).2 = sumPl (restPlace a) (restPlace b) ∧
    pairSum b a = pairSum a b ∧ (addrOf (sumPl (restPlace a) (restPlace b))).length ≤ 2 := by
  have h := pair_all ⟨a.toNat, by omega⟩ ⟨b.toNat, by omega⟩
  simp only [Int.toNat_of_nonneg a0, Int.toNat_of_nonneg b0] at h
  exact h
theorem pair_zero : pairSum 0 0 = (0, 0) := by decide
theorem place_two (c l : Int) : placeOf [c, l] = step7 (restPlace c) l := by
  show step7 (step7 (0, 0) c) l = _
  have e : step7 (0, 0) c = restPlace c := by
    unfold step7 greatOf
    obtain ⟨x, y⟩ := restPlace c
    simp
  rw [e]
end Hx

/-! # addresses turned: plain laws -/
namespace Hx
def turnF (s f : Int) : Int := if f = 0 then 0 else (f - 1 + s) % 6 + 1
theorem turnN_add2 (n : Nat) (p q : Int × Int) : turnN n (sumPl p q) = sumPl (turnN n p) (turnN n q) := by
  induction n with
  | zero => rfl
  | succ n ih =>
    show turn1 (turnN n (sumPl p q)) = sumPl (turn1 (turnN n p)) (turn1 (turnN n q))
    rw [ih]
    simp only [turn1, sumPl, Prod.mk.injEq]
    omega
theorem turnN_great (n : Nat) (p : Int × Int) : turnN n (greatOf p) = greatOf (turnN n p) := by
  induction n with
  | zero => rfl
  | succ n ih =>
    show turn1 (turnN n (greatOf p)) = greatOf (turn1 (turnN n p))
    rw [ih]
    simp only [turn1, greatOf, Prod.mk.injEq]
    omega
theorem step7_sum (p : Int × Int) (f : Int) : step7 p f = sumPl (greatOf p) (restPlace f) := rfl
theorem turnF_all : ∀ f : Fin 7, ∀ s : Fin 6, restPlace (turnF s.val f.val) = turnN s.val (restPlace f.val) ∧ (0 ≤ turnF s.val f.val ∧ turnF s.val f.val ≤ 6) := by decide +kernel
theorem turnF_mod (s f : Int) : turnF s f = turnF (s % 6) f := by
  unfold turnF
  split
  · rfl
  · omega
theorem turnF_facts (s : Int) {f : Int} (h0 : 0 ≤ f) (h1 : f ≤ 6) : restPlace (turnF s f) = turnN (s % 6).toNat (restPlace f) ∧ (0 ≤ turnF s f ∧ turnF s f ≤ 6) := by
  have h := turnF_all ⟨f.toNat, by omega⟩ ⟨(s % 6).toNat, by omega⟩
  simp only [Int.toNat_of_nonneg h0, Int.toNat_of_nonneg (show 0 ≤ s % 6 by omega)] at h
  rw [turnF_mod]
  exact h
theorem figs_turned (s : Int) {fs : List Int} (h : Figs fs) : Figs (fs.map (turnF s)) := fun x hx => by
  obtain ⟨f, hf, rfl⟩ := List.mem_map.mp hx
  exact (turnF_facts s (h f hf).1 (h f hf).2).2
theorem place_turned (s : Int) : ∀ (n : Nat) (fs : List Int), fs.length = n → Figs fs → placeOf (fs.map (turnF s)) = turnN (s % 6).toNat (placeOf fs)
  | 0, fs, h, _ => by
    rw [List.length_eq_zero_iff.mp h]
    have e : ∀ k, turnN k (0, 0) = (0, 0) := fun k => by
      induction k with
      | zero => rfl
      | succ k ih =>
        show turn1 (turnN k (0, 0)) = (0, 0)
        rw [ih]
        rfl
    exact (e _).symm
  | n + 1, fs, h, g => by
    obtain ⟨r, f, rfl⟩ : ∃ r f, fs = r ++ [f] := ⟨fs.dropLast, fs.getLast (by intro z; rw [z] at h; cases h), (List.dropLast_concat_getLast _).symm⟩
    obtain ⟨gr, f0, f1⟩ := figs_snoc g
    have ih := place_turned s n r (by rw [List.length_append] at h; simpa using h) gr
    rw [List.map_append, List.map_cons, List.map_nil, placeOf_snoc, placeOf_snoc, ih, step7_sum, step7_sum, turnN_add2, turnN_great, (turnF_facts s f0 f1).1]
theorem place_great (fs : List Int) : placeOf (fs ++ [0]) = greatOf (placeOf fs) := by
  rw [placeOf_snoc, step7_sum]
  show sumPl _ (0, 0) = _
  unfold sumPl
  simp
end Hx

/-! # sums by columns: plain laws -/
namespace Hx
theorem sumPl_comm (p q : Int × Int) : sumPl p q = sumPl q p := by
  simp only [sumPl, Prod.mk.injEq]
  omega
theorem sumPl_assoc (p q r : Int × Int) : sumPl (sumPl p q) r = sumPl p (sumPl q r) := by
  simp only [sumPl, Prod.mk.injEq]
  omega
theorem sumPl_zero (p : Int × Int) : sumPl p (0, 0) = p := by
  obtain ⟨a, b⟩ := p
  simp [sumPl]
theorem zero_sumPl (p : Int × Int) : sumPl (0, 0) p = p := by
  obtain ⟨a, b⟩ := p
  simp [sumPl]
theorem great_sum (p q : Int × Int) : greatOf (sumPl p q) = sumPl (greatOf p) (greatOf q) := by
  simp only [greatOf, sumPl, Prod.mk.injEq]
  omega
theorem great_zero : greatOf (0, 0) = (0, 0) := rfl
/-- the sum of the rests of some figures -/
def sumR : List Int → Int × Int
  | [] => (0, 0)
  | f :: r => sumPl (restPlace f) (sumR r)
theorem sumR_app (fs gs : List Int) : sumR (fs ++ gs) = sumPl (sumR fs) (sumR gs) := by
  induction fs with
  | nil => exact (zero_sumPl _).symm
  | cons f r ih =>
    show sumPl (restPlace f) (sumR (r ++ gs)) = sumPl (sumPl (restPlace f) (sumR r)) (sumR gs)
    rw [ih, sumPl_assoc]
theorem sumR_one (f : Int) : sumR [f] = restPlace f := sumPl_zero _
def colStep (st : Int × List Int) (f : Int) : Int × List Int := ((pairSum st.1 f).2, if (pairSum st.1 f).1 = 0 then st.2 else st.2 ++ [(pairSum st.1 f).1])
def colOf (fs : List Int) : Int × List Int := fs.foldl colStep (0, [])
theorem colOf_snoc (fs : List Int) (f : Int) : colOf (fs ++ [f]) = colStep (colOf fs) f := by
  unfold colOf
  rw [List.foldl_append]
  rfl
theorem pair_nought : ∀ f : Fin 7, (pairSum 0 f.val).1 = 0 := by decide +kernel
theorem col_facts : ∀ (n : Nat) (fs : List Int), fs.length = n → Figs fs → (0 ≤ (colOf fs).1 ∧ (colOf fs).1 ≤ 6) ∧ Figs (colOf fs).2 ∧ sumR fs = sumPl (restPlace (colOf fs).1) (greatOf (sumR (colOf fs).2)) ∧ (colOf fs).2.length + 1 ≤ max 1 fs.length
  | 0, fs, h, _ => by
    rw [List.length_eq_zero_iff.mp h]
    exact ⟨by decide, (by intro x hx; cases hx), by decide, by decide⟩
  | n + 1, fs, h, g => by
    obtain ⟨r, f, rfl⟩ : ∃ r f, fs = r ++ [f] := ⟨fs.dropLast, fs.getLast (by intro z; rw [z] at h; cases h), (List.dropLast_concat_getLast _).symm⟩
    obtain ⟨gr, f0, f1⟩ := figs_snoc g
    have hr : r.length = n := by rw [List.length_append] at h; simpa using h
    obtain ⟨⟨l0, l1⟩, hc, hs, hn⟩ := col_facts n r hr gr
    obtain ⟨⟨c0, c1⟩, ⟨m0, m1⟩, e, _, _⟩ := pair_facts l0 l1 f0 f1
    rw [colOf_snoc]
    refine ⟨⟨m0, m1⟩, ?_, ?_, ?_⟩
    · show Figs (if _ then _ else _)
      split
      · exact hc
      · exact figs_app hc (figs_one c0 c1)
    · rw [sumR_app, sumR_one, hs]
      have e2 : sumPl (restPlace (colOf r).1) (restPlace f) = sumPl (greatOf (restPlace (pairSum (colOf r).1 f).1)) (restPlace (pairSum (colOf r).1 f).2) := by rw [← e, step7_sum]
      have e3 : sumR (colStep (colOf r) f).2 = sumPl (sumR (colOf r).2) (restPlace (pairSum (colOf r).1 f).1) := by
        show sumR (if _ then _ else _) = _
        split
        · rename_i z
          rw [z]
          exact (sumPl_zero _).symm
        · rw [sumR_app, sumR_one]
      rw [e3, great_sum]
      show _ = sumPl (restPlace (pairSum (colOf r).1 f).2) _
      generalize greatOf (sumR (colOf r).2) = G at *
      generalize greatOf (restPlace (pairSum (colOf r).1 f).1) = P at *
      generalize restPlace (pairSum (colOf r).1 f).2 = L at *
      generalize restPlace (colOf r).1 = A at *
      generalize restPlace f = B at *
      simp only [sumPl, Prod.mk.injEq] at e2 ⊢
      omega
    · show (if _ then _ else _ : List Int).length + 1 ≤ _
      rw [List.length_append]
      by_cases z : r = []
      · subst z
        have h0 := pair_nought ⟨f.toNat, by omega⟩
        simp only [Int.toNat_of_nonneg f0] at h0
        have h1 : (pairSum (colOf []).1 f).1 = 0 := h0
        rw [if_pos h1]
        exact (by decide : 0 + 1 ≤ max 1 (0 + 1))
      · have hp : 0 < r.length := List.length_pos_iff.mpr z
        split
        · show _ ≤ max 1 (r.length + 1)
          omega
        · rw [List.length_append]
          show (colOf r).2.length + 1 + 1 ≤ max 1 (r.length + 1)
          omega
/-- a row's place, its lowest figure first -/
def vLow : List Int → Int × Int
  | [] => (0, 0)
  | f :: r => step7 (vLow r) f
theorem vLow_place (l : List Int) : vLow l = placeOf l.reverse := by
  induction l with
  | nil => rfl
  | cons f r ih =>
    rw [List.reverse_cons, placeOf_snoc, ← ih]
    rfl
def sumRows : List (List Int) → Int × Int
  | [] => (0, 0)
  | r :: rs => sumPl (vLow r) (sumRows rs)
def headsAt (rows : List (List Int)) (k : Nat) : List Int := rows.filterMap fun r => r[k]?
def dropsAt (rows : List (List Int)) (k : Nat) : List (List Int) := rows.map fun r => r.drop k
theorem rows_step (rows : List (List Int)) (k : Nat) : sumRows (dropsAt rows k) = sumPl (sumR (headsAt rows k)) (greatOf (sumRows (dropsAt rows (k + 1)))) := by
  induction rows with
  | nil => rfl
  | cons r rs ih =>
    show sumPl (vLow (r.drop k)) (sumRows (dropsAt rs k)) = sumPl (sumR (List.filterMap (fun r : List Int => r[k]?) (r :: rs))) (greatOf (sumPl (vLow (r.drop (k + 1))) (sumRows (dropsAt rs (k + 1)))))
    rw [ih, great_sum]
    by_cases h : k < r.length
    · have e : List.filterMap (fun r : List Int => r[k]?) (r :: rs) = r[k] :: headsAt rs k := by rw [List.filterMap_cons, List.getElem?_eq_getElem h]; rfl
      rw [e, List.drop_eq_getElem_cons h]
      show sumPl (sumPl (greatOf (vLow (r.drop (k + 1)))) (restPlace r[k])) _ = sumPl (sumPl (restPlace r[k]) (sumR (headsAt rs k))) _
      generalize greatOf (vLow (r.drop (k + 1))) = A
      generalize restPlace r[k] = B
      generalize sumR (headsAt rs k) = C
      generalize greatOf (sumRows (dropsAt rs (k + 1))) = D
      simp only [sumPl, Prod.mk.injEq]
      omega
    · have e : List.filterMap (fun r : List Int => r[k]?) (r :: rs) = headsAt rs k := by rw [List.filterMap_cons, List.getElem?_eq_none (by omega)]; rfl
      rw [e, List.drop_eq_nil_of_le (by omega), List.drop_eq_nil_of_le (by omega)]
      show sumPl (0, 0) _ = sumPl _ (sumPl (greatOf (0, 0)) _)
      rw [great_zero, zero_sumPl, zero_sumPl]
theorem rows_end {rows : List (List Int)} {k : Nat} (h : ∀ r ∈ rows, r.length ≤ k) : sumRows (dropsAt rows k) = (0, 0) := by
  induction rows with
  | nil => rfl
  | cons r rs ih =>
    show sumPl (vLow (r.drop k)) (sumRows (dropsAt rs k)) = _
    rw [List.drop_eq_nil_of_le (h r (by simp)), ih fun x hx => h x (by simp [hx])]
    rfl
theorem drops_zero (rows : List (List Int)) : dropsAt rows 0 = rows := by
  unfold dropsAt
  simp
/-- what stands in out, and the rest above it -/
def comb : List Int → Int × Int → Int × Int
  | [], p => p
  | o :: r, p => step7 (comb r p) o
theorem comb_snoc (out : List Int) (x : Int) (p : Int × Int) : comb (out ++ [x]) p = comb out (step7 p x) := by
  induction out with
  | nil => rfl
  | cons o r ih =>
    show step7 (comb (r ++ [x]) p) o = step7 (comb r (step7 p x)) o
    rw [ih]
theorem comb_zero (out : List Int) : comb out (0, 0) = vLow out := by
  induction out with
  | nil => rfl
  | cons o r ih =>
    show step7 (comb r (0, 0)) o = step7 (vLow r) o
    rw [ih]
theorem comb_step {out carried : List Int} {rows : List (List Int)} {k : Nat} (h : Figs (carried ++ headsAt rows k)) :
    comb (out ++ [(colOf (carried ++ headsAt rows k)).1]) (sumPl (sumR (colOf (carried ++ headsAt rows k)).2) (sumRows (dropsAt rows (k + 1)))) = comb out (sumPl (sumR carried) (sumRows (dropsAt rows k))) := by
  obtain ⟨_, _, hs, _⟩ := col_facts _ _ rfl h
  rw [comb_snoc, rows_step rows k, ← sumPl_assoc, ← sumR_app, hs, step7_sum, great_sum]
  congr 1
  generalize greatOf (sumR (colOf (carried ++ headsAt rows k)).2) = A
  generalize greatOf (sumRows (dropsAt rows (k + 1))) = B
  generalize restPlace (colOf (carried ++ headsAt rows k)).1 = C
  simp only [sumPl, Prod.mk.injEq]
  omega
theorem figs_heads {rows : List (List Int)} (h : ∀ r ∈ rows, Figs r) (k : Nat) : Figs (headsAt rows k) := fun f hf => by
  obtain ⟨r, hr, e⟩ := List.mem_filterMap.mp hf
  exact h r hr f (List.mem_of_getElem? e)
theorem heads_len (rows : List (List Int)) (k : Nat) : (headsAt rows k).length ≤ rows.length := List.length_filterMap_le _ _
theorem heads_none {rows : List (List Int)} {k : Nat} (h : ∀ r ∈ rows, r.length ≤ k) : headsAt rows k = [] := by
  unfold headsAt
  rw [List.filterMap_eq_nil_iff]
  intro r hr
  exact List.getElem?_eq_none (h r hr)
theorem heads_snoc {rows : List (List Int)} {i : Nat} {r : List Int} (k : Nat) (h : rows[i]? = some r) : headsAt (rows.take (i + 1)) k = headsAt (rows.take i) k ++ (match r[k]? with | some x => [x] | none => []) := by
  unfold headsAt
  rw [take_snoc h, List.filterMap_append]
  congr 1
  rw [List.filterMap_cons]
  cases r[k]? <;> rfl
end Hx

/-! # products: plain laws -/
namespace Hx
def mulPl (p q : Int × Int) : Int × Int := (p.1 * q.1 - p.2 * q.2, p.1 * q.2 + p.2 * q.1 + p.2 * q.2)
theorem mul_add (p q r : Int × Int) : mulPl p (sumPl q r) = sumPl (mulPl p q) (mulPl p r) := by
  simp only [mulPl, sumPl, Prod.mk.injEq]
  constructor <;> grind
theorem mul_great (p q : Int × Int) : mulPl p (greatOf q) = greatOf (mulPl p q) := by
  simp only [mulPl, greatOf, Prod.mk.injEq]
  constructor <;> grind
theorem mul_comm' (p q : Int × Int) : mulPl p q = mulPl q p := by
  simp only [mulPl, Prod.mk.injEq]
  constructor <;> grind
theorem mul_zero' (p : Int × Int) : mulPl p (0, 0) = (0, 0) := by
  simp [mulPl]
theorem mul_one' (p : Int × Int) : mulPl p (1, 0) = p := by
  obtain ⟨a, b⟩ := p
  simp [mulPl]
theorem mul_turn1 (p q : Int × Int) : mulPl p (turn1 q) = turn1 (mulPl p q) := by
  simp only [mulPl, turn1, Prod.mk.injEq]
  constructor <;> grind
theorem mul_turnN (n : Nat) (p q : Int × Int) : mulPl p (turnN n q) = turnN n (mulPl p q) := by
  induction n with
  | zero => rfl
  | succ n ih =>
    show mulPl p (turn1 (turnN n q)) = turn1 (turnN n (mulPl p q))
    rw [mul_turn1, ih]
theorem rest_turn : ∀ f : Fin 6, restPlace ((f.val : Int) + 1) = turnN f.val (1, 0) := by decide
theorem mul_rest (p : Int × Int) {f : Int} (h0 : f ≠ 0) (h1 : 0 ≤ f) (h2 : f ≤ 6) : mulPl p (restPlace f) = turnN (((f - 1) % 6).toNat) p := by
  have h := rest_turn ⟨(f - 1).toNat, by omega⟩
  simp only [Int.toNat_of_nonneg (show 0 ≤ f - 1 by omega)] at h
  rw [show f - 1 + 1 = f by omega] at h
  rw [h, mul_turnN, mul_one', show (f - 1) % 6 = f - 1 by omega]
def greatN : Nat → Int × Int → Int × Int
  | 0, p => p
  | n + 1, p => greatOf (greatN n p)
theorem greatN_in (n : Nat) (p : Int × Int) : greatN n (greatOf p) = greatOf (greatN n p) := by
  induction n with
  | zero => rfl
  | succ n ih =>
    show greatOf (greatN n (greatOf p)) = greatOf (greatOf (greatN n p))
    rw [ih]
theorem mul_greatN (n : Nat) (p q : Int × Int) : mulPl p (greatN n q) = greatN n (mulPl p q) := by
  induction n with
  | zero => rfl
  | succ n ih =>
    show mulPl p (greatOf (greatN n q)) = greatOf (greatN n (mulPl p q))
    rw [mul_great, ih]
theorem greatN_zero (n : Nat) : greatN n (0, 0) = (0, 0) := by
  induction n with
  | zero => rfl
  | succ n ih =>
    show greatOf (greatN n (0, 0)) = _
    rw [ih]
    rfl
theorem vLow_snoc (l : List Int) (f : Int) : vLow (l ++ [f]) = sumPl (vLow l) (greatN l.length (restPlace f)) := by
  induction l with
  | nil =>
    show step7 (0, 0) f = sumPl (0, 0) (restPlace f)
    rw [step7_sum, great_zero]
  | cons x r ih =>
    show step7 (vLow (r ++ [f])) x = sumPl (step7 (vLow r) x) (greatOf (greatN r.length (restPlace f)))
    rw [step7_sum, step7_sum, ih, great_sum]
    generalize greatOf (vLow r) = A
    generalize greatOf (greatN r.length (restPlace f)) = B
    generalize restPlace x = C
    simp only [sumPl, Prod.mk.injEq]
    omega
theorem vLow_zeros (k : Nat) (l : List Int) : vLow (List.replicate k 0 ++ l) = greatN k (vLow l) := by
  induction k with
  | zero => rfl
  | succ k ih =>
    rw [List.replicate_succ, List.cons_append]
    show step7 (vLow (List.replicate k 0 ++ l)) 0 = greatOf (greatN k (vLow l))
    rw [step7_sum, ih]
    exact sumPl_zero _
theorem vLow_turned (s : Int) (l : List Int) (h : Figs l) : vLow (l.map (turnF s)) = turnN (s % 6).toNat (vLow l) := by
  rw [vLow_place, vLow_place, ← List.map_reverse, place_turned s _ _ rfl fun x hx => h x (List.mem_reverse.mp hx)]
theorem sumRows_snoc (rows : List (List Int)) (r : List Int) : sumRows (rows ++ [r]) = sumPl (sumRows rows) (vLow r) := by
  induction rows with
  | nil =>
    show sumPl (vLow r) (0, 0) = sumPl (0, 0) (vLow r)
    rw [sumPl_zero, zero_sumPl]
  | cons x rs ih =>
    show sumPl (vLow x) (sumRows (rs ++ [r])) = sumPl (sumPl (vLow x) (sumRows rs)) (vLow r)
    rw [ih, sumPl_assoc]
theorem prod_step {A : List Int} {l : List Int} {f : Int} (hA : Figs A) (h0 : f ≠ 0) (h1 : 0 ≤ f) (h2 : f ≤ 6) : sumPl (mulPl (vLow A) (vLow l)) (vLow (List.replicate l.length 0 ++ A.map (turnF (f - 1)))) = mulPl (vLow A) (vLow (l ++ [f])) := by
  rw [vLow_snoc, mul_add, mul_greatN, mul_rest _ h0 h1 h2, vLow_zeros, vLow_turned _ _ hA]
theorem prod_nought {A : List Int} {l : List Int} : mulPl (vLow A) (vLow (l ++ [0])) = mulPl (vLow A) (vLow l) := by
  rw [vLow_snoc]
  show mulPl _ (sumPl _ (greatN _ (0, 0))) = _
  rw [greatN_zero, sumPl_zero]
/-- how great a place of so many figures is -/
theorem place_bound : ∀ (n : Nat) (fs : List Int), fs.length = n → Figs fs → (placeOf fs).1.natAbs < 2 ^ (3 * n + 1) ∧ (placeOf fs).2.natAbs < 2 ^ (3 * n + 1)
  | 0, fs, h, _ => by
    rw [List.length_eq_zero_iff.mp h]
    decide
  | n + 1, fs, h, g => by
    obtain ⟨r, f, rfl⟩ : ∃ r f, fs = r ++ [f] := ⟨fs.dropLast, fs.getLast (by intro z; rw [z] at h; cases h), (List.dropLast_concat_getLast _).symm⟩
    obtain ⟨gr, f0, f1⟩ := figs_snoc g
    obtain ⟨i1, i2⟩ := place_bound n r (by rw [List.length_append] at h; simpa using h) gr
    have hr : (-1 ≤ (restPlace f).1 ∧ (restPlace f).1 ≤ 1) ∧ (-1 ≤ (restPlace f).2 ∧ (restPlace f).2 ≤ 1) := by
      obtain rfl | rfl | rfl | rfl | rfl | rfl | rfl := fig_cases f0 f1 <;> decide
    rw [placeOf_snoc]
    have e1 : (step7 (placeOf r) f).1 = 2 * (placeOf r).1 - (placeOf r).2 + (restPlace f).1 := rfl
    have e2 : (step7 (placeOf r) f).2 = (placeOf r).1 + 3 * (placeOf r).2 + (restPlace f).2 := rfl
    have e3 : 2 ^ (3 * (n + 1) + 1) = 8 * 2 ^ (3 * n + 1) := by
      rw [show 3 * (n + 1) + 1 = (3 * n + 1) + 3 by omega, Nat.pow_add]
      omega
    have e4 : 2 ≤ 2 ^ (3 * n + 1) := by
      rw [Nat.pow_succ]
      have := Nat.one_le_two_pow (n := 3 * n)
      omega
    rw [e1, e2, e3]
    omega
theorem place_wide {fs : List Int} (h : Figs fs) (z : fs.length ≤ 60) : (placeOf fs).1.natAbs < 2 ^ 200 ∧ (placeOf fs).2.natAbs < 2 ^ 200 := by
  obtain ⟨a, b⟩ := place_bound _ fs rfl h
  have e : 2 ^ (3 * fs.length + 1) ≤ 2 ^ 200 := Nat.pow_le_pow_right (by decide) (by omega)
  exact ⟨Nat.lt_of_lt_of_le a e, Nat.lt_of_lt_of_le b e⟩
theorem wide200 {a b : Int} (ha : a.natAbs < 2 ^ 200) (hb : b.natAbs < 2 ^ 200) : L2.CMulW a b := L2.wide_mul ha hb (by decide) (by decide) (by decide)
end Hx

/-! # errors of own classes: the facts of a class, raise, call in a try, isinstance of what is caught -/
namespace Hx
open PySem PySem.Spec PyProof.Rows L2
/-- an own class of errors over ValueError: where it stands, what it hands on -/
structure EC (K : PySem.W.Frag) (mg : Str → Option Value) (n : Str) (C : Addr) : Prop where
  g : mg n = some (.ref C)
  x : PySem.W.excIn K C [.type "ValueError", .type "Exception", .type "BaseException", .type "object"] "ValueError.__new__" = true
  k : PySem.W.keepIn K (.ref C) = true
  b : PySem.W.subIn K (.ref C) (.type "BaseException") = some true
  t : PySem.W.typeIn K (.ref C) = some (.type "type")
  e : ExcC K C
  v : PySem.W.kitOne K (.ref C) (.type "ValueError") = some true
/-- whether the class D is one of C -/
structure Rel (K : PySem.W.Frag) (D C : Addr) (b : Bool) : Prop where
  s : PySem.W.subIn K (.ref D) (.ref C) = some b
  i : PySem.W.kitOne K (.ref D) (.ref C) = some b
theorem exm_rel {K : PySem.W.Frag} {mg : Str → Option Value} {n : Str} {C D : Addr} {b : Bool} (e : EC K mg n C) (r : Rel K D C b) : PySem.W.exmOne K (.ref D) (.ref C) = some b :=
  PySem.W.exm_ref e.b e.e.hd e.t r.s
section
variable {X : Cx} {k : Nat} {x : Str} {ps : List Str} {sp : Sp} {p pos : Pos} {e : Expr} {es : List Expr} {t : TA} {W : WX}
theorem pe_fnX (R : Ref X.prog X.w X.K X.mg X.base (L2.CX X.prog X.w) k x ps sp) (hr : Room k X.A) (tk : Takes X W) (ha : PA X (e :: es) t) (hg : Gl X x := by rfl) (hdb : (x == ("__debug__" : Str)) = false := by decide)
    (he : starEach (e :: es) X.env = (false, eval e X.env) :: starEach es X.env := by rfl) (hpl : (backTo pos (starEach es X.env)).any (·.1) = false := by rfl) : PE X (.Call (.Name x p) (e :: es) [] pos) (tCallS sp (WE W) t) := by
  obtain ⟨f, fd, F, g, kp, b⟩ := R.ex
  exact pe_callS F hr hg g kp b (fun σ => passAt tk σ) ha hdb he hpl
end
/-- isinstance(e, c), e what the suite holds, of the class cls -/
def rIsX (K : PySem.W.Frag) (a : Addr) (cls : Value) (d : Option Addr) : List V → Hp → VK → Prop := fun xs H Q => ∃ D, cls = .ref D ∧ d = none ∧ ExcC K D ∧ rIsE K D a xs H Q
theorem call_isX {X : Cx} {a : Addr} {oe : Obj} {cls : Value} {d : Option Addr} {pn : List (Addr × Obj)} (hz : Zc cls d oe) (hf : ∃ vs, oe.data = .fields vs) : CallR (X.suite a ((a, oe) :: pn)) (.builtin "isinstance") (rIsX X.K a cls d) := by
  intro pins s σ H xs us Q I r h
  obtain ⟨D, rfl, rfl, C, h⟩ := h
  exact call_isE C hz hf pins s σ H xs us Q I r h
/-! ### reading -/
theorem w_callS {sp : Sp} {E : L2.St → XK} {t : TA} {σ : L2.St} {H : Hp} {Q : VK} (h : t σ H fun vs H1 => sp vs H1 Q (E σ)) : tCallS sp E t σ H Q := h
theorem r_isX {K : PySem.W.Frag} {a D C : Addr} {b : Bool} {H : Hp} {Q : VK} (e : ExcC K D) (r : Rel K D C b) (q : Q (.bl b) H) : rIsX K a (.ref D) none [.ref a, .ref C] H Q :=
  ⟨D, rfl, rfl, e, _, .ref C, b, rfl, fun _ r => r, r.i, q⟩
theorem r_isV {K : PySem.W.Frag} {a D : Addr} {mg : Str → Option Value} {n : Str} {H : Hp} {Q : VK} (e : EC K mg n D) (q : Q (.bl true) H) : rIsX K a (.ref D) none [.ref a, .ty "ValueError"] H Q :=
  ⟨D, rfl, rfl, e.e, _, .type "ValueError", true, rfl, fun _ r => r, e.v, q⟩
theorem w_as {K : PySem.W.Frag} {c cls : Value} {i : Nat} {ts : Addr → Value → Option Addr → TS} {Wout : WX} {D : Ends} {d : Option Addr} {σ : L2.St} {H : Hp} (e : PySem.W.exmOne K cls c = some true)
    (h : ∀ a, H a = none → ts a cls d { nx := fun σ' H' => D.nx (σ'.set i none) H', rt := D.rt, bk := fun σ' H' => D.bk (σ'.set i none) H', ct := fun σ' H' => D.ct (σ'.set i none) H' } (σ.set i (some (.ref a))) H) :
    wAs K c i ts Wout D cls d σ H := ⟨true, e, fun _ => h, fun z => nomatch z⟩
theorem w_only {K : PySem.W.Frag} {c cls : Value} {ts : Addr → Value → Option Addr → TS} {Wout : WX} {D : Ends} {d : Option Addr} {σ : L2.St} {H : Hp} (e : PySem.W.exmOne K cls c = some true)
    (h : ∀ a, H a = none → ts a cls d D σ H) : wOnly K c ts Wout D cls d σ H := ⟨true, e, fun _ => h, fun z => nomatch z⟩
/-! ### lists of truths -/
theorem canLay_bools : ∀ ns : List Bool, PyData.canLayAll0 (ns.map PyData.bool) = true
  | [] => rfl
  | n :: r => by
    show (true && PyData.canLayAll0 (r.map PyData.bool)) = true
    rw [canLay_bools r]
    rfl
theorem depth_bools : ∀ ns : List Bool, PyData.depthAll (ns.map PyData.bool) = 0
  | [] => rfl
  | n :: r => by
    show max 0 (PyData.depthAll (r.map PyData.bool)) = 0
    rw [depth_bools r]
    rfl
theorem shaped_bools (ns : List Bool) : SeqAt.shaped (.list (ns.map PyData.bool)) = true := by
  have h1 : PyData.canLay0 (.list (ns.map PyData.bool)) = true := by rw [PyData.canLay0]; exact canLay_bools ns
  have h2 : PyData.depth (.list (ns.map PyData.bool)) = 1 := by rw [PyData.depth, depth_bools]
  unfold SeqAt.shaped
  rw [h1, h2]
  rfl
section
variable {K : PySem.W.Frag} {H : Hp} {Q : VK}
theorem dpAll_bools : ∀ ns : List Bool, DpAll K H (ns.map V.bl) (ns.map PyData.bool)
  | [] => .nil
  | n :: r => .cons (.bl n) (dpAll_bools r)
theorem dp_bools {a : Addr} {ns : List Bool} (h : SqL K H a (ns.map V.bl)) : Dp K H (.ref a) (.list (ns.map PyData.bool)) := .lst h (dpAll_bools ns)
theorem eqv_bools : ∀ ns ms : List Bool, PyData.eqvAll (ns.map PyData.bool) (ms.map PyData.bool) = decide (ns = ms)
  | [], [] => rfl
  | [], _ :: _ => rfl
  | _ :: _, [] => rfl
  | n :: r, m :: q => by
    show ((n == m) && PyData.eqvAll (r.map PyData.bool) (q.map PyData.bool)) = _
    rw [eqv_bools r q]
    by_cases h1 : n = m <;> by_cases h2 : r = q <;> simp [h1, h2]
theorem eqv_boolL (ns ms : List Bool) : PyData.eqv (.list (ns.map PyData.bool)) (.list (ms.map PyData.bool)) = decide (ns = ms) := by
  rw [PyData.eqv]
  exact eqv_bools ns ms
theorem r_eqBL {a b : Addr} (ns ms : List Bool) (h1 : SqL K H a (ns.map V.bl)) (h2 : SqL K H b (ms.map V.bl)) (k : Q (.bl (decide (ns = ms))) H) : rEqD K (.ref a) (.ref b) H Q := ⟨_, _, dp_bools h1, dp_bools h2, shaped_bools ns, shaped_bools ms, by rw [eqv_boolL]; exact k⟩
theorem r_neBL {a b : Addr} (ns ms : List Bool) (h1 : SqL K H a (ns.map V.bl)) (h2 : SqL K H b (ms.map V.bl)) (k : Q (.bl (!decide (ns = ms))) H) : rNeD K (.ref a) (.ref b) H Q := ⟨_, _, dp_bools h1, dp_bools h2, shaped_bools ns, shaped_bools ms, by rw [eqv_boolL]; exact k⟩
end
end Hx

/-! # the spiral: plain laws -/
namespace Hx
/-- the first number of a ring -/
def ringStart (k : Int) : Int := 1 + 3 * k * (k - 1)
/-- the place of a number -/
def SpAt (m : Int) (p : Int × Int) : Prop := (m = 0 ∧ p = (0, 0)) ∨ ∃ k a, 1 ≤ k ∧ 0 ≤ a ∧ a < 6 * k ∧ m = ringStart k + a ∧ p = ringAt k a
theorem start_next (k : Int) : ringStart (k + 1) = ringStart k + 6 * k := by
  unfold ringStart
  have e1 : 3 * (k + 1) * (k + 1 - 1) = 3 * (k * k) + 3 * k := by
    rw [show k + 1 - 1 = k by omega, Int.mul_add, Int.add_mul, Int.mul_assoc]
    omega
  have e2 : 3 * k * (k - 1) = 3 * (k * k) - 3 * k := by
    rw [Int.mul_sub, Int.mul_one, Int.mul_assoc]
  omega
theorem start_mono {j k : Int} (h0 : 1 ≤ j) (h : j ≤ k) : ringStart j ≤ ringStart k := by
  obtain ⟨n, rfl⟩ : ∃ n : Nat, k = j + n := ⟨(k - j).toNat, by omega⟩
  induction n with
  | zero => exact Int.le_of_eq (by congr 1; omega)
  | succ n ih =>
    have := start_next (j + (n : Int))
    have e : j + ((n + 1 : Nat) : Int) = j + n + 1 := by omega
    rw [e, this]
    have := ih (by omega)
    omega
theorem start_one : ringStart 1 = 1 := rfl
theorem start_ge {k : Int} (h : 1 ≤ k) : k ≤ ringStart k := by
  have : ∀ n : Nat, (n : Int) + 1 ≤ ringStart ((n : Int) + 1) := fun n => by
    induction n with
    | zero => exact Int.le_refl _
    | succ n ih =>
      have := start_next ((n : Int) + 1)
      rw [show ((n + 1 : Nat) : Int) + 1 = (n : Int) + 1 + 1 by omega, this]
      omega
  have := this (k - 1).toNat
  rw [show (((k - 1).toNat : Nat) : Int) + 1 = k by omega] at this
  exact this
theorem start_pos {k : Int} (h : 1 ≤ k) : 1 ≤ ringStart k := Int.le_trans h (start_ge h)
theorem ring_of {j k m : Int} (hj : 1 ≤ j) (hk : 1 ≤ k) (j0 : ringStart j ≤ m) (j1 : m < ringStart j + 6 * j) (k0 : ringStart k ≤ m) (k1 : m < ringStart k + 6 * k) : j = k := by
  by_cases h : j < k
  · have := start_mono (j := j + 1) (k := k) (by omega) (by omega)
    rw [start_next] at this
    omega
  · by_cases h2 : k < j
    · have := start_mono (j := k + 1) (k := j) (by omega) (by omega)
      rw [start_next] at this
      omega
    · omega
theorem sp_far {m : Int} {p : Int × Int} (h : SpAt m p) : (m = 0 ∧ farOf p = 0) ∨ (1 ≤ farOf p ∧ ringStart (farOf p) ≤ m ∧ m < ringStart (farOf p) + 6 * farOf p) := by
  rcases h with ⟨rfl, rfl⟩ | ⟨k, a, hk, a0, a1, rfl, rfl⟩
  · exact .inl ⟨rfl, rfl⟩
  · rw [ring_far hk a0 a1]
    exact .inr ⟨hk, by omega, by omega⟩
theorem sp_nat {m : Int} {p : Int × Int} (h : SpAt m p) : 0 ≤ m := by
  rcases h with ⟨rfl, _⟩ | ⟨k, a, hk, a0, a1, rfl, _⟩
  · exact Int.le_refl _
  · have := start_pos hk
    omega
/-- one place a number -/
theorem sp_place {m : Int} {p q : Int × Int} (h : SpAt m p) (h2 : SpAt m q) : p = q := by
  rcases h with ⟨rfl, rfl⟩ | ⟨k, a, hk, a0, a1, rfl, rfl⟩
  · rcases h2 with ⟨_, rfl⟩ | ⟨j, b, hj, b0, b1, e, rfl⟩
    · rfl
    · have := start_pos hj
      omega
  · rcases h2 with ⟨e, rfl⟩ | ⟨j, b, hj, b0, b1, e, rfl⟩
    · have := start_pos hk
      omega
    · have ej := ring_of hj hk (m := ringStart k + a) (by omega) (by omega) (by omega) (by omega)
      subst ej
      have : a = b := by omega
      rw [this]
/-- one number a place -/
theorem sp_number {m n : Int} {p : Int × Int} (h : SpAt m p) (h2 : SpAt n p) : m = n := by
  rcases h with ⟨rfl, rfl⟩ | ⟨k, a, hk, a0, a1, rfl, e⟩
  · rcases h2 with ⟨e, _⟩ | ⟨j, b, hj, b0, b1, rfl, e⟩
    · exact e.symm
    · have := ring_far hj b0 b1
      rw [← e] at this
      have z : farOf (0, 0) = 0 := rfl
      omega
  · rcases h2 with ⟨rfl, e2⟩ | ⟨j, b, hj, b0, b1, rfl, e2⟩
    · have := ring_far hk a0 a1
      rw [← e, e2] at this
      have z : farOf (0, 0) = 0 := rfl
      omega
    · have h1 := ring_far hk a0 a1
      have h3 := ring_far hj b0 b1
      rw [← e] at h1
      rw [← e2] at h3
      have : j = k := by omega
      subst this
      rw [ring_inj hk a0 a1 b0 b1 (e.symm.trans e2)]
/-- the side's place that is at: corner and stride -/
def onSide (n : Int) (s : Nat) (al : Int) : Int × Int := ((corner n s).1 + (sideStep s).1 * al, (corner n s).2 + (sideStep s).2 * al)
theorem ring_side {n al : Int} {s : Nat} (hn : 1 ≤ n) (hs : s < 6) (h0 : 0 ≤ al) (h1 : al < n) : ringAt n (s * n + al) = onSide n s al := by
  have e1 : ((s : Int) * n + al) / n = s := by
    rw [Int.add_comm, Int.add_mul_ediv_right _ _ (by omega), Int.ediv_eq_zero_of_lt h0 h1]
    omega
  have e2 : ((s : Int) * n + al) % n = al := by
    rw [Int.add_comm, Int.add_mul_emod_self_right]
    exact Int.emod_eq_of_lt h0 h1
  unfold ringAt onSide
  rw [e1, e2]
  rfl
theorem side_max {s : Nat} (hs : s < 6) {al : Int} (h : 0 ≤ al) : max (((sideStep s).1 * al).natAbs : Int) (((sideStep s).2 * al).natAbs : Int) = al := by
  obtain ⟨s0, s1, s2, s3, s4, s5⟩ := side_is
  obtain rfl | rfl | rfl | rfl | rfl | rfl : s = 0 ∨ s = 1 ∨ s = 2 ∨ s = 3 ∨ s = 4 ∨ s = 5 := by omega
  · rw [s0]; simp only; omega
  · rw [s1]; simp only; omega
  · rw [s2]; simp only; omega
  · rw [s3]; simp only; omega
  · rw [s4]; simp only; omega
  · rw [s5]; simp only; omega
/-- each place of a ring is on a side -/
theorem side_ex {n : Int} {p : Int × Int} (hn : 1 ≤ n) (h : farOf p = n) : ∃ s al, s < 6 ∧ 0 ≤ al ∧ al < n ∧ p = onSide n s al := by
  obtain ⟨c0, c1, c2, c3, c4, c5⟩ := corner_is n
  obtain ⟨s0, s1, s2, s3, s4, s5⟩ := side_is
  obtain ⟨x, y⟩ := p
  unfold farOf at h
  simp only at h
  by_cases g0 : x + y = n ∧ 0 ≤ y ∧ 0 < x
  · refine ⟨0, y, by omega, by omega, by omega, ?_⟩
    unfold onSide; rw [c0, s0]; simp only [Prod.mk.injEq]; omega
  by_cases g1 : y = n ∧ x ≤ 0 ∧ -n < x
  · refine ⟨1, -x, by omega, by omega, by omega, ?_⟩
    unfold onSide; rw [c1, s1]; simp only [Prod.mk.injEq]; omega
  by_cases g2 : x = -n ∧ 0 < y
  · refine ⟨2, n - y, by omega, by omega, by omega, ?_⟩
    unfold onSide; rw [c2, s2]; simp only [Prod.mk.injEq]; omega
  by_cases g3 : x + y = -n ∧ x < 0
  · refine ⟨3, x + n, by omega, by omega, by omega, ?_⟩
    unfold onSide; rw [c3, s3]; simp only [Prod.mk.injEq]; omega
  by_cases g4 : y = -n ∧ x < n
  · refine ⟨4, x, by omega, by omega, by omega, ?_⟩
    unfold onSide; rw [c4, s4]; simp only [Prod.mk.injEq]; omega
  · refine ⟨5, y + n, by omega, by omega, by omega, ?_⟩
    unfold onSide; rw [c5, s5]; simp only [Prod.mk.injEq]; omega
end Hx
namespace Hx
theorem dist_far (p : Int × Int) : distOf p (0, 0) = farOf p := by
  unfold distOf farOf
  simp only [Int.sub_zero]
theorem far_nonneg (p : Int × Int) : 0 ≤ farOf p := by
  unfold farOf
  omega
theorem far_zero {p : Int × Int} (h : farOf p = 0) : p = (0, 0) := by
  obtain ⟨x, y⟩ := p
  unfold farOf at h
  simp only at h
  simp only [Prod.mk.injEq]
  omega
theorem mul3W {n : Int} (h0 : 0 ≤ n) (h : n < 2 ^ 311) : L2.CMulW (3 * n) (n - 1) :=
  L2.wide_mul (a := 313) (b := 312) (by omega) (by omega) (by decide) (by decide) (by decide)
theorem mul3W' {n : Int} (h0 : 0 ≤ n) (h : n < 2 ^ 311) : L2.CMulW (3 * n) (n + 1) :=
  L2.wide_mul (a := 313) (b := 312) (by omega) (by omega) (by decide) (by decide) (by decide)
/-- the next number's place -/
theorem sp_next {m : Int} {p q : Int × Int} (h : SpAt m p) (h2 : SpAt (m + 1) q) : farOf (q.1 - p.1, q.2 - p.2) = 1 ∨ (m = 3 * farOf p * (farOf p + 1) ∧ q = (farOf p + 1, 0)) := by
  rcases h with ⟨rfl, rfl⟩ | ⟨k, a, hk, a0, a1, rfl, rfl⟩
  · refine .inr ⟨rfl, ?_⟩
    exact sp_place h2 (.inr ⟨1, 0, by decide, by decide, by decide, rfl, (ring_first (by decide)).symm⟩)
  · by_cases hl : a + 1 = 6 * k
    · refine .inr ?_
      rw [ring_far hk a0 a1]
      refine ⟨?_, ?_⟩
      · unfold ringStart
        have e1 : 3 * k * (k + 1) = 3 * (k * k) + 3 * k := by rw [Int.mul_add, Int.mul_one, Int.mul_assoc]
        have e2 : 3 * k * (k - 1) = 3 * (k * k) - 3 * k := by rw [Int.mul_sub, Int.mul_one, Int.mul_assoc]
        omega
      · refine sp_place h2 (.inr ⟨k + 1, 0, by omega, by decide, by omega, ?_, (ring_first (by omega)).symm⟩)
        rw [start_next]
        omega
    · refine .inl ?_
      have e := sp_place h2 (.inr ⟨k, a + 1, hk, by omega, by omega, by omega, rfl⟩)
      have hn := ring_next hk a0 a1
      unfold hereAt at hn
      rw [if_neg hl] at hn
      rw [e, hn]
      obtain ⟨s0, s1, s2, s3, s4, s5⟩ := side_is
      have hd := div_bounds hk a0 a1
      have hs : farOf (sideStep (a / k).toNat) = 1 := by
        obtain h | h | h | h | h | h : (a / k).toNat = 0 ∨ (a / k).toNat = 1 ∨ (a / k).toNat = 2 ∨ (a / k).toNat = 3 ∨ (a / k).toNat = 4 ∨ (a / k).toNat = 5 := by omega
        all_goals rw [h]
        all_goals decide
      rw [show ∀ x y z w : Int, farOf (x + y - x, z + w - z) = farOf (y, w) from fun x y z w => by rw [show x + y - x = y by omega, show z + w - z = w by omega]]
      exact hs
/-- the bounds of a place's number -/
theorem sp_bounds {m : Int} {p : Int × Int} (h : SpAt m p) : (farOf p = 0 ∧ m = 0) ∨ (0 < farOf p ∧ 3 * farOf p * (farOf p - 1) < m ∧ m ≤ 3 * farOf p * (farOf p + 1)) := by
  rcases sp_far h with ⟨e, e2⟩ | ⟨e, e2, e3⟩
  · exact .inl ⟨e2, e⟩
  · refine .inr ⟨by omega, ?_, ?_⟩
    · unfold ringStart at e2
      omega
    · unfold ringStart at e3
      have e1 : 3 * farOf p * (farOf p + 1) = 3 * (farOf p * farOf p) + 3 * farOf p := by rw [Int.mul_add, Int.mul_one, Int.mul_assoc]
      have e2 : 3 * farOf p * (farOf p - 1) = 3 * (farOf p * farOf p) - 3 * farOf p := by rw [Int.mul_sub, Int.mul_one, Int.mul_assoc]
      omega
end Hx

/-! # lists of lists of ints as data; sizes -/
namespace Hx
open PySem PySem.Spec PyProof.Rows L2
def rowD (r : List Int) : PyData := .list (r.map PyData.int)
def rowsD (rs : List (List Int)) : PyData := .list (rs.map rowD)
theorem canLay_rows : ∀ rs : List (List Int), PyData.canLayAll0 (rs.map rowD) = true
  | [] => rfl
  | r :: t => by
    show (PyData.canLay0 (rowD r) && PyData.canLayAll0 (t.map rowD)) = true
    rw [canLay_rows t, Bool.and_true]
    unfold rowD
    rw [PyData.canLay0]
    exact canLay_ints r
theorem depth_rows : ∀ rs : List (List Int), PyData.depthAll (rs.map rowD) ≤ 1
  | [] => Nat.zero_le _
  | r :: t => by
    show max (PyData.depth (rowD r)) (PyData.depthAll (t.map rowD)) ≤ 1
    have h1 : PyData.depth (rowD r) = 1 := by
      unfold rowD
      rw [PyData.depth, depth_ints]
    rw [h1]
    have := depth_rows t
    omega
theorem shaped_rows (rs : List (List Int)) : SeqAt.shaped (rowsD rs) = true := by
  have h1 : PyData.canLay0 (rowsD rs) = true := by unfold rowsD; rw [PyData.canLay0]; exact canLay_rows rs
  have h2 : PyData.depth (rowsD rs) ≤ 64 := by
    unfold rowsD
    rw [PyData.depth]
    have := depth_rows rs
    omega
  unfold SeqAt.shaped
  rw [h1, decide_eq_true h2]
  rfl
section
variable {K : PySem.W.Frag} {H : Hp} {Q : VK}
theorem dpAll_rows : ∀ {ws : List V} {rs : List (List Int)}, Rws K H ws rs → DpAll K H ws (rs.map rowD)
  | _, _, .nil => .nil
  | _, _, .cons ⟨_, rfl, h⟩ t => .cons (dp_ints h) (dpAll_rows t)
theorem dp_rows {a : Addr} {ws : List V} {rs : List (List Int)} (h : SqL K H a ws) (g : Rws K H ws rs) : Dp K H (.ref a) (rowsD rs) := .lst h (dpAll_rows g)
theorem eqv_row (r q : List Int) : PyData.eqv (rowD r) (rowD q) = decide (r = q) := eqv_intL r q
theorem eqv_rows : ∀ rs qs : List (List Int), PyData.eqvAll (rs.map rowD) (qs.map rowD) = decide (rs = qs)
  | [], [] => rfl
  | [], _ :: _ => rfl
  | _ :: _, [] => rfl
  | r :: rs, q :: qs => by
    show (PyData.eqv (rowD r) (rowD q) && PyData.eqvAll (rs.map rowD) (qs.map rowD)) = _
    rw [eqv_rows rs qs, eqv_row]
    by_cases h1 : r = q <;> by_cases h2 : rs = qs <;> simp [h1, h2]
theorem eqv_rowsD (rs qs : List (List Int)) : PyData.eqv (rowsD rs) (rowsD qs) = decide (rs = qs) := by
  unfold rowsD
  rw [PyData.eqv]
  exact eqv_rows rs qs
theorem r_eqRws {a b : Addr} {ws us : List V} {rs qs : List (List Int)} (h1 : SqL K H a ws) (g1 : Rws K H ws rs) (h2 : SqL K H b us) (g2 : Rws K H us qs) (k : Q (.bl (decide (rs = qs))) H) : rEqD K (.ref a) (.ref b) H Q :=
  ⟨_, _, dp_rows h1 g1, dp_rows h2 g2, shaped_rows rs, shaped_rows qs, by rw [eqv_rowsD]; exact k⟩
theorem r_neRws {a b : Addr} {ws us : List V} {rs qs : List (List Int)} (h1 : SqL K H a ws) (g1 : Rws K H ws rs) (h2 : SqL K H b us) (g2 : Rws K H us qs) (k : Q (.bl (!decide (rs = qs))) H) : rNeD K (.ref a) (.ref b) H Q :=
  ⟨_, _, dp_rows h1 g1, dp_rows h2 g2, shaped_rows rs, shaped_rows qs, by rw [eqv_rowsD]; exact k⟩
theorem r_notInRws {a b : Addr} {ws : List V} {rs : List (List Int)} {r : List Int} (hb : SqL K H b (r.map V.int)) (h : SqL K H a ws) (g : Rws K H ws rs) (k : Q (.bl (!decide (r ∈ rs))) H) : rNotInD K (.ref b) (.ref a) H Q := by
  refine ⟨rowD r, rs.map rowD, dp_ints hb, dp_rows h g, shaped_ints r, shaped_rows rs, ?_⟩
  have e : ((rs.map rowD).any fun z => PyData.eqv z (rowD r)) = decide (r ∈ rs) := by
    rw [List.any_map, Bool.eq_iff_iff, List.any_eq_true, decide_eq_true_eq]
    constructor
    · rintro ⟨q, hq, e⟩
      have e2 : PyData.eqv (rowD q) (rowD r) = true := e
      rw [eqv_row, decide_eq_true_eq] at e2
      exact e2 ▸ hq
    · intro hr
      refine ⟨r, hr, ?_⟩
      show PyData.eqv (rowD r) (rowD r) = true
      rw [eqv_row, decide_eq_true rfl]
  rw [e]
  exact k
/-- list.insert of ints -/
def rInsert (x : V) (vs : List V) (H : Hp) (Q : VK) : Prop := ∃ (l : Addr) (xs : List V) (i : Int) (y : V), x = .ref l ∧ vs = [.int i, y] ∧ H l = some (.lst xs) ∧ xs.length < sizeLine ∧ 0 ≤ i ∧ i < 2 ^ 63 ∧ Q .non (upd H l (.lst (xs.take i.toNat ++ [y] ++ xs.drop i.toNat)))
theorem mtr_insert {X : Cx} : MtR X "list.insert" rInsert := mt_insert
theorem r_insertI {a : Addr} {ns : List Int} {i y : Int} (h : H a = some (.lst (ns.map V.int))) (z : ns.length ≤ 100000) (h0 : 0 ≤ i) (h1 : i ≤ 100000) (q : Q .non (upd H a (.lst ((ns.take i.toNat ++ [y] ++ ns.drop i.toNat).map V.int)))) : rInsert (.ref a) [.int i, .int y] H Q := by
  refine ⟨a, _, i, _, rfl, rfl, h, Nat.lt_of_le_of_lt (by rw [List.length_map]; exact z) (by decide), h0, by omega, ?_⟩
  rw [List.map_append, List.map_append, List.map_take, List.map_drop] at q
  exact q
end
end Hx

/-! # rows of ints as keys, dicts of rows, lists of rows; regions -/
namespace Hx
open PySem PySem.Spec PyProof.Rows L2
abbrev Row := List Int
def keyL (r : List Int) : List Key := r.map Sum.inl
theorem kv_keyL (r : List Int) : (keyL r).map kV = r.map V.int := by
  unfold keyL
  rw [List.map_map]
  rfl
theorem keyL_inj : ∀ {r q : List Int}, keyL r = keyL q → r = q
  | [], [], _ => rfl
  | [], _ :: _, h => by cases h
  | _ :: _, [], h => by cases h
  | x :: r, y :: q, h => by
    have h1 : (Sum.inl x : Key) = Sum.inl y := (List.cons.inj h).1
    have h2 : r = q := keyL_inj (List.cons.inj h).2
    cases h1
    rw [h2]
/-- v is the tuple of the row -/
def Tl (H : Hp) (v : V) (r : List Int) : Prop := ∃ t, v = .ref t ∧ H t = some (.tup (r.map V.int))
theorem Tl.sm {H H' : Hp} {v : V} {r : List Int} (e : Same H H') (h : Tl H v r) : Tl H' v r := by
  obtain ⟨a, rfl, h⟩ := h
  exact ⟨a, rfl, e _ _ h⟩
theorem Tl.new {H : Hp} {a : Addr} {r : List Int} : Tl (upd H a (.tup (r.map V.int))) (.ref a) r := ⟨a, rfl, upd_same⟩
theorem Tl.putr {H : Hp} {v : V} {r : List Int} {q : Addr} {ys : List V} {o : HO} (hq : H q = some (.lst ys)) (h : Tl H v r) : Tl (L2.upd H q o) v r := by
  obtain ⟨a, rfl, h⟩ := h
  exact ⟨a, rfl, upd_at (ne_of h hq (by intro z; cases z)) h⟩
theorem Tl.putd {H : Hp} {v : V} {r : List Int} {q : Addr} {ys : List (List Key × V)} {o : HO} (hq : H q = some (.dT ys)) (h : Tl H v r) : Tl (L2.upd H q o) v r := by
  obtain ⟨a, rfl, h⟩ := h
  exact ⟨a, rfl, upd_at (ne_of h hq (by intro z; cases z)) h⟩
theorem Tl.sqT {K : PySem.W.Frag} {H : Hp} {a : Addr} {r : List Int} (h : Tl H (.ref a) r) : SqT K H a (r.map V.int) := by
  obtain ⟨b, e, h⟩ := h
  cases e
  exact .inl (.inl h)
theorem Tl.pl {K : PySem.W.Frag} {H : Hp} {v : V} {x y : Int} (h : Tl H v [x, y]) : Pl K H v (x, y) := by
  obtain ⟨b, e, h⟩ := h
  exact ⟨b, e, .inl (.inl h)⟩
theorem Tp.tl {H : Hp} {v : V} {p : Int × Int} (h : Tp H v p) : Tl H v [p.1, p.2] := h
section
variable {K : PySem.W.Frag} {H : Hp} {Q : VK} {v x y : V}
theorem r_dInL {a : Addr} {kvs : List (List Key × V)} {r : List Int} (h : Rd H a (.dT kvs)) (g : Tl H v r) (q : Q (.bl (valV kvs (keyL r)).isSome) H) : rDIn false (.ref a) v H Q := by
  obtain ⟨b, rfl, g⟩ := g
  rw [← kv_keyL] at g
  exact ⟨a, _, rfl, .inr ⟨kvs, keyL r, b, h, rfl, g, rfl⟩, q⟩
theorem r_dNotInL {a : Addr} {kvs : List (List Key × V)} {r : List Int} (h : Rd H a (.dT kvs)) (g : Tl H v r) (q : Q (.bl (!(valV kvs (keyL r)).isSome)) H) : rDIn true (.ref a) v H Q := by
  obtain ⟨b, rfl, g⟩ := g
  rw [← kv_keyL] at g
  exact ⟨a, _, rfl, .inr ⟨kvs, keyL r, b, h, rfl, g, rfl⟩, q⟩
theorem r_dPutL {a : Addr} {kvs : List (List Key × V)} {r : List Int} {R : Hp → Prop} (h : H a = some (.dT kvs)) (g : Tl H v r) (z : kvs.length ≤ 100000) (q : R (upd H a (.dT (putK kvs (keyL r) x)))) : rDPut (.ref a) v x H R := by
  obtain ⟨b, rfl, g⟩ := g
  rw [← kv_keyL] at g
  exact ⟨a, _, rfl, DPut.t (k := keyL r) h g (Nat.lt_of_le_of_lt z (by decide)), q⟩
theorem r_dGetL {a : Addr} {kvs : List (List Key × V)} {r : List Int} (h : Rd H a (.dT kvs)) (g : Tl H v r) (e : valV kvs (keyL r) = some x) (q : Q x H) : rDGet (.ref a) v H Q := by
  obtain ⟨b, rfl, g⟩ := g
  rw [← kv_keyL] at g
  exact ⟨a, x, rfl, .inr ⟨kvs, keyL r, b, h, rfl, g, e.symm⟩, q⟩
end
/-! ### a dict of rows, all True -/
def kvR (ks : List Row) : List (List Key × V) := ks.map fun k => (keyL k, .bl true)
theorem valV_kvR (ks : List Row) (r : Row) : valV (kvR ks) (keyL r) = if r ∈ ks then some (.bl true) else none := by
  induction ks with
  | nil => rfl
  | cons k t ih =>
    by_cases e : k = r
    · subst e
      rw [if_pos List.mem_cons_self]
      exact valV_pos (p := (keyL k, V.bl true)) rfl
    · have e2 : ¬ (keyL k, V.bl true).1 = keyL r := fun z => e (keyL_inj z)
      have e3 : valV (kvR (k :: t)) (keyL r) = valV (kvR t) (keyL r) := valV_neg (p := (keyL k, V.bl true)) e2
      rw [e3, ih]
      by_cases h : r ∈ t
      · rw [if_pos h, if_pos (List.mem_cons_of_mem _ h)]
      · rw [if_neg h, if_neg (fun z => (List.mem_cons.mp z).elim (fun z => e z.symm) h)]
theorem kvR_isSome (ks : List Row) (r : Row) : (valV (kvR ks) (keyL r)).isSome = decide (r ∈ ks) := by
  rw [valV_kvR]
  by_cases h : r ∈ ks
  · rw [if_pos h, decide_eq_true h]; rfl
  · rw [if_neg h, decide_eq_false h]; rfl
def insK (ks : List Row) (r : Row) : List Row := if r ∈ ks then ks else ks ++ [r]
theorem putK_kvR (ks : List Row) (r : Row) : putK (kvR ks) (keyL r) (.bl true) = kvR (insK ks r) := by
  unfold insK
  by_cases h : r ∈ ks
  · rw [if_pos h]
    have ha : ((kvR ks).any fun kv => decide (kv.1 = keyL r)) = true := by
      rw [valV_any, kvR_isSome, decide_eq_true h]
    unfold putK
    rw [if_pos ha]
    unfold kvR
    rw [List.map_map]
    refine List.map_congr_left fun k _ => ?_
    show (if keyL k = keyL r then (keyL k, V.bl true) else (keyL k, V.bl true)) = _
    split <;> rfl
  · rw [if_neg h, putK_new _ (by rw [valV_kvR, if_neg h])]
    unfold kvR
    rw [List.map_append]
    rfl
theorem insK_mem {ks : List Row} {r x : Row} : x ∈ insK ks r ↔ x ∈ ks ∨ x = r := by
  unfold insK
  by_cases h : r ∈ ks
  · rw [if_pos h]
    exact ⟨.inl, fun z => z.elim id (fun e => e ▸ h)⟩
  · rw [if_neg h, List.mem_append, List.mem_singleton]
theorem insK_nd {ks : List Row} {r : Row} (h : ks.Nodup) : (insK ks r).Nodup := by
  unfold insK
  split
  · exact h
  · rename_i hn
    rw [List.nodup_append]
    refine ⟨h, by simp, fun a ha b hb => ?_⟩
    rw [List.mem_singleton] at hb
    subst hb
    intro e
    subst e
    exact hn ha
theorem insK_len (ks : List Row) (r : Row) : (insK ks r).length ≤ ks.length + 1 := by
  unfold insK
  split
  · omega
  · rw [List.length_append]; exact Nat.le_refl _
def insAll (ks : List Row) (rs : List Row) : List Row := rs.foldl insK ks
theorem insAll_snoc (ks rs : List Row) (r : Row) : insAll ks (rs ++ [r]) = insK (insAll ks rs) r := by
  unfold insAll
  rw [List.foldl_append]
  rfl
theorem insAll_app (ks rs qs : List Row) : insAll ks (rs ++ qs) = insAll (insAll ks rs) qs := List.foldl_append
theorem insAll_mem : ∀ {rs ks : List Row} {x : Row}, x ∈ insAll ks rs ↔ x ∈ ks ∨ x ∈ rs
  | [], _, _ => ⟨.inl, fun z => z.elim id (fun z => by cases z)⟩
  | r :: rs, ks, x => by
    show x ∈ insAll (insK ks r) rs ↔ _
    rw [insAll_mem, insK_mem, List.mem_cons, or_assoc]
theorem insAll_nd : ∀ {rs ks : List Row}, ks.Nodup → (insAll ks rs).Nodup
  | [], _, h => h
  | r :: rs, ks, h => insAll_nd (rs := rs) (ks := insK ks r) (insK_nd h)
theorem insAll_len : ∀ (rs ks : List Row), (insAll ks rs).length ≤ ks.length + rs.length
  | [], _ => Nat.le_refl _
  | r :: rs, ks => by
    have h1 := insAll_len rs (insK ks r)
    have h2 := insK_len ks r
    show (insAll (insK ks r) rs).length ≤ ks.length + (rs.length + 1)
    omega
theorem kvR_len (ks : List Row) : (kvR ks).length = ks.length := List.length_map _
/-! ### lists of tracked rows -/
abbrev Rwt (H : Hp) : List V → List Row → Prop := Paired fun v r => ∃ a, v = .ref a ∧ H a = some (.lst (r.map V.int))
theorem Rwt.sm {H H' : Hp} {vs : List V} {rs : List Row} (e : Same H H') (h : Rwt H vs rs) : Rwt H' vs rs := pr_mono (fun _ _ ⟨a, e1, h⟩ => ⟨a, e1, e _ _ h⟩) h
theorem Rwt.rws {K : PySem.W.Frag} {H : Hp} {vs : List V} {rs : List Row} (h : Rwt H vs rs) : Rws K H vs rs := pr_mono (fun _ _ ⟨a, e1, h⟩ => ⟨a, e1, SqL.of h⟩) h
theorem Rwt.put {H : Hp} {vs : List V} {rs : List Row} {p : Addr} {o : HO} (h : Rwt H vs rs) (hp : ∀ a, V.ref a ∈ vs → a ≠ p) : Rwt (upd H p o) vs rs := by
  induction h with
  | nil => exact .nil
  | cons h t ih =>
    obtain ⟨a, rfl, h⟩ := h
    exact .cons ⟨a, rfl, upd_at (hp a List.mem_cons_self) h⟩ (ih fun b hb => hp b (List.mem_cons_of_mem _ hb))
theorem Rwt.ne {H : Hp} {vs : List V} {rs : List Row} {p : Addr} (h : Rwt H vs rs) (hp : H p = none) : ∀ a, V.ref a ∈ vs → a ≠ p := by
  induction h with
  | nil => intro a ha; cases ha
  | cons h t ih =>
    obtain ⟨b, rfl, h⟩ := h
    intro a ha
    rcases List.mem_cons.mp ha with e | e
    · cases e
      exact ne_of_none h hp
    · exact ih a e
abbrev Tls (H : Hp) : List V → List Row → Prop := Paired fun v r => Tl H v r
theorem Tls.sm {H H' : Hp} {vs : List V} {rs : List Row} (e : Same H H') (h : Tls H vs rs) : Tls H' vs rs := pr_mono (fun _ _ h => Tl.sm e h) h
theorem Tls.putr {H : Hp} {vs : List V} {rs : List Row} {q : Addr} {ys : List V} {o : HO} (hq : H q = some (.lst ys)) (h : Tls H vs rs) : Tls (L2.upd H q o) vs rs := pr_mono (fun _ _ h => Tl.putr hq h) h
theorem Tls.putd {H : Hp} {vs : List V} {rs : List Row} {q : Addr} {ys : List (List Key × V)} {o : HO} (hq : H q = some (.dT ys)) (h : Tls H vs rs) : Tls (L2.upd H q o) vs rs := pr_mono (fun _ _ h => Tl.putd hq h) h
/-! ### the lines of a beginning -/
def figs7 : List Int := [0, 1, 2, 3, 4, 5, 6]
def grow (rs : List Row) : List Row := rs.flatMap fun r => figs7.map fun f => r ++ [f]
def growN : Nat → List Row → List Row
  | 0, rs => rs
  | n + 1, rs => grow (growN n rs)
/-- the lines of a level that begin so -/
def linesFrom (b : Row) (lv : Int) : List Row := growN (lv - b.length).toNat [b]
theorem grow_len (rs : List Row) : (grow rs).length = 7 * rs.length := by
  unfold grow
  induction rs with
  | nil => rfl
  | cons r t ih =>
    rw [List.flatMap_cons, List.length_append, ih, List.length_map, List.length_cons]
    show 7 + _ = _
    omega
theorem growN_len : ∀ (n : Nat) (rs : List Row), (growN n rs).length = 7 ^ n * rs.length
  | 0, rs => by show rs.length = _; rw [Nat.pow_zero, Nat.one_mul]
  | n + 1, rs => by
    show (grow (growN n rs)).length = _
    rw [grow_len, growN_len n rs, Nat.pow_succ, ← Nat.mul_assoc, Nat.mul_comm 7]
theorem mem_grow {rs : List Row} {x : Row} : x ∈ grow rs ↔ ∃ r ∈ rs, ∃ f, 0 ≤ f ∧ f ≤ 6 ∧ x = r ++ [f] := by
  unfold grow
  rw [List.mem_flatMap]
  constructor
  · rintro ⟨r, hr, hx⟩
    obtain ⟨f, hf, rfl⟩ := List.mem_map.mp hx
    refine ⟨r, hr, f, ?_, ?_, rfl⟩ <;> · unfold figs7 at hf; simp at hf; omega
  · rintro ⟨r, hr, f, h0, h1, rfl⟩
    refine ⟨r, hr, List.mem_map.mpr ⟨f, ?_, rfl⟩⟩
    unfold figs7
    simp
    omega
theorem mem_growN : ∀ {n : Nat} {rs : List Row} {x : Row}, x ∈ growN n rs ↔ ∃ r ∈ rs, ∃ e : Row, Figs e ∧ e.length = n ∧ x = r ++ e
  | 0, rs, x => by
    constructor
    · intro h
      exact ⟨x, h, [], (by intro y hy; cases hy), rfl, (List.append_nil x).symm⟩
    · rintro ⟨r, hr, e, _, he, rfl⟩
      rw [List.eq_nil_of_length_eq_zero he, List.append_nil]
      exact hr
  | n + 1, rs, x => by
    show x ∈ grow (growN n rs) ↔ _
    rw [mem_grow]
    constructor
    · rintro ⟨y, hy, f, h0, h1, rfl⟩
      obtain ⟨r, hr, e, he, hn, rfl⟩ := mem_growN.mp hy
      exact ⟨r, hr, e ++ [f], figs_app he (figs_one h0 h1), by rw [List.length_append, hn]; rfl, List.append_assoc _ _ _⟩
    · rintro ⟨r, hr, e, he, hn, rfl⟩
      obtain ⟨e', f, rfl⟩ : ∃ e' f, e = e' ++ [f] := by
        cases h : e.reverse with
        | nil =>
          rw [List.reverse_eq_nil_iff] at h
          subst h
          cases hn
        | cons f t => exact ⟨t.reverse, f, by rw [← List.reverse_reverse e, h, List.reverse_cons]⟩
      have hf := he f (List.mem_append_right _ List.mem_cons_self)
      refine ⟨r ++ e', mem_growN.mpr ⟨r, hr, e', fun y hy => he y (List.mem_append_left _ hy), ?_, rfl⟩, f, hf.1, hf.2, (List.append_assoc _ _ _).symm⟩
      rw [List.length_append] at hn
      simpa using hn
/-- what the lines of a beginning are -/
theorem mem_lines {b x : Row} {lv : Int} (h : (b.length : Int) ≤ lv) : x ∈ linesFrom b lv ↔ ∃ e : Row, Figs e ∧ x = b ++ e ∧ (x.length : Int) = lv := by
  unfold linesFrom
  rw [mem_growN]
  constructor
  · rintro ⟨r, hr, e, he, hn, rfl⟩
    rw [List.mem_singleton] at hr
    subst hr
    exact ⟨e, he, rfl, by rw [List.length_append]; omega⟩
  · rintro ⟨e, he, rfl, hl⟩
    rw [List.length_append] at hl
    exact ⟨b, List.mem_singleton.mpr rfl, e, he, by omega, rfl⟩
/-- all lines of some beginnings, in the order in which they come, each once -/
def linesOf (rows : List Row) (lv : Int) : List Row := insAll [] (rows.flatMap fun b => linesFrom b lv)
theorem linesOf_nd (rows : List Row) (lv : Int) : (linesOf rows lv).Nodup := insAll_nd List.nodup_nil
theorem mem_linesOf {rows : List Row} {lv : Int} {x : Row} : x ∈ linesOf rows lv ↔ ∃ b ∈ rows, x ∈ linesFrom b lv := by
  unfold linesOf
  rw [insAll_mem, List.mem_flatMap]
  exact ⟨fun z => z.elim (fun z => by cases z) id, .inr⟩
theorem linesFrom_len {b : Row} {lv : Int} (h : lv ≤ 4) : (linesFrom b lv).length ≤ 2401 := by
  unfold linesFrom
  rw [growN_len]
  have : 7 ^ (lv - b.length).toNat ≤ 7 ^ 4 := Nat.pow_le_pow_right (by decide) (by omega)
  simp only [List.length_cons, List.length_nil]
  omega
/-! ### a region -/
/-- what the class is -/
structure RegC (K : PySem.W.Frag) (mg : Str → Option Value) (C : Addr) : Prop where
  cl : Cls K C
  nL : NoAttr K C "level"
  nN : NoAttr K C "lines"
  mg : mg "Region" = some (.ref C)
theorem str_ll : ¬ (("level" : Str) = "lines") := by decide +kernel
/-- its attributes -/
def rflds (lv : Int) (d : Addr) : List (Str × V) := putF "lines" (.ref d) (putF "level" (.int lv) [])
theorem rflds_level (lv : Int) (d : Addr) : (rflds lv d).lookup ("level" : Str) = some (.int lv) := by
  unfold rflds
  rw [lookup_putF, if_neg str_ll, lookup_putF, if_pos rfl]
theorem rflds_lines (lv : Int) (d : Addr) : (rflds lv d).lookup ("lines" : Str) = some (.ref d) := by
  unfold rflds
  rw [lookup_putF, if_pos rfl]
theorem rflds_no (lv : Int) (d : Addr) {m : Str} (h1 : ¬ m = "lines") (h2 : ¬ m = "level") : (rflds lv d).lookup m = none := by
  unfold rflds
  rw [lookup_putF, if_neg h1, lookup_putF, if_neg h2]
  rfl
/-- a region of a level with the lines ks stands at p, its dict at d -/
structure RegAt (C : Addr) (H : Hp) (p d : Addr) (lv : Int) (ks : List Row) : Prop where
  ob : ∃ dx, H p = some (.ins C dx (rflds lv d))
  dc : H d = some (.dT (kvR ks))
theorem RegAt.sm {C : Addr} {H H' : Hp} {p d : Addr} {lv : Int} {ks : List Row} (e : Same H H') (h : RegAt C H p d lv ks) : RegAt C H' p d lv ks := by
  obtain ⟨⟨dx, h1⟩, h2⟩ := h
  exact ⟨⟨dx, e _ _ h1⟩, e _ _ h2⟩
/-- the constructor, a method, as a caller wants them -/
structure RefM (P : Program) (w : World) (K : PySem.W.Frag) (mg : Str → Option Value) (base : Heap) (CX : CXT) (k : Nat) (x : Str) (C : Addr) (ps : List Str) (sp : Sp) : Prop where
  ex : ∃ (f : Addr) (fd : FuncData), FnOk P w K mg base CX k f fd ps sp ∧ Mk K C f ∧ mg x = some (.ref C) ∧ Binds K fd ps []
structure RefT (P : Program) (w : World) (K : PySem.W.Frag) (mg : Str → Option Value) (base : Heap) (CX : CXT) (k : Nat) (m : Str) (C : Addr) (ps : List Str) (sp : Sp) : Prop where
  ex : ∃ (f : Addr) (fd : FuncData), FnOk P w K mg base CX k f fd ps sp ∧ Cls K C ∧ Meth K C m f ∧ Binds K fd ps []
/-- a method's text -/
structure FnM (K : PySem.W.Frag) (C : Addr) (m qual : Str) (st : Stmt) (ps : List Str) : Prop where
  ex : ∃ (f : Addr) (fd : FuncData), Fun K m qual st f fd ∧ Cls K C ∧ Meth K C m f ∧ Binds K fd ps []
structure FnI (K : PySem.W.Frag) (mg : Str → Option Value) (C : Addr) (x m qual : Str) (st : Stmt) (ps : List Str) : Prop where
  ex : ∃ (f : Addr) (fd : FuncData), Fun K m qual st f fd ∧ Mk K C f ∧ mg x = some (.ref C) ∧ Binds K fd ps []
section
variable {P : Program} {w : World} {K : PySem.W.Frag} {mg : Str → Option Value} {base : Heap} {C : Addr}
theorem FnM.ok {x qual : Str} {st : Stmt} {N ps : List Str} {k : Nat} {sp : Sp} (F : FnM K C x qual st ps) (S : FnScope N ps (defScope st)) (len : ∀ vs H Q E, sp vs H Q E → vs.length = ps.length)
    (hbody : ∀ (f : Addr) (cdv : Value) (A : Around) (outer : List Env) (s : Shared) (H : Hp) (vs : List V) (Q : VK) (E : XK), Room k (A.deeper (envOfC qual (defScope st) s.heap.objs.size f cdv)) → sp vs H Q E →
      ∃ t, PSs (cxOf CX0 P w K mg base N qual (defScope st) f cdv A outer s H E).nox (defBody st) t ∧ t { nx := fun _ H' => Q .non H', rt := Q } (start N vs) H) : RefT P w K mg base CX0 (k + 1) x C ps sp := by
  obtain ⟨f, fd, F, g, m, b⟩ := F.ex
  exact ⟨f, fd, F.ok S len (hbody f), g, m, b⟩
theorem FnI.ok {x m qual : Str} {st : Stmt} {N ps : List Str} {k : Nat} {sp : Sp} (F : FnI K mg C x m qual st ps) (S : FnScope N ps (defScope st)) (len : ∀ vs H Q E, sp vs H Q E → vs.length = ps.length)
    (hbody : ∀ (f : Addr) (cdv : Value) (A : Around) (outer : List Env) (s : Shared) (H : Hp) (vs : List V) (Q : VK) (E : XK), Room k (A.deeper (envOfC qual (defScope st) s.heap.objs.size f cdv)) → sp vs H Q E →
      ∃ t, PSs (cxOf CX0 P w K mg base N qual (defScope st) f cdv A outer s H E).nox (defBody st) t ∧ t { nx := fun _ H' => Q .non H', rt := Q } (start N vs) H) : RefM P w K mg base CX0 (k + 1) x C ps sp := by
  obtain ⟨f, fd, F, g, m, b⟩ := F.ex
  exact ⟨f, fd, F.ok S len (hbody f), g, m, b⟩
theorem FnI.okX {x m qual : Str} {st : Stmt} {N ps : List Str} {k : Nat} {sp : Sp} (F : FnI K mg C x m qual st ps) (S : FnScope N ps (defScope st)) (len : ∀ vs H Q E, sp vs H Q E → vs.length = ps.length)
    (hbody : ∀ (f : Addr) (cdv : Value) (A : Around) (outer : List Env) (s : Shared) (H : Hp) (vs : List V) (Q : VK) (E : XK), Room k (A.deeper (envOfC qual (defScope st) s.heap.objs.size f cdv)) → sp vs H Q E →
      ∃ t, PSs (cxOf (L2.CX P w) P w K mg base N qual (defScope st) f cdv A outer s H E) (defBody st) t ∧ t { nx := fun _ H' => Q .non H', rt := Q } (start N vs) H) : RefM P w K mg base (L2.CX P w) (k + 1) x C ps sp := by
  obtain ⟨f, fd, F, g, m, b⟩ := F.ex
  exact ⟨f, fd, F.okX S len (hbody f), g, m, b⟩
end
section
variable {X : Cx} {k : Nat} {x : Str} {C : Addr} {ps : List Str} {sp : Sp} {p pos apos : Pos} {e o : Expr} {es : List Expr} {t : TA} {ta : TE} {m : Str}
theorem pe_mk (R : RefM X.prog X.w X.K X.mg X.base CX0 k x C ps sp) (hr : Room (k + 1) X.A) (ha : PA X (e :: es) t) (hg : Gl X x := by rfl) (hdb : (x == ("__debug__" : Str)) = false := by decide)
    (he : starEach (e :: es) X.env = (false, eval e X.env) :: starEach es X.env := by rfl) (hpl : (backTo pos (starEach es X.env)).any (·.1) = false := by rfl) : PE X (.Call (.Name x p) (e :: es) [] pos) (tMake C sp [] E0 t) := by
  obtain ⟨f, fd, F, M, g, b⟩ := R.ex
  exact pe_make M F hr hg g b .nil pass0 ha hdb he hpl
end
/-! ### reading -/
section
variable {K : PySem.W.Frag} {H : Hp} {Q : VK} {σ : L2.St} {D : Ends}
def rFld (K : PySem.W.Frag) (f : Str) (x : V) (H : Hp) (Q : VK) : Prop := ∃ a C dx fs v, x = .ref a ∧ H a = some (.ins C dx fs) ∧ Cls K C ∧ NoAttr K C f ∧ fs.lookup f = some v ∧ Q v H
theorem w_fldR {te : TE} {f : Str} (h : te σ H fun x H1 => rFld K f x H1 Q) : tFld K te f σ H Q := h
theorem r_level {C p d : Addr} {lv : Int} {ks : List Row} {mg : Str → Option Value} (h : RegAt C H p d lv ks) (rc : RegC K mg C) (q : Q (.int lv) H) : rFld K "level" (.ref p) H Q := by
  obtain ⟨⟨dx, h1⟩, _⟩ := h
  exact ⟨p, C, dx, _, _, rfl, h1, rc.cl, rc.nL, rflds_level lv d, q⟩
theorem r_lines {C p d : Addr} {lv : Int} {ks : List Row} {mg : Str → Option Value} (h : RegAt C H p d lv ks) (rc : RegC K mg C) (q : Q (.ref d) H) : rFld K "lines" (.ref p) H Q := by
  obtain ⟨⟨dx, h1⟩, _⟩ := h
  exact ⟨p, C, dx, _, _, rfl, h1, rc.cl, rc.nN, rflds_lines lv d, q⟩
def rSFld (K : PySem.W.Frag) (f : Str) (y x : V) (H : Hp) (R : Hp → Prop) : Prop := ∃ a C dx fs, x = .ref a ∧ H a = some (.ins C dx fs) ∧ Cls K C ∧ NoAttr K C f ∧ fs.length < 1000 ∧ R (upd H a (.ins C dx (putF f y fs)))
theorem w_sfld {ta tv : TE} {f : Str} (h : tv σ H fun y H1 => ta σ H1 fun x H2 => rSFld K f y x H2 fun H3 => D.nx σ H3) : sFld K ta tv f D σ H := h
theorem r_slevel {C p dx : Addr} {lv : Int} {mg : Str → Option Value} {R : Hp → Prop} (h : H p = some (.ins C dx [])) (rc : RegC K mg C) (q : R (upd H p (.ins C dx (putF "level" (.int lv) [])))) : rSFld K "level" (.int lv) (.ref p) H R :=
  ⟨p, C, dx, _, rfl, h, rc.cl, rc.nL, by show 0 < 1000; decide, q⟩
theorem r_slines {C p dx d : Addr} {lv : Int} {mg : Str → Option Value} {R : Hp → Prop} (h : H p = some (.ins C dx (putF "level" (.int lv) []))) (rc : RegC K mg C) (q : R (upd H p (.ins C dx (rflds lv d)))) : rSFld K "lines" (.ref d) (.ref p) H R :=
  ⟨p, C, dx, _, rfl, h, rc.cl, rc.nN, by show 1 < 1000; decide, q⟩
def rMeth (C : Addr) (m : Str) (H : Hp) (x : V) (R : Prop) : Prop := ∃ a dx fs, x = .ref a ∧ H a = some (.ins C dx fs) ∧ fs.lookup m = none ∧ R
theorem w_meth {C : Addr} {m : Str} {sp : Sp} {E : XK} {ta : TE} {t : TA} (h : ta σ H fun x H1 => rMeth C m H1 x (t σ H1 fun vs H2 => sp (x :: vs) H2 Q E)) : tMeth C m sp [] E ta t σ H Q := by
  show ta σ H fun x H1 => rMeth C m H1 x (t σ H1 fun vs H2 => sp (x :: (vs ++ [])) H2 Q E)
  simp only [List.append_nil]
  exact h
theorem r_meth {C p dx : Addr} {m : Str} {fs : List (Str × V)} {R : Prop} (h : H p = some (.ins C dx fs)) (n : fs.lookup m = none) (q : R) : rMeth C m H (.ref p) R := ⟨p, dx, fs, rfl, h, n, q⟩
theorem r_methR {C p d : Addr} {m : Str} {lv : Int} {ks : List Row} {R : Prop} (h : RegAt C H p d lv ks) (h1 : ¬ m = "lines") (h2 : ¬ m = "level") (q : R) : rMeth C m H (.ref p) R := by
  obtain ⟨⟨dx, ho⟩, _⟩ := h
  exact r_meth ho (rflds_no lv d h1 h2) q
def rMake (C : Addr) (sp : Sp) (E : XK) (vs : List V) (H : Hp) (Q : VK) : Prop := ∀ x dx, H x = none → H dx = none → dx ≠ x → sp (.ref x :: vs) (upd (upd H dx (.own x)) x (.ins C dx [])) (fun v H2 => v = .non ∧ Q (.ref x) H2) E
theorem w_make {C : Addr} {sp : Sp} {E : XK} {t : TA} (h : t σ H fun vs H1 => rMake C sp E vs H1 Q) : tMake C sp [] E t σ H Q := by
  show t σ H fun vs H1 => ∀ x dx, H1 x = none → H1 dx = none → dx ≠ x → sp (.ref x :: (vs ++ [])) (upd (upd H1 dx (.own x)) x (.ins C dx [])) (fun v H2 => v = .non ∧ Q (.ref x) H2) E
  simp only [List.append_nil]
  exact h
end
end Hx
namespace Hx
open PySem PySem.Spec PyProof.Rows L2
/-! ### rows that are not the list in which they stand -/
def RwtX (f : Addr) (H : Hp) : List V → List Row → Prop := Paired fun v r => ∃ a, v = .ref a ∧ a ≠ f ∧ H a = some (.lst (r.map V.int))
theorem RwtX.sm {f : Addr} {H H' : Hp} {vs : List V} {rs : List Row} (e : Same H H') (h : RwtX f H vs rs) : RwtX f H' vs rs := pr_mono (fun _ _ ⟨a, e1, n, h⟩ => ⟨a, e1, n, e _ _ h⟩) h
theorem RwtX.put {f : Addr} {H : Hp} {vs : List V} {rs : List Row} {o : HO} (h : RwtX f H vs rs) : RwtX f (upd H f o) vs rs := pr_mono (fun _ _ ⟨a, e1, n, h⟩ => ⟨a, e1, n, upd_at n h⟩) h
theorem RwtX.rwt {f : Addr} {H : Hp} {vs : List V} {rs : List Row} (h : RwtX f H vs rs) : Rwt H vs rs := pr_mono (fun _ _ ⟨a, e1, _, h⟩ => ⟨a, e1, h⟩) h
def TlsX (f : Addr) (H : Hp) : List V → List Row → Prop := Paired fun v r => Tl H v r
/-- everything but p stays -/
def But (p : Addr) (H H' : Hp) : Prop := ∀ b o, H b = some o → b ≠ p → H' b = some o
theorem But.refl {p : Addr} {H : Hp} : But p H H := fun _ _ h _ => h
theorem But.sm {p : Addr} {H H1 H2 : Hp} (h : But p H H1) (s : Same H1 H2) : But p H H2 := fun b o e n => s _ _ (h b o e n)
theorem But.put {p : Addr} {H H1 : Hp} {o : HO} (h : But p H H1) : But p H (upd H1 p o) := fun b u e n => upd_at n (h b u e n)
theorem But.mut {p q : Addr} {H H1 : Hp} {o : HO} (h : But p H H1) (n : H q = none) : But p H (upd H1 q o) := fun b u e k => upd_at (ne_of_none e n) (h b u e k)
theorem Same.but {p : Addr} {H H1 : Hp} (h : Same H H1) : But p H H1 := fun b u e _ => h b u e
theorem But.seqI {K : PySem.W.Frag} {p a C dx : Addr} {fs : List (Str × V)} {H H1 : Hp} {xs : List V} (h : But p H H1) (hp : H p = some (.ins C dx fs)) (g : SqL K H a xs) : SqL K H1 a xs := by
  rcases g with (g | ⟨o, g⟩) | g
  · exact .inl (.inl (h _ _ g (ne_of g hp (by intro z; cases z))))
  · exact .inl (.inr ⟨o, h _ _ g (ne_of g hp (by intro z; cases z))⟩)
  · exact .inr g
theorem But.seqD {K : PySem.W.Frag} {p a : Addr} {kvs : List (List Key × V)} {H H1 : Hp} {xs : List V} (h : But p H H1) (hp : H p = some (.dT kvs)) (g : SqL K H a xs) : SqL K H1 a xs := by
  rcases g with (g | ⟨o, g⟩) | g
  · exact .inl (.inl (h _ _ g (ne_of g hp (by intro z; cases z))))
  · exact .inl (.inr ⟨o, h _ _ g (ne_of g hp (by intro z; cases z))⟩)
  · exact .inr g
theorem But.lst {p a : Addr} {kvs : List (List Key × V)} {H H1 : Hp} {xs : List V} (h : But p H H1) (hp : H p = some (.dT kvs)) (g : H a = some (.lst xs)) : H1 a = some (.lst xs) := h _ _ g (ne_of g hp (by intro z; cases z))
theorem But.rwt {p : Addr} {kvs : List (List Key × V)} {H H1 : Hp} {vs : List V} {rs : List Row} (h : But p H H1) (hp : H p = some (.dT kvs)) (g : Rwt H vs rs) : Rwt H1 vs rs := pr_mono (fun _ _ ⟨a, e, h2⟩ => ⟨a, e, h.lst hp h2⟩) g
theorem But.ins {p a C dx : Addr} {fs : List (Str × V)} {kvs : List (List Key × V)} {H H1 : Hp} (h : But p H H1) (hp : H p = some (.dT kvs)) (g : H a = some (.ins C dx fs)) : H1 a = some (.ins C dx fs) := h _ _ g (ne_of g hp (by intro z; cases z))
theorem growN_row {n : Nat} {b r : Row} (h : r ∈ growN n [b]) : r.length = b.length + n := by
  obtain ⟨r0, h0, e, _, hn, rfl⟩ := mem_growN.mp h
  rw [List.mem_singleton] at h0
  subst h0
  rw [List.length_append, hn]
theorem figs7_at {m : Nat} (h : m < 7) : figs7[m]? = some (m : Int) := by
  have : ∀ m : Nat, m < 7 → figs7[m]? = some (m : Int) := by decide
  exact this m h
theorem grow_snoc {rs : List Row} {i : Nat} {r : Row} (h : rs[i]? = some r) : grow (rs.take (i + 1)) = grow (rs.take i) ++ figs7.map fun f => r ++ [f] := by
  rw [take_snoc h]
  unfold grow
  rw [List.flatMap_append]
  simp
end Hx
namespace Hx
open PySem PySem.Spec PyProof.Rows L2
theorem rwt_but {p : Addr} {H H1 : Hp} (k : But p H H1) : ∀ {vs : List V} {rs : List Row}, Rwt H vs rs → (∀ b, V.ref b ∈ vs → b ≠ p) → Rwt H1 vs rs
  | _, _, .nil, _ => .nil
  | _, _, .cons ⟨a, e, h⟩ t, n => .cons ⟨a, e, k _ _ h (n a (by rw [e]; exact List.mem_cons_self))⟩ (rwt_but k t fun b hb => n b (List.mem_cons_of_mem _ hb))
/-- a list that was there before p -/
theorem sq_new {K : PySem.W.Frag} {H H1 H2 : Hp} {a p : Addr} {xs : List V} (h : SqL K H a xs) (n : H p = none) (s : Same H H1) (k : But p H1 H2) : SqL K H2 a xs := by
  rcases h with (h | ⟨o, h⟩) | h
  · exact .inl (.inl (k _ _ (s _ _ h) (ne_of_none h n)))
  · exact .inl (.inr ⟨o, k _ _ (s _ _ h) (ne_of_none h n)⟩)
  · exact .inr h
end Hx

/-! # rules that the layer lacks: max with default=, sorted and count of rows, dicts keyed by tuples -/
namespace Hx
open PySem PySem.Spec PyProof.Rows L2
section
variable {K : PySem.W.Frag} {H : Hp} {Q : VK}
/-! ### max(list of ints, default=d) -/
def rMaxD (K : PySem.W.Frag) : List V → List V → Hp → VK → Prop := fun vs zs H Q => ∃ (a : Addr) (ns : List Int) (d : Int), vs = [.ref a] ∧ zs = [.int d] ∧ SqL K H a (ns.map V.int) ∧ (ns = [] → Q (.int d) H) ∧ (∀ m, m ∈ ns → (∀ y, y ∈ ns → y ≤ m) → Q (.int m) H)
theorem foldl_max (n : Int) : ∀ ns : List Int, ns.foldl max n ∈ n :: ns ∧ ∀ y ∈ n :: ns, y ≤ ns.foldl max n := fun ns => by
  induction ns generalizing n with
  | nil => exact ⟨List.mem_cons_self, fun y hy => by rw [List.mem_singleton] at hy; subst hy; exact Int.le_refl _⟩
  | cons m r ih =>
    obtain ⟨h1, h2⟩ := ih (max n m)
    show (r.foldl max (max n m)) ∈ _ ∧ ∀ y ∈ n :: m :: r, y ≤ r.foldl max (max n m)
    refine ⟨?_, fun y hy => ?_⟩
    · rcases List.mem_cons.mp h1 with e | e
      · rw [e]
        by_cases h : n ≤ m
        · rw [Int.max_eq_right h]; exact List.mem_cons_of_mem _ List.mem_cons_self
        · rw [Int.max_eq_left (by omega)]; exact List.mem_cons_self
      · exact List.mem_cons_of_mem _ (List.mem_cons_of_mem _ e)
    · have h3 := h2 (max n m) List.mem_cons_self
      rcases List.mem_cons.mp hy with e | e
      · subst e; omega
      · rcases List.mem_cons.mp e with e | e
        · subst e; omega
        · exact h2 y (List.mem_cons_of_mem _ e)
theorem alike_all_ints (ns : List Int) : PySem.W.AlikeAll (ns.map PyData.int) := by
  refine ⟨fun x hx y hy => ?_, fun x hx => ?_⟩
  · obtain ⟨i, _, rfl⟩ := List.mem_map.mp hx
    obtain ⟨j, _, rfl⟩ := List.mem_map.mp hy
    rfl
  · obtain ⟨i, _, rfl⟩ := List.mem_map.mp hx
    intro z; cases z
end
section
variable {X : Cx}
theorem cl_maxD (hc : X.calm = true) (hu : X.A.units + 2 < cLine) : CallRK X (.builtin "max") [Str.ofString "default"] (rMaxD X.K) := by
  intro pins s σ H xs zs us ws Q I r rz h
  obtain ⟨a, ns, d, rfl, rfl, hs, q0, q1⟩ := h
  obtain rfl := Vals.ref1 r
  obtain ⟨w1, rfl, t, rfl⟩ := vals1 rz
  obtain ⟨its, rv, hl, _⟩ := I.list hs
  obtain ⟨as, hr⟩ := Dp.readsAll I _ _ its (dpAll_ints ns) rv
  have hd := depth_ints ns
  refine PySem.W.max_list_default (vs := its.toArray) (I.ok.hd hc) hl.isList (by simpa using hr) (alike_all_ints ns) (by omega) (fun e h' tk kp => ?_) (fun y ys i v h' tk bs e hv hrd kp => ?_)
  · have e0 : ns = [] := by simpa using e
    exact ⟨.int d, H, I.kept kp, ⟨t, rfl⟩, q0 e0⟩
  · cases ns with
    | nil => simp at e
    | cons n r2 =>
      simp only [List.map_cons, List.cons.injEq] at e
      obtain ⟨rfl, rfl⟩ := e
      rw [PySem.W.maxD_ints] at hrd
      obtain ⟨g1, g2⟩ := foldl_max n r2
      generalize r2.foldl max n = m at hrd g1 g2
      cases hrd with
      | int _ t2 => exact ⟨.int m, H, I.kept kp, ⟨t2, rfl⟩, q1 m g1 g2⟩
end
section
variable {K : PySem.W.Frag} {H : Hp} {Q : VK} {σ : L2.St}
theorem w_CKw {r : List V → List V → Hp → VK → Prop} {t tk : TA} (h : t σ H fun vs H1 => tk σ H1 fun zs H2 => r vs zs H2 Q) : tCKw r t tk σ H Q := h
theorem r_maxD {a : Addr} {ns : List Int} {d : Int} (h : SqL K H a (ns.map V.int)) (q0 : ns = [] → Q (.int d) H) (q1 : ∀ m, m ∈ ns → (∀ y, y ∈ ns → y ≤ m) → Q (.int m) H) : rMaxD K [.ref a] [.int d] H Q := ⟨a, ns, d, rfl, rfl, h, q0, q1⟩
end
end Hx

/-! # sorted: of rows (lists or tuples of ints, any number of them), of dicts keyed by tuples of ints -/
namespace Hx
open PySem PySem.Spec PySem.Calls PySem.W PyProof.Rows L2
/-- a row as data: a tuple or a list -/
def encR (tup : Bool) (r : List Int) : PyData := if tup then .tuple (r.map PyData.int) else .list (r.map PyData.int)
theorem encR_depth (tup : Bool) (r : List Int) : (encR tup r).depth = 1 := by
  cases tup
  · show PyData.depth (.list (r.map PyData.int)) = 1
    rw [PyData.depth, Hx.depth_ints]
  · show PyData.depth (.tuple (r.map PyData.int)) = 1
    rw [PyData.depth, Hx.depth_ints]
theorem encR_alike (tup : Bool) (r q : List Int) : alike (encR tup r) (encR tup q) = true := by
  cases tup
  · show alike (.list _) (.list _) = true
    rw [alike, alike_ints]
  · show alike (.tuple _) (.tuple _) = true
    rw [alike, alike_ints]
theorem encR_lt (tup : Bool) (r q : List Int) : dataLt (encR tup r) (encR tup q) = decide (r < q) := by
  cases tup
  · exact (dataLt_list _ _).trans (dataLt_ints r q)
  · exact (dataLt_tuple _ _).trans (dataLt_ints r q)
theorem le_encR (tup : Bool) : dataLe false (fun b : V × List Int => encR tup b.2) = fun p q => decide (p.2 ≤ q.2) := by
  funext p q
  have e : dataLe false (fun b : V × List Int => encR tup b.2) p q = !dataLt (encR tup q.2) (encR tup p.2) := rfl
  rw [e, encR_lt]
  by_cases h : q.2 < p.2
  · rw [decide_eq_true h, decide_eq_false (fun r => List.not_lt.mpr r h)]
    rfl
  · rw [decide_eq_false h, decide_eq_true (List.not_lt.mp h)]
    rfl
theorem sorted_rows (bs : List (V × List Int)) : (bs.mergeSort fun p q => decide (p.2 ≤ q.2)).Pairwise fun x y => x.2 ≤ y.2 := by
  have := List.pairwise_mergeSort (le := fun p q : V × List Int => decide (p.2 ≤ q.2)) (fun a b c h1 h2 => decide_eq_true (List.le_trans (of_decide_eq_true h1) (of_decide_eq_true h2))) (fun a b => by
    rcases List.le_total a.2 b.2 with h | h
    · rw [decide_eq_true h]; rfl
    · rw [decide_eq_true h, Bool.or_true]) bs
  exact this.imp fun h => of_decide_eq_true h
section
variable {prog : Program} {w : World} {A : Around} {E : Value → Shared → Prop} {s : Shared}
theorem each_perm {R : Value → V × List Int → Prop} : ∀ {vs : List Value} {bs : List (V × List Int)}, EachIs R vs bs → ∀ {out : List Value}, out.Perm vs → vs.length < 2 → EachIs R out bs
  | [], _, .nil, _, p, _ => by rw [List.Perm.eq_nil p]; exact .nil
  | [v], _, .cons h t, _, p, _ => by rw [List.perm_singleton.mp p]; exact .cons h t
  | _ :: _ :: _, _, _, _, _, z => absurd z (by simp)
theorem pair_short {R : V × List Int → V × List Int → Prop} : ∀ {bs : List (V × List Int)}, bs.length < 2 → bs.Pairwise R
  | [], _ => .nil
  | [_], _ => List.pairwise_singleton _ _
  | _ :: _ :: _, z => absurd z (by simp)
/-- xs.sort() of rows -/
theorem sort_rows {a : Addr} {vs : List Value} {n : Nat} {bs : List (V × List Int)} {tup : Bool} {P : PySem.Fin → Shared → Prop} (ho : s.heap.get? a = some (seqObj "list" vs.toArray n))
    (e : EachIs (fun v b => RelV b.1 v) vs bs) (er : EachIs (fun v b => ∃ as, Reads (sortingHeap s.heap a vs) v (encR tup b.2) as) vs bs) (hz : vs.length ≤ sizeLine) (hk : vs.length < 2 ∨ (tup = true → ∀ b ∈ bs, b.2 ≠ [])) (hu : A.units + 1 < cLine)
    (h : ∀ (out : List Value) (bs' : List (V × List Int)), bs'.Perm bs → bs'.Pairwise (fun x y => x.2 ≤ y.2) → EachIs (fun v b => RelV b.1 v) out bs' → P (.done (.ret .none)) { s with heap := sortedHeap s.heap a vs out.toArray }) :
    wpAny (model prog w) A (Builtin.«list.sort» ⟨[.ref a], []⟩) P E s := by
  by_cases h2 : vs.length < 2
  · refine SrtO.list_sort_ord (ltv := fun _ _ => false) ⟨fun _ _ _ => rfl, fun _ _ _ _ _ => rfl⟩ ho hz (fun z => absurd z (by omega)) fun out _ st => ?_
    exact h out bs (List.Perm.refl _) (pair_short (by rw [← e.length]; exact h2)) (each_perm e st.perm h2)
  · have hne := hk.resolve_left h2
    have hal : AllAlike (bs.map fun b => encR tup b.2) := AllAlike.of fun b b' => encR_alike tup b.2 b'.2
    have hsk : Sortable (bs.map fun b => encR tup b.2) := by
      cases tup with
      | true =>
        refine .inl fun d hd => ?_
        obtain ⟨b, hb, rfl⟩ := List.mem_map.mp hd
        have := hne rfl b hb
        obtain ⟨v, r⟩ := b
        cases r with
        | nil => exact absurd rfl this
        | cons x r => exact ⟨_, _, rfl⟩
      | false =>
        refine .inr fun d hd => ?_
        obtain ⟨b, hb, rfl⟩ := List.mem_map.mp hd
        exact ⟨fun z => (by cases z), fun _ z => (by cases z)⟩
    have hS := SortsAt.data (prog := prog) (w := w) (A := A) (s := { s with heap := sortingHeap s.heap a vs }) (each_map (R := fun v d => ∃ as, Reads (sortingHeap s.heap a vs) v d as) (fun b : V × List Int => encR tup b.2) er) hal hsk (fun d hd => by
      obtain ⟨b, _, rfl⟩ := List.mem_map.mp hd
      rw [encR_depth]
      exact hu)
    refine list_sort_vals ho hS hz (h _ (bs.mergeSort fun p q => decide (p.2 ≤ q.2)) (List.mergeSort_perm _ _) (sorted_rows bs) ?_)
    have := sortVals_data false e er hal
    rw [le_encR] at this
    exact this
end
theorem each_zip : ∀ {vs : List V} {us : List Value} {rs : List (List Int)}, Vals vs us → vs.length = rs.length → EachIs (fun v b => RelV b.1 v) us (vs.zip rs)
  | [], _, [], .nil, _ => .nil
  | _ :: _, _, _ :: _, .cons r t, h => .cons r (each_zip t (by simpa using h))
  | [], _, _ :: _, _, h => by simp at h
  | _ :: _, _, [], _, h => by simp at h
theorem vals_each : ∀ {us : List Value} {bs : List (V × List Int)}, EachIs (fun v b => RelV b.1 v) us bs → Vals (bs.map (·.1)) us
  | _, _, .nil => .nil
  | _, _, .cons r t => .cons r (vals_each t)
section
variable {X : Cx}
theorem each_reads {pins : List (Addr × Obj)} {σ : L2.St} {H : Hp} {s : Shared} {tup : Bool} {h' : Heap} (I : Inv X pins σ H s) (k : ∀ b o, s.heap.get? b = some o → h'.get? b = some o) : ∀ {vs : List V} {us : List Value} {rs : List (List Int)}, Vals vs us → Paired (fun v r => Dp X.K H v (encR tup r)) vs rs →
    EachIs (fun v b => ∃ as, Reads h' v (encR tup b.2) as) us (vs.zip rs)
  | _, _, _, .nil, .nil => .nil
  | _, _, _, .cons r t, .cons d u => by
    obtain ⟨as, q⟩ := Dp.reads I _ _ _ d r
    exact .cons ⟨as, Reads.keeps k q⟩ (each_reads I k t u)
/-- sorted(xs), xs a list of rows -/
def rSortRows (K : PySem.W.Frag) (tup : Bool) : List V → Hp → VK → Prop := fun vs H Q => ∃ (a : Addr) (ws : List V) (rs : List (List Int)), vs = [.ref a] ∧ SqL K H a ws ∧ Paired (fun v r => Dp K H v (encR tup r)) ws rs ∧ (ws.length < 2 ∨ (tup = true → ∀ r ∈ rs, r ≠ [])) ∧
  ∀ (bs : List (V × List Int)) p, bs.Perm (ws.zip rs) → bs.Pairwise (fun x y => x.2 ≤ y.2) → H p = none → Q (.ref p) (upd H p (.lst (bs.map (·.1))))
theorem mem_zip2 {ws : List V} {rs : List (List Int)} {b : V × List Int} (h : b ∈ ws.zip rs) : b.2 ∈ rs := (List.of_mem_zip h).2
theorem cl_sortRows {tup : Bool} (hu : X.A.units + 64 < cLine) : CallR X (.builtin "sorted") (rSortRows X.K tup) := by
  intro pins s σ H vs us Q I r h
  obtain ⟨a, ws, rs, rfl, hs, hp, hk, q⟩ := h
  obtain ⟨its, rv, hl, hz⟩ := I.list hs
  rw [Vals.ref1 r]
  have hlen := rv.length
  have hpl := Paired.length hp
  refine sorted_of_sort hl.isList (by rw [← hlen]; exact hz) (args_sorted1 _) (fun _ => args_list_sort _) fun E' => ?_
  refine sort_rows (s := { s with heap := copyHeap s.heap its }) (tup := tup) (copyHeap_at s.heap its) (each_zip rv hpl) (each_reads I (fun _ _ => sorting_copy_old) rv hp) (by rw [← hlen]; exact hz)
    (hk.imp (fun z => by rw [← hlen]; exact z) fun z t b hb => z t _ (mem_zip2 hb)) (by show X.A.units + 2 + 1 < _; omega) fun out bs pm pw ei => ⟨rfl, ?_⟩
  have hov := vals_each ei
  have hbl : (bs.map (·.1)).length ≤ sizeLine := by
    rw [List.length_map, pm.length_eq, List.length_zip, hpl, Nat.min_self, ← hpl]
    exact hz
  obtain ⟨ep, he'⟩ := sortedAll_at s.heap its out.toArray
  exact ⟨.ref _, upd H (s.heap.objs.size + 1) (.lst (bs.map (·.1))), I.laid (t' := s.toks) (fun _ _ => sortedAll_old) (Nat.le_succ _) ⟨hbl, out, ep, hov, he'⟩, rfl, q bs _ pm pw (I.hok.fresh (Nat.le_succ _))⟩
end
end Hx

/-! # the constructor called where it may raise -/
namespace Hx
open PySem PySem.Spec PyProof.Rows L2
theorem u64 {k : Nat} {A : Around} (r : Room k A) : A.units + 64 < cLine := by
  have := r.un
  omega
theorem u65 {k : Nat} {A : Around} (r : Room k A) : A.units + 65 < cLine := by
  have := r.un
  omega
theorem u2 {k : Nat} {A : Around} (r : Room k A) : A.units + 2 < cLine := by
  have := r.un
  omega
section
variable {X : Cx} {CX : CXT} {k : Nat} {f C : Addr} {fd : FuncData} {ps : List Str} {sp : Sp} {x : Str} {p pos : Pos} {e : Expr} {es : List Expr} {t : TA}
theorem run_mkS {E : XK} {pins : List (Addr × Obj)} {σ : L2.St} {H : Hp} {s : Shared} {Q : VK} {us : List Value} {vs : List V} (M : Mk X.K C f) (F : FnOk X.prog X.w X.K X.mg X.base CX k f fd ps sp) (room : Room (k + 1) X.A) (hb : Binds X.K fd ps [])
    (out : PassesAt CX X σ E) (I : Inv X pins σ H s) (rv : Vals vs us) (h : rMake C sp E vs H Q) : wpAny (model X.prog X.w) X.A (call (.ref C) us) (EP X pins σ Q) X.xe s := by
  obtain ⟨n, hn⟩ : ∃ n, n = s.heap.objs.size := ⟨_, rfl⟩
  have go := h (n + 1) n (I.hok.fresh (by omega)) (I.hok.fresh (by omega)) (Nat.ne_of_lt (Nat.lt_succ_self n))
  have J := Inv.made (C := C) I; rw [← hn] at J
  have rv2 : Vals (V.ref (n + 1) :: vs) (Value.ref (n + 1) :: us) := .cons rfl rv
  have hl : (Value.ref (n + 1) :: us).length = ps.length := by rw [← rv2.length, F.len _ _ _ _ go]
  have bd := hb _ (Value.ref (n + 1) :: us) J.kIn (by rw [List.append_nil, hl]); rw [List.append_nil] at bd
  refine wpAny_call (make_map (f := f) I.kIn M.makes M.init (beq_iff_eq.mp M.fn) ?_); rw [← hn]
  refine codeAny_mono (F.run _ X.stack _ _ _ _ _ _ E (room.make C us []) (J.env0.make C us []) bd rv2 go) (fun z s' hz => ?_)
  match z, hz with
  | .error e, hz => exact out pins _ _ e s' J hz
  | .ok (.ret u), hz =>
    obtain ⟨v, H', J3, rw3, ⟨rfl, q⟩⟩ := J.after hz
    exact ⟨rw3, V.ref (n + 1), H', J3, rfl, q⟩
  | .ok .next, hz => exact hz.elim
  | .ok .brk, hz => exact hz.elim
  | .ok .cont, hz => exact hz.elim
def tMakeS (C : Addr) (sp : Sp) (E : L2.St → XK) (t : TA) : TE := fun σ H Q => t σ H fun vs H1 => rMake C sp (E σ) vs H1 Q
theorem pe_mkX {W : WX} (R : RefM X.prog X.w X.K X.mg X.base (L2.CX X.prog X.w) k x C ps sp) (room : Room (k + 1) X.A) (tk : Takes X W) (ha : PA X (e :: es) t) (hg : Gl X x := by rfl) (hdb : (x == ("__debug__" : Str)) = false := by decide)
    (he : starEach (e :: es) X.env = (false, eval e X.env) :: starEach es X.env := by rfl) (hpl : (backTo pos (starEach es X.env)).any (·.1) = false := by rfl) : PE X (.Call (.Name x p) (e :: es) [] pos) (tMakeS C sp (WE W) t) := by
  obtain ⟨f, fd, F, M, g, b⟩ := R.ex
  refine ⟨fun pins s σ H Q I h => wpAny_Call_Name_kw (ld_glob I hg g ?_ hdb)⟩
  refine PySem.W.callWith_K (h₀ := X.base) I.ok.mod.kin M.kp (thn (ha.run pos pins s σ H _ I h) fun us s1 ⟨vs, H1, I1, rv, q⟩ => ⟨I1.kIn, run_mkS M F room b (passAt tk σ) I1 rv q⟩) he hpl
theorem w_makeS {E : L2.St → XK} {σ : L2.St} {H : Hp} {Q : VK} (h : t σ H fun vs H1 => rMake C sp (E σ) vs H1 Q) : tMakeS C sp E t σ H Q := h
end
end Hx

/-! # stops, comprehensions that make lists -/
namespace Hx
open PySem PySem.Spec PyProof.Rows L2
/-- where the walk is to stand still -/
def tStop (t : TS) : TS := t
theorem ps_stop {X : Cx} {st : Stmt} {t : TS} (h : PS X st t) : PS X st (tStop t) := h
section
variable {K : PySem.W.Frag} {D : Ends} {σ : L2.St} {H : Hp} {Q : VK} {te : TE} {c : TT} {t u : TS}
theorem w_stop (h : t D σ H) : tStop t D σ H := h
/-- what an assignment's value is, is shown once -/
theorem w_asgK {g : TG} (P : V → Hp → Prop) (key : ∀ x H', P x H' → g x σ H' D.nx) (h : ∀ Q' : VK, (∀ x H', P x H' → Q' x H') → te σ H Q') : tAsg te g D σ H := h _ key
/-- what a test's answer is, is shown once -/
theorem w_ifK (P : Bool → Hp → Prop) (key : ∀ b H', P b H' → if b = true then t D σ H' else u D σ H') (h : ∀ B' : Bool → Hp → Prop, (∀ b H', P b H' → B' b H') → c σ H B') : tIfS c t u D σ H := h _ key
theorem w_retK (P : V → Hp → Prop) (key : ∀ x H', P x H' → D.rt x H') (h : ∀ Q' : VK, (∀ x H', P x H' → Q' x H') → te σ H Q') : tRet te D σ H := h _ key
/-- a list of new rows out of a list -/
theorem c_rowsL {a : Addr} {ws : List V} {j : Nat} {vs : List Nat} (g : Nat → Row) (hS : SqL K H a ws) (hz : ws.length ≤ 100000) (hw : ∀ x : V, wipe ((wipe σ vs).set j (some x)) vs = wipe σ vs)
    (hs : ∀ i v H' (R : VK), ws[i]? = some v → Same H H' → (∀ p H4, Same H' H4 → H' p = none → H4 p = some (.lst ((g i).map V.int)) → R (.ref p) H4) → te ((wipe σ vs).set j (some v)) H' R)
    (hd : ∀ l us H', Same H H' → H l = none → H' l = some (.lst us) → RwtX l H' us ((List.range ws.length).map g) → us.Nodup → (∀ a, V.ref a ∈ us → H a = none) → Q (.ref l) H') : lcR (gName j) tYes te vs σ Q (Itl K a) H := by
  refine c_list (xs := ws) (fun D i H' => i ≤ ws.length ∧ Same H H' ∧ ∃ us, H' D = some (.lst us) ∧ RwtX D H' us ((List.range i).map g) ∧ us.Nodup ∧ ∀ a, V.ref a ∈ us → H a = none) (fun D hD => ⟨Nat.zero_le _, same_new hD, [], upd_same, .nil, List.nodup_nil, (by intro a ha; cases ha)⟩) (fun D i H' hD hi ⟨_, s, _⟩ => s.seq hS) (fun D i x H' hD hx ⟨hi, s, us, hu, hr, nd, fr⟩ => ?_) (fun D H' hD ⟨_, s, us, hu, hr, nd, fr⟩ => hd D us H' s hD hu hr nd fr)
  have hl := (List.getElem?_eq_some_iff.mp hx).1
  have hul : us.length = i := by
    have := pr_len hr
    rw [List.length_map, List.length_range] at this
    exact this
  refine ⟨hw _, w_put1 (hs i x H' _ hx s fun p H4 s4 hp h4 => ⟨us, s4 _ _ hu, Nat.lt_of_le_of_lt (show us.length ≤ 100000 by omega) (by decide), hl, (s.trans s4).mut hD, us ++ [.ref p], upd_same, ?_, ?_, fun a ha => (List.mem_append.mp ha).elim (fr a) fun z => by rw [List.mem_singleton] at z; cases z; exact s.free hp⟩)⟩
  · have hne : p ≠ D := (ne_of_none hu hp).symm
    rw [List.range_succ, List.map_append]
    exact pr_snoc (RwtX.sm s4 hr).put ⟨p, rfl, hne, upd_at hne h4⟩
  · rw [List.nodup_append]
    refine ⟨nd, by simp, fun x hx y hy => ?_⟩
    rw [List.mem_singleton] at hy
    subst hy
    intro e
    subst e
    obtain ⟨i2, hi2⟩ := List.getElem?_of_mem hx
    obtain ⟨r, _, b, eb, _, hb⟩ := pr_get hr hi2
    cases eb
    rw [hp] at hb
    cases hb
theorem range_getD {rs : List Row} {n : Nat} (h : n = rs.length) : (List.range n).map (fun i => rs.getD i []) = rs := by
  subst h
  refine List.ext_getElem? fun i => ?_
  by_cases hi : i < rs.length
  · rw [List.getElem?_map, List.getElem?_range hi, List.getElem?_eq_getElem hi]
    show some (rs.getD i []) = _
    rw [List.getD_eq_getElem?_getD, List.getElem?_eq_getElem hi]
    rfl
  · rw [List.getElem?_eq_none (by rw [List.length_map, List.length_range]; omega), List.getElem?_eq_none (by omega)]
/-- [list(row) for row in rows] -/
theorem c_copyRows {a : Addr} {ws : List V} {rows : List Row} {j : Nat} {vs : List Nat} (hS : SqL K H a ws) (hW : Rws K H ws rows) (hz : ws.length ≤ 100000) (hw : ∀ x : V, wipe ((wipe σ vs).set j (some x)) vs = wipe σ vs)
    (hs : ∀ b r H' (R : VK), SqL K H' b (List.map V.int r) → (∀ p, H' p = none → R (.ref p) (upd H' p (.lst (List.map V.int r)))) → te ((wipe σ vs).set j (some (.ref b))) H' R)
    (hd : ∀ l us H', Same H H' → H l = none → H' l = some (.lst us) → RwtX l H' us rows → us.Nodup → (∀ a, V.ref a ∈ us → H a = none) → Q (.ref l) H') : lcR (gName j) tYes te vs σ Q (Itl K a) H := by
  refine c_rowsL (fun i => rows.getD i []) hS hz hw (fun i v H' R hv s k => ?_) (fun l us H' s hn hl hr nd fr => ?_)
  · obtain ⟨r, hr, b, rfl, hb⟩ := pr_get hW hv
    have e : rows.getD i [] = r := by
      rw [List.getD_eq_getElem?_getD, hr]
      rfl
    refine hs b r H' R (s.seq hb) fun p hp => k p _ (same_new hp) hp ?_
    rw [e]
    exact upd_same
  · rw [range_getD (pr_len hW)] at hr
    exact hd l us H' s hn hl hr nd fr
end
theorem Rwt.toX {H : Hp} {f : Addr} {vs : List V} {rs : List Row} (h : Rwt H vs rs) (n : ∀ a, V.ref a ∈ vs → a ≠ f) : RwtX f H vs rs := by
  induction h with
  | nil => exact .nil
  | cons h t ih =>
    obtain ⟨a, rfl, h⟩ := h
    exact .cons ⟨a, rfl, n a List.mem_cons_self, h⟩ (ih fun b hb => n b (List.mem_cons_of_mem _ hb))
theorem Rwt.set {H : Hp} {ra : Addr} {r' : Row} : ∀ {ws : List V} {rows : List Row} {i : Nat}, Rwt H ws rows → ws.Nodup → ws[i]? = some (.ref ra) → Rwt (upd H ra (.lst (r'.map V.int))) ws (rows.set i r')
  | _, _, _, .nil, _, h => by simp at h
  | _ :: ws, _ :: rows, 0, .cons ⟨b, e, hb⟩ t, nd, h => by
    obtain rfl : _ = V.ref ra := Option.some.inj h
    rw [List.nodup_cons] at nd
    exact .cons ⟨ra, rfl, upd_same⟩ (Rwt.put t fun a ha e2 => nd.1 (e2 ▸ ha))
  | _ :: ws, _ :: rows, i + 1, .cons ⟨b, e, hb⟩ t, nd, h => by
    rw [List.nodup_cons] at nd
    have h2 : ws[i]? = some (.ref ra) := by simpa using h
    have hne : b ≠ ra := fun e2 => nd.1 (by rw [e, e2]; exact List.mem_of_getElem? h2)
    exact .cons ⟨b, e, upd_at hne hb⟩ (Rwt.set t nd.2 h2)
end Hx

/-! # the fewest beginnings: plain laws -/
namespace Hx
/-- every line of the level n that begins with w is in L -/
def Full (L : List Row) (n : Nat) (w : Row) : Prop := w.length ≤ n ∧ Figs w ∧ ∀ e : Row, Figs e → w.length + e.length = n → w ++ e ∈ L
/-- w is one of the fewest beginnings -/
def Told (L : List Row) (n : Nat) (w : Row) : Prop := Full L n w ∧ (w = [] ∨ ¬ Full L n w.dropLast)
/-- lines of a level -/
def LvOk (L : List Row) (n : Nat) : Prop := ∀ k ∈ L, k.length = n ∧ Figs k
theorem row_snoc {w : Row} (h : w ≠ []) : ∃ f, w = w.dropLast ++ [f] := ⟨w.getLast h, (List.dropLast_concat_getLast h).symm⟩
theorem figs_pre {a b : Row} (h : Figs (a ++ b)) : Figs a := fun x hx => h x (List.mem_append_left _ hx)
theorem figs_suf {a b : Row} (h : Figs (a ++ b)) : Figs b := fun x hx => h x (List.mem_append_right _ hx)
theorem figs_dropLast {w : Row} (h : Figs w) : Figs w.dropLast := fun x hx => h x ((List.dropLast_sublist w).subset hx)
theorem full_line {L : List Row} {n : Nat} (hL : LvOk L n) {w : Row} (h : w.length = n) : Full L n w ↔ w ∈ L := by
  constructor
  · rintro ⟨_, _, h2⟩
    have := h2 [] (by intro x hx; cases hx) (by simpa using h)
    rwa [List.append_nil] at this
  · intro hw
    refine ⟨Nat.le_of_eq h, (hL w hw).2, fun e _ he => ?_⟩
    have : e = [] := List.eq_nil_of_length_eq_zero (by omega)
    rw [this, List.append_nil]
    exact hw
/-- full is: each figure behind it full -/
theorem full_step {L : List Row} {n : Nat} {h : Row} (hh : h.length < n) (hf : Figs h) : Full L n h ↔ ∀ f : Int, 0 ≤ f → f ≤ 6 → Full L n (h ++ [f]) := by
  constructor
  · rintro ⟨_, _, h2⟩ f f0 f1
    refine ⟨by rw [List.length_append]; exact hh, figs_app hf (figs_one f0 f1), fun e he hl => ?_⟩
    rw [List.append_assoc]
    refine h2 ([f] ++ e) (figs_app (figs_one f0 f1) he) ?_
    rw [List.length_append] at hl ⊢
    omega
  · intro h2
    refine ⟨Nat.le_of_lt hh, hf, fun e he hl => ?_⟩
    cases e with
    | nil => rw [List.length_nil] at hl; omega
    | cons f r =>
      have hff := he f List.mem_cons_self
      have := (h2 f hff.1 hff.2).2.2 r (fun x hx => he x (List.mem_cons_of_mem _ hx)) (by rw [List.length_append, List.length_singleton]; rw [List.length_cons] at hl; omega)
      rw [List.append_assoc] at this
      exact this
/-- how many of N are h and a figure -/
def cntH (N : List Row) (h : Row) : Nat := N.countP fun w => decide (w.dropLast = h)
def hasF (N : List Row) (h : Row) (f : Int) : Nat := if h ++ [f] ∈ N then 1 else 0
def sevenF (N : List Row) (h : Row) : Nat := hasF N h 0 + hasF N h 1 + hasF N h 2 + hasF N h 3 + hasF N h 4 + hasF N h 5 + hasF N h 6
theorem hasF_cons {w : Row} {N : List Row} {h : Row} {f : Int} (hn : w ∉ N) : hasF (w :: N) h f = hasF N h f + if h ++ [f] = w then 1 else 0 := by
  unfold hasF
  by_cases e : h ++ [f] = w
  · rw [if_pos e, if_pos (by rw [e]; exact List.mem_cons_self), if_neg (by rw [e]; exact hn)]
  · rw [if_neg e]
    by_cases m : h ++ [f] ∈ N
    · rw [if_pos m, if_pos (List.mem_cons_of_mem _ m)]
    · rw [if_neg m, if_neg (fun z => (List.mem_cons.mp z).elim e m)]
theorem cnt_seven : ∀ {N : List Row} {h : Row}, N.Nodup → (∀ w ∈ N, w ≠ [] ∧ Figs w) → cntH N h = sevenF N h
  | [], _, _, _ => rfl
  | w :: N, h, nd, hw => by
    rw [List.nodup_cons] at nd
    have ih := cnt_seven (h := h) nd.2 (fun x hx => hw x (List.mem_cons_of_mem _ hx))
    obtain ⟨hw1, hw2⟩ := hw w List.mem_cons_self
    obtain ⟨f, hf⟩ := row_snoc hw1
    have hff := hw2 f (by rw [hf]; exact List.mem_append_right _ List.mem_cons_self)
    have e1 : cntH (w :: N) h = cntH N h + if w.dropLast = h then 1 else 0 := by
      unfold cntH
      rw [List.countP_cons]
      by_cases e : w.dropLast = h
      · rw [if_pos e, if_pos (decide_eq_true e)]
      · rw [if_neg e, if_neg (by rw [decide_eq_false e]; decide)]
    rw [e1, ih]
    unfold sevenF
    simp only [hasF_cons nd.1]
    by_cases e : w.dropLast = h
    · rw [if_pos e]
      have eqs : ∀ g : Int, (h ++ [g] = w) ↔ g = f := fun g => by
        rw [hf, e]
        simp
      simp only [eqs]
      obtain rfl | rfl | rfl | rfl | rfl | rfl | rfl := fig_cases hff.1 hff.2 <;> simp <;> omega
    · rw [if_neg e]
      have eqs : ∀ g : Int, ¬ (h ++ [g] = w) := fun g z => e (by rw [← z, List.dropLast_concat])
      simp only [eqs, if_false]
      omega
theorem hasF_le (N : List Row) (h : Row) (f : Int) : hasF N h f ≤ 1 := by
  unfold hasF
  split <;> omega
theorem hasF_one {N : List Row} {h : Row} {f : Int} : hasF N h f = 1 ↔ h ++ [f] ∈ N := by
  unfold hasF
  split <;> simp [*]
theorem seven_le (N : List Row) (h : Row) : sevenF N h ≤ 7 := by
  unfold sevenF
  have := hasF_le N h 0
  have := hasF_le N h 1
  have := hasF_le N h 2
  have := hasF_le N h 3
  have := hasF_le N h 4
  have := hasF_le N h 5
  have := hasF_le N h 6
  omega
theorem seven_iff {N : List Row} {h : Row} : sevenF N h = 7 ↔ ∀ f : Int, 0 ≤ f → f ≤ 6 → h ++ [f] ∈ N := by
  unfold sevenF
  have h0 := hasF_le N h 0
  have h1 := hasF_le N h 1
  have h2 := hasF_le N h 2
  have h3 := hasF_le N h 3
  have h4 := hasF_le N h 4
  have h5 := hasF_le N h 5
  have h6 := hasF_le N h 6
  constructor
  · intro e f f0 f1
    rw [← hasF_one]
    obtain rfl | rfl | rfl | rfl | rfl | rfl | rfl := fig_cases f0 f1 <;> omega
  · intro h7
    have g0 := hasF_one.mpr (h7 0 (by decide) (by decide))
    have g1 := hasF_one.mpr (h7 1 (by decide) (by decide))
    have g2 := hasF_one.mpr (h7 2 (by decide) (by decide))
    have g3 := hasF_one.mpr (h7 3 (by decide) (by decide))
    have g4 := hasF_one.mpr (h7 4 (by decide) (by decide))
    have g5 := hasF_one.mpr (h7 5 (by decide) (by decide))
    have g6 := hasF_one.mpr (h7 6 (by decide) (by decide))
    omega
/-- the rows of a stage: those of a length that are full -/
structure Stage (L : List Row) (n k : Nat) (N : List Row) : Prop where
  nd : N.Nodup
  mem : ∀ w, w ∈ N ↔ w.length + k = n ∧ Full L n w
theorem Stage.rows {L : List Row} {n k : Nat} {N : List Row} (s : Stage L n k N) (hk : k < n) : ∀ w ∈ N, w ≠ [] ∧ Figs w := fun w hw => by
  obtain ⟨h1, h2⟩ := (s.mem w).mp hw
  exact ⟨fun z => by rw [z, List.length_nil] at h1; omega, h2.2.1⟩
theorem Stage.cnt_le {L : List Row} {n k : Nat} {N : List Row} (s : Stage L n k N) (hk : k < n) (h : Row) : cntH N h ≤ 7 := by
  rw [cnt_seven s.nd (s.rows hk)]
  exact seven_le N h
theorem Stage.cnt7 {L : List Row} {n k : Nat} {N : List Row} (s : Stage L n k N) (hk : k < n) {h : Row} (hl : h.length + (k + 1) = n) (hf : Figs h) : cntH N h = 7 ↔ Full L n h := by
  rw [cnt_seven s.nd (s.rows hk), seven_iff, full_step (by omega) hf]
  constructor
  · intro h7 f f0 f1
    exact ((s.mem _).mp (h7 f f0 f1)).2
  · intro h7 f f0 f1
    exact (s.mem _).mpr ⟨by rw [List.length_append, List.length_singleton]; omega, h7 f f0 f1⟩
/-- what went out before a stage -/
structure Out (L : List Row) (n k : Nat) (O : List Row) : Prop where
  nd : O.Nodup
  mem : ∀ w, w ∈ O ↔ n < w.length + k ∧ Told L n w
theorem Stage.next {L : List Row} {n k : Nat} {N M : List Row} (s : Stage L n k N) (hk : k < n) (nd : M.Nodup) (hm : ∀ h, h ∈ M ↔ (∃ w ∈ N, w.dropLast = h) ∧ cntH N h = 7) : Stage L n (k + 1) M := by
  refine ⟨nd, fun h => ?_⟩
  rw [hm]
  constructor
  · rintro ⟨⟨w, hw, rfl⟩, h7⟩
    obtain ⟨h1, h2⟩ := (s.mem w).mp hw
    have hl : w.dropLast.length + (k + 1) = n := by rw [List.length_dropLast]; omega
    exact ⟨hl, (s.cnt7 hk hl (figs_dropLast h2.2.1)).mp h7⟩
  · rintro ⟨hl, hF⟩
    have h7 := (s.cnt7 hk hl hF.2.1).mpr hF
    refine ⟨⟨h ++ [0], (s.mem _).mpr ⟨by rw [List.length_append, List.length_singleton]; omega, (full_step (by omega) hF.2.1).mp hF 0 (by decide) (by decide)⟩, List.dropLast_concat⟩, h7⟩
theorem Out.next {L : List Row} {n k : Nat} {N O : List Row} (s : Stage L n k N) (o : Out L n k O) (hk : k < n) : Out L n (k + 1) (O ++ N.filter fun w => decide (cntH N w.dropLast < 7)) := by
  refine ⟨?_, fun w => ?_⟩
  · rw [List.nodup_append]
    refine ⟨o.nd, List.Pairwise.filter _ s.nd, fun a ha b hb e => ?_⟩
    subst e
    have h1 := ((o.mem a).mp ha).1
    have h2 := ((s.mem a).mp (List.mem_filter.mp hb).1).1
    omega
  · rw [List.mem_append, o.mem, List.mem_filter, s.mem, decide_eq_true_eq]
    constructor
    · rintro (⟨h1, h2⟩ | ⟨⟨h1, h2⟩, h3⟩)
      · exact ⟨by omega, h2⟩
      · refine ⟨by omega, h2, .inr fun z => ?_⟩
        have hl : w.dropLast.length + (k + 1) = n := by rw [List.length_dropLast]; omega
        have := (s.cnt7 hk hl (figs_dropLast h2.2.1)).mpr z
        omega
    · rintro ⟨h1, h2, h3⟩
      by_cases hl : n < w.length + k
      · exact .inl ⟨hl, h2, h3⟩
      · have hl2 : w.length + k = n := by omega
        refine .inr ⟨⟨hl2, h2⟩, ?_⟩
        have hne : w ≠ [] := fun z => by rw [z, List.length_nil] at hl2; omega
        have hnf := h3.resolve_left hne
        have hld : w.dropLast.length + (k + 1) = n := by rw [List.length_dropLast]; have := List.length_pos_iff.mpr hne; omega
        have hle := s.cnt_le hk w.dropLast
        have hn7 : cntH N w.dropLast ≠ 7 := fun z => hnf ((s.cnt7 hk hld (figs_dropLast h2.2.1)).mp z)
        omega
theorem Out.last {L : List Row} {n : Nat} {N O : List Row} (s : Stage L n n N) (o : Out L n n O) : (O ++ N).Nodup ∧ ∀ w, w ∈ O ++ N ↔ Told L n w := by
  refine ⟨?_, fun w => ?_⟩
  · rw [List.nodup_append]
    refine ⟨o.nd, s.nd, fun a ha b hb e => ?_⟩
    subst e
    have h1 := ((o.mem a).mp ha).1
    have h2 := ((s.mem a).mp hb).1
    omega
  · rw [List.mem_append, o.mem, s.mem]
    constructor
    · rintro (⟨_, h⟩ | ⟨h1, h2⟩)
      · exact h
      · exact ⟨h2, .inl (List.eq_nil_of_length_eq_zero (by omega))⟩
    · intro h
      by_cases hl : w.length = 0
      · exact .inr ⟨by omega, h.1⟩
      · exact .inl ⟨by omega, h⟩
/-- strictly rising rows, all said by what is in -/
structure ToldL (L : List Row) (n : Nat) (R : List Row) : Prop where
  nd : R.Nodup
  srt : R.Pairwise (· ≤ ·)
  mem : ∀ w, w ∈ R ↔ Told L n w
theorem rows_eq {R S : List Row} (h1 : R.Nodup) (h2 : S.Nodup) (s1 : R.Pairwise (· ≤ ·)) (s2 : S.Pairwise (· ≤ ·)) (h : ∀ w, w ∈ R ↔ w ∈ S) : R = S :=
  List.Perm.eq_of_pairwise (fun _ _ _ _ x y => List.le_antisymm x y) s1 s2 ((List.perm_ext_iff_of_nodup h1 h2).mpr h)
theorem told_uniq {L M : List Row} {n : Nat} {R S : List Row} (h : ToldL L n R) (g : ToldL M n S) (e : ∀ w, w ∈ L ↔ w ∈ M) : R = S := by
  have ef : ∀ w, Full L n w ↔ Full M n w := fun w => by
    unfold Full
    simp only [e]
  refine rows_eq h.nd g.nd h.srt g.srt fun w => ?_
  rw [h.mem, g.mem]
  unfold Told
  rw [ef, ef]
end Hx

/-! # dicts keyed by rows: sorted, list, get, walks; slices and sums of tuples; list.count, extend of rows -/
namespace Hx
open PySem PySem.Spec PySem.Calls PySem.W PyProof.Rows L2
/-! ### sorted(d), list(d) -/
theorem keys_tls {H : Hp} : ∀ {kvs : List (List Key × V)} {ks : List (List Key × Addr × Value)} {rs : List Row}, KT H kvs ks → kvs.map (·.1) = rs.map keyL → Tls H (ks.map fun x => V.ref x.2.1) rs
  | _, _, [], .nil, _ => .nil
  | _, _, _ :: _, .nil, h => by cases h
  | _, _, [], .cons _ _, h => by cases h
  | _, _, r :: rs, .cons p t, h => by
    obtain ⟨h1, h2⟩ := List.cons.inj h
    refine .cons ⟨_, rfl, ?_⟩ (keys_tls t h2)
    rw [← kv_keyL r, ← h1]
    exact p.2.1
theorem isKeys_tls {H : Hp} : ∀ {kvs : List (List Key × V)} {bs : List Addr} {rs : List Row}, IsKeys H kvs bs → kvs.map (·.1) = rs.map keyL → Tls H (bs.map V.ref) rs
  | _, _, [], .nil, _ => .nil
  | _, _, _ :: _, .nil, h => by cases h
  | _, _, [], .cons _ _, h => by cases h
  | _, _, r :: rs, .cons p t, h => by
    obtain ⟨h1, h2⟩ := List.cons.inj h
    refine .cons ⟨_, rfl, ?_⟩ (isKeys_tls t h2)
    rw [← kv_keyL r, ← h1]
    exact p
theorem tls_dp {K : PySem.W.Frag} {H : Hp} {ws : List V} {rs : List Row} (h : Tls H ws rs) : Paired (fun v r => Dp K H v (encR true r)) ws rs := pr_mono (fun _ r ⟨_, e, ht⟩ => by rw [e]; exact .tup (SqT.of ht) (dpAll_ints r)) h
theorem rws_dp {K : PySem.W.Frag} {H : Hp} {ws : List V} {rs : List Row} (h : Rws K H ws rs) : Paired (fun v r => Dp K H v (encR false r)) ws rs := pr_mono (fun _ r ⟨_, e, ht⟩ => by rw [e]; exact .lst ht (dpAll_ints r)) h
theorem zip_rel {rel : V → Row → Prop} : ∀ {ws : List V} {rs : List Row}, Paired rel ws rs → ∀ b ∈ ws.zip rs, rel b.1 b.2
  | _, _, .nil, _, hb => by cases hb
  | _, _, .cons r t, b, hb => by
    rcases List.mem_cons.mp hb with e | e
    · subst e; exact r
    · exact zip_rel t b e
/-- what comes of sorting rows that stand as rel says -/
theorem sort_paired {rel : V → Row → Prop} {ws : List V} {rs : List Row} {bs : List (V × Row)} (h : Paired rel ws rs) (pm : bs.Perm (ws.zip rs)) : Paired rel (bs.map (·.1)) (bs.map (·.2)) ∧ (bs.map (·.2)).Perm rs := by
  have hz := zip_rel h
  have hm : (ws.zip rs).map (·.2) = rs := List.map_snd_zip (Nat.le_of_eq (pr_len h).symm)
  refine ⟨?_, by have := pm.map (·.2); rw [hm] at this; exact this⟩
  have : ∀ l : List (V × Row), (∀ b ∈ l, rel b.1 b.2) → Paired rel (l.map (·.1)) (l.map (·.2)) := fun l => by
    induction l with
    | nil => exact fun _ => .nil
    | cons b t ih => exact fun g => .cons (g b List.mem_cons_self) (ih fun x hx => g x (List.mem_cons_of_mem _ hx))
  exact this bs fun b hb => hz b (pm.mem_iff.mp hb)
theorem sort_pw {bs : List (V × Row)} (h : bs.Pairwise fun x y => x.2 ≤ y.2) : (bs.map (·.2)).Pairwise (· ≤ ·) := List.pairwise_map.mpr h
section
variable {X : Cx}
theorem acc_keys {P : Program} {w : World} {es : Array DictEntry} {ks : List (List Key × Addr × Value)} {acc : Array Value} {n : Nat} (he : es.toList = ks.map (entryOfKey (tupleKind (mixKind P w)))) (hn : n = es.size)
    (it : ItemsOf (fun i v => ∃ en : DictEntry, es[i]? = some en ∧ v = en.key) acc n) : acc.toList = (ks.map fun x => x.2.1).map Value.ref := by
  have l1 : es.size = ks.length := size_of_entries he
  refine List.ext_getElem? fun j => ?_
  rw [List.map_map, List.getElem?_map, Array.getElem?_toList]
  by_cases hj : j < ks.length
  · have ha : j < acc.size := by rw [it.1]; omega
    obtain ⟨en, hen, hv⟩ := it.2 j _ (Array.getElem?_eq_getElem ha)
    have qe := entry_at he j
    rw [hen, List.getElem?_eq_getElem hj] at qe
    have e2 : en = entryOfKey (tupleKind (mixKind P w)) ks[j] := Option.some.inj qe
    rw [Array.getElem?_eq_getElem ha, hv, e2, List.getElem?_eq_getElem hj]
    rfl
  · rw [Array.getElem?_eq_none (by rw [it.1]; omega), List.getElem?_eq_none (by omega)]
    rfl
def rSortDT : List V → Hp → VK → Prop := fun vs H Q => ∃ (a : Addr) (kvs : List (List Key × V)) (rs : List Row), vs = [.ref a] ∧ Rd H a (.dT kvs) ∧ kvs.map (·.1) = rs.map keyL ∧ (rs.length < 2 ∨ ∀ r ∈ rs, r ≠ []) ∧
  ∀ ws R p, Tls H ws R → R.Perm rs → R.Pairwise (· ≤ ·) → H p = none → Q (.ref p) (upd H p (.lst ws))
theorem cl_sortDT (hc : X.calm = true) (hu : X.A.units + 64 < cLine) : CallR X (.builtin "sorted") rSortDT := by
  intro pins s σ H vs us Q I r h
  obtain ⟨a, kvs, rs, rfl, hd, hks, hne, q⟩ := h
  rw [Vals.ref1 r]
  obtain ⟨z, lo, ks, pr, o, es, ep, ho, hx, hdt, he, hn⟩ := (show ObjOk X.prog X.w H s.heap a (.dT kvs) from hd.ok I.hok)
  have l1 : es.size = ks.length := size_of_entries he
  have l2 : kvs.length = ks.length := Paired.length pr
  have l3 : kvs.length = rs.length := by have e := congrArg List.length hks; rw [List.length_map, List.length_map] at e; exact e
  have ht := keys_tls pr hks
  refine Calls.call_function_entry kind_sorted plain_sorted entry_sorted (args_sorted1 _) ?_ ; unfold Builtin.«sorted»
  refine wpAny_bind (m := checkCount "sorted" 1 1 _) (wpAny_pure (wpAny_bind (kdu_collect (A := X.A.in1) (kdl_raw lo hx hdt) (I.ok.hd hc) ho (by omega) fun h' tk acc hk it => ?_)))
  have ea := acc_keys he rfl it
  have hal : acc.toList.length = ks.length := by rw [ea, List.length_map, List.length_map]
  have rv : Vals (ks.map fun x => V.ref x.2.1) acc.toList := by
    rw [ea, show (ks.map fun x => V.ref x.2.1) = (ks.map fun x => x.2.1).map V.ref by rw [List.map_map]; rfl]
    exact vals_refs _
  have I1 : Inv X pins σ H { s with heap := h', toks := tk } := I.kept hk
  refine wpAny_bind (wpAny_newList ?_ (by rw [hal]; omega)) ; show wpAny _ _ _ _ _ { s with heap := h'.push (seqObj "list" acc.toList.toArray 0), toks := tk }
  have hoL : (h'.push (seqObj "list" acc.toList.toArray 0)).get? h'.objs.size = some (seqObj "list" acc.toList.toArray 0) := Heap.get?_push_size _ rfl
  have keep : ∀ b u, h'.get? b = some u → (sortingHeap (h'.push (seqObj "list" acc.toList.toArray 0)) h'.objs.size acc.toList).get? b = some u := fun b u e => sortingHeap_old (Nat.ne_of_lt (Heap.lt_size e)) (Heap.get?_push_of_some _ e)
  have hzl : (ks.map fun x => V.ref x.2.1).length = rs.length := pr_len ht
  refine wpAny_bind (wpAny_holding (wpAny_call_entry slot_list_sort ⟨_, hoL, rfl⟩ entry_list_sort (sort_rows (s := { s with heap := h'.push (seqObj "list" acc.toList.toArray 0), toks := tk }) (tup := true) hoL (each_zip rv hzl) (each_reads I1 keep rv (tls_dp ht)) (by rw [hal]; omega)
    (hne.imp (fun z => by rw [hal]; omega) fun z _ b hb => z _ (mem_zip2 hb)) (by show X.A.units + 2 + 1 < _; omega) fun out bs pm pw ei => ⟨_, rfl, ?_⟩) (args_list_sort _)))
  obtain ⟨h1, h2⟩ := sort_paired ht pm
  obtain ⟨e', he'⟩ := sortedHeap_at (vs := acc.toList) (out := out.toArray) hoL
  have hbl : (bs.map (·.1)).length ≤ sizeLine := by
    rw [pr_len h1, h2.length_eq]
    omega
  refine wpAny_pure ⟨_, rfl, .ref h'.objs.size, upd H h'.objs.size (.lst (bs.map (·.1))), I1.laid (t' := tk) (fun b u e => ?_) (Nat.le_refl _) (show ObjOk X.prog X.w _ _ _ (.lst _) from ⟨hbl, out, e', vals_each ei, he'⟩), rfl, q _ _ _ h1 h2 (sort_pw pw) (I1.hok.fresh (Nat.le_refl _))⟩
  have hb : b < h'.objs.size := Heap.lt_size e
  exact (sortedHeap_old (Nat.ne_of_lt hb) (by rw [size_push']; exact Nat.lt_succ_of_lt hb)).trans (Heap.get?_push_of_some _ e)
def rListD : List V → Hp → VK → Prop := fun xs H Q => ∃ d kvs, xs = [V.ref d] ∧ Rd H d (.dT kvs) ∧ ∀ p bs, H p = none → IsKeys H kvs bs → Q (.ref p) (upd H p (.lst (bs.map V.ref)))
theorem cl_listD (hc : X.calm = true) : CallR X (.type "list") rListD := call_list_dT hc
end
section
variable {K : PySem.W.Frag} {H : Hp} {Q : VK} {v x y : V} {σ : L2.St}
theorem r_sortDT {a : Addr} {kvs : List (List Key × V)} {rs : List Row} (h : Rd H a (.dT kvs)) (e : kvs.map (·.1) = rs.map keyL) (ne : rs.length < 2 ∨ ∀ r ∈ rs, r ≠ []) (q : ∀ ws R p, Tls H ws R → R.Perm rs → R.Pairwise (· ≤ ·) → H p = none → Q (.ref p) (upd H p (.lst ws))) : rSortDT [.ref a] H Q := ⟨a, kvs, rs, rfl, h, e, ne, q⟩
theorem r_listDT {a : Addr} {kvs : List (List Key × V)} {rs : List Row} (h : Rd H a (.dT kvs)) (e : kvs.map (·.1) = rs.map keyL) (q : ∀ ws p, Tls H ws rs → H p = none → Q (.ref p) (upd H p (.lst ws))) : rListD [.ref a] H Q := ⟨a, kvs, rfl, h, fun p _ hp hk => q _ p (isKeys_tls hk e) hp⟩
/-- sorted of a list of lists -/
theorem r_sortRws {a : Addr} {ws : List V} {rs : List Row} (h : SqL K H a ws) (g : Rws K H ws rs) (q : ∀ us R p, Rws K H us R → R.Perm rs → R.Pairwise (· ≤ ·) → H p = none → Q (.ref p) (upd H p (.lst us))) : rSortRows K false [.ref a] H Q :=
  ⟨a, ws, rs, rfl, h, rws_dp g, .inr fun z => Bool.noConfusion z, fun bs p pm pw hp => q _ _ p (sort_paired (rel := fun v r => ∃ a, v = .ref a ∧ SqL K H a (r.map V.int)) g pm).1 (sort_paired g pm).2 (sort_pw pw) hp⟩
/-- sorted of a list of tuples -/
theorem r_sortTls {a : Addr} {ws : List V} {rs : List Row} (h : SqL K H a ws) (g : Tls H ws rs) (ne : rs.length < 2 ∨ ∀ r ∈ rs, r ≠ []) (q : ∀ us R p, Tls H us R → R.Perm rs → R.Pairwise (· ≤ ·) → H p = none → Q (.ref p) (upd H p (.lst us))) : rSortRows K true [.ref a] H Q :=
  ⟨a, ws, rs, rfl, h, tls_dp g, ne.imp (fun z => by rw [pr_len g]; exact z) (fun z _ => z), fun bs p pm pw hp => q _ _ p (sort_paired (rel := fun v r => Tl H v r) g pm).1 (sort_paired g pm).2 (sort_pw pw) hp⟩
/-! ### tuples: slices, sums -/
theorem cut_init (r : Row) : cutV (r.map V.int) none (some (-1)) = r.dropLast.map V.int := by
  have e : HT.sIx (r.map V.int).length (r.map V.int).length (some (-1)) = r.length - 1 := by
    rw [List.length_map]
    show (if (-1 : Int) < 0 then ((-1 : Int) + (r.length : Int)).toNat else min (-1 : Int).toNat r.length) = _
    rw [if_pos (by decide)]
    omega
  unfold cutV
  rw [e, HT.sIx_none, List.drop_zero, List.dropLast_eq_take, List.map_take]
  rfl
theorem r_slInit {r : Row} (h : Tl H v r) (hne : r ≠ []) (q : ∀ p, H p = none → Q (.ref p) (upd H p (.tup (r.dropLast.map V.int)))) : rSlA K v none (some (-1)) H Q := by
  obtain ⟨t, rfl, h⟩ := h
  have hpos := List.length_pos_iff.mpr hne
  have e : HT.sIx (r.map V.int).length (r.map V.int).length (some (-1)) = r.length - 1 := by
    rw [List.length_map]
    show (if (-1 : Int) < 0 then ((-1 : Int) + (r.length : Int)).toNat else min (-1 : Int).toNat r.length) = _
    rw [if_pos (by decide)]
    omega
  refine ⟨t, _, rfl, SqT.of h, fun z => ?_, fun _ p hp => ?_⟩
  · have := z.2
    rw [e, List.length_map] at this
    omega
  · rw [cut_init]
    exact q p hp
theorem cut_tail (r : Row) : cutV (r.map V.int) (some 1) none = r.tail.map V.int := by
  have e : HT.sIx (r.map V.int).length 0 (some 1) = min 1 r.length := by
    rw [List.length_map]
    exact HT.sIx_nat _ 0 1
  unfold cutV
  rw [e, HT.sIx_none]
  cases r with
  | nil => rfl
  | cons x t =>
    rw [show min 1 (x :: t).length = 1 by rw [List.length_cons]; omega, List.map_cons, List.drop_succ_cons, List.drop_zero, List.length_cons, Nat.add_sub_cancel, List.take_length]
    rfl
theorem r_slTail {r : Row} (h : Tl H v r) (hne : r ≠ []) (q : ∀ p, H p = none → Q (.ref p) (upd H p (.tup (r.tail.map V.int)))) : rSlA K v (some 1) none H Q := by
  obtain ⟨t, rfl, h⟩ := h
  have hpos := List.length_pos_iff.mpr hne
  have e : HT.sIx (r.map V.int).length 0 (some 1) = min 1 r.length := by
    rw [List.length_map]
    exact HT.sIx_nat _ 0 1
  refine ⟨t, _, rfl, SqT.of h, fun z => ?_, fun _ p hp => ?_⟩
  · have := z.1
    rw [e] at this
    omega
  · rw [cut_tail]
    exact q p hp
theorem r_catF {r : Row} {f : Int} (h : Tl H x r) (g : Tl H y [f]) (z : r.length ≤ 1000) (q : ∀ w H', Same H H' → Tl H' w (r ++ [f]) → Q w H') : rCatA K x y H Q := by
  obtain ⟨a, rfl, h⟩ := h
  obtain ⟨b, rfl, g⟩ := g
  refine ⟨a, b, _, _, rfl, rfl, SqT.of h, SqT.of g, ?_, fun e => ?_, fun _ e => (by cases e), fun _ _ p hp => ?_⟩
  · rw [List.length_map, List.length_map]
    exact Nat.le_trans (show r.length + 1 ≤ 1001 by omega) (by decide)
  · have : r = [] := List.map_eq_nil_iff.mp e
    subst this
    exact q _ H (Same.refl H) ⟨b, rfl, g⟩
  · rw [← List.map_append]
    exact q _ _ (same_new hp) ⟨p, rfl, upd_same⟩
/-! ### d.get(k, z), xs.extend(ys), xs.count(y), locks -/
def rIsD (x : V) (H : Hp) (R : Addr → Prop) : Prop := ∃ a, x = .ref a ∧ IsD H a ∧ R a
def rDG2 (a : Addr) (y z : V) (H : Hp) (Q : VK) : Prop := ∃ o, DGet H a y o ∧ Q (o.getD z) H
theorem w_dget2 {td ty tx : TE} (h : td σ H fun x H1 => rIsD x H1 fun a => ty σ H1 fun y H2 => tx σ H2 fun z H3 => rDG2 a y z H3 Q) : tDGet2 td ty tx σ H Q := h
theorem r_isD {a : Addr} {kvs : List (List Key × V)} {R : Addr → Prop} (h : Rd H a (.dT kvs)) (q : R a) : rIsD (.ref a) H R := ⟨a, rfl, .inr ⟨kvs, h⟩, q⟩
theorem r_dG2L {a : Addr} {kvs : List (List Key × V)} {r : Row} {z : V} (h : Rd H a (.dT kvs)) (g : Tl H y r) (q : Q ((valV kvs (keyL r)).getD z) H) : rDG2 a y z H Q := by
  obtain ⟨b, rfl, g⟩ := g
  rw [← kv_keyL] at g
  exact ⟨_, .inr ⟨kvs, keyL r, b, h, rfl, g, rfl⟩, q⟩
def rDG1 (a : Addr) (y : V) (H : Hp) (Q : VK) : Prop := ∃ o, DGet H a y o ∧ Q (o.getD .non) H
theorem w_dget1 {td ty : TE} (h : td σ H fun x H1 => rIsD x H1 fun a => ty σ H1 fun y H2 => rDG1 a y H2 Q) : tDGet1 td ty σ H Q := h
theorem r_dG1L {a : Addr} {kvs : List (List Key × V)} {r : Row} (h : Rd H a (.dT kvs)) (g : Tl H y r) (q : Q ((valV kvs (keyL r)).getD .non) H) : rDG1 a y H Q := by
  obtain ⟨b, rfl, g⟩ := g
  rw [← kv_keyL] at g
  exact ⟨_, .inr ⟨kvs, keyL r, b, h, rfl, g, rfl⟩, q⟩
theorem r_extend {a b : Addr} {xs zs : List V} (h : H a = some (.lst xs)) (h2 : H b = some (.lst zs)) (z : xs.length + zs.length ≤ 100000) (q : Q .non (upd H a (.lst (xs ++ zs)))) : rExtend (.ref a) [.ref b] H Q := ⟨a, b, xs, zs, rfl, rfl, h, h2, Nat.le_trans z (by decide), q⟩
theorem w_lock {D : Ends} {t : TS} {d : Addr} {kvs : List (List Key × V)} (h : H d = some (.dT kvs)) (q : ∀ od, t ⟨fun σ' H' => H' d = some (.frz od (.dT kvs)) ∧ D.nx σ' (upd H' d (.dT kvs)), fun v H' => H' d = some (.frz od (.dT kvs)) ∧ D.rt v (upd H' d (.dT kvs)), fun σ' H' => H' d = some (.frz od (.dT kvs)) ∧ D.bk σ' (upd H' d (.dT kvs)), fun σ' H' => H' d = some (.frz od (.dT kvs)) ∧ D.ct σ' (upd H' d (.dT kvs))⟩ σ (upd H d (.frz od (.dT kvs)))) : tLock t D σ H := ⟨d, _, h, trivial, q⟩
theorem w_lockE {t : TE} {d : Addr} {kvs : List (List Key × V)} (h : H d = some (.dT kvs)) (q : ∀ od, t σ (upd H d (.frz od (.dT kvs))) fun v H' => H' d = some (.frz od (.dT kvs)) ∧ Q v (upd H' d (.dT kvs))) : tLockE t σ H Q := ⟨d, _, h, trivial, q⟩
def itKeys (R : It → Hp → Prop) (x : V) (H1 : Hp) : Prop := ∃ d o, x = .ref d ∧ ((∃ kvs, H1 d = some (.frz o (.dK kvs)) ∧ R (Itk d o kvs) H1) ∨ ∃ kvs, H1 d = some (.frz o (.dT kvs)) ∧ R (Itkt d o kvs) H1)
theorem w_iKeys {td : TE} {R : It → Hp → Prop} (h : td σ H fun x H1 => itKeys R x H1) : iKeys td σ H R := h
theorem r_iKeys {d : Addr} {o : Obj} {kvs : List (List Key × V)} {R : It → Hp → Prop} (h : H d = some (.frz o (.dT kvs))) (q : R (Itkt d o kvs) H) : itKeys R (.ref d) H := ⟨d, o, rfl, .inr ⟨kvs, h, q⟩⟩
end
/-! ### dicts of rows by a function -/
def kvF (hs : List Row) (f : Row → V) : List (List Key × V) := hs.map fun k => (keyL k, f k)
theorem kvF_keys (hs : List Row) (f : Row → V) : (kvF hs f).map (·.1) = hs.map keyL := by
  unfold kvF
  rw [List.map_map]
  rfl
theorem kvR_keys (hs : List Row) : (kvR hs).map (·.1) = hs.map keyL := by
  unfold kvR
  rw [List.map_map]
  rfl
theorem valV_kvF (hs : List Row) (f : Row → V) (r : Row) : valV (kvF hs f) (keyL r) = if r ∈ hs then some (f r) else none := by
  induction hs with
  | nil => rfl
  | cons k t ih =>
    by_cases e : k = r
    · subst e
      rw [if_pos List.mem_cons_self]
      exact valV_pos (p := (keyL k, f k)) rfl
    · have e2 : ¬ (keyL k, f k).1 = keyL r := fun z => e (keyL_inj z)
      have e3 : valV (kvF (k :: t) f) (keyL r) = valV (kvF t f) (keyL r) := valV_neg (p := (keyL k, f k)) e2
      rw [e3, ih]
      by_cases h : r ∈ t
      · rw [if_pos h, if_pos (List.mem_cons_of_mem _ h)]
      · rw [if_neg h, if_neg (fun z => (List.mem_cons.mp z).elim (fun z => e z.symm) h)]
theorem putK_kvF (hs : List Row) (f g : Row → V) (r : Row) (hg : ∀ x ∈ hs, x ≠ r → g x = f x) : putK (kvF hs f) (keyL r) (g r) = kvF (insK hs r) g := by
  have cong : ∀ l : List Row, (∀ x ∈ l, x ≠ r → g x = f x) → r ∉ l → kvF l f = kvF l g := fun l hl hr => List.map_congr_left fun k hk => by
    rw [hl k hk fun z => hr (z ▸ hk)]
  unfold insK
  by_cases h : r ∈ hs
  · rw [if_pos h]
    have ha : ((kvF hs f).any fun kv => decide (kv.1 = keyL r)) = true := by
      rw [valV_any, valV_kvF, if_pos h]
      rfl
    unfold putK
    rw [if_pos ha]
    unfold kvF
    rw [List.map_map]
    refine List.map_congr_left fun k hk => ?_
    show (if keyL k = keyL r then (keyL k, g r) else (keyL k, f k)) = _
    by_cases e : k = r
    · subst e
      rw [if_pos rfl]
    · rw [if_neg (fun z => e (keyL_inj z)), hg k hk e]
  · rw [if_neg h, putK_new _ (by rw [valV_kvF, if_neg h]), cong hs hg h]
    unfold kvF
    rw [List.map_append]
    rfl
theorem kvF_len (hs : List Row) (f : Row → V) : (kvF hs f).length = hs.length := List.length_map _
/-! ### xs.count(row) -/
section
variable {X : Cx}
def rCountR (K : PySem.W.Frag) (x : V) (xs : List V) (H : Hp) (Q : VK) : Prop := ∃ (a b : Addr) (ws : List V) (rs : List Row) (r : Row), x = .ref a ∧ xs = [.ref b] ∧ SqL K H a ws ∧ Rws K H ws rs ∧ SqL K H b (r.map V.int) ∧ Q (.int ((rs.count r : Nat) : Int)) H
theorem plain_ints : ∀ r : Row, PyData.plainAll (r.map PyData.int) = true
  | [] => rfl
  | n :: r => by
    show (true && PyData.plainAll (r.map PyData.int)) = true
    rw [plain_ints r]
    rfl
theorem plain_row (r : Row) : PyData.plain (rowD r) = true := by
  show PyData.plain (.list (r.map PyData.int)) = true
  rw [PyData.plain]
  exact plain_ints r
theorem plain_rows : ∀ rs : List Row, PyData.plainAll (rs.map rowD) = true
  | [] => rfl
  | r :: rs => by
    show (PyData.plain (rowD r) && PyData.plainAll (rs.map rowD)) = true
    rw [plain_row, plain_rows rs]
    rfl
theorem count_rowD (rs : List Row) (r : Row) : ((rs.map rowD).countP fun y => PyData.eqv y (rowD r)) = rs.count r := by
  rw [List.countP_map]
  refine List.countP_congr fun q _ => ?_
  show PyData.eqv (rowD q) (rowD r) = true ↔ (q == r) = true
  rw [eqv_row, decide_eq_true_eq, beq_iff_eq]
theorem mt_countR (hu : X.A.units + 64 < cLine) : MtR X "list.count" (rCountR X.K) := by
  intro pins s σ H x xs v us Q I rx rxs h
  obtain ⟨a, b, ws, rs, r, rfl, rfl, hs, hw, hb, q⟩ := h
  cases rx
  obtain ⟨u, rfl, ru⟩ := rxs.one
  obtain rfl : u = Value.ref b := ru
  obtain ⟨its, rv, hl, _⟩ := I.list hs
  obtain ⟨as, ra⟩ := Dp.readsAll I _ _ its (dpAll_rows hw) rv
  obtain ⟨bs, rb⟩ := Dp.reads I _ _ (Value.ref b) (dp_ints hb) rfl
  have hd1 := depth_rows rs
  refine PySem.SeqAt.count_list_data (d := rowD r) hl.isList (by simpa using ra) rb (plain_rows rs) (plain_row r) (by omega) ?_
  rw [count_rowD]
  exact ⟨.int (rs.count r : Nat), H, I.tok _, ⟨s.toks, rfl⟩, q⟩
end
section
variable {K : PySem.W.Frag} {H : Hp} {Q : VK}
theorem r_countR {a b : Addr} {ws : List V} {rs : List Row} {r : Row} (h : SqL K H a ws) (g : Rws K H ws rs) (hb : SqL K H b (r.map V.int)) (q : Q (.int ((rs.count r : Nat) : Int)) H) : rCountR K (.ref a) [.ref b] H Q := ⟨a, b, ws, rs, r, rfl, rfl, h, g, hb, q⟩
end
end Hx
namespace Hx
open PySem PySem.Spec PyProof.Rows L2
section
variable {K : PySem.W.Frag} {H : Hp} {Q : VK} {v x y : V} {σ : L2.St}
theorem w_dispT1 {i : Int} (h : ∀ p, H p = none → Q (.ref p) (upd H p (.tup ([i].map V.int)))) : dispT [.int i] H Q := ⟨Nat.le_of_lt (small1000 (show 1 ≤ 1000 by decide)), h⟩
theorem r_sortRwt {a : Addr} {ws : List V} {rs : List Row} (h : SqL K H a ws) (g : Rwt H ws rs) (q : ∀ us R p, Rwt H us R → R.Perm rs → R.Pairwise (· ≤ ·) → H p = none → Q (.ref p) (upd H p (.lst us))) : rSortRows K false [.ref a] H Q :=
  ⟨a, ws, rs, rfl, h, rws_dp g.rws, .inr fun z => Bool.noConfusion z, fun bs p pm pw hp => q _ _ p (sort_paired (rel := fun v r => ∃ a, v = .ref a ∧ H a = some (.lst (r.map V.int))) g pm).1 (sort_paired g pm).2 (sort_pw pw) hp⟩
end
theorem lv_len {L : List Row} {n : Nat} (nd : L.Nodup) (h : LvOk L n) (h4 : n ≤ 4) : L.length ≤ 2401 := by
  refine Nat.le_trans (List.Nodup.length_le_of_subset nd fun x hx => ?_) (linesFrom_len (b := []) (lv := (n : Int)) (by omega))
  rw [mem_lines (by simp)]
  exact ⟨x, (h x hx).2, rfl, by rw [(h x hx).1]⟩
theorem lv_short {L : List Row} {n : Nat} (nd : L.Nodup) (h : LvOk L n) : L.length < 2 ∨ ∀ r ∈ L, r ≠ [] := by
  cases n with
  | zero =>
    refine .inl ?_
    match L, nd, h with
    | [], _, _ => exact (by decide : 0 < 2)
    | [_], _, _ => exact (by decide : 1 < 2)
    | a :: b :: t, nd, h =>
      have h1 := List.eq_nil_of_length_eq_zero (h a List.mem_cons_self).1
      have h2 := List.eq_nil_of_length_eq_zero (h b (List.mem_cons_of_mem _ List.mem_cons_self)).1
      rw [List.nodup_cons] at nd
      exact absurd (by rw [h1, h2]; exact List.mem_cons_self) nd.1
  | succ n =>
    refine .inr fun r hr z => ?_
    have := (h r hr).1
    rw [z] at this
    cases this
theorem Stage.lv {L : List Row} {n k : Nat} {N : List Row} (s : Stage L n k N) : LvOk N (n - k) := fun w hw => by
  obtain ⟨h1, h2⟩ := (s.mem w).mp hw
  exact ⟨by omega, h2.2.1⟩
theorem stage0 {L N : List Row} {n : Nat} (nd : L.Nodup) (hL : LvOk L n) (pm : N.Perm L) : Stage L n 0 N := by
  refine ⟨pm.nodup_iff.mpr nd, fun w => ?_⟩
  rw [pm.mem_iff]
  constructor
  · intro hw
    have := (hL w hw).1
    exact ⟨by omega, (full_line hL this).mpr hw⟩
  · rintro ⟨h1, h2⟩
    exact (full_line hL (by omega)).mp h2
theorem out0 {L : List Row} {n : Nat} : Out L n 0 [] := ⟨List.nodup_nil, fun w => ⟨fun z => (by cases z), fun ⟨h1, h2⟩ => absurd h2.1.1 (by omega)⟩⟩
/-- the heads of rows, each once -/
def headsOf (N : List Row) : List Row := insAll [] (N.map List.dropLast)
theorem mem_heads {N : List Row} {h : Row} : h ∈ headsOf N ↔ ∃ w ∈ N, w.dropLast = h := by
  unfold headsOf
  rw [insAll_mem, List.mem_map]
  exact ⟨fun z => z.elim (fun z => by cases z) id, .inr⟩
theorem heads_nd (N : List Row) : (headsOf N).Nodup := insAll_nd List.nodup_nil
theorem headsOf_len (N : List Row) : (headsOf N).length ≤ N.length := by
  have := insAll_len (N.map List.dropLast) []
  rw [List.length_map, List.length_nil, Nat.zero_add] at this
  exact this
theorem cntH_snoc {N : List Row} {w h : Row} : cntH (N ++ [w]) h = cntH N h + if w.dropLast = h then 1 else 0 := by
  unfold cntH
  rw [List.countP_append, List.countP_cons, List.countP_nil]
  by_cases e : w.dropLast = h
  · rw [if_pos e, if_pos (decide_eq_true e)]
  · rw [if_neg e, if_neg (by rw [decide_eq_false e]; decide)]
theorem cntH_none {N : List Row} {h : Row} (hn : h ∉ headsOf N) : cntH N h = 0 := by
  unfold cntH
  rw [List.countP_eq_zero]
  intro w hw z
  exact hn (mem_heads.mpr ⟨w, hw, of_decide_eq_true z⟩)
def cntV (N : List Row) (h : Row) : V := .int ((cntH N h : Nat) : Int)
theorem cnt_get (N : List Row) (h : Row) : (valV (kvF (headsOf N) (cntV N)) (keyL h)).getD (.int 0) = .int ((cntH N h : Nat) : Int) := by
  rw [valV_kvF]
  by_cases e : h ∈ headsOf N
  · rw [if_pos e]; rfl
  · rw [if_neg e, cntH_none e]; rfl
theorem cnt_put (N : List Row) (w : Row) : putK (kvF (headsOf N) (cntV N)) (keyL w.dropLast) (.int (((cntH N w.dropLast : Nat) : Int) + 1)) = kvF (headsOf (N ++ [w])) (cntV (N ++ [w])) := by
  have e : V.int (((cntH N w.dropLast : Nat) : Int) + 1) = cntV (N ++ [w]) w.dropLast := by
    unfold cntV
    rw [cntH_snoc, if_pos rfl]
    rfl
  rw [e, putK_kvF _ _ _ _ fun x _ hx => by
    unfold cntV
    rw [cntH_snoc, if_neg fun z => hx z.symm]
    rfl]
  unfold headsOf
  rw [List.map_append, List.map_cons, List.map_nil, insAll_snoc]
theorem cnt_at {N : List Row} {h : Row} (e : h ∈ headsOf N) : valV (kvF (headsOf N) (cntV N)) (keyL h) = some (.int ((cntH N h : Nat) : Int)) := by
  rw [valV_kvF, if_pos e]
  rfl
theorem filter_snoc {α : Type} (p : α → Bool) {xs : List α} {i : Nat} {x : α} (h : xs[i]? = some x) : (xs.take (i + 1)).filter p = (xs.take i).filter p ++ if p x = true then [x] else [] := by
  rw [take_snoc h, List.filter_append, List.filter_cons, List.filter_nil]
end Hx

/-! # the fewest beginnings: what they hold, that they are fewest -/
namespace Hx
theorem full_ext {L : List Row} {n : Nat} {w e : Row} (h : Full L n w) (he : Figs e) (hl : w.length + e.length ≤ n) : Full L n (w ++ e) := by
  refine ⟨by rw [List.length_append]; exact hl, figs_app h.2.1 he, fun e2 h2 hl2 => ?_⟩
  rw [List.append_assoc]
  refine h.2.2 (e ++ e2) (figs_app he h2) ?_
  rw [List.length_append] at hl2 ⊢
  omega
/-- of two prefixes of one row the shorter begins the longer -/
theorem pre_cmp {a b c d : Row} (h : a ++ c = b ++ d) (hl : a.length ≤ b.length) : ∃ e, b = a ++ e := by
  refine ⟨b.drop a.length, ?_⟩
  have h1 : b.take a.length = a := by
    have := congrArg (List.take a.length) h
    rw [List.take_left, List.take_append_of_le_length hl] at this
    exact this.symm
  conv => lhs; rw [← List.take_append_drop a.length b, h1]
/-- two told beginnings, one of which begins the other, are one -/
theorem told_pre {L : List Row} {n : Nat} {a b e : Row} (ha : Told L n a) (hb : Told L n b) (h : b = a ++ e) : a = b := by
  by_cases he : e = []
  · rw [h, he, List.append_nil]
  · exfalso
    have hbn : b ≠ [] := fun z => he (by rw [h] at z; exact (List.append_eq_nil_iff.mp z).2)
    refine hb.2.resolve_left hbn ?_
    have hd : b.dropLast = a ++ e.dropLast := by rw [h, List.dropLast_append_of_ne_nil he]
    have hf := hb.1.2.1
    have hl := hb.1.1
    rw [h] at hf hl
    rw [List.length_append] at hl
    rw [hd]
    exact full_ext ha.1 (figs_dropLast (figs_suf hf)) (by rw [List.length_dropLast]; omega)
theorem told_cmp {L : List Row} {n : Nat} {a b c d : Row} (ha : Told L n a) (hb : Told L n b) (h : a ++ c = b ++ d) : a = b := by
  by_cases hl : a.length ≤ b.length
  · obtain ⟨e, he⟩ := pre_cmp h hl
    exact told_pre ha hb he
  · obtain ⟨e, he⟩ := pre_cmp h.symm (by omega)
    exact (told_pre hb ha he).symm
theorem told_ex {L : List Row} {n : Nat} {x : Row} : ∀ {i : Nat}, i ≤ x.length → Full L n (x.take i) → ∃ j, Told L n (x.take j)
  | 0, _, h => ⟨0, h, .inl rfl⟩
  | i + 1, hi, h => by
    by_cases hF : Full L n (x.take i)
    · exact told_ex (by omega) hF
    · refine ⟨i + 1, h, .inr ?_⟩
      have e : (x.take (i + 1)).dropLast = x.take i := by
        rw [List.dropLast_eq_take, List.length_take, List.take_take]
        congr 1
        omega
      rw [e]
      exact hF
theorem grow_nd {rs : List Row} (h : rs.Nodup) : (grow rs).Nodup := by
  unfold grow
  refine List.pairwise_flatMap.mpr ⟨fun r _ => ?_, ?_⟩
  · refine List.pairwise_map.mpr ?_
    have : figs7.Nodup := by decide
    exact this.imp fun hne e => hne (by simpa using e)
  · refine List.Pairwise.imp ?_ h
    intro a b hne x hx y hy e
    obtain ⟨f, _, rfl⟩ := List.mem_map.mp hx
    obtain ⟨g, _, rfl⟩ := List.mem_map.mp hy
    have := congrArg List.dropLast e
    rw [List.dropLast_concat, List.dropLast_concat] at this
    exact hne this
theorem growN_nd : ∀ {n : Nat} {rs : List Row}, rs.Nodup → (growN n rs).Nodup
  | 0, _, h => h
  | n + 1, _, h => grow_nd (growN_nd h)
theorem lines_nd (b : Row) (lv : Int) : (linesFrom b lv).Nodup := growN_nd (by simp)
def linesAll (R : List Row) (n : Nat) : List Row := R.flatMap fun b => linesFrom b (n : Int)
theorem mem_linesAll {R : List Row} {n : Nat} {x : Row} : x ∈ linesAll R n ↔ ∃ b ∈ R, x ∈ linesFrom b (n : Int) := List.mem_flatMap
/-- the told beginnings hold the lines, each once -/
theorem told_perm {L R : List Row} {n : Nat} (h : ToldL L n R) (nd : L.Nodup) (hL : LvOk L n) : (linesAll R n).Perm L := by
  refine (List.perm_ext_iff_of_nodup ?_ nd).mpr fun x => ?_
  · refine List.pairwise_flatMap.mpr ⟨fun b _ => lines_nd b _, ?_⟩
    refine List.Pairwise.imp_of_mem ?_ h.nd
    intro a b ha hb hne x hx y hy e
    subst e
    have ta := (h.mem a).mp ha
    have tb := (h.mem b).mp hb
    obtain ⟨e1, _, h1, _⟩ := (mem_lines (by have := ta.1.1; omega)).mp hx
    obtain ⟨e2, _, h2, _⟩ := (mem_lines (by have := tb.1.1; omega)).mp hy
    exact hne (told_cmp ta tb (h1.symm.trans h2))
  · rw [mem_linesAll]
    constructor
    · rintro ⟨b, hb, hx⟩
      have tb := (h.mem b).mp hb
      obtain ⟨e, he, rfl, hl⟩ := (mem_lines (by have := tb.1.1; omega)).mp hx
      rw [List.length_append] at hl
      exact tb.1.2.2 e he (by omega)
    · intro hx
      obtain ⟨hl, hf⟩ := hL x hx
      have hF : Full L n (x.take n) := by
        rw [List.take_of_length_le (by omega)]
        exact (full_line hL hl).mpr hx
      obtain ⟨j, hj⟩ := told_ex (by omega) hF
      refine ⟨x.take j, (h.mem _).mpr hj, (mem_lines (by have := hj.1.1; omega)).mpr ⟨x.drop j, fun y hy => hf y (List.mem_of_mem_drop hy), (List.take_append_drop j x).symm, by omega⟩⟩
/-- no other beginnings of the same lines are fewer -/
theorem told_min {L R S : List Row} {n : Nat} (h : ToldL L n R) (hS : ∀ r ∈ S, Figs r ∧ r.length ≤ n) (e : ∀ x, x ∈ L ↔ ∃ r ∈ S, x ∈ linesFrom r (n : Int)) : R.length ≤ S.length := by
  have key : ∀ b ∈ R, ∃ r ∈ S, ∃ c, r = b ++ c := by
    intro b hb
    have tb := (h.mem b).mp hb
    have hx : b ++ List.replicate (n - b.length) 0 ∈ L := tb.1.2.2 _ (by intro y hy; rw [List.mem_replicate] at hy; omega) (by rw [List.length_replicate]; have := tb.1.1; omega)
    obtain ⟨r, hr, hxr⟩ := (e _).mp hx
    obtain ⟨hrf, hrl⟩ := hS r hr
    obtain ⟨c, _, h1, _⟩ := (mem_lines (by omega)).mp hxr
    by_cases hl : b.length ≤ r.length
    · obtain ⟨c2, h2⟩ := pre_cmp h1 hl
      exact ⟨r, hr, c2, h2⟩
    · exfalso
      obtain ⟨c2, h2⟩ := pre_cmp h1.symm (by omega)
      have hc : c2 ≠ [] := fun z => by rw [h2, z, List.append_nil] at hl; omega
      have hbn : b ≠ [] := fun z => by rw [z] at hl; simp at hl
      have hFr : Full L n r := ⟨hrl, hrf, fun e2 he2 hle => (e _).mpr ⟨r, hr, (mem_lines (by omega)).mpr ⟨e2, he2, rfl, by rw [List.length_append]; omega⟩⟩⟩
      refine tb.2.resolve_left hbn ?_
      have hf := tb.1.2.1
      have hlb := tb.1.1
      rw [h2] at hf hlb
      rw [List.length_append] at hlb
      rw [h2, List.dropLast_append_of_ne_nil hc]
      exact full_ext hFr (figs_dropLast (figs_suf hf)) (by rw [List.length_dropLast]; omega)
  let φ : Row → Row := fun b => open Classical in if hb : ∃ r ∈ S, ∃ c, r = b ++ c then hb.choose else []
  have hφ : ∀ b ∈ R, φ b ∈ S ∧ ∃ c, φ b = b ++ c := fun b hb => by
    have hx := key b hb
    have e0 : φ b = hx.choose := dif_pos hx
    rw [e0]
    exact hx.choose_spec
  have hnd : (R.map φ).Nodup := by
    refine List.pairwise_map.mpr (List.Pairwise.imp_of_mem ?_ h.nd)
    intro a b ha hb hne e0
    obtain ⟨c, hc⟩ := (hφ a ha).2
    obtain ⟨d, hd⟩ := (hφ b hb).2
    exact hne (told_cmp ((h.mem a).mp ha) ((h.mem b).mp hb) (hc.symm.trans (e0.trans hd)))
  have := List.Nodup.length_le_of_subset hnd (l₂ := S) fun x hx => by
    obtain ⟨b, hb, rfl⟩ := List.mem_map.mp hx
    exact (hφ b hb).1
  rwa [List.length_map] at this
theorem growN_succ : ∀ (m : Nat) (rs : List Row), growN (m + 1) rs = growN m (grow rs)
  | 0, _ => rfl
  | m + 1, rs => by
    show grow (growN (m + 1) rs) = grow (growN m (grow rs))
    rw [growN_succ m rs]
theorem grow_app (a b : List Row) : grow (a ++ b) = grow a ++ grow b := List.flatMap_append
theorem growN_app : ∀ (m : Nat) (a b : List Row), growN m (a ++ b) = growN m a ++ growN m b
  | 0, _, _ => rfl
  | m + 1, a, b => by
    show grow (growN m (a ++ b)) = _
    rw [growN_app m a b, grow_app]
    rfl
theorem growN_nil : ∀ m : Nat, growN m [] = []
  | 0 => rfl
  | m + 1 => by
    show grow (growN m []) = []
    rw [growN_nil m]
    rfl
theorem growN_flat (m : Nat) : ∀ rs : List Row, growN m rs = rs.flatMap fun r => growN m [r]
  | [] => growN_nil m
  | r :: t => by
    rw [show r :: t = [r] ++ t from rfl, growN_app, growN_flat m t, List.flatMap_append]
    simp
/-- the lines of a beginning are those of it and each figure behind it -/
theorem lines_split {b : Row} {n : Nat} (h : b.length < n) : linesFrom b (n : Int) = linesAll (figs7.map fun f => b ++ [f]) n := by
  unfold linesFrom linesAll
  obtain ⟨m, hm⟩ : ∃ m, n = b.length + (m + 1) := ⟨n - b.length - 1, by omega⟩
  have e1 : ((n : Int) - b.length).toNat = m + 1 := by omega
  rw [e1, growN_succ, growN_flat]
  have e2 : grow [b] = figs7.map fun f => b ++ [f] := by unfold grow; simp
  rw [e2]
  rw [List.flatMap_map, List.flatMap_map]
  congr 1
  funext f
  have e3 : ((n : Int) - (b ++ [f]).length).toNat = m := by rw [List.length_append, List.length_singleton]; omega
  show growN m [b ++ [f]] = growN ((n : Int) - (b ++ [f]).length).toNat [b ++ [f]]
  rw [e3]
theorem linesOf_lv {rows : List Row} {n : Nat} (h : ∀ r ∈ rows, Figs r ∧ r.length ≤ n) : LvOk (linesOf rows (n : Int)) n := fun k hk => by
  obtain ⟨b, hb, hx⟩ := mem_linesOf.mp hk
  obtain ⟨hf, hl⟩ := h b hb
  obtain ⟨e, he, rfl, hn⟩ := (mem_lines (by omega)).mp hx
  exact ⟨by omega, figs_app hf he⟩
end Hx

/-! # lists of tuples as data; what stays where lists change; how often a head comes -/
namespace Hx
open PySem PySem.Spec PyProof.Rows L2
def tupD (r : List Int) : PyData := .tuple (r.map PyData.int)
def tupsD (rs : List (List Int)) : PyData := .list (rs.map tupD)
theorem canLay_tups : ∀ rs : List (List Int), PyData.canLayAll0 (rs.map tupD) = true
  | [] => rfl
  | r :: t => by
    show (PyData.canLay0 (tupD r) && PyData.canLayAll0 (t.map tupD)) = true
    rw [canLay_tups t, Bool.and_true]
    unfold tupD
    rw [PyData.canLay0]
    exact canLay_ints r
theorem depth_tups : ∀ rs : List (List Int), PyData.depthAll (rs.map tupD) ≤ 1
  | [] => Nat.zero_le _
  | r :: t => by
    show max (PyData.depth (tupD r)) (PyData.depthAll (t.map tupD)) ≤ 1
    have h1 : PyData.depth (tupD r) = 1 := by
      unfold tupD
      rw [PyData.depth, depth_ints]
    rw [h1]
    have := depth_tups t
    omega
theorem shaped_tups (rs : List (List Int)) : SeqAt.shaped (tupsD rs) = true := by
  have h1 : PyData.canLay0 (tupsD rs) = true := by unfold tupsD; rw [PyData.canLay0]; exact canLay_tups rs
  have h2 : PyData.depth (tupsD rs) ≤ 64 := by
    unfold tupsD
    rw [PyData.depth]
    have := depth_tups rs
    omega
  unfold SeqAt.shaped
  rw [h1, decide_eq_true h2]
  rfl
theorem shaped_tup (r : List Int) : SeqAt.shaped (tupD r) = true := by
  have h1 : PyData.canLay0 (tupD r) = true := by unfold tupD; rw [PyData.canLay0]; exact canLay_ints r
  have h2 : PyData.depth (tupD r) = 1 := by unfold tupD; rw [PyData.depth, depth_ints]
  unfold SeqAt.shaped
  rw [h1, h2]
  rfl
theorem eqv_tup (r q : List Int) : PyData.eqv (tupD r) (tupD q) = decide (r = q) := by
  unfold tupD
  rw [PyData.eqv]
  exact eqv_ints r q
theorem eqv_tups : ∀ rs qs : List (List Int), PyData.eqvAll (rs.map tupD) (qs.map tupD) = decide (rs = qs)
  | [], [] => rfl
  | [], _ :: _ => rfl
  | _ :: _, [] => rfl
  | r :: rs, q :: qs => by
    show (PyData.eqv (tupD r) (tupD q) && PyData.eqvAll (rs.map tupD) (qs.map tupD)) = _
    rw [eqv_tups rs qs, eqv_tup]
    by_cases h1 : r = q <;> by_cases h2 : rs = qs <;> simp [h1, h2]
theorem eqv_tupsD (rs qs : List (List Int)) : PyData.eqv (tupsD rs) (tupsD qs) = decide (rs = qs) := by
  unfold tupsD
  rw [PyData.eqv]
  exact eqv_tups rs qs
/-- a list of tuples of ints, some of them written in the program -/
abbrev Tws (K : PySem.W.Frag) (H : Hp) : List V → List (List Int) → Prop := Paired fun v r => ∃ a, v = .ref a ∧ SqT K H a (r.map V.int)
theorem Tls.tws {K : PySem.W.Frag} {H : Hp} {vs : List V} {rs : List Row} (h : Tls H vs rs) : Tws K H vs rs := pr_mono (fun _ _ ⟨a, e, g⟩ => ⟨a, e, .inl (.inl g)⟩) h
abbrev prow (p : Int × Int) : Row := [p.1, p.2]
theorem Pls.tws {K : PySem.W.Frag} {H : Hp} : ∀ {vs : List V} {ps : List (Int × Int)}, Pls K H vs ps → Tws K H vs (ps.map prow)
  | _, _, .nil => .nil
  | _, _, .cons h t => .cons h (Pls.tws t)
section
variable {K : PySem.W.Frag} {H : Hp} {Q : VK}
theorem dpAll_tws : ∀ {ws : List V} {rs : List (List Int)}, Tws K H ws rs → DpAll K H ws (rs.map tupD)
  | _, _, .nil => .nil
  | _, _, .cons ⟨_, rfl, h⟩ t => .cons (.tup h (dpAll_ints _)) (dpAll_tws t)
theorem dp_tws {a : Addr} {ws : List V} {rs : List (List Int)} (h : SqL K H a ws) (g : Tws K H ws rs) : Dp K H (.ref a) (tupsD rs) := .lst h (dpAll_tws g)
theorem r_eqTws {a b : Addr} {ws us : List V} {rs qs : List (List Int)} (h1 : SqL K H a ws) (g1 : Tws K H ws rs) (h2 : SqL K H b us) (g2 : Tws K H us qs) (k : Q (.bl (decide (rs = qs))) H) : rEqD K (.ref a) (.ref b) H Q :=
  ⟨_, _, dp_tws h1 g1, dp_tws h2 g2, shaped_tups rs, shaped_tups qs, by rw [eqv_tupsD]; exact k⟩
theorem r_neTws {a b : Addr} {ws us : List V} {rs qs : List (List Int)} (h1 : SqL K H a ws) (g1 : Tws K H ws rs) (h2 : SqL K H b us) (g2 : Tws K H us qs) (k : Q (.bl (!decide (rs = qs))) H) : rNeD K (.ref a) (.ref b) H Q :=
  ⟨_, _, dp_tws h1 g1, dp_tws h2 g2, shaped_tups rs, shaped_tups qs, by rw [eqv_tupsD]; exact k⟩
theorem mem_tups {rs : List (List Int)} {r : List Int} : ((rs.map tupD).any fun z => PyData.eqv z (tupD r)) = decide (r ∈ rs) := by
  rw [List.any_map, Bool.eq_iff_iff, List.any_eq_true, decide_eq_true_eq]
  constructor
  · rintro ⟨q, hq, e⟩
    have e2 : PyData.eqv (tupD q) (tupD r) = true := e
    rw [eqv_tup, decide_eq_true_eq] at e2
    exact e2 ▸ hq
  · intro hr
    refine ⟨r, hr, ?_⟩
    show PyData.eqv (tupD r) (tupD r) = true
    rw [eqv_tup, decide_eq_true rfl]
theorem r_inTws {a b : Addr} {ws : List V} {rs : List (List Int)} {r : List Int} (hb : SqT K H b (r.map V.int)) (h : SqL K H a ws) (g : Tws K H ws rs) (k : Q (.bl (decide (r ∈ rs))) H) : rInD K (.ref b) (.ref a) H Q := by
  refine ⟨tupD r, rs.map tupD, .tup hb (dpAll_ints r), dp_tws h g, shaped_tup r, shaped_tups rs, ?_⟩
  rw [mem_tups]
  exact k
theorem r_notInTws {a b : Addr} {ws : List V} {rs : List (List Int)} {r : List Int} (hb : SqT K H b (r.map V.int)) (h : SqL K H a ws) (g : Tws K H ws rs) (k : Q (.bl (!decide (r ∈ rs))) H) : rNotInD K (.ref b) (.ref a) H Q := by
  refine ⟨tupD r, rs.map tupD, .tup hb (dpAll_ints r), dp_tws h g, shaped_tup r, shaped_tups rs, ?_⟩
  rw [mem_tups]
  exact k
end
theorem But.tl {p : Addr} {kvs : List (List Key × V)} {H H1 : Hp} {v : V} {r : Row} (h : But p H H1) (hp : H p = some (.dT kvs)) (g : Tl H v r) : Tl H1 v r := by
  obtain ⟨a, e, g⟩ := g
  exact ⟨a, e, h _ _ g (ne_of g hp (by intro z; cases z))⟩
theorem RegAt.putr {C : Addr} {H : Hp} {p d q : Addr} {lv : Int} {ks : List Row} {ys : List V} {o : HO} (h : RegAt C H p d lv ks) (hq : H q = some (.lst ys)) : RegAt C (upd H q o) p d lv ks := by
  obtain ⟨⟨dx, h1⟩, h2⟩ := h
  exact ⟨⟨dx, upd_at (ne_of h1 hq (by intro z; cases z)) h1⟩, upd_at (ne_of h2 hq (by intro z; cases z)) h2⟩
theorem sorted_uniq {R S : List Row} (p : R.Perm S) (s1 : R.Pairwise (· ≤ ·)) (s2 : S.Pairwise (· ≤ ·)) : R = S :=
  List.Perm.eq_of_pairwise (fun _ _ _ _ x y => List.le_antisymm x y) s1 s2 p
/-- the heads of the told beginnings -/
def toldHeads (R : List Row) : List Row := (R.filter fun r => decide (r ≠ [])).map List.dropLast
theorem heads_count (N : List Row) (h : Row) : (N.map List.dropLast).count h = cntH N h := by
  unfold cntH
  rw [List.count, List.countP_map]
  refine List.countP_congr fun w _ => ?_
  show (w.dropLast == h) = true ↔ decide (w.dropLast = h) = true
  rw [beq_iff_eq, decide_eq_true_eq]
theorem told_heads {L R : List Row} {n : Nat} (h : ToldL L n R) (x : Row) : (toldHeads R).count x < 7 := by
  unfold toldHeads
  rw [heads_count]
  have nd : (R.filter fun r => decide (r ≠ [])).Nodup := List.Pairwise.filter _ h.nd
  have hw : ∀ w ∈ R.filter fun r => decide (r ≠ []), w ≠ [] ∧ Figs w := fun w hw => by
    obtain ⟨h1, h2⟩ := List.mem_filter.mp hw
    exact ⟨of_decide_eq_true h2, ((h.mem w).mp h1).1.2.1⟩
  rw [cnt_seven nd hw]
  have h7 := seven_le (R.filter fun r => decide (r ≠ [])) x
  by_cases e : sevenF (R.filter fun r => decide (r ≠ [])) x = 7
  · exfalso
    have h8 := seven_iff.mp e
    have t : ∀ f : Int, 0 ≤ f → f ≤ 6 → Told L n (x ++ [f]) := fun f f0 f1 => (h.mem _).mp (List.mem_filter.mp (h8 f f0 f1)).1
    have t0 := t 0 (by decide) (by decide)
    have hl := t0.1.1
    rw [List.length_append, List.length_singleton] at hl
    have hx : Full L n x := (full_step (by omega) (figs_pre t0.1.2.1)).mpr fun f f0 f1 => (t f f0 f1).1
    rcases t0.2 with z | z
    · exact List.cons_ne_nil _ _ (List.append_eq_nil_iff.mp z).2
    · rw [List.dropLast_concat] at z
      exact z hx
  · exact Nat.lt_of_le_of_ne h7 e
theorem told_mono {L M R : List Row} {n : Nat} (h : ToldL L n R) (e : ∀ w, w ∈ L ↔ w ∈ M) : ToldL M n R := by
  refine ⟨h.nd, h.srt, fun w => ?_⟩
  rw [h.mem]
  unfold Told Full
  simp only [e]
theorem told_row {L R : List Row} {n : Nat} (h : ToldL L n R) : ∀ r ∈ R, Figs r ∧ r.length ≤ n := fun r hr => ⟨((h.mem r).mp hr).1.2.1, ((h.mem r).mp hr).1.1⟩
theorem told_len {L R : List Row} {n : Nat} (h : ToldL L n R) (nd : L.Nodup) (hL : LvOk L n) : R.length ≤ L.length :=
  told_min h (S := L) (fun r hr => ⟨(hL r hr).2, Nat.le_of_eq (hL r hr).1⟩) fun x => ⟨fun hx => ⟨x, hx, (mem_lines (by have := (hL x hx).1; omega)).mpr ⟨[], (by intro y hy; cases hy), (List.append_nil x).symm, by have := (hL x hx).1; omega⟩⟩, fun ⟨r, hr, hx⟩ => by
    have hrl := (hL r hr).1
    obtain ⟨e, _, rfl, hl⟩ := (mem_lines (by omega)).mp hx
    rw [List.length_append] at hl
    have : e = [] := List.eq_nil_of_length_eq_zero (by omega)
    rw [this, List.append_nil]
    exact hr⟩
theorem flat_len {rows : List Row} {lv : Int} (h4 : lv ≤ 4) : (rows.flatMap fun b => linesFrom b lv).length ≤ 2401 * rows.length := by
  induction rows with
  | nil => exact Nat.le_refl _
  | cons r t ih =>
    rw [List.flatMap_cons, List.length_append, List.length_cons]
    have := linesFrom_len (b := r) h4
    omega
theorem lines_take (R : List Row) (n i : Nat) : (linesAll (R.take i) n).length ≤ (linesAll R n).length := by
  conv => rhs; rw [← List.take_append_drop i R]
  unfold linesAll
  rw [List.flatMap_append, List.length_append]
  exact Nat.le_add_right _ _
end Hx

/-! # dicts keyed by tuples: == and != with an empty one, clear, a comprehension over the keys; is not of bools -/
namespace Hx
open PySem PySem.Spec PySem.Calls PySem.W PyProof.Rows L2
section
variable {prog : Program} {w : World} {A : Around} {E : Value → Shared → Prop} {s : Shared}
/-- the pairs of two dicts of which the other has none -/
theorem pairs_none {nm : String} {a b : Addr} {ea eb : Array DictEntry} {pa pb : Nat} {Q : Bool → Shared → Prop} (la : (a == sysModules) = false) (lb : (b == sysModules) = false)
    (ra : s.heap.DictRaw a ea pa) (rb : s.heap.DictRaw b eb pb) (h0 : eb.size = 0) (h : Q (decide (ea.size = 0)) s) : wpAny (model prog w) A (Builtin.Dict.samePairs nm a b) Q E s := by
  obtain ⟨oa, ga, _, fa⟩ := ra
  obtain ⟨ob, gb, _, fb⟩ := rb
  unfold Builtin.Dict.samePairs Builtin.Dict.showsAll
  rw [if_neg (by rw [la]; exact Bool.false_ne_true), if_neg (by rw [lb]; exact Bool.false_ne_true)]
  refine wpAny_bind (wpAny_pure (wpAny_bind (wpAny_pure (wpAny_bind (wpAny_dictEntries ga fa ?_)))))
  dsimp only
  refine wpAny_bind (wpAny_dictEntries gb fb ?_)
  by_cases z : ea.size = 0
  · rw [decide_eq_true z] at h
    rw [if_neg (by rw [z, h0]; decide)]
    refine wpAny_bind (wpAny_dictEpoch ga fa (wpAny_bind ?_))
    rw [Std.Legacy.Range.forIn_eq_forIn_range']
    simp only [Std.Legacy.Range.size, Nat.sub_zero, Nat.add_sub_cancel, Nat.div_one, z, List.range'_zero, List.forIn_nil]
    exact wpAny_pure (wpAny_pure h)
  · rw [decide_eq_false z] at h
    rw [if_pos (by rw [h0]; simpa using z)]
    exact wpAny_bind (wpAny_rule (wpAny_pure h))
theorem eq_none {a b : Addr} {ea eb : Array DictEntry} {pa pb : Nat} {Q : Value → Shared → Prop} (la : (a == sysModules) = false) (lb : (b == sysModules) = false)
    (ra : s.heap.DictRaw a ea pa) (rb : s.heap.DictRaw b eb pb) (hu : A.units < cLine) (h0 : eb.size = 0) (h : Q (.bool (decide (ea.size = 0))) s) : wpAny (model prog w) A (compareOp .Eq (.ref a) (.ref b)) Q E s := by
  refine wpAny_richCompare_same_room (op := .Eq) ra.typeIs rb.typeIs PySem.F.slot_dict_eq (wpAny_call_entry PySem.F.slot_dict_eq ra.typeIs PySem.F.entry_dict_eq ?_ (PySem.F.args_dict_eq_2 _ _)) hu
  show wpAny _ _ (Builtin.Dict.dictSlotArgs "__eq__" ⟨[.ref a, .ref b], []⟩ >>= _) _ _ s
  unfold Builtin.Dict.dictSlotArgs
  refine wpAny_bind (wpAny_bind (wpAny_notOrdered_dict ra.typeIs ?_))
  show wpAny _ _ (pure (Value.ref a, Value.ref b)) _ _ s
  refine wpAny_pure (wpAny_bind (wpAny_isInstance (T := "dict") rb.typeIs PySem.F.sub_dict_dict ?_))
  simp only [Bool.not_true, Bool.false_eq_true, if_false]
  refine wpAny_bind (wpAny_pure (wpAny_bind (wpAny_pure (wpAny_bind (pairs_none la lb ra rb h0 (wpAny_pure ⟨_, rfl, (fun x => nomatch x), ?_⟩))))))
  simpa using h
theorem ne_none {a b : Addr} {ea eb : Array DictEntry} {pa pb : Nat} {Q : Value → Shared → Prop} (la : (a == sysModules) = false) (lb : (b == sysModules) = false)
    (ra : s.heap.DictRaw a ea pa) (rb : s.heap.DictRaw b eb pb) (hu : A.units < cLine) (h0 : eb.size = 0) (h : Q (.bool (!decide (ea.size = 0))) s) : wpAny (model prog w) A (compareOp .NotEq (.ref a) (.ref b)) Q E s := by
  refine wpAny_richCompare_same_room (op := .NotEq) ra.typeIs rb.typeIs PySem.F.slot_dict_ne (wpAny_call_entry PySem.F.slot_dict_ne ra.typeIs PySem.F.entry_dict_ne ?_ (PySem.F.args_dict_ne_2 _ _)) hu
  show wpAny _ _ (Builtin.Dict.dictSlotArgs "__ne__" ⟨[.ref a, .ref b], []⟩ >>= _) _ _ s
  unfold Builtin.Dict.dictSlotArgs
  refine wpAny_bind (wpAny_bind (wpAny_notOrdered_dict ra.typeIs ?_))
  show wpAny _ _ (pure (Value.ref a, Value.ref b)) _ _ s
  refine wpAny_pure (wpAny_bind (wpAny_isInstance (T := "dict") rb.typeIs PySem.F.sub_dict_dict ?_))
  simp only [Bool.not_true, Bool.false_eq_true, if_false]
  refine wpAny_bind (wpAny_pure (wpAny_bind (wpAny_pure (wpAny_bind (pairs_none la lb ra rb h0 (wpAny_pure ⟨_, rfl, (fun x => nomatch x), ?_⟩))))))
  simpa using h
end
theorem u0 {k : Nat} {A : Around} (r : Room k A) : A.units < cLine := by
  have := r.un
  omega
/-- {k: v}, k a tuple that is tracked -/
def tDOne (tk tv : TE) : TE := fun σ H Q => ∀ p, H p = none → tk σ (upd H p (.dT [])) fun y H1 => tv σ H1 fun v H2 => ∃ (k : List Key) (b : Addr), y = .ref b ∧ H2 b = some (.tup (k.map kV)) ∧ H2 p = some (.dT []) ∧ Q (.ref p) (upd H2 p (.dT [(k, v)]))
theorem pe_dOne {X : Cx} {pos : Pos} {k v : Expr} {tk tv : TE} (hu : X.A.units < cLine) (hk : PE X k tk) (hv : PE X v tv) : PE X (.Dict [some k] [v] pos) (tDOne tk tv) := by
  refine ⟨fun pins s σ H Q I q => ?_⟩
  have hn := I.hok.fresh (Nat.le_refl s.heap.objs.size)
  have I1 := I.laid (a := s.heap.objs.size) (o := .dT []) (h' := s.heap.push { cls := .type "dict", data := .dict #[] }) (t' := s.toks) (fun _ _ q => Heap.get?_push_of_some _ q) (Nat.le_refl _) (dt_empty s.heap I.big)
  rw [arm_eval_Dict, zip_pairTrees [some k] [v] X.env pos rfl rfl, dictDisplay_pairs _ (by intro z; cases z) (by show 1 < 17; decide)]
  refine wpAny_bind (wpAny_standAt (wpAny_bind (wpAny_subDictH (knd := tupleKind (mixKind X.prog X.w)) hu (by show 1 ≤ 15; decide) ?_)))
  refine pairTrees_cons_walk (thn (hk.run pins _ σ _ _ I1 (q _ hn)) fun u s1 ⟨y, H1, I2, ry, q1⟩ => thn (hv.run pins s1 σ H1 _ I2 q1) fun w2 s2 ⟨v, H2, I3, rv, k2, b, ey, hb, hp, q2⟩ => pairTrees_nil_walk ?_)
  subst ey
  obtain rfl : u = Value.ref b := ry
  obtain ⟨z, lo, xs, r, dd⟩ := dt_of I3.hok hp
  cases r
  refine ⟨[(k2, b, w2)], ⟨rfl, rfl, key_of I3.hok hb, trivial⟩, dd, fun h' tk dd' hs => wpAny_pure ⟨.ref _, upd H2 _ (.dT [(k2, v)]), ?_, rfl, q2⟩⟩
  obtain ⟨o, es, ep, hq, h2, h3, h4, _, h5⟩ := dd'
  refine d_write I3 (by rw [hp]; exact True.intro) hs ⟨o, hq⟩ ⟨show 1 ≤ sizeLine by decide, lo, [(k2, b, w2)], .cons ⟨rfl, ?_, rv⟩ .nil, o, es, ep, hq, h2, h3, h4, h5⟩
  rw [upd_ne (ne_of hb hp (fun z => nomatch z))]
  exact hb
/-- a method within a comprehension: its fragment named -/
theorem pe_bmK {X : Cx} {K : PySem.W.Frag} {T name id : String} {r : V → List V → Hp → VK → Prop} {o e : Expr} {es : List Expr} {to : TE} {t : TA} {apos cpos : Pos} (hK : X.K = K) (pa : PlainAttrs T) (slot : Slot T name id) (hty : typeOf (.builtin id) = pure (.type "method_descriptor")) (hm : MtR X id r) (ho : PE X o to) (ha : PA X (e :: es) t)
    (hbase : attributeBase o name X.env (eval o X.env) = eval o X.env := by rfl)
    (hfew : ((backTo cpos (starEach (e :: es) X.env)).all (fun x => !x.1) && (backToKw cpos (keywordEach [] X.env)).all (fun x => x.1.isSome)
      && decide ((e :: es).length + ([] : List Keyword).length + (if ([] : List Keyword).isEmpty then 0 else 1) < 30)) = true := by rfl)
    (hline : (apos.endLine == cpos.line) = true := by rfl) (hs : starEach (e :: es) X.env = (false, eval e X.env) :: starEach es X.env := by rfl) (hplain : (backTo cpos (starEach es X.env)).any (·.1) = false := by rfl) :
    PE X (.Call (.Attribute o name apos) (e :: es) [] cpos) (tBM K T r to t) := by
  subst hK
  exact pe_bm pa slot hty hm ho ha hbase hfew hline hs hplain
/-! ### what stays while a dict is locked -/
theorem lock_same {H H' : Hp} {d : Addr} {od : Obj} {kvs : List (List Key × V)} (h : H d = some (.dT kvs)) (s : Same (upd H d (.frz od (.dT kvs))) H') : Same H (upd H' d (.dT kvs)) := fun b o e => by
  by_cases z : b = d
  · subst z
    rw [upd_same, ← h, e]
  · rw [upd_ne z]
    exact s b o (upd_at z e)
theorem lock_at {H H' : Hp} {b d : Addr} {od : Obj} {kvs : List (List Key × V)} {o : HO} (s : Same (upd H d (.frz od (.dT kvs))) H') (n : b ≠ d) (e : H b = some o) : H' b = some o := s b o (upd_at n e)
theorem SqT_putf {K : PySem.W.Frag} {H : Hp} {a p : Addr} {xs : List V} {od : Obj} {ys : List (List Key × V)} {o : HO} (hp : H p = some (.frz od (.dT ys))) (h : SqT K H a xs) : SqT K (upd H p o) a xs := by
  rcases h with (h | ⟨ob, h⟩) | h
  · exact .inl (.inl (upd_at (ne_of h hp (by intro z; cases z)) h))
  · exact .inl (.inr ⟨ob, upd_at (ne_of h hp (by intro z; cases z)) h⟩)
  · exact .inr h
theorem SqL_putf {K : PySem.W.Frag} {H : Hp} {a p : Addr} {xs : List V} {od : Obj} {ys : List (List Key × V)} {o : HO} (hp : H p = some (.frz od (.dT ys))) (h : SqL K H a xs) : SqL K (upd H p o) a xs := by
  rcases h with (h | ⟨ob, h⟩) | h
  · exact .inl (.inl (upd_at (ne_of h hp (by intro z; cases z)) h))
  · exact .inl (.inr ⟨ob, upd_at (ne_of h hp (by intro z; cases z)) h⟩)
  · exact .inr h
theorem Pl.putf {K : PySem.W.Frag} {H : Hp} {v : V} {p : Int × Int} {q : Addr} {od : Obj} {ys : List (List Key × V)} {o : HO} (hq : H q = some (.frz od (.dT ys))) (h : Pl K H v p) : Pl K (L2.upd H q o) v p := by
  obtain ⟨a, rfl, h⟩ := h
  exact ⟨a, rfl, SqT_putf hq h⟩
theorem Pls.putf {K : PySem.W.Frag} {H : Hp} {vs : List V} {ps : List (Int × Int)} {q : Addr} {od : Obj} {ys : List (List Key × V)} {o : HO} (hq : H q = some (.frz od (.dT ys))) (h : Pls K H vs ps) : Pls K (L2.upd H q o) vs ps := pr_mono (fun _ _ x => x.putf hq) h
theorem Tl.putf {H : Hp} {v : V} {r : Row} {q : Addr} {od : Obj} {ys : List (List Key × V)} {o : HO} (hq : H q = some (.frz od (.dT ys))) (h : Tl H v r) : Tl (L2.upd H q o) v r := by
  obtain ⟨a, rfl, h⟩ := h
  exact ⟨a, rfl, upd_at (ne_of h hq (by intro z; cases z)) h⟩
theorem Tls.putf {H : Hp} {vs : List V} {rs : List Row} {q : Addr} {od : Obj} {ys : List (List Key × V)} {o : HO} (hq : H q = some (.frz od (.dT ys))) (h : Tls H vs rs) : Tls (L2.upd H q o) vs rs := pr_mono (fun _ _ x => x.putf hq) h
theorem Rwt.putf {H : Hp} {vs : List V} {rs : List Row} {q : Addr} {od : Obj} {ys : List (List Key × V)} {o : HO} (hq : H q = some (.frz od (.dT ys))) (h : Rwt H vs rs) : Rwt (L2.upd H q o) vs rs := pr_mono (fun _ _ ⟨a, e, h⟩ => ⟨a, e, upd_at (ne_of h hq (by intro z; cases z)) h⟩) h
theorem at_mod {us : List V} {c : Int} {m : Nat} (h : us.length = m) (h0 : 0 < m) : ∃ (k : Nat) (x : V), us[k]? = some x ∧ atI us (c % (m : Int)) = some x ∧ k < m := by
  have h1 : 0 ≤ c % (m : Int) := Int.emod_nonneg _ (by omega)
  have h2 : c % (m : Int) < (m : Int) := Int.emod_lt_of_pos _ (by omega)
  have hk : (c % (m : Int)).toNat < us.length := by omega
  exact ⟨(c % (m : Int)).toNat, us[(c % (m : Int)).toNat], List.getElem?_eq_getElem hk, at_of (by omega) (List.getElem?_eq_getElem hk), by omega⟩
section
variable {X : Cx}
theorem raw_dT {pins : List (Addr × Obj)} {σ : L2.St} {H : Hp} {s : Shared} {a : Addr} {kvs : List (List Key × V)} (I : Inv X pins σ H s) (e : Rd H a (.dT kvs)) : (a == sysModules) = false ∧ ∃ es ep, s.heap.DictRaw a es ep ∧ es.size = kvs.length ∧ kvs.length ≤ sizeLine := by
  obtain ⟨z, lo, xs, r, o, es, ep, h1, h2, h3, h4, _⟩ := (show ObjOk X.prog X.w H s.heap a (.dT kvs) from rd_of I.hok e)
  refine ⟨lo, es, ep, ⟨o, h1, h2, h3⟩, ?_, z⟩
  rw [← Array.length_toList, h4, List.length_map]
  exact (Paired.length r).symm
def rEqNo : R2 := fun x y H Q => ∃ (a b : Addr) (kvs : List (List Key × V)), x = .ref a ∧ y = .ref b ∧ Rd H a (.dT kvs) ∧ H b = some (.dT []) ∧ Q (.bl (decide (kvs.length = 0))) H
def rNeNo : R2 := fun x y H Q => ∃ (a b : Addr) (kvs : List (List Key × V)), x = .ref a ∧ y = .ref b ∧ Rd H a (.dT kvs) ∧ H b = some (.dT []) ∧ Q (.bl (!decide (kvs.length = 0))) H
theorem op_eqNo (hu : X.A.units < cLine) : OpR X (compareOp .Eq) rEqNo := by
  intro pins s σ H x y v u Q I rx ry h
  obtain ⟨a, b, kvs, rfl, rfl, ea, eb, q⟩ := h
  obtain rfl : v = Value.ref a := rx
  obtain rfl : u = Value.ref b := ry
  obtain ⟨la, sa, pa, ra, za, _⟩ := raw_dT I ea
  obtain ⟨lb, sb, pb, rb, zb, _⟩ := raw_dT I (.of eb)
  exact eq_none la lb ra rb hu zb ⟨.bl _, H, I, rfl, by rw [za]; exact q⟩
theorem op_neNo (hu : X.A.units < cLine) : OpR X (compareOp .NotEq) rNeNo := by
  intro pins s σ H x y v u Q I rx ry h
  obtain ⟨a, b, kvs, rfl, rfl, ea, eb, q⟩ := h
  obtain rfl : v = Value.ref a := rx
  obtain rfl : u = Value.ref b := ry
  obtain ⟨la, sa, pa, ra, za, _⟩ := raw_dT I ea
  obtain ⟨lb, sb, pb, rb, zb, _⟩ := raw_dT I (.of eb)
  exact ne_none la lb ra rb hu zb ⟨.bl _, H, I, rfl, by rw [za]; exact q⟩
def rDClT : V → List V → Hp → VK → Prop := fun x vs H Q => ∃ (a : Addr) (kvs : List (List Key × V)), x = .ref a ∧ vs = [] ∧ H a = some (.dT kvs) ∧ Q .non (upd H a (.dT []))
theorem mt_dclT : MtR X "dict.clear" rDClT := by
  intro pins s σ H x vs v us Q I rx rv h
  obtain ⟨a, kvs, rfl, rfl, e, q⟩ := h
  obtain rfl : v = Value.ref a := rx
  obtain rfl := rv.zero
  obtain ⟨lo, es, ep, hr, hz, z⟩ := raw_dT I (.of e)
  refine call_meetsIn PySem.F.slot_dict_clear hr.typeIs PySem.F.entry_dict_clear (PySem.F.args_dict_clear_1 _) (meets_dict_clear_raw a) ⟨es, ep, hr, by rw [hz]; exact z, fun h' dd' hs => ?_⟩
  obtain ⟨q', hq, hx, hdt⟩ := dd'
  exact ⟨.non, _, d_write (ob := .dT []) (t' := s.toks) I (by rw [e]; exact True.intro) hs ⟨q', hq⟩ ⟨Nat.zero_le _, lo, [], .nil, q', #[], _, hq, hx, hdt, rfl, List.nodup_nil⟩, rfl, q⟩
end
section
variable {K : PySem.W.Frag} {H : Hp} {Q : VK} {σ : L2.St} {te : TE}
/-- what comes behind a statement is shown once -/
theorem w_nextK {D : Ends} {t : TS} (P : L2.St → Hp → Prop) (key : ∀ σ' H', P σ' H' → D.nx σ' H') (h : ∀ N : L2.St → Hp → Prop, (∀ σ' H', P σ' H' → N σ' H') → t { D with nx := N } σ H) : tStop t D σ H := h _ key
theorem r_eqNo {a b : Addr} {kvs : List (List Key × V)} (h : Rd H a (.dT kvs)) (g : H b = some (.dT [])) (q : Q (.bl (decide (kvs.length = 0))) H) : rEqNo (.ref a) (.ref b) H Q := ⟨a, b, kvs, rfl, rfl, h, g, q⟩
theorem r_neNo {a b : Addr} {kvs : List (List Key × V)} (h : Rd H a (.dT kvs)) (g : H b = some (.dT [])) (q : Q (.bl (!decide (kvs.length = 0))) H) : rNeNo (.ref a) (.ref b) H Q := ⟨a, b, kvs, rfl, rfl, h, g, q⟩
theorem r_dclT {a : Addr} {kvs : List (List Key × V)} (h : H a = some (.dT kvs)) (q : Q .non (upd H a (.dT []))) : rDClT (.ref a) [] H Q := ⟨a, kvs, rfl, rfl, h, q⟩
theorem w_tyD {a : Addr} {kvs : List (List Key × V)} {R : Prop} (h : H a = some (.dT kvs)) (q : R) : tyV K "dict" (.ref a) H ∧ R := ⟨.inr (.inr (.inl ⟨rfl, .inr ⟨kvs, h⟩⟩)), q⟩
theorem r_isB {a b : Bool} (q : Q (.bl (decide (a = b))) H) : rIsB (.bl a) (.bl b) H Q := ⟨a, b, rfl, rfl, q⟩
theorem r_notB {a b : Bool} (q : Q (.bl (!decide (a = b))) H) : rNotB (.bl a) (.bl b) H Q := ⟨a, b, rfl, rfl, q⟩
theorem r_isiD {a : Addr} {kvs : List (List Key × V)} (h : H a = some (.dT kvs)) (q : Q (.bl true) H) : rIsi K [.ref a, .ty "dict"] H Q := r_isi (.base (.dT h)) kit_dd q
/-- a comprehension over the keys of a dict that is locked -/
theorem c_keys {d : Addr} {o : Obj} {kvs : List (List Key × V)} {rs : List Row} {g : TG} {tt : TT} {vs : List Nat} (e : kvs.map (·.1) = rs.map keyL) (Pv : Addr → Nat → Hp → Prop) (h0 : ∀ D, H D = none → Pv D 0 (upd H D (.lst []))) (hl : ∀ D i H', H D = none → i ≤ rs.length → Pv D i H' → H' d = some (.frz o (.dT kvs)))
    (hs : ∀ D i r x H', H D = none → rs[i]? = some r → Pv D i H' → Tl H' x r → g x (wipe σ vs) H' fun σ2 H2 => wipe σ2 vs = wipe σ vs ∧ tt σ2 H2 fun b H3 => lcPut te D (Pv D (i + 1)) σ2 b H3) (hd : ∀ D H', H D = none → Pv D rs.length H' → Q (.ref D) H') : lcR g tt te vs σ Q (Itkt d o kvs) H := by
  intro D hD
  have hn : kvs.length = rs.length := by
    have := congrArg List.length e
    rwa [List.length_map, List.length_map] at this
  refine lc_it (Qd := fun H' => Q (.ref D) H') walk_keysT (Pv D) (h0 D hD) (fun i H' hi p => hl D i H' hD (by omega) p) ?_ (fun H' p => hd D H' hD (by rw [← hn]; exact p))
  rintro i x H1 H2 hi p ⟨rfl, k, v, q, hk, rfl, hq⟩
  have e1 : (kvs.map (·.1))[i]? = some k := by rw [List.getElem?_map, hk]; rfl
  rw [e, List.getElem?_map] at e1
  cases e2 : rs[i]? with
  | none => rw [e2] at e1; cases e1
  | some r =>
    rw [e2] at e1
    cases e1
    exact hs D i r (.ref q) _ hD e2 p ⟨q, rfl, by rw [hq, kv_keyL]⟩
/-- a loop over them -/
theorem f_keys {d : Addr} {o : Obj} {kvs : List (List Key × V)} {rs : List Row} {g : TG} {tb : TS} {D : Ends} (e : kvs.map (·.1) = rs.map keyL) (Pv : Nat → L2.St → Hp → Prop) (h0 : Pv 0 σ H) (hl : ∀ i σ H', i ≤ rs.length → Pv i σ H' → H' d = some (.frz o (.dT kvs)))
    (hs : ∀ i r x σ H', rs[i]? = some r → Pv i σ H' → Tl H' x r → g x σ H' fun σ2 H2 => tb { D with nx := Pv (i + 1), ct := Pv (i + 1), bk := D.nx } σ2 H2) (hd : ∀ σ H', Pv rs.length σ H' → D.nx σ H') : forR g tb D σ (Itkt d o kvs) H := by
  have hn : kvs.length = rs.length := by
    have := congrArg List.length e
    rwa [List.length_map, List.length_map] at this
  refine for_it walk_keysT Pv h0 (fun i σ H' hi p => hl i σ H' (by omega) p) ?_ (fun σ H' p => hd σ H' (by rw [← hn]; exact p))
  rintro i x σ H1 H2 hi p ⟨rfl, k, v, q, hk, rfl, hq⟩
  have e1 : (kvs.map (·.1))[i]? = some k := by rw [List.getElem?_map, hk]; rfl
  rw [e, List.getElem?_map] at e1
  cases e2 : rs[i]? with
  | none => rw [e2] at e1; cases e1
  | some r =>
    rw [e2] at e1
    cases e1
    exact hs i r (.ref q) σ _ e2 p ⟨q, rfl, by rw [hq, kv_keyL]⟩
end
end Hx

/-! # what a region holds -/
namespace Hx
open PySem PySem.Spec PyProof.Rows L2
def padL (n : Nat) (fs : Row) : Row := List.replicate (n - fs.length) 0 ++ fs
def holdsB (L : List Row) (n : Nat) (z : Int × Int) : Bool := decide ((addrOf z).length ≤ n ∧ padL n (addrOf z) ∈ L)
theorem pad_bare : ∀ fs : Row, padL fs.length (bareL fs) = fs
  | [] => rfl
  | f :: t => by
    have ih := pad_bare t
    unfold padL at ih ⊢
    by_cases h : f = 0
    · subst h
      have e : bareL (0 :: t) = bareL t := by unfold bareL; simp
      have := bareL_len t
      rw [e, List.length_cons, show t.length + 1 - (bareL t).length = (t.length - (bareL t).length) + 1 by omega, List.replicate_succ, List.cons_append, ih]
    · have e : bareL (f :: t) = f :: t := by unfold bareL; simp [h]
      rw [e, Nat.sub_self]
      rfl
theorem holds_line {L : List Row} {n : Nat} {fs : Row} (hf : Figs fs) (hl : fs.length = n) : holdsB L n (placeOf fs) = decide (fs ∈ L) := by
  unfold holdsB
  rw [addr_place fs hf]
  have h1 := bareL_len fs
  have h2 := pad_bare fs
  rw [hl] at h1 h2
  rw [h2]
  exact decide_eq_decide.mpr ⟨fun z => z.2, fun z => ⟨h1, z⟩⟩
theorem holds_more {L : List Row} {n : Nat} {f : Int} {t : Row} (hf : Figs (f :: t)) (hl : t.length = n) (h0 : f ≠ 0) : holdsB L n (placeOf (f :: t)) = false := by
  unfold holdsB
  rw [addr_place _ hf]
  have e : bareL (f :: t) = f :: t := by unfold bareL; simp [h0]
  rw [e, List.length_cons]
  exact decide_eq_false fun z => by omega
theorem holds_nought {L : List Row} {n : Nat} {t : Row} (hf : Figs ((0 : Int) :: t)) (hl : t.length = n) : holdsB L n (placeOf (0 :: t)) = decide (t ∈ L) := by
  have e : placeOf ((0 : Int) :: t) = placeOf t := rfl
  rw [e]
  exact holds_line (fun x hx => hf x (List.mem_cons_of_mem _ hx)) hl
theorem place_pad (n : Nat) (fs : Row) : placeOf (padL n fs) = placeOf fs := place_noughts _ _
theorem holds_place {L : List Row} {n : Nat} (hL : LvOk L n) (z : Int × Int) : holdsB L n z = decide (z ∈ L.map placeOf) := by
  unfold holdsB
  refine decide_eq_decide.mpr ⟨fun ⟨_, h⟩ => List.mem_map.mpr ⟨_, h, by rw [place_pad, place_addr]⟩, fun h => ?_⟩
  obtain ⟨x, hx, rfl⟩ := List.mem_map.mp h
  obtain ⟨hl, hf⟩ := hL x hx
  have := holds_line (L := L) hf hl
  unfold holdsB at this
  rw [decide_eq_true hx] at this
  exact of_decide_eq_true this
theorem mem_prow {z : Int × Int} {ps : List (Int × Int)} : prow z ∈ ps.map prow ↔ z ∈ ps := by
  rw [List.mem_map]
  constructor
  · rintro ⟨y, hy, e⟩
    have e1 : y.1 = z.1 := by injection e
    have e2 : y.2 = z.2 := by injection e with _ e; injection e
    have : y = z := Prod.ext e1 e2
    exact this ▸ hy
  · exact fun h => ⟨z, h, rfl⟩
end Hx

/-! # dict(d), d keyed by tuples of ints: no two of its keys may hash alike; the lines of a level do not -/
namespace Hx
open PySem PySem.Spec PySem.Calls PySem.W PyProof.Rows L2
section
variable {prog : Program} {w : World} {A : Around} {E : Value → Shared → Prop} {s : Shared}
theorem copyH {o : Addr} {more : List (List Key × Addr × Value)} {Q : Value → Shared → Prop} (hu : A.units + 2 < cLine) (hoS : (o == sysModules) = false) (ho : s.heap.DictOfH (tupleKind (mixKind prog w)) o more) (hsz : more.length ≤ sizeLine)
    (hty : ∀ x ∈ more, ∀ h' : Heap, (∀ b q, s.heap.get? b = some q → h'.get? b = some q) → Shared.TypeIs { s with heap := h' } (.ref x.2.1) "tuple") (hap : (more.map fun x => tupleKeyHash (mixKind prog w) x.1).Nodup)
    (h : ∀ h', h'.DictOfH (tupleKind (mixKind prog w)) s.heap.objs.size more → Heap.SameBut s.heap.objs.size (s.heap.push { cls := .type "dict", data := .dict #[] }) h' → Q (.ref s.heap.objs.size) { s with heap := h' }) :
    wpAny (model prog w) A (call (.type "dict") [.ref o]) Q E s := by
  refine callType_codes (Q₁ := fun obj s₁ => obj = .ref s.heap.objs.size ∧ s₁ = { s with heap := s.heap.push { cls := .type "dict", data := .dict #[] } }) F.kt_called_dict (F.kt_typeCall_dict_1 _) F.entry_dict_init (kt_code_dict_new _ ⟨rfl, rfl⟩) ?_
  rintro obj s₁ ⟨rfl, rfl⟩
  have hpush : ∀ b q, s.heap.get? b = some q → (s.heap.push { cls := .type "dict", data := .dict #[] }).get? b = some q := fun b q e => Heap.get?_push_of_some _ e
  have hnew : (s.heap.push { cls := .type "dict", data := .dict #[] }).DictOfH (tupleKind (mixKind prog w)) s.heap.objs.size [] := ⟨_, #[], 0, Heap.get?_push_size _ rfl, ⟨rfl, rfl, rfl⟩, rfl, rfl, (fun x hx => by cases hx), List.nodup_nil⟩
  have hdo : s.heap.objs.size ≠ o := by
    obtain ⟨_, _, _, hg, _⟩ := ho
    exact fun e => absurd (Heap.lt_size hg) (by rw [e]; exact Nat.lt_irrefl _)
  have hn := ho.nodup
  have ho' : (s.heap.push { cls := .type "dict", data := .dict #[] }).DictOfH (tupleKind (mixKind prog w)) o more := by
    obtain ⟨oo, es, ep, g1, g2, g3, g4, g5, g6⟩ := ho
    refine ⟨oo, es, ep, hpush _ _ g1, g2, g3, g4, fun x hx => ?_, g6⟩
    obtain ⟨ob, its, n, k1, k2⟩ := g5 x hx
    exact ⟨ob, its, n, hpush _ _ k1, k2⟩
  have hnt : Shared.TypeIs { s with heap := s.heap.push { cls := .type "dict", data := .dict #[] } } (.ref s.heap.objs.size) "dict" := ⟨_, Heap.get?_push_size _ rfl, rfl⟩
  have hot : Shared.TypeIs { s with heap := s.heap.push { cls := .type "dict", data := .dict #[] } } (.ref o) "dict" := by
    obtain ⟨oo, _, _, g1, g2, _⟩ := ho'
    exact ⟨oo, g1, g2.1⟩
  refine ⟨hnt, F.args_dict_init_2 _ _, ?_⟩
  unfold Builtin.«dict.__init__»
  refine wpAny_bind ?_
  unfold Builtin.Dict.selfAndRest
  refine wpAny_bind (wpAny_notOrdered_dict hnt ?_)
  show wpAny _ _ (pure (s.heap.objs.size, [Value.ref o])) _ _ _
  refine wpAny_pure ?_
  show wpAny _ _ (Builtin.Dict.updateFrom "dict.__init__" s.heap.objs.size (.ref o) [] .none) _ _ _
  unfold Builtin.Dict.updateFrom
  refine wpAny_bind (wpAny_typeOf hot ?_)
  rw [if_neg (by decide)]
  refine wpAny_bind ?_
  unfold Builtin.Dict.merge
  refine wpAny_bind ?_
  unfold Builtin.Dict.readDirectly
  refine wpAny_bind (wpAny_isInstance hot isSubtype_dict_dict ?_)
  simp only [Bool.not_true, Bool.false_eq_true, if_false]
  refine wpAny_bind (wpAny_specialOf hot F.slot_dict_iter.lookup (wpAny_pure ?_))
  simp only [beq_self_eq_true, if_true]
  refine wpAny_bind (wpAny_pure ?_)
  refine wpAny_mergeDict_heap (knd := tupleKind (mixKind prog w)) (hsz := by simpa using hsz) (by exact hu) hdo hoS hnew ho' (.inr ⟨fun x hx => hty x hx _ hpush, hap⟩) fun h' hd' _ hs' => ?_
  show wpAny _ _ (Builtin.Dict.addKeywords s.heap.objs.size [] >>= _) _ _ _
  rw [storedAllH_nil_of_nodup more hn] at hd'
  exact wpAny_bind (wpAny_pure (wpAny_pure ⟨rfl, h h' hd' hs'⟩))
end
/-- the hash of a tuple of ints -/
def rowHash (r : Row) : Int := reduceHash (Builtin.Tuple.tupleHashOf (r.map hashInt))
theorem keyHash_row (P : Program) (w : World) (r : Row) : tupleKeyHash (mixKind P w) (keyL r) = rowHash r := by
  unfold tupleKeyHash rowHash keyL
  rw [List.map_map]
  rfl
theorem kt_keys {H : Hp} : ∀ {kvs : List (List Key × V)} {xs : List (List Key × Addr × Value)}, KT H kvs xs → xs.map (·.1) = kvs.map (·.1)
  | _, _, .nil => rfl
  | _, _, .cons h t => by rw [List.map_cons, List.map_cons, kt_keys t, h.1]
def rDictT : List V → Hp → VK → Prop := fun xs H Q => ∃ (a : Addr) (kvs : List (List Key × V)) (rs : List Row), xs = [.ref a] ∧ Rd H a (.dT kvs) ∧ kvs.map (·.1) = rs.map keyL ∧ (rs.map rowHash).Nodup ∧ ∀ p, H p = none → Q (.ref p) (upd H p (.dT kvs))
section
variable {X : Cx}
theorem call_dictDT (hu : X.A.units + 2 < cLine) : CallR X (.type "dict") rDictT := by
  intro pins s σ H vs us Q I r h
  obtain ⟨a, kvs, rs, rfl, hd, hk, hn, q⟩ := h
  rw [Vals.ref1 r]
  obtain ⟨z, lo, xs, rel, dd⟩ := dt_rd I.hok hd
  have hxk := (kt_keys rel).trans hk
  have hap : (xs.map fun x => tupleKeyHash (mixKind X.prog X.w) x.1).Nodup := by
    have e : (xs.map fun x => tupleKeyHash (mixKind X.prog X.w) x.1) = rs.map rowHash := by
      rw [show (fun x : List Key × Addr × Value => tupleKeyHash (mixKind X.prog X.w) x.1) = tupleKeyHash (mixKind X.prog X.w) ∘ (fun x => x.1) from rfl, ← List.map_map, hxk, List.map_map]
      exact List.map_congr_left fun r _ => keyHash_row _ _ r
    rw [e]
    exact hn
  have his : ∀ x ∈ xs, (tupleKind (mixKind X.prog X.w)).is s.heap x.1 x.2.1 := by
    obtain ⟨_, _, _, _, _, _, _, g, _⟩ := dd
    exact g
  refine copyH hu lo dd (by rw [← Paired.length rel]; exact z) (fun x hx h' hh => ?_) hap fun h' dd' hs => ?_
  · obtain ⟨ob, its, n, k1, k2, _⟩ := his x hx
    exact ⟨ob, hh _ _ k1, k2⟩
  have hm : (s.heap.objs.size == sysModules) = false := beq_eq_false_iff_ne.mpr (Nat.ne_of_gt I.big)
  have hf := I.hok.fresh (Nat.le_refl s.heap.objs.size)
  obtain ⟨o, es, ep, h1, h2, h3, h4, _, h5⟩ := dd'
  exact ⟨.ref s.heap.objs.size, upd H s.heap.objs.size (.dT kvs), I.laid (t' := s.toks) (fun b u e => (hs.2 b (Nat.ne_of_lt (Heap.lt_size e))).trans (Heap.get?_push_of_some _ e)) (Nat.le_refl _)
    (show ObjOk X.prog X.w _ _ _ (.dT kvs) from ⟨z, hm, xs, rel.keeps fun b ys e => upd_at (ne_of_none e hf) e, o, es, ep, h1, h2, h3, h4, h5⟩), rfl, q _ hf⟩
end
/-- no two numbers of the list are alike: parted by their bits -/
def apart : Nat → List Nat → Bool
  | _, [] => true
  | _, [_] => true
  | 0, _ => false
  | k + 1, l => apart k ((l.filter fun x => x % 2 == 0).map (· / 2)) && apart k ((l.filter fun x => x % 2 == 1).map (· / 2))
theorem apart_nd : ∀ (k : Nat) (l : List Nat), apart k l = true → l.Nodup
  | _, [], _ => List.nodup_nil
  | _, [x], _ => by simp
  | 0, x :: y :: t, h => by cases h
  | k + 1, x :: y :: t, h => by
    obtain ⟨l, el⟩ : ∃ l, l = x :: y :: t := ⟨_, rfl⟩
    have h2 : (apart k ((l.filter fun x => x % 2 == 0).map (· / 2)) && apart k ((l.filter fun x => x % 2 == 1).map (· / 2))) = true := by rw [el]; exact h
    rw [Bool.and_eq_true] at h2
    have a0 := apart_nd k _ h2.1
    have a1 := apart_nd k _ h2.2
    rw [← el]
    refine List.pairwise_iff_getElem.mpr fun i j hi hj hij e => ?_
    have hp := List.pairwise_iff_getElem.mp (show l.Pairwise fun a b => a = b → False from ?_) i j hi hj hij e
    · exact hp
    · have f0 : (l.filter fun x => x % 2 == 0).Pairwise fun a b => a = b → False := (List.pairwise_map.mp a0).imp fun hne e => hne (by rw [e])
      have f1 : (l.filter fun x => x % 2 == 1).Pairwise fun a b => a = b → False := (List.pairwise_map.mp a1).imp fun hne e => hne (by rw [e])
      rw [List.pairwise_filter] at f0 f1
      refine List.Pairwise.imp₂ (R := fun a b => (a % 2 == 0) = true → (b % 2 == 0) = true → a = b → False) (S := fun a b => (a % 2 == 1) = true → (b % 2 == 1) = true → a = b → False) ?_ f0 f1
      intro a b g0 g1 e
      subst e
      obtain z | z : a % 2 = 0 ∨ a % 2 = 1 := by omega
      · exact g0 (by rw [z]; rfl) (by rw [z]; rfl) rfl
      · exact g1 (by rw [z]; rfl) (by rw [z]; rfl) rfl
def hashN (r : Row) : Nat := (rowHash r + 18446744073709551616).toNat
theorem apart0 : apart 70 ((growN 0 [[]]).map hashN) = true := by decide +kernel
theorem apart1 : apart 70 ((growN 1 [[]]).map hashN) = true := by decide +kernel
theorem apart2 : apart 70 ((growN 2 [[]]).map hashN) = true := by decide +kernel
theorem apart3 : apart 70 ((growN 3 [[]]).map hashN) = true := by decide +kernel
theorem apart4 : apart 70 ((growN 4 [[]]).map hashN) = true := by decide +kernel
theorem inj_of_nd {α β : Type} {f : α → β} {l : List α} (h : (l.map f).Nodup) {x y : α} (hx : x ∈ l) (hy : y ∈ l) (e : f x = f y) : x = y := by
  obtain ⟨i, hi, rfl⟩ := List.getElem_of_mem hx
  obtain ⟨j, hj, rfl⟩ := List.getElem_of_mem hy
  have hp := List.pairwise_iff_getElem.mp h
  rcases Nat.lt_trichotomy i j with g | g | g
  · exact absurd (by rw [List.getElem_map, List.getElem_map]; exact e) (hp i j (by rw [List.length_map]; exact hi) (by rw [List.length_map]; exact hj) g)
  · subst g; rfl
  · exact absurd (by rw [List.getElem_map, List.getElem_map]; exact e.symm) (hp j i (by rw [List.length_map]; exact hj) (by rw [List.length_map]; exact hi) g)
/-- the lines of one level do not hash alike -/
theorem hash_nd {rs : List Row} {n : Nat} (nd : rs.Nodup) (h : LvOk rs n) (n4 : n ≤ 4) : (rs.map rowHash).Nodup := by
  have all : ((growN n [[]]).map hashN).Nodup := by
    obtain rfl | rfl | rfl | rfl | rfl : n = 0 ∨ n = 1 ∨ n = 2 ∨ n = 3 ∨ n = 4 := by omega
    · exact apart_nd _ _ apart0
    · exact apart_nd _ _ apart1
    · exact apart_nd _ _ apart2
    · exact apart_nd _ _ apart3
    · exact apart_nd _ _ apart4
  have mem : ∀ r ∈ rs, r ∈ growN n [[]] := fun r hr => mem_growN.mpr ⟨[], List.mem_singleton.mpr rfl, r, (h r hr).2, (h r hr).1, rfl⟩
  refine List.pairwise_map.mpr (List.Pairwise.imp_of_mem (fun {a b} ha hb hne e => ?_) nd)
  exact hne (inj_of_nd all (mem a ha) (mem b hb) (by unfold hashN; rw [e]))
section
variable {K : PySem.W.Frag} {H : Hp} {Q : VK}
theorem r_dictR {a : Addr} {kvs : List (List Key × V)} {rs : List Row} (h : Rd H a (.dT kvs)) (e : kvs.map (·.1) = rs.map keyL) (n : (rs.map rowHash).Nodup) (q : ∀ p, H p = none → Q (.ref p) (upd H p (.dT kvs))) : rDictT [.ref a] H Q := ⟨a, kvs, rs, rfl, h, e, n, q⟩
end
end Hx

/-! # copies of a dict's keys as rows; regions of lines -/
namespace Hx
open PySem PySem.Spec PyProof.Rows L2
theorem pe_fldK {X : Cx} {K : PySem.W.Frag} {e : Expr} {f : Str} {pos : Pos} {ta : TE} (hK : X.K = K) (he : PE X e ta) (hb : attributeBase e f X.env (eval e X.env) = eval e X.env) : PE X (.Attribute e f pos) (tFld K ta f) := by
  subst hK
  exact pe_fld he hb
section
variable {K : PySem.W.Frag} {H : Hp} {Q : VK} {σ : L2.St} {te : TE}
theorem r_linesO {C p dx d : Addr} {lv : Int} {mg : Str → Option Value} (h : H p = some (.ins C dx (rflds lv d))) (rc : RegC K mg C) (q : Q (.ref d) H) : rFld K "lines" (.ref p) H Q := ⟨p, C, dx, _, _, rfl, h, rc.cl, rc.nN, rflds_lines lv d, q⟩
/-- a list of new rows out of the keys of a dict that is locked -/
theorem c_keysR {d : Addr} {o : Obj} {L : List Row} {j : Nat} {vs : List Nat} (h : H d = some (.frz o (.dT (kvR L)))) (hz : L.length ≤ 100000) (hw : ∀ x : V, wipe ((wipe σ vs).set j (some x)) vs = wipe σ vs)
    (hs : ∀ r t H' (R : VK), r ∈ L → Same H H' → Tl H' (.ref t) r → (∀ p H4, Same H' H4 → H' p = none → H4 p = some (.lst (r.map V.int)) → R (.ref p) H4) → te ((wipe σ vs).set j (some (.ref t))) H' R)
    (hq : ∀ l us H', Same H H' → H l = none → H' l = some (.lst us) → RwtX l H' us L → Q (.ref l) H') : lcR (gName j) tYes te vs σ Q (Itkt d o (kvR L)) H := by
  refine c_keys (kvR_keys L) (fun D i H' => i ≤ L.length ∧ Same H H' ∧ ∃ us, H' D = some (.lst us) ∧ RwtX D H' us (L.take i)) (fun D hD => ⟨Nat.zero_le _, same_new hD, [], upd_same, .nil⟩) (fun D i H' hD hi ⟨_, s, _⟩ => s _ _ h) (fun D i r x H' hD hr ⟨hi, s, us, hu, hrw⟩ hx => ?_) (fun D H' hD ⟨_, s, us, hu, hrw⟩ => ?_)
  · have hl := (List.getElem?_eq_some_iff.mp hr).1
    have hul := pr_len hrw
    rw [List.length_take] at hul
    obtain ⟨t, rfl, ht⟩ := hx
    refine ⟨hw _, w_put1 (hs r t H' _ (List.mem_of_getElem? hr) s ⟨t, rfl, ht⟩ fun p H4 s4 hp h4 => ⟨us, s4 _ _ hu, Nat.lt_of_le_of_lt (show us.length ≤ 100000 by omega) (by decide), hl, (s.trans s4).mut hD, us ++ [.ref p], upd_same, ?_⟩)⟩
    have hne : p ≠ D := (ne_of_none hu hp).symm
    rw [take_snoc hr]
    exact pr_snoc (RwtX.sm s4 hrw).put ⟨p, rfl, hne, upd_at hne h4⟩
  · rw [List.take_length] at hrw
    exact hq D us H' s hD hu hrw
/-- the keys of a dict that is locked, those that a test lets by -/
theorem c_keysT {d : Addr} {o : Obj} {L : List Row} {f : Row → Bool} {j : Nat} {tt : TT} {vs : List Nat} (h : H d = some (.frz o (.dT (kvR L)))) (hz : L.length ≤ 100000) (hw : ∀ x : V, wipe ((wipe σ vs).set j (some x)) vs = wipe σ vs)
    (ht : ∀ r t H' (R : Bool → Hp → Prop), r ∈ L → Same H H' → Tl H' (.ref t) r → R (f r) H' → tt ((wipe σ vs).set j (some (.ref t))) H' R)
    (hs : ∀ t H' (R : VK), Same H H' → R (.ref t) H' → te ((wipe σ vs).set j (some (.ref t))) H' R)
    (hq : ∀ l us H', Same H H' → H l = none → H' l = some (.lst us) → Tls H' us (L.filter f) → Q (.ref l) H') : lcR (gName j) tt te vs σ Q (Itkt d o (kvR L)) H := by
  refine c_keys (kvR_keys L) (fun D i H' => i ≤ L.length ∧ Same H H' ∧ ∃ us, H' D = some (.lst us) ∧ us.length ≤ i ∧ Tls H' us ((L.take i).filter f)) (fun D hD => ⟨Nat.zero_le _, same_new hD, [], upd_same, Nat.le_refl _, .nil⟩) (fun D i H' hD hi ⟨_, s, _⟩ => s _ _ h) (fun D i r x H' hD hr ⟨hi, s, us, hu, hul, hrw⟩ hx => ?_) (fun D H' hD ⟨_, s, us, hu, _, hrw⟩ => ?_)
  · have hl := (List.getElem?_eq_some_iff.mp hr).1
    obtain ⟨t, rfl, htt⟩ := hx
    refine ⟨hw _, ht r t H' _ (List.mem_of_getElem? hr) s ⟨t, rfl, htt⟩ (w_putB (fun hb => hs t H' _ s ⟨us, hu, Nat.lt_of_le_of_lt (show us.length ≤ 100000 by omega) (by decide), hl, s.mut hD, us ++ [.ref t], upd_same, by rw [List.length_append]; show us.length + 1 ≤ _; omega, ?_⟩) (fun hb => ⟨hl, s, us, hu, by omega, ?_⟩))⟩
    · rw [filter_snoc _ hr, if_pos hb]
      exact pr_snoc (Tls.putr hu hrw) (Tl.putr hu ⟨t, rfl, htt⟩)
    · rw [filter_snoc _ hr, if_neg (by rw [hb]; decide), List.append_nil]
      exact hrw
  · rw [List.take_length] at hrw
    exact hq D us H' s hD hu hrw
end
theorem lock_but {H0 H H' : Hp} {d p : Addr} {od : Obj} {kvs : List (List Key × V)} (h : H d = some (.dT kvs)) (s : Same H0 H) (k : But p (upd H d (.frz od (.dT kvs))) H') (n : H0 p = none) : Same H0 (upd H' d (.dT kvs)) := fun b o e => by
  by_cases z : b = d
  · subst z
    rw [upd_same, ← h, s _ _ e]
  · rw [upd_ne z]
    exact k b o (upd_at z (s _ _ e)) (ne_of_none e n)
theorem lines_one {r : Row} {n : Nat} (h : r.length = n) : linesFrom r (n : Int) = [r] := by
  unfold linesFrom
  rw [show ((n : Int) - r.length).toNat = 0 by omega]
  rfl
theorem flat_one {L : List Row} {n : Nat} (h : LvOk L n) : (L.flatMap fun b => linesFrom b (n : Int)) = L := by
  induction L with
  | nil => rfl
  | cons r t ih =>
    rw [List.flatMap_cons, lines_one (h r List.mem_cons_self).1, ih fun x hx => h x (List.mem_cons_of_mem _ hx)]
    rfl
theorem mem_same {L : List Row} {n : Nat} (h : LvOk L n) {w : Row} : w ∈ linesOf L (n : Int) ↔ w ∈ L := by
  unfold linesOf
  rw [flat_one h, insAll_mem]
  exact ⟨fun z => z.resolve_left (by intro y; cases y), .inr⟩
theorem lv_same {L M : List Row} {n : Nat} (h : LvOk L n) (e : ∀ w, w ∈ M ↔ w ∈ L) : LvOk M n := fun w hw => h w ((e w).mp hw)
theorem len_same {L M : List Row} (h : L.Nodup) (g : M.Nodup) (e : ∀ w, w ∈ M ↔ w ∈ L) : M.length = L.length := ((List.perm_ext_iff_of_nodup g h).mpr e).length_eq
theorem lv_app {L M : List Row} {n : Nat} (h : LvOk L n) (g : LvOk M n) : LvOk (L ++ M) n := fun w hw => (List.mem_append.mp hw).elim (h w) (g w)
theorem lv_filter {L : List Row} {n : Nat} (f : Row → Bool) (h : LvOk L n) : LvOk (L.filter f) n := fun w hw => h w (List.mem_filter.mp hw).1
end Hx

/-! # levels of places: plain laws; dicts from places to numbers, dicts of places -/
namespace Hx
open PySem PySem.Spec PyProof.Rows L2
abbrev Plc := Int × Int
def getG (m : List (Plc × Int)) (p : Plc) : Option Int := (m.find? fun e => decide (e.1 = p)).map (·.2)
def kvG (m : List (Plc × Int)) : List (List Key × V) := m.map fun e => (keyOf e.1, .int e.2)
theorem getG_cons (e : Plc × Int) (m : List (Plc × Int)) (p : Plc) : getG (e :: m) p = if e.1 = p then some e.2 else getG m p := by
  unfold getG
  rw [List.find?_cons]
  by_cases h : e.1 = p
  · rw [if_pos h, decide_eq_true h]; rfl
  · rw [if_neg h, decide_eq_false h]
theorem valV_kvG (m : List (Plc × Int)) (p : Plc) : valV (kvG m) (keyOf p) = (getG m p).map V.int := by
  induction m with
  | nil => rfl
  | cons e t ih =>
    rw [getG_cons]
    by_cases h : e.1 = p
    · rw [if_pos h]
      exact valV_pos (p := (keyOf e.1, V.int e.2)) (by show keyOf e.1 = keyOf p; rw [h])
    · rw [if_neg h, ← ih]
      exact valV_neg (p := (keyOf e.1, V.int e.2)) fun z => h (keyOf_inj z)
theorem putK_kvG {m : List (Plc × Int)} {p : Plc} {v : Int} (h : getG m p = none) : putK (kvG m) (keyOf p) (.int v) = kvG (m ++ [(p, v)]) := by
  rw [putK_new _ (by rw [valV_kvG, h]; rfl)]
  unfold kvG
  rw [List.map_append]
  rfl
theorem kvG_len (m : List (Plc × Int)) : (kvG m).length = m.length := List.length_map _
theorem kvG_keys (m : List (Plc × Int)) : (kvG m).map (·.1) = ((m.map (·.1)).map prow).map keyL := by
  unfold kvG
  rw [List.map_map, List.map_map, List.map_map]
  rfl
theorem getG_mem {m : List (Plc × Int)} {p : Plc} {v : Int} (h : getG m p = some v) : (p, v) ∈ m := by
  induction m with
  | nil => cases h
  | cons e t ih =>
    rw [getG_cons] at h
    by_cases g : e.1 = p
    · rw [if_pos g] at h
      cases h
      rw [← g]
      exact List.mem_cons_self
    · rw [if_neg g] at h
      exact List.mem_cons_of_mem _ (ih h)
theorem getG_none {m : List (Plc × Int)} {p : Plc} : getG m p = none ↔ p ∉ m.map (·.1) := by
  induction m with
  | nil => exact ⟨fun _ z => (by cases z), fun _ => rfl⟩
  | cons e t ih =>
    rw [getG_cons, List.map_cons, List.mem_cons]
    by_cases g : e.1 = p
    · rw [if_pos g]
      exact ⟨fun z => (by cases z), fun z => absurd (Or.inl g.symm) z⟩
    · rw [if_neg g, ih]
      exact ⟨fun z y => y.elim (fun x => g x.symm) z, fun z y => z (.inr y)⟩
theorem getG_some {m : List (Plc × Int)} {p : Plc} (h : p ∈ m.map (·.1)) : ∃ v, getG m p = some v := by
  cases e : getG m p with
  | none => exact absurd h (getG_none.mp e)
  | some v => exact ⟨v, rfl⟩
theorem getG_of {m : List (Plc × Int)} {p : Plc} {v : Int} (nd : (m.map (·.1)).Nodup) (h : (p, v) ∈ m) : getG m p = some v := by
  induction m with
  | nil => cases h
  | cons e t ih =>
    rw [List.map_cons, List.nodup_cons] at nd
    rw [getG_cons]
    rcases List.mem_cons.mp h with h | h
    · subst h
      rw [if_pos rfl]
    · have : e.1 ≠ p := fun z => nd.1 (by rw [z]; exact List.mem_map.mpr ⟨_, h, rfl⟩)
      rw [if_neg this]
      exact ih nd.2 h
theorem getG_snoc {m : List (Plc × Int)} {f : Plc} {w : Int} (h : getG m f = none) (p : Plc) : getG (m ++ [(f, w)]) p = if p = f then some w else getG m p := by
  induction m with
  | nil =>
    rw [List.nil_append, getG_cons]
    by_cases g : p = f
    · rw [if_pos g, if_pos g.symm]
    · rw [if_neg g, if_neg (fun z => g z.symm)]
  | cons e t ih =>
    rw [getG_cons] at h
    by_cases g : e.1 = f
    · rw [if_pos g] at h; cases h
    · rw [if_neg g] at h
      rw [List.cons_append, getG_cons, getG_cons, ih h]
      by_cases k : e.1 = p
      · rw [if_pos k, if_pos k, if_neg (fun z => g (k.trans z))]
      · rw [if_neg k, if_neg k]
/-! ### what the levels are -/
structure Dst (S : Plc → Prop) (o : Plc) (m : List (Plc × Int)) : Prop where
  nd : (m.map (·.1)).Nodup
  st : getG m o = some 0
  inS : ∀ p v, getG m p = some v → S p
  pos : ∀ p v, getG m p = some v → 0 ≤ v
  back : ∀ p v, getG m p = some v → p ≠ o → 1 ≤ v ∧ ∃ q ∈ nbrs p, getG m q = some (v - 1)
  full : ∀ p v, getG m p = some v → ∀ q ∈ nbrs p, S q → ∃ u, getG m q = some u ∧ u ≤ v + 1
structure Mid (S : Plc → Prop) (o : Plc) (k : Int) (E : List Plc) (m : List (Plc × Int)) (A dn : List Plc) : Prop where
  nd : (m.map (·.1)).Nodup
  st : getG m o = some 0
  inS : ∀ p v, getG m p = some v → S p
  k0 : 0 ≤ k
  le : ∀ p v, getG m p = some v → 0 ≤ v ∧ v ≤ k + 1
  back : ∀ p v, getG m p = some v → p ≠ o → 1 ≤ v ∧ ∃ q ∈ nbrs p, getG m q = some (v - 1)
  edge : ∀ p, p ∈ E ↔ getG m p = some k
  ahead : ∀ p, p ∈ A ↔ getG m p = some (k + 1)
  full : ∀ p v, getG m p = some v → v < k → ∀ q ∈ nbrs p, S q → ∃ u, getG m q = some u ∧ u ≤ v + 1
  cov : ∀ p ∈ dn, ∀ q ∈ nbrs p, S q → ∃ u, getG m q = some u
structure Lev (S : Plc → Prop) (o : Plc) (k : Int) (m : List (Plc × Int)) (E : List Plc) : Prop where
  nd : (m.map (·.1)).Nodup
  st : getG m o = some 0
  inS : ∀ p v, getG m p = some v → S p
  k0 : 0 ≤ k
  le : ∀ p v, getG m p = some v → 0 ≤ v ∧ v ≤ k
  back : ∀ p v, getG m p = some v → p ≠ o → 1 ≤ v ∧ ∃ q ∈ nbrs p, getG m q = some (v - 1)
  edge : ∀ p, p ∈ E ↔ getG m p = some k
  full : ∀ p v, getG m p = some v → v < k → ∀ q ∈ nbrs p, S q → ∃ u, getG m q = some u ∧ u ≤ v + 1
section
variable {S : Plc → Prop} {o : Plc} {k : Int} {m : List (Plc × Int)} {E A dn : List Plc}
theorem lev0 (h : S o) : Lev S o 0 [(o, 0)] [o] := by
  have g : ∀ p, getG [(o, (0 : Int))] p = if o = p then some 0 else none := fun p => getG_cons _ _ _
  have k1 : ∀ p v, getG [(o, (0 : Int))] p = some v → p = o ∧ v = 0 := fun p v e => by
    rw [g] at e
    by_cases z : o = p
    · rw [if_pos z] at e
      cases e
      exact ⟨z.symm, rfl⟩
    · rw [if_neg z] at e; cases e
  refine ⟨by simp, by rw [g, if_pos rfl], fun p v e => by rw [(k1 p v e).1]; exact h, Int.le_refl _, fun p v e => by rw [(k1 p v e).2]; omega, fun p v e z => absurd (k1 p v e).1 z, fun p => ?_, fun p v e z => by have := (k1 p v e).2; omega⟩
  rw [List.mem_singleton, g]
  by_cases z : o = p
  · rw [if_pos z]; exact ⟨fun _ => rfl, fun _ => z.symm⟩
  · rw [if_neg z]; exact ⟨fun y => absurd y.symm z, fun y => by cases y⟩
theorem Lev.mid (h : Lev S o k m E) : Mid S o k E m [] [] := by
  refine ⟨h.nd, h.st, h.inS, h.k0, fun p v e => by have := h.le p v e; omega, h.back, h.edge, fun p => ⟨fun z => (by cases z), fun z => ?_⟩, h.full, fun p hp => (by cases hp)⟩
  have := h.le p _ z
  omega
theorem Mid.add (h : Mid S o k E m A dn) {p q : Plc} (hp : p ∈ E) (hq : q ∈ nbrs p) (hS : S q) (hn : getG m q = none) : Mid S o k E (m ++ [(q, k + 1)]) (A ++ [q]) dn := by
  have g := getG_snoc (w := k + 1) hn
  have up : ∀ r v, getG m r = some v → getG (m ++ [(q, k + 1)]) r = some v := fun r v e => by
    rw [g, if_neg (fun z => by rw [z, hn] at e; cases e)]
    exact e
  have dn' : ∀ r v, getG (m ++ [(q, k + 1)]) r = some v → (r = q ∧ v = k + 1) ∨ getG m r = some v := fun r v e => by
    rw [g] at e
    by_cases z : r = q
    · rw [if_pos z] at e
      exact .inl ⟨z, (Option.some.inj e).symm⟩
    · rw [if_neg z] at e
      exact .inr e
  have hk := h.k0
  refine ⟨?_, up _ _ h.st, fun r v e => ?_, hk, fun r v e => ?_, fun r v e z => ?_, fun r => ?_, fun r => ?_, fun r v e z s hs hS2 => ?_, fun r hr s hs hS2 => ?_⟩
  · rw [List.map_append]
    exact nodup_snoc h.nd (getG_none.mp hn)
  · rcases dn' r v e with ⟨rfl, _⟩ | e
    · exact hS
    · exact h.inS r v e
  · rcases dn' r v e with ⟨_, rfl⟩ | e
    · omega
    · exact h.le r v e
  · rcases dn' r v e with ⟨rfl, rfl⟩ | e
    · refine ⟨by omega, p, nbrs_back hq, ?_⟩
      rw [show k + 1 - 1 = k by omega]
      exact up _ _ ((h.edge p).mp hp)
    · obtain ⟨h1, s, hs, es⟩ := h.back r v e z
      exact ⟨h1, s, hs, up _ _ es⟩
  · rw [h.edge]
    constructor
    · exact up r k
    · intro e
      rcases dn' r k e with ⟨_, z⟩ | e
      · omega
      · exact e
  · rw [List.mem_append, List.mem_singleton, h.ahead]
    constructor
    · rintro (e | rfl)
      · exact up r _ e
      · rw [g, if_pos rfl]
    · intro e
      rcases dn' r _ e with ⟨z, _⟩ | e
      · exact .inr z
      · exact .inl e
  · rcases dn' r v e with ⟨_, rfl⟩ | e
    · omega
    · obtain ⟨u, eu, hu⟩ := h.full r v e z s hs hS2
      exact ⟨u, up _ _ eu, hu⟩
  · obtain ⟨u, eu⟩ := h.cov r hr s hs hS2
    exact ⟨u, up _ _ eu⟩
theorem Mid.done (h : Mid S o k E m A dn) {p : Plc} (c : ∀ q ∈ nbrs p, S q → ∃ u, getG m q = some u) : Mid S o k E m A (dn ++ [p]) := by
  refine ⟨h.nd, h.st, h.inS, h.k0, h.le, h.back, h.edge, h.ahead, h.full, fun r hr s hs hS => ?_⟩
  rcases List.mem_append.mp hr with hr | hr
  · exact h.cov r hr s hs hS
  · rw [List.mem_singleton] at hr
    subst hr
    exact c s hs hS
theorem Mid.lev (h : Mid S o k E m A E) : Lev S o (k + 1) m A := by
  have hk := h.k0
  refine ⟨h.nd, h.st, h.inS, by omega, h.le, h.back, h.ahead, fun p v e z q hq hS => ?_⟩
  by_cases y : v < k
  · exact h.full p v e y q hq hS
  · have : v = k := by omega
    subst this
    obtain ⟨u, eu⟩ := h.cov p ((h.edge p).mpr e) q hq hS
    exact ⟨u, eu, (h.le q u eu).2⟩
theorem Lev.dst (h : Lev S o k m []) : Dst S o m := by
  refine ⟨h.nd, h.st, h.inS, fun p v e => (h.le p v e).1, h.back, fun p v e q hq hS => h.full p v e ?_ q hq hS⟩
  have h1 := (h.le p v e).2
  by_cases z : v = k
  · subst z
    have := (h.edge p).mpr e
    cases this
  · omega
theorem nd_len {cs : List Plc} {m : List (Plc × Int)} (nd : (m.map (·.1)).Nodup) (h : ∀ p v, getG m p = some v → p ∈ cs) : m.length ≤ cs.length := by
  have := List.Nodup.length_le_of_subset nd (l₂ := cs) fun p hp => by
    obtain ⟨v, hv⟩ := getG_some hp
    exact h p v hv
  rwa [List.length_map] at this
theorem Dst.le_of {m' : List (Plc × Int)} (h : Dst S o m) (g : Dst S o m') : ∀ (n : Nat) (p : Plc) (v : Int), v.toNat ≤ n → getG m p = some v → ∃ u, getG m' p = some u ∧ u ≤ v
  | n, p, v, hn, e => by
    have h0 := h.pos p v e
    by_cases z : p = o
    · subst z
      exact ⟨0, g.st, h0⟩
    · obtain ⟨h1, q, hq, eq⟩ := h.back p v e z
      cases n with
      | zero => omega
      | succ n =>
        obtain ⟨u, eu, hu⟩ := Dst.le_of h g n q (v - 1) (by omega) eq
        obtain ⟨w, ew, hw⟩ := g.full q u eu p (nbrs_back hq) (h.inS p v e)
        exact ⟨w, ew, by omega⟩
/-- there is but one such dict, but for the order -/
theorem Dst.uniq {m' : List (Plc × Int)} (h : Dst S o m) (g : Dst S o m') (p : Plc) : getG m p = getG m' p := by
  cases e : getG m p with
  | some v =>
    obtain ⟨u, eu, hu⟩ := h.le_of g v.toNat p v (Nat.le_refl _) e
    obtain ⟨w, ew, hw⟩ := g.le_of h u.toNat p u (Nat.le_refl _) eu
    rw [e] at ew
    cases ew
    rw [eu, show u = v by omega]
  | none =>
    cases e2 : getG m' p with
    | none => rfl
    | some v =>
      obtain ⟨u, eu, _⟩ := g.le_of h v.toNat p v (Nat.le_refl _) e2
      rw [e] at eu
      cases eu
end
/-! ### how long the address of a near place is -/
theorem lowF_len : ∀ (n : Nat) (p : Plc), (lowF n p).length ≤ n
  | 0, _ => Nat.le_refl _
  | n + 1, p => by
    show (if p = (0, 0) then [] else restOf p :: lowF n (centreOf p)).length ≤ n + 1
    split
    · exact Nat.zero_le _
    · rw [List.length_cons]
      exact Nat.succ_le_succ (lowF_len n _)
def Sml (p : Plc) : Prop := -10 ≤ p.1 ∧ p.1 ≤ 10 ∧ -10 ≤ p.2 ∧ p.2 ≤ 10
theorem sml_len {p : Plc} (h : Sml p) : (addrOf p).length ≤ 1000 := by
  have h1 : (addrOf p).length ≤ (nrm p).toNat := by
    unfold addrOf
    rw [List.length_reverse]
    exact lowF_len _ _
  obtain ⟨x, y⟩ := p
  obtain ⟨a1, a2, b1, b2⟩ := h
  simp only at a1 a2 b1 b2
  have a := sq_le (x := x.natAbs) (y := 10) (by omega) (by omega)
  have b := sq_le (x := y.natAbs) (y := 10) (by omega) (by omega)
  have c1 : (x.natAbs : Int) * x.natAbs = x * x := Int.natAbs_mul_self
  have c2 : (y.natAbs : Int) * y.natAbs = y * y := Int.natAbs_mul_self
  have d0 := sq_nonneg (x - y)
  have e2 : (x - y) * (x - y) = x * x - 2 * (x * y) + y * y := by grind
  have e3 : nrm (x, y) = x * x + x * y + y * y := rfl
  omega
theorem rest_small {f : Int} (h0 : 0 ≤ f) (h1 : f ≤ 6) : -1 ≤ (restPlace f).1 ∧ (restPlace f).1 ≤ 1 ∧ -1 ≤ (restPlace f).2 ∧ (restPlace f).2 ≤ 1 := by
  obtain rfl | rfl | rfl | rfl | rfl | rfl | rfl := fig_cases h0 h1 <;> decide
theorem place_small {r : Row} (hf : Figs r) (hl : r.length ≤ 2) : -5 ≤ (placeOf r).1 ∧ (placeOf r).1 ≤ 5 ∧ -5 ≤ (placeOf r).2 ∧ (placeOf r).2 ≤ 5 := by
  match r, hf, hl with
  | [], _, _ => decide
  | [f], hf, _ =>
    have h := rest_small (hf f (by simp)).1 (hf f (by simp)).2
    have e : placeOf [f] = (0 + (restPlace f).1, 0 + (restPlace f).2) := rfl
    rw [e]
    simp only
    omega
  | [f, g], hf, _ =>
    have h := rest_small (hf f (by simp)).1 (hf f (by simp)).2
    have h2 := rest_small (hf g (by simp)).1 (hf g (by simp)).2
    have e : placeOf [f, g] = (2 * (0 + (restPlace f).1) - (0 + (restPlace f).2) + (restPlace g).1, (0 + (restPlace f).1) + 3 * (0 + (restPlace f).2) + (restPlace g).2) := rfl
    rw [e]
    simp only
    omega
  | _ :: _ :: _ :: _, _, hl => simp at hl
theorem cell_small {L : List Row} {n : Nat} (hL : LvOk L n) (n2 : n ≤ 2) {p : Plc} (h : p ∈ L.map placeOf) : -5 ≤ p.1 ∧ p.1 ≤ 5 ∧ -5 ≤ p.2 ∧ p.2 ≤ 5 := by
  obtain ⟨r, hr, rfl⟩ := List.mem_map.mp h
  exact place_small (hL r hr).2 (by have := (hL r hr).1; omega)
theorem near_small {L : List Row} {n : Nat} (hL : LvOk L n) (n2 : n ≤ 2) {p q : Plc} (h : p ∈ L.map placeOf) (hq : q ∈ nbrs p) : Sml q := by
  have := cell_small hL n2 h
  unfold Sml
  rcases nbrs_cases hq with e | e | e | e | e | e <;> rw [e] <;> simp only <;> omega
theorem cell_sml {L : List Row} {n : Nat} (hL : LvOk L n) (n2 : n ≤ 2) {p : Plc} (h : p ∈ L.map placeOf) : Sml p := by
  have := cell_small hL n2 h
  unfold Sml
  omega
theorem near_restPlace (p : Plc) : nbrs p = ([1, 2, 3, 4, 5, 6] : List Int).map fun f => (p.1 + (restPlace f).1, p.2 + (restPlace f).2) := rfl
/-! ### tracked places -/
abbrev Tps (H : Hp) : List V → List Plc → Prop := Paired fun v p => Tp H v p
theorem Tps.sm {H H' : Hp} {vs : List V} {ps : List Plc} (e : Same H H') (h : Tps H vs ps) : Tps H' vs ps := pr_mono (fun _ _ h => Tp.sm e h) h
theorem Tps.putr {H : Hp} {vs : List V} {ps : List Plc} {q : Addr} {ys : List V} {o : HO} (hq : H q = some (.lst ys)) (h : Tps H vs ps) : Tps (L2.upd H q o) vs ps := pr_mono (fun _ _ h => Tp.putr hq h) h
theorem Tps.putd {H : Hp} {vs : List V} {ps : List Plc} {q : Addr} {ys : List (List Key × V)} {o : HO} (hq : H q = some (.dT ys)) (h : Tps H vs ps) : Tps (L2.upd H q o) vs ps := pr_mono (fun _ _ h => Tp.putd hq h) h
theorem Tp.putf {H : Hp} {v : V} {p : Plc} {q : Addr} {od : Obj} {ys : List (List Key × V)} {o : HO} (hq : H q = some (.frz od (.dT ys))) (h : Tp H v p) : Tp (L2.upd H q o) v p := by
  obtain ⟨a, rfl, h⟩ := h
  exact ⟨a, rfl, upd_at (ne_of h hq (by intro z; cases z)) h⟩
theorem Tps.putf {H : Hp} {vs : List V} {ps : List Plc} {q : Addr} {od : Obj} {ys : List (List Key × V)} {o : HO} (hq : H q = some (.frz od (.dT ys))) (h : Tps H vs ps) : Tps (L2.upd H q o) vs ps := pr_mono (fun _ _ h => Tp.putf hq h) h
theorem Tps.pls {K : PySem.W.Frag} {H : Hp} {vs : List V} {ps : List Plc} (h : Tps H vs ps) : Pls K H vs ps := pr_mono (fun _ _ h => Tp.pl h) h
theorem But.tp {q : Addr} {ys : List (List Key × V)} {H H1 : Hp} {v : V} {p : Plc} (k : But q H H1) (hq : H q = some (.dT ys)) (h : Tp H v p) : Tp H1 v p := by
  obtain ⟨a, e, g⟩ := h
  exact ⟨a, e, k _ _ g (ne_of g hq (by intro z; cases z))⟩
theorem But.tps {q : Addr} {ys : List (List Key × V)} {H H1 : Hp} {vs : List V} {ps : List Plc} (k : But q H H1) (hq : H q = some (.dT ys)) (h : Tps H vs ps) : Tps H1 vs ps := pr_mono (fun _ _ g => k.tp hq g) h
theorem But.same {q : Addr} {H0 H H1 : Hp} (k : But q H H1) (s : Same H0 H) (n : H0 q = none) : Same H0 H1 := fun b o e => k b o (s _ _ e) (ne_of_none e n)
theorem RegAt.but {C : Addr} {H H1 : Hp} {p d q : Addr} {lv : Int} {ks : List Row} (h : RegAt C H p d lv ks) (k : But q H H1) (np : p ≠ q) (nd : d ≠ q) : RegAt C H1 p d lv ks := by
  obtain ⟨⟨dx, h1⟩, h2⟩ := h
  exact ⟨⟨dx, k _ _ h1 np⟩, k _ _ h2 nd⟩
theorem RegAt.ne {C : Addr} {H : Hp} {p d q : Addr} {lv : Int} {ks : List Row} (h : RegAt C H p d lv ks) (n : H q = none) : p ≠ q ∧ d ≠ q := by
  obtain ⟨⟨dx, h1⟩, h2⟩ := h
  exact ⟨ne_of_none h1 n, ne_of_none h2 n⟩
/-! ### the rules -/
def kvC (ps : List Plc) : List (List Key × V) := kvR (ps.map prow)
theorem kvC_isSome (ps : List Plc) (p : Plc) : (valV (kvC ps) (keyOf p)).isSome = decide (p ∈ ps) := by
  have := kvR_isSome (ps.map prow) (prow p)
  rw [show keyL (prow p) = keyOf p from rfl] at this
  unfold kvC
  rw [this]
  exact decide_eq_decide.mpr mem_prow
theorem kvC_len (ps : List Plc) : (kvC ps).length = ps.length := by unfold kvC; rw [kvR_len, List.length_map]
def tFrzE (t : TE) : TE := fun σ H Q => t σ H fun x H1 => ∃ (d : Addr) (kvs : List (List Key × V)), x = .ref d ∧ H1 d = some (.dT kvs) ∧ ∀ od, Q x (upd H1 d (.frz od (.dT kvs)))
/-- the dict that an expression makes stays locked -/
theorem pe_frz {X : Cx} {e : Expr} {t : TE} (h : PE X e t) : PE X e (tFrzE t) := by
  refine ⟨fun pins s σ H Q I hw => thn (h.run pins s σ H _ I hw) fun u s1 ⟨x, H1, I1, rx, d, kvs, ex, hd, q⟩ => ?_⟩
  obtain ⟨od, I2⟩ := I1.lock hd True.intro
  exact ⟨x, _, I2, rx, q od⟩
section
variable {K : PySem.W.Frag} {H : Hp} {Q : VK} {v x y z : V} {σ : L2.St} {te tv : TE}
def rFrz (x : V) (H1 : Hp) (Q : VK) : Prop := ∃ (d : Addr) (kvs : List (List Key × V)), x = .ref d ∧ H1 d = some (.dT kvs) ∧ ∀ od, Q x (upd H1 d (.frz od (.dT kvs)))
theorem w_frz (h : te σ H fun x H1 => rFrz x H1 Q) : tFrzE te σ H Q := h
theorem r_frz {d : Addr} {kvs : List (List Key × V)} (h : H d = some (.dT kvs)) (q : ∀ od, Q (.ref d) (upd H d (.frz od (.dT kvs)))) : rFrz (.ref d) H Q := ⟨d, kvs, rfl, h, q⟩
def rDOne (p : Addr) (y v : V) (H2 : Hp) (Q : VK) : Prop := ∃ (k : List Key) (b : Addr), y = .ref b ∧ H2 b = some (.tup (k.map kV)) ∧ H2 p = some (.dT []) ∧ Q (.ref p) (upd H2 p (.dT [(k, v)]))
theorem w_dOne (h : ∀ p, H p = none → te σ (upd H p (.dT [])) fun y H1 => tv σ H1 fun v H2 => rDOne p y v H2 Q) : tDOne te tv σ H Q := h
theorem r_dOneG {p : Addr} {o : Plc} {i : Int} (g : Tp H y o) (h : H p = some (.dT [])) (q : Q (.ref p) (upd H p (.dT (kvG [(o, i)])))) : rDOne p y (.int i) H Q := by
  obtain ⟨b, rfl, g⟩ := g
  exact ⟨keyOf o, b, rfl, g, h, q⟩
theorem r_dInG {a : Addr} {m : List (Plc × Int)} {p : Plc} (h : Rd H a (.dT (kvG m))) (g : Tp H v p) (q : Q (.bl (getG m p).isSome) H) : rDIn false (.ref a) v H Q := by
  refine r_dInL (r := prow p) h g ?_
  rw [show keyL (prow p) = keyOf p from rfl, valV_kvG, Option.isSome_map]
  exact q
theorem r_dNotInG {a : Addr} {m : List (Plc × Int)} {p : Plc} (h : Rd H a (.dT (kvG m))) (g : Tp H v p) (q : Q (.bl (!(getG m p).isSome)) H) : rDIn true (.ref a) v H Q := by
  refine r_dNotInL (r := prow p) h g ?_
  rw [show keyL (prow p) = keyOf p from rfl, valV_kvG, Option.isSome_map]
  exact q
theorem r_dGetG {a : Addr} {m : List (Plc × Int)} {p : Plc} {i : Int} (h : Rd H a (.dT (kvG m))) (g : Tp H v p) (e : getG m p = some i) (q : Q (.int i) H) : rDGet (.ref a) v H Q :=
  r_dGetL (r := prow p) h g (by rw [show keyL (prow p) = keyOf p from rfl, valV_kvG, e]; rfl) q
theorem r_dPutG {a : Addr} {m : List (Plc × Int)} {p : Plc} {i : Int} {R : Hp → Prop} (h : H a = some (.dT (kvG m))) (g : Tp H v p) (e : getG m p = none) (z : m.length ≤ 100000) (q : R (upd H a (.dT (kvG (m ++ [(p, i)]))))) : rDPut (.ref a) v (.int i) H R := by
  refine r_dPutL (r := prow p) h g (by rw [kvG_len]; exact z) ?_
  rw [show keyL (prow p) = keyOf p from rfl, putK_kvG e]
  exact q
theorem r_dG2G {a : Addr} {m : List (Plc × Int)} {p : Plc} {i : Int} (h : Rd H a (.dT (kvG m))) (g : Tp H v p) (q : Q (.int ((getG m p).getD i)) H) : rDG2 a v (.int i) H Q := by
  refine r_dG2L (r := prow p) h g ?_
  rw [show keyL (prow p) = keyOf p from rfl, valV_kvG]
  cases e : getG m p with
  | none => rw [e] at q; exact q
  | some j => rw [e] at q; exact q
theorem r_dG1G {a : Addr} {m : List (Plc × Int)} {p : Plc} {i : Int} (h : Rd H a (.dT (kvG m))) (g : Tp H v p) (e : getG m p = some i) (q : Q (.int i) H) : rDG1 a v H Q := by
  refine r_dG1L (r := prow p) h g ?_
  rw [show keyL (prow p) = keyOf p from rfl, valV_kvG, e]
  exact q
theorem r_dInC {a : Addr} {ps : List Plc} {p : Plc} (h : Rd H a (.dT (kvC ps))) (g : Tp H v p) (q : Q (.bl (decide (p ∈ ps))) H) : rDIn false (.ref a) v H Q := by
  refine r_dInL (r := prow p) h g ?_
  rw [show keyL (prow p) = keyOf p from rfl, kvC_isSome]
  exact q
theorem r_dNotInC {a : Addr} {ps : List Plc} {p : Plc} (h : Rd H a (.dT (kvC ps))) (g : Tp H v p) (q : Q (.bl (!decide (p ∈ ps))) H) : rDIn true (.ref a) v H Q := by
  refine r_dNotInL (r := prow p) h g ?_
  rw [show keyL (prow p) = keyOf p from rfl, kvC_isSome]
  exact q
end
end Hx

/-! # the places of a region as the keys of a dict -/
namespace Hx
open PySem PySem.Spec PyProof.Rows L2
theorem place_inj {L : List Row} {n : Nat} (hL : LvOk L n) {r q : Row} (hr : r ∈ L) (hq : q ∈ L) (e : placeOf r = placeOf q) : r = q := by
  have h1 := addr_place r (hL r hr).2
  have h2 := addr_place q (hL q hq).2
  rw [e, h2] at h1
  have p1 := pad_bare r
  have p2 := pad_bare q
  rw [(hL r hr).1] at p1
  rw [(hL q hq).1] at p2
  rw [← p1, ← p2, h1]
theorem place_nd {L : List Row} {n : Nat} (nd : L.Nodup) (hL : LvOk L n) : (L.map placeOf).Nodup :=
  List.pairwise_map.mpr (List.Pairwise.imp_of_mem (fun ha hb hne e => hne (place_inj hL ha hb e)) nd)
theorem putK_kvC {ps : List Plc} {p : Plc} (h : p ∉ ps) : putK (kvC ps) (keyOf p) (.bl true) = kvC (ps ++ [p]) := by
  unfold kvC
  rw [show keyOf p = keyL (prow p) from rfl, putK_kvR]
  unfold insK
  rw [if_neg (fun z => h (mem_prow.mp z)), List.map_append]
  rfl
theorem nd_take {α : Type} {l : List α} {i : Nat} {x : α} (nd : l.Nodup) (h : l[i]? = some x) : x ∉ l.take i := by
  intro z
  have h1 : (l.take (i + 1)).Nodup := List.Pairwise.sublist (List.take_sublist _ _) nd
  rw [List.take_add_one, h] at h1
  exact (List.nodup_append.mp h1).2.2 x z x (by simp) rfl
theorem r_dPutC {H : Hp} {v : V} {a : Addr} {ps : List Plc} {p : Plc} {R : Hp → Prop} (h : H a = some (.dT (kvC ps))) (g : Tp H v p) (e : p ∉ ps) (z : ps.length ≤ 100000) (q : R (upd H a (.dT (kvC (ps ++ [p]))))) : rDPut (.ref a) v (.bl true) H R := by
  refine r_dPutL (r := prow p) h g (by rw [kvC_len]; exact z) ?_
  rw [show keyL (prow p) = keyOf p from rfl, putK_kvC e]
  exact q
theorem kvC_keys (ps : List Plc) : (kvC ps).map (·.1) = (ps.map prow).map keyL := kvR_keys _
/-- a key of the sorted places -/
theorem key_place {H : Hp} {v : V} {S : List Row} {ps : List Plc} {r : Row} (pm : S.Perm (ps.map prow)) (hr : r ∈ S) (h : Tl H v r) : ∃ p, p ∈ ps ∧ Tp H v p := by
  obtain ⟨p, hp, rfl⟩ := List.mem_map.mp (pm.mem_iff.mp hr)
  exact ⟨p, hp, h⟩
theorem prow_ne (ps : List Plc) : (ps.map prow).length < 2 ∨ ∀ r ∈ ps.map prow, r ≠ [] := .inr fun r hr => by
  obtain ⟨p, _, rfl⟩ := List.mem_map.mp hr
  exact List.cons_ne_nil _ _
end Hx

/-! # ways down the levels; levels by one queue -/
namespace Hx
open PySem PySem.Spec PyProof.Rows L2
/-- the first neighbour with one less -/
def downG (g : Plc → Option Int) (p : Plc) : Plc := ((nbrs p).find? fun q => decide ((g q).getD (-1) = (g p).getD 0 - 1)).getD p
def dnN (g : Plc → Option Int) (p : Plc) : Nat → Plc
  | 0 => p
  | n + 1 => downG g (dnN g p n)
def wayG (g : Plc → Option Int) (p : Plc) (n : Nat) : List Plc := (List.range n).map (dnN g p)
theorem wayG_len (g : Plc → Option Int) (p : Plc) (n : Nat) : (wayG g p n).length = n := by unfold wayG; rw [List.length_map, List.length_range]
theorem wayG_succ (g : Plc → Option Int) (p : Plc) (n : Nat) : wayG g p (n + 1) = wayG g p n ++ [dnN g p n] := by
  unfold wayG
  rw [List.range_succ, List.map_append]
  rfl
theorem find_at {α : Type} {f : α → Bool} : ∀ {l : List α} {i : Nat} {x : α}, l[i]? = some x → (∀ y ∈ l.take i, f y = false) → f x = true → l.find? f = some x
  | [], _, _, h, _, _ => by simp at h
  | a :: t, 0, x, h, _, hx => by
    simp at h
    subst h
    rw [List.find?_cons, hx]
  | a :: t, i + 1, x, h, hy, hx => by
    have ha : f a = false := hy a (by simp)
    rw [List.find?_cons, ha]
    exact find_at (i := i) (by simpa using h) (fun y h2 => hy y (by simp [h2])) hx
theorem find_no {α : Type} {f : α → Bool} {l : List α} (h : ∀ y ∈ l, f y = false) : l.find? f = none :=
  List.find?_eq_none.mpr fun y hy => by rw [h y hy]; exact Bool.false_ne_true
section
variable {S : Plc → Prop} {o : Plc} {m : List (Plc × Int)}
theorem Dst.nought (h : Dst S o m) {p : Plc} (e : getG m p = some 0) : p = o := Classical.byContradiction fun z => by
  have := (h.back p 0 e z).1
  omega
theorem Dst.down_some (h : Dst S o m) {p : Plc} {w : Int} (e : getG m p = some w) (z : 0 < w) : ∃ q, (nbrs p).find? (fun q => decide ((getG m q).getD (-1) = (getG m p).getD 0 - 1)) = some q ∧ downG (getG m) p = q ∧ getG m q = some (w - 1) := by
  have hp : p ≠ o := fun y => by
    rw [y, h.st] at e
    cases e
    omega
  obtain ⟨h1, q, hq, eq⟩ := h.back p w e hp
  have hs : ((nbrs p).find? fun q => decide ((getG m q).getD (-1) = (getG m p).getD 0 - 1)).isSome = true := by
    rw [List.find?_isSome]
    refine ⟨q, hq, decide_eq_true ?_⟩
    rw [eq, e]
    rfl
  obtain ⟨r, hr⟩ := Option.isSome_iff_exists.mp hs
  refine ⟨r, hr, by unfold downG; rw [hr]; rfl, ?_⟩
  have hb : decide ((getG m r).getD (-1) = (getG m p).getD 0 - 1) = true := List.find?_some (p := fun q => decide ((getG m q).getD (-1) = (getG m p).getD 0 - 1)) hr
  have hc := of_decide_eq_true hb
  rw [e] at hc
  have hc2 : (getG m r).getD (-1) = w - 1 := hc
  cases er : getG m r with
  | none =>
    rw [er] at hc2
    have : (-1 : Int) = w - 1 := hc2
    omega
  | some u =>
    rw [er] at hc2
    have : u = w - 1 := hc2
    rw [this]
theorem Dst.dn_val (h : Dst S o m) {p : Plc} {w : Int} (e : getG m p = some w) : ∀ {n : Nat}, (n : Int) ≤ w → getG m (dnN (getG m) p n) = some (w - n)
  | 0, _ => by
    rw [show w - ((0 : Nat) : Int) = w by omega]
    exact e
  | n + 1, hn => by
    have ih := Dst.dn_val h e (n := n) (by omega)
    obtain ⟨q, _, eq, hv⟩ := h.down_some ih (by omega)
    show getG m (downG (getG m) (dnN (getG m) p n)) = _
    rw [eq, hv]
    congr 1
    omega
theorem Dst.len (h : Dst S o m) {p : Plc} {w : Int} (e : getG m p = some w) : w < (m.length : Int) := by
  have h0 := h.pos p w e
  have nd : (wayG (getG m) p (w.toNat + 1)).Nodup := by
    unfold wayG
    refine List.pairwise_map.mpr (List.Pairwise.imp_of_mem (R := (· ≠ ·)) (fun {a b} ha hb hne z => hne ?_) List.nodup_range)
    rw [List.mem_range] at ha hb
    have e1 := h.dn_val e (n := a) (by omega)
    have e2 := h.dn_val e (n := b) (by omega)
    rw [z, e2] at e1
    have := Option.some.inj e1
    omega
  have := List.Nodup.length_le_of_subset nd (l₂ := m.map (·.1)) fun r hr => by
    unfold wayG at hr
    obtain ⟨k, hk, rfl⟩ := List.mem_map.mp hr
    rw [List.mem_range] at hk
    exact List.mem_map.mpr ⟨_, getG_mem (h.dn_val e (n := k) (by omega)), rfl⟩
  rw [wayG_len, List.length_map] at this
  omega
theorem Dst.eqG {m' : List (Plc × Int)} (h : Dst S o m) (g : Dst S o m') : getG m = getG m' := funext fun p => h.uniq g p
end
/-! ### the queue -/
structure Que (S : Plc → Prop) (o : Plc) (k : Nat) (m : List (Plc × Int)) : Prop where
  nd : (m.map (·.1)).Nodup
  st : getG m o = some 0
  inS : ∀ p v, getG m p = some v → S p
  pos : ∀ p v, getG m p = some v → 0 ≤ v
  back : ∀ p v, getG m p = some v → p ≠ o → 1 ≤ v ∧ ∃ q ∈ nbrs p, getG m q = some (v - 1)
  srt : m.Pairwise fun a b => a.2 ≤ b.2
  bnd : ∀ e ∈ m, ∀ f ∈ m.drop k, e.2 ≤ f.2 + 1
  full : ∀ e ∈ m.take k, ∀ q ∈ nbrs e.1, S q → ∃ u, getG m q = some u ∧ u ≤ e.2 + 1
section
variable {S : Plc → Prop} {o : Plc} {k : Nat} {m : List (Plc × Int)}
theorem que0 (h : S o) : Que S o 0 [(o, 0)] := by
  have l := lev0 (S := S) h
  refine ⟨l.nd, l.st, l.inS, fun p v e => (l.le p v e).1, l.back, List.pairwise_singleton _ _, fun e he f hf => ?_, fun e he => by cases he⟩
  rw [List.drop_zero] at hf
  rw [List.mem_singleton] at he hf
  subst he hf
  show (0 : Int) ≤ 0 + 1
  decide
theorem drop_at {α : Type} {l : List α} {k : Nat} {x : α} (h : l[k]? = some x) : l.drop k = x :: l.drop (k + 1) := by
  obtain ⟨hl, e⟩ := List.getElem?_eq_some_iff.mp h
  rw [List.drop_eq_getElem_cons hl, e]
theorem Que.top (h : Que S o k m) {p : Plc} {v : Int} (e : m[k]? = some (p, v)) {q : Plc} {u : Int} (g : getG m q = some u) : u ≤ v + 1 :=
  h.bnd _ (getG_mem g) (p, v) (by rw [drop_at e]; exact List.mem_cons_self)
theorem Que.add (h : Que S o k m) {p q : Plc} {v : Int} (e : m[k]? = some (p, v)) (hq : q ∈ nbrs p) (hS : S q) (hn : getG m q = none) : Que S o k (m ++ [(q, v + 1)]) := by
  have hk : k < m.length := (List.getElem?_eq_some_iff.mp e).1
  have hpv : getG m p = some v := getG_of h.nd (List.mem_of_getElem? e)
  have v0 := h.pos _ _ hpv
  have g := getG_snoc (w := v + 1) hn
  have up : ∀ r u, getG m r = some u → getG (m ++ [(q, v + 1)]) r = some u := fun r u e => by
    rw [g, if_neg (fun z => by rw [z, hn] at e; cases e)]
    exact e
  have dn' : ∀ r u, getG (m ++ [(q, v + 1)]) r = some u → (r = q ∧ u = v + 1) ∨ getG m r = some u := fun r u e => by
    rw [g] at e
    by_cases z : r = q
    · rw [if_pos z] at e
      exact .inl ⟨z, (Option.some.inj e).symm⟩
    · rw [if_neg z] at e
      exact .inr e
  have hd := drop_at e
  have top : ∀ f ∈ m, f.2 ≤ v + 1 := fun f hf => h.bnd f hf (p, v) (by rw [hd]; exact List.mem_cons_self)
  have low : ∀ f ∈ m.drop k, v ≤ f.2 := fun f hf => by
    have ps : (m.drop k).Pairwise fun a b => a.2 ≤ b.2 := List.Pairwise.sublist (List.drop_sublist _ _) h.srt
    rw [hd] at ps hf
    rcases List.mem_cons.mp hf with z | z
    · rw [z]; exact Int.le_refl _
    · exact (List.pairwise_cons.mp ps).1 f z
  refine ⟨?_, up _ _ h.st, fun r u e => ?_, fun r u e => ?_, fun r u e z => ?_, ?_, fun f hf y hy => ?_, fun f hf s hs hS2 => ?_⟩
  · rw [List.map_append]
    exact nodup_snoc h.nd (getG_none.mp hn)
  · rcases dn' r u e with ⟨rfl, _⟩ | e
    · exact hS
    · exact h.inS r u e
  · rcases dn' r u e with ⟨_, rfl⟩ | e
    · omega
    · exact h.pos r u e
  · rcases dn' r u e with ⟨rfl, rfl⟩ | e
    · refine ⟨by omega, p, nbrs_back hq, ?_⟩
      rw [show v + 1 - 1 = v by omega]
      exact up _ _ hpv
    · obtain ⟨h1, s, hs, es⟩ := h.back r u e z
      exact ⟨h1, s, hs, up _ _ es⟩
  · refine List.pairwise_append.mpr ⟨h.srt, List.pairwise_singleton _ _, fun a ha b hb => ?_⟩
    rw [List.mem_singleton] at hb
    subst hb
    exact top a ha
  · rw [List.drop_append_of_le_length (Nat.le_of_lt hk)] at hy
    rcases List.mem_append.mp hf with hf | hf
    · rcases List.mem_append.mp hy with hy | hy
      · exact h.bnd f hf y hy
      · rw [List.mem_singleton] at hy
        subst hy
        have := top f hf
        show f.2 ≤ v + 1 + 1
        omega
    · rw [List.mem_singleton] at hf
      subst hf
      rcases List.mem_append.mp hy with hy | hy
      · have := low y hy
        show v + 1 ≤ y.2 + 1
        omega
      · rw [List.mem_singleton] at hy
        subst hy
        show v + 1 ≤ v + 1 + 1
        omega
  · rw [List.take_append_of_le_length (Nat.le_of_lt hk)] at hf
    obtain ⟨u, eu, hu⟩ := h.full f hf s hs hS2
    exact ⟨u, up _ _ eu, hu⟩
theorem Que.next (h : Que S o k m) {p : Plc} {v : Int} (e : m[k]? = some (p, v)) (c : ∀ q ∈ nbrs p, S q → ∃ u, getG m q = some u) : Que S o (k + 1) m := by
  refine ⟨h.nd, h.st, h.inS, h.pos, h.back, h.srt, fun f hf y hy => h.bnd f hf y ?_, fun f hf s hs hS => ?_⟩
  · rw [drop_at e]
    exact List.mem_cons_of_mem _ hy
  · rw [take_snoc e] at hf
    rcases List.mem_append.mp hf with hf | hf
    · exact h.full f hf s hs hS
    · rw [List.mem_singleton] at hf
      subst hf
      obtain ⟨u, eu⟩ := c s hs hS
      exact ⟨u, eu, h.top e eu⟩
theorem Que.dst (h : Que S o k m) (hk : m.length ≤ k) : Dst S o m := by
  refine ⟨h.nd, h.st, h.inS, h.pos, h.back, fun p v e q hq hS => h.full (p, v) ?_ q hq hS⟩
  rw [List.take_of_length_le hk]
  exact getG_mem e
end
/-! ### small rules -/
theorem at_last {us : List V} {x : V} (h : us[us.length - 1]? = some x) (h0 : 0 < us.length) : atI us (-1) = some x := by
  unfold atI ixN
  rw [if_neg (by decide), if_pos (by omega), show (-1 + (us.length : Int)).toNat = us.length - 1 by omega]
  exact h
theorem filt_snoc {α : Type} {l : List α} {i : Nat} {x : α} {f : α → Bool} (h : l[i]? = some x) : (l.take (i + 1)).filter f = (l.take i).filter f ++ if f x = true then [x] else [] := by
  rw [take_snoc h, List.filter_append]
  congr 1
  rw [List.filter_cons, List.filter_nil]
theorem keys_tps {H : Hp} {ps : List Plc} : ∀ {us : List V} {S : List Row}, Tls H us S → (∀ r ∈ S, r ∈ ps.map prow) → ∃ qs : List Plc, Tps H us qs ∧ (∀ q ∈ qs, q ∈ ps) ∧ qs.length = S.length
  | _, _, .nil, _ => ⟨[], .nil, fun _ h => (by cases h), rfl⟩
  | _, r :: _, .cons h t, hr => by
    obtain ⟨p, hp, e⟩ := List.mem_map.mp (hr r List.mem_cons_self)
    obtain ⟨qs, g, gi, gl⟩ := keys_tps t fun r2 h2 => hr r2 (List.mem_cons_of_mem _ h2)
    subst e
    exact ⟨p :: qs, .cons h g, fun q hq => (List.mem_cons.mp hq).elim (fun z => z ▸ hp) (gi q), by rw [List.length_cons, List.length_cons, gl]⟩
section
variable {K : PySem.W.Frag} {H : Hp} {Q : VK}
theorem dp_kinds {a k : Addr} {bs : List Bool} (h : H a = some (.tup [.non, .ref k])) (g : H k = some (.lst (bs.map V.bl))) : Dp K H (.ref a) (.tuple [.none, .list (bs.map PyData.bool)]) :=
  .tup (SqT.of h) (.cons .non (.cons (dp_bools (SqL.of g)) .nil))
theorem shaped_kinds (bs : List Bool) : SeqAt.shaped (.tuple [.none, .list (bs.map PyData.bool)]) = true := by
  have h1 : PyData.canLay0 (.tuple [.none, .list (bs.map PyData.bool)]) = true := by
    rw [PyData.canLay0]
    show (true && (PyData.canLay0 (.list (bs.map PyData.bool)) && true)) = true
    rw [PyData.canLay0, canLay_bools]
    rfl
  have h2 : PyData.depth (.tuple [.none, .list (bs.map PyData.bool)]) = 2 := by
    rw [PyData.depth]
    show max 0 (max (PyData.depth (.list (bs.map PyData.bool))) 0) + 1 = 2
    rw [PyData.depth, depth_bools]
    rfl
  unfold SeqAt.shaped
  rw [h1, h2]
  rfl
theorem r_eqKinds {a b k l : Addr} (bs cs : List Bool) (h : H a = some (.tup [.non, .ref k])) (g : H k = some (.lst (bs.map V.bl))) (h2 : H b = some (.tup [.non, .ref l])) (g2 : H l = some (.lst (cs.map V.bl))) (q : Q (.bl (decide (bs = cs))) H) : rEqD K (.ref a) (.ref b) H Q :=
  ⟨_, _, dp_kinds h g, dp_kinds h2 g2, shaped_kinds bs, shaped_kinds cs, by
    have e : PyData.eqv (.tuple [.none, .list (bs.map PyData.bool)]) (.tuple [.none, .list (cs.map PyData.bool)]) = decide (bs = cs) := by
      rw [PyData.eqv]
      show (true && (PyData.eqv (.list (bs.map PyData.bool)) (.list (cs.map PyData.bool)) && true)) = _
      rw [eqv_boolL, Bool.and_true, Bool.true_and]
    rw [e]
    exact q⟩
end
end Hx

local macro_rules | `(tactic| walk_at "fact") => `(tactic| (with_reducible first
  | assumption
  | exact Hx.Pl.new
  | exact Hx.Tp.new
  | exact Hx.Tp.pl (by assumption)
  | ((refine' Hx.Tp.sm ?hs ?hp); (case hs => first | assumption | exact Hx.same_new (by assumption)); (case hp => walk_at "fact"))
  | ((refine' Hx.Tp.putr ?hs ?hp); (case hs => walk_at "ofc"); (case hp => walk_at "fact"))
  | ((refine' Hx.Tp.putd ?hs ?hp); (case hs => walk_at "ofd"); (case hp => walk_at "fact"))
  | exact Hx.sqT_new
  | exact Hx.sqL_new
  | ((refine' Hx.Pl.sm ?hs ?hp); (case hs => first | assumption | exact Hx.same_new (by assumption)); (case hp => walk_at "fact"))
  | ((refine' Hx.Pl.putr ?hs ?hp); (case hs => walk_at "ofc"); (case hp => walk_at "fact"))
  | ((refine' Hx.Pl.putd ?hs ?hp); (case hs => walk_at "ofd"); (case hp => walk_at "fact"))
  | ((refine' Hx.Pls.putd ?hs ?hp); (case hs => walk_at "ofd"); (case hp => walk_at "fact"))
  | ((refine' Hx.SqT_putd ?hs ?hp); (case hs => walk_at "ofd"); (case hp => walk_at "fact"))
  | ((refine' Hx.SqL_putd ?hs ?hp); (case hs => walk_at "ofd"); (case hp => walk_at "fact"))
  | ((refine' Hx.Pls.sm ?hs ?hp); (case hs => first | assumption | exact Hx.same_new (by assumption)); (case hp => walk_at "fact"))
  | ((refine' Hx.Rws.sm ?hs ?hp); (case hs => first | assumption | exact Hx.same_new (by assumption)); (case hp => walk_at "fact"))
  | ((refine' Hx.Pls.putr ?hs ?hp); (case hs => walk_at "ofc"); (case hp => walk_at "fact"))
  | ((refine' L2.Same.seq ?hs ?hp); (case hs => first | assumption | exact Hx.same_new (by assumption)); (case hp => walk_at "fact"))
  | ((refine' L2.Same.seqT ?hs ?hp); (case hs => first | assumption | exact Hx.same_new (by assumption)); (case hp => walk_at "fact"))
  | ((refine' L2.SqL.of ?hs); (case hs => walk_at "ofact"))
  | ((refine' L2.SqT.of ?hs); (case hs => walk_at "ofact"))
  | ((refine' Hx.SqT_putr ?hs ?hp); (case hs => walk_at "ofc"); (case hp => walk_at "fact"))))
local macro_rules | `(tactic| walk_at "go") => `(tactic| first
  | with_reducible refine Hx.w_seq ?_
  | with_reducible refine Hx.w_op ?_
  | ((with_reducible refine' Hx.w_var ?hv ?_); (case hv => exact rfl))
  | with_reducible refine Hx.w_c ?_
  | with_reducible refine Hx.w_cons ?_
  | with_reducible refine Hx.w_nil ?_
  | with_reducible refine Hx.r_I0 ?_
  | ((with_reducible refine' Hx.r_I ?hc ?_); (case hc => walk_at "ric"))
  | with_reducible refine Hx.w_blk ?_
  | with_reducible refine Hx.w_test ?_
  | with_reducible refine Hx.w_asg ?_
  | with_reducible refine Hx.w_gName ?_
  | with_reducible refine Hx.w_ret ?_
  | with_reducible refine Hx.w_ifS ?_
  | with_reducible refine Hx.w_drop ?_
  | with_reducible refine Hx.w_next ?_
  | with_reducible refine Hx.w_retN ?_
  | with_reducible refine Hx.w_cont ?_
  | with_reducible refine Hx.w_break ?_
  | with_reducible refine Hx.w_un ?_
  | with_reducible refine Hx.r_U ?_
  | ((with_reducible refine' Hx.r_ixP0 ?hp ?_); (case hp => walk_at "fact"))
  | ((with_reducible refine' Hx.r_ixP1 ?hp ?_); (case hp => walk_at "fact"))
  | with_reducible refine Hx.w_tTup ?_
  | with_reducible refine Hx.w_tLst ?_
  | ((with_reducible refine' Hx.w_dispT ?hz fun p hp => ?_); (case hz => exact Nat.le_of_ble_eq_true rfl))
  | with_reducible refine Hx.w_dispL1 fun p hp => ?_
  | with_reducible refine Hx.w_dispL2 fun p hp => ?_
  | ((with_reducible refine' Hx.w_dispL ?hz fun p hp => ?_); (case hz => exact Nat.le_of_ble_eq_true rfl))
  | with_reducible refine Hx.r_eqI ?_
  | with_reducible refine Hx.r_neI ?_
  | with_reducible refine Hx.r_eqB ?_
  | with_reducible refine Hx.r_neB ?_
  | ((with_reducible refine' Hx.r_eqPl ?hp ?hq ?_); (case hp => walk_at "fact"); (case hq => walk_at "fact"))
  | ((with_reducible refine' Hx.r_nePl ?hp ?hq ?_); (case hp => walk_at "fact"); (case hq => walk_at "fact"))
  | ((with_reducible refine' Hx.r_eqIL ?hp ?hq ?_); (case hp => walk_at "fact"); (case hq => walk_at "fact"))
  | ((with_reducible refine' Hx.r_neIL ?hp ?hq ?_); (case hp => walk_at "fact"); (case hq => walk_at "fact"))
  | ((with_reducible refine' Hx.r_rep1 ?hp ?h0 ?h1 ?_); (case hp => walk_at "ofact"); (case h0 => omega); (case h1 => omega); (intro p hp))
  | ((with_reducible refine' Hx.r_rep ?hp ?h0 ?h1 ?hz ?_); (case hp => walk_at "ofact"); (case h0 => omega); (case h1 => omega); (case hz => exact Nat.le_of_ble_eq_true rfl); (intro p hp))
  | ((with_reducible refine' Hx.r_slL ?hp ?_); (case hp => walk_at "fact"); (intro p hp))
  | with_reducible refine Hx.w_call ?_
  | with_reducible refine Hx.w_CB ?_
  | with_reducible refine Hx.w_tB ?_
  | with_reducible refine Hx.w_and ?_
  | with_reducible refine Hx.w_or ?_
  | with_reducible refine Hx.w_not ?_
  | with_reducible refine Hx.w_andV ?_
  | with_reducible refine Hx.w_orV ?_
  | with_reducible refine Hx.w_notV ?_
  | with_reducible refine Hx.w_ifV ?_
  | with_reducible refine Hx.w_chain ?_
  | with_reducible refine Hx.w_BM0 ?_
  | with_reducible refine Hx.w_BM ?_
  | with_reducible refine Hx.w_sl ?_
  | with_reducible refine Hx.w_noPart ?_
  | with_reducible refine Hx.w_part ?_
  | with_reducible refine Hx.w_partI ?_
  | with_reducible refine L2.iteT ?_
  | with_reducible refine L2.iteF ?_
  | with_reducible refine Hx.ite_nt ?_
  | ((with_reducible refine' L2.iteNS ?hc ?_); (case hc => first | exact rfl | assumption | omega))
  | ((with_reducible refine' Hx.ite_eqT ?hc ?_); (case hc => assumption))
  | ((with_reducible refine' Hx.ite_eqF ?hc ?_); (case hc => assumption))
  | ((with_reducible refine' Hx.ite_neT ?hc ?_); (case hc => assumption))
  | ((with_reducible refine' Hx.ite_neF ?hc ?_); (case hc => assumption))
  | ((with_reducible refine' Hx.ite_dT ?hc ?_); (case hc => first | exact rfl | assumption | omega))
  | ((with_reducible refine' Hx.ite_dF ?hc ?_); (case hc => first | assumption | omega))
  | ((with_reducible refine' Hx.ite_ndF ?hc ?_); (case hc => first | assumption | omega))
  | with_reducible refine Hx.ite_nf ?_
  | with_reducible refine Hx.r_max2 ?_
  | with_reducible refine Hx.r_min2 ?_
  | with_reducible refine Hx.r_abs ?_
  | with_reducible refine Hx.r_max3 ?_
  | with_reducible refine Hx.r_isiInt Hx.kit_ii ?_
  | with_reducible refine Hx.r_isiInt Hx.kit_ib ?_
  | with_reducible refine Hx.r_isi (.base (.bl _)) Hx.kit_bb ?_
  | ((with_reducible refine' Hx.r_isiPl ?hp Hx.kit_tt ?_); (case hp => walk_at "fact"))
  | ((with_reducible refine' Hx.r_isiL ?hp Hx.kit_ll ?_); (case hp => walk_at "fact"))
  | with_reducible refine Hx.w_for ?_
  | with_reducible refine Hx.w_rng1 ?_
  | with_reducible refine Hx.w_rng2 ?_
  | with_reducible refine Hx.w_rng3 ?_
  | ((with_reducible refine' Hx.r_rng3 ?hz ?hy ?_); (case hz => omega); (case hy => omega))
  | with_reducible refine Hx.w_truth ?_
  | ((with_reducible refine' Hx.r_truL ?hp ?_); (case' hp => walk_at "fact"))
  | ((with_reducible refine' Hx.r_maxL ?hp ?hn ?_); (case' hp => walk_at "fact"); (case hn => walk_at "size"); (intro m hm hle))
  | with_reducible refine Hx.w_iList ?_
  | with_reducible refine Hx.w_iTup ?_
  | with_reducible refine Hx.w_lc ?_
  | with_reducible refine Hx.w_yes ?_
  | with_reducible refine Hx.w_put1 ?_
  | with_reducible refine Hx.w_put0 ?_
  | ((with_reducible refine' Hx.r_rng1 ?hz ?hy ?_); (case hz => omega); (case hy => omega))
  | ((with_reducible refine' Hx.r_rng2 ?hz ?hy ?_); (case hz => omega); (case hy => omega))
  | ((with_reducible refine' Hx.r_iList ?hp ?_); (case' hp => walk_at "fact"))
  | ((with_reducible refine' Hx.r_iTup ?hp ?_); (case' hp => walk_at "fact"))
  | ((with_reducible refine' Hx.r_ixL ?hp ?ha ?_); (case hp => walk_at "fact"); (case ha => first | assumption | exact rfl))
  | ((with_reducible refine' Hx.r_ixT ?hp ?ha ?_); (case hp => walk_at "fact"); (case ha => first | assumption | exact rfl))
  | ((with_reducible refine' Hx.r_ixLn ?hp ?h0 ?h1 ?_); (case' hp => walk_at "fact"); (case h0 => omega); (case h1 => omega))
  | ((with_reducible refine' Hx.w_tyL ?hp ?_); (case hp => walk_at "fact"))
  | ((with_reducible refine' Hx.r_appendI ?hp ?hz ?_); (case hp => walk_at "ofact"); (case hz => walk_at "size"))
  | ((with_reducible refine' Hx.r_append ?hp ?hz ?_); (case hp => walk_at "ofact"); (case hz => walk_at "size"))
  | ((with_reducible refine' Hx.r_reverseI ?hp ?_); (case hp => walk_at "ofact"))
  | ((with_reducible refine' Hx.r_reverse ?hp ?_); (case hp => walk_at "ofact"))
  | ((with_reducible refine' Hx.r_clear ?hp ?_); (case hp => walk_at "ofact"))
  | ((with_reducible refine' Hx.r_catI ?hp ?hq ?hz ?_); (case hp => walk_at "ofact"); (case hq => walk_at "ofact"); (case hz => walk_at "size"); (intro p hp))
  | ((with_reducible refine' Hx.r_cat ?hp ?hq ?hz ?_); (case hp => walk_at "ofact"); (case hq => walk_at "ofact"); (case hz => walk_at "size"); (intro p hp))
  | ((with_reducible refine' Hx.w_addI ?hp ?hz ?_); (case hp => walk_at "ofact"); (case hz => walk_at "size"))
  | ((with_reducible refine' Hx.w_add ?hp ?hz ?_); (case hp => walk_at "ofact"); (case hz => walk_at "size"))
  | ((with_reducible refine' Hx.r_listL ?hp ?_); (case hp => walk_at "fact"); (intro p hp))
  | ((with_reducible refine' Hx.r_listT ?hp ?_); (case hp => walk_at "fact"); (intro p hp))
  | ((with_reducible refine' Hx.r_tupL ?hp ?_); (case hp => walk_at "fact"); (intro p hp))
  | ((with_reducible refine' Hx.r_tupPl ?hp ?_); (case hp => walk_at "fact"))
  | ((with_reducible refine' Hx.r_tupT ?hp ?_); (case hp => walk_at "fact"))
  | with_reducible refine Hx.r_intI ?_
  | with_reducible refine Hx.w_dIn ?_
  | with_reducible refine Hx.w_dNotIn ?_
  | with_reducible refine Hx.w_dPut ?_
  | with_reducible refine Hx.w_dGet ?_
  | with_reducible refine Hx.w_dNewT fun p hp => ?_
  | ((with_reducible refine' Hx.r_dInP ?hp ?hq ?_); (case hp => walk_at "ofact"); (case hq => walk_at "fact"))
  | ((with_reducible refine' Hx.r_dNotInP ?hp ?hq ?_); (case hp => walk_at "ofact"); (case hq => walk_at "fact"))
  | ((with_reducible refine' Hx.r_dPutP ?hp ?hq ?hz ?_); (case hp => walk_at "ofact"); (case hq => walk_at "fact"); (case hz => walk_at "size"))
  | ((with_reducible refine' Hx.r_dGetP ?hp ?hq ?he ?_); (case hp => walk_at "ofact"); (case hq => walk_at "fact"); (case he => assumption))
  | with_reducible refine Hx.r_intB ?_
  | ((with_reducible refine' Hx.r_lenPl ?hp ?_); (case hp => walk_at "fact"))
  | ((with_reducible refine' Hx.r_lenL ?hp ?_); (case hp => walk_at "fact"))
  | ((with_reducible refine' Hx.r_lenT ?hp ?_); (case hp => walk_at "fact")))
local macro_rules | `(tactic| walk_at "run") => `(tactic| repeat (walk_at "go"))
local macro_rules | `(tactic| walk_at "same") => `(tactic| (with_reducible first
  | assumption
  | exact L2.Same.refl _
  | exact Hx.same_new (by assumption)
  | ((refine' L2.Same.trans ?ha ?hs); (case hs => first | assumption | exact Hx.same_new (by assumption)); (case ha => walk_at "same"))
  | ((refine' L2.Same.mut ?hs ?hn); (case hn => walk_at "free"); (case hs => walk_at "same"))))
local macro_rules | `(tactic| walk_at "ne0") => `(tactic| (with_reducible first
  | assumption
  | exact Ne.symm (by assumption)
  | exact L2.ne_of_none (by assumption) (by assumption)
  | exact Ne.symm (L2.ne_of_none (by assumption) (by assumption))
  | exact Hx.ne_ld (by assumption) (by assumption)
  | exact Hx.ne_lt (by assumption) (by assumption)
  | exact Hx.ne_li (by assumption) (by assumption)
  | exact Hx.ne_lo (by assumption) (by assumption)
  | exact Hx.ne_dl (by assumption) (by assumption)
  | exact Hx.ne_dt (by assumption) (by assumption)
  | exact Hx.ne_di (by assumption) (by assumption)
  | exact Hx.ne_do (by assumption) (by assumption)
  | exact Hx.ne_tl (by assumption) (by assumption)
  | exact Hx.ne_td (by assumption) (by assumption)
  | exact Hx.ne_ti (by assumption) (by assumption)
  | exact Hx.ne_to (by assumption) (by assumption)
  | exact Hx.ne_il (by assumption) (by assumption)
  | exact Hx.ne_id (by assumption) (by assumption)
  | exact Hx.ne_it (by assumption) (by assumption)
  | exact Hx.ne_io (by assumption) (by assumption)
  | exact Hx.ne_ol (by assumption) (by assumption)
  | exact Hx.ne_od (by assumption) (by assumption)
  | exact Hx.ne_ot (by assumption) (by assumption)
  | exact Hx.ne_oi (by assumption) (by assumption)))
local macro_rules | `(tactic| walk_at "ofd") => `(tactic| (with_reducible first
  | assumption
  | ((refine' Hx.same_at ?hs ?hp); (case hs => first | assumption | exact Hx.same_new (by assumption)); (case hp => walk_at "ofd"))))
local macro_rules | `(tactic| walk_at "ofc") => `(tactic| (with_reducible first
  | assumption
  | exact L2.upd_same
  | ((refine' Hx.same_at ?hs ?hp); (case hs => first | assumption | exact Hx.same_new (by assumption)); (case hp => walk_at "ofc"))
  | ((refine' Hx.upd_at ?hn ?hp); (case hn => walk_at "ne0"); (case hp => walk_at "ofc"))))
local macro_rules | `(tactic| walk_at "ne") => `(tactic| (with_reducible first
  | walk_at "ne0"
  | ((refine' L2.ne_of_none ?ha ?hb); (case hb => assumption); (case ha => walk_at "ofc"))
  | ((refine' Ne.symm (L2.ne_of_none ?ha ?hb)); (case hb => assumption); (case ha => walk_at "ofc"))))
local macro_rules | `(tactic| walk_at "ofact") => `(tactic| (with_reducible first
  | assumption
  | exact L2.upd_same
  | ((refine' Hx.same_at ?hs ?hp); (case hs => first | assumption | exact Hx.same_new (by assumption)); (case hp => walk_at "ofact"))
  | ((refine' Hx.upd_at ?hn ?hp); (case hn => walk_at "ne"); (case hp => walk_at "ofact"))))
local macro_rules | `(tactic| walk_at "size") => `(tactic| first
  | assumption
  | exact Nat.le_of_ble_eq_true rfl
  | (simp only [List.length_append, List.length_map, List.length_cons, List.length_nil, List.length_replicate, List.length_take, List.length_drop, List.length_range, List.length_reverse]; omega)
  | omega)
local macro_rules | `(tactic| walk_at "ric") => `(tactic| first
  | exact ⟨by decide, by decide⟩
  | exact .inr ⟨by decide, by decide⟩
  | exact .inl ⟨by omega, by omega⟩
  | exact ⟨by omega, by omega⟩
  | exact ⟨by omega, by assumption⟩
  | exact .inl ⟨by decide, by decide⟩
  | exact ⟨by decide, by decide, by decide⟩
  | ((show (0 : Int) < _); (first | decide | omega))
  | assumption)
local macro_rules | `(tactic| walk_at "free") => `(tactic| (with_reducible first
  | assumption
  | ((refine' L2.Same.free ?hs ?hp); (case' hp => assumption); (case hs => walk_at "same"))))
local macro_rules | `(tactic| walk_at "go") => `(tactic| first
  | with_reducible refine Hx.w_callS ?_
  | ((with_reducible refine' Hx.r_isX ?he ?hr ?_); (case he => exact Hx.EC.e (by assumption)); (case hr => assumption))
  | with_reducible refine Hx.r_isV (by assumption) ?_)
local macro_rules | `(tactic| walk_at "go") => `(tactic| first
  | ((with_reducible refine' Hx.r_insertI ?hp ?hz ?h0 ?h1 ?_); (case hp => walk_at "ofact"); (case hz => walk_at "size"); (case h0 => omega); (case h1 => omega)))
local macro_rules | `(tactic| walk_at "fact") => `(tactic| (with_reducible first
  | exact Hx.Tl.new
  | ((refine' Hx.Tl.sm ?hs ?hp); (case hs => first | assumption | exact Hx.same_new (by assumption)); (case hp => walk_at "fact"))
  | ((refine' Hx.Tl.putr ?hs ?hp); (case hs => walk_at "ofc"); (case hp => walk_at "fact"))
  | ((refine' Hx.Tl.putd ?hs ?hp); (case hs => walk_at "ofd"); (case hp => walk_at "fact"))
  | ((refine' Hx.RegAt.sm ?hs ?hp); (case hs => first | assumption | exact Hx.same_new (by assumption)); (case hp => walk_at "fact"))
  | ((refine' L2.Rd.of ?hs); (case hs => walk_at "ofact"))))
local macro_rules | `(tactic| walk_at "go") => `(tactic| first
  | with_reducible refine Hx.w_fldR ?_
  | ((with_reducible refine' Hx.r_level ?hr ?hc ?_); (case hr => walk_at "fact"); (case hc => assumption))
  | ((with_reducible refine' Hx.r_lines ?hr ?hc ?_); (case hr => walk_at "fact"); (case hc => assumption))
  | with_reducible refine Hx.w_sfld ?_
  | ((with_reducible refine' Hx.r_slevel ?hr ?hc ?_); (case hr => walk_at "ofact"); (case hc => assumption))
  | ((with_reducible refine' Hx.r_slines ?hr ?hc ?_); (case hr => walk_at "ofact"); (case hc => assumption))
  | with_reducible refine Hx.w_make ?_
  | with_reducible refine Hx.w_makeS ?_
  | with_reducible refine Hx.w_meth ?_
  | ((with_reducible refine' Hx.r_methR ?hr ?h1 ?h2 ?_); (case hr => walk_at "fact"); (case h1 => decide +kernel); (case h2 => decide +kernel))
  | with_reducible refine Hx.w_CKw ?_
  | ((with_reducible refine' Hx.r_dInL ?hp ?hq ?_); (case hp => walk_at "fact"); (case hq => walk_at "fact"))
  | ((with_reducible refine' Hx.r_dNotInL ?hp ?hq ?_); (case hp => walk_at "fact"); (case hq => walk_at "fact"))
  | ((with_reducible refine' Hx.r_dPutL ?hp ?hq ?hz ?_); (case hp => walk_at "ofact"); (case hq => walk_at "fact"); (case hz => walk_at "size"))
  | ((with_reducible refine' Hx.r_dGetL ?hp ?hq ?he ?_); (case hp => walk_at "fact"); (case hq => walk_at "fact"); (case he => assumption)))
local macro_rules | `(tactic| walk_at "go") => `(tactic| first
  | with_reducible refine Hx.w_dispT1 fun p hp => ?_
  | with_reducible refine Hx.w_dget2 ?_
  | with_reducible refine Hx.w_dget1 ?_
  | ((with_reducible refine' Hx.r_isD ?hp ?_); (case hp => walk_at "fact"))
  | ((with_reducible refine' Hx.r_dG2L ?hp ?hq ?_); (case hp => walk_at "fact"); (case hq => walk_at "fact"))
  | ((with_reducible refine' Hx.r_dG1L ?hp ?hq ?_); (case hp => walk_at "fact"); (case hq => walk_at "fact"))
  | ((with_reducible refine' Hx.r_extend ?hp ?hq ?hz ?_); (case hp => walk_at "ofact"); (case hq => walk_at "ofact"); (case hz => walk_at "size"))
  | with_reducible refine Hx.w_iKeys ?_
  | ((with_reducible refine' Hx.r_iKeys ?hp ?_); (case hp => walk_at "ofact"))
  | ((with_reducible refine' Hx.r_slInit ?hp ?hn ?_); (case hp => walk_at "fact"); (case hn => assumption); (intro p hp))
  | ((with_reducible refine' Hx.r_slTail ?hp ?hn ?_); (case hp => walk_at "fact"); (case hn => assumption); (intro p hp))
  | ((with_reducible refine' Hx.r_catF ?hp ?hq ?hz ?_); (case hp => walk_at "fact"); (case hq => walk_at "fact"); (case hz => omega); (intro w H' s g)))
local macro_rules | `(tactic| walk_at "fact") => `(tactic| (with_reducible first
  | exact Hx.Tl.sqT (by assumption)
  | ((refine' Hx.Tl.sqT ?hs); (case hs => walk_at "fact"))))
local macro_rules | `(tactic| walk_at "go") => `(tactic| first
  | with_reducible refine Hx.r_isB ?_
  | with_reducible refine Hx.r_notB ?_
  | ((with_reducible refine' Hx.r_eqNo ?hp ?hq ?_); (case hp => walk_at "fact"); (case hq => exact L2.upd_same))
  | ((with_reducible refine' Hx.r_neNo ?hp ?hq ?_); (case hp => walk_at "fact"); (case hq => exact L2.upd_same))
  | ((with_reducible refine' Hx.w_tyD ?hp ?_); (case hp => walk_at "ofact"))
  | ((with_reducible refine' Hx.r_dclT ?hp ?_); (case hp => walk_at "ofact"))
  | ((with_reducible refine' Hx.r_isiD ?hp ?_); (case hp => walk_at "ofact")))
local macro_rules | `(tactic| walk_at "go") => `(tactic| first
  | ((with_reducible refine' Hx.r_linesO ?hr ?hc ?_); (case hr => walk_at "ofact"); (case hc => assumption)))
local macro_rules | `(tactic| walk_at "go") => `(tactic| first
  | with_reducible refine Hx.w_dOne fun p hp => ?_
  | ((with_reducible refine' Hx.r_dOneG ?hp ?hq ?_); (case hp => walk_at "fact"); (case hq => walk_at "ofact"))
  | with_reducible refine Hx.w_frz ?_
  | ((with_reducible refine' Hx.r_dInG ?hp ?hq ?_); (case hp => walk_at "fact"); (case hq => walk_at "fact"))
  | ((with_reducible refine' Hx.r_dNotInG ?hp ?hq ?_); (case hp => walk_at "fact"); (case hq => walk_at "fact"))
  | ((with_reducible refine' Hx.r_dInC ?hp ?hq ?_); (case hp => walk_at "fact"); (case hq => walk_at "fact"))
  | ((with_reducible refine' Hx.r_dNotInC ?hp ?hq ?_); (case hp => walk_at "fact"); (case hq => walk_at "fact"))
  | ((with_reducible refine' Hx.r_dGetG ?hp ?hq ?he ?_); (case hp => walk_at "fact"); (case hq => walk_at "fact"); (case he => assumption))
  | ((with_reducible refine' Hx.r_dPutG ?hp ?hq ?he ?hz ?_); (case hp => walk_at "ofact"); (case hq => walk_at "fact"); (case he => assumption); (case hz => walk_at "size"))
  | ((with_reducible refine' Hx.r_dG2G ?hp ?hq ?_); (case hp => walk_at "fact"); (case hq => walk_at "fact"))
  | ((with_reducible refine' Hx.r_dG1G ?hp ?hq ?he ?_); (case hp => walk_at "fact"); (case hq => walk_at "fact"); (case he => assumption)))
local macro_rules | `(tactic| walk_at "go") => `(tactic| first
  | ((with_reducible refine' Hx.r_dPutC ?hp ?hq ?he ?hz ?_); (case hp => walk_at "ofact"); (case hq => walk_at "fact"); (case he => assumption); (case hz => walk_at "size")))
namespace Hx
open PySem PySem.Spec PyProof.Rows L2
def topS (i : Nat) : Stmt := PySem.Challenge.pw_hexaddress_k20_whole_a_way.main.body.getD i (.Pass ⟨0, 0, 0, 0⟩)
/-! _law_cell_at -/
abbrev s__law_cell_at : Stmt := topS 30
abbrev n__law_cell_at : List Str := ["script", "k"]
abbrev n__law_cell_at_p : List Str := ["script", "k"]
theorem sc__law_cell_at : FnScope n__law_cell_at n__law_cell_at_p (defScope s__law_cell_at) := ⟨rfl, rfl, rfl, by decide +kernel, rfl, by decide +kernel, by decide +kernel⟩
def sp__law_cell_at (K : PySem.W.Frag) : Sp := fun vs H Q _ => ∃ (a : Addr) (ns : List Int) (k : Int), vs = [.ref a, .int k] ∧ SqL K H a (ns.map V.int) ∧ 0 ≤ k ∧ Q (.int (cellAt ns k)) H
theorem c__law_cell_at {K : PySem.W.Frag} {H : Hp} {Q : VK} {E : XK} {a : Addr} {ns : List Int} {k : Int} (h : SqL K H a (ns.map V.int)) (hk : 0 ≤ k) (q : Q (.int (cellAt ns k)) H) : sp__law_cell_at K [.ref a, .int k] H Q E := ⟨a, ns, k, rfl, h, hk, q⟩
/-! _law_rows -/
abbrev s__law_rows : Stmt := topS 37
abbrev n__law_rows : List Str := ["script", "first", "level", "rows", "k", "cell", "size", "row", "j"]
abbrev n__law_rows_p : List Str := ["script", "first", "level"]
theorem sc__law_rows : FnScope n__law_rows n__law_rows_p (defScope s__law_rows) := ⟨rfl, rfl, rfl, by decide +kernel, rfl, by decide +kernel, by decide +kernel⟩
def sp__law_rows (K : PySem.W.Frag) : Sp := fun vs H Q _ => ∃ (a : Addr) (ns : List Int) (fi : Int) (n : Nat), vs = [.ref a, .int fi, .int (n : Int)] ∧ SqL K H a (ns.map V.int) ∧ 0 ≤ fi ∧ n ≤ 4 ∧ ∀ l ws rows H', Same H H' → H l = none → H' l = some (.lst ws) → RwtX l H' ws rows → ws.Nodup → (∀ b, V.ref b ∈ ws → H b = none) → (∀ r ∈ rows, Figs r ∧ r.length ≤ n) → rows.length ≤ 8 → Q (.ref l) H'
theorem c__law_rows {K : PySem.W.Frag} {a : Addr} {H : Hp} {Q : VK} {E : XK} {ns : List Int} {fi : Int} {n : Nat} (h : SqL K H a (ns.map V.int)) (h0 : 0 ≤ fi) (n4 : n ≤ 4) (q : ∀ l ws rows H', Same H H' → H l = none → H' l = some (.lst ws) → RwtX l H' ws rows → ws.Nodup → (∀ b, V.ref b ∈ ws → H b = none) → (∀ r ∈ rows, Figs r ∧ r.length ≤ n) → rows.length ≤ 8 → Q (.ref l) H') : sp__law_rows K [.ref a, .int fi, .int (n : Int)] H Q E := ⟨a, ns, fi, n, rfl, h, h0, n4, q⟩
/-! see_figures -/
abbrev s_see_figures : Stmt := topS 24
abbrev n_see_figures : List Str := ["figures", "figure"]
abbrev n_see_figures_p : List Str := ["figures"]
theorem sc_see_figures : FnScope n_see_figures n_see_figures_p (defScope s_see_figures) := ⟨rfl, rfl, rfl, by decide +kernel, rfl, by decide +kernel, by decide +kernel⟩
def sp_see_figures (K : PySem.W.Frag) : Sp := fun vs H Q _ => ∃ a fs, vs = [.ref a] ∧ SqL K H a (fs.map V.int) ∧ Figs fs ∧ Q .non H
theorem c_see_figures {K : PySem.W.Frag} {H : Hp} {Q : VK} {E : XK} {a : Addr} {fs : List Int} (h : SqL K H a (fs.map V.int)) (hf : Figs fs) (q : Q .non H) : sp_see_figures K [.ref a] H Q E := ⟨a, fs, rfl, h, hf, q⟩
/-! lines_from -/
abbrev s_lines_from : Stmt := topS 27
abbrev n_lines_from : List Str := ["beginning", "level", "rows", "k", "fresh", "row", "figure"]
abbrev n_lines_from_p : List Str := ["beginning", "level"]
theorem sc_lines_from : FnScope n_lines_from n_lines_from_p (defScope s_lines_from) := ⟨rfl, rfl, rfl, by decide +kernel, rfl, by decide +kernel, by decide +kernel⟩
def sp_lines_from (K : PySem.W.Frag) : Sp := fun vs H Q _ => ∃ (a : Addr) (b : Row) (lv : Int), vs = [.ref a, .int lv] ∧ SqL K H a (b.map V.int) ∧ b.length ≤ 1000 ∧ -100 ≤ lv ∧ lv ≤ 4 ∧ ∀ l ws H', Same H H' → H l = none → H' l = some (.lst ws) → Rwt H' ws (linesFrom b lv) → Q (.ref l) H'
theorem c_lines_from {K : PySem.W.Frag} {H : Hp} {Q : VK} {E : XK} {a : Addr} {b : Row} {lv : Int} (h : SqL K H a (b.map V.int)) (hb : b.length ≤ 1000) (h0 : -100 ≤ lv) (h4 : lv ≤ 4) (q : ∀ l ws H', Same H H' → H l = none → H' l = some (.lst ws) → Rwt H' ws (linesFrom b lv) → Q (.ref l) H') : sp_lines_from K [.ref a, .int lv] H Q E := ⟨a, b, lv, rfl, h, hb, h0, h4, q⟩
/-! Region.__init__ -/
abbrev s_Region___init__ : Stmt := inClass (topS 28) 0
abbrev n_Region___init__ : List Str := ["self", "level", "beginnings", "row", "line"]
abbrev n_Region___init___p : List Str := ["self", "level", "beginnings"]
theorem sc_Region___init__ : FnScope n_Region___init__ n_Region___init___p (defScope s_Region___init__) := ⟨rfl, rfl, rfl, by decide +kernel, rfl, by decide +kernel, by decide +kernel⟩
def sp_Region___init__ (K : PySem.W.Frag) (C : Addr) : Sp := fun vs H Q _ => ∃ (p dx a : Addr) (lv : Int) (ws : List V) (rows : List Row), vs = [.ref p, .int lv, .ref a] ∧ H p = some (.ins C dx []) ∧ SqL K H a ws ∧ Rws K H ws rows ∧ 0 ≤ lv ∧ lv ≤ 4 ∧ (∀ r ∈ rows, Figs r ∧ (r.length : Int) ≤ lv) ∧ (rows.flatMap fun b => linesFrom b lv).length ≤ 100000 ∧ ∀ d H', But p H H' → H d = none → RegAt C H' p d lv (linesOf rows lv) → Q .non H'
theorem c_make {K : PySem.W.Frag} {C a : Addr} {H : Hp} {Q : VK} {E : XK} {lv : Int} {ws : List V} {rows : List Row} (hS : SqL K H a ws) (hW : Rws K H ws rows) (l0 : 0 ≤ lv) (l4 : lv ≤ 4) (hR : ∀ r ∈ rows, Figs r ∧ (r.length : Int) ≤ lv) (hz : (rows.flatMap fun b => linesFrom b lv).length ≤ 100000)
    (q : ∀ p d H', Same H H' → H p = none → H d = none → RegAt C H' p d lv (linesOf rows lv) → Q (.ref p) H') : rMake C (sp_Region___init__ K C) E [.int lv, .ref a] H Q := by
  intro x dx hx hdx hne
  have s0 : Same H (upd (upd H dx (.own x)) x (.ins C dx [])) := ((Same.refl H).mut hdx).mut hx
  refine ⟨x, dx, a, lv, ws, rows, rfl, upd_same, s0.seq hS, Rws.sm s0 hW, l0, l4, hR, hz, fun d H' k hd hr => ⟨rfl, q x d H' (fun b o e => k b o (s0 b o e) (ne_of_none e hx)) hx (s0.free hd) hr⟩⟩
/-! _law_lines -/
abbrev s__law_lines : Stmt := topS 35
abbrev n__law_lines : List Str := ["beginning", "level", "rows", "k", "fresh", "row", "figure"]
abbrev n__law_lines_p : List Str := ["beginning", "level"]
theorem sc__law_lines : FnScope n__law_lines n__law_lines_p (defScope s__law_lines) := ⟨rfl, rfl, rfl, by decide +kernel, rfl, by decide +kernel, by decide +kernel⟩
def sp__law_lines (K : PySem.W.Frag) : Sp := fun vs H Q _ => ∃ (a : Addr) (b : Row) (lv : Int), vs = [.ref a, .int lv] ∧ SqL K H a (b.map V.int) ∧ b.length ≤ 900 ∧ -100 ≤ lv ∧ lv ≤ 4 ∧ ∀ l ws H', Same H H' → H l = none → H' l = some (.lst ws) → Tls H' ws (linesFrom b lv) → Q (.ref l) H'
theorem c__law_lines {K : PySem.W.Frag} {H : Hp} {Q : VK} {E : XK} {a : Addr} {b : Row} {lv : Int} (h : SqL K H a (b.map V.int)) (hb : b.length ≤ 900) (h0 : -100 ≤ lv) (h4 : lv ≤ 4) (q : ∀ l ws H', Same H H' → H l = none → H' l = some (.lst ws) → Tls H' ws (linesFrom b lv) → Q (.ref l) H') : sp__law_lines K [.ref a, .int lv] H Q E := ⟨a, b, lv, rfl, h, hb, h0, h4, q⟩
/-! _law_all -/
abbrev s__law_all : Stmt := topS 38
abbrev n__law_all : List Str := ["rows", "level", "lines", "row", "line"]
abbrev n__law_all_p : List Str := ["rows", "level"]
theorem sc__law_all : FnScope n__law_all n__law_all_p (defScope s__law_all) := ⟨rfl, rfl, rfl, by decide +kernel, rfl, by decide +kernel, by decide +kernel⟩
def sp__law_all (K : PySem.W.Frag) : Sp := fun vs H Q _ => ∃ (a : Addr) (lv : Int) (ws : List V) (rows : List Row), vs = [.ref a, .int lv] ∧ SqL K H a ws ∧ Rws K H ws rows ∧ 0 ≤ lv ∧ lv ≤ 4 ∧ (∀ r ∈ rows, r.length ≤ 900) ∧ (rows.flatMap fun b => linesFrom b lv).length ≤ 100000 ∧ ∀ d H', Same H H' → H d = none → H' d = some (.dT (kvR (linesOf rows lv))) → Q (.ref d) H'
theorem c__law_all {K : PySem.W.Frag} {H : Hp} {Q : VK} {E : XK} {a : Addr} {lv : Int} {ws : List V} {rows : List Row} (hS : SqL K H a ws) (hW : Rws K H ws rows) (l0 : 0 ≤ lv) (l4 : lv ≤ 4) (hb : ∀ r ∈ rows, r.length ≤ 900) (hz : (rows.flatMap fun b => linesFrom b lv).length ≤ 100000) (q : ∀ d H', Same H H' → H d = none → H' d = some (.dT (kvR (linesOf rows lv))) → Q (.ref d) H') : sp__law_all K [.ref a, .int lv] H Q E := ⟨a, lv, ws, rows, rfl, hS, hW, l0, l4, hb, hz, q⟩
/-! _law_step -/
abbrev s__law_step : Stmt := topS 33
abbrev n__law_step : List Str := ["figure"]
abbrev n__law_step_p : List Str := ["figure"]
theorem sc__law_step : FnScope n__law_step n__law_step_p (defScope s__law_step) := ⟨rfl, rfl, rfl, by decide +kernel, rfl, by decide +kernel, by decide +kernel⟩
def sp__law_step (K : PySem.W.Frag) : Sp := fun vs H Q _ => ∃ f, vs = [.int f] ∧ 0 ≤ f ∧ f ≤ 6 ∧ ∀ v H', Same H H' → Pl K H' v (restPlace f) → Q v H'
theorem c__law_step {K : PySem.W.Frag} {H : Hp} {Q : VK} {E : XK} {f : Int} (h0 : 0 ≤ f) (h1 : f ≤ 6) (q : ∀ v H', Same H H' → Pl K H' v (restPlace f) → Q v H') : sp__law_step K [.int f] H Q E := ⟨f, rfl, h0, h1, q⟩
/-! _law_place -/
abbrev s__law_place_T : Stmt := topS 34
abbrev n__law_place_T : List Str := ["figures", "q", "r", "figure", "far", "left"]
abbrev n__law_place_T_p : List Str := ["figures"]
theorem sc__law_place_T : FnScope n__law_place_T n__law_place_T_p (defScope s__law_place_T) := ⟨rfl, rfl, rfl, by decide +kernel, rfl, by decide +kernel, by decide +kernel⟩
def sp__law_place_T (K : PySem.W.Frag) : Sp := fun vs H Q _ => ∃ v fs, vs = [v] ∧ Tl H v fs ∧ Figs fs ∧ ∀ v H', Same H H' → Pl K H' v (placeOf fs) → Tp H' v (placeOf fs) → Q v H'
theorem c__law_place_T {K : PySem.W.Frag} {H : Hp} {Q : VK} {E : XK} {v : V} {fs : List Int} (h : Tl H v fs) (hf : Figs fs) (q : ∀ v H', Same H H' → Pl K H' v (placeOf fs) → Tp H' v (placeOf fs) → Q v H') : sp__law_place_T K [v] H Q E := ⟨v, fs, rfl, h, hf, q⟩
/-! _law_near -/
abbrev s__law_near : Stmt := topS 39
abbrev n__law_near : List Str := ["place", "out", "figure", "far"]
abbrev n__law_near_p : List Str := ["place"]
theorem sc__law_near : FnScope n__law_near n__law_near_p (defScope s__law_near) := ⟨rfl, rfl, rfl, by decide +kernel, rfl, by decide +kernel, by decide +kernel⟩
def sp__law_near (K : PySem.W.Frag) : Sp := fun vs H Q _ => ∃ v1 p1, vs = [v1] ∧ Pl K H v1 p1 ∧ ∀ l ws H', Same H H' → H l = none → H' l = some (.lst ws) → Tps H' ws (nbrs p1) → Q (.ref l) H'
theorem c__law_near {K : PySem.W.Frag} {H : Hp} {Q : VK} {E : XK} {v1 : V} {p1 : Int × Int} (h1 : Pl K H v1 p1) (q : ∀ l ws H', Same H H' → H l = none → H' l = some (.lst ws) → Tps H' ws (nbrs p1) → Q (.ref l) H') : sp__law_near K [v1] H Q E := ⟨v1, p1, rfl, h1, q⟩
/-! rest -/
abbrev s_rest : Stmt := topS 20
abbrev n_rest : List Str := ["place"]
abbrev n_rest_p : List Str := ["place"]
theorem sc_rest : FnScope n_rest n_rest_p (defScope s_rest) := ⟨rfl, rfl, rfl, by decide +kernel, rfl, by decide +kernel, by decide +kernel⟩
def sp_rest (K : PySem.W.Frag) : Sp := fun vs H Q _ => ∃ v1 p1, vs = [v1] ∧ Pl K H v1 p1 ∧ Q (.int (restOf p1)) H
theorem c_rest {K : PySem.W.Frag} {H : Hp} {Q : VK} {E : XK} {v1 : V} {p1 : Int × Int} (h1 : Pl K H v1 p1) (q : Q (.int (restOf p1)) H) : sp_rest K [v1] H Q E := ⟨v1, p1, rfl, h1, q⟩
/-! step -/
abbrev s_step : Stmt := topS 10
abbrev n_step : List Str := ["direction"]
abbrev n_step_p : List Str := ["direction"]
theorem sc_step : FnScope n_step n_step_p (defScope s_step) := ⟨rfl, rfl, rfl, by decide +kernel, rfl, by decide +kernel, by decide +kernel⟩
def sp_step (K : PySem.W.Frag) : Sp := fun vs H Q _ => ∃ d, vs = [.int d] ∧ 1 ≤ d ∧ d ≤ 6 ∧ ∀ v, Pl K H v (stepOf d) → Q v H
theorem c_step {K : PySem.W.Frag} {H : Hp} {Q : VK} {E : XK} {d : Int} (h0 : 1 ≤ d) (h1 : d ≤ 6) (q : ∀ v, Pl K H v (stepOf d) → Q v H) : sp_step K [.int d] H Q E := ⟨d, rfl, h0, h1, q⟩
/-! rest_place -/
abbrev s_rest_place : Stmt := topS 21
abbrev n_rest_place : List Str := ["figure"]
abbrev n_rest_place_p : List Str := ["figure"]
theorem sc_rest_place : FnScope n_rest_place n_rest_place_p (defScope s_rest_place) := ⟨rfl, rfl, rfl, by decide +kernel, rfl, by decide +kernel, by decide +kernel⟩
def sp_rest_place (K : PySem.W.Frag) : Sp := fun vs H Q _ => ∃ f, vs = [.int f] ∧ 0 ≤ f ∧ f ≤ 6 ∧ ∀ v H', Same H H' → Pl K H' v (restPlace f) → Q v H'
theorem c_rest_place {K : PySem.W.Frag} {H : Hp} {Q : VK} {E : XK} {f : Int} (h0 : 0 ≤ f) (h1 : f ≤ 6) (q : ∀ v H', Same H H' → Pl K H' v (restPlace f) → Q v H') : sp_rest_place K [.int f] H Q E := ⟨f, rfl, h0, h1, q⟩
/-! centre -/
abbrev s_centre : Stmt := topS 22
abbrev n_centre : List Str := ["place", "near", "q", "r"]
abbrev n_centre_p : List Str := ["place"]
theorem sc_centre : FnScope n_centre n_centre_p (defScope s_centre) := ⟨rfl, rfl, rfl, by decide +kernel, rfl, by decide +kernel, by decide +kernel⟩
def sp_centre (K : PySem.W.Frag) : Sp := fun vs H Q _ => ∃ v1 p1, vs = [v1] ∧ Pl K H v1 p1 ∧ ∀ v H', Same H H' → Pl K H' v (centreOf p1) → Q v H'
theorem c_centre {K : PySem.W.Frag} {H : Hp} {Q : VK} {E : XK} {v1 : V} {p1 : Int × Int} (h1 : Pl K H v1 p1) (q : ∀ v H', Same H H' → Pl K H' v (centreOf p1) → Q v H') : sp_centre K [v1] H Q E := ⟨v1, p1, rfl, h1, q⟩
/-! address -/
abbrev s_address : Stmt := topS 23
abbrev n_address : List Str := ["place", "figures"]
abbrev n_address_p : List Str := ["place"]
theorem sc_address : FnScope n_address n_address_p (defScope s_address) := ⟨rfl, rfl, rfl, by decide +kernel, rfl, by decide +kernel, by decide +kernel⟩
def sp_address (K : PySem.W.Frag) : Sp := fun vs H Q _ => ∃ v1 p1, vs = [v1] ∧ Pl K H v1 p1 ∧ (addrOf p1).length ≤ 100000 ∧ ∀ l H', Same H H' → H l = none → H' l = some (.lst ((addrOf p1).map V.int)) → Q (.ref l) H'
theorem c_address {K : PySem.W.Frag} {H : Hp} {Q : VK} {E : XK} {v1 : V} {p1 : Int × Int} (h1 : Pl K H v1 p1) (hz : (addrOf p1).length ≤ 100000) (q : ∀ l H', Same H H' → H l = none → H' l = some (.lst ((addrOf p1).map V.int)) → Q (.ref l) H') : sp_address K [v1] H Q E := ⟨v1, p1, rfl, h1, hz, q⟩
/-! Region.holds -/
abbrev s_Region_holds : Stmt := inClass (topS 28) 2
abbrev n_Region_holds : List Str := ["self", "place", "figures"]
abbrev n_Region_holds_p : List Str := ["self", "place"]
theorem sc_Region_holds : FnScope n_Region_holds n_Region_holds_p (defScope s_Region_holds) := ⟨rfl, rfl, rfl, by decide +kernel, rfl, by decide +kernel, by decide +kernel⟩
def sp_Region_holds (K : PySem.W.Frag) (C : Addr) : Sp := fun vs H Q _ => ∃ (p d : Addr) (v : V) (z : Int × Int) (n : Nat) (L : List Row), vs = [.ref p, v] ∧ RegAt C H p d (n : Int) L ∧ n ≤ 4 ∧ Pl K H v z ∧ (addrOf z).length ≤ 1000 ∧ ∀ H', Same H H' → Q (.bl (holdsB L n z)) H'
theorem c_Region_holds {K : PySem.W.Frag} {C : Addr} {H : Hp} {Q : VK} {E : XK} {p d : Addr} {v : V} {z : Int × Int} {n : Nat} {L : List Row} (hr : RegAt C H p d (n : Int) L) (n4 : n ≤ 4) (hv : Pl K H v z) (hz : (addrOf z).length ≤ 1000) (q : ∀ H', Same H H' → Q (.bl (holdsB L n z)) H') : sp_Region_holds K C [.ref p, v] H Q E := ⟨p, d, v, z, n, L, rfl, hr, n4, hv, hz, q⟩
/-! see_place -/
abbrev s_see_place_X : Stmt := topS 13
abbrev n_see_place_X : List Str := ["region", "place"]
abbrev n_see_place_X_p : List Str := ["region", "place"]
theorem sc_see_place_X : FnScope n_see_place_X n_see_place_X_p (defScope s_see_place_X) := ⟨rfl, rfl, rfl, by decide +kernel, rfl, by decide +kernel, by decide +kernel⟩
def sp_see_place_X (K : PySem.W.Frag) (C cC : Addr) : Sp := fun vs H Q E => ∃ (p d : Addr) (v : V) (z : Plc) (n : Nat) (L : List Row), vs = [.ref p, v] ∧ RegAt C H p d (n : Int) L ∧ n ≤ 4 ∧ Pl K H v z ∧ (addrOf z).length ≤ 1000 ∧ (holdsB L n z = true → ∀ H', Same H H' → Q .non H') ∧ (holdsB L n z = false → ∀ H', Same H H' → E (.ref cC) none H')
theorem c_see_place_X {K : PySem.W.Frag} {C cC p d : Addr} {H : Hp} {Q : VK} {E : XK} {v : V} {z : Plc} {n : Nat} {L : List Row} (h : RegAt C H p d (n : Int) L) (n4 : n ≤ 4) (g : Pl K H v z) (hz : (addrOf z).length ≤ 1000) (q : holdsB L n z = true → ∀ H', Same H H' → Q .non H') (x : holdsB L n z = false → ∀ H', Same H H' → E (.ref cC) none H') : sp_see_place_X K C cC [.ref p, v] H Q E := ⟨p, d, v, z, n, L, rfl, h, n4, g, hz, q, x⟩
/-! added -/
abbrev s_added_T : Stmt := topS 9
abbrev n_added_T : List Str := ["one", "other"]
abbrev n_added_T_p : List Str := ["one", "other"]
theorem sc_added_T : FnScope n_added_T n_added_T_p (defScope s_added_T) := ⟨rfl, rfl, rfl, by decide +kernel, rfl, by decide +kernel, by decide +kernel⟩
def sp_added_T (K : PySem.W.Frag) : Sp := fun vs H Q _ => ∃ v1 v2 p1 p2, vs = [v1, v2] ∧ Pl K H v1 p1 ∧ Pl K H v2 p2 ∧ ∀ v H', Same H H' → Tp H' v (p1.1 + p2.1, p1.2 + p2.2) → Q v H'
theorem c_added_T {K : PySem.W.Frag} {H : Hp} {Q : VK} {E : XK} {v1 v2 : V} {p1 p2 : Int × Int} (h1 : Pl K H v1 p1) (h2 : Pl K H v2 p2) (q : ∀ v H', Same H H' → Tp H' v (p1.1 + p2.1, p1.2 + p2.2) → Q v H') : sp_added_T K [v1, v2] H Q E := ⟨v1, v2, p1, p2, rfl, h1, h2, q⟩
/-! neighbours -/
abbrev s_neighbours_T : Stmt := topS 11
abbrev n_neighbours_T : List Str := ["place", "one"]
abbrev n_neighbours_T_p : List Str := ["place"]
theorem sc_neighbours_T : FnScope n_neighbours_T n_neighbours_T_p (defScope s_neighbours_T) := ⟨rfl, rfl, rfl, by decide +kernel, rfl, by decide +kernel, by decide +kernel⟩
def sp_neighbours_T (K : PySem.W.Frag) : Sp := fun vs H Q _ => ∃ v1 p1, vs = [v1] ∧ Pl K H v1 p1 ∧ ∀ l ws H', Same H H' → H l = none → H' l = some (.lst ws) → Tps H' ws (nbrs p1) → Q (.ref l) H'
theorem c_neighbours_T {K : PySem.W.Frag} {H : Hp} {Q : VK} {E : XK} {v1 : V} {p1 : Int × Int} (h1 : Pl K H v1 p1) (q : ∀ l ws H', Same H H' → H l = none → H' l = some (.lst ws) → Tps H' ws (nbrs p1) → Q (.ref l) H') : sp_neighbours_T K [v1] H Q E := ⟨v1, p1, rfl, h1, q⟩
/-! levels -/
abbrev s_levels_X : Stmt := topS 14
abbrev n_levels_X : List Str := ["region", "place", "found", "edge", "ahead", "here", "far"]
abbrev n_levels_X_p : List Str := ["region", "place"]
theorem sc_levels_X : FnScope n_levels_X n_levels_X_p (defScope s_levels_X) := ⟨rfl, rfl, rfl, by decide +kernel, rfl, by decide +kernel, by decide +kernel⟩
def sp_levels_X (K : PySem.W.Frag) (C cC : Addr) : Sp := fun vs H Q E => ∃ (p d : Addr) (v : V) (o : Plc) (n : Nat) (L : List Row), vs = [.ref p, v] ∧ RegAt C H p d (n : Int) L ∧ n ≤ 2 ∧ LvOk L n ∧ L.Nodup ∧ Tp H v o ∧ (addrOf o).length ≤ 1000 ∧ (o ∈ L.map placeOf → ∀ f m H', Same H H' → H f = none → H' f = some (.dT (kvG m)) → Dst (· ∈ L.map placeOf) o m → Q (.ref f) H') ∧ (o ∉ L.map placeOf → ∀ H', Same H H' → E (.ref cC) none H')
theorem c_levels_X {K : PySem.W.Frag} {C cC p d : Addr} {H : Hp} {Q : VK} {E : XK} {v : V} {o : Plc} {n : Nat} {L : List Row} (h : RegAt C H p d (n : Int) L) (n2 : n ≤ 2) (hL : LvOk L n) (nd : L.Nodup) (hv : Tp H v o) (hz : (addrOf o).length ≤ 1000) (q : o ∈ L.map placeOf → ∀ f m H', Same H H' → H f = none → H' f = some (.dT (kvG m)) → Dst (· ∈ L.map placeOf) o m → Q (.ref f) H') (x : o ∉ L.map placeOf → ∀ H', Same H H' → E (.ref cC) none H') : sp_levels_X K C cC [.ref p, v] H Q E := ⟨p, d, v, o, n, L, rfl, h, n2, hL, nd, hv, hz, q, x⟩
/-! nearer -/
abbrev s_nearer : Stmt := topS 15
abbrev n_nearer : List Str := ["found", "place", "far"]
abbrev n_nearer_p : List Str := ["found", "place"]
theorem sc_nearer : FnScope n_nearer n_nearer_p (defScope s_nearer) := ⟨rfl, rfl, rfl, by decide +kernel, rfl, by decide +kernel, by decide +kernel⟩
def sp_nearer (K : PySem.W.Frag) : Sp := fun vs H Q _ => ∃ (f : Addr) (v : V) (p : Plc) (w : Int) (m : List (Plc × Int)), vs = [.ref f, v] ∧ H f = some (.dT (kvG m)) ∧ Tp H v p ∧ getG m p = some w ∧ ∀ v' H', Same H H' → Tp H' v' (downG (getG m) p) → Q v' H'
theorem c_nearer {K : PySem.W.Frag} {f : Addr} {H : Hp} {Q : VK} {E : XK} {v : V} {p : Plc} {w : Int} {m : List (Plc × Int)} (hf : H f = some (.dT (kvG m))) (hv : Tp H v p) (e : getG m p = some w) (q : ∀ v' H', Same H H' → Tp H' v' (downG (getG m) p) → Q v' H') : sp_nearer K [.ref f, v] H Q E := ⟨f, v, p, w, m, rfl, hf, hv, e, q⟩
/-! way -/
abbrev s_way_X : Stmt := topS 16
abbrev n_way_X : List Str := ["region", "one", "other", "found", "row"]
abbrev n_way_X_p : List Str := ["region", "one", "other"]
theorem sc_way_X : FnScope n_way_X n_way_X_p (defScope s_way_X) := ⟨rfl, rfl, rfl, by decide +kernel, rfl, by decide +kernel, by decide +kernel⟩
def sp_way_X (K : PySem.W.Frag) (C cC cA : Addr) : Sp := fun vs H Q E => ∃ (p d : Addr) (v1 v2 : V) (o1 o2 : Plc) (n : Nat) (L : List Row), vs = [.ref p, v1, v2] ∧ RegAt C H p d (n : Int) L ∧ n ≤ 2 ∧ LvOk L n ∧ L.Nodup ∧ Tp H v1 o1 ∧ (addrOf o1).length ≤ 1000 ∧ Tp H v2 o2 ∧ (addrOf o2).length ≤ 1000 ∧ (o1 ∉ L.map placeOf ∨ o2 ∉ L.map placeOf → ∀ H', Same H H' → E (.ref cC) none H') ∧ (o1 ∈ L.map placeOf → o2 ∈ L.map placeOf → ∀ m H', Same H H' → Dst (· ∈ L.map placeOf) o2 m → getG m o1 = none → E (.ref cA) none H') ∧ (o1 ∈ L.map placeOf → o2 ∈ L.map placeOf → ∀ m w l ws H', Same H H' → Dst (· ∈ L.map placeOf) o2 m → getG m o1 = some w → H l = none → H' l = some (.lst ws) → Tps H' ws (wayG (getG m) o1 (w.toNat + 1)) → Q (.ref l) H')
theorem c_way_X {K : PySem.W.Frag} {C cC cA p d : Addr} {H : Hp} {Q : VK} {E : XK} {v1 v2 : V} {o1 o2 : Plc} {n : Nat} {L : List Row} (h : RegAt C H p d (n : Int) L) (n2 : n ≤ 2) (hL : LvOk L n) (nd : L.Nodup) (hv1 : Tp H v1 o1) (z1 : (addrOf o1).length ≤ 1000) (hv2 : Tp H v2 o2) (z2 : (addrOf o2).length ≤ 1000) (x1 : o1 ∉ L.map placeOf ∨ o2 ∉ L.map placeOf → ∀ H', Same H H' → E (.ref cC) none H') (x2 : o1 ∈ L.map placeOf → o2 ∈ L.map placeOf → ∀ m H', Same H H' → Dst (· ∈ L.map placeOf) o2 m → getG m o1 = none → E (.ref cA) none H') (q : o1 ∈ L.map placeOf → o2 ∈ L.map placeOf → ∀ m w l ws H', Same H H' → Dst (· ∈ L.map placeOf) o2 m → getG m o1 = some w → H l = none → H' l = some (.lst ws) → Tps H' ws (wayG (getG m) o1 (w.toNat + 1)) → Q (.ref l) H') : sp_way_X K C cC cA [.ref p, v1, v2] H Q E := ⟨p, d, v1, v2, o1, o2, n, L, rfl, h, n2, hL, nd, hv1, z1, hv2, z2, x1, x2, q⟩
/-! _law_tried -/
abbrev s__law_tried : Stmt := topS 42
abbrev n__law_tried : List Str := ["region", "one", "other", "found", "kinds", "e"]
abbrev n__law_tried_p : List Str := ["region", "one", "other"]
theorem sc__law_tried : FnScope n__law_tried n__law_tried_p (defScope s__law_tried) := ⟨rfl, rfl, rfl, by decide +kernel, rfl, by decide +kernel, by decide +kernel⟩
def sp__law_tried (K : PySem.W.Frag) (C : Addr) : Sp := fun vs H Q _ => ∃ (p d : Addr) (v1 v2 : V) (o1 o2 : Plc) (n : Nat) (L : List Row), vs = [.ref p, v1, v2] ∧ RegAt C H p d (n : Int) L ∧ n ≤ 2 ∧ LvOk L n ∧ L.Nodup ∧ Tp H v1 o1 ∧ (addrOf o1).length ≤ 1000 ∧ Tp H v2 o2 ∧ (addrOf o2).length ≤ 1000 ∧ (o1 ∉ L.map placeOf ∨ o2 ∉ L.map placeOf → ∀ t k H', Same H H' → H' t = some (.tup [.non, .ref k]) → H' k = some (.lst ([false, true, false, false].map V.bl)) → Q (.ref t) H') ∧ (o1 ∈ L.map placeOf → o2 ∈ L.map placeOf → ∀ m t k H', Same H H' → Dst (· ∈ L.map placeOf) o2 m → getG m o1 = none → H' t = some (.tup [.non, .ref k]) → H' k = some (.lst ([true, false, false, false].map V.bl)) → Q (.ref t) H') ∧ (o1 ∈ L.map placeOf → o2 ∈ L.map placeOf → ∀ m w t l k ws H', Same H H' → Dst (· ∈ L.map placeOf) o2 m → getG m o1 = some w → H l = none → H' t = some (.tup [.ref l, .ref k]) → H' k = some (.lst []) → H' l = some (.lst ws) → Tps H' ws (wayG (getG m) o1 (w.toNat + 1)) → t ≠ l → k ≠ l → Q (.ref t) H')
theorem c__law_tried {K : PySem.W.Frag} {C p d : Addr} {H : Hp} {Q : VK} {E : XK} {v1 v2 : V} {o1 o2 : Plc} {n : Nat} {L : List Row} (h : RegAt C H p d (n : Int) L) (n2 : n ≤ 2) (hL : LvOk L n) (nd : L.Nodup) (hv1 : Tp H v1 o1) (z1 : (addrOf o1).length ≤ 1000) (hv2 : Tp H v2 o2) (z2 : (addrOf o2).length ≤ 1000) (x1 : o1 ∉ L.map placeOf ∨ o2 ∉ L.map placeOf → ∀ t k H', Same H H' → H' t = some (.tup [.non, .ref k]) → H' k = some (.lst ([false, true, false, false].map V.bl)) → Q (.ref t) H') (x2 : o1 ∈ L.map placeOf → o2 ∈ L.map placeOf → ∀ m t k H', Same H H' → Dst (· ∈ L.map placeOf) o2 m → getG m o1 = none → H' t = some (.tup [.non, .ref k]) → H' k = some (.lst ([true, false, false, false].map V.bl)) → Q (.ref t) H') (q : o1 ∈ L.map placeOf → o2 ∈ L.map placeOf → ∀ m w t l k ws H', Same H H' → Dst (· ∈ L.map placeOf) o2 m → getG m o1 = some w → H l = none → H' t = some (.tup [.ref l, .ref k]) → H' k = some (.lst []) → H' l = some (.lst ws) → Tps H' ws (wayG (getG m) o1 (w.toNat + 1)) → t ≠ l → k ≠ l → Q (.ref t) H') : sp__law_tried K C [.ref p, v1, v2] H Q E := ⟨p, d, v1, v2, o1, o2, n, L, rfl, h, n2, hL, nd, hv1, z1, hv2, z2, x1, x2, q⟩
/-! _law_levels -/
abbrev s__law_levels : Stmt := topS 40
abbrev n__law_levels : List Str := ["cells", "place", "found", "line", "at", "far"]
abbrev n__law_levels_p : List Str := ["cells", "place"]
theorem sc__law_levels : FnScope n__law_levels n__law_levels_p (defScope s__law_levels) := ⟨rfl, rfl, rfl, by decide +kernel, rfl, by decide +kernel, by decide +kernel⟩
def sp__law_levels (K : PySem.W.Frag) : Sp := fun vs H Q _ => ∃ (c : Addr) (v : V) (o : Plc) (cs : List Plc), vs = [.ref c, v] ∧ H c = some (.dT (kvC cs)) ∧ cs.length ≤ 50000 ∧ Tp H v o ∧ o ∈ cs ∧ ∀ f m H', Same H H' → H f = none → H' f = some (.dT (kvG m)) → Dst (· ∈ cs) o m → Q (.ref f) H'
theorem c__law_levels {K : PySem.W.Frag} {c : Addr} {H : Hp} {Q : VK} {E : XK} {v : V} {o : Plc} {cs : List Plc} (hc : H c = some (.dT (kvC cs))) (z : cs.length ≤ 50000) (hv : Tp H v o) (ho : o ∈ cs) (q : ∀ f m H', Same H H' → H f = none → H' f = some (.dT (kvG m)) → Dst (· ∈ cs) o m → Q (.ref f) H') : sp__law_levels K [.ref c, v] H Q E := ⟨c, v, o, cs, rfl, hc, z, hv, ho, q⟩
/-! _law_due -/
abbrev s__law_due : Stmt := topS 41
abbrev n__law_due : List Str := ["found", "one", "row", "closer", "far"]
abbrev n__law_due_p : List Str := ["found", "one"]
theorem sc__law_due : FnScope n__law_due n__law_due_p (defScope s__law_due) := ⟨rfl, rfl, rfl, by decide +kernel, rfl, by decide +kernel, by decide +kernel⟩
def sp__law_due (K : PySem.W.Frag) : Sp := fun vs H Q _ => ∃ (f : Addr) (v : V) (o o1 : Plc) (w : Int) (m : List (Plc × Int)) (cs : List Plc), vs = [.ref f, v] ∧ H f = some (.dT (kvG m)) ∧ Tp H v o1 ∧ getG m o1 = some w ∧ Dst (· ∈ cs) o m ∧ cs.length ≤ 50000 ∧ ∀ l ws H', Same H H' → H l = none → H' l = some (.lst ws) → Tps H' ws (wayG (getG m) o1 (w.toNat + 1)) → Q (.ref l) H'
theorem c__law_due {K : PySem.W.Frag} {f : Addr} {H : Hp} {Q : VK} {E : XK} {v : V} {o o1 : Plc} {w : Int} {m : List (Plc × Int)} {cs : List Plc} (hf : H f = some (.dT (kvG m))) (hv : Tp H v o1) (ew : getG m o1 = some w) (hD : Dst (· ∈ cs) o m) (z : cs.length ≤ 50000) (q : ∀ l ws H', Same H H' → H l = none → H' l = some (.lst ws) → Tps H' ws (wayG (getG m) o1 (w.toNat + 1)) → Q (.ref l) H') : sp__law_due K [.ref f, v] H Q E := ⟨f, v, o, o1, w, m, cs, rfl, hf, hv, ew, hD, z, q⟩
/-! _law_whole -/
abbrev s__law_whole : Stmt := topS 31
abbrev n__law_whole : List Str := ["found"]
abbrev n__law_whole_p : List Str := ["found"]
theorem sc__law_whole : FnScope n__law_whole n__law_whole_p (defScope s__law_whole) := ⟨rfl, rfl, rfl, by decide +kernel, rfl, by decide +kernel, by decide +kernel⟩
def sp__law_whole (K : PySem.W.Frag) : Sp := fun vs H Q _ => ∃ i : Int, vs = [.int i] ∧ Q (.bl true) H
theorem c__law_whole {K : PySem.W.Frag} {H : Hp} {Q : VK} {E : XK} {i : Int} (q : Q (.bl true) H) : sp__law_whole K [.int i] H Q E := ⟨i, rfl, q⟩
/-! _law_place_alike -/
abbrev s__law_place_alike : Stmt := topS 32
abbrev n__law_place_alike : List Str := ["found", "due"]
abbrev n__law_place_alike_p : List Str := ["found", "due"]
theorem sc__law_place_alike : FnScope n__law_place_alike n__law_place_alike_p (defScope s__law_place_alike) := ⟨rfl, rfl, rfl, by decide +kernel, rfl, by decide +kernel, by decide +kernel⟩
def sp__law_place_alike (K : PySem.W.Frag) : Sp := fun vs H Q _ => ∃ v1 v2 p1 p2, vs = [v1, v2] ∧ Pl K H v1 p1 ∧ Pl K H v2 p2 ∧ Q (.bl (decide (p1 = p2))) H
theorem c__law_place_alike {K : PySem.W.Frag} {H : Hp} {Q : VK} {E : XK} {v1 v2 : V} {p1 p2 : Int × Int} (h1 : Pl K H v1 p1) (h2 : Pl K H v2 p2) (q : Q (.bl (decide (p1 = p2))) H) : sp__law_place_alike K [v1, v2] H Q E := ⟨v1, v2, p1, p2, rfl, h1, h2, q⟩
/-! see_place -/
abbrev s_see_place : Stmt := topS 13
abbrev n_see_place : List Str := ["region", "place"]
abbrev n_see_place_p : List Str := ["region", "place"]
theorem sc_see_place : FnScope n_see_place n_see_place_p (defScope s_see_place) := ⟨rfl, rfl, rfl, by decide +kernel, rfl, by decide +kernel, by decide +kernel⟩
def sp_see_place (K : PySem.W.Frag) (C : Addr) : Sp := fun vs H Q _ => ∃ (p d : Addr) (v : V) (z : Plc) (n : Nat) (L : List Row), vs = [.ref p, v] ∧ RegAt C H p d (n : Int) L ∧ n ≤ 4 ∧ Pl K H v z ∧ (addrOf z).length ≤ 1000 ∧ holdsB L n z = true ∧ ∀ H', Same H H' → Q .non H'
theorem c_see_place {K : PySem.W.Frag} {C p d : Addr} {H : Hp} {Q : VK} {E : XK} {v : V} {z : Plc} {n : Nat} {L : List Row} (h : RegAt C H p d (n : Int) L) (n4 : n ≤ 4) (g : Pl K H v z) (hz : (addrOf z).length ≤ 1000) (hb : holdsB L n z = true) (q : ∀ H', Same H H' → Q .non H') : sp_see_place K C [.ref p, v] H Q E := ⟨p, d, v, z, n, L, rfl, h, n4, g, hz, hb, q⟩
/-! levels -/
abbrev s_levels : Stmt := topS 14
abbrev n_levels : List Str := ["region", "place", "found", "edge", "ahead", "here", "far"]
abbrev n_levels_p : List Str := ["region", "place"]
theorem sc_levels : FnScope n_levels n_levels_p (defScope s_levels) := ⟨rfl, rfl, rfl, by decide +kernel, rfl, by decide +kernel, by decide +kernel⟩
def sp_levels (K : PySem.W.Frag) (C : Addr) : Sp := fun vs H Q _ => ∃ (p d : Addr) (v : V) (o : Plc) (n : Nat) (L : List Row), vs = [.ref p, v] ∧ RegAt C H p d (n : Int) L ∧ n ≤ 2 ∧ LvOk L n ∧ L.Nodup ∧ Tp H v o ∧ (addrOf o).length ≤ 1000 ∧ o ∈ L.map placeOf ∧ ∀ f m H', Same H H' → H f = none → H' f = some (.dT (kvG m)) → Dst (· ∈ L.map placeOf) o m → Q (.ref f) H'
theorem c_levels {K : PySem.W.Frag} {C p d : Addr} {H : Hp} {Q : VK} {E : XK} {v : V} {o : Plc} {n : Nat} {L : List Row} (h : RegAt C H p d (n : Int) L) (n2 : n ≤ 2) (hL : LvOk L n) (nd : L.Nodup) (hv : Tp H v o) (hz : (addrOf o).length ≤ 1000) (ho : o ∈ L.map placeOf) (q : ∀ f m H', Same H H' → H f = none → H' f = some (.dT (kvG m)) → Dst (· ∈ L.map placeOf) o m → Q (.ref f) H') : sp_levels K C [.ref p, v] H Q E := ⟨p, d, v, o, n, L, rfl, h, n2, hL, nd, hv, hz, ho, q⟩
/-! way -/
abbrev s_way : Stmt := topS 16
abbrev n_way : List Str := ["region", "one", "other", "found", "row"]
abbrev n_way_p : List Str := ["region", "one", "other"]
theorem sc_way : FnScope n_way n_way_p (defScope s_way) := ⟨rfl, rfl, rfl, by decide +kernel, rfl, by decide +kernel, by decide +kernel⟩
def sp_way (K : PySem.W.Frag) (C : Addr) : Sp := fun vs H Q _ => ∃ (p d : Addr) (v1 v2 : V) (o1 o2 : Plc) (n : Nat) (L : List Row), vs = [.ref p, v1, v2] ∧ RegAt C H p d (n : Int) L ∧ n ≤ 2 ∧ LvOk L n ∧ L.Nodup ∧ Tp H v1 o1 ∧ (addrOf o1).length ≤ 1000 ∧ Tp H v2 o2 ∧ (addrOf o2).length ≤ 1000 ∧ o1 ∈ L.map placeOf ∧ o2 ∈ L.map placeOf ∧ (∀ m, Dst (· ∈ L.map placeOf) o2 m → ∃ w, getG m o1 = some w) ∧ ∀ m w l ws H', Same H H' → Dst (· ∈ L.map placeOf) o2 m → getG m o1 = some w → H l = none → H' l = some (.lst ws) → Tps H' ws (wayG (getG m) o1 (w.toNat + 1)) → Q (.ref l) H'
theorem c_way {K : PySem.W.Frag} {C p d : Addr} {H : Hp} {Q : VK} {E : XK} {v1 v2 : V} {o1 o2 : Plc} {n : Nat} {L : List Row} (h : RegAt C H p d (n : Int) L) (n2 : n ≤ 2) (hL : LvOk L n) (nd : L.Nodup) (hv1 : Tp H v1 o1) (z1 : (addrOf o1).length ≤ 1000) (hv2 : Tp H v2 o2) (z2 : (addrOf o2).length ≤ 1000) (h1 : o1 ∈ L.map placeOf) (h2 : o2 ∈ L.map placeOf) (hw : ∀ m, Dst (· ∈ L.map placeOf) o2 m → ∃ w, getG m o1 = some w) (q : ∀ m w l ws H', Same H H' → Dst (· ∈ L.map placeOf) o2 m → getG m o1 = some w → H l = none → H' l = some (.lst ws) → Tps H' ws (wayG (getG m) o1 (w.toNat + 1)) → Q (.ref l) H') : sp_way K C [.ref p, v1, v2] H Q E := ⟨p, d, v1, v2, o1, o2, n, L, rfl, h, n2, hL, nd, hv1, z1, hv2, z2, h1, h2, hw, q⟩
/-! law -/
abbrev s_law : Stmt := topS 43
abbrev n_law : List Str := ["script", "level", "rows", "region", "cells", "line", "some", "edge", "one", "other", "tried", "found", "due", "k", "far"]
abbrev n_law_p : List Str := ["script"]
theorem sc_law : FnScope n_law n_law_p (defScope s_law) := ⟨rfl, rfl, rfl, by decide +kernel, rfl, by decide +kernel, by decide +kernel⟩
def sp_law (K : PySem.W.Frag) : Sp := fun vs H Q _ => ∃ (a : Addr) (ns : List Int), vs = [.ref a] ∧ SqL K H a (ns.map V.int) ∧ ns.length ≤ 63 ∧ ∀ H', Q (.bl true) H'
end Hx
local macro_rules | `(tactic| walk_at "go") => `(tactic| ((with_reducible refine' Hx.c__law_cell_at ?hp ?hq ?_); (case' hp => walk_at "fact"); (case hq => first | decide | omega)))
local macro_rules | `(tactic| walk_at "go") => `(tactic| ((with_reducible refine' Hx.c__law_rows ?hp ?h0 ?h4 ?_); (case' hp => walk_at "fact"); (case h0 => first | decide | omega); (case h4 => assumption); (intro l ws rows H' s hn hl hw nd fr hf hz)))
local macro_rules | `(tactic| walk_at "go") => `(tactic| ((with_reducible refine' Hx.c_see_figures ?hp ?hf ?_); (case' hp => walk_at "fact"); (case hf => assumption)))
local macro_rules | `(tactic| walk_at "go") => `(tactic| ((with_reducible refine' Hx.c_lines_from ?hp ?hb ?h0 ?h4 ?_); (case' hp => walk_at "fact"); (case hb => omega); (case h0 => omega); (case h4 => omega); (intro l ws H' s hn hl hw)))
local macro_rules | `(tactic| walk_at "go") => `(tactic| ((with_reducible refine' Hx.c__law_step ?hp ?hq ?_); (case hp => omega); (case hq => omega); (intro v H' s g)))
local macro_rules | `(tactic| walk_at "go") => `(tactic| ((with_reducible refine' Hx.c__law_place_T ?hp ?hf ?_); (case' hp => walk_at "fact"); (case hf => assumption); (intro v H' s g gt)))
local macro_rules | `(tactic| walk_at "go") => `(tactic| ((with_reducible refine' Hx.c__law_near ?hp ?_); (case hp => walk_at "fact"); (intro l ws H' s hn hl g)))
local macro_rules | `(tactic| walk_at "go") => `(tactic| ((with_reducible refine' Hx.c_rest ?hp ?_); (case hp => walk_at "fact")))
local macro_rules | `(tactic| walk_at "go") => `(tactic| ((with_reducible refine' Hx.c_step ?hp ?hq ?_); (case hp => omega); (case hq => omega); (intro v g)))
local macro_rules | `(tactic| walk_at "go") => `(tactic| ((with_reducible refine' Hx.c_rest_place ?hp ?hq ?_); (case hp => omega); (case hq => omega); (intro v H' s g)))
local macro_rules | `(tactic| walk_at "go") => `(tactic| ((with_reducible refine' Hx.c_centre ?hp ?_); (case hp => walk_at "fact"); (intro v H' s g)))
local macro_rules | `(tactic| walk_at "go") => `(tactic| ((with_reducible refine' Hx.c_address ?hp ?hz ?_); (case hp => walk_at "fact"); (case hz => first | assumption | omega); (intro l H' s hn hl)))
local macro_rules | `(tactic| walk_at "go") => `(tactic| ((with_reducible refine' Hx.c_Region_holds ?hr ?h4 ?hv ?hz ?_); (case hr => walk_at "fact"); (case h4 => assumption); (case hv => walk_at "fact"); (case hz => first | assumption | omega); (intro H' s)))
local macro_rules | `(tactic| walk_at "go") => `(tactic| ((with_reducible refine' Hx.c_added_T ?hp ?hq ?_); (case hp => walk_at "fact"); (case hq => walk_at "fact"); (intro v H' s g)))
local macro_rules | `(tactic| walk_at "go") => `(tactic| ((with_reducible refine' Hx.c_neighbours_T ?hp ?_); (case hp => walk_at "fact"); (intro l ws H' s hn hl g)))
local macro_rules | `(tactic| walk_at "go") => `(tactic| with_reducible refine Hx.c__law_whole ?_)
local macro_rules | `(tactic| walk_at "go") => `(tactic| ((with_reducible refine' Hx.c__law_place_alike ?hp ?hq ?_); (case hp => walk_at "fact"); (case hq => walk_at "fact")))
namespace Hx
open PySem PySem.Spec PyProof.Rows L2
theorem ok__law_cell_at {P : Program} {w : World} {K : PySem.W.Frag} {mg : Str → Option Value} {base : Heap}  (F : Fn K mg "_law_cell_at" "_law_cell_at" s__law_cell_at n__law_cell_at_p) (T : Tx mg) : Ref P w K mg base CX0 1 "_law_cell_at" n__law_cell_at_p (sp__law_cell_at K) := by
  refine F.ok sc__law_cell_at (fun vs H Q E h => ?_) (fun f cdv A outer s H vs Q E hr h => ?_)
  · obtain ⟨a, ns, k, rfl, _⟩ := h
    rfl
  · refine ⟨_, (pss_cons (ps_if (pt_cmpR op_lt (pv 1) (pe_callB (r := rLen K) cl_len (by rfl) T.b_len (by decide +kernel) (pa_cons (pv 0) pa_nil)) (nomark _))
          (pss_one (ps_ret (pe_ix (r := rIxL K) ix_list (pv 0) (pv 1) (fun _ _ => rfl))))
          pss_nil)
        (pss_one (ps_ret pe_int))), ?_⟩
    try dsimp only [cxOf, Cx.nox, Cx.wish]
    obtain ⟨a, ns, k, rfl, hS, hk, q⟩ := h
    walk_at "run"
    refine ite_d (fun e => ?_) (fun e => ?_)
    · rw [List.length_map] at e
      have hg : atI (ns.map V.int) k = some (.int (ns.getD k.toNat 0)) := by
        refine at_of (j := k.toNat) (by omega) ?_
        have hl : k.toNat < ns.length := by omega
        rw [List.getElem?_map, List.getElem?_eq_getElem hl, List.getD_eq_getElem?_getD, List.getElem?_eq_getElem hl]
        rfl
      walk_at "run"
      unfold cellAt at q
      rw [if_pos e] at q
      exact q
    · rw [List.length_map] at e
      walk_at "run"
      unfold cellAt at q
      rw [if_neg e] at q
      exact q
end Hx
namespace Hx
open PySem PySem.Spec PyProof.Rows L2
theorem ok__law_rows {P : Program} {w : World} {K : PySem.W.Frag} {mg : Str → Option Value} {base : Heap}  (F : Fn K mg "_law_rows" "_law_rows" s__law_rows n__law_rows_p) (T : Tx mg) (R__law_cell_at : Ref P w K mg base CX0 1 "_law_cell_at" n__law_cell_at_p (sp__law_cell_at K)) : Ref P w K mg base CX0 2 "_law_rows" n__law_rows_p (sp__law_rows K) := by
  refine F.ok sc__law_rows (fun vs H Q E h => ?_) (fun f cdv A outer s H vs Q E hr h => ?_)
  · obtain ⟨a, ns, fi, n, rfl, _⟩ := h
    rfl
  · refine ⟨_, (pss_cons (ps_set (i := 3) sc__law_rows.nd rfl (Or.inl rfl) (pe_lst pa_nil))
        (pss_cons (ps_for PassesOwn.never rfl (pi_range1 (by rfl) T.b_range (pa_cons (pe_op op_mod (pe_fn R__law_cell_at (hr.mono (by decide)) (pa_cons (pv 0) (pa_cons (pv 1) pa_nil))) pe_int) pa_nil)) (pg_name (i := 4) sc__law_rows.nd rfl (Or.inl rfl))
          (pss_cons (ps_set (i := 5) sc__law_rows.nd rfl (Or.inl rfl) (pe_fn R__law_cell_at (hr.mono (by decide)) (pa_cons (pv 0) (pa_cons (pe_op op_add (pe_op op_add (pv 1) pe_int) (pv 4)) pa_nil))))
        (pss_cons (ps_set (i := 6) sc__law_rows.nd rfl (Or.inl rfl) (pe_callB (cl_max2 rfl) (by rfl) T.b_max (by decide +kernel) (pa_cons pe_int (pa_cons (pe_op op_sub (pv 2) (pe_op op_mul (pe_op op_mod (pv 5) pe_int) (pe_op op_mod (pe_op op_fdiv (pv 5) pe_int) pe_int))) pa_nil))))
        (pss_cons (ps_set (i := 7) sc__law_rows.nd rfl (Or.inl rfl) (pe_lst pa_nil))
        (pss_cons (ps_set (i := 5) sc__law_rows.nd rfl (Or.inl rfl) (pe_op op_fdiv (pv 5) pe_int))
        (pss_cons (ps_for PassesOwn.never rfl (pi_range1 (by rfl) T.b_range (pa_cons (pv 6) pa_nil)) (pg_name (i := 8) sc__law_rows.nd rfl (Or.inl rfl))
          (pss_cons (ps_expr (pe_bm PySem.F.plainAttrs_list PySem.F.slot_list_append PySem.F.type_list_append mt_append (pv 7) (pa_cons (pe_op op_mod (pv 5) pe_int) pa_nil)))
        (pss_one (ps_set (i := 5) sc__law_rows.nd rfl (Or.inl rfl) (pe_op op_fdiv (pv 5) pe_int)))))
        (pss_one (ps_expr (pe_bm PySem.F.plainAttrs_list PySem.F.slot_list_append PySem.F.type_list_append mt_append (pv 3) (pa_cons (pv 7) pa_nil))))))))))
        (pss_one (ps_ret (pv 3))))), ?_⟩
    try dsimp only [cxOf, Cx.nox, Cx.wish]
    obtain ⟨a, ns, fi, n, rfl, hS, hf0, n4, q⟩ := h
    walk_at "run"
    rename_i l hl
    refine f_range0 (fun i σ H' => ∃ ws rows y4 y5 y6 y7 y8, σ = [some (.ref a), some (.int fi), some (.int (n : Int)), some (.ref l), y4, y5, y6, y7, y8] ∧ Same H H' ∧ H' l = some (.lst ws) ∧ RwtX l H' ws rows ∧ ws.Nodup ∧ (∀ b, V.ref b ∈ ws → H b = none) ∧ (∀ r ∈ rows, Figs r ∧ r.length ≤ n) ∧ rows.length = i) ⟨[], [], none, none, none, none, none, rfl, same_new hl, upd_same, .nil, List.nodup_nil, (by intro b hb; cases hb), (by intro r hr; cases hr), rfl⟩ ?_ ?_
    · rintro i σ H1 hi ⟨ws, rows, y4, y5, y6, y7, y8, rfl, s1, hl1, hw, nd, fr, hf, hn⟩
      have hi8 : i < 8 ∨ i = 8 := by omega
      have hwl := pr_len hw
      have hm1 : 0 ≤ cellAt ns (fi + 1 + (i : Int)) % 3 * (cellAt ns (fi + 1 + (i : Int)) / 3 % 2) := Int.mul_nonneg (by omega) (by omega)
      walk_at "run"
      rename_i p hp
      have hpl : p ≠ l := (ne_of_none hl1 hp).symm
      have hsz : (max 0 ((n : Int) - cellAt ns (fi + 1 + (i : Int)) % 3 * (cellAt ns (fi + 1 + (i : Int)) / 3 % 2))).toNat ≤ n := by omega
      obtain ⟨sz, esz⟩ : ∃ sz, sz = max 0 ((n : Int) - cellAt ns (fi + 1 + (i : Int)) % 3 * (cellAt ns (fi + 1 + (i : Int)) / 3 % 2)) := ⟨_, rfl⟩
      rw [← esz] at hsz ⊢
      walk_at "run"
      refine f_range0 (fun j σ H' => ∃ r c y8, σ = [some (.ref a), some (.int fi), some (.int (n : Int)), some (.ref l), some (.int (i : Int)), some (.int c), some (.int sz), some (.ref p), y8] ∧ Same H1 H' ∧ H' p = some (.lst (r.map V.int)) ∧ Figs r ∧ r.length = j) ⟨[], _, y8, rfl, same_new hp, by show _ = some (HO.lst []); walk_at "ofact", (by intro x hx; cases hx), rfl⟩ ?_ ?_
      · rintro j σ H2 hj ⟨r, c, y8, rfl, s2, hp2, hfr, hnr⟩
        have hz2 : r.length ≤ 100000 := by omega
        walk_at "run"
        refine ⟨r ++ [c % 7], _, _, rfl, s2.mut hp, upd_same, figs_app hfr (figs_one (by omega) (by omega)), by rw [List.length_append, hnr]; rfl⟩
      · rintro σ H2 ⟨r, c, y8, rfl, s2, hp2, hfr, hnr⟩
        have hl2 := s2 _ _ hl1
        have hz3 : ws.length ≤ 100000 := by omega
        walk_at "run"
        refine ⟨_, rows ++ [r], _, _, _, _, _, rfl, (s1.trans s2).mut hl, upd_same, ?_, ?_, ?_, ?_, by rw [List.length_append, hn]; rfl⟩
        · exact pr_snoc ((RwtX.sm s2 hw).put) ⟨p, rfl, hpl, by walk_at "ofact"⟩
        · exact nodup_snoc nd fun hx => by
            obtain ⟨i2, hi2⟩ := List.getElem?_of_mem hx
            obtain ⟨r2, _, b2, eb, _, hb2⟩ := pr_get hw hi2
            cases eb
            rw [hp] at hb2
            cases hb2
        · intro b hb
          rcases List.mem_append.mp hb with hb | hb
          · exact fr b hb
          · rw [List.mem_singleton] at hb
            cases hb
            exact s1.free hp
        · intro x hx
          rcases List.mem_append.mp hx with hx | hx
          · exact hf x hx
          · rw [List.mem_singleton] at hx
            subst hx
            exact ⟨hfr, by omega⟩
    · rintro σ H1 ⟨ws, rows, y4, y5, y6, y7, y8, rfl, s1, hl1, hw, nd, fr, hf, hn⟩
      walk_at "run"
      exact q l ws rows H1 s1 hl hl1 hw nd fr hf (by omega)
end Hx
namespace Hx
open PySem PySem.Spec PyProof.Rows L2
theorem ok_see_figures {P : Program} {w : World} {K : PySem.W.Frag} {mg : Str → Option Value} {base : Heap}  (F : Fn K mg "see_figures" "see_figures" s_see_figures n_see_figures_p) (T : Tx mg) : Ref P w K mg base CX0 1 "see_figures" n_see_figures_p (sp_see_figures K) := by
  refine F.ok sc_see_figures (fun vs H Q E h => ?_) (fun f cdv A outer s H vs Q E hr h => ?_)
  · obtain ⟨a, fs, rfl, _⟩ := h
    rfl
  · refine ⟨_, (pss_one (ps_for PassesOwn.never rfl (pi_list (pv 0)) (pg_name (i := 1) sc_see_figures.nd rfl (Or.inl rfl))
          (pss_one (ps_if (pt_not (pt_chain op_le op_le pe_int (pv 1) pe_int))
          (pss_one ps_never)
          pss_nil)))), ?_⟩
    try dsimp only [cxOf, Cx.nox, Cx.wish]
    obtain ⟨a, fs, rfl, hS, hf, q⟩ := h
    walk_at "run"
    refine f_list (K := K) (xs := fs.map V.int) (fun i σ H' => ∃ y, σ = [some (.ref a), y] ∧ H' = H) ⟨none, rfl, rfl⟩ (fun i σ H' _ ⟨_, _, e⟩ => by rw [e]; exact hS) ?_ ?_
    · rintro i x σ H1 hx ⟨y, rfl, rfl⟩
      obtain ⟨f, hfi, rfl⟩ := map_get hx
      have hm := hf f (List.mem_of_getElem? hfi)
      have h0 := hm.1
      have h1 := hm.2
      walk_at "run"
      exact ⟨_, rfl, rfl⟩
    · rintro σ H1 ⟨y, rfl, rfl⟩
      exact q
end Hx
namespace Hx
open PySem PySem.Spec PyProof.Rows L2
theorem ok_lines_from {P : Program} {w : World} {K : PySem.W.Frag} {mg : Str → Option Value} {base : Heap}  (F : Fn K mg "lines_from" "lines_from" s_lines_from n_lines_from_p) (T : Tx mg) : Ref P w K mg base CX0 1 "lines_from" n_lines_from_p (sp_lines_from K) := by
  refine F.ok sc_lines_from (fun vs H Q E h => ?_) (fun f cdv A outer s H vs Q E hr h => ?_)
  · obtain ⟨a, b, lv, rfl, _⟩ := h
    rfl
  · refine ⟨_, (pss_cons (ps_set (i := 2) sc_lines_from.nd rfl (Or.inl rfl) (pe_lst (pa_cons (pe_callTy (r := rList K) cl_list (by rfl) T.b_list (by decide +kernel) (pa_cons (pv 0) pa_nil)) pa_nil)))
        (pss_cons (ps_for PassesOwn.never rfl (pi_range1 (by rfl) T.b_range (pa_cons (pe_op op_sub (pv 1) (pe_callB (r := rLen K) cl_len (by rfl) T.b_len (by decide +kernel) (pa_cons (pv 0) pa_nil))) pa_nil)) (pg_name (i := 3) sc_lines_from.nd rfl (Or.inl rfl))
          (pss_cons (ps_set (i := 4) sc_lines_from.nd rfl (Or.inl rfl) (pe_lst pa_nil))
        (pss_cons (ps_for PassesOwn.never rfl (pi_list (pv 2)) (pg_name (i := 5) sc_lines_from.nd rfl (Or.inl rfl))
          (pss_one (ps_for PassesOwn.never rfl (pi_range1 (by rfl) T.b_range (pa_cons pe_int pa_nil)) (pg_name (i := 6) sc_lines_from.nd rfl (Or.inl rfl))
          (pss_one (ps_expr (pe_bm PySem.F.plainAttrs_list PySem.F.slot_list_append PySem.F.type_list_append mt_append (pv 4) (pa_cons (pe_op op_cat (pv 5) (pe_lst (pa_cons (pv 6) pa_nil))) pa_nil)))))))
        (pss_one (ps_set (i := 2) sc_lines_from.nd rfl (Or.inl rfl) (pv 4))))))
        (pss_one (ps_ret (pv 2))))), ?_⟩
    try dsimp only [cxOf, Cx.nox, Cx.wish]
    obtain ⟨a, b, lv, rfl, hS, hb, l0, l4, q⟩ := h
    have hbl : (((b.map V.int).length : Nat) : Int) = b.length := by rw [List.length_map]
    walk_at "run"
    rename_i p1 hp1 l1 hl1
    rw [hbl]
    refine f_range0 (fun i σ H' => ∃ l ws y3 y4 y5 y6, σ = [some (.ref a), some (.int lv), some (.ref l), y3, y4, y5, y6] ∧ Same H H' ∧ H l = none ∧ H' l = some (.lst ws) ∧ Rwt H' ws (growN i [b])) ⟨l1, [.ref p1], none, none, none, none, rfl, by walk_at "same", Same.free (same_new hp1) hl1, upd_same, .cons ⟨p1, rfl, by walk_at "ofact"⟩ .nil⟩ ?_ ?_
    · rintro i σ H1 hi ⟨l, ws, y3, y4, y5, y6, rfl, s1, hl0, hl, hw⟩
      have hi4 : i ≤ 3 := by omega
      have hg : (growN i [b]).length ≤ 343 := by
        rw [growN_len]
        have : 7 ^ i ≤ 7 ^ 3 := Nat.pow_le_pow_right (by decide) hi4
        simp only [List.length_cons, List.length_nil]
        omega
      walk_at "run"
      rename_i f hf
      refine f_list (K := K) (xs := ws) (fun j σ H' => ∃ us y5 y6, σ = [some (.ref a), some (.int lv), some (.ref l), some (.int (i : Int)), some (.ref f), y5, y6] ∧ Same H1 H' ∧ H' f = some (.lst us) ∧ RwtX f H' us (grow ((growN i [b]).take j))) ⟨[], y5, y6, rfl, same_new hf, upd_same, .nil⟩ (fun j σ H' _ ⟨_, _, _, _, s, _⟩ => s.seq (SqL.of hl)) ?_ ?_
      · rintro j x σ H2 hx ⟨us, y5, y6, rfl, s2, hfl, hu⟩
        obtain ⟨r, hr, ra, rfl, hra⟩ := pr_get hw hx
        have hrl : r.length ≤ 1003 := by
          have := growN_row (List.mem_of_getElem? hr)
          omega
        walk_at "run"
        refine f_range0 (fun m σ H' => ∃ us y6, σ = [some (.ref a), some (.int lv), some (.ref l), some (.int (i : Int)), some (.ref f), some (.ref ra), y6] ∧ Same H1 H' ∧ H' f = some (.lst us) ∧ RwtX f H' us (grow ((growN i [b]).take j) ++ (figs7.take m).map fun x => r ++ [x])) ⟨us, y6, rfl, s2, hfl, by simpa using hu⟩ ?_ ?_
        · rintro m σ H3 hm ⟨us, y6, rfl, s3, hfl, hu⟩
          have hm7 : m < 7 := hm
          have hra3 : H3 ra = some (.lst (r.map V.int)) := s3 _ _ hra
          have hz1 : r.length + [(m : Int)].length ≤ 100000 := by show r.length + 1 ≤ _; omega
          have hz2 : us.length ≤ 100000 := by
            have h1 := pr_len hu
            rw [List.length_append, grow_len, List.length_take, List.length_map, List.length_take] at h1
            omega
          walk_at "run"
          rename_i p3 hp3 p4 hp4
          have hne : p4 ≠ f := (ne_of_none (upd_at (ne_of_none hfl hp3) hfl) hp4).symm
          refine ⟨_, _, rfl, ?_, upd_same, ?_⟩
          · exact ((s3.trans (same_new hp3)).trans (same_new hp4)).mut hf
          · have e7 : (figs7.take m ++ [(m : Int)]).map (fun x => r ++ [x]) = (figs7.take m).map (fun x => r ++ [x]) ++ [r ++ [(m : Int)]] := List.map_append
            rw [take_snoc (figs7_at hm7), e7, ← List.append_assoc]
            refine pr_snoc ?_ ⟨p4, rfl, hne, by walk_at "ofact"⟩
            exact ((RwtX.sm (same_new hp4) (RwtX.sm (same_new hp3) hu))).put
        · rintro σ H3 ⟨us, y6, rfl, s3, hfl, hu⟩
          refine ⟨us, _, _, rfl, s3, hfl, ?_⟩
          rw [grow_snoc hr]
          exact hu
      · rintro σ H2 ⟨us, y5, y6, rfl, s2, hfl, hu⟩
        walk_at "run"
        refine ⟨f, us, _, _, _, _, rfl, s1.trans s2, s1.free hf, hfl, ?_⟩
        have h1 := pr_len hw
        rw [h1, List.take_length] at hu
        exact hu.rwt
    · rintro σ H1 ⟨l, ws, y3, y4, y5, y6, rfl, s1, hl0, hl, hw⟩
      walk_at "run"
      exact q _ _ _ s1 hl0 hl hw
end Hx
namespace Hx
open PySem PySem.Spec PyProof.Rows L2
theorem ok_Region___init__ {P : Program} {w : World} {K : PySem.W.Frag} {mg : Str → Option Value} {base : Heap} {c_Region : Addr} (F : FnI K mg c_Region "Region" "__init__" "Region.__init__" s_Region___init__ n_Region___init___p) (T : Tx mg) (rc : RegC K mg c_Region) (R_see_figures : Ref P w K mg base CX0 1 "see_figures" n_see_figures_p (sp_see_figures K)) (R_lines_from : Ref P w K mg base CX0 1 "lines_from" n_lines_from_p (sp_lines_from K)) : RefM P w K mg base CX0 2 "Region" c_Region n_Region___init___p (sp_Region___init__ K c_Region) := by
  refine F.ok sc_Region___init__ (fun vs H Q E h => ?_) (fun f cdv A outer s H vs Q E hr h => ?_)
  · obtain ⟨p, dx, a, lv, ws, rows, rfl, _⟩ := h
    rfl
  · refine ⟨_, (pss_cons (ps_if (pt_not (pt_chain op_le op_le pe_int (pv 1) pe_int))
          (pss_one ps_never)
          pss_nil)
        (pss_cons (ps_for PassesOwn.never rfl (pi_list (pv 2)) (pg_name (i := 3) sc_Region___init__.nd rfl (Or.inl rfl))
          (pss_one (ps_expr (pe_fn R_see_figures (hr.mono (by decide)) (pa_cons (pv 3) pa_nil)))))
        (pss_cons (ps_for PassesOwn.never rfl (pi_list (pv 2)) (pg_name (i := 3) sc_Region___init__.nd rfl (Or.inl rfl))
          (pss_one (ps_if (pt_cmpR op_gt (pe_callB (r := rLen K) cl_len (by rfl) T.b_len (by decide +kernel) (pa_cons (pv 3) pa_nil)) (pv 1) (nomark _))
          (pss_one ps_never)
          pss_nil)))
        (pss_cons (ps_fld (pv 0) (pv 1) rfl)
        (pss_cons (ps_fld (pv 0) pe_dnewT rfl)
        (pss_one (ps_for PassesOwn.never rfl (pi_list (pv 2)) (pg_name (i := 3) sc_Region___init__.nd rfl (Or.inl rfl))
          (pss_one (ps_for PassesOwn.never rfl (pi_list (pe_fn R_lines_from (hr.mono (by decide)) (pa_cons (pv 3) (pa_cons (pv 1) pa_nil)))) (pg_name (i := 4) sc_Region___init__.nd rfl (Or.inl rfl))
          (pss_one (ps_dput (hu_of hr) (pe_fld (pv 0) rfl) (pe_callTy (r := rTuple K) cl_tuple (by rfl) T.b_tuple (by decide +kernel) (pa_cons (pv 4) pa_nil)) pe_bl rfl))))))))))), ?_⟩
    try dsimp only [cxOf, Cx.nox, Cx.wish]
    obtain ⟨p, dx, a, lv, ws, rows, rfl, hp, hS, hW, l0, l4, hR, hz, q⟩ := h
    walk_at "run"
    refine f_list (K := K) (xs := ws) (fun i σ H' => ∃ y, σ = [some (.ref p), some (.int lv), some (.ref a), y, none] ∧ H' = H) ⟨none, rfl, rfl⟩ (fun i σ H' _ ⟨_, _, e⟩ => by rw [e]; exact hS) ?_ ?_
    · rintro i x σ H1 hx ⟨y, rfl, rfl⟩
      obtain ⟨r, hr, ra, rfl, hra⟩ := pr_get hW hx
      have hf := (hR r (List.mem_of_getElem? hr)).1
      walk_at "run"
      exact ⟨_, rfl, rfl⟩
    rintro σ H1 ⟨y, rfl, rfl⟩
    walk_at "run"
    refine f_list (K := K) (xs := ws) (fun i σ H' => ∃ y, σ = [some (.ref p), some (.int lv), some (.ref a), y, none] ∧ H' = H1) ⟨_, rfl, rfl⟩ (fun i σ H' _ ⟨_, _, e⟩ => by rw [e]; exact hS) ?_ ?_
    · rintro i x σ H1 hx ⟨y, rfl, rfl⟩
      obtain ⟨r, hr, ra, rfl, hra⟩ := pr_get hW hx
      have hl : ¬ (((r.map V.int).length : Nat) : Int) > lv := by
        have := (hR r (List.mem_of_getElem? hr)).2
        rw [List.length_map]
        omega
      walk_at "run"
      exact ⟨_, rfl, rfl⟩
    rintro σ H ⟨y, rfl, rfl⟩
    walk_at "run"
    rename_i d hd
    have hpd : p ≠ d := (ne_of_none (by exact upd_same) hd)
    have hd0 : H d = none := by
      by_cases e : d = p
      · exact absurd e.symm hpd
      · rw [upd_ne e] at hd
        exact hd
    refine r_iList ((((But.refl (p := p) (H := H)).put).mut hd0).put.seqI hp hS) ?_
    refine f_list (K := K) (xs := ws) (fun i σ H' => ∃ y3 y4, σ = [some (.ref p), some (.int lv), some (.ref a), y3, y4] ∧ But p H H' ∧ H' p = some (.ins c_Region dx (rflds lv d)) ∧ H' d = some (.dT (kvR (insAll [] ((rows.take i).flatMap fun b => linesFrom b lv))))) ⟨_, _, rfl, (((But.refl (p := p) (H := H)).put).mut hd0).put, upd_same, (upd_ne hpd.symm).trans upd_same⟩ (fun i σ H' _ ⟨_, _, _, k, _⟩ => k.seqI hp hS) ?_ ?_
    · rintro i x σ H1 hx ⟨y3, y4, rfl, k1, hp1, hd1⟩
      obtain ⟨r, hr, ra, rfl, hra⟩ := pr_get hW hx
      have hrm := hR r (List.mem_of_getElem? hr)
      have hrl := hrm.2
      have hra1 : SqL K H1 ra (r.map V.int) := k1.seqI hp hra
      walk_at "run"
      rename_i l us H2 s2 hn2 hl2 hu2
      have hp2 := s2 _ _ hp1
      have hd2 := s2 _ _ hd1
      refine f_list (K := K) (xs := us) (fun j σ H' => ∃ y4, σ = [some (.ref p), some (.int lv), some (.ref a), some (.ref ra), y4] ∧ But d H2 H' ∧ H' d = some (.dT (kvR (insAll (insAll [] ((rows.take i).flatMap fun b => linesFrom b lv)) ((linesFrom r lv).take j))))) ⟨_, rfl, But.refl, hd2⟩ (fun j σ H' _ ⟨_, _, k, _⟩ => SqL.of (k.lst hd2 hl2)) ?_ ?_
      · rintro j x σ H3 hx ⟨y4, rfl, k3, hd3⟩
        obtain ⟨t, ht, ta, rfl, hta⟩ := pr_get hu2 hx
        have hta3 := k3.lst hd2 hta
        have hR3 : RegAt c_Region H3 p d lv (insAll (insAll [] ((rows.take i).flatMap fun b => linesFrom b lv)) ((linesFrom r lv).take j)) := ⟨⟨dx, k3.ins hd2 hp2⟩, hd3⟩
        have hz3 : (kvR (insAll (insAll [] ((rows.take i).flatMap fun b => linesFrom b lv)) ((linesFrom r lv).take j))).length ≤ 100000 := by
          rw [kvR_len, ← insAll_app]
          refine Nat.le_trans (insAll_len _ _) ?_
          rw [List.length_append, List.length_take, List.length_nil]
          have e1 : ((rows.take (i + 1)).flatMap fun b => linesFrom b lv).length ≤ (rows.flatMap fun b => linesFrom b lv).length := by
            conv => rhs; rw [← List.take_append_drop (i + 1) rows]
            rw [List.flatMap_append, List.length_append]
            exact Nat.le_add_right _ _
          rw [take_snoc hr, List.flatMap_append, List.length_append] at e1
          have e2 : ([r].flatMap fun b => linesFrom b lv).length = (linesFrom r lv).length := by simp
          omega
        walk_at "run"
        rename_i tt htt
        refine ⟨_, rfl, (k3.sm (same_new htt)).put, ?_⟩
        rw [upd_same, take_snoc ht, insAll_snoc, putK_kvR]
      · rintro σ H3 ⟨y4, rfl, k3, hd3⟩
        have hdl : H d = none := hd0
        refine ⟨_, _, rfl, ?_, k3.ins hd2 hp2, ?_⟩
        · intro b o e n
          exact k3 b o (s2 _ _ (k1 b o e n)) (ne_of_none e hd0)
        · have h1 := pr_len hu2
          rw [h1, List.take_length, ← insAll_app] at hd3
          rw [hd3, take_snoc hr, List.flatMap_append]
          simp
    · rintro σ H1 ⟨y3, y4, rfl, k1, hp1, hd1⟩
      have h1 := pr_len hW
      rw [h1, List.take_length] at hd1
      exact q d H1 k1 hd0 ⟨⟨dx, hp1⟩, hd1⟩
end Hx
namespace Hx
open PySem PySem.Spec PyProof.Rows L2
theorem ok__law_lines {P : Program} {w : World} {K : PySem.W.Frag} {mg : Str → Option Value} {base : Heap}  (F : Fn K mg "_law_lines" "_law_lines" s__law_lines n__law_lines_p) (T : Tx mg) : Ref P w K mg base CX0 1 "_law_lines" n__law_lines_p (sp__law_lines K) := by
  refine F.ok sc__law_lines (fun vs H Q E h => ?_) (fun f cdv A outer s H vs Q E hr h => ?_)
  · obtain ⟨a, b, lv, rfl, _⟩ := h
    rfl
  · refine ⟨_, (pss_cons (ps_set (i := 2) sc__law_lines.nd rfl (Or.inl rfl) (pe_lst (pa_cons (pe_callTy (r := rTuple K) cl_tuple (by rfl) T.b_tuple (by decide +kernel) (pa_cons (pv 0) pa_nil)) pa_nil)))
        (pss_cons (ps_for PassesOwn.never rfl (pi_range1 (by rfl) T.b_range (pa_cons (pe_op op_sub (pv 1) (pe_callB (r := rLen K) cl_len (by rfl) T.b_len (by decide +kernel) (pa_cons (pv 0) pa_nil))) pa_nil)) (pg_name (i := 3) sc__law_lines.nd rfl (Or.inl rfl))
          (pss_cons (ps_set (i := 4) sc__law_lines.nd rfl (Or.inl rfl) (pe_lst pa_nil))
        (pss_cons (ps_for PassesOwn.never rfl (pi_list (pv 2)) (pg_name (i := 5) sc__law_lines.nd rfl (Or.inl rfl))
          (pss_one (ps_for PassesOwn.never rfl (pi_range1 (by rfl) T.b_range (pa_cons pe_int pa_nil)) (pg_name (i := 6) sc__law_lines.nd rfl (Or.inl rfl))
          (pss_one (ps_expr (pe_bm PySem.F.plainAttrs_list PySem.F.slot_list_append PySem.F.type_list_append mt_append (pv 4) (pa_cons (pe_op op_catA (pv 5) (pe_tup (pa_cons (pv 6) pa_nil))) pa_nil)))))))
        (pss_one (ps_set (i := 2) sc__law_lines.nd rfl (Or.inl rfl) (pv 4))))))
        (pss_one (ps_ret (pv 2))))), ?_⟩
    try dsimp only [cxOf, Cx.nox, Cx.wish]
    obtain ⟨a, b, lv, rfl, hS, hb, l0, l4, q⟩ := h
    have hbl : (((b.map V.int).length : Nat) : Int) = b.length := by rw [List.length_map]
    walk_at "run"
    rename_i p1 hp1 l1 hl1
    rw [hbl]
    refine f_range0 (fun i σ H' => ∃ l ws y3 y4 y5 y6, σ = [some (.ref a), some (.int lv), some (.ref l), y3, y4, y5, y6] ∧ Same H H' ∧ H l = none ∧ H' l = some (.lst ws) ∧ Tls H' ws (growN i [b])) ⟨l1, [.ref p1], none, none, none, none, rfl, by walk_at "same", Same.free (same_new hp1) hl1, upd_same, .cons (Tl.sm (same_new hl1) Tl.new) .nil⟩ ?_ ?_
    · rintro i σ H1 hi ⟨l, ws, y3, y4, y5, y6, rfl, s1, hl0, hl, hw⟩
      have hi4 : i ≤ 3 := by omega
      have hg : (growN i [b]).length ≤ 343 := by
        rw [growN_len]
        have : 7 ^ i ≤ 7 ^ 3 := Nat.pow_le_pow_right (by decide) hi4
        simp only [List.length_cons, List.length_nil]
        omega
      walk_at "run"
      rename_i f hf
      refine f_list (K := K) (xs := ws) (fun j σ H' => ∃ us y5 y6, σ = [some (.ref a), some (.int lv), some (.ref l), some (.int (i : Int)), some (.ref f), y5, y6] ∧ Same H1 H' ∧ H' f = some (.lst us) ∧ Tls H' us (grow ((growN i [b]).take j))) ⟨[], y5, y6, rfl, same_new hf, upd_same, .nil⟩ (fun j σ H' _ ⟨_, _, _, _, s, _⟩ => s.seq (SqL.of hl)) ?_ ?_
      · rintro j x σ H2 hx ⟨us, y5, y6, rfl, s2, hfl, hu⟩
        obtain ⟨r, hr, hxr⟩ := pr_get hw hx
        have hrl : r.length ≤ 1000 := by
          have := growN_row (List.mem_of_getElem? hr)
          omega
        walk_at "run"
        refine f_range0 (fun m σ H' => ∃ us y6, σ = [some (.ref a), some (.int lv), some (.ref l), some (.int (i : Int)), some (.ref f), some x, y6] ∧ Same H1 H' ∧ H' f = some (.lst us) ∧ Tls H' us (grow ((growN i [b]).take j) ++ (figs7.take m).map fun x => r ++ [x])) ⟨us, y6, rfl, s2, hfl, by simpa using hu⟩ ?_ ?_
        · rintro m σ H3 hm ⟨us, y6, rfl, s3, hfl, hu⟩
          have hm7 : m < 7 := hm
          have hxr3 := Tl.sm s3 hxr
          have hz2 : us.length ≤ 100000 := by
            have h1 := pr_len hu
            rw [List.length_append, grow_len, List.length_take, List.length_map, List.length_take] at h1
            omega
          walk_at "run"
          rename_i p3 hp3 w H4 s4 g4
          refine ⟨_, _, rfl, ((s3.trans (same_new hp3)).trans s4).mut hf, upd_same, ?_⟩
          have e7 : (figs7.take m ++ [(m : Int)]).map (fun x => r ++ [x]) = (figs7.take m).map (fun x => r ++ [x]) ++ [r ++ [(m : Int)]] := List.map_append
          rw [take_snoc (figs7_at hm7), e7, ← List.append_assoc]
          have hf4 := s4 _ _ (same_new hp3 (o := .tup ([(m : Int)].map V.int)) _ _ hfl)
          exact pr_snoc (Tls.putr hf4 (Tls.sm s4 (Tls.sm (same_new hp3) hu))) (Tl.putr hf4 g4)
        · rintro σ H3 ⟨us, y6, rfl, s3, hfl, hu⟩
          refine ⟨us, _, _, rfl, s3, hfl, ?_⟩
          rw [grow_snoc hr]
          exact hu
      · rintro σ H2 ⟨us, y5, y6, rfl, s2, hfl, hu⟩
        walk_at "run"
        refine ⟨f, us, _, _, _, _, rfl, s1.trans s2, s1.free hf, hfl, ?_⟩
        have h1 := pr_len hw
        rw [h1, List.take_length] at hu
        exact hu
    · rintro σ H1 ⟨l, ws, y3, y4, y5, y6, rfl, s1, hl0, hl, hw⟩
      walk_at "run"
      exact q _ _ _ s1 hl0 hl hw
end Hx
namespace Hx
open PySem PySem.Spec PyProof.Rows L2
theorem ok__law_all {P : Program} {w : World} {K : PySem.W.Frag} {mg : Str → Option Value} {base : Heap}  (F : Fn K mg "_law_all" "_law_all" s__law_all n__law_all_p) (T : Tx mg) (R__law_lines : Ref P w K mg base CX0 1 "_law_lines" n__law_lines_p (sp__law_lines K)) : Ref P w K mg base CX0 2 "_law_all" n__law_all_p (sp__law_all K) := by
  refine F.ok sc__law_all (fun vs H Q E h => ?_) (fun f cdv A outer s H vs Q E hr h => ?_)
  · obtain ⟨a, lv, ws, rows, rfl, _⟩ := h
    rfl
  · refine ⟨_, (pss_cons (ps_set (i := 2) sc__law_all.nd rfl (Or.inl rfl) pe_dnewT)
        (pss_cons (ps_for PassesOwn.never rfl (pi_list (pv 0)) (pg_name (i := 3) sc__law_all.nd rfl (Or.inl rfl))
          (pss_one (ps_for PassesOwn.never rfl (pi_list (pe_fn R__law_lines (hr.mono (by decide)) (pa_cons (pv 3) (pa_cons (pv 1) pa_nil)))) (pg_name (i := 4) sc__law_all.nd rfl (Or.inl rfl))
          (pss_one (ps_dput (hu_of hr) (pv 2) (pv 4) pe_bl rfl)))))
        (pss_one (ps_ret (pv 2))))), ?_⟩
    try dsimp only [cxOf, Cx.nox, Cx.wish]
    obtain ⟨a, lv, ws, rows, rfl, hS, hW, l0, l4, hb, hz, q⟩ := h
    walk_at "run"
    rename_i d hd
    refine f_list (K := K) (xs := ws) (fun i σ H' => ∃ y3 y4, σ = [some (.ref a), some (.int lv), some (.ref d), y3, y4] ∧ Same H H' ∧ H' d = some (.dT (kvR (insAll [] ((rows.take i).flatMap fun b => linesFrom b lv))))) ⟨_, _, rfl, same_new hd, upd_same⟩ (fun i σ H' _ ⟨_, _, _, s, _⟩ => s.seq hS) ?_ ?_
    · rintro i x σ H1 hx ⟨y3, y4, rfl, s1, hd1⟩
      obtain ⟨r, hr, ra, rfl, hra⟩ := pr_get hW hx
      have hra1 := s1.seq hra
      have hrl := hb r (List.mem_of_getElem? hr)
      walk_at "run"
      refine c__law_lines hra1 hrl (by omega) l4 fun l us H2 s2 hn2 hl2 hu2 => ?_
      have hd2 := s2 _ _ hd1
      walk_at "run"
      refine f_list (K := K) (xs := us) (fun j σ H' => ∃ y4, σ = [some (.ref a), some (.int lv), some (.ref d), some (.ref ra), y4] ∧ But d H2 H' ∧ Same H H' ∧ H' d = some (.dT (kvR (insAll (insAll [] ((rows.take i).flatMap fun b => linesFrom b lv)) ((linesFrom r lv).take j))))) ⟨_, rfl, But.refl, s1.trans s2, hd2⟩ (fun j σ H' _ ⟨_, _, k, _⟩ => SqL.of (k.lst hd2 hl2)) ?_ ?_
      · rintro j x σ H3 hx ⟨y4, rfl, k3, s3, hd3⟩
        obtain ⟨t, ht, hxt⟩ := pr_get hu2 hx
        have hxt3 := k3.tl hd2 hxt
        have hz3 : (kvR (insAll (insAll [] ((rows.take i).flatMap fun b => linesFrom b lv)) ((linesFrom r lv).take j))).length ≤ 100000 := by
          rw [kvR_len, ← insAll_app]
          refine Nat.le_trans (insAll_len _ _) ?_
          rw [List.length_append, List.length_take, List.length_nil]
          have e1 : ((rows.take (i + 1)).flatMap fun b => linesFrom b lv).length ≤ (rows.flatMap fun b => linesFrom b lv).length := by
            conv => rhs; rw [← List.take_append_drop (i + 1) rows]
            rw [List.flatMap_append, List.length_append]
            exact Nat.le_add_right _ _
          rw [take_snoc hr, List.flatMap_append, List.length_append] at e1
          have e2 : ([r].flatMap fun b => linesFrom b lv).length = (linesFrom r lv).length := by simp
          omega
        walk_at "run"
        refine ⟨_, rfl, k3.put, s3.mut hd, ?_⟩
        rw [upd_same, take_snoc ht, insAll_snoc, putK_kvR]
      · rintro σ H3 ⟨y4, rfl, k3, s3, hd3⟩
        refine ⟨_, _, rfl, s3, ?_⟩
        have h1 := pr_len hu2
        rw [h1, List.take_length, ← insAll_app] at hd3
        rw [hd3, take_snoc hr, List.flatMap_append]
        simp
    · rintro σ H1 ⟨y3, y4, rfl, s1, hd1⟩
      have h1 := pr_len hW
      rw [h1, List.take_length] at hd1
      walk_at "run"
      exact q d H1 s1 hd hd1
end Hx
namespace Hx
open PySem PySem.Spec PyProof.Rows L2
theorem ok__law_step {P : Program} {w : World} {K : PySem.W.Frag} {mg : Str → Option Value} {base : Heap}  (F : Fn K mg "_law_step" "_law_step" s__law_step n__law_step_p) (T : Tx mg) : Ref P w K mg base CX0 1 "_law_step" n__law_step_p (sp__law_step K) := by
  refine F.ok sc__law_step (fun vs H Q E h => ?_) (fun f cdv A outer s H vs Q E hr h => ?_)
  · obtain ⟨d, rfl, _⟩ := h
    rfl
  · refine ⟨_, (pss_one (ps_ret (pe_ix (r := rIxL K) ix_list (pe_lst (pa_cons (pe_tup (pa_cons pe_int (pa_cons pe_int pa_nil))) (pa_cons (pe_tup (pa_cons pe_int (pa_cons pe_int pa_nil))) (pa_cons (pe_tup (pa_cons pe_int (pa_cons pe_int pa_nil))) (pa_cons (pe_tup (pa_cons (pe_un un_neg pe_int) (pa_cons pe_int pa_nil))) (pa_cons (pe_tup (pa_cons (pe_un un_neg pe_int) (pa_cons pe_int pa_nil))) (pa_cons (pe_tup (pa_cons pe_int (pa_cons (pe_un un_neg pe_int) pa_nil))) (pa_cons (pe_tup (pa_cons pe_int (pa_cons (pe_un un_neg pe_int) pa_nil))) pa_nil)))))))) (pv 0) (fun _ _ => rfl)))), ?_⟩
    try dsimp only [cxOf, Cx.nox, Cx.wish]
    obtain ⟨f, rfl, h0, h1, q⟩ := h
    obtain rfl | rfl | rfl | rfl | rfl | rfl | rfl := fig_cases h0 h1 <;>
      (walk_at "run"; refine q _ _ (by walk_at "same") ?_;
       (first | rw [show restPlace 0 = ((0 : Int), (0 : Int)) from rfl] | rw [show restPlace 1 = ((1 : Int), (0 : Int)) from rfl] | rw [show restPlace 2 = ((0 : Int), (1 : Int)) from rfl] | rw [show restPlace 3 = ((-1 : Int), (1 : Int)) from rfl] | rw [show restPlace 4 = ((-1 : Int), (0 : Int)) from rfl] | rw [show restPlace 5 = ((0 : Int), (-1 : Int)) from rfl] | rw [show restPlace 6 = ((1 : Int), (-1 : Int)) from rfl]);
       walk_at "fact")
end Hx
namespace Hx
open PySem PySem.Spec PyProof.Rows L2
theorem ok__law_place_T {P : Program} {w : World} {K : PySem.W.Frag} {mg : Str → Option Value} {base : Heap}  (F : Fn K mg "_law_place" "_law_place" s__law_place_T n__law_place_T_p) (T : Tx mg) (R__law_step : Ref P w K mg base CX0 1 "_law_step" n__law_step_p (sp__law_step K)) : Ref P w K mg base CX0 2 "_law_place" n__law_place_T_p (sp__law_place_T K) := by
  refine F.ok sc__law_place_T (fun vs H Q E h => ?_) (fun f cdv A outer s H vs Q E hr h => ?_)
  · obtain ⟨a, fs, rfl, _⟩ := h
    rfl
  · refine ⟨_, (pss_cons (ps_set (i := 1) sc__law_place_T.nd rfl (Or.inl rfl) pe_int)
        (pss_cons (ps_set (i := 2) sc__law_place_T.nd rfl (Or.inl rfl) pe_int)
        (pss_cons (ps_for PassesOwn.never rfl (pi_tup (pv 0)) (pg_name (i := 3) sc__law_place_T.nd rfl (Or.inl rfl))
          (pss_cons (ps_set (i := 4) sc__law_place_T.nd rfl (Or.inl rfl) (pe_fn R__law_step (hr.mono (by decide)) (pa_cons (pv 3) pa_nil)))
        (pss_cons (ps_set (i := 5) sc__law_place_T.nd rfl (Or.inl rfl) (pe_op op_add (pe_op op_sub (pe_op op_mul pe_int (pv 1)) (pv 2)) (pe_ix (r := rIxT K) ix_tup (pv 4) pe_int (fun _ _ => rfl))))
        (pss_cons (ps_set (i := 2) sc__law_place_T.nd rfl (Or.inl rfl) (pe_op op_add (pe_op op_add (pv 1) (pe_op op_mul pe_int (pv 2))) (pe_ix (r := rIxT K) ix_tup (pv 4) pe_int (fun _ _ => rfl))))
        (pss_one (ps_set (i := 1) sc__law_place_T.nd rfl (Or.inl rfl) (pv 5)))))))
        (pss_one (ps_ret (pe_tup (pa_cons (pv 1) (pa_cons (pv 2) pa_nil)))))))), ?_⟩
    try dsimp only [cxOf, Cx.nox, Cx.wish]
    obtain ⟨v, fs, rfl, ⟨a, rfl, hS⟩, hf, q⟩ := h
    walk_at "run"
    refine f_tup (K := K) (xs := fs.map V.int) (fun i σ H' => ∃ y3 y4 y5, σ = [some (.ref a), some (.int (placeOf (fs.take i)).1), some (.int (placeOf (fs.take i)).2), y3, y4, y5] ∧ Same H H') ⟨none, none, none, rfl, by walk_at "same"⟩ (fun i σ H' _ ⟨_, _, _, _, s⟩ => s.seqT (SqT.of hS)) ?_ ?_
    · rintro i x σ H1 hx ⟨y3, y4, y5, rfl, s1⟩
      obtain ⟨f, hfi, rfl⟩ := map_get hx
      have hm := hf f (List.mem_of_getElem? hfi)
      have h0 := hm.1
      have h1 := hm.2
      walk_at "run"
      exact ⟨_, _, _, by rw [take_snoc hfi, placeOf_snoc]; exact rfl, by walk_at "same"⟩
    · rintro σ H1 ⟨y3, y4, y5, rfl, s1⟩
      rw [List.length_map, List.take_length]
      walk_at "run"
      exact q _ _ (by walk_at "same") (by exact Pl.new) (by exact Tp.new)
end Hx
namespace Hx
open PySem PySem.Spec PyProof.Rows L2
theorem ok__law_near {P : Program} {w : World} {K : PySem.W.Frag} {mg : Str → Option Value} {base : Heap}  (F : Fn K mg "_law_near" "_law_near" s__law_near n__law_near_p) (T : Tx mg) (R__law_step : Ref P w K mg base CX0 1 "_law_step" n__law_step_p (sp__law_step K)) : Ref P w K mg base CX0 2 "_law_near" n__law_near_p (sp__law_near K) := by
  refine F.ok sc__law_near (fun vs H Q E h => ?_) (fun f cdv A outer s H vs Q E hr h => ?_)
  · obtain ⟨v1, p1, rfl, _⟩ := h
    rfl
  · refine ⟨_, (pss_cons (ps_set (i := 1) sc__law_near.nd rfl (Or.inl rfl) (pe_lst pa_nil))
        (pss_cons (ps_for PassesOwn.never rfl (pi_range2 (by rfl) T.b_range (pa_cons pe_int (pa_cons pe_int pa_nil))) (pg_name (i := 2) sc__law_near.nd rfl (Or.inl rfl))
          (pss_cons (ps_set (i := 3) sc__law_near.nd rfl (Or.inl rfl) (pe_fn R__law_step (hr.mono (by decide)) (pa_cons (pv 2) pa_nil)))
        (pss_one (ps_expr (pe_bm PySem.F.plainAttrs_list PySem.F.slot_list_append PySem.F.type_list_append mt_append (pv 1) (pa_cons (pe_tup (pa_cons (pe_op op_add (pe_ix (r := rIxT K) ix_tup (pv 0) pe_int (fun _ _ => rfl)) (pe_ix (r := rIxT K) ix_tup (pv 3) pe_int (fun _ _ => rfl))) (pa_cons (pe_op op_add (pe_ix (r := rIxT K) ix_tup (pv 0) pe_int (fun _ _ => rfl)) (pe_ix (r := rIxT K) ix_tup (pv 3) pe_int (fun _ _ => rfl))) pa_nil))) pa_nil))))))
        (pss_one (ps_ret (pv 1))))), ?_⟩
    try dsimp only [cxOf, Cx.nox, Cx.wish]
    obtain ⟨v1, p1, rfl, h1, q⟩ := h
    walk_at "run"
    rename_i l hl
    refine f_range (lo := 1) (fun i σ H' => ∃ us y3 y4, σ = [some v1, some (.ref l), y3, y4] ∧ Same H H' ∧ H' l = some (.lst us) ∧ Tps H' us ((nbrs p1).take i)) ⟨[], none, none, rfl, same_new hl, upd_same, .nil⟩ ?_ ?_
    · rintro i σ H1 hi ⟨us, y3, y4, rfl, s1, hl1, g1⟩
      have hi6 : i < 6 := hi
      have h11 := Pl.sm s1 h1
      have hz := pr_len g1
      rw [List.length_take, nbrs_len] at hz
      have hzz : us.length ≤ 100000 := by omega
      have hn : (nbrs p1)[i]? = some (p1.1 + (restPlace (1 + (i : Int))).1, p1.2 + (restPlace (1 + (i : Int))).2) := by
        rw [near_restPlace, List.getElem?_map]
        obtain rfl | rfl | rfl | rfl | rfl | rfl : i = 0 ∨ i = 1 ∨ i = 2 ∨ i = 3 ∨ i = 4 ∨ i = 5 := by omega
        all_goals rfl
      walk_at "run"
      rename_i v2 H2 s2 g2 p3 hp3
      have hl2 := same_new (o := .tup [.int (p1.1 + (restPlace (1 + (i : Int))).1), .int (p1.2 + (restPlace (1 + (i : Int))).2)]) hp3 _ _ (s2 _ _ hl1)
      refine ⟨_, _, _, rfl, ((s1.trans s2).trans (same_new hp3)).mut hl, upd_same, ?_⟩
      rw [take_snoc hn]
      exact pr_snoc (Tps.putr hl2 (Tps.sm (same_new hp3) (Tps.sm s2 g1))) (Tp.putr hl2 Tp.new)
    · rintro σ H1 ⟨us, y3, y4, rfl, s1, hl1, g1⟩
      walk_at "run"
      exact q _ _ _ s1 hl hl1 (by rw [show ((7 : Int) - 1).toNat = 6 from rfl, List.take_of_length_le (by rw [nbrs_len]; exact Nat.le_refl _)] at g1; exact g1)
end Hx
namespace Hx
open PySem PySem.Spec PyProof.Rows L2
theorem ok_rest {P : Program} {w : World} {K : PySem.W.Frag} {mg : Str → Option Value} {base : Heap} {a_FIGURES : Addr} (F : Fn K mg "rest" "rest" s_rest n_rest_p) (T : Tx mg) (g_FIGURES : mg "FIGURES" = some (.ref a_FIGURES)) (k_FIGURES : G_FIGURES K a_FIGURES) : Ref P w K mg base CX0 1 "rest" n_rest_p (sp_rest K) := by
  refine F.ok sc_rest (fun vs H Q E h => ?_) (fun f cdv A outer s H vs Q E hr h => ?_)
  · obtain ⟨v1, p1, rfl, _⟩ := h
    rfl
  · refine ⟨_, (pss_one (ps_ret (pe_ix (r := rIxT K) ix_tup (pe_glob (v := .ref a_FIGURES) rfl g_FIGURES rfl) (pe_op op_mod (pe_op op_add (pe_ix (r := rIxT K) ix_tup (pv 0) pe_int (fun _ _ => rfl)) (pe_op op_mul pe_int (pe_ix (r := rIxT K) ix_tup (pv 0) pe_int (fun _ _ => rfl)))) pe_int) (fun _ _ => rfl)))), ?_⟩
    try dsimp only [cxOf, Cx.nox, Cx.wish]
    obtain ⟨v1, p1, rfl, h1, q⟩ := h
    walk_at "run"
    exact r_ixTn (k_FIGURES _) (by omega) (by show _ < (7 : Int); omega) q
end Hx
namespace Hx
open PySem PySem.Spec PyProof.Rows L2
theorem ok_step {P : Program} {w : World} {K : PySem.W.Frag} {mg : Str → Option Value} {base : Heap} {a_STEPS : Addr} (F : Fn K mg "step" "step" s_step n_step_p) (T : Tx mg) (g_STEPS : mg "STEPS" = some (.ref a_STEPS)) (k_STEPS : G_STEPS K a_STEPS) : Ref P w K mg base CX0 1 "step" n_step_p (sp_step K) := by
  refine F.ok sc_step (fun vs H Q E h => ?_) (fun f cdv A outer s H vs Q E hr h => ?_)
  · obtain ⟨d, rfl, _⟩ := h
    rfl
  · refine ⟨_, (pss_cons (ps_if (pt_not (pt_chain op_le op_le pe_int (pv 0) pe_int))
          (pss_one ps_never)
          pss_nil)
        (pss_one (ps_ret (pe_ix (r := rIxT K) ix_tup (pe_glob (v := .ref a_STEPS) rfl g_STEPS rfl) (pe_op op_sub (pv 0) pe_int) (fun _ _ => rfl))))), ?_⟩
    try dsimp only [cxOf, Cx.nox, Cx.wish]
    obtain ⟨d, rfl, h0, h1, q⟩ := h
    obtain ⟨vs, hA, hB⟩ := k_STEPS
    have hi : steps[(d - 1).toNat]? = some (stepOf d) := by
      have hl : (d - 1).toNat < steps.length := by show _ < 6; omega
      unfold stepOf
      rw [List.getD_eq_getElem?_getD, List.getElem?_eq_getElem hl]
      rfl
    obtain ⟨v, hv, hp⟩ := pr_get' (hB H) hi
    walk_at "run"
    exact r_ixT (hA _) (at_of (j := (d - 1).toNat) (by omega) hv) (q v hp)
end Hx
namespace Hx
open PySem PySem.Spec PyProof.Rows L2
theorem ok_rest_place {P : Program} {w : World} {K : PySem.W.Frag} {mg : Str → Option Value} {base : Heap}  (F : Fn K mg "rest_place" "rest_place" s_rest_place n_rest_place_p) (T : Tx mg) (R_step : Ref P w K mg base CX0 1 "step" n_step_p (sp_step K)) : Ref P w K mg base CX0 2 "rest_place" n_rest_place_p (sp_rest_place K) := by
  refine F.ok sc_rest_place (fun vs H Q E h => ?_) (fun f cdv A outer s H vs Q E hr h => ?_)
  · obtain ⟨d, rfl, _⟩ := h
    rfl
  · refine ⟨_, (pss_cons (ps_if (pt_cmpR op_eq (pv 0) pe_int (nomark _))
          (pss_one (ps_ret (pe_tup (pa_cons pe_int (pa_cons pe_int pa_nil)))))
          pss_nil)
        (pss_one (ps_ret (pe_fn R_step (hr.mono (by decide)) (pa_cons (pv 0) pa_nil))))), ?_⟩
    try dsimp only [cxOf, Cx.nox, Cx.wish]
    obtain ⟨f, rfl, h0, h1, q⟩ := h
    walk_at "run"
    refine ite_d (fun e => ?_) (fun e => ?_)
    · subst e
      walk_at "run"
      exact q _ _ (by walk_at "same") (by exact Pl.new)
    · walk_at "run"
      refine q _ _ (Same.refl _) ?_
      unfold restPlace
      rw [if_neg e]
      assumption
end Hx
namespace Hx
open PySem PySem.Spec PyProof.Rows L2
theorem ok_centre {P : Program} {w : World} {K : PySem.W.Frag} {mg : Str → Option Value} {base : Heap}  (F : Fn K mg "centre" "centre" s_centre n_centre_p) (T : Tx mg) (R_rest_place : Ref P w K mg base CX0 2 "rest_place" n_rest_place_p (sp_rest_place K)) (R_rest : Ref P w K mg base CX0 1 "rest" n_rest_p (sp_rest K)) : Ref P w K mg base CX0 3 "centre" n_centre_p (sp_centre K) := by
  refine F.ok sc_centre (fun vs H Q E h => ?_) (fun f cdv A outer s H vs Q E hr h => ?_)
  · obtain ⟨v1, p1, rfl, _⟩ := h
    rfl
  · refine ⟨_, (pss_cons (ps_set (i := 1) sc_centre.nd rfl (Or.inl rfl) (pe_fn R_rest_place (hr.mono (by decide)) (pa_cons (pe_fn R_rest (hr.mono (by decide)) (pa_cons (pv 0) pa_nil)) pa_nil)))
        (pss_cons (ps_set (i := 2) sc_centre.nd rfl (Or.inl rfl) (pe_op op_sub (pe_ix (r := rIxT K) ix_tup (pv 0) pe_int (fun _ _ => rfl)) (pe_ix (r := rIxT K) ix_tup (pv 1) pe_int (fun _ _ => rfl))))
        (pss_cons (ps_set (i := 3) sc_centre.nd rfl (Or.inl rfl) (pe_op op_sub (pe_ix (r := rIxT K) ix_tup (pv 0) pe_int (fun _ _ => rfl)) (pe_ix (r := rIxT K) ix_tup (pv 1) pe_int (fun _ _ => rfl))))
        (pss_one (ps_ret (pe_tup (pa_cons (pe_op op_fdiv (pe_op op_add (pe_op op_mul pe_int (pv 2)) (pv 3)) pe_int) (pa_cons (pe_op op_fdiv (pe_op op_sub (pe_op op_mul pe_int (pv 3)) (pv 2)) pe_int) pa_nil)))))))), ?_⟩
    try dsimp only [cxOf, Cx.nox, Cx.wish]
    obtain ⟨v1, p1, rfl, h1, q⟩ := h
    have hr0 := (rest_range p1).1
    have hr1 := (rest_range p1).2
    walk_at "run"
    exact q _ _ (by walk_at "same") (by exact Pl.new)
end Hx
namespace Hx
open PySem PySem.Spec PyProof.Rows L2
theorem ok_address {P : Program} {w : World} {K : PySem.W.Frag} {mg : Str → Option Value} {base : Heap}  (F : Fn K mg "address" "address" s_address n_address_p) (T : Tx mg) (R_rest : Ref P w K mg base CX0 1 "rest" n_rest_p (sp_rest K)) (R_centre : Ref P w K mg base CX0 3 "centre" n_centre_p (sp_centre K)) : Ref P w K mg base CX0 4 "address" n_address_p (sp_address K) := by
  refine F.ok sc_address (fun vs H Q E h => ?_) (fun f cdv A outer s H vs Q E hr h => ?_)
  · obtain ⟨v1, p1, rfl, _⟩ := h
    rfl
  · refine ⟨_, (pss_cons (ps_set (i := 1) sc_address.nd rfl (Or.inl rfl) (pe_lst pa_nil))
        (pss_cons (ps_while PassesOwn.never (pt_cmpR (r := rNeD K) (op_neD hr.units) (pv 0) (pe_tup (pa_cons pe_int (pa_cons pe_int pa_nil))) (nomark _))
          (pss_cons (ps_expr (pe_bm PySem.F.plainAttrs_list PySem.F.slot_list_append PySem.F.type_list_append mt_append (pv 1) (pa_cons (pe_fn R_rest (hr.mono (by decide)) (pa_cons (pv 0) pa_nil)) pa_nil)))
        (pss_one (ps_set (i := 0) sc_address.nd rfl (Or.inl rfl) (pe_fn R_centre (hr.mono (by decide)) (pa_cons (pv 0) pa_nil))))))
        (pss_cons (ps_expr (pe_bm0 PySem.F.plainAttrs_list PySem.F.slot_list_reverse PySem.F.type_list_reverse mt_reverse (pv 1)))
        (pss_one (ps_ret (pv 1)))))), ?_⟩
    try dsimp only [cxOf, Cx.nox, Cx.wish]
    obtain ⟨v1, p1, rfl, h1, hz, q⟩ := h
    walk_at "run"
    rename_i l hl0
    refine w_while (fun m σ H' => ∃ v p fs, σ = [some v, some (.ref l)] ∧ Same H H' ∧ Pl K H' v p ∧ H' l = some (.lst (fs.map V.int)) ∧ addrOf p1 = addrOf p ++ fs.reverse ∧ m = (nrm p).toNat) (nrm p1).toNat ⟨v1, p1, [], rfl, by walk_at "same", by walk_at "fact", upd_same, by simp, rfl⟩ ?_
    rintro m σ H1 ⟨v, p, fs, rfl, s1, g, hl, e, rfl⟩
    walk_at "run"
    refine w_whR (fun hb => ?_) (fun hb => ?_)
    · have hp : p ≠ (0, 0) := by simpa using hb
      have e2 := addr_step hp
      have hle : fs.length ≤ 100000 := by
        rw [e, List.length_append, List.length_reverse] at hz
        omega
      have hlt := nrm_less hp
      have hnn := nrm_nonneg (centreOf p)
      walk_at "run"
      refine ⟨_, by omega, _, centreOf p, fs ++ [restOf p], rfl, by walk_at "same", by walk_at "fact", by walk_at "ofact", ?_, rfl⟩
      · rw [e, e2, List.reverse_append, List.append_assoc]
        rfl
    · have hp : p = (0, 0) := by simpa using hb
      subst hp
      rw [addr_zero, List.nil_append] at e
      walk_at "run"
      refine q _ _ (by walk_at "same") hl0 ?_
      rw [e]
      exact upd_same
end Hx
namespace Hx
open PySem PySem.Spec PyProof.Rows L2
theorem ok_Region_holds {P : Program} {w : World} {K : PySem.W.Frag} {mg : Str → Option Value} {base : Heap} {c_Region : Addr} (F : FnM K c_Region "holds" "Region.holds" s_Region_holds n_Region_holds_p) (T : Tx mg) (rc : RegC K mg c_Region) (R_address : Ref P w K mg base CX0 4 "address" n_address_p (sp_address K)) : RefT P w K mg base CX0 5 "holds" c_Region n_Region_holds_p (sp_Region_holds K c_Region) := by
  refine F.ok sc_Region_holds (fun vs H Q E h => ?_) (fun f cdv A outer s H vs Q E hr h => ?_)
  · obtain ⟨p, d, v, z, n, L, rfl, _⟩ := h
    rfl
  · refine ⟨_, (pss_cons (ps_set (i := 2) sc_Region_holds.nd rfl (Or.inl rfl) (pe_fn R_address (hr.mono (by decide)) (pa_cons (pv 1) pa_nil)))
        (pss_cons (ps_if (pt_cmpR op_gt (pe_callB (r := rLen K) cl_len (by rfl) T.b_len (by decide +kernel) (pa_cons (pv 2) pa_nil)) (pe_fld (pv 0) rfl) (nomark _))
          (pss_one (ps_ret pe_bl))
          pss_nil)
        (pss_one (ps_ret (pe_cmp (pc_din (hu_of hr) (pe_callTy (r := rTuple K) cl_tuple (by rfl) T.b_tuple (by decide +kernel) (pa_cons (pe_op op_cat (pe_op op_rep (pe_lst (pa_cons pe_int pa_nil)) (pe_op op_sub (pe_fld (pv 0) rfl) (pe_callB (r := rLen K) cl_len (by rfl) T.b_len (by decide +kernel) (pa_cons (pv 2) pa_nil)))) (pv 2)) pa_nil)) (pe_fld (pv 0) rfl)) rfl))))), ?_⟩
    try dsimp only [cxOf, Cx.nox, Cx.wish]
    obtain ⟨p, d, v, z, n, L, rfl, hR, n4, hv, hz, q⟩ := h
    have hd := hR.dc
    have hz1 : (addrOf z).length ≤ 100000 := by omega
    walk_at "run"
    rename_i l H1 s1 hn1 hl1
    have hd1 := s1 _ _ hd
    have hll : ((((addrOf z).map V.int).length : Nat) : Int) = (((addrOf z).length : Nat) : Int) := by rw [List.length_map]
    rw [hll]
    refine ite_d (fun e => ?_) (fun e => ?_)
    · walk_at "run"
      have e1 : holdsB L n z = false := by
        unfold holdsB
        exact decide_eq_false fun y => by have := y.1; omega
      rw [e1] at q
      exact q _ s1
    · walk_at "run"
      rename_i p1 hp1 p2 hp2 p3 hp3 p4 hp4
      have e1 : holdsB L n z = decide (List.replicate ((n : Int) - ((((addrOf z).map V.int).length : Nat) : Int)).toNat 0 ++ addrOf z ∈ L) := by
        unfold holdsB padL
        rw [hll, show ((n : Int) - (((addrOf z).length : Nat) : Int)).toNat = n - (addrOf z).length by omega]
        exact decide_eq_decide.mpr ⟨fun y => y.2, fun y => ⟨by omega, y⟩⟩
      rw [kvR_isSome, ← e1]
      exact q _ ((((s1.trans (same_new hp1)).trans (same_new hp2)).trans (same_new hp3)).trans (same_new hp4))
end Hx
namespace Hx
open PySem PySem.Spec PyProof.Rows L2
theorem ok_see_place_X {P : Program} {w : World} {K : PySem.W.Frag} {mg : Str → Option Value} {base : Heap} {c_Region : Addr} {c_NoCell : Addr} (F : Fn K mg "see_place" "see_place" s_see_place_X n_see_place_X_p) (T : Tx mg) (rc : RegC K mg c_Region) (e_NoCell : EC K mg "NoCell" c_NoCell) (R_Region_holds : RefT P w K mg base CX0 5 "holds" c_Region n_Region_holds_p (sp_Region_holds K c_Region)) : Ref P w K mg base (L2.CX P w) 6 "see_place" n_see_place_X_p (sp_see_place_X K c_Region c_NoCell) := by
  refine F.okX sc_see_place_X (fun vs H Q E h => ?_) (fun f cdv A outer s H vs Q E hr h => ?_)
  · obtain ⟨p, d, v, z, n, L, rfl, _⟩ := h
    rfl
  · obtain ⟨fm_holds, fdm_holds, Fm_holds, clm_holds, Mm_holds, bm_holds⟩ := R_Region_holds.ex
    refine ⟨_, (pss_one (ps_if (pt_not (pt_val (pe_meth (pv 0) clm_holds Mm_holds Fm_holds (hr.mono (by decide)) bm_holds .nil pass0 (pa_cons (pv 1) pa_nil))))
          (pss_one (ps_raise rfl (takes_of rfl rfl rfl rfl) (pmk_own PySem.F.excBase_ValueError e_NoCell.x e_NoCell.g e_NoCell.k (raises_own e_NoCell.b e_NoCell.t) rfl)))
          pss_nil)), ?_⟩
    try dsimp only [cxOf, Cx.nox, Cx.wish]
    obtain ⟨p, d, v, z, n, L, rfl, h, n4, g, hz, q, x⟩ := h
    cases hb : holdsB L n z with
    | true =>
      walk_at "run"
      exact q hb _ (by walk_at "same")
    | false =>
      walk_at "run"
      exact x hb _ (by walk_at "same")
end Hx
namespace Hx
open PySem PySem.Spec PyProof.Rows L2
theorem ok_added_T {P : Program} {w : World} {K : PySem.W.Frag} {mg : Str → Option Value} {base : Heap}  (F : Fn K mg "added" "added" s_added_T n_added_T_p) (T : Tx mg) : Ref P w K mg base CX0 1 "added" n_added_T_p (sp_added_T K) := by
  refine F.ok sc_added_T (fun vs H Q E h => ?_) (fun f cdv A outer s H vs Q E hr h => ?_)
  · obtain ⟨v1, v2, p1, p2, rfl, _⟩ := h
    rfl
  · refine ⟨_, (pss_one (ps_ret (pe_tup (pa_cons (pe_op op_add (pe_ix (r := rIxT K) ix_tup (pv 0) pe_int (fun _ _ => rfl)) (pe_ix (r := rIxT K) ix_tup (pv 1) pe_int (fun _ _ => rfl))) (pa_cons (pe_op op_add (pe_ix (r := rIxT K) ix_tup (pv 0) pe_int (fun _ _ => rfl)) (pe_ix (r := rIxT K) ix_tup (pv 1) pe_int (fun _ _ => rfl))) pa_nil))))), ?_⟩
    try dsimp only [cxOf, Cx.nox, Cx.wish]
    obtain ⟨v1, v2, p1, p2, rfl, h1, h2, q⟩ := h
    walk_at "run"
    exact q _ _ (by walk_at "same") (by exact Tp.new)
end Hx
namespace Hx
open PySem PySem.Spec PyProof.Rows L2
theorem ok_neighbours_T {P : Program} {w : World} {K : PySem.W.Frag} {mg : Str → Option Value} {base : Heap} {a_STEPS : Addr} (F : Fn K mg "neighbours" "neighbours" s_neighbours_T n_neighbours_T_p) (T : Tx mg) (g_STEPS : mg "STEPS" = some (.ref a_STEPS)) (k_STEPS : G_STEPS K a_STEPS) (R_added_T : Ref P w K mg base CX0 1 "added" n_added_T_p (sp_added_T K)) : Ref P w K mg base CX0 2 "neighbours" n_neighbours_T_p (sp_neighbours_T K) := by
  refine F.ok sc_neighbours_T (fun vs H Q E h => ?_) (fun f cdv A outer s H vs Q E hr h => ?_)
  · obtain ⟨v1, p1, rfl, _⟩ := h
    rfl
  · refine ⟨_, (pss_one (ps_ret (pe_lc (own := [("one", 1)]) (g := gName 1) (tt := tYes) rfl sc_neighbours_T.nd (pi_tup (pe_glob (v := .ref a_STEPS) rfl g_STEPS rfl)) (blkOk_by (N := n_neighbours_T) (sc := defScope s_neighbours_T) (by decide +kernel)) (fun _ _ _ _ _ => pg_name (i := 1) sc_neighbours_T.nd rfl (Or.inl rfl)) (fun _ _ _ _ _ => pts_nil) (fun _ _ _ _ _ => (pe_fn R_added_T (hr.mono (by decide)) (pa_cons (pv 0) (pa_cons (pv 1) pa_nil))))))), ?_⟩
    try dsimp only [cxOf, Cx.nox, Cx.wish]
    obtain ⟨v1, p1, rfl, h1, q⟩ := h
    obtain ⟨vs, hA, hB⟩ := k_STEPS
    walk_at "run"
    refine r_iTup (hA _) ?_
    refine c_tup (fun D i H' => Same H H' ∧ ∃ acc, H' D = some (.lst acc) ∧ Tps H' acc ((nbrs p1).take i)) (fun D hD => ⟨same_new hD, [], upd_same, .nil⟩) (fun D i H' _ _ _ => hA H') ?_ ?_
    · rintro D i x H' hD hx ⟨s1, acc, hd, g⟩
      obtain ⟨s, hs, hp⟩ := pr_get (hB H') hx
      have hi : i < 6 := (List.getElem?_eq_some_iff.mp hs).1
      have hn : (nbrs p1)[i]? = some (p1.1 + s.1, p1.2 + s.2) := by
        unfold nbrs
        rw [List.getElem?_map, hs]
        rfl
      have hl : acc.length = ((nbrs p1).take i).length := pr_len g
      rw [List.length_take, nbrs_len] at hl
      walk_at "run"
      refine ⟨rfl, ?_⟩
      walk_at "run"
      rename_i v2 H2 s2 g2
      refine ⟨by exact (s1.trans s2).mut hD, _, upd_same, ?_⟩
      rw [take_snoc hn]
      exact pr_snoc (Tps.putr (s2 _ _ hd) (Tps.sm s2 g)) (Tp.putr (s2 _ _ hd) g2)
    · rintro D H' hD ⟨s1, acc, hd, g⟩
      have e : vs.length = 6 := pr_len (hB H')
      rw [e, List.take_of_length_le (by rw [nbrs_len]; exact Nat.le_refl _)] at g
      exact q _ _ _ s1 hD hd g
end Hx
namespace Hx
open PySem PySem.Spec PyProof.Rows L2
theorem ok_levels_X {P : Program} {w : World} {K : PySem.W.Frag} {mg : Str → Option Value} {base : Heap} {c_Region : Addr} {c_NoCell : Addr} (F : Fn K mg "levels" "levels" s_levels_X n_levels_X_p) (T : Tx mg) (rc : RegC K mg c_Region) (e_NoCell : EC K mg "NoCell" c_NoCell) (R_see_place_X : Ref P w K mg base (L2.CX P w) 6 "see_place" n_see_place_X_p (sp_see_place_X K c_Region c_NoCell)) (R_neighbours_T : Ref P w K mg base CX0 2 "neighbours" n_neighbours_T_p (sp_neighbours_T K)) (R_Region_holds : RefT P w K mg base CX0 5 "holds" c_Region n_Region_holds_p (sp_Region_holds K c_Region)) : Ref P w K mg base (L2.CX P w) 7 "levels" n_levels_X_p (sp_levels_X K c_Region c_NoCell) := by
  refine F.okX sc_levels_X (fun vs H Q E h => ?_) (fun f cdv A outer s H vs Q E hr h => ?_)
  · obtain ⟨p, d, v, z, n, L, rfl, _⟩ := h
    rfl
  · obtain ⟨fm_holds, fdm_holds, Fm_holds, clm_holds, Mm_holds, bm_holds⟩ := R_Region_holds.ex
    refine ⟨_, (pss_cons (ps_expr (pe_fnX R_see_place_X (hr.mono (by decide)) (takes_of rfl rfl rfl rfl) (pa_cons (pv 0) (pa_cons (pv 1) pa_nil))))
        (pss_cons (ps_set (i := 2) sc_levels_X.nd rfl (Or.inl rfl) (pe_dOne (u0 hr) (pv 1) pe_int))
        (pss_cons (ps_set (i := 3) sc_levels_X.nd rfl (Or.inl rfl) (pe_lst (pa_cons (pv 1) pa_nil)))
        (pss_cons (ps_while (passes_of rfl) (pt_tru (pv 3) (by intro _; rfl))
          (pss_cons (ps_set (i := 4) sc_levels_X.nd rfl (Or.inl rfl) (pe_lst pa_nil))
        (pss_cons (ps_for (passes_of rfl) rfl (pi_list (pv 3)) (pg_name (i := 5) sc_levels_X.nd rfl (Or.inl rfl))
          (pss_one (ps_for (passes_of rfl) rfl (pi_list (pe_fn R_neighbours_T (hr.mono (by decide)) (pa_cons (pv 5) pa_nil))) (pg_name (i := 6) sc_levels_X.nd rfl (Or.inl rfl))
          (pss_one (ps_if (PW.pt (pw_and (pt_cmp (pc_dnotin (hu_of hr) (pv 6) (pv 2))) (pw_and1 (pt_val (pe_meth (pv 0) clm_holds Mm_holds Fm_holds (hr.mono (by decide)) bm_holds .nil pass0 (pa_cons (pv 6) pa_nil))))))
          (pss_cons (ps_dput (hu_of hr) (pv 2) (pv 6) (pe_op op_add (pe_dget (hu_of hr) (pv 2) (pv 5) (fun _ _ => rfl)) pe_int) rfl)
        (pss_one (ps_expr (pe_bm PySem.F.plainAttrs_list PySem.F.slot_list_append PySem.F.type_list_append mt_append (pv 4) (pa_cons (pv 6) pa_nil)))))
          pss_nil)))))
        (pss_one (ps_set (i := 3) sc_levels_X.nd rfl (Or.inl rfl) (pv 4))))))
        (pss_one (ps_ret (pv 2))))))), ?_⟩
    try dsimp only [cxOf, Cx.nox, Cx.wish]
    obtain ⟨p, d, v, o, n, L, rfl, hR, n2, hL, nd, hv, hz, q0, x⟩ := h
    have n4 : n ≤ 4 := by omega
    walk_at "run"
    refine c_see_place_X hR n4 hv.pl hz (fun hb H1 s1 => ?_) (fun hb H1 s1 => x (fun z => ?_) H1 s1)
    case refine_2 =>
      rw [holds_place hL, decide_eq_true z] at hb
      cases hb
    have ho : o ∈ L.map placeOf := by
      rw [holds_place hL] at hb
      exact of_decide_eq_true hb
    have q := q0 ho
    have hR1 := RegAt.sm s1 hR
    have hv1 := Tp.sm s1 hv
    have hll := lv_len nd hL n4
    walk_at "run"
    rename_i f hf el hel
    have hfe : f ≠ el := ne_of_none upd_same hel
    have hel1 : H1 el = none := by
      rw [upd_ne hfe.symm, upd_ne hfe.symm] at hel
      exact hel
    obtain ⟨npf, ndf⟩ := RegAt.ne hR1 hf
    have s12 : Same H1 (upd (upd (upd H1 f (.dT [])) f (.dT (kvG [(o, 0)]))) el (.lst [v])) := (((Same.refl H1).mut hf).mut hf).mut hel1
    have hf2 : upd (upd (upd H1 f (.dT [])) f (.dT (kvG [(o, 0)]))) el (.lst [v]) f = some (.dT (kvG [(o, 0)])) := upd_at hfe upd_same
    have hel2 : upd (upd (upd H1 f (.dT [])) f (.dT (kvG [(o, 0)]))) el (.lst [v]) el = some (.lst [v]) := upd_same
    obtain ⟨H2, e2⟩ : ∃ G, G = upd (upd (upd H1 f (.dT [])) f (.dT (kvG [(o, 0)]))) el (.lst [v]) := ⟨_, rfl⟩
    rw [← e2] at s12 hf2 hel2 ⊢
    clear e2 hel
    refine w_while (fun mm σ H' => ∃ el ws E m k y4 y5 y6, σ = [some (.ref p), some v, some (.ref f), some (.ref el), y4, y5, y6] ∧ Same H1 H' ∧ H' f = some (.dT (kvG m)) ∧ H' el = some (.lst ws) ∧ Tps H' ws E ∧ Lev (· ∈ L.map placeOf) o k m E ∧ mm = 2 * (L.length - m.length) + (if E = [] then 0 else 1)) _ ⟨el, [v], [o], [(o, 0)], 0, none, none, none, rfl, s12, hf2, hel2, .cons (Tp.sm s12 hv1) .nil, lev0 ho, rfl⟩ ?_
    clear hel2 hf2 s12 hel1 hfe
    clear el H2
    rintro mm σ H2 ⟨el, ws, E, m, k, y4, y5, y6, rfl, s2, hf2, hel2, hw2, hL2, rfl⟩
    have hwl := pr_len hw2
    have hR2 := RegAt.sm s2 hR1
    walk_at "run"
    refine w_whR (fun hb => ?_) (fun hb => ?_)
    · have hne : E ≠ [] := fun z => by
        rw [z] at hwl
        have : ws = [] := List.eq_nil_of_length_eq_zero hwl
        rw [this] at hb
        cases hb
      have hfe : el ≠ f := ne_ld hel2 hf2
      walk_at "run"
      rename_i al hal
      refine f_list (K := K) (xs := ws) (fun j σ H' => ∃ m' A us y5 y6, σ = [some (.ref p), some v, some (.ref f), some (.ref el), some (.ref al), y5, y6] ∧ But f H2 H' ∧ H' f = some (.dT (kvG m')) ∧ H' al = some (.lst us) ∧ Tps H' us A ∧ Mid (· ∈ L.map placeOf) o k E m' A (E.take j) ∧ m.length + A.length = m'.length) ⟨m, [], [], y5, y6, rfl, But.refl.mut hal, upd_at (ne_of_none hf2 hal) hf2, upd_same, .nil, hL2.mid, rfl⟩ (fun j σ H' _ ⟨_, _, _, _, _, _, k4, _⟩ => SqL.of (k4 _ _ hel2 hfe)) ?_ ?_
      · rintro j x σ H4 hx ⟨m', A, us, y5, y6, rfl, k4, hf4, hal4, hu4, hM4, hlen⟩
        obtain ⟨h0, hh, hxh⟩ := pr_get hw2 hx
        have hxh4 : Tp H4 x h0 := k4.tp hf2 hxh
        have hE := List.mem_of_getElem? hh
        have hcs := hM4.inS h0 k ((hM4.edge h0).mp hE)
        walk_at "run"
        rename_i l wsn H5 s5 hnl hl5 g5
        have hxh5 := Tp.sm s5 hxh4
        have hwn := pr_len g5
        refine f_list (K := K) (xs := wsn) (fun t σ H' => ∃ m'' A' us' y6, σ = [some (.ref p), some v, some (.ref f), some (.ref el), some (.ref al), some x, y6] ∧ But f H2 H' ∧ H' f = some (.dT (kvG m'')) ∧ H' al = some (.lst us') ∧ Tps H' us' A' ∧ H' l = some (.lst wsn) ∧ l ≠ al ∧ Tps H' wsn (nbrs h0) ∧ Tp H' x h0 ∧ Mid (· ∈ L.map placeOf) o k E m'' A' (E.take j) ∧ (∀ q ∈ (nbrs h0).take t, q ∈ L.map placeOf → ∃ u, getG m'' q = some u) ∧ m.length + A'.length = m''.length) ⟨m', A, us, _, rfl, k4.sm s5, s5 _ _ hf4, s5 _ _ hal4, Tps.sm s5 hu4, hl5, (ne_of_none hal4 hnl).symm, g5, hxh5, hM4, (fun q hq => by cases hq), hlen⟩ (fun t σ H' _ ⟨_, _, _, _, _, _, _, _, _, hl, _⟩ => SqL.of hl) ?_ ?_
        · rintro t z σ H6 hz ⟨m'', A', us', y6, rfl, k6, hf6, hal6, hu6, hl6, nla, g6, hx6, hM6, hc6, hlen6⟩
          obtain ⟨q0, hq, hzq⟩ := pr_get g6 hz
          have hqn := List.mem_of_getElem? hq
          have hz1 := sml_len (near_small hL n2 hcs hqn)
          have hR6 := RegAt.but hR2 k6 npf ndf
          have hk6 := (hM6.edge h0).mp hE
          have hml := nd_len hM6.nd hM6.inS
          rw [List.length_map] at hml
          have hul := pr_len hu6
          have hz2 : us'.length ≤ 100000 := by omega
          have hz3 : m''.length ≤ 100000 := by omega
          cases e1 : getG m'' q0 with
          | none =>
            have e2 : (getG m'' q0).isSome = false := by rw [e1]; rfl
            walk_at "run"
            rename_i H7 s7
            rw [holds_place hL]
            have hf7 := s7 _ _ hf6
            have hal7 := s7 _ _ hal6
            have hu7 := Tps.sm s7 hu6
            have g7 := Tps.sm s7 g6
            have hx7 := Tp.sm s7 hx6
            have hzq7 := Tp.sm s7 hzq
            have nal : al ≠ f := ne_ld hal7 hf7
            have hl7 := s7 _ _ hl6
            have nlf : l ≠ f := ne_ld hl7 hf7
            refine ite_d (fun e => ?_) (fun e => ?_)
            · clear hf6 hal6 hu6 hl6 g6 hx6 hzq hR6
              walk_at "run"
              refine ⟨m'' ++ [(q0, k + 1)], A' ++ [q0], _, _, rfl, ((k6.sm s7).put).mut hal, upd_at nal.symm upd_same, upd_same, ?_, upd_at nla (upd_at nlf hl7), nla, ?_, ?_, hM6.add hE hqn e e1, ?_, by rw [List.length_append, List.length_append, ← Nat.add_assoc, hlen6]; rfl⟩
              · exact Tps.putr (upd_at nal hal7) (pr_snoc (Tps.putd hf7 hu7) (Tp.putd hf7 hzq7))
              · exact Tps.putr (upd_at nal hal7) (Tps.putd hf7 g7)
              · exact Tp.putr (upd_at nal hal7) (Tp.putd hf7 hx7)
              · intro r hr hrc
                rw [take_snoc hq] at hr
                rw [getG_snoc e1]
                rcases List.mem_append.mp hr with hr | hr
                · obtain ⟨u, eu⟩ := hc6 r hr hrc
                  by_cases y : r = q0
                  · exact ⟨k + 1, by rw [if_pos y]⟩
                  · exact ⟨u, by rw [if_neg y]; exact eu⟩
                · exact ⟨k + 1, by rw [if_pos (List.mem_singleton.mp hr)]⟩
            · walk_at "run"
              refine ⟨m'', A', us', _, rfl, k6.sm s7, hf7, hal7, hu7, hl7, nla, g7, hx7, hM6, ?_, hlen6⟩
              intro r hr hrc
              rw [take_snoc hq] at hr
              rcases List.mem_append.mp hr with hr | hr
              · exact hc6 r hr hrc
              · rw [List.mem_singleton] at hr
                subst hr
                exact absurd hrc e
          | some u0 =>
            have e2 : (getG m'' q0).isSome = true := by rw [e1]; rfl
            walk_at "run"
            refine ⟨m'', A', us', _, rfl, k6, hf6, hal6, hu6, hl6, nla, g6, hx6, hM6, ?_, hlen6⟩
            intro r hr hrc
            rw [take_snoc hq] at hr
            rcases List.mem_append.mp hr with hr | hr
            · exact hc6 r hr hrc
            · rw [List.mem_singleton] at hr
              subst hr
              exact ⟨u0, e1⟩
        · rintro σ H6 ⟨m'', A', us', y6, rfl, k6, hf6, hal6, hu6, hl6, nla, g6, hx6, hM6, hc6, hlen6⟩
          rw [hwn, List.take_length] at hc6
          refine ⟨m'', A', us', _, _, rfl, k6, hf6, hal6, hu6, ?_, hlen6⟩
          rw [take_snoc hh]
          exact hM6.done hc6
      · rintro σ H4 ⟨m', A, us, y5, y6, rfl, k4, hf4, hal4, hu4, hM4, hlen⟩
        rw [hwl, List.take_length] at hM4
        have hml := nd_len hM4.nd hM4.inS
        rw [List.length_map] at hml
        walk_at "run"
        refine ⟨_, ?_, al, us, A, m', k + 1, _, _, _, rfl, k4.same s2 hf, hf4, hal4, hu4, hM4.lev, rfl⟩
        rw [if_neg hne]
        by_cases hA : A = []
        · rw [if_pos hA]
          omega
        · rw [if_neg hA]
          have : 0 < A.length := List.length_pos_iff.mpr hA
          omega
    · have hw0 : ws = [] := by simpa using hb
      have hE : E = [] := by
        rw [hw0] at hwl
        exact List.eq_nil_of_length_eq_zero hwl.symm
      subst hE
      walk_at "run"
      exact q f m H2 (s1.trans s2) (s1.free hf) hf2 hL2.dst
end Hx
namespace Hx
open PySem PySem.Spec PyProof.Rows L2
theorem ok_nearer {P : Program} {w : World} {K : PySem.W.Frag} {mg : Str → Option Value} {base : Heap}  (F : Fn K mg "nearer" "nearer" s_nearer n_nearer_p) (T : Tx mg) (R_neighbours_T : Ref P w K mg base CX0 2 "neighbours" n_neighbours_T_p (sp_neighbours_T K)) : Ref P w K mg base CX0 3 "nearer" n_nearer_p (sp_nearer K) := by
  refine F.ok sc_nearer (fun vs H Q E h => ?_) (fun f cdv A outer s H vs Q E hr h => ?_)
  · obtain ⟨f, v, p, w, m, rfl, _⟩ := h
    rfl
  · refine ⟨_, (pss_cons (ps_for PassesOwn.never rfl (pi_list (pe_fn R_neighbours_T (hr.mono (by decide)) (pa_cons (pv 1) pa_nil))) (pg_name (i := 2) sc_nearer.nd rfl (Or.inl rfl))
          (pss_one (ps_if (pt_cmpR op_eq (pe_dget2 (hu_of hr) (pv 0) (pv 2) (pe_un un_neg pe_int) ⟨by rfl, by rfl, by rfl, by rfl⟩) (pe_op op_sub (pe_dget (hu_of hr) (pv 0) (pv 1) (fun _ _ => rfl)) pe_int) (nomark _))
          (pss_one (ps_ret (pv 2)))
          pss_nil)))
        (pss_one (ps_ret (pv 1)))), ?_⟩
    try dsimp only [cxOf, Cx.nox, Cx.wish]
    obtain ⟨f, v, p, w, m, rfl, hf, hv, ew, q⟩ := h
    walk_at "run"
    rename_i l ws H1 s1 hn1 hl1 g1
    have hf1 := s1 _ _ hf
    have hv1 := Tp.sm s1 hv
    have hwl := pr_len g1
    refine f_list (K := K) (xs := ws) (fun i σ H' => ∃ y, σ = [some (.ref f), some v, y] ∧ H' = H1 ∧ ∀ r ∈ (nbrs p).take i, decide ((getG m r).getD (-1) = (getG m p).getD 0 - 1) = false) ⟨_, rfl, rfl, (by intro r hr; cases hr)⟩ (fun i σ H' _ ⟨_, _, e, _⟩ => by rw [e]; exact SqL.of hl1) ?_ ?_
    · rintro i x σ H2 hx ⟨y, rfl, rfl, hno⟩
      obtain ⟨r, hr, hxr⟩ := pr_get g1 hx
      have e0 : (getG m p).getD 0 - 1 = w - 1 := by rw [ew]; rfl
      walk_at "run"
      refine ite_d (fun e => ?_) (fun e => ?_)
      · walk_at "run"
        have hd : downG (getG m) p = r := by
          unfold downG
          rw [find_at hr hno (decide_eq_true (by rw [e0]; exact e))]
          rfl
        exact q _ _ s1 (by rw [hd]; exact hxr)
      · walk_at "run"
        refine ⟨_, rfl, rfl, fun r2 h2 => ?_⟩
        rw [take_snoc hr] at h2
        rcases List.mem_append.mp h2 with h2 | h2
        · exact hno r2 h2
        · rw [List.mem_singleton] at h2
          subst h2
          exact decide_eq_false (by rw [e0]; exact e)
    · rintro σ H2 ⟨y, rfl, rfl, hno⟩
      rw [hwl, List.take_length] at hno
      walk_at "run"
      have hd : downG (getG m) p = p := by
        unfold downG
        rw [find_no hno]
        rfl
      exact q _ _ s1 (by rw [hd]; exact hv1)
end Hx
namespace Hx
open PySem PySem.Spec PyProof.Rows L2
theorem ok_way_X {P : Program} {w : World} {K : PySem.W.Frag} {mg : Str → Option Value} {base : Heap} {c_Region : Addr} {c_Apart : Addr} {c_NoCell : Addr} (F : Fn K mg "way" "way" s_way_X n_way_X_p) (T : Tx mg) (rc : RegC K mg c_Region) (e_Apart : EC K mg "Apart" c_Apart) (e_NoCell : EC K mg "NoCell" c_NoCell) (R_see_place_X : Ref P w K mg base (L2.CX P w) 6 "see_place" n_see_place_X_p (sp_see_place_X K c_Region c_NoCell)) (R_levels_X : Ref P w K mg base (L2.CX P w) 7 "levels" n_levels_X_p (sp_levels_X K c_Region c_NoCell)) (R_nearer : Ref P w K mg base CX0 3 "nearer" n_nearer_p (sp_nearer K)) : Ref P w K mg base (L2.CX P w) 8 "way" n_way_X_p (sp_way_X K c_Region c_NoCell c_Apart) := by
  refine F.okX sc_way_X (fun vs H Q E h => ?_) (fun f cdv A outer s H vs Q E hr h => ?_)
  · obtain ⟨p, d, v1, v2, o1, o2, n, L, rfl, _⟩ := h
    rfl
  · refine ⟨_, (pss_cons (ps_expr (pe_fnX R_see_place_X (hr.mono (by decide)) (takes_of rfl rfl rfl rfl) (pa_cons (pv 0) (pa_cons (pv 1) pa_nil))))
        (pss_cons (ps_set (i := 3) sc_way_X.nd rfl (Or.inl rfl) (pe_fnX R_levels_X (hr.mono (by decide)) (takes_of rfl rfl rfl rfl) (pa_cons (pv 0) (pa_cons (pv 2) pa_nil))))
        (pss_cons (ps_if (pt_cmp (pc_dnotin (hu_of hr) (pv 1) (pv 3)))
          (pss_one (ps_raise rfl (takes_of rfl rfl rfl rfl) (pmk_own PySem.F.excBase_ValueError e_Apart.x e_Apart.g e_Apart.k (raises_own e_Apart.b e_Apart.t) rfl)))
          pss_nil)
        (pss_cons (ps_set (i := 4) sc_way_X.nd rfl (Or.inl rfl) (pe_lst (pa_cons (pv 1) pa_nil)))
        (pss_cons (ps_while (passes_of rfl) (pt_cmpR (r := rNeD K) (op_neD hr.units) (pe_ix (r := rIxL K) ix_list (pv 4) (pe_un un_neg pe_int) (fun _ _ => rfl)) (pv 2) (nomark _))
          (pss_one (ps_expr (pe_bm PySem.F.plainAttrs_list PySem.F.slot_list_append PySem.F.type_list_append mt_append (pv 4) (pa_cons (pe_fn R_nearer (hr.mono (by decide)) (pa_cons (pv 3) (pa_cons (pe_ix (r := rIxL K) ix_list (pv 4) (pe_un un_neg pe_int) (fun _ _ => rfl)) pa_nil))) pa_nil)))))
        (pss_one (ps_ret (pv 4)))))))), ?_⟩
    try dsimp only [cxOf, Cx.nox, Cx.wish]
    obtain ⟨p, d, v1, v2, o1, o2, n, L, rfl, hR, n2, hL, nd, hv1, z1, hv2, z2, x1, x2, q0⟩ := h
    walk_at "run"
    refine c_see_place_X hR (by omega) hv1.pl z1 (fun hb H1 s1 => ?_) (fun hb H1 s1 => x1 (.inl fun z => ?_) H1 s1)
    case refine_2 =>
      rw [holds_place hL, decide_eq_true z] at hb
      cases hb
    have h1 : o1 ∈ L.map placeOf := by
      rw [holds_place hL] at hb
      exact of_decide_eq_true hb
    walk_at "run"
    refine c_levels_X (RegAt.sm s1 hR) n2 hL nd (Tp.sm s1 hv2) z2 (fun h2 f m H2 s2 hnf hf2 hD => ?_) (fun h2 H2 s2 => x1 (.inr h2) H2 (s1.trans s2))
    have s12 := s1.trans s2
    have q := q0 h1 h2
    cases ew : getG m o1 with
    | none =>
      have e2 : (getG m o1).isSome = false := by rw [ew]; rfl
      have hv12 := Tp.sm s12 hv1
      walk_at "run"
      exact x2 h1 h2 m _ (by walk_at "same") hD ew
    | some w =>
      have hll := lv_len nd hL (by omega)
      have hv12 := Tp.sm s12 hv1
      have hv22 := Tp.sm s12 hv2
      have w0 := hD.pos _ _ ew
      have hwm := hD.len ew
      have hml := nd_len hD.nd hD.inS
      rw [List.length_map] at hml
      have e2 : (getG m o1).isSome = true := by rw [ew]; rfl
      walk_at "run"
      rename_i row hrow
      have s23 : Same H2 (upd H2 row (.lst [v1])) := same_new hrow
      have hr3 : upd H2 row (.lst [v1]) row = some (.lst [v1]) := upd_same
      obtain ⟨H3, e3⟩ : ∃ G, G = upd H2 row (.lst [v1]) := ⟨_, rfl⟩
      rw [← e3] at s23 hr3 ⊢
      clear e3
      have hrow0 : H row = none := s12.free hrow
      refine w_while (fun mm σ H' => ∃ (i : Nat) (us : List V), σ = [some (.ref p), some v1, some v2, some (.ref f), some (.ref row)] ∧ Same H2 H' ∧ (i : Int) ≤ w ∧ H' row = some (.lst us) ∧ Tps H' us (wayG (getG m) o1 (i + 1)) ∧ mm = (w - i).toNat) _ ⟨0, [v1], rfl, s23, w0, hr3, .cons (Tp.sm s23 hv12) .nil, rfl⟩ ?_
      clear hr3 s23
      clear H3
      rintro mm σ H3 ⟨i, us, rfl, s3, hiw, hr3, hu3, rfl⟩
      have hul := pr_len hu3
      rw [wayG_len] at hul
      have hn : (wayG (getG m) o1 (i + 1))[us.length - 1]? = some (dnN (getG m) o1 i) := by
        rw [hul, wayG_succ, Nat.add_sub_cancel, List.getElem?_append_right (by rw [wayG_len]; exact Nat.le_refl _), wayG_len, Nat.sub_self]
        rfl
      obtain ⟨x, hx, hxp⟩ := pr_get' hu3 hn
      have ha := at_last hx (by omega)
      have hv23 := Tp.sm s3 hv22
      have hf3 := s3 _ _ hf2
      have hval := hD.dn_val ew hiw
      have huz : us.length ≤ 100000 := by omega
      walk_at "run"
      refine w_whR (fun hb => ?_) (fun hb => ?_)
      · have hne : dnN (getG m) o1 i ≠ o2 := by simpa using hb
        have hlt : (i : Int) < w := by
          rcases Int.lt_or_eq_of_le hiw with z | z
          · exact z
          · rw [show w - (i : Int) = 0 by omega] at hval
            exact absurd (hD.nought hval) hne
        walk_at "run"
        refine c_nearer hf3 hxp hval fun v4 H4 s4 g4 => ?_
        have hr4 := s4 _ _ hr3
        walk_at "run"
        refine ⟨(w - ((i + 1 : Nat) : Int)).toNat, by omega, i + 1, us ++ [v4], rfl, ((s3.trans s4).mut hrow), by omega, upd_same, ?_, rfl⟩
        rw [wayG_succ]
        exact pr_snoc (Tps.putr hr4 (Tps.sm s4 hu3)) (Tp.putr hr4 g4)
      · have he : dnN (getG m) o1 i = o2 := by simpa using hb
        rw [he, hD.st] at hval
        have hwi : w = (i : Int) := by
          have := Option.some.inj hval
          omega
        walk_at "run"
        exact q m w row us H3 (s12.trans s3) hD ew hrow0 hr3 (by rw [hwi]; exact hu3)
end Hx
namespace Hx
open PySem PySem.Spec PyProof.Rows L2
theorem ok__law_tried {P : Program} {w : World} {K : PySem.W.Frag} {mg : Str → Option Value} {base : Heap} {c_Region : Addr} {c_FloorError : Addr} {c_NoLevel : Addr} {c_NoFigure : Addr} {c_NoCell : Addr} {c_Apart : Addr} (F : Fn K mg "_law_tried" "_law_tried" s__law_tried n__law_tried_p) (T : Tx mg) (rc : RegC K mg c_Region) (e_FloorError : EC K mg "FloorError" c_FloorError) (e_NoLevel : EC K mg "NoLevel" c_NoLevel) (e_NoFigure : EC K mg "NoFigure" c_NoFigure) (e_NoCell : EC K mg "NoCell" c_NoCell) (e_Apart : EC K mg "Apart" c_Apart) (z_FloorError_FloorError : Rel K c_FloorError c_FloorError true) (z_FloorError_NoLevel : Rel K c_FloorError c_NoLevel false) (z_FloorError_NoFigure : Rel K c_FloorError c_NoFigure false) (z_FloorError_NoCell : Rel K c_FloorError c_NoCell false) (z_FloorError_Apart : Rel K c_FloorError c_Apart false) (z_NoLevel_FloorError : Rel K c_NoLevel c_FloorError true) (z_NoLevel_NoLevel : Rel K c_NoLevel c_NoLevel true) (z_NoLevel_NoFigure : Rel K c_NoLevel c_NoFigure false) (z_NoLevel_NoCell : Rel K c_NoLevel c_NoCell false) (z_NoLevel_Apart : Rel K c_NoLevel c_Apart false) (z_NoFigure_FloorError : Rel K c_NoFigure c_FloorError true) (z_NoFigure_NoLevel : Rel K c_NoFigure c_NoLevel false) (z_NoFigure_NoFigure : Rel K c_NoFigure c_NoFigure true) (z_NoFigure_NoCell : Rel K c_NoFigure c_NoCell false) (z_NoFigure_Apart : Rel K c_NoFigure c_Apart false) (z_NoCell_FloorError : Rel K c_NoCell c_FloorError true) (z_NoCell_NoLevel : Rel K c_NoCell c_NoLevel false) (z_NoCell_NoFigure : Rel K c_NoCell c_NoFigure false) (z_NoCell_NoCell : Rel K c_NoCell c_NoCell true) (z_NoCell_Apart : Rel K c_NoCell c_Apart false) (z_Apart_FloorError : Rel K c_Apart c_FloorError true) (z_Apart_NoLevel : Rel K c_Apart c_NoLevel false) (z_Apart_NoFigure : Rel K c_Apart c_NoFigure false) (z_Apart_NoCell : Rel K c_Apart c_NoCell false) (z_Apart_Apart : Rel K c_Apart c_Apart true) (R_way_X : Ref P w K mg base (L2.CX P w) 8 "way" n_way_X_p (sp_way_X K c_Region c_NoCell c_Apart)) : Ref P w K mg base CX0 9 "_law_tried" n__law_tried_p (sp__law_tried K c_Region) := by
  refine F.ok sc__law_tried (fun vs H Q E h => ?_) (fun f cdv A outer s H vs Q E hr h => ?_)
  · obtain ⟨p, d, v1, v2, o1, o2, n, L, rfl, _⟩ := h
    rfl
  · refine ⟨_, (pss_cons (ps_set (i := 3) sc__law_tried.nd rfl (Or.inl rfl) pe_non)
        (pss_cons (ps_set (i := 4) sc__law_tried.nd rfl (Or.inl rfl) (pe_lst pa_nil))
        (pss_cons (ps_try_as (i := 5) rfl rfl sc__law_tried.nd rfl rfl ⟨rfl, by decide, Or.inl e_FloorError.g⟩ takes0 (fun W pn xe tk po =>
          (pss_one (ps_set (i := 3) sc__law_tried.nd rfl (Or.inl rfl) (pe_fnX R_way_X (hr.mono (by decide)) tk (pa_cons (pv 0) (pa_cons (pv 1) (pa_cons (pv 2) pa_nil))))))) (fun xa xo xc xd xp hz hf =>
          (pss_one (ps_set (i := 4) sc__law_tried.nd rfl (Or.inl rfl) (pe_lst (pa_cons (pe_callB (call_isX hz hf) (by rfl) T.b_isinstance (by decide +kernel) (pa_cons (pv 5) (pa_cons (pe_glob (v := .ref c_Apart) rfl e_Apart.g rfl) pa_nil))) (pa_cons (pe_callB (call_isX hz hf) (by rfl) T.b_isinstance (by decide +kernel) (pa_cons (pv 5) (pa_cons (pe_glob (v := .ref c_NoCell) rfl e_NoCell.g rfl) pa_nil))) (pa_cons (pe_callB (call_isX hz hf) (by rfl) T.b_isinstance (by decide +kernel) (pa_cons (pv 5) (pa_cons (pe_glob (v := .ref c_NoFigure) rfl e_NoFigure.g rfl) pa_nil))) (pa_cons (pe_callB (call_isX hz hf) (by rfl) T.b_isinstance (by decide +kernel) (pa_cons (pv 5) (pa_cons (pe_glob (v := .ref c_NoLevel) rfl e_NoLevel.g rfl) pa_nil))) pa_nil)))))))))
        (pss_one (ps_ret (pe_tup (pa_cons (pv 3) (pa_cons (pv 4) pa_nil)))))))), ?_⟩
    try dsimp only [cxOf, Cx.nox, Cx.wish]
    obtain ⟨p, d, v1, v2, o1, o2, n, L, rfl, hR, n2, hL, nd, hv1, z1, hv2, z2, x1, x2, q⟩ := h
    walk_at "run"
    rename_i k0 hk0
    refine c_way_X (RegAt.sm (same_new hk0) hR) n2 hL nd (Tp.sm (same_new hk0) hv1) z1 (Tp.sm (same_new hk0) hv2) z2 (fun z H' s => ?_) (fun h1 h2 m H' s hD e => ?_) (fun h1 h2 m w l ws H' s hD e hn hl hw => ?_)
    · refine w_as (exm_rel e_FloorError z_NoCell_FloorError) (fun ea hea => ?_)
      walk_at "run"
      rename_i k2 hk2 t2 ht2
      exact x1 z t2 k2 _ (by walk_at "same") upd_same (upd_at (ne_of_none upd_same ht2) upd_same)
    · refine w_as (exm_rel e_FloorError z_Apart_FloorError) (fun ea hea => ?_)
      walk_at "run"
      rename_i k2 hk2 t2 ht2
      exact x2 h1 h2 m t2 k2 _ (by walk_at "same") hD e upd_same (upd_at (ne_of_none upd_same ht2) upd_same)
    · have hk : H' k0 = some (.lst []) := s _ _ upd_same
      have hln : H l = none := Same.free (same_new hk0) hn
      have nkl : k0 ≠ l := ne_of_none (show upd H k0 (.lst []) k0 = some (.lst []) from upd_same) hn
      walk_at "run"
      rename_i t ht
      exact q h1 h2 m w t l k0 ws _ (by walk_at "same") hD e hln upd_same (same_new ht _ _ hk) (same_new ht _ _ hl) (Tps.sm (same_new ht) hw) (ne_of_none hl ht).symm nkl
end Hx
namespace Hx
open PySem PySem.Spec PyProof.Rows L2
theorem ok__law_levels {P : Program} {w : World} {K : PySem.W.Frag} {mg : Str → Option Value} {base : Heap}  (F : Fn K mg "_law_levels" "_law_levels" s__law_levels n__law_levels_p) (T : Tx mg) (R__law_near : Ref P w K mg base CX0 2 "_law_near" n__law_near_p (sp__law_near K)) : Ref P w K mg base CX0 3 "_law_levels" n__law_levels_p (sp__law_levels K) := by
  refine F.ok sc__law_levels (fun vs H Q E h => ?_) (fun f cdv A outer s H vs Q E hr h => ?_)
  · obtain ⟨c, v, o, cs, rfl, _⟩ := h
    rfl
  · refine ⟨_, (pss_cons (ps_set (i := 2) sc__law_levels.nd rfl (Or.inl rfl) (pe_dOne (u0 hr) (pv 1) pe_int))
        (pss_cons (ps_set (i := 3) sc__law_levels.nd rfl (Or.inl rfl) (pe_lst (pa_cons (pv 1) pa_nil)))
        (pss_cons (ps_set (i := 4) sc__law_levels.nd rfl (Or.inl rfl) pe_int)
        (pss_cons (ps_while PassesOwn.never (pt_cmpR op_lt (pv 4) (pe_callB (r := rLen K) cl_len (by rfl) T.b_len (by decide +kernel) (pa_cons (pv 3) pa_nil)) (nomark _))
          (pss_cons (ps_for PassesOwn.never rfl (pi_list (pe_fn R__law_near (hr.mono (by decide)) (pa_cons (pe_ix (r := rIxL K) ix_list (pv 3) (pv 4) (fun _ _ => rfl)) pa_nil))) (pg_name (i := 5) sc__law_levels.nd rfl (Or.inl rfl))
          (pss_one (ps_if (PW.pt (pw_and (pt_cmp (pc_din (hu_of hr) (pv 5) (pv 0))) (pw_and1 (pt_cmp (pc_dnotin (hu_of hr) (pv 5) (pv 2))))))
          (pss_cons (ps_dput (hu_of hr) (pv 2) (pv 5) (pe_op op_add (pe_dget (hu_of hr) (pv 2) (pe_ix (r := rIxL K) ix_list (pv 3) (pv 4) (fun _ _ => rfl)) (fun _ _ => rfl)) pe_int) rfl)
        (pss_one (ps_expr (pe_bm PySem.F.plainAttrs_list PySem.F.slot_list_append PySem.F.type_list_append mt_append (pv 3) (pa_cons (pv 5) pa_nil)))))
          pss_nil)))
        (pss_one (ps_set (i := 4) sc__law_levels.nd rfl (Or.inl rfl) (pe_op op_add (pv 4) pe_int)))))
        (pss_one (ps_ret (pv 2))))))), ?_⟩
    try dsimp only [cxOf, Cx.nox, Cx.wish]
    obtain ⟨c, v, o, cs, rfl, hc, hcz, hv, ho, q⟩ := h
    walk_at "run"
    rename_i f hf l hl
    have hlf : f ≠ l := ne_of_none upd_same hl
    have hl0 : H l = none := by
      rw [upd_ne hlf.symm, upd_ne hlf.symm] at hl
      exact hl
    have s1 : Same H (upd (upd (upd H f (.dT [])) f (.dT (kvG [(o, 0)]))) l (.lst [v])) := (((Same.refl H).mut hf).mut hf).mut hl0
    have hf1 : upd (upd (upd H f (.dT [])) f (.dT (kvG [(o, 0)]))) l (.lst [v]) f = some (.dT (kvG [(o, 0)])) := upd_at hlf upd_same
    have hl1 : upd (upd (upd H f (.dT [])) f (.dT (kvG [(o, 0)]))) l (.lst [v]) l = some (.lst [v]) := upd_same
    obtain ⟨H1, e1⟩ : ∃ G, G = upd (upd (upd H f (.dT [])) f (.dT (kvG [(o, 0)]))) l (.lst [v]) := ⟨_, rfl⟩
    rw [← e1] at s1 hf1 hl1 ⊢
    clear e1 hl
    refine w_while (fun mm σ H' => ∃ (k : Nat) (m : List (Plc × Int)) (ws : List V) (y6 : Option V), σ = [some (.ref c), some v, some (.ref f), some (.ref l), some (.int (k : Int)), y6] ∧ Same H H' ∧ H' f = some (.dT (kvG m)) ∧ H' l = some (.lst ws) ∧ Tps H' ws (m.map (·.1)) ∧ Que (· ∈ cs) o k m ∧ mm = cs.length - k) _ ⟨0, [(o, 0)], [v], none, rfl, s1, hf1, hl1, .cons (Tp.sm s1 hv) .nil, que0 ho, rfl⟩ ?_
    clear hl1 hf1 s1
    clear H1
    rintro mm σ H1 ⟨k, m, ws, y6, rfl, s1, hf1, hl1, hw1, hQ1, rfl⟩
    have hwl := pr_len hw1
    rw [List.length_map] at hwl
    walk_at "run"
    refine w_whR (fun hb => ?_) (fun hb => ?_)
    · have hkl : k < m.length := by
        have := of_decide_eq_true hb
        omega
      have hmc := nd_len hQ1.nd hQ1.inS
      obtain ⟨⟨h0, u0⟩, he⟩ : ∃ e, m[k]? = some e := ⟨_, List.getElem?_eq_getElem hkl⟩
      have hek : (m.map (·.1))[k]? = some h0 := by rw [List.getElem?_map, he]; rfl
      obtain ⟨x, hx, hxh⟩ := pr_get' hw1 hek
      have ha : atI ws (k : Int) = some x := at_of rfl hx
      walk_at "run"
      rename_i ln wsn H2 s2 hnn hln g2
      have nfn : ln ≠ f := (ne_of_none hf1 hnn).symm
      have nln : ln ≠ l := (ne_of_none hl1 hnn).symm
      have hwn := pr_len g2
      refine f_list (K := K) (xs := wsn) (fun t σ H' => ∃ (m' : List (Plc × Int)) (ws' : List V) (y6 : Option V), σ = [some (.ref c), some v, some (.ref f), some (.ref l), some (.int (k : Int)), y6] ∧ Same H H' ∧ H' f = some (.dT (kvG m')) ∧ H' l = some (.lst ws') ∧ Tps H' ws' (m'.map (·.1)) ∧ H' ln = some (.lst wsn) ∧ Tps H' wsn (nbrs h0) ∧ Que (· ∈ cs) o k m' ∧ m'[k]? = some (h0, u0) ∧ ∀ q ∈ (nbrs h0).take t, q ∈ cs → ∃ u, getG m' q = some u) ⟨m, ws, _, rfl, s1.trans s2, s2 _ _ hf1, s2 _ _ hl1, Tps.sm s2 hw1, hln, g2, hQ1, he, (fun q hq => by cases hq)⟩ (fun t σ H' _ ⟨_, _, _, _, _, _, _, _, h, _⟩ => SqL.of h) ?_ ?_
      · rintro t z σ H3 hz ⟨m', ws', y6, rfl, s3, hf3, hl3, hw3, hn3, g3, hQ3, he3, hcov⟩
        obtain ⟨q0, hq, hzq⟩ := pr_get g3 hz
        have hqn := List.mem_of_getElem? hq
        have hek3 : (m'.map (·.1))[k]? = some h0 := by rw [List.getElem?_map, he3]; rfl
        obtain ⟨x3, hx3, hxh3⟩ := pr_get' hw3 hek3
        have ha3 : atI ws' (k : Int) = some x3 := at_of rfl hx3
        have hu0 : getG m' h0 = some u0 := getG_of hQ3.nd (List.mem_of_getElem? he3)
        have hm3 := nd_len hQ3.nd hQ3.inS
        have hw3l := pr_len hw3
        rw [List.length_map] at hw3l
        have hz1 : ws'.length ≤ 100000 := by omega
        have hz2 : m'.length ≤ 100000 := by omega
        have hc3 := s3 _ _ hc
        have nfl : l ≠ f := hlf.symm
        by_cases hqc : q0 ∈ cs
        · cases eq : getG m' q0 with
          | none =>
            have e2 : (getG m' q0).isSome = false := by rw [eq]; rfl
            clear ha hx hxh hw1 hl1 hf1 g2 hln
            walk_at "run"
            have hl4 : upd H3 f (.dT (kvG (m' ++ [(q0, u0 + 1)]))) l = some (.lst ws') := upd_at nfl hl3
            refine ⟨m' ++ [(q0, u0 + 1)], ws' ++ [z], _, rfl, (s3.mut hf).mut hl0, upd_at hlf upd_same, upd_same, ?_, upd_at nln (upd_at nfn hn3), ?_, hQ3.add he3 hqn hqc eq, ?_, ?_⟩
            · rw [List.map_append]
              exact Tps.putr hl4 (pr_snoc (Tps.putd hf3 hw3) (Tp.putd hf3 hzq))
            · exact Tps.putr hl4 (Tps.putd hf3 g3)
            · rw [List.getElem?_append_left (List.getElem?_eq_some_iff.mp he3).1]
              exact he3
            · intro r hr hrc
              rw [take_snoc hq] at hr
              rw [getG_snoc eq]
              by_cases y : r = q0
              · exact ⟨u0 + 1, by rw [if_pos y]⟩
              · rcases List.mem_append.mp hr with hr | hr
                · obtain ⟨u, eu⟩ := hcov r hr hrc
                  exact ⟨u, by rw [if_neg y]; exact eu⟩
                · exact absurd (List.mem_singleton.mp hr) y
          | some u1 =>
            have e2 : (getG m' q0).isSome = true := by rw [eq]; rfl
            walk_at "run"
            refine ⟨m', ws', _, rfl, s3, hf3, hl3, hw3, hn3, g3, hQ3, he3, ?_⟩
            intro r hr hrc
            rw [take_snoc hq] at hr
            rcases List.mem_append.mp hr with hr | hr
            · exact hcov r hr hrc
            · rw [List.mem_singleton] at hr
              subst hr
              exact ⟨u1, eq⟩
        · walk_at "run"
          refine ⟨m', ws', _, rfl, s3, hf3, hl3, hw3, hn3, g3, hQ3, he3, ?_⟩
          intro r hr hrc
          rw [take_snoc hq] at hr
          rcases List.mem_append.mp hr with hr | hr
          · exact hcov r hr hrc
          · rw [List.mem_singleton] at hr
            subst hr
            exact absurd hrc hqc
      · rintro σ H3 ⟨m', ws', y6, rfl, s3, hf3, hl3, hw3, hn3, g3, hQ3, he3, hcov⟩
        rw [hwn, List.take_length] at hcov
        walk_at "run"
        exact ⟨cs.length - (k + 1), by omega, k + 1, m', ws', _, rfl, s3, hf3, hl3, hw3, hQ3.next he3 hcov, rfl⟩
    · have hkl : m.length ≤ k := by
        have : ¬ (k : Int) < ((ws.length : Nat) : Int) := of_decide_eq_false hb
        omega
      walk_at "run"
      exact q f m H1 s1 hf hf1 (hQ1.dst hkl)
end Hx
namespace Hx
open PySem PySem.Spec PyProof.Rows L2
theorem ok__law_due {P : Program} {w : World} {K : PySem.W.Frag} {mg : Str → Option Value} {base : Heap}  (F : Fn K mg "_law_due" "_law_due" s__law_due n__law_due_p) (T : Tx mg) (R__law_near : Ref P w K mg base CX0 2 "_law_near" n__law_near_p (sp__law_near K)) : Ref P w K mg base CX0 3 "_law_due" n__law_due_p (sp__law_due K) := by
  refine F.ok sc__law_due (fun vs H Q E h => ?_) (fun f cdv A outer s H vs Q E hr h => ?_)
  · obtain ⟨f, v, o, o1, w, m, cs, rfl, _⟩ := h
    rfl
  · refine ⟨_, (pss_cons (ps_set (i := 2) sc__law_due.nd rfl (Or.inr rfl) (pe_lst (pa_cons (pv 1) pa_nil)))
        (pss_cons (ps_while PassesOwn.never (pt_cmpR op_gt (pe_dget (hu_of hr) (pv 0) (pe_ix (r := rIxL K) ix_list (pv 2) (pe_un un_neg pe_int) (fun _ _ => rfl)) (fun _ _ => rfl)) pe_int (nomark _))
          (pss_cons (ps_setLc (i := 3) (own := [("far", 4)]) (g := gName 4) rfl sc__law_due.nd rfl rfl (sw_true rfl rfl rfl (by decide +kernel)) (pi_list (pe_fn R__law_near (hr.mono (by decide)) (pa_cons (pe_ix (r := rIxL K) ix_list (pv 2) (pe_un un_neg pe_int) (fun _ _ => rfl)) pa_nil))) (blkOk_by (N := n__law_due) (sc := defScope s__law_due) (by decide +kernel)) (fun _ _ _ _ _ => pg_name (i := 4) sc__law_due.nd rfl (Or.inl rfl)) (fun _ _ _ _ _ => (pts_one (pt_cmpR op_eq (pe_dget2 (hu_of hr) (pv 0) (pv 4) (pe_un un_neg pe_int) ⟨by rfl, by rfl, by rfl, by rfl⟩) (pe_op op_sub (pe_dget (hu_of hr) (pv 0) (pe_ix (r := rIxL K) ix_list (pv 2) (pe_un un_neg pe_int) (fun _ _ => rfl)) (fun _ _ => rfl)) pe_int) (nomark _)))) (fun _ _ _ _ _ => (pv 4)))
        (pss_one (ps_expr (pe_bm PySem.F.plainAttrs_list PySem.F.slot_list_append PySem.F.type_list_append mt_append (pv 2) (pa_cons (pe_ix (r := rIxL K) ix_list (pv 3) pe_int (fun _ _ => rfl)) pa_nil))))))
        (pss_one (ps_ret (pv 2))))), ?_⟩
    try dsimp only [cxOf, Cx.nox, Cx.wish]
    obtain ⟨f, v, o, o1, w, m, cs, rfl, hf, hv, ew, hD, hcz, q⟩ := h
    have w0 := hD.pos _ _ ew
    have hwm := hD.len ew
    have hml := nd_len hD.nd hD.inS
    walk_at "run"
    rename_i row hrow
    refine w_while (fun mm σ H' => ∃ (i : Nat) (us : List V) (y4 y5 : Option V), σ = [some (.ref f), some v, some (.ref row), y4, y5] ∧ Same H H' ∧ (i : Int) ≤ w ∧ H' row = some (.lst us) ∧ Tps H' us (wayG (getG m) o1 (i + 1)) ∧ mm = (w - i).toNat) _ ⟨0, [v], none, none, rfl, same_new hrow, w0, upd_same, .cons (Tp.sm (same_new hrow) hv) .nil, rfl⟩ ?_
    rintro mm σ H1 ⟨i, us, y4, y5, rfl, s1, hiw, hr1, hu1, rfl⟩
    have hul := pr_len hu1
    rw [wayG_len] at hul
    have hn : (wayG (getG m) o1 (i + 1))[us.length - 1]? = some (dnN (getG m) o1 i) := by
      rw [hul, wayG_succ, Nat.add_sub_cancel, List.getElem?_append_right (by rw [wayG_len]; exact Nat.le_refl _), wayG_len, Nat.sub_self]
      rfl
    obtain ⟨x, hx, hxp⟩ := pr_get' hu1 hn
    have ha := at_last hx (by omega)
    have hf1 := s1 _ _ hf
    have hval := hD.dn_val ew hiw
    have huz : us.length ≤ 100000 := by omega
    walk_at "run"
    refine w_whR (fun hb => ?_) (fun hb => ?_)
    · have hlt : 0 < w - (i : Int) := of_decide_eq_true hb
      obtain ⟨q1, hq1, hdq, hvq⟩ := hD.down_some hval hlt
      have e0 : (getG m (dnN (getG m) o1 i)).getD 0 - 1 = w - (i : Int) - 1 := by rw [hval]; rfl
      walk_at "run"
      rename_i ln wsn H2 s2 hnn hln g2
      have hf2 := s2 _ _ hf1
      have hr2 := s2 _ _ hr1
      have hx2 := Tp.sm s2 hxp
      have hwn := pr_len g2
      rw [nbrs_len] at hwn
      refine c_list (K := K) (xs := wsn) (fun D t H' => Same H2 H' ∧ ∃ acc, H' D = some (.lst acc) ∧ Tps H' acc (((nbrs (dnN (getG m) o1 i)).take t).filter fun r => decide ((getG m r).getD (-1) = (getG m (dnN (getG m) o1 i)).getD 0 - 1))) (fun D hD2 => ⟨same_new hD2, [], upd_same, .nil⟩) (fun D t H' hD2 _ ⟨s, _⟩ => s.seq (SqL.of hln)) ?_ ?_
      · rintro D t z H3 hD3 hz ⟨s3, acc, hd3, g3⟩
        obtain ⟨r, hr, hzr⟩ := pr_get g2 hz
        have hzr3 := Tp.sm s3 hzr
        have hf3 := s3 _ _ hf2
        have hr3 := s3 _ _ hr2
        have hx3 := Tp.sm s3 hx2
        have hal : acc.length ≤ 100000 := by
          have h1 := pr_len g3
          have h2 := List.length_filter_le (fun r => decide ((getG m r).getD (-1) = (getG m (dnN (getG m) o1 i)).getD 0 - 1)) ((nbrs (dnN (getG m) o1 i)).take t)
          rw [List.length_take, nbrs_len] at h2
          omega
        walk_at "run"
        refine ⟨rfl, ?_⟩
        walk_at "run"
        refine w_putB (fun hb2 => ?_) (fun hb2 => ?_)
        · walk_at "run"
          refine ⟨s3.mut hD3, _, upd_same, ?_⟩
          rw [filt_snoc hr, if_pos (by rw [e0]; exact hb2)]
          exact pr_snoc (Tps.putr hd3 g3) (Tp.putr hd3 hzr3)
        · refine ⟨s3, acc, hd3, ?_⟩
          rw [filt_snoc hr, if_neg (by rw [e0, hb2]; exact Bool.false_ne_true), List.append_nil]
          exact g3
      · rintro D H3 hD3 ⟨s3, acc, hd3, g3⟩
        rw [hwn, ← nbrs_len (dnN (getG m) o1 i), List.take_length] at g3
        have hh : ((nbrs (dnN (getG m) o1 i)).filter fun r => decide ((getG m r).getD (-1) = (getG m (dnN (getG m) o1 i)).getD 0 - 1))[0]? = some q1 := by
          rw [← List.head?_eq_getElem?, List.head?_filter, hq1]
        obtain ⟨z, hz, hzq⟩ := pr_get' g3 hh
        have ha0 : atI acc 0 = some z := at_of (j := 0) rfl hz
        have hr3 := s3 _ _ hr2
        have s13 := (s1.trans s2).trans s3
        have hu3 := Tps.sm s3 (Tps.sm s2 hu1)
        walk_at "run"
        refine ⟨(w - ((i + 1 : Nat) : Int)).toNat, by omega, i + 1, us ++ [z], _, _, rfl, s13.mut hrow, by omega, upd_same, ?_, rfl⟩
        rw [wayG_succ, show dnN (getG m) o1 (i + 1) = q1 from hdq]
        exact pr_snoc (Tps.putr hr3 hu3) (Tp.putr hr3 hzq)
    · have hge : ¬ w - (i : Int) > 0 := of_decide_eq_false hb
      have hwi : w = (i : Int) := by omega
      walk_at "run"
      exact q row us H1 s1 hrow hr1 (by rw [hwi]; exact hu1)
end Hx
namespace Hx
open PySem PySem.Spec PyProof.Rows L2
theorem ok__law_whole {P : Program} {w : World} {K : PySem.W.Frag} {mg : Str → Option Value} {base : Heap}  (F : Fn K mg "_law_whole" "_law_whole" s__law_whole n__law_whole_p) (T : Tx mg) : Ref P w K mg base CX0 1 "_law_whole" n__law_whole_p (sp__law_whole K) := by
  refine F.ok sc__law_whole (fun vs H Q E h => ?_) (fun f cdv A outer s H vs Q E hr h => ?_)
  · obtain ⟨i, rfl, _⟩ := h
    rfl
  · refine ⟨_, (pss_one (ps_ret (pe_and (pe_callB (r := rIsi K) call_isi (by rfl) T.b_isinstance (by decide +kernel) (pa_cons (pv 0) (pa_cons (pe_bltn (v := .ty "int") (by rfl) T.b_int (by decide +kernel) rfl) pa_nil))) (pe_one (pe_not (pe_callB (r := rIsi K) call_isi (by rfl) T.b_isinstance (by decide +kernel) (pa_cons (pv 0) (pa_cons (pe_bltn (v := .ty "bool") (by rfl) T.b_bool (by decide +kernel) rfl) pa_nil)))))))), ?_⟩
    try dsimp only [cxOf, Cx.nox, Cx.wish]
    obtain ⟨i, rfl, q⟩ := h
    walk_at "run"
    exact q
end Hx
namespace Hx
open PySem PySem.Spec PyProof.Rows L2
theorem ok__law_place_alike {P : Program} {w : World} {K : PySem.W.Frag} {mg : Str → Option Value} {base : Heap}  (F : Fn K mg "_law_place_alike" "_law_place_alike" s__law_place_alike n__law_place_alike_p) (T : Tx mg) (R__law_whole : Ref P w K mg base CX0 1 "_law_whole" n__law_whole_p (sp__law_whole K)) : Ref P w K mg base CX0 2 "_law_place_alike" n__law_place_alike_p (sp__law_place_alike K) := by
  refine F.ok sc__law_place_alike (fun vs H Q E h => ?_) (fun f cdv A outer s H vs Q E hr h => ?_)
  · obtain ⟨v1, v2, p1, p2, rfl, _⟩ := h
    rfl
  · refine ⟨_, (pss_cons (ps_if (PW.pt (pw_or (pt_not (pt_val (pe_callB (r := rIsi K) call_isi (by rfl) T.b_isinstance (by decide +kernel) (pa_cons (pv 0) (pa_cons (pe_bltn (v := .ty "tuple") (by rfl) T.b_tuple (by decide +kernel) rfl) pa_nil))))) (pw_or (pt_cmpR op_ne (pe_callB (r := rLen K) cl_len (by rfl) T.b_len (by decide +kernel) (pa_cons (pv 0) pa_nil)) pe_int (nomark _)) (pw_or (pt_not (pt_val (pe_fn R__law_whole (hr.mono (by decide)) (pa_cons (pe_ix (r := rIxT K) ix_tup (pv 0) pe_int (fun _ _ => rfl)) pa_nil)))) (pw_or1 (pt_not (pt_val (pe_fn R__law_whole (hr.mono (by decide)) (pa_cons (pe_ix (r := rIxT K) ix_tup (pv 0) pe_int (fun _ _ => rfl)) pa_nil)))))))))
          (pss_one (ps_ret pe_bl))
          pss_nil)
        (pss_one (ps_ret (pe_cmpR (r := rEqD K) (op_eqD hr.units) (pv 0) (pv 1) (nomark _))))), ?_⟩
    try dsimp only [cxOf, Cx.nox, Cx.wish]
    obtain ⟨v1, v2, p1, p2, rfl, h1, h2, q⟩ := h
    walk_at "run"
    exact q
end Hx
namespace Hx
open PySem PySem.Spec PyProof.Rows L2
theorem ok_see_place {P : Program} {w : World} {K : PySem.W.Frag} {mg : Str → Option Value} {base : Heap} {c_Region : Addr} (F : Fn K mg "see_place" "see_place" s_see_place n_see_place_p) (T : Tx mg) (rc : RegC K mg c_Region) (R_Region_holds : RefT P w K mg base CX0 5 "holds" c_Region n_Region_holds_p (sp_Region_holds K c_Region)) : Ref P w K mg base CX0 6 "see_place" n_see_place_p (sp_see_place K c_Region) := by
  refine F.ok sc_see_place (fun vs H Q E h => ?_) (fun f cdv A outer s H vs Q E hr h => ?_)
  · obtain ⟨p, d, v, z, n, L, rfl, _⟩ := h
    rfl
  · obtain ⟨fm_holds, fdm_holds, Fm_holds, clm_holds, Mm_holds, bm_holds⟩ := R_Region_holds.ex
    refine ⟨_, (pss_one (ps_if (pt_not (pt_val (pe_meth (pv 0) clm_holds Mm_holds Fm_holds (hr.mono (by decide)) bm_holds .nil pass0 (pa_cons (pv 1) pa_nil))))
          (pss_one ps_never)
          pss_nil)), ?_⟩
    try dsimp only [cxOf, Cx.nox, Cx.wish]
    obtain ⟨p, d, v, z, n, L, rfl, h, n4, g, hz, hb, q⟩ := h
    walk_at "run"
    exact q _ (by walk_at "same")
end Hx
namespace Hx
open PySem PySem.Spec PyProof.Rows L2
theorem ok_levels {P : Program} {w : World} {K : PySem.W.Frag} {mg : Str → Option Value} {base : Heap} {c_Region : Addr} (F : Fn K mg "levels" "levels" s_levels n_levels_p) (T : Tx mg) (rc : RegC K mg c_Region) (R_see_place : Ref P w K mg base CX0 6 "see_place" n_see_place_p (sp_see_place K c_Region)) (R_neighbours_T : Ref P w K mg base CX0 2 "neighbours" n_neighbours_T_p (sp_neighbours_T K)) (R_Region_holds : RefT P w K mg base CX0 5 "holds" c_Region n_Region_holds_p (sp_Region_holds K c_Region)) : Ref P w K mg base CX0 7 "levels" n_levels_p (sp_levels K c_Region) := by
  refine F.ok sc_levels (fun vs H Q E h => ?_) (fun f cdv A outer s H vs Q E hr h => ?_)
  · obtain ⟨p, d, v, z, n, L, rfl, _⟩ := h
    rfl
  · obtain ⟨fm_holds, fdm_holds, Fm_holds, clm_holds, Mm_holds, bm_holds⟩ := R_Region_holds.ex
    refine ⟨_, (pss_cons (ps_expr (pe_fn R_see_place (hr.mono (by decide)) (pa_cons (pv 0) (pa_cons (pv 1) pa_nil))))
        (pss_cons (ps_set (i := 2) sc_levels.nd rfl (Or.inl rfl) (pe_dOne (u0 hr) (pv 1) pe_int))
        (pss_cons (ps_set (i := 3) sc_levels.nd rfl (Or.inl rfl) (pe_lst (pa_cons (pv 1) pa_nil)))
        (pss_cons (ps_while PassesOwn.never (pt_tru (pv 3) (by intro _; rfl))
          (pss_cons (ps_set (i := 4) sc_levels.nd rfl (Or.inl rfl) (pe_lst pa_nil))
        (pss_cons (ps_for PassesOwn.never rfl (pi_list (pv 3)) (pg_name (i := 5) sc_levels.nd rfl (Or.inl rfl))
          (pss_one (ps_for PassesOwn.never rfl (pi_list (pe_fn R_neighbours_T (hr.mono (by decide)) (pa_cons (pv 5) pa_nil))) (pg_name (i := 6) sc_levels.nd rfl (Or.inl rfl))
          (pss_one (ps_if (PW.pt (pw_and (pt_cmp (pc_dnotin (hu_of hr) (pv 6) (pv 2))) (pw_and1 (pt_val (pe_meth (pv 0) clm_holds Mm_holds Fm_holds (hr.mono (by decide)) bm_holds .nil pass0 (pa_cons (pv 6) pa_nil))))))
          (pss_cons (ps_dput (hu_of hr) (pv 2) (pv 6) (pe_op op_add (pe_dget (hu_of hr) (pv 2) (pv 5) (fun _ _ => rfl)) pe_int) rfl)
        (pss_one (ps_expr (pe_bm PySem.F.plainAttrs_list PySem.F.slot_list_append PySem.F.type_list_append mt_append (pv 4) (pa_cons (pv 6) pa_nil)))))
          pss_nil)))))
        (pss_one (ps_set (i := 3) sc_levels.nd rfl (Or.inl rfl) (pv 4))))))
        (pss_one (ps_ret (pv 2))))))), ?_⟩
    try dsimp only [cxOf, Cx.nox, Cx.wish]
    obtain ⟨p, d, v, o, n, L, rfl, hR, n2, hL, nd, hv, hz, ho, q⟩ := h
    have n4 : n ≤ 4 := by omega
    walk_at "run"
    refine c_see_place hR n4 hv.pl hz (by rw [holds_place hL, decide_eq_true ho]) fun H1 s1 => ?_
    have hR1 := RegAt.sm s1 hR
    have hv1 := Tp.sm s1 hv
    have hll := lv_len nd hL n4
    walk_at "run"
    rename_i f hf el hel
    have hfe : f ≠ el := ne_of_none upd_same hel
    have hel1 : H1 el = none := by
      rw [upd_ne hfe.symm, upd_ne hfe.symm] at hel
      exact hel
    obtain ⟨npf, ndf⟩ := RegAt.ne hR1 hf
    have s12 : Same H1 (upd (upd (upd H1 f (.dT [])) f (.dT (kvG [(o, 0)]))) el (.lst [v])) := (((Same.refl H1).mut hf).mut hf).mut hel1
    have hf2 : upd (upd (upd H1 f (.dT [])) f (.dT (kvG [(o, 0)]))) el (.lst [v]) f = some (.dT (kvG [(o, 0)])) := upd_at hfe upd_same
    have hel2 : upd (upd (upd H1 f (.dT [])) f (.dT (kvG [(o, 0)]))) el (.lst [v]) el = some (.lst [v]) := upd_same
    obtain ⟨H2, e2⟩ : ∃ G, G = upd (upd (upd H1 f (.dT [])) f (.dT (kvG [(o, 0)]))) el (.lst [v]) := ⟨_, rfl⟩
    rw [← e2] at s12 hf2 hel2 ⊢
    clear e2 hel
    refine w_while (fun mm σ H' => ∃ el ws E m k y4 y5 y6, σ = [some (.ref p), some v, some (.ref f), some (.ref el), y4, y5, y6] ∧ Same H1 H' ∧ H' f = some (.dT (kvG m)) ∧ H' el = some (.lst ws) ∧ Tps H' ws E ∧ Lev (· ∈ L.map placeOf) o k m E ∧ mm = 2 * (L.length - m.length) + (if E = [] then 0 else 1)) _ ⟨el, [v], [o], [(o, 0)], 0, none, none, none, rfl, s12, hf2, hel2, .cons (Tp.sm s12 hv1) .nil, lev0 ho, rfl⟩ ?_
    clear hel2 hf2 s12 hel1 hfe
    clear el H2
    rintro mm σ H2 ⟨el, ws, E, m, k, y4, y5, y6, rfl, s2, hf2, hel2, hw2, hL2, rfl⟩
    have hwl := pr_len hw2
    have hR2 := RegAt.sm s2 hR1
    walk_at "run"
    refine w_whR (fun hb => ?_) (fun hb => ?_)
    · have hne : E ≠ [] := fun z => by
        rw [z] at hwl
        have : ws = [] := List.eq_nil_of_length_eq_zero hwl
        rw [this] at hb
        cases hb
      have hfe : el ≠ f := ne_ld hel2 hf2
      walk_at "run"
      rename_i al hal
      refine f_list (K := K) (xs := ws) (fun j σ H' => ∃ m' A us y5 y6, σ = [some (.ref p), some v, some (.ref f), some (.ref el), some (.ref al), y5, y6] ∧ But f H2 H' ∧ H' f = some (.dT (kvG m')) ∧ H' al = some (.lst us) ∧ Tps H' us A ∧ Mid (· ∈ L.map placeOf) o k E m' A (E.take j) ∧ m.length + A.length = m'.length) ⟨m, [], [], y5, y6, rfl, But.refl.mut hal, upd_at (ne_of_none hf2 hal) hf2, upd_same, .nil, hL2.mid, rfl⟩ (fun j σ H' _ ⟨_, _, _, _, _, _, k4, _⟩ => SqL.of (k4 _ _ hel2 hfe)) ?_ ?_
      · rintro j x σ H4 hx ⟨m', A, us, y5, y6, rfl, k4, hf4, hal4, hu4, hM4, hlen⟩
        obtain ⟨h0, hh, hxh⟩ := pr_get hw2 hx
        have hxh4 : Tp H4 x h0 := k4.tp hf2 hxh
        have hE := List.mem_of_getElem? hh
        have hcs := hM4.inS h0 k ((hM4.edge h0).mp hE)
        walk_at "run"
        rename_i l wsn H5 s5 hnl hl5 g5
        have hxh5 := Tp.sm s5 hxh4
        have hwn := pr_len g5
        refine f_list (K := K) (xs := wsn) (fun t σ H' => ∃ m'' A' us' y6, σ = [some (.ref p), some v, some (.ref f), some (.ref el), some (.ref al), some x, y6] ∧ But f H2 H' ∧ H' f = some (.dT (kvG m'')) ∧ H' al = some (.lst us') ∧ Tps H' us' A' ∧ H' l = some (.lst wsn) ∧ l ≠ al ∧ Tps H' wsn (nbrs h0) ∧ Tp H' x h0 ∧ Mid (· ∈ L.map placeOf) o k E m'' A' (E.take j) ∧ (∀ q ∈ (nbrs h0).take t, q ∈ L.map placeOf → ∃ u, getG m'' q = some u) ∧ m.length + A'.length = m''.length) ⟨m', A, us, _, rfl, k4.sm s5, s5 _ _ hf4, s5 _ _ hal4, Tps.sm s5 hu4, hl5, (ne_of_none hal4 hnl).symm, g5, hxh5, hM4, (fun q hq => by cases hq), hlen⟩ (fun t σ H' _ ⟨_, _, _, _, _, _, _, _, _, hl, _⟩ => SqL.of hl) ?_ ?_
        · rintro t z σ H6 hz ⟨m'', A', us', y6, rfl, k6, hf6, hal6, hu6, hl6, nla, g6, hx6, hM6, hc6, hlen6⟩
          obtain ⟨q0, hq, hzq⟩ := pr_get g6 hz
          have hqn := List.mem_of_getElem? hq
          have hz1 := sml_len (near_small hL n2 hcs hqn)
          have hR6 := RegAt.but hR2 k6 npf ndf
          have hk6 := (hM6.edge h0).mp hE
          have hml := nd_len hM6.nd hM6.inS
          rw [List.length_map] at hml
          have hul := pr_len hu6
          have hz2 : us'.length ≤ 100000 := by omega
          have hz3 : m''.length ≤ 100000 := by omega
          cases e1 : getG m'' q0 with
          | none =>
            have e2 : (getG m'' q0).isSome = false := by rw [e1]; rfl
            walk_at "run"
            rename_i H7 s7
            rw [holds_place hL]
            have hf7 := s7 _ _ hf6
            have hal7 := s7 _ _ hal6
            have hu7 := Tps.sm s7 hu6
            have g7 := Tps.sm s7 g6
            have hx7 := Tp.sm s7 hx6
            have hzq7 := Tp.sm s7 hzq
            have nal : al ≠ f := ne_ld hal7 hf7
            have hl7 := s7 _ _ hl6
            have nlf : l ≠ f := ne_ld hl7 hf7
            refine ite_d (fun e => ?_) (fun e => ?_)
            · clear hf6 hal6 hu6 hl6 g6 hx6 hzq hR6
              walk_at "run"
              refine ⟨m'' ++ [(q0, k + 1)], A' ++ [q0], _, _, rfl, ((k6.sm s7).put).mut hal, upd_at nal.symm upd_same, upd_same, ?_, upd_at nla (upd_at nlf hl7), nla, ?_, ?_, hM6.add hE hqn e e1, ?_, by rw [List.length_append, List.length_append, ← Nat.add_assoc, hlen6]; rfl⟩
              · exact Tps.putr (upd_at nal hal7) (pr_snoc (Tps.putd hf7 hu7) (Tp.putd hf7 hzq7))
              · exact Tps.putr (upd_at nal hal7) (Tps.putd hf7 g7)
              · exact Tp.putr (upd_at nal hal7) (Tp.putd hf7 hx7)
              · intro r hr hrc
                rw [take_snoc hq] at hr
                rw [getG_snoc e1]
                rcases List.mem_append.mp hr with hr | hr
                · obtain ⟨u, eu⟩ := hc6 r hr hrc
                  by_cases y : r = q0
                  · exact ⟨k + 1, by rw [if_pos y]⟩
                  · exact ⟨u, by rw [if_neg y]; exact eu⟩
                · exact ⟨k + 1, by rw [if_pos (List.mem_singleton.mp hr)]⟩
            · walk_at "run"
              refine ⟨m'', A', us', _, rfl, k6.sm s7, hf7, hal7, hu7, hl7, nla, g7, hx7, hM6, ?_, hlen6⟩
              intro r hr hrc
              rw [take_snoc hq] at hr
              rcases List.mem_append.mp hr with hr | hr
              · exact hc6 r hr hrc
              · rw [List.mem_singleton] at hr
                subst hr
                exact absurd hrc e
          | some u0 =>
            have e2 : (getG m'' q0).isSome = true := by rw [e1]; rfl
            walk_at "run"
            refine ⟨m'', A', us', _, rfl, k6, hf6, hal6, hu6, hl6, nla, g6, hx6, hM6, ?_, hlen6⟩
            intro r hr hrc
            rw [take_snoc hq] at hr
            rcases List.mem_append.mp hr with hr | hr
            · exact hc6 r hr hrc
            · rw [List.mem_singleton] at hr
              subst hr
              exact ⟨u0, e1⟩
        · rintro σ H6 ⟨m'', A', us', y6, rfl, k6, hf6, hal6, hu6, hl6, nla, g6, hx6, hM6, hc6, hlen6⟩
          rw [hwn, List.take_length] at hc6
          refine ⟨m'', A', us', _, _, rfl, k6, hf6, hal6, hu6, ?_, hlen6⟩
          rw [take_snoc hh]
          exact hM6.done hc6
      · rintro σ H4 ⟨m', A, us, y5, y6, rfl, k4, hf4, hal4, hu4, hM4, hlen⟩
        rw [hwl, List.take_length] at hM4
        have hml := nd_len hM4.nd hM4.inS
        rw [List.length_map] at hml
        walk_at "run"
        refine ⟨_, ?_, al, us, A, m', k + 1, _, _, _, rfl, k4.same s2 hf, hf4, hal4, hu4, hM4.lev, rfl⟩
        rw [if_neg hne]
        by_cases hA : A = []
        · rw [if_pos hA]
          omega
        · rw [if_neg hA]
          have : 0 < A.length := List.length_pos_iff.mpr hA
          omega
    · have hw0 : ws = [] := by simpa using hb
      have hE : E = [] := by
        rw [hw0] at hwl
        exact List.eq_nil_of_length_eq_zero hwl.symm
      subst hE
      walk_at "run"
      exact q f m H2 (s1.trans s2) (s1.free hf) hf2 hL2.dst
end Hx
namespace Hx
open PySem PySem.Spec PyProof.Rows L2
theorem ok_way {P : Program} {w : World} {K : PySem.W.Frag} {mg : Str → Option Value} {base : Heap} {c_Region : Addr} (F : Fn K mg "way" "way" s_way n_way_p) (T : Tx mg) (rc : RegC K mg c_Region) (R_see_place : Ref P w K mg base CX0 6 "see_place" n_see_place_p (sp_see_place K c_Region)) (R_levels : Ref P w K mg base CX0 7 "levels" n_levels_p (sp_levels K c_Region)) (R_nearer : Ref P w K mg base CX0 3 "nearer" n_nearer_p (sp_nearer K)) : Ref P w K mg base CX0 8 "way" n_way_p (sp_way K c_Region) := by
  refine F.ok sc_way (fun vs H Q E h => ?_) (fun f cdv A outer s H vs Q E hr h => ?_)
  · obtain ⟨p, d, v1, v2, o1, o2, n, L, rfl, _⟩ := h
    rfl
  · refine ⟨_, (pss_cons (ps_expr (pe_fn R_see_place (hr.mono (by decide)) (pa_cons (pv 0) (pa_cons (pv 1) pa_nil))))
        (pss_cons (ps_set (i := 3) sc_way.nd rfl (Or.inl rfl) (pe_fn R_levels (hr.mono (by decide)) (pa_cons (pv 0) (pa_cons (pv 2) pa_nil))))
        (pss_cons (ps_if (pt_cmp (pc_dnotin (hu_of hr) (pv 1) (pv 3)))
          (pss_one ps_never)
          pss_nil)
        (pss_cons (ps_set (i := 4) sc_way.nd rfl (Or.inl rfl) (pe_lst (pa_cons (pv 1) pa_nil)))
        (pss_cons (ps_while PassesOwn.never (pt_cmpR (r := rNeD K) (op_neD hr.units) (pe_ix (r := rIxL K) ix_list (pv 4) (pe_un un_neg pe_int) (fun _ _ => rfl)) (pv 2) (nomark _))
          (pss_one (ps_expr (pe_bm PySem.F.plainAttrs_list PySem.F.slot_list_append PySem.F.type_list_append mt_append (pv 4) (pa_cons (pe_fn R_nearer (hr.mono (by decide)) (pa_cons (pv 3) (pa_cons (pe_ix (r := rIxL K) ix_list (pv 4) (pe_un un_neg pe_int) (fun _ _ => rfl)) pa_nil))) pa_nil)))))
        (pss_one (ps_ret (pv 4)))))))), ?_⟩
    try dsimp only [cxOf, Cx.nox, Cx.wish]
    obtain ⟨p, d, v1, v2, o1, o2, n, L, rfl, hR, n2, hL, nd, hv1, z1, hv2, z2, h1, h2, hw, q⟩ := h
    walk_at "run"
    refine c_see_place hR (by omega) hv1.pl z1 (by rw [holds_place hL, decide_eq_true h1]) fun H1 s1 => ?_
    walk_at "run"
    refine c_levels (RegAt.sm s1 hR) n2 hL nd (Tp.sm s1 hv2) z2 h2 fun f m H2 s2 hnf hf2 hD => ?_
    have s12 := s1.trans s2
    obtain ⟨w, ew⟩ := hw m hD
    have hll := lv_len nd hL (by omega)
    have hv12 := Tp.sm s12 hv1
    have hv22 := Tp.sm s12 hv2
    have w0 := hD.pos _ _ ew
    have hwm := hD.len ew
    have hml := nd_len hD.nd hD.inS
    rw [List.length_map] at hml
    have e2 : (getG m o1).isSome = true := by rw [ew]; rfl
    walk_at "run"
    rename_i row hrow
    have s23 : Same H2 (upd H2 row (.lst [v1])) := same_new hrow
    have hr3 : upd H2 row (.lst [v1]) row = some (.lst [v1]) := upd_same
    obtain ⟨H3, e3⟩ : ∃ G, G = upd H2 row (.lst [v1]) := ⟨_, rfl⟩
    rw [← e3] at s23 hr3 ⊢
    clear e3
    have hrow0 : H row = none := s12.free hrow
    refine w_while (fun mm σ H' => ∃ (i : Nat) (us : List V), σ = [some (.ref p), some v1, some v2, some (.ref f), some (.ref row)] ∧ Same H2 H' ∧ (i : Int) ≤ w ∧ H' row = some (.lst us) ∧ Tps H' us (wayG (getG m) o1 (i + 1)) ∧ mm = (w - i).toNat) _ ⟨0, [v1], rfl, s23, w0, hr3, .cons (Tp.sm s23 hv12) .nil, rfl⟩ ?_
    clear hr3 s23
    clear H3
    rintro mm σ H3 ⟨i, us, rfl, s3, hiw, hr3, hu3, rfl⟩
    have hul := pr_len hu3
    rw [wayG_len] at hul
    have hn : (wayG (getG m) o1 (i + 1))[us.length - 1]? = some (dnN (getG m) o1 i) := by
      rw [hul, wayG_succ, Nat.add_sub_cancel, List.getElem?_append_right (by rw [wayG_len]; exact Nat.le_refl _), wayG_len, Nat.sub_self]
      rfl
    obtain ⟨x, hx, hxp⟩ := pr_get' hu3 hn
    have ha := at_last hx (by omega)
    have hv23 := Tp.sm s3 hv22
    have hf3 := s3 _ _ hf2
    have hval := hD.dn_val ew hiw
    have huz : us.length ≤ 100000 := by omega
    walk_at "run"
    refine w_whR (fun hb => ?_) (fun hb => ?_)
    · have hne : dnN (getG m) o1 i ≠ o2 := by simpa using hb
      have hlt : (i : Int) < w := by
        rcases Int.lt_or_eq_of_le hiw with z | z
        · exact z
        · rw [show w - (i : Int) = 0 by omega] at hval
          exact absurd (hD.nought hval) hne
      walk_at "run"
      refine c_nearer hf3 hxp hval fun v4 H4 s4 g4 => ?_
      have hr4 := s4 _ _ hr3
      walk_at "run"
      refine ⟨(w - ((i + 1 : Nat) : Int)).toNat, by omega, i + 1, us ++ [v4], rfl, ((s3.trans s4).mut hrow), by omega, upd_same, ?_, rfl⟩
      rw [wayG_succ]
      exact pr_snoc (Tps.putr hr4 (Tps.sm s4 hu3)) (Tp.putr hr4 g4)
    · have he : dnN (getG m) o1 i = o2 := by simpa using hb
      rw [he, hD.st] at hval
      have hwi : w = (i : Int) := by
        have := Option.some.inj hval
        omega
      walk_at "run"
      exact q m w row us H3 (s12.trans s3) hD ew hrow0 hr3 (by rw [hwi]; exact hu3)
end Hx
namespace Hx
open PySem PySem.Spec PyProof.Rows L2
theorem okF_law {P : Program} {w : World} {K : PySem.W.Frag} {mg : Str → Option Value} {base : Heap} {c_Region : Addr} {fa : Addr} {fd : FuncData} (F : Fun K "law" "law" s_law fa fd) (T : Tx mg) (rc : RegC K mg c_Region) (R__law_cell_at : Ref P w K mg base CX0 1 "_law_cell_at" n__law_cell_at_p (sp__law_cell_at K)) (R__law_rows : Ref P w K mg base CX0 2 "_law_rows" n__law_rows_p (sp__law_rows K)) (R_Region___init__ : RefM P w K mg base CX0 2 "Region" c_Region n_Region___init___p (sp_Region___init__ K c_Region)) (R__law_all : Ref P w K mg base CX0 2 "_law_all" n__law_all_p (sp__law_all K)) (R__law_place_T : Ref P w K mg base CX0 2 "_law_place" n__law_place_T_p (sp__law_place_T K)) (R__law_near : Ref P w K mg base CX0 2 "_law_near" n__law_near_p (sp__law_near K)) (R__law_tried : Ref P w K mg base CX0 9 "_law_tried" n__law_tried_p (sp__law_tried K c_Region)) (R__law_levels : Ref P w K mg base CX0 3 "_law_levels" n__law_levels_p (sp__law_levels K)) (R__law_due : Ref P w K mg base CX0 3 "_law_due" n__law_due_p (sp__law_due K)) (R__law_place_alike : Ref P w K mg base CX0 2 "_law_place_alike" n__law_place_alike_p (sp__law_place_alike K)) (R_way : Ref P w K mg base CX0 8 "way" n_way_p (sp_way K c_Region)) : FnOk P w K mg base CX0 10 fa fd n_law_p (sp_law K) := by
  refine F.ok sc_law (fun vs H Q E h => ?_) (fun cdv A outer s H vs Q E hr h => ?_)
  · obtain ⟨a, ns, rfl, _⟩ := h
    rfl
  · refine ⟨_, (pss_cons (ps_set (i := 1) sc_law.nd rfl (Or.inl rfl) (pe_op op_add pe_int (pe_op op_mod (pe_fn R__law_cell_at (hr.mono (by decide)) (pa_cons (pv 0) (pa_cons pe_int pa_nil))) pe_int)))
        (pss_cons (ps_set (i := 2) sc_law.nd rfl (Or.inl rfl) (pe_op op_cat (pe_fn R__law_rows (hr.mono (by decide)) (pa_cons (pv 0) (pa_cons pe_int (pa_cons (pv 1) pa_nil)))) (pe_fn R__law_rows (hr.mono (by decide)) (pa_cons (pv 0) (pa_cons pe_int (pa_cons (pv 1) pa_nil))))))
        (pss_cons (ps_set (i := 3) sc_law.nd rfl (Or.inl rfl) (pe_mk R_Region___init__ (hr.mono (by decide)) (pa_cons (pv 1) (pa_cons (pv 2) pa_nil))))
        (pss_cons (ps_set (i := 4) sc_law.nd rfl (Or.inr rfl) pe_dnewT)
        (pss_cons (ps_for PassesOwn.never rfl (pi_keys (pe_frz (pe_fn R__law_all (hr.mono (by decide)) (pa_cons (pv 2) (pa_cons (pv 1) pa_nil))))) (pg_name (i := 5) sc_law.nd rfl (Or.inl rfl))
          (pss_one (ps_dput (hu_of hr) (pv 4) (pe_fn R__law_place_T (hr.mono (by decide)) (pa_cons (pv 5) pa_nil)) pe_bl rfl)))
        (pss_cons (ps_set (i := 6) sc_law.nd rfl (Or.inl rfl) (pe_op op_cat (pe_callB (cl_sortDT rfl (u64 hr)) (by rfl) T.b_sorted (by decide +kernel) (pa_cons (pv 4) pa_nil)) (pe_lst (pa_cons (pe_tup (pa_cons pe_int (pa_cons pe_int pa_nil))) pa_nil))))
        (pss_cons (ps_stop (ps_if (pt_cmpR (r := rNeNo) (op_neNo (u0 hr)) (pv 4) pe_dnewT (nomark _))
          (pss_cons (ps_set (i := 7) sc_law.nd rfl (Or.inl rfl) (pe_ix (r := rIxL K) ix_list (pe_callB (cl_sortDT rfl (u64 hr)) (by rfl) T.b_sorted (by decide +kernel) (pa_cons (pv 4) pa_nil)) (pe_op op_mod (pe_fn R__law_cell_at (hr.mono (by decide)) (pa_cons (pv 0) (pa_cons pe_int pa_nil))) (pe_callB (r := rLenT) call_len_dT (by rfl) T.b_len (by decide +kernel) (pa_cons (pv 4) pa_nil))) (fun _ _ => rfl)))
        (pss_one (ps_set (i := 6) sc_law.nd rfl (Or.inl rfl) (pe_op op_cat (pv 6) (pe_lc (own := [("far", 14)]) (g := gName 14) rfl sc_law.nd (pi_list (pe_fn R__law_near (hr.mono (by decide)) (pa_cons (pv 7) pa_nil))) (blkOk_by (N := n_law) (sc := defScope s_law) (by decide +kernel)) (fun _ _ _ _ _ => pg_name (i := 14) sc_law.nd rfl (Or.inl rfl)) (fun _ _ _ _ _ => (pts_one (pt_cmp (pc_dnotin (hu_of hr) (pv 14) (pv 4))))) (fun _ _ _ _ _ => (pv 14)))))))
          pss_nil))
        (pss_cons (ps_set (i := 8) sc_law.nd rfl (Or.inl rfl) (pe_ix (r := rIxL K) ix_list (pv 6) (pe_op op_mod (pe_fn R__law_cell_at (hr.mono (by decide)) (pa_cons (pv 0) (pa_cons pe_int pa_nil))) (pe_callB (r := rLen K) cl_len (by rfl) T.b_len (by decide +kernel) (pa_cons (pv 6) pa_nil))) (fun _ _ => rfl)))
        (pss_cons (ps_set (i := 9) sc_law.nd rfl (Or.inl rfl) (pe_ix (r := rIxL K) ix_list (pv 6) (pe_op op_mod (pe_fn R__law_cell_at (hr.mono (by decide)) (pa_cons (pv 0) (pa_cons pe_int pa_nil))) (pe_callB (r := rLen K) cl_len (by rfl) T.b_len (by decide +kernel) (pa_cons (pv 6) pa_nil))) (fun _ _ => rfl)))
        (pss_cons (ps_set (i := 10) sc_law.nd rfl (Or.inl rfl) (pe_fn R__law_tried (hr.mono (by decide)) (pa_cons (pv 3) (pa_cons (pv 8) (pa_cons (pv 9) pa_nil)))))
        (pss_cons (ps_if (PW.pt (pw_or (pt_cmp (pc_dnotin (hu_of hr) (pv 8) (pv 4))) (pw_or1 (pt_cmp (pc_dnotin (hu_of hr) (pv 9) (pv 4))))))
          (pss_one (ps_ret (pe_cmpR (r := rEqD K) (op_eqD hr.units) (pv 10) (pe_tup (pa_cons pe_non (pa_cons (pe_lst (pa_cons pe_bl (pa_cons pe_bl (pa_cons pe_bl (pa_cons pe_bl pa_nil))))) pa_nil))) (nomark _))))
          pss_nil)
        (pss_cons (ps_set (i := 11) sc_law.nd rfl (Or.inl rfl) (pe_fn R__law_levels (hr.mono (by decide)) (pa_cons (pv 4) (pa_cons (pv 9) pa_nil))))
        (pss_cons (ps_if (pt_cmp (pc_dnotin (hu_of hr) (pv 8) (pv 11)))
          (pss_one (ps_ret (pe_cmpR (r := rEqD K) (op_eqD hr.units) (pv 10) (pe_tup (pa_cons pe_non (pa_cons (pe_lst (pa_cons pe_bl (pa_cons pe_bl (pa_cons pe_bl (pa_cons pe_bl pa_nil))))) pa_nil))) (nomark _))))
          pss_nil)
        (pss_cons (ps_set (i := 12) sc_law.nd rfl (Or.inl rfl) (pe_fn R__law_due (hr.mono (by decide)) (pa_cons (pv 11) (pa_cons (pv 8) pa_nil))))
        (pss_cons (ps_if (PW.pt (pw_or (pt_cmpR (r := rNeD K) (op_neD hr.units) (pe_ix (r := rIxT K) ix_tup (pv 10) pe_int (fun _ _ => rfl)) (pe_lst pa_nil) (nomark _)) (pw_or (pt_not (pt_val (pe_callB (r := rIsi K) call_isi (by rfl) T.b_isinstance (by decide +kernel) (pa_cons (pe_ix (r := rIxT K) ix_tup (pv 10) pe_int (fun _ _ => rfl)) (pa_cons (pe_bltn (v := .ty "list") (by rfl) T.b_list (by decide +kernel) rfl) pa_nil))))) (pw_or1 (pt_cmpR op_ne (pe_callB (r := rLen K) cl_len (by rfl) T.b_len (by decide +kernel) (pa_cons (pe_ix (r := rIxT K) ix_tup (pv 10) pe_int (fun _ _ => rfl)) pa_nil)) (pe_callB (r := rLen K) cl_len (by rfl) T.b_len (by decide +kernel) (pa_cons (pv 12) pa_nil)) (nomark _))))))
          (pss_one (ps_ret pe_bl))
          pss_nil)
        (pss_cons (ps_for PassesOwn.never rfl (pi_range1 (by rfl) T.b_range (pa_cons (pe_callB (r := rLen K) cl_len (by rfl) T.b_len (by decide +kernel) (pa_cons (pv 12) pa_nil)) pa_nil)) (pg_name (i := 13) sc_law.nd rfl (Or.inl rfl))
          (pss_one (ps_if (pt_not (pt_val (pe_fn R__law_place_alike (hr.mono (by decide)) (pa_cons (pe_ix (r := rIxL K) ix_list (pe_ix (r := rIxT K) ix_tup (pv 10) pe_int (fun _ _ => rfl)) (pv 13) (fun _ _ => rfl)) (pa_cons (pe_ix (r := rIxL K) ix_list (pv 12) (pv 13) (fun _ _ => rfl)) pa_nil)))))
          (pss_one (ps_ret pe_bl))
          pss_nil)))
        (pss_cons (ps_expr (pe_bm0 PySem.F.plainAttrs_list PySem.F.slot_list_clear PySem.F.type_list_clear mt_clear (pe_ix (r := rIxT K) ix_tup (pv 10) pe_int (fun _ _ => rfl))))
        (pss_one (ps_ret (pe_cmpR (r := rEqD K) (op_eqD hr.units) (pe_fn R_way (hr.mono (by decide)) (pa_cons (pv 3) (pa_cons (pv 8) (pa_cons (pv 9) pa_nil)))) (pv 12) (nomark _))))))))))))))))))))), ?_⟩
    try dsimp only [cxOf, Cx.nox, Cx.wish]
    obtain ⟨a, ns, rfl, hS, hlen, q⟩ := h
    obtain ⟨n, en, n2⟩ : ∃ n : Nat, 1 + cellAt ns 0 % 2 = (n : Int) ∧ n ≤ 2 := ⟨(1 + cellAt ns 0 % 2).toNat, by omega, by omega⟩
    have n4 : n ≤ 4 := by omega
    walk_at "run"
    rw [en]
    walk_at "run"
    rename_i l1 ws1 rows1 H1 s1 hn1 hl1 hw1 nd1 fr1 hf1 hz1 l2 ws2 rows2 H2 s2 hn2 hl2 hw2 nd2 fr2 hf2 hz2
    have z1 := pr_len hw1
    have z2 := pr_len hw2
    have hl12 := s2 _ _ hl1
    walk_at "run"
    rename_i l3 hl3
    have hW3 : Rwt (upd H2 l3 (.lst (ws1 ++ ws2))) (ws1 ++ ws2) (rows1 ++ rows2) := pr_app (Rwt.sm (same_new hl3) (Rwt.sm s2 hw1.rwt)) (Rwt.sm (same_new hl3) hw2.rwt)
    have hf : ∀ r ∈ rows1 ++ rows2, Figs r ∧ r.length ≤ n := fun r hr => (List.mem_append.mp hr).elim (hf1 r) (hf2 r)
    have hz : (rows1 ++ rows2).length ≤ 16 := by rw [List.length_append]; omega
    have hS3 : SqL K (upd H2 l3 (.lst (ws1 ++ ws2))) a (ns.map V.int) := (same_new hl3).seq (s2.seq (s1.seq hS))
    have hl33 : upd H2 l3 (.lst (ws1 ++ ws2)) l3 = some (.lst (ws1 ++ ws2)) := upd_same
    obtain ⟨ws, ew⟩ : ∃ ws, ws = ws1 ++ ws2 := ⟨_, rfl⟩
    obtain ⟨rows, er⟩ : ∃ rows, rows = rows1 ++ rows2 := ⟨_, rfl⟩
    rw [← ew, ← er] at hW3
    rw [← er] at hf hz
    rw [← ew] at hS3 hl33 ⊢
    obtain ⟨H3, e3⟩ : ∃ G, G = upd H2 l3 (.lst ws) := ⟨_, rfl⟩
    rw [← e3] at hW3 hS3 hl33 ⊢
    clear e3 ew er hl12 hl1 hl2 hw1 hw2 nd1 nd2 fr1 fr2 hf1 hf2 hz1 hz2 z1 z2 hl3 hn1 hn2 s1 s2 hS
    have hfl := flat_len (rows := rows) (lv := (n : Int)) (by omega)
    refine c_make (SqL.of hl33) hW3.rws (by omega) (by omega) (fun r hr => ⟨(hf r hr).1, by have := (hf r hr).2; omega⟩) (by omega) fun p e H4 s4 hp4 he4 hR4 => ?_
    have hS4 := s4.seq hS3
    have hl4 := s4 _ _ hl33
    have hW4 := Rwt.sm s4 hW3
    clear s4 hp4 he4 hS3 hl33 hW3
    walk_at "run"
    rename_i c hc
    refine c__law_all (SqL.of ((same_new hc) _ _ hl4)) (Rwt.sm (same_new hc) hW4).rws (by omega) (by omega) (fun r hr => by have := (hf r hr).2; omega) (by omega) fun d H5 s5 hn5 hd5 => ?_
    have ndL := linesOf_nd rows (n : Int)
    have lvL := linesOf_lv hf
    obtain ⟨L, eL⟩ : ∃ L, L = linesOf rows (n : Int) := ⟨_, rfl⟩
    rw [← eL] at hd5 hR4 ndL lvL
    clear eL hf hz hfl hl4 hW4
    have hLl := lv_len ndL lvL n4
    have ndC := place_nd ndL lvL
    have hc5 : H5 c = some (.dT []) := s5 _ _ upd_same
    have ncd : c ≠ d := ne_of_none (upd_same (H := H4)) hn5
    walk_at "run"
    refine r_frz hd5 fun od => ?_
    walk_at "run"
    have s46 : Same H4 (upd H5 d (.frz od (.dT (kvR L)))) := (same_new hc).trans (s5.mut hn5)
    refine f_keys (kvR_keys L) (fun i σ H' => ∃ y, σ = [some (.ref a), some (.int (n : Int)), some (.ref l3), some (.ref p), some (.ref c), y, none, none, none, none, none, none, none, none, none] ∧ But c (upd H5 d (.frz od (.dT (kvR L)))) H' ∧ H' c = some (.dT (kvC ((L.map placeOf).take i)))) ⟨none, rfl, But.refl, upd_at ncd hc5⟩ (fun i σ H' hi ⟨_, _, k, _⟩ => k _ _ upd_same ncd.symm) ?_ ?_
    · rintro i r x σ H6 hr ⟨y, rfl, k6, hc6⟩ hx
      have hF := (lvL r (List.mem_of_getElem? hr)).2
      have hn : (L.map placeOf)[i]? = some (placeOf r) := by rw [List.getElem?_map, hr]; rfl
      have hnm := nd_take ndC hn
      have hzc : ((L.map placeOf).take i).length ≤ 100000 := by
        rw [List.length_take, List.length_map]
        omega
      walk_at "run"
      rename_i v7 H7 s7 g7 gt7
      have hc7 := s7 _ _ hc6
      refine ⟨_, rfl, (k6.sm s7).put, ?_⟩
      rw [upd_same, take_snoc hn]
    rintro σ H6 ⟨y6, rfl, k6, hc6⟩
    rw [← List.length_map (f := placeOf) (as := L), List.take_length] at hc6
    have s47 : Same H4 H6 := k6.same s46 hc
    have hS6 := s47.seq hS4
    have hR6 := RegAt.sm s47 hR4
    clear s47 k6 s46 hc5 ncd hd5 hn5 s5 hc hS4 hR4 H4
    clear H5 H2 H1 H3 ws ws1 ws2 rows rows1 rows2
    have hCl : (kvC (L.map placeOf)).length = L.length := by rw [kvC_len, List.length_map]
    walk_at "run"
    refine r_sortDT (.of hc6) (kvC_keys _) (prow_ne _) fun us S p5 ht pm pw hp5 => ?_
    obtain ⟨qs, hqs, hqi, hql⟩ := keys_tps ht fun r hr => pm.mem_iff.mp hr
    have hul := pr_len hqs
    have hSl := pm.length_eq
    rw [List.length_map, List.length_map] at hSl
    have s65 : Same H6 (upd H6 p5 (.lst us)) := same_new hp5
    have hS7 := s65.seq hS6
    have hR7 := RegAt.sm s65 hR6
    have hc7 := s65 _ _ hc6
    have hq7 := Tps.sm s65 hqs
    have hp7 : upd H6 p5 (.lst us) p5 = some (.lst us) := upd_same
    obtain ⟨H7, e7⟩ : ∃ G, G = upd H6 p5 (.lst us) := ⟨_, rfl⟩
    rw [← e7] at hS7 hR7 hc7 hq7 hp7 ⊢
    clear e7 s65 hS6 hR6 hc6 hqs ht hp5
    walk_at "run"
    rename_i t1 ht1 t2 ht2 l8 hl8
    have s78 : Same H7 (upd (upd (upd H7 t1 (.tup [.int 50, .int 3])) t2 (.lst [.ref t1])) l8 (.lst (us ++ [.ref t1]))) := ((same_new ht1).trans (same_new ht2)).trans (same_new hl8)
    have hg8 : Tps (upd (upd (upd H7 t1 (.tup [.int 50, .int 3])) t2 (.lst [.ref t1])) l8 (.lst (us ++ [.ref t1]))) (us ++ [.ref t1]) (qs ++ [(50, 3)]) := pr_snoc (Tps.sm s78 hq7) (Tp.sm (same_new hl8) (Tp.sm (same_new ht2) Tp.new))
    have hS8 := s78.seq hS7
    have hR8 := RegAt.sm s78 hR7
    have hc8 := s78 _ _ hc7
    have hl8' : upd (upd (upd H7 t1 (.tup [.int 50, .int 3])) t2 (.lst [.ref t1])) l8 (.lst (us ++ [.ref t1])) l8 = some (.lst (us ++ [.ref t1])) := upd_same
    have hsm : ∀ z ∈ qs ++ [(50, 3)], (addrOf z).length ≤ 1000 := fun z hz => by
      rcases List.mem_append.mp hz with hz | hz
      · exact sml_len (cell_sml lvL n2 (hqi z hz))
      · rw [List.mem_singleton] at hz
        subst hz
        decide +kernel
    have hsz : (qs ++ [((50 : Int), (3 : Int))]).length ≤ 3000 ∧ 0 < (qs ++ [((50 : Int), (3 : Int))]).length := by
      rw [List.length_append, List.length_singleton]
      omega
    obtain ⟨sm, esm⟩ : ∃ sm, sm = qs ++ [((50 : Int), (3 : Int))] := ⟨_, rfl⟩
    obtain ⟨ws, ews⟩ : ∃ ws, ws = us ++ [V.ref t1] := ⟨_, rfl⟩
    rw [← esm] at hsm hsz
    rw [← esm, ← ews] at hg8
    rw [← ews] at hS8 hR8 hc8 hl8' ⊢
    obtain ⟨H8, e8⟩ : ∃ G, G = upd (upd (upd H7 t1 (.tup [.int 50, .int 3])) t2 (.lst [.ref t1])) l8 (.lst ws) := ⟨_, rfl⟩
    rw [← e8] at hS8 hR8 hc8 hg8 hl8' ⊢
    clear e8 esm ews s78 hS7 hR7 hc7 hq7 hp7 ht1 ht2 hl8 hul hqi hql hSl pm pw
    clear H7 t2 t1 p5 us S qs
    refine w_nextK (fun σ' H' => ∃ l ws sm y7, σ' = [some (.ref a), some (.int (n : Int)), some (.ref l3), some (.ref p), some (.ref c), y6, some (.ref l), y7, none, none, none, none, none, none, none] ∧ Same H8 H' ∧ H' l = some (.lst ws) ∧ Tps H' ws sm ∧ (∀ z ∈ sm, (addrOf z).length ≤ 1000) ∧ sm.length ≤ 4000 ∧ 0 < sm.length) ?_ ?_
    case refine_2 =>
      intro N hN
      walk_at "run"
      rename_i t1 ht1
      rw [hCl]
      have s89 : Same H8 (upd H8 t1 (.dT [])) := same_new ht1
      refine ite_nd (fun e0 => ?_) (fun e0 => ?_)
      · have hLp : 0 < L.length := by omega
        have hS9 := s89.seq hS8
        have hc9 := s89 _ _ hc8
        have hl9 := s89 _ _ hl8'
        have hg9 := Tps.sm s89 hg8
        obtain ⟨H9, e9⟩ : ∃ G, G = upd H8 t1 (.dT []) := ⟨_, rfl⟩
        rw [← e9] at s89 hS9 hc9 hl9 hg9 ⊢
        clear e9 ht1 hS8 hR8 hc8 hg8 hl8'
        walk_at "run"
        refine r_sortDT (.of hc9) (kvC_keys _) (prow_ne _) fun us S p5 ht pm pw hp5 => ?_
        have hul := pr_len ht
        have hSl := pm.length_eq
        rw [List.length_map, List.length_map] at hSl
        obtain ⟨k, x, hk, ha, hkl⟩ := at_mod (us := us) (c := cellAt ns 19) (by omega) hLp
        obtain ⟨r, hr, hxr⟩ := pr_get ht hk
        obtain ⟨o, ho, hxo⟩ := key_place pm (List.mem_of_getElem? hr) hxr
        have s95 : Same H9 (upd H9 p5 (.lst us)) := same_new hp5
        have hSA := s95.seq hS9
        have hcA := s95 _ _ hc9
        have hlA := s95 _ _ hl9
        have hgA := Tps.sm s95 hg9
        have hxA := Tp.sm s95 hxo
        have s8A := s89.trans s95
        have hpA : upd H9 p5 (.lst us) p5 = some (.lst us) := upd_same
        obtain ⟨HA, eA⟩ : ∃ G, G = upd H9 p5 (.lst us) := ⟨_, rfl⟩
        rw [← eA] at hSA hcA hxA hpA hlA hgA s8A ⊢
        clear eA s95 s89 hS9 hc9 hxo hxr hp5 ht hl9 hg9
        walk_at "run"
        refine ⟨c, kvC (L.map placeOf), rfl, by walk_at "ofact", ?_⟩
        rw [hCl]
        walk_at "run"
        rename_i ln wsn HB sB hnn hln gB
        have hcB := sB _ _ hcA
        have hlB := sB _ _ hlA
        have hgB := Tps.sm sB hgA
        have s8B := s8A.trans sB
        have hwn := pr_len gB
        have hgl := pr_len hgA
        clear hSA hcA hxA hpA hlA hgA s8A sB
        refine c_list (K := K) (xs := wsn) (fun D t H' => Same HB H' ∧ ∃ acc, H' D = some (.lst acc) ∧ Tps H' acc (((nbrs o).take t).filter fun r => !decide (r ∈ L.map placeOf))) (fun D hD2 => ⟨same_new hD2, [], upd_same, .nil⟩) (fun D t H' hD2 _ ⟨s, _⟩ => s.seq (SqL.of hln)) ?_ ?_
        · rintro D t z H3 hD3 hz ⟨s3, acc, hd3, g3⟩
          obtain ⟨r, hr, hzr⟩ := pr_get gB hz
          have hzr3 := Tp.sm s3 hzr
          have hc3 := s3 _ _ hcB
          have hal : acc.length ≤ 100000 := by
            have h2 := Nat.le_trans (Nat.le_of_eq (pr_len g3)) (List.length_filter_le _ _)
            rw [List.length_take, nbrs_len] at h2
            omega
          walk_at "run"
          refine ⟨rfl, ?_⟩
          walk_at "run"
          refine w_putB (fun hb2 => ?_) (fun hb2 => ?_)
          · walk_at "run"
            refine ⟨s3.mut hD3, _, upd_same, ?_⟩
            rw [filt_snoc hr, if_pos hb2]
            exact pr_snoc (Tps.putr hd3 g3) (Tp.putr hd3 hzr3)
          · refine ⟨s3, acc, hd3, ?_⟩
            rw [filt_snoc hr, if_neg (by rw [hb2]; exact Bool.false_ne_true), List.append_nil]
            exact g3
        · rintro D H3 hD3 ⟨s3, acc, hd3, g3⟩
          rw [hwn, List.take_length] at g3
          have hfl : ((nbrs o).filter (fun r => !decide (r ∈ L.map placeOf))).length ≤ 6 := List.length_filter_le _ _
          have hal : acc.length ≤ 6 := Nat.le_trans (Nat.le_of_eq (pr_len g3)) (List.length_filter_le _ _)
          have hl3' := s3 _ _ hlB
          have hg3 := Tps.sm s3 hgB
          have s83 := s8B.trans s3
          have hzz : ws.length + acc.length ≤ 100000 := by omega
          walk_at "run"
          rename_i l4 hl4
          refine hN _ _ ⟨l4, ws ++ acc, sm ++ (nbrs o).filter (fun r => !decide (r ∈ L.map placeOf)), _, rfl, s83.trans (same_new hl4), upd_same, pr_app (Tps.sm (same_new hl4) hg3) (Tps.sm (same_new hl4) g3), fun z hz => ?_, by rw [List.length_append]; omega, by rw [List.length_append]; omega⟩
          rcases List.mem_append.mp hz with hz | hz
          · exact hsm z hz
          · exact sml_len (near_small lvL n2 ho (List.mem_filter.mp hz).1)
      · walk_at "run"
        exact hN _ _ ⟨l8, ws, sm, _, rfl, s89, s89 _ _ hl8', Tps.sm s89 hg8, hsm, by omega, by omega⟩
    rintro σ H9 ⟨l, ws, sm, y7, rfl, s89, hl9, hg9, hsm9, hz9, hp9⟩
    have hS9 := s89.seq hS8
    have hR9 := RegAt.sm s89 hR8
    have hc9 := s89 _ _ hc8
    clear s89 hS8 hR8 hc8 hg8 hl8' hsm hsz
    clear H8
    have hwl := pr_len hg9
    obtain ⟨k1, x1, hk1, ha1, hkl1⟩ := at_mod (us := ws) (c := cellAt ns 20) rfl (by omega)
    obtain ⟨k2, x2, hk2, ha2, hkl2⟩ := at_mod (us := ws) (c := cellAt ns 21) rfl (by omega)
    obtain ⟨o1, ho1, hx1⟩ := pr_get hg9 hk1
    obtain ⟨o2, ho2, hx2⟩ := pr_get hg9 hk2
    have hz1 := hsm9 o1 (List.mem_of_getElem? ho1)
    have hz2 := hsm9 o2 (List.mem_of_getElem? ho2)
    walk_at "run"
    have hcz : (L.map placeOf).length ≤ 50000 := by rw [List.length_map]; omega
    refine c__law_tried hR9 n2 lvL ndL hx1 hz1 hx2 hz2 (fun z t k H' s ht hk => ?_) (fun h1 h2 m t k H' s hD e ht hk => ?_) (fun h1 h2 m w t lr k us H' s hD e hn ht hk hlr hw ntl nkl => ?_)
    · have hcA := s _ _ hc9
      have hxA := Tp.sm s hx1
      have hxB := Tp.sm s hx2
      clear hS9 hR9 hl9 hg9
      by_cases h1 : o1 ∈ L.map placeOf
      · have h2 : o2 ∉ L.map placeOf := z.elim (fun y => absurd h1 y) id
        walk_at "run"
        rename_i k2 hk2 t2 ht2
        refine r_eqKinds [false, true, false, false] [false, true, false, false] (by walk_at "ofact") (by walk_at "ofact") upd_same (upd_at (ne_of_none upd_same ht2) upd_same) ?_
        rw [decide_eq_true rfl]
        exact q _
      · walk_at "run"
        rename_i k2 hk2 t2 ht2
        refine r_eqKinds [false, true, false, false] [false, true, false, false] (by walk_at "ofact") (by walk_at "ofact") upd_same (upd_at (ne_of_none upd_same ht2) upd_same) ?_
        rw [decide_eq_true rfl]
        exact q _
    · have hcA := s _ _ hc9
      have hxA := Tp.sm s hx1
      have hxB := Tp.sm s hx2
      clear hS9 hR9 hl9 hg9
      walk_at "run"
      refine c__law_levels hcA hcz hxB h2 fun f m2 HB sB hnB hfB hDB => ?_
      have hE : (getG m2 o1).isSome = false := by rw [← hD.eqG hDB, e]; rfl
      have hxA2 := Tp.sm sB hxA
      have htB := sB _ _ ht
      have hkB := sB _ _ hk
      clear ht hk hxA hxB hcA s
      walk_at "run"
      rename_i k2 hk2 t2 ht2
      refine r_eqKinds [true, false, false, false] [true, false, false, false] (by walk_at "ofact") (by walk_at "ofact") upd_same (upd_at (ne_of_none upd_same ht2) upd_same) ?_
      rw [decide_eq_true rfl]
      exact q _
    have hcA := s _ _ hc9
    have hxA := Tp.sm s hx1
    have hxB := Tp.sm s hx2
    have hRA := RegAt.sm s hR9
    clear hS9 hR9 hl9 hg9 hx1 hx2 hc9
    walk_at "run"
    refine c__law_levels hcA hcz hxB h2 fun f m2 HB sB hnB hfB hDB => ?_
    have eG : getG m2 = getG m := hDB.eqG hD
    have hE : (getG m2 o1).isSome = true := by rw [eG, e]; rfl
    have hxC := Tp.sm sB hxA
    have hxD := Tp.sm sB hxB
    have htB := sB _ _ ht
    have hkB := sB _ _ hk
    have hlB := sB _ _ hlr
    have hwB := Tps.sm sB hw
    have hRB := RegAt.sm sB hRA
    clear ht hk hxA hxB hcA s hlr hw hRA sB hn
    walk_at "run"
    refine c__law_due hfB hxC (by rw [eG]; exact e) hDB hcz fun ld wd HC sC hnC hldC hwd => ?_
    rw [eG] at hwd
    have hxE := Tp.sm sC hxC
    have hxF := Tp.sm sC hxD
    have htC := sC _ _ htB
    have hkC := sC _ _ hkB
    have hlC := sC _ _ hlB
    have hwC := Tps.sm sC hwB
    have hRC := RegAt.sm sC hRB
    have nld : lr ≠ ld := ne_of_none hlB hnC
    clear htB hkB hlB hwB hRB sC hnC hxC hxD hfB
    have hwdl := pr_len hwd
    have hwCl := pr_len hwC
    have hwm := hD.len e
    have hml := nd_len hD.nd hD.inS
    rw [wayG_len] at hwdl hwCl
    have aT0 : atI [V.ref lr, V.ref k] 0 = some (V.ref lr) := rfl
    have aT1 : atI [V.ref lr, V.ref k] 1 = some (V.ref k) := rfl
    walk_at "run"
    rename_i p0 hp0
    have s0 : Same HC (upd HC p0 (.lst [])) := same_new hp0
    refine r_neBL [] [] (SqL.of (s0 _ _ hkC)) sqL_new ?_
    rw [decide_eq_true (show ([] : List Bool) = [] from rfl)]
    have hxG := Tp.sm s0 hxE
    have hxI := Tp.sm s0 hxF
    have htD := s0 _ _ htC
    have hlD := s0 _ _ hlC
    have hldD := s0 _ _ hldC
    have hwD := Tps.sm s0 hwC
    have hwE := Tps.sm s0 hwd
    have hRD := RegAt.sm s0 hRC
    obtain ⟨HD, eD⟩ : ∃ G, G = upd HC p0 (.lst []) := ⟨_, rfl⟩
    rw [← eD] at hxG hxI htD hlD hldD hwD hwE hRD ⊢
    clear eD s0 htC hkC hlC hwC hwd hRC hldC hxE hxF hp0
    walk_at "run"
    refine f_range0 (fun i σ H' => ∃ y, σ = [some (.ref a), some (.int (n : Int)), some (.ref l3), some (.ref p), some (.ref c), y6, some (.ref l), y7, some x1, some x2, some (.ref t), some (.ref f), some (.ref ld), y, none] ∧ H' = HD) ⟨_, rfl, rfl⟩ ?_ ?_
    · rintro i σ H3 hi ⟨y, rfl, rfl⟩
      have hiw : i < w.toNat + 1 := by omega
      have hpi : (wayG (getG m) o1 (w.toNat + 1))[i]? = some ((wayG (getG m) o1 (w.toNat + 1))[i]'(by rw [wayG_len]; exact hiw)) := List.getElem?_eq_getElem _
      obtain ⟨u1, hu1, g1⟩ := pr_get' hwD hpi
      obtain ⟨u2, hu2, g2⟩ := pr_get' hwE hpi
      have a1 : atI us (i : Int) = some u1 := at_of rfl hu1
      have a2 : atI wd (i : Int) = some u2 := at_of rfl hu2
      walk_at "run"
      exact ⟨_, rfl, rfl⟩
    rintro σ H3 ⟨y, rfl, rfl⟩
    walk_at "run"
    have hldF := upd_at (u := .lst []) nld.symm hldD
    have hwF := Tps.putr (o := .lst []) hlD hwE
    have hRF := RegAt.putr (o := .lst []) hRD hlD
    have hxH := Tp.putr (o := .lst []) hlD hxG
    have hxJ := Tp.putr (o := .lst []) hlD hxI
    refine c_way hRF n2 lvL ndL hxH hz1 hxJ hz2 h1 h2 (fun m3 hD3 => ⟨w, by rw [hD3.eqG hD]; exact e⟩) fun m3 w3 l9 us9 H9 s9 hD3 e3 hn9 hl9 hw9 => ?_
    rw [hD3.eqG hD] at e3 hw9
    rw [e] at e3
    obtain rfl := Option.some.inj e3
    walk_at "run"
    refine r_eqTws (SqL.of hl9) hw9.pls.tws (SqL.of (s9 _ _ hldF)) (Tps.sm s9 hwF).pls.tws ?_
    rw [decide_eq_true rfl]
    exact q _
end Hx
namespace Hx
open PySem PySem.Spec PyProof.Rows L2
set_option maxHeartbeats 0 in
theorem all_mk {P : Program} {w : World} {K : PySem.W.Frag} {h : Heap} {mg : Str → Option Value} {fa : Addr} (X : K.In h) (G : h.Ns mainGlobals mg) (hfa : mg "law" = some (.ref fa))
    {c_Region : Addr} (qC : PySem.W.nsIn K mainGlobals "Region" = some (some (.ref c_Region))) (qpg : PySem.W.plainGet K c_Region Str.empty = true) (qhd : PySem.W.hasDictIn K c_Region = true) (qpo : PySem.W.plainOver K c_Region = true) (qsa : PySem.W.findIn K (.ref c_Region) "__setattr__" = some (some (.builtin "object.__setattr__"))) (qmk : PySem.W.makesIn K c_Region = true) (qkc : PySem.W.keepIn K (.ref c_Region) = true) (qnL : PySem.W.findIn K (.ref c_Region) "level" = some none) (qnN : PySem.W.findIn K (.ref c_Region) "lines" = some none)
    {od__law_cell_at an__law_cell_at : Option Addr} {sl__law_cell_at : Array (Option Value)} {oc__law_cell_at kV__law_cell_at dc__law_cell_at pm__law_cell_at cd__law_cell_at ct__law_cell_at : Value} {f__law_cell_at : Addr}
    {od__law_rows an__law_rows : Option Addr} {sl__law_rows : Array (Option Value)} {oc__law_rows kV__law_rows dc__law_rows pm__law_rows cd__law_rows ct__law_rows : Value} {f__law_rows : Addr}
    {od_see_figures an_see_figures : Option Addr} {sl_see_figures : Array (Option Value)} {oc_see_figures kV_see_figures dc_see_figures pm_see_figures cd_see_figures ct_see_figures : Value} {f_see_figures : Addr}
    {od_lines_from an_lines_from : Option Addr} {sl_lines_from : Array (Option Value)} {oc_lines_from kV_lines_from dc_lines_from pm_lines_from cd_lines_from ct_lines_from : Value} {f_lines_from : Addr}
    {od_Region___init__ an_Region___init__ : Option Addr} {sl_Region___init__ : Array (Option Value)} {oc_Region___init__ kV_Region___init__ dc_Region___init__ pm_Region___init__ cd_Region___init__ ct_Region___init__ : Value} {f_Region___init__ : Addr}
    {od__law_lines an__law_lines : Option Addr} {sl__law_lines : Array (Option Value)} {oc__law_lines kV__law_lines dc__law_lines pm__law_lines cd__law_lines ct__law_lines : Value} {f__law_lines : Addr}
    {od__law_all an__law_all : Option Addr} {sl__law_all : Array (Option Value)} {oc__law_all kV__law_all dc__law_all pm__law_all cd__law_all ct__law_all : Value} {f__law_all : Addr}
    {od__law_step an__law_step : Option Addr} {sl__law_step : Array (Option Value)} {oc__law_step kV__law_step dc__law_step pm__law_step cd__law_step ct__law_step : Value} {f__law_step : Addr}
    {od__law_place_T an__law_place_T : Option Addr} {sl__law_place_T : Array (Option Value)} {oc__law_place_T kV__law_place_T dc__law_place_T pm__law_place_T cd__law_place_T ct__law_place_T : Value} {f__law_place_T : Addr}
    {od__law_near an__law_near : Option Addr} {sl__law_near : Array (Option Value)} {oc__law_near kV__law_near dc__law_near pm__law_near cd__law_near ct__law_near : Value} {f__law_near : Addr}
    {od_rest an_rest : Option Addr} {sl_rest : Array (Option Value)} {oc_rest kV_rest dc_rest pm_rest cd_rest ct_rest : Value} {f_rest : Addr}
    {od_step an_step : Option Addr} {sl_step : Array (Option Value)} {oc_step kV_step dc_step pm_step cd_step ct_step : Value} {f_step : Addr}
    {od_rest_place an_rest_place : Option Addr} {sl_rest_place : Array (Option Value)} {oc_rest_place kV_rest_place dc_rest_place pm_rest_place cd_rest_place ct_rest_place : Value} {f_rest_place : Addr}
    {od_centre an_centre : Option Addr} {sl_centre : Array (Option Value)} {oc_centre kV_centre dc_centre pm_centre cd_centre ct_centre : Value} {f_centre : Addr}
    {od_address an_address : Option Addr} {sl_address : Array (Option Value)} {oc_address kV_address dc_address pm_address cd_address ct_address : Value} {f_address : Addr}
    {od_Region_holds an_Region_holds : Option Addr} {sl_Region_holds : Array (Option Value)} {oc_Region_holds kV_Region_holds dc_Region_holds pm_Region_holds cd_Region_holds ct_Region_holds : Value} {f_Region_holds : Addr}
    {od_see_place_X an_see_place_X : Option Addr} {sl_see_place_X : Array (Option Value)} {oc_see_place_X kV_see_place_X dc_see_place_X pm_see_place_X cd_see_place_X ct_see_place_X : Value} {f_see_place_X : Addr}
    {od_added_T an_added_T : Option Addr} {sl_added_T : Array (Option Value)} {oc_added_T kV_added_T dc_added_T pm_added_T cd_added_T ct_added_T : Value} {f_added_T : Addr}
    {od_neighbours_T an_neighbours_T : Option Addr} {sl_neighbours_T : Array (Option Value)} {oc_neighbours_T kV_neighbours_T dc_neighbours_T pm_neighbours_T cd_neighbours_T ct_neighbours_T : Value} {f_neighbours_T : Addr}
    {od_levels_X an_levels_X : Option Addr} {sl_levels_X : Array (Option Value)} {oc_levels_X kV_levels_X dc_levels_X pm_levels_X cd_levels_X ct_levels_X : Value} {f_levels_X : Addr}
    {od_nearer an_nearer : Option Addr} {sl_nearer : Array (Option Value)} {oc_nearer kV_nearer dc_nearer pm_nearer cd_nearer ct_nearer : Value} {f_nearer : Addr}
    {od_way_X an_way_X : Option Addr} {sl_way_X : Array (Option Value)} {oc_way_X kV_way_X dc_way_X pm_way_X cd_way_X ct_way_X : Value} {f_way_X : Addr}
    {od__law_tried an__law_tried : Option Addr} {sl__law_tried : Array (Option Value)} {oc__law_tried kV__law_tried dc__law_tried pm__law_tried cd__law_tried ct__law_tried : Value} {f__law_tried : Addr}
    {od__law_levels an__law_levels : Option Addr} {sl__law_levels : Array (Option Value)} {oc__law_levels kV__law_levels dc__law_levels pm__law_levels cd__law_levels ct__law_levels : Value} {f__law_levels : Addr}
    {od__law_due an__law_due : Option Addr} {sl__law_due : Array (Option Value)} {oc__law_due kV__law_due dc__law_due pm__law_due cd__law_due ct__law_due : Value} {f__law_due : Addr}
    {od__law_whole an__law_whole : Option Addr} {sl__law_whole : Array (Option Value)} {oc__law_whole kV__law_whole dc__law_whole pm__law_whole cd__law_whole ct__law_whole : Value} {f__law_whole : Addr}
    {od__law_place_alike an__law_place_alike : Option Addr} {sl__law_place_alike : Array (Option Value)} {oc__law_place_alike kV__law_place_alike dc__law_place_alike pm__law_place_alike cd__law_place_alike ct__law_place_alike : Value} {f__law_place_alike : Addr}
    {od_law an_law : Option Addr} {sl_law : Array (Option Value)} {oc_law kV_law dc_law pm_law cd_law ct_law : Value} {f_law : Addr}
    (a__law_cell_at : PySem.W.nsIn K mainGlobals "_law_cell_at" = some (some (.ref f__law_cell_at))) (l__law_cell_at : K.lookup f__law_cell_at = some ⟨oc__law_cell_at, od__law_cell_at, .func (PySem.W.fnOf "_law_cell_at" "_law_cell_at" (defArgs s__law_cell_at) (defBody s__law_cell_at) (defScope s__law_cell_at) .none kV__law_cell_at dc__law_cell_at pm__law_cell_at an__law_cell_at cd__law_cell_at ct__law_cell_at), sl__law_cell_at⟩) (c__law_cell_at : PySem.W.codeIn K cd__law_cell_at "_law_cell_at" = true) (k__law_cell_at : PySem.W.keepIn K (.ref f__law_cell_at) = true)
    (a__law_rows : PySem.W.nsIn K mainGlobals "_law_rows" = some (some (.ref f__law_rows))) (l__law_rows : K.lookup f__law_rows = some ⟨oc__law_rows, od__law_rows, .func (PySem.W.fnOf "_law_rows" "_law_rows" (defArgs s__law_rows) (defBody s__law_rows) (defScope s__law_rows) .none kV__law_rows dc__law_rows pm__law_rows an__law_rows cd__law_rows ct__law_rows), sl__law_rows⟩) (c__law_rows : PySem.W.codeIn K cd__law_rows "_law_rows" = true) (k__law_rows : PySem.W.keepIn K (.ref f__law_rows) = true)
    (a_see_figures : PySem.W.nsIn K mainGlobals "see_figures" = some (some (.ref f_see_figures))) (l_see_figures : K.lookup f_see_figures = some ⟨oc_see_figures, od_see_figures, .func (PySem.W.fnOf "see_figures" "see_figures" (defArgs s_see_figures) (defBody s_see_figures) (defScope s_see_figures) .none kV_see_figures dc_see_figures pm_see_figures an_see_figures cd_see_figures ct_see_figures), sl_see_figures⟩) (c_see_figures : PySem.W.codeIn K cd_see_figures "see_figures" = true) (k_see_figures : PySem.W.keepIn K (.ref f_see_figures) = true)
    (a_lines_from : PySem.W.nsIn K mainGlobals "lines_from" = some (some (.ref f_lines_from))) (l_lines_from : K.lookup f_lines_from = some ⟨oc_lines_from, od_lines_from, .func (PySem.W.fnOf "lines_from" "lines_from" (defArgs s_lines_from) (defBody s_lines_from) (defScope s_lines_from) .none kV_lines_from dc_lines_from pm_lines_from an_lines_from cd_lines_from ct_lines_from), sl_lines_from⟩) (c_lines_from : PySem.W.codeIn K cd_lines_from "lines_from" = true) (k_lines_from : PySem.W.keepIn K (.ref f_lines_from) = true)
    (a_Region___init__ : PySem.W.findIn K (.ref c_Region) "__init__" = some (some (.ref f_Region___init__))) (i_Region___init__ : PySem.W.isFn K (.ref f_Region___init__) = true) (l_Region___init__ : K.lookup f_Region___init__ = some ⟨oc_Region___init__, od_Region___init__, .func (PySem.W.fnOf "__init__" "Region.__init__" (defArgs s_Region___init__) (defBody s_Region___init__) (defScope s_Region___init__) .none kV_Region___init__ dc_Region___init__ pm_Region___init__ an_Region___init__ cd_Region___init__ ct_Region___init__), sl_Region___init__⟩) (c_Region___init__ : PySem.W.codeIn K cd_Region___init__ "Region.__init__" = true) (k_Region___init__ : PySem.W.keepIn K (.ref f_Region___init__) = true)
    (a__law_lines : PySem.W.nsIn K mainGlobals "_law_lines" = some (some (.ref f__law_lines))) (l__law_lines : K.lookup f__law_lines = some ⟨oc__law_lines, od__law_lines, .func (PySem.W.fnOf "_law_lines" "_law_lines" (defArgs s__law_lines) (defBody s__law_lines) (defScope s__law_lines) .none kV__law_lines dc__law_lines pm__law_lines an__law_lines cd__law_lines ct__law_lines), sl__law_lines⟩) (c__law_lines : PySem.W.codeIn K cd__law_lines "_law_lines" = true) (k__law_lines : PySem.W.keepIn K (.ref f__law_lines) = true)
    (a__law_all : PySem.W.nsIn K mainGlobals "_law_all" = some (some (.ref f__law_all))) (l__law_all : K.lookup f__law_all = some ⟨oc__law_all, od__law_all, .func (PySem.W.fnOf "_law_all" "_law_all" (defArgs s__law_all) (defBody s__law_all) (defScope s__law_all) .none kV__law_all dc__law_all pm__law_all an__law_all cd__law_all ct__law_all), sl__law_all⟩) (c__law_all : PySem.W.codeIn K cd__law_all "_law_all" = true) (k__law_all : PySem.W.keepIn K (.ref f__law_all) = true)
    (a__law_step : PySem.W.nsIn K mainGlobals "_law_step" = some (some (.ref f__law_step))) (l__law_step : K.lookup f__law_step = some ⟨oc__law_step, od__law_step, .func (PySem.W.fnOf "_law_step" "_law_step" (defArgs s__law_step) (defBody s__law_step) (defScope s__law_step) .none kV__law_step dc__law_step pm__law_step an__law_step cd__law_step ct__law_step), sl__law_step⟩) (c__law_step : PySem.W.codeIn K cd__law_step "_law_step" = true) (k__law_step : PySem.W.keepIn K (.ref f__law_step) = true)
    (a__law_place_T : PySem.W.nsIn K mainGlobals "_law_place" = some (some (.ref f__law_place_T))) (l__law_place_T : K.lookup f__law_place_T = some ⟨oc__law_place_T, od__law_place_T, .func (PySem.W.fnOf "_law_place" "_law_place" (defArgs s__law_place_T) (defBody s__law_place_T) (defScope s__law_place_T) .none kV__law_place_T dc__law_place_T pm__law_place_T an__law_place_T cd__law_place_T ct__law_place_T), sl__law_place_T⟩) (c__law_place_T : PySem.W.codeIn K cd__law_place_T "_law_place" = true) (k__law_place_T : PySem.W.keepIn K (.ref f__law_place_T) = true)
    (a__law_near : PySem.W.nsIn K mainGlobals "_law_near" = some (some (.ref f__law_near))) (l__law_near : K.lookup f__law_near = some ⟨oc__law_near, od__law_near, .func (PySem.W.fnOf "_law_near" "_law_near" (defArgs s__law_near) (defBody s__law_near) (defScope s__law_near) .none kV__law_near dc__law_near pm__law_near an__law_near cd__law_near ct__law_near), sl__law_near⟩) (c__law_near : PySem.W.codeIn K cd__law_near "_law_near" = true) (k__law_near : PySem.W.keepIn K (.ref f__law_near) = true)
    (a_rest : PySem.W.nsIn K mainGlobals "rest" = some (some (.ref f_rest))) (l_rest : K.lookup f_rest = some ⟨oc_rest, od_rest, .func (PySem.W.fnOf "rest" "rest" (defArgs s_rest) (defBody s_rest) (defScope s_rest) .none kV_rest dc_rest pm_rest an_rest cd_rest ct_rest), sl_rest⟩) (c_rest : PySem.W.codeIn K cd_rest "rest" = true) (k_rest : PySem.W.keepIn K (.ref f_rest) = true)
    (a_step : PySem.W.nsIn K mainGlobals "step" = some (some (.ref f_step))) (l_step : K.lookup f_step = some ⟨oc_step, od_step, .func (PySem.W.fnOf "step" "step" (defArgs s_step) (defBody s_step) (defScope s_step) .none kV_step dc_step pm_step an_step cd_step ct_step), sl_step⟩) (c_step : PySem.W.codeIn K cd_step "step" = true) (k_step : PySem.W.keepIn K (.ref f_step) = true)
    (a_rest_place : PySem.W.nsIn K mainGlobals "rest_place" = some (some (.ref f_rest_place))) (l_rest_place : K.lookup f_rest_place = some ⟨oc_rest_place, od_rest_place, .func (PySem.W.fnOf "rest_place" "rest_place" (defArgs s_rest_place) (defBody s_rest_place) (defScope s_rest_place) .none kV_rest_place dc_rest_place pm_rest_place an_rest_place cd_rest_place ct_rest_place), sl_rest_place⟩) (c_rest_place : PySem.W.codeIn K cd_rest_place "rest_place" = true) (k_rest_place : PySem.W.keepIn K (.ref f_rest_place) = true)
    (a_centre : PySem.W.nsIn K mainGlobals "centre" = some (some (.ref f_centre))) (l_centre : K.lookup f_centre = some ⟨oc_centre, od_centre, .func (PySem.W.fnOf "centre" "centre" (defArgs s_centre) (defBody s_centre) (defScope s_centre) .none kV_centre dc_centre pm_centre an_centre cd_centre ct_centre), sl_centre⟩) (c_centre : PySem.W.codeIn K cd_centre "centre" = true) (k_centre : PySem.W.keepIn K (.ref f_centre) = true)
    (a_address : PySem.W.nsIn K mainGlobals "address" = some (some (.ref f_address))) (l_address : K.lookup f_address = some ⟨oc_address, od_address, .func (PySem.W.fnOf "address" "address" (defArgs s_address) (defBody s_address) (defScope s_address) .none kV_address dc_address pm_address an_address cd_address ct_address), sl_address⟩) (c_address : PySem.W.codeIn K cd_address "address" = true) (k_address : PySem.W.keepIn K (.ref f_address) = true)
    (a_Region_holds : PySem.W.findIn K (.ref c_Region) "holds" = some (some (.ref f_Region_holds))) (i_Region_holds : PySem.W.isFn K (.ref f_Region_holds) = true) (l_Region_holds : K.lookup f_Region_holds = some ⟨oc_Region_holds, od_Region_holds, .func (PySem.W.fnOf "holds" "Region.holds" (defArgs s_Region_holds) (defBody s_Region_holds) (defScope s_Region_holds) .none kV_Region_holds dc_Region_holds pm_Region_holds an_Region_holds cd_Region_holds ct_Region_holds), sl_Region_holds⟩) (c_Region_holds : PySem.W.codeIn K cd_Region_holds "Region.holds" = true) (k_Region_holds : PySem.W.keepIn K (.ref f_Region_holds) = true)
    (a_see_place_X : PySem.W.nsIn K mainGlobals "see_place" = some (some (.ref f_see_place_X))) (l_see_place_X : K.lookup f_see_place_X = some ⟨oc_see_place_X, od_see_place_X, .func (PySem.W.fnOf "see_place" "see_place" (defArgs s_see_place_X) (defBody s_see_place_X) (defScope s_see_place_X) .none kV_see_place_X dc_see_place_X pm_see_place_X an_see_place_X cd_see_place_X ct_see_place_X), sl_see_place_X⟩) (c_see_place_X : PySem.W.codeIn K cd_see_place_X "see_place" = true) (k_see_place_X : PySem.W.keepIn K (.ref f_see_place_X) = true)
    (a_added_T : PySem.W.nsIn K mainGlobals "added" = some (some (.ref f_added_T))) (l_added_T : K.lookup f_added_T = some ⟨oc_added_T, od_added_T, .func (PySem.W.fnOf "added" "added" (defArgs s_added_T) (defBody s_added_T) (defScope s_added_T) .none kV_added_T dc_added_T pm_added_T an_added_T cd_added_T ct_added_T), sl_added_T⟩) (c_added_T : PySem.W.codeIn K cd_added_T "added" = true) (k_added_T : PySem.W.keepIn K (.ref f_added_T) = true)
    (a_neighbours_T : PySem.W.nsIn K mainGlobals "neighbours" = some (some (.ref f_neighbours_T))) (l_neighbours_T : K.lookup f_neighbours_T = some ⟨oc_neighbours_T, od_neighbours_T, .func (PySem.W.fnOf "neighbours" "neighbours" (defArgs s_neighbours_T) (defBody s_neighbours_T) (defScope s_neighbours_T) .none kV_neighbours_T dc_neighbours_T pm_neighbours_T an_neighbours_T cd_neighbours_T ct_neighbours_T), sl_neighbours_T⟩) (c_neighbours_T : PySem.W.codeIn K cd_neighbours_T "neighbours" = true) (k_neighbours_T : PySem.W.keepIn K (.ref f_neighbours_T) = true)
    (a_levels_X : PySem.W.nsIn K mainGlobals "levels" = some (some (.ref f_levels_X))) (l_levels_X : K.lookup f_levels_X = some ⟨oc_levels_X, od_levels_X, .func (PySem.W.fnOf "levels" "levels" (defArgs s_levels_X) (defBody s_levels_X) (defScope s_levels_X) .none kV_levels_X dc_levels_X pm_levels_X an_levels_X cd_levels_X ct_levels_X), sl_levels_X⟩) (c_levels_X : PySem.W.codeIn K cd_levels_X "levels" = true) (k_levels_X : PySem.W.keepIn K (.ref f_levels_X) = true)
    (a_nearer : PySem.W.nsIn K mainGlobals "nearer" = some (some (.ref f_nearer))) (l_nearer : K.lookup f_nearer = some ⟨oc_nearer, od_nearer, .func (PySem.W.fnOf "nearer" "nearer" (defArgs s_nearer) (defBody s_nearer) (defScope s_nearer) .none kV_nearer dc_nearer pm_nearer an_nearer cd_nearer ct_nearer), sl_nearer⟩) (c_nearer : PySem.W.codeIn K cd_nearer "nearer" = true) (k_nearer : PySem.W.keepIn K (.ref f_nearer) = true)
    (a_way_X : PySem.W.nsIn K mainGlobals "way" = some (some (.ref f_way_X))) (l_way_X : K.lookup f_way_X = some ⟨oc_way_X, od_way_X, .func (PySem.W.fnOf "way" "way" (defArgs s_way_X) (defBody s_way_X) (defScope s_way_X) .none kV_way_X dc_way_X pm_way_X an_way_X cd_way_X ct_way_X), sl_way_X⟩) (c_way_X : PySem.W.codeIn K cd_way_X "way" = true) (k_way_X : PySem.W.keepIn K (.ref f_way_X) = true)
    (a__law_tried : PySem.W.nsIn K mainGlobals "_law_tried" = some (some (.ref f__law_tried))) (l__law_tried : K.lookup f__law_tried = some ⟨oc__law_tried, od__law_tried, .func (PySem.W.fnOf "_law_tried" "_law_tried" (defArgs s__law_tried) (defBody s__law_tried) (defScope s__law_tried) .none kV__law_tried dc__law_tried pm__law_tried an__law_tried cd__law_tried ct__law_tried), sl__law_tried⟩) (c__law_tried : PySem.W.codeIn K cd__law_tried "_law_tried" = true) (k__law_tried : PySem.W.keepIn K (.ref f__law_tried) = true)
    (a__law_levels : PySem.W.nsIn K mainGlobals "_law_levels" = some (some (.ref f__law_levels))) (l__law_levels : K.lookup f__law_levels = some ⟨oc__law_levels, od__law_levels, .func (PySem.W.fnOf "_law_levels" "_law_levels" (defArgs s__law_levels) (defBody s__law_levels) (defScope s__law_levels) .none kV__law_levels dc__law_levels pm__law_levels an__law_levels cd__law_levels ct__law_levels), sl__law_levels⟩) (c__law_levels : PySem.W.codeIn K cd__law_levels "_law_levels" = true) (k__law_levels : PySem.W.keepIn K (.ref f__law_levels) = true)
    (a__law_due : PySem.W.nsIn K mainGlobals "_law_due" = some (some (.ref f__law_due))) (l__law_due : K.lookup f__law_due = some ⟨oc__law_due, od__law_due, .func (PySem.W.fnOf "_law_due" "_law_due" (defArgs s__law_due) (defBody s__law_due) (defScope s__law_due) .none kV__law_due dc__law_due pm__law_due an__law_due cd__law_due ct__law_due), sl__law_due⟩) (c__law_due : PySem.W.codeIn K cd__law_due "_law_due" = true) (k__law_due : PySem.W.keepIn K (.ref f__law_due) = true)
    (a__law_whole : PySem.W.nsIn K mainGlobals "_law_whole" = some (some (.ref f__law_whole))) (l__law_whole : K.lookup f__law_whole = some ⟨oc__law_whole, od__law_whole, .func (PySem.W.fnOf "_law_whole" "_law_whole" (defArgs s__law_whole) (defBody s__law_whole) (defScope s__law_whole) .none kV__law_whole dc__law_whole pm__law_whole an__law_whole cd__law_whole ct__law_whole), sl__law_whole⟩) (c__law_whole : PySem.W.codeIn K cd__law_whole "_law_whole" = true) (k__law_whole : PySem.W.keepIn K (.ref f__law_whole) = true)
    (a__law_place_alike : PySem.W.nsIn K mainGlobals "_law_place_alike" = some (some (.ref f__law_place_alike))) (l__law_place_alike : K.lookup f__law_place_alike = some ⟨oc__law_place_alike, od__law_place_alike, .func (PySem.W.fnOf "_law_place_alike" "_law_place_alike" (defArgs s__law_place_alike) (defBody s__law_place_alike) (defScope s__law_place_alike) .none kV__law_place_alike dc__law_place_alike pm__law_place_alike an__law_place_alike cd__law_place_alike ct__law_place_alike), sl__law_place_alike⟩) (c__law_place_alike : PySem.W.codeIn K cd__law_place_alike "_law_place_alike" = true) (k__law_place_alike : PySem.W.keepIn K (.ref f__law_place_alike) = true)
    (a_law : PySem.W.nsIn K mainGlobals "law" = some (some (.ref f_law))) (l_law : K.lookup f_law = some ⟨oc_law, od_law, .func (PySem.W.fnOf "law" "law" (defArgs s_law) (defBody s_law) (defScope s_law) .none kV_law dc_law pm_law an_law cd_law ct_law), sl_law⟩) (c_law : PySem.W.codeIn K cd_law "law" = true) (k_law : PySem.W.keepIn K (.ref f_law) = true)
    (z_len : PySem.W.nsIn K mainGlobals "len" = some none)
    (z_range : PySem.W.nsIn K mainGlobals "range" = some none)
    (z_list : PySem.W.nsIn K mainGlobals "list" = some none)
    (z_tuple : PySem.W.nsIn K mainGlobals "tuple" = some none)
    (z_max : PySem.W.nsIn K mainGlobals "max" = some none)
    (z_min : PySem.W.nsIn K mainGlobals "min" = some none)
    (z_abs : PySem.W.nsIn K mainGlobals "abs" = some none)
    (z_int : PySem.W.nsIn K mainGlobals "int" = some none)
    (z_bool : PySem.W.nsIn K mainGlobals "bool" = some none)
    (z_isinstance : PySem.W.nsIn K mainGlobals "isinstance" = some none)
    (z_sorted : PySem.W.nsIn K mainGlobals "sorted" = some none)
    (z_dict : PySem.W.nsIn K mainGlobals "dict" = some none)
    (z_ValueError : PySem.W.nsIn K mainGlobals "ValueError" = some none)
    {a_STEPS b1 b2 b3 b4 b5 b6 : Addr} {dS d1 d2 d3 d4 d5 d6 : Option Addr} {nS m1 m2 m3 m4 m5 m6 : Nat} {slS sl1 sl2 sl3 sl4 sl5 sl6 : Array (Option Value)} {t1 t2 t3 t4 t5 t6 u1 u2 u3 u4 u5 u6 : Tok}
(hSTEPS : PySem.W.nsIn K mainGlobals "STEPS" = some (some (.ref a_STEPS))) (hS0 : K.lookup a_STEPS = some ⟨.type "tuple", dS, .seq #[.ref b1, .ref b2, .ref b3, .ref b4, .ref b5, .ref b6] nS, slS⟩)
(hS1 : K.lookup b1 = some ⟨.type "tuple", d1, .seq #[.int 1 t1, .int 0 u1] m1, sl1⟩) (hS2 : K.lookup b2 = some ⟨.type "tuple", d2, .seq #[.int 0 t2, .int 1 u2] m2, sl2⟩) (hS3 : K.lookup b3 = some ⟨.type "tuple", d3, .seq #[.int (-1) t3, .int 1 u3] m3, sl3⟩)
(hS4 : K.lookup b4 = some ⟨.type "tuple", d4, .seq #[.int (-1) t4, .int 0 u4] m4, sl4⟩) (hS5 : K.lookup b5 = some ⟨.type "tuple", d5, .seq #[.int 0 t5, .int (-1) u5] m5, sl5⟩) (hS6 : K.lookup b6 = some ⟨.type "tuple", d6, .seq #[.int 1 t6, .int (-1) u6] m6, sl6⟩)
    {a_FIGURES : Addr} {dFIGURES : Option Addr} {nFIGURES : Nat} {slFIGURES : Array (Option Value)} {wF0 wF1 wF2 wF3 wF4 wF5 wF6 : Tok} (hFIGURES : PySem.W.nsIn K mainGlobals "FIGURES" = some (some (.ref a_FIGURES))) (hFIGURES0 : K.lookup a_FIGURES = some ⟨.type "tuple", dFIGURES, .seq #[.int 0 wF0, .int 1 wF1, .int 5 wF2, .int 6 wF3, .int 3 wF4, .int 2 wF5, .int 4 wF6] nFIGURES, slFIGURES⟩)
    (yn : PySem.W.specialIn K (.builtin "object.__class__") "__get__" = some (some (.builtin "getset_descriptor.__get__"))) (yt : PySem.W.takesIn K (.builtin "object.__class__") = some true)
    {c_FloorError : Addr} (yg_FloorError : PySem.W.nsIn K mainGlobals "FloorError" = some (some (.ref c_FloorError))) (yx_FloorError : PySem.W.excIn K c_FloorError [.type "ValueError", .type "Exception", .type "BaseException", .type "object"] "ValueError.__new__" = true) (yk_FloorError : PySem.W.keepIn K (.ref c_FloorError) = true) (yb_FloorError : PySem.W.subIn K (.ref c_FloorError) (.type "BaseException") = some true) (yt_FloorError : PySem.W.typeIn K (.ref c_FloorError) = some (.type "type")) (yhg_FloorError : PySem.W.findIn K (.ref c_FloorError) "__getattribute__" = some (some (.builtin "BaseException.__getattribute__"))) (yhk_FloorError : PySem.W.findIn K (.ref c_FloorError) "__getattr__" = some none) (yhd_FloorError : PySem.W.hasDictIn K c_FloorError = true) (yha_FloorError : PySem.W.findIn K (.ref c_FloorError) "__class__" = some (some (.builtin "object.__class__"))) (yhm_FloorError : PySem.W.mroIn K c_FloorError (.type "object") = some true) (yv_FloorError : PySem.W.kitOne K (.ref c_FloorError) (.type "ValueError") = some true)
    {c_NoCell : Addr} (yg_NoCell : PySem.W.nsIn K mainGlobals "NoCell" = some (some (.ref c_NoCell))) (yx_NoCell : PySem.W.excIn K c_NoCell [.type "ValueError", .type "Exception", .type "BaseException", .type "object"] "ValueError.__new__" = true) (yk_NoCell : PySem.W.keepIn K (.ref c_NoCell) = true) (yb_NoCell : PySem.W.subIn K (.ref c_NoCell) (.type "BaseException") = some true) (yt_NoCell : PySem.W.typeIn K (.ref c_NoCell) = some (.type "type")) (yhg_NoCell : PySem.W.findIn K (.ref c_NoCell) "__getattribute__" = some (some (.builtin "BaseException.__getattribute__"))) (yhk_NoCell : PySem.W.findIn K (.ref c_NoCell) "__getattr__" = some none) (yhd_NoCell : PySem.W.hasDictIn K c_NoCell = true) (yha_NoCell : PySem.W.findIn K (.ref c_NoCell) "__class__" = some (some (.builtin "object.__class__"))) (yhm_NoCell : PySem.W.mroIn K c_NoCell (.type "object") = some true) (yv_NoCell : PySem.W.kitOne K (.ref c_NoCell) (.type "ValueError") = some true)
    {c_NoFigure : Addr} (yg_NoFigure : PySem.W.nsIn K mainGlobals "NoFigure" = some (some (.ref c_NoFigure))) (yx_NoFigure : PySem.W.excIn K c_NoFigure [.type "ValueError", .type "Exception", .type "BaseException", .type "object"] "ValueError.__new__" = true) (yk_NoFigure : PySem.W.keepIn K (.ref c_NoFigure) = true) (yb_NoFigure : PySem.W.subIn K (.ref c_NoFigure) (.type "BaseException") = some true) (yt_NoFigure : PySem.W.typeIn K (.ref c_NoFigure) = some (.type "type")) (yhg_NoFigure : PySem.W.findIn K (.ref c_NoFigure) "__getattribute__" = some (some (.builtin "BaseException.__getattribute__"))) (yhk_NoFigure : PySem.W.findIn K (.ref c_NoFigure) "__getattr__" = some none) (yhd_NoFigure : PySem.W.hasDictIn K c_NoFigure = true) (yha_NoFigure : PySem.W.findIn K (.ref c_NoFigure) "__class__" = some (some (.builtin "object.__class__"))) (yhm_NoFigure : PySem.W.mroIn K c_NoFigure (.type "object") = some true) (yv_NoFigure : PySem.W.kitOne K (.ref c_NoFigure) (.type "ValueError") = some true)
    {c_NoLevel : Addr} (yg_NoLevel : PySem.W.nsIn K mainGlobals "NoLevel" = some (some (.ref c_NoLevel))) (yx_NoLevel : PySem.W.excIn K c_NoLevel [.type "ValueError", .type "Exception", .type "BaseException", .type "object"] "ValueError.__new__" = true) (yk_NoLevel : PySem.W.keepIn K (.ref c_NoLevel) = true) (yb_NoLevel : PySem.W.subIn K (.ref c_NoLevel) (.type "BaseException") = some true) (yt_NoLevel : PySem.W.typeIn K (.ref c_NoLevel) = some (.type "type")) (yhg_NoLevel : PySem.W.findIn K (.ref c_NoLevel) "__getattribute__" = some (some (.builtin "BaseException.__getattribute__"))) (yhk_NoLevel : PySem.W.findIn K (.ref c_NoLevel) "__getattr__" = some none) (yhd_NoLevel : PySem.W.hasDictIn K c_NoLevel = true) (yha_NoLevel : PySem.W.findIn K (.ref c_NoLevel) "__class__" = some (some (.builtin "object.__class__"))) (yhm_NoLevel : PySem.W.mroIn K c_NoLevel (.type "object") = some true) (yv_NoLevel : PySem.W.kitOne K (.ref c_NoLevel) (.type "ValueError") = some true)
    {c_Apart : Addr} (yg_Apart : PySem.W.nsIn K mainGlobals "Apart" = some (some (.ref c_Apart))) (yx_Apart : PySem.W.excIn K c_Apart [.type "ValueError", .type "Exception", .type "BaseException", .type "object"] "ValueError.__new__" = true) (yk_Apart : PySem.W.keepIn K (.ref c_Apart) = true) (yb_Apart : PySem.W.subIn K (.ref c_Apart) (.type "BaseException") = some true) (yt_Apart : PySem.W.typeIn K (.ref c_Apart) = some (.type "type")) (yhg_Apart : PySem.W.findIn K (.ref c_Apart) "__getattribute__" = some (some (.builtin "BaseException.__getattribute__"))) (yhk_Apart : PySem.W.findIn K (.ref c_Apart) "__getattr__" = some none) (yhd_Apart : PySem.W.hasDictIn K c_Apart = true) (yha_Apart : PySem.W.findIn K (.ref c_Apart) "__class__" = some (some (.builtin "object.__class__"))) (yhm_Apart : PySem.W.mroIn K c_Apart (.type "object") = some true) (yv_Apart : PySem.W.kitOne K (.ref c_Apart) (.type "ValueError") = some true)
    (ys_Apart_Apart : PySem.W.subIn K (.ref c_Apart) (.ref c_Apart) = some true) (yi_Apart_Apart : PySem.W.kitOne K (.ref c_Apart) (.ref c_Apart) = some true)
    (ys_Apart_FloorError : PySem.W.subIn K (.ref c_Apart) (.ref c_FloorError) = some true) (yi_Apart_FloorError : PySem.W.kitOne K (.ref c_Apart) (.ref c_FloorError) = some true)
    (ys_Apart_NoCell : PySem.W.subIn K (.ref c_Apart) (.ref c_NoCell) = some false) (yi_Apart_NoCell : PySem.W.kitOne K (.ref c_Apart) (.ref c_NoCell) = some false)
    (ys_Apart_NoFigure : PySem.W.subIn K (.ref c_Apart) (.ref c_NoFigure) = some false) (yi_Apart_NoFigure : PySem.W.kitOne K (.ref c_Apart) (.ref c_NoFigure) = some false)
    (ys_Apart_NoLevel : PySem.W.subIn K (.ref c_Apart) (.ref c_NoLevel) = some false) (yi_Apart_NoLevel : PySem.W.kitOne K (.ref c_Apart) (.ref c_NoLevel) = some false)
    (ys_FloorError_Apart : PySem.W.subIn K (.ref c_FloorError) (.ref c_Apart) = some false) (yi_FloorError_Apart : PySem.W.kitOne K (.ref c_FloorError) (.ref c_Apart) = some false)
    (ys_FloorError_FloorError : PySem.W.subIn K (.ref c_FloorError) (.ref c_FloorError) = some true) (yi_FloorError_FloorError : PySem.W.kitOne K (.ref c_FloorError) (.ref c_FloorError) = some true)
    (ys_FloorError_NoCell : PySem.W.subIn K (.ref c_FloorError) (.ref c_NoCell) = some false) (yi_FloorError_NoCell : PySem.W.kitOne K (.ref c_FloorError) (.ref c_NoCell) = some false)
    (ys_FloorError_NoFigure : PySem.W.subIn K (.ref c_FloorError) (.ref c_NoFigure) = some false) (yi_FloorError_NoFigure : PySem.W.kitOne K (.ref c_FloorError) (.ref c_NoFigure) = some false)
    (ys_FloorError_NoLevel : PySem.W.subIn K (.ref c_FloorError) (.ref c_NoLevel) = some false) (yi_FloorError_NoLevel : PySem.W.kitOne K (.ref c_FloorError) (.ref c_NoLevel) = some false)
    (ys_NoCell_Apart : PySem.W.subIn K (.ref c_NoCell) (.ref c_Apart) = some false) (yi_NoCell_Apart : PySem.W.kitOne K (.ref c_NoCell) (.ref c_Apart) = some false)
    (ys_NoCell_FloorError : PySem.W.subIn K (.ref c_NoCell) (.ref c_FloorError) = some true) (yi_NoCell_FloorError : PySem.W.kitOne K (.ref c_NoCell) (.ref c_FloorError) = some true)
    (ys_NoCell_NoCell : PySem.W.subIn K (.ref c_NoCell) (.ref c_NoCell) = some true) (yi_NoCell_NoCell : PySem.W.kitOne K (.ref c_NoCell) (.ref c_NoCell) = some true)
    (ys_NoCell_NoFigure : PySem.W.subIn K (.ref c_NoCell) (.ref c_NoFigure) = some false) (yi_NoCell_NoFigure : PySem.W.kitOne K (.ref c_NoCell) (.ref c_NoFigure) = some false)
    (ys_NoCell_NoLevel : PySem.W.subIn K (.ref c_NoCell) (.ref c_NoLevel) = some false) (yi_NoCell_NoLevel : PySem.W.kitOne K (.ref c_NoCell) (.ref c_NoLevel) = some false)
    (ys_NoFigure_Apart : PySem.W.subIn K (.ref c_NoFigure) (.ref c_Apart) = some false) (yi_NoFigure_Apart : PySem.W.kitOne K (.ref c_NoFigure) (.ref c_Apart) = some false)
    (ys_NoFigure_FloorError : PySem.W.subIn K (.ref c_NoFigure) (.ref c_FloorError) = some true) (yi_NoFigure_FloorError : PySem.W.kitOne K (.ref c_NoFigure) (.ref c_FloorError) = some true)
    (ys_NoFigure_NoCell : PySem.W.subIn K (.ref c_NoFigure) (.ref c_NoCell) = some false) (yi_NoFigure_NoCell : PySem.W.kitOne K (.ref c_NoFigure) (.ref c_NoCell) = some false)
    (ys_NoFigure_NoFigure : PySem.W.subIn K (.ref c_NoFigure) (.ref c_NoFigure) = some true) (yi_NoFigure_NoFigure : PySem.W.kitOne K (.ref c_NoFigure) (.ref c_NoFigure) = some true)
    (ys_NoFigure_NoLevel : PySem.W.subIn K (.ref c_NoFigure) (.ref c_NoLevel) = some false) (yi_NoFigure_NoLevel : PySem.W.kitOne K (.ref c_NoFigure) (.ref c_NoLevel) = some false)
    (ys_NoLevel_Apart : PySem.W.subIn K (.ref c_NoLevel) (.ref c_Apart) = some false) (yi_NoLevel_Apart : PySem.W.kitOne K (.ref c_NoLevel) (.ref c_Apart) = some false)
    (ys_NoLevel_FloorError : PySem.W.subIn K (.ref c_NoLevel) (.ref c_FloorError) = some true) (yi_NoLevel_FloorError : PySem.W.kitOne K (.ref c_NoLevel) (.ref c_FloorError) = some true)
    (ys_NoLevel_NoCell : PySem.W.subIn K (.ref c_NoLevel) (.ref c_NoCell) = some false) (yi_NoLevel_NoCell : PySem.W.kitOne K (.ref c_NoLevel) (.ref c_NoCell) = some false)
    (ys_NoLevel_NoFigure : PySem.W.subIn K (.ref c_NoLevel) (.ref c_NoFigure) = some false) (yi_NoLevel_NoFigure : PySem.W.kitOne K (.ref c_NoLevel) (.ref c_NoFigure) = some false)
    (ys_NoLevel_NoLevel : PySem.W.subIn K (.ref c_NoLevel) (.ref c_NoLevel) = some true) (yi_NoLevel_NoLevel : PySem.W.kitOne K (.ref c_NoLevel) (.ref c_NoLevel) = some true) :
    ∃ fd : FuncData, (∀ (s : Shared) (v : Value), BindsTo s fd ⟨[v], []⟩ [("script", v)]) ∧ ∀ base : Heap, K.In base → base.Ns mainGlobals mg → FnOk P w K mg base CX0 10 fa fd ["script"] (sp_law K) := by
  have e := hfa.symm.trans (PySem.W.mg_of X G a_law)
  cases e
  have T : Tx mg := ⟨PySem.W.mg_none_of X G z_len, PySem.W.mg_none_of X G z_range, PySem.W.mg_none_of X G z_list, PySem.W.mg_none_of X G z_tuple, PySem.W.mg_none_of X G z_max, PySem.W.mg_none_of X G z_min, PySem.W.mg_none_of X G z_abs, PySem.W.mg_none_of X G z_int, PySem.W.mg_none_of X G z_bool, PySem.W.mg_none_of X G z_isinstance, PySem.W.mg_none_of X G z_sorted, PySem.W.mg_none_of X G z_dict, PySem.W.mg_none_of X G z_ValueError⟩
  have g_STEPS : mg "STEPS" = some (.ref a_STEPS) := PySem.W.mg_of X G hSTEPS
  have k_STEPS : G_STEPS K a_STEPS := ⟨[.ref b1, .ref b2, .ref b3, .ref b4, .ref b5, .ref b6], fun H => .inr ⟨_, _, _, hS0, rfl, rfl, by show 6 ≤ sizeLine; decide, .cons rfl (.cons rfl (.cons rfl (.cons rfl (.cons rfl (.cons rfl .nil)))))⟩, fun H => .cons (written2 hS1 H) (.cons (written2 hS2 H) (.cons (written2 hS3 H) (.cons (written2 hS4 H) (.cons (written2 hS5 H) (.cons (written2 hS6 H) .nil)))))⟩
  have g_FIGURES : mg "FIGURES" = some (.ref a_FIGURES) := PySem.W.mg_of X G hFIGURES
  have k_FIGURES : G_FIGURES K a_FIGURES := fun H => .inr ⟨_, _, _, hFIGURES0, rfl, rfl, by show 7 ≤ sizeLine; decide, .cons ⟨wF0, rfl⟩ (.cons ⟨wF1, rfl⟩ (.cons ⟨wF2, rfl⟩ (.cons ⟨wF3, rfl⟩ (.cons ⟨wF4, rfl⟩ (.cons ⟨wF5, rfl⟩ (.cons ⟨wF6, rfl⟩ .nil))))))⟩
  have e_FloorError : EC K mg "FloorError" c_FloorError := ⟨PySem.W.mg_of X G yg_FloorError, yx_FloorError, yk_FloorError, yb_FloorError, yt_FloorError, ⟨yhg_FloorError, yhk_FloorError, yb_FloorError, yhd_FloorError, yha_FloorError, yn, yt, yhm_FloorError⟩, yv_FloorError⟩
  have e_NoCell : EC K mg "NoCell" c_NoCell := ⟨PySem.W.mg_of X G yg_NoCell, yx_NoCell, yk_NoCell, yb_NoCell, yt_NoCell, ⟨yhg_NoCell, yhk_NoCell, yb_NoCell, yhd_NoCell, yha_NoCell, yn, yt, yhm_NoCell⟩, yv_NoCell⟩
  have e_NoFigure : EC K mg "NoFigure" c_NoFigure := ⟨PySem.W.mg_of X G yg_NoFigure, yx_NoFigure, yk_NoFigure, yb_NoFigure, yt_NoFigure, ⟨yhg_NoFigure, yhk_NoFigure, yb_NoFigure, yhd_NoFigure, yha_NoFigure, yn, yt, yhm_NoFigure⟩, yv_NoFigure⟩
  have e_NoLevel : EC K mg "NoLevel" c_NoLevel := ⟨PySem.W.mg_of X G yg_NoLevel, yx_NoLevel, yk_NoLevel, yb_NoLevel, yt_NoLevel, ⟨yhg_NoLevel, yhk_NoLevel, yb_NoLevel, yhd_NoLevel, yha_NoLevel, yn, yt, yhm_NoLevel⟩, yv_NoLevel⟩
  have e_Apart : EC K mg "Apart" c_Apart := ⟨PySem.W.mg_of X G yg_Apart, yx_Apart, yk_Apart, yb_Apart, yt_Apart, ⟨yhg_Apart, yhk_Apart, yb_Apart, yhd_Apart, yha_Apart, yn, yt, yhm_Apart⟩, yv_Apart⟩
  have z_Apart_Apart : Rel K c_Apart c_Apart true := ⟨ys_Apart_Apart, yi_Apart_Apart⟩
  have z_Apart_FloorError : Rel K c_Apart c_FloorError true := ⟨ys_Apart_FloorError, yi_Apart_FloorError⟩
  have z_Apart_NoCell : Rel K c_Apart c_NoCell false := ⟨ys_Apart_NoCell, yi_Apart_NoCell⟩
  have z_Apart_NoFigure : Rel K c_Apart c_NoFigure false := ⟨ys_Apart_NoFigure, yi_Apart_NoFigure⟩
  have z_Apart_NoLevel : Rel K c_Apart c_NoLevel false := ⟨ys_Apart_NoLevel, yi_Apart_NoLevel⟩
  have z_FloorError_Apart : Rel K c_FloorError c_Apart false := ⟨ys_FloorError_Apart, yi_FloorError_Apart⟩
  have z_FloorError_FloorError : Rel K c_FloorError c_FloorError true := ⟨ys_FloorError_FloorError, yi_FloorError_FloorError⟩
  have z_FloorError_NoCell : Rel K c_FloorError c_NoCell false := ⟨ys_FloorError_NoCell, yi_FloorError_NoCell⟩
  have z_FloorError_NoFigure : Rel K c_FloorError c_NoFigure false := ⟨ys_FloorError_NoFigure, yi_FloorError_NoFigure⟩
  have z_FloorError_NoLevel : Rel K c_FloorError c_NoLevel false := ⟨ys_FloorError_NoLevel, yi_FloorError_NoLevel⟩
  have z_NoCell_Apart : Rel K c_NoCell c_Apart false := ⟨ys_NoCell_Apart, yi_NoCell_Apart⟩
  have z_NoCell_FloorError : Rel K c_NoCell c_FloorError true := ⟨ys_NoCell_FloorError, yi_NoCell_FloorError⟩
  have z_NoCell_NoCell : Rel K c_NoCell c_NoCell true := ⟨ys_NoCell_NoCell, yi_NoCell_NoCell⟩
  have z_NoCell_NoFigure : Rel K c_NoCell c_NoFigure false := ⟨ys_NoCell_NoFigure, yi_NoCell_NoFigure⟩
  have z_NoCell_NoLevel : Rel K c_NoCell c_NoLevel false := ⟨ys_NoCell_NoLevel, yi_NoCell_NoLevel⟩
  have z_NoFigure_Apart : Rel K c_NoFigure c_Apart false := ⟨ys_NoFigure_Apart, yi_NoFigure_Apart⟩
  have z_NoFigure_FloorError : Rel K c_NoFigure c_FloorError true := ⟨ys_NoFigure_FloorError, yi_NoFigure_FloorError⟩
  have z_NoFigure_NoCell : Rel K c_NoFigure c_NoCell false := ⟨ys_NoFigure_NoCell, yi_NoFigure_NoCell⟩
  have z_NoFigure_NoFigure : Rel K c_NoFigure c_NoFigure true := ⟨ys_NoFigure_NoFigure, yi_NoFigure_NoFigure⟩
  have z_NoFigure_NoLevel : Rel K c_NoFigure c_NoLevel false := ⟨ys_NoFigure_NoLevel, yi_NoFigure_NoLevel⟩
  have z_NoLevel_Apart : Rel K c_NoLevel c_Apart false := ⟨ys_NoLevel_Apart, yi_NoLevel_Apart⟩
  have z_NoLevel_FloorError : Rel K c_NoLevel c_FloorError true := ⟨ys_NoLevel_FloorError, yi_NoLevel_FloorError⟩
  have z_NoLevel_NoCell : Rel K c_NoLevel c_NoCell false := ⟨ys_NoLevel_NoCell, yi_NoLevel_NoCell⟩
  have z_NoLevel_NoFigure : Rel K c_NoLevel c_NoFigure false := ⟨ys_NoLevel_NoFigure, yi_NoLevel_NoFigure⟩
  have z_NoLevel_NoLevel : Rel K c_NoLevel c_NoLevel true := ⟨ys_NoLevel_NoLevel, yi_NoLevel_NoLevel⟩
  have rc : RegC K mg c_Region := ⟨⟨qpg, qhd, qpo, qsa⟩, qnL, qnN, PySem.W.mg_of X G qC⟩
  have F__law_cell_at : Fn K mg "_law_cell_at" "_law_cell_at" s__law_cell_at n__law_cell_at_p := ⟨_, _, fun_mk (st := s__law_cell_at) l__law_cell_at c__law_cell_at k__law_cell_at, PySem.W.mg_of X G a__law_cell_at, (fun_mk (st := s__law_cell_at) l__law_cell_at c__law_cell_at k__law_cell_at).binds (ps := n__law_cell_at_p) fun _ _ _ _ _ _ us hl => match us, hl with | [_, _], _ => rfl⟩
  have F__law_rows : Fn K mg "_law_rows" "_law_rows" s__law_rows n__law_rows_p := ⟨_, _, fun_mk (st := s__law_rows) l__law_rows c__law_rows k__law_rows, PySem.W.mg_of X G a__law_rows, (fun_mk (st := s__law_rows) l__law_rows c__law_rows k__law_rows).binds (ps := n__law_rows_p) fun _ _ _ _ _ _ us hl => match us, hl with | [_, _, _], _ => rfl⟩
  have F_see_figures : Fn K mg "see_figures" "see_figures" s_see_figures n_see_figures_p := ⟨_, _, fun_mk (st := s_see_figures) l_see_figures c_see_figures k_see_figures, PySem.W.mg_of X G a_see_figures, (fun_mk (st := s_see_figures) l_see_figures c_see_figures k_see_figures).binds (ps := n_see_figures_p) fun _ _ _ _ _ _ us hl => match us, hl with | [_], _ => rfl⟩
  have F_lines_from : Fn K mg "lines_from" "lines_from" s_lines_from n_lines_from_p := ⟨_, _, fun_mk (st := s_lines_from) l_lines_from c_lines_from k_lines_from, PySem.W.mg_of X G a_lines_from, (fun_mk (st := s_lines_from) l_lines_from c_lines_from k_lines_from).binds (ps := n_lines_from_p) fun _ _ _ _ _ _ us hl => match us, hl with | [_, _], _ => rfl⟩
  have F_Region___init__ : FnI K mg c_Region "Region" "__init__" "Region.__init__" s_Region___init__ n_Region___init___p := ⟨_, _, fun_mk (st := s_Region___init__) l_Region___init__ c_Region___init__ k_Region___init__, ⟨qmk, a_Region___init__, i_Region___init__, qkc⟩, PySem.W.mg_of X G qC, (fun_mk (st := s_Region___init__) l_Region___init__ c_Region___init__ k_Region___init__).binds (ps := n_Region___init___p) fun _ _ _ _ _ _ us hl => match us, hl with | [_, _, _], _ => rfl⟩
  have F__law_lines : Fn K mg "_law_lines" "_law_lines" s__law_lines n__law_lines_p := ⟨_, _, fun_mk (st := s__law_lines) l__law_lines c__law_lines k__law_lines, PySem.W.mg_of X G a__law_lines, (fun_mk (st := s__law_lines) l__law_lines c__law_lines k__law_lines).binds (ps := n__law_lines_p) fun _ _ _ _ _ _ us hl => match us, hl with | [_, _], _ => rfl⟩
  have F__law_all : Fn K mg "_law_all" "_law_all" s__law_all n__law_all_p := ⟨_, _, fun_mk (st := s__law_all) l__law_all c__law_all k__law_all, PySem.W.mg_of X G a__law_all, (fun_mk (st := s__law_all) l__law_all c__law_all k__law_all).binds (ps := n__law_all_p) fun _ _ _ _ _ _ us hl => match us, hl with | [_, _], _ => rfl⟩
  have F__law_step : Fn K mg "_law_step" "_law_step" s__law_step n__law_step_p := ⟨_, _, fun_mk (st := s__law_step) l__law_step c__law_step k__law_step, PySem.W.mg_of X G a__law_step, (fun_mk (st := s__law_step) l__law_step c__law_step k__law_step).binds (ps := n__law_step_p) fun _ _ _ _ _ _ us hl => match us, hl with | [_], _ => rfl⟩
  have F__law_place_T : Fn K mg "_law_place" "_law_place" s__law_place_T n__law_place_T_p := ⟨_, _, fun_mk (st := s__law_place_T) l__law_place_T c__law_place_T k__law_place_T, PySem.W.mg_of X G a__law_place_T, (fun_mk (st := s__law_place_T) l__law_place_T c__law_place_T k__law_place_T).binds (ps := n__law_place_T_p) fun _ _ _ _ _ _ us hl => match us, hl with | [_], _ => rfl⟩
  have F__law_near : Fn K mg "_law_near" "_law_near" s__law_near n__law_near_p := ⟨_, _, fun_mk (st := s__law_near) l__law_near c__law_near k__law_near, PySem.W.mg_of X G a__law_near, (fun_mk (st := s__law_near) l__law_near c__law_near k__law_near).binds (ps := n__law_near_p) fun _ _ _ _ _ _ us hl => match us, hl with | [_], _ => rfl⟩
  have F_rest : Fn K mg "rest" "rest" s_rest n_rest_p := ⟨_, _, fun_mk (st := s_rest) l_rest c_rest k_rest, PySem.W.mg_of X G a_rest, (fun_mk (st := s_rest) l_rest c_rest k_rest).binds (ps := n_rest_p) fun _ _ _ _ _ _ us hl => match us, hl with | [_], _ => rfl⟩
  have F_step : Fn K mg "step" "step" s_step n_step_p := ⟨_, _, fun_mk (st := s_step) l_step c_step k_step, PySem.W.mg_of X G a_step, (fun_mk (st := s_step) l_step c_step k_step).binds (ps := n_step_p) fun _ _ _ _ _ _ us hl => match us, hl with | [_], _ => rfl⟩
  have F_rest_place : Fn K mg "rest_place" "rest_place" s_rest_place n_rest_place_p := ⟨_, _, fun_mk (st := s_rest_place) l_rest_place c_rest_place k_rest_place, PySem.W.mg_of X G a_rest_place, (fun_mk (st := s_rest_place) l_rest_place c_rest_place k_rest_place).binds (ps := n_rest_place_p) fun _ _ _ _ _ _ us hl => match us, hl with | [_], _ => rfl⟩
  have F_centre : Fn K mg "centre" "centre" s_centre n_centre_p := ⟨_, _, fun_mk (st := s_centre) l_centre c_centre k_centre, PySem.W.mg_of X G a_centre, (fun_mk (st := s_centre) l_centre c_centre k_centre).binds (ps := n_centre_p) fun _ _ _ _ _ _ us hl => match us, hl with | [_], _ => rfl⟩
  have F_address : Fn K mg "address" "address" s_address n_address_p := ⟨_, _, fun_mk (st := s_address) l_address c_address k_address, PySem.W.mg_of X G a_address, (fun_mk (st := s_address) l_address c_address k_address).binds (ps := n_address_p) fun _ _ _ _ _ _ us hl => match us, hl with | [_], _ => rfl⟩
  have F_Region_holds : FnM K c_Region "holds" "Region.holds" s_Region_holds n_Region_holds_p := ⟨_, _, fun_mk (st := s_Region_holds) l_Region_holds c_Region_holds k_Region_holds, ⟨qpg, qhd, qpo, qsa⟩, ⟨a_Region_holds, i_Region_holds, k_Region_holds⟩, (fun_mk (st := s_Region_holds) l_Region_holds c_Region_holds k_Region_holds).binds (ps := n_Region_holds_p) fun _ _ _ _ _ _ us hl => match us, hl with | [_, _], _ => rfl⟩
  have F_see_place_X : Fn K mg "see_place" "see_place" s_see_place_X n_see_place_X_p := ⟨_, _, fun_mk (st := s_see_place_X) l_see_place_X c_see_place_X k_see_place_X, PySem.W.mg_of X G a_see_place_X, (fun_mk (st := s_see_place_X) l_see_place_X c_see_place_X k_see_place_X).binds (ps := n_see_place_X_p) fun _ _ _ _ _ _ us hl => match us, hl with | [_, _], _ => rfl⟩
  have F_added_T : Fn K mg "added" "added" s_added_T n_added_T_p := ⟨_, _, fun_mk (st := s_added_T) l_added_T c_added_T k_added_T, PySem.W.mg_of X G a_added_T, (fun_mk (st := s_added_T) l_added_T c_added_T k_added_T).binds (ps := n_added_T_p) fun _ _ _ _ _ _ us hl => match us, hl with | [_, _], _ => rfl⟩
  have F_neighbours_T : Fn K mg "neighbours" "neighbours" s_neighbours_T n_neighbours_T_p := ⟨_, _, fun_mk (st := s_neighbours_T) l_neighbours_T c_neighbours_T k_neighbours_T, PySem.W.mg_of X G a_neighbours_T, (fun_mk (st := s_neighbours_T) l_neighbours_T c_neighbours_T k_neighbours_T).binds (ps := n_neighbours_T_p) fun _ _ _ _ _ _ us hl => match us, hl with | [_], _ => rfl⟩
  have F_levels_X : Fn K mg "levels" "levels" s_levels_X n_levels_X_p := ⟨_, _, fun_mk (st := s_levels_X) l_levels_X c_levels_X k_levels_X, PySem.W.mg_of X G a_levels_X, (fun_mk (st := s_levels_X) l_levels_X c_levels_X k_levels_X).binds (ps := n_levels_X_p) fun _ _ _ _ _ _ us hl => match us, hl with | [_, _], _ => rfl⟩
  have F_nearer : Fn K mg "nearer" "nearer" s_nearer n_nearer_p := ⟨_, _, fun_mk (st := s_nearer) l_nearer c_nearer k_nearer, PySem.W.mg_of X G a_nearer, (fun_mk (st := s_nearer) l_nearer c_nearer k_nearer).binds (ps := n_nearer_p) fun _ _ _ _ _ _ us hl => match us, hl with | [_, _], _ => rfl⟩
  have F_way_X : Fn K mg "way" "way" s_way_X n_way_X_p := ⟨_, _, fun_mk (st := s_way_X) l_way_X c_way_X k_way_X, PySem.W.mg_of X G a_way_X, (fun_mk (st := s_way_X) l_way_X c_way_X k_way_X).binds (ps := n_way_X_p) fun _ _ _ _ _ _ us hl => match us, hl with | [_, _, _], _ => rfl⟩
  have F__law_tried : Fn K mg "_law_tried" "_law_tried" s__law_tried n__law_tried_p := ⟨_, _, fun_mk (st := s__law_tried) l__law_tried c__law_tried k__law_tried, PySem.W.mg_of X G a__law_tried, (fun_mk (st := s__law_tried) l__law_tried c__law_tried k__law_tried).binds (ps := n__law_tried_p) fun _ _ _ _ _ _ us hl => match us, hl with | [_, _, _], _ => rfl⟩
  have F__law_levels : Fn K mg "_law_levels" "_law_levels" s__law_levels n__law_levels_p := ⟨_, _, fun_mk (st := s__law_levels) l__law_levels c__law_levels k__law_levels, PySem.W.mg_of X G a__law_levels, (fun_mk (st := s__law_levels) l__law_levels c__law_levels k__law_levels).binds (ps := n__law_levels_p) fun _ _ _ _ _ _ us hl => match us, hl with | [_, _], _ => rfl⟩
  have F__law_due : Fn K mg "_law_due" "_law_due" s__law_due n__law_due_p := ⟨_, _, fun_mk (st := s__law_due) l__law_due c__law_due k__law_due, PySem.W.mg_of X G a__law_due, (fun_mk (st := s__law_due) l__law_due c__law_due k__law_due).binds (ps := n__law_due_p) fun _ _ _ _ _ _ us hl => match us, hl with | [_, _], _ => rfl⟩
  have F__law_whole : Fn K mg "_law_whole" "_law_whole" s__law_whole n__law_whole_p := ⟨_, _, fun_mk (st := s__law_whole) l__law_whole c__law_whole k__law_whole, PySem.W.mg_of X G a__law_whole, (fun_mk (st := s__law_whole) l__law_whole c__law_whole k__law_whole).binds (ps := n__law_whole_p) fun _ _ _ _ _ _ us hl => match us, hl with | [_], _ => rfl⟩
  have F__law_place_alike : Fn K mg "_law_place_alike" "_law_place_alike" s__law_place_alike n__law_place_alike_p := ⟨_, _, fun_mk (st := s__law_place_alike) l__law_place_alike c__law_place_alike k__law_place_alike, PySem.W.mg_of X G a__law_place_alike, (fun_mk (st := s__law_place_alike) l__law_place_alike c__law_place_alike k__law_place_alike).binds (ps := n__law_place_alike_p) fun _ _ _ _ _ _ us hl => match us, hl with | [_, _], _ => rfl⟩
  have F_law : Fn K mg "law" "law" s_law n_law_p := ⟨_, _, fun_mk (st := s_law) l_law c_law k_law, PySem.W.mg_of X G a_law, (fun_mk (st := s_law) l_law c_law k_law).binds (ps := n_law_p) fun _ _ _ _ _ _ us hl => match us, hl with | [_], _ => rfl⟩
  have R (base : Heap) : FnOk P w K mg base CX0 10 fa (PySem.W.fnOf "law" "law" (defArgs s_law) (defBody s_law) (defScope s_law) .none kV_law dc_law pm_law an_law cd_law ct_law) n_law_p (sp_law K) := by
    have R__law_cell_at : Ref P w K mg base CX0 1 "_law_cell_at" n__law_cell_at_p (sp__law_cell_at K) := ok__law_cell_at F__law_cell_at T
    have R__law_rows : Ref P w K mg base CX0 2 "_law_rows" n__law_rows_p (sp__law_rows K) := ok__law_rows F__law_rows T R__law_cell_at
    have R_see_figures : Ref P w K mg base CX0 1 "see_figures" n_see_figures_p (sp_see_figures K) := ok_see_figures F_see_figures T
    have R_lines_from : Ref P w K mg base CX0 1 "lines_from" n_lines_from_p (sp_lines_from K) := ok_lines_from F_lines_from T
    have R_Region___init__ : RefM P w K mg base CX0 2 "Region" c_Region n_Region___init___p (sp_Region___init__ K c_Region) := ok_Region___init__ F_Region___init__ T rc R_see_figures R_lines_from
    have R__law_lines : Ref P w K mg base CX0 1 "_law_lines" n__law_lines_p (sp__law_lines K) := ok__law_lines F__law_lines T
    have R__law_all : Ref P w K mg base CX0 2 "_law_all" n__law_all_p (sp__law_all K) := ok__law_all F__law_all T R__law_lines
    have R__law_step : Ref P w K mg base CX0 1 "_law_step" n__law_step_p (sp__law_step K) := ok__law_step F__law_step T
    have R__law_place_T : Ref P w K mg base CX0 2 "_law_place" n__law_place_T_p (sp__law_place_T K) := ok__law_place_T F__law_place_T T R__law_step
    have R__law_near : Ref P w K mg base CX0 2 "_law_near" n__law_near_p (sp__law_near K) := ok__law_near F__law_near T R__law_step
    have R_rest : Ref P w K mg base CX0 1 "rest" n_rest_p (sp_rest K) := ok_rest F_rest T g_FIGURES k_FIGURES
    have R_step : Ref P w K mg base CX0 1 "step" n_step_p (sp_step K) := ok_step F_step T g_STEPS k_STEPS
    have R_rest_place : Ref P w K mg base CX0 2 "rest_place" n_rest_place_p (sp_rest_place K) := ok_rest_place F_rest_place T R_step
    have R_centre : Ref P w K mg base CX0 3 "centre" n_centre_p (sp_centre K) := ok_centre F_centre T R_rest_place R_rest
    have R_address : Ref P w K mg base CX0 4 "address" n_address_p (sp_address K) := ok_address F_address T R_rest R_centre
    have R_Region_holds : RefT P w K mg base CX0 5 "holds" c_Region n_Region_holds_p (sp_Region_holds K c_Region) := ok_Region_holds F_Region_holds T rc R_address
    have R_see_place_X : Ref P w K mg base (L2.CX P w) 6 "see_place" n_see_place_X_p (sp_see_place_X K c_Region c_NoCell) := ok_see_place_X F_see_place_X T rc e_NoCell R_Region_holds
    have R_added_T : Ref P w K mg base CX0 1 "added" n_added_T_p (sp_added_T K) := ok_added_T F_added_T T
    have R_neighbours_T : Ref P w K mg base CX0 2 "neighbours" n_neighbours_T_p (sp_neighbours_T K) := ok_neighbours_T F_neighbours_T T g_STEPS k_STEPS R_added_T
    have R_levels_X : Ref P w K mg base (L2.CX P w) 7 "levels" n_levels_X_p (sp_levels_X K c_Region c_NoCell) := ok_levels_X F_levels_X T rc e_NoCell R_see_place_X R_neighbours_T R_Region_holds
    have R_nearer : Ref P w K mg base CX0 3 "nearer" n_nearer_p (sp_nearer K) := ok_nearer F_nearer T R_neighbours_T
    have R_way_X : Ref P w K mg base (L2.CX P w) 8 "way" n_way_X_p (sp_way_X K c_Region c_NoCell c_Apart) := ok_way_X F_way_X T rc e_Apart e_NoCell R_see_place_X R_levels_X R_nearer
    have R__law_tried : Ref P w K mg base CX0 9 "_law_tried" n__law_tried_p (sp__law_tried K c_Region) := ok__law_tried F__law_tried T rc e_FloorError e_NoLevel e_NoFigure e_NoCell e_Apart z_FloorError_FloorError z_FloorError_NoLevel z_FloorError_NoFigure z_FloorError_NoCell z_FloorError_Apart z_NoLevel_FloorError z_NoLevel_NoLevel z_NoLevel_NoFigure z_NoLevel_NoCell z_NoLevel_Apart z_NoFigure_FloorError z_NoFigure_NoLevel z_NoFigure_NoFigure z_NoFigure_NoCell z_NoFigure_Apart z_NoCell_FloorError z_NoCell_NoLevel z_NoCell_NoFigure z_NoCell_NoCell z_NoCell_Apart z_Apart_FloorError z_Apart_NoLevel z_Apart_NoFigure z_Apart_NoCell z_Apart_Apart R_way_X
    have R__law_levels : Ref P w K mg base CX0 3 "_law_levels" n__law_levels_p (sp__law_levels K) := ok__law_levels F__law_levels T R__law_near
    have R__law_due : Ref P w K mg base CX0 3 "_law_due" n__law_due_p (sp__law_due K) := ok__law_due F__law_due T R__law_near
    have R__law_whole : Ref P w K mg base CX0 1 "_law_whole" n__law_whole_p (sp__law_whole K) := ok__law_whole F__law_whole T
    have R__law_place_alike : Ref P w K mg base CX0 2 "_law_place_alike" n__law_place_alike_p (sp__law_place_alike K) := ok__law_place_alike F__law_place_alike T R__law_whole
    have R_see_place : Ref P w K mg base CX0 6 "see_place" n_see_place_p (sp_see_place K c_Region) := ok_see_place F_see_place_X T rc R_Region_holds
    have R_levels : Ref P w K mg base CX0 7 "levels" n_levels_p (sp_levels K c_Region) := ok_levels F_levels_X T rc R_see_place R_neighbours_T R_Region_holds
    have R_way : Ref P w K mg base CX0 8 "way" n_way_p (sp_way K c_Region) := ok_way F_way_X T rc R_see_place R_levels R_nearer
    exact okF_law (fun_mk (st := s_law) l_law c_law k_law) T rc R__law_cell_at R__law_rows R_Region___init__ R__law_all R__law_place_T R__law_near R__law_tried R__law_levels R__law_due R__law_place_alike R_way
  exact ⟨_, fun s v => .of_eq rfl, fun base _ _ => R base⟩
end Hx
open PySem PySem.W PyProof.Rows
set_option maxRecDepth 100000 in
set_option maxHeartbeats 0 in
theorem PySem.Challenge.cw_hexaddress_k20_whole_a_way_holds : PySem.Challenge.rw_hexaddress_k20_whole_a_way.Holds := by
  w_on; o_law; k_head; (case hw => w_witness2)
  k_fill
  refine L2.walk_of (l := PySem.Challenge.rw_hexaddress_k20_whole_a_way) (n := 63) (k := 10) (x := "script") (CX := fun _ => L2.CX0) (sp := fun w => Hx.sp_law _) rfl (by decide) rfl ⟨rfl, by decide, by decide⟩ (fun w h Y => PySem.W.kIn_of Y) ?F (fun _ _ a ns hl _ hS => ⟨a, ns, rfl, hS, hl, fun _ => rfl⟩) (fun _ _ _ _ _ h => h)
  case F =>
    intro w mg fa h KX G hmg
    refine' Hx.all_mk KX G hmg ?qC ?qpg ?qhd ?qpo ?qsa ?qmk ?qkc ?qnL ?qnN ?a__law_cell_at ?l__law_cell_at ?c__law_cell_at ?k__law_cell_at ?a__law_rows ?l__law_rows ?c__law_rows ?k__law_rows ?a_see_figures ?l_see_figures ?c_see_figures ?k_see_figures ?a_lines_from ?l_lines_from ?c_lines_from ?k_lines_from ?a_Region___init__ ?i_Region___init__ ?l_Region___init__ ?c_Region___init__ ?k_Region___init__ ?a__law_lines ?l__law_lines ?c__law_lines ?k__law_lines ?a__law_all ?l__law_all ?c__law_all ?k__law_all ?a__law_step ?l__law_step ?c__law_step ?k__law_step ?a__law_place_T ?l__law_place_T ?c__law_place_T ?k__law_place_T ?a__law_near ?l__law_near ?c__law_near ?k__law_near ?a_rest ?l_rest ?c_rest ?k_rest ?a_step ?l_step ?c_step ?k_step ?a_rest_place ?l_rest_place ?c_rest_place ?k_rest_place ?a_centre ?l_centre ?c_centre ?k_centre ?a_address ?l_address ?c_address ?k_address ?a_Region_holds ?i_Region_holds ?l_Region_holds ?c_Region_holds ?k_Region_holds ?a_see_place_X ?l_see_place_X ?c_see_place_X ?k_see_place_X ?a_added_T ?l_added_T ?c_added_T ?k_added_T ?a_neighbours_T ?l_neighbours_T ?c_neighbours_T ?k_neighbours_T ?a_levels_X ?l_levels_X ?c_levels_X ?k_levels_X ?a_nearer ?l_nearer ?c_nearer ?k_nearer ?a_way_X ?l_way_X ?c_way_X ?k_way_X ?a__law_tried ?l__law_tried ?c__law_tried ?k__law_tried ?a__law_levels ?l__law_levels ?c__law_levels ?k__law_levels ?a__law_due ?l__law_due ?c__law_due ?k__law_due ?a__law_whole ?l__law_whole ?c__law_whole ?k__law_whole ?a__law_place_alike ?l__law_place_alike ?c__law_place_alike ?k__law_place_alike ?a_law ?l_law ?c_law ?k_law ?z_len ?z_range ?z_list ?z_tuple ?z_max ?z_min ?z_abs ?z_int ?z_bool ?z_isinstance ?z_sorted ?z_dict ?z_ValueError ?hSTEPS ?hS0 ?hS1 ?hS2 ?hS3 ?hS4 ?hS5 ?hS6 ?hFIGURES ?hFIGURES0 ?yn ?yt ?yg_FloorError ?yx_FloorError ?yk_FloorError ?yb_FloorError ?yt_FloorError ?yhg_FloorError ?yhk_FloorError ?yhd_FloorError ?yha_FloorError ?yhm_FloorError ?yv_FloorError ?yg_NoCell ?yx_NoCell ?yk_NoCell ?yb_NoCell ?yt_NoCell ?yhg_NoCell ?yhk_NoCell ?yhd_NoCell ?yha_NoCell ?yhm_NoCell ?yv_NoCell ?yg_NoFigure ?yx_NoFigure ?yk_NoFigure ?yb_NoFigure ?yt_NoFigure ?yhg_NoFigure ?yhk_NoFigure ?yhd_NoFigure ?yha_NoFigure ?yhm_NoFigure ?yv_NoFigure ?yg_NoLevel ?yx_NoLevel ?yk_NoLevel ?yb_NoLevel ?yt_NoLevel ?yhg_NoLevel ?yhk_NoLevel ?yhd_NoLevel ?yha_NoLevel ?yhm_NoLevel ?yv_NoLevel ?yg_Apart ?yx_Apart ?yk_Apart ?yb_Apart ?yt_Apart ?yhg_Apart ?yhk_Apart ?yhd_Apart ?yha_Apart ?yhm_Apart ?yv_Apart ?ys_Apart_Apart ?yi_Apart_Apart ?ys_Apart_FloorError ?yi_Apart_FloorError ?ys_Apart_NoCell ?yi_Apart_NoCell ?ys_Apart_NoFigure ?yi_Apart_NoFigure ?ys_Apart_NoLevel ?yi_Apart_NoLevel ?ys_FloorError_Apart ?yi_FloorError_Apart ?ys_FloorError_FloorError ?yi_FloorError_FloorError ?ys_FloorError_NoCell ?yi_FloorError_NoCell ?ys_FloorError_NoFigure ?yi_FloorError_NoFigure ?ys_FloorError_NoLevel ?yi_FloorError_NoLevel ?ys_NoCell_Apart ?yi_NoCell_Apart ?ys_NoCell_FloorError ?yi_NoCell_FloorError ?ys_NoCell_NoCell ?yi_NoCell_NoCell ?ys_NoCell_NoFigure ?yi_NoCell_NoFigure ?ys_NoCell_NoLevel ?yi_NoCell_NoLevel ?ys_NoFigure_Apart ?yi_NoFigure_Apart ?ys_NoFigure_FloorError ?yi_NoFigure_FloorError ?ys_NoFigure_NoCell ?yi_NoFigure_NoCell ?ys_NoFigure_NoFigure ?yi_NoFigure_NoFigure ?ys_NoFigure_NoLevel ?yi_NoFigure_NoLevel ?ys_NoLevel_Apart ?yi_NoLevel_Apart ?ys_NoLevel_FloorError ?yi_NoLevel_FloorError ?ys_NoLevel_NoCell ?yi_NoLevel_NoCell ?ys_NoLevel_NoFigure ?yi_NoLevel_NoFigure ?ys_NoLevel_NoLevel ?yi_NoLevel_NoLevel
    (case qC => k_is)
    (case qpg => k_is)
    (case qhd => k_is)
    (case qpo => k_is)
    (case qsa => k_is)
    (case qmk => k_is)
    (case qkc => k_is)
    (case qnL => k_is)
    (case qnN => k_is)
    (case a__law_cell_at => k_is)
    (case l__law_cell_at => k_is)
    (case c__law_cell_at => k_is)
    (case k__law_cell_at => k_is)
    (case a__law_rows => k_is)
    (case l__law_rows => k_is)
    (case c__law_rows => k_is)
    (case k__law_rows => k_is)
    (case a_see_figures => k_is)
    (case l_see_figures => k_is)
    (case c_see_figures => k_is)
    (case k_see_figures => k_is)
    (case a_lines_from => k_is)
    (case l_lines_from => k_is)
    (case c_lines_from => k_is)
    (case k_lines_from => k_is)
    (case a_Region___init__ => k_is)
    (case i_Region___init__ => k_is)
    (case l_Region___init__ => k_is)
    (case c_Region___init__ => k_is)
    (case k_Region___init__ => k_is)
    (case a__law_lines => k_is)
    (case l__law_lines => k_is)
    (case c__law_lines => k_is)
    (case k__law_lines => k_is)
    (case a__law_all => k_is)
    (case l__law_all => k_is)
    (case c__law_all => k_is)
    (case k__law_all => k_is)
    (case a__law_step => k_is)
    (case l__law_step => k_is)
    (case c__law_step => k_is)
    (case k__law_step => k_is)
    (case a__law_place_T => k_is)
    (case l__law_place_T => k_is)
    (case c__law_place_T => k_is)
    (case k__law_place_T => k_is)
    (case a__law_near => k_is)
    (case l__law_near => k_is)
    (case c__law_near => k_is)
    (case k__law_near => k_is)
    (case a_rest => k_is)
    (case l_rest => k_is)
    (case c_rest => k_is)
    (case k_rest => k_is)
    (case a_step => k_is)
    (case l_step => k_is)
    (case c_step => k_is)
    (case k_step => k_is)
    (case a_rest_place => k_is)
    (case l_rest_place => k_is)
    (case c_rest_place => k_is)
    (case k_rest_place => k_is)
    (case a_centre => k_is)
    (case l_centre => k_is)
    (case c_centre => k_is)
    (case k_centre => k_is)
    (case a_address => k_is)
    (case l_address => k_is)
    (case c_address => k_is)
    (case k_address => k_is)
    (case a_Region_holds => k_is)
    (case i_Region_holds => k_is)
    (case l_Region_holds => k_is)
    (case c_Region_holds => k_is)
    (case k_Region_holds => k_is)
    (case a_see_place_X => k_is)
    (case l_see_place_X => k_is)
    (case c_see_place_X => k_is)
    (case k_see_place_X => k_is)
    (case a_added_T => k_is)
    (case l_added_T => k_is)
    (case c_added_T => k_is)
    (case k_added_T => k_is)
    (case a_neighbours_T => k_is)
    (case l_neighbours_T => k_is)
    (case c_neighbours_T => k_is)
    (case k_neighbours_T => k_is)
    (case a_levels_X => k_is)
    (case l_levels_X => k_is)
    (case c_levels_X => k_is)
    (case k_levels_X => k_is)
    (case a_nearer => k_is)
    (case l_nearer => k_is)
    (case c_nearer => k_is)
    (case k_nearer => k_is)
    (case a_way_X => k_is)
    (case l_way_X => k_is)
    (case c_way_X => k_is)
    (case k_way_X => k_is)
    (case a__law_tried => k_is)
    (case l__law_tried => k_is)
    (case c__law_tried => k_is)
    (case k__law_tried => k_is)
    (case a__law_levels => k_is)
    (case l__law_levels => k_is)
    (case c__law_levels => k_is)
    (case k__law_levels => k_is)
    (case a__law_due => k_is)
    (case l__law_due => k_is)
    (case c__law_due => k_is)
    (case k__law_due => k_is)
    (case a__law_whole => k_is)
    (case l__law_whole => k_is)
    (case c__law_whole => k_is)
    (case k__law_whole => k_is)
    (case a__law_place_alike => k_is)
    (case l__law_place_alike => k_is)
    (case c__law_place_alike => k_is)
    (case k__law_place_alike => k_is)
    (case a_law => k_is)
    (case l_law => k_is)
    (case c_law => k_is)
    (case k_law => k_is)
    (case z_len => k_is)
    (case z_range => k_is)
    (case z_list => k_is)
    (case z_tuple => k_is)
    (case z_max => k_is)
    (case z_min => k_is)
    (case z_abs => k_is)
    (case z_int => k_is)
    (case z_bool => k_is)
    (case z_isinstance => k_is)
    (case z_sorted => k_is)
    (case z_dict => k_is)
    (case z_ValueError => k_is)
    (case hSTEPS => k_is)
    (case hS0 => k_is)
    (case hS1 => k_is)
    (case hS2 => k_is)
    (case hS3 => k_is)
    (case hS4 => k_is)
    (case hS5 => k_is)
    (case hS6 => k_is)
    (case hFIGURES => k_is)
    (case hFIGURES0 => k_is)
    (case yn => k_is)
    (case yt => k_is)
    (case yg_FloorError => k_is)
    (case yx_FloorError => k_exc)
    (case yk_FloorError => k_is)
    (case yb_FloorError => k_is)
    (case yt_FloorError => k_is)
    (case yhg_FloorError => k_is)
    (case yhk_FloorError => k_is)
    (case yhd_FloorError => k_is)
    (case yha_FloorError => k_is)
    (case yhm_FloorError => k_is)
    (case yv_FloorError => first | k_is | rfl)
    (case yg_NoCell => k_is)
    (case yx_NoCell => k_exc)
    (case yk_NoCell => k_is)
    (case yb_NoCell => k_is)
    (case yt_NoCell => k_is)
    (case yhg_NoCell => k_is)
    (case yhk_NoCell => k_is)
    (case yhd_NoCell => k_is)
    (case yha_NoCell => k_is)
    (case yhm_NoCell => k_is)
    (case yv_NoCell => first | k_is | rfl)
    (case yg_NoFigure => k_is)
    (case yx_NoFigure => k_exc)
    (case yk_NoFigure => k_is)
    (case yb_NoFigure => k_is)
    (case yt_NoFigure => k_is)
    (case yhg_NoFigure => k_is)
    (case yhk_NoFigure => k_is)
    (case yhd_NoFigure => k_is)
    (case yha_NoFigure => k_is)
    (case yhm_NoFigure => k_is)
    (case yv_NoFigure => first | k_is | rfl)
    (case yg_NoLevel => k_is)
    (case yx_NoLevel => k_exc)
    (case yk_NoLevel => k_is)
    (case yb_NoLevel => k_is)
    (case yt_NoLevel => k_is)
    (case yhg_NoLevel => k_is)
    (case yhk_NoLevel => k_is)
    (case yhd_NoLevel => k_is)
    (case yha_NoLevel => k_is)
    (case yhm_NoLevel => k_is)
    (case yv_NoLevel => first | k_is | rfl)
    (case yg_Apart => k_is)
    (case yx_Apart => k_exc)
    (case yk_Apart => k_is)
    (case yb_Apart => k_is)
    (case yt_Apart => k_is)
    (case yhg_Apart => k_is)
    (case yhk_Apart => k_is)
    (case yhd_Apart => k_is)
    (case yha_Apart => k_is)
    (case yhm_Apart => k_is)
    (case yv_Apart => first | k_is | rfl)
    (case ys_Apart_Apart => first | k_is | rfl)
    (case yi_Apart_Apart => first | k_is | rfl)
    (case ys_Apart_FloorError => first | k_is | rfl)
    (case yi_Apart_FloorError => first | k_is | rfl)
    (case ys_Apart_NoCell => first | k_is | rfl)
    (case yi_Apart_NoCell => first | k_is | rfl)
    (case ys_Apart_NoFigure => first | k_is | rfl)
    (case yi_Apart_NoFigure => first | k_is | rfl)
    (case ys_Apart_NoLevel => first | k_is | rfl)
    (case yi_Apart_NoLevel => first | k_is | rfl)
    (case ys_FloorError_Apart => first | k_is | rfl)
    (case yi_FloorError_Apart => first | k_is | rfl)
    (case ys_FloorError_FloorError => first | k_is | rfl)
    (case yi_FloorError_FloorError => first | k_is | rfl)
    (case ys_FloorError_NoCell => first | k_is | rfl)
    (case yi_FloorError_NoCell => first | k_is | rfl)
    (case ys_FloorError_NoFigure => first | k_is | rfl)
    (case yi_FloorError_NoFigure => first | k_is | rfl)
    (case ys_FloorError_NoLevel => first | k_is | rfl)
    (case yi_FloorError_NoLevel => first | k_is | rfl)
    (case ys_NoCell_Apart => first | k_is | rfl)
    (case yi_NoCell_Apart => first | k_is | rfl)
    (case ys_NoCell_FloorError => first | k_is | rfl)
    (case yi_NoCell_FloorError => first | k_is | rfl)
    (case ys_NoCell_NoCell => first | k_is | rfl)
    (case yi_NoCell_NoCell => first | k_is | rfl)
    (case ys_NoCell_NoFigure => first | k_is | rfl)
    (case yi_NoCell_NoFigure => first | k_is | rfl)
    (case ys_NoCell_NoLevel => first | k_is | rfl)
    (case yi_NoCell_NoLevel => first | k_is | rfl)
    (case ys_NoFigure_Apart => first | k_is | rfl)
    (case yi_NoFigure_Apart => first | k_is | rfl)
    (case ys_NoFigure_FloorError => first | k_is | rfl)
    (case yi_NoFigure_FloorError => first | k_is | rfl)
    (case ys_NoFigure_NoCell => first | k_is | rfl)
    (case yi_NoFigure_NoCell => first | k_is | rfl)
    (case ys_NoFigure_NoFigure => first | k_is | rfl)
    (case yi_NoFigure_NoFigure => first | k_is | rfl)
    (case ys_NoFigure_NoLevel => first | k_is | rfl)
    (case yi_NoFigure_NoLevel => first | k_is | rfl)
    (case ys_NoLevel_Apart => first | k_is | rfl)
    (case yi_NoLevel_Apart => first | k_is | rfl)
    (case ys_NoLevel_FloorError => first | k_is | rfl)
    (case yi_NoLevel_FloorError => first | k_is | rfl)
    (case ys_NoLevel_NoCell => first | k_is | rfl)
    (case yi_NoLevel_NoCell => first | k_is | rfl)
    (case ys_NoLevel_NoFigure => first | k_is | rfl)
    (case yi_NoLevel_NoFigure => first | k_is | rfl)
    (case ys_NoLevel_NoLevel => first | k_is | rfl)
    (case yi_NoLevel_NoLevel => first | k_is | rfl)
