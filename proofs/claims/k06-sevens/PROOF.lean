import PyProof.Rows.All
import Wide.All
import OpenK.AllK
import Wide.FinOn
import HandS.ForMost
import HandS.ForExc
import HandS.IsInst
import HandS.Conv
import HandS.Wide
import HandS.Deep
import HandS.TupAny
import HandS.TupLen
import HandS.Walk
import PySem.Challenge.RW_hexaddress_k06_sevens
set_option Elab.async false
set_option linter.all false
set_option maxRecDepth 100000
set_option maxHeartbeats 4000000
/-! # the base: what every def's proof leans on (no row in sight) -/
namespace Hx
open PySem PySem.Spec PyProof.Rows L2

/-- a def as it stands behind the top: its body, its name in the module, how its arguments bind -/
structure Fn (K : PySem.W.Frag) (mg : Str → Option Value) (x qual : Str) (st : Stmt) (ps : List Str) : Prop where
  ex : ∃ (f : Addr) (fd : FuncData), Fun K x qual st f fd ∧ mg x = some (.ref f) ∧ Binds K fd ps []
/-- a def that keeps its promise, as a caller wants it -/
structure Ref (P : Program) (w : World) (K : PySem.W.Frag) (mg : Str → Option Value) (base : Heap) (CX : CXT) (k : Nat) (x : Str) (ps : List Str) (sp : Sp) : Prop where
  ex : ∃ (f : Addr) (fd : FuncData), FnOk P w K mg base CX k f fd ps sp ∧ mg x = some (.ref f) ∧ PySem.W.keepIn K (.ref f) = true ∧ Binds K fd ps []
section
variable {P : Program} {w : World} {K : PySem.W.Frag} {mg : Str → Option Value} {base : Heap}
theorem Fn.ok {x qual : Str} {st : Stmt} {N ps : List Str} {k : Nat} {sp : Sp} (F : Fn K mg x qual st ps) (S : FnScope N ps (defScope st)) (len : ∀ vs H Q E, sp vs H Q E → vs.length = ps.length)
    (hbody : ∀ (f : Addr) (cdv : Value) (A : Around) (outer : List Env) (s : Shared) (H : Hp) (vs : List V) (Q : VK) (E : XK), Room k (A.deeper (envOfC qual (defScope st) s.heap.objs.size f cdv)) → sp vs H Q E →
      ∃ t, PSs (cxOf CX0 P w K mg base N qual (defScope st) f cdv A outer s H E).nox (defBody st) t ∧ t { nx := fun _ H' => Q .non H', rt := Q } (start N vs) H) : Ref P w K mg base CX0 (k + 1) x ps sp := by
  obtain ⟨f, fd, F, g, b⟩ := F.ex
  exact ⟨f, fd, F.ok S len (hbody f), g, F.kp, b⟩
theorem Fn.okX {x qual : Str} {st : Stmt} {N ps : List Str} {k : Nat} {sp : Sp} (F : Fn K mg x qual st ps) (S : FnScope N ps (defScope st)) (len : ∀ vs H Q E, sp vs H Q E → vs.length = ps.length)
    (hbody : ∀ (f : Addr) (cdv : Value) (A : Around) (outer : List Env) (s : Shared) (H : Hp) (vs : List V) (Q : VK) (E : XK), Room k (A.deeper (envOfC qual (defScope st) s.heap.objs.size f cdv)) → sp vs H Q E →
      ∃ t, PSs (cxOf (L2.CX P w) P w K mg base N qual (defScope st) f cdv A outer s H E) (defBody st) t ∧ t { nx := fun _ H' => Q .non H', rt := Q } (start N vs) H) : Ref P w K mg base (L2.CX P w) (k + 1) x ps sp := by
  obtain ⟨f, fd, F, g, b⟩ := F.ex
  exact ⟨f, fd, F.okX S len (hbody f), g, F.kp, b⟩
theorem Ref.imp {CX : CXT} {k : Nat} {x : Str} {ps : List Str} {sp sp' : Sp} (R : Ref P w K mg base CX k x ps sp) (h : ∀ vs H Q E, sp' vs H Q E → sp vs H Q E) : Ref P w K mg base CX k x ps sp' := by
  obtain ⟨f, fd, F, r⟩ := R.ex
  exact ⟨f, fd, F.imp h, r⟩
theorem Ref.mono {CX : CXT} {j k : Nat} {x : Str} {ps : List Str} {sp : Sp} (R : Ref P w K mg base CX j x ps sp) (h : j ≤ k) : Ref P w K mg base CX k x ps sp := by
  obtain ⟨f, fd, F, r⟩ := R.ex
  exact ⟨f, fd, F.mono h, r⟩
end
section
variable {X : Cx} {k : Nat} {x : Str} {ps : List Str} {sp : Sp} {p pos : Pos} {e : Expr} {es : List Expr} {t : TA}
theorem pe_fn (R : Ref X.prog X.w X.K X.mg X.base CX0 k x ps sp) (hr : Room k X.A) (ha : PA X (e :: es) t) (hg : Gl X x := by rfl) (hdb : (x == ("__debug__" : Str)) = false := by decide)
    (he : starEach (e :: es) X.env = (false, eval e X.env) :: starEach es X.env := by rfl) (hpl : (backTo pos (starEach es X.env)).any (·.1) = false := by rfl) : PE X (.Call (.Name x p) (e :: es) [] pos) (tCall sp [] E0 t) := by
  obtain ⟨f, fd, F, g, kp, b⟩ := R.ex
  exact pe_call F hr hg g kp b .nil pass0 ha hdb he hpl
theorem pe_fn0 (R : Ref X.prog X.w X.K X.mg X.base CX0 k x ps sp) (hr : Room k X.A) (hg : Gl X x := by rfl) (hdb : (x == ("__debug__" : Str)) = false := by decide) : PE X (.Call (.Name x p) [] [] pos) (tCall sp [] E0 tNil) := by
  obtain ⟨f, fd, F, g, kp, b⟩ := R.ex
  exact pe_call0 F hr hg g kp b .nil pass0 hdb
end
/-- the built-in names are as Python has them -/
structure Tx (mg : Str → Option Value) : Prop where
  b_len : mg "len" = none
  b_range : mg "range" = none
  b_list : mg "list" = none
  b_tuple : mg "tuple" = none
  b_max : mg "max" = none
  b_min : mg "min" = none
  b_abs : mg "abs" = none
  b_int : mg "int" = none
  b_bool : mg "bool" = none
  b_isinstance : mg "isinstance" = none
  b_sorted : mg "sorted" = none
  b_dict : mg "dict" = none
  b_ValueError : mg "ValueError" = none

/-! ### heaps that grow -/
theorem _root_.L2.Same.seqT {K : PySem.W.Frag} {H H' : Hp} {a : Addr} {xs : List V} (e : Same H H') (h : SqT K H a xs) : SqT K H' a xs := by
  rcases h with (h | ⟨o, h⟩) | h
  · exact .inl (.inl (e _ _ h))
  · exact .inl (.inr ⟨o, e _ _ h⟩)
  · exact .inr h
theorem same_new {H : Hp} {p : Addr} {o : HO} (h : H p = none) : Same H (upd H p o) := fun b x e => by
  rw [upd_ne (ne_of_none e h)]
  exact e
/-- what H knows stays where another object, that H does not know, is changed -/
theorem _root_.L2.Same.mut {H H' : Hp} {p : Addr} {o : HO} (e : Same H H') (h : H p = none) : Same H (upd H' p o) := fun a u ha => by
  rw [upd_ne (ne_of_none ha h)]
  exact e a u ha
theorem SqT_putr {K : PySem.W.Frag} {H : Hp} {a p : Addr} {xs ys : List V} {o : HO} (hp : H p = some (.lst ys)) (h : SqT K H a xs) : SqT K (upd H p o) a xs := by
  rcases h with (h | ⟨ob, h⟩) | h
  · refine .inl (.inl ?_)
    rw [upd_ne (ne_of h hp (by intro z; cases z))]
    exact h
  · refine .inl (.inr ⟨ob, ?_⟩)
    rw [upd_ne (ne_of h hp (by intro z; cases z))]
    exact h
  · exact .inr h
theorem SqT_put {K : PySem.W.Frag} {H : Hp} {a p : Addr} {xs ys : List V} {o : HO} (h : SqT K H a xs) (hp : H p = some (.lst ys)) : SqT K (upd H p o) a xs := by
  rcases h with (h | ⟨ob, h⟩) | h
  · refine .inl (.inl ?_)
    rw [upd_ne (ne_of h hp (by intro z; cases z))]
    exact h
  · refine .inl (.inr ⟨ob, ?_⟩)
    rw [upd_ne (ne_of h hp (by intro z; cases z))]
    exact h
  · exact .inr h
theorem sqL_new {K : PySem.W.Frag} {H : Hp} {a : Addr} {xs : List V} : SqL K (upd H a (.lst xs)) a xs := .inl (.inl upd_same)
theorem sqT_new {K : PySem.W.Frag} {H : Hp} {a : Addr} {xs : List V} : SqT K (upd H a (.tup xs)) a xs := .inl (.inl upd_same)

/-! ### places -/
/-- v is the tuple of the place -/
def Pl (K : PySem.W.Frag) (H : Hp) (v : V) (p : Int × Int) : Prop := ∃ a, v = .ref a ∧ SqT K H a [.int p.1, .int p.2]
theorem Pl.same {K : PySem.W.Frag} {H H' : Hp} {v : V} {p : Int × Int} (h : Pl K H v p) (e : Same H H') : Pl K H' v p := by
  obtain ⟨a, rfl, h⟩ := h
  exact ⟨a, rfl, e.seqT h⟩
theorem Pl.sm {K : PySem.W.Frag} {H H' : Hp} {v : V} {p : Int × Int} (e : Same H H') (h : Pl K H v p) : Pl K H' v p := h.same e
theorem Pl.put {K : PySem.W.Frag} {H : Hp} {v : V} {p : Int × Int} {q : Addr} {ys : List V} {o : HO} (h : Pl K H v p) (hq : H q = some (.lst ys)) : Pl K (upd H q o) v p := by
  obtain ⟨a, rfl, h⟩ := h
  exact ⟨a, rfl, SqT_put h hq⟩
theorem Pl.putr {K : PySem.W.Frag} {H : Hp} {v : V} {p : Int × Int} {q : Addr} {ys : List V} {o : HO} (hq : H q = some (.lst ys)) (h : Pl K H v p) : Pl K (L2.upd H q o) v p := h.put hq
theorem Pl.new {K : PySem.W.Frag} {H : Hp} {a : Addr} {q r : Int} : Pl K (upd H a (.tup [.int q, .int r])) (.ref a) (q, r) := ⟨a, rfl, sqT_new⟩
end Hx
namespace Hx
open PySem PySem.Spec PyProof.Rows L2
/-! ### lists of places, the constants of the module -/
abbrev Pls (K : PySem.W.Frag) (H : Hp) : List V → List (Int × Int) → Prop := Paired fun v p => Pl K H v p
theorem pr_len {α β : Type} {R : α → β → Prop} : ∀ {xs : List α} {ys : List β}, Paired R xs ys → xs.length = ys.length
  | _, _, .nil => rfl
  | _, _, .cons _ t => by rw [List.length_cons, List.length_cons, pr_len t]
theorem pr_get {α β : Type} {R : α → β → Prop} : ∀ {xs : List α} {ys : List β} {i : Nat} {x : α}, Paired R xs ys → xs[i]? = some x → ∃ y, ys[i]? = some y ∧ R x y
  | _, _, _, _, .nil, h => by simp at h
  | _, _, 0, _, .cons r _, h => by
    simp at h
    subst h
    exact ⟨_, rfl, r⟩
  | _, _, i + 1, _, .cons _ t, h => by
    obtain ⟨y, h1, h2⟩ := pr_get (i := i) t (by simpa using h)
    exact ⟨y, by simpa using h1, h2⟩
theorem pr_get' {α β : Type} {R : α → β → Prop} : ∀ {xs : List α} {ys : List β} {i : Nat} {y : β}, Paired R xs ys → ys[i]? = some y → ∃ x, xs[i]? = some x ∧ R x y
  | _, _, _, _, .nil, h => by simp at h
  | _, _, 0, _, .cons r _, h => by
    simp at h
    subst h
    exact ⟨_, rfl, r⟩
  | _, _, i + 1, _, .cons _ t, h => by
    obtain ⟨y, h1, h2⟩ := pr_get' (i := i) t (by simpa using h)
    exact ⟨y, by simpa using h1, h2⟩
theorem pr_mono {α β : Type} {R S : α → β → Prop} (f : ∀ a b, R a b → S a b) : ∀ {xs : List α} {ys : List β}, Paired R xs ys → Paired S xs ys
  | _, _, .nil => .nil
  | _, _, .cons r t => .cons (f _ _ r) (pr_mono f t)
theorem pr_snoc {α β : Type} {R : α → β → Prop} {x : α} {y : β} : ∀ {xs : List α} {ys : List β}, Paired R xs ys → R x y → Paired R (xs ++ [x]) (ys ++ [y])
  | _, _, .nil, h => .cons h .nil
  | _, _, .cons r t, h => .cons r (pr_snoc t h)
theorem pr_app {α β : Type} {R : α → β → Prop} : ∀ {xs xs' : List α} {ys ys' : List β}, Paired R xs ys → Paired R xs' ys' → Paired R (xs ++ xs') (ys ++ ys')
  | _, _, _, _, .nil, h => h
  | _, _, _, _, .cons r t, h => .cons r (pr_app t h)
theorem Pls.same {K : PySem.W.Frag} {H H' : Hp} {vs : List V} {ps : List (Int × Int)} (h : Pls K H vs ps) (e : Same H H') : Pls K H' vs ps := pr_mono (fun _ _ x => x.same e) h
theorem Pls.put {K : PySem.W.Frag} {H : Hp} {vs : List V} {ps : List (Int × Int)} {q : Addr} {ys : List V} {o : HO} (h : Pls K H vs ps) (hq : H q = some (.lst ys)) : Pls K (L2.upd H q o) vs ps := pr_mono (fun _ _ x => x.put hq) h
def steps : List (Int × Int) := [(1, 0), (0, 1), (-1, 1), (-1, 0), (0, -1), (1, -1)]
def figs : List Int := [0, 1, 5, 6, 3, 2, 4]
def sides : List Int := [3, 4, 5, 6, 1, 2]
def G_STEPS (K : PySem.W.Frag) (a : Addr) : Prop := ∃ vs : List V, (∀ H, SqT K H a vs) ∧ ∀ H, Pls K H vs steps
def G_FIGURES (K : PySem.W.Frag) (a : Addr) : Prop := ∀ H, SqT K H a (figs.map V.int)
def G_SIDES (K : PySem.W.Frag) (a : Addr) : Prop := ∀ H, SqT K H a (sides.map V.int)
theorem written2 {K : PySem.W.Frag} {b : Addr} {d : Option Addr} {n : Nat} {sl : Array (Option Value)} {i j : Int} {t u : Tok} (h : K.lookup b = some ⟨.type "tuple", d, .seq #[.int i t, .int j u] n, sl⟩) (H : Hp) : Pl K H (.ref b) (i, j) :=
  ⟨b, rfl, .inr ⟨_, _, _, h, rfl, rfl, by show 2 ≤ sizeLine; decide, .cons ⟨t, rfl⟩ (.cons ⟨u, rfl⟩ .nil)⟩⟩
/-! ### readings by name -/
def rLen (K : PySem.W.Frag) : List V → Hp → VK → Prop := fun xs H Q => ∃ p ys, xs = [.ref p] ∧ (SqL K H p ys ∨ SqT K H p ys) ∧ Q (.int ys.length) H
def rList (K : PySem.W.Frag) : List V → Hp → VK → Prop := fun xs H Q => ∃ p ys, xs = [.ref p] ∧ (SqL K H p ys ∨ SqT K H p ys) ∧ ∀ l, H l = none → Q (.ref l) (upd H l (.lst ys))
def rTuple (K : PySem.W.Frag) : List V → Hp → VK → Prop := fun xs H Q => ∃ p ys, xs = [.ref p] ∧ ((SqL K H p ys ∧ ∀ l, H l = none → Q (.ref l) (upd H l (.tup ys))) ∨ (SqT K H p ys ∧ Q (.ref p) H))
def rMax2 : List V → Hp → VK → Prop := fun xs H Q => ∃ i j, xs = [.int i, .int j] ∧ Q (.int (if j > i then j else i)) H
def rMin2 : List V → Hp → VK → Prop := fun xs H Q => ∃ i j, xs = [.int i, .int j] ∧ Q (.int (if j < i then j else i)) H
def rAbs : List V → Hp → VK → Prop := fun xs H Q => ∃ i, xs = [.int i] ∧ Q (.int (if i < 0 then -i else i)) H
def rInt1 : List V → Hp → VK → Prop := fun xs H Q => (∃ i, xs = [.int i] ∧ Q (.int i) H) ∨ ∃ k, xs = [.bl k] ∧ Q (.int (if k then 1 else 0)) H
section
variable {X : Cx}
theorem cl_len : CallR X (.builtin "len") (rLen X.K) := call_len_seq
theorem cl_list : CallR X (.type "list") (rList X.K) := call_list_of
theorem cl_tuple : CallR X (.type "tuple") (rTuple X.K) := call_tuple_of
theorem cl_max2 (hc : X.calm = true) : CallR X (.builtin "max") rMax2 := call_max2 hc
theorem cl_min2 (hc : X.calm = true) : CallR X (.builtin "min") rMin2 := call_min2 hc
theorem cl_abs : CallR X (.builtin "abs") rAbs := call_abs
theorem cl_int : CallR X (.type "int") rInt1 := call_int1
end
def dispT (xs : List V) (H : Hp) (Q : VK) : Prop := xs.length ≤ sizeLine ∧ ∀ p, H p = none → Q (.ref p) (upd H p (.tup xs))
def dispL (xs : List V) (H : Hp) (Q : VK) : Prop := xs.length ≤ sizeLine ∧ ∀ p, H p = none → Q (.ref p) (upd H p (.lst xs))
def rng1 (R : It → Hp → Prop) (vs : List V) (H : Hp) : Prop := ∃ j : Int, vs = [.int j] ∧ -(2 ^ 62) ≤ j ∧ j < 2 ^ 62 ∧ R (Itr 0 j.toNat) H
def rng2 (R : It → Hp → Prop) (vs : List V) (H : Hp) : Prop := ∃ i j : Int, vs = [.int i, .int j] ∧ (-(2 ^ 62) ≤ i ∧ i < 2 ^ 62 ∧ -(2 ^ 62) ≤ j ∧ j < 2 ^ 62) ∧ R (Itr i (j - i).toNat) H
def itLst (K : PySem.W.Frag) (R : It → Hp → Prop) (x : V) (H : Hp) : Prop := ∃ a, x = .ref a ∧ (∃ xs, SqL K H a xs) ∧ R (Itl K a) H
def itTup (K : PySem.W.Frag) (R : It → Hp → Prop) (x : V) (H : Hp) : Prop := ∃ a, x = .ref a ∧ (∃ xs, SqT K H a xs) ∧ R (Itt K a) H
/-- what a for asks of its iterator -/
def forR (g : TG) (tb : TS) (D : Ends) (σ : L2.St) (J : It) (H1 : Hp) : Prop := ∃ W : Nat → Nat → L2.St → Hp → Prop, (∃ m, W 0 m σ H1) ∧ ∀ i m σ H, W i m σ H →
  (J.stop i H ∧ D.nx σ H) ∨ (J.go i H ∧ ∃ N : L2.St → Hp → Prop, (∀ σ' H', N σ' H' → ∃ m', m' < m ∧ W (i + 1) m' σ' H') ∧ ∀ x H', J.yld i H x H' → g x σ H' fun σ2 H2 => tb { D with nx := N, ct := N, bk := D.nx } σ2 H2)
/-- what a comprehension asks of its iterator -/
def lcR (g : TG) (tt : TT) (te : TE) (vs : List Nat) (σ : L2.St) (Q : VK) (J : It) (H1 : Hp) : Prop := ∀ D, H1 D = none → ∃ W : Nat → Nat → Hp → Prop, (∃ m, W 0 m (upd H1 D (.lst []))) ∧ ∀ i m H, W i m H →
  (J.stop i H ∧ Q (.ref D) H) ∨ (J.go i H ∧ ∃ Nx : Hp → Prop, (∀ H', Nx H' → ∃ m', m' < m ∧ W (i + 1) m' H') ∧ ∀ x H', J.yld i H x H' → g x (wipe σ vs) H' fun σ2 H2 => wipe σ2 vs = wipe σ vs ∧ tt σ2 H2 fun b H3 =>
    if b = true then te σ2 H3 fun y H4 => ∃ acc, H4 D = some (.lst acc) ∧ acc.length < sizeLine ∧ Nx (upd H4 D (.lst (acc ++ [y]))) else Nx H3)
/-- the new item of a comprehension goes onto its list -/
def lcAdd (D : Addr) (Nx : Hp → Prop) (y : V) (H : Hp) : Prop := ∃ acc, H D = some (.lst acc) ∧ acc.length < sizeLine ∧ Nx (upd H D (.lst (acc ++ [y])))
def lcPut (te : TE) (D : Addr) (Nx : Hp → Prop) (σ : L2.St) (b : Bool) (H : Hp) : Prop := if b = true then te σ H fun y H4 => lcAdd D Nx y H4 else Nx H
/-- what a while's test's answer asks -/
def whR (tb : TS) (D : Ends) (W : Nat → L2.St → Hp → Prop) (m : Nat) (σ : L2.St) (b : Bool) (H1 : Hp) : Prop :=
  if b = true then ∃ N : L2.St → Hp → Prop, (∀ σ' H', N σ' H' → ∃ m', m' < m ∧ W m' σ' H') ∧ tb { D with nx := N, ct := N, bk := D.nx } σ H1 else D.nx σ H1
/-! ### the readings, step by step -/
section
variable {K : PySem.W.Frag} {D : Ends} {σ : L2.St} {H : Hp} {Q : VK} {B : Bool → Hp → Prop} {v x y : V} {ta tb te : TE} {tl tr : TA} {t u : TS} {c c' : TT} {i : Nat} {b : Bool}
theorem w_seq (h : t { D with nx := u D } σ H) : tSeq t u D σ H := h
theorem w_next (h : D.nx σ H) : tNext D σ H := h
theorem w_cont (h : D.ct σ H) : tCont D σ H := h
theorem w_break (h : D.bk σ H) : tBreak D σ H := h
theorem w_ret (h : te σ H D.rt) : tRet te D σ H := h
theorem w_retN (h : D.rt .non H) : tRetN D σ H := h
theorem w_asg {g : TG} (h : te σ H fun x H1 => g x σ H1 D.nx) : tAsg te g D σ H := h
theorem w_drop (h : te σ H fun _ H1 => D.nx σ H1) : tDrop te D σ H := h
theorem w_ifS (h : c σ H fun b H1 => if b = true then t D σ H1 else u D σ H1) : tIfS c t u D σ H := h
theorem w_gName {R : L2.St → Hp → Prop} (h : R (σ.set i (some v)) H) : gName i v σ H R := h
theorem w_var (h : σ[i]? = some (some v)) (q : Q v H) : tVar i σ H Q := ⟨v, h, q⟩
theorem w_c (q : Q v H) : tC v σ H Q := q
theorem w_op {r : R2} (h : ta σ H fun x H1 => tb σ H1 fun y H2 => r x y H2 Q) : tOp r ta tb σ H Q := h
theorem w_un {r : V → Hp → VK → Prop} (h : ta σ H fun x H1 => r x H1 Q) : tUn r ta σ H Q := h
theorem w_nil {R : List V → Hp → Prop} (h : R [] H) : tNil σ H R := h
theorem w_cons {R : List V → Hp → Prop} (h : te σ H fun x H1 => tl σ H1 fun xs H2 => R (x :: xs) H2) : tCons te tl σ H R := h
theorem w_tTup (h : tl σ H fun xs H1 => dispT xs H1 Q) : tTup tl σ H Q := h
theorem w_tLst (h : tl σ H fun xs H1 => dispL xs H1 Q) : tLst tl σ H Q := h
theorem w_dispT {xs : List V} (z : xs.length ≤ 1000) (h : ∀ p, H p = none → Q (.ref p) (upd H p (.tup xs))) : dispT xs H Q := ⟨Nat.le_of_lt (small1000 z), h⟩
theorem w_dispL {xs : List V} (z : xs.length ≤ 1000) (h : ∀ p, H p = none → Q (.ref p) (upd H p (.lst xs))) : dispL xs H Q := ⟨Nat.le_of_lt (small1000 z), h⟩
theorem w_call {sp : Sp} {E : XK} (h : tl σ H fun vs H1 => sp vs H1 Q E) : tCall sp [] E tl σ H Q := by
  show tl σ H fun vs H1 => sp (vs ++ []) H1 Q E
  simp only [List.append_nil]
  exact h
theorem w_CB {r : List V → Hp → VK → Prop} (h : tl σ H fun vs H1 => r vs H1 Q) : tCB r tl σ H Q := h
theorem w_test (h : te σ H fun x H' => ∃ k, x = .bl k ∧ B k H') : tTest te σ H B := h
theorem w_tB (h : te σ H fun x H' => ∃ k, x = .bl k ∧ B k H') : tB te σ H B := h
theorem w_blk {b : Bool} {B : Bool → Prop} (h : B b) : ∃ k, V.bl b = .bl k ∧ B k := ⟨b, rfl, h⟩
theorem w_and (h : c σ H fun b H1 => if b = true then c' σ H1 B else B false H1) : tAnd c c' σ H B := h
theorem w_or (h : c σ H fun b H1 => if b = true then B true H1 else c' σ H1 B) : tOr c c' σ H B := h
theorem w_not (h : c σ H fun b H1 => B (!b) H1) : tNot c σ H B := h
theorem w_andV (h : ta σ H fun x H1 => ∃ c, x = .bl c ∧ if c = true then tb σ H1 Q else Q (.bl false) H1) : tAndV ta tb σ H Q := h
theorem w_orV (h : ta σ H fun x H1 => ∃ c, x = .bl c ∧ if c = true then Q (.bl true) H1 else tb σ H1 Q) : tOrV ta tb σ H Q := h
theorem w_notV (h : ta σ H fun x H1 => ∃ c, x = .bl c ∧ Q (.bl (!c)) H1) : tNotV ta σ H Q := h
theorem w_ifV (h : c σ H fun b H1 => if b = true then ta σ H1 Q else tb σ H1 Q) : tIf c ta tb σ H Q := h
theorem w_chain {r r' : R2} {tc : TE} (h : ta σ H fun x H1 => tb σ H1 fun y H2 => r x y H2 fun z H3 => ∃ k, z = .bl k ∧ (if k = true then tc σ H3 fun w H4 => r' y w H4 Q else Q (.bl false) H3)) : tChain r r' ta tb tc σ H Q := h
theorem w_BM0 {T : String} {r : V → List V → Hp → VK → Prop} (h : te σ H fun x H1 => tyV K T x H1 ∧ r x [] H1 Q) : tBM0 K T r te σ H Q := h
theorem w_BM {T : String} {r : V → List V → Hp → VK → Prop} (h : te σ H fun x H1 => tyV K T x H1 ∧ tl σ H1 fun xs H2 => r x xs H2 Q) : tBM K T r te tl σ H Q := h
theorem w_tyL {a : Addr} {xs : List V} {R : Prop} (h : SqL K H a xs) (q : R) : tyV K "list" (.ref a) H ∧ R := ⟨.inl ⟨rfl, xs, h⟩, q⟩
theorem r_append {a : Addr} {xs : List V} (h : H a = some (.lst xs)) (z : xs.length ≤ 100000) (q : Q .non (upd H a (.lst (xs ++ [v])))) : rAppend (.ref a) [v] H Q := ⟨a, xs, v, rfl, rfl, h, Nat.lt_of_le_of_lt z (by decide), q⟩
theorem r_reverse {a : Addr} {xs : List V} (h : H a = some (.lst xs)) (q : Q .non (upd H a (.lst xs.reverse))) : rReverse (.ref a) [] H Q := ⟨a, xs, rfl, rfl, h, q⟩
theorem r_clear {a : Addr} {xs : List V} (h : H a = some (.lst xs)) (q : Q .non (upd H a (.lst []))) : rClear (.ref a) [] H Q := ⟨a, xs, rfl, rfl, h, q⟩
theorem r_cat {a b : Addr} {xs ys : List V} (h : H a = some (.lst xs)) (h' : H b = some (.lst ys)) (z : xs.length + ys.length ≤ 100000) (q : ∀ p, H p = none → Q (.ref p) (upd H p (.lst (xs ++ ys)))) : rCat (.ref a) (.ref b) H Q := ⟨a, b, xs, ys, rfl, rfl, h, h', Nat.le_trans z (by decide), q⟩
theorem w_fld {f : Str} (h : te σ H fun x H1 => ∃ a C dx fs v, x = .ref a ∧ H1 a = some (.ins C dx fs) ∧ Cls K C ∧ NoAttr K C f ∧ fs.lookup f = some v ∧ Q v H1) : tFld K te f σ H Q := h
theorem w_for {wi : TI} {g : TG} {tb : TS} (h : wi σ H fun J H1 => forR g tb D σ J H1) : tFor wi g tb D σ H := h
theorem w_rng1 {ta : TA} {R : It → Hp → Prop} (h : ta σ H fun vs H1 => rng1 R vs H1) : iRng1 ta σ H R := h
theorem w_rng2 {ta : TA} {R : It → Hp → Prop} (h : ta σ H fun vs H1 => rng2 R vs H1) : iRng2 ta σ H R := h
theorem w_iList {R : It → Hp → Prop} (h : te σ H fun x H1 => itLst K R x H1) : iList K te σ H R := h
theorem w_iTup {R : It → Hp → Prop} (h : te σ H fun x H1 => itTup K R x H1) : iTup K te σ H R := h
theorem r_rng1 {R : It → Hp → Prop} {n : Int} (h1 : -1000000000 ≤ n) (h2 : n ≤ 1000000000) (h : R (Itr 0 n.toNat) H) : rng1 R [.int n] H := ⟨n, rfl, by omega, by omega, h⟩
theorem r_rng2 {R : It → Hp → Prop} {i n : Int} (h1 : -1000000000 ≤ i ∧ i ≤ 1000000000) (h2 : -1000000000 ≤ n ∧ n ≤ 1000000000) (h : R (Itr i (n - i).toNat) H) : rng2 R [.int i, .int n] H := ⟨i, n, rfl, by omega, h⟩
theorem r_iList {R : It → Hp → Prop} {a : Addr} {xs : List V} (hs : SqL K H a xs) (h : R (Itl K a) H) : itLst K R (.ref a) H := ⟨a, rfl, ⟨xs, hs⟩, h⟩
theorem r_iTup {R : It → Hp → Prop} {a : Addr} {xs : List V} (hs : SqT K H a xs) (h : R (Itt K a) H) : itTup K R (.ref a) H := ⟨a, rfl, ⟨xs, hs⟩, h⟩
theorem w_lc {wi : TI} {g : TG} {tt : TT} {vs : List Nat} (h : wi σ H fun J H1 => lcR g tt te vs σ Q J H1) : tLc wi g tt te vs σ H Q := h
/-- the loops: Pv by the turn, the slots, the heap -/
theorem f_list {a : Addr} {xs : List V} {g : TG} {tb : TS} (Pv : Nat → L2.St → Hp → Prop) (h0 : Pv 0 σ H) (hl : ∀ i σ H, i ≤ xs.length → Pv i σ H → SqL K H a xs)
    (hs : ∀ i x σ H, xs[i]? = some x → Pv i σ H → g x σ H fun σ2 H2 => tb { D with nx := Pv (i + 1), ct := Pv (i + 1), bk := D.nx } σ2 H2) (hd : ∀ σ H, Pv xs.length σ H → D.nx σ H) : forR g tb D σ (Itl K a) H := for_list Pv h0 hl hs hd
theorem f_tup {a : Addr} {xs : List V} {g : TG} {tb : TS} (Pv : Nat → L2.St → Hp → Prop) (h0 : Pv 0 σ H) (hl : ∀ i σ H, i ≤ xs.length → Pv i σ H → SqT K H a xs)
    (hs : ∀ i x σ H, xs[i]? = some x → Pv i σ H → g x σ H fun σ2 H2 => tb { D with nx := Pv (i + 1), ct := Pv (i + 1), bk := D.nx } σ2 H2) (hd : ∀ σ H, Pv xs.length σ H → D.nx σ H) : forR g tb D σ (Itt K a) H := for_tup Pv h0 hl hs hd
theorem f_range {lo : Int} {n : Nat} {g : TG} {tb : TS} (Pv : Nat → L2.St → Hp → Prop) (h0 : Pv 0 σ H)
    (hs : ∀ i σ H, i < n → Pv i σ H → g (.int (lo + i)) σ H fun σ2 H2 => tb { D with nx := Pv (i + 1), ct := Pv (i + 1), bk := D.nx } σ2 H2) (hd : ∀ σ H, Pv n σ H → D.nx σ H) : forR g tb D σ (Itr lo n) H := for_range Pv h0 hs hd
theorem c_list {a : Addr} {xs : List V} {g : TG} {tt : TT} {vs : List Nat} (Pv : Addr → Nat → Hp → Prop) (h0 : ∀ D, H D = none → Pv D 0 (upd H D (.lst []))) (hl : ∀ D i H', H D = none → i ≤ xs.length → Pv D i H' → SqL K H' a xs)
    (hs : ∀ D i x H', H D = none → xs[i]? = some x → Pv D i H' → g x (wipe σ vs) H' fun σ2 H2 => wipe σ2 vs = wipe σ vs ∧ tt σ2 H2 fun b H3 => lcPut te D (Pv D (i + 1)) σ2 b H3) (hd : ∀ D H', H D = none → Pv D xs.length H' → Q (.ref D) H') : lcR g tt te vs σ Q (Itl K a) H := fun D hD =>
  lc_list (Pv D) (h0 D hD) (fun i H' hi p => hl D i H' hD hi p) (fun i x H' hx p => hs D i x H' hD hx p) (fun H' p => hd D H' hD p)
theorem c_tup {a : Addr} {xs : List V} {g : TG} {tt : TT} {vs : List Nat} (Pv : Addr → Nat → Hp → Prop) (h0 : ∀ D, H D = none → Pv D 0 (upd H D (.lst []))) (hl : ∀ D i H', H D = none → i ≤ xs.length → Pv D i H' → SqT K H' a xs)
    (hs : ∀ D i x H', H D = none → xs[i]? = some x → Pv D i H' → g x (wipe σ vs) H' fun σ2 H2 => wipe σ2 vs = wipe σ vs ∧ tt σ2 H2 fun b H3 => lcPut te D (Pv D (i + 1)) σ2 b H3) (hd : ∀ D H', H D = none → Pv D xs.length H' → Q (.ref D) H') : lcR g tt te vs σ Q (Itt K a) H := fun D hD =>
  lc_tup (Pv D) (h0 D hD) (fun i H' hi p => hl D i H' hD hi p) (fun i x H' hx p => hs D i x H' hD hx p) (fun H' p => hd D H' hD p)
theorem c_range {lo : Int} {n : Nat} {g : TG} {tt : TT} {vs : List Nat} (Pv : Addr → Nat → Hp → Prop) (h0 : ∀ D, H D = none → Pv D 0 (upd H D (.lst [])))
    (hs : ∀ D i H', H D = none → i < n → Pv D i H' → g (.int (lo + i)) (wipe σ vs) H' fun σ2 H2 => wipe σ2 vs = wipe σ vs ∧ tt σ2 H2 fun b H3 => lcPut te D (Pv D (i + 1)) σ2 b H3) (hd : ∀ D H', H D = none → Pv D n H' → Q (.ref D) H') : lcR g tt te vs σ Q (Itr lo n) H := fun D hD =>
  lc_range (Pv D) (h0 D hD) (fun i H' hi p => hs D i H' hD hi p) (fun H' p => hd D H' hD p)
theorem w_yes (h : B true H) : tYes σ H B := h
theorem w_put1 {D : Addr} {Nx : Hp → Prop} (h : te σ H fun y H4 => lcAdd D Nx y H4) : lcPut te D Nx σ true H := iteT h
theorem w_put0 {D : Addr} {Nx : Hp → Prop} (h : Nx H) : lcPut te D Nx σ false H := iteF h
theorem w_add {D : Addr} {Nx : Hp → Prop} {acc : List V} (h : H D = some (.lst acc)) (z : acc.length ≤ 100000) (q : Nx (upd H D (.lst (acc ++ [v])))) : lcAdd D Nx v H := ⟨acc, h, Nat.lt_of_le_of_lt z (by decide), q⟩
theorem w_while {tb : TS} (W : Nat → L2.St → Hp → Prop) (m : Nat) (w0 : W m σ H) (hs : ∀ m σ H, W m σ H → c σ H fun b H1 => whR tb D W m σ b H1) : tWhile c tb D σ H := ⟨W, ⟨m, w0⟩, hs⟩
theorem w_whR {tb : TS} {W : Nat → L2.St → Hp → Prop} {m : Nat} {b : Bool} (h1 : b = true → tb { D with nx := fun σ' H' => ∃ m', m' < m ∧ W m' σ' H', ct := fun σ' H' => ∃ m', m' < m ∧ W m' σ' H', bk := D.nx } σ H) (h2 : b = false → D.nx σ H) : whR tb D W m σ b H := by
  cases b with
  | true => exact iteT ⟨_, fun _ _ h => h, h1 rfl⟩
  | false => exact iteF (h2 rfl)
theorem w_sl {r : V → Option Int → Option Int → Hp → VK → Prop} {lo hi : TO} (h : te σ H fun x H1 => lo σ H1 fun l H2 => hi σ H2 fun u H3 => r x l u H3 Q) : tSl r te lo hi σ H Q := h
theorem w_noPart {R : Option Int → Hp → Prop} (h : R none H) : tNoPart σ H R := h
theorem w_part {R : Option Int → Hp → Prop} (h : te σ H fun x H1 => ∃ i, x = .int i ∧ R (some i) H1) : tPart te σ H R := h
theorem w_partI {R : Int → Prop} {i : Int} (h : R i) : ∃ j, V.int i = .int j ∧ R j := ⟨i, rfl, h⟩
theorem ite_nt {A B : Prop} (h : B) : if (!true) = true then A else B := h
theorem ite_nf {A B : Prop} (h : A) : if (!false) = true then A else B := h
theorem ite_d {c A B : Prop} [Decidable c] (h1 : c → A) (h2 : ¬ c → B) : if decide c = true then A else B := by
  by_cases h : c
  · rw [if_pos (decide_eq_true h)]
    exact h1 h
  · rw [if_neg (by simpa using h)]
    exact h2 h
theorem ite_nd {c A B : Prop} [Decidable c] (h1 : ¬ c → A) (h2 : c → B) : if (!decide c) = true then A else B := by
  by_cases h : c
  · rw [if_neg (by simpa using h)]
    exact h2 h
  · rw [if_pos (by simpa using h)]
    exact h1 h
theorem ite_dT {c A B : Prop} [Decidable c] (hc : c) (h : A) : if decide c = true then A else B := by
  rw [if_pos (decide_eq_true hc)]
  exact h
theorem ite_dF {c A B : Prop} [Decidable c] (hc : ¬ c) (h : B) : if decide c = true then A else B := by
  rw [if_neg (by simpa using hc)]
  exact h
theorem ite_ndF {c A B : Prop} [Decidable c] (hc : ¬ c) (h : A) : if (!decide c) = true then A else B := by
  rw [if_pos (by simpa using hc)]
  exact h
theorem r_ixTn {p : Addr} {ns : List Int} {i : Int} (h : SqT K H p (ns.map V.int)) (h0 : 0 ≤ i) (h1 : i < ns.length) (q : Q (.int (ns.getD i.toNat 0)) H) : rIxT K (.ref p) (.int i) H Q := by
  have hl : i.toNat < ns.length := by omega
  refine ⟨p, _, i, _, rfl, rfl, h, at_of (j := i.toNat) (v := .int (ns.getD i.toNat 0)) (by omega) ?_, q⟩
  rw [List.getElem?_map, List.getElem?_eq_getElem hl, List.getD_eq_getElem?_getD, List.getElem?_eq_getElem hl]
  rfl
theorem r_ixLn {p : Addr} {ns : List Int} {i : Int} (h : SqL K H p (ns.map V.int)) (h0 : 0 ≤ i) (h1 : i < ns.length) (q : Q (.int (ns.getD i.toNat 0)) H) : rIxL K (.ref p) (.int i) H Q := by
  have hl : i.toNat < ns.length := by omega
  refine ⟨p, _, i, _, rfl, rfl, h, at_of (j := i.toNat) (v := .int (ns.getD i.toNat 0)) (by omega) ?_, q⟩
  rw [List.getElem?_map, List.getElem?_eq_getElem hl, List.getD_eq_getElem?_getD, List.getElem?_eq_getElem hl]
  rfl
theorem ite_b {b : Bool} {A B : Prop} (h1 : b = true → A) (h2 : b = false → B) : if b = true then A else B := by
  cases b with
  | true => exact iteT (h1 rfl)
  | false => exact iteF (h2 rfl)
theorem ite_nb {b : Bool} {A B : Prop} (h1 : b = false → A) (h2 : b = true → B) : if (!b) = true then A else B := by
  cases b with
  | true => exact h2 rfl
  | false => exact h1 rfl
theorem fin_of {b : Bool} (q : Q (.bl true) H) (hb : b = true) : Q (.bl b) H := by
  rw [hb]
  exact q
/-! on values -/
theorem r_I0 {g : Int → Int → V} {i j : Int} (q : Q (g i j) H) : rI0 g (.int i) (.int j) H Q := ⟨i, j, rfl, rfl, q⟩
theorem r_I {C : Int → Int → Prop} {g : Int → Int → V} {i j : Int} (hc : C i j) (q : Q (g i j) H) : rI C g (.int i) (.int j) H Q := ⟨i, j, rfl, rfl, hc, q⟩
theorem r_U {g : Int → V} {i : Int} (q : Q (g i) H) : rU g (.int i) H Q := ⟨i, rfl, q⟩
theorem r_eqI {i j : Int} (q : Q (.bl (decide (i = j))) H) : rEq (.int i) (.int j) H Q := ⟨rfl, by
  have e : decide (V.int i = V.int j) = decide (i = j) := by by_cases h : i = j <;> simp [h]
  rw [e]; exact q⟩
theorem r_neI {i j : Int} (q : Q (.bl (!decide (i = j))) H) : rNe (.int i) (.int j) H Q := ⟨rfl, by
  have e : decide (V.int i = V.int j) = decide (i = j) := by by_cases h : i = j <;> simp [h]
  rw [e]; exact q⟩
theorem r_eqB {i j : Bool} (q : Q (.bl (decide (i = j))) H) : rEq (.bl i) (.bl j) H Q := ⟨rfl, by
  have e : decide (V.bl i = V.bl j) = decide (i = j) := by by_cases h : i = j <;> simp [h]
  rw [e]; exact q⟩
theorem r_neB {i j : Bool} (q : Q (.bl (!decide (i = j))) H) : rNe (.bl i) (.bl j) H Q := ⟨rfl, by
  have e : decide (V.bl i = V.bl j) = decide (i = j) := by by_cases h : i = j <;> simp [h]
  rw [e]; exact q⟩
theorem r_ixT {p : Addr} {xs : List V} {i : Int} (h : SqT K H p xs) (ha : atI xs i = some v) (q : Q v H) : rIxT K (.ref p) (.int i) H Q := ⟨p, xs, i, v, rfl, rfl, h, ha, q⟩
theorem r_ixL {p : Addr} {xs : List V} {i : Int} (h : SqL K H p xs) (ha : atI xs i = some v) (q : Q v H) : rIxL K (.ref p) (.int i) H Q := ⟨p, xs, i, v, rfl, rfl, h, ha, q⟩
theorem r_ixP0 {p : Int × Int} (h : Pl K H v p) (q : Q (.int p.1) H) : rIxT K v (.int 0) H Q := by
  obtain ⟨a, rfl, h⟩ := h
  exact r_ixT h rfl q
theorem r_ixP1 {p : Int × Int} (h : Pl K H v p) (q : Q (.int p.2) H) : rIxT K v (.int 1) H Q := by
  obtain ⟨a, rfl, h⟩ := h
  exact r_ixT h rfl q
/-! isinstance -/
theorem tyx_tup {a : Addr} {xs : List V} (h : SqT K H a xs) : TyX K H (.ref a) (.type "tuple") := by
  rcases h with (h | ⟨o, h⟩) | ⟨o, its, n, h, c, _⟩
  · exact .base (.tup h)
  · exact .fTuple h
  · exact .kTuple h c
theorem tyx_lst {a : Addr} {xs : List V} (h : SqL K H a xs) : TyX K H (.ref a) (.type "list") := by
  rcases h with (h | ⟨o, h⟩) | ⟨o, its, n, h, c, _⟩
  · exact .base (.lst h)
  · exact .base (.frz h)
  · exact .kList h c
theorem r_isi {n m : String} (ty : TyX K H x (.type n)) (e : kitB n m = some b) (q : Q (.bl b) H) : rIsi K [x, .ty m] H Q := ⟨x, .ty m, .type n, .type m, b, rfl, .ty m, ty, kit_ty e, q⟩
theorem r_isiInt {i : Int} {m : String} (e : kitB "int" m = some b) (q : Q (.bl b) H) : rIsi K [.int i, .ty m] H Q := r_isi (.base (.int i)) e q
theorem r_isiPl {p : Int × Int} {m : String} (h : Pl K H v p) (e : kitB "tuple" m = some b) (q : Q (.bl b) H) : rIsi K [v, .ty m] H Q := by
  obtain ⟨a, rfl, h⟩ := h
  exact r_isi (tyx_tup h) e q
theorem r_isiL {a : Addr} {xs : List V} {m : String} (h : SqL K H a xs) (e : kitB "list" m = some b) (q : Q (.bl b) H) : rIsi K [.ref a, .ty m] H Q := r_isi (tyx_lst h) e q
/-! len, max, min, abs, int -/
theorem r_lenL {p : Addr} {ys : List V} (h : SqL K H p ys) (q : Q (.int (ys.length : Nat)) H) : rLen K [.ref p] H Q := ⟨p, ys, rfl, .inl h, q⟩
theorem r_lenT {p : Addr} {ys : List V} (h : SqT K H p ys) (q : Q (.int (ys.length : Nat)) H) : rLen K [.ref p] H Q := ⟨p, ys, rfl, .inr h, q⟩
theorem r_lenPl {p : Int × Int} (h : Pl K H v p) (q : Q (.int 2) H) : rLen K [v] H Q := by
  obtain ⟨a, rfl, h⟩ := h
  exact ⟨a, _, rfl, .inr h, q⟩
theorem r_listL {p : Addr} {ys : List V} (h : SqL K H p ys) (q : ∀ l, H l = none → Q (.ref l) (upd H l (.lst ys))) : rList K [.ref p] H Q := ⟨p, ys, rfl, .inl h, q⟩
theorem r_listT {p : Addr} {ys : List V} (h : SqT K H p ys) (q : ∀ l, H l = none → Q (.ref l) (upd H l (.lst ys))) : rList K [.ref p] H Q := ⟨p, ys, rfl, .inr h, q⟩
theorem r_tupL {p : Addr} {ys : List V} (h : SqL K H p ys) (q : ∀ l, H l = none → Q (.ref l) (upd H l (.tup ys))) : rTuple K [.ref p] H Q := ⟨p, ys, rfl, .inl ⟨h, q⟩⟩
theorem r_tupPl {p : Int × Int} (h : Pl K H v p) (q : Q v H) : rTuple K [v] H Q := by
  obtain ⟨a, rfl, h⟩ := h
  exact ⟨a, _, rfl, .inr ⟨h, q⟩⟩
theorem r_tupT {p : Addr} {ys : List V} (h : SqT K H p ys) (q : Q (.ref p) H) : rTuple K [.ref p] H Q := ⟨p, ys, rfl, .inr ⟨h, q⟩⟩
theorem r_max2 {i j : Int} (q : Q (.int (max i j)) H) : rMax2 [.int i, .int j] H Q := ⟨i, j, rfl, by
  have e : (if j > i then j else i) = max i j := by rw [Int.max_def]; split <;> split <;> omega
  rw [e]; exact q⟩
theorem r_min2 {i j : Int} (q : Q (.int (min i j)) H) : rMin2 [.int i, .int j] H Q := ⟨i, j, rfl, by
  have e : (if j < i then j else i) = min i j := by rw [Int.min_def]; split <;> split <;> omega
  rw [e]; exact q⟩
theorem r_abs {i : Int} (q : Q (.int (i.natAbs : Int)) H) : rAbs [.int i] H Q := ⟨i, rfl, by
  have e : (if i < 0 then -i else i) = (i.natAbs : Int) := by split <;> omega
  rw [e]; exact q⟩
theorem r_intI {i : Int} (q : Q (.int i) H) : rInt1 [.int i] H Q := .inl ⟨i, rfl, q⟩
theorem r_intB {b : Bool} (q : Q (.int (if b then 1 else 0)) H) : rInt1 [.bl b] H Q := .inr ⟨b, rfl, q⟩
theorem kit_ii : kitB "int" "int" = some true := by decide +kernel
theorem kit_ib : kitB "int" "bool" = some false := by decide +kernel
theorem kit_bb : kitB "bool" "bool" = some true := by decide +kernel
theorem kit_bi : kitB "bool" "int" = some true := by decide +kernel
theorem kit_tt : kitB "tuple" "tuple" = some true := by decide +kernel
theorem kit_ll : kitB "list" "list" = some true := by decide +kernel
theorem kit_dd : kitB "dict" "dict" = some true := by decide +kernel
/-! equality of data -/
theorem dp_pl {p : Int × Int} (h : Pl K H v p) : Dp K H v (.tuple [.int p.1, .int p.2]) := by
  obtain ⟨a, rfl, h⟩ := h
  exact .tup h (.cons (.int _) (.cons (.int _) .nil))
theorem r_eqPl {p q : Int × Int} (h1 : Pl K H x p) (h2 : Pl K H y q) (k : Q (.bl (decide (p = q))) H) : rEqD K x y H Q := ⟨_, _, dp_pl h1, dp_pl h2, rfl, rfl, by
  have e : PyData.eqv (.tuple [.int p.1, .int p.2]) (.tuple [.int q.1, .int q.2]) = decide (p = q) := by
    obtain ⟨p1, p2⟩ := p
    obtain ⟨q1, q2⟩ := q
    simp only [PyData.eqv, PyData.eqvAll, Prod.mk.injEq]
    by_cases h1 : p1 = q1 <;> by_cases h2 : p2 = q2 <;> simp [h1, h2]
  rw [e]; exact k⟩
theorem r_nePl {p q : Int × Int} (h1 : Pl K H x p) (h2 : Pl K H y q) (k : Q (.bl (!decide (p = q))) H) : rNeD K x y H Q := ⟨_, _, dp_pl h1, dp_pl h2, rfl, rfl, by
  have e : PyData.eqv (.tuple [.int p.1, .int p.2]) (.tuple [.int q.1, .int q.2]) = decide (p = q) := by
    obtain ⟨p1, p2⟩ := p
    obtain ⟨q1, q2⟩ := q
    simp only [PyData.eqv, PyData.eqvAll, Prod.mk.injEq]
    by_cases h1 : p1 = q1 <;> by_cases h2 : p2 = q2 <;> simp [h1, h2]
  rw [e]; exact k⟩
end
end Hx

local macro_rules | `(tactic| walk_at "fact") => `(tactic| (with_reducible first
  | assumption
  | exact Hx.Pl.new
  | exact Hx.sqT_new
  | exact Hx.sqL_new
  | ((refine' Hx.Pl.sm ?hs ?hp); (case hs => first | assumption | exact Hx.same_new (by assumption)); (case hp => walk_at "fact"))
  | ((refine' Hx.Pl.putr ?hs ?hp); (case hs => assumption); (case hp => walk_at "fact"))
  | ((refine' L2.Same.seq ?hs ?hp); (case hs => first | assumption | exact Hx.same_new (by assumption)); (case hp => walk_at "fact"))
  | ((refine' L2.Same.seqT ?hs ?hp); (case hs => first | assumption | exact Hx.same_new (by assumption)); (case hp => walk_at "fact"))
  | ((refine' Hx.SqT_putr ?hs ?hp); (case hs => assumption); (case hp => walk_at "fact"))))
local macro_rules | `(tactic| walk_at "go") => `(tactic| first
  | with_reducible refine Hx.w_seq ?_
  | with_reducible refine Hx.w_op ?_
  | ((with_reducible refine' Hx.w_var ?hv ?_); (case hv => exact rfl))
  | with_reducible refine Hx.w_c ?_
  | with_reducible refine Hx.w_cons ?_
  | with_reducible refine Hx.w_nil ?_
  | with_reducible refine Hx.r_I0 ?_
  | ((with_reducible refine' Hx.r_I ?hc ?_); (case hc => walk_at "ric"))
  | with_reducible refine Hx.w_blk ?_
  | with_reducible refine Hx.w_test ?_
  | with_reducible refine Hx.w_asg ?_
  | with_reducible refine Hx.w_gName ?_
  | with_reducible refine Hx.w_ret ?_
  | with_reducible refine Hx.w_ifS ?_
  | with_reducible refine Hx.w_drop ?_
  | with_reducible refine Hx.w_next ?_
  | with_reducible refine Hx.w_retN ?_
  | with_reducible refine Hx.w_cont ?_
  | with_reducible refine Hx.w_break ?_
  | with_reducible refine Hx.w_un ?_
  | with_reducible refine Hx.r_U ?_
  | ((with_reducible refine' Hx.r_ixP0 ?hp ?_); (case hp => walk_at "fact"))
  | ((with_reducible refine' Hx.r_ixP1 ?hp ?_); (case hp => walk_at "fact"))
  | with_reducible refine Hx.w_tTup ?_
  | with_reducible refine Hx.w_tLst ?_
  | ((with_reducible refine' Hx.w_dispT ?hz fun p hp => ?_); (case hz => exact Nat.le_of_ble_eq_true rfl))
  | ((with_reducible refine' Hx.w_dispL ?hz fun p hp => ?_); (case hz => exact Nat.le_of_ble_eq_true rfl))
  | with_reducible refine Hx.r_eqI ?_
  | with_reducible refine Hx.r_neI ?_
  | with_reducible refine Hx.r_eqB ?_
  | with_reducible refine Hx.r_neB ?_
  | ((with_reducible refine' Hx.r_eqPl ?hp ?hq ?_); (case hp => walk_at "fact"); (case hq => walk_at "fact"))
  | ((with_reducible refine' Hx.r_nePl ?hp ?hq ?_); (case hp => walk_at "fact"); (case hq => walk_at "fact"))
  | with_reducible refine Hx.w_call ?_
  | with_reducible refine Hx.w_CB ?_
  | with_reducible refine Hx.w_tB ?_
  | with_reducible refine Hx.w_and ?_
  | with_reducible refine Hx.w_or ?_
  | with_reducible refine Hx.w_not ?_
  | with_reducible refine Hx.w_andV ?_
  | with_reducible refine Hx.w_orV ?_
  | with_reducible refine Hx.w_notV ?_
  | with_reducible refine Hx.w_ifV ?_
  | with_reducible refine Hx.w_chain ?_
  | with_reducible refine Hx.w_BM0 ?_
  | with_reducible refine Hx.w_BM ?_
  | with_reducible refine Hx.w_sl ?_
  | with_reducible refine Hx.w_noPart ?_
  | with_reducible refine Hx.w_part ?_
  | with_reducible refine Hx.w_partI ?_
  | with_reducible refine L2.iteT ?_
  | with_reducible refine L2.iteF ?_
  | with_reducible refine Hx.ite_nt ?_
  | ((with_reducible refine' L2.iteNS ?hc ?_); (case hc => first | exact rfl | omega))
  | ((with_reducible refine' Hx.ite_dT ?hc ?_); (case hc => first | exact rfl | omega))
  | ((with_reducible refine' Hx.ite_dF ?hc ?_); (case hc => omega))
  | ((with_reducible refine' Hx.ite_ndF ?hc ?_); (case hc => omega))
  | with_reducible refine Hx.ite_nf ?_
  | with_reducible refine Hx.r_max2 ?_
  | with_reducible refine Hx.r_min2 ?_
  | with_reducible refine Hx.r_abs ?_
  | with_reducible refine Hx.r_isiInt Hx.kit_ii ?_
  | with_reducible refine Hx.r_isiInt Hx.kit_ib ?_
  | with_reducible refine Hx.r_isi (.base (.bl _)) Hx.kit_bb ?_
  | ((with_reducible refine' Hx.r_isiPl ?hp Hx.kit_tt ?_); (case hp => walk_at "fact"))
  | ((with_reducible refine' Hx.r_isiL ?hp Hx.kit_ll ?_); (case hp => walk_at "fact"))
  | with_reducible refine Hx.w_for ?_
  | with_reducible refine Hx.w_rng1 ?_
  | with_reducible refine Hx.w_rng2 ?_
  | with_reducible refine Hx.w_iList ?_
  | with_reducible refine Hx.w_iTup ?_
  | with_reducible refine Hx.w_lc ?_
  | with_reducible refine Hx.w_yes ?_
  | with_reducible refine Hx.w_put1 ?_
  | with_reducible refine Hx.w_put0 ?_
  | ((with_reducible refine' Hx.r_rng1 ?hz ?hy ?_); (case hz => omega); (case hy => omega))
  | ((with_reducible refine' Hx.r_rng2 ?hz ?hy ?_); (case hz => omega); (case hy => omega))
  | ((with_reducible refine' Hx.r_iList ?hp ?_); (case' hp => walk_at "fact"))
  | ((with_reducible refine' Hx.r_iTup ?hp ?_); (case' hp => walk_at "fact"))
  | ((with_reducible refine' Hx.r_ixL ?hp ?ha ?_); (case hp => walk_at "fact"); (case ha => first | assumption | exact rfl))
  | ((with_reducible refine' Hx.r_ixT ?hp ?ha ?_); (case hp => walk_at "fact"); (case ha => first | assumption | exact rfl))
  | ((with_reducible refine' Hx.w_tyL ?hp ?_); (case hp => walk_at "fact"))
  | ((with_reducible refine' Hx.r_append ?hp ?hz ?_); (case hp => walk_at "ofact"); (case hz => walk_at "size"))
  | ((with_reducible refine' Hx.r_reverse ?hp ?_); (case hp => walk_at "ofact"))
  | ((with_reducible refine' Hx.r_clear ?hp ?_); (case hp => walk_at "ofact"))
  | ((with_reducible refine' Hx.r_cat ?hp ?hq ?hz ?_); (case hp => walk_at "ofact"); (case hq => walk_at "ofact"); (case hz => walk_at "size"); (intro p hp))
  | ((with_reducible refine' Hx.w_add ?hp ?hz ?_); (case hp => walk_at "ofact"); (case hz => walk_at "size"))
  | ((with_reducible refine' Hx.r_listL ?hp ?_); (case hp => walk_at "fact"); (intro p hp))
  | ((with_reducible refine' Hx.r_listT ?hp ?_); (case hp => walk_at "fact"); (intro p hp))
  | ((with_reducible refine' Hx.r_tupL ?hp ?_); (case hp => walk_at "fact"); (intro p hp))
  | ((with_reducible refine' Hx.r_tupPl ?hp ?_); (case hp => walk_at "fact"))
  | ((with_reducible refine' Hx.r_tupT ?hp ?_); (case hp => walk_at "fact"))
  | with_reducible refine Hx.r_intI ?_
  | with_reducible refine Hx.r_intB ?_
  | ((with_reducible refine' Hx.r_lenPl ?hp ?_); (case hp => walk_at "fact"))
  | ((with_reducible refine' Hx.r_lenL ?hp ?_); (case hp => walk_at "fact"))
  | ((with_reducible refine' Hx.r_lenT ?hp ?_); (case hp => walk_at "fact")))
local macro_rules | `(tactic| walk_at "run") => `(tactic| repeat (walk_at "go"))
local macro_rules | `(tactic| walk_at "same") => `(tactic| (with_reducible first
  | assumption
  | exact L2.Same.refl _
  | exact Hx.same_new (by assumption)
  | ((refine' L2.Same.trans ?ha ?hs); (case hs => first | assumption | exact Hx.same_new (by assumption)); (case ha => walk_at "same"))))
local macro_rules | `(tactic| walk_at "ofact") => `(tactic| first
  | assumption
  | exact L2.upd_same
  | (refine Eq.trans (L2.upd_ne (by first | (intro hh; subst hh; simp_all; done) | exact L2.ne_of_none (by assumption) (by assumption) | exact Ne.symm (L2.ne_of_none (by assumption) (by assumption)))) ?hp; (case hp => walk_at "ofact"))
  | (refine (by assumption : L2.Same _ _) _ _ ?hp; (case hp => walk_at "ofact")))
local macro_rules | `(tactic| walk_at "size") => `(tactic| first
  | exact Nat.le_of_ble_eq_true rfl
  | (simp only [List.length_append, List.length_map, List.length_cons, List.length_nil, List.length_replicate, List.length_take, List.length_drop]; omega)
  | omega)
local macro_rules | `(tactic| walk_at "ric") => `(tactic| first
  | exact ⟨by decide, by decide⟩
  | exact .inr ⟨by decide, by decide⟩
  | exact .inl ⟨by decide, by decide⟩
  | exact ⟨by decide, by decide, by decide⟩
  | ((show (0 : Int) < _); (first | decide | omega))
  | assumption)
/-! # places, steps, sevens: plain laws -/
namespace Hx
def stepOf (d : Int) : Int × Int := steps.getD (d - 1).toNat (0, 0)
def restPlace (f : Int) : Int × Int := if f = 0 then (0, 0) else stepOf f
def restOf (p : Int × Int) : Int := figs.getD ((p.1 + 5 * p.2) % 7).toNat 0
def greatOf (p : Int × Int) : Int × Int := (2 * p.1 - p.2, p.1 + 3 * p.2)
def centreOf (p : Int × Int) : Int × Int :=
  ((3 * (p.1 - (restPlace (restOf p)).1) + (p.2 - (restPlace (restOf p)).2)) / 7, (2 * (p.2 - (restPlace (restOf p)).2) - (p.1 - (restPlace (restOf p)).1)) / 7)
theorem fig_cases {f : Int} (h0 : 0 ≤ f) (h1 : f ≤ 6) : f = 0 ∨ f = 1 ∨ f = 2 ∨ f = 3 ∨ f = 4 ∨ f = 5 ∨ f = 6 := by omega
theorem rest_cases (p : Int × Int) : ((p.1 + 5 * p.2) % 7 = 0 ∧ restOf p = 0 ∧ restPlace (restOf p) = (0, 0)) ∨ ((p.1 + 5 * p.2) % 7 = 1 ∧ restOf p = 1 ∧ restPlace (restOf p) = (1, 0)) ∨
    ((p.1 + 5 * p.2) % 7 = 2 ∧ restOf p = 5 ∧ restPlace (restOf p) = (0, -1)) ∨ ((p.1 + 5 * p.2) % 7 = 3 ∧ restOf p = 6 ∧ restPlace (restOf p) = (1, -1)) ∨ ((p.1 + 5 * p.2) % 7 = 4 ∧ restOf p = 3 ∧ restPlace (restOf p) = (-1, 1)) ∨
    ((p.1 + 5 * p.2) % 7 = 5 ∧ restOf p = 2 ∧ restPlace (restOf p) = (0, 1)) ∨ ((p.1 + 5 * p.2) % 7 = 6 ∧ restOf p = 4 ∧ restPlace (restOf p) = (-1, 0)) := by
  have h : ∀ m : Int, 0 ≤ m → m < 7 → (m = 0 ∧ figs.getD m.toNat 0 = 0 ∧ restPlace (figs.getD m.toNat 0) = (0, 0)) ∨ (m = 1 ∧ figs.getD m.toNat 0 = 1 ∧ restPlace (figs.getD m.toNat 0) = (1, 0)) ∨
    (m = 2 ∧ figs.getD m.toNat 0 = 5 ∧ restPlace (figs.getD m.toNat 0) = (0, -1)) ∨ (m = 3 ∧ figs.getD m.toNat 0 = 6 ∧ restPlace (figs.getD m.toNat 0) = (1, -1)) ∨ (m = 4 ∧ figs.getD m.toNat 0 = 3 ∧ restPlace (figs.getD m.toNat 0) = (-1, 1)) ∨
    (m = 5 ∧ figs.getD m.toNat 0 = 2 ∧ restPlace (figs.getD m.toNat 0) = (0, 1)) ∨ (m = 6 ∧ figs.getD m.toNat 0 = 4 ∧ restPlace (figs.getD m.toNat 0) = (-1, 0)) := by
    intro m h0 h1
    obtain rfl | rfl | rfl | rfl | rfl | rfl | rfl := fig_cases (f := m) h0 (by omega) <;> simp [figs, restPlace, stepOf, steps]
  exact h _ (by omega) (by omega)
theorem rest_range (p : Int × Int) : 0 ≤ restOf p ∧ restOf p ≤ 6 := by
  rcases rest_cases p with h | h | h | h | h | h | h <;> omega
theorem great_centre (p : Int × Int) : greatOf (centreOf p) = (p.1 - (restPlace (restOf p)).1, p.2 - (restPlace (restOf p)).2) := by
  unfold greatOf centreOf
  rcases rest_cases p with ⟨h, _, e⟩ | ⟨h, _, e⟩ | ⟨h, _, e⟩ | ⟨h, _, e⟩ | ⟨h, _, e⟩ | ⟨h, _, e⟩ | ⟨h, _, e⟩ <;> rw [e] <;> simp only [Prod.mk.injEq] <;> omega
/-- q, r is a great step -/
def isGreat (q r : Int) : Bool := decide ((3 * q + r) % 7 = 0) && decide ((2 * r - q) % 7 = 0)
theorem isGreat_rest (p : Int × Int) {f : Int} (h0 : 0 ≤ f) (h1 : f ≤ 6) : isGreat (p.1 - (restPlace f).1) (p.2 - (restPlace f).2) = decide (f = restOf p) := by
  have h : ∀ b : Bool, (b = true ↔ f = restOf p) → b = decide (f = restOf p) := fun b hb => by
    cases b with
    | true => exact (decide_eq_true (hb.mp rfl)).symm
    | false => exact (decide_eq_false fun z => Bool.noConfusion (hb.mpr z)).symm
  refine h _ ?_
  unfold isGreat
  rw [Bool.and_eq_true, decide_eq_true_eq, decide_eq_true_eq]
  obtain ⟨r, hr⟩ : ∃ r, r = restOf p := ⟨_, rfl⟩
  rw [← hr]
  obtain rfl | rfl | rfl | rfl | rfl | rfl | rfl := fig_cases h0 h1 <;> simp only [restPlace, stepOf, steps] <;> rcases rest_cases p with ⟨h, e, _⟩ | ⟨h, e, _⟩ | ⟨h, e, _⟩ | ⟨h, e, _⟩ | ⟨h, e, _⟩ | ⟨h, e, _⟩ | ⟨h, e, _⟩ <;> rw [e] at hr <;> subst hr <;> simp <;> omega
end Hx

namespace Hx
open PySem PySem.Spec PyProof.Rows L2
def topS (i : Nat) : Stmt := PySem.Challenge.pw_hexaddress_k06_sevens.main.body.getD i (.Pass ⟨0, 0, 0, 0⟩)
/-! _law_number_by -/
abbrev s__law_number_by : Stmt := topS 16
abbrev n__law_number_by : List Str := ["cell"]
abbrev n__law_number_by_p : List Str := ["cell"]
theorem sc__law_number_by : FnScope n__law_number_by n__law_number_by_p (defScope s__law_number_by) := ⟨rfl, rfl, rfl, by decide +kernel, rfl, by decide +kernel, by decide +kernel⟩
def numBy (c : Int) : Int := if c % 4 = 1 then c / 4 % (2 * 10 ^ (39 : Int).toNat - 1) - 10 ^ (39 : Int).toNat + 1 else c / 4 % 61 - 30
def sp__law_number_by (K : PySem.W.Frag) : Sp := fun vs H Q _ => ∃ i : Int, vs = [.int i] ∧ Q (.int (numBy i)) H
theorem c__law_number_by {K : PySem.W.Frag} {H : Hp} {Q : VK} {E : XK} {i : Int} (q : Q (.int (numBy i)) H) : sp__law_number_by K [.int i] H Q E := ⟨i, rfl, q⟩
/-! _law_place_by -/
abbrev s__law_place_by : Stmt := topS 17
abbrev n__law_place_by : List Str := ["one", "other"]
abbrev n__law_place_by_p : List Str := ["one", "other"]
theorem sc__law_place_by : FnScope n__law_place_by n__law_place_by_p (defScope s__law_place_by) := ⟨rfl, rfl, rfl, by decide +kernel, rfl, by decide +kernel, by decide +kernel⟩
def sp__law_place_by (K : PySem.W.Frag) : Sp := fun vs H Q _ => ∃ i j : Int, vs = [.int i, .int j] ∧ ∀ v H', Same H H' → Pl K H' v (numBy i, numBy j) → Q v H'
theorem c__law_place_by {K : PySem.W.Frag} {H : Hp} {Q : VK} {E : XK} {i j : Int} (q : ∀ v H', Same H H' → Pl K H' v (numBy i, numBy j) → Q v H') : sp__law_place_by K [.int i, .int j] H Q E := ⟨i, j, rfl, q⟩
/-! _law_cell_at -/
abbrev s__law_cell_at : Stmt := topS 13
abbrev n__law_cell_at : List Str := ["script", "k"]
abbrev n__law_cell_at_p : List Str := ["script", "k"]
theorem sc__law_cell_at : FnScope n__law_cell_at n__law_cell_at_p (defScope s__law_cell_at) := ⟨rfl, rfl, rfl, by decide +kernel, rfl, by decide +kernel, by decide +kernel⟩
def cellAt (ns : List Int) (k : Int) : Int := if k < (ns.length : Int) then (ns.getD k.toNat 0) else 0
def sp__law_cell_at (K : PySem.W.Frag) : Sp := fun vs H Q _ => ∃ (a : Addr) (ns : List Int) (k : Int), vs = [.ref a, .int k] ∧ SqL K H a (ns.map V.int) ∧ 0 ≤ k ∧ Q (.int (cellAt ns k)) H
theorem c__law_cell_at {K : PySem.W.Frag} {H : Hp} {Q : VK} {E : XK} {a : Addr} {ns : List Int} {k : Int} (h : SqL K H a (ns.map V.int)) (hk : 0 ≤ k) (q : Q (.int (cellAt ns k)) H) : sp__law_cell_at K [.ref a, .int k] H Q E := ⟨a, ns, k, rfl, h, hk, q⟩
/-! _law_whole -/
abbrev s__law_whole : Stmt := topS 14
abbrev n__law_whole : List Str := ["found"]
abbrev n__law_whole_p : List Str := ["found"]
theorem sc__law_whole : FnScope n__law_whole n__law_whole_p (defScope s__law_whole) := ⟨rfl, rfl, rfl, by decide +kernel, rfl, by decide +kernel, by decide +kernel⟩
def sp__law_whole (K : PySem.W.Frag) : Sp := fun vs H Q _ => ∃ i : Int, vs = [.int i] ∧ Q (.bl true) H
theorem c__law_whole {K : PySem.W.Frag} {H : Hp} {Q : VK} {E : XK} {i : Int} (q : Q (.bl true) H) : sp__law_whole K [.int i] H Q E := ⟨i, rfl, q⟩
/-! _law_place_alike -/
abbrev s__law_place_alike : Stmt := topS 15
abbrev n__law_place_alike : List Str := ["found", "due"]
abbrev n__law_place_alike_p : List Str := ["found", "due"]
theorem sc__law_place_alike : FnScope n__law_place_alike n__law_place_alike_p (defScope s__law_place_alike) := ⟨rfl, rfl, rfl, by decide +kernel, rfl, by decide +kernel, by decide +kernel⟩
def sp__law_place_alike (K : PySem.W.Frag) : Sp := fun vs H Q _ => ∃ v1 v2 p1 p2, vs = [v1, v2] ∧ Pl K H v1 p1 ∧ Pl K H v2 p2 ∧ Q (.bl (decide (p1 = p2))) H
theorem c__law_place_alike {K : PySem.W.Frag} {H : Hp} {Q : VK} {E : XK} {v1 v2 : V} {p1 p2 : Int × Int} (h1 : Pl K H v1 p1) (h2 : Pl K H v2 p2) (q : Q (.bl (decide (p1 = p2))) H) : sp__law_place_alike K [v1, v2] H Q E := ⟨v1, v2, p1, p2, rfl, h1, h2, q⟩
/-! great -/
abbrev s_great : Stmt := topS 8
abbrev n_great : List Str := ["place"]
abbrev n_great_p : List Str := ["place"]
theorem sc_great : FnScope n_great n_great_p (defScope s_great) := ⟨rfl, rfl, rfl, by decide +kernel, rfl, by decide +kernel, by decide +kernel⟩
def sp_great (K : PySem.W.Frag) : Sp := fun vs H Q _ => ∃ v1 p1, vs = [v1] ∧ Pl K H v1 p1 ∧ ∀ v H', Same H H' → Pl K H' v (greatOf p1) → Q v H'
theorem c_great {K : PySem.W.Frag} {H : Hp} {Q : VK} {E : XK} {v1 : V} {p1 : Int × Int} (h1 : Pl K H v1 p1) (q : ∀ v H', Same H H' → Pl K H' v (greatOf p1) → Q v H') : sp_great K [v1] H Q E := ⟨v1, p1, rfl, h1, q⟩
/-! rest -/
abbrev s_rest : Stmt := topS 9
abbrev n_rest : List Str := ["place"]
abbrev n_rest_p : List Str := ["place"]
theorem sc_rest : FnScope n_rest n_rest_p (defScope s_rest) := ⟨rfl, rfl, rfl, by decide +kernel, rfl, by decide +kernel, by decide +kernel⟩
def sp_rest (K : PySem.W.Frag) : Sp := fun vs H Q _ => ∃ v1 p1, vs = [v1] ∧ Pl K H v1 p1 ∧ Q (.int (restOf p1)) H
theorem c_rest {K : PySem.W.Frag} {H : Hp} {Q : VK} {E : XK} {v1 : V} {p1 : Int × Int} (h1 : Pl K H v1 p1) (q : Q (.int (restOf p1)) H) : sp_rest K [v1] H Q E := ⟨v1, p1, rfl, h1, q⟩
/-! _law_step -/
abbrev s__law_step : Stmt := topS 18
abbrev n__law_step : List Str := ["figure"]
abbrev n__law_step_p : List Str := ["figure"]
theorem sc__law_step : FnScope n__law_step n__law_step_p (defScope s__law_step) := ⟨rfl, rfl, rfl, by decide +kernel, rfl, by decide +kernel, by decide +kernel⟩
def sp__law_step (K : PySem.W.Frag) : Sp := fun vs H Q _ => ∃ f, vs = [.int f] ∧ 0 ≤ f ∧ f ≤ 6 ∧ ∀ v H', Same H H' → Pl K H' v (restPlace f) → Q v H'
theorem c__law_step {K : PySem.W.Frag} {H : Hp} {Q : VK} {E : XK} {f : Int} (h0 : 0 ≤ f) (h1 : f ≤ 6) (q : ∀ v H', Same H H' → Pl K H' v (restPlace f) → Q v H') : sp__law_step K [.int f] H Q E := ⟨f, rfl, h0, h1, q⟩
/-! _law_is_great -/
abbrev s__law_is_great : Stmt := topS 20
abbrev n__law_is_great : List Str := ["q", "r"]
abbrev n__law_is_great_p : List Str := ["q", "r"]
theorem sc__law_is_great : FnScope n__law_is_great n__law_is_great_p (defScope s__law_is_great) := ⟨rfl, rfl, rfl, by decide +kernel, rfl, by decide +kernel, by decide +kernel⟩
def sp__law_is_great (K : PySem.W.Frag) : Sp := fun vs H Q _ => ∃ q r, vs = [.int q, .int r] ∧ Q (.bl (isGreat q r)) H
theorem c__law_is_great {K : PySem.W.Frag} {H : Hp} {Q : VK} {E : XK} {q r : Int} (k : Q (.bl (isGreat q r)) H) : sp__law_is_great K [.int q, .int r] H Q E := ⟨q, r, rfl, k⟩
/-! step -/
abbrev s_step : Stmt := topS 5
abbrev n_step : List Str := ["direction"]
abbrev n_step_p : List Str := ["direction"]
theorem sc_step : FnScope n_step n_step_p (defScope s_step) := ⟨rfl, rfl, rfl, by decide +kernel, rfl, by decide +kernel, by decide +kernel⟩
def sp_step (K : PySem.W.Frag) : Sp := fun vs H Q _ => ∃ d, vs = [.int d] ∧ 1 ≤ d ∧ d ≤ 6 ∧ ∀ v, Pl K H v (stepOf d) → Q v H
theorem c_step {K : PySem.W.Frag} {H : Hp} {Q : VK} {E : XK} {d : Int} (h0 : 1 ≤ d) (h1 : d ≤ 6) (q : ∀ v, Pl K H v (stepOf d) → Q v H) : sp_step K [.int d] H Q E := ⟨d, rfl, h0, h1, q⟩
/-! rest_place -/
abbrev s_rest_place : Stmt := topS 10
abbrev n_rest_place : List Str := ["figure"]
abbrev n_rest_place_p : List Str := ["figure"]
theorem sc_rest_place : FnScope n_rest_place n_rest_place_p (defScope s_rest_place) := ⟨rfl, rfl, rfl, by decide +kernel, rfl, by decide +kernel, by decide +kernel⟩
def sp_rest_place (K : PySem.W.Frag) : Sp := fun vs H Q _ => ∃ f, vs = [.int f] ∧ 0 ≤ f ∧ f ≤ 6 ∧ ∀ v H', Same H H' → Pl K H' v (restPlace f) → Q v H'
theorem c_rest_place {K : PySem.W.Frag} {H : Hp} {Q : VK} {E : XK} {f : Int} (h0 : 0 ≤ f) (h1 : f ≤ 6) (q : ∀ v H', Same H H' → Pl K H' v (restPlace f) → Q v H') : sp_rest_place K [.int f] H Q E := ⟨f, rfl, h0, h1, q⟩
/-! centre -/
abbrev s_centre : Stmt := topS 11
abbrev n_centre : List Str := ["place", "near", "q", "r"]
abbrev n_centre_p : List Str := ["place"]
theorem sc_centre : FnScope n_centre n_centre_p (defScope s_centre) := ⟨rfl, rfl, rfl, by decide +kernel, rfl, by decide +kernel, by decide +kernel⟩
def sp_centre (K : PySem.W.Frag) : Sp := fun vs H Q _ => ∃ v1 p1, vs = [v1] ∧ Pl K H v1 p1 ∧ ∀ v H', Same H H' → Pl K H' v (centreOf p1) → Q v H'
theorem c_centre {K : PySem.W.Frag} {H : Hp} {Q : VK} {E : XK} {v1 : V} {p1 : Int × Int} (h1 : Pl K H v1 p1) (q : ∀ v H', Same H H' → Pl K H' v (centreOf p1) → Q v H') : sp_centre K [v1] H Q E := ⟨v1, p1, rfl, h1, q⟩
/-! law -/
abbrev s_law : Stmt := topS 21
abbrev n_law : List Str := ["script", "place", "figure", "other", "far", "middle"]
abbrev n_law_p : List Str := ["script"]
theorem sc_law : FnScope n_law n_law_p (defScope s_law) := ⟨rfl, rfl, rfl, by decide +kernel, rfl, by decide +kernel, by decide +kernel⟩
def sp_law (K : PySem.W.Frag) : Sp := fun vs H Q _ => ∃ (a : Addr) (ns : List Int), vs = [.ref a] ∧ SqL K H a (ns.map V.int) ∧ ns.length ≤ 63 ∧ ∀ H', Q (.bl true) H'
end Hx
local macro_rules | `(tactic| walk_at "go") => `(tactic| with_reducible refine Hx.c__law_number_by ?_)
local macro_rules | `(tactic| walk_at "go") => `(tactic| ((with_reducible refine' Hx.c__law_place_by ?_); (intro v H' s g)))
local macro_rules | `(tactic| walk_at "go") => `(tactic| ((with_reducible refine' Hx.c__law_cell_at ?hp ?hq ?_); (case' hp => walk_at "fact"); (case hq => first | decide | omega)))
local macro_rules | `(tactic| walk_at "go") => `(tactic| with_reducible refine Hx.c__law_whole ?_)
local macro_rules | `(tactic| walk_at "go") => `(tactic| ((with_reducible refine' Hx.c__law_place_alike ?hp ?hq ?_); (case hp => walk_at "fact"); (case hq => walk_at "fact")))
local macro_rules | `(tactic| walk_at "go") => `(tactic| ((with_reducible refine' Hx.c_great ?hp ?_); (case hp => walk_at "fact"); (intro v H' s g)))
local macro_rules | `(tactic| walk_at "go") => `(tactic| ((with_reducible refine' Hx.c_rest ?hp ?_); (case hp => walk_at "fact")))
local macro_rules | `(tactic| walk_at "go") => `(tactic| ((with_reducible refine' Hx.c__law_step ?hp ?hq ?_); (case hp => omega); (case hq => omega); (intro v H' s g)))
local macro_rules | `(tactic| walk_at "go") => `(tactic| with_reducible refine Hx.c__law_is_great ?_)
local macro_rules | `(tactic| walk_at "go") => `(tactic| ((with_reducible refine' Hx.c_step ?hp ?hq ?_); (case hp => omega); (case hq => omega); (intro v g)))
local macro_rules | `(tactic| walk_at "go") => `(tactic| ((with_reducible refine' Hx.c_rest_place ?hp ?hq ?_); (case hp => omega); (case hq => omega); (intro v H' s g)))
local macro_rules | `(tactic| walk_at "go") => `(tactic| ((with_reducible refine' Hx.c_centre ?hp ?_); (case hp => walk_at "fact"); (intro v H' s g)))
namespace Hx
open PySem PySem.Spec PyProof.Rows L2
theorem ok__law_number_by {P : Program} {w : World} {K : PySem.W.Frag} {mg : Str → Option Value} {base : Heap}  (F : Fn K mg "_law_number_by" "_law_number_by" s__law_number_by n__law_number_by_p) (T : Tx mg) : Ref P w K mg base CX0 1 "_law_number_by" n__law_number_by_p (sp__law_number_by K) := by
  refine F.ok sc__law_number_by (fun vs H Q E h => ?_) (fun f cdv A outer s H vs Q E hr h => ?_)
  · obtain ⟨i, rfl, _⟩ := h
    rfl
  · refine ⟨_, (pss_cons (ps_if (pt_cmpR op_eq (pe_op op_mod (pv 0) pe_int) pe_int (nomark _))
          (pss_one (ps_ret (pe_op op_add (pe_op op_sub (pe_op op_mod (pe_op op_fdiv (pv 0) pe_int) (pe_op op_sub (pe_op op_mul pe_int (pe_op op_pow pe_int pe_int)) pe_int)) (pe_op op_pow pe_int pe_int)) pe_int)))
          pss_nil)
        (pss_one (ps_ret (pe_op op_sub (pe_op op_mod (pe_op op_fdiv (pv 0) pe_int) pe_int) pe_int)))), ?_⟩
    try dsimp only [cxOf, Cx.nox, Cx.wish]
    obtain ⟨i, rfl, q⟩ := h
    walk_at "run"
    refine ite_d (fun e => ?_) (fun e => ?_)
    · walk_at "run"
      unfold numBy at q
      rw [if_pos e] at q
      exact q
    · walk_at "run"
      unfold numBy at q
      rw [if_neg e] at q
      exact q
end Hx
namespace Hx
open PySem PySem.Spec PyProof.Rows L2
theorem ok__law_place_by {P : Program} {w : World} {K : PySem.W.Frag} {mg : Str → Option Value} {base : Heap}  (F : Fn K mg "_law_place_by" "_law_place_by" s__law_place_by n__law_place_by_p) (T : Tx mg) (R__law_number_by : Ref P w K mg base CX0 1 "_law_number_by" n__law_number_by_p (sp__law_number_by K)) : Ref P w K mg base CX0 2 "_law_place_by" n__law_place_by_p (sp__law_place_by K) := by
  refine F.ok sc__law_place_by (fun vs H Q E h => ?_) (fun f cdv A outer s H vs Q E hr h => ?_)
  · obtain ⟨i, j, rfl, _⟩ := h
    rfl
  · refine ⟨_, (pss_one (ps_ret (pe_tup (pa_cons (pe_fn R__law_number_by (hr.mono (by decide)) (pa_cons (pv 0) pa_nil)) (pa_cons (pe_fn R__law_number_by (hr.mono (by decide)) (pa_cons (pv 1) pa_nil)) pa_nil))))), ?_⟩
    try dsimp only [cxOf, Cx.nox, Cx.wish]
    obtain ⟨i, j, rfl, q⟩ := h
    walk_at "run"
    exact q _ _ (by walk_at "same") (by walk_at "fact")
end Hx
namespace Hx
open PySem PySem.Spec PyProof.Rows L2
theorem ok__law_cell_at {P : Program} {w : World} {K : PySem.W.Frag} {mg : Str → Option Value} {base : Heap}  (F : Fn K mg "_law_cell_at" "_law_cell_at" s__law_cell_at n__law_cell_at_p) (T : Tx mg) : Ref P w K mg base CX0 1 "_law_cell_at" n__law_cell_at_p (sp__law_cell_at K) := by
  refine F.ok sc__law_cell_at (fun vs H Q E h => ?_) (fun f cdv A outer s H vs Q E hr h => ?_)
  · obtain ⟨a, ns, k, rfl, _⟩ := h
    rfl
  · refine ⟨_, (pss_cons (ps_if (pt_cmpR op_lt (pv 1) (pe_callB cl_len (by rfl) T.b_len (by decide +kernel) (pa_cons (pv 0) pa_nil)) (nomark _))
          (pss_one (ps_ret (pe_ix ix_list (pv 0) (pv 1) (fun _ _ => rfl))))
          pss_nil)
        (pss_one (ps_ret pe_int))), ?_⟩
    try dsimp only [cxOf, Cx.nox, Cx.wish]
    obtain ⟨a, ns, k, rfl, hS, hk, q⟩ := h
    walk_at "run"
    refine ite_d (fun e => ?_) (fun e => ?_)
    · rw [List.length_map] at e
      have hg : atI (ns.map V.int) k = some (.int (ns.getD k.toNat 0)) := by
        refine at_of (j := k.toNat) (by omega) ?_
        have hl : k.toNat < ns.length := by omega
        rw [List.getElem?_map, List.getElem?_eq_getElem hl, List.getD_eq_getElem?_getD, List.getElem?_eq_getElem hl]
        rfl
      walk_at "run"
      unfold cellAt at q
      rw [if_pos e] at q
      exact q
    · rw [List.length_map] at e
      walk_at "run"
      unfold cellAt at q
      rw [if_neg e] at q
      exact q
end Hx
namespace Hx
open PySem PySem.Spec PyProof.Rows L2
theorem ok__law_whole {P : Program} {w : World} {K : PySem.W.Frag} {mg : Str → Option Value} {base : Heap}  (F : Fn K mg "_law_whole" "_law_whole" s__law_whole n__law_whole_p) (T : Tx mg) : Ref P w K mg base CX0 1 "_law_whole" n__law_whole_p (sp__law_whole K) := by
  refine F.ok sc__law_whole (fun vs H Q E h => ?_) (fun f cdv A outer s H vs Q E hr h => ?_)
  · obtain ⟨i, rfl, _⟩ := h
    rfl
  · refine ⟨_, (pss_one (ps_ret (pe_and (pe_callB call_isi (by rfl) T.b_isinstance (by decide +kernel) (pa_cons (pv 0) (pa_cons (pe_bltn (v := .ty "int") (by rfl) T.b_int (by decide +kernel) rfl) pa_nil))) (pe_one (pe_not (pe_callB call_isi (by rfl) T.b_isinstance (by decide +kernel) (pa_cons (pv 0) (pa_cons (pe_bltn (v := .ty "bool") (by rfl) T.b_bool (by decide +kernel) rfl) pa_nil)))))))), ?_⟩
    try dsimp only [cxOf, Cx.nox, Cx.wish]
    obtain ⟨i, rfl, q⟩ := h
    walk_at "run"
    exact q
end Hx
namespace Hx
open PySem PySem.Spec PyProof.Rows L2
theorem ok__law_place_alike {P : Program} {w : World} {K : PySem.W.Frag} {mg : Str → Option Value} {base : Heap}  (F : Fn K mg "_law_place_alike" "_law_place_alike" s__law_place_alike n__law_place_alike_p) (T : Tx mg) (R__law_whole : Ref P w K mg base CX0 1 "_law_whole" n__law_whole_p (sp__law_whole K)) : Ref P w K mg base CX0 2 "_law_place_alike" n__law_place_alike_p (sp__law_place_alike K) := by
  refine F.ok sc__law_place_alike (fun vs H Q E h => ?_) (fun f cdv A outer s H vs Q E hr h => ?_)
  · obtain ⟨v1, v2, p1, p2, rfl, _⟩ := h
    rfl
  · refine ⟨_, (pss_cons (ps_if (PW.pt (pw_or (pt_not (pt_val (pe_callB call_isi (by rfl) T.b_isinstance (by decide +kernel) (pa_cons (pv 0) (pa_cons (pe_bltn (v := .ty "tuple") (by rfl) T.b_tuple (by decide +kernel) rfl) pa_nil))))) (pw_or (pt_cmpR op_ne (pe_callB cl_len (by rfl) T.b_len (by decide +kernel) (pa_cons (pv 0) pa_nil)) pe_int (nomark _)) (pw_or (pt_not (pt_val (pe_fn R__law_whole (hr.mono (by decide)) (pa_cons (pe_ix ix_tup (pv 0) pe_int (fun _ _ => rfl)) pa_nil)))) (pw_or1 (pt_not (pt_val (pe_fn R__law_whole (hr.mono (by decide)) (pa_cons (pe_ix ix_tup (pv 0) pe_int (fun _ _ => rfl)) pa_nil)))))))))
          (pss_one (ps_ret pe_bl))
          pss_nil)
        (pss_one (ps_ret (pe_cmpR (op_eqD hr.units) (pv 0) (pv 1) (nomark _))))), ?_⟩
    try dsimp only [cxOf, Cx.nox, Cx.wish]
    obtain ⟨v1, v2, p1, p2, rfl, h1, h2, q⟩ := h
    walk_at "run"
    exact q
end Hx
namespace Hx
open PySem PySem.Spec PyProof.Rows L2
theorem ok_great {P : Program} {w : World} {K : PySem.W.Frag} {mg : Str → Option Value} {base : Heap}  (F : Fn K mg "great" "great" s_great n_great_p) (T : Tx mg) : Ref P w K mg base CX0 1 "great" n_great_p (sp_great K) := by
  refine F.ok sc_great (fun vs H Q E h => ?_) (fun f cdv A outer s H vs Q E hr h => ?_)
  · obtain ⟨v1, p1, rfl, _⟩ := h
    rfl
  · refine ⟨_, (pss_one (ps_ret (pe_tup (pa_cons (pe_op op_sub (pe_op op_mul pe_int (pe_ix ix_tup (pv 0) pe_int (fun _ _ => rfl))) (pe_ix ix_tup (pv 0) pe_int (fun _ _ => rfl))) (pa_cons (pe_op op_add (pe_ix ix_tup (pv 0) pe_int (fun _ _ => rfl)) (pe_op op_mul pe_int (pe_ix ix_tup (pv 0) pe_int (fun _ _ => rfl)))) pa_nil))))), ?_⟩
    try dsimp only [cxOf, Cx.nox, Cx.wish]
    obtain ⟨v1, p1, rfl, h1, q⟩ := h
    walk_at "run"
    exact q _ _ (by walk_at "same") (by exact Pl.new)
end Hx
namespace Hx
open PySem PySem.Spec PyProof.Rows L2
theorem ok_rest {P : Program} {w : World} {K : PySem.W.Frag} {mg : Str → Option Value} {base : Heap} {a_FIGURES : Addr} (F : Fn K mg "rest" "rest" s_rest n_rest_p) (T : Tx mg) (g_FIGURES : mg "FIGURES" = some (.ref a_FIGURES)) (k_FIGURES : G_FIGURES K a_FIGURES) : Ref P w K mg base CX0 1 "rest" n_rest_p (sp_rest K) := by
  refine F.ok sc_rest (fun vs H Q E h => ?_) (fun f cdv A outer s H vs Q E hr h => ?_)
  · obtain ⟨v1, p1, rfl, _⟩ := h
    rfl
  · refine ⟨_, (pss_one (ps_ret (pe_ix ix_tup (pe_glob (v := .ref a_FIGURES) rfl g_FIGURES rfl) (pe_op op_mod (pe_op op_add (pe_ix ix_tup (pv 0) pe_int (fun _ _ => rfl)) (pe_op op_mul pe_int (pe_ix ix_tup (pv 0) pe_int (fun _ _ => rfl)))) pe_int) (fun _ _ => rfl)))), ?_⟩
    try dsimp only [cxOf, Cx.nox, Cx.wish]
    obtain ⟨v1, p1, rfl, h1, q⟩ := h
    walk_at "run"
    exact r_ixTn (k_FIGURES _) (by omega) (by show _ < (7 : Int); omega) q
end Hx
namespace Hx
open PySem PySem.Spec PyProof.Rows L2
theorem ok__law_step {P : Program} {w : World} {K : PySem.W.Frag} {mg : Str → Option Value} {base : Heap}  (F : Fn K mg "_law_step" "_law_step" s__law_step n__law_step_p) (T : Tx mg) : Ref P w K mg base CX0 1 "_law_step" n__law_step_p (sp__law_step K) := by
  refine F.ok sc__law_step (fun vs H Q E h => ?_) (fun f cdv A outer s H vs Q E hr h => ?_)
  · obtain ⟨d, rfl, _⟩ := h
    rfl
  · refine ⟨_, (pss_one (ps_ret (pe_ix ix_list (pe_lst (pa_cons (pe_tup (pa_cons pe_int (pa_cons pe_int pa_nil))) (pa_cons (pe_tup (pa_cons pe_int (pa_cons pe_int pa_nil))) (pa_cons (pe_tup (pa_cons pe_int (pa_cons pe_int pa_nil))) (pa_cons (pe_tup (pa_cons (pe_un un_neg pe_int) (pa_cons pe_int pa_nil))) (pa_cons (pe_tup (pa_cons (pe_un un_neg pe_int) (pa_cons pe_int pa_nil))) (pa_cons (pe_tup (pa_cons pe_int (pa_cons (pe_un un_neg pe_int) pa_nil))) (pa_cons (pe_tup (pa_cons pe_int (pa_cons (pe_un un_neg pe_int) pa_nil))) pa_nil)))))))) (pv 0) (fun _ _ => rfl)))), ?_⟩
    try dsimp only [cxOf, Cx.nox, Cx.wish]
    obtain ⟨f, rfl, h0, h1, q⟩ := h
    obtain rfl | rfl | rfl | rfl | rfl | rfl | rfl := fig_cases h0 h1 <;>
      (walk_at "run"; refine q _ _ (by walk_at "same") ?_;
       (first | rw [show restPlace 0 = ((0 : Int), (0 : Int)) from rfl] | rw [show restPlace 1 = ((1 : Int), (0 : Int)) from rfl] | rw [show restPlace 2 = ((0 : Int), (1 : Int)) from rfl] | rw [show restPlace 3 = ((-1 : Int), (1 : Int)) from rfl] | rw [show restPlace 4 = ((-1 : Int), (0 : Int)) from rfl] | rw [show restPlace 5 = ((0 : Int), (-1 : Int)) from rfl] | rw [show restPlace 6 = ((1 : Int), (-1 : Int)) from rfl]);
       walk_at "fact")
end Hx
namespace Hx
open PySem PySem.Spec PyProof.Rows L2
theorem ok__law_is_great {P : Program} {w : World} {K : PySem.W.Frag} {mg : Str → Option Value} {base : Heap}  (F : Fn K mg "_law_is_great" "_law_is_great" s__law_is_great n__law_is_great_p) (T : Tx mg) : Ref P w K mg base CX0 1 "_law_is_great" n__law_is_great_p (sp__law_is_great K) := by
  refine F.ok sc__law_is_great (fun vs H Q E h => ?_) (fun f cdv A outer s H vs Q E hr h => ?_)
  · obtain ⟨q, r, rfl, _⟩ := h
    rfl
  · refine ⟨_, (pss_one (ps_ret (pe_and (pe_cmpR op_eq (pe_op op_mod (pe_op op_add (pe_op op_mul pe_int (pv 0)) (pv 1)) pe_int) pe_int (nomark _)) (pe_one (pe_cmpR op_eq (pe_op op_mod (pe_op op_sub (pe_op op_mul pe_int (pv 1)) (pv 0)) pe_int) pe_int (nomark _)))))), ?_⟩
    try dsimp only [cxOf, Cx.nox, Cx.wish]
    obtain ⟨q, r, rfl, k⟩ := h
    unfold isGreat at k
    walk_at "run"
    refine ite_d (fun e => ?_) (fun e => ?_)
    · rw [decide_eq_true e] at k
      walk_at "run"
      exact k
    · rw [decide_eq_false e] at k
      walk_at "run"
      exact k
end Hx
namespace Hx
open PySem PySem.Spec PyProof.Rows L2
theorem ok_step {P : Program} {w : World} {K : PySem.W.Frag} {mg : Str → Option Value} {base : Heap} {a_STEPS : Addr} (F : Fn K mg "step" "step" s_step n_step_p) (T : Tx mg) (g_STEPS : mg "STEPS" = some (.ref a_STEPS)) (k_STEPS : G_STEPS K a_STEPS) : Ref P w K mg base CX0 1 "step" n_step_p (sp_step K) := by
  refine F.ok sc_step (fun vs H Q E h => ?_) (fun f cdv A outer s H vs Q E hr h => ?_)
  · obtain ⟨d, rfl, _⟩ := h
    rfl
  · refine ⟨_, (pss_cons (ps_if (pt_not (pt_chain op_le op_le pe_int (pv 0) pe_int))
          (pss_one ps_never)
          pss_nil)
        (pss_one (ps_ret (pe_ix ix_tup (pe_glob (v := .ref a_STEPS) rfl g_STEPS rfl) (pe_op op_sub (pv 0) pe_int) (fun _ _ => rfl))))), ?_⟩
    try dsimp only [cxOf, Cx.nox, Cx.wish]
    obtain ⟨d, rfl, h0, h1, q⟩ := h
    obtain ⟨vs, hA, hB⟩ := k_STEPS
    have hi : steps[(d - 1).toNat]? = some (stepOf d) := by
      have hl : (d - 1).toNat < steps.length := by show _ < 6; omega
      unfold stepOf
      rw [List.getD_eq_getElem?_getD, List.getElem?_eq_getElem hl]
      rfl
    obtain ⟨v, hv, hp⟩ := pr_get' (hB H) hi
    walk_at "run"
    exact r_ixT (hA _) (at_of (j := (d - 1).toNat) (by omega) hv) (q v hp)
end Hx
namespace Hx
open PySem PySem.Spec PyProof.Rows L2
theorem ok_rest_place {P : Program} {w : World} {K : PySem.W.Frag} {mg : Str → Option Value} {base : Heap}  (F : Fn K mg "rest_place" "rest_place" s_rest_place n_rest_place_p) (T : Tx mg) (R_step : Ref P w K mg base CX0 1 "step" n_step_p (sp_step K)) : Ref P w K mg base CX0 2 "rest_place" n_rest_place_p (sp_rest_place K) := by
  refine F.ok sc_rest_place (fun vs H Q E h => ?_) (fun f cdv A outer s H vs Q E hr h => ?_)
  · obtain ⟨d, rfl, _⟩ := h
    rfl
  · refine ⟨_, (pss_cons (ps_if (pt_cmpR op_eq (pv 0) pe_int (nomark _))
          (pss_one (ps_ret (pe_tup (pa_cons pe_int (pa_cons pe_int pa_nil)))))
          pss_nil)
        (pss_one (ps_ret (pe_fn R_step (hr.mono (by decide)) (pa_cons (pv 0) pa_nil))))), ?_⟩
    try dsimp only [cxOf, Cx.nox, Cx.wish]
    obtain ⟨f, rfl, h0, h1, q⟩ := h
    walk_at "run"
    refine ite_d (fun e => ?_) (fun e => ?_)
    · subst e
      walk_at "run"
      exact q _ _ (by walk_at "same") (by exact Pl.new)
    · walk_at "run"
      refine q _ _ (Same.refl _) ?_
      unfold restPlace
      rw [if_neg e]
      assumption
end Hx
namespace Hx
open PySem PySem.Spec PyProof.Rows L2
theorem ok_centre {P : Program} {w : World} {K : PySem.W.Frag} {mg : Str → Option Value} {base : Heap}  (F : Fn K mg "centre" "centre" s_centre n_centre_p) (T : Tx mg) (R_rest_place : Ref P w K mg base CX0 2 "rest_place" n_rest_place_p (sp_rest_place K)) (R_rest : Ref P w K mg base CX0 1 "rest" n_rest_p (sp_rest K)) : Ref P w K mg base CX0 3 "centre" n_centre_p (sp_centre K) := by
  refine F.ok sc_centre (fun vs H Q E h => ?_) (fun f cdv A outer s H vs Q E hr h => ?_)
  · obtain ⟨v1, p1, rfl, _⟩ := h
    rfl
  · refine ⟨_, (pss_cons (ps_set (i := 1) sc_centre.nd rfl (Or.inl rfl) (pe_fn R_rest_place (hr.mono (by decide)) (pa_cons (pe_fn R_rest (hr.mono (by decide)) (pa_cons (pv 0) pa_nil)) pa_nil)))
        (pss_cons (ps_set (i := 2) sc_centre.nd rfl (Or.inl rfl) (pe_op op_sub (pe_ix ix_tup (pv 0) pe_int (fun _ _ => rfl)) (pe_ix ix_tup (pv 1) pe_int (fun _ _ => rfl))))
        (pss_cons (ps_set (i := 3) sc_centre.nd rfl (Or.inl rfl) (pe_op op_sub (pe_ix ix_tup (pv 0) pe_int (fun _ _ => rfl)) (pe_ix ix_tup (pv 1) pe_int (fun _ _ => rfl))))
        (pss_one (ps_ret (pe_tup (pa_cons (pe_op op_fdiv (pe_op op_add (pe_op op_mul pe_int (pv 2)) (pv 3)) pe_int) (pa_cons (pe_op op_fdiv (pe_op op_sub (pe_op op_mul pe_int (pv 3)) (pv 2)) pe_int) pa_nil)))))))), ?_⟩
    try dsimp only [cxOf, Cx.nox, Cx.wish]
    obtain ⟨v1, p1, rfl, h1, q⟩ := h
    have hr0 := (rest_range p1).1
    have hr1 := (rest_range p1).2
    walk_at "run"
    exact q _ _ (by walk_at "same") (by exact Pl.new)
end Hx
namespace Hx
open PySem PySem.Spec PyProof.Rows L2
theorem okF_law {P : Program} {w : World} {K : PySem.W.Frag} {mg : Str → Option Value} {base : Heap}  {fa : Addr} {fd : FuncData} (F : Fun K "law" "law" s_law fa fd) (T : Tx mg) (R__law_place_by : Ref P w K mg base CX0 2 "_law_place_by" n__law_place_by_p (sp__law_place_by K)) (R__law_cell_at : Ref P w K mg base CX0 1 "_law_cell_at" n__law_cell_at_p (sp__law_cell_at K)) (R__law_place_alike : Ref P w K mg base CX0 2 "_law_place_alike" n__law_place_alike_p (sp__law_place_alike K)) (R_great : Ref P w K mg base CX0 1 "great" n_great_p (sp_great K)) (R_rest : Ref P w K mg base CX0 1 "rest" n_rest_p (sp_rest K)) (R__law_whole : Ref P w K mg base CX0 1 "_law_whole" n__law_whole_p (sp__law_whole K)) (R__law_step : Ref P w K mg base CX0 1 "_law_step" n__law_step_p (sp__law_step K)) (R__law_is_great : Ref P w K mg base CX0 1 "_law_is_great" n__law_is_great_p (sp__law_is_great K)) (R_centre : Ref P w K mg base CX0 3 "centre" n_centre_p (sp_centre K)) : FnOk P w K mg base CX0 4 fa fd n_law_p (sp_law K) := by
  refine F.ok sc_law (fun vs H Q E h => ?_) (fun cdv A outer s H vs Q E hr h => ?_)
  · obtain ⟨a, ns, rfl, _⟩ := h
    rfl
  · refine ⟨_, (pss_cons (ps_set (i := 1) sc_law.nd rfl (Or.inl rfl) (pe_fn R__law_place_by (hr.mono (by decide)) (pa_cons (pe_fn R__law_cell_at (hr.mono (by decide)) (pa_cons (pv 0) (pa_cons pe_int pa_nil))) (pa_cons (pe_fn R__law_cell_at (hr.mono (by decide)) (pa_cons (pv 0) (pa_cons pe_int pa_nil))) pa_nil))))
        (pss_cons (ps_if (pt_not (pt_val (pe_fn R__law_place_alike (hr.mono (by decide)) (pa_cons (pe_fn R_great (hr.mono (by decide)) (pa_cons (pv 1) pa_nil)) (pa_cons (pe_tup (pa_cons (pe_op op_sub (pe_op op_mul pe_int (pe_ix ix_tup (pv 1) pe_int (fun _ _ => rfl))) (pe_ix ix_tup (pv 1) pe_int (fun _ _ => rfl))) (pa_cons (pe_op op_add (pe_ix ix_tup (pv 1) pe_int (fun _ _ => rfl)) (pe_op op_mul pe_int (pe_ix ix_tup (pv 1) pe_int (fun _ _ => rfl)))) pa_nil))) pa_nil)))))
          (pss_one (ps_ret pe_bl))
          pss_nil)
        (pss_cons (ps_set (i := 2) sc_law.nd rfl (Or.inl rfl) (pe_fn R_rest (hr.mono (by decide)) (pa_cons (pv 1) pa_nil)))
        (pss_cons (ps_if (PW.pt (pw_or (pt_not (pt_val (pe_fn R__law_whole (hr.mono (by decide)) (pa_cons (pv 2) pa_nil)))) (pw_or1 (pt_not (pt_chain op_le op_le pe_int (pv 2) pe_int)))))
          (pss_one (ps_ret pe_bl))
          pss_nil)
        (pss_cons (ps_for PassesOwn.never rfl (pi_range1 (by rfl) T.b_range (pa_cons pe_int pa_nil)) (pg_name (i := 3) sc_law.nd rfl (Or.inl rfl))
          (pss_cons (ps_set (i := 4) sc_law.nd rfl (Or.inl rfl) (pe_fn R__law_step (hr.mono (by decide)) (pa_cons (pv 3) pa_nil)))
        (pss_one (ps_if (pt_cmpR op_ne (pe_fn R__law_is_great (hr.mono (by decide)) (pa_cons (pe_op op_sub (pe_ix ix_tup (pv 1) pe_int (fun _ _ => rfl)) (pe_ix ix_tup (pv 4) pe_int (fun _ _ => rfl))) (pa_cons (pe_op op_sub (pe_ix ix_tup (pv 1) pe_int (fun _ _ => rfl)) (pe_ix ix_tup (pv 4) pe_int (fun _ _ => rfl))) pa_nil))) (pe_cmpR op_eq (pv 3) (pv 2) (nomark _)) (nomark _))
          (pss_one (ps_ret pe_bl))
          pss_nil))))
        (pss_cons (ps_set (i := 5) sc_law.nd rfl (Or.inl rfl) (pe_fn R_centre (hr.mono (by decide)) (pa_cons (pv 1) pa_nil)))
        (pss_cons (ps_if (pt_not (pt_val (pe_fn R__law_place_alike (hr.mono (by decide)) (pa_cons (pv 5) (pa_cons (pe_callTy cl_tuple (by rfl) T.b_tuple (by decide +kernel) (pa_cons (pv 5) pa_nil)) pa_nil)))))
          (pss_one (ps_ret pe_bl))
          pss_nil)
        (pss_cons (ps_set (i := 4) sc_law.nd rfl (Or.inl rfl) (pe_fn R__law_step (hr.mono (by decide)) (pa_cons (pv 2) pa_nil)))
        (pss_one (ps_ret (pe_cmpR (op_eqD hr.units) (pe_fn R_great (hr.mono (by decide)) (pa_cons (pv 5) pa_nil)) (pe_tup (pa_cons (pe_op op_sub (pe_ix ix_tup (pv 1) pe_int (fun _ _ => rfl)) (pe_ix ix_tup (pv 4) pe_int (fun _ _ => rfl))) (pa_cons (pe_op op_sub (pe_ix ix_tup (pv 1) pe_int (fun _ _ => rfl)) (pe_ix ix_tup (pv 4) pe_int (fun _ _ => rfl))) pa_nil))) (nomark _)))))))))))), ?_⟩
    try dsimp only [cxOf, Cx.nox, Cx.wish]
    obtain ⟨a, ns, rfl, hS, hlen, q⟩ := h
    have hr := rest_range (numBy (cellAt ns 0), numBy (cellAt ns 1))
    have hr0 := hr.1
    have hr1 := hr.2
    clear hr
    walk_at "run"
    rename_i vp H0 s0 gp vg H1 sg gg p0 hp0
    refine f_range (fun i σ H' => ∃ y3 y4 y5, σ = [some (.ref a), some vp, some (.int (restOf (numBy (cellAt ns 0), numBy (cellAt ns 1)))), y3, y4, y5] ∧ Same H0 H') ⟨none, none, none, rfl, by walk_at "same"⟩ ?_ ?_
    · rintro i σ H2 hi ⟨y3, y4, y5, rfl, s2⟩
      have hi7 : i < 7 := hi
      walk_at "run"
      rw [isGreat_rest _ (f := 0 + (i : Int)) (by omega) (by omega)]
      walk_at "run"
      exact ⟨_, _, _, rfl, by walk_at "same"⟩
    · rintro σ H2 ⟨y3, y4, y5, rfl, s2⟩
      walk_at "run"
      exact fin_of (q _) (decide_eq_true (great_centre _))
end Hx
namespace Hx
open PySem PySem.Spec PyProof.Rows L2
theorem all_mk {P : Program} {w : World} {K : PySem.W.Frag} {h : Heap} {mg : Str → Option Value} {fa : Addr} (X : K.In h) (G : h.Ns mainGlobals mg) (hfa : mg "law" = some (.ref fa))
    {od__law_number_by an__law_number_by : Option Addr} {sl__law_number_by : Array (Option Value)} {oc__law_number_by kV__law_number_by dc__law_number_by pm__law_number_by cd__law_number_by ct__law_number_by : Value} {f__law_number_by : Addr}
    {od__law_place_by an__law_place_by : Option Addr} {sl__law_place_by : Array (Option Value)} {oc__law_place_by kV__law_place_by dc__law_place_by pm__law_place_by cd__law_place_by ct__law_place_by : Value} {f__law_place_by : Addr}
    {od__law_cell_at an__law_cell_at : Option Addr} {sl__law_cell_at : Array (Option Value)} {oc__law_cell_at kV__law_cell_at dc__law_cell_at pm__law_cell_at cd__law_cell_at ct__law_cell_at : Value} {f__law_cell_at : Addr}
    {od__law_whole an__law_whole : Option Addr} {sl__law_whole : Array (Option Value)} {oc__law_whole kV__law_whole dc__law_whole pm__law_whole cd__law_whole ct__law_whole : Value} {f__law_whole : Addr}
    {od__law_place_alike an__law_place_alike : Option Addr} {sl__law_place_alike : Array (Option Value)} {oc__law_place_alike kV__law_place_alike dc__law_place_alike pm__law_place_alike cd__law_place_alike ct__law_place_alike : Value} {f__law_place_alike : Addr}
    {od_great an_great : Option Addr} {sl_great : Array (Option Value)} {oc_great kV_great dc_great pm_great cd_great ct_great : Value} {f_great : Addr}
    {od_rest an_rest : Option Addr} {sl_rest : Array (Option Value)} {oc_rest kV_rest dc_rest pm_rest cd_rest ct_rest : Value} {f_rest : Addr}
    {od__law_step an__law_step : Option Addr} {sl__law_step : Array (Option Value)} {oc__law_step kV__law_step dc__law_step pm__law_step cd__law_step ct__law_step : Value} {f__law_step : Addr}
    {od__law_is_great an__law_is_great : Option Addr} {sl__law_is_great : Array (Option Value)} {oc__law_is_great kV__law_is_great dc__law_is_great pm__law_is_great cd__law_is_great ct__law_is_great : Value} {f__law_is_great : Addr}
    {od_step an_step : Option Addr} {sl_step : Array (Option Value)} {oc_step kV_step dc_step pm_step cd_step ct_step : Value} {f_step : Addr}
    {od_rest_place an_rest_place : Option Addr} {sl_rest_place : Array (Option Value)} {oc_rest_place kV_rest_place dc_rest_place pm_rest_place cd_rest_place ct_rest_place : Value} {f_rest_place : Addr}
    {od_centre an_centre : Option Addr} {sl_centre : Array (Option Value)} {oc_centre kV_centre dc_centre pm_centre cd_centre ct_centre : Value} {f_centre : Addr}
    {od_law an_law : Option Addr} {sl_law : Array (Option Value)} {oc_law kV_law dc_law pm_law cd_law ct_law : Value} {f_law : Addr}
    (a__law_number_by : PySem.W.nsIn K mainGlobals "_law_number_by" = some (some (.ref f__law_number_by))) (l__law_number_by : K.lookup f__law_number_by = some ⟨oc__law_number_by, od__law_number_by, .func (PySem.W.fnOf "_law_number_by" "_law_number_by" (defArgs s__law_number_by) (defBody s__law_number_by) (defScope s__law_number_by) .none kV__law_number_by dc__law_number_by pm__law_number_by an__law_number_by cd__law_number_by ct__law_number_by), sl__law_number_by⟩) (c__law_number_by : PySem.W.codeIn K cd__law_number_by "_law_number_by" = true) (k__law_number_by : PySem.W.keepIn K (.ref f__law_number_by) = true)
    (a__law_place_by : PySem.W.nsIn K mainGlobals "_law_place_by" = some (some (.ref f__law_place_by))) (l__law_place_by : K.lookup f__law_place_by = some ⟨oc__law_place_by, od__law_place_by, .func (PySem.W.fnOf "_law_place_by" "_law_place_by" (defArgs s__law_place_by) (defBody s__law_place_by) (defScope s__law_place_by) .none kV__law_place_by dc__law_place_by pm__law_place_by an__law_place_by cd__law_place_by ct__law_place_by), sl__law_place_by⟩) (c__law_place_by : PySem.W.codeIn K cd__law_place_by "_law_place_by" = true) (k__law_place_by : PySem.W.keepIn K (.ref f__law_place_by) = true)
    (a__law_cell_at : PySem.W.nsIn K mainGlobals "_law_cell_at" = some (some (.ref f__law_cell_at))) (l__law_cell_at : K.lookup f__law_cell_at = some ⟨oc__law_cell_at, od__law_cell_at, .func (PySem.W.fnOf "_law_cell_at" "_law_cell_at" (defArgs s__law_cell_at) (defBody s__law_cell_at) (defScope s__law_cell_at) .none kV__law_cell_at dc__law_cell_at pm__law_cell_at an__law_cell_at cd__law_cell_at ct__law_cell_at), sl__law_cell_at⟩) (c__law_cell_at : PySem.W.codeIn K cd__law_cell_at "_law_cell_at" = true) (k__law_cell_at : PySem.W.keepIn K (.ref f__law_cell_at) = true)
    (a__law_whole : PySem.W.nsIn K mainGlobals "_law_whole" = some (some (.ref f__law_whole))) (l__law_whole : K.lookup f__law_whole = some ⟨oc__law_whole, od__law_whole, .func (PySem.W.fnOf "_law_whole" "_law_whole" (defArgs s__law_whole) (defBody s__law_whole) (defScope s__law_whole) .none kV__law_whole dc__law_whole pm__law_whole an__law_whole cd__law_whole ct__law_whole), sl__law_whole⟩) (c__law_whole : PySem.W.codeIn K cd__law_whole "_law_whole" = true) (k__law_whole : PySem.W.keepIn K (.ref f__law_whole) = true)
    (a__law_place_alike : PySem.W.nsIn K mainGlobals "_law_place_alike" = some (some (.ref f__law_place_alike))) (l__law_place_alike : K.lookup f__law_place_alike = some ⟨oc__law_place_alike, od__law_place_alike, .func (PySem.W.fnOf "_law_place_alike" "_law_place_alike" (defArgs s__law_place_alike) (defBody s__law_place_alike) (defScope s__law_place_alike) .none kV__law_place_alike dc__law_place_alike pm__law_place_alike an__law_place_alike cd__law_place_alike ct__law_place_alike), sl__law_place_alike⟩) (c__law_place_alike : PySem.W.codeIn K cd__law_place_alike "_law_place_alike" = true) (k__law_place_alike : PySem.W.keepIn K (.ref f__law_place_alike) = true)
    (a_great : PySem.W.nsIn K mainGlobals "great" = some (some (.ref f_great))) (l_great : K.lookup f_great = some ⟨oc_great, od_great, .func (PySem.W.fnOf "great" "great" (defArgs s_great) (defBody s_great) (defScope s_great) .none kV_great dc_great pm_great an_great cd_great ct_great), sl_great⟩) (c_great : PySem.W.codeIn K cd_great "great" = true) (k_great : PySem.W.keepIn K (.ref f_great) = true)
    (a_rest : PySem.W.nsIn K mainGlobals "rest" = some (some (.ref f_rest))) (l_rest : K.lookup f_rest = some ⟨oc_rest, od_rest, .func (PySem.W.fnOf "rest" "rest" (defArgs s_rest) (defBody s_rest) (defScope s_rest) .none kV_rest dc_rest pm_rest an_rest cd_rest ct_rest), sl_rest⟩) (c_rest : PySem.W.codeIn K cd_rest "rest" = true) (k_rest : PySem.W.keepIn K (.ref f_rest) = true)
    (a__law_step : PySem.W.nsIn K mainGlobals "_law_step" = some (some (.ref f__law_step))) (l__law_step : K.lookup f__law_step = some ⟨oc__law_step, od__law_step, .func (PySem.W.fnOf "_law_step" "_law_step" (defArgs s__law_step) (defBody s__law_step) (defScope s__law_step) .none kV__law_step dc__law_step pm__law_step an__law_step cd__law_step ct__law_step), sl__law_step⟩) (c__law_step : PySem.W.codeIn K cd__law_step "_law_step" = true) (k__law_step : PySem.W.keepIn K (.ref f__law_step) = true)
    (a__law_is_great : PySem.W.nsIn K mainGlobals "_law_is_great" = some (some (.ref f__law_is_great))) (l__law_is_great : K.lookup f__law_is_great = some ⟨oc__law_is_great, od__law_is_great, .func (PySem.W.fnOf "_law_is_great" "_law_is_great" (defArgs s__law_is_great) (defBody s__law_is_great) (defScope s__law_is_great) .none kV__law_is_great dc__law_is_great pm__law_is_great an__law_is_great cd__law_is_great ct__law_is_great), sl__law_is_great⟩) (c__law_is_great : PySem.W.codeIn K cd__law_is_great "_law_is_great" = true) (k__law_is_great : PySem.W.keepIn K (.ref f__law_is_great) = true)
    (a_step : PySem.W.nsIn K mainGlobals "step" = some (some (.ref f_step))) (l_step : K.lookup f_step = some ⟨oc_step, od_step, .func (PySem.W.fnOf "step" "step" (defArgs s_step) (defBody s_step) (defScope s_step) .none kV_step dc_step pm_step an_step cd_step ct_step), sl_step⟩) (c_step : PySem.W.codeIn K cd_step "step" = true) (k_step : PySem.W.keepIn K (.ref f_step) = true)
    (a_rest_place : PySem.W.nsIn K mainGlobals "rest_place" = some (some (.ref f_rest_place))) (l_rest_place : K.lookup f_rest_place = some ⟨oc_rest_place, od_rest_place, .func (PySem.W.fnOf "rest_place" "rest_place" (defArgs s_rest_place) (defBody s_rest_place) (defScope s_rest_place) .none kV_rest_place dc_rest_place pm_rest_place an_rest_place cd_rest_place ct_rest_place), sl_rest_place⟩) (c_rest_place : PySem.W.codeIn K cd_rest_place "rest_place" = true) (k_rest_place : PySem.W.keepIn K (.ref f_rest_place) = true)
    (a_centre : PySem.W.nsIn K mainGlobals "centre" = some (some (.ref f_centre))) (l_centre : K.lookup f_centre = some ⟨oc_centre, od_centre, .func (PySem.W.fnOf "centre" "centre" (defArgs s_centre) (defBody s_centre) (defScope s_centre) .none kV_centre dc_centre pm_centre an_centre cd_centre ct_centre), sl_centre⟩) (c_centre : PySem.W.codeIn K cd_centre "centre" = true) (k_centre : PySem.W.keepIn K (.ref f_centre) = true)
    (a_law : PySem.W.nsIn K mainGlobals "law" = some (some (.ref f_law))) (l_law : K.lookup f_law = some ⟨oc_law, od_law, .func (PySem.W.fnOf "law" "law" (defArgs s_law) (defBody s_law) (defScope s_law) .none kV_law dc_law pm_law an_law cd_law ct_law), sl_law⟩) (c_law : PySem.W.codeIn K cd_law "law" = true) (k_law : PySem.W.keepIn K (.ref f_law) = true)
    (z_len : PySem.W.nsIn K mainGlobals "len" = some none)
    (z_range : PySem.W.nsIn K mainGlobals "range" = some none)
    (z_list : PySem.W.nsIn K mainGlobals "list" = some none)
    (z_tuple : PySem.W.nsIn K mainGlobals "tuple" = some none)
    (z_max : PySem.W.nsIn K mainGlobals "max" = some none)
    (z_min : PySem.W.nsIn K mainGlobals "min" = some none)
    (z_abs : PySem.W.nsIn K mainGlobals "abs" = some none)
    (z_int : PySem.W.nsIn K mainGlobals "int" = some none)
    (z_bool : PySem.W.nsIn K mainGlobals "bool" = some none)
    (z_isinstance : PySem.W.nsIn K mainGlobals "isinstance" = some none)
    (z_sorted : PySem.W.nsIn K mainGlobals "sorted" = some none)
    (z_dict : PySem.W.nsIn K mainGlobals "dict" = some none)
    (z_ValueError : PySem.W.nsIn K mainGlobals "ValueError" = some none)
    {a_STEPS b1 b2 b3 b4 b5 b6 : Addr} {dS d1 d2 d3 d4 d5 d6 : Option Addr} {nS m1 m2 m3 m4 m5 m6 : Nat} {slS sl1 sl2 sl3 sl4 sl5 sl6 : Array (Option Value)} {t1 t2 t3 t4 t5 t6 u1 u2 u3 u4 u5 u6 : Tok}
(hSTEPS : PySem.W.nsIn K mainGlobals "STEPS" = some (some (.ref a_STEPS))) (hS0 : K.lookup a_STEPS = some ⟨.type "tuple", dS, .seq #[.ref b1, .ref b2, .ref b3, .ref b4, .ref b5, .ref b6] nS, slS⟩)
(hS1 : K.lookup b1 = some ⟨.type "tuple", d1, .seq #[.int 1 t1, .int 0 u1] m1, sl1⟩) (hS2 : K.lookup b2 = some ⟨.type "tuple", d2, .seq #[.int 0 t2, .int 1 u2] m2, sl2⟩) (hS3 : K.lookup b3 = some ⟨.type "tuple", d3, .seq #[.int (-1) t3, .int 1 u3] m3, sl3⟩)
(hS4 : K.lookup b4 = some ⟨.type "tuple", d4, .seq #[.int (-1) t4, .int 0 u4] m4, sl4⟩) (hS5 : K.lookup b5 = some ⟨.type "tuple", d5, .seq #[.int 0 t5, .int (-1) u5] m5, sl5⟩) (hS6 : K.lookup b6 = some ⟨.type "tuple", d6, .seq #[.int 1 t6, .int (-1) u6] m6, sl6⟩)
    {a_FIGURES : Addr} {dFIGURES : Option Addr} {nFIGURES : Nat} {slFIGURES : Array (Option Value)} {wF0 wF1 wF2 wF3 wF4 wF5 wF6 : Tok} (hFIGURES : PySem.W.nsIn K mainGlobals "FIGURES" = some (some (.ref a_FIGURES))) (hFIGURES0 : K.lookup a_FIGURES = some ⟨.type "tuple", dFIGURES, .seq #[.int 0 wF0, .int 1 wF1, .int 5 wF2, .int 6 wF3, .int 3 wF4, .int 2 wF5, .int 4 wF6] nFIGURES, slFIGURES⟩) :
    ∃ fd : FuncData, (∀ (s : Shared) (v : Value), BindsTo s fd ⟨[v], []⟩ [("script", v)]) ∧ ∀ base : Heap, K.In base → base.Ns mainGlobals mg → FnOk P w K mg base CX0 4 fa fd ["script"] (sp_law K) := by
  have e := hfa.symm.trans (PySem.W.mg_of X G a_law)
  cases e
  have T : Tx mg := ⟨PySem.W.mg_none_of X G z_len, PySem.W.mg_none_of X G z_range, PySem.W.mg_none_of X G z_list, PySem.W.mg_none_of X G z_tuple, PySem.W.mg_none_of X G z_max, PySem.W.mg_none_of X G z_min, PySem.W.mg_none_of X G z_abs, PySem.W.mg_none_of X G z_int, PySem.W.mg_none_of X G z_bool, PySem.W.mg_none_of X G z_isinstance, PySem.W.mg_none_of X G z_sorted, PySem.W.mg_none_of X G z_dict, PySem.W.mg_none_of X G z_ValueError⟩
  have g_STEPS : mg "STEPS" = some (.ref a_STEPS) := PySem.W.mg_of X G hSTEPS
  have k_STEPS : G_STEPS K a_STEPS := ⟨[.ref b1, .ref b2, .ref b3, .ref b4, .ref b5, .ref b6], fun H => .inr ⟨_, _, _, hS0, rfl, rfl, by show 6 ≤ sizeLine; decide, .cons rfl (.cons rfl (.cons rfl (.cons rfl (.cons rfl (.cons rfl .nil)))))⟩, fun H => .cons (written2 hS1 H) (.cons (written2 hS2 H) (.cons (written2 hS3 H) (.cons (written2 hS4 H) (.cons (written2 hS5 H) (.cons (written2 hS6 H) .nil)))))⟩
  have g_FIGURES : mg "FIGURES" = some (.ref a_FIGURES) := PySem.W.mg_of X G hFIGURES
  have k_FIGURES : G_FIGURES K a_FIGURES := fun H => .inr ⟨_, _, _, hFIGURES0, rfl, rfl, by show 7 ≤ sizeLine; decide, .cons ⟨wF0, rfl⟩ (.cons ⟨wF1, rfl⟩ (.cons ⟨wF2, rfl⟩ (.cons ⟨wF3, rfl⟩ (.cons ⟨wF4, rfl⟩ (.cons ⟨wF5, rfl⟩ (.cons ⟨wF6, rfl⟩ .nil))))))⟩
  have F__law_number_by : Fn K mg "_law_number_by" "_law_number_by" s__law_number_by n__law_number_by_p := ⟨_, _, fun_mk (st := s__law_number_by) l__law_number_by c__law_number_by k__law_number_by, PySem.W.mg_of X G a__law_number_by, (fun_mk (st := s__law_number_by) l__law_number_by c__law_number_by k__law_number_by).binds (ps := n__law_number_by_p) fun _ _ _ _ _ _ us hl => match us, hl with | [_], _ => rfl⟩
  have F__law_place_by : Fn K mg "_law_place_by" "_law_place_by" s__law_place_by n__law_place_by_p := ⟨_, _, fun_mk (st := s__law_place_by) l__law_place_by c__law_place_by k__law_place_by, PySem.W.mg_of X G a__law_place_by, (fun_mk (st := s__law_place_by) l__law_place_by c__law_place_by k__law_place_by).binds (ps := n__law_place_by_p) fun _ _ _ _ _ _ us hl => match us, hl with | [_, _], _ => rfl⟩
  have F__law_cell_at : Fn K mg "_law_cell_at" "_law_cell_at" s__law_cell_at n__law_cell_at_p := ⟨_, _, fun_mk (st := s__law_cell_at) l__law_cell_at c__law_cell_at k__law_cell_at, PySem.W.mg_of X G a__law_cell_at, (fun_mk (st := s__law_cell_at) l__law_cell_at c__law_cell_at k__law_cell_at).binds (ps := n__law_cell_at_p) fun _ _ _ _ _ _ us hl => match us, hl with | [_, _], _ => rfl⟩
  have F__law_whole : Fn K mg "_law_whole" "_law_whole" s__law_whole n__law_whole_p := ⟨_, _, fun_mk (st := s__law_whole) l__law_whole c__law_whole k__law_whole, PySem.W.mg_of X G a__law_whole, (fun_mk (st := s__law_whole) l__law_whole c__law_whole k__law_whole).binds (ps := n__law_whole_p) fun _ _ _ _ _ _ us hl => match us, hl with | [_], _ => rfl⟩
  have F__law_place_alike : Fn K mg "_law_place_alike" "_law_place_alike" s__law_place_alike n__law_place_alike_p := ⟨_, _, fun_mk (st := s__law_place_alike) l__law_place_alike c__law_place_alike k__law_place_alike, PySem.W.mg_of X G a__law_place_alike, (fun_mk (st := s__law_place_alike) l__law_place_alike c__law_place_alike k__law_place_alike).binds (ps := n__law_place_alike_p) fun _ _ _ _ _ _ us hl => match us, hl with | [_, _], _ => rfl⟩
  have F_great : Fn K mg "great" "great" s_great n_great_p := ⟨_, _, fun_mk (st := s_great) l_great c_great k_great, PySem.W.mg_of X G a_great, (fun_mk (st := s_great) l_great c_great k_great).binds (ps := n_great_p) fun _ _ _ _ _ _ us hl => match us, hl with | [_], _ => rfl⟩
  have F_rest : Fn K mg "rest" "rest" s_rest n_rest_p := ⟨_, _, fun_mk (st := s_rest) l_rest c_rest k_rest, PySem.W.mg_of X G a_rest, (fun_mk (st := s_rest) l_rest c_rest k_rest).binds (ps := n_rest_p) fun _ _ _ _ _ _ us hl => match us, hl with | [_], _ => rfl⟩
  have F__law_step : Fn K mg "_law_step" "_law_step" s__law_step n__law_step_p := ⟨_, _, fun_mk (st := s__law_step) l__law_step c__law_step k__law_step, PySem.W.mg_of X G a__law_step, (fun_mk (st := s__law_step) l__law_step c__law_step k__law_step).binds (ps := n__law_step_p) fun _ _ _ _ _ _ us hl => match us, hl with | [_], _ => rfl⟩
  have F__law_is_great : Fn K mg "_law_is_great" "_law_is_great" s__law_is_great n__law_is_great_p := ⟨_, _, fun_mk (st := s__law_is_great) l__law_is_great c__law_is_great k__law_is_great, PySem.W.mg_of X G a__law_is_great, (fun_mk (st := s__law_is_great) l__law_is_great c__law_is_great k__law_is_great).binds (ps := n__law_is_great_p) fun _ _ _ _ _ _ us hl => match us, hl with | [_, _], _ => rfl⟩
  have F_step : Fn K mg "step" "step" s_step n_step_p := ⟨_, _, fun_mk (st := s_step) l_step c_step k_step, PySem.W.mg_of X G a_step, (fun_mk (st := s_step) l_step c_step k_step).binds (ps := n_step_p) fun _ _ _ _ _ _ us hl => match us, hl with | [_], _ => rfl⟩
  have F_rest_place : Fn K mg "rest_place" "rest_place" s_rest_place n_rest_place_p := ⟨_, _, fun_mk (st := s_rest_place) l_rest_place c_rest_place k_rest_place, PySem.W.mg_of X G a_rest_place, (fun_mk (st := s_rest_place) l_rest_place c_rest_place k_rest_place).binds (ps := n_rest_place_p) fun _ _ _ _ _ _ us hl => match us, hl with | [_], _ => rfl⟩
  have F_centre : Fn K mg "centre" "centre" s_centre n_centre_p := ⟨_, _, fun_mk (st := s_centre) l_centre c_centre k_centre, PySem.W.mg_of X G a_centre, (fun_mk (st := s_centre) l_centre c_centre k_centre).binds (ps := n_centre_p) fun _ _ _ _ _ _ us hl => match us, hl with | [_], _ => rfl⟩
  have F_law : Fn K mg "law" "law" s_law n_law_p := ⟨_, _, fun_mk (st := s_law) l_law c_law k_law, PySem.W.mg_of X G a_law, (fun_mk (st := s_law) l_law c_law k_law).binds (ps := n_law_p) fun _ _ _ _ _ _ us hl => match us, hl with | [_], _ => rfl⟩
  have R (base : Heap) : FnOk P w K mg base CX0 4 fa (PySem.W.fnOf "law" "law" (defArgs s_law) (defBody s_law) (defScope s_law) .none kV_law dc_law pm_law an_law cd_law ct_law) n_law_p (sp_law K) := by
    have R__law_number_by : Ref P w K mg base CX0 1 "_law_number_by" n__law_number_by_p (sp__law_number_by K) := ok__law_number_by F__law_number_by T
    have R__law_place_by : Ref P w K mg base CX0 2 "_law_place_by" n__law_place_by_p (sp__law_place_by K) := ok__law_place_by F__law_place_by T R__law_number_by
    have R__law_cell_at : Ref P w K mg base CX0 1 "_law_cell_at" n__law_cell_at_p (sp__law_cell_at K) := ok__law_cell_at F__law_cell_at T
    have R__law_whole : Ref P w K mg base CX0 1 "_law_whole" n__law_whole_p (sp__law_whole K) := ok__law_whole F__law_whole T
    have R__law_place_alike : Ref P w K mg base CX0 2 "_law_place_alike" n__law_place_alike_p (sp__law_place_alike K) := ok__law_place_alike F__law_place_alike T R__law_whole
    have R_great : Ref P w K mg base CX0 1 "great" n_great_p (sp_great K) := ok_great F_great T
    have R_rest : Ref P w K mg base CX0 1 "rest" n_rest_p (sp_rest K) := ok_rest F_rest T g_FIGURES k_FIGURES
    have R__law_step : Ref P w K mg base CX0 1 "_law_step" n__law_step_p (sp__law_step K) := ok__law_step F__law_step T
    have R__law_is_great : Ref P w K mg base CX0 1 "_law_is_great" n__law_is_great_p (sp__law_is_great K) := ok__law_is_great F__law_is_great T
    have R_step : Ref P w K mg base CX0 1 "step" n_step_p (sp_step K) := ok_step F_step T g_STEPS k_STEPS
    have R_rest_place : Ref P w K mg base CX0 2 "rest_place" n_rest_place_p (sp_rest_place K) := ok_rest_place F_rest_place T R_step
    have R_centre : Ref P w K mg base CX0 3 "centre" n_centre_p (sp_centre K) := ok_centre F_centre T R_rest_place R_rest
    exact okF_law (fun_mk (st := s_law) l_law c_law k_law) T R__law_place_by R__law_cell_at R__law_place_alike R_great R_rest R__law_whole R__law_step R__law_is_great R_centre
  exact ⟨_, fun s v => .of_eq rfl, fun base _ _ => R base⟩
end Hx
open PySem PySem.W PyProof.Rows
set_option maxRecDepth 100000 in
set_option maxHeartbeats 0 in
theorem PySem.Challenge.cw_hexaddress_k06_sevens_holds : PySem.Challenge.rw_hexaddress_k06_sevens.Holds := by
  w_on; o_law; k_head; (case hw => w_witness2)
  k_fill
  refine L2.walk_of (l := PySem.Challenge.rw_hexaddress_k06_sevens) (n := 63) (k := 4) (x := "script") (CX := fun _ => L2.CX0) (sp := fun w => Hx.sp_law _) rfl (by decide) rfl ⟨rfl, by decide, by decide⟩ (fun w h Y => PySem.W.kIn_of Y) ?F (fun _ _ a ns hl _ hS => ⟨a, ns, rfl, hS, hl, fun _ => rfl⟩) (fun _ _ _ _ _ h => h)
  case F =>
    intro w mg fa h KX G hmg
    refine' Hx.all_mk KX G hmg ?a__law_number_by ?l__law_number_by ?c__law_number_by ?k__law_number_by ?a__law_place_by ?l__law_place_by ?c__law_place_by ?k__law_place_by ?a__law_cell_at ?l__law_cell_at ?c__law_cell_at ?k__law_cell_at ?a__law_whole ?l__law_whole ?c__law_whole ?k__law_whole ?a__law_place_alike ?l__law_place_alike ?c__law_place_alike ?k__law_place_alike ?a_great ?l_great ?c_great ?k_great ?a_rest ?l_rest ?c_rest ?k_rest ?a__law_step ?l__law_step ?c__law_step ?k__law_step ?a__law_is_great ?l__law_is_great ?c__law_is_great ?k__law_is_great ?a_step ?l_step ?c_step ?k_step ?a_rest_place ?l_rest_place ?c_rest_place ?k_rest_place ?a_centre ?l_centre ?c_centre ?k_centre ?a_law ?l_law ?c_law ?k_law ?z_len ?z_range ?z_list ?z_tuple ?z_max ?z_min ?z_abs ?z_int ?z_bool ?z_isinstance ?z_sorted ?z_dict ?z_ValueError ?hSTEPS ?hS0 ?hS1 ?hS2 ?hS3 ?hS4 ?hS5 ?hS6 ?hFIGURES ?hFIGURES0
    (case a__law_number_by => k_is)
    (case l__law_number_by => k_is)
    (case c__law_number_by => k_is)
    (case k__law_number_by => k_is)
    (case a__law_place_by => k_is)
    (case l__law_place_by => k_is)
    (case c__law_place_by => k_is)
    (case k__law_place_by => k_is)
    (case a__law_cell_at => k_is)
    (case l__law_cell_at => k_is)
    (case c__law_cell_at => k_is)
    (case k__law_cell_at => k_is)
    (case a__law_whole => k_is)
    (case l__law_whole => k_is)
    (case c__law_whole => k_is)
    (case k__law_whole => k_is)
    (case a__law_place_alike => k_is)
    (case l__law_place_alike => k_is)
    (case c__law_place_alike => k_is)
    (case k__law_place_alike => k_is)
    (case a_great => k_is)
    (case l_great => k_is)
    (case c_great => k_is)
    (case k_great => k_is)
    (case a_rest => k_is)
    (case l_rest => k_is)
    (case c_rest => k_is)
    (case k_rest => k_is)
    (case a__law_step => k_is)
    (case l__law_step => k_is)
    (case c__law_step => k_is)
    (case k__law_step => k_is)
    (case a__law_is_great => k_is)
    (case l__law_is_great => k_is)
    (case c__law_is_great => k_is)
    (case k__law_is_great => k_is)
    (case a_step => k_is)
    (case l_step => k_is)
    (case c_step => k_is)
    (case k_step => k_is)
    (case a_rest_place => k_is)
    (case l_rest_place => k_is)
    (case c_rest_place => k_is)
    (case k_rest_place => k_is)
    (case a_centre => k_is)
    (case l_centre => k_is)
    (case c_centre => k_is)
    (case k_centre => k_is)
    (case a_law => k_is)
    (case l_law => k_is)
    (case c_law => k_is)
    (case k_law => k_is)
    (case z_len => k_is)
    (case z_range => k_is)
    (case z_list => k_is)
    (case z_tuple => k_is)
    (case z_max => k_is)
    (case z_min => k_is)
    (case z_abs => k_is)
    (case z_int => k_is)
    (case z_bool => k_is)
    (case z_isinstance => k_is)
    (case z_sorted => k_is)
    (case z_dict => k_is)
    (case z_ValueError => k_is)
    (case hSTEPS => k_is)
    (case hS0 => k_is)
    (case hS1 => k_is)
    (case hS2 => k_is)
    (case hS3 => k_is)
    (case hS4 => k_is)
    (case hS5 => k_is)
    (case hS6 => k_is)
    (case hFIGURES => k_is)
    (case hFIGURES0 => k_is)
