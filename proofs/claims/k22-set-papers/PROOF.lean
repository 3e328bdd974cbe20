import PyProof.Rows.All
import Wide.All
import OpenK.AllK
import Wide.FinOn
import HandS.ForMost
import HandS.IsInst
import HandS.Style
import HandS.TupAny
import HandS.Walk
import HandS.Evl
import PySem.Challenge.RW_netcourt_k22_set_papers_looked_at
set_option Elab.async false
set_option linter.all false
set_option maxRecDepth 100000
set_option maxHeartbeats 4000000
/-! Part A: short words for calls of defs, and what evaluates to what, further than HandS.Evl. -/
namespace Nc
open PySem L2 Evl
/-! ### the text by places -/
def top (i : Nat) : Stmt := PySem.Challenge.pw_netcourt_k22_set_papers_looked_at.main.body.getD i (.Pass ⟨0, 0, 0, 0⟩)

/-! ### names of the module -/
/-- the module's name x holds v -/
def GlV (mg : Str → Option Value) (x : Str) (v : V) : Prop := ∃ u, mg x = some u ∧ RelV v u
theorem pe_gl {X : Cx} {x : Str} {v : V} {pos : Pos} (g : GlV X.mg x v) (hg : Gl X x := by rfl) (hd : (x == ("__debug__" : Str)) = false := by decide) : PE X (.Name x pos) (tC v) := by
  obtain ⟨u, h, r⟩ := g
  exact pe_glob hg h r hd
theorem pe_bt {X : Cx} {x : Str} {n : String} {pos : Pos} (hg : Gl X x) (hm : X.mg x = none) (hv : bootBuiltins x = some (.type n)) (hn : x ≠ "__name__" := by decide) (hd : (x == ("__debug__" : Str)) = false := by decide) : PE X (.Name x pos) (tC (.ty n)) :=
  pe_bltn hg hm hv rfl hn hd
/-- the built-in names that the text uses are not stored by the module -/
structure Blt (mg : Str → Option Value) : Prop where
  len : mg "len" = none
  list : mg "list" = none
  isinstance : mg "isinstance" = none
  str : mg "str" = none
  range : mg "range" = none
  enumerate : mg "enumerate" = none
  max : mg "max" = none
  reversed : mg "reversed" = none
  tuple : mg "tuple" = none
  bool : mg "bool" = none
def letS : Str := "abcdefghijklmnopqrstuvwxyz"
structure Glo (mg : Str → Option Value) : Prop where
  LETTERS : GlV mg "LETTERS" (.str letS)
  LONGEST_NAME : GlV mg "LONGEST_NAME" (.int 12)
  MOST_PLACES : GlV mg "MOST_PLACES" (.int 20)
  MOST_TIES : GlV mg "MOST_TIES" (.int 40)
/-- a def of the module that keeps a promise -/
structure Cl (P : Program) (w : World) (K : PySem.W.Frag) (mg : Str → Option Value) (base : Heap) (k : Nat) (x : Str) (ps : List Str) (sp : Sp) : Prop where
  ex : ∃ f fd, FnOk P w K mg base CX0 k f fd ps sp ∧ mg x = some (.ref f) ∧ PySem.W.keepIn K (.ref f) = true ∧ Binds K fd ps []
theorem pe_def {X : Cx} {j k : Nat} {x : Str} {ps : List Str} {sp : Sp} {e : Expr} {es : List Expr} {t : TA} {p pos : Pos} (C : Cl X.prog X.w X.K X.mg X.base j x ps sp) (hr : Room k X.A) (ha : PA X (e :: es) t) (hjk : j ≤ k := by decide) (hg : Gl X x := by rfl)
    (hdb : (x == ("__debug__" : Str)) = false := by decide) (he : starEach (e :: es) X.env = (false, eval e X.env) :: starEach es X.env := by rfl) (hpl : (backTo pos (starEach es X.env)).any (·.1) = false := by rfl) :
    PE X (.Call (.Name x p) (e :: es) [] pos) (tCall sp [] E0 t) := by
  obtain ⟨f, fd, F, hm, hk, hb⟩ := C.ex
  exact pe_call F (hr.mono hjk) hg hm hk hb .nil pass0 ha hdb he hpl
/-- a method of the class at C that keeps a promise -/
structure Mt (P : Program) (w : World) (K : PySem.W.Frag) (mg : Str → Option Value) (base : Heap) (C : Addr) (k : Nat) (m : Str) (ps : List Str) (sp : Sp) : Prop where
  ex : ∃ f fd, FnOk P w K mg base CX0 k f fd ps sp ∧ Meth K C m f ∧ Binds K fd ps []
/-- the class at C and its maker -/
structure Nk (P : Program) (w : World) (K : PySem.W.Frag) (mg : Str → Option Value) (base : Heap) (C : Addr) (k : Nat) (sp : Sp) : Prop where
  gN : mg "Net" = some (.ref C)
  ex : ∃ f fd, Mk K C f ∧ FnOk P w K mg base CX0 k f fd ["self"] sp ∧ Binds K fd ["self"] []

/-! ### rules whose written part is told apart (within a comprehension) -/
section
variable {X : Cx}
theorem kin (K : PySem.W.Frag) (h : X.K = K := by rfl) : OpR X (compareOp .In) (rIn K false) := by
  subst h
  exact op_in_seq
theorem knin (K : PySem.W.Frag) (h : X.K = K := by rfl) : OpR X (compareOp .NotIn) (rIn K true) := by
  subst h
  exact op_notIn_seq
theorem kixT (K : PySem.W.Frag) (h : X.K = K := by rfl) : IxR X (rIxT K) := by
  subst h
  exact ix_tup
theorem keqD (K : PySem.W.Frag) (hu : X.A.units + 64 < cLine) (h : X.K = K := by rfl) : OpR X (compareOp .Eq) (rEqD K) := by
  subst h
  exact op_eqD hu
theorem kisi (K : PySem.W.Frag) (h : X.K = K := by rfl) : CallR X (.builtin "isinstance") (rIsi K) := by
  subst h
  exact call_isi
theorem ktup (K : PySem.W.Frag) {es : List Expr} {k n : Nat} {pos : Pos} {t : TGs} (hc : X.calm = true) (hg : PGs X es t) (h : X.K = K := by rfl) (hn : (assignEach es X.env).length = n := by rfl) (ho : (assignEach es X.env).findIdx? (·.1) = none := by rfl) : PG X (.Tuple es k pos) (gTup K n t) := by
  subst h
  exact pg_tup hc hg hn ho
theorem kfld (K : PySem.W.Frag) {e : Expr} {f : Str} {pos : Pos} {ta : TE} (he : PE X e ta) (hb : attributeBase e f X.env (eval e X.env) = eval e X.env) (h : X.K = K := by rfl) : PE X (.Attribute e f pos) (tFld K ta f) := by
  subst h
  exact pe_fld he hb
end

/-! ### what evaluates to what, further -/
section
variable {K : PySem.W.Frag} {σ : L2.St} {H H' : Hp} {ta tb te tx : TE} {t u : TT} {x y z v : V} {r : R2}
/-- some value of which P is true (P of the heap ahead, the value, the heap behind) -/
def EvP (te : TE) (σ : L2.St) (H : Hp) (P : Hp → V → Hp → Prop) : Prop := ∀ H1, Ex H H1 → ∀ Q : VK, (∀ v H2, Ex H1 H2 → P H1 v H2 → Q v H2) → te σ H1 Q
/-- a list that is to be read, new or not -/
def EvR (te : TE) (σ : L2.St) (H : Hp) (xs : List V) : Prop := ∀ H1, Ex H H1 → ∀ Q : VK, (∀ p H2, Ex H1 H2 → H2 p = some (.lst xs) → Q (.ref p) H2) → te σ H1 Q
theorem er_new {xs : List V} (h : EvL te σ H xs) : EvR te σ H xs := fun H1 e Q q => h H1 e Q fun p H2 _ e2 h2 => q p H2 e2 h2
theorem er_at {xs : List V} {p : Addr} (h : Ev te σ H (.ref p)) (hp : H p = some (.lst xs)) : EvR te σ H xs := fun H1 e Q q => h H1 e Q fun H2 e2 => q p H2 e2 (e2 p _ (e p _ hp))
theorem el_cat {xs ys : List V} (ha : EvR ta σ H xs) (hb : EvR tb σ H ys) (hl : xs.length + ys.length ≤ 100000) : EvL (tOp rCat ta tb) σ H (xs ++ ys) := fun H1 e Q q =>
  ha H1 e _ fun p H2 e2 hp => hb H2 (e.trans e2) _ fun p' H3 e3 hp' => ⟨p, p', xs, ys, rfl, rfl, e3 p _ hp, hp', sz_of hl, fun n hn => q n _ (fresh_back (e2.trans e3) hn) ((e2.trans e3).trans (Ex.new hn)) upd_same⟩
theorem ev_lenR {xs : List V} (ha : EvR ta σ H xs) : Ev (tCB (rLenS K) (tCons ta tNil)) σ H (.int (xs.length : Int)) := fun H1 e Q q =>
  ha H1 e _ fun p H2 e2 h2 => ⟨p, xs, rfl, Or.inl (sq_of h2), q H2 e2⟩
theorem ev_lenS {w : Str} (ha : Ev ta σ H (.str w)) (hl : w.length ≤ 100000) : Ev (tCB (fun xs H Q => ∃ z, xs = [.str z] ∧ z.length ≤ sizeLine ∧ Q (.int z.length) H) (tCons ta tNil)) σ H (.int (w.length : Int)) := fun H1 e Q q =>
  ha H1 e _ fun H2 e2 => ⟨w, rfl, sz_of hl, q H2 e2⟩
theorem el_listR {xs : List V} (ha : EvR ta σ H xs) : EvL (tCB (rListS K) (tCons ta tNil)) σ H xs := fun H1 e Q q =>
  ha H1 e _ fun p H2 e2 h2 => ⟨p, xs, rfl, Or.inl (sq_of h2), fun l hl => q l _ (fresh_back e2 hl) (e2.trans (Ex.new hl)) upd_same⟩
def rTupS (K : PySem.W.Frag) : List V → Hp → VK → Prop := fun xs H Q => ∃ p ys, xs = [.ref p] ∧ ((SqL K H p ys ∧ ∀ l, H l = none → Q (.ref l) (upd H l (.tup ys))) ∨ (SqT K H p ys ∧ Q (.ref p) H))
theorem eu_tupR {xs : List V} (ha : EvR ta σ H xs) : EvU (tCB (rTupS K) (tCons ta tNil)) σ H xs := fun H1 e Q q =>
  ha H1 e _ fun p H2 e2 h2 => ⟨p, xs, rfl, .inl ⟨sq_of h2, fun l hl => q l _ (fresh_back e2 hl) (e2.trans (Ex.new hl)) upd_same⟩⟩
theorem ev_fld {a C dx : Addr} {fs : List (Str × V)} {f : Str} (h : Ev te σ H (.ref a)) (hi : H a = some (.ins C dx fs)) (cl : Cls K C) (na : NoAttr K C f) (hf : fs.lookup f = some v) : Ev (tFld K te f) σ H v := fun H1 e Q q =>
  h H1 e _ fun H2 e2 => ⟨a, C, dx, fs, v, rfl, e2 a _ (e a _ hi), cl, na, hf, q H2 e2⟩
theorem ev_meth {a C dx : Addr} {fs : List (Str × V)} {m : Str} {sp : Sp} {E : XK} {tA : TA} {vs : List V} (h : Ev te σ H (.ref a)) (hi : H a = some (.ins C dx fs)) (hf : fs.lookup m = none) (hA : EvA tA σ H vs) (hs : SpV sp (.ref a :: (vs ++ [])) H z) : Ev (tMeth C m sp [] E te tA) σ H z := fun H1 e Q q =>
  h H1 e _ fun H2 e2 => ⟨a, dx, fs, rfl, e2 a _ (e a _ hi), hf, hA H2 (e.trans e2) _ fun H3 e3 => hs H3 ((e.trans e2).trans e3) Q (fun H4 e4 => q H4 ((e2.trans e3).trans e4)) E⟩
theorem el_meth {a C dx : Addr} {fs : List (Str × V)} {m : Str} {sp : Sp} {E : XK} {tA : TA} {vs xs : List V} (h : Ev te σ H (.ref a)) (hi : H a = some (.ins C dx fs)) (hf : fs.lookup m = none) (hA : EvA tA σ H vs) (hs : SpL sp (.ref a :: (vs ++ [])) H xs) : EvL (tMeth C m sp [] E te tA) σ H xs := fun H1 e Q q =>
  h H1 e _ fun H2 e2 => ⟨a, dx, fs, rfl, e2 a _ (e a _ hi), hf, hA H2 (e.trans e2) _ fun H3 e3 => hs H3 ((e.trans e2).trans e3) Q (fun p H4 hp e4 h4 => q p H4 (fresh_back (e2.trans e3) hp) ((e2.trans e3).trans e4) h4) E⟩
theorem rv_add_str {a b : Str} (h : a.length + b.length ≤ 100000) : RV (fun x y H Q => ∃ i j, x = .str i ∧ y = .str j ∧ i.length + j.length ≤ sizeLine ∧ Q (.str (i ++ j)) H) (.str a) (.str b) H (.str (a ++ b)) := fun H1 _ _ q => ⟨a, b, rfl, rfl, sz_of h, q H1 (Ex.refl H1)⟩
theorem ev_slS {tl th : TO} {w : Str} {lo hi : Option Int} (h : Ev te σ H (.str w)) (h1 : EvO tl σ H lo) (h2 : EvO th σ H hi) (hl : w.length ≤ 100000) : Ev (tSl rSlS te tl th) σ H (.str (cutS w lo hi)) := fun H1 e _ q =>
  h H1 e _ fun H2 e2 => h1 H2 (e.trans e2) _ fun H3 e3 => h2 H3 ((e.trans e2).trans e3) _ fun H4 e4 => ⟨w, rfl, sz_of hl, q H4 ((e2.trans e3).trans e4)⟩
theorem el_slR {tl th : TO} {xs : List V} {lo hi : Option Int} (h : EvR te σ H xs) (h1 : EvO tl σ H lo) (h2 : EvO th σ H hi) : EvL (tSl (rSlL K) te tl th) σ H (cutV xs lo hi) := fun H1 e _ q =>
  h H1 e _ fun a H2 e2 ha => h1 H2 (e.trans e2) _ fun H3 e3 => h2 H3 ((e.trans e2).trans e3) _ fun H4 e4 =>
    ⟨a, xs, rfl, sq_of (e4 a _ (e3 a _ ha)), fun p hp => q p _ (fresh_back ((e2.trans e3).trans e4) hp) (((e2.trans e3).trans e4).trans (Ex.new hp)) upd_same⟩
/-- a tuple's slice, whichever object it is -/
def EvS (te : TE) (σ : L2.St) (H : Hp) (xs : List V) : Prop := ∀ H1, Ex H H1 → ∀ Q : VK, (∀ p H2, Ex H1 H2 → H2 p = some (.tup xs) → Q (.ref p) H2) → te σ H1 Q
theorem es_new {xs : List V} (h : EvU te σ H xs) : EvS te σ H xs := fun H1 e Q q => h H1 e Q fun p H2 _ e2 h2 => q p H2 e2 h2
theorem es_at {xs : List V} {p : Addr} (h : Ev te σ H (.ref p)) (hp : H p = some (.tup xs)) : EvS te σ H xs := fun H1 e Q q => h H1 e Q fun H2 e2 => q p H2 e2 (e2 p _ (e p _ hp))
theorem eu_slT {tl th : TO} {xs : List V} {lo hi : Option Int} (h : EvS te σ H xs) (h1 : EvO tl σ H lo) (h2 : EvO th σ H hi) (hw : ¬ (HT.sIx xs.length 0 lo = 0 ∧ HT.sIx xs.length xs.length hi = xs.length)) : EvU (tSl (rSlT K) te tl th) σ H (cutV xs lo hi) := fun H1 e _ q =>
  h H1 e _ fun a H2 e2 ha => h1 H2 (e.trans e2) _ fun H3 e3 => h2 H3 ((e.trans e2).trans e3) _ fun H4 e4 =>
    ⟨a, xs, rfl, st_of (e4 a _ (e3 a _ ha)), hw, fun p hp => q p _ (fresh_back ((e2.trans e3).trans e4) hp) (((e2.trans e3).trans e4).trans (Ex.new hp)) upd_same⟩
theorem ev_ixLR {xs : List V} {i : Int} (ha : EvR ta σ H xs) (hb : Ev tb σ H (.int i)) (hv : atI xs i = some v) : Ev (tOp (rIxL K) ta tb) σ H v := fun H1 e Q q =>
  ha H1 e _ fun p H2 e2 hp => hb H2 (e.trans e2) _ fun H3 e3 => ⟨p, xs, i, v, rfl, rfl, sq_of (e3 p _ hp), hv, q H3 (e2.trans e3)⟩
theorem ev_ixTS {xs : List V} {i : Int} (ha : EvS ta σ H xs) (hb : Ev tb σ H (.int i)) (hv : atI xs i = some v) : Ev (tOp (rIxT K) ta tb) σ H v := fun H1 e Q q =>
  ha H1 e _ fun p H2 e2 hp => hb H2 (e.trans e2) _ fun H3 e3 => ⟨p, xs, i, v, rfl, rfl, st_of (e3 p _ hp), hv, q H3 (e2.trans e3)⟩
/-- x in a list, x not in a list -/
theorem ev_inR {xs : List V} (ha : Ev ta σ H x) (hb : EvR tb σ H xs) (hx : flatV x = true) (hf : xs.all flatV = true) : Ev (tOp (rIn K false) ta tb) σ H (.bl (inV x xs)) := fun H1 e Q q =>
  ha H1 e _ fun H2 e2 => hb H2 (e.trans e2) _ fun p H3 e3 hp => ⟨p, xs, rfl, .inl (sq_of hp), hx, hf, q H3 (e2.trans e3)⟩
theorem ev_niR {xs : List V} (ha : Ev ta σ H x) (hb : EvR tb σ H xs) (hx : flatV x = true) (hf : xs.all flatV = true) : Ev (tOp (rIn K true) ta tb) σ H (.bl (!inV x xs)) := fun H1 e Q q =>
  ha H1 e _ fun H2 e2 => hb H2 (e.trans e2) _ fun p H3 e3 hp => ⟨p, xs, rfl, .inl (sq_of hp), hx, hf, q H3 (e2.trans e3)⟩
theorem eu_if {b : Bool} {xs : List V} (h : EvT t σ H b) (h1 : b = true → EvU ta σ H xs) (h2 : b = false → EvU tb σ H xs) : EvU (tIf t ta tb) σ H xs := fun H1 e Q q => h H1 e _ fun H2 e2 => by
  cases b with
  | true =>
    show ta σ H2 Q
    exact h1 rfl H2 (e.trans e2) Q fun p H3 hp e3 => q p H3 (fresh_back e2 hp) (e2.trans e3)
  | false =>
    show tb σ H2 Q
    exact h2 rfl H2 (e.trans e2) Q fun p H3 hp e3 => q p H3 (fresh_back e2 hp) (e2.trans e3)
theorem rv_isN : RV (fun x y H Q => y = .non ∧ Q (.bl (decide (x = .non))) H) x .non H (.bl (decide (x = .non))) := fun H1 _ _ q => ⟨rfl, q H1 (Ex.refl H1)⟩
theorem rv_notN : RV (fun x y H Q => y = .non ∧ Q (.bl (!decide (x = .non))) H) x .non H (.bl (!decide (x = .non))) := fun H1 _ _ q => ⟨rfl, q H1 (Ex.refl H1)⟩
theorem rv_notB {a b : Bool} : RV rNotB (.bl a) (.bl b) H (.bl (!decide (a = b))) := fun H1 _ _ q => ⟨a, b, rfl, rfl, q H1 (Ex.refl H1)⟩
theorem rv_signIn {c : Nat} {w : Str} : RV (fun x y H Q => ∃ (c : Nat) (z : Str), x = .str ⟨#[c]⟩ ∧ y = .str z ∧ Q (.bl (!decide (c ∈ z.cps.toList))) H) (.str ⟨#[c]⟩) (.str w) H (.bl (!decide (c ∈ w.cps.toList))) := fun H1 _ _ q => ⟨c, w, rfl, rfl, q H1 (Ex.refl H1)⟩

theorem el_is {xs ys : List V} (h : EvL te σ H xs) (e : xs = ys) : EvL te σ H ys := by
  rw [← e]
  exact h
/-! data of any depth -/
mutual
theorem dp_mono {H H' : Hp} (e : Ex H H') : ∀ (d : PyData) (v : V), Dp K H v d → Dp K H' v d
  | .none, _, h => by
    cases h
    exact .non
  | .bool b, _, h => by
    cases h
    exact .bl b
  | .int i, _, h => by
    cases h
    exact .int i
  | .str x, _, h => by
    cases h
    exact .str x
  | .list ds, _, h => by
    cases h with
    | lst hs ha => exact .lst (ex_l e hs) (dp_monoAll e ds _ ha)
  | .tuple ds, _, h => by
    cases h with
    | tup hs ha => exact .tup (ex_t e hs) (dp_monoAll e ds _ ha)
  | .dict _, _, h => by cases h
theorem dp_monoAll {H H' : Hp} (e : Ex H H') : ∀ (ds : List PyData) (vs : List V), DpAll K H vs ds → DpAll K H' vs ds
  | [], _, h => by
    cases h
    exact .nil
  | d :: ds, _, h => by
    cases h with
    | cons h1 h2 => exact .cons (dp_mono e d _ h1) (dp_monoAll e ds _ h2)
end
theorem rv_eqD {d c : PyData} (hd : Dp K H x d) (hc : Dp K H y c) (sd : SeqAt.shaped d = true) (sc : SeqAt.shaped c = true) : RV (rEqD K) x y H (.bl (PyData.eqv d c)) := fun H1 e _ q => ⟨d, c, dp_mono e d x hd, dp_mono e c y hc, sd, sc, q H1 (Ex.refl H1)⟩
theorem rv_neD {d c : PyData} (hd : Dp K H x d) (hc : Dp K H y c) (sd : SeqAt.shaped d = true) (sc : SeqAt.shaped c = true) : RV (rNeD K) x y H (.bl (!PyData.eqv d c)) := fun H1 e _ q => ⟨d, c, dp_mono e d x hd, dp_mono e c y hc, sd, sc, q H1 (Ex.refl H1)⟩
theorem dpAll_get {H : Hp} : ∀ {xs : List V} {ds : List PyData}, DpAll K H xs ds → ∀ (i : Nat) (x : V), xs[i]? = some x → ∃ d, ds[i]? = some d ∧ Dp K H x d
  | _, _, .nil, i, x, h => by simp at h
  | _, _, .cons h1 h2, 0, x, h => by
    have e := Option.some.inj h
    subst e
    exact ⟨_, rfl, h1⟩
  | _, _, .cons h1 h2, i + 1, x, h => dpAll_get h2 i x h
theorem dpAll_len {H : Hp} : ∀ {xs : List V} {ds : List PyData}, DpAll K H xs ds → xs.length = ds.length
  | _, _, .nil => rfl
  | _, _, .cons _ h2 => congrArg (· + 1) (dpAll_len h2)
theorem dpAll_strs {H : Hp} : ∀ zs : List Str, DpAll K H (zs.map V.str) (zs.map PyData.str)
  | [] => .nil
  | z :: zs => .cons (.str z) (dpAll_strs zs)
theorem dpAll_app {H : Hp} : ∀ {xs : List V} {ds : List PyData} {ys : List V} {es : List PyData}, DpAll K H xs ds → DpAll K H ys es → DpAll K H (xs ++ ys) (ds ++ es)
  | _, _, _, _, .nil, h => h
  | _, _, _, _, .cons h1 h2, h => .cons h1 (dpAll_app h2 h)
/-- the name of a datum's type -/
def tyD : PyData → String
  | .none => "NoneType" | .bool _ => "bool" | .int _ => "int" | .str _ => "str" | .list _ => "list" | .tuple _ => "tuple" | .dict _ => "dict"
theorem ty_of_dp {H : Hp} {x : V} {d : PyData} (h : Dp K H x d) : TyX K H x (.type (tyD d)) := by
  cases h with
  | non => exact .base .non
  | bl b => exact .base (.bl b)
  | int i => exact .base (.int i)
  | str z => exact .base (.str z)
  | lst hs _ =>
    rcases hs with (hs | ⟨o, hs⟩) | ⟨o, its, n, h1, h2, _⟩
    · exact .base (.lst hs)
    · exact .base (.frz hs)
    · exact .kList h1 h2
  | tup hs _ =>
    rcases hs with (hs | ⟨o, hs⟩) | ⟨o, its, n, h1, h2, _⟩
    · exact .base (.tup hs)
    · exact .fTuple hs
    · exact .kTuple h1 h2
theorem ev_isi {d : PyData} {n : String} {b : Bool} (h : Ev te σ H x) (hd : Dp K H x d) (hk : kitB (tyD d) n = some b) : Ev (tCB (rIsi K) (tCons te (tCons (tC (.ty n)) tNil))) σ H (.bl b) := fun H1 e Q q =>
  h H1 e _ fun H2 e2 => ⟨x, .ty n, .type (tyD d), .type n, b, rfl, .ty n, ty_of_dp (dp_mono (e.trans e2) d x hd), kit_ty hk, q H2 e2⟩
def isListD : PyData → Bool
  | .list _ => true | _ => false
def isStrD : PyData → Bool
  | .str _ => true | _ => false
theorem kit_list : ∀ {d : PyData} {H : Hp} {x : V}, Dp K H x d → kitB (tyD d) "list" = some (isListD d)
  | .none, _, _, _ => by decide +kernel
  | .bool _, _, _, _ => by
    show kitB "bool" "list" = some false
    decide +kernel
  | .int _, _, _, _ => by
    show kitB "int" "list" = some false
    decide +kernel
  | .str _, _, _, _ => by
    show kitB "str" "list" = some false
    decide +kernel
  | .list _, _, _, _ => by
    show kitB "list" "list" = some true
    decide +kernel
  | .tuple _, _, _, _ => by
    show kitB "tuple" "list" = some false
    decide +kernel
  | .dict _, _, _, h => by cases h
theorem kit_str : ∀ {d : PyData} {H : Hp} {x : V}, Dp K H x d → kitB (tyD d) "str" = some (isStrD d)
  | .none, _, _, _ => by decide +kernel
  | .bool _, _, _, _ => by
    show kitB "bool" "str" = some false
    decide +kernel
  | .int _, _, _, _ => by
    show kitB "int" "str" = some false
    decide +kernel
  | .str _, _, _, _ => by
    show kitB "str" "str" = some true
    decide +kernel
  | .list _, _, _, _ => by
    show kitB "list" "str" = some false
    decide +kernel
  | .tuple _, _, _, _ => by
    show kitB "tuple" "str" = some false
    decide +kernel
  | .dict _, _, _, h => by cases h
theorem ev_isList {d : PyData} (h : Ev te σ H x) (hd : Dp K H x d) : Ev (tCB (rIsi K) (tCons te (tCons (tC (.ty "list")) tNil))) σ H (.bl (isListD d)) := ev_isi h hd (kit_list hd)
theorem ev_isStr {d : PyData} (h : Ev te σ H x) (hd : Dp K H x d) : Ev (tCB (rIsi K) (tCons te (tCons (tC (.ty "str")) tNil))) σ H (.bl (isStrD d)) := ev_isi h hd (kit_str hd)
theorem ev_isBool {b : Bool} (h : Ev te σ H (.bl b)) : Ev (tCB (rIsi K) (tCons te (tCons (tC (.ty "bool")) tNil))) σ H (.bl true) := ev_isi (d := .bool b) h (.bl b) (by
  show kitB "bool" "bool" = some true
  decide +kernel)

/-! statements -/
variable {D : Ends} {tu tw tz : TS} {g : TG}
/-- a, b = a tuple -/
theorem q_asg2 {i j : Nat} (h : EvU te σ H [x, y]) (k : ∀ H1, Ex H H1 → tz D ((σ.set i (some x)).set j (some y)) H1) : tSeq (tAsg te (gTup K 2 (gCons (gName i) (gCons (gName j) gNil)))) tz D σ H :=
  h H (Ex.refl H) _ fun p H1 hp e1 h1 => ⟨p, _, rfl, st_of h1, rfl, _, _, rfl, _, _, rfl, rfl, k H1 e1⟩
/-- the five names of a tie's tuple -/
theorem g_five {p : Addr} {a b c d e : V} {i1 i2 i3 i4 i5 : Nat} {Q : L2.St → Hp → Prop} (h : H p = some (.tup [a, b, c, d, e])) (k : Q (((((σ.set i1 (some a)).set i2 (some b)).set i3 (some c)).set i4 (some d)).set i5 (some e)) H) :
    gTup K 5 (gCons (gName i1) (gCons (gName i2) (gCons (gName i3) (gCons (gName i4) (gCons (gName i5) gNil))))) (.ref p) σ H Q :=
  ⟨p, _, rfl, st_of h, rfl, _, _, rfl, _, _, rfl, _, _, rfl, _, _, rfl, _, _, rfl, rfl, k⟩
theorem q_asgP {i : Nat} {P : Hp → V → Hp → Prop} (h : EvP te σ H P) (k : ∀ v H1, Ex H H1 → P H v H1 → tz D (σ.set i (some v)) H1) : tSeq (tAsg te (gName i)) tz D σ H := h H (Ex.refl H) _ fun v H1 e p => k v H1 e p
/-- for i, x in enumerate(xs) -/
theorem s_forE {ta : TA} {a : Addr} {xs : List V} {j1 j2 : Nat} (h : EvA ta σ H [.ref a]) (hx : SqL K H a xs) (Pv : Nat → L2.St → Hp → Prop) (h0 : ∀ H1, Ex H H1 → Pv 0 σ H1) (hl : ∀ i σ' H', i ≤ xs.length → Pv i σ' H' → SqL K H' a xs)
    (hs : ∀ i x σ' H', xs[i]? = some x → Pv i σ' H' → ∀ H2, Ex H' H2 → tu { D with nx := Pv (i + 1), ct := Pv (i + 1), bk := D.nx } ((σ'.set j1 (some (.int (i : Int)))).set j2 (some x)) H2) (hd : ∀ σ' H', Pv xs.length σ' H' → D.nx σ' H') :
    tFor (iEnum K ta) (gTup K 2 (gCons (gName j1) (gCons (gName j2) gNil))) tu D σ H := by
  refine h H (Ex.refl H) _ fun H1 e1 => ⟨a, xs, rfl, ex_l e1 hx, ?_⟩
  refine for_it walk_enum Pv (h0 H1 e1) hl (fun i x σ' H' H'' hi p y => ?_) hd
  obtain ⟨T, x1, x2, rfl, nT, rfl, f1, f2⟩ := y
  have e1 := Option.some.inj f1
  subst e1
  exact ⟨T, _, rfl, st_of upd_same, rfl, _, _, rfl, _, _, rfl, rfl, hs i x2 σ' H' f2 p _ (Ex.new nT)⟩
theorem s_forS {w : Str} {j : Nat} (h : Ev te σ H (.str w)) (Pv : Nat → L2.St → Hp → Prop) (h0 : ∀ H1, Ex H H1 → Pv 0 σ H1)
    (hs : ∀ i c σ' H', w.cps[i]? = some c → Pv i σ' H' → tu { D with nx := Pv (i + 1), ct := Pv (i + 1), bk := D.nx } (σ'.set j (some (.str ⟨#[c]⟩))) H') (hd : ∀ σ' H', Pv w.cps.size σ' H' → D.nx σ' H') : tFor (iStr te) (gName j) tu D σ H := by
  refine h H (Ex.refl H) _ fun H1 e1 => ⟨w, rfl, ?_⟩
  refine for_it walk_str Pv (h0 H1 e1) (fun _ _ _ _ _ => trivial) (fun i x σ' H' H'' hi p y => ?_) hd
  obtain ⟨rfl, c, hc, rfl⟩ := y
  exact hs i c σ' _ hc p
theorem q_forE {ta : TA} {a : Addr} {xs : List V} {j1 j2 : Nat} (h : EvA ta σ H [.ref a]) (hx : SqL K H a xs) (Pv : Nat → L2.St → Hp → Prop) (h0 : ∀ H1, Ex H H1 → Pv 0 σ H1) (hl : ∀ i σ' H', i ≤ xs.length → Pv i σ' H' → SqL K H' a xs)
    (hs : ∀ i x σ' H', xs[i]? = some x → Pv i σ' H' → ∀ H2, Ex H' H2 → tu { D with nx := Pv (i + 1), ct := Pv (i + 1), bk := tz D } ((σ'.set j1 (some (.int (i : Int)))).set j2 (some x)) H2) (hd : ∀ σ' H', Pv xs.length σ' H' → tz D σ' H') :
    tSeq (tFor (iEnum K ta) (gTup K 2 (gCons (gName j1) (gCons (gName j2) gNil))) tu) tz D σ H := s_forE (D := { D with nx := tz D }) h hx Pv h0 hl hs hd
theorem q_forS {w : Str} {j : Nat} (h : Ev te σ H (.str w)) (Pv : Nat → L2.St → Hp → Prop) (h0 : ∀ H1, Ex H H1 → Pv 0 σ H1)
    (hs : ∀ i c σ' H', w.cps[i]? = some c → Pv i σ' H' → tu { D with nx := Pv (i + 1), ct := Pv (i + 1), bk := tz D } (σ'.set j (some (.str ⟨#[c]⟩))) H') (hd : ∀ σ' H', Pv w.cps.size σ' H' → tz D σ' H') : tSeq (tFor (iStr te) (gName j) tu) tz D σ H :=
  s_forS (D := { D with nx := tz D }) h Pv h0 hs hd
/-! comprehensions over further things -/
theorem el_lcE {xs : List V} {tl : TE} {j1 j2 : Nat} {vs : List Nat} (f : Nat → Bool) (v : Nat → V) (h : EvR tl σ H xs) (hz : xs.length ≤ 40000) (hw : ∀ x y, wipe (((wipe σ vs).set j1 (some x)).set j2 (some y)) vs = wipe σ vs)
    (ht : ∀ (i : Nat) (x : V) H1, Ex H H1 → xs[i]? = some x → EvT t (((wipe σ vs).set j1 (some (.int (i : Int)))).set j2 (some x)) H1 (f i)) (he : ∀ (i : Nat) (x : V) H1, Ex H H1 → xs[i]? = some x → f i = true → Ev te (((wipe σ vs).set j1 (some (.int (i : Int)))).set j2 (some x)) H1 (v i)) :
    EvL (tLc (iEnum K (tCons tl tNil)) (gTup K 2 (gCons (gName j1) (gCons (gName j2) gNil))) t te vs) σ H (given xs.length f v) := fun H0 e Q q => h H0 e _ fun a H1 e1 ha => ⟨a, xs, rfl, sq_of ha, fun Dl hD => by
  refine lc_it walk_enum (Cw H1 f v Dl) ⟨hD, Ex.new hD, upd_same⟩ (fun i H' _ p => sq_of (p.2.1 a _ ha)) (fun i x H' H'' hi p y => ?_) (fun H' p => q Dl H' (fresh_back e1 p.1) (e1.trans p.2.1) p.2.2)
  obtain ⟨T, x1, x2, rfl, nT, rfl, f1, f2⟩ := y
  have q1 := Option.some.inj f1
  subst q1
  exact ⟨T, _, rfl, st_of upd_same, rfl, _, _, rfl, _, _, rfl, rfl, hw _ _, cw_turn ⟨p.1, p.2.1.trans (Ex.new nT), Ex.new nT _ _ p.2.2⟩ (by omega) (ht i x2 H1 (e.trans e1) f2) (fun hf => he i x2 H1 (e.trans e1) f2 hf)⟩⟩
theorem el_lcR {xs : List V} {tl : TE} {j : Nat} {vs : List Nat} (f : Nat → Bool) (v : Nat → V) (h : EvR tl σ H xs) (hz : xs.length ≤ 40000) (hw : ∀ x, wipe ((wipe σ vs).set j (some x)) vs = wipe σ vs)
    (ht : ∀ (i : Nat) (x : V) H1, Ex H H1 → xs[i]? = some x → EvT t ((wipe σ vs).set j (some x)) H1 (f i)) (he : ∀ (i : Nat) (x : V) H1, Ex H H1 → xs[i]? = some x → f i = true → Ev te ((wipe σ vs).set j (some x)) H1 (v i)) :
    EvL (tLc (iList K tl) (gName j) t te vs) σ H (given xs.length f v) := fun H0 e Q q => h H0 e _ fun a H1 e1 ha => ⟨a, rfl, ⟨xs, sq_of ha⟩, fun Dl hD =>
  lc_it walk_list (Cw H1 f v Dl) ⟨hD, Ex.new hD, upd_same⟩ (fun i H' _ p => sq_of (p.2.1 a _ ha)) (fun i x H' H'' hi p y => by
    obtain ⟨rfl, hx⟩ := y
    exact ⟨hw x, cw_turn p (by omega) (ht i x H1 (e.trans e1) hx) (fun hf => he i x H1 (e.trans e1) hx hf)⟩) (fun H' p => q Dl H' (fresh_back e1 p.1) (e1.trans p.2.1) p.2.2)⟩
theorem el_lcV {xs : List V} {tl : TE} {j : Nat} {vs : List Nat} (f : Nat → Bool) (v : Nat → V) (h : EvR tl σ H xs) (hz : xs.length ≤ 40000) (hw : ∀ x, wipe ((wipe σ vs).set j (some x)) vs = wipe σ vs)
    (ht : ∀ (i : Nat) (x : V) H1, Ex H H1 → xs[xs.length - 1 - i]? = some x → EvT t ((wipe σ vs).set j (some x)) H1 (f i)) (he : ∀ (i : Nat) (x : V) H1, Ex H H1 → xs[xs.length - 1 - i]? = some x → f i = true → Ev te ((wipe σ vs).set j (some x)) H1 (v i)) :
    EvL (tLc (iRev K (tCons tl tNil)) (gName j) t te vs) σ H (given xs.length f v) := fun H0 e Q q => h H0 e _ fun a H1 e1 ha => ⟨a, xs, rfl, sq_of ha, fun Dl hD =>
  lc_it walk_rev (Cw H1 f v Dl) ⟨hD, Ex.new hD, upd_same⟩ (fun i H' _ p => sq_of (p.2.1 a _ ha)) (fun i x H' H'' hi p y => by
    obtain ⟨rfl, hx⟩ := y
    exact ⟨hw x, cw_turn p (by omega) (ht i x H1 (e.trans e1) hx) (fun hf => he i x H1 (e.trans e1) hx hf)⟩) (fun H' p => q Dl H' (fresh_back e1 p.1) (e1.trans p.2.1) p.2.2)⟩
theorem el_lcU {xs : List V} {tl : TE} {j : Nat} {vs : List Nat} (f : Nat → Bool) (v : Nat → V) (h : EvS tl σ H xs) (hz : xs.length ≤ 40000) (hw : ∀ x, wipe ((wipe σ vs).set j (some x)) vs = wipe σ vs)
    (ht : ∀ (i : Nat) (x : V) H1, Ex H H1 → xs[i]? = some x → EvT t ((wipe σ vs).set j (some x)) H1 (f i)) (he : ∀ (i : Nat) (x : V) H1, Ex H H1 → xs[i]? = some x → f i = true → Ev te ((wipe σ vs).set j (some x)) H1 (v i)) :
    EvL (tLc (iTup K tl) (gName j) t te vs) σ H (given xs.length f v) := fun H0 e Q q => h H0 e _ fun a H1 e1 ha => ⟨a, rfl, ⟨xs, st_of ha⟩, fun Dl hD =>
  lc_it walk_tup (Cw H1 f v Dl) ⟨hD, Ex.new hD, upd_same⟩ (fun i H' _ p => st_of (p.2.1 a _ ha)) (fun i x H' H'' hi p y => by
    obtain ⟨rfl, hx⟩ := y
    exact ⟨hw x, cw_turn p (by omega) (ht i x H1 (e.trans e1) hx) (fun hf => he i x H1 (e.trans e1) hx hf)⟩) (fun H' p => q Dl H' (fresh_back e1 p.1) (e1.trans p.2.1) p.2.2)⟩
/-- which of a list's items a comprehension gives -/
theorem given_pick (xs : List V) (p : V → Bool) (f : Nat → Bool) (v : Nat → V) (hf : ∀ i x, xs[i]? = some x → f i = p x) (hv : ∀ i x, xs[i]? = some x → v i = x) : ∀ n, n ≤ xs.length → given n f v = (xs.take n).filter p
  | 0, _ => rfl
  | n + 1, h => by
    obtain ⟨x, hx⟩ : ∃ x, xs[n]? = some x := ⟨xs[n], List.getElem?_eq_getElem (by omega)⟩
    have ih := given_pick xs p f v hf hv n (by omega)
    rw [List.take_add_one, hx, List.filter_append, ← ih]
    cases hp : p x with
    | true =>
      rw [given_yes (by rw [hf n x hx]; exact hp), hv n x hx]
      show _ = _ ++ [x].filter p
      rw [List.filter_cons, if_pos hp]
      rfl
    | false =>
      rw [given_no (by rw [hf n x hx]; exact hp)]
      show _ = _ ++ [x].filter p
      rw [List.filter_cons, if_neg (by rw [hp]; decide)]
      show _ = _ ++ []
      rw [List.append_nil]
theorem et_yes : EvT tYes σ H true := fun H1 _ _ q => q H1 (Ex.refl H1)
theorem q_ext {l b : Addr} {xs ys : List V} (hl : H l = some (.lst xs)) (hb : H b = some (.lst ys)) (ha : Ev ta σ H (.ref l)) (h : Ev te σ H (.ref b)) (hz : xs.length + ys.length ≤ 100000) (k : ∀ H1, Ex H H1 → tz D σ (upd H1 l (.lst (xs ++ ys)))) :
    tSeq (tDrop (tBM K "list" rExtend ta (tCons te tNil))) tz D σ H := ha H (Ex.refl H) _ fun H1 e1 =>
  ⟨Or.inl ⟨rfl, xs, sq_of (e1 l _ hl)⟩, h H1 e1 _ fun H2 e2 => ⟨l, b, xs, ys, rfl, rfl, e2 l _ (e1 l _ hl), e2 b _ (e1 b _ hb), sz_of hz, k H2 (e1.trans e2)⟩⟩
theorem q_rev {l : Addr} {xs : List V} (hl : H l = some (.lst xs)) (ha : Ev ta σ H (.ref l)) (k : ∀ H1, Ex H H1 → tz D σ (upd H1 l (.lst xs.reverse))) :
    tSeq (tDrop (tBM0 K "list" rReverse ta)) tz D σ H := ha H (Ex.refl H) _ fun H1 e1 =>
  ⟨Or.inl ⟨rfl, xs, sq_of (e1 l _ hl)⟩, ⟨l, xs, rfl, rfl, e1 l _ hl, k H1 e1⟩⟩
theorem s_rev {l : Addr} {xs : List V} (hl : H l = some (.lst xs)) (ha : Ev ta σ H (.ref l)) (k : ∀ H1, Ex H H1 → D.nx σ (upd H1 l (.lst xs.reverse))) :
    tDrop (tBM0 K "list" rReverse ta) D σ H := ha H (Ex.refl H) _ fun H1 e1 =>
  ⟨Or.inl ⟨rfl, xs, sq_of (e1 l _ hl)⟩, ⟨l, xs, rfl, rfl, e1 l _ hl, k H1 e1⟩⟩
/-- for i, x in enumerate(a new list) -/
theorem s_forEN {xs : List V} {j1 j2 : Nat} (h : EvL te σ H xs) (Pv : Addr → Nat → L2.St → Hp → Prop) (h0 : ∀ a H1, H a = none → Ex H H1 → H1 a = some (.lst xs) → Pv a 0 σ H1) (hl : ∀ a i σ' H', i ≤ xs.length → Pv a i σ' H' → SqL K H' a xs)
    (hs : ∀ a i x σ' H', xs[i]? = some x → Pv a i σ' H' → ∀ H2, Ex H' H2 → tu { D with nx := Pv a (i + 1), ct := Pv a (i + 1), bk := D.nx } ((σ'.set j1 (some (.int (i : Int)))).set j2 (some x)) H2) (hd : ∀ a σ' H', Pv a xs.length σ' H' → D.nx σ' H') :
    tFor (iEnum K (tCons te tNil)) (gTup K 2 (gCons (gName j1) (gCons (gName j2) gNil))) tu D σ H := by
  refine h H (Ex.refl H) _ fun a H1 na e1 h1 => ⟨a, xs, rfl, sq_of h1, ?_⟩
  refine for_it walk_enum (Pv a) (h0 a H1 na e1 h1) (hl a) (fun i x σ' H' H'' hi p y => ?_) (hd a)
  obtain ⟨T, x1, x2, rfl, nT, rfl, f1, f2⟩ := y
  have e1 := Option.some.inj f1
  subst e1
  exact ⟨T, _, rfl, st_of upd_same, rfl, _, _, rfl, _, _, rfl, rfl, hs a i x2 σ' H' f2 p _ (Ex.new nT)⟩
theorem q_forEN {xs : List V} {j1 j2 : Nat} (h : EvL te σ H xs) (Pv : Addr → Nat → L2.St → Hp → Prop) (h0 : ∀ a H1, H a = none → Ex H H1 → H1 a = some (.lst xs) → Pv a 0 σ H1) (hl : ∀ a i σ' H', i ≤ xs.length → Pv a i σ' H' → SqL K H' a xs)
    (hs : ∀ a i x σ' H', xs[i]? = some x → Pv a i σ' H' → ∀ H2, Ex H' H2 → tu { D with nx := Pv a (i + 1), ct := Pv a (i + 1), bk := tz D } ((σ'.set j1 (some (.int (i : Int)))).set j2 (some x)) H2) (hd : ∀ a σ' H', Pv a xs.length σ' H' → tz D σ' H') :
    tSeq (tFor (iEnum K (tCons te tNil)) (gTup K 2 (gCons (gName j1) (gCons (gName j2) gNil))) tu) tz D σ H := s_forEN (D := { D with nx := tz D }) h Pv h0 hl hs hd
end
end Nc
/-! Part B: the data, the plain functions, the promises. -/
namespace Nc
open PySem L2 Evl
/-! ### plain data -/
structure Tie where
  nm : Str
  a : Str
  b : Str
  w : Int
  c : Int
inductive Kd where
  | all
  | frm (a : Str)
  | to (a : Str)
  | these (ns : List Str)
/-- all texts, or none -/
def strsD : List PyData → Option (List Str)
  | [] => some []
  | .str z :: r => (strsD r).map (z :: ·)
  | _ :: _ => none
def okL (zs ys : List Str) : Bool := ys.all (fun y => decide (y ∈ zs)) && decide ys.Nodup
/-- a paper that is a list of unlike places -/
def plist (zs : List Str) : PyData → Option (List Str)
  | .list ds => match strsD ds with
    | some ys => if okL zs ys = true then some ys else none
    | none => none
  | _ => none
def closedT (forth : Bool) (ys : List Str) (t : Tie) : Bool :=
  if forth = true then !(decide (t.a ∈ ys) && !decide (t.b ∈ ys)) else !(decide (t.b ∈ ys) && !decide (t.a ∈ ys))
def closed (ts : List Tie) (ys : List Str) (forth : Bool) : Bool := ts.all (closedT forth ys)
def within (zs : List Str) (ts : List Tie) (kd : Kd) (d : PyData) : Bool := match plist zs d with
  | none => false
  | some ys => match kd with
    | .all => decide (ys.length = zs.length)
    | .these ns => ns.all fun n => decide (n ∈ ys)
    | .frm a => decide (a ∈ ys) && closed ts ys true
    | .to a => decide (a ∈ ys) && closed ts ys false
def findT (ts : List Tie) (z : Str) : Option Tie := ts.find? fun t => decide (t.nm = z)
def goT (ts : List Tie) : Str → List PyData → Option Str
  | here, [] => some here
  | here, .str z :: r => match findT ts z with
    | some t => if t.a = here then goT ts t.b r else none
    | none => none
  | _, _ :: _ => none
def walkEnd (ts : List Tie) (a : Str) : PyData → Option Str
  | .list ds => goT ts a ds
  | _ => none
def isNil : PyData → Bool
  | .list [] => true
  | _ => false
def memberK (ts : List Tie) (kd : Kd) (z : Str) (d : PyData) : Bool := match kd with
  | .all => isNil d
  | .these ns => isNil d && decide (z ∈ ns)
  | .frm a => decide (walkEnd ts a d = some z)
  | .to a => decide (walkEnd ts z d = some a)
def member (zs : List Str) (ts : List Tie) (kd : Kd) (z : Str) (d : PyData) : Bool := decide (z ∈ zs) && memberK ts kd z d
inductive Reach (ts : List Tie) (forth : Bool) (a : Str) : Str → Prop where
  | start : Reach ts forth a a
  | step {z : Str} (t : Tie) : t ∈ ts → Reach ts forth a z → z = (if forth = true then t.a else t.b) → Reach ts forth a (if forth = true then t.b else t.a)
def inKd (ts : List Tie) (kd : Kd) (m : Str) : Prop := match kd with
  | .all => True
  | .these ns => m ∈ ns
  | .frm a => Reach ts true a m
  | .to a => Reach ts false a m
theorem reach_in {ts : List Tie} {forth : Bool} {a m : Str} {ys : List Str} (hc : closed ts ys forth = true) (ha : a ∈ ys) (h : Reach ts forth a m) : m ∈ ys := by
  induction h with
  | start => exact ha
  | step t ht _ e ih =>
    have q := List.all_eq_true.mp hc t ht
    subst e
    cases forth with
    | true =>
      simp only [closedT, if_true] at q ih ⊢
      by_cases hb : t.b ∈ ys
      · exact hb
      · simp [ih, hb] at q
    | false =>
      simp only [closedT, Bool.false_eq_true, if_false] at q ih ⊢
      by_cases hb : t.a ∈ ys
      · exact hb
      · simp [ih, hb] at q
theorem okL_iff {zs ys : List Str} : okL zs ys = true ↔ (∀ y ∈ ys, y ∈ zs) ∧ ys.Nodup := by
  simp [okL, List.all_eq_true]
theorem strsD_map : ∀ zs : List Str, strsD (zs.map PyData.str) = some zs
  | [] => rfl
  | z :: zs => by
    show (strsD (zs.map PyData.str)).map (z :: ·) = some (z :: zs)
    rw [strsD_map zs]
    rfl
theorem strsD_is : ∀ {ds : List PyData} {zs : List Str}, strsD ds = some zs → ds = zs.map PyData.str
  | [], zs, h => by
    have e := Option.some.inj h
    subst e
    rfl
  | .str z :: r, zs, h => by
    change (strsD r).map (z :: ·) = some zs at h
    cases e : strsD r with
    | none =>
      rw [e] at h
      cases h
    | some ys =>
      rw [e] at h
      have q := Option.some.inj h
      subst q
      rw [strsD_is e]
      rfl
  | .none :: _, _, h => by cases h
  | .bool _ :: _, _, h => by cases h
  | .int _ :: _, _, h => by cases h
  | .list _ :: _, _, h => by cases h
  | .tuple _ :: _, _, h => by cases h
  | .dict _ :: _, _, h => by cases h
/-- a full list without repeats holds all of the other -/
theorem full_in : ∀ {ys zs : List Str}, (∀ y ∈ ys, y ∈ zs) → ys.Nodup → ys.length = zs.length → ∀ z ∈ zs, z ∈ ys
  | [], zs, _, _, h3, z, hz => by
    have e : zs = [] := List.eq_nil_of_length_eq_zero h3.symm
    rw [e] at hz
    exact hz
  | y :: ys, zs, h1, h2, h3, z, hz => by
    obtain ⟨n1, n2⟩ := List.nodup_cons.mp h2
    have hy : y ∈ zs := h1 y List.mem_cons_self
    have hl : (zs.erase y).length = zs.length - 1 := List.length_erase_of_mem hy
    have hs : ∀ x ∈ ys, x ∈ zs.erase y := fun x hx => (List.mem_erase_of_ne (fun e => n1 (by rw [← e]; exact hx))).mpr (h1 x (List.mem_cons_of_mem _ hx))
    have h4 : ys.length + 1 = zs.length := h3
    by_cases e : z = y
    · rw [e]
      exact List.mem_cons_self
    · exact List.mem_cons_of_mem _ (full_in hs n2 (by omega) z ((List.mem_erase_of_ne e).mpr hz))
theorem nodup_le : ∀ {ys zs : List Str}, (∀ y ∈ ys, y ∈ zs) → ys.Nodup → ys.length ≤ zs.length
  | [], zs, _, _ => Nat.zero_le _
  | y :: ys, zs, h1, h2 => by
    obtain ⟨n1, n2⟩ := List.nodup_cons.mp h2
    have hy : y ∈ zs := h1 y List.mem_cons_self
    have hl : (zs.erase y).length = zs.length - 1 := List.length_erase_of_mem hy
    have h0 : 0 < zs.length := List.length_pos_of_mem hy
    have hs : ∀ x ∈ ys, x ∈ zs.erase y := fun x hx => (List.mem_erase_of_ne (fun e => n1 (by rw [← e]; exact hx))).mpr (h1 x (List.mem_cons_of_mem _ hx))
    have ih := nodup_le hs n2
    show ys.length + 1 ≤ zs.length
    omega
theorem within_in {zs : List Str} {ts : List Tie} {kd : Kd} {d : PyData} (h : within zs ts kd d = true) : ∃ ys : List Str, d = .list (ys.map PyData.str) ∧ ∀ m, m ∈ zs → inKd ts kd m → m ∈ ys := by
  unfold within at h
  cases hp : plist zs d with
  | none =>
    rw [hp] at h
    cases h
  | some ys =>
    rw [hp] at h
    have hd : d = .list (ys.map PyData.str) ∧ okL zs ys = true := by
      cases d with
      | list ds =>
        unfold plist at hp
        dsimp only at hp
        cases hs : strsD ds with
        | none =>
          rw [hs] at hp
          cases hp
        | some xs =>
          rw [hs] at hp
          dsimp only at hp
          by_cases ho : okL zs xs = true
          · rw [if_pos ho] at hp
            have e := Option.some.inj hp
            subst e
            exact ⟨by rw [strsD_is hs], ho⟩
          · rw [if_neg ho] at hp
            cases hp
      | _ => cases hp
    obtain ⟨hd, ho⟩ := hd
    obtain ⟨o1, o2⟩ := okL_iff.mp ho
    refine ⟨ys, hd, fun m hm hk => ?_⟩
    cases kd with
    | all => exact full_in o1 o2 (of_decide_eq_true h) m hm
    | these ns => exact of_decide_eq_true (List.all_eq_true.mp h m hk)
    | frm a =>
      obtain ⟨h1, h2⟩ := Bool.and_eq_true_iff.mp h
      exact reach_in h2 (of_decide_eq_true h1) hk
    | to a =>
      obtain ⟨h1, h2⟩ := Bool.and_eq_true_iff.mp h
      exact reach_in h2 (of_decide_eq_true h1) hk

/-! ### names -/
def IsNm (z : Str) : Prop := z.length ≠ 0 ∧ z.length ≤ 12 ∧ ∀ c ∈ z.cps.toList, c ∈ letS.cps.toList
def letC (i : Int) : Nat := 97 + i.toNat
theorem let_at : ∀ i : Nat, i < 26 → letS.cps.toList[i]? = some (97 + i) := by decide +kernel
theorem let_mem {i : Int} (h0 : 0 ≤ i) (h1 : i < 26) : letC i ∈ letS.cps.toList := by
  have h := let_at i.toNat (by omega)
  exact List.mem_of_getElem? h
theorem let_ix {i : Int} (h0 : 0 ≤ i) (h1 : i < 26) : atI letS.cps.toList i = some (letC i) := by
  have h := let_at i.toNat (by omega)
  have e : i = ((i.toNat : Nat) : Int) := by omega
  rw [e]
  exact atI_nat h
def foundC (c : Int) (n : Nat) : List Nat := (List.range n).map fun (j : Nat) => letC ((c / 7 + (j : Int) * (j : Int)) % 26)
def atC (c : Int) : Nat := (c / 182 % (1 + c % 7)).toNat
def nameC (c k : Int) : List Nat := (foundC c (1 + c % 7).toNat).take (atC c) ++ [letC ((c / 1274 + k) % 26)] ++ (foundC c (1 + c % 7).toNat).drop (atC c + 1)
def nameOf (c k : Int) : Str := ⟨(nameC c k).toArray⟩
theorem found_len (c : Int) (n : Nat) : (foundC c n).length = n := by simp [foundC]
theorem found_succ (c : Int) (n : Nat) : foundC c (n + 1) = foundC c n ++ [letC ((c / 7 + (n : Int) * (n : Int)) % 26)] := by
  simp [foundC, List.range_succ]
theorem found_mem {c : Int} {n : Nat} {x : Nat} (h : x ∈ foundC c n) : x ∈ letS.cps.toList := by
  simp only [foundC, List.mem_map] at h
  obtain ⟨j, _, rfl⟩ := h
  exact let_mem (Int.emod_nonneg _ (by decide)) (Int.emod_lt_of_pos _ (by decide))
theorem atC_lt (c : Int) : atC c < (1 + c % 7).toNat := by
  have h0 : 0 ≤ c % 7 := Int.emod_nonneg _ (by decide)
  have h1 : 0 ≤ c / 182 % (1 + c % 7) := Int.emod_nonneg _ (by omega)
  have h2 : c / 182 % (1 + c % 7) < 1 + c % 7 := Int.emod_lt_of_pos _ (by omega)
  unfold atC
  omega
theorem nameC_len (c k : Int) : (nameC c k).length = (1 + c % 7).toNat := by
  have h := atC_lt c
  simp only [nameC, List.length_append, List.length_take, List.length_drop, found_len, List.length_singleton]
  omega
theorem nameC_at (c k : Int) : (nameC c k)[atC c]? = some (letC ((c / 1274 + k) % 26)) := by
  have h := atC_lt c
  unfold nameC
  rw [List.append_assoc, List.getElem?_append_right (by rw [List.length_take, found_len]; omega)]
  rw [List.length_take, found_len, Nat.min_eq_left (by omega), Nat.sub_self]
  rfl
theorem name_ok (c k : Int) : IsNm (nameOf c k) := by
  have h0 : 0 ≤ c % 7 := Int.emod_nonneg _ (by decide)
  have h1 : c % 7 < 7 := Int.emod_lt_of_pos _ (by decide)
  have hl : (nameOf c k).length = (1 + c % 7).toNat := by
    show (nameC c k).toArray.size = _
    rw [List.size_toArray, nameC_len]
  refine ⟨by omega, by omega, fun x hx => ?_⟩
  have hx : x ∈ nameC c k := by simpa [nameOf] using hx
  unfold nameC at hx
  simp only [List.mem_append, List.mem_singleton] at hx
  rcases hx with (hx | hx) | hx
  · exact found_mem (List.mem_of_mem_take hx)
  · subst hx
    exact let_mem (Int.emod_nonneg _ (by decide)) (Int.emod_lt_of_pos _ (by decide))
  · exact found_mem (List.mem_of_mem_drop hx)
theorem name_inj {c k k' : Int} (h0 : 0 ≤ k) (h1 : k < 26) (h0' : 0 ≤ k') (h1' : k' < 26) (e : nameOf c k = nameOf c k') : k = k' := by
  have e2 : nameC c k = nameC c k' := by
    have q := congrArg (fun z : Str => z.cps.toList) e
    simpa [nameOf] using q
  have a1 := nameC_at c k
  rw [e2, nameC_at c k'] at a1
  have a2 := Option.some.inj a1
  unfold letC at a2
  have b1 : 0 ≤ (c / 1274 + k) % 26 := Int.emod_nonneg _ (by decide)
  have b2 : 0 ≤ (c / 1274 + k') % 26 := Int.emod_nonneg _ (by decide)
  omega
end Nc
/-! Part C: how the data lie in the heap, the promises. -/
namespace Nc
open PySem L2 Evl
/-! ### the heap -/
def TieAt (H : Hp) (p : Addr) (t : Tie) : Prop := H p = some (.tup [.str t.nm, .str t.a, .str t.b, .int t.w, .int t.c])
abbrev refs (ts : List (Addr × Tie)) : List V := ts.map fun x => V.ref x.1
abbrev ties (ts : List (Addr × Tie)) : List Tie := ts.map fun x => x.2
structure TiesAt (H : Hp) (l : Addr) (ts : List (Addr × Tie)) : Prop where
  lst : H l = some (.lst (refs ts))
  each : ∀ x ∈ ts, TieAt H x.1 x.2
abbrev StrsAt (H : Hp) (l : Addr) (zs : List Str) : Prop := H l = some (.lst (zs.map V.str))
theorem TiesAt.mono {H H' : Hp} {l : Addr} {ts : List (Addr × Tie)} (e : Ex H H') (h : TiesAt H l ts) : TiesAt H' l ts := ⟨e _ _ h.lst, fun x hx => e _ _ (h.each x hx)⟩
theorem TiesAt.get {H : Hp} {l : Addr} {ts : List (Addr × Tie)} (h : TiesAt H l ts) {i : Nat} {x : V} (hi : (refs ts)[i]? = some x) : ∃ p t, ts[i]? = some (p, t) ∧ x = .ref p ∧ TieAt H p t := by
  rw [List.getElem?_map] at hi
  cases e : ts[i]? with
  | none =>
    rw [e] at hi
    cases hi
  | some y =>
    rw [e] at hi
    exact ⟨y.1, y.2, rfl, (Option.some.inj hi).symm, h.each y (List.mem_of_getElem? e)⟩
theorem strs_get {zs : List Str} {i : Nat} {x : V} (hi : (zs.map V.str)[i]? = some x) : ∃ z, zs[i]? = some z ∧ x = .str z := by
  rw [List.getElem?_map] at hi
  cases e : zs[i]? with
  | none =>
    rw [e] at hi
    cases hi
  | some y =>
    rw [e] at hi
    exact ⟨y, rfl, (Option.some.inj hi).symm⟩
theorem strs_flat (zs : List Str) : (zs.map V.str).all flatV = true := by
  rw [List.all_eq_true]
  intro x hx
  obtain ⟨z, _, rfl⟩ := List.mem_map.mp hx
  rfl
theorem inV_strs (z : Str) : ∀ zs : List Str, inV (.str z) (zs.map V.str) = decide (z ∈ zs)
  | [] => rfl
  | y :: zs => by
    have ih := inV_strs z zs
    unfold inV at ih ⊢
    rw [List.map_cons, List.any_cons, ih]
    show ((y == z) || _) = _
    by_cases e : y = z
    · subst e
      simp
    · have e' : ¬ z = y := fun q => e q.symm
      simp [e, e']

/-! the instance -/
def nf (k l : Addr) : List (Str × V) := putF "laid" (.ref l) (putF "known" (.ref k) [])
theorem kl_ne : ¬ (("known" : Str) = "laid") := by decide +kernel
theorem nf_known (k l : Addr) : (nf k l).lookup ("known" : Str) = some (.ref k) := by
  unfold nf
  rw [lookup_putF, if_neg kl_ne, lookup_putF, if_pos rfl]
theorem nf_laid (k l : Addr) : (nf k l).lookup ("laid" : Str) = some (.ref l) := by
  unfold nf
  rw [lookup_putF, if_pos rfl]
theorem nf_no (k l : Addr) {m : Str} (h1 : ¬ m = "laid") (h2 : ¬ m = "known") : (nf k l).lookup m = none := by
  unfold nf
  rw [lookup_putF, if_neg h1, lookup_putF, if_neg h2]
  rfl
/-- what the written part says of the class -/
structure Tx (K : PySem.W.Frag) (C : Addr) : Prop where
  cl : Cls K C
  nK : NoAttr K C "known"
  nL : NoAttr K C "laid"
/-- a net at p, its places listed at k, its ties at l -/
structure NetIs (C : Addr) (H : Hp) (p k l : Addr) (zs : List Str) (ts : List (Addr × Tie)) : Prop where
  ob : ∃ dx, H p = some (.ins C dx (nf k l))
  kn : StrsAt H k zs
  la : TiesAt H l ts
  ne : k ≠ l
theorem NetIs.mono {C : Addr} {H H' : Hp} {p k l : Addr} {zs : List Str} {ts : List (Addr × Tie)} (e : Ex H H') (h : NetIs C H p k l zs ts) : NetIs C H' p k l zs ts := by
  obtain ⟨⟨dx, h1⟩, h2, h3, h4⟩ := h
  exact ⟨⟨dx, e _ _ h1⟩, e _ _ h2, h3.mono e, h4⟩
def KdAt (H : Hp) (p : Addr) : Kd → Prop
  | .all => H p = some (.tup [.str "all"])
  | .frm a => H p = some (.tup [.str "from", .str a])
  | .to a => H p = some (.tup [.str "to", .str a])
  | .these ns => ∃ q, H p = some (.tup [.str "these", .ref q]) ∧ StrsAt H q ns
theorem kd_mono {H H' : Hp} {p : Addr} (e : Ex H H') : ∀ {kd : Kd}, KdAt H p kd → KdAt H' p kd
  | .all, h => e _ _ h
  | .frm _, h => e _ _ h
  | .to _, h => e _ _ h
  | .these _, ⟨q, h1, h2⟩ => ⟨q, e _ _ h1, e _ _ h2⟩
def optV : Option Str → V
  | some z => .str z
  | none => .non
def tieV (ts : List (Addr × Tie)) (z : Str) : V := match ts.find? (fun x => decide (x.2.nm = z)) with
  | some x => .ref x.1
  | none => .non
/-- a datum that == takes, of so much depth at most -/
structure Fine (n : Nat) (d : PyData) : Prop where
  can : d.canLay0 = true
  dep : d.depth ≤ n
theorem Fine.shaped {n : Nat} {d : PyData} (h : Fine n d) (hn : n ≤ 64) : SeqAt.shaped d = true := by
  unfold SeqAt.shaped
  rw [h.can]
  exact decide_eq_true (Nat.le_trans h.dep hn)

def sOk (z : Str) : Prop := PyData.strOk z = true
def TOk (t : Tie) : Prop := sOk t.nm ∧ sOk t.a ∧ sOk t.b
theorem let_small : ∀ c ∈ letS.cps.toList, decide (c < 0x110000) = true := by decide +kernel
theorem nm_ok {z : Str} (h : IsNm z) : sOk z := by
  show z.cps.all (· < 0x110000) = true
  rw [← Array.all_toList, List.all_eq_true]
  exact fun c hc => let_small c (h.2.2 c hc)
theorem fine_str {n : Nat} {z : Str} (h : sOk z) : Fine n (.str z) := ⟨by
  unfold PyData.canLay0
  exact h, by
  unfold PyData.depth
  exact Nat.zero_le _⟩
theorem fine_int {n : Nat} {i : Int} : Fine n (.int i) := ⟨by
  unfold PyData.canLay0
  rfl, by
  unfold PyData.depth
  exact Nat.zero_le _⟩
theorem fine_all {n : Nat} : ∀ {ds : List PyData}, (∀ d ∈ ds, Fine n d) → PyData.canLayAll0 ds = true ∧ PyData.depthAll ds ≤ n
  | [], _ => ⟨by unfold PyData.canLayAll0; rfl, by unfold PyData.depthAll; exact Nat.zero_le _⟩
  | d :: ds, h => by
    obtain ⟨h1, h2⟩ := fine_all fun x hx => h x (List.mem_cons_of_mem _ hx)
    have h3 := h d List.mem_cons_self
    refine ⟨?_, ?_⟩
    · unfold PyData.canLayAll0
      rw [h3.can, h1]
      rfl
    · unfold PyData.depthAll
      exact Nat.max_le.mpr ⟨h3.dep, h2⟩
theorem fine_list {n : Nat} {ds : List PyData} (h : ∀ d ∈ ds, Fine n d) : Fine (n + 1) (.list ds) := ⟨by
  unfold PyData.canLay0
  exact (fine_all h).1, by
  unfold PyData.depth
  exact Nat.succ_le_succ (fine_all h).2⟩
theorem fine_tup {n : Nat} {ds : List PyData} (h : ∀ d ∈ ds, Fine n d) : Fine (n + 1) (.tuple ds) := ⟨by
  unfold PyData.canLay0
  exact (fine_all h).1, by
  unfold PyData.depth
  exact Nat.succ_le_succ (fine_all h).2⟩
theorem can_mem {n : Nat} : ∀ {ds : List PyData}, PyData.canLayAll0 ds = true → PyData.depthAll ds ≤ n → ∀ d ∈ ds, Fine n d
  | [], _, _, d, h => by cases h
  | x :: ds, h1, h2, d, h => by
    unfold PyData.canLayAll0 at h1
    unfold PyData.depthAll at h2
    obtain ⟨a, b⟩ := Bool.and_eq_true_iff.mp h1
    obtain ⟨c, e⟩ := Nat.max_le.mp h2
    rcases List.mem_cons.mp h with h | h
    · subst h
      exact ⟨a, c⟩
    · exact can_mem b e d h
theorem Fine.mem {n : Nat} {ds : List PyData} (h : Fine (n + 1) (.list ds)) : ∀ d ∈ ds, Fine n d := by
  obtain ⟨h1, h2⟩ := h
  unfold PyData.canLay0 at h1
  unfold PyData.depth at h2
  exact can_mem h1 (by omega)
theorem Fine.le {n m : Nat} {d : PyData} (h : Fine n d) (hm : n ≤ m) : Fine m d := ⟨h.can, Nat.le_trans h.dep hm⟩
theorem fine_strs {n : Nat} {zs : List Str} (h : ∀ z ∈ zs, sOk z) : Fine (n + 1) (.list (zs.map PyData.str)) := fine_list fun d hd => by
  obtain ⟨z, hz, rfl⟩ := List.mem_map.mp hd
  exact fine_str (h z hz)
theorem eqv_nil (ds : List PyData) : PyData.eqv (.list ds) (.list []) = ds.isEmpty := by
  cases ds with
  | nil =>
    unfold PyData.eqv PyData.eqvAll
    rfl
  | cons d ds =>
    unfold PyData.eqv PyData.eqvAll
    rfl
theorem eqv_isNil (d : PyData) : PyData.eqv d (.list []) = isNil d := by
  cases d with
  | list ds =>
    rw [eqv_nil]
    cases ds <;> rfl
  | _ =>
    unfold PyData.eqv
    rfl
theorem dp_nil {K : PySem.W.Frag} {H : Hp} {p : Addr} (h : H p = some (.lst [])) : Dp K H (.ref p) (.list []) := .lst (sq_of h) .nil
theorem fine_nil {n : Nat} : Fine (n + 1) (.list []) := fine_list fun d hd => by cases hd

/-! ### what the script's parts are -/
structure Good (zs : List Str) (ts : List Tie) : Prop where
  len0 : 1 ≤ zs.length
  len : zs.length ≤ 6
  nd : zs.Nodup
  nm : ∀ z ∈ zs, IsNm z
  tlen : ts.length ≤ 10
  tnd : (ts.map (·.nm)).Nodup
  each : ∀ t ∈ ts, IsNm t.nm ∧ t.a ∈ zs ∧ t.b ∈ zs ∧ t.a ≠ t.b ∧ 1 ≤ t.w
/-- the set's place is one of the net -/
def KdIn (zs : List Str) : Kd → Prop
  | .frm a => a ∈ zs
  | .to a => a ∈ zs
  | .these ns => ns.length ≤ 100 ∧ ∀ n ∈ ns, sOk n
  | .all => True

/-! ### the promises -/
def spIsName : Sp := fun vs H Q _ => ∃ z, vs = [.str z] ∧ IsNm z ∧ RetV (.bl true) H Q
def spLook : Sp := fun vs H Q _ => ∃ z, vs = [.str z] ∧ IsNm z ∧ RetV .non H Q
def spInit (C : Addr) : Sp := fun vs H Q _ => ∃ p dx, vs = [.ref p] ∧ H p = some (.ins C dx []) ∧
  ∀ H' k l, NetIs C H' p k l [] [] → H k = none → H l = none → k ≠ l → (∀ b o, H b = some o → b ≠ p → H' b = some o) → Q .non H'
def spPlace (C : Addr) : Sp := fun vs H Q _ => ∃ p k l zs ts z, vs = [.ref p, .str z] ∧ NetIs C H p k l zs ts ∧ IsNm z ∧ z ∉ zs ∧ zs.length < 20 ∧
  ∀ H', NetIs C H' p k l (zs ++ [z]) ts → (∀ b o, H b = some o → b ≠ k → H' b = some o) → Q .non H'
def spTie (C : Addr) : Sp := fun vs H Q _ => ∃ (p k l : Addr) (zs : List Str) (ts : List (Addr × Tie)) (t : Tie), vs = [.ref p, .str t.nm, .str t.a, .str t.b, .int t.w, .int t.c] ∧ NetIs C H p k l zs ts ∧
  IsNm t.nm ∧ IsNm t.a ∧ IsNm t.b ∧ (∀ x ∈ ts, x.2.nm ≠ t.nm) ∧ t.a ≠ t.b ∧ 1 ≤ t.w ∧ t.a ∈ zs ∧ t.b ∈ zs ∧ ts.length < 40 ∧ zs.length ≤ 20 ∧
  ∀ H' q, NetIs C H' p k l zs (ts ++ [(q, t)]) → (∀ b o, H b = some o → b ≠ k → b ≠ l → H' b = some o) → Q .non H'
def spNamed (C : Addr) : Sp := fun vs H Q _ => ∃ p k l zs ts z, vs = [.ref p, .str z] ∧ NetIs C H p k l zs ts ∧ RetV (tieV ts z) H Q
def spPlaces (C : Addr) : Sp := fun vs H Q _ => ∃ p k l zs ts, vs = [.ref p] ∧ NetIs C H p k l zs ts ∧ RetL (zs.map V.str) H Q
def spTies (C : Addr) : Sp := fun vs H Q _ => ∃ p k l zs ts, vs = [.ref p] ∧ NetIs C H p k l zs ts ∧ RetL (refs ts) H Q
def spWalk (K : PySem.W.Frag) (C : Addr) : Sp := fun vs H Q _ => ∃ p k l zs ts a v d, vs = [.ref p, .str a, v] ∧ NetIs C H p k l zs ts ∧ Dp K H v d ∧ RetV (optV (walkEnd (ties ts) a d)) H Q
def spPlist (K : PySem.W.Frag) (C : Addr) : Sp := fun vs H Q _ => ∃ p k l zs ts v d, vs = [.ref p, v] ∧ NetIs C H p k l zs ts ∧ zs.length ≤ 100 ∧ Dp K H v d ∧
  (∀ ys, plist zs d = some ys → RetL (ys.map V.str) H Q) ∧ (plist zs d = none → RetV .non H Q)
def spClosed (C : Addr) : Sp := fun vs H Q _ => ∃ p k l zs ts q ys b, vs = [.ref p, .ref q, .bl b] ∧ NetIs C H p k l zs ts ∧ StrsAt H q ys ∧ RetV (.bl (closed (ties ts) ys b)) H Q
def spWithin (K : PySem.W.Frag) (C : Addr) : Sp := fun vs H Q _ => ∃ p k l zs ts q kd v d, vs = [.ref p, .ref q, v] ∧ NetIs C H p k l zs ts ∧ zs.length ≤ 100 ∧ KdAt H q kd ∧ KdIn zs kd ∧ Dp K H v d ∧ RetV (.bl (within zs (ties ts) kd d)) H Q
def spMember (K : PySem.W.Frag) (C : Addr) : Sp := fun vs H Q _ => ∃ p k l zs ts q kd z v d, vs = [.ref p, .ref q, .str z, v] ∧ NetIs C H p k l zs ts ∧ KdAt H q kd ∧ Dp K H v d ∧ Fine 60 d ∧ RetV (.bl (member zs (ties ts) kd z d)) H Q
/-- keys that are texts come to by walks -/
def KeysIn (ts : List Tie) (b : Bool) (a : Str) (kvs : List (Key × V)) : Prop := ∀ x ∈ kvs, ∃ z, x.1 = Sum.inr z ∧ Reach ts b a z
def spCome (C : Addr) : Sp := fun vs H Q _ => ∃ p k l zs ts a b q, vs = [.ref p, .str a, .bl b, .ref q] ∧ NetIs C H p k l zs ts ∧ H q = some (.lst []) ∧ a ∈ zs ∧ (∀ t ∈ ties ts, t.a ∈ zs ∧ t.b ∈ zs) ∧ zs.length ≤ 100 ∧
  ∀ r H' kvs, H r = none → Ex H H' → H' r = some (.dK kvs) → KeysIn (ties ts) b a kvs → Q (.ref r) H'
def spMembers (C : Addr) : Sp := fun vs H Q _ => ∃ p k l zs ts q kd, vs = [.ref p, .ref q] ∧ NetIs C H p k l zs ts ∧ KdAt H q kd ∧ KdIn zs kd ∧ (∀ t ∈ ties ts, t.a ∈ zs ∧ t.b ∈ zs) ∧ zs.length ≤ 100 ∧
  ∀ r H' ms, H r = none → Ex H H' → StrsAt H' r ms → (∀ m ∈ ms, m ∈ zs ∧ inKd (ties ts) kd m) → Q (.ref r) H'
def spCell (K : PySem.W.Frag) : Sp := fun vs H Q _ => ∃ (a : Addr) (ns : List Int) (k : Nat), vs = [.ref a, .int k] ∧ SqL K H a (ns.map V.int) ∧ RetV (.int (ns.getD k 0)) H Q
def spName : Sp := fun vs H Q _ => ∃ (c k : Int), vs = [.int c, .int k] ∧ RetV (.str (nameOf c k)) H Q
def spParts (K : PySem.W.Frag) : Sp := fun vs H Q _ => ∃ (a : Addr) (ns : List Int), vs = [.ref a] ∧ SqL K H a (ns.map V.int) ∧ ns.length ≤ 63 ∧
  ∀ q pl tl zs ts H', Ex H H' → H' q = some (.tup [.ref pl, .ref tl]) → StrsAt H' pl zs → TiesAt H' tl ts → Good zs (ties ts) → Q (.ref q) H'
def spNet (C : Addr) : Sp := fun vs H Q _ => ∃ pl tl zs ts, vs = [.ref pl, .ref tl] ∧ StrsAt H pl zs ∧ TiesAt H tl ts ∧ Good zs (ties ts) ∧
  ∀ p k l us H', Ex H H' → NetIs C H' p k l zs us → ties us = ties ts → Q (.ref p) H'
def spKind : Sp := fun vs H Q _ => ∃ (c : Int) (pl : Addr) (zs : List Str), vs = [.int c, .ref pl] ∧ StrsAt H pl zs ∧ (∀ z ∈ zs, sOk z) ∧ 1 ≤ zs.length ∧ zs.length ≤ 6 ∧
  ∀ q kd H', Ex H H' → KdAt H' q kd → KdIn zs kd → Q (.ref q) H'
def spListed (K : PySem.W.Frag) : Sp := fun vs H Q _ => ∃ (c : Int) (pl tl q : Addr) (zs : List Str) (ts : List (Addr × Tie)) (kd : Kd), vs = [.int c, .ref pl, .ref tl, .ref q] ∧ StrsAt H pl zs ∧ TiesAt H tl ts ∧ KdAt H q kd ∧ KdIn zs kd ∧ (∀ z ∈ zs, sOk z) ∧ (∀ t ∈ ties ts, TOk t) ∧ 1 ≤ zs.length ∧ zs.length ≤ 6 ∧ ts.length ≤ 10 ∧
  ∀ v d H', Ex H H' → Dp K H' v d → Fine 10 d → Q v H'
def spSteps (K : PySem.W.Frag) : Sp := fun vs H Q _ => ∃ (c : Int) (z : Str) (tl : Addr) (ts : List (Addr × Tie)), vs = [.int c, .str z, .ref tl] ∧ TiesAt H tl ts ∧ (∀ t ∈ ties ts, TOk t) ∧ ts.length ≤ 10 ∧
  ∀ q xs ds H', Ex H H' → H' q = some (.lst xs) → DpAll K H' xs ds → Fine 10 (.list ds) → Q (.ref q) H'
def spLWithin (K : PySem.W.Frag) : Sp := fun vs H Q _ => ∃ pl tl zs ts q kd v d, vs = [.ref pl, .ref tl, .ref q, v] ∧ StrsAt H pl zs ∧ TiesAt H tl ts ∧ KdAt H q kd ∧ KdIn zs kd ∧ Dp K H v d ∧ RetV (.bl (within zs (ties ts) kd d)) H Q
def spLEnd (K : PySem.W.Frag) : Sp := fun vs H Q _ => ∃ tl ts z q xs ds, vs = [.ref tl, .str z, .ref q] ∧ TiesAt H tl ts ∧ (∀ t ∈ ties ts, TOk t) ∧ ts.length ≤ 10 ∧ SqL K H q xs ∧ DpAll K H xs ds ∧ Fine 10 (.list ds) ∧ RetV (optV (goT (ties ts) z ds)) H Q
def spLMember (K : PySem.W.Frag) : Sp := fun vs H Q _ => ∃ pl tl zs ts q kd z r xs ds, vs = [.ref pl, .ref tl, .ref q, .str z, .ref r] ∧ StrsAt H pl zs ∧ TiesAt H tl ts ∧ (∀ t ∈ ties ts, TOk t) ∧ ts.length ≤ 10 ∧ KdAt H q kd ∧ SqL K H r xs ∧ DpAll K H xs ds ∧ Fine 10 (.list ds) ∧
  RetV (.bl (memberK (ties ts) kd z (.list ds))) H Q
def spOne (C : Addr) : Sp := fun vs H Q _ => ∃ p k l us pl tl zs ts c, vs = [.ref p, .ref pl, .ref tl, .int c] ∧ NetIs C H p k l zs us ∧ ties us = ties ts ∧ StrsAt H pl zs ∧ TiesAt H tl ts ∧ Good zs (ties ts) ∧ RetV (.bl true) H Q
def spLaw (K : PySem.W.Frag) : Sp := fun vs H Q _ => ∃ (a : Addr) (ns : List Int), vs = [.ref a] ∧ SqL K H a (ns.map V.int) ∧ ns.length ≤ 63 ∧ ∀ H', Q (.bl true) H'
end Nc
/-! Part D: the net. -/
namespace Nc
open PySem L2 Evl
abbrev s_is_name : Stmt := top 13
theorem sc_is_name : FnScope ["text", "sign"] ["text"] (defScope s_is_name) := ⟨rfl, rfl, rfl, by decide +kernel, rfl, by decide +kernel, by decide +kernel⟩
abbrev s_look_at_name : Stmt := top 14
theorem sc_look_at_name : FnScope ["text"] ["text"] (defScope s_look_at_name) := ⟨rfl, rfl, rfl, by decide +kernel, rfl, by decide +kernel, by decide +kernel⟩
abbrev s_init : Stmt := inClass (top 15) 0
theorem sc_init : FnScope ["self"] ["self"] (defScope s_init) := ⟨rfl, rfl, rfl, by decide +kernel, rfl, by decide +kernel, by decide +kernel⟩
abbrev s_places : Stmt := inClass (top 15) 7
theorem sc_places : FnScope ["self"] ["self"] (defScope s_places) := ⟨rfl, rfl, rfl, by decide +kernel, rfl, by decide +kernel, by decide +kernel⟩
abbrev s_ties : Stmt := inClass (top 15) 8
theorem sc_ties : FnScope ["self"] ["self"] (defScope s_ties) := ⟨rfl, rfl, rfl, by decide +kernel, rfl, by decide +kernel, by decide +kernel⟩
abbrev s_tie_named : Stmt := inClass (top 15) 3
theorem sc_tie_named : FnScope ["self", "name", "one"] ["self", "name"] (defScope s_tie_named) := ⟨rfl, rfl, rfl, by decide +kernel, rfl, by decide +kernel, by decide +kernel⟩
abbrev s_place : Stmt := inClass (top 15) 1
theorem sc_place : FnScope ["self", "name"] ["self", "name"] (defScope s_place) := ⟨rfl, rfl, rfl, by decide +kernel, rfl, by decide +kernel, by decide +kernel⟩
abbrev s_tie : Stmt := inClass (top 15) 2
theorem sc_tie : FnScope ["self", "name", "a", "b", "width", "cost", "text", "fresh", "one"] ["self", "name", "a", "b", "width", "cost"] (defScope s_tie) := ⟨rfl, rfl, rfl, by decide +kernel, rfl, by decide +kernel, by decide +kernel⟩
section
variable {P : Program} {w : World} {K : PySem.W.Frag} {mg : Str → Option Value} {base : Heap} {C : Addr}
theorem ok_is_name {f : Addr} {fd : FuncData} (F : Fun K "is_name" "is_name" s_is_name f fd) (B : Blt mg) (G : Glo mg) : FnOk P w K mg base CX0 1 f fd ["text"] spIsName := by
  refine F.ok sc_is_name (fun vs H Q E h => ?_) (fun cdv A outer s H vs Q E hr h => ?_)
  · obtain ⟨z, rfl, _⟩ := h
    rfl
  · obtain ⟨z, rfl, ⟨z0, z1, z2⟩, k⟩ := h
    have nd := sc_is_name.nd
    refine ⟨_, (pss_cons (ps_if (PW.pt (pw_or (pt_cmpR op_eq (pv 0) pe_str (nomark _)) (pw_or1 (pt_cmpR op_gt (pe_callB call_len_str (by rfl) B.len PySem.boot_len (pa_cons (pv 0) pa_nil)) (pe_gl G.LONGEST_NAME) (nomark _))))) (pss_one (ps_ret pe_bl)) pss_nil)
    (pss_cons (ps_for PassesOwn.never rfl (pi_str (pv 0)) (pg_name (i := 1) nd rfl (Or.inl rfl))
    (pss_one (ps_if (pt_cmpR op_notIn_sign (pv 1) (pe_gl G.LETTERS) rfl) (pss_one (ps_ret pe_bl)) pss_nil)))
    (pss_one (ps_ret pe_bl)))), ?_⟩
    have hb : (decide (V.str z = V.str (Str.ofString "")) || decide ((12 : Int) < (z.length : Int))) = false := by
      have n1 : ¬ V.str z = V.str (Str.ofString "") := fun e => z0 (by
        have q := V.str.inj e
        rw [q]
        rfl)
      rw [decide_eq_false n1, decide_eq_false (by omega)]
      rfl
    refine q_when (b := false) (et_is (et_or (et_test (ev_op (ev_var rfl) ev_c (rv_eq rfl))) (fun _ => et_test (ev_op (ev_lenS (ev_var rfl) (by omega)) ev_c rv_I0))) hb) (fun e => by cases e) (fun _ H1 e1 => ?_)
    refine q_forS (ev_var rfl) (fun i σ H' => Ex H H' ∧ ∃ v, σ = [some (.str z), v]) (fun H2 e2 => ⟨e1.trans e2, none, rfl⟩) ?_ ?_
    · rintro i c σ' H' hc ⟨e2, v, rfl⟩
      have hm : c ∈ letS.cps.toList := z2 c (by
        rw [← Array.getElem?_toList] at hc
        exact List.mem_of_getElem? hc)
      refine s_when (b := false) (et_is (et_test (ev_op (ev_var rfl) ev_c rv_signIn)) (by rw [decide_eq_true hm]; rfl)) (fun e => by cases e) (fun _ H2 e3 => ⟨e2.trans e3, _, rfl⟩)
    · rintro σ' H' ⟨e2, v, rfl⟩
      exact s_ret ev_c fun H2 e3 => k H2 (e2.trans e3)
theorem ok_look {f : Addr} {fd : FuncData} (F : Fun K "look_at_name" "look_at_name" s_look_at_name f fd) (C_is_name : Cl P w K mg base 1 "is_name" ["text"] spIsName) : FnOk P w K mg base CX0 2 f fd ["text"] spLook := by
  refine F.ok sc_look_at_name (fun vs H Q E h => ?_) (fun cdv A outer s H vs Q E hr h => ?_)
  · obtain ⟨z, rfl, _⟩ := h
    rfl
  · obtain ⟨z, rfl, hz, k⟩ := h
    have nd := sc_look_at_name.nd
    refine ⟨_, (pss_one (ps_if (pt_not (pt_val (pe_def C_is_name hr (pa_cons (pv 0) pa_nil)))) (pss_one ps_never) pss_nil)), ?_⟩
    refine s_when (b := false) (et_is (et_not (et_B (ev_call (vs := [.str z]) (ea_cons (ev_var rfl) ea_nil) (z := .bl true) fun H1 e1 Q' q E' => ⟨z, rfl, hz, q⟩))) rfl) (fun e => by cases e) (fun _ H1 e1 => k H1 e1)
theorem ok_init {f : Addr} {fd : FuncData} (F : Fun K "__init__" "Net.__init__" s_init f fd) (T : Tx K C) : FnOk P w K mg base CX0 1 f fd ["self"] (spInit C) := by
  refine F.ok sc_init (fun vs H Q E h => ?_) (fun cdv A outer s H vs Q E hr h => ?_)
  · obtain ⟨p, dx, rfl, _⟩ := h
    rfl
  · obtain ⟨p, dx, rfl, hp, k⟩ := h
    have nd := sc_init.nd
    refine ⟨_, (pss_cons (ps_fld (pv 0) (pe_lst pa_nil) rfl)
    (pss_one (ps_fld (pv 0) (pe_lst pa_nil) rfl))), ?_⟩
    refine ⟨Nat.zero_le _, fun a ha => ?_⟩
    have npa : p ≠ a := ne_of_none hp ha
    refine ⟨_, rfl, p, C, dx, [], rfl, (by rw [upd_ne npa]; exact hp), T.cl, T.nK, (by show 0 < 1000; decide), ?_⟩
    refine ⟨Nat.zero_le _, fun b hb => ?_⟩
    have npb : p ≠ b := fun q => by
      rw [← q, upd_same] at hb
      cases hb
    have hb2 : upd H a (.lst []) b = none := by
      rw [upd_ne npb.symm] at hb
      exact hb
    have nab : a ≠ b := fun q => by
      rw [← q, upd_same] at hb2
      cases hb2
    have hb0 : H b = none := by
      rw [upd_ne nab.symm] at hb2
      exact hb2
    refine ⟨_, rfl, p, C, dx, _, rfl, (by rw [upd_ne npb]; exact upd_same), T.cl, T.nL, (by show 1 < 1000; decide), ?_⟩
    refine k _ a b ⟨⟨dx, upd_same⟩, ?_, ⟨?_, fun x hx => by cases hx⟩, nab⟩ ha hb0 nab fun c o e hc => ?_
    · show upd _ p _ a = _
      rw [upd_ne npa.symm, upd_ne nab, upd_ne npa.symm, upd_same]
      rfl
    · show upd _ p _ b = _
      rw [upd_ne npb.symm, upd_same]
      rfl
    · rw [upd_ne hc, upd_ne (ne_of_none e hb0), upd_ne hc, upd_ne (ne_of_none e ha)]
      exact e
theorem ok_places {f : Addr} {fd : FuncData} (F : Fun K "places" "Net.places" s_places f fd) (T : Tx K C) (B : Blt mg) : FnOk P w K mg base CX0 1 f fd ["self"] (spPlaces C) := by
  refine F.ok sc_places (fun vs H Q E h => ?_) (fun cdv A outer s H vs Q E hr h => ?_)
  · obtain ⟨p, k, l, zs, ts, rfl, _⟩ := h
    rfl
  · obtain ⟨p, k, l, zs, ts, rfl, N, q⟩ := h
    have nd := sc_places.nd
    obtain ⟨⟨dx, ho⟩, hk, hl, nkl⟩ := N
    refine ⟨_, (pss_one (ps_ret (pe_callTy call_list_of (by rfl) B.list (by decide +kernel) (pa_cons (pe_fld (pv 0) rfl) pa_nil)))), ?_⟩
    exact s_retL (el_listR (er_at (ev_fld (ev_var rfl) ho T.cl T.nK (nf_known k l)) hk)) q
theorem ok_ties {f : Addr} {fd : FuncData} (F : Fun K "ties" "Net.ties" s_ties f fd) (T : Tx K C) (B : Blt mg) : FnOk P w K mg base CX0 1 f fd ["self"] (spTies C) := by
  refine F.ok sc_ties (fun vs H Q E h => ?_) (fun cdv A outer s H vs Q E hr h => ?_)
  · obtain ⟨p, k, l, zs, ts, rfl, _⟩ := h
    rfl
  · obtain ⟨p, k, l, zs, ts, rfl, N, q⟩ := h
    have nd := sc_ties.nd
    obtain ⟨⟨dx, ho⟩, hk, hl, nkl⟩ := N
    refine ⟨_, (pss_one (ps_ret (pe_callTy call_list_of (by rfl) B.list (by decide +kernel) (pa_cons (pe_fld (pv 0) rfl) pa_nil)))), ?_⟩
    exact s_retL (el_listR (er_at (ev_fld (ev_var rfl) ho T.cl T.nL (nf_laid k l)) hl.lst)) q
theorem find_take {α : Type} (p : α → Bool) : ∀ (ts : List α) (i : Nat) (x : α), ts[i]? = some x → (ts.take i).find? p = none → p x = true → ts.find? p = some x
  | [], i, x, h, _, _ => by simp at h
  | a :: r, 0, x, h, _, hp => by
    have e := Option.some.inj h
    subst e
    exact List.find?_cons_of_pos hp
  | a :: r, i + 1, x, h, hn, hp => by
    rw [List.take_succ_cons] at hn
    by_cases ha : p a = true
    · rw [List.find?_cons_of_pos ha] at hn
      cases hn
    · rw [List.find?_cons_of_neg ha] at hn ⊢
      exact find_take p r i x h hn hp
theorem find_more {α : Type} (p : α → Bool) {ts : List α} {i : Nat} {x : α} (h : ts[i]? = some x) (hn : (ts.take i).find? p = none) (hp : p x = false) : (ts.take (i + 1)).find? p = none := by
  rw [List.take_add_one, h, List.find?_append, hn]
  show [x].find? p = none
  rw [List.find?_cons_of_neg (by rw [hp]; decide)]
  rfl
theorem ok_named {f : Addr} {fd : FuncData} (F : Fun K "tie_named" "Net.tie_named" s_tie_named f fd) (T : Tx K C) : FnOk P w K mg base CX0 1 f fd ["self", "name"] (spNamed C) := by
  refine F.ok sc_tie_named (fun vs H Q E h => ?_) (fun cdv A outer s H vs Q E hr h => ?_)
  · obtain ⟨p, k, l, zs, ts, z, rfl, _⟩ := h
    rfl
  · obtain ⟨p, k, l, zs, ts, z, rfl, N, q⟩ := h
    have nd := sc_tie_named.nd
    obtain ⟨⟨dx, ho⟩, hk, hl, nkl⟩ := N
    refine ⟨_, (pss_cons (ps_for PassesOwn.never rfl (pi_list (pe_fld (pv 0) rfl)) (pg_name (i := 2) nd rfl (Or.inl rfl))
    (pss_one (ps_if (pt_cmpR op_eq (pe_ix ix_tup (pv 2) pe_int (fun _ _ => rfl)) (pv 1) (nomark _)) (pss_one (ps_ret (pv 2))) pss_nil)))
    (pss_one (ps_ret pe_non))), ?_⟩
    refine q_forLn (a := l) (xs := refs ts) (ev_fld (ev_var rfl) ho T.cl T.nL (nf_laid k l)) (sq_of hl.lst) (fun i σ H' => Ex H H' ∧ (∃ v, σ = [some (.ref p), some (.str z), v]) ∧ (ts.take i).find? (fun x => decide (x.2.nm = z)) = none)
      (fun H2 e2 => ⟨e2, ⟨none, rfl⟩, rfl⟩) (fun i σ' H' _ h => sq_of (h.1 _ _ hl.lst)) ?_ ?_
    · rintro i x σ' H' hi ⟨e1, ⟨v, rfl⟩, hn⟩
      obtain ⟨a, t, ht, rfl, hat⟩ := hl.get hi
      refine s_when (b := decide (V.str t.nm = V.str z)) (et_test (ev_op (ev_ixTS (es_at (ev_var rfl) (e1 _ _ hat)) ev_c rfl) (ev_var rfl) (rv_eq rfl))) (fun hb H2 e2 => ?_) (fun hb H2 e2 => ⟨e1.trans e2, ⟨_, rfl⟩, ?_⟩)
      · have e : t.nm = z := V.str.inj (of_decide_eq_true hb)
        refine s_ret (ev_var rfl) fun H3 e3 => ?_
        have g := q H3 ((e1.trans e2).trans e3)
        unfold tieV at g
        rw [find_take (fun x : Addr × Tie => decide (x.2.nm = z)) ts i (a, t) ht hn (decide_eq_true e)] at g
        exact g
      · have e : ¬ t.nm = z := fun e => of_decide_eq_false hb (by rw [e])
        exact find_more (fun x : Addr × Tie => decide (x.2.nm = z)) ht hn (decide_eq_false e)
    · rintro σ' H' ⟨e1, ⟨v, rfl⟩, hn⟩
      rw [List.length_map, List.take_length] at hn
      refine s_ret ev_c fun H3 e3 => ?_
      have g := q H3 (e1.trans e3)
      unfold tieV at g
      rw [hn] at g
      exact g
theorem ok_place {f : Addr} {fd : FuncData} (F : Fun K "place" "Net.place" s_place f fd) (T : Tx K C) (B : Blt mg) (G : Glo mg) (C_look_at_name : Cl P w K mg base 2 "look_at_name" ["text"] spLook) : FnOk P w K mg base CX0 3 f fd ["self", "name"] (spPlace C) := by
  refine F.ok sc_place (fun vs H Q E h => ?_) (fun cdv A outer s H vs Q E hr h => ?_)
  · obtain ⟨p, k, l, zs, ts, z, rfl, _⟩ := h
    rfl
  · obtain ⟨p, k, l, zs, ts, z, rfl, N, hz, hn, hlen, q⟩ := h
    have nd := sc_place.nd
    refine ⟨_, (pss_cons (ps_expr (pe_def C_look_at_name hr (pa_cons (pv 1) pa_nil)))
    (pss_cons (ps_if (pt_cmpR op_in_seq (pv 1) (pe_fld (pv 0) rfl) rfl) (pss_one ps_never) pss_nil)
    (pss_cons (ps_if (pt_cmpR op_ge (pe_callB call_len_seq (by rfl) B.len PySem.boot_len (pa_cons (pe_fld (pv 0) rfl) pa_nil)) (pe_gl G.MOST_PLACES) (nomark _)) (pss_one ps_never) pss_nil)
    (pss_one (ps_expr (pe_bm PySem.F.plainAttrs_list PySem.F.slot_list_append PySem.F.type_list_append mt_append (pe_fld (pv 0) rfl) (pa_cons (pv 1) pa_nil))))))), ?_⟩
    refine q_drop (ev_call (vs := [.str z]) (ea_cons (ev_var rfl) ea_nil) (z := .non) fun H1 e1 Q' q' E' => ⟨z, rfl, hz, q'⟩) fun H1 e1 => ?_
    have N1 := N.mono e1
    obtain ⟨⟨dx, ho⟩, hk, hl, nkl⟩ := N1
    refine q_when (b := false) (et_is (et_test (ev_inR (ev_var rfl) (er_at (ev_fld (ev_var rfl) ho T.cl T.nK (nf_known k l)) hk) rfl (strs_flat zs))) (by rw [inV_strs]; exact decide_eq_false hn)) (fun e => by cases e) (fun _ H2 e2 => ?_)
    refine q_when (b := false) (et_is (et_test (ev_op (ev_lenR (er_at (ev_fld (ev_var rfl) (e2 _ _ ho) T.cl T.nK (nf_known k l)) (e2 _ _ hk))) ev_c rv_I0)) (by rw [List.length_map]; exact decide_eq_false (by omega))) (fun e => by cases e) (fun _ H3 e3 => ?_)
    have e23 := e2.trans e3
    refine s_app (e23 _ _ hk) (ev_fld (ev_var rfl) (e23 _ _ ho) T.cl T.nK (nf_known k l)) (ev_var rfl) (by rw [List.length_map]; omega) fun H4 e4 => ?_
    have e24 := e23.trans e4
    have npk : p ≠ k := ne_of ho hk (by intro z; cases z)
    refine q _ ⟨⟨dx, by rw [upd_ne npk]; exact e24 _ _ ho⟩, ?_, ⟨by rw [upd_ne nkl.symm]; exact e24 _ _ hl.lst, fun x hx => ?_⟩, nkl⟩ fun b o hb nb => ?_
    · show upd _ k _ k = _
      rw [upd_same, List.map_append]
      rfl
    · have hx1 := hl.each x hx
      have nx : x.1 ≠ k := ne_of hx1 hk (by intro z; cases z)
      show upd _ k _ x.1 = _
      rw [upd_ne nx]
      exact e24 _ _ hx1
    · rw [upd_ne nb]
      exact e24 _ _ (e1 _ _ hb)
theorem ok_tie {f : Addr} {fd : FuncData} (F : Fun K "tie" "Net.tie" s_tie f fd) (T : Tx K C) (B : Blt mg) (G : Glo mg) (C_look_at_name : Cl P w K mg base 2 "look_at_name" ["text"] spLook) (M : Mt P w K mg base C 1 "tie_named" ["self", "name"] (spNamed C)) :
    FnOk P w K mg base CX0 3 f fd ["self", "name", "a", "b", "width", "cost"] (spTie C) := by
  obtain ⟨f_tie_named, d_tie_named, F_tie_named, m_tie_named, b_tie_named⟩ := M.ex
  have cN := T.cl
  refine F.ok sc_tie (fun vs H Q E h => ?_) (fun cdv A outer s H vs Q E hr h => ?_)
  · obtain ⟨p, k, l, zs, ts, t, rfl, _⟩ := h
    rfl
  · obtain ⟨p, k, l, zs, ts, t, rfl, N, hn, ha, hb, hnew, hab, hw, haz, hbz, hlt, hlz, q⟩ := h
    have nd := sc_tie.nd
    refine ⟨_, (pss_cons (ps_for PassesOwn.never rfl (pi_list (pe_lst (pa_cons (pv 1) (pa_cons (pv 2) (pa_cons (pv 3) pa_nil))))) (pg_name (i := 6) nd rfl (Or.inl rfl))
    (pss_one (ps_expr (pe_def C_look_at_name hr (pa_cons (pv 6) pa_nil)))))
    (pss_cons (ps_if (pt_cmpR op_notN (pe_meth (pv 0) cN m_tie_named F_tie_named (hr.mono (by decide)) b_tie_named .nil pass0 (pa_cons (pv 1) pa_nil)) pe_non (nomark _)) (pss_one ps_never) pss_nil)
    (pss_cons (ps_if (pt_cmpR op_eq (pv 2) (pv 3) (nomark _)) (pss_one ps_never) pss_nil)
    (pss_cons (ps_if (pt_cmpR op_lt (pv 4) pe_int (nomark _)) (pss_one ps_never) pss_nil)
    (pss_cons (ps_setLc (i := 7) (own := [("one", 8)]) (by rfl) nd rfl rfl (sw_true rfl rfl rfl (by decide +kernel)) (pi_list (pe_lst (pa_cons (pv 2) (pa_cons (pv 3) pa_nil)))) (blkOk_by (own := [("one", 8)]) (N := ["self", "name", "a", "b", "width", "cost", "text", "fresh", "one"]) (sc := defScope s_tie) (by decide +kernel)) (fun _ _ _ _ _ => by exact (pg_name (i := 8) nd rfl (Or.inl rfl))) (fun _ _ _ _ _ => by exact (pts_one (pt_cmpR (knin K) (pv 8) (kfld K (pv 0) rfl) rfl))) (fun _ _ _ _ _ => by exact (pv 8)))
    (pss_cons (ps_if (PW.pt (pw_or (pt_cmpR op_ge (pe_callB call_len_seq (by rfl) B.len PySem.boot_len (pa_cons (pe_fld (pv 0) rfl) pa_nil)) (pe_gl G.MOST_TIES) (nomark _)) (pw_or1 (pt_cmpR op_gt (pe_op op_add (pe_callB call_len_seq (by rfl) B.len PySem.boot_len (pa_cons (pe_fld (pv 0) rfl) pa_nil)) (pe_callB call_len_seq (by rfl) B.len PySem.boot_len (pa_cons (pv 7) pa_nil))) (pe_gl G.MOST_PLACES) (nomark _))))) (pss_one ps_never) pss_nil)
    (pss_cons (ps_expr (pe_bm PySem.F.plainAttrs_list PySem.F.slot_list_extend PySem.F.type_list_extend mt_extend (pe_fld (pv 0) rfl) (pa_cons (pv 7) pa_nil)))
    (pss_one (ps_expr (pe_bm PySem.F.plainAttrs_list PySem.F.slot_list_append PySem.F.type_list_append mt_append (pe_fld (pv 0) rfl) (pa_cons (pe_tup (pa_cons (pv 1) (pa_cons (pv 2) (pa_cons (pv 3) (pa_cons (pv 4) (pa_cons (pv 5) pa_nil)))))) pa_nil))))))))))), ?_⟩
    refine q_forNLn (xs := [.str t.nm, .str t.a, .str t.b]) (el_lst (ea_cons (ev_var rfl) (ea_cons (ev_var rfl) (ea_cons (ev_var rfl) ea_nil))) (by simp))
      (fun a i σ H' => Ex H H' ∧ H' a = some (.lst [.str t.nm, .str t.a, .str t.b]) ∧ ∃ v, σ = [some (.ref p), some (.str t.nm), some (.str t.a), some (.str t.b), some (.int t.w), some (.int t.c), v, none, none])
      (fun a H1 _ e1 h1 => ⟨e1, h1, none, rfl⟩) (fun a i σ' H' _ h => sq_of h.2.1) ?_ ?_
    · rintro a i x σ' H' hi ⟨e1, h1, v, rfl⟩
      have hx : ∃ z, x = .str z ∧ IsNm z := by
        match i, hi with
        | 0, hi => exact ⟨t.nm, (Option.some.inj hi).symm, hn⟩
        | 1, hi => exact ⟨t.a, (Option.some.inj hi).symm, ha⟩
        | 2, hi => exact ⟨t.b, (Option.some.inj hi).symm, hb⟩
        | i + 3, hi => simp at hi
      obtain ⟨z, rfl, hz⟩ := hx
      exact s_drop (ev_call (vs := [.str z]) (ea_cons (ev_var rfl) ea_nil) (z := .non) fun H1 e1 Q' q' E' => ⟨z, rfl, hz, q'⟩) fun H2 e2 => ⟨e1.trans e2, e2 _ _ h1, _, rfl⟩
    rintro a σ' H1 ⟨e1, _, v, rfl⟩
    have N1 := N.mono e1
    obtain ⟨⟨dx, ho⟩, hk, hl, nkl⟩ := id N1
    have hnone : tieV ts t.nm = .non := by
      unfold tieV
      rw [List.find?_eq_none.mpr fun x hx => by simpa using hnew x hx]
    refine q_when (b := false) (et_is (et_test (ev_op (ev_meth (vs := [.str t.nm]) (z := .non) (ev_var rfl) ho (nf_no k l (by decide +kernel) (by decide +kernel)) (ea_cons (ev_var rfl) ea_nil)
      fun H2 e2 Q' q' E' => ⟨p, k, l, zs, ts, t.nm, rfl, N1.mono e2, by rw [hnone]; exact q'⟩) ev_c rv_notN)) rfl) (fun e => by cases e) (fun _ H2 e2 => ?_)
    refine q_when (b := false) (et_is (et_test (ev_op (ev_var rfl) (ev_var rfl) (rv_eq rfl))) (decide_eq_false fun e => hab (V.str.inj e))) (fun e => by cases e) (fun _ H3 e3 => ?_)
    refine q_when (b := false) (et_is (et_test (ev_op (ev_var rfl) ev_c rv_I0)) (decide_eq_false (by omega))) (fun e => by cases e) (fun _ H4 e4 => ?_)
    have e14 := (e2.trans e3).trans e4
    have nin : ∀ z, z ∈ zs → (!inV (.str z) (zs.map V.str)) = false := fun z hz => by rw [inV_strs, decide_eq_true hz]; rfl
    refine q_asgL (xs := given 2 (fun _ => false) fun _ => .non) (el_lcR (xs := [.str t.a, .str t.b]) (fun _ => false) (fun _ => .non) (er_new (el_lst (ea_cons (ev_var rfl) (ea_cons (ev_var rfl) ea_nil)) (by simp))) (by simp) (fun x => rfl) (fun i x H5 e5 hi => ?_) (fun i x H5 e5 hi hf => by cases hf)) fun r H5 hr5 e5 h5 => ?_
    · have hx : ∃ z, x = .str z ∧ z ∈ zs := by
        match i, hi with
        | 0, hi => exact ⟨t.a, (Option.some.inj hi).symm, haz⟩
        | 1, hi => exact ⟨t.b, (Option.some.inj hi).symm, hbz⟩
        | i + 2, hi => simp at hi
      obtain ⟨z, rfl, hz⟩ := hx
      have e15 := e14.trans e5
      exact et_is (et_test (ev_niR (ev_var rfl) (er_at (ev_fld (ev_var rfl) (e15 _ _ ho) T.cl T.nK (nf_known k l)) (e15 _ _ hk)) rfl (strs_flat zs))) (nin z hz)
    have e15 := e14.trans e5
    have h5' : H5 r = some (.lst []) := h5
    refine q_when (b := false) (et_is (et_or (et_test (ev_op (ev_lenR (er_at (ev_fld (ev_var rfl) (e15 _ _ ho) T.cl T.nL (nf_laid k l)) (e15 _ _ hl.lst))) ev_c rv_I0))
      (fun _ => et_test (ev_op (ev_op (ev_lenR (er_at (ev_fld (ev_var rfl) (e15 _ _ ho) T.cl T.nK (nf_known k l)) (e15 _ _ hk))) (ev_lenR (er_at (ev_var rfl) h5')) rv_I0) ev_c rv_I0)))
      (by rw [List.length_map, List.length_map, decide_eq_false (by omega), decide_eq_false (by simp; omega)]; rfl)) (fun e => by cases e) (fun _ H6 e6 => ?_)
    have e16 := e15.trans e6
    refine q_ext (e16 _ _ hk) (e6 _ _ h5') (ev_fld (ev_var rfl) (e16 _ _ ho) T.cl T.nK (nf_known k l)) (ev_var rfl) (by rw [List.length_map]; show zs.length + 0 ≤ 100000; omega) fun H7 e7 => ?_
    have e17 := e16.trans e7
    have npk : p ≠ k := ne_of ho hk (by intro z; cases z)
    have npl : p ≠ l := ne_of ho hl.lst (by intro z; cases z)
    have ho8 : upd H7 k (.lst (zs.map V.str ++ [])) p = some (.ins C dx (nf k l)) := by
      rw [upd_ne npk]
      exact e17 _ _ ho
    have hl8 : upd H7 k (.lst (zs.map V.str ++ [])) l = some (.lst (refs ts)) := by
      rw [upd_ne nkl.symm]
      exact e17 _ _ hl.lst
    have hk8 : upd H7 k (.lst (zs.map V.str ++ [])) k = some (.lst (zs.map V.str)) := by
      rw [upd_same, List.append_nil]
    refine s_appU hl8 (ev_fld (ev_var rfl) ho8 T.cl T.nL (nf_laid k l)) (eu_tup (vs := [.str t.nm, .str t.a, .str t.b, .int t.w, .int t.c]) (ea_cons (ev_var rfl) (ea_cons (ev_var rfl) (ea_cons (ev_var rfl) (ea_cons (ev_var rfl) (ea_cons (ev_var rfl) ea_nil))))) (by simp))
      (by rw [List.length_map]; omega) fun u H9 hu9 e9 h9 => ?_
    have nul : u ≠ l := ne_of h9 (e9 _ _ hl8) (by intro z; cases z)
    refine q _ u ⟨⟨dx, by rw [upd_ne npl]; exact e9 _ _ ho8⟩, ?_, ⟨?_, fun x hx => ?_⟩, nkl⟩ fun c o hc nck ncl => ?_
    · show upd _ l _ k = _
      rw [upd_ne nkl]
      exact e9 _ _ hk8
    · rw [upd_same]
      show _ = some (HO.lst ((ts ++ [(u, t)]).map fun x => V.ref x.1))
      rw [List.map_append]
      rfl
    · show upd _ l _ x.1 = _
      rcases List.mem_append.mp hx with hx | hx
      · have hx1 := hl.each x hx
        have nxl : x.1 ≠ l := ne_of hx1 hl.lst (by intro z; cases z)
        have nxk : x.1 ≠ k := ne_of hx1 hk (by intro z; cases z)
        rw [upd_ne nxl]
        refine e9 _ _ ?_
        rw [upd_ne nxk]
        exact e17 _ _ hx1
      · have ex : x = (u, t) := List.mem_singleton.mp hx
        subst ex
        rw [upd_ne nul]
        exact h9
    · rw [upd_ne ncl]
      refine e9 _ _ ?_
      rw [upd_ne nck]
      exact e17 _ _ (e1 _ _ hc)
end
end Nc
/-! Part E: papers looked at: walk_end, place_list, is_closed. -/
namespace Nc
open PySem L2 Evl
abbrev s_walk_end : Stmt := top 17
theorem sc_walk_end : FnScope ["net", "a", "paper", "here", "name", "one"] ["net", "a", "paper"] (defScope s_walk_end) := ⟨rfl, rfl, rfl, by decide +kernel, rfl, by decide +kernel, by decide +kernel⟩
abbrev s_place_list : Stmt := top 19
theorem sc_place_list : FnScope ["net", "paper", "places", "found", "one"] ["net", "paper"] (defScope s_place_list) := ⟨rfl, rfl, rfl, by decide +kernel, rfl, by decide +kernel, by decide +kernel⟩
theorem tieV_cases (ts : List (Addr × Tie)) (z : Str) : (tieV ts z = .non ∧ findT (ties ts) z = none) ∨ ∃ p t, tieV ts z = .ref p ∧ findT (ties ts) z = some t ∧ (p, t) ∈ ts := by
  have e : findT (ties ts) z = (ts.find? fun x => decide (x.2.nm = z)).map (·.2) := by
    unfold findT
    rw [List.find?_map]
    rfl
  cases h : ts.find? (fun x => decide (x.2.nm = z)) with
  | none =>
    refine .inl ⟨?_, by rw [e, h]; rfl⟩
    unfold tieV
    rw [h]
  | some x =>
    refine .inr ⟨x.1, x.2, ?_, by rw [e, h]; rfl, List.mem_of_find?_eq_some h⟩
    unfold tieV
    rw [h]
theorem drop_at {α : Type} {xs : List α} {i : Nat} {x : α} (h : xs[i]? = some x) : xs.drop i = x :: xs.drop (i + 1) := by
  obtain ⟨hi, e⟩ := List.getElem?_eq_some_iff.mp h
  rw [List.drop_eq_getElem_cons hi, e]
theorem goT_odd {ts : List Tie} {z : Str} {d : PyData} {r : List PyData} (h : isStrD d = false) : goT ts z (d :: r) = none := by
  cases d with
  | str x => cases h
  | _ => rfl
theorem goT_none {ts : List Tie} {a z : Str} {r : List PyData} (h : findT ts z = none) : goT ts a (.str z :: r) = none := by
  show (match findT ts z with | some t => if t.a = a then goT ts t.b r else none | none => none) = none
  rw [h]
theorem goT_some {ts : List Tie} {a z : Str} {t : Tie} {r : List PyData} (h : findT ts z = some t) : goT ts a (.str z :: r) = if t.a = a then goT ts t.b r else none := by
  show (match findT ts z with | some t => if t.a = a then goT ts t.b r else none | none => none) = _
  rw [h]
/-- the text of a datum that is one -/
theorem str_of {K : PySem.W.Frag} {H : Hp} {x : V} {d : PyData} (h : Dp K H x d) (hs : isStrD d = true) : ∃ z, x = .str z ∧ d = .str z := by
  cases h with
  | str z => exact ⟨z, rfl, rfl⟩
  | _ => cases hs
theorem list_of {K : PySem.W.Frag} {H : Hp} {x : V} {d : PyData} (h : Dp K H x d) (hs : isListD d = true) : ∃ p xs ds, x = .ref p ∧ d = .list ds ∧ SqL K H p xs ∧ DpAll K H xs ds := by
  cases h with
  | lst hq ha => exact ⟨_, _, _, rfl, rfl, hq, ha⟩
  | _ => cases hs
theorem strsD_odd : ∀ {ds : List PyData} {i : Nat} {d : PyData}, ds[i]? = some d → isStrD d = false → strsD ds = none
  | [], i, d, h, _ => by simp at h
  | x :: ds, 0, d, h, hs => by
    have e := Option.some.inj h
    subst e
    cases x with
    | str z => cases hs
    | _ => rfl
  | x :: ds, i + 1, d, h, hs => by
    have ih := strsD_odd (i := i) h hs
    cases x with
    | str z =>
      show (strsD ds).map (z :: ·) = none
      rw [ih]
      rfl
    | _ => rfl
theorem plist_odd {zs : List Str} {ds : List PyData} (h : strsD ds = none) : plist zs (.list ds) = none := by
  unfold plist
  dsimp only
  rw [h]
theorem map_str_inj : ∀ {xs ys : List Str}, xs.map PyData.str = ys.map PyData.str → xs = ys
  | [], [], _ => rfl
  | [], _ :: _, h => by simp at h
  | _ :: _, [], h => by simp at h
  | x :: xs, y :: ys, h => by
    rw [List.map_cons, List.map_cons] at h
    injection h with h1 h2
    rw [PyData.str.inj h1, map_str_inj h2]
theorem plist_bad {zs ys : List Str} {ds : List PyData} {i : Nat} {z : Str} (ht : ds.take i = ys.map PyData.str) (hi : ds[i]? = some (.str z)) (hb : z ∉ zs ∨ z ∈ ys) : plist zs (.list ds) = none := by
  cases hs : strsD ds with
  | none => exact plist_odd hs
  | some xs =>
    have e := strsD_is hs
    subst e
    have hx : xs[i]? = some z := by
      rw [List.getElem?_map] at hi
      cases q : xs[i]? with
      | none =>
        rw [q] at hi
        cases hi
      | some y =>
        rw [q] at hi
        rw [PyData.str.inj (Option.some.inj hi)]
    have hy : xs.take i = ys := map_str_inj (by rw [List.map_take]; exact ht)
    have hn : ¬ okL zs xs = true := fun ho => by
      obtain ⟨o1, o2⟩ := okL_iff.mp ho
      rcases hb with hb | hb
      · exact hb (o1 z (List.mem_of_getElem? hx))
      · rw [← List.take_append_drop i xs, drop_at hx] at o2
        rw [← hy] at hb
        exact (List.nodup_append.mp o2).2.2 z hb z List.mem_cons_self rfl
    unfold plist
    dsimp only
    rw [hs]
    dsimp only
    rw [if_neg hn]
theorem plist_good {zs ys : List Str} (h : okL zs ys = true) : plist zs (.list (ys.map PyData.str)) = some ys := by
  unfold plist
  dsimp only
  rw [strsD_map]
  dsimp only
  rw [if_pos h]
theorem okL_snoc {zs ys : List Str} {z : Str} (h : okL zs ys = true) (h1 : z ∈ zs) (h2 : z ∉ ys) : okL zs (ys ++ [z]) = true := by
  obtain ⟨o1, o2⟩ := okL_iff.mp h
  refine okL_iff.mpr ⟨fun y hy => ?_, nd_snoc o2 h2⟩
  rcases List.mem_append.mp hy with hy | hy
  · exact o1 y hy
  · rw [List.mem_singleton.mp hy]
    exact h1
section
variable {P : Program} {w : World} {K : PySem.W.Frag} {mg : Str → Option Value} {base : Heap} {C : Addr}
theorem ok_walk_end {f : Addr} {fd : FuncData} (F : Fun K "walk_end" "walk_end" s_walk_end f fd) (T : Tx K C) (B : Blt mg) (M : Mt P w K mg base C 1 "tie_named" ["self", "name"] (spNamed C)) : FnOk P w K mg base CX0 2 f fd ["net", "a", "paper"] (spWalk K C) := by
  obtain ⟨f_tie_named, d_tie_named, F_tie_named, m_tie_named, b_tie_named⟩ := M.ex
  have cN := T.cl
  refine F.ok sc_walk_end (fun vs H Q E h => ?_) (fun cdv A outer s H vs Q E hr h => ?_)
  · obtain ⟨p, k, l, zs, ts, a, v, d, rfl, _⟩ := h
    rfl
  · obtain ⟨p, k, l, zs, ts, a, v, d, rfl, N, hd, q⟩ := h
    have nd := sc_walk_end.nd
    refine ⟨_, (pss_cons (ps_if (pt_not (pt_val (pe_callB call_isi (by rfl) B.isinstance (by decide +kernel) (pa_cons (pv 2) (pa_cons (pe_bt (n := "list") (by rfl) B.list (by decide +kernel)) pa_nil))))) (pss_one (ps_ret pe_non)) pss_nil)
    (pss_cons (ps_set (i := 3) nd rfl (Or.inl rfl) (pv 1))
    (pss_cons (ps_for PassesOwn.never rfl (pi_list (pv 2)) (pg_name (i := 4) nd rfl (Or.inl rfl))
    (pss_cons (ps_set (i := 5) nd rfl (Or.inl rfl) (pe_ifExp (pt_val (pe_callB call_isi (by rfl) B.isinstance (by decide +kernel) (pa_cons (pv 4) (pa_cons (pe_bt (n := "str") (by rfl) B.str (by decide +kernel)) pa_nil)))) (pe_meth (pv 0) cN m_tie_named F_tie_named (hr.mono (by decide)) b_tie_named .nil pass0 (pa_cons (pv 4) pa_nil)) pe_non))
    (pss_cons (ps_if (PW.pt (pw_or (pt_cmpR op_isN (pv 5) pe_non (nomark _)) (pw_or1 (pt_cmpR op_ne (pe_ix ix_tup (pv 5) pe_int (fun _ _ => rfl)) (pv 3) (nomark _))))) (pss_one (ps_ret pe_non)) pss_nil)
    (pss_one (ps_set (i := 3) nd rfl (Or.inl rfl) (pe_ix ix_tup (pv 5) pe_int (fun _ _ => rfl)))))))
    (pss_one (ps_ret (pv 3)))))), ?_⟩
    refine q_when (et_not (et_B (ev_isList (ev_var rfl) hd))) (fun hb H1 e1 => s_ret ev_c fun H2 e2 => ?_) (fun hb H1 e1 => ?_)
    · have g := q H2 (e1.trans e2)
      have hw : walkEnd (ties ts) a d = none := by
        cases d with
        | list ds => cases hb
        | _ => rfl
      rw [hw] at g
      exact g
    obtain ⟨r, xs, ds, rfl, rfl, hs, hall⟩ := list_of hd (by simpa using hb)
    refine q_asg (ev_var rfl) fun H2 e2 => ?_
    have e02 := e1.trans e2
    have q' : RetV (optV (goT (ties ts) a ds)) H Q := q
    refine q_forLn (a := r) (xs := xs) (ev_var rfl) (ex_l e02 hs) (fun i σ H' => Ex H H' ∧ ∃ here v4 v5, σ = [some (.ref p), some (.str a), some (.ref r), some (.str here), v4, v5] ∧ goT (ties ts) a ds = goT (ties ts) here (ds.drop i))
      (fun H3 e3 => ⟨e02.trans e3, a, none, none, rfl, rfl⟩) (fun i σ' H' _ h => ex_l h.1 hs) ?_ ?_
    · rintro i x σ' H' hi ⟨e3, here, v4, v5, rfl, hg⟩
      obtain ⟨di, hdi, hx⟩ := dpAll_get hall i x hi
      rw [drop_at hdi] at hg
      have hx3 := dp_mono e3 di x hx
      have N3 := N.mono e3
      obtain ⟨⟨dx, ho⟩, hk, hl, nkl⟩ := id N3
      cases hstr : isStrD di with
      | false =>
        rw [goT_odd hstr] at hg
        refine q_asg (v := .non) (ev_if (b := false) (et_is (et_B (ev_isStr (ev_var rfl) hx3)) hstr) (fun e => by cases e) (fun _ => ev_c)) fun H4 e4 => ?_
        refine q_when (b := true) (et_is (et_or (et_test (ev_op (ev_var rfl) ev_c rv_isN)) (b := true) (fun e => by cases e)) rfl) (fun _ H5 e5 => s_ret ev_c fun H6 e6 => ?_) (fun e => by cases e)
        have g := q' H6 (((e3.trans e4).trans e5).trans e6)
        rw [hg] at g
        exact g
      | true =>
        obtain ⟨z, rfl, rfl⟩ := str_of hx3 hstr
        refine q_asg (v := tieV ts z) (ev_if (b := true) (et_is (et_B (ev_isStr (ev_var rfl) hx3)) hstr) (fun _ => ev_meth (vs := [.str z]) (ev_var rfl) ho (nf_no k l (by decide +kernel) (by decide +kernel)) (ea_cons (ev_var rfl) ea_nil)
          fun H4 e4 Q' q' E' => ⟨p, k, l, zs, ts, z, rfl, N3.mono e4, q'⟩) (fun e => by cases e)) fun H4 e4 => ?_
        rcases tieV_cases ts z with ⟨h1, h2⟩ | ⟨pa, t, h1, h2, hm⟩
        · rw [h1]
          rw [goT_none h2] at hg
          refine q_when (b := true) (et_is (et_or (et_test (ev_op (ev_var rfl) ev_c rv_isN)) (b := true) (fun e => by cases e)) rfl) (fun _ H5 e5 => s_ret ev_c fun H6 e6 => ?_) (fun e => by cases e)
          have g := q' H6 (((e3.trans e4).trans e5).trans e6)
          rw [hg] at g
          exact g
        · rw [h1]
          rw [goT_some h2] at hg
          have hat : TieAt H4 pa t := e4 _ _ (hl.each (pa, t) hm)
          refine q_when (b := !decide (V.str t.a = V.str here)) (et_is (et_or (et_test (ev_op (ev_var rfl) ev_c rv_isN)) (fun _ => et_test (ev_op (ev_ixTS (es_at (ev_var rfl) hat) ev_c rfl) (ev_var rfl) (rv_ne rfl)))) (by simp)) (fun hb H5 e5 => s_ret ev_c fun H6 e6 => ?_) (fun hb H5 e5 => ?_)
          · have ne : ¬ t.a = here := fun e => by simp [e] at hb
            rw [if_neg ne] at hg
            have g := q' H6 (((e3.trans e4).trans e5).trans e6)
            rw [hg] at g
            exact g
          · have ee : t.a = here := by simpa using hb
            rw [if_pos ee] at hg
            exact s_asg (ev_ixTS (es_at (ev_var rfl) (e5 _ _ hat)) ev_c rfl) fun H6 e6 => ⟨((e3.trans e4).trans e5).trans e6, t.b, _, _, rfl, hg⟩
    · rintro σ' H' ⟨e3, here, v4, v5, rfl, hg⟩
      refine s_ret (ev_var rfl) fun H4 e4 => ?_
      have g := q' H4 (e3.trans e4)
      rw [hg, dpAll_len hall, List.drop_length] at g
      exact g
theorem ok_place_list {f : Addr} {fd : FuncData} (F : Fun K "place_list" "place_list" s_place_list f fd) (T : Tx K C) (B : Blt mg) (M : Mt P w K mg base C 1 "places" ["self"] (spPlaces C)) : FnOk P w K mg base CX0 2 f fd ["net", "paper"] (spPlist K C) := by
  obtain ⟨f_places, d_places, F_places, m_places, b_places⟩ := M.ex
  have cN := T.cl
  refine F.ok sc_place_list (fun vs H Q E h => ?_) (fun cdv A outer s H vs Q E hr h => ?_)
  · obtain ⟨p, k, l, zs, ts, v, d, rfl, _⟩ := h
    rfl
  · obtain ⟨p, k, l, zs, ts, v, d, rfl, N, hz, hd, q1, q2⟩ := h
    have nd := sc_place_list.nd
    refine ⟨_, (pss_cons (ps_if (pt_not (pt_val (pe_callB call_isi (by rfl) B.isinstance (by decide +kernel) (pa_cons (pv 1) (pa_cons (pe_bt (n := "list") (by rfl) B.list (by decide +kernel)) pa_nil))))) (pss_one (ps_ret pe_non)) pss_nil)
    (pss_cons (ps_set (i := 2) nd rfl (Or.inl rfl) (pe_meth0 (pv 0) cN m_places F_places (hr.mono (by decide)) b_places .nil pass0))
    (pss_cons (ps_set (i := 3) nd rfl (Or.inl rfl) (pe_lst pa_nil))
    (pss_cons (ps_for PassesOwn.never rfl (pi_list (pv 1)) (pg_name (i := 4) nd rfl (Or.inl rfl))
    (pss_cons (ps_if (PW.pt (pw_or (pt_not (pt_val (pe_callB call_isi (by rfl) B.isinstance (by decide +kernel) (pa_cons (pv 4) (pa_cons (pe_bt (n := "str") (by rfl) B.str (by decide +kernel)) pa_nil))))) (pw_or (pt_cmpR op_notIn_seq (pv 4) (pv 2) rfl) (pw_or1 (pt_cmpR op_in_seq (pv 4) (pv 3) rfl))))) (pss_one (ps_ret pe_non)) pss_nil)
    (pss_one (ps_expr (pe_bm PySem.F.plainAttrs_list PySem.F.slot_list_append PySem.F.type_list_append mt_append (pv 3) (pa_cons (pv 4) pa_nil))))))
    (pss_one (ps_ret (pv 3))))))), ?_⟩
    refine q_when (et_not (et_B (ev_isList (ev_var rfl) hd))) (fun hb H1 e1 => s_ret ev_c fun H2 e2 => ?_) (fun hb H1 e1 => ?_)
    · refine q2 ?_ H2 (e1.trans e2)
      cases d with
      | list ds => cases hb
      | _ => rfl
    obtain ⟨r, xs, ds, rfl, rfl, hs, hall⟩ := list_of hd (by simpa using hb)
    have N1 := N.mono e1
    obtain ⟨⟨dx, ho⟩, hk, hl, nkl⟩ := id N1
    refine q_asgL (xs := zs.map V.str) (el_meth (vs := []) (ev_var rfl) ho (nf_no k l (by decide +kernel) (by decide +kernel)) ea_nil
      fun H2 e2 Q' q' E' => ⟨p, k, l, zs, ts, rfl, N1.mono e2, q'⟩) fun pl H2 npl e2 hpl => ?_
    refine q_asgL (xs := []) (el_lst ea_nil (by simp)) fun fl H3 nfl e3 hfl => ?_
    have e03 := (e1.trans e2).trans e3
    have nfp : fl ≠ pl := fun e => by
      rw [e, hpl] at nfl
      cases nfl
    have nf0 : H fl = none := fresh_back (e1.trans e2) nfl
    refine q_forLn (a := r) (xs := xs) (ev_var rfl) (ex_l e03 hs) (fun i σ H' => Ex H H' ∧ StrsAt H' pl zs ∧ ∃ ys v4, σ = [some (.ref p), some (.ref r), some (.ref pl), some (.ref fl), v4] ∧ StrsAt H' fl ys ∧ ds.take i = ys.map PyData.str ∧ okL zs ys = true ∧ ys.length ≤ i)
      (fun H4 e4 => ⟨e03.trans e4, e4 _ _ (e3 _ _ hpl), [], none, rfl, e4 _ _ hfl, rfl, rfl, Nat.le_refl _⟩) (fun i σ' H' _ h => ex_l h.1 hs) ?_ ?_
    · rintro i x σ' H' hi ⟨e4, hp4, ys, v4, rfl, hf4, htk, hok, hle⟩
      obtain ⟨di, hdi, hx⟩ := dpAll_get hall i x hi
      have hx3 := dp_mono e4 di x hx
      cases hstr : isStrD di with
      | false =>
        refine q_when (b := true) (et_is (et_or (et_not (et_B (ev_isStr (ev_var rfl) hx3))) (b := true) (fun e => by rw [hstr] at e; cases e)) (by rw [hstr]; rfl)) (fun _ H5 e5 => s_ret ev_c fun H6 e6 => ?_) (fun e => by cases e)
        exact q2 (plist_odd (strsD_odd hdi hstr)) H6 ((e4.trans e5).trans e6)
      | true =>
        obtain ⟨z, rfl, rfl⟩ := str_of hx3 hstr
        refine q_when (b := !decide (z ∈ zs) || decide (z ∈ ys)) (et_is (et_or (et_not (et_B (ev_isStr (ev_var rfl) hx3))) (fun _ => et_or (et_test (ev_niR (ev_var rfl) (er_at (ev_var rfl) hp4) rfl (strs_flat zs))) (fun _ => et_test (ev_inR (ev_var rfl) (er_at (ev_var rfl) hf4) rfl (strs_flat ys)))))
          (by rw [inV_strs, inV_strs]; rfl)) (fun hb H5 e5 => s_ret ev_c fun H6 e6 => ?_) (fun hb H5 e5 => ?_)
        · refine q2 (plist_bad htk hdi ?_) H6 ((e4.trans e5).trans e6)
          rcases Bool.or_eq_true_iff.mp hb with hb | hb
          · exact .inl (by simpa using hb)
          · exact .inr (of_decide_eq_true hb)
        · obtain ⟨h1, h2⟩ := Bool.or_eq_false_iff.mp hb
          have z1 : z ∈ zs := by simpa using h1
          have z2 : z ∉ ys := of_decide_eq_false h2
          have hyl : ys.length ≤ zs.length := by
            obtain ⟨o1, o2⟩ := okL_iff.mp hok
            exact nodup_le o1 o2
          refine s_app (e5 _ _ hf4) (ev_var rfl) (ev_var rfl) (by rw [List.length_map]; omega) fun H6 e6 => ?_
          have e46 := (e4.trans e5).trans e6
          refine ⟨Ex.mut e46 nf0, ?_, ys ++ [z], _, rfl, ?_, ?_, okL_snoc hok z1 z2, by simp; omega⟩
          · show upd H6 fl _ pl = _
            rw [upd_ne nfp.symm]
            exact e6 _ _ (e5 _ _ hp4)
          · show upd H6 fl _ fl = _
            rw [upd_same, List.map_append]
            rfl
          · rw [List.take_add_one, hdi, htk, List.map_append]
            rfl
    · rintro σ' H' ⟨e4, hp4, ys, v4, rfl, hf4, htk, hok, hle⟩
      rw [dpAll_len hall, List.take_length] at htk
      subst htk
      refine s_ret (ev_var rfl) fun H5 e5 => ?_
      exact q1 ys (plist_good hok) fl H5 nf0 (e4.trans e5) (e5 _ _ hf4)
end
end Nc
/-! Part F: sets: is_closed, is_within, is_member. -/
namespace Nc
open PySem L2 Evl
abbrev s_is_closed : Stmt := top 20
theorem sc_is_closed : FnScope ["net", "listed", "forth", "name", "a", "b", "width", "cost"] ["net", "listed", "forth"] (defScope s_is_closed) := ⟨rfl, rfl, rfl, by decide +kernel, rfl, by decide +kernel, by decide +kernel⟩
abbrev s_is_within : Stmt := top 21
theorem sc_is_within : FnScope ["net", "kind", "paper", "listed", "name"] ["net", "kind", "paper"] (defScope s_is_within) := ⟨rfl, rfl, rfl, by decide +kernel, rfl, by decide +kernel, by decide +kernel⟩
abbrev s_is_member : Stmt := top 22
theorem sc_is_member : FnScope ["net", "kind", "place", "paper"] ["net", "kind", "place", "paper"] (defScope s_is_member) := ⟨rfl, rfl, rfl, by decide +kernel, rfl, by decide +kernel, by decide +kernel⟩
theorem closed_bad {ts : List (Addr × Tie)} {ys : List Str} {b : Bool} {i : Nat} {p : Addr} {t : Tie} (h : ts[i]? = some (p, t)) (hb : closedT b ys t = false) : closed (ties ts) ys b = false := by
  have hm : t ∈ ties ts := List.mem_map.mpr ⟨(p, t), List.mem_of_getElem? h, rfl⟩
  cases e : closed (ties ts) ys b with
  | false => rfl
  | true =>
    have q := List.all_eq_true.mp e t hm
    rw [hb] at q
    cases q
theorem optV_eq (o : Option Str) (z : Str) : decide (optV o = V.str z) = decide (o = some z) := by
  cases o with
  | none => simp [optV]
  | some y => simp [optV]
theorem dec_len (a b : Nat) : decide (V.int (a : Int) = V.int (b : Int)) = decide (a = b) := by
  by_cases e : a = b
  · rw [e]
    simp
  · rw [decide_eq_false e, decide_eq_false fun q => e (by have := V.int.inj q; omega)]
theorem scal_opt (o : Option Str) (z : Str) : scal (optV o) (V.str z) = true := by
  cases o <;> rfl
/-- the texts of a list that a comprehension gives -/
theorem given_strs (zs : List Str) (p : Str → Bool) (f : Nat → Bool) (v : Nat → V) (hf : ∀ i z, zs[i]? = some z → f i = p z) (hv : ∀ i z, zs[i]? = some z → v i = .str z) : given (zs.map V.str).length f v = (zs.filter p).map V.str := by
  have h := given_pick (zs.map V.str) (fun x => match x with | .str z => p z | _ => false) f v (fun i x hx => by
    obtain ⟨z, hz, rfl⟩ := strs_get hx
    exact hf i z hz) (fun i x hx => by
    obtain ⟨z, hz, rfl⟩ := strs_get hx
    exact hv i z hz) (zs.map V.str).length (Nat.le_refl _)
  rw [h, List.take_length, List.filter_map]
  rfl
/-- a text of a list by its place, a text ready for any place -/
def strAt (zs : List Str) (i : Nat) : Str := zs.getD i ""
theorem strAt_is {zs : List Str} {i : Nat} {z : Str} (h : zs[i]? = some z) : strAt zs i = z := by
  unfold strAt
  rw [List.getD_eq_getElem?_getD, h]
  rfl
section
variable {P : Program} {w : World} {K : PySem.W.Frag} {mg : Str → Option Value} {base : Heap} {C : Addr}
theorem ok_closed {f : Addr} {fd : FuncData} (F : Fun K "is_closed" "is_closed" s_is_closed f fd) (T : Tx K C) (M : Mt P w K mg base C 1 "ties" ["self"] (spTies C)) : FnOk P w K mg base CX0 2 f fd ["net", "listed", "forth"] (spClosed C) := by
  obtain ⟨f_ties, d_ties, F_ties, m_ties, b_ties⟩ := M.ex
  have cN := T.cl
  refine F.ok sc_is_closed (fun vs H Q E h => ?_) (fun cdv A outer s H vs Q E hr h => ?_)
  · obtain ⟨p, k, l, zs, ts, q, ys, b, rfl, _⟩ := h
    rfl
  · obtain ⟨p, k, l, zs, ts, q, ys, b, rfl, N, hy, g⟩ := h
    have nd := sc_is_closed.nd
    refine ⟨_, (pss_cons (ps_for PassesOwn.never rfl (pi_list (pe_meth0 (pv 0) cN m_ties F_ties (hr.mono (by decide)) b_ties .nil pass0)) (pg_tup (by rfl) (pgs_cons (pg_name (i := 3) nd rfl (Or.inl rfl)) (pgs_cons (pg_name (i := 4) nd rfl (Or.inl rfl)) (pgs_cons (pg_name (i := 5) nd rfl (Or.inl rfl)) (pgs_cons (pg_name (i := 6) nd rfl (Or.inl rfl)) (pgs_cons (pg_name (i := 7) nd rfl (Or.inl rfl)) pgs_nil))))))
    (pss_cons (ps_if (PW.pt (pw_and (pt_val (pv 2)) (pw_and (pt_cmpR op_in_seq (pv 4) (pv 1) rfl) (pw_and1 (pt_cmpR op_notIn_seq (pv 5) (pv 1) rfl))))) (pss_one (ps_ret pe_bl)) pss_nil)
    (pss_one (ps_if (PW.pt (pw_and (pt_not (pt_val (pv 2))) (pw_and (pt_cmpR op_in_seq (pv 5) (pv 1) rfl) (pw_and1 (pt_cmpR op_notIn_seq (pv 4) (pv 1) rfl))))) (pss_one (ps_ret pe_bl)) pss_nil))))
    (pss_one (ps_ret pe_bl))), ?_⟩
    obtain ⟨⟨dx, ho⟩, hk, hl, nkl⟩ := id N
    refine q_forNL (xs := refs ts) (el_meth (vs := []) (ev_var rfl) ho (nf_no k l (by decide +kernel) (by decide +kernel)) ea_nil
      fun H2 e2 Q' q' E' => ⟨p, k, l, zs, ts, rfl, N.mono e2, q'⟩) (fun r i σ H' => Ex H H' ∧ H' r = some (.lst (refs ts)) ∧ (∃ v3 v4 v5 v6 v7, σ = [some (.ref p), some (.ref q), some (.bl b), v3, v4, v5, v6, v7]) ∧ ((ties ts).take i).all (closedT b ys) = true)
      (fun r H1 _ e1 h1 => ⟨e1, h1, ⟨none, none, none, none, none, rfl⟩, rfl⟩) (fun r i σ' H' _ h => sq_of h.2.1) ?_ ?_
    · rintro r i x σ' H' hi ⟨e1, h1, ⟨v3, v4, v5, v6, v7, rfl⟩, hall⟩
      obtain ⟨pt, t, ht, rfl, hat⟩ := (hl.mono e1).get hi
      refine g_five hat ?_
      have hy1 : StrsAt H' q ys := e1 _ _ hy
      refine q_when (b := b && (decide (t.a ∈ ys) && !decide (t.b ∈ ys))) (et_is (et_and (et_B (ev_var rfl)) (fun _ => et_and (et_test (ev_inR (ev_var rfl) (er_at (ev_var rfl) hy1) rfl (strs_flat ys))) (fun _ => et_test (ev_niR (ev_var rfl) (er_at (ev_var rfl) hy1) rfl (strs_flat ys)))))
        (by rw [inV_strs, inV_strs])) (fun hb H2 e2 => s_ret ev_c fun H3 e3 => ?_) (fun hb H2 e2 => ?_)
      · have cb : closedT b ys t = false := by
          obtain ⟨hb1, hb2⟩ := Bool.and_eq_true_iff.mp hb
          unfold closedT
          rw [if_pos hb1, hb2]
          rfl
        have g' := g H3 ((e1.trans e2).trans e3)
        rw [closed_bad ht cb] at g'
        exact g'
      refine s_when (b := !b && (decide (t.b ∈ ys) && !decide (t.a ∈ ys))) (et_is (et_and (et_not (et_B (ev_var rfl))) (fun _ => et_and (et_test (ev_inR (ev_var rfl) (er_at (ev_var rfl) (e2 _ _ hy1)) rfl (strs_flat ys))) (fun _ => et_test (ev_niR (ev_var rfl) (er_at (ev_var rfl) (e2 _ _ hy1)) rfl (strs_flat ys)))))
        (by rw [inV_strs, inV_strs])) (fun hb2 H3 e3 => s_ret ev_c fun H4 e4 => ?_) (fun hb2 H3 e3 => ?_)
      · have cb : closedT b ys t = false := by
          obtain ⟨h1, h2⟩ := Bool.and_eq_true_iff.mp hb2
          have h3 : b = false := by simpa using h1
          unfold closedT
          rw [if_neg (by rw [h3]; decide), h2]
          rfl
        have g' := g H4 (((e1.trans e2).trans e3).trans e4)
        rw [closed_bad ht cb] at g'
        exact g'
      · refine ⟨(e1.trans e2).trans e3, e3 _ _ (e2 _ _ h1), ⟨_, _, _, _, _, rfl⟩, ?_⟩
        have hti : (ties ts)[i]? = some t := by
          rw [List.getElem?_map, ht]
          rfl
        have ct : closedT b ys t = true := by
          unfold closedT
          cases b with
          | true =>
            rw [if_pos rfl]
            rw [Bool.true_and] at hb
            rw [hb]
            rfl
          | false =>
            rw [if_neg (by decide)]
            have hb2' : (decide (t.b ∈ ys) && !decide (t.a ∈ ys)) = false := by simpa using hb2
            rw [hb2']
            rfl
        rw [List.take_add_one, hti, List.all_append, hall]
        show (true && [t].all (closedT b ys)) = true
        simp [ct]
    · rintro r σ' H' ⟨e1, h1, ⟨v3, v4, v5, v6, v7, rfl⟩, hall⟩
      refine s_ret ev_c fun H2 e2 => ?_
      have hc : closed (ties ts) ys b = true := by
        rw [List.length_map] at hall
        have q := hall
        rw [List.take_of_length_le (by rw [List.length_map]; exact Nat.le_refl _)] at q
        exact q
      have g' := g H2 (e1.trans e2)
      rw [hc] at g'
      exact g'
theorem ok_within {f : Addr} {fd : FuncData} (F : Fun K "is_within" "is_within" s_is_within f fd) (T : Tx K C) (B : Blt mg) (M : Mt P w K mg base C 1 "places" ["self"] (spPlaces C)) (C_place_list : Cl P w K mg base 2 "place_list" ["net", "paper"] (spPlist K C)) (C_is_closed : Cl P w K mg base 2 "is_closed" ["net", "listed", "forth"] (spClosed C)) :
    FnOk P w K mg base CX0 3 f fd ["net", "kind", "paper"] (spWithin K C) := by
  obtain ⟨f_places, d_places, F_places, m_places, b_places⟩ := M.ex
  have cN := T.cl
  refine F.ok sc_is_within (fun vs H Q E h => ?_) (fun cdv A outer s H vs Q E hr h => ?_)
  · obtain ⟨p, k, l, zs, ts, q, kd, v, d, rfl, _⟩ := h
    rfl
  · obtain ⟨p, k, l, zs, ts, q, kd, v, d, rfl, N, hz, hk, hin, hd, g⟩ := h
    have nd := sc_is_within.nd
    refine ⟨_, (pss_cons (ps_set (i := 3) nd rfl (Or.inr rfl) (pe_def C_place_list hr (pa_cons (pv 0) (pa_cons (pv 2) pa_nil))))
    (pss_cons (ps_if (pt_cmpR op_isN (pv 3) pe_non (nomark _)) (pss_one (ps_ret pe_bl)) pss_nil)
    (pss_cons (ps_if (pt_cmpR op_eq (pe_ix ix_tup (pv 1) pe_int (fun _ _ => rfl)) pe_str (nomark _)) (pss_one (ps_ret (pe_cmpR op_eq (pe_callB call_len_seq (by rfl) B.len PySem.boot_len (pa_cons (pv 3) pa_nil)) (pe_callB call_len_seq (by rfl) B.len PySem.boot_len (pa_cons (pe_meth0 (pv 0) cN m_places F_places (hr.mono (by decide)) b_places .nil pass0) pa_nil)) (nomark _)))) pss_nil)
    (pss_cons (ps_if (pt_cmpR op_eq (pe_ix ix_tup (pv 1) pe_int (fun _ _ => rfl)) pe_str (nomark _)) (pss_one (ps_ret (pe_cmpR (op_eqD hr.units) (pe_lc (own := [("name", 4)]) (by rfl) nd (pi_list (pe_ix ix_tup (pv 1) pe_int (fun _ _ => rfl))) (blkOk_by (own := [("name", 4)]) (N := ["net", "kind", "paper", "listed", "name"]) (sc := defScope s_is_within) (by decide +kernel)) (fun _ _ _ _ _ => by exact (pg_name (i := 4) nd rfl (Or.inl rfl))) (fun _ _ _ _ _ => by exact (pts_one (pt_cmpR (knin K) (pv 4) (pv 3) rfl))) (fun _ _ _ _ _ => by exact (pv 4))) (pe_lst pa_nil) (nomark _)))) pss_nil)
    (pss_one (ps_ret (pe_and (pe_cmpR op_in_seq (pe_ix ix_tup (pv 1) pe_int (fun _ _ => rfl)) (pv 3) rfl) (pe_one (pe_def C_is_closed hr (pa_cons (pv 0) (pa_cons (pv 3) (pa_cons (pe_cmpR op_eq (pe_ix ix_tup (pv 1) pe_int (fun _ _ => rfl)) pe_str (nomark _)) pa_nil)))))))))))), ?_⟩
    cases hp : plist zs d with
    | none =>
      have gf : RetV (.bl false) H Q := by
        unfold within at g
        rw [hp] at g
        exact g
      refine q_asg (v := .non) (ev_call (vs := [.ref p, v]) (ea_cons (ev_var rfl) (ea_cons (ev_var rfl) ea_nil)) fun H1 e1 Q' q' E' => ⟨p, k, l, zs, ts, v, d, rfl, N.mono e1, hz, dp_mono e1 d v hd, (fun ys hy => by rw [hp] at hy; cases hy), fun _ => q'⟩) fun H1 e1 => ?_
      exact q_when (b := true) (et_is (et_test (ev_op (ev_var rfl) ev_c rv_isN)) rfl) (fun _ H2 e2 => s_ret ev_c fun H3 e3 => gf H3 ((e1.trans e2).trans e3)) (fun e => by cases e)
    | some ys =>
      refine q_asgL (xs := ys.map V.str) (el_call (vs := [.ref p, v]) (ea_cons (ev_var rfl) (ea_cons (ev_var rfl) ea_nil)) fun H1 e1 Q' q' E' => ⟨p, k, l, zs, ts, v, d, rfl, N.mono e1, hz, dp_mono e1 d v hd, (fun ys' hy => by
        rw [hp] at hy
        have e := Option.some.inj hy
        subst e
        exact q'), (fun hy => by rw [hp] at hy; cases hy)⟩) fun r H1 nr e1 hr1 => ?_
      refine q_when (b := false) (et_is (et_test (ev_op (ev_var rfl) ev_c rv_isN)) rfl) (fun e => by cases e) (fun _ H2 e2 => ?_)
      have hr2 : H2 r = some (.lst (ys.map V.str)) := e2 _ _ hr1
      have e02 := e1.trans e2
      have N2 := N.mono e02
      obtain ⟨⟨dx, ho⟩, hkn, hl, nkl⟩ := id N2
      have hk2 := kd_mono e02 hk
      unfold within at g
      rw [hp] at g
      dsimp only at g
      cases kd with
      | all =>
        have hk2 : H2 q = some (.tup [.str "all"]) := hk2
        refine q_when (b := true) (et_is (et_test (ev_op (ev_ixTS (es_at (ev_var rfl) hk2) ev_c rfl) ev_c (rv_eq rfl))) (by decide +kernel)) (fun _ H3 e3 => ?_) (fun e => by cases e)
        refine s_ret (ev_is (ev_op (ev_lenR (er_at (ev_var rfl) (e3 _ _ hr2))) (ev_lenR (er_new (el_meth (vs := []) (xs := zs.map V.str) (ev_var rfl) (e3 _ _ ho) (nf_no k l (by decide +kernel) (by decide +kernel)) ea_nil
          fun H4 e4 Q' q' E' => ⟨p, k, l, zs, ts, rfl, N2.mono (e3.trans e4), q'⟩))) (rv_eq rfl)) (w := .bl (decide (ys.length = zs.length))) (by
            rw [List.length_map, List.length_map, dec_len])) fun H4 e4 => ?_
        exact g H4 ((e02.trans e3).trans e4)
      | these ns =>
        obtain ⟨nq, hk2, hns⟩ := hk2
        refine q_when (b := false) (et_is (et_test (ev_op (ev_ixTS (es_at (ev_var rfl) hk2) ev_c rfl) ev_c (rv_eq rfl))) (by decide +kernel)) (fun e => by cases e) (fun _ H3 e3 => ?_)
        refine q_when (b := true) (et_is (et_test (ev_op (ev_ixTS (es_at (ev_var rfl) (e3 _ _ hk2)) ev_c rfl) ev_c (rv_eq rfl))) (by decide +kernel)) (fun _ H4 e4 => ?_) (fun e => by cases e)
        have e24 := e3.trans e4
        refine s_ret (ev_is (ev_opLL (el_is (el_lcR (xs := ns.map V.str) (fun i => !decide (strAt ns i ∈ ys)) (fun i => .str (strAt ns i)) (er_at (ev_ixTS (es_at (ev_var rfl) (e24 _ _ hk2)) ev_c rfl) (e24 _ _ hns)) (by rw [List.length_map]; have := hin.1; omega) (fun x => rfl)
          (fun i x H5 e5 hi => by
            obtain ⟨z, hz', rfl⟩ := strs_get hi
            exact et_is (et_test (ev_niR (ev_var rfl) (er_at (ev_var rfl) (e5 _ _ (e24 _ _ hr2))) rfl (strs_flat ys))) (by rw [inV_strs, strAt_is hz']))
          (fun i x H5 e5 hi _ => by
            obtain ⟨z, hz', rfl⟩ := strs_get hi
            exact ev_is (ev_var rfl) (by rw [strAt_is hz'])))
          (given_strs ns (fun z => !decide (z ∈ ys)) _ _ (fun i z hi => by rw [strAt_is hi]) (fun i z hi => by rw [strAt_is hi]))) (el_lst ea_nil (by simp)) fun a b H5 ha hb e5 => rv_eqD (.lst (sq_of ha) (dpAll_strs _)) (dp_nil hb) ((fine_strs (n := 0) fun z hz' => hin.2 z (List.mem_filter.mp hz').1).shaped (by decide)) ((fine_nil (n := 0)).shaped (by decide)))
          (w := .bl (ns.all fun n => decide (n ∈ ys))) (by
            rw [eqv_nil]
            congr 1
            rw [Bool.eq_iff_iff]
            simp [List.filter_eq_nil_iff])) fun H5 e5 => ?_
        exact g H5 ((e02.trans e24).trans e5)
      | frm a =>
        have hk2 : H2 q = some (.tup [.str "from", .str a]) := hk2
        refine q_when (b := false) (et_is (et_test (ev_op (ev_ixTS (es_at (ev_var rfl) hk2) ev_c rfl) ev_c (rv_eq rfl))) (by decide +kernel)) (fun e => by cases e) (fun _ H3 e3 => ?_)
        refine q_when (b := false) (et_is (et_test (ev_op (ev_ixTS (es_at (ev_var rfl) (e3 _ _ hk2)) ev_c rfl) ev_c (rv_eq rfl))) (by decide +kernel)) (fun e => by cases e) (fun _ H4 e4 => ?_)
        have e24 := e3.trans e4
        refine s_ret (ev_andV (a := decide (a ∈ ys)) (b := closed (ties ts) ys true) (ev_is (ev_inR (ev_ixTS (es_at (ev_var rfl) (e24 _ _ hk2)) ev_c rfl) (er_at (ev_var rfl) (e24 _ _ hr2)) rfl (strs_flat ys)) (by rw [inV_strs]))
          (fun _ => ev_call (vs := [.ref p, .ref r, .bl true]) (ea_cons (ev_var rfl) (ea_cons (ev_var rfl) (ea_cons (ev_is (ev_op (ev_ixTS (es_at (ev_var rfl) (e24 _ _ hk2)) ev_c rfl) ev_c (rv_eq rfl)) (by decide +kernel)) ea_nil)))
            fun H5 e5 Q' q' E' => ⟨p, k, l, zs, ts, r, ys, true, rfl, N2.mono (e24.trans e5), e5 _ _ (e24 _ _ hr2), q'⟩)) fun H5 e5 => ?_
        exact g H5 ((e02.trans e24).trans e5)
      | to a =>
        have hk2 : H2 q = some (.tup [.str "to", .str a]) := hk2
        refine q_when (b := false) (et_is (et_test (ev_op (ev_ixTS (es_at (ev_var rfl) hk2) ev_c rfl) ev_c (rv_eq rfl))) (by decide +kernel)) (fun e => by cases e) (fun _ H3 e3 => ?_)
        refine q_when (b := false) (et_is (et_test (ev_op (ev_ixTS (es_at (ev_var rfl) (e3 _ _ hk2)) ev_c rfl) ev_c (rv_eq rfl))) (by decide +kernel)) (fun e => by cases e) (fun _ H4 e4 => ?_)
        have e24 := e3.trans e4
        refine s_ret (ev_andV (a := decide (a ∈ ys)) (b := closed (ties ts) ys false) (ev_is (ev_inR (ev_ixTS (es_at (ev_var rfl) (e24 _ _ hk2)) ev_c rfl) (er_at (ev_var rfl) (e24 _ _ hr2)) rfl (strs_flat ys)) (by rw [inV_strs]))
          (fun _ => ev_call (vs := [.ref p, .ref r, .bl false]) (ea_cons (ev_var rfl) (ea_cons (ev_var rfl) (ea_cons (ev_is (ev_op (ev_ixTS (es_at (ev_var rfl) (e24 _ _ hk2)) ev_c rfl) ev_c (rv_eq rfl)) (by decide +kernel)) ea_nil)))
            fun H5 e5 Q' q' E' => ⟨p, k, l, zs, ts, r, ys, false, rfl, N2.mono (e24.trans e5), e5 _ _ (e24 _ _ hr2), q'⟩)) fun H5 e5 => ?_
        exact g H5 ((e02.trans e24).trans e5)
theorem ok_member {f : Addr} {fd : FuncData} (F : Fun K "is_member" "is_member" s_is_member f fd) (T : Tx K C) (M : Mt P w K mg base C 1 "places" ["self"] (spPlaces C)) (C_walk_end : Cl P w K mg base 2 "walk_end" ["net", "a", "paper"] (spWalk K C)) :
    FnOk P w K mg base CX0 3 f fd ["net", "kind", "place", "paper"] (spMember K C) := by
  obtain ⟨f_places, d_places, F_places, m_places, b_places⟩ := M.ex
  have cN := T.cl
  refine F.ok sc_is_member (fun vs H Q E h => ?_) (fun cdv A outer s H vs Q E hr h => ?_)
  · obtain ⟨p, k, l, zs, ts, q, kd, z, v, d, rfl, _⟩ := h
    rfl
  · obtain ⟨p, k, l, zs, ts, q, kd, z, v, d, rfl, N, hk, hd, hf, g⟩ := h
    have nd := sc_is_member.nd
    refine ⟨_, (pss_cons (ps_if (pt_cmpR op_notIn_seq (pv 2) (pe_meth0 (pv 0) cN m_places F_places (hr.mono (by decide)) b_places .nil pass0) rfl) (pss_one (ps_ret pe_bl)) pss_nil)
    (pss_cons (ps_if (pt_cmpR op_eq (pe_ix ix_tup (pv 1) pe_int (fun _ _ => rfl)) pe_str (nomark _)) (pss_one (ps_ret (pe_cmpR (op_eqD hr.units) (pv 3) (pe_lst pa_nil) (nomark _)))) pss_nil)
    (pss_cons (ps_if (pt_cmpR op_eq (pe_ix ix_tup (pv 1) pe_int (fun _ _ => rfl)) pe_str (nomark _)) (pss_one (ps_ret (pe_and (pe_cmpR (op_eqD hr.units) (pv 3) (pe_lst pa_nil) (nomark _)) (pe_one (pe_cmpR op_in_seq (pv 2) (pe_ix ix_tup (pv 1) pe_int (fun _ _ => rfl)) rfl))))) pss_nil)
    (pss_cons (ps_if (pt_cmpR op_eq (pe_ix ix_tup (pv 1) pe_int (fun _ _ => rfl)) pe_str (nomark _)) (pss_one (ps_ret (pe_cmpR op_eq (pe_def C_walk_end hr (pa_cons (pv 0) (pa_cons (pe_ix ix_tup (pv 1) pe_int (fun _ _ => rfl)) (pa_cons (pv 3) pa_nil)))) (pv 2) (nomark _)))) pss_nil)
    (pss_one (ps_ret (pe_cmpR op_eq (pe_def C_walk_end hr (pa_cons (pv 0) (pa_cons (pv 2) (pa_cons (pv 3) pa_nil)))) (pe_ix ix_tup (pv 1) pe_int (fun _ _ => rfl)) (nomark _)))))))), ?_⟩
    obtain ⟨⟨dx, ho⟩, hkn, hl, nkl⟩ := id N
    refine q_when (b := !decide (z ∈ zs)) (et_is (et_test (ev_niR (ev_var rfl) (er_new (el_meth (vs := []) (xs := zs.map V.str) (ev_var rfl) ho (nf_no k l (by decide +kernel) (by decide +kernel)) ea_nil
      fun H4 e4 Q' q' E' => ⟨p, k, l, zs, ts, rfl, N.mono e4, q'⟩)) rfl (strs_flat zs))) (by rw [inV_strs])) (fun hb H1 e1 => s_ret ev_c fun H2 e2 => ?_) (fun hb H1 e1 => ?_)
    · have hz : z ∉ zs := by simpa using hb
      have g' := g H2 (e1.trans e2)
      unfold member at g'
      rw [decide_eq_false hz] at g'
      exact g'
    have hz : z ∈ zs := by simpa using hb
    unfold member at g
    rw [decide_eq_true hz, Bool.true_and] at g
    have hk1 := kd_mono e1 hk
    have nil : ∀ H2, Ex H1 H2 → ∀ σ, σ[3]? = some (some v) → Ev (tOp (rEqD K) (tVar 3) (tLst tNil)) σ H2 (.bl (isNil d)) := fun H2 e2 σ hσ =>
      ev_is (ev_opL (ev_var hσ) (el_lst ea_nil (by simp)) fun a H3 ha e3 => rv_eqD (dp_mono ((e1.trans e2).trans e3) d v hd) (dp_nil ha) (hf.shaped (by decide)) ((fine_nil (n := 0)).shaped (by decide))) (by rw [eqv_isNil])
    cases kd with
    | all =>
      have hk2 : H1 q = some (.tup [.str "all"]) := hk1
      refine q_when (b := true) (et_is (et_test (ev_op (ev_ixTS (es_at (ev_var rfl) hk2) ev_c rfl) ev_c (rv_eq rfl))) (by decide +kernel)) (fun _ H3 e3 => ?_) (fun e => by cases e)
      exact s_ret (nil H3 e3 _ rfl) fun H4 e4 => g H4 ((e1.trans e3).trans e4)
    | these ns =>
      obtain ⟨nq, hk2, hns⟩ := hk1
      refine q_when (b := false) (et_is (et_test (ev_op (ev_ixTS (es_at (ev_var rfl) hk2) ev_c rfl) ev_c (rv_eq rfl))) (by decide +kernel)) (fun e => by cases e) (fun _ H3 e3 => ?_)
      refine q_when (b := true) (et_is (et_test (ev_op (ev_ixTS (es_at (ev_var rfl) (e3 _ _ hk2)) ev_c rfl) ev_c (rv_eq rfl))) (by decide +kernel)) (fun _ H4 e4 => ?_) (fun e => by cases e)
      have e24 := e3.trans e4
      refine s_ret (ev_andV (a := isNil d) (b := decide (z ∈ ns)) (nil H4 e24 _ rfl) (fun _ => ev_is (ev_inR (ev_var rfl) (er_at (ev_ixTS (es_at (ev_var rfl) (e24 _ _ hk2)) ev_c rfl) (e24 _ _ hns)) rfl (strs_flat ns)) (by rw [inV_strs]))) fun H5 e5 => ?_
      exact g H5 ((e1.trans e24).trans e5)
    | frm a =>
      have hk2 : H1 q = some (.tup [.str "from", .str a]) := hk1
      refine q_when (b := false) (et_is (et_test (ev_op (ev_ixTS (es_at (ev_var rfl) hk2) ev_c rfl) ev_c (rv_eq rfl))) (by decide +kernel)) (fun e => by cases e) (fun _ H3 e3 => ?_)
      refine q_when (b := false) (et_is (et_test (ev_op (ev_ixTS (es_at (ev_var rfl) (e3 _ _ hk2)) ev_c rfl) ev_c (rv_eq rfl))) (by decide +kernel)) (fun e => by cases e) (fun _ H4 e4 => ?_)
      have e24 := e3.trans e4
      refine q_when (b := true) (et_is (et_test (ev_op (ev_ixTS (es_at (ev_var rfl) (e24 _ _ hk2)) ev_c rfl) ev_c (rv_eq rfl))) (by decide +kernel)) (fun _ H5 e5 => ?_) (fun e => by cases e)
      have e25 := e24.trans e5
      refine s_ret (ev_is (ev_op (ev_call (vs := [.ref p, .str a, v]) (ea_cons (ev_var rfl) (ea_cons (ev_ixTS (es_at (ev_var rfl) (e25 _ _ hk2)) ev_c rfl) (ea_cons (ev_var rfl) ea_nil)))
        fun H6 e6 Q' q' E' => ⟨p, k, l, zs, ts, a, v, d, rfl, N.mono ((e1.trans e25).trans e6), dp_mono ((e1.trans e25).trans e6) d v hd, q'⟩) (ev_var rfl) (rv_eq (scal_opt _ _))) (by rw [optV_eq])) fun H6 e6 => ?_
      exact g H6 ((e1.trans e25).trans e6)
    | to a =>
      have hk2 : H1 q = some (.tup [.str "to", .str a]) := hk1
      refine q_when (b := false) (et_is (et_test (ev_op (ev_ixTS (es_at (ev_var rfl) hk2) ev_c rfl) ev_c (rv_eq rfl))) (by decide +kernel)) (fun e => by cases e) (fun _ H3 e3 => ?_)
      refine q_when (b := false) (et_is (et_test (ev_op (ev_ixTS (es_at (ev_var rfl) (e3 _ _ hk2)) ev_c rfl) ev_c (rv_eq rfl))) (by decide +kernel)) (fun e => by cases e) (fun _ H4 e4 => ?_)
      have e24 := e3.trans e4
      refine q_when (b := false) (et_is (et_test (ev_op (ev_ixTS (es_at (ev_var rfl) (e24 _ _ hk2)) ev_c rfl) ev_c (rv_eq rfl))) (by decide +kernel)) (fun e => by cases e) (fun _ H5 e5 => ?_)
      have e25 := e24.trans e5
      refine s_ret (ev_is (ev_op (ev_call (vs := [.ref p, .str z, v]) (ea_cons (ev_var rfl) (ea_cons (ev_var rfl) (ea_cons (ev_var rfl) ea_nil)))
        fun H6 e6 Q' q' E' => ⟨p, k, l, zs, ts, z, v, d, rfl, N.mono ((e1.trans e25).trans e6), dp_mono ((e1.trans e25).trans e6) d v hd, q'⟩) (ev_ixTS (es_at (ev_var rfl) (e25 _ _ hk2)) ev_c rfl) (rv_eq (scal_opt _ _))) (by rw [optV_eq])) fun H6 e6 => ?_
      exact g H6 ((e1.trans e25).trans e6)
end
end Nc
/-! Part G: come_to, members_of. -/
namespace Nc
open PySem L2 Evl
abbrev s_come_to : Stmt := top 23
theorem sc_come_to : FnScope ["net", "a", "forth", "shut", "by", "row", "at", "tie", "here", "there"] ["net", "a", "forth", "shut"] (defScope s_come_to) := ⟨rfl, rfl, rfl, by decide +kernel, rfl, by decide +kernel, by decide +kernel⟩
abbrev s_members_of : Stmt := top 24
theorem sc_members_of : FnScope ["net", "kind", "by", "place"] ["net", "kind"] (defScope s_members_of) := ⟨rfl, rfl, rfl, by decide +kernel, rfl, by decide +kernel, by decide +kernel⟩
section
variable {K : PySem.W.Frag} {σ : L2.St} {H H' : Hp} {ta tb te : TE}
theorem ev_din {d : Addr} {kvs : List (Key × V)} {z : Str} (hy : Ev ta σ H (.str z)) (hd : Ev tb σ H (.ref d)) (h : H d = some (.dK kvs)) : Ev (tDIn ta tb) σ H (.bl (valV kvs (Sum.inr z)).isSome) := fun H1 e Q q =>
  hy H1 e _ fun H2 e2 => hd H2 (e.trans e2) _ fun H3 e3 => ⟨d, _, rfl, DGet.k (k := Sum.inr z) (e3 _ _ (e2 _ _ (e _ _ h))), q H3 (e2.trans e3)⟩
theorem ev_dnotin {d : Addr} {kvs : List (Key × V)} {z : Str} (hy : Ev ta σ H (.str z)) (hd : Ev tb σ H (.ref d)) (h : H d = some (.dK kvs)) : Ev (tDNotIn ta tb) σ H (.bl (!(valV kvs (Sum.inr z)).isSome)) := fun H1 e Q q =>
  hy H1 e _ fun H2 e2 => hd H2 (e.trans e2) _ fun H3 e3 => ⟨d, _, rfl, DGet.k (k := Sum.inr z) (e3 _ _ (e2 _ _ (e _ _ h))), q H3 (e2.trans e3)⟩
end
section
variable {σ : L2.St} {H : Hp} {t1 t2 t3 t4 : TE} {v1 v2 v3 : V}
theorem ep_call4 {sp : Sp} {E : XK} {xs : List V} {P : V → Hp → Prop} (h1 : Ev t1 σ H v1) (h2 : Ev t2 σ H v2) (h3 : Ev t3 σ H v3) (h4 : EvL t4 σ H xs)
    (hs : ∀ p H1, Ex H H1 → H1 p = some (.lst xs) → ∀ (Q : VK) (E : XK), (∀ v H2, Ex H1 H2 → P v H2 → Q v H2) → sp [v1, v2, v3, .ref p] H1 Q E) : EvP (tCall sp [] E (tCons t1 (tCons t2 (tCons t3 (tCons t4 tNil))))) σ H (fun _ v H2 => P v H2) := fun H1 e1 Q q =>
  h1 H1 e1 _ fun H2 e2 => h2 H2 (e1.trans e2) _ fun H3 e3 => h3 H3 ((e1.trans e2).trans e3) _ fun H4 e4 => h4 H4 (((e1.trans e2).trans e3).trans e4) _ fun p H5 _ e5 hp =>
    hs p H5 ((((e1.trans e2).trans e3).trans e4).trans e5) hp Q E fun v H6 e6 hv => q v H6 ((((e2.trans e3).trans e4).trans e5).trans e6) hv
end
theorem dk_has (z : Str) : ∀ {kvs : List (Key × V)} {xs : List Str}, kvs.map (·.1) = xs.map Sum.inr → (valV kvs (Sum.inr z)).isSome = decide (z ∈ xs)
  | [], [], _ => rfl
  | [], _ :: _, h => by simp at h
  | _ :: _, [], h => by simp at h
  | p :: kvs, x :: xs, h => by
    rw [List.map_cons, List.map_cons] at h
    injection h with h1 h2
    have ih := dk_has z h2
    by_cases e : x = z
    · rw [valV_pos (p := p) (by rw [h1, e])]
      simp [e]
    · rw [valV_neg (p := p) (by rw [h1]; intro q; exact e (Sum.inr.inj q)), ih]
      have e' : ¬ z = x := fun q => e q.symm
      simp [e']
section
variable {P : Program} {w : World} {K : PySem.W.Frag} {mg : Str → Option Value} {base : Heap} {C : Addr}
/-- what come_to holds between two steps: the texts xs come to, in the row and as the dict's keys -/
structure Com (H : Hp) (ts : List Tie) (b : Bool) (a : Str) (zs : List Str) (by_ row : Addr) (H' : Hp) (xs : List Str) : Prop where
  ex : Ex H H'
  dk : ∃ kvs, H' by_ = some (.dK kvs) ∧ kvs.map (·.1) = xs.map Sum.inr
  rw_ : StrsAt H' row xs
  nd : xs.Nodup
  all : ∀ x ∈ xs, x ∈ zs ∧ Reach ts b a x
theorem Com.mono {H : Hp} {ts : List Tie} {b : Bool} {a : Str} {zs : List Str} {by_ row : Addr} {H' H2 : Hp} {xs : List Str} (e : Ex H' H2) (c : Com H ts b a zs by_ row H' xs) : Com H ts b a zs by_ row H2 xs := by
  obtain ⟨c1, ⟨kvs, c2, c3⟩, c4, c5, c6⟩ := c
  exact ⟨c1.trans e, ⟨kvs, e _ _ c2, c3⟩, e _ _ c4, c5, c6⟩
theorem Com.len {H : Hp} {ts : List Tie} {b : Bool} {a : Str} {zs : List Str} {by_ row : Addr} {H' : Hp} {xs : List Str} (c : Com H ts b a zs by_ row H' xs) : xs.length ≤ zs.length := nodup_le (fun x hx => (c.all x hx).1) c.nd
theorem ok_come {f : Addr} {fd : FuncData} (F : Fun K "come_to" "come_to" s_come_to f fd) (T : Tx K C) (B : Blt mg) (M : Mt P w K mg base C 1 "ties" ["self"] (spTies C)) : FnOk P w K mg base CX0 2 f fd ["net", "a", "forth", "shut"] (spCome C) := by
  obtain ⟨f_ties, d_ties, F_ties, m_ties, b_ties⟩ := M.ex
  have cN := T.cl
  refine F.ok sc_come_to (fun vs H Q E h => ?_) (fun cdv A outer s H vs Q E hr h => ?_)
  · obtain ⟨p, k, l, zs, ts, a, b, q, rfl, _⟩ := h
    rfl
  · obtain ⟨p, k, l, zs, ts, a, b, q, rfl, N, hq, ha, hts, hz, g⟩ := h
    have nd := sc_come_to.nd
    refine ⟨_, (pss_cons (ps_set (i := 4) nd rfl (Or.inl rfl) (pe_disp (pps_cons (pv 1) pe_non pps_nil) (by rfl) (by rfl) (fun z => by cases z) (by decide)))
    (pss_cons (ps_set (i := 5) nd rfl (Or.inl rfl) (pe_lst (pa_cons (pv 1) pa_nil)))
    (pss_cons (ps_set (i := 6) nd rfl (Or.inl rfl) pe_int)
    (pss_cons (ps_while PassesOwn.never (pt_cmpR op_lt (pv 6) (pe_callB call_len_seq (by rfl) B.len PySem.boot_len (pa_cons (pv 5) pa_nil)) (nomark _))
    (pss_cons (ps_for PassesOwn.never rfl (pi_list (pe_meth0 (pv 0) cN m_ties F_ties (hr.mono (by decide)) b_ties .nil pass0)) (pg_name (i := 7) nd rfl (Or.inl rfl))
    (pss_cons (ps_asg (pe_ifExp (pt_val (pv 2)) (pe_tup (pa_cons (pe_ix ix_tup (pv 7) pe_int (fun _ _ => rfl)) (pa_cons (pe_ix ix_tup (pv 7) pe_int (fun _ _ => rfl)) pa_nil))) (pe_tup (pa_cons (pe_ix ix_tup (pv 7) pe_int (fun _ _ => rfl)) (pa_cons (pe_ix ix_tup (pv 7) pe_int (fun _ _ => rfl)) pa_nil)))) (pg_tup (by rfl) (pgs_cons (pg_name (i := 8) nd rfl (Or.inl rfl)) (pgs_cons (pg_name (i := 9) nd rfl (Or.inl rfl)) pgs_nil))))
    (pss_one (ps_if (PW.pt (pw_and (pt_cmpR op_eq (pv 8) (pe_ix ix_list (pv 5) (pv 6) (fun _ _ => rfl)) (nomark _)) (pw_and (pt_cmp (pc_dnotin (hu_of hr) (pv 9) (pv 4)) rfl) (pw_and1 (pt_cmpR op_notIn_seq (pv 9) (pv 3) rfl))))) (pss_cons (ps_dput (hu_of hr) (pv 4) (pv 9) (pv 7) rfl)
    (pss_one (ps_expr (pe_bm PySem.F.plainAttrs_list PySem.F.slot_list_append PySem.F.type_list_append mt_append (pv 5) (pa_cons (pv 9) pa_nil))))) pss_nil))))
    (pss_one (ps_aug (i := 6) nd rfl (Or.inl rfl) pe_int ip_add))))
    (pss_one (ps_ret (pv 4))))))), ?_⟩
    -- by = {a: None}
    intro d nd0
    refine ⟨_, rfl, upd_same, [(Sum.inr a, .non)], rfl, by simp, ?_⟩
    have e1 : Ex H (upd (upd H d (.dK [])) d (.dK (mergeK [] [(Sum.inr a, V.non)]))) := by
      rw [upd_upd]
      exact Ex.new nd0
    have hd1 : upd (upd H d (.dK [])) d (.dK (mergeK [] [(Sum.inr a, V.non)])) d = some (.dK [(Sum.inr a, .non)]) := upd_same
    generalize upd (upd H d (.dK [])) d (.dK (mergeK [] [(Sum.inr a, V.non)])) = H1 at e1 hd1
    -- row = [a]; at = 0
    refine q_asgL (xs := [.str a]) (el_lst (ea_cons (ev_var rfl) ea_nil) (by simp)) fun r H2 nr e2 hr2 => ?_
    refine q_asg ev_c fun H3 e3 => ?_
    have nr0 : H r = none := fresh_back e1 nr
    have ndr : d ≠ r := ne_of_none hd1 nr
    have c0 : Com H (ties ts) b a zs d r H3 [a] := ⟨(e1.trans e2).trans e3, ⟨_, e3 _ _ (e2 _ _ hd1), rfl⟩, e3 _ _ hr2, by simp, fun x hx => by
      rw [List.mem_singleton.mp hx]
      exact ⟨ha, .start⟩⟩
    have hzp : 0 < zs.length := List.length_pos_of_mem ha
    refine q_while (fun m σ' H' => ∃ xs at_ v7 v8 v9, σ' = [some (.ref p), some (.str a), some (.bl b), some (.ref q), some (.ref d), some (.ref r), some (.int (at_ : Nat)), v7, v8, v9] ∧ Com H (ties ts) b a zs d r H' xs ∧ at_ ≤ zs.length ∧ m = zs.length - at_) zs.length
      ⟨[a], 0, none, none, none, rfl, c0, by omega, by omega⟩ ?_
    rintro m σ' H4 ⟨xs, at_, v7, v8, v9, rfl, c, hat, rfl⟩
    have hxl := c.len
    refine ⟨decide ((at_ : Int) < (xs.length : Int)), et_is (et_test (ev_op (ev_var rfl) (ev_lenR (er_at (ev_var rfl) c.rw_)) rv_I0)) (by rw [List.length_map]), fun hb H5 e5 => ?_, fun hb H5 e5 => ?_⟩
    · have hlt : at_ < xs.length := by
        have q := of_decide_eq_true hb
        omega
      refine ⟨fun σ2 H2 => ∃ xs v7 v8 v9, σ2 = [some (.ref p), some (.str a), some (.bl b), some (.ref q), some (.ref d), some (.ref r), some (.int ((at_ + 1 : Nat) : Int)), v7, v8, v9] ∧ Com H (ties ts) b a zs d r H2 xs,
        fun σ2 H2 ⟨xs, v7, v8, v9, e, c2⟩ => ⟨zs.length - (at_ + 1), by omega, xs, at_ + 1, v7, v8, v9, e, c2, by omega, rfl⟩, ?_⟩
      have c5 := c.mono e5
      have N5 := N.mono c5.ex
      obtain ⟨⟨dx, ho⟩, hkn, hl, nkl⟩ := id N5
      refine q_forNLn (xs := refs ts) (el_meth (vs := []) (ev_var rfl) ho (nf_no k l (by decide +kernel) (by decide +kernel)) ea_nil
        fun H6 e6 Q' q' E' => ⟨p, k, l, zs, ts, rfl, N5.mono e6, q'⟩) (fun u i σ' H' => (u ≠ d ∧ u ≠ r) ∧ H' u = some (.lst (refs ts)) ∧ ∃ xs v7 v8 v9, σ' = [some (.ref p), some (.str a), some (.bl b), some (.ref q), some (.ref d), some (.ref r), some (.int (at_ : Int)), v7, v8, v9] ∧ Com H (ties ts) b a zs d r H' xs ∧ at_ < xs.length)
        (fun u H6 nu e6 hu => ⟨⟨(fun e => by
            obtain ⟨kvs, hk, _⟩ := c5.dk
            rw [e, hk] at nu
            cases nu), (fun e => by
            rw [e, c5.rw_] at nu
            cases nu)⟩, hu, xs, v7, v8, v9, rfl, c5.mono e6, hlt⟩) (fun u i σ' H' _ h => sq_of h.2.1) ?_ ?_
      · rintro u i x σ' H6 hi ⟨⟨nud, nur⟩, hu, xs, v7, v8, v9, rfl, c6, hlt⟩
        obtain ⟨pt, t, ht, rfl, hpt⟩ := (hl.mono (Ex.refl _)).get hi
        have N6 := N.mono c6.ex
        have hpt6 : TieAt H6 pt t := N6.la.each (pt, t) (List.mem_of_getElem? ht)
        have htm : t ∈ ties ts := List.mem_map.mpr ⟨(pt, t), List.mem_of_getElem? ht, rfl⟩
        refine q_asg2 (x := .str (if b = true then t.a else t.b)) (y := .str (if b = true then t.b else t.a)) (eu_if (b := b) (et_B (ev_var rfl))
          (fun hb => by
            subst hb
            exact eu_tup (vs := [.str t.a, .str t.b]) (ea_cons (ev_ixTS (es_at (ev_var rfl) hpt6) ev_c rfl) (ea_cons (ev_ixTS (es_at (ev_var rfl) hpt6) ev_c rfl) ea_nil)) (by simp))
          (fun hb => by
            subst hb
            exact eu_tup (vs := [.str t.b, .str t.a]) (ea_cons (ev_ixTS (es_at (ev_var rfl) hpt6) ev_c rfl) (ea_cons (ev_ixTS (es_at (ev_var rfl) hpt6) ev_c rfl) ea_nil)) (by simp))) fun H7 e7 => ?_
        have c7 := c6.mono e7
        obtain ⟨kvs, hk7, hkeys⟩ := c7.dk
        obtain ⟨y, hy⟩ : ∃ y, xs[at_]? = some y := ⟨xs[at_], List.getElem?_eq_getElem hlt⟩
        have hq7 : H7 q = some (.lst []) := c7.ex _ _ hq
        refine s_when (b := decide ((if b = true then t.a else t.b) = y) && !decide ((if b = true then t.b else t.a) ∈ xs)) (et_is (et_and (et_test (ev_op (ev_var rfl) (ev_ixLR (v := .str y) (er_at (ev_var rfl) c7.rw_) (ev_var rfl) (atI_nat (by rw [List.getElem?_map, hy]; rfl))) (rv_eq rfl)))
          (fun _ => et_and (et_B (ev_dnotin (ev_var rfl) (ev_var rfl) hk7)) (fun _ => et_test (ev_niR (ev_var rfl) (er_at (ev_var rfl) hq7) rfl rfl)))) (by
            rw [dk_has _ hkeys]
            simp [inV])) (fun hb H8 e8 => ?_) (fun hb H8 e8 => ⟨⟨nud, nur⟩, e8 _ _ (e7 _ _ hu), xs, _, _, _, rfl, c7.mono e8, hlt⟩)
        obtain ⟨hb1, hb2⟩ := Bool.and_eq_true_iff.mp hb
        have hhere : (if b = true then t.a else t.b) = y := of_decide_eq_true hb1
        have hnew : (if b = true then t.b else t.a) ∉ xs := by simpa using hb2
        have c8 := c7.mono e8
        have hk8 := e8 _ _ hk7
        have hkl : kvs.length = xs.length := by
          have q := congrArg List.length hkeys
          simpa using q
        have hxl := c8.len
        refine ⟨_, rfl, _, rfl, _, rfl, d, _, rfl, DPut.k (k := Sum.inr (if b = true then t.b else t.a)) hk8 (sz_lt (by omega)), ?_⟩
        have hput : putK kvs (Sum.inr (if b = true then t.b else t.a)) (V.ref pt) = kvs ++ [(Sum.inr (if b = true then t.b else t.a), V.ref pt)] := putK_new _ (by
          have q := dk_has (if b = true then t.b else t.a) hkeys
          rw [decide_eq_false hnew] at q
          cases e : valV kvs (Sum.inr (if b = true then t.b else t.a)) with
          | none => rfl
          | some v =>
            rw [e] at q
            cases q)
        have hrow : upd H8 d (.dK (putK kvs (Sum.inr (if b = true then t.b else t.a)) (V.ref pt))) r = some (.lst (xs.map V.str)) := by
          rw [upd_ne ndr.symm]
          exact c8.rw_
        refine s_app hrow (ev_var rfl) (ev_var rfl) (by rw [List.length_map]; omega) fun H9 e9 => ?_
        refine ⟨⟨nud, nur⟩, ?_, xs ++ [if b = true then t.b else t.a], _, _, _, rfl, ⟨?_, ⟨kvs ++ [(Sum.inr (if b = true then t.b else t.a), V.ref pt)], ?_, by rw [List.map_append, hkeys, List.map_append]; rfl⟩, ?_, nd_snoc c8.nd hnew, fun x hx => ?_⟩, by simp; omega⟩
        · rw [upd_ne nur]
          refine e9 _ _ ?_
          rw [upd_ne nud]
          exact e8 _ _ (e7 _ _ hu)
        · exact Ex.mut (fun c o hc => e9 _ _ (Ex.mut c8.ex nd0 _ _ hc)) nr0
        · rw [upd_ne ndr]
          refine e9 _ _ ?_
          rw [upd_same, hput]
        · show upd H9 r _ r = _
          rw [upd_same, List.map_append]
          rfl
        · rcases List.mem_append.mp hx with hx | hx
          · exact c8.all x hx
          · rw [List.mem_singleton.mp hx]
            have hyr := (c8.all y (List.mem_of_getElem? hy)).2
            refine ⟨?_, Reach.step t htm hyr hhere.symm⟩
            have q := hts t htm
            cases b with
            | true => exact q.2
            | false => exact q.1
      · rintro u σ' H6 ⟨_, hu, xs, v7, v8, v9, rfl, c6, hlt⟩
        refine s_aug (a := (at_ : Int)) (b := 1) rfl ev_c fun H7 e7 => ⟨xs, v7, v8, v9, ?_, c6.mono e7⟩
        have q : ((at_ : Int) + 1) = ((at_ + 1 : Nat) : Int) := by omega
        rw [q]
        rfl
    · have c5 := c.mono e5
      refine s_ret (ev_var rfl) fun H6 e6 => ?_
      obtain ⟨kvs, hk, hkeys⟩ := (c5.mono e6).dk
      refine g d H6 kvs nd0 (c5.ex.trans e6) hk fun x hx => ?_
      have q : x.1 ∈ kvs.map (·.1) := List.mem_map.mpr ⟨x, hx, rfl⟩
      rw [hkeys] at q
      obtain ⟨z, hz', e⟩ := List.mem_map.mp q
      exact ⟨z, e.symm, (c5.all z hz').2⟩
theorem keys_has {ts : List Tie} {b : Bool} {a z : Str} {kvs : List (Key × V)} (h : KeysIn ts b a kvs) (hs : (valV kvs (Sum.inr z)).isSome = true) : Reach ts b a z := by
  rw [← valV_any] at hs
  obtain ⟨x, hx, e⟩ := List.any_eq_true.mp hs
  obtain ⟨y, hy, hr⟩ := h x hx
  have q : x.1 = Sum.inr z := of_decide_eq_true e
  rw [hy] at q
  rw [← Sum.inr.inj q]
  exact hr
theorem ok_members {f : Addr} {fd : FuncData} (F : Fun K "members_of" "members_of" s_members_of f fd) (T : Tx K C) (B : Blt mg) (M : Mt P w K mg base C 1 "places" ["self"] (spPlaces C)) (C_come_to : Cl P w K mg base 2 "come_to" ["net", "a", "forth", "shut"] (spCome C)) : FnOk P w K mg base CX0 3 f fd ["net", "kind"] (spMembers C) := by
  obtain ⟨f_places, d_places, F_places, m_places, b_places⟩ := M.ex
  have cN := T.cl
  refine F.ok sc_members_of (fun vs H Q E h => ?_) (fun cdv A outer s H vs Q E hr h => ?_)
  · obtain ⟨p, k, l, zs, ts, q, kd, rfl, _⟩ := h
    rfl
  · obtain ⟨p, k, l, zs, ts, q, kd, rfl, N, hk, hin, hts, hz, g⟩ := h
    have nd := sc_members_of.nd
    refine ⟨_, (pss_cons (ps_if (pt_cmpR op_eq (pe_ix ix_tup (pv 1) pe_int (fun _ _ => rfl)) pe_str (nomark _)) (pss_one (ps_ret (pe_meth0 (pv 0) cN m_places F_places (hr.mono (by decide)) b_places .nil pass0))) pss_nil)
    (pss_cons (ps_if (pt_cmpR op_eq (pe_ix ix_tup (pv 1) pe_int (fun _ _ => rfl)) pe_str (nomark _)) (pss_one (ps_ret (pe_lc (own := [("place", 3)]) (by rfl) nd (pi_list (pe_meth0 (pv 0) cN m_places F_places (hr.mono (by decide)) b_places .nil pass0)) (blkOk_by (own := [("place", 3)]) (N := ["net", "kind", "by", "place"]) (sc := defScope s_members_of) (by decide +kernel)) (fun _ _ _ _ _ => by exact (pg_name (i := 3) nd rfl (Or.inl rfl))) (fun _ _ _ _ _ => by exact (pts_one (pt_cmpR (kin K) (pv 3) (pe_ix (kixT K) (pv 1) pe_int (fun _ _ => rfl)) rfl))) (fun _ _ _ _ _ => by exact (pv 3))))) pss_nil)
    (pss_cons (ps_set (i := 2) nd rfl (Or.inr rfl) (pe_def C_come_to hr (pa_cons (pv 0) (pa_cons (pe_ix ix_tup (pv 1) pe_int (fun _ _ => rfl)) (pa_cons (pe_cmpR op_eq (pe_ix ix_tup (pv 1) pe_int (fun _ _ => rfl)) pe_str (nomark _)) (pa_cons (pe_lst pa_nil) pa_nil))))))
    (pss_one (ps_ret (pe_lc (own := [("place", 3)]) (by rfl) nd (pi_list (pe_meth0 (pv 0) cN m_places F_places (hr.mono (by decide)) b_places .nil pass0)) (blkOk_by (own := [("place", 3)]) (N := ["net", "kind", "by", "place"]) (sc := defScope s_members_of) (by decide +kernel)) (fun _ _ _ _ _ => by exact (pg_name (i := 3) nd rfl (Or.inl rfl))) (fun _ _ _ _ _ => by exact (pts_one (pt_cmp (pc_din (hu_of hr) (pv 3) (pv 2)) rfl))) (fun _ _ _ _ _ => by exact (pv 3)))))))), ?_⟩
    obtain ⟨⟨dx, ho⟩, hkn, hl, nkl⟩ := id N
    have pl : ∀ H1, Ex H H1 → ∀ {σ : L2.St}, σ[0]? = some (some (.ref p)) → EvL (tMeth C "places" (spPlaces C) [] E0 (tVar 0) tNil) σ H1 (zs.map V.str) := fun H1 e1 σ hσ =>
      el_meth (vs := []) (ev_var hσ) (e1 _ _ ho) (nf_no k l (by decide +kernel) (by decide +kernel)) ea_nil fun H4 e4 Q' q' E' => ⟨p, k, l, zs, ts, rfl, N.mono (e1.trans e4), q'⟩
    cases kd with
    | all =>
      have hk2 : H q = some (.tup [.str "all"]) := hk
      refine q_when (b := true) (et_is (et_test (ev_op (ev_ixTS (es_at (ev_var rfl) hk2) ev_c rfl) ev_c (rv_eq rfl))) (by decide +kernel)) (fun _ H1 e1 => ?_) (fun e => by cases e)
      exact s_retL (pl H1 e1 rfl) fun r H2 nr e2 hr2 => g r H2 zs (fresh_back e1 nr) (e1.trans e2) hr2 fun m hm => ⟨hm, trivial⟩
    | these ns =>
      obtain ⟨nq, hk2, hns⟩ := hk
      refine q_when (b := false) (et_is (et_test (ev_op (ev_ixTS (es_at (ev_var rfl) hk2) ev_c rfl) ev_c (rv_eq rfl))) (by decide +kernel)) (fun e => by cases e) (fun _ H1 e1 => ?_)
      refine q_when (b := true) (et_is (et_test (ev_op (ev_ixTS (es_at (ev_var rfl) (e1 _ _ hk2)) ev_c rfl) ev_c (rv_eq rfl))) (by decide +kernel)) (fun _ H2 e2 => ?_) (fun e => by cases e)
      have e02 := e1.trans e2
      refine s_retL (el_is (el_lcR (xs := zs.map V.str) (fun i => decide (strAt zs i ∈ ns)) (fun i => .str (strAt zs i)) (er_new (pl H2 e02 rfl)) (by rw [List.length_map]; omega) (fun x => rfl)
        (fun i x H3 e3 hi => by
          obtain ⟨z, hz', rfl⟩ := strs_get hi
          exact et_is (et_test (ev_inR (ev_var rfl) (er_at (ev_ixTS (es_at (ev_var rfl) (e3 _ _ (e02 _ _ hk2))) ev_c rfl) (e3 _ _ (e02 _ _ hns))) rfl (strs_flat ns))) (by rw [inV_strs, strAt_is hz']))
        (fun i x H3 e3 hi _ => by
          obtain ⟨z, hz', rfl⟩ := strs_get hi
          exact ev_is (ev_var rfl) (by rw [strAt_is hz'])))
        (given_strs zs (fun z => decide (z ∈ ns)) _ _ (fun i z hi => by rw [strAt_is hi]) (fun i z hi => by rw [strAt_is hi]))) fun r H3 nr e3 hr3 => ?_
      exact g r H3 _ (fresh_back e02 nr) (e02.trans e3) hr3 fun m hm => ⟨(List.mem_filter.mp hm).1, of_decide_eq_true (p := m ∈ ns) (List.mem_filter.mp hm).2⟩
    | frm a =>
      have hk2 : H q = some (.tup [.str "from", .str a]) := hk
      refine q_when (b := false) (et_is (et_test (ev_op (ev_ixTS (es_at (ev_var rfl) hk2) ev_c rfl) ev_c (rv_eq rfl))) (by decide +kernel)) (fun e => by cases e) (fun _ H1 e1 => ?_)
      refine q_when (b := false) (et_is (et_test (ev_op (ev_ixTS (es_at (ev_var rfl) (e1 _ _ hk2)) ev_c rfl) ev_c (rv_eq rfl))) (by decide +kernel)) (fun e => by cases e) (fun _ H2 e2 => ?_)
      have e02 := e1.trans e2
      refine q_asgP (ep_call4 (P := fun v H2 => ∃ r kvs, v = .ref r ∧ H2 r = some (.dK kvs) ∧ KeysIn (ties ts) true a kvs) (ev_var rfl) (ev_ixTS (es_at (ev_var rfl) (e02 _ _ hk2)) ev_c rfl)
        (ev_is (ev_op (ev_ixTS (es_at (ev_var rfl) (e02 _ _ hk2)) ev_c rfl) ev_c (rv_eq rfl)) (w := .bl true) (by decide +kernel)) (el_lst ea_nil (by simp)) (fun u H3 e3 hu Q' E' q' =>
          ⟨p, k, l, zs, ts, a, true, u, rfl, N.mono (e02.trans e3), hu, hin, hts, hz, fun r H8 kvs nr e8 h8 hkeys => q' _ _ e8 ⟨r, kvs, rfl, h8, hkeys⟩⟩)) ?_
      · rintro _ H3 e3 ⟨r, kvs, rfl, h3, hkeys⟩
        have e03 := e02.trans e3
        refine s_retL (el_is (el_lcR (xs := zs.map V.str) (fun i => (valV kvs (Sum.inr (strAt zs i))).isSome) (fun i => .str (strAt zs i)) (er_new (pl H3 e03 rfl)) (by rw [List.length_map]; omega) (fun x => rfl)
          (fun i x H4 e4 hi => by
            obtain ⟨z, hz', rfl⟩ := strs_get hi
            exact et_is (et_B (ev_din (ev_var rfl) (ev_var rfl) (e4 _ _ h3))) (by rw [strAt_is hz']))
          (fun i x H4 e4 hi _ => by
            obtain ⟨z, hz', rfl⟩ := strs_get hi
            exact ev_is (ev_var rfl) (by rw [strAt_is hz'])))
          (given_strs zs (fun z => (valV kvs (Sum.inr z)).isSome) _ _ (fun i z hi => by rw [strAt_is hi]) (fun i z hi => by rw [strAt_is hi]))) fun u H4 nu e4 hu => ?_
        exact g u H4 _ (fresh_back e03 nu) (e03.trans e4) hu fun m hm => ⟨(List.mem_filter.mp hm).1, keys_has hkeys (List.mem_filter.mp hm).2⟩
    | to a =>
      have hk2 : H q = some (.tup [.str "to", .str a]) := hk
      refine q_when (b := false) (et_is (et_test (ev_op (ev_ixTS (es_at (ev_var rfl) hk2) ev_c rfl) ev_c (rv_eq rfl))) (by decide +kernel)) (fun e => by cases e) (fun _ H1 e1 => ?_)
      refine q_when (b := false) (et_is (et_test (ev_op (ev_ixTS (es_at (ev_var rfl) (e1 _ _ hk2)) ev_c rfl) ev_c (rv_eq rfl))) (by decide +kernel)) (fun e => by cases e) (fun _ H2 e2 => ?_)
      have e02 := e1.trans e2
      refine q_asgP (ep_call4 (P := fun v H2 => ∃ r kvs, v = .ref r ∧ H2 r = some (.dK kvs) ∧ KeysIn (ties ts) false a kvs) (ev_var rfl) (ev_ixTS (es_at (ev_var rfl) (e02 _ _ hk2)) ev_c rfl)
        (ev_is (ev_op (ev_ixTS (es_at (ev_var rfl) (e02 _ _ hk2)) ev_c rfl) ev_c (rv_eq rfl)) (w := .bl false) (by decide +kernel)) (el_lst ea_nil (by simp)) (fun u H3 e3 hu Q' E' q' =>
          ⟨p, k, l, zs, ts, a, false, u, rfl, N.mono (e02.trans e3), hu, hin, hts, hz, fun r H8 kvs nr e8 h8 hkeys => q' _ _ e8 ⟨r, kvs, rfl, h8, hkeys⟩⟩)) ?_
      · rintro _ H3 e3 ⟨r, kvs, rfl, h3, hkeys⟩
        have e03 := e02.trans e3
        refine s_retL (el_is (el_lcR (xs := zs.map V.str) (fun i => (valV kvs (Sum.inr (strAt zs i))).isSome) (fun i => .str (strAt zs i)) (er_new (pl H3 e03 rfl)) (by rw [List.length_map]; omega) (fun x => rfl)
          (fun i x H4 e4 hi => by
            obtain ⟨z, hz', rfl⟩ := strs_get hi
            exact et_is (et_B (ev_din (ev_var rfl) (ev_var rfl) (e4 _ _ h3))) (by rw [strAt_is hz']))
          (fun i x H4 e4 hi _ => by
            obtain ⟨z, hz', rfl⟩ := strs_get hi
            exact ev_is (ev_var rfl) (by rw [strAt_is hz'])))
          (given_strs zs (fun z => (valV kvs (Sum.inr z)).isSome) _ _ (fun i z hi => by rw [strAt_is hi]) (fun i z hi => by rw [strAt_is hi]))) fun u H4 nu e4 hu => ?_
        exact g u H4 _ (fresh_back e03 nu) (e03.trans e4) hu fun m hm => ⟨(List.mem_filter.mp hm).1, keys_has hkeys (List.mem_filter.mp hm).2⟩
end
end Nc
/-! Part H: the law's cells, names, parts, net, sets. -/
namespace Nc
open PySem L2 Evl
abbrev s_Lcell_at : Stmt := top 26
theorem sc_Lcell_at : FnScope ["_law_script", "_law_k"] ["_law_script", "_law_k"] (defScope s_Lcell_at) := ⟨rfl, rfl, rfl, by decide +kernel, rfl, by decide +kernel, by decide +kernel⟩
abbrev s_Lname : Stmt := top 27
theorem sc_Lname : FnScope ["_law_cell", "_law_k", "_law_letters", "_law_found", "_law_j", "_law_at"] ["_law_cell", "_law_k"] (defScope s_Lname) := ⟨rfl, rfl, rfl, by decide +kernel, rfl, by decide +kernel, by decide +kernel⟩
abbrev s_Lparts : Stmt := top 28
theorem sc_Lparts : FnScope ["_law_script", "_law_first", "_law_places", "_law_ties", "_law_k", "_law_cell", "_law_a", "_law_b", "_law_name_here"] ["_law_script"] (defScope s_Lparts) := ⟨rfl, rfl, rfl, by decide +kernel, rfl, by decide +kernel, by decide +kernel⟩
abbrev s_Lnet : Stmt := top 29
theorem sc_Lnet : FnScope ["_law_places", "_law_ties", "_law_net_here", "_law_name_here", "_law_a", "_law_b", "_law_width", "_law_cost"] ["_law_places", "_law_ties"] (defScope s_Lnet) := ⟨rfl, rfl, rfl, by decide +kernel, rfl, by decide +kernel, by decide +kernel⟩
abbrev s_Lkind : Stmt := top 30
theorem sc_Lkind : FnScope ["_law_cell", "_law_places", "_law_place", "_law_some", "_law_k", "_law_one_here"] ["_law_cell", "_law_places"] (defScope s_Lkind) := ⟨rfl, rfl, rfl, by decide +kernel, rfl, by decide +kernel, by decide +kernel⟩
/-! ### texts by their codes -/
def ofC (l : List Nat) : Str := ⟨l.toArray⟩
theorem ofC_len (l : List Nat) : (ofC l).length = l.length := by
  show l.toArray.size = _
  rw [List.size_toArray]
theorem ofC_app (l m : List Nat) : ofC l ++ ofC m = ofC (l ++ m) := by
  show (⟨l.toArray ++ m.toArray⟩ : Str) = ⟨(l ++ m).toArray⟩
  rw [List.append_toArray]
theorem cutS_take (l : List Nat) (k : Nat) : cutS (ofC l) none (some (k : Int)) = ofC (l.take k) := by
  unfold cutS
  rw [HT.sIx_none, HT.sIx_nat, ofC_len]
  show (⟨((l.drop 0).take (min k l.length - 0)).toArray⟩ : Str) = ⟨(l.take k).toArray⟩
  rw [List.drop_zero, Nat.sub_zero]
  congr 2
  by_cases h : k ≤ l.length
  · rw [Nat.min_eq_left h]
  · rw [Nat.min_eq_right (by omega), List.take_length, List.take_of_length_le (by omega)]
theorem cutS_drop (l : List Nat) (k : Nat) : cutS (ofC l) (some (k : Int)) none = ofC (l.drop k) := by
  unfold cutS
  rw [HT.sIx_none, HT.sIx_nat, ofC_len]
  show (⟨((l.drop (min k l.length)).take (l.length - min k l.length)).toArray⟩ : Str) = ⟨(l.drop k).toArray⟩
  congr 2
  by_cases h : k ≤ l.length
  · rw [Nat.min_eq_left h, List.take_of_length_le (by rw [List.length_drop]; exact Nat.le_refl _)]
  · rw [Nat.min_eq_right (by omega), List.drop_length, List.drop_eq_nil_of_le (by omega), List.take_nil]
theorem cutV_map {α : Type} (f : α → V) (l : List α) (lo hi : Option Int) : ∃ m : List α, cutV (l.map f) lo hi = m.map f ∧ m.length ≤ HT.sIx l.length l.length hi - HT.sIx l.length 0 lo ∧ m.length ≤ l.length ∧ ∀ x ∈ m, x ∈ l := by
  refine ⟨(l.drop (HT.sIx l.length 0 lo)).take (HT.sIx l.length l.length hi - HT.sIx l.length 0 lo), ?_, ?_, ?_, fun x hx => List.mem_of_mem_drop (List.mem_of_mem_take hx)⟩
  · unfold cutV
    rw [List.length_map, ← List.map_drop, ← List.map_take]
  · rw [List.length_take]
    exact Nat.min_le_left _ _
  · rw [List.length_take, List.length_drop]
    omega
theorem ints_get {ns : List Int} {i : Nat} {x : V} (hi : (ns.map V.int)[i]? = some x) : ∃ z, ns[i]? = some z ∧ x = .int z := by
  rw [List.getElem?_map] at hi
  cases e : ns[i]? with
  | none =>
    rw [e] at hi
    cases hi
  | some y =>
    rw [e] at hi
    exact ⟨y, rfl, (Option.some.inj hi).symm⟩
/-- a remainder as a place -/
theorem mod_at {α : Type} {zs : List α} (i : Int) (h : 1 ≤ zs.length) : ∃ (j : Nat) (z : α), i % (zs.length : Int) = (j : Int) ∧ j < zs.length ∧ zs[j]? = some z ∧ z ∈ zs := by
  have h0 : 0 ≤ i % (zs.length : Int) := Int.emod_nonneg _ (by omega)
  have h1 : i % (zs.length : Int) < (zs.length : Int) := Int.emod_lt_of_pos _ (by omega)
  have hj : (i % (zs.length : Int)).toNat < zs.length := by omega
  exact ⟨(i % (zs.length : Int)).toNat, zs[(i % (zs.length : Int)).toNat], by omega, hj, List.getElem?_eq_getElem hj, List.getElem_mem hj⟩
theorem strs_at {zs : List Str} {j : Nat} {z : Str} (h : zs[j]? = some z) : atI (zs.map V.str) (j : Int) = some (.str z) := atI_nat (by rw [List.getElem?_map, h]; rfl)
section
variable {P : Program} {w : World} {K : PySem.W.Frag} {mg : Str → Option Value} {base : Heap} {C : Addr}
theorem ok_cell {f : Addr} {fd : FuncData} (F : Fun K "_law_cell_at" "_law_cell_at" s_Lcell_at f fd) (B : Blt mg) : FnOk P w K mg base CX0 1 f fd ["_law_script", "_law_k"] (spCell K) := by
  refine F.ok sc_Lcell_at (fun vs H Q E h => ?_) (fun cdv A outer s H vs Q E hr h => ?_)
  · obtain ⟨a, ns, k, rfl, _⟩ := h
    rfl
  · obtain ⟨a, ns, k, rfl, hs, g⟩ := h
    have nd := sc_Lcell_at.nd
    refine ⟨_, (pss_cons (ps_if (pt_cmpR op_lt (pv 1) (pe_callB call_len_seq (by rfl) B.len PySem.boot_len (pa_cons (pv 0) pa_nil)) (nomark _)) (pss_one (ps_ret (pe_ix ix_list (pv 0) (pv 1) (fun _ _ => rfl)))) pss_nil)
    (pss_one (ps_ret pe_int))), ?_⟩
    refine q_when (et_test (ev_op (ev_var rfl) (ev_len (ev_var rfl) hs) rv_I0)) (fun hb H1 e1 => ?_) (fun hb H1 e1 => s_ret ev_c fun H2 e2 => ?_)
    · have hk : k < ns.length := by
        have q := of_decide_eq_true hb
        rw [List.length_map] at q
        omega
      refine s_ret (v := .int (ns.getD k 0)) (ev_op (ev_var rfl) (ev_var rfl) (rv_ixL (ex_l e1 hs) (atI_nat (by
        rw [List.getElem?_map, List.getElem?_eq_getElem hk, List.getD_eq_getElem?_getD, List.getElem?_eq_getElem hk]
        rfl)))) fun H2 e2 => g H2 (e1.trans e2)
    · have hk : ¬ k < ns.length := fun h => by
        have q := of_decide_eq_false hb
        rw [List.length_map] at q
        omega
      have g' := g H2 (e1.trans e2)
      rw [List.getD_eq_getElem?_getD, List.getElem?_eq_none (by omega)] at g'
      exact g'
theorem ok_name {f : Addr} {fd : FuncData} (F : Fun K "_law_name" "_law_name" s_Lname f fd) (B : Blt mg) : FnOk P w K mg base CX0 1 f fd ["_law_cell", "_law_k"] spName := by
  refine F.ok sc_Lname (fun vs H Q E h => ?_) (fun cdv A outer s H vs Q E hr h => ?_)
  · obtain ⟨c, k, rfl, _⟩ := h
    rfl
  · obtain ⟨c, k, rfl, g⟩ := h
    have nd := sc_Lname.nd
    have h0 : 0 ≤ c % 7 := Int.emod_nonneg _ (by decide)
    have h1 : c % 7 < 7 := Int.emod_lt_of_pos _ (by decide)
    have hat := atC_lt c
    refine ⟨_, (pss_cons (ps_set (i := 2) nd rfl (Or.inl rfl) pe_str)
    (pss_cons (ps_set (i := 3) nd rfl (Or.inl rfl) pe_str)
    (pss_cons (ps_for PassesOwn.never rfl (pi_range1 (by rfl) B.range (pa_cons (pe_op op_add pe_int (pe_op op_mod (pv 0) pe_int)) pa_nil)) (pg_name (i := 4) nd rfl (Or.inl rfl))
    (pss_one (ps_set (i := 3) nd rfl (Or.inl rfl) (pe_op op_add_str (pv 3) (pe_ix ix_str (pv 2) (pe_op op_mod (pe_op op_add (pe_op op_fdiv (pv 0) pe_int) (pe_op op_mul (pv 4) (pv 4))) pe_int) (fun _ _ => rfl))))))
    (pss_cons (ps_set (i := 5) nd rfl (Or.inl rfl) (pe_op op_mod (pe_op op_fdiv (pv 0) pe_int) (pe_callB call_len_str (by rfl) B.len PySem.boot_len (pa_cons (pv 3) pa_nil))))
    (pss_one (ps_ret (pe_op op_add_str (pe_op op_add_str (pe_slice sl_str (pv 3) po_none (po_some (pv 5))) (pe_ix ix_str (pv 2) (pe_op op_mod (pe_op op_add (pe_op op_fdiv (pv 0) pe_int) (pv 1)) pe_int) (fun _ _ => rfl))) (pe_slice sl_str (pv 3) (po_some (pe_op op_add (pv 5) pe_int)) po_none)))))))), ?_⟩
    refine q_asg (v := .str letS) ev_c fun H1 e1 => ?_
    refine q_asg (v := .str (ofC [])) ev_c fun H2 e2 => ?_
    refine q_forR1 (n := 1 + c % 7) (ea_cons (ev_op ev_c (ev_op (ev_var rfl) ev_c (rv_I (by decide))) rv_I0) ea_nil) (by omega) (fun i σ H' => Ex H H' ∧ ∃ v4, σ = [some (.int c), some (.int k), some (.str letS), some (.str (ofC (foundC c i))), v4, none])
      (fun H3 e3 => ⟨(e1.trans e2).trans e3, none, rfl⟩) ?_ ?_
    · rintro i σ' H' hi ⟨e3, v4, rfl⟩
      have hl : (ofC (foundC c i)).length = i := by rw [ofC_len, found_len]
      refine s_asg (v := .str (ofC (foundC c (i + 1)))) (ev_is (ev_op (ev_var rfl) (ev_op (ev_var rfl) (ev_op (ev_op (ev_op (ev_var rfl) ev_c (rv_I ⟨by decide, by decide⟩)) (ev_op (ev_var rfl) (ev_var rfl) (rv_I (.inl ⟨by omega, by omega⟩))) rv_I0) ev_c (rv_I (by decide)))
        (rv_ixS (c := letC ((c / 7 + (i : Int) * (i : Int)) % 26)) (by decide +kernel) (let_ix (Int.emod_nonneg _ (by decide)) (Int.emod_lt_of_pos _ (by decide))))) (rv_add_str (by
          rw [hl]
          show i + 1 ≤ 100000
          omega))) (by
          rw [found_succ, ← ofC_app]
          rfl)) fun H4 e4 => ⟨e3.trans e4, _, rfl⟩
    · rintro σ' H3 ⟨e3, v4, rfl⟩
      have hl : (ofC (foundC c (1 + c % 7).toNat)).length = (1 + c % 7).toNat := by rw [ofC_len, found_len]
      have hli : (((ofC (foundC c (1 + c % 7).toNat)).length : Nat) : Int) = 1 + c % 7 := by omega
      refine q_asg (v := .int ((atC c : Nat) : Int)) (ev_is (ev_op (ev_op (ev_var rfl) ev_c (rv_I ⟨by decide, by decide⟩)) (ev_lenS (ev_var rfl) (by omega)) (rv_I (by omega))) (by
        rw [hli]
        have q : 0 ≤ c / 182 % (1 + c % 7) := Int.emod_nonneg _ (by omega)
        unfold atC
        congr 1
        omega)) fun H4 e4 => ?_
      have n1 : ((atC c : Nat) : Int) + 1 = ((atC c + 1 : Nat) : Int) := by omega
      refine s_ret (v := .str (nameOf c k)) (ev_is (ev_op (ev_op (ev_slS (ev_var rfl) eo_none (eo_some (ev_var rfl)) (by omega)) (ev_op (ev_var rfl) (ev_op (ev_op (ev_op (ev_var rfl) ev_c (rv_I ⟨by decide, by decide⟩)) (ev_var rfl) rv_I0) ev_c (rv_I (by decide)))
        (rv_ixS (c := letC ((c / 1274 + k) % 26)) (by decide +kernel) (let_ix (Int.emod_nonneg _ (by decide)) (Int.emod_lt_of_pos _ (by decide))))) (rv_add_str (by
          have q := cutS_length (ofC (foundC c (1 + c % 7).toNat)) none (some ((atC c : Nat) : Int))
          show _ + 1 ≤ 100000
          omega))) (ev_slS (ev_var rfl) (eo_some (ev_is (ev_op (ev_var rfl) ev_c rv_I0) (by rw [n1]))) eo_none (by omega)) (rv_add_str (by
          rw [cutS_take, cutS_drop, ofC_len]
          show (ofC _ ++ ofC [letC ((c / 1274 + k) % 26)]).length + _ ≤ _
          rw [ofC_app, ofC_len]
          simp only [List.length_append, List.length_take, List.length_drop, List.length_singleton, found_len]
          omega))) (by
          rw [cutS_take, cutS_drop]
          show V.str (ofC _ ++ ofC [letC ((c / 1274 + k) % 26)] ++ ofC _) = _
          rw [ofC_app, ofC_app]
          rfl)) fun H5 e5 => g H5 ((e3.trans e4).trans e5)
/-- what the ties laid so far are -/
structure TsOk (zs : List Str) (c : Int) (n : Nat) (ts : List Tie) : Prop where
  len : ts.length ≤ n
  nm : ∀ t ∈ ts, ∃ j : Nat, j < n ∧ t.nm = nameOf c j
  nd : (ts.map (·.nm)).Nodup
  each : ∀ t ∈ ts, t.a ∈ zs ∧ t.b ∈ zs ∧ t.a ≠ t.b ∧ 1 ≤ t.w
theorem TsOk.more {zs : List Str} {c : Int} {n : Nat} {ts : List Tie} (h : TsOk zs c n ts) : TsOk zs c (n + 1) ts :=
  ⟨Nat.le_succ_of_le h.len, fun t ht => by
    obtain ⟨j, hj, e⟩ := h.nm t ht
    exact ⟨j, by omega, e⟩, h.nd, h.each⟩
theorem TsOk.add {zs : List Str} {c : Int} {n : Nat} {ts : List Tie} (h : TsOk zs c n ts) (hn : n < 26) {t : Tie} (e : t.nm = nameOf c n) (ha : t.a ∈ zs) (hb : t.b ∈ zs) (hab : t.a ≠ t.b) (hw : 1 ≤ t.w) : TsOk zs c (n + 1) (ts ++ [t]) := by
  refine ⟨by rw [List.length_append]; exact Nat.succ_le_succ h.len, fun x hx => ?_, ?_, fun x hx => ?_⟩
  · rcases List.mem_append.mp hx with hx | hx
    · obtain ⟨j, hj, e⟩ := h.nm x hx
      exact ⟨j, by omega, e⟩
    · rw [List.mem_singleton.mp hx]
      exact ⟨n, by omega, e⟩
  · rw [List.map_append]
    refine nd_snoc h.nd fun hm => ?_
    obtain ⟨x, hx, ex⟩ := List.mem_map.mp hm
    obtain ⟨j, hj, ej⟩ := h.nm x hx
    have q : nameOf c (j : Int) = nameOf c (n : Int) := ej.symm.trans (Eq.trans ex e)
    have := name_inj (by omega) (by omega) (by omega) (by omega) q
    omega
  · rcases List.mem_append.mp hx with hx | hx
    · exact h.each x hx
    · rw [List.mem_singleton.mp hx]
      exact ⟨ha, hb, hab, hw⟩
theorem names_ok (c : Int) (n : Nat) (hn : n ≤ 6) : ((List.range n).map fun (i : Nat) => nameOf c (i : Int)).Nodup := by
  rw [List.nodup_iff_pairwise_ne, List.pairwise_map]
  refine List.Pairwise.imp_of_mem (fun {a b} ha hb hab q => ?_) List.nodup_range
  have h1 := List.mem_range.mp ha
  have h2 := List.mem_range.mp hb
  have := name_inj (by omega) (by omega) (by omega) (by omega) q
  omega
theorem given_true (n : Nat) (v : Nat → V) : given n (fun _ => true) v = (List.range n).map v := by
  unfold given
  rw [List.filter_eq_self.mpr fun _ _ => rfl]
theorem ok_parts {f : Addr} {fd : FuncData} (F : Fun K "_law_parts" "_law_parts" s_Lparts f fd) (B : Blt mg) (C__law_cell_at : Cl P w K mg base 1 "_law_cell_at" ["_law_script", "_law_k"] (spCell K)) (C__law_name : Cl P w K mg base 1 "_law_name" ["_law_cell", "_law_k"] spName) :
    FnOk P w K mg base CX0 2 f fd ["_law_script"] (spParts K) := by
  refine F.ok sc_Lparts (fun vs H Q E h => ?_) (fun cdv A outer s H vs Q E hr h => ?_)
  · obtain ⟨a, ns, rfl, _⟩ := h
    rfl
  · obtain ⟨a, ns, rfl, hs, h63, g⟩ := h
    have nd := sc_Lparts.nd
    have cell : ∀ (k : Nat) H1, Ex H H1 → ∀ H2, Ex H1 H2 → SpV (spCell K) [.ref a, .int (k : Int)] H2 (.int (ns.getD k 0)) := fun k H1 e1 H2 e2 H3 e3 Q' q' E' => ⟨a, ns, k, rfl, ex_l ((e1.trans e2).trans e3) hs, q'⟩
    refine ⟨_, (pss_cons (ps_set (i := 1) nd rfl (Or.inl rfl) (pe_def C__law_cell_at hr (pa_cons (pv 0) (pa_cons pe_int pa_nil))))
    (pss_cons (ps_setLc (i := 2) (own := [("_law_k", 4)]) (by rfl) nd rfl rfl (sw_true rfl rfl rfl (by decide +kernel)) (pi_range1 (by rfl) B.range (pa_cons (pe_op op_add pe_int (pe_op op_mod (pv 1) pe_int)) pa_nil)) (blkOk_by (own := [("_law_k", 4)]) (N := ["_law_script", "_law_first", "_law_places", "_law_ties", "_law_k", "_law_cell", "_law_a", "_law_b", "_law_name_here"]) (sc := defScope s_Lparts) (by decide +kernel)) (fun _ _ _ _ _ => by exact (pg_name (i := 4) nd rfl (Or.inl rfl))) (fun _ _ _ _ _ => by exact pts_nil) (fun _ _ _ _ _ => by exact (pe_def C__law_name hr (pa_cons (pe_def C__law_cell_at hr (pa_cons (pv 0) (pa_cons pe_int pa_nil))) (pa_cons (pv 4) pa_nil)))))
    (pss_cons (ps_set (i := 3) nd rfl (Or.inl rfl) (pe_lst pa_nil))
    (pss_cons (ps_for PassesOwn.never rfl (pi_enum (by rfl) B.enumerate (pa_cons (pe_slice sl_list (pv 0) (po_some pe_int) (po_some (pe_op op_add pe_int (pe_op op_mod (pe_op op_fdiv (pv 1) pe_int) pe_int)))) pa_nil)) (pg_tup (by rfl) (pgs_cons (pg_name (i := 4) nd rfl (Or.inl rfl)) (pgs_cons (pg_name (i := 5) nd rfl (Or.inl rfl)) pgs_nil)))
    (pss_cons (ps_set (i := 6) nd rfl (Or.inl rfl) (pe_op op_mod (pv 5) (pe_callB call_len_seq (by rfl) B.len PySem.boot_len (pa_cons (pv 2) pa_nil))))
    (pss_cons (ps_set (i := 7) nd rfl (Or.inl rfl) (pe_op op_mod (pe_op op_add (pe_op op_add (pv 6) pe_int) (pe_op op_mod (pe_op op_fdiv (pv 5) pe_int) (pe_callB (call_max2 rfl) (by rfl) B.max (by decide +kernel) (pa_cons pe_int (pa_cons (pe_op op_sub (pe_callB call_len_seq (by rfl) B.len PySem.boot_len (pa_cons (pv 2) pa_nil)) pe_int) pa_nil))))) (pe_callB call_len_seq (by rfl) B.len PySem.boot_len (pa_cons (pv 2) pa_nil))))
    (pss_cons (ps_if (pt_cmpR op_eq (pe_op op_mod (pe_op op_fdiv (pv 1) pe_int) pe_int) pe_int (nomark _)) (pss_one (ps_set (i := 7) nd rfl (Or.inl rfl) (pe_op op_mod (pe_op op_add (pv 6) pe_int) (pe_callB call_len_seq (by rfl) B.len PySem.boot_len (pa_cons (pv 2) pa_nil))))) pss_nil)
    (pss_one (ps_if (pt_cmpR op_ne (pv 6) (pv 7) (nomark _)) (pss_cons (ps_set (i := 8) nd rfl (Or.inl rfl) (pe_def C__law_name hr (pa_cons (pe_def C__law_cell_at hr (pa_cons (pv 0) (pa_cons pe_int pa_nil))) (pa_cons (pv 4) pa_nil))))
    (pss_one (ps_expr (pe_bm PySem.F.plainAttrs_list PySem.F.slot_list_append PySem.F.type_list_append mt_append (pv 3) (pa_cons (pe_tup (pa_cons (pv 8) (pa_cons (pe_ix ix_list (pv 2) (pv 6) (fun _ _ => rfl)) (pa_cons (pe_ix ix_list (pv 2) (pv 7) (fun _ _ => rfl)) (pa_cons (pe_op op_add pe_int (pe_op op_mod (pe_op op_fdiv (pv 5) pe_int) pe_int)) (pa_cons (pe_op op_sub (pe_op op_mod (pe_op op_fdiv (pv 5) pe_int) pe_int) pe_int) pa_nil)))))) pa_nil))))) pss_nil))))))
    (pss_one (ps_ret (pe_tup (pa_cons (pv 2) (pa_cons (pv 3) pa_nil))))))))), ?_⟩
    -- first
    refine q_asg (v := .int (ns.getD 0 0)) (ev_call (vs := [.ref a, .int 0]) (ea_cons (ev_var rfl) (ea_cons ev_c ea_nil)) (cell 0 H (Ex.refl H) H (Ex.refl H))) fun H1 e1 => ?_
    generalize hfirst : ns.getD 0 0 = first
    -- places
    have m0 : 0 ≤ first % 6 := Int.emod_nonneg _ (by decide)
    have m1 : first % 6 < 6 := Int.emod_lt_of_pos _ (by decide)
    refine q_asgL (el_lcR1 (n := 1 + first % 6) (fun _ => true) (fun i => .str (nameOf (ns.getD 1 0) (i : Nat))) (ea_cons (ev_op ev_c (ev_op (ev_var rfl) ev_c (rv_I (by decide))) rv_I0) ea_nil) (by omega) (fun x => rfl) (fun i H2 e2 hi => et_yes)
      (fun i H2 e2 hi _ => ev_call (vs := [.int (ns.getD 1 0), .int (i : Nat)]) (ea_cons (ev_call (vs := [.ref a, .int 1]) (ea_cons (ev_var rfl) (ea_cons ev_c ea_nil)) (cell 1 H1 e1 H2 e2)) (ea_cons (ev_var rfl) ea_nil)) fun H3 e3 Q' q' E' => ⟨_, _, rfl, q'⟩)) fun pl H2 npl e2 hpl => ?_
    rw [given_true] at hpl
    have hpl' : StrsAt H2 pl ((List.range (1 + first % 6).toNat).map fun (i : Nat) => nameOf (ns.getD 1 0) (i : Int)) := by
      show _ = some (HO.lst (List.map _ (List.map _ _)))
      rw [List.map_map]
      exact hpl
    have zlen : ((List.range (1 + first % 6).toNat).map fun (i : Nat) => nameOf (ns.getD 1 0) (i : Int)).length = (1 + first % 6).toNat := by rw [List.length_map, List.length_range]
    have znd := names_ok (ns.getD 1 0) (1 + first % 6).toNat (by omega)
    have znm : ∀ z ∈ ((List.range (1 + first % 6).toNat).map fun (i : Nat) => nameOf (ns.getD 1 0) (i : Int)), IsNm z := fun z hz => by
      obtain ⟨i, _, rfl⟩ := List.mem_map.mp hz
      exact name_ok _ _
    clear hpl
    generalize ((List.range (1 + first % 6).toNat).map fun (i : Nat) => nameOf (ns.getD 1 0) (i : Int)) = zs at hpl' zlen znd znm
    have z1 : 1 ≤ zs.length := by omega
    have z6 : zs.length ≤ 6 := by omega
    -- ties
    refine q_asgL (xs := []) (el_lst ea_nil (by simp)) fun tl H3 ntl e3 htl => ?_
    have e02 := e1.trans e2
    have e03 := e02.trans e3
    have ntl0 : H tl = none := fresh_back e02 ntl
    have npt : pl ≠ tl := ne_of_none hpl' ntl
    obtain ⟨cs, hcs, hc1, hc2, hc3⟩ := cutV_map V.int ns (some 4) (some (4 + first / 6 % 11))
    have f0 : 0 ≤ first / 6 % 11 := Int.emod_nonneg _ (by decide)
    have f1 : first / 6 % 11 < 11 := Int.emod_lt_of_pos _ (by decide)
    have hlen10 : cs.length ≤ 10 := by
      have q : (4 + first / 6 % 11) = ((4 + (first / 6 % 11).toNat : Nat) : Int) := by omega
      rw [q] at hc1
      have q4 : (some (4 : Int)) = some ((4 : Nat) : Int) := rfl
      rw [q4, HT.sIx_nat, HT.sIx_nat] at hc1
      omega
    refine q_forEN (xs := cs.map V.int) (el_is (el_sl (a := a) (xs := ns.map V.int) (ev_var rfl) (eo_some ev_c) (eo_some (ev_op ev_c (ev_op (ev_op (ev_var rfl) ev_c (rv_I ⟨by decide, by decide⟩)) ev_c (rv_I (by decide))) rv_I0)) (ex_l e03 hs)) hcs)
      (fun r i σ H' => r ≠ tl ∧ H' r = some (.lst (cs.map V.int)) ∧ Ex H H' ∧ StrsAt H' pl zs ∧ ∃ ts v4 v5 v6 v7 v8, σ = [some (.ref a), some (.int first), some (.ref pl), some (.ref tl), v4, v5, v6, v7, v8] ∧ TiesAt H' tl ts ∧ TsOk zs (ns.getD 2 0) i (ties ts))
      (fun r H4 nr e4 hr4 => ⟨(ne_of_none htl nr).symm, hr4, e03.trans e4, e4 _ _ (e3 _ _ hpl'), [], none, none, none, none, none, rfl, ⟨e4 _ _ htl, (fun x hx => by cases hx)⟩, ⟨Nat.le_refl _, (fun t ht => by cases ht), List.nodup_nil, (fun t ht => by cases ht)⟩⟩)
      (fun r i σ' H' _ h => sq_of h.2.1) ?_ ?_
    · rintro r i x σ' H' hi ⟨nrt, hr', e4, hp4, ts, v4, v5, v6, v7, v8, rfl, ht4, hok⟩ H5 e5
      obtain ⟨c, hci, rfl⟩ := ints_get hi
      have hi10 : i < 10 := by
        have q := (List.getElem?_eq_some_iff.mp hci).1
        omega
      have hp5 : StrsAt H5 pl zs := e5 _ _ hp4
      obtain ⟨ja, za, hja, hja', hza, hzam⟩ := mod_at (zs := zs) c z1
      -- a
      refine q_asg (v := .int (ja : Int)) (ev_is (ev_op (ev_var rfl) (ev_lenR (er_at (ev_var rfl) hp5)) (rv_I (by rw [List.length_map]; omega))) (by rw [List.length_map, hja])) fun H6 e6 => ?_
      -- b
      obtain ⟨jb, zb, hjb, hjb', hzb, hzbm⟩ := mod_at (zs := zs) ((ja : Int) + 1 + c / 6 % (if (zs.length : Int) - 1 > 1 then (zs.length : Int) - 1 else 1)) z1
      have hmax : (0 : Int) < (if (zs.length : Int) - 1 > 1 then (zs.length : Int) - 1 else 1) := by
        split <;> omega
      refine q_asg (v := .int (jb : Int)) (ev_is (ev_op (ev_op (ev_op (ev_var rfl) ev_c rv_I0) (ev_op (ev_op (ev_var rfl) ev_c (rv_I ⟨by decide, by decide⟩)) (ev_max2 ev_c (ev_op (ev_lenR (er_at (ev_var rfl) (e6 _ _ hp5))) ev_c rv_I0)) (rv_I (by rw [List.length_map]; exact hmax))) rv_I0) (ev_lenR (er_at (ev_var rfl) (e6 _ _ hp5))) (rv_I (by rw [List.length_map]; omega)))
        (by rw [List.length_map, hjb])) fun H7 e7 => ?_
      -- if .. b = (a + 1) % ..
      obtain ⟨jc, zc, hjc, hjc', hzc, hzcm⟩ := mod_at (zs := zs) ((ja : Int) + 1) z1
      have e57 := e6.trans e7
      obtain ⟨jd, zd, hjd, hzd, hzdm, hjdd⟩ : ∃ (jd : Nat) (zd : Str), jd < zs.length ∧ zs[jd]? = some zd ∧ zd ∈ zs ∧ (if decide (V.int (first / 66 % 4) = V.int 1) = true then (jc : Int) else (jb : Int)) = (jd : Int) := by
        by_cases hd : decide (V.int (first / 66 % 4) = V.int 1) = true
        · rw [if_pos hd]
          exact ⟨jc, zc, hjc', hzc, hzcm, rfl⟩
        · rw [if_neg hd]
          exact ⟨jb, zb, hjb', hzb, hzbm, rfl⟩
      refine q_ifAsg (v := .int (jd : Int)) (et_test (ev_op (ev_op (ev_op (ev_var rfl) ev_c (rv_I ⟨by decide, by decide⟩)) ev_c (rv_I (by decide))) ev_c (rv_eq rfl)))
        (fun hb => ev_is (ev_op (ev_op (ev_var rfl) ev_c rv_I0) (ev_lenR (er_at (ev_var rfl) (e57 _ _ hp5))) (rv_I (by rw [List.length_map]; omega))) (by
          rw [List.length_map, hjc, ← hjdd, if_pos hb]))
        (fun hb => by
          rw [← hjdd, if_neg (by rw [hb]; decide)]
          rfl) fun H8 e8 => ?_
      have e58 := e57.trans e8
      refine s_when (b := !decide (ja = jd)) (et_is (et_test (ev_op (ev_var rfl) (ev_var rfl) (rv_ne rfl))) (by
        congr 1
        by_cases q : ja = jd
        · rw [q]
          simp
        · rw [decide_eq_false q, decide_eq_false fun e => q (by have := V.int.inj e; omega)])) (fun hb H9 e9 => ?_)
        (fun hb H9 e9 => ⟨nrt, (e5.trans (e58.trans e9)) _ _ hr', e4.trans (e5.trans (e58.trans e9)), e9 _ _ (e58 _ _ hp5), ts, _, _, _, _, _, rfl, ht4.mono (e5.trans (e58.trans e9)), hok.more⟩)
      have hne : ja ≠ jd := by simpa using hb
      have e49 := e5.trans (e58.trans e9)
      have hzne : za ≠ zd := fun e => hne (nd_ix znd hza (by rw [e]; exact hzd))
      -- name, append
      refine q_asg (v := .str (nameOf (ns.getD 2 0) (i : Int))) (ev_call (vs := [.int (ns.getD 2 0), .int (i : Int)]) (ea_cons (ev_call (vs := [.ref a, .int 2]) (ea_cons (ev_var rfl) (ea_cons ev_c ea_nil)) (cell 2 H9 (e4.trans e49) H9 (Ex.refl _))) (ea_cons (ev_var rfl) ea_nil)) fun H3 e3 Q' q' E' => ⟨_, _, rfl, q'⟩) fun H10 e10 => ?_
      have ht10 := ht4.mono (e49.trans e10)
      have hp10 : StrsAt H10 pl zs := e10 _ _ (e9 _ _ (e58 _ _ hp5))
      have htlen : ts.length ≤ i := by
        have q := hok.len
        rw [List.length_map] at q
        exact q
      refine s_appU (ys := [.str (nameOf (ns.getD 2 0) (i : Int)), .str za, .str zd, .int (1 + c / 36 % 4), .int (c / 144 % 9 - 4)]) ht10.lst (ev_var rfl) (eu_tup (ea_cons (ev_var rfl) (ea_cons (ev_op (ev_var rfl) (ev_var rfl) (rv_ixL (sq_of hp10) (strs_at hza))) (ea_cons (ev_op (ev_var rfl) (ev_var rfl) (rv_ixL (sq_of hp10) (strs_at hzd)))
        (ea_cons (ev_op ev_c (ev_op (ev_op (ev_var rfl) ev_c (rv_I ⟨by decide, by decide⟩)) ev_c (rv_I (by decide))) rv_I0) (ea_cons (ev_op (ev_op (ev_op (ev_var rfl) ev_c (rv_I ⟨by decide, by decide⟩)) ev_c (rv_I (by decide))) ev_c rv_I0) ea_nil))))) (by simp))
        (by rw [List.length_map]; omega) fun u H11 nu e11 hu => ?_
      have e411 := e49.trans (e10.trans e11)
      have nut : u ≠ tl := (ne_of_none ht10.lst nu).symm
      have w0 : 0 ≤ c / 36 % 4 := Int.emod_nonneg _ (by decide)
      refine ⟨nrt, ?_, Ex.mut (e4.trans e411) ntl0, ?_, ts ++ [(u, ⟨nameOf (ns.getD 2 0) (i : Int), za, zd, 1 + c / 36 % 4, c / 144 % 9 - 4⟩)], _, _, _, _, _, rfl, ⟨?_, fun x hx => ?_⟩, ?_⟩
      · rw [upd_ne nrt]
        exact e411 _ _ hr'
      · show upd H11 tl _ pl = _
        rw [upd_ne npt]
        exact e11 _ _ hp10
      · rw [upd_same]
        show _ = some (HO.lst ((ts ++ _).map fun x => V.ref x.1))
        rw [List.map_append]
        rfl
      · show upd H11 tl _ x.1 = _
        rcases List.mem_append.mp hx with hx | hx
        · have hx1 := ht10.each x hx
          have nx : x.1 ≠ tl := ne_of hx1 ht10.lst (by intro z; cases z)
          rw [upd_ne nx]
          exact e11 _ _ hx1
        · rw [List.mem_singleton.mp hx, upd_ne nut]
          exact hu
      · show TsOk zs (ns.getD 2 0) (i + 1) ((ts ++ [_]).map fun (x : Addr × Tie) => x.2)
        rw [List.map_append]
        exact hok.add (by omega) rfl hzam hzdm hzne (by show 1 ≤ 1 + c / 36 % 4; omega)
    · rintro r σ' H' ⟨nrt, hr', e4, hp4, ts, v4, v5, v6, v7, v8, rfl, ht4, hok⟩
      refine s_retU (xs := [.ref pl, .ref tl]) (eu_tup (ea_cons (ev_var rfl) (ea_cons (ev_var rfl) ea_nil)) (by simp)) fun q H5 nq e5 hq => ?_
      refine g q pl tl zs ts H5 (e4.trans e5) hq (e5 _ _ hp4) (ht4.mono e5) ⟨z1, z6, znd, znm, ?_, hok.nd, fun t ht => ?_⟩
      · have q := hok.len
        have q2 : (cs.map V.int).length = cs.length := List.length_map _
        omega
      · obtain ⟨j, _, e⟩ := hok.nm t ht
        exact ⟨by rw [e]; exact name_ok _ _, hok.each t ht⟩
theorem ok_net {f : Addr} {fd : FuncData} (F : Fun K "_law_net" "_law_net" s_Lnet f fd) (T : Tx K C) (N1 : Nk P w K mg base C 1 (spInit C)) (M1 : Mt P w K mg base C 3 "place" ["self", "name"] (spPlace C)) (M2 : Mt P w K mg base C 3 "tie" ["self", "name", "a", "b", "width", "cost"] (spTie C)) :
    FnOk P w K mg base CX0 4 f fd ["_law_places", "_law_ties"] (spNet C) := by
  obtain ⟨f_place, d_place, F_place, m_place, b_place⟩ := M1.ex
  obtain ⟨f_tie, d_tie, F_tie, m_tie, b_tie⟩ := M2.ex
  obtain ⟨f_init, d_init, MkN, F_init, b_init⟩ := N1.ex
  have gN := N1.gN
  have cN := T.cl
  refine F.ok sc_Lnet (fun vs H Q E h => ?_) (fun cdv A outer s H vs Q E hr h => ?_)
  · obtain ⟨pl, tl, zs, ts, rfl, _⟩ := h
    rfl
  · obtain ⟨pl, tl, zs, ts, rfl, hp, ht, G, g⟩ := h
    have nd := sc_Lnet.nd
    refine ⟨_, (pss_cons (ps_set (i := 2) nd rfl (Or.inl rfl) (pe_make0 MkN F_init (hr.mono (by decide)) (by rfl) gN b_init .nil pass0))
    (pss_cons (ps_for PassesOwn.never rfl (pi_list (pv 0)) (pg_name (i := 3) nd rfl (Or.inl rfl))
    (pss_one (ps_expr (pe_meth (pv 2) cN m_place F_place (hr.mono (by decide)) b_place .nil pass0 (pa_cons (pv 3) pa_nil)))))
    (pss_cons (ps_for PassesOwn.never rfl (pi_list (pv 1)) (pg_tup (by rfl) (pgs_cons (pg_name (i := 3) nd rfl (Or.inl rfl)) (pgs_cons (pg_name (i := 4) nd rfl (Or.inl rfl)) (pgs_cons (pg_name (i := 5) nd rfl (Or.inl rfl)) (pgs_cons (pg_name (i := 6) nd rfl (Or.inl rfl)) (pgs_cons (pg_name (i := 7) nd rfl (Or.inl rfl)) pgs_nil))))))
    (pss_one (ps_expr (pe_meth (pv 2) cN m_tie F_tie (hr.mono (by decide)) b_tie .nil pass0 (pa_cons (pv 3) (pa_cons (pv 4) (pa_cons (pv 5) (pa_cons (pv 6) (pa_cons (pv 7) pa_nil)))))))))
    (pss_one (ps_ret (pv 2)))))), ?_⟩
    -- Net()
    intro x dx nx ndx nex
    refine ⟨x, dx, rfl, upd_same, fun H1 k l N1 nk nl nkl fr => ⟨rfl, ?_⟩⟩
    have back : ∀ y, upd (upd H dx (.own x)) x (.ins C dx []) y = none → H y = none := fun y hy => by
      by_cases e1 : y = x
      · rw [e1]
        exact nx
      · rw [upd_ne e1] at hy
        by_cases e2 : y = dx
        · rw [e2]
          exact ndx
        · rw [upd_ne e2] at hy
          exact hy
    have nk0 := back k nk
    have nl0 := back l nl
    have e1 : Ex H H1 := fun b o hb => fr b o (by rw [upd_ne (ne_of_none hb nx), upd_ne (ne_of_none hb ndx)]; exact hb) (ne_of_none hb nx)
    -- places
    refine q_forLn (a := pl) (xs := zs.map V.str) (ev_var rfl) (sq_of (e1 _ _ hp)) (fun i σ H' => Ex H H' ∧ NetIs C H' x k l (zs.take i) [] ∧ ∃ v3, σ = [some (.ref pl), some (.ref tl), some (.ref x), v3, none, none, none, none])
      (fun H2 e2 => ⟨e1.trans e2, N1.mono e2, none, rfl⟩) (fun i σ' H' _ h => sq_of (h.1 _ _ hp)) ?_ ?_
    · rintro i y σ' H' hi ⟨e2, N2, v3, rfl⟩
      obtain ⟨z, hz, rfl⟩ := strs_get hi
      obtain ⟨dy, ho⟩ := N2.ob
      have hil := (List.getElem?_eq_some_iff.mp hz).1
      have hz6 := G.len
      have hnew : z ∉ zs.take i := fun hm => by
        have q := G.nd
        rw [← List.take_append_drop i zs] at q
        have hd : z ∈ zs.drop i := by
          obtain ⟨h1, h2⟩ := List.getElem?_eq_some_iff.mp hz
          rw [List.drop_eq_getElem_cons h1, h2]
          exact List.mem_cons_self
        exact (List.nodup_append.mp q).2.2 z hm z hd rfl
      refine ⟨_, rfl, x, dy, _, rfl, ho, nf_no k l (by decide +kernel) (by decide +kernel), _, rfl, x, k, l, zs.take i, [], z, rfl, N2, G.nm z (List.mem_of_getElem? hz), hnew, by rw [List.length_take]; omega, fun H3 N3 fr3 => ?_⟩
      refine ⟨fun b o hb => fr3 b o (e2 b o hb) (ne_of_none hb nk0), ?_, _, rfl⟩
      rw [List.take_add_one, hz]
      exact N3
    rintro σ' H2 ⟨e2, N2, v3, rfl⟩
    rw [List.length_map, List.take_length] at N2
    -- ties
    refine q_forL (a := tl) (xs := refs ts) (ev_var rfl) (sq_of (e2 _ _ ht.lst)) (fun i σ H' => Ex H H' ∧ ∃ us v3 v4 v5 v6 v7, NetIs C H' x k l zs us ∧ ties us = (ties ts).take i ∧ σ = [some (.ref pl), some (.ref tl), some (.ref x), v3, v4, v5, v6, v7])
      (fun H3 e3 => ⟨e2.trans e3, [], v3, none, none, none, none, N2.mono e3, rfl, rfl⟩) (fun i σ' H' _ h => sq_of (h.1 _ _ ht.lst)) ?_ ?_
    · rintro i y σ' H' hi ⟨e3, us, v3, v4, v5, v6, v7, N3, hus, rfl⟩
      obtain ⟨pt, t, hti, rfl, hpt⟩ := (ht.mono e3).get hi
      refine g_five hpt ?_
      obtain ⟨dy, ho⟩ := N3.ob
      have hti2 : (ties ts)[i]? = some t := by
        rw [List.getElem?_map, hti]
        rfl
      have htm : t ∈ ties ts := List.mem_of_getElem? hti2
      obtain ⟨t1, t2, t3, t4, t5⟩ := G.each t htm
      have hlen := G.tlen
      have hil : us.length ≤ 10 := by
        have q := congrArg List.length hus
        rw [List.length_map, List.length_take] at q
        omega
      have hnew : ∀ y ∈ us, y.2.nm ≠ t.nm := fun y hy e => by
        have hy2 : y.2 ∈ (ties ts).take i := by
          rw [← hus]
          exact List.mem_map.mpr ⟨y, hy, rfl⟩
        have q := G.tnd
        rw [← List.take_append_drop i (ties ts), List.map_append] at q
        have hd : t ∈ (ties ts).drop i := by
          obtain ⟨h1, h2⟩ := List.getElem?_eq_some_iff.mp hti2
          rw [List.drop_eq_getElem_cons h1, h2]
          exact List.mem_cons_self
        exact (List.nodup_append.mp q).2.2 y.2.nm (List.mem_map.mpr ⟨_, hy2, rfl⟩) t.nm (List.mem_map.mpr ⟨_, hd, rfl⟩) e
      have hz6 := G.len
      refine ⟨_, rfl, x, dy, _, rfl, ho, nf_no k l (by decide +kernel) (by decide +kernel), _, rfl, _, rfl, _, rfl, _, rfl, _, rfl, x, k, l, zs, us, t, rfl, N3, t1, G.nm _ t2, G.nm _ t3, hnew, t4, t5, t2, t3, by omega, by omega, fun H4 q N4 fr4 => ?_⟩
      refine ⟨fun b o hb => fr4 b o (e3 b o hb) (ne_of_none hb nk0) (ne_of_none hb nl0), us ++ [(q, t)], _, _, _, _, _, N4, ?_, rfl⟩
      rw [List.take_add_one, hti2, ← hus]
      show (us ++ [(q, t)]).map _ = _
      rw [List.map_append]
      rfl
    · rintro σ' H3 ⟨e3, us, v3, v4, v5, v6, v7, N3, hus, rfl⟩
      refine s_ret (ev_var rfl) fun H4 e4 => ?_
      refine g x k l us H4 (e3.trans e4) (N3.mono e4) ?_
      rw [hus, List.length_map]
      exact List.take_of_length_le (by rw [List.length_map]; exact Nat.le_refl _)
theorem given_some (zs : List Str) (f : Nat → Bool) (g : Nat → Nat) (n : Nat) (h : ∀ i, i < n → g i < zs.length) : ∃ ms : List Str, given n f (fun i => .str (strAt zs (g i))) = ms.map V.str ∧ ms.length ≤ n ∧ ∀ m ∈ ms, m ∈ zs := by
  refine ⟨((List.range n).filter f).map fun i => strAt zs (g i), ?_, ?_, fun m hm => ?_⟩
  · unfold given
    rw [List.map_map]
    rfl
  · rw [List.length_map]
    have q := List.length_filter_le f (List.range n)
    rw [List.length_range] at q
    exact q
  · obtain ⟨i, hi, rfl⟩ := List.mem_map.mp hm
    have hlt := h i (List.mem_range.mp (List.mem_filter.mp hi).1)
    have e : zs[g i]? = some zs[g i] := List.getElem?_eq_getElem hlt
    rw [strAt_is e]
    exact List.getElem_mem hlt
theorem ok_kind {f : Addr} {fd : FuncData} (F : Fun K "_law_kind" "_law_kind" s_Lkind f fd) (B : Blt mg) : FnOk P w K mg base CX0 1 f fd ["_law_cell", "_law_places"] spKind := by
  refine F.ok sc_Lkind (fun vs H Q E h => ?_) (fun cdv A outer s H vs Q E hr h => ?_)
  · obtain ⟨c, pl, zs, rfl, _⟩ := h
    rfl
  · obtain ⟨c, pl, zs, rfl, hp, hok, h1, h6, g⟩ := h
    have nd := sc_Lkind.nd
    refine ⟨_, (pss_cons (ps_set (i := 2) nd rfl (Or.inl rfl) (pe_ix ix_list (pv 1) (pe_op op_mod (pe_op op_fdiv (pv 0) pe_int) (pe_callB call_len_seq (by rfl) B.len PySem.boot_len (pa_cons (pv 1) pa_nil))) (fun _ _ => rfl)))
    (pss_cons (ps_if (pt_cmpR op_eq (pe_op op_mod (pv 0) pe_int) pe_int (nomark _)) (pss_one (ps_ret (pe_tup (pa_cons pe_str pa_nil)))) pss_nil)
    (pss_cons (ps_if (pt_cmpR op_eq (pe_op op_mod (pv 0) pe_int) pe_int (nomark _)) (pss_one (ps_ret (pe_tup (pa_cons pe_str (pa_cons (pv 2) pa_nil))))) pss_nil)
    (pss_cons (ps_if (pt_cmpR op_eq (pe_op op_mod (pv 0) pe_int) pe_int (nomark _)) (pss_one (ps_ret (pe_tup (pa_cons pe_str (pa_cons (pv 2) pa_nil))))) pss_nil)
    (pss_cons (ps_setLc (i := 3) (own := [("_law_k", 4), ("_law_one_here", 5)]) (by rfl) nd rfl rfl (sw_true rfl rfl rfl (by decide +kernel)) (pi_enum (by rfl) B.enumerate (pa_cons (pv 1) pa_nil)) (blkOk_by (own := [("_law_k", 4), ("_law_one_here", 5)]) (N := ["_law_cell", "_law_places", "_law_place", "_law_some", "_law_k", "_law_one_here"]) (sc := defScope s_Lkind) (by decide +kernel)) (fun _ _ _ _ _ => by exact (ktup K (n := 2) (by rfl) (pgs_cons (pg_name (i := 4) nd rfl (Or.inl rfl)) (pgs_cons (pg_name (i := 5) nd rfl (Or.inl rfl)) pgs_nil)))) (fun _ _ _ _ _ => by exact (pts_one (pt_cmpR op_eq (pe_op op_mod (pe_op op_fdiv (pv 0) (pe_op op_add pe_int (pv 4))) pe_int) pe_int (nomark _)))) (fun _ _ _ _ _ => by exact (pv 5)))
    (pss_cons (ps_if (pt_cmpR op_eq (pe_op op_mod (pe_op op_fdiv (pv 0) pe_int) pe_int) pe_int (nomark _)) (pss_one (ps_set (i := 3) nd rfl (Or.inl rfl) (pe_op op_cat (pe_lc (own := [("_law_one_here", 5)]) (by rfl) nd (pi_reversed (by rfl) B.reversed (pa_cons (pv 3) pa_nil)) (blkOk_by (own := [("_law_one_here", 5)]) (N := ["_law_cell", "_law_places", "_law_place", "_law_some", "_law_k", "_law_one_here"]) (sc := defScope s_Lkind) (by decide +kernel)) (fun _ _ _ _ _ => by exact (pg_name (i := 5) nd rfl (Or.inl rfl))) (fun _ _ _ _ _ => by exact pts_nil) (fun _ _ _ _ _ => by exact (pv 5))) (pe_slice sl_list (pv 3) po_none (po_some pe_int))))) pss_nil)
    (pss_one (ps_ret (pe_tup (pa_cons pe_str (pa_cons (pv 3) pa_nil))))))))))), ?_⟩
    obtain ⟨j, z, hj, hj', hz, hzm⟩ := mod_at (zs := zs) (c / 4) h1
    refine q_asg (v := .str z) (ev_op (ev_var rfl) (ev_is (ev_op (ev_op (ev_var rfl) ev_c (rv_I ⟨by decide, by decide⟩)) (ev_lenR (er_at (ev_var rfl) hp)) (rv_I (by rw [List.length_map]; omega))) (by rw [List.length_map, hj])) (rv_ixL (sq_of hp) (strs_at hz))) fun H1 e1 => ?_
    refine q_when (et_test (ev_op (ev_op (ev_var rfl) ev_c (rv_I (by decide))) ev_c (rv_eq rfl))) (fun _ H2 e2 => s_retU (xs := [.str "all"]) (eu_tup (ea_cons ev_c ea_nil) (by simp)) fun q H3 nq e3 hq => g q .all H3 ((e1.trans e2).trans e3) hq trivial) (fun _ H2 e2 => ?_)
    refine q_when (et_test (ev_op (ev_op (ev_var rfl) ev_c (rv_I (by decide))) ev_c (rv_eq rfl))) (fun _ H3 e3 => s_retU (xs := [.str "from", .str z]) (eu_tup (ea_cons ev_c (ea_cons (ev_var rfl) ea_nil)) (by simp)) fun q H4 nq e4 hq => g q (.frm z) H4 (((e1.trans e2).trans e3).trans e4) hq hzm) (fun _ H3 e3 => ?_)
    refine q_when (et_test (ev_op (ev_op (ev_var rfl) ev_c (rv_I (by decide))) ev_c (rv_eq rfl))) (fun _ H4 e4 => s_retU (xs := [.str "to", .str z]) (eu_tup (ea_cons ev_c (ea_cons (ev_var rfl) ea_nil)) (by simp)) fun q H5 nq e5 hq => g q (.to z) H5 ((((e1.trans e2).trans e3).trans e4).trans e5) hq hzm) (fun _ H4 e4 => ?_)
    have e04 := ((e1.trans e2).trans e3).trans e4
    obtain ⟨ms, hms, hml, hmm⟩ := given_some zs (fun i => decide (V.int (c / (4 + (i : Int)) % 3) = V.int 1)) (fun i => i) zs.length (fun i hi => hi)
    refine q_asgL (xs := ms.map V.str) (el_is (el_lcE (xs := zs.map V.str) (fun i => decide (V.int (c / (4 + (i : Int)) % 3) = V.int 1)) (fun i => .str (strAt zs i)) (er_at (ev_var rfl) (e04 _ _ hp)) (by rw [List.length_map]; omega) (fun x y => rfl)
      (fun i x H5 e5 hi => et_test (ev_op (ev_op (ev_op (ev_var rfl) (ev_op ev_c (ev_var rfl) rv_I0) (rv_I ⟨by omega, by
        have q := (List.getElem?_eq_some_iff.mp hi).1
        rw [List.length_map] at q
        omega⟩)) ev_c (rv_I (by decide))) ev_c (rv_eq rfl)))
      (fun i x H5 e5 hi _ => by
        obtain ⟨y, hy, rfl⟩ := strs_get hi
        exact ev_is (ev_var rfl) (by rw [strAt_is hy]))) (by rw [List.length_map, hms])) fun r H5 nr e5 hr5 => ?_
    have fin : ∀ {σ : L2.St} {D : Ends} {ms : List Str} {r : Addr} {H6 : Hp}, σ[3]? = some (some (.ref r)) → Ex H H6 → StrsAt H6 r ms → ms.length ≤ 100 → (∀ m ∈ ms, m ∈ zs) → D.rt = Q → tRet (tTup (tCons (tC (.str "these")) (tCons (tVar 3) tNil))) D σ H6 := fun {σ D ms r H6} hσ e6 h6 hl hm hD =>
      s_retU (xs := [.str "these", .ref r]) (eu_tup (ea_cons ev_c (ea_cons (ev_var hσ) ea_nil)) (by simp)) fun q H7 nq e7 hq => by
        rw [hD]
        exact g q (.these ms) H7 (e6.trans e7) ⟨r, hq, e7 _ _ h6⟩ ⟨hl, fun n hn => hok n (hm n hn)⟩
    have e05 := e04.trans e5
    refine q_when (et_test (ev_op (ev_op (ev_op (ev_var rfl) ev_c (rv_I ⟨by decide, by decide⟩)) ev_c (rv_I (by decide))) ev_c (rv_eq rfl))) (fun _ H6 e6 => ?_) (fun _ H6 e6 => fin rfl (e05.trans e6) (e6 _ _ hr5) (by omega) hmm rfl)
    have hr6 : StrsAt H6 r ms := e6 _ _ hr5
    obtain ⟨rs, hrs, hrl, hrm⟩ := given_some ms (fun _ => true) (fun i => ms.length - 1 - i) ms.length (fun i hi => by omega)
    obtain ⟨us, hus, _, hul, hum⟩ := cutV_map V.str ms none (some 1)
    refine s_asgL (xs := (rs ++ us).map V.str) (el_is (el_cat (er_new (el_lcV (xs := ms.map V.str) (fun _ => true) (fun i => .str (strAt ms (ms.length - 1 - i))) (er_at (ev_var rfl) hr6) (by rw [List.length_map]; omega) (fun x => rfl) (fun i x H7 e7 hi => et_yes)
      (fun i x H7 e7 hi _ => by
        obtain ⟨y, hy, rfl⟩ := strs_get hi
        rw [List.length_map] at hy
        exact ev_is (ev_var rfl) (by rw [strAt_is hy])))) (er_new (el_slR (er_at (ev_var rfl) hr6) eo_none (eo_some ev_c))) (by
          rw [List.length_map, hus, hrs, List.length_map, List.length_map]
          omega)) (by rw [List.length_map, hrs, hus, List.map_append])) fun u H7 nu e7 hu => ?_
    refine fin rfl ((e05.trans e6).trans e7) hu (by rw [List.length_append]; omega) (fun m hm => ?_) rfl
    rcases List.mem_append.mp hm with hm | hm
    · exact hmm m (hrm m hm)
    · exact hmm m (hum m hm)
end
end Nc
/-! Part I: the law's own lookers: _law_within, _law_end, _law_member. -/
namespace Nc
open PySem L2 Evl
abbrev s_Lwithin : Stmt := top 33
theorem sc_Lwithin : FnScope ["_law_places", "_law_ties", "_law_kind_here", "_law_paper", "_law_k", "_law_one_here", "_law_name_here", "_law_a", "_law_b", "_law_width", "_law_cost"] ["_law_places", "_law_ties", "_law_kind_here", "_law_paper"] (defScope s_Lwithin) := ⟨rfl, rfl, rfl, by decide +kernel, rfl, by decide +kernel, by decide +kernel⟩
abbrev s_Lend : Stmt := top 34
theorem sc_Lend : FnScope ["_law_ties", "_law_place", "_law_paper", "_law_here", "_law_one_here", "_law_along", "_law_tie"] ["_law_ties", "_law_place", "_law_paper"] (defScope s_Lend) := ⟨rfl, rfl, rfl, by decide +kernel, rfl, by decide +kernel, by decide +kernel⟩
abbrev s_Lmember : Stmt := top 35
theorem sc_Lmember : FnScope ["_law_places", "_law_ties", "_law_kind_here", "_law_place", "_law_paper"] ["_law_places", "_law_ties", "_law_kind_here", "_law_place", "_law_paper"] (defScope s_Lmember) := ⟨rfl, rfl, rfl, by decide +kernel, rfl, by decide +kernel, by decide +kernel⟩
section
variable {K : PySem.W.Frag} {σ : L2.St} {H H' : Hp} {ta tb te : TE} {t : TT} {v x y : V} {D : Ends} {tu tz : TS}
theorem q_ifPar {b : Bool} {i j : Nat} {tA : TA} (h : EvT t σ H b) (h1 : b = true → EvA tA σ H [x, y]) (h2 : b = false → (σ.set i (some x)).set j (some y) = σ) (k : ∀ H1, Ex H H1 → tz D ((σ.set i (some x)).set j (some y)) H1) : tSeq (tIfS t (tPar i j tA) tNext) tz D σ H :=
  q_when h (fun hb H1 e1 => (h1 hb) H1 e1 _ fun H2 e2 => ⟨x, y, rfl, k H2 (e1.trans e2)⟩) (fun hb H1 e1 => by
    have g := k H1 e1
    rw [h2 hb] at g
    exact g)
end
theorem cutV_take (xs : List V) (k : Nat) : cutV xs none (some (k : Int)) = xs.take k := by
  unfold cutV
  rw [HT.sIx_none, HT.sIx_nat, List.drop_zero, Nat.sub_zero]
  by_cases h : k ≤ xs.length
  · rw [Nat.min_eq_left h]
  · rw [Nat.min_eq_right (by omega), List.take_length, List.take_of_length_le (by omega)]
theorem ty_str {d : PyData} (h : isStrD d = true) : ∃ z, d = .str z := by
  cases d with
  | str z => exact ⟨z, rfl⟩
  | _ => cases h
theorem within_none {zs : List Str} {ts : List Tie} {kd : Kd} {d : PyData} (h : plist zs d = none) : within zs ts kd d = false := by
  unfold within
  rw [h]
theorem within_some {zs ys : List Str} {ts : List Tie} {kd : Kd} {d : PyData} (h : plist zs d = some ys) : within zs ts kd d = match kd with
    | .all => decide (ys.length = zs.length)
    | .these ns => ns.all fun n => decide (n ∈ ys)
    | .frm a => decide (a ∈ ys) && closed ts ys true
    | .to a => decide (a ∈ ys) && closed ts ys false := by
  unfold within
  rw [h]
  all_goals rfl
/-- a tie as a datum -/
def tieD (t : Tie) : PyData := .tuple [.str t.nm, .str t.a, .str t.b, .int t.w, .int t.c]
theorem dp_tie {K : PySem.W.Frag} {H : Hp} {p : Addr} {t : Tie} (h : TieAt H p t) : Dp K H (.ref p) (tieD t) := .tup (st_of h) (.cons (.str _) (.cons (.str _) (.cons (.str _) (.cons (.int _) (.cons (.int _) .nil)))))
theorem fine_tie {n : Nat} {t : Tie} (h : TOk t) : Fine (n + 1) (tieD t) := fine_tup fun d hd => by
  simp only [List.mem_cons, List.not_mem_nil, or_false] at hd
  rcases hd with rfl | rfl | rfl | rfl | rfl
  · exact fine_str h.1
  · exact fine_str h.2.1
  · exact fine_str h.2.2
  · exact fine_int
  · exact fine_int
theorem dpAll_ties {K : PySem.W.Frag} {H : Hp} : ∀ {us : List (Addr × Tie)}, (∀ x ∈ us, TieAt H x.1 x.2) → DpAll K H (refs us) ((ties us).map tieD)
  | [], _ => .nil
  | u :: us, h => .cons (dp_tie (h u List.mem_cons_self)) (dpAll_ties fun x hx => h x (List.mem_cons_of_mem _ hx))
theorem fine_ties {n : Nat} {us : List Tie} (h : ∀ t ∈ us, TOk t) : Fine (n + 2) (.list (us.map tieD)) := fine_list fun d hd => by
  obtain ⟨t, ht, rfl⟩ := List.mem_map.mp hd
  exact fine_tie (h t ht)
/-- a tie by its place, a tie ready for any place -/
def refAt (ts : List (Addr × Tie)) (i : Nat) : Addr × Tie := ts.getD i (0, ⟨"", "", "", 0, 0⟩)
theorem refAt_is {ts : List (Addr × Tie)} {i : Nat} {p : Addr} {t : Tie} (h : ts[i]? = some (p, t)) : refAt ts i = (p, t) := by
  unfold refAt
  rw [List.getD_eq_getElem?_getD, h]
  rfl
/-- the ties that a comprehension gives -/
theorem given_refs (ts : List (Addr × Tie)) (p : Addr × Tie → Bool) : given (refs ts).length (fun i => p (refAt ts i)) (fun i => .ref (refAt ts i).1) = refs (ts.filter p) := by
  have key : ∀ n, n ≤ ts.length → given n (fun i => p (refAt ts i)) (fun i => V.ref (refAt ts i).1) = refs ((ts.take n).filter p) := by
    intro n
    induction n with
    | zero => exact fun _ => rfl
    | succ n ih =>
      intro h
      have ih := ih (by omega)
      have hx : ts[n]? = some ts[n] := List.getElem?_eq_getElem (by omega)
      have hr : refAt ts n = ts[n] := refAt_is hx
      rw [List.take_add_one, hx, List.filter_append]
      show _ = refs (_ ++ [ts[n]].filter p)
      cases hp : p ts[n] with
      | true =>
        rw [given_yes (f := fun i => p (refAt ts i)) (v := fun i => V.ref (refAt ts i).1) (by show p (refAt ts n) = true; rw [hr]; exact hp), ih, hr, List.filter_cons, if_pos hp]
        show _ = List.map _ (_ ++ [ts[n]])
        rw [List.map_append]
        rfl
      | false =>
        rw [given_no (f := fun i => p (refAt ts i)) (v := fun i => V.ref (refAt ts i).1) (by show p (refAt ts n) = false; rw [hr]; exact hp), ih, List.filter_cons, if_neg (by rw [hp]; decide)]
        show _ = List.map _ (_ ++ [])
        rw [List.append_nil]
  rw [List.length_map, key ts.length (Nat.le_refl _), List.take_length]
section
variable {P : Program} {w : World} {K : PySem.W.Frag} {mg : Str → Option Value} {base : Heap} {C : Addr}
theorem ok_lwithin {f : Addr} {fd : FuncData} (F : Fun K "_law_within" "_law_within" s_Lwithin f fd) (B : Blt mg) : FnOk P w K mg base CX0 1 f fd ["_law_places", "_law_ties", "_law_kind_here", "_law_paper"] (spLWithin K) := by
  refine F.ok sc_Lwithin (fun vs H Q E h => ?_) (fun cdv A outer s H vs Q E hr h => ?_)
  · obtain ⟨pl, tl, zs, ts, q, kd, v, d, rfl, _⟩ := h
    rfl
  · obtain ⟨pl, tl, zs, ts, q, kd, v, d, rfl, hp, ht, hk, hin, hd, g⟩ := h
    have nd := sc_Lwithin.nd
    refine ⟨_, (pss_cons (ps_if (pt_not (pt_val (pe_callB call_isi (by rfl) B.isinstance (by decide +kernel) (pa_cons (pv 3) (pa_cons (pe_bt (n := "list") (by rfl) B.list (by decide +kernel)) pa_nil))))) (pss_one (ps_ret pe_bl)) pss_nil)
    (pss_cons (ps_for PassesOwn.never rfl (pi_enum (by rfl) B.enumerate (pa_cons (pv 3) pa_nil)) (pg_tup (by rfl) (pgs_cons (pg_name (i := 4) nd rfl (Or.inl rfl)) (pgs_cons (pg_name (i := 5) nd rfl (Or.inl rfl)) pgs_nil)))
    (pss_one (ps_if (PW.pt (pw_or (pt_not (pt_val (pe_callB call_isi (by rfl) B.isinstance (by decide +kernel) (pa_cons (pv 5) (pa_cons (pe_bt (n := "str") (by rfl) B.str (by decide +kernel)) pa_nil))))) (pw_or (pt_cmpR op_notIn_seq (pv 5) (pv 0) rfl) (pw_or1 (pt_cmpR op_in_seq (pv 5) (pe_slice sl_list (pv 3) po_none (po_some (pv 4))) rfl))))) (pss_one (ps_ret pe_bl)) pss_nil)))
    (pss_cons (ps_if (pt_cmpR op_eq (pe_ix ix_tup (pv 2) pe_int (fun _ _ => rfl)) pe_str (nomark _)) (pss_one (ps_ret (pe_cmpR op_eq (pe_callB call_len_seq (by rfl) B.len PySem.boot_len (pa_cons (pv 3) pa_nil)) (pe_callB call_len_seq (by rfl) B.len PySem.boot_len (pa_cons (pv 0) pa_nil)) (nomark _)))) pss_nil)
    (pss_cons (ps_if (pt_cmpR op_eq (pe_ix ix_tup (pv 2) pe_int (fun _ _ => rfl)) pe_str (nomark _)) (pss_one (ps_ret (pe_cmpR (op_eqD hr.units) (pe_lc (own := [("_law_one_here", 5)]) (by rfl) nd (pi_list (pe_ix ix_tup (pv 2) pe_int (fun _ _ => rfl))) (blkOk_by (own := [("_law_one_here", 5)]) (N := ["_law_places", "_law_ties", "_law_kind_here", "_law_paper", "_law_k", "_law_one_here", "_law_name_here", "_law_a", "_law_b", "_law_width", "_law_cost"]) (sc := defScope s_Lwithin) (by decide +kernel)) (fun _ _ _ _ _ => by exact (pg_name (i := 5) nd rfl (Or.inl rfl))) (fun _ _ _ _ _ => by exact (pts_one (pt_cmpR (knin K) (pv 5) (pv 3) rfl))) (fun _ _ _ _ _ => by exact (pv 5))) (pe_lst pa_nil) (nomark _)))) pss_nil)
    (pss_cons (ps_for PassesOwn.never rfl (pi_list (pv 1)) (pg_tup (by rfl) (pgs_cons (pg_name (i := 6) nd rfl (Or.inl rfl)) (pgs_cons (pg_name (i := 7) nd rfl (Or.inl rfl)) (pgs_cons (pg_name (i := 8) nd rfl (Or.inl rfl)) (pgs_cons (pg_name (i := 9) nd rfl (Or.inl rfl)) (pgs_cons (pg_name (i := 10) nd rfl (Or.inl rfl)) pgs_nil))))))
    (pss_cons (ps_if (pt_cmpR op_eq (pe_ix ix_tup (pv 2) pe_int (fun _ _ => rfl)) pe_str (nomark _)) (pss_one (ps_par (i := 7) (j := 8) (by rfl) nd rfl rfl (by decide) rfl rfl (pa_cons (pv 8) (pa_cons (pv 7) pa_nil)) (by rfl))) pss_nil)
    (pss_one (ps_if (PW.pt (pw_and (pt_cmpR op_in_seq (pv 7) (pv 3) rfl) (pw_and1 (pt_cmpR op_notIn_seq (pv 8) (pv 3) rfl)))) (pss_one (ps_ret pe_bl)) pss_nil))))
    (pss_one (ps_ret (pe_cmpR op_in_seq (pe_ix ix_tup (pv 2) pe_int (fun _ _ => rfl)) (pv 3) rfl)))))))), ?_⟩
    refine q_when (et_not (et_B (ev_isList (ev_var rfl) hd))) (fun hb H1 e1 => s_ret ev_c fun H2 e2 => ?_) (fun hb H1 e1 => ?_)
    · have g' := g H2 (e1.trans e2)
      rw [within_none (by
        cases d with
        | list ds => cases hb
        | _ => rfl)] at g'
      exact g'
    obtain ⟨r, xs, ds, rfl, rfl, hs, hall⟩ := list_of hd (by simpa using hb)
    refine q_forE (a := r) (xs := xs) (ea_cons (ev_var rfl) ea_nil) (ex_l e1 hs) (fun i σ H' => Ex H H' ∧ ∃ ys v4 v5, σ = [some (.ref pl), some (.ref tl), some (.ref q), some (.ref r), v4, v5, none, none, none, none, none] ∧ xs.take i = ys.map V.str ∧ ds.take i = ys.map PyData.str ∧ okL zs ys = true)
      (fun H2 e2 => ⟨e1.trans e2, [], none, none, rfl, rfl, rfl, rfl⟩) (fun i σ' H' _ h => ex_l h.1 hs) ?_ ?_
    · rintro i x σ' H' hi ⟨e2, ys, v4, v5, rfl, hxs, hds, hok⟩ H2 e2'
      have e3 := e2.trans e2'
      obtain ⟨di, hdi, hx⟩ := dpAll_get hall i x hi
      have hx3 := dp_mono e3 di x hx
      have hp3 : StrsAt H2 pl zs := e3 _ _ hp
      cases hstr : isStrD di with
      | false =>
        refine s_when (b := true) (et_is (et_or (et_not (et_B (ev_isStr (ev_var rfl) hx3))) (b := true) (fun e => by rw [hstr] at e; cases e)) (by rw [hstr]; rfl)) (fun _ H5 e5 => s_ret ev_c fun H6 e6 => ?_) (fun e => by cases e)
        have g' := g H6 ((e3.trans e5).trans e6)
        rw [within_none (plist_odd (strsD_odd hdi hstr))] at g'
        exact g'
      | true =>
        obtain ⟨z, rfl, rfl⟩ := str_of hx3 hstr
        refine s_when (b := !decide (z ∈ zs) || decide (z ∈ ys)) (et_is (et_or (et_not (et_B (ev_isStr (ev_var rfl) hx3))) (fun _ => et_or (et_test (ev_niR (ev_var rfl) (er_at (ev_var rfl) hp3) rfl (strs_flat zs)))
          (fun _ => et_test (ev_inR (ev_var rfl) (er_new (el_is (el_sl (ev_var rfl) eo_none (eo_some (ev_var rfl)) (ex_l e3 hs)) (by rw [cutV_take, hxs]))) rfl (strs_flat ys)))))
          (by rw [inV_strs, inV_strs]; rfl)) (fun hb H5 e5 => s_ret ev_c fun H6 e6 => ?_) (fun hb H5 e5 => ?_)
        · have g' := g H6 ((e3.trans e5).trans e6)
          rw [within_none (plist_bad hds hdi (by
            rcases Bool.or_eq_true_iff.mp hb with hb | hb
            · exact .inl (by simpa using hb)
            · exact .inr (of_decide_eq_true hb)))] at g'
          exact g'
        · obtain ⟨h1, h2⟩ := Bool.or_eq_false_iff.mp hb
          have z1 : z ∈ zs := by simpa using h1
          have z2 : z ∉ ys := of_decide_eq_false h2
          refine ⟨e3.trans e5, ys ++ [z], _, _, rfl, ?_, ?_, okL_snoc hok z1 z2⟩
          · rw [List.take_add_one, hi, hxs, List.map_append]
            rfl
          · rw [List.take_add_one, hdi, hds, List.map_append]
            rfl
    rintro σ' H2 ⟨e2, ys, v4, v5, rfl, hxs, hds, hok⟩
    rw [List.take_length] at hxs
    rw [dpAll_len hall, List.take_length] at hds
    subst hxs hds
    have hs2 := ex_l e2 hs
    have hp2 : StrsAt H2 pl zs := e2 _ _ hp
    have ht2 := ht.mono e2
    have hk2 := kd_mono e2 hk
    rw [within_some (plist_good hok)] at g
    -- the last loop, forth or back
    have far : ∀ (b : Bool) (a : Str), H2 q = some (.tup [.str (if b = true then "from" else "to"), .str a]) → RetV (.bl (decide (a ∈ ys) && closed (ties ts) ys b)) H Q → ∀ {D : Ends} {H3 : Hp}, Ex H2 H3 → D.rt = Q →
        tSeq (tFor (iList K (tVar 1)) (gTup K 5 (gCons (gName 6) (gCons (gName 7) (gCons (gName 8) (gCons (gName 9) (gCons (gName 10) gNil)))))) (tSeq (tIfS (tTest (tOp rEq (tOp (rIxT K) (tVar 2) (tC (.int 0))) (tC (.str "to")))) (tPar 7 8 (tCons (tVar 8) (tCons (tVar 7) tNil))) tNext)
          (tIfS (tAnd (tTest (tOp (rIn K false) (tVar 7) (tVar 3))) (tTest (tOp (rIn K true) (tVar 8) (tVar 3)))) (tRet (tC (.bl false))) tNext))) (tRet (tOp (rIn K false) (tOp (rIxT K) (tVar 2) (tC (.int 1))) (tVar 3))) D
          [some (.ref pl), some (.ref tl), some (.ref q), some (.ref r), v4, v5, none, none, none, none, none] H3 := by
      intro b a hq g D H3 e3 hD
      have e03 := e2.trans e3
      refine q_forL (a := tl) (xs := refs ts) (ev_var rfl) (sq_of (e3 _ _ ht2.lst)) (fun i σ H' => Ex H2 H' ∧ (∃ v6 v7 v8 v9 v10, σ = [some (.ref pl), some (.ref tl), some (.ref q), some (.ref r), v4, v5, v6, v7, v8, v9, v10]) ∧ ((ties ts).take i).all (closedT b ys) = true)
        (fun H4 e4 => ⟨e3.trans e4, ⟨none, none, none, none, none, rfl⟩, rfl⟩) (fun i σ' H' _ h => sq_of (h.1 _ _ ht2.lst)) ?_ ?_
      · rintro i x σ' H4 hi ⟨e4, ⟨v6, v7, v8, v9, v10, rfl⟩, hall⟩
        obtain ⟨pt, t, hti, rfl, hat⟩ := (ht2.mono e4).get hi
        refine g_five hat ?_
        have e24 := e2.trans e4
        refine q_ifPar (b := !b) (x := .str (if b = true then t.a else t.b)) (y := .str (if b = true then t.b else t.a)) (et_is (et_test (ev_op (ev_ixTS (es_at (ev_var rfl) (e4 _ _ hq)) ev_c rfl) ev_c (rv_eq rfl))) (by
            cases b
            · decide +kernel
            · decide +kernel)) (fun hb => by
            have hb' : b = false := by simpa using hb
            subst hb'
            exact ea_cons (ev_var rfl) (ea_cons (ev_var rfl) ea_nil)) (fun hb => by
            have hb' : b = true := by simpa using hb
            subst hb'
            rfl) fun H5 e5 => ?_
        have hs5 := ex_l (e24.trans e5) hs
        refine s_when (b := decide ((if b = true then t.a else t.b) ∈ ys) && !decide ((if b = true then t.b else t.a) ∈ ys)) (et_is (et_and (et_test (ev_op (ev_var rfl) (ev_var rfl) (rv_isL hs5 rfl (strs_flat ys)))) (fun _ => et_test (ev_op (ev_var rfl) (ev_var rfl) (rv_niL hs5 rfl (strs_flat ys))))) (by rw [inV_strs, inV_strs]))
          (fun hb H6 e6 => s_ret ev_c fun H7 e7 => ?_) (fun hb H6 e6 => ⟨(e4.trans e5).trans e6, ⟨_, _, _, _, _, rfl⟩, ?_⟩)
        · have cb : closedT b ys t = false := by
            unfold closedT
            cases b with
            | true =>
              rw [if_pos rfl]
              rw [if_pos rfl, if_pos rfl] at hb
              rw [hb]
              rfl
            | false =>
              rw [if_neg (by decide)]
              rw [if_neg (by decide), if_neg (by decide)] at hb
              rw [hb]
              rfl
          have g' := g H7 (((e24.trans e5).trans e6).trans e7)
          rw [closed_bad hti cb, Bool.and_false] at g'
          show D.rt _ _
          rw [hD]
          exact g'
        · have hti2 : (ties ts)[i]? = some t := by
            rw [List.getElem?_map, hti]
            rfl
          have ct : closedT b ys t = true := by
            unfold closedT
            cases b with
            | true =>
              rw [if_pos rfl]
              rw [if_pos rfl, if_pos rfl] at hb
              rw [hb]
              rfl
            | false =>
              rw [if_neg (by decide)]
              rw [if_neg (by decide), if_neg (by decide)] at hb
              rw [hb]
              rfl
          rw [List.take_add_one, hti2, List.all_append, hall]
          show (true && [t].all (closedT b ys)) = true
          simp [ct]
      · rintro σ' H4 ⟨e4, ⟨v6, v7, v8, v9, v10, rfl⟩, hall⟩
        have e24 := e2.trans e4
        have hc : closed (ties ts) ys b = true := by
          rw [List.length_map] at hall
          have q := hall
          rw [List.take_of_length_le (by rw [List.length_map]; exact Nat.le_refl _)] at q
          exact q
        refine s_ret (ev_is (ev_op (ev_ixTS (es_at (ev_var rfl) (e4 _ _ hq)) ev_c rfl) (ev_var rfl) (rv_isL (ex_l e24 hs) rfl (strs_flat ys))) (w := .bl (decide (a ∈ ys))) (by rw [inV_strs])) fun H5 e5 => ?_
        have g' := g H5 (e24.trans e5)
        rw [hc, Bool.and_true] at g'
        show D.rt _ _
        rw [hD]
        exact g'
    cases kd with
    | all =>
      have hk2 : H2 q = some (.tup [.str "all"]) := hk2
      refine q_when (b := true) (et_is (et_test (ev_op (ev_ixTS (es_at (ev_var rfl) hk2) ev_c rfl) ev_c (rv_eq rfl))) (by decide +kernel)) (fun _ H3 e3 => ?_) (fun e => by cases e)
      refine s_ret (ev_is (ev_op (ev_len (ev_var rfl) (ex_l e3 hs2)) (ev_lenR (er_at (ev_var rfl) (e3 _ _ hp2))) (rv_eq rfl)) (w := .bl (decide (ys.length = zs.length))) (by rw [List.length_map, List.length_map, dec_len])) fun H4 e4 => ?_
      exact g H4 ((e2.trans e3).trans e4)
    | these ns =>
      obtain ⟨nq, hk2, hns⟩ := hk2
      refine q_when (b := false) (et_is (et_test (ev_op (ev_ixTS (es_at (ev_var rfl) hk2) ev_c rfl) ev_c (rv_eq rfl))) (by decide +kernel)) (fun e => by cases e) (fun _ H3 e3 => ?_)
      refine q_when (b := true) (et_is (et_test (ev_op (ev_ixTS (es_at (ev_var rfl) (e3 _ _ hk2)) ev_c rfl) ev_c (rv_eq rfl))) (by decide +kernel)) (fun _ H4 e4 => ?_) (fun e => by cases e)
      have e24 := e3.trans e4
      refine s_ret (ev_is (ev_opLL (el_is (el_lcR (xs := ns.map V.str) (fun i => !decide (strAt ns i ∈ ys)) (fun i => .str (strAt ns i)) (er_at (ev_ixTS (es_at (ev_var rfl) (e24 _ _ hk2)) ev_c rfl) (e24 _ _ hns)) (by rw [List.length_map]; have := hin.1; omega) (fun x => rfl)
          (fun i x H5 e5 hi => by
            obtain ⟨z, hz', rfl⟩ := strs_get hi
            exact et_is (et_test (ev_op (ev_var rfl) (ev_var rfl) (rv_niL (ex_l (e24.trans e5) hs2) rfl (strs_flat ys)))) (by rw [inV_strs, strAt_is hz']))
          (fun i x H5 e5 hi _ => by
            obtain ⟨z, hz', rfl⟩ := strs_get hi
            exact ev_is (ev_var rfl) (by rw [strAt_is hz'])))
          (given_strs ns (fun z => !decide (z ∈ ys)) _ _ (fun i z hi => by rw [strAt_is hi]) (fun i z hi => by rw [strAt_is hi]))) (el_lst ea_nil (by simp)) fun a b H5 ha hb e5 => rv_eqD (.lst (sq_of ha) (dpAll_strs _)) (dp_nil hb) ((fine_strs (n := 0) fun z hz' => hin.2 z (List.mem_filter.mp hz').1).shaped (by decide)) ((fine_nil (n := 0)).shaped (by decide)))
        (w := .bl (ns.all fun n => decide (n ∈ ys))) (by
          rw [eqv_nil]
          congr 1
          rw [Bool.eq_iff_iff]
          simp [List.filter_eq_nil_iff])) fun H5 e5 => ?_
      exact g H5 ((e2.trans e24).trans e5)
    | frm a =>
      have hk2 : H2 q = some (.tup [.str "from", .str a]) := hk2
      refine q_when (b := false) (et_is (et_test (ev_op (ev_ixTS (es_at (ev_var rfl) hk2) ev_c rfl) ev_c (rv_eq rfl))) (by decide +kernel)) (fun e => by cases e) (fun _ H3 e3 => ?_)
      refine q_when (b := false) (et_is (et_test (ev_op (ev_ixTS (es_at (ev_var rfl) (e3 _ _ hk2)) ev_c rfl) ev_c (rv_eq rfl))) (by decide +kernel)) (fun e => by cases e) (fun _ H4 e4 => ?_)
      exact far true a hk2 g (e3.trans e4) rfl
    | to a =>
      have hk2 : H2 q = some (.tup [.str "to", .str a]) := hk2
      refine q_when (b := false) (et_is (et_test (ev_op (ev_ixTS (es_at (ev_var rfl) hk2) ev_c rfl) ev_c (rv_eq rfl))) (by decide +kernel)) (fun e => by cases e) (fun _ H3 e3 => ?_)
      refine q_when (b := false) (et_is (et_test (ev_op (ev_ixTS (es_at (ev_var rfl) (e3 _ _ hk2)) ev_c rfl) ev_c (rv_eq rfl))) (by decide +kernel)) (fun e => by cases e) (fun _ H4 e4 => ?_)
      exact far false a hk2 g (e3.trans e4) rfl
theorem eqv_strs (a z : Str) : PyData.eqv (.str a) (.str z) = decide (a = z) := by
  unfold PyData.eqv
  by_cases e : a = z
  · rw [e]
    simp
  · rw [decide_eq_false e]
    simpa using e
theorem eqv_odd {a : Str} {d : PyData} (h : isStrD d = false) : PyData.eqv (.str a) d = false := by
  cases d with
  | str z => cases h
  | _ =>
    unfold PyData.eqv
    rfl
theorem find_filter {z : Str} {ts us : List (Addr × Tie)} (h : ts.filter (fun x => decide (x.2.nm = z)) = us) : findT (ties ts) z = us.head?.map (·.2) := by
  have e : findT (ties ts) z = (ts.find? fun x => decide (x.2.nm = z)).map (·.2) := by
    unfold findT
    rw [List.find?_map]
    rfl
  rw [e, ← h, List.head?_filter]
theorem ok_lend {f : Addr} {fd : FuncData} (F : Fun K "_law_end" "_law_end" s_Lend f fd) : FnOk P w K mg base CX0 1 f fd ["_law_ties", "_law_place", "_law_paper"] (spLEnd K) := by
  refine F.ok sc_Lend (fun vs H Q E h => ?_) (fun cdv A outer s H vs Q E hr h => ?_)
  · obtain ⟨tl, ts, z, q, xs, ds, rfl, _⟩ := h
    rfl
  · obtain ⟨tl, ts, a, r, xs, ds, rfl, ht, htok, ht10, hr', hall, hfine, g⟩ := h
    have nd := sc_Lend.nd
    refine ⟨_, (pss_cons (ps_set (i := 3) nd rfl (Or.inl rfl) (pv 1))
    (pss_cons (ps_for PassesOwn.never rfl (pi_list (pv 2)) (pg_name (i := 4) nd rfl (Or.inr rfl))
    (pss_cons (ps_setLc (i := 5) (own := [("_law_tie", 6)]) (by rfl) nd rfl rfl (sw_true rfl rfl rfl (by decide +kernel)) (pi_list (pv 0)) (blkOk_by (own := [("_law_tie", 6)]) (N := ["_law_ties", "_law_place", "_law_paper", "_law_here", "_law_one_here", "_law_along", "_law_tie"]) (sc := defScope s_Lend) (by decide +kernel)) (fun _ _ _ _ _ => by exact (pg_name (i := 6) nd rfl (Or.inl rfl))) (fun _ _ _ _ _ => by exact (pts_one (pt_cmpR (keqD K hr.units) (pe_ix (kixT K) (pv 6) pe_int (fun _ _ => rfl)) (pv 4) (nomark _)))) (fun _ _ _ _ _ => by exact (pv 6)))
    (pss_cons (ps_if (PW.pt (pw_or (pt_cmpR (op_eqD hr.units) (pv 5) (pe_lst pa_nil) (nomark _)) (pw_or1 (pt_cmpR op_ne (pe_ix ix_tup (pe_ix ix_list (pv 5) pe_int (fun _ _ => rfl)) pe_int (fun _ _ => rfl)) (pv 3) (nomark _))))) (pss_one (ps_ret pe_non)) pss_nil)
    (pss_one (ps_set (i := 3) nd rfl (Or.inl rfl) (pe_ix ix_tup (pe_ix ix_list (pv 5) pe_int (fun _ _ => rfl)) pe_int (fun _ _ => rfl)))))))
    (pss_one (ps_ret (pv 3))))), ?_⟩
    refine q_asg (ev_var rfl) fun H1 e1 => ?_
    refine q_forLn (a := r) (xs := xs) (ev_var rfl) (ex_l e1 hr') (fun i σ H' => Ex H H' ∧ ∃ here v4 v5 v6, σ = [some (.ref tl), some (.str a), some (.ref r), some (.str here), v4, v5, v6] ∧ goT (ties ts) a ds = goT (ties ts) here (ds.drop i))
      (fun H3 e3 => ⟨e1.trans e3, a, none, none, none, rfl, rfl⟩) (fun i σ' H' _ h => ex_l h.1 hr') ?_ ?_
    · rintro i x σ' H' hi ⟨e3, here, v4, v5, v6, rfl, hg⟩
      obtain ⟨di, hdi, hx⟩ := dpAll_get hall i x hi
      rw [drop_at hdi] at hg
      have hx3 := dp_mono e3 di x hx
      have hf3 : Fine 9 di := hfine.mem di (List.mem_of_getElem? hdi)
      have ht3 := ht.mono e3
      -- along
      refine q_asgL (el_is (el_lcR (xs := refs ts) (fun i => PyData.eqv (.str (refAt ts i).2.nm) di) (fun i => .ref (refAt ts i).1) (er_at (ev_var rfl) ht3.lst) (by rw [List.length_map]; omega) (fun x => rfl)
        (fun j y H4 e4 hj => by
          obtain ⟨pt, t, hti, rfl, hat⟩ := (ht3.mono e4).get hj
          have htm : t ∈ ties ts := List.mem_map.mpr ⟨_, List.mem_of_getElem? hti, rfl⟩
          exact et_is (et_test (ev_op (ev_ixTS (es_at (ev_var rfl) hat) ev_c rfl) (ev_var rfl) (rv_eqD (.str _) (dp_mono e4 di x hx3) ((fine_str (n := 0) (htok t htm).1).shaped (by decide)) (hf3.shaped (by decide))))) (by rw [refAt_is hti]))
        (fun j y H4 e4 hj _ => by
          obtain ⟨pt, t, hti, rfl, hat⟩ := (ht3.mono e4).get hj
          exact ev_is (ev_var rfl) (by rw [refAt_is hti]))) (given_refs ts (fun x => PyData.eqv (.str x.2.nm) di))) fun u H4 nu e4 hu => ?_
      have e34 := e3.trans e4
      generalize hus : ts.filter (fun x => PyData.eqv (.str x.2.nm) di) = us at hu
      have hum : ∀ y ∈ us, y ∈ ts := fun y hy => by
        rw [← hus] at hy
        exact (List.mem_filter.mp hy).1
      have huat : ∀ y ∈ us, TieAt H4 y.1 y.2 := fun y hy => e4 _ _ (ht3.each y (hum y hy))
      have huok : ∀ t ∈ ties us, TOk t := fun t htt => by
        obtain ⟨y, hy, rfl⟩ := List.mem_map.mp htt
        exact htok _ (List.mem_map.mpr ⟨y, hum y hy, rfl⟩)
      have nil : Ev (tOp (rEqD K) (tVar 5) (tLst tNil)) [some (.ref tl), some (.str a), some (.ref r), some (.str here), some x, some (.ref u), v6] H4 (.bl us.isEmpty) :=
        ev_is (ev_opL (ev_var rfl) (el_lst ea_nil (by simp)) fun n H5 hn e5 => rv_eqD (.lst (sq_of (e5 _ _ hu)) (dpAll_ties fun y hy => e5 _ _ (huat y hy))) (dp_nil hn) ((fine_ties (n := 0) huok).shaped (by decide)) ((fine_nil (n := 0)).shaped (by decide))) (by
          rw [eqv_nil]
          cases us <;> rfl)
      cases us with
      | nil =>
        refine q_when (b := true) (et_is (et_or (et_test nil) (b := true) (fun e => by cases e)) rfl) (fun _ H5 e5 => s_ret ev_c fun H6 e6 => ?_) (fun e => by cases e)
        have hnone : goT (ties ts) here (di :: ds.drop (i + 1)) = none := by
          cases hstr : isStrD di with
          | false => exact goT_odd hstr
          | true =>
            obtain ⟨z, rfl⟩ := ty_str hstr
            refine goT_none ?_
            rw [find_filter (us := []) (by
              rw [← hus]
              congr 1)]
            rfl
        have g' := g H6 ((e34.trans e5).trans e6)
        rw [hg, hnone] at g'
        exact g'
      | cons y us =>
        obtain ⟨pt, t⟩ := y
        have hat : TieAt H4 pt t := huat (pt, t) List.mem_cons_self
        have hstr : isStrD di = true := by
          cases hq : isStrD di with
          | true => rfl
          | false =>
            have q : (pt, t) ∈ ts.filter (fun x => PyData.eqv (.str x.2.nm) di) := by
              rw [hus]
              exact List.mem_cons_self
            have q2 := (List.mem_filter.mp q).2
            rw [eqv_odd hq] at q2
            cases q2
        obtain ⟨z, rfl⟩ := ty_str hstr
        have hfind : findT (ties ts) z = some t := by
          rw [find_filter (us := (pt, t) :: us) (by
            rw [← hus]
            congr 1)]
          rfl
        rw [goT_some hfind] at hg
        have first : ∀ {σ : L2.St} {H5 : Hp}, Ex H4 H5 → σ[5]? = some (some (.ref u)) → Ev (tOp (rIxL K) (tVar 5) (tC (.int 0))) σ H5 (.ref pt) := fun {σ H5} e5 hσ => ev_ixLR (er_at (ev_var hσ) (e5 _ _ hu)) ev_c (atI_nat (j := 0) rfl)
        refine q_when (b := !decide (V.str t.a = V.str here)) (et_is (et_or (et_test nil) (fun _ => et_test (ev_op (ev_ixTS (es_at (first (Ex.refl _) rfl) hat) ev_c rfl) (ev_var rfl) (rv_ne rfl)))) rfl) (fun hb H5 e5 => s_ret ev_c fun H6 e6 => ?_) (fun hb H5 e5 => ?_)
        · have ne : ¬ t.a = here := fun e => by simp [e] at hb
          rw [if_neg ne] at hg
          have g' := g H6 ((e34.trans e5).trans e6)
          rw [hg] at g'
          exact g'
        · have ee : t.a = here := by simpa using hb
          rw [if_pos ee] at hg
          exact s_asg (ev_ixTS (es_at (first e5 rfl) (e5 _ _ hat)) ev_c rfl) fun H6 e6 => ⟨(e34.trans e5).trans e6, t.b, _, _, _, rfl, hg⟩
    · rintro σ' H' ⟨e3, here, v4, v5, v6, rfl, hg⟩
      refine s_ret (ev_var rfl) fun H4 e4 => ?_
      have g' := g H4 (e3.trans e4)
      rw [hg, dpAll_len hall, List.drop_length] at g'
      exact g'
theorem ok_lmember {f : Addr} {fd : FuncData} (F : Fun K "_law_member" "_law_member" s_Lmember f fd) (C__law_end : Cl P w K mg base 1 "_law_end" ["_law_ties", "_law_place", "_law_paper"] (spLEnd K)) :
    FnOk P w K mg base CX0 2 f fd ["_law_places", "_law_ties", "_law_kind_here", "_law_place", "_law_paper"] (spLMember K) := by
  refine F.ok sc_Lmember (fun vs H Q E h => ?_) (fun cdv A outer s H vs Q E hr h => ?_)
  · obtain ⟨pl, tl, zs, ts, q, kd, z, r, xs, ds, rfl, _⟩ := h
    rfl
  · obtain ⟨pl, tl, zs, ts, q, kd, z, r, xs, ds, rfl, hp, ht, htok, ht10, hk1, hr', hall, hf, g⟩ := h
    have nd := sc_Lmember.nd
    refine ⟨_, (pss_cons (ps_if (pt_cmpR op_eq (pe_ix ix_tup (pv 2) pe_int (fun _ _ => rfl)) pe_str (nomark _)) (pss_one (ps_ret (pe_cmpR (op_eqD hr.units) (pv 4) (pe_lst pa_nil) (nomark _)))) pss_nil)
    (pss_cons (ps_if (pt_cmpR op_eq (pe_ix ix_tup (pv 2) pe_int (fun _ _ => rfl)) pe_str (nomark _)) (pss_one (ps_ret (pe_and (pe_cmpR (op_eqD hr.units) (pv 4) (pe_lst pa_nil) (nomark _)) (pe_one (pe_cmpR op_in_seq (pv 3) (pe_ix ix_tup (pv 2) pe_int (fun _ _ => rfl)) rfl))))) pss_nil)
    (pss_cons (ps_if (pt_cmpR op_eq (pe_ix ix_tup (pv 2) pe_int (fun _ _ => rfl)) pe_str (nomark _)) (pss_one (ps_ret (pe_cmpR op_eq (pe_def C__law_end hr (pa_cons (pv 1) (pa_cons (pe_ix ix_tup (pv 2) pe_int (fun _ _ => rfl)) (pa_cons (pv 4) pa_nil)))) (pv 3) (nomark _)))) pss_nil)
    (pss_one (ps_ret (pe_cmpR op_eq (pe_def C__law_end hr (pa_cons (pv 1) (pa_cons (pv 3) (pa_cons (pv 4) pa_nil)))) (pe_ix ix_tup (pv 2) pe_int (fun _ _ => rfl)) (nomark _))))))), ?_⟩
    have nil : ∀ H2, Ex H H2 → ∀ σ, σ[4]? = some (some (.ref r)) → Ev (tOp (rEqD K) (tVar 4) (tLst tNil)) σ H2 (.bl (isNil (.list ds))) := fun H2 e2 σ hσ =>
      ev_is (ev_opL (ev_var hσ) (el_lst ea_nil (by simp)) fun a H3 ha e3 => rv_eqD (.lst (ex_l (e2.trans e3) hr') (dp_monoAll (e2.trans e3) ds _ hall)) (dp_nil ha) (hf.shaped (by decide)) ((fine_nil (n := 0)).shaped (by decide))) (by rw [eqv_isNil])
    cases kd with
    | all =>
      have hk2 : H q = some (.tup [.str "all"]) := hk1
      refine q_when (b := true) (et_is (et_test (ev_op (ev_ixTS (es_at (ev_var rfl) hk2) ev_c rfl) ev_c (rv_eq rfl))) (by decide +kernel)) (fun _ H3 e3 => ?_) (fun e => by cases e)
      exact s_ret (nil H3 e3 _ rfl) fun H4 e4 => g H4 (e3.trans e4)
    | these ns =>
      obtain ⟨nq, hk2, hns⟩ := hk1
      refine q_when (b := false) (et_is (et_test (ev_op (ev_ixTS (es_at (ev_var rfl) hk2) ev_c rfl) ev_c (rv_eq rfl))) (by decide +kernel)) (fun e => by cases e) (fun _ H3 e3 => ?_)
      refine q_when (b := true) (et_is (et_test (ev_op (ev_ixTS (es_at (ev_var rfl) (e3 _ _ hk2)) ev_c rfl) ev_c (rv_eq rfl))) (by decide +kernel)) (fun _ H4 e4 => ?_) (fun e => by cases e)
      have e24 := e3.trans e4
      refine s_ret (ev_andV (a := isNil (.list ds)) (b := decide (z ∈ ns)) (nil H4 e24 _ rfl) (fun _ => ev_is (ev_inR (ev_var rfl) (er_at (ev_ixTS (es_at (ev_var rfl) (e24 _ _ hk2)) ev_c rfl) (e24 _ _ hns)) rfl (strs_flat ns)) (by rw [inV_strs]))) fun H5 e5 => ?_
      exact g H5 (e24.trans e5)
    | frm a =>
      have hk2 : H q = some (.tup [.str "from", .str a]) := hk1
      refine q_when (b := false) (et_is (et_test (ev_op (ev_ixTS (es_at (ev_var rfl) hk2) ev_c rfl) ev_c (rv_eq rfl))) (by decide +kernel)) (fun e => by cases e) (fun _ H3 e3 => ?_)
      refine q_when (b := false) (et_is (et_test (ev_op (ev_ixTS (es_at (ev_var rfl) (e3 _ _ hk2)) ev_c rfl) ev_c (rv_eq rfl))) (by decide +kernel)) (fun e => by cases e) (fun _ H4 e4 => ?_)
      have e24 := e3.trans e4
      refine q_when (b := true) (et_is (et_test (ev_op (ev_ixTS (es_at (ev_var rfl) (e24 _ _ hk2)) ev_c rfl) ev_c (rv_eq rfl))) (by decide +kernel)) (fun _ H5 e5 => ?_) (fun e => by cases e)
      have e25 := e24.trans e5
      refine s_ret (ev_is (ev_op (ev_call (vs := [.ref tl, .str a, .ref r]) (ea_cons (ev_var rfl) (ea_cons (ev_ixTS (es_at (ev_var rfl) (e25 _ _ hk2)) ev_c rfl) (ea_cons (ev_var rfl) ea_nil)))
        fun H6 e6 Q' q' E' => ⟨tl, ts, a, r, xs, ds, rfl, ht.mono (e25.trans e6), htok, ht10, ex_l (e25.trans e6) hr', dp_monoAll (e25.trans e6) ds _ hall, hf, q'⟩) (ev_var rfl) (rv_eq (scal_opt _ _))) (by rw [optV_eq])) fun H6 e6 => ?_
      exact g H6 (e25.trans e6)
    | to a =>
      have hk2 : H q = some (.tup [.str "to", .str a]) := hk1
      refine q_when (b := false) (et_is (et_test (ev_op (ev_ixTS (es_at (ev_var rfl) hk2) ev_c rfl) ev_c (rv_eq rfl))) (by decide +kernel)) (fun e => by cases e) (fun _ H3 e3 => ?_)
      refine q_when (b := false) (et_is (et_test (ev_op (ev_ixTS (es_at (ev_var rfl) (e3 _ _ hk2)) ev_c rfl) ev_c (rv_eq rfl))) (by decide +kernel)) (fun e => by cases e) (fun _ H4 e4 => ?_)
      have e24 := e3.trans e4
      refine q_when (b := false) (et_is (et_test (ev_op (ev_ixTS (es_at (ev_var rfl) (e24 _ _ hk2)) ev_c rfl) ev_c (rv_eq rfl))) (by decide +kernel)) (fun e => by cases e) (fun _ H5 e5 => ?_)
      have e25 := e24.trans e5
      refine s_ret (ev_is (ev_op (ev_call (vs := [.ref tl, .str z, .ref r]) (ea_cons (ev_var rfl) (ea_cons (ev_var rfl) (ea_cons (ev_var rfl) ea_nil)))
        fun H6 e6 Q' q' E' => ⟨tl, ts, z, r, xs, ds, rfl, ht.mono (e25.trans e6), htok, ht10, ex_l (e25.trans e6) hr', dp_monoAll (e25.trans e6) ds _ hall, hf, q'⟩) (ev_ixTS (es_at (ev_var rfl) (e25 _ _ hk2)) ev_c rfl) (rv_eq (scal_opt _ _))) (by rw [optV_eq])) fun H6 e6 => ?_
      exact g H6 (e25.trans e6)
end
end Nc
/-! Part J: the law's papers: _law_steps, _law_listed. -/
namespace Nc
open PySem L2 Evl
abbrev s_Lsteps : Stmt := top 32
theorem sc_Lsteps : FnScope ["_law_cell", "_law_place", "_law_ties", "_law_found", "_law_here", "_law_k", "_law_ways", "_law_tie", "_law_way", "_law_at"] ["_law_cell", "_law_place", "_law_ties"] (defScope s_Lsteps) := ⟨rfl, rfl, rfl, by decide +kernel, rfl, by decide +kernel, by decide +kernel⟩
abbrev s_Llisted : Stmt := top 31
theorem sc_Llisted : FnScope ["_law_cell", "_law_places", "_law_ties", "_law_kind_here", "_law_found", "_law_time", "_law_name_here", "_law_a", "_law_b", "_law_width", "_law_cost", "_law_way", "_law_at", "_law_k", "_law_place", "_law_one_here"] ["_law_cell", "_law_places", "_law_ties", "_law_kind_here"] (defScope s_Llisted) := ⟨rfl, rfl, rfl, by decide +kernel, rfl, by decide +kernel, by decide +kernel⟩
section
variable {K : PySem.W.Frag} {σ : L2.St} {H H' : Hp} {ta tb te ti : TE} {t : TT} {v x y : V} {D : Ends} {tu tz : TS}
/-- some datum | some list of data, of so many at most | some data -/
def EvD (K : PySem.W.Frag) (m : Nat) (te : TE) (σ : L2.St) (H : Hp) : Prop := EvP te σ H fun _ v H2 => ∃ d, Dp K H2 v d ∧ Fine m d
def EvQ (K : PySem.W.Frag) (m n : Nat) (te : TE) (σ : L2.St) (H : Hp) : Prop := EvP te σ H fun _ v H2 => ∃ p xs ds, v = .ref p ∧ H2 p = some (.lst xs) ∧ DpAll K H2 xs ds ∧ (∀ d ∈ ds, Fine m d) ∧ xs.length ≤ n
def EvAs (K : PySem.W.Frag) (m n : Nat) (ta : TA) (σ : L2.St) (H : Hp) : Prop := ∀ H1, Ex H H1 → ∀ Q : List V → Hp → Prop, (∀ vs H2 ds, Ex H1 H2 → DpAll K H2 vs ds → (∀ d ∈ ds, Fine m d) → vs.length = n → Q vs H2) → ta σ H1 Q
theorem s_retP {P : Hp → V → Hp → Prop} (h : EvP te σ H P) (k : ∀ v H1, Ex H H1 → P H v H1 → D.rt v H1) : tRet te D σ H := h H (Ex.refl H) _ k
theorem s_retD {m : Nat} (h : EvD K m te σ H) (k : ∀ v d H1, Ex H H1 → Dp K H1 v d → Fine m d → D.rt v H1) : tRet te D σ H := h H (Ex.refl H) _ fun v H1 e ⟨d, h1, h2⟩ => k v d H1 e h1 h2
theorem ed_of {m : Nat} {d : PyData} (h : Ev te σ H v) (hd : Dp K H v d) (hf : Fine m d) : EvD K m te σ H := fun H1 e Q q => h H1 e Q fun H2 e2 => q v H2 e2 ⟨d, dp_mono (e.trans e2) d v hd, hf⟩
theorem ed_str {m : Nat} {z : Str} (h : Ev te σ H (.str z)) (hz : sOk z) : EvD K m te σ H := ed_of h (.str z) (fine_str hz)
theorem ed_int {m : Nat} {i : Int} (h : Ev te σ H (.int i)) : EvD K m te σ H := ed_of h (.int i) fine_int
theorem ed_list {m n : Nat} (h : EvQ K m n te σ H) : EvD K (m + 1) te σ H := fun H1 e Q q => h H1 e Q fun v H2 e2 ⟨p, xs, ds, e3, h1, h2, h3, _⟩ => q v H2 e2 (by
  subst e3
  exact ⟨.list ds, .lst (sq_of h1) h2, fine_list h3⟩)
theorem eas_nil {m : Nat} : EvAs K m 0 tNil σ H := fun H1 e Q q => q [] H1 [] (Ex.refl H1) .nil (fun d hd => by cases hd) rfl
theorem eas_cons {m n : Nat} {tr : TA} (h : EvD K m te σ H) (hr : EvAs K m n tr σ H) : EvAs K m (n + 1) (tCons te tr) σ H := fun H1 e Q q =>
  h H1 e _ fun v H2 e2 ⟨d, hd, hf⟩ => hr H2 (e.trans e2) _ fun vs H3 ds e3 hds hfs hl => q (v :: vs) H3 (d :: ds) (e2.trans e3) (.cons (dp_mono e3 d v hd) hds) (fun x hx => by
    rcases List.mem_cons.mp hx with hx | hx
    · rw [hx]
      exact hf
    · exact hfs x hx) (by rw [List.length_cons, hl])
theorem eq_lst {m n : Nat} {tA : TA} (h : EvAs K m n tA σ H) (hn : n ≤ 100000) : EvQ K m n (tLst tA) σ H := fun H1 e Q q =>
  h H1 e _ fun vs H2 ds e2 hds hfs hl => ⟨sz_of (by omega), fun p hp => q (.ref p) _ (e2.trans (Ex.new hp)) ⟨p, vs, ds, rfl, upd_same, dp_monoAll (Ex.new hp) ds vs hds, hfs, by omega⟩⟩
theorem eq_cat {m n1 n2 : Nat} (ha : EvQ K m n1 ta σ H) (hb : EvQ K m n2 tb σ H) (hn : n1 + n2 ≤ 100000) : EvQ K m (n1 + n2) (tOp rCat ta tb) σ H := fun H1 e Q q =>
  ha H1 e _ fun v H2 e2 ⟨p, xs, ds, ev, h1, h2, h3, h4⟩ => hb H2 (e.trans e2) _ fun w H3 e3 ⟨p', xs', ds', ew, h1', h2', h3', h4'⟩ => ⟨p, p', xs, xs', ev, ew, e3 _ _ h1, h1', sz_of (by omega), fun r hr =>
    q (.ref r) _ ((e2.trans e3).trans (Ex.new hr)) ⟨r, xs ++ xs', ds ++ ds', rfl, upd_same, dpAll_app (dp_monoAll (e3.trans (Ex.new hr)) ds xs h2) (dp_monoAll (Ex.new hr) ds' xs' h2'), (fun d hd => by
      rcases List.mem_append.mp hd with hd | hd
      · exact h3 d hd
      · exact h3' d hd), by rw [List.length_append]; omega⟩⟩
theorem eq_strs {m : Nat} {zs : List Str} (h : EvR te σ H (zs.map V.str)) (hz : ∀ z ∈ zs, sOk z) : EvQ K m zs.length te σ H := fun H1 e Q q =>
  h H1 e Q fun p H2 e2 hp => q (.ref p) H2 e2 ⟨p, _, _, rfl, hp, dpAll_strs zs, (fun d hd => by
    obtain ⟨z, hz', rfl⟩ := List.mem_map.mp hd
    exact fine_str (hz z hz')), by rw [List.length_map]; exact Nat.le_refl _⟩
theorem EvQ.le {m n n' : Nat} (h : EvQ K m n te σ H) (hn : n ≤ n') : EvQ K m n' te σ H := fun H1 e Q q => h H1 e Q fun v H2 e2 ⟨p, xs, ds, e3, h1, h2, h3, h4⟩ => q v H2 e2 ⟨p, xs, ds, e3, h1, h2, h3, by omega⟩
theorem eq_sl {m : Nat} {tl th : TO} {zs : List Str} {lo hi : Option Int} (h : EvR te σ H (zs.map V.str)) (hz : ∀ z ∈ zs, sOk z) (h1 : EvO tl σ H lo) (h2 : EvO th σ H hi) : EvQ K m zs.length (tSl (rSlL K) te tl th) σ H := by
  obtain ⟨ms, e1, _, e3, e4⟩ := cutV_map V.str zs lo hi
  exact (eq_strs (zs := ms) (er_new (el_is (el_slR h h1 h2) e1)) fun z hz' => hz z (e4 z hz')).le e3
/-- an item of a list just made -/
theorem ed_pick {m n : Nat} {i : Int} {tA : TA} (h : EvAs K m n tA σ H) (hn : n ≤ 100000) (hi : Ev ti σ H (.int i)) (h0 : 0 ≤ i) (h1 : i < (n : Int)) : EvD K m (tOp (rIxL K) (tLst tA) ti) σ H := fun H1 e Q q =>
  h H1 e _ fun vs H2 ds e2 hds hfs hl => ⟨sz_of (by omega), fun p hp => hi _ ((e.trans e2).trans (Ex.new hp)) _ fun H3 e3 => by
    have hlt : i.toNat < vs.length := by omega
    have hv : vs[i.toNat]? = some vs[i.toNat] := List.getElem?_eq_getElem hlt
    obtain ⟨d, hd, hdp⟩ := dpAll_get hds i.toNat _ hv
    have e23 := (Ex.new hp).trans e3
    have ei : i = ((i.toNat : Nat) : Int) := by omega
    exact ⟨p, vs, i, vs[i.toNat], rfl, rfl, sq_of (e3 _ _ upd_same), at_of ei hv, q _ H3 (e2.trans e23) ⟨d, dp_mono e23 d _ hdp, hfs d (List.mem_of_getElem? hd)⟩⟩⟩
theorem q_ifApp {b : Bool} {l : Addr} {xs : List V} (h : EvT t σ H b) (hl : H l = some (.lst xs)) (ha : Ev ta σ H (.ref l)) (he : Ev te σ H v) (hz : xs.length < 100000) (k : ∀ H1 ys, ys = xs ∨ ys = xs ++ [v] → H1 l = some (.lst ys) → (∀ c o, H c = some o → c ≠ l → H1 c = some o) → tz D σ H1) :
    tSeq (tIfS t (tDrop (tBM K "list" rAppend ta (tCons te tNil))) tNext) tz D σ H :=
  q_when h (fun _ H1 e1 => s_app (e1 _ _ hl) (ha.mono e1) (he.mono e1) hz fun H2 e2 => k _ _ (.inr rfl) upd_same fun c o hc nc => by
    rw [upd_ne nc]
    exact (e1.trans e2) _ _ hc) (fun _ H1 e1 => k H1 xs (.inl rfl) (e1 _ _ hl) fun c o hc _ => e1 _ _ hc)
theorem s_ifApp {b : Bool} {l : Addr} {xs : List V} (h : EvT t σ H b) (hl : H l = some (.lst xs)) (ha : Ev ta σ H (.ref l)) (he : Ev te σ H v) (hz : xs.length < 100000) (k : ∀ H1 ys, ys = xs ∨ ys = xs ++ [v] → H1 l = some (.lst ys) → (∀ c o, H c = some o → c ≠ l → H1 c = some o) → D.nx σ H1) :
    tIfS t (tDrop (tBM K "list" rAppend ta (tCons te tNil))) tNext D σ H :=
  s_when h (fun _ H1 e1 => s_app (e1 _ _ hl) (ha.mono e1) (he.mono e1) hz fun H2 e2 => k _ _ (.inr rfl) upd_same fun c o hc nc => by
    rw [upd_ne nc]
    exact (e1.trans e2) _ _ hc) (fun _ H1 e1 => k H1 xs (.inl rfl) (e1 _ _ hl) fun c o hc _ => e1 _ _ hc)
end
theorem sOk_lit {z : Str} (h : PyData.strOk z = true) : sOk z := h
section
variable {P : Program} {w : World} {K : PySem.W.Frag} {mg : Str → Option Value} {base : Heap} {C : Addr}
theorem ok_steps {f : Addr} {fd : FuncData} (F : Fun K "_law_steps" "_law_steps" s_Lsteps f fd) (B : Blt mg) : FnOk P w K mg base CX0 1 f fd ["_law_cell", "_law_place", "_law_ties"] (spSteps K) := by
  refine F.ok sc_Lsteps (fun vs H Q E h => ?_) (fun cdv A outer s H vs Q E hr h => ?_)
  · obtain ⟨c, z, tl, ts, rfl, _⟩ := h
    rfl
  · obtain ⟨c, a0, tl, ts, rfl, ht, htok, ht10, g⟩ := h
    have nd := sc_Lsteps.nd
    refine ⟨_, (pss_cons (ps_set (i := 3) nd rfl (Or.inl rfl) (pe_lst pa_nil))
    (pss_cons (ps_set (i := 4) nd rfl (Or.inr rfl) (pv 1))
    (pss_cons (ps_for PassesOwn.never rfl (pi_range1 (by rfl) B.range (pa_cons (pe_op op_mod (pv 0) pe_int) pa_nil)) (pg_name (i := 5) nd rfl (Or.inl rfl))
    (pss_cons (ps_setLc (i := 6) (own := [("_law_tie", 7)]) (by rfl) nd rfl rfl (sw_true rfl rfl rfl (by decide +kernel)) (pi_list (pv 2)) (blkOk_by (own := [("_law_tie", 7)]) (N := ["_law_cell", "_law_place", "_law_ties", "_law_found", "_law_here", "_law_k", "_law_ways", "_law_tie", "_law_way", "_law_at"]) (sc := defScope s_Lsteps) (by decide +kernel)) (fun _ _ _ _ _ => by exact (pg_name (i := 7) nd rfl (Or.inl rfl))) (fun _ _ _ _ _ => by exact (pts_one (pt_cmpR op_eq (pe_ix (kixT K) (pv 7) pe_int (fun _ _ => rfl)) (pv 4) (nomark _)))) (fun _ _ _ _ _ => by exact (pv 7)))
    (pss_one (ps_if (pt_cmpR (op_neD hr.units) (pv 6) (pe_lst pa_nil) (nomark _)) (pss_cons (ps_set (i := 7) nd rfl (Or.inl rfl) (pe_ix ix_list (pv 6) (pe_op op_mod (pe_op op_fdiv (pv 0) (pe_op op_add pe_int (pv 5))) (pe_callB call_len_seq (by rfl) B.len PySem.boot_len (pa_cons (pv 6) pa_nil))) (fun _ _ => rfl)))
    (pss_cons (ps_expr (pe_bm PySem.F.plainAttrs_list PySem.F.slot_list_append PySem.F.type_list_append mt_append (pv 3) (pa_cons (pe_ix ix_tup (pv 7) pe_int (fun _ _ => rfl)) pa_nil)))
    (pss_one (ps_set (i := 4) nd rfl (Or.inr rfl) (pe_ix ix_tup (pv 7) pe_int (fun _ _ => rfl)))))) pss_nil))))
    (pss_cons (ps_set (i := 8) nd rfl (Or.inl rfl) (pe_op op_mod (pe_op op_fdiv (pv 0) pe_int) pe_int))
    (pss_cons (ps_set (i := 9) nd rfl (Or.inl rfl) (pe_op op_mod (pe_op op_fdiv (pv 0) pe_int) (pe_op op_add (pe_callB call_len_seq (by rfl) B.len PySem.boot_len (pa_cons (pv 3) pa_nil)) pe_int)))
    (pss_cons (ps_if (pt_cmpR op_eq (pv 8) pe_int (nomark _)) (pss_one (ps_ret (pe_op op_cat (pe_slice sl_list (pv 3) po_none (po_some (pv 9))) (pe_slice sl_list (pv 3) (po_some (pe_op op_add (pv 9) pe_int)) po_none)))) pss_nil)
    (pss_cons (ps_if (pt_cmpR op_eq (pv 8) pe_int (nomark _)) (pss_one (ps_ret (pe_op op_cat (pe_op op_cat (pe_slice sl_list (pv 3) po_none (po_some (pv 9))) (pe_slice sl_list (pv 3) po_none (po_some pe_int))) (pe_slice sl_list (pv 3) (po_some (pv 9)) po_none)))) pss_nil)
    (pss_cons (ps_if (PW.pt (pw_and (pt_cmpR op_eq (pv 8) pe_int (nomark _)) (pw_and1 (pt_cmpR (op_neD hr.units) (pv 2) (pe_lst pa_nil) (nomark _))))) (pss_one (ps_ret (pe_op op_cat (pe_op op_cat (pe_slice sl_list (pv 3) po_none (po_some (pv 9))) (pe_lst (pa_cons (pe_ix ix_tup (pe_ix ix_list (pv 2) (pe_op op_mod (pe_op op_fdiv (pv 0) pe_int) (pe_callB call_len_seq (by rfl) B.len PySem.boot_len (pa_cons (pv 2) pa_nil))) (fun _ _ => rfl)) pe_int (fun _ _ => rfl)) pa_nil))) (pe_slice sl_list (pv 3) (po_some (pe_op op_add (pv 9) pe_int)) po_none)))) pss_nil)
    (pss_cons (ps_if (pt_cmpR op_eq (pv 8) pe_int (nomark _)) (pss_one (ps_ret (pe_op op_cat (pe_op op_cat (pe_slice sl_list (pv 3) po_none (po_some (pv 9))) (pe_lst (pa_cons (pe_ix ix_list (pe_lst (pa_cons pe_str (pa_cons pe_int (pa_cons (pe_lst pa_nil) pa_nil)))) (pe_op op_mod (pe_op op_fdiv (pv 0) pe_int) pe_int) (fun _ _ => rfl)) pa_nil))) (pe_slice sl_list (pv 3) (po_some (pv 9)) po_none)))) pss_nil)
    (pss_one (ps_ret (pv 3)))))))))))), ?_⟩
    have m0 : 0 ≤ c % 5 := Int.emod_nonneg _ (by decide)
    have m1 : c % 5 < 5 := Int.emod_lt_of_pos _ (by decide)
    refine q_asgL (xs := []) (el_lst ea_nil (by simp)) fun fl H1 nfl e1 hfl => ?_
    refine q_asg (ev_var rfl) fun H2 e2 => ?_
    refine q_forR1 (n := c % 5) (ea_cons (ev_op (ev_var rfl) ev_c (rv_I (by decide))) ea_nil) (by omega) (fun i σ H' => Ex H H' ∧ ∃ fs here v5 v6 v7, σ = [some (.int c), some (.str a0), some (.ref tl), some (.ref fl), some (.str here), v5, v6, v7, none, none] ∧ StrsAt H' fl fs ∧ (∀ z ∈ fs, sOk z) ∧ fs.length ≤ i)
      (fun H3 e3 => ⟨(e1.trans e2).trans e3, [], a0, none, none, none, rfl, e3 _ _ (e2 _ _ hfl), (fun z hz => by cases hz), Nat.le_refl _⟩) ?_ ?_
    · rintro i σ' H3 hi ⟨e3, fs, here, v5, v6, v7, rfl, hf3, hfok, hfl3⟩
      have ht3 := ht.mono e3
      refine q_asgL (el_is (el_lcR (xs := refs ts) (fun i => decide (V.str (refAt ts i).2.a = V.str here)) (fun i => .ref (refAt ts i).1) (er_at (ev_var rfl) ht3.lst) (by rw [List.length_map]; omega) (fun x => rfl)
        (fun j y H4 e4 hj => by
          obtain ⟨pt, t, hti, rfl, hat⟩ := (ht3.mono e4).get hj
          exact et_is (et_test (ev_op (ev_ixTS (es_at (ev_var rfl) hat) ev_c rfl) (ev_var rfl) (rv_eq rfl))) (by rw [refAt_is hti]))
        (fun j y H4 e4 hj _ => by
          obtain ⟨pt, t, hti, rfl, hat⟩ := (ht3.mono e4).get hj
          exact ev_is (ev_var rfl) (by rw [refAt_is hti]))) (given_refs ts (fun x => decide (V.str x.2.a = V.str here)))) fun u H4 nu e4 hu => ?_
      have e34 := e3.trans e4
      generalize hus : ts.filter (fun x => decide (V.str x.2.a = V.str here)) = us at hu
      have hum : ∀ y ∈ us, y ∈ ts := fun y hy => by
        rw [← hus] at hy
        exact (List.mem_filter.mp hy).1
      have huat : ∀ y ∈ us, TieAt H4 y.1 y.2 := fun y hy => e4 _ _ (ht3.each y (hum y hy))
      have huok : ∀ t ∈ ties us, TOk t := fun t htt => by
        obtain ⟨y, hy, rfl⟩ := List.mem_map.mp htt
        exact htok _ (List.mem_map.mpr ⟨y, hum y hy, rfl⟩)
      refine s_when (b := !us.isEmpty) (et_is (et_test (ev_opL (ev_var rfl) (el_lst ea_nil (by simp)) fun n H5 hn e5 => rv_neD (.lst (sq_of (e5 _ _ hu)) (dpAll_ties fun y hy => e5 _ _ (huat y hy))) (dp_nil hn) ((fine_ties (n := 0) huok).shaped (by decide)) ((fine_nil (n := 0)).shaped (by decide)))) (by
          rw [eqv_nil]
          cases us <;> rfl)) (fun hb H5 e5 => ?_) (fun hb H5 e5 => ⟨e34.trans e5, fs, here, _, _, _, rfl, e5 _ _ (e4 _ _ hf3), hfok, by omega⟩)
      have hul : 1 ≤ us.length := by
        cases us with
        | nil => cases hb
        | cons y us => simp
      obtain ⟨j, y, hj, hj', hy, hym⟩ := mod_at (zs := us) (c / (5 + (i : Int))) hul
      have hat : TieAt H5 y.1 y.2 := e5 _ _ (huat y hym)
      have hu5 : H5 u = some (.lst (refs us)) := e5 _ _ hu
      refine q_asg (v := .ref y.1) (ev_op (ev_var rfl) (ev_is (ev_op (ev_op (ev_var rfl) (ev_op ev_c (ev_var rfl) rv_I0) (rv_I ⟨by omega, by omega⟩)) (ev_lenR (er_at (ev_var rfl) hu5)) (rv_I (by rw [List.length_map]; omega))) (by rw [List.length_map, hj])) (rv_ixL (sq_of hu5) (atI_nat (by
        rw [List.getElem?_map, hy]
        rfl)))) fun H6 e6 => ?_
      have hf6 : StrsAt H6 fl fs := e6 _ _ (e5 _ _ (e4 _ _ hf3))
      refine q_app hf6 (ev_var rfl) (ev_ixTS (es_at (ev_var rfl) (e6 _ _ hat)) ev_c rfl) (by rw [List.length_map]; omega) fun H7 e7 => ?_
      have nyf : y.1 ≠ fl := ne_of (e7 _ _ (e6 _ _ hat)) (e7 _ _ hf6) (by intro z; cases z)
      refine s_asg (v := .str y.2.b) (ev_ixTS (es_at (ev_var rfl) (by rw [upd_ne nyf]; exact e7 _ _ (e6 _ _ hat))) ev_c rfl) fun H8 e8 => ⟨?_, fs ++ [y.2.nm], y.2.b, _, _, _, rfl, ?_, fun z hz => ?_, by rw [List.length_append]; exact Nat.succ_le_succ hfl3⟩
      · exact (Ex.mut (e34.trans (e5.trans (e6.trans e7))) nfl).trans e8
      · refine e8 _ _ ?_
        rw [upd_same, List.map_append]
        rfl
      · rcases List.mem_append.mp hz with hz | hz
        · exact hfok z hz
        · rw [List.mem_singleton.mp hz]
          exact (htok y.2 (List.mem_map.mpr ⟨y, hum y hym, rfl⟩)).1
    rintro σ' H3 ⟨e3, fs, here, v5, v6, v7, rfl, hf3, hfok, hfl3⟩
    have fin : ∀ {te : TE} {D : Ends} {σ : L2.St} {H4 : Hp} {n : Nat}, Ex H H4 → EvQ K 9 n te σ H4 → D.rt = Q → tRet te D σ H4 := fun {te D σ H4 n} e4 h hD => s_retP h fun v H5 e5 ⟨p, xs, ds, ev, h1, h2, h3, h4⟩ => by
      subst ev
      rw [hD]
      exact g p xs ds H5 (e4.trans e5) h1 h2 (fine_list h3)
    refine q_asg (ev_op (ev_op (ev_var rfl) ev_c (rv_I ⟨by decide, by decide⟩)) ev_c (rv_I (by decide))) fun H4 e4 => ?_
    refine q_asg (ev_op (ev_op (ev_var rfl) ev_c (rv_I ⟨by decide, by decide⟩)) (ev_op (ev_lenR (er_at (ev_var rfl) (e4 _ _ hf3))) ev_c rv_I0) (rv_I (by omega))) fun H5 e5 => ?_
    have e35 := e4.trans e5
    have sl : ∀ {σ : L2.St} {H6 : Hp} {tl th : TO} {lo hi : Option Int}, Ex H5 H6 → σ[3]? = some (some (.ref fl)) → EvO tl σ H6 lo → EvO th σ H6 hi → EvQ K 9 fs.length (tSl (rSlL K) (tVar 3) tl th) σ H6 := fun {σ H6 tl th lo hi} e6 hσ h1 h2 => eq_sl (er_at (ev_var hσ) (e6 _ _ (e35 _ _ hf3))) hfok h1 h2
    refine q_when (et_test (ev_op (ev_var rfl) ev_c (rv_eq rfl))) (fun _ H6 e6 => fin ((e3.trans e35).trans e6) (eq_cat (sl e6 rfl eo_none (eo_some (ev_var rfl))) (sl e6 rfl (eo_some (ev_op (ev_var rfl) ev_c rv_I0)) eo_none) (by omega)) rfl) (fun _ H6 e6 => ?_)
    refine q_when (et_test (ev_op (ev_var rfl) ev_c (rv_eq rfl))) (fun _ H7 e7 => fin ((e3.trans e35).trans (e6.trans e7)) (eq_cat (eq_cat (sl (e6.trans e7) rfl eo_none (eo_some (ev_var rfl))) (sl (e6.trans e7) rfl eo_none (eo_some ev_c)) (by omega)) (sl (e6.trans e7) rfl (eo_some (ev_var rfl)) eo_none) (by omega)) rfl) (fun _ H7 e7 => ?_)
    have e67 := e6.trans e7
    have ht7 := ht.mono ((e3.trans e35).trans e67)
    refine q_when (b := decide (V.int (c / 5 % 7) = V.int 3) && !ts.isEmpty) (et_is (et_and (et_test (ev_op (ev_var rfl) ev_c (rv_eq rfl))) (fun _ => et_test (ev_opL (ev_var rfl) (el_lst ea_nil (by simp)) fun n H8 hn e8 => rv_neD (.lst (sq_of (e8 _ _ ht7.lst)) (dpAll_ties fun y hy => e8 _ _ (ht7.each y hy))) (dp_nil hn) ((fine_ties (n := 0) htok).shaped (by decide)) ((fine_nil (n := 0)).shaped (by decide))))) (by
        rw [eqv_nil]
        cases ts <;> rfl)) (fun hb H8 e8 => ?_) (fun _ H8 e8 => ?_)
    · have htl : 1 ≤ ts.length := by
        have q := (Bool.and_eq_true_iff.mp hb).2
        cases ts with
        | nil => cases q
        | cons y ts => simp
      obtain ⟨j, y, hj, hj', hy, hym⟩ := mod_at (zs := ts) (c / 7) htl
      have ht8 := ht7.mono e8
      have e58 := e67.trans e8
      exact fin ((e3.trans e35).trans e58) (eq_cat (eq_cat (sl e58 rfl eo_none (eo_some (ev_var rfl))) (eq_lst (eas_cons (ed_str (ev_ixTS (es_at (ev_op (ev_var rfl) (ev_is (ev_op (ev_op (ev_var rfl) ev_c (rv_I ⟨by decide, by decide⟩)) (ev_lenR (er_at (ev_var rfl) ht8.lst)) (rv_I (by rw [List.length_map]; omega))) (by rw [List.length_map, hj]))
        (rv_ixL (v := .ref y.1) (sq_of ht8.lst) (atI_nat (by
          rw [List.getElem?_map, hy]
          rfl)))) (ht8.each y hym)) ev_c rfl) (htok y.2 (List.mem_map.mpr ⟨y, hym, rfl⟩)).1) eas_nil) (by decide)) (by omega)) (sl e58 rfl (eo_some (ev_op (ev_var rfl) ev_c rv_I0)) eo_none) (by omega)) rfl
    refine q_when (et_test (ev_op (ev_var rfl) ev_c (rv_eq rfl))) (fun _ H9 e9 => ?_) (fun _ H9 e9 => ?_)
    · have e59 := (e67.trans e8).trans e9
      have q0 : 0 ≤ c / 7 % 3 := Int.emod_nonneg _ (by decide)
      have q1 : c / 7 % 3 < 3 := Int.emod_lt_of_pos _ (by decide)
      exact fin ((e3.trans e35).trans e59) (eq_cat (eq_cat (sl e59 rfl eo_none (eo_some (ev_var rfl))) (eq_lst (eas_cons (ed_pick (n := 3) (eas_cons (ed_str ev_c (sOk_lit (by decide +kernel))) (eas_cons (ed_int ev_c) (eas_cons (ed_list (m := 8) (eq_lst eas_nil (by decide))) eas_nil))) (by decide)
        (ev_op (ev_op (ev_var rfl) ev_c (rv_I ⟨by decide, by decide⟩)) ev_c (rv_I (by decide))) q0 q1) eas_nil) (by decide)) (by omega)) (sl e59 rfl (eo_some (ev_var rfl)) eo_none) (by omega)) rfl
    · have e59 := (e67.trans e8).trans e9
      exact fin ((e3.trans e35).trans e59) (eq_strs (zs := fs) (er_at (ev_var rfl) (e59 _ _ (e35 _ _ hf3))) hfok) rfl
/-- the word of a set -/
def kdW : Kd → Str
  | .all => "all"
  | .frm _ => "from"
  | .to _ => "to"
  | .these _ => "these"
/-- a set's tuple: its word ahead; what stands behind it, and which of that are texts that fs lacks -/
theorem kd_tail {K : PySem.W.Frag} {H : Hp} {q : Addr} {kd : Kd} {zs : List Str} (fs : List Str) (hk : KdAt H q kd) (hin : KdIn zs kd) (hz : ∀ z ∈ zs, sOk z) : ∃ (us : List V) (f : Nat → Bool) (v : Nat → V) (ms : List Str), H q = some (.tup (.str (kdW kd) :: us)) ∧
    cutV (.str (kdW kd) :: us) (some 1) (some 2) = us ∧ us.length ≤ 1 ∧ given us.length f v = ms.map V.str ∧ ms.length ≤ 1 ∧ (∀ m ∈ ms, sOk m) ∧ ∀ i x, us[i]? = some x → ∃ d, Dp K H x d ∧ f i = (isStrD d && !inV x (fs.map V.str)) ∧ v i = x := by
  cases kd with
  | all => exact ⟨[], fun _ => false, fun _ => .non, [], hk, rfl, by decide, rfl, by decide, (fun m hm => by cases hm), (fun i x h => by simp at h)⟩
  | frm a =>
    refine ⟨[.str a], fun _ => !inV (.str a) (fs.map V.str), fun _ => .str a, if (!inV (.str a) (fs.map V.str)) = true then [a] else [], hk, rfl, Nat.le_refl _, ?_, ?_, ?_, ?_⟩
    · unfold given
      cases e : !inV (.str a) (fs.map V.str) <;> rfl
    · cases e : !inV (.str a) (fs.map V.str) <;> simp
    · intro m hm
      cases e : !inV (.str a) (fs.map V.str) with
      | true =>
        rw [e, if_pos rfl] at hm
        rw [List.mem_singleton.mp hm]
        exact hz a hin
      | false =>
        rw [e, if_neg (by decide)] at hm
        cases hm
    · intro i x h
      match i, h with
      | 0, h =>
        have e := Option.some.inj h
        subst e
        exact ⟨.str a, .str a, rfl, rfl⟩
      | i + 1, h => simp at h
  | to a =>
    refine ⟨[.str a], fun _ => !inV (.str a) (fs.map V.str), fun _ => .str a, if (!inV (.str a) (fs.map V.str)) = true then [a] else [], hk, rfl, Nat.le_refl _, ?_, ?_, ?_, ?_⟩
    · unfold given
      cases e : !inV (.str a) (fs.map V.str) <;> rfl
    · cases e : !inV (.str a) (fs.map V.str) <;> simp
    · intro m hm
      cases e : !inV (.str a) (fs.map V.str) with
      | true =>
        rw [e, if_pos rfl] at hm
        rw [List.mem_singleton.mp hm]
        exact hz a hin
      | false =>
        rw [e, if_neg (by decide)] at hm
        cases hm
    · intro i x h
      match i, h with
      | 0, h =>
        have e := Option.some.inj h
        subst e
        exact ⟨.str a, .str a, rfl, rfl⟩
      | i + 1, h => simp at h
  | these ns =>
    obtain ⟨nq, h1, h2⟩ := hk
    refine ⟨[.ref nq], fun _ => false, fun _ => .ref nq, [], h1, rfl, Nat.le_refl _, rfl, by decide, (fun m hm => by cases hm), fun i x h => ?_⟩
    match i, h with
    | 0, h =>
      have e := Option.some.inj h
      subst e
      exact ⟨.list (ns.map PyData.str), .lst (sq_of h2) (dpAll_strs ns), rfl, rfl⟩
    | i + 1, h => simp at h
theorem sOk_app {xs ys : List Str} {v : Str} (h : ys.map V.str = xs.map V.str ∨ ys.map V.str = xs.map V.str ++ [.str v]) (hx : ∀ z ∈ xs, sOk z) (hv : sOk v) : ∀ z ∈ ys, sOk z := fun z hz => by
  have hm : V.str z ∈ ys.map V.str := List.mem_map.mpr ⟨z, hz, rfl⟩
  rcases h with h | h
  · rw [h] at hm
    obtain ⟨y, hy, e⟩ := List.mem_map.mp hm
    rw [← V.str.inj e]
    exact hx y hy
  · rw [h] at hm
    rcases List.mem_append.mp hm with hm | hm
    · obtain ⟨y, hy, e⟩ := List.mem_map.mp hm
      rw [← V.str.inj e]
      exact hx y hy
    · rw [V.str.inj (List.mem_singleton.mp hm)]
      exact hv
theorem ok_listed {f : Addr} {fd : FuncData} (F : Fun K "_law_listed" "_law_listed" s_Llisted f fd) (B : Blt mg) : FnOk P w K mg base CX0 1 f fd ["_law_cell", "_law_places", "_law_ties", "_law_kind_here"] (spListed K) := by
  refine F.ok sc_Llisted (fun vs H Q E h => ?_) (fun cdv A outer s H vs Q E hr h => ?_)
  · obtain ⟨c, pl, tl, q, zs, ts, kd, rfl, _⟩ := h
    rfl
  · obtain ⟨c, pl, tl, q, zs, ts, kd, rfl, hp, ht, hk, hin, hzok, htok, h1, h6, h10, g⟩ := h
    have nd := sc_Llisted.nd
    refine ⟨_, (pss_cons (ps_set (i := 4) nd rfl (Or.inr rfl) (pe_lc (own := [("_law_k", 13), ("_law_place", 14)]) (by rfl) nd (pi_enum (by rfl) B.enumerate (pa_cons (pv 1) pa_nil)) (blkOk_by (own := [("_law_k", 13), ("_law_place", 14)]) (N := ["_law_cell", "_law_places", "_law_ties", "_law_kind_here", "_law_found", "_law_time", "_law_name_here", "_law_a", "_law_b", "_law_width", "_law_cost", "_law_way", "_law_at", "_law_k", "_law_place", "_law_one_here"]) (sc := defScope s_Llisted) (by decide +kernel)) (fun _ _ _ _ _ => by exact (ktup K (n := 2) (by rfl) (pgs_cons (pg_name (i := 13) nd rfl (Or.inl rfl)) (pgs_cons (pg_name (i := 14) nd rfl (Or.inl rfl)) pgs_nil)))) (fun _ _ _ _ _ => by exact (pts_one (pt_cmpR op_eq (pe_op op_mod (pe_op op_fdiv (pv 0) (pe_op op_add pe_int (pv 13))) pe_int) pe_int (nomark _)))) (fun _ _ _ _ _ => by exact (pv 14))))
    (pss_cut (ps_if (pt_cmpR op_eq (pe_op op_mod (pv 0) pe_int) pe_int (nomark _)) (pss_cons (ps_set (i := 4) nd rfl (Or.inr rfl) (pe_op op_cat (pv 4) (pe_lc (own := [("_law_one_here", 15)]) (by rfl) nd (pi_tup (pe_slice sl_tup (pv 3) (po_some pe_int) (po_some pe_int))) (blkOk_by (own := [("_law_one_here", 15)]) (N := ["_law_cell", "_law_places", "_law_ties", "_law_kind_here", "_law_found", "_law_time", "_law_name_here", "_law_a", "_law_b", "_law_width", "_law_cost", "_law_way", "_law_at", "_law_k", "_law_place", "_law_one_here"]) (sc := defScope s_Llisted) (by decide +kernel)) (fun _ _ _ _ _ => by exact (pg_name (i := 15) nd rfl (Or.inl rfl))) (fun _ _ _ _ _ => by exact (pts_one (PW.pt (pw_and (pt_val (pe_callB (kisi K) (by rfl) B.isinstance (by decide +kernel) (pa_cons (pv 15) (pa_cons (pe_bt (n := "str") (by rfl) B.str (by decide +kernel)) pa_nil)))) (pw_and1 (pt_cmpR (knin K) (pv 15) (pv 4) rfl)))))) (fun _ _ _ _ _ => by exact (pv 15)))))
    (pss_one (ps_for PassesOwn.never rfl (pi_range1 (by rfl) B.range (pa_cons (pe_callB call_len_seq (by rfl) B.len PySem.boot_len (pa_cons (pv 1) pa_nil)) pa_nil)) (pg_name (i := 5) nd rfl (Or.inl rfl))
    (pss_one (ps_for PassesOwn.never rfl (pi_list (pv 2)) (pg_tup (by rfl) (pgs_cons (pg_name (i := 6) nd rfl (Or.inl rfl)) (pgs_cons (pg_name (i := 7) nd rfl (Or.inl rfl)) (pgs_cons (pg_name (i := 8) nd rfl (Or.inl rfl)) (pgs_cons (pg_name (i := 9) nd rfl (Or.inl rfl)) (pgs_cons (pg_name (i := 10) nd rfl (Or.inl rfl)) pgs_nil))))))
    (pss_cons (ps_if (PW.pt (pw_and (pt_cmpR op_ne (pe_ix ix_tup (pv 3) pe_int (fun _ _ => rfl)) pe_str (nomark _)) (pw_and (pt_cmpR op_in_seq (pv 7) (pv 4) rfl) (pw_and1 (pt_cmpR op_notIn_seq (pv 8) (pv 4) rfl))))) (pss_one (ps_expr (pe_bm PySem.F.plainAttrs_list PySem.F.slot_list_append PySem.F.type_list_append mt_append (pv 4) (pa_cons (pv 8) pa_nil)))) pss_nil)
    (pss_one (ps_if (PW.pt (pw_and (pt_cmpR op_eq (pe_ix ix_tup (pv 3) pe_int (fun _ _ => rfl)) pe_str (nomark _)) (pw_and (pt_cmpR op_in_seq (pv 8) (pv 4) rfl) (pw_and1 (pt_cmpR op_notIn_seq (pv 7) (pv 4) rfl))))) (pss_one (ps_expr (pe_bm PySem.F.plainAttrs_list PySem.F.slot_list_append PySem.F.type_list_append mt_append (pv 4) (pa_cons (pv 7) pa_nil)))) pss_nil)))))))) pss_nil)
    (pss_cut (ps_if (pt_cmpR op_eq (pe_op op_mod (pe_op op_fdiv (pv 0) pe_int) pe_int) pe_int (nomark _)) (pss_one (ps_expr (pe_bm0 PySem.F.plainAttrs_list PySem.F.slot_list_reverse PySem.F.type_list_reverse mt_reverse (pv 4)))) pss_nil)
    (pss_cons (ps_set (i := 11) nd rfl (Or.inl rfl) (pe_op op_mod (pe_op op_fdiv (pv 0) pe_int) pe_int))
    (pss_cons (ps_set (i := 12) nd rfl (Or.inl rfl) (pe_op op_mod (pe_op op_fdiv (pv 0) pe_int) (pe_op op_add (pe_callB call_len_seq (by rfl) B.len PySem.boot_len (pa_cons (pv 4) pa_nil)) pe_int)))
    (pss_cons (ps_if (pt_cmpR op_eq (pv 11) pe_int (nomark _)) (pss_one (ps_ret (pe_op op_cat (pe_slice sl_list (pv 4) po_none (po_some (pv 12))) (pe_slice sl_list (pv 4) (po_some (pe_op op_add (pv 12) pe_int)) po_none)))) pss_nil)
    (pss_cons (ps_if (pt_cmpR op_eq (pv 11) pe_int (nomark _)) (pss_one (ps_ret (pe_op op_cat (pe_op op_cat (pe_slice sl_list (pv 4) po_none (po_some (pv 12))) (pe_slice sl_list (pv 4) po_none (po_some pe_int))) (pe_slice sl_list (pv 4) (po_some (pv 12)) po_none)))) pss_nil)
    (pss_cons (ps_if (pt_cmpR op_eq (pv 11) pe_int (nomark _)) (pss_one (ps_ret (pe_op op_cat (pe_op op_cat (pe_slice sl_list (pv 4) po_none (po_some (pv 12))) (pe_lst (pa_cons (pe_ix ix_list (pe_lst (pa_cons pe_str (pa_cons pe_int (pa_cons (pv 4) (pa_cons pe_str pa_nil))))) (pe_op op_mod (pe_op op_fdiv (pv 0) pe_int) pe_int) (fun _ _ => rfl)) pa_nil))) (pe_slice sl_list (pv 4) (po_some (pv 12)) po_none)))) pss_nil)
    (pss_cons (ps_if (pt_cmpR op_eq (pv 11) pe_int (nomark _)) (pss_one (ps_ret (pe_ix ix_list (pe_lst (pa_cons pe_str (pa_cons pe_int (pa_cons pe_str (pa_cons (pe_lst (pa_cons (pe_lst (pa_cons pe_str pa_nil)) pa_nil)) (pa_cons (pe_ix ix_list (pv 1) pe_int (fun _ _ => rfl)) pa_nil)))))) (pe_op op_mod (pe_op op_fdiv (pv 0) pe_int) pe_int) (fun _ _ => rfl)))) pss_nil)
    (pss_one (ps_ret (pv 4)))))))))))), ?_⟩
    -- the places by bits
    obtain ⟨ms, hms, hml, hmm⟩ := given_some zs (fun i => decide (V.int (c / (1 + (i : Int)) % 2) = V.int 1)) (fun i => i) zs.length (fun i hi => hi)
    refine q_asgL (xs := ms.map V.str) (el_is (el_lcE (xs := zs.map V.str) (fun i => decide (V.int (c / (1 + (i : Int)) % 2) = V.int 1)) (fun i => .str (strAt zs i)) (er_at (ev_var rfl) hp) (by rw [List.length_map]; omega) (fun x y => rfl)
      (fun i x H5 e5 hi => et_test (ev_op (ev_op (ev_op (ev_var rfl) (ev_op ev_c (ev_var rfl) rv_I0) (rv_I ⟨by omega, by
        have q := (List.getElem?_eq_some_iff.mp hi).1
        rw [List.length_map] at q
        omega⟩)) ev_c (rv_I (by decide))) ev_c (rv_eq rfl)))
      (fun i x H5 e5 hi _ => by
        obtain ⟨y, hy, rfl⟩ := strs_get hi
        exact ev_is (ev_var rfl) (by rw [strAt_is hy]))) (by rw [List.length_map, hms])) fun f0 H1 nf0 e1 hf0 => ?_
    have hmok : ∀ m ∈ ms, sOk m := fun m hm => hzok m (hmm m hm)
    -- closed by going on or back
    refine q_cut (M := fun σ' H' => Ex H H' ∧ ∃ fl fs v5 v6 v7 v8 v9 v10, σ' = [some (.int c), some (.ref pl), some (.ref tl), some (.ref q), some (.ref fl), v5, v6, v7, v8, v9, v10, none, none, none, none, none] ∧ H fl = none ∧ StrsAt H' fl fs ∧ (∀ z ∈ fs, sOk z) ∧ fs.length ≤ 1000) ?_ ?_
    · refine s_when (et_test (ev_op (ev_op (ev_var rfl) ev_c (rv_I (by decide))) ev_c (rv_eq rfl))) (fun _ H2 e2 => ?_) (fun _ H2 e2 => ⟨e1.trans e2, f0, ms, none, none, none, none, none, none, rfl, nf0, e2 _ _ hf0, hmok, by omega⟩)
      have e02 := e1.trans e2
      have hf2 : StrsAt H2 f0 ms := e2 _ _ hf0
      obtain ⟨us, ff, vv, rs, ku, kcut, kul, kg, krl, krok, kt⟩ := kd_tail (K := K) ms hk hin hzok
      refine q_asgL (xs := (ms ++ rs).map V.str) (el_is (el_cat (er_at (ev_var rfl) hf2) (er_new (el_is (el_lcU (xs := us) ff vv (es_new (by
          have q := eu_slT (K := K) (σ := [some (.int c), some (.ref pl), some (.ref tl), some (.ref q), some (.ref f0), none, none, none, none, none, none, none, none, none, none, none]) (H := H2) (te := tVar 3) (es_at (ev_var rfl) (e02 _ _ ku)) (eo_some (i := 1) ev_c) (eo_some (i := 2) ev_c) (fun h => by
            have q := h.1
            have q1 : (some (1 : Int)) = some ((1 : Nat) : Int) := rfl
            rw [q1, HT.sIx_nat, List.length_cons] at q
            omega)
          rw [kcut] at q
          exact q)) (by omega) (fun x => rfl)
        (fun i x H3 e3 hi => by
          obtain ⟨d, hd, hf, _⟩ := kt i x hi
          exact et_is (et_and (et_B (ev_isStr (ev_var rfl) (dp_mono (e02.trans e3) d x hd))) (fun hb => et_test (ev_niR (ev_var rfl) (er_at (ev_var rfl) (e3 _ _ hf2)) (by
            obtain ⟨z, rfl, _⟩ := str_of hd hb
            rfl) (strs_flat ms)))) hf.symm)
        (fun i x H3 e3 hi _ => by
          obtain ⟨d, hd, _, hv⟩ := kt i x hi
          exact ev_is (ev_var rfl) hv.symm)) kg)) (by
          rw [List.length_map, List.length_map]
          omega)) (by rw [List.map_append])) fun fl H3 nfl e3 hfl => ?_
      have e03 := e02.trans e3
      have nfl0 : H fl = none := fresh_back e02 nfl
      refine s_forR1 (n := (zs.length : Int)) (ea_cons (ev_is (ev_lenR (er_at (ev_var rfl) (e03 _ _ hp))) (by rw [List.length_map])) ea_nil) (by omega) (fun i σ H' => Ex H H' ∧ ∃ fs v5 v6 v7 v8 v9 v10, σ = [some (.int c), some (.ref pl), some (.ref tl), some (.ref q), some (.ref fl), v5, v6, v7, v8, v9, v10, none, none, none, none, none] ∧ StrsAt H' fl fs ∧ (∀ z ∈ fs, sOk z) ∧ fs.length ≤ 10 + 20 * i)
        (fun H4 e4 => ⟨e03.trans e4, ms ++ rs, none, none, none, none, none, none, rfl, e4 _ _ hfl, (fun z hz => by
          rcases List.mem_append.mp hz with hz | hz
          · exact hmok z hz
          · exact krok z hz), by rw [List.length_append]; omega⟩) ?_ ?_
      · rintro i σ' H4 hi ⟨e4, fs, v5, v6, v7, v8, v9, v10, rfl, hf4, hfok, hfl4⟩
        refine s_forL (a := tl) (xs := refs ts) (ev_var rfl) (sq_of (e4 _ _ ht.lst)) (fun j σ H' => Ex H H' ∧ ∃ fs v6 v7 v8 v9 v10, σ = [some (.int c), some (.ref pl), some (.ref tl), some (.ref q), some (.ref fl), some (.int (i : Int)), v6, v7, v8, v9, v10, none, none, none, none, none] ∧ StrsAt H' fl fs ∧ (∀ z ∈ fs, sOk z) ∧ fs.length ≤ 10 + 20 * i + 2 * j)
          (fun H5 e5 => ⟨e4.trans e5, fs, v6, v7, v8, v9, v10, rfl, e5 _ _ hf4, hfok, by omega⟩) (fun j σ' H' _ h => sq_of (h.1 _ _ ht.lst)) ?_ ?_
        · rintro j x σ' H5 hj ⟨e5, fs, v6, v7, v8, v9, v10, rfl, hf5, hfok, hfl5⟩
          obtain ⟨pt, t, hti, rfl, hat⟩ := (ht.mono e5).get hj
          have hj10 : j < 10 := by
            have q := (List.getElem?_eq_some_iff.mp hti).1
            omega
          have htt := htok t (List.mem_map.mpr ⟨_, List.mem_of_getElem? hti, rfl⟩)
          have i6 : i < 6 := by omega
          refine g_five hat ?_
          have hq5 := e5 _ _ ku
          refine q_ifApp (et_and (et_test (ev_op (ev_ixTS (es_at (ev_var rfl) hq5) ev_c (atI_nat (j := 0) rfl)) ev_c (rv_ne rfl))) (fun _ => et_and (et_test (ev_inR (ev_var rfl) (er_at (ev_var rfl) hf5) rfl (strs_flat fs))) (fun _ => et_test (ev_niR (ev_var rfl) (er_at (ev_var rfl) hf5) rfl (strs_flat fs)))))
            hf5 (ev_var rfl) (ev_var rfl) (by rw [List.length_map]; omega) fun H6 ys hys hf6 fr6 => ?_
          obtain ⟨fs6, rfl⟩ : ∃ fs6 : List Str, ys = fs6.map V.str := by
            rcases hys with rfl | rfl
            · exact ⟨fs, rfl⟩
            · exact ⟨fs ++ [t.b], by rw [List.map_append]; rfl⟩
          have hok6 := sOk_app hys hfok htt.2.2
          have hl6 : fs6.length ≤ fs.length + 1 := by
            rcases hys with h | h
            · have q := congrArg List.length h
              rw [List.length_map, List.length_map] at q
              omega
            · have q := congrArg List.length h
              rw [List.length_append, List.length_map, List.length_map] at q
              simp at q
              omega
          have e6 : Ex H H6 := fun a o ha => fr6 a o (e5 _ _ ha) (ne_of_none ha nfl0)
          refine s_ifApp (et_and (et_test (ev_op (ev_ixTS (es_at (ev_var rfl) (e6 _ _ ku)) ev_c (atI_nat (j := 0) rfl)) ev_c (rv_eq rfl))) (fun _ => et_and (et_test (ev_inR (ev_var rfl) (er_at (ev_var rfl) hf6) rfl (strs_flat fs6))) (fun _ => et_test (ev_niR (ev_var rfl) (er_at (ev_var rfl) hf6) rfl (strs_flat fs6)))))
            hf6 (ev_var rfl) (ev_var rfl) (by rw [List.length_map]; omega) fun H7 ys hys hf7 fr7 => ?_
          obtain ⟨fs7, rfl⟩ : ∃ fs7 : List Str, ys = fs7.map V.str := by
            rcases hys with rfl | rfl
            · exact ⟨fs6, rfl⟩
            · exact ⟨fs6 ++ [t.a], by rw [List.map_append]; rfl⟩
          have hok7 := sOk_app hys hok6 htt.2.1
          have hl7 : fs7.length ≤ fs6.length + 1 := by
            rcases hys with h | h
            · have q := congrArg List.length h
              rw [List.length_map, List.length_map] at q
              omega
            · have q := congrArg List.length h
              rw [List.length_append, List.length_map, List.length_map] at q
              simp at q
              omega
          exact ⟨fun a o ha => fr7 a o (e6 _ _ ha) (ne_of_none ha nfl0), fs7, _, _, _, _, _, rfl, hf7, hok7, by omega⟩
        · rintro σ' H5 ⟨e5, fs, v6, v7, v8, v9, v10, rfl, hf5, hfok, hfl5⟩
          rw [List.length_map] at hfl5
          exact ⟨e5, fs, _, v6, v7, v8, v9, v10, rfl, hf5, hfok, by omega⟩
      · rintro σ' H4 ⟨e4, fs, v5, v6, v7, v8, v9, v10, rfl, hf4, hfok, hfl4⟩
        exact ⟨e4, fl, fs, v5, v6, v7, v8, v9, v10, rfl, nfl0, hf4, hfok, by omega⟩
    rintro σ' H2 ⟨e2, fl, fs, v5, v6, v7, v8, v9, v10, rfl, nfl0, hf2, hfok, hfl2⟩
    -- turned round
    refine q_cut (M := fun σ' H' => Ex H H' ∧ ∃ fs, σ' = [some (.int c), some (.ref pl), some (.ref tl), some (.ref q), some (.ref fl), v5, v6, v7, v8, v9, v10, none, none, none, none, none] ∧ StrsAt H' fl fs ∧ (∀ z ∈ fs, sOk z) ∧ fs.length ≤ 1000) ?_ ?_
    · refine s_when (et_test (ev_op (ev_op (ev_op (ev_var rfl) ev_c (rv_I ⟨by decide, by decide⟩)) ev_c (rv_I (by decide))) ev_c (rv_eq rfl))) (fun _ H3 e3 => ?_) (fun _ H3 e3 => ⟨e2.trans e3, fs, rfl, e3 _ _ hf2, hfok, hfl2⟩)
      refine s_rev (e3 _ _ hf2) (ev_var rfl) fun H4 e4 => ⟨Ex.mut ((e2.trans e3).trans e4) nfl0, fs.reverse, rfl, ?_, fun z hz => hfok z (List.mem_reverse.mp hz), by rw [List.length_reverse]; exact hfl2⟩
      show upd H4 fl _ fl = _
      rw [upd_same, List.map_reverse]
    clear hf2 hfok hfl2 e2 hf0 hms hml hmm hmok
    rintro σ' H3 ⟨e3, fs, rfl, hf3, hfok, hfl3⟩
    have fin : ∀ {te : TE} {D : Ends} {σ : L2.St} {H4 : Hp} {n : Nat}, Ex H H4 → EvQ K 9 n te σ H4 → D.rt = Q → tRet te D σ H4 := fun {te D σ H4 n} e4 h hD => s_retP h fun v H5 e5 ⟨p, xs, ds, ev, h1, h2, h3, h4⟩ => by
      subst ev
      rw [hD]
      exact g _ _ H5 (e4.trans e5) (.lst (sq_of h1) h2) (fine_list h3)
    refine q_asg (ev_op (ev_op (ev_var rfl) ev_c (rv_I ⟨by decide, by decide⟩)) ev_c (rv_I (by decide))) fun H4 e4 => ?_
    refine q_asg (ev_op (ev_op (ev_var rfl) ev_c (rv_I ⟨by decide, by decide⟩)) (ev_op (ev_lenR (er_at (ev_var rfl) (e4 _ _ hf3))) ev_c rv_I0) (rv_I (by omega))) fun H5 e5 => ?_
    have e35 := e4.trans e5
    have sl : ∀ {σ : L2.St} {H6 : Hp} {tl th : TO} {lo hi : Option Int}, Ex H5 H6 → σ[4]? = some (some (.ref fl)) → EvO tl σ H6 lo → EvO th σ H6 hi → EvQ K 9 fs.length (tSl (rSlL K) (tVar 4) tl th) σ H6 := fun {σ H6 tl th lo hi} e6 hσ h1 h2 => eq_sl (er_at (ev_var hσ) (e6 _ _ (e35 _ _ hf3))) hfok h1 h2
    refine q_when (et_test (ev_op (ev_var rfl) ev_c (rv_eq rfl))) (fun _ H6 e6 => fin ((e3.trans e35).trans e6) (eq_cat (sl e6 rfl eo_none (eo_some (ev_var rfl))) (sl e6 rfl (eo_some (ev_op (ev_var rfl) ev_c rv_I0)) eo_none) (by omega)) rfl) (fun _ H6 e6 => ?_)
    refine q_when (et_test (ev_op (ev_var rfl) ev_c (rv_eq rfl))) (fun _ H7 e7 => fin ((e3.trans e35).trans (e6.trans e7)) (eq_cat (eq_cat (sl (e6.trans e7) rfl eo_none (eo_some (ev_var rfl))) (sl (e6.trans e7) rfl eo_none (eo_some ev_c)) (by omega)) (sl (e6.trans e7) rfl (eo_some (ev_var rfl)) eo_none) (by omega)) rfl) (fun _ H7 e7 => ?_)
    have e67 := e6.trans e7
    refine q_when (et_test (ev_op (ev_var rfl) ev_c (rv_eq rfl))) (fun _ H8 e8 => ?_) (fun _ H8 e8 => ?_)
    · have e58 := e67.trans e8
      have q0 : 0 ≤ c / 7 % 4 := Int.emod_nonneg _ (by decide)
      have q1 : c / 7 % 4 < 4 := Int.emod_lt_of_pos _ (by decide)
      exact fin ((e3.trans e35).trans e58) (eq_cat (eq_cat (sl e58 rfl eo_none (eo_some (ev_var rfl))) (eq_lst (eas_cons (ed_pick (n := 4) (eas_cons (ed_str ev_c (sOk_lit (by decide +kernel))) (eas_cons (ed_int ev_c) (eas_cons (ed_list (m := 8) (eq_strs (zs := fs) (er_at (ev_var rfl) (e58 _ _ (e35 _ _ hf3))) hfok)) (eas_cons (ed_str ev_c (sOk_lit (by decide +kernel))) eas_nil)))) (by decide)
        (ev_op (ev_op (ev_var rfl) ev_c (rv_I ⟨by decide, by decide⟩)) ev_c (rv_I (by decide))) q0 q1) eas_nil) (by decide)) (by omega)) (sl e58 rfl (eo_some (ev_var rfl)) eo_none) (by omega)) rfl
    refine q_when (et_test (ev_op (ev_var rfl) ev_c (rv_eq rfl))) (fun _ H9 e9 => ?_) (fun _ H9 e9 => ?_)
    · have e59 := (e67.trans e8).trans e9
      have q0 : 0 ≤ c / 7 % 5 := Int.emod_nonneg _ (by decide)
      have q1 : c / 7 % 5 < 5 := Int.emod_lt_of_pos _ (by decide)
      obtain ⟨z0, hz0⟩ : ∃ z, zs[0]? = some z := ⟨zs[0], List.getElem?_eq_getElem (by omega)⟩
      have hp9 : StrsAt H9 pl zs := ((e3.trans e35).trans e59) _ _ hp
      refine s_retD (K := K) (m := 10) (ed_pick (n := 5) (eas_cons (ed_str ev_c (sOk_lit (by decide +kernel))) (eas_cons (ed_int ev_c) (eas_cons (ed_str ev_c (sOk_lit (by decide +kernel)))
        (eas_cons (ed_list (m := 9) (eq_lst (eas_cons (ed_list (m := 8) (eq_lst (eas_cons (ed_str ev_c (sOk_lit (by decide +kernel))) eas_nil) (by decide))) eas_nil) (by decide))) (eas_cons (ed_str (ev_op (ev_var rfl) ev_c (rv_ixL (sq_of hp9) (strs_at (j := 0) hz0))) (hzok z0 (List.mem_of_getElem? hz0))) eas_nil))))) (by decide)
        (ev_op (ev_op (ev_var rfl) ev_c (rv_I ⟨by decide, by decide⟩)) ev_c (rv_I (by decide))) q0 q1) fun v d H10 e10 h1 h2 => ?_
      exact g v d H10 (((e3.trans e35).trans e59).trans e10) h1 h2
    · have e59 := (e67.trans e8).trans e9
      exact fin ((e3.trans e35).trans e59) (eq_strs (zs := fs) (er_at (ev_var rfl) (e59 _ _ (e35 _ _ hf3))) hfok) rfl
end
end Nc
/-! Part K: one cell of the law. -/
namespace Nc
open PySem L2 Evl
abbrev s_Lone : Stmt := top 36
theorem sc_Lone : FnScope ["_law_net_here", "_law_places", "_law_ties", "_law_cell", "_law_kind_here", "_law_listed_here", "_law_copy", "_law_due", "_law_told", "_law_place", "_law_begin", "_law_steps_here", "_law_end_here", "_law_odd", "_law_paper"] ["_law_net_here", "_law_places", "_law_ties", "_law_cell"] (defScope s_Lone) := ⟨rfl, rfl, rfl, by decide +kernel, rfl, by decide +kernel, by decide +kernel⟩
section
variable {K : PySem.W.Frag} {σ : L2.St} {H H' : Hp} {ta tb te tl t1 t2 t3 : TE} {t : TT} {v x y z v1 v2 : V} {D : Ends} {tu tz : TS}
theorem ep_call {sp : Sp} {E : XK} {tA : TA} {vs : List V} {P : V → Hp → Prop} (h : EvA tA σ H vs) (hs : ∀ H1, Ex H H1 → ∀ (Q : VK) (E : XK), (∀ v H2, Ex H1 H2 → P v H2 → Q v H2) → sp (vs ++ []) H1 Q E) : EvP (tCall sp [] E tA) σ H fun _ v H2 => P v H2 := fun H1 e Q q =>
  h H1 e _ fun H2 e2 => hs H2 (e.trans e2) Q E fun v H3 e3 p => q v H3 (e2.trans e3) p
theorem ep_if {P : Hp → V → Hp → Prop} {b : Bool} (h : EvT t σ H b) (h1 : b = true → EvP ta σ H fun _ v H2 => P H v H2) (h2 : b = false → EvP tb σ H fun _ v H2 => P H v H2) : EvP (tIf t ta tb) σ H fun _ v H2 => P H v H2 := fun H1 e Q q => h H1 e _ fun H2 e2 => by
  cases b with
  | true =>
    show ta σ H2 Q
    exact h1 rfl H2 (e.trans e2) Q fun v H3 e3 p => q v H3 (e2.trans e3) p
  | false =>
    show tb σ H2 Q
    exact h2 rfl H2 (e.trans e2) Q fun v H3 e3 p => q v H3 (e2.trans e3) p
/-- some datum of which G is true; a row of such; a list of such -/
def EvG (K : PySem.W.Frag) (G : PyData → Prop) (te : TE) (σ : L2.St) (H : Hp) : Prop := EvP te σ H fun _ v H2 => ∃ d, Dp K H2 v d ∧ G d
def EvGs (K : PySem.W.Frag) (G : PyData → Prop) (n : Nat) (ta : TA) (σ : L2.St) (H : Hp) : Prop := ∀ H1, Ex H H1 → ∀ Q : List V → Hp → Prop, (∀ vs H2 ds, Ex H1 H2 → DpAll K H2 vs ds → (∀ d ∈ ds, G d) → vs.length = n → Q vs H2) → ta σ H1 Q
theorem eg_of {G : PyData → Prop} {d : PyData} (h : Ev te σ H v) (hd : Dp K H v d) (hf : G d) : EvG K G te σ H := fun H1 e Q q => h H1 e Q fun H2 e2 => q v H2 e2 ⟨d, dp_mono (e.trans e2) d v hd, hf⟩
theorem egs_nil {G : PyData → Prop} : EvGs K G 0 tNil σ H := fun H1 e Q q => q [] H1 [] (Ex.refl H1) .nil (fun d hd => by cases hd) rfl
theorem egs_cons {G : PyData → Prop} {n : Nat} {tr : TA} (h : EvG K G te σ H) (hr : EvGs K G n tr σ H) : EvGs K G (n + 1) (tCons te tr) σ H := fun H1 e Q q =>
  h H1 e _ fun v H2 e2 ⟨d, hd, hf⟩ => hr H2 (e.trans e2) _ fun vs H3 ds e3 hds hfs hl => q (v :: vs) H3 (d :: ds) (e2.trans e3) (.cons (dp_mono e3 d v hd) hds) (fun x hx => by
    rcases List.mem_cons.mp hx with hx | hx
    · rw [hx]
      exact hf
    · exact hfs x hx) (by rw [List.length_cons, hl])
/-- for x in [..], each of which G is true -/
theorem q_forGs {G : PyData → Prop} {n j : Nat} {tA : TA} (h : EvGs K G n tA σ H) (hn : n ≤ 100000) (R : L2.St → Prop) (h0 : R σ)
    (hs : ∀ x d H1 H' σ', Ex H H1 → Ex H1 H' → Dp K H' x d → G d → R σ' → tu { D with nx := fun σ2 H2 => Ex H1 H2 ∧ R σ2, ct := fun σ2 H2 => Ex H1 H2 ∧ R σ2, bk := tz D } (σ'.set j (some x)) H') (hd : ∀ σ' H', Ex H H' → R σ' → tz D σ' H') :
    tSeq (tFor (iList K (tLst tA)) (gName j) tu) tz D σ H :=
  h H (Ex.refl H) _ fun vs H1 ds e1 hds hG hl => ⟨sz_of (by omega), fun p hp => ⟨p, rfl, ⟨vs, sq_of upd_same⟩,
    for_list (xs := vs) (D := { D with nx := tz D }) (fun i σ' H' => Ex (upd H1 p (.lst vs)) H' ∧ R σ') ⟨Ex.refl _, h0⟩ (fun i σ' H' _ q => sq_of (q.1 _ _ upd_same)) (fun i x σ' H' hi q => by
      obtain ⟨d, hd2, hdp⟩ := dpAll_get hds i x hi
      exact hs x d (upd H1 p (.lst vs)) H' σ' (e1.trans (Ex.new hp)) q.1 (dp_mono ((Ex.new hp).trans q.1) d x hdp) (hG d (List.mem_of_getElem? hd2)) q.2) (fun σ' H' q => hd σ' H' ((e1.trans (Ex.new hp)).trans q.1) q.2)⟩⟩
/-- for x in a list of texts that a call gives -/
theorem q_forMs {G : Str → Prop} {j : Nat} (h : EvP tl σ H fun _ v H2 => ∃ r ms, v = V.ref r ∧ StrsAt H2 r ms ∧ ∀ m ∈ ms, G m) (R : L2.St → Prop) (h0 : R σ)
    (hs : ∀ m H1 H' σ', Ex H H1 → Ex H1 H' → G m → R σ' → tu { D with nx := fun σ2 H2 => Ex H1 H2 ∧ R σ2, ct := fun σ2 H2 => Ex H1 H2 ∧ R σ2, bk := tz D } (σ'.set j (some (.str m))) H') (hd : ∀ σ' H', Ex H H' → R σ' → tz D σ' H') :
    tSeq (tFor (iList K tl) (gName j) tu) tz D σ H :=
  h H (Ex.refl H) _ fun v H1 e1 ⟨r, ms, ev, hms, hG⟩ => ⟨r, ev, ⟨_, sq_of hms⟩,
    for_list (xs := ms.map V.str) (D := { D with nx := tz D }) (fun i σ' H' => Ex H1 H' ∧ R σ') ⟨Ex.refl _, h0⟩ (fun i σ' H' _ q => sq_of (q.1 _ _ hms)) (fun i x σ' H' hi q => by
      obtain ⟨m, hm, rfl⟩ := strs_get hi
      exact hs m H1 H' σ' e1 q.1 (hG m (List.mem_of_getElem? hm)) q.2) (fun σ' H' q => hd σ' H' (e1.trans q.1) q.2)⟩
theorem ev_call3 {sp : Sp} {E : XK} {G : PyData → Prop} (h1 : Ev t1 σ H v1) (h2 : Ev t2 σ H v2) (h3 : EvG K G t3 σ H) (hs : ∀ v d H1, Ex H H1 → Dp K H1 v d → G d → SpV sp [v1, v2, v] H1 z) : Ev (tCall sp [] E (tCons t1 (tCons t2 (tCons t3 tNil)))) σ H z := fun H1 e Q q =>
  h1 H1 e _ fun H2 e2 => h2 H2 (e.trans e2) _ fun H3 e3 => h3 H3 ((e.trans e2).trans e3) _ fun v H4 e4 ⟨d, hd, hg⟩ => hs v d H4 (((e.trans e2).trans e3).trans e4) hd hg H4 (Ex.refl _) Q (fun H5 e5 => q H5 (((e2.trans e3).trans e4).trans e5)) E
end
theorem dpAll_strs_inv {K : PySem.W.Frag} {H : Hp} : ∀ {ys : List Str} {xs : List V}, DpAll K H xs (ys.map PyData.str) → xs = ys.map V.str
  | [], _, .nil => rfl
  | y :: ys, _, .cons h1 h2 => by
    cases h1
    rw [dpAll_strs_inv h2]
    rfl
theorem goT_in {zs : List Str} {ts : List Tie} (ht : ∀ t ∈ ts, t.b ∈ zs) : ∀ {ds : List PyData} {a e : Str}, a ∈ zs → goT ts a ds = some e → e ∈ zs
  | [], a, e, ha, h => by
    rw [← Option.some.inj h]
    exact ha
  | .str z :: r, a, e, ha, h => by
    change (match findT ts z with | some t => if t.a = a then goT ts t.b r else none | none => none) = some e at h
    cases hf : findT ts z with
    | none =>
      rw [hf] at h
      cases h
    | some t =>
      rw [hf] at h
      dsimp only at h
      by_cases q : t.a = a
      · rw [if_pos q] at h
        exact goT_in ht (ht t (List.mem_of_find?_eq_some hf)) h
      · rw [if_neg q] at h
        cases h
  | .none :: _, _, _, _, h => by cases h
  | .bool _ :: _, _, _, _, h => by cases h
  | .int _ :: _, _, _, _, h => by cases h
  | .list _ :: _, _, _, _, h => by cases h
  | .tuple _ :: _, _, _, _, h => by cases h
  | .dict _ :: _, _, _, _, h => by cases h
theorem scal_opt2 (o : Option Str) : scal (optV o) (optV o) = true := by
  cases o <;> rfl
/-- what no looker lets by -/
structure Odd (d : PyData) : Prop where
  fine : Fine 60 d
  nil : isNil d = false
  walk : ∀ ts a, walkEnd ts a d = none
  plist : ∀ zs, plist zs d = none
theorem odd_of {d : PyData} (h : Fine 60 d) (hl : isListD d = false) : Odd d := by
  cases d with
  | list ds => cases hl
  | _ => exact ⟨h, rfl, fun _ _ => rfl, fun _ => rfl⟩
theorem odd_nest {ds : List PyData} (h : Fine 10 (.list ds)) : Odd (.list [.list ds]) := ⟨(fine_list (n := 10) fun d hd => by
  rw [List.mem_singleton.mp hd]
  exact h).le (by decide), rfl, fun _ _ => rfl, fun _ => rfl⟩
theorem Odd.member {d : PyData} (h : Odd d) (zs : List Str) (ts : List Tie) (kd : Kd) (z : Str) : member zs ts kd z d = false := by
  have q : memberK ts kd z d = false := by
    cases kd with
    | all => exact h.nil
    | these ns =>
      show (isNil d && _) = false
      rw [h.nil]
      rfl
    | frm a =>
      show decide (walkEnd ts a d = some z) = false
      rw [h.walk]
      rfl
    | to a =>
      show decide (walkEnd ts z d = some a) = false
      rw [h.walk]
      rfl
  unfold Nc.member
  rw [q, Bool.and_false]
theorem member_in {zs : List Str} {ts : List Tie} {kd : Kd} {z : Str} {d : PyData} (h : z ∈ zs) : member zs ts kd z d = memberK ts kd z d := by
  unfold member
  rw [decide_eq_true h]
  rfl
theorem kd_word {H : Hp} {q : Addr} {kd : Kd} (h : KdAt H q kd) : ∃ us, H q = some (.tup (.str (kdW kd) :: us)) := by
  cases kd with
  | all => exact ⟨_, h⟩
  | frm a => exact ⟨_, h⟩
  | to a => exact ⟨_, h⟩
  | these ns =>
    obtain ⟨nq, h1, _⟩ := h
    exact ⟨_, h1⟩
/-- where the row of steps begins -/
def beginOf (kd : Kd) (z : Str) : Str := match kd with
  | .frm a => a
  | _ => z
section
variable {P : Program} {w : World} {K : PySem.W.Frag} {mg : Str → Option Value} {base : Heap} {C : Addr}
theorem ok_one {f : Addr} {fd : FuncData} (F : Fun K "_law_one" "_law_one" s_Lone f fd) (B : Blt mg)
    (C__law_kind : Cl P w K mg base 1 "_law_kind" ["_law_cell", "_law_places"] spKind) (C__law_listed : Cl P w K mg base 1 "_law_listed" ["_law_cell", "_law_places", "_law_ties", "_law_kind_here"] (spListed K))
    (C__law_within : Cl P w K mg base 1 "_law_within" ["_law_places", "_law_ties", "_law_kind_here", "_law_paper"] (spLWithin K)) (C_is_within : Cl P w K mg base 3 "is_within" ["net", "kind", "paper"] (spWithin K C))
    (C_members_of : Cl P w K mg base 3 "members_of" ["net", "kind"] (spMembers C)) (C__law_steps : Cl P w K mg base 1 "_law_steps" ["_law_cell", "_law_place", "_law_ties"] (spSteps K))
    (C__law_end : Cl P w K mg base 1 "_law_end" ["_law_ties", "_law_place", "_law_paper"] (spLEnd K)) (C_walk_end : Cl P w K mg base 2 "walk_end" ["net", "a", "paper"] (spWalk K C))
    (C_is_member : Cl P w K mg base 3 "is_member" ["net", "kind", "place", "paper"] (spMember K C)) (C__law_member : Cl P w K mg base 2 "_law_member" ["_law_places", "_law_ties", "_law_kind_here", "_law_place", "_law_paper"] (spLMember K)) :
    FnOk P w K mg base CX0 4 f fd ["_law_net_here", "_law_places", "_law_ties", "_law_cell"] (spOne C) := by
  refine F.ok sc_Lone (fun vs H Q E h => ?_) (fun cdv A outer s H vs Q E hr h => ?_)
  · obtain ⟨p, k, l, us, pl, tl, zs, ts, c, rfl, _⟩ := h
    rfl
  · obtain ⟨p, k, l, us, pl, tl, zs, ts, c, rfl, N, hus, hp, ht, G, g⟩ := h
    have nd := sc_Lone.nd
    refine ⟨_, (pss_cons (ps_set (i := 4) nd rfl (Or.inl rfl) (pe_def C__law_kind hr (pa_cons (pv 3) (pa_cons (pv 1) pa_nil))))
    (pss_cons (ps_set (i := 5) nd rfl (Or.inl rfl) (pe_def C__law_listed hr (pa_cons (pe_op op_fdiv (pv 3) pe_int) (pa_cons (pv 1) (pa_cons (pv 2) (pa_cons (pv 4) pa_nil))))))
    (pss_cons (ps_set (i := 6) nd rfl (Or.inl rfl) (pe_ifExp (pt_val (pe_callB call_isi (by rfl) B.isinstance (by decide +kernel) (pa_cons (pv 5) (pa_cons (pe_bt (n := "list") (by rfl) B.list (by decide +kernel)) pa_nil)))) (pe_callTy call_list_of (by rfl) B.list (by decide +kernel) (pa_cons (pv 5) pa_nil)) (pv 5)))
    (pss_cons (ps_set (i := 7) nd rfl (Or.inl rfl) (pe_def C__law_within hr (pa_cons (pv 1) (pa_cons (pv 2) (pa_cons (pv 4) (pa_cons (pv 5) pa_nil))))))
    (pss_cons (ps_set (i := 8) nd rfl (Or.inl rfl) (pe_def C_is_within hr (pa_cons (pv 0) (pa_cons (pv 4) (pa_cons (pv 5) pa_nil)))))
    (pss_cons (ps_if (PW.pt (pw_or (pt_not (pt_val (pe_callB call_isi (by rfl) B.isinstance (by decide +kernel) (pa_cons (pv 8) (pa_cons (pe_bt (n := "bool") (by rfl) B.bool (by decide +kernel)) pa_nil))))) (pw_or (pt_cmpR op_ne (pv 8) (pv 7) (nomark _)) (pw_or1 (pt_cmpR (op_neD hr.units) (pv 5) (pv 6) (nomark _)))))) (pss_one (ps_ret pe_bl)) pss_nil)
    (pss_cons (ps_for PassesOwn.never rfl (pi_list (pe_def C_members_of hr (pa_cons (pv 0) (pa_cons (pv 4) pa_nil)))) (pg_name (i := 9) nd rfl (Or.inl rfl))
    (pss_one (ps_if (PW.pt (pw_and (pt_val (pv 8)) (pw_and1 (pt_cmpR op_notIn_seq (pv 9) (pv 5) rfl)))) (pss_one (ps_ret pe_bl)) pss_nil)))
    (pss_cons (ps_set (i := 10) nd rfl (Or.inl rfl) (pe_ix ix_list (pv 1) (pe_op op_mod (pe_op op_fdiv (pv 3) pe_int) (pe_callB call_len_seq (by rfl) B.len PySem.boot_len (pa_cons (pv 1) pa_nil))) (fun _ _ => rfl)))
    (pss_cons (ps_if (pt_cmpR op_eq (pe_ix ix_tup (pv 4) pe_int (fun _ _ => rfl)) pe_str (nomark _)) (pss_one (ps_set (i := 10) nd rfl (Or.inl rfl) (pe_ix ix_tup (pv 4) pe_int (fun _ _ => rfl)))) pss_nil)
    (pss_cons (ps_set (i := 11) nd rfl (Or.inl rfl) (pe_def C__law_steps hr (pa_cons (pe_op op_fdiv (pv 3) pe_int) (pa_cons (pv 10) (pa_cons (pv 2) pa_nil)))))
    (pss_cons (ps_set (i := 6) nd rfl (Or.inl rfl) (pe_callTy call_list_of (by rfl) B.list (by decide +kernel) (pa_cons (pv 11) pa_nil)))
    (pss_cons (ps_set (i := 12) nd rfl (Or.inl rfl) (pe_def C__law_end hr (pa_cons (pv 2) (pa_cons (pv 10) (pa_cons (pv 11) pa_nil)))))
    (pss_cons (ps_if (PW.pt (pw_or (pt_cmpR op_ne (pe_def C_walk_end hr (pa_cons (pv 0) (pa_cons (pv 10) (pa_cons (pv 11) pa_nil)))) (pv 12) (nomark _)) (pw_or1 (pt_cmpR (op_neD hr.units) (pv 11) (pv 6) (nomark _))))) (pss_one (ps_ret pe_bl)) pss_nil)
    (pss_cons (ps_set (i := 9) nd rfl (Or.inl rfl) (pv 10))
    (pss_cut (ps_if (pt_cmpR op_ne (pe_ix ix_tup (pv 4) pe_int (fun _ _ => rfl)) pe_str (nomark _)) (pss_cons (ps_set (i := 9) nd rfl (Or.inl rfl) (pv 12))
    (pss_one (ps_if (PW.pt (pw_or (pt_cmpR op_eq (pe_op op_mod (pv 3) pe_int) pe_int (nomark _)) (pw_or1 (pt_cmpR op_isN (pv 12) pe_non (nomark _))))) (pss_one (ps_set (i := 9) nd rfl (Or.inl rfl) (pe_ix ix_list (pv 1) (pe_op op_mod (pe_op op_fdiv (pv 3) pe_int) (pe_callB call_len_seq (by rfl) B.len PySem.boot_len (pa_cons (pv 1) pa_nil))) (fun _ _ => rfl)))) pss_nil))) pss_nil)
    (pss_cons (ps_for PassesOwn.never rfl (pi_list (pe_lst (pa_cons pe_int (pa_cons pe_str (pa_cons pe_non (pa_cons pe_bl (pa_cons (pe_tup pa_nil) (pa_cons (pe_callTy call_tuple_of (by rfl) B.tuple (by decide +kernel) (pa_cons (pv 11) pa_nil)) (pa_cons pe_int (pa_cons (pe_lst (pa_cons (pv 11) pa_nil)) pa_nil)))))))))) (pg_name (i := 13) nd rfl (Or.inl rfl))
    (pss_cons (ps_if (PW.pt (pw_or (pt_cmpR op_notBl (pe_def C_is_member hr (pa_cons (pv 0) (pa_cons (pv 4) (pa_cons (pv 9) (pa_cons (pv 13) pa_nil))))) pe_bl (nomark _)) (pw_or1 (pt_cmpR op_notBl (pe_def C_is_within hr (pa_cons (pv 0) (pa_cons (pv 4) (pa_cons (pv 13) pa_nil)))) pe_bl (nomark _))))) (pss_one (ps_ret pe_bl)) pss_nil)
    (pss_one (ps_if (PW.pt (pw_and (pt_not (pt_val (pe_callB call_isi (by rfl) B.isinstance (by decide +kernel) (pa_cons (pv 13) (pa_cons (pe_bt (n := "list") (by rfl) B.list (by decide +kernel)) pa_nil))))) (pw_and1 (pt_cmpR op_notN (pe_def C_walk_end hr (pa_cons (pv 0) (pa_cons (pv 10) (pa_cons (pv 13) pa_nil)))) pe_non (nomark _))))) (pss_one (ps_ret pe_bl)) pss_nil))))
    (pss_cons (ps_if (PW.pt (pw_and (pt_val (pe_callB call_isi (by rfl) B.isinstance (by decide +kernel) (pa_cons (pv 5) (pa_cons (pe_bt (n := "list") (by rfl) B.list (by decide +kernel)) pa_nil)))) (pw_and1 (pt_cmpR op_notBl (pe_def C_is_within hr (pa_cons (pv 0) (pa_cons (pv 4) (pa_cons (pe_callTy call_tuple_of (by rfl) B.tuple (by decide +kernel) (pa_cons (pv 5) pa_nil)) pa_nil)))) pe_bl (nomark _))))) (pss_one (ps_ret pe_bl)) pss_nil)
    (pss_cons (ps_for PassesOwn.never rfl (pi_list (pe_lst (pa_cons (pv 11) (pa_cons (pe_lst pa_nil) pa_nil)))) (pg_name (i := 14) nd rfl (Or.inl rfl))
    (pss_cons (ps_set (i := 8) nd rfl (Or.inl rfl) (pe_def C_is_member hr (pa_cons (pv 0) (pa_cons (pv 4) (pa_cons (pv 9) (pa_cons (pv 14) pa_nil))))))
    (pss_one (ps_if (PW.pt (pw_or (pt_not (pt_val (pe_callB call_isi (by rfl) B.isinstance (by decide +kernel) (pa_cons (pv 8) (pa_cons (pe_bt (n := "bool") (by rfl) B.bool (by decide +kernel)) pa_nil))))) (pw_or1 (pt_cmpR op_ne (pv 8) (pe_def C__law_member hr (pa_cons (pv 1) (pa_cons (pv 2) (pa_cons (pv 4) (pa_cons (pv 9) (pa_cons (pv 14) pa_nil)))))) (nomark _))))) (pss_one (ps_ret pe_bl)) pss_nil))))
    (pss_one (ps_ret (pe_cmpR (op_eqD hr.units) (pv 11) (pv 6) (nomark _)))))))))))))))))))))), ?_⟩
    have z1 := G.len0
    have z6 := G.len
    have hzok : ∀ z ∈ zs, sOk z := fun z hz => nm_ok (G.nm z hz)
    have htok : ∀ t ∈ ties ts, TOk t := fun t htt => by
      obtain ⟨h1, h2, h3, _⟩ := G.each t htt
      exact ⟨nm_ok h1, hzok _ h2, hzok _ h3⟩
    have hends : ∀ t ∈ ties us, t.a ∈ zs ∧ t.b ∈ zs := fun t htt => by
      rw [hus] at htt
      obtain ⟨_, h2, h3, _⟩ := G.each t htt
      exact ⟨h2, h3⟩
    have h10 : ts.length ≤ 10 := by
      have q := G.tlen
      rw [List.length_map] at q
      exact q
    -- kind
    refine q_asgP (P := fun _ v H2 => ∃ q kd, v = .ref q ∧ KdAt H2 q kd ∧ KdIn zs kd) (ep_call (vs := [.int c, .ref pl]) (ea_cons (ev_var rfl) (ea_cons (ev_var rfl) ea_nil)) fun H1 e1 Q' E' q' => ⟨c, pl, zs, rfl, e1 _ _ hp, hzok, z1, z6, fun q kd H2 e2 h1 h2 => q' _ _ e2 ⟨q, kd, rfl, h1, h2⟩⟩) ?_
    rintro _ H1 e1 ⟨q, kd, rfl, hk, hin⟩
    -- listed
    refine q_asgP (P := fun _ v H2 => ∃ d, Dp K H2 v d ∧ Fine 10 d) (ep_call (vs := [.int (c / 24), .ref pl, .ref tl, .ref q]) (ea_cons (ev_op (ev_var rfl) ev_c (rv_I ⟨by decide, by decide⟩)) (ea_cons (ev_var rfl) (ea_cons (ev_var rfl) (ea_cons (ev_var rfl) ea_nil))))
      fun H2 e2 Q' E' q' => ⟨_, pl, tl, q, zs, ts, kd, rfl, (e1.trans e2) _ _ hp, ht.mono (e1.trans e2), kd_mono e2 hk, hin, hzok, htok, z1, z6, h10, fun v d H3 e3 h1 h2 => q' _ _ e3 ⟨d, h1, h2⟩⟩) ?_
    rintro v H2 e2 ⟨d, hd, hf⟩
    have e02 := e1.trans e2
    have hk2 := kd_mono e2 hk
    -- copy
    refine q_asgP (P := fun _ v' H3 => Dp K H3 v' d) (ep_if (P := fun _ v' H3 => Dp K H3 v' d) (et_B (ev_isList (ev_var rfl) hd)) (fun hb H3 e3 Q' q' => by
        obtain ⟨r, xs, ds, rfl, rfl, hs, hall⟩ := list_of hd hb
        exact el_list (ev_var rfl) hs H3 e3 Q' fun u H4 nu e4 hu => q' _ _ e4 (.lst (sq_of hu) (dp_monoAll (e3.trans e4) ds xs hall))) (fun hb H3 e3 Q' q' => ev_var rfl H3 e3 Q' fun H4 e4 => q' _ _ e4 (dp_mono (e3.trans e4) d v hd))) ?_
    intro v' H3 e3 hd'
    have e03 := e02.trans e3
    -- due, told
    refine q_asg (v := .bl (within zs (ties ts) kd d)) (ev_call (vs := [.ref pl, .ref tl, .ref q, v]) (ea_cons (ev_var rfl) (ea_cons (ev_var rfl) (ea_cons (ev_var rfl) (ea_cons (ev_var rfl) ea_nil)))) fun H4 e4 Q' q' E' => ⟨pl, tl, zs, ts, q, kd, v, d, rfl, (e03.trans e4) _ _ hp, ht.mono (e03.trans e4), kd_mono (e3.trans e4) hk2, hin, dp_mono (e3.trans e4) d v hd, q'⟩) fun H4 e4 => ?_
    have e24 := e3.trans e4
    have e04 := e02.trans e24
    refine q_asg (v := .bl (within zs (ties ts) kd d)) (ev_call (vs := [.ref p, .ref q, v]) (ea_cons (ev_var rfl) (ea_cons (ev_var rfl) (ea_cons (ev_var rfl) ea_nil))) fun H5 e5 Q' q' E' => ⟨p, k, l, zs, us, q, kd, v, d, rfl, N.mono (e04.trans e5), by omega, kd_mono (e24.trans e5) hk2, hin, dp_mono (e24.trans e5) d v hd, by rw [hus]; exact q'⟩) fun H5 e5 => ?_
    have e25 := e24.trans e5
    have e05 := e02.trans e25
    refine q_when (b := false) (et_is (et_or (et_not (et_B (ev_isBool (ev_var rfl)))) (fun _ => et_or (et_test (ev_op (ev_var rfl) (ev_var rfl) (rv_ne rfl))) (fun _ => et_test (ev_op (ev_var rfl) (ev_var rfl) (rv_neD (dp_mono e25 d v hd) (dp_mono (e4.trans e5) d v' hd') (hf.shaped (by decide)) (hf.shaped (by decide))))))) (by
      rw [SeqAt.eqv_refl d hf.can]
      simp)) (fun e => by cases e) (fun _ H6 e6 => ?_)
    have e26 := e25.trans e6
    have e06 := e02.trans e26
    -- what is in the set
    refine q_forMs (G := fun m => m ∈ zs ∧ inKd (ties us) kd m) (ep_call (vs := [.ref p, .ref q]) (ea_cons (ev_var rfl) (ea_cons (ev_var rfl) ea_nil)) fun H7 e7 Q' E' q' => ⟨p, k, l, zs, us, q, kd, rfl, N.mono (e06.trans e7), kd_mono (e26.trans e7) hk2, hin, hends, by omega, fun r H8 ms _ e8 h1 h2 => q' _ _ e8 ⟨r, ms, rfl, h1, h2⟩⟩)
      (fun σ' => ∃ v9, σ' = [some (.ref p), some (.ref pl), some (.ref tl), some (.int c), some (.ref q), some v, some v', some (.bl (within zs (ties ts) kd d)), some (.bl (within zs (ties ts) kd d)), v9, none, none, none, none, none]) ⟨none, rfl⟩ ?_ ?_
    · rintro m H7 H8 σ' e7 e8 ⟨hm1, hm2⟩ ⟨v9, rfl⟩
      have e28 := e26.trans (e7.trans e8)
      cases hw : within zs (ties ts) kd d with
      | false => exact s_when (b := false) (et_is (et_and (et_B (ev_var rfl)) (b := false) (fun e => by cases e)) rfl) (fun e => by cases e) (fun _ H9 e9 => ⟨e8.trans e9, _, rfl⟩)
      | true =>
        obtain ⟨ys, rfl, hys⟩ := within_in hw
        obtain ⟨r, xs, ds, rfl, hds, hs, hall⟩ := list_of (dp_mono e28 _ v hd) rfl
        have e := PyData.list.inj hds
        subst e
        have e := dpAll_strs_inv hall
        subst e
        have hmy : m ∈ ys := hys m hm1 (by rw [← hus]; exact hm2)
        exact s_when (b := false) (et_is (et_and (et_B (ev_var rfl)) (fun _ => et_test (ev_op (ev_var rfl) (ev_var rfl) (rv_niL hs rfl (strs_flat ys))))) (by rw [inV_strs, decide_eq_true hmy]; rfl)) (fun e => by cases e) (fun _ H9 e9 => ⟨e8.trans e9, _, rfl⟩)
    rintro σ' H7 e7 ⟨v9, rfl⟩
    have e27 := e26.trans e7
    have e07 := e02.trans e27
    -- begin
    obtain ⟨j, b0, hj, hj', hb0, hb0m⟩ := mod_at (zs := zs) (c / 5) z1
    have hp7 : StrsAt H7 pl zs := e07 _ _ hp
    refine q_asg (v := .str b0) (ev_op (ev_var rfl) (ev_is (ev_op (ev_op (ev_var rfl) ev_c (rv_I ⟨by decide, by decide⟩)) (ev_lenR (er_at (ev_var rfl) hp7)) (rv_I (by rw [List.length_map]; omega))) (by rw [List.length_map, hj])) (rv_ixL (sq_of hp7) (strs_at hb0))) fun H8 e8 => ?_
    have hk8 := kd_mono (e27.trans e8) hk2
    obtain ⟨ws, hw8⟩ := kd_word hk8
    have hb1 : beginOf kd b0 ∈ zs := by
      cases kd with
      | frm a => exact hin
      | _ => exact hb0m
    refine q_ifAsg (v := .str (beginOf kd b0)) (et_test (ev_op (ev_ixTS (es_at (ev_var rfl) hw8) ev_c (atI_nat (j := 0) rfl)) ev_c (rv_eq rfl))) (fun hb => by
        cases kd with
        | frm a => exact ev_ixTS (es_at (ev_var rfl) hk8) ev_c rfl
        | all => exact absurd hb (by decide +kernel)
        | to a => exact absurd hb (by
            show ¬ decide (V.str (Str.ofString "to") = V.str (Str.ofString "from")) = true
            decide +kernel)
        | these ns => exact absurd hb (by
            show ¬ decide (V.str (Str.ofString "these") = V.str (Str.ofString "from")) = true
            decide +kernel)) (fun hb => by
        cases kd with
        | frm a => exact absurd hb (by
            show ¬ decide (V.str (Str.ofString "from") = V.str (Str.ofString "from")) = false
            decide +kernel)
        | _ => rfl) fun H9 e9 => ?_
    generalize beginOf kd b0 = b1 at hb1
    have e29 := (e27.trans e8).trans e9
    have e09 := e02.trans e29
    -- steps
    refine q_asgP (P := fun _ v H2 => ∃ r xs ds, v = .ref r ∧ H2 r = some (.lst xs) ∧ DpAll K H2 xs ds ∧ Fine 10 (.list ds)) (ep_call (vs := [.int (c / 11), .str b1, .ref tl]) (ea_cons (ev_op (ev_var rfl) ev_c (rv_I ⟨by decide, by decide⟩)) (ea_cons (ev_var rfl) (ea_cons (ev_var rfl) ea_nil)))
      fun H10 e10 Q' E' q' => ⟨_, b1, tl, ts, rfl, ht.mono (e09.trans e10), htok, h10, fun r xs ds H3 e3 h1 h2 h3 => q' _ _ e3 ⟨r, xs, ds, rfl, h1, h2, h3⟩⟩) ?_
    rintro _ H10 e10 ⟨r, xs, ds, rfl, hr10, hall, hfs⟩
    refine q_asgL (xs := xs) (el_list (ev_var rfl) (sq_of hr10)) fun u H11 nu e11 hu => ?_
    have e0b := (e09.trans e10).trans e11
    -- end
    refine q_asg (v := optV (goT (ties ts) b1 ds)) (ev_call (vs := [.ref tl, .str b1, .ref r]) (ea_cons (ev_var rfl) (ea_cons (ev_var rfl) (ea_cons (ev_var rfl) ea_nil))) fun H12 e12 Q' q' E' => ⟨tl, ts, b1, r, xs, ds, rfl, ht.mono (e0b.trans e12), htok, h10, sq_of ((e11.trans e12) _ _ hr10), dp_monoAll (e11.trans e12) ds xs hall, hfs, q'⟩) fun H12 e12 => ?_
    have eac := e11.trans e12
    have e0c := e0b.trans e12
    have hlist : ∀ H', Ex H10 H' → Dp K H' (.ref r) (.list ds) := fun H' e' => .lst (sq_of (e' _ _ hr10)) (dp_monoAll e' ds xs hall)
    have hcopy : ∀ H', Ex H11 H' → Dp K H' (.ref u) (.list ds) := fun H' e' => .lst (sq_of (e' _ _ hu)) (dp_monoAll (e11.trans e') ds xs hall)
    refine q_when (b := false) (et_is (et_or (et_test (ev_op (ev_call (vs := [.ref p, .str b1, .ref r]) (z := optV (goT (ties ts) b1 ds)) (ea_cons (ev_var rfl) (ea_cons (ev_var rfl) (ea_cons (ev_var rfl) ea_nil))) fun H13 e13 Q' q' E' => ⟨p, k, l, zs, us, b1, .ref r, .list ds, rfl, N.mono (e0c.trans e13), hlist H13 (eac.trans e13), by rw [hus]; exact q'⟩) (ev_var rfl) (rv_ne (scal_opt2 _))))
      (fun _ => et_test (ev_op (ev_var rfl) (ev_var rfl) (rv_neD (hlist H12 eac) (hcopy H12 e12) (hfs.shaped (by decide)) (hfs.shaped (by decide)))))) (by
        rw [SeqAt.eqv_refl _ hfs.can]
        simp)) (fun e => by cases e) (fun _ H13 e13 => ?_)
    have ead := eac.trans e13
    have ebd := e12.trans e13
    have e0d := e0c.trans e13
    refine q_asg (v := .str b1) (ev_var rfl) fun H14 e14 => ?_
    have eae := ead.trans e14
    have ebe := ebd.trans e14
    have e0e := e0d.trans e14
    have e2e : Ex H2 H14 := ((e29.trans e10).trans e11).trans ebe
    -- place
    refine q_cut (M := fun σ' H' => Ex H14 H' ∧ ∃ pz, pz ∈ zs ∧ σ' = [some (.ref p), some (.ref pl), some (.ref tl), some (.int c), some (.ref q), some v, some (.ref u), some (.bl (within zs (ties ts) kd d)), some (.bl (within zs (ties ts) kd d)), some (.str pz), some (.str b1), some (.ref r), some (optV (goT (ties ts) b1 ds)), none, none]) ?_ ?_
    · obtain ⟨ws, hwe⟩ := kd_word (kd_mono e2e hk2)
      refine s_when (et_test (ev_op (ev_ixTS (es_at (ev_var rfl) hwe) ev_c (atI_nat (j := 0) rfl)) ev_c (rv_ne rfl))) (fun _ H15 e15 => ?_) (fun _ H15 e15 => ⟨e15, b1, hb1, rfl⟩)
      refine q_asg (ev_var rfl) fun H16 e16 => ?_
      have hp16 : StrsAt H16 pl zs := (e0e.trans (e15.trans e16)) _ _ hp
      obtain ⟨j2, b2, hj2, hj2', hb2, hb2m⟩ := mod_at (zs := zs) (c / 9) z1
      refine s_when (b := decide (V.int (c % 3) = V.int 0) || decide (optV (goT (ties ts) b1 ds) = .non)) (et_or (et_test (ev_op (ev_op (ev_var rfl) ev_c (rv_I (by decide))) ev_c (rv_eq rfl))) (fun _ => et_test (ev_op (ev_var rfl) ev_c rv_isN))) (fun _ H17 e17 => ?_) (fun hb H17 e17 => ?_)
      · exact s_asg (v := .str b2) (ev_op (ev_var rfl) (ev_is (ev_op (ev_op (ev_var rfl) ev_c (rv_I ⟨by decide, by decide⟩)) (ev_lenR (er_at (ev_var rfl) (e17 _ _ hp16))) (rv_I (by rw [List.length_map]; omega))) (by rw [List.length_map, hj2])) (rv_ixL (sq_of (e17 _ _ hp16)) (strs_at hb2))) fun H18 e18 => ⟨((e15.trans e16).trans e17).trans e18, b2, hb2m, rfl⟩
      · cases he : goT (ties ts) b1 ds with
        | none =>
          rw [he] at hb
          have q := (Bool.or_eq_false_iff.mp hb).2
          exact absurd q (by decide)
        | some e => exact ⟨(e15.trans e16).trans e17, e, goT_in (fun t htt => (G.each t htt).2.2.1) hb1 he, rfl⟩
    rintro σ' H15 ⟨e15, pz, hpz, rfl⟩
    have eaf := eae.trans e15
    have ebf := ebe.trans e15
    have e2f := e2e.trans e15
    have e0f := e0e.trans e15
    -- what is no list, and tuples
    refine q_forGs (G := Odd) (n := 8) (egs_cons (eg_of ev_c (.int _) (odd_of fine_int rfl)) (egs_cons (eg_of ev_c (.str _) (odd_of (fine_str (by show PyData.strOk _ = true; decide +kernel)) rfl)) (egs_cons (eg_of ev_c .non (odd_of ⟨by unfold PyData.canLay0; rfl, by unfold PyData.depth; exact Nat.zero_le _⟩ rfl)) (egs_cons (eg_of ev_c (.bl _) (odd_of ⟨by unfold PyData.canLay0; rfl, by unfold PyData.depth; exact Nat.zero_le _⟩ rfl))
      (egs_cons (fun H16 e16 Q' q' => eu_tup ea_nil (by simp) H16 e16 Q' fun w H17 nw e17 hw => q' _ _ e17 ⟨.tuple [], .tup (st_of hw) .nil, odd_of (fine_tup (n := 59) fun d hd => by cases hd) rfl⟩)
      (egs_cons (fun H16 e16 Q' q' => eu_tupR (er_at (ev_var rfl) (eaf _ _ hr10)) H16 e16 Q' fun w H17 nw e17 hw => q' _ _ e17 ⟨.tuple ds, .tup (st_of hw) (dp_monoAll (eaf.trans (e16.trans e17)) ds xs hall), odd_of ((fine_tup (n := 9) hfs.mem).le (by decide)) rfl⟩)
      (egs_cons (eg_of ev_c (.int _) (odd_of fine_int rfl)) (egs_cons (fun H16 e16 Q' q' => el_lst (vs := [.ref r]) (ea_cons (ev_var rfl) ea_nil) (by simp) H16 e16 Q' fun w H17 nw e17 hw => q' _ _ e17 ⟨.list [.list ds], .lst (sq_of hw) (.cons (hlist H17 (eaf.trans (e16.trans e17))) .nil), odd_nest hfs⟩) egs_nil)))))))) (by decide)
      (fun σ' => ∃ v13, σ' = [some (.ref p), some (.ref pl), some (.ref tl), some (.int c), some (.ref q), some v, some (.ref u), some (.bl (within zs (ties ts) kd d)), some (.bl (within zs (ties ts) kd d)), some (.str pz), some (.str b1), some (.ref r), some (optV (goT (ties ts) b1 ds)), v13, none]) ⟨none, rfl⟩ ?_ ?_
    · rintro x o H16 H17 σ' e16 e17 ho hodd ⟨v13, rfl⟩
      have e1617 := e16.trans e17
      refine q_when (b := false) (et_is (et_or (et_test (ev_op (ev_call (vs := [.ref p, .ref q, .str pz, x]) (z := .bl false) (ea_cons (ev_var rfl) (ea_cons (ev_var rfl) (ea_cons (ev_var rfl) (ea_cons (ev_var rfl) ea_nil)))) fun H18 e18 Q' q' E' => ⟨p, k, l, zs, us, q, kd, pz, x, o, rfl, N.mono ((e0f.trans e1617).trans e18), kd_mono ((e2f.trans e1617).trans e18) hk2, dp_mono e18 o x ho, hodd.fine, by rw [hodd.member]; exact q'⟩) ev_c rv_notB))
        (fun _ => et_test (ev_op (ev_call (vs := [.ref p, .ref q, x]) (z := .bl false) (ea_cons (ev_var rfl) (ea_cons (ev_var rfl) (ea_cons (ev_var rfl) ea_nil))) fun H18 e18 Q' q' E' => ⟨p, k, l, zs, us, q, kd, x, o, rfl, N.mono ((e0f.trans e1617).trans e18), by omega, kd_mono ((e2f.trans e1617).trans e18) hk2, hin, dp_mono e18 o x ho, by rw [within_none (hodd.plist zs)]; exact q'⟩) ev_c rv_notB))) rfl) (fun e => by cases e) (fun _ H18 e18 => ?_)
      refine s_when (b := false) (et_is (et_and (et_not (et_B (ev_isList (ev_var rfl) (dp_mono e18 o x ho)))) (fun _ => et_test (ev_op (ev_call (vs := [.ref p, .str b1, x]) (z := .non) (ea_cons (ev_var rfl) (ea_cons (ev_var rfl) (ea_cons (ev_var rfl) ea_nil))) fun H19 e19 Q' q' E' => ⟨p, k, l, zs, us, b1, x, o, rfl, N.mono (((e0f.trans e1617).trans e18).trans e19), dp_mono (e18.trans e19) o x ho, by rw [hodd.walk]; exact q'⟩) ev_c rv_notN))) (by simp))
        (fun e => by cases e) (fun _ H19 e19 => ⟨(e17.trans e18).trans e19, _, rfl⟩)
    rintro σ' H16 e16 ⟨v13, rfl⟩
    have eag := eaf.trans e16
    have ebg := ebf.trans e16
    have e2g := e2f.trans e16
    have e0g := e0f.trans e16
    -- a tuple of the places
    refine q_when (b := false) (et_is (et_and (et_B (ev_isList (ev_var rfl) (dp_mono e2g d v hd))) (b := false) (fun hb => et_is (et_test (ev_op (ev_call3 (K := K) (G := fun d' => plist zs d' = none) (z := .bl false) (ev_var rfl) (ev_var rfl) (fun H17 e17 Q' q' => by
        obtain ⟨r2, xs2, ds2, rfl, rfl, hs2, hall2⟩ := list_of (dp_mono e2g d v hd) hb
        exact ev_var rfl H17 e17 _ fun H18 e18 => ⟨r2, xs2, rfl, .inl ⟨ex_l (e17.trans e18) hs2, fun w hw => q' (.ref w) _ (e18.trans (Ex.new hw)) ⟨.tuple ds2, .tup (st_of upd_same) (dp_monoAll ((e17.trans e18).trans (Ex.new hw)) ds2 xs2 hall2), rfl⟩⟩⟩)
        (fun w d' H17 e17 hd' hn H18 e18 Q' q' E' => ⟨p, k, l, zs, us, q, kd, w, d', rfl, N.mono ((e0g.trans e17).trans e18), by omega, kd_mono ((e2g.trans e17).trans e18) hk2, hin, dp_mono e18 d' w hd', by rw [within_none hn]; exact q'⟩)) ev_c rv_notB)) rfl)) (by simp)) (fun e => by cases e) (fun _ H17 e17 => ?_)
    have eah := eag.trans e17
    have ebh := ebg.trans e17
    have e2h := e2g.trans e17
    have e0h := e0g.trans e17
    -- the row of steps, and the empty one
    refine q_forGs (G := fun d' => isListD d' = true ∧ Fine 10 d') (n := 2) (egs_cons (eg_of (ev_var rfl) (hlist H17 eah) ⟨rfl, hfs⟩) (egs_cons (fun H18 e18 Q' q' => el_lst ea_nil (by simp) H18 e18 Q' fun w H19 nw e19 hw => q' _ _ e19 ⟨.list [], dp_nil hw, rfl, fine_nil⟩) egs_nil)) (by decide)
      (fun σ' => ∃ v8 v14, σ' = [some (.ref p), some (.ref pl), some (.ref tl), some (.int c), some (.ref q), some v, some (.ref u), some (.bl (within zs (ties ts) kd d)), v8, some (.str pz), some (.str b1), some (.ref r), some (optV (goT (ties ts) b1 ds)), v13, v14]) ⟨_, none, rfl⟩ ?_ ?_
    · rintro x o H18 H19 σ' e18 e19 ho ⟨hol, hof⟩ ⟨v8, v14, rfl⟩
      have e1819 := e18.trans e19
      obtain ⟨r2, xs2, ds2, rfl, rfl, hs2, hall2⟩ := list_of ho hol
      refine q_asg (v := .bl (memberK (ties ts) kd pz (.list ds2))) (ev_call (vs := [.ref p, .ref q, .str pz, .ref r2]) (ea_cons (ev_var rfl) (ea_cons (ev_var rfl) (ea_cons (ev_var rfl) (ea_cons (ev_var rfl) ea_nil)))) fun H20 e20 Q' q' E' => ⟨p, k, l, zs, us, q, kd, pz, .ref r2, .list ds2, rfl, N.mono ((e0h.trans e1819).trans e20), kd_mono ((e2h.trans e1819).trans e20) hk2, dp_mono e20 _ _ ho, hof.le (by decide), by rw [member_in hpz, hus]; exact q'⟩) fun H20 e20 => ?_
      refine s_when (b := false) (et_is (et_or (et_not (et_B (ev_isBool (ev_var rfl)))) (fun _ => et_test (ev_op (ev_var rfl) (ev_call (vs := [.ref pl, .ref tl, .ref q, .str pz, .ref r2]) (z := .bl (memberK (ties ts) kd pz (.list ds2))) (ea_cons (ev_var rfl) (ea_cons (ev_var rfl) (ea_cons (ev_var rfl) (ea_cons (ev_var rfl) (ea_cons (ev_var rfl) ea_nil)))))
        fun H21 e21 Q' q' E' => ⟨pl, tl, zs, ts, q, kd, pz, r2, xs2, ds2, rfl, (((e0h.trans e1819).trans e20).trans e21) _ _ hp, ht.mono (((e0h.trans e1819).trans e20).trans e21), htok, h10, kd_mono (((e2h.trans e1819).trans e20).trans e21) hk2, ex_l (e20.trans e21) hs2, dp_monoAll (e20.trans e21) ds2 xs2 hall2, hof, q'⟩) (rv_ne rfl)))) (by simp)) (fun e => by cases e) (fun _ H21 e21 => ⟨(e19.trans e20).trans e21, _, _, rfl⟩)
    rintro σ' H18 e18 ⟨v8, v14, rfl⟩
    refine s_ret (ev_is (ev_op (ev_var rfl) (ev_var rfl) (rv_eqD (hlist H18 (eah.trans e18)) (hcopy H18 (ebh.trans e18)) (hfs.shaped (by decide)) (hfs.shaped (by decide)))) (w := .bl true) (by rw [SeqAt.eqv_refl _ hfs.can])) fun H19 e19 => ?_
    exact g H19 ((e0h.trans e18).trans e19)
end
end Nc
/-! Part L: the law. -/
namespace Nc
open PySem L2 Evl
abbrev s_law : Stmt := top 37
theorem sc_law : FnScope ["_law_script", "_law_places", "_law_ties", "_law_net_here", "_law_cell"] ["_law_script"] (defScope s_law) := ⟨rfl, rfl, rfl, by decide +kernel, rfl, by decide +kernel, by decide +kernel⟩
section
variable {K : PySem.W.Frag} {σ : L2.St} {H : Hp} {te : TE} {D : Ends} {tz : TS}
theorem q_asgP2 {i j : Nat} {R : V → V → Hp → Prop} (h : EvP te σ H fun _ v H2 => ∃ q x y, v = V.ref q ∧ H2 q = some (.tup [x, y]) ∧ R x y H2) (k : ∀ x y H1, Ex H H1 → R x y H1 → tz D ((σ.set i (some x)).set j (some y)) H1) : tSeq (tAsg te (gTup K 2 (gCons (gName i) (gCons (gName j) gNil)))) tz D σ H :=
  h H (Ex.refl H) _ fun v H1 e1 ⟨q, x, y, ev, hq, hR⟩ => ⟨q, _, ev, st_of hq, rfl, _, _, rfl, _, _, rfl, rfl, k x y H1 e1 hR⟩
end
section
variable {P : Program} {w : World} {K : PySem.W.Frag} {mg : Str → Option Value} {base : Heap} {C : Addr}
theorem ok_law {f : Addr} {fd : FuncData} (F : Fun K "law" "law" s_law f fd) (T : Tx K C) (C__law_parts : Cl P w K mg base 2 "_law_parts" ["_law_script"] (spParts K)) (C__law_net : Cl P w K mg base 4 "_law_net" ["_law_places", "_law_ties"] (spNet C))
    (C__law_cell_at : Cl P w K mg base 1 "_law_cell_at" ["_law_script", "_law_k"] (spCell K)) (C__law_one : Cl P w K mg base 4 "_law_one" ["_law_net_here", "_law_places", "_law_ties", "_law_cell"] (spOne C)) (M1 : Mt P w K mg base C 1 "places" ["self"] (spPlaces C)) (M2 : Mt P w K mg base C 1 "ties" ["self"] (spTies C)) :
    FnOk P w K mg base CX0 5 f fd ["_law_script"] (spLaw K) := by
  obtain ⟨f_places, d_places, F_places, m_places, b_places⟩ := M1.ex
  obtain ⟨f_ties, d_ties, F_ties, m_ties, b_ties⟩ := M2.ex
  have cN := T.cl
  refine F.ok sc_law (fun vs H Q E h => ?_) (fun cdv A outer s H vs Q E hr h => ?_)
  · obtain ⟨a, ns, rfl, _⟩ := h
    rfl
  · obtain ⟨a, ns, rfl, hs, h63, g⟩ := h
    have nd := sc_law.nd
    refine ⟨_, (pss_cons (ps_asg (pe_def C__law_parts hr (pa_cons (pv 0) pa_nil)) (pg_tup (by rfl) (pgs_cons (pg_name (i := 1) nd rfl (Or.inl rfl)) (pgs_cons (pg_name (i := 2) nd rfl (Or.inl rfl)) pgs_nil))))
    (pss_cons (ps_set (i := 3) nd rfl (Or.inl rfl) (pe_def C__law_net hr (pa_cons (pv 1) (pa_cons (pv 2) pa_nil))))
    (pss_cons (ps_for PassesOwn.never rfl (pi_list (pe_op op_cat (pe_slice sl_list (pv 0) (po_some pe_int) (po_some pe_int)) (pe_lst (pa_cons (pe_def C__law_cell_at hr (pa_cons (pv 0) (pa_cons pe_int pa_nil))) (pa_cons (pe_def C__law_cell_at hr (pa_cons (pv 0) (pa_cons pe_int pa_nil))) pa_nil))))) (pg_name (i := 4) nd rfl (Or.inl rfl))
    (pss_one (ps_if (pt_not (pt_val (pe_def C__law_one hr (pa_cons (pv 3) (pa_cons (pv 1) (pa_cons (pv 2) (pa_cons (pv 4) pa_nil))))))) (pss_one (ps_ret pe_bl)) pss_nil)))
    (pss_one (ps_ret (pe_and (pe_cmpR (op_eqD hr.units) (pe_meth0 (pv 3) cN m_places F_places (hr.mono (by decide)) b_places .nil pass0) (pv 1) (nomark _)) (pe_one (pe_cmpR (op_eqD hr.units) (pe_meth0 (pv 3) cN m_ties F_ties (hr.mono (by decide)) b_ties .nil pass0) (pv 2) (nomark _))))))))), ?_⟩
    -- the parts
    refine q_asgP2 (R := fun x y H2 => ∃ pl tl zs ts, x = V.ref pl ∧ y = V.ref tl ∧ StrsAt H2 pl zs ∧ TiesAt H2 tl ts ∧ Good zs (ties ts)) (ep_call (P := fun v H2 => ∃ q x y, v = V.ref q ∧ H2 q = some (.tup [x, y]) ∧ ∃ pl tl zs ts, x = V.ref pl ∧ y = V.ref tl ∧ StrsAt H2 pl zs ∧ TiesAt H2 tl ts ∧ Good zs (ties ts)) (vs := [.ref a]) (ea_cons (ev_var rfl) ea_nil)
      fun H1 e1 Q' E' q' => ⟨a, ns, rfl, ex_l e1 hs, h63, fun q pl tl zs ts H2 e2 h1 h2 h3 h4 => q' _ _ e2 ⟨q, _, _, rfl, h1, pl, tl, zs, ts, rfl, rfl, h2, h3, h4⟩⟩) ?_
    rintro _ _ H1 e1 ⟨pl, tl, zs, ts, rfl, rfl, hp, ht, G⟩
    -- the net
    refine q_asgP (P := fun _ v H2 => ∃ p k l us, v = V.ref p ∧ NetIs C H2 p k l zs us ∧ ties us = ties ts) (ep_call (vs := [.ref pl, .ref tl]) (ea_cons (ev_var rfl) (ea_cons (ev_var rfl) ea_nil)) fun H2 e2 Q' E' q' => ⟨pl, tl, zs, ts, rfl, e2 _ _ hp, ht.mono e2, G, fun p k l us H3 e3 h1 h2 => q' _ _ e3 ⟨p, k, l, us, rfl, h1, h2⟩⟩) ?_
    rintro _ H2 e2 ⟨p, k, l, us, rfl, N, hus⟩
    have e02 := e1.trans e2
    have cell : ∀ (k : Nat) H3, Ex H2 H3 → SpV (spCell K) [.ref a, .int (k : Int)] H3 (.int (ns.getD k 0)) := fun k H3 e3 H4 e4 Q' q' E' => ⟨a, ns, k, rfl, ex_l ((e02.trans e3).trans e4) hs, q'⟩
    obtain ⟨cs, hcs, _, hcl, _⟩ := cutV_map V.int ns (some 14) (some 60)
    refine q_forNLn (xs := (cs ++ [ns.getD 0 0, ns.getD 3 0]).map V.int) (el_is (el_cat (er_new (el_is (el_sl (a := a) (xs := ns.map V.int) (ev_var rfl) (eo_some ev_c) (eo_some ev_c) (ex_l e02 hs)) hcs)) (er_new (el_lst (vs := [.int (ns.getD 0 0), .int (ns.getD 3 0)])
        (ea_cons (ev_call (vs := [.ref a, .int 0]) (ea_cons (ev_var rfl) (ea_cons ev_c ea_nil)) (cell 0 H2 (Ex.refl _))) (ea_cons (ev_call (vs := [.ref a, .int 3]) (ea_cons (ev_var rfl) (ea_cons ev_c ea_nil)) (cell 3 H2 (Ex.refl _))) ea_nil)) (by simp))) (by
          rw [List.length_map]
          show cs.length + 2 ≤ 100000
          omega)) (by rw [List.map_append]; rfl))
      (fun r i σ H' => Ex H2 H' ∧ H' r = some (.lst ((cs ++ [ns.getD 0 0, ns.getD 3 0]).map V.int)) ∧ ∃ v4, σ = [some (.ref a), some (.ref pl), some (.ref tl), some (.ref p), v4])
      (fun r H3 _ e3 h3 => ⟨e3, h3, none, rfl⟩) (fun r i σ' H' _ h => sq_of h.2.1) ?_ ?_
    · rintro r i x σ' H3 hi ⟨e3, h3, v4, rfl⟩
      obtain ⟨c, _, rfl⟩ := ints_get hi
      refine s_when (b := false) (et_is (et_not (et_B (ev_call (vs := [.ref p, .ref pl, .ref tl, .int c]) (z := .bl true) (ea_cons (ev_var rfl) (ea_cons (ev_var rfl) (ea_cons (ev_var rfl) (ea_cons (ev_var rfl) ea_nil)))) fun H4 e4 Q' q' E' => ⟨p, k, l, us, pl, tl, zs, ts, c, rfl, N.mono (e3.trans e4), hus, (e2.trans (e3.trans e4)) _ _ hp, ht.mono (e2.trans (e3.trans e4)), G, q'⟩))) rfl)
        (fun e => by cases e) (fun _ H4 e4 => ⟨e3.trans e4, e4 _ _ h3, _, rfl⟩)
    · rintro r σ' H3 ⟨e3, _, v4, rfl⟩
      have N3 := N.mono e3
      obtain ⟨⟨dx, ho⟩, hk, hl, nkl⟩ := id N3
      have hzok : ∀ z ∈ zs, sOk z := fun z hz => nm_ok (G.nm z hz)
      have htok : ∀ t ∈ ties ts, TOk t := fun t htt => by
        obtain ⟨h1, h2, h3, _⟩ := G.each t htt
        exact ⟨nm_ok h1, hzok _ h2, hzok _ h3⟩
      have f1 : Fine 60 (.list (zs.map PyData.str)) := (fine_strs (n := 0) hzok).le (by decide)
      have f2 : Fine 60 (.list ((ties ts).map tieD)) := (fine_ties (n := 0) htok).le (by decide)
      refine s_ret (ev_andV (a := true) (b := true) (ev_is (ev_opL1 (xs := zs.map V.str) (y := .ref pl) (el_meth (vs := []) (ev_var rfl) ho (nf_no k l (by decide +kernel) (by decide +kernel)) ea_nil fun H4 e4 Q' q' E' => ⟨p, k, l, zs, us, rfl, N3.mono e4, q'⟩) (fun H4 e4 => ev_var rfl)
          fun q H4 hq e4 => rv_eqD (.lst (sq_of hq) (dpAll_strs zs)) (.lst (sq_of ((e2.trans (e3.trans e4)) _ _ hp)) (dpAll_strs zs)) (f1.shaped (by decide)) (f1.shaped (by decide))) (by rw [SeqAt.eqv_refl _ f1.can]))
        (fun _ => ev_is (ev_opL1 (xs := refs us) (y := .ref tl) (el_meth (vs := []) (ev_var rfl) ho (nf_no k l (by decide +kernel) (by decide +kernel)) ea_nil fun H4 e4 Q' q' E' => ⟨p, k, l, zs, us, rfl, N3.mono e4, q'⟩) (fun H4 e4 => ev_var rfl)
          fun q H4 hq e4 => rv_eqD (d := .list ((ties us).map tieD)) (c := .list ((ties ts).map tieD)) (.lst (sq_of hq) (dpAll_ties (N3.mono e4).la.each)) (.lst (sq_of (ht.mono (e2.trans (e3.trans e4))).lst) (dpAll_ties (ht.mono (e2.trans (e3.trans e4))).each)) (by rw [hus]; exact f2.shaped (by decide)) (f2.shaped (by decide))) (by rw [hus, SeqAt.eqv_refl _ f2.can]))) fun H4 e4 => g H4
end
end Nc
/-! Part M: the end. -/
namespace Nc
open PySem L2 Evl
/-! ### what the top has left -/
theorem all_mk {l : PySem.W.OpenLaw} {w : World} {K : PySem.W.Frag} {h : Heap} {mg : Str → Option Value} {fa C : Addr} (X : K.In h) (G : h.Ns mainGlobals mg) (hfa : mg "law" = some (.ref fa))
    {f_init : Addr} {od_init an_init : Option Addr} {sl_init : Array (Option Value)} {oc_init kV_init dc_init pm_init cd_init ct_init : Value}
    {f_places : Addr} {od_places an_places : Option Addr} {sl_places : Array (Option Value)} {oc_places kV_places dc_places pm_places cd_places ct_places : Value}
    {f_ties : Addr} {od_ties an_ties : Option Addr} {sl_ties : Array (Option Value)} {oc_ties kV_ties dc_ties pm_ties cd_ties ct_ties : Value}
    {f_tie_named : Addr} {od_tie_named an_tie_named : Option Addr} {sl_tie_named : Array (Option Value)} {oc_tie_named kV_tie_named dc_tie_named pm_tie_named cd_tie_named ct_tie_named : Value}
    {f_place : Addr} {od_place an_place : Option Addr} {sl_place : Array (Option Value)} {oc_place kV_place dc_place pm_place cd_place ct_place : Value}
    {f_tie : Addr} {od_tie an_tie : Option Addr} {sl_tie : Array (Option Value)} {oc_tie kV_tie dc_tie pm_tie cd_tie ct_tie : Value}
    {f_is_name : Addr} {od_is_name an_is_name : Option Addr} {sl_is_name : Array (Option Value)} {oc_is_name kV_is_name dc_is_name pm_is_name cd_is_name ct_is_name : Value}
    {f_look_at_name : Addr} {od_look_at_name an_look_at_name : Option Addr} {sl_look_at_name : Array (Option Value)} {oc_look_at_name kV_look_at_name dc_look_at_name pm_look_at_name cd_look_at_name ct_look_at_name : Value}
    {f_walk_end : Addr} {od_walk_end an_walk_end : Option Addr} {sl_walk_end : Array (Option Value)} {oc_walk_end kV_walk_end dc_walk_end pm_walk_end cd_walk_end ct_walk_end : Value}
    {f_place_list : Addr} {od_place_list an_place_list : Option Addr} {sl_place_list : Array (Option Value)} {oc_place_list kV_place_list dc_place_list pm_place_list cd_place_list ct_place_list : Value}
    {f_is_closed : Addr} {od_is_closed an_is_closed : Option Addr} {sl_is_closed : Array (Option Value)} {oc_is_closed kV_is_closed dc_is_closed pm_is_closed cd_is_closed ct_is_closed : Value}
    {f_is_within : Addr} {od_is_within an_is_within : Option Addr} {sl_is_within : Array (Option Value)} {oc_is_within kV_is_within dc_is_within pm_is_within cd_is_within ct_is_within : Value}
    {f_is_member : Addr} {od_is_member an_is_member : Option Addr} {sl_is_member : Array (Option Value)} {oc_is_member kV_is_member dc_is_member pm_is_member cd_is_member ct_is_member : Value}
    {f_come_to : Addr} {od_come_to an_come_to : Option Addr} {sl_come_to : Array (Option Value)} {oc_come_to kV_come_to dc_come_to pm_come_to cd_come_to ct_come_to : Value}
    {f_members_of : Addr} {od_members_of an_members_of : Option Addr} {sl_members_of : Array (Option Value)} {oc_members_of kV_members_of dc_members_of pm_members_of cd_members_of ct_members_of : Value}
    {f_Lcell_at : Addr} {od_Lcell_at an_Lcell_at : Option Addr} {sl_Lcell_at : Array (Option Value)} {oc_Lcell_at kV_Lcell_at dc_Lcell_at pm_Lcell_at cd_Lcell_at ct_Lcell_at : Value}
    {f_Lname : Addr} {od_Lname an_Lname : Option Addr} {sl_Lname : Array (Option Value)} {oc_Lname kV_Lname dc_Lname pm_Lname cd_Lname ct_Lname : Value}
    {f_Lparts : Addr} {od_Lparts an_Lparts : Option Addr} {sl_Lparts : Array (Option Value)} {oc_Lparts kV_Lparts dc_Lparts pm_Lparts cd_Lparts ct_Lparts : Value}
    {f_Lnet : Addr} {od_Lnet an_Lnet : Option Addr} {sl_Lnet : Array (Option Value)} {oc_Lnet kV_Lnet dc_Lnet pm_Lnet cd_Lnet ct_Lnet : Value}
    {f_Lkind : Addr} {od_Lkind an_Lkind : Option Addr} {sl_Lkind : Array (Option Value)} {oc_Lkind kV_Lkind dc_Lkind pm_Lkind cd_Lkind ct_Lkind : Value}
    {f_Llisted : Addr} {od_Llisted an_Llisted : Option Addr} {sl_Llisted : Array (Option Value)} {oc_Llisted kV_Llisted dc_Llisted pm_Llisted cd_Llisted ct_Llisted : Value}
    {f_Lsteps : Addr} {od_Lsteps an_Lsteps : Option Addr} {sl_Lsteps : Array (Option Value)} {oc_Lsteps kV_Lsteps dc_Lsteps pm_Lsteps cd_Lsteps ct_Lsteps : Value}
    {f_Lwithin : Addr} {od_Lwithin an_Lwithin : Option Addr} {sl_Lwithin : Array (Option Value)} {oc_Lwithin kV_Lwithin dc_Lwithin pm_Lwithin cd_Lwithin ct_Lwithin : Value}
    {f_Lend : Addr} {od_Lend an_Lend : Option Addr} {sl_Lend : Array (Option Value)} {oc_Lend kV_Lend dc_Lend pm_Lend cd_Lend ct_Lend : Value}
    {f_Lmember : Addr} {od_Lmember an_Lmember : Option Addr} {sl_Lmember : Array (Option Value)} {oc_Lmember kV_Lmember dc_Lmember pm_Lmember cd_Lmember ct_Lmember : Value}
    {f_Lone : Addr} {od_Lone an_Lone : Option Addr} {sl_Lone : Array (Option Value)} {oc_Lone kV_Lone dc_Lone pm_Lone cd_Lone ct_Lone : Value}
    {f_law : Addr} {od_law an_law : Option Addr} {sl_law : Array (Option Value)} {oc_law kV_law dc_law pm_law cd_law ct_law : Value}
    {t_LETTERS : Tok}
    {t_LONGEST_NAME : Tok}
    {t_MOST_PLACES : Tok}
    {t_MOST_TIES : Tok}
    (aC : PySem.W.nsIn K mainGlobals "Net" = some (some (.ref C)))
    (a_init : PySem.W.findIn K (.ref C) "__init__" = some (some (.ref f_init)))
    (i_init : PySem.W.isFn K (.ref f_init) = true)
    (l_init : K.lookup f_init = some ⟨oc_init, od_init, .func (PySem.W.fnOf "__init__" "Net.__init__" (defArgs s_init) (defBody s_init) (defScope s_init) .none kV_init dc_init pm_init an_init cd_init ct_init), sl_init⟩)
    (c_init : PySem.W.codeIn K cd_init "Net.__init__" = true)
    (k_init : PySem.W.keepIn K (.ref f_init) = true)
    (a_places : PySem.W.findIn K (.ref C) "places" = some (some (.ref f_places)))
    (i_places : PySem.W.isFn K (.ref f_places) = true)
    (l_places : K.lookup f_places = some ⟨oc_places, od_places, .func (PySem.W.fnOf "places" "Net.places" (defArgs s_places) (defBody s_places) (defScope s_places) .none kV_places dc_places pm_places an_places cd_places ct_places), sl_places⟩)
    (c_places : PySem.W.codeIn K cd_places "Net.places" = true)
    (k_places : PySem.W.keepIn K (.ref f_places) = true)
    (a_ties : PySem.W.findIn K (.ref C) "ties" = some (some (.ref f_ties)))
    (i_ties : PySem.W.isFn K (.ref f_ties) = true)
    (l_ties : K.lookup f_ties = some ⟨oc_ties, od_ties, .func (PySem.W.fnOf "ties" "Net.ties" (defArgs s_ties) (defBody s_ties) (defScope s_ties) .none kV_ties dc_ties pm_ties an_ties cd_ties ct_ties), sl_ties⟩)
    (c_ties : PySem.W.codeIn K cd_ties "Net.ties" = true)
    (k_ties : PySem.W.keepIn K (.ref f_ties) = true)
    (a_tie_named : PySem.W.findIn K (.ref C) "tie_named" = some (some (.ref f_tie_named)))
    (i_tie_named : PySem.W.isFn K (.ref f_tie_named) = true)
    (l_tie_named : K.lookup f_tie_named = some ⟨oc_tie_named, od_tie_named, .func (PySem.W.fnOf "tie_named" "Net.tie_named" (defArgs s_tie_named) (defBody s_tie_named) (defScope s_tie_named) .none kV_tie_named dc_tie_named pm_tie_named an_tie_named cd_tie_named ct_tie_named), sl_tie_named⟩)
    (c_tie_named : PySem.W.codeIn K cd_tie_named "Net.tie_named" = true)
    (k_tie_named : PySem.W.keepIn K (.ref f_tie_named) = true)
    (a_place : PySem.W.findIn K (.ref C) "place" = some (some (.ref f_place)))
    (i_place : PySem.W.isFn K (.ref f_place) = true)
    (l_place : K.lookup f_place = some ⟨oc_place, od_place, .func (PySem.W.fnOf "place" "Net.place" (defArgs s_place) (defBody s_place) (defScope s_place) .none kV_place dc_place pm_place an_place cd_place ct_place), sl_place⟩)
    (c_place : PySem.W.codeIn K cd_place "Net.place" = true)
    (k_place : PySem.W.keepIn K (.ref f_place) = true)
    (a_tie : PySem.W.findIn K (.ref C) "tie" = some (some (.ref f_tie)))
    (i_tie : PySem.W.isFn K (.ref f_tie) = true)
    (l_tie : K.lookup f_tie = some ⟨oc_tie, od_tie, .func (PySem.W.fnOf "tie" "Net.tie" (defArgs s_tie) (defBody s_tie) (defScope s_tie) .none kV_tie dc_tie pm_tie an_tie cd_tie ct_tie), sl_tie⟩)
    (c_tie : PySem.W.codeIn K cd_tie "Net.tie" = true)
    (k_tie : PySem.W.keepIn K (.ref f_tie) = true)
    (a_is_name : PySem.W.nsIn K mainGlobals "is_name" = some (some (.ref f_is_name)))
    (l_is_name : K.lookup f_is_name = some ⟨oc_is_name, od_is_name, .func (PySem.W.fnOf "is_name" "is_name" (defArgs s_is_name) (defBody s_is_name) (defScope s_is_name) .none kV_is_name dc_is_name pm_is_name an_is_name cd_is_name ct_is_name), sl_is_name⟩)
    (c_is_name : PySem.W.codeIn K cd_is_name "is_name" = true)
    (k_is_name : PySem.W.keepIn K (.ref f_is_name) = true)
    (a_look_at_name : PySem.W.nsIn K mainGlobals "look_at_name" = some (some (.ref f_look_at_name)))
    (l_look_at_name : K.lookup f_look_at_name = some ⟨oc_look_at_name, od_look_at_name, .func (PySem.W.fnOf "look_at_name" "look_at_name" (defArgs s_look_at_name) (defBody s_look_at_name) (defScope s_look_at_name) .none kV_look_at_name dc_look_at_name pm_look_at_name an_look_at_name cd_look_at_name ct_look_at_name), sl_look_at_name⟩)
    (c_look_at_name : PySem.W.codeIn K cd_look_at_name "look_at_name" = true)
    (k_look_at_name : PySem.W.keepIn K (.ref f_look_at_name) = true)
    (a_walk_end : PySem.W.nsIn K mainGlobals "walk_end" = some (some (.ref f_walk_end)))
    (l_walk_end : K.lookup f_walk_end = some ⟨oc_walk_end, od_walk_end, .func (PySem.W.fnOf "walk_end" "walk_end" (defArgs s_walk_end) (defBody s_walk_end) (defScope s_walk_end) .none kV_walk_end dc_walk_end pm_walk_end an_walk_end cd_walk_end ct_walk_end), sl_walk_end⟩)
    (c_walk_end : PySem.W.codeIn K cd_walk_end "walk_end" = true)
    (k_walk_end : PySem.W.keepIn K (.ref f_walk_end) = true)
    (a_place_list : PySem.W.nsIn K mainGlobals "place_list" = some (some (.ref f_place_list)))
    (l_place_list : K.lookup f_place_list = some ⟨oc_place_list, od_place_list, .func (PySem.W.fnOf "place_list" "place_list" (defArgs s_place_list) (defBody s_place_list) (defScope s_place_list) .none kV_place_list dc_place_list pm_place_list an_place_list cd_place_list ct_place_list), sl_place_list⟩)
    (c_place_list : PySem.W.codeIn K cd_place_list "place_list" = true)
    (k_place_list : PySem.W.keepIn K (.ref f_place_list) = true)
    (a_is_closed : PySem.W.nsIn K mainGlobals "is_closed" = some (some (.ref f_is_closed)))
    (l_is_closed : K.lookup f_is_closed = some ⟨oc_is_closed, od_is_closed, .func (PySem.W.fnOf "is_closed" "is_closed" (defArgs s_is_closed) (defBody s_is_closed) (defScope s_is_closed) .none kV_is_closed dc_is_closed pm_is_closed an_is_closed cd_is_closed ct_is_closed), sl_is_closed⟩)
    (c_is_closed : PySem.W.codeIn K cd_is_closed "is_closed" = true)
    (k_is_closed : PySem.W.keepIn K (.ref f_is_closed) = true)
    (a_is_within : PySem.W.nsIn K mainGlobals "is_within" = some (some (.ref f_is_within)))
    (l_is_within : K.lookup f_is_within = some ⟨oc_is_within, od_is_within, .func (PySem.W.fnOf "is_within" "is_within" (defArgs s_is_within) (defBody s_is_within) (defScope s_is_within) .none kV_is_within dc_is_within pm_is_within an_is_within cd_is_within ct_is_within), sl_is_within⟩)
    (c_is_within : PySem.W.codeIn K cd_is_within "is_within" = true)
    (k_is_within : PySem.W.keepIn K (.ref f_is_within) = true)
    (a_is_member : PySem.W.nsIn K mainGlobals "is_member" = some (some (.ref f_is_member)))
    (l_is_member : K.lookup f_is_member = some ⟨oc_is_member, od_is_member, .func (PySem.W.fnOf "is_member" "is_member" (defArgs s_is_member) (defBody s_is_member) (defScope s_is_member) .none kV_is_member dc_is_member pm_is_member an_is_member cd_is_member ct_is_member), sl_is_member⟩)
    (c_is_member : PySem.W.codeIn K cd_is_member "is_member" = true)
    (k_is_member : PySem.W.keepIn K (.ref f_is_member) = true)
    (a_come_to : PySem.W.nsIn K mainGlobals "come_to" = some (some (.ref f_come_to)))
    (l_come_to : K.lookup f_come_to = some ⟨oc_come_to, od_come_to, .func (PySem.W.fnOf "come_to" "come_to" (defArgs s_come_to) (defBody s_come_to) (defScope s_come_to) .none kV_come_to dc_come_to pm_come_to an_come_to cd_come_to ct_come_to), sl_come_to⟩)
    (c_come_to : PySem.W.codeIn K cd_come_to "come_to" = true)
    (k_come_to : PySem.W.keepIn K (.ref f_come_to) = true)
    (a_members_of : PySem.W.nsIn K mainGlobals "members_of" = some (some (.ref f_members_of)))
    (l_members_of : K.lookup f_members_of = some ⟨oc_members_of, od_members_of, .func (PySem.W.fnOf "members_of" "members_of" (defArgs s_members_of) (defBody s_members_of) (defScope s_members_of) .none kV_members_of dc_members_of pm_members_of an_members_of cd_members_of ct_members_of), sl_members_of⟩)
    (c_members_of : PySem.W.codeIn K cd_members_of "members_of" = true)
    (k_members_of : PySem.W.keepIn K (.ref f_members_of) = true)
    (a_Lcell_at : PySem.W.nsIn K mainGlobals "_law_cell_at" = some (some (.ref f_Lcell_at)))
    (l_Lcell_at : K.lookup f_Lcell_at = some ⟨oc_Lcell_at, od_Lcell_at, .func (PySem.W.fnOf "_law_cell_at" "_law_cell_at" (defArgs s_Lcell_at) (defBody s_Lcell_at) (defScope s_Lcell_at) .none kV_Lcell_at dc_Lcell_at pm_Lcell_at an_Lcell_at cd_Lcell_at ct_Lcell_at), sl_Lcell_at⟩)
    (c_Lcell_at : PySem.W.codeIn K cd_Lcell_at "_law_cell_at" = true)
    (k_Lcell_at : PySem.W.keepIn K (.ref f_Lcell_at) = true)
    (a_Lname : PySem.W.nsIn K mainGlobals "_law_name" = some (some (.ref f_Lname)))
    (l_Lname : K.lookup f_Lname = some ⟨oc_Lname, od_Lname, .func (PySem.W.fnOf "_law_name" "_law_name" (defArgs s_Lname) (defBody s_Lname) (defScope s_Lname) .none kV_Lname dc_Lname pm_Lname an_Lname cd_Lname ct_Lname), sl_Lname⟩)
    (c_Lname : PySem.W.codeIn K cd_Lname "_law_name" = true)
    (k_Lname : PySem.W.keepIn K (.ref f_Lname) = true)
    (a_Lparts : PySem.W.nsIn K mainGlobals "_law_parts" = some (some (.ref f_Lparts)))
    (l_Lparts : K.lookup f_Lparts = some ⟨oc_Lparts, od_Lparts, .func (PySem.W.fnOf "_law_parts" "_law_parts" (defArgs s_Lparts) (defBody s_Lparts) (defScope s_Lparts) .none kV_Lparts dc_Lparts pm_Lparts an_Lparts cd_Lparts ct_Lparts), sl_Lparts⟩)
    (c_Lparts : PySem.W.codeIn K cd_Lparts "_law_parts" = true)
    (k_Lparts : PySem.W.keepIn K (.ref f_Lparts) = true)
    (a_Lnet : PySem.W.nsIn K mainGlobals "_law_net" = some (some (.ref f_Lnet)))
    (l_Lnet : K.lookup f_Lnet = some ⟨oc_Lnet, od_Lnet, .func (PySem.W.fnOf "_law_net" "_law_net" (defArgs s_Lnet) (defBody s_Lnet) (defScope s_Lnet) .none kV_Lnet dc_Lnet pm_Lnet an_Lnet cd_Lnet ct_Lnet), sl_Lnet⟩)
    (c_Lnet : PySem.W.codeIn K cd_Lnet "_law_net" = true)
    (k_Lnet : PySem.W.keepIn K (.ref f_Lnet) = true)
    (a_Lkind : PySem.W.nsIn K mainGlobals "_law_kind" = some (some (.ref f_Lkind)))
    (l_Lkind : K.lookup f_Lkind = some ⟨oc_Lkind, od_Lkind, .func (PySem.W.fnOf "_law_kind" "_law_kind" (defArgs s_Lkind) (defBody s_Lkind) (defScope s_Lkind) .none kV_Lkind dc_Lkind pm_Lkind an_Lkind cd_Lkind ct_Lkind), sl_Lkind⟩)
    (c_Lkind : PySem.W.codeIn K cd_Lkind "_law_kind" = true)
    (k_Lkind : PySem.W.keepIn K (.ref f_Lkind) = true)
    (a_Llisted : PySem.W.nsIn K mainGlobals "_law_listed" = some (some (.ref f_Llisted)))
    (l_Llisted : K.lookup f_Llisted = some ⟨oc_Llisted, od_Llisted, .func (PySem.W.fnOf "_law_listed" "_law_listed" (defArgs s_Llisted) (defBody s_Llisted) (defScope s_Llisted) .none kV_Llisted dc_Llisted pm_Llisted an_Llisted cd_Llisted ct_Llisted), sl_Llisted⟩)
    (c_Llisted : PySem.W.codeIn K cd_Llisted "_law_listed" = true)
    (k_Llisted : PySem.W.keepIn K (.ref f_Llisted) = true)
    (a_Lsteps : PySem.W.nsIn K mainGlobals "_law_steps" = some (some (.ref f_Lsteps)))
    (l_Lsteps : K.lookup f_Lsteps = some ⟨oc_Lsteps, od_Lsteps, .func (PySem.W.fnOf "_law_steps" "_law_steps" (defArgs s_Lsteps) (defBody s_Lsteps) (defScope s_Lsteps) .none kV_Lsteps dc_Lsteps pm_Lsteps an_Lsteps cd_Lsteps ct_Lsteps), sl_Lsteps⟩)
    (c_Lsteps : PySem.W.codeIn K cd_Lsteps "_law_steps" = true)
    (k_Lsteps : PySem.W.keepIn K (.ref f_Lsteps) = true)
    (a_Lwithin : PySem.W.nsIn K mainGlobals "_law_within" = some (some (.ref f_Lwithin)))
    (l_Lwithin : K.lookup f_Lwithin = some ⟨oc_Lwithin, od_Lwithin, .func (PySem.W.fnOf "_law_within" "_law_within" (defArgs s_Lwithin) (defBody s_Lwithin) (defScope s_Lwithin) .none kV_Lwithin dc_Lwithin pm_Lwithin an_Lwithin cd_Lwithin ct_Lwithin), sl_Lwithin⟩)
    (c_Lwithin : PySem.W.codeIn K cd_Lwithin "_law_within" = true)
    (k_Lwithin : PySem.W.keepIn K (.ref f_Lwithin) = true)
    (a_Lend : PySem.W.nsIn K mainGlobals "_law_end" = some (some (.ref f_Lend)))
    (l_Lend : K.lookup f_Lend = some ⟨oc_Lend, od_Lend, .func (PySem.W.fnOf "_law_end" "_law_end" (defArgs s_Lend) (defBody s_Lend) (defScope s_Lend) .none kV_Lend dc_Lend pm_Lend an_Lend cd_Lend ct_Lend), sl_Lend⟩)
    (c_Lend : PySem.W.codeIn K cd_Lend "_law_end" = true)
    (k_Lend : PySem.W.keepIn K (.ref f_Lend) = true)
    (a_Lmember : PySem.W.nsIn K mainGlobals "_law_member" = some (some (.ref f_Lmember)))
    (l_Lmember : K.lookup f_Lmember = some ⟨oc_Lmember, od_Lmember, .func (PySem.W.fnOf "_law_member" "_law_member" (defArgs s_Lmember) (defBody s_Lmember) (defScope s_Lmember) .none kV_Lmember dc_Lmember pm_Lmember an_Lmember cd_Lmember ct_Lmember), sl_Lmember⟩)
    (c_Lmember : PySem.W.codeIn K cd_Lmember "_law_member" = true)
    (k_Lmember : PySem.W.keepIn K (.ref f_Lmember) = true)
    (a_Lone : PySem.W.nsIn K mainGlobals "_law_one" = some (some (.ref f_Lone)))
    (l_Lone : K.lookup f_Lone = some ⟨oc_Lone, od_Lone, .func (PySem.W.fnOf "_law_one" "_law_one" (defArgs s_Lone) (defBody s_Lone) (defScope s_Lone) .none kV_Lone dc_Lone pm_Lone an_Lone cd_Lone ct_Lone), sl_Lone⟩)
    (c_Lone : PySem.W.codeIn K cd_Lone "_law_one" = true)
    (k_Lone : PySem.W.keepIn K (.ref f_Lone) = true)
    (a_law : PySem.W.nsIn K mainGlobals "law" = some (some (.ref f_law)))
    (l_law : K.lookup f_law = some ⟨oc_law, od_law, .func (PySem.W.fnOf "law" "law" (defArgs s_law) (defBody s_law) (defScope s_law) .none kV_law dc_law pm_law an_law cd_law ct_law), sl_law⟩)
    (c_law : PySem.W.codeIn K cd_law "law" = true)
    (k_law : PySem.W.keepIn K (.ref f_law) = true)
    (pgC : PySem.W.plainGet K C Str.empty = true)
    (hdC : PySem.W.hasDictIn K C = true)
    (poC : PySem.W.plainOver K C = true)
    (saC : PySem.W.findIn K (.ref C) "__setattr__" = some (some (.builtin "object.__setattr__")))
    (mkC : PySem.W.makesIn K C = true)
    (kcC : PySem.W.keepIn K (.ref C) = true)
    (nK : PySem.W.findIn K (.ref C) "known" = some none)
    (nL : PySem.W.findIn K (.ref C) "laid" = some none)
    (z_len : PySem.W.nsIn K mainGlobals "len" = some none)
    (z_list : PySem.W.nsIn K mainGlobals "list" = some none)
    (z_isinstance : PySem.W.nsIn K mainGlobals "isinstance" = some none)
    (z_str : PySem.W.nsIn K mainGlobals "str" = some none)
    (z_range : PySem.W.nsIn K mainGlobals "range" = some none)
    (z_enumerate : PySem.W.nsIn K mainGlobals "enumerate" = some none)
    (z_max : PySem.W.nsIn K mainGlobals "max" = some none)
    (z_reversed : PySem.W.nsIn K mainGlobals "reversed" = some none)
    (z_tuple : PySem.W.nsIn K mainGlobals "tuple" = some none)
    (z_bool : PySem.W.nsIn K mainGlobals "bool" = some none)
    (g_LETTERS : PySem.W.nsIn K mainGlobals "LETTERS" = some (some (.str "abcdefghijklmnopqrstuvwxyz" t_LETTERS)))
    (g_LONGEST_NAME : PySem.W.nsIn K mainGlobals "LONGEST_NAME" = some (some (.int 12 t_LONGEST_NAME)))
    (g_MOST_PLACES : PySem.W.nsIn K mainGlobals "MOST_PLACES" = some (some (.int 20 t_MOST_PLACES)))
    (g_MOST_TIES : PySem.W.nsIn K mainGlobals "MOST_TIES" = some (some (.int 40 t_MOST_TIES))) :
    ∃ fd : FuncData, (∀ (s : Shared) (v : Value), BindsTo s fd ⟨[v], []⟩ [("_law_script", v)]) ∧ ∀ base : Heap, K.In base → base.Ns mainGlobals mg → FnOk l.prog w K mg base CX0 5 fa fd ["_law_script"] (spLaw K) := by
  have e := hfa.symm.trans (PySem.W.mg_of X G a_law)
  cases e
  have T : Tx K C := ⟨⟨pgC, hdC, poC, saC⟩, nK, nL⟩
  have B : Blt mg := ⟨PySem.W.mg_none_of X G z_len, PySem.W.mg_none_of X G z_list, PySem.W.mg_none_of X G z_isinstance, PySem.W.mg_none_of X G z_str, PySem.W.mg_none_of X G z_range, PySem.W.mg_none_of X G z_enumerate, PySem.W.mg_none_of X G z_max, PySem.W.mg_none_of X G z_reversed, PySem.W.mg_none_of X G z_tuple, PySem.W.mg_none_of X G z_bool⟩
  have Gl : Glo mg := ⟨⟨_, PySem.W.mg_of X G g_LETTERS, ⟨_, rfl⟩⟩, ⟨_, PySem.W.mg_of X G g_LONGEST_NAME, ⟨_, rfl⟩⟩, ⟨_, PySem.W.mg_of X G g_MOST_PLACES, ⟨_, rfl⟩⟩, ⟨_, PySem.W.mg_of X G g_MOST_TIES, ⟨_, rfl⟩⟩⟩
  have F_init := fun_mk (st := s_init) l_init c_init k_init
  have b_init := F_init.binds (ps := ["self"]) fun _ _ _ _ _ _ us hl => match us, hl with | [_], _ => rfl
  have F_places := fun_mk (st := s_places) l_places c_places k_places
  have b_places := F_places.binds (ps := ["self"]) fun _ _ _ _ _ _ us hl => match us, hl with | [_], _ => rfl
  have F_ties := fun_mk (st := s_ties) l_ties c_ties k_ties
  have b_ties := F_ties.binds (ps := ["self"]) fun _ _ _ _ _ _ us hl => match us, hl with | [_], _ => rfl
  have F_tie_named := fun_mk (st := s_tie_named) l_tie_named c_tie_named k_tie_named
  have b_tie_named := F_tie_named.binds (ps := ["self", "name"]) fun _ _ _ _ _ _ us hl => match us, hl with | [_, _], _ => rfl
  have F_place := fun_mk (st := s_place) l_place c_place k_place
  have b_place := F_place.binds (ps := ["self", "name"]) fun _ _ _ _ _ _ us hl => match us, hl with | [_, _], _ => rfl
  have F_tie := fun_mk (st := s_tie) l_tie c_tie k_tie
  have b_tie := F_tie.binds (ps := ["self", "name", "a", "b", "width", "cost"]) fun _ _ _ _ _ _ us hl => match us, hl with | [_, _, _, _, _, _], _ => rfl
  have F_is_name := fun_mk (st := s_is_name) l_is_name c_is_name k_is_name
  have b_is_name := F_is_name.binds (ps := ["text"]) fun _ _ _ _ _ _ us hl => match us, hl with | [_], _ => rfl
  have F_look_at_name := fun_mk (st := s_look_at_name) l_look_at_name c_look_at_name k_look_at_name
  have b_look_at_name := F_look_at_name.binds (ps := ["text"]) fun _ _ _ _ _ _ us hl => match us, hl with | [_], _ => rfl
  have F_walk_end := fun_mk (st := s_walk_end) l_walk_end c_walk_end k_walk_end
  have b_walk_end := F_walk_end.binds (ps := ["net", "a", "paper"]) fun _ _ _ _ _ _ us hl => match us, hl with | [_, _, _], _ => rfl
  have F_place_list := fun_mk (st := s_place_list) l_place_list c_place_list k_place_list
  have b_place_list := F_place_list.binds (ps := ["net", "paper"]) fun _ _ _ _ _ _ us hl => match us, hl with | [_, _], _ => rfl
  have F_is_closed := fun_mk (st := s_is_closed) l_is_closed c_is_closed k_is_closed
  have b_is_closed := F_is_closed.binds (ps := ["net", "listed", "forth"]) fun _ _ _ _ _ _ us hl => match us, hl with | [_, _, _], _ => rfl
  have F_is_within := fun_mk (st := s_is_within) l_is_within c_is_within k_is_within
  have b_is_within := F_is_within.binds (ps := ["net", "kind", "paper"]) fun _ _ _ _ _ _ us hl => match us, hl with | [_, _, _], _ => rfl
  have F_is_member := fun_mk (st := s_is_member) l_is_member c_is_member k_is_member
  have b_is_member := F_is_member.binds (ps := ["net", "kind", "place", "paper"]) fun _ _ _ _ _ _ us hl => match us, hl with | [_, _, _, _], _ => rfl
  have F_come_to := fun_mk (st := s_come_to) l_come_to c_come_to k_come_to
  have b_come_to := F_come_to.binds (ps := ["net", "a", "forth", "shut"]) fun _ _ _ _ _ _ us hl => match us, hl with | [_, _, _, _], _ => rfl
  have F_members_of := fun_mk (st := s_members_of) l_members_of c_members_of k_members_of
  have b_members_of := F_members_of.binds (ps := ["net", "kind"]) fun _ _ _ _ _ _ us hl => match us, hl with | [_, _], _ => rfl
  have F_Lcell_at := fun_mk (st := s_Lcell_at) l_Lcell_at c_Lcell_at k_Lcell_at
  have b_Lcell_at := F_Lcell_at.binds (ps := ["_law_script", "_law_k"]) fun _ _ _ _ _ _ us hl => match us, hl with | [_, _], _ => rfl
  have F_Lname := fun_mk (st := s_Lname) l_Lname c_Lname k_Lname
  have b_Lname := F_Lname.binds (ps := ["_law_cell", "_law_k"]) fun _ _ _ _ _ _ us hl => match us, hl with | [_, _], _ => rfl
  have F_Lparts := fun_mk (st := s_Lparts) l_Lparts c_Lparts k_Lparts
  have b_Lparts := F_Lparts.binds (ps := ["_law_script"]) fun _ _ _ _ _ _ us hl => match us, hl with | [_], _ => rfl
  have F_Lnet := fun_mk (st := s_Lnet) l_Lnet c_Lnet k_Lnet
  have b_Lnet := F_Lnet.binds (ps := ["_law_places", "_law_ties"]) fun _ _ _ _ _ _ us hl => match us, hl with | [_, _], _ => rfl
  have F_Lkind := fun_mk (st := s_Lkind) l_Lkind c_Lkind k_Lkind
  have b_Lkind := F_Lkind.binds (ps := ["_law_cell", "_law_places"]) fun _ _ _ _ _ _ us hl => match us, hl with | [_, _], _ => rfl
  have F_Llisted := fun_mk (st := s_Llisted) l_Llisted c_Llisted k_Llisted
  have b_Llisted := F_Llisted.binds (ps := ["_law_cell", "_law_places", "_law_ties", "_law_kind_here"]) fun _ _ _ _ _ _ us hl => match us, hl with | [_, _, _, _], _ => rfl
  have F_Lsteps := fun_mk (st := s_Lsteps) l_Lsteps c_Lsteps k_Lsteps
  have b_Lsteps := F_Lsteps.binds (ps := ["_law_cell", "_law_place", "_law_ties"]) fun _ _ _ _ _ _ us hl => match us, hl with | [_, _, _], _ => rfl
  have F_Lwithin := fun_mk (st := s_Lwithin) l_Lwithin c_Lwithin k_Lwithin
  have b_Lwithin := F_Lwithin.binds (ps := ["_law_places", "_law_ties", "_law_kind_here", "_law_paper"]) fun _ _ _ _ _ _ us hl => match us, hl with | [_, _, _, _], _ => rfl
  have F_Lend := fun_mk (st := s_Lend) l_Lend c_Lend k_Lend
  have b_Lend := F_Lend.binds (ps := ["_law_ties", "_law_place", "_law_paper"]) fun _ _ _ _ _ _ us hl => match us, hl with | [_, _, _], _ => rfl
  have F_Lmember := fun_mk (st := s_Lmember) l_Lmember c_Lmember k_Lmember
  have b_Lmember := F_Lmember.binds (ps := ["_law_places", "_law_ties", "_law_kind_here", "_law_place", "_law_paper"]) fun _ _ _ _ _ _ us hl => match us, hl with | [_, _, _, _, _], _ => rfl
  have F_Lone := fun_mk (st := s_Lone) l_Lone c_Lone k_Lone
  have b_Lone := F_Lone.binds (ps := ["_law_net_here", "_law_places", "_law_ties", "_law_cell"]) fun _ _ _ _ _ _ us hl => match us, hl with | [_, _, _, _], _ => rfl
  have F_law := fun_mk (st := s_law) l_law c_law k_law
  have b_law := F_law.binds (ps := ["_law_script"]) fun _ _ _ _ _ _ us hl => match us, hl with | [_], _ => rfl
  refine ⟨PySem.W.fnOf "law" "law" (defArgs s_law) (defBody s_law) (defScope s_law) .none kV_law dc_law pm_law an_law cd_law ct_law, fun s v => .of_eq rfl, fun base _ _ => ?_⟩
  have Cis_name : Cl l.prog w K mg base 1 "is_name" ["text"] spIsName := ⟨f_is_name, _, ok_is_name F_is_name B Gl, PySem.W.mg_of X G a_is_name, k_is_name, b_is_name⟩
  have Clook_at_name : Cl l.prog w K mg base 2 "look_at_name" ["text"] spLook := ⟨f_look_at_name, _, ok_look F_look_at_name Cis_name, PySem.W.mg_of X G a_look_at_name, k_look_at_name, b_look_at_name⟩
  have Nm : Nk l.prog w K mg base C 1 (spInit C) := ⟨PySem.W.mg_of X G aC, f_init, _, ⟨mkC, a_init, i_init, kcC⟩, ok_init F_init T, b_init⟩
  have Mplaces : Mt l.prog w K mg base C 1 "places" ["self"] (spPlaces C) := ⟨f_places, _, ok_places F_places T B, ⟨a_places, i_places, k_places⟩, b_places⟩
  have Mties : Mt l.prog w K mg base C 1 "ties" ["self"] (spTies C) := ⟨f_ties, _, ok_ties F_ties T B, ⟨a_ties, i_ties, k_ties⟩, b_ties⟩
  have Mtie_named : Mt l.prog w K mg base C 1 "tie_named" ["self", "name"] (spNamed C) := ⟨f_tie_named, _, ok_named F_tie_named T, ⟨a_tie_named, i_tie_named, k_tie_named⟩, b_tie_named⟩
  have Mplace : Mt l.prog w K mg base C 3 "place" ["self", "name"] (spPlace C) := ⟨f_place, _, ok_place F_place T B Gl Clook_at_name, ⟨a_place, i_place, k_place⟩, b_place⟩
  have Mtie : Mt l.prog w K mg base C 3 "tie" ["self", "name", "a", "b", "width", "cost"] (spTie C) := ⟨f_tie, _, ok_tie F_tie T B Gl Clook_at_name Mtie_named, ⟨a_tie, i_tie, k_tie⟩, b_tie⟩
  have Cwalk_end : Cl l.prog w K mg base 2 "walk_end" ["net", "a", "paper"] (spWalk K C) := ⟨f_walk_end, _, ok_walk_end F_walk_end T B Mtie_named, PySem.W.mg_of X G a_walk_end, k_walk_end, b_walk_end⟩
  have Cplace_list : Cl l.prog w K mg base 2 "place_list" ["net", "paper"] (spPlist K C) := ⟨f_place_list, _, ok_place_list F_place_list T B Mplaces, PySem.W.mg_of X G a_place_list, k_place_list, b_place_list⟩
  have Cis_closed : Cl l.prog w K mg base 2 "is_closed" ["net", "listed", "forth"] (spClosed C) := ⟨f_is_closed, _, ok_closed F_is_closed T Mties, PySem.W.mg_of X G a_is_closed, k_is_closed, b_is_closed⟩
  have Cis_within : Cl l.prog w K mg base 3 "is_within" ["net", "kind", "paper"] (spWithin K C) := ⟨f_is_within, _, ok_within F_is_within T B Mplaces Cplace_list Cis_closed, PySem.W.mg_of X G a_is_within, k_is_within, b_is_within⟩
  have Cis_member : Cl l.prog w K mg base 3 "is_member" ["net", "kind", "place", "paper"] (spMember K C) := ⟨f_is_member, _, ok_member F_is_member T Mplaces Cwalk_end, PySem.W.mg_of X G a_is_member, k_is_member, b_is_member⟩
  have Ccome_to : Cl l.prog w K mg base 2 "come_to" ["net", "a", "forth", "shut"] (spCome C) := ⟨f_come_to, _, ok_come F_come_to T B Mties, PySem.W.mg_of X G a_come_to, k_come_to, b_come_to⟩
  have Cmembers_of : Cl l.prog w K mg base 3 "members_of" ["net", "kind"] (spMembers C) := ⟨f_members_of, _, ok_members F_members_of T B Mplaces Ccome_to, PySem.W.mg_of X G a_members_of, k_members_of, b_members_of⟩
  have CLcell_at : Cl l.prog w K mg base 1 "_law_cell_at" ["_law_script", "_law_k"] (spCell K) := ⟨f_Lcell_at, _, ok_cell F_Lcell_at B, PySem.W.mg_of X G a_Lcell_at, k_Lcell_at, b_Lcell_at⟩
  have CLname : Cl l.prog w K mg base 1 "_law_name" ["_law_cell", "_law_k"] spName := ⟨f_Lname, _, ok_name F_Lname B, PySem.W.mg_of X G a_Lname, k_Lname, b_Lname⟩
  have CLparts : Cl l.prog w K mg base 2 "_law_parts" ["_law_script"] (spParts K) := ⟨f_Lparts, _, ok_parts F_Lparts B CLcell_at CLname, PySem.W.mg_of X G a_Lparts, k_Lparts, b_Lparts⟩
  have CLnet : Cl l.prog w K mg base 4 "_law_net" ["_law_places", "_law_ties"] (spNet C) := ⟨f_Lnet, _, ok_net F_Lnet T Nm Mplace Mtie, PySem.W.mg_of X G a_Lnet, k_Lnet, b_Lnet⟩
  have CLkind : Cl l.prog w K mg base 1 "_law_kind" ["_law_cell", "_law_places"] spKind := ⟨f_Lkind, _, ok_kind F_Lkind B, PySem.W.mg_of X G a_Lkind, k_Lkind, b_Lkind⟩
  have CLlisted : Cl l.prog w K mg base 1 "_law_listed" ["_law_cell", "_law_places", "_law_ties", "_law_kind_here"] (spListed K) := ⟨f_Llisted, _, ok_listed F_Llisted B, PySem.W.mg_of X G a_Llisted, k_Llisted, b_Llisted⟩
  have CLsteps : Cl l.prog w K mg base 1 "_law_steps" ["_law_cell", "_law_place", "_law_ties"] (spSteps K) := ⟨f_Lsteps, _, ok_steps F_Lsteps B, PySem.W.mg_of X G a_Lsteps, k_Lsteps, b_Lsteps⟩
  have CLwithin : Cl l.prog w K mg base 1 "_law_within" ["_law_places", "_law_ties", "_law_kind_here", "_law_paper"] (spLWithin K) := ⟨f_Lwithin, _, ok_lwithin F_Lwithin B, PySem.W.mg_of X G a_Lwithin, k_Lwithin, b_Lwithin⟩
  have CLend : Cl l.prog w K mg base 1 "_law_end" ["_law_ties", "_law_place", "_law_paper"] (spLEnd K) := ⟨f_Lend, _, ok_lend F_Lend, PySem.W.mg_of X G a_Lend, k_Lend, b_Lend⟩
  have CLmember : Cl l.prog w K mg base 2 "_law_member" ["_law_places", "_law_ties", "_law_kind_here", "_law_place", "_law_paper"] (spLMember K) := ⟨f_Lmember, _, ok_lmember F_Lmember CLend, PySem.W.mg_of X G a_Lmember, k_Lmember, b_Lmember⟩
  have CLone : Cl l.prog w K mg base 4 "_law_one" ["_law_net_here", "_law_places", "_law_ties", "_law_cell"] (spOne C) := ⟨f_Lone, _, ok_one F_Lone B CLkind CLlisted CLwithin Cis_within Cmembers_of CLsteps CLend Cwalk_end Cis_member CLmember, PySem.W.mg_of X G a_Lone, k_Lone, b_Lone⟩
  exact ok_law F_law T CLparts CLnet CLcell_at CLone Mplaces Mties
theorem walk {l : PySem.W.OpenLaw} {q : Program} {loose : List Str} {XP : (Str → Option Value) → Heap → Prop} {YP : World → Heap → Prop} {d : DefRec} {K : Params → PySem.W.Frag} (hn : l.most = some 63) (hdf : d.params.defaults = []) (hY : ∀ (w : World) (h : Heap), YP w h → (K w.params).In h)
    (F : ∀ (w : World) (mg : Str → Option Value) (fa : Addr) (h : Heap), (K w.params).In h → h.Ns mainGlobals mg → mg d.name = some (.ref fa) → ∃ fd : FuncData, (∀ (s : Shared) (u : Value), BindsTo s fd ⟨[u], []⟩ [("_law_script", u)]) ∧
      ∀ base : Heap, (K w.params).In base → base.Ns mainGlobals mg → FnOk l.prog w (K w.params) mg base CX0 5 fa fd ["_law_script"] (spLaw (K w.params))) :
    PySem.W.WalkO q loose XP YP l.row.toRowW d [] (fun f vs => PySem.call f vs) :=
  L2.walk_of (n := 63) (k := 5) (x := "_law_script") (CX := fun _ => CX0) (sp := fun w => spLaw (K w.params)) hn (by decide) hdf ⟨rfl, by decide, by decide⟩ hY F (fun _ _ a ns hl _ hS => ⟨a, ns, rfl, hS, hl, fun _ => rfl⟩) fun _ _ _ _ _ z => z
end Nc
open PySem PySem.W PyProof.Rows
set_option maxHeartbeats 0 in
theorem PySem.Challenge.cw_netcourt_k22_set_papers_looked_at_holds : PySem.Challenge.rw_netcourt_k22_set_papers_looked_at.Holds := by
  w_on; o_law; k_head; (case hw => w_witness2)
  k_fill
  refine Nc.walk (l := PySem.Challenge.rw_netcourt_k22_set_papers_looked_at) rfl rfl (fun w h Y => PySem.W.kIn_of Y) ?F
  case F =>
    intro w mg fa h KX G hmg
    refine' Nc.all_mk KX G hmg ?aC ?a_init ?i_init ?l_init ?c_init ?k_init ?a_places ?i_places ?l_places ?c_places ?k_places ?a_ties ?i_ties ?l_ties ?c_ties ?k_ties ?a_tie_named ?i_tie_named ?l_tie_named ?c_tie_named ?k_tie_named ?a_place ?i_place ?l_place ?c_place ?k_place ?a_tie ?i_tie ?l_tie ?c_tie ?k_tie ?a_is_name ?l_is_name ?c_is_name ?k_is_name ?a_look_at_name ?l_look_at_name ?c_look_at_name ?k_look_at_name ?a_walk_end ?l_walk_end ?c_walk_end ?k_walk_end ?a_place_list ?l_place_list ?c_place_list ?k_place_list ?a_is_closed ?l_is_closed ?c_is_closed ?k_is_closed ?a_is_within ?l_is_within ?c_is_within ?k_is_within ?a_is_member ?l_is_member ?c_is_member ?k_is_member ?a_come_to ?l_come_to ?c_come_to ?k_come_to ?a_members_of ?l_members_of ?c_members_of ?k_members_of ?a_Lcell_at ?l_Lcell_at ?c_Lcell_at ?k_Lcell_at ?a_Lname ?l_Lname ?c_Lname ?k_Lname ?a_Lparts ?l_Lparts ?c_Lparts ?k_Lparts ?a_Lnet ?l_Lnet ?c_Lnet ?k_Lnet ?a_Lkind ?l_Lkind ?c_Lkind ?k_Lkind ?a_Llisted ?l_Llisted ?c_Llisted ?k_Llisted ?a_Lsteps ?l_Lsteps ?c_Lsteps ?k_Lsteps ?a_Lwithin ?l_Lwithin ?c_Lwithin ?k_Lwithin ?a_Lend ?l_Lend ?c_Lend ?k_Lend ?a_Lmember ?l_Lmember ?c_Lmember ?k_Lmember ?a_Lone ?l_Lone ?c_Lone ?k_Lone ?a_law ?l_law ?c_law ?k_law ?pgC ?hdC ?poC ?saC ?mkC ?kcC ?nK ?nL ?z_len ?z_list ?z_isinstance ?z_str ?z_range ?z_enumerate ?z_max ?z_reversed ?z_tuple ?z_bool ?g_LETTERS ?g_LONGEST_NAME ?g_MOST_PLACES ?g_MOST_TIES
    (case aC => k_is)
    (case a_init => k_is)
    (case i_init => k_is)
    (case l_init => k_is)
    (case c_init => k_is)
    (case k_init => k_is)
    (case a_places => k_is)
    (case i_places => k_is)
    (case l_places => k_is)
    (case c_places => k_is)
    (case k_places => k_is)
    (case a_ties => k_is)
    (case i_ties => k_is)
    (case l_ties => k_is)
    (case c_ties => k_is)
    (case k_ties => k_is)
    (case a_tie_named => k_is)
    (case i_tie_named => k_is)
    (case l_tie_named => k_is)
    (case c_tie_named => k_is)
    (case k_tie_named => k_is)
    (case a_place => k_is)
    (case i_place => k_is)
    (case l_place => k_is)
    (case c_place => k_is)
    (case k_place => k_is)
    (case a_tie => k_is)
    (case i_tie => k_is)
    (case l_tie => k_is)
    (case c_tie => k_is)
    (case k_tie => k_is)
    (case a_is_name => k_is)
    (case l_is_name => k_is)
    (case c_is_name => k_is)
    (case k_is_name => k_is)
    (case a_look_at_name => k_is)
    (case l_look_at_name => k_is)
    (case c_look_at_name => k_is)
    (case k_look_at_name => k_is)
    (case a_walk_end => k_is)
    (case l_walk_end => k_is)
    (case c_walk_end => k_is)
    (case k_walk_end => k_is)
    (case a_place_list => k_is)
    (case l_place_list => k_is)
    (case c_place_list => k_is)
    (case k_place_list => k_is)
    (case a_is_closed => k_is)
    (case l_is_closed => k_is)
    (case c_is_closed => k_is)
    (case k_is_closed => k_is)
    (case a_is_within => k_is)
    (case l_is_within => k_is)
    (case c_is_within => k_is)
    (case k_is_within => k_is)
    (case a_is_member => k_is)
    (case l_is_member => k_is)
    (case c_is_member => k_is)
    (case k_is_member => k_is)
    (case a_come_to => k_is)
    (case l_come_to => k_is)
    (case c_come_to => k_is)
    (case k_come_to => k_is)
    (case a_members_of => k_is)
    (case l_members_of => k_is)
    (case c_members_of => k_is)
    (case k_members_of => k_is)
    (case a_Lcell_at => k_is)
    (case l_Lcell_at => k_is)
    (case c_Lcell_at => k_is)
    (case k_Lcell_at => k_is)
    (case a_Lname => k_is)
    (case l_Lname => k_is)
    (case c_Lname => k_is)
    (case k_Lname => k_is)
    (case a_Lparts => k_is)
    (case l_Lparts => k_is)
    (case c_Lparts => k_is)
    (case k_Lparts => k_is)
    (case a_Lnet => k_is)
    (case l_Lnet => k_is)
    (case c_Lnet => k_is)
    (case k_Lnet => k_is)
    (case a_Lkind => k_is)
    (case l_Lkind => k_is)
    (case c_Lkind => k_is)
    (case k_Lkind => k_is)
    (case a_Llisted => k_is)
    (case l_Llisted => k_is)
    (case c_Llisted => k_is)
    (case k_Llisted => k_is)
    (case a_Lsteps => k_is)
    (case l_Lsteps => k_is)
    (case c_Lsteps => k_is)
    (case k_Lsteps => k_is)
    (case a_Lwithin => k_is)
    (case l_Lwithin => k_is)
    (case c_Lwithin => k_is)
    (case k_Lwithin => k_is)
    (case a_Lend => k_is)
    (case l_Lend => k_is)
    (case c_Lend => k_is)
    (case k_Lend => k_is)
    (case a_Lmember => k_is)
    (case l_Lmember => k_is)
    (case c_Lmember => k_is)
    (case k_Lmember => k_is)
    (case a_Lone => k_is)
    (case l_Lone => k_is)
    (case c_Lone => k_is)
    (case k_Lone => k_is)
    (case a_law => k_is)
    (case l_law => k_is)
    (case c_law => k_is)
    (case k_law => k_is)
    (case pgC => k_is)
    (case hdC => k_is)
    (case poC => k_is)
    (case saC => k_is)
    (case mkC => k_is)
    (case kcC => k_is)
    (case nK => k_is)
    (case nL => k_is)
    (case z_len => k_is)
    (case z_list => k_is)
    (case z_isinstance => k_is)
    (case z_str => k_is)
    (case z_range => k_is)
    (case z_enumerate => k_is)
    (case z_max => k_is)
    (case z_reversed => k_is)
    (case z_tuple => k_is)
    (case z_bool => k_is)
    (case g_LETTERS => k_is)
    (case g_LONGEST_NAME => k_is)
    (case g_MOST_PLACES => k_is)
    (case g_MOST_TIES => k_is)
