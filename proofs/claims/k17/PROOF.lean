import PyProof.Rows.All
import Wide.All
import OpenK.AllK
import Wide.FinOn
import HandS.ForMost
import HandS.Wide
import HandS.WideBits
import HandS.IsInst
import HandS.Defaults
import HandS.Style
import HandS.OwnEq
import HandS.More
import KE.KOpsOwn
import KE.KFmtOwn
import HandS.ForExc
import HandS.Small
import HandS.ExcInit
import HandS.Nested
import KE.KExcSuper
import HandS.Lambda
import HandS.EndTab
import HandS.ExcField
import HandS.DictComp
import OpenK.KMeth
import KE.KNestM
import PyProof.StrBlock2
import KE.IntTextLaws
import PySem.Challenge.RW_dealtsums_k17_whole_windows_of_deals
set_option Elab.async false
set_option linter.all false
set_option maxRecDepth 100000
set_option maxHeartbeats 4000000
namespace DS
open PySem L2
/-! ### heaps -/
/-- what never changes once it is made: all but dicts -/
def stab : HO → Bool
  | .dK _ => false
  | _ => true
def Keep (H H' : Hp) : Prop := ∀ b o, H b = some o → stab o = true → H' b = some o
theorem Keep.refl (H : Hp) : Keep H H := fun _ _ h _ => h
theorem Keep.trans {H H1 H2 : Hp} (a : Keep H H1) (b : Keep H1 H2) : Keep H H2 := fun c o h s => b c o (a c o h s) s
theorem Keep.of {H H' : Hp} (s : Same H H') : Keep H H' := fun b o h _ => s b o h
theorem Same.keep {H H1 H2 : Hp} (a : Same H H1) (b : Keep H1 H2) : Keep H H2 := (Keep.of a).trans b
theorem Keep.same {H H1 H2 : Hp} (a : Keep H H1) (b : Same H1 H2) : Keep H H2 := a.trans (Keep.of b)
theorem same_upd {H : Hp} {p : Addr} {o : HO} (h : H p = none) : Same H (upd H p o) := fun b x e => by
  rw [upd_ne (ne_of_none e h)]
  exact e
theorem keep_dict {H : Hp} {p : Addr} {kvs kvs' : List (Key × V)} (h : H p = some (.dK kvs)) : Keep H (upd H p (.dK kvs')) := fun b o e s => by
  have n : b ≠ p := fun z => by
    subst z
    rw [h] at e
    cases e
    cases s
  rw [upd_ne n]
  exact e
/-! ### steps of a reading -/
section
variable {σ : St} {H : Hp} {Q : VK} {D : Ends} {t u : TS} {te ta tb tc : TE} {g : TG} {c c' : TT} {x y v : V} {i : Nat} {r r' : R2} {tl tr : TA}
theorem w_seq (h : t { D with nx := u D } σ H) : tSeq t u D σ H := h
theorem w_next (h : D.nx σ H) : tNext D σ H := h
theorem w_brk (h : D.bk σ H) : tBreak D σ H := h
theorem w_cont (h : D.ct σ H) : tCont D σ H := h
theorem w_asg (h : te σ H fun x H1 => g x σ H1 D.nx) : tAsg te g D σ H := h
theorem w_name {R : St → Hp → Prop} (h : R (σ.set i (some v)) H) : gName i v σ H R := h
theorem w_par {j : Nat} (h : tl σ H fun vs H1 => ∃ v w, vs = [v, w] ∧ D.nx ((σ.set i (some v)).set j (some w)) H1) : tPar i j tl D σ H := h
theorem w_two {w : V} {P : V → V → Prop} (h : P v w) : ∃ v' w', [v, w] = [v', w'] ∧ P v' w' := ⟨v, w, rfl, h⟩
theorem w_three {w z : V} {P : V → V → V → Prop} (h : P v w z) : ∃ v' w' z', [v, w, z] = [v', w', z'] ∧ P v' w' z' := ⟨v, w, z, rfl, h⟩
theorem w_par3 {j l : Nat} (h : tl σ H fun vs H1 => ∃ v w z, vs = [v, w, z] ∧ D.nx (((σ.set i (some v)).set j (some w)).set l (some z)) H1) : tPar3 i j l tl D σ H := h
theorem w_ret (h : te σ H D.rt) : tRet te D σ H := h
theorem w_retN (h : D.rt .non H) : tRetN D σ H := h
theorem w_drop (h : te σ H fun _ H1 => D.nx σ H1) : tDrop te D σ H := h
theorem w_ifs (h : c σ H fun b H1 => if b = true then t D σ H1 else u D σ H1) : tIfS c t u D σ H := h
theorem w_var (e : σ[i]? = some (some v)) (h : Q v H) : tVar i σ H Q := ⟨v, e, h⟩
theorem w_c (h : Q v H) : tC v σ H Q := h
theorem w_op (h : ta σ H fun x H1 => tb σ H1 fun y H2 => r x y H2 Q) : tOp r ta tb σ H Q := h
theorem w_un {r : V → Hp → VK → Prop} (h : ta σ H fun x H1 => r x H1 Q) : tUn r ta σ H Q := h
theorem w_I0 {g : Int → Int → V} {i j : Int} (h : Q (g i j) H) : rI0 g (.int i) (.int j) H Q := ⟨i, j, rfl, rfl, h⟩
theorem w_I {C : Int → Int → Prop} {g : Int → Int → V} {i j : Int} (k : C i j) (h : Q (g i j) H) : rI C g (.int i) (.int j) H Q := ⟨i, j, rfl, rfl, k, h⟩
theorem w_U {g : Int → V} {i : Int} (h : Q (g i) H) : rU g (.int i) H Q := ⟨i, rfl, h⟩
theorem w_test {R : Bool → Hp → Prop} (h : te σ H fun x H' => ∃ k, x = .bl k ∧ R k H') : tTest te σ H R := h
theorem w_B {R : Bool → Hp → Prop} (h : te σ H fun x H' => ∃ k, x = .bl k ∧ R k H') : tB te σ H R := h
theorem w_k {k : Bool} {P : Bool → Prop} (h : P k) : ∃ k', V.bl k = .bl k' ∧ P k' := ⟨k, rfl, h⟩
theorem w_eq (s : scal x y = true) (h : Q (.bl (decide (x = y))) H) : rEq x y H Q := ⟨s, h⟩
theorem w_ne (s : scal x y = true) (h : Q (.bl (!decide (x = y))) H) : rNe x y H Q := ⟨s, h⟩
theorem w_isN (h : Q (.bl (decide (x = .non))) H) : (V.non = .non ∧ Q (.bl (decide (x = .non))) H) := ⟨rfl, h⟩
theorem w_notN (h : Q (.bl (!decide (x = .non))) H) : (V.non = .non ∧ Q (.bl (!decide (x = .non))) H) := ⟨rfl, h⟩
theorem w_not {R : Bool → Hp → Prop} (h : c σ H fun b H1 => R (!b) H1) : tNot c σ H R := h
theorem w_and {R : Bool → Hp → Prop} (h : c σ H fun b H1 => if b = true then c' σ H1 R else R false H1) : tAnd c c' σ H R := h
theorem w_or {R : Bool → Hp → Prop} (h : c σ H fun b H1 => if b = true then R true H1 else c' σ H1 R) : tOr c c' σ H R := h
theorem w_andV (h : ta σ H fun x H1 => ∃ k, x = .bl k ∧ if k = true then tb σ H1 Q else Q (.bl false) H1) : tAndV ta tb σ H Q := h
theorem w_orV (h : ta σ H fun x H1 => ∃ k, x = .bl k ∧ if k = true then Q (.bl true) H1 else tb σ H1 Q) : tOrV ta tb σ H Q := h
theorem w_notV (h : ta σ H fun x H1 => ∃ k, x = .bl k ∧ Q (.bl (!k)) H1) : tNotV ta σ H Q := h
theorem w_if (h : c σ H fun b H1 => if b = true then ta σ H1 Q else tb σ H1 Q) : tIf c ta tb σ H Q := h
theorem w_chain (h : ta σ H fun x H1 => tb σ H1 fun y H2 => r x y H2 fun z H3 => ∃ k, z = .bl k ∧ (if k = true then tc σ H3 fun w' H4 => r' y w' H4 Q else Q (.bl false) H3)) : tChain r r' ta tb tc σ H Q := h
theorem w_cons {R : List V → Hp → Prop} (h : ta σ H fun x H1 => tr σ H1 fun xs H2 => R (x :: xs) H2) : tCons ta tr σ H R := h
theorem w_nil {R : List V → Hp → Prop} (h : R [] H) : tNil σ H R := h
theorem w_cb {r : List V → Hp → VK → Prop} (h : tl σ H fun vs H1 => r vs H1 Q) : tCB r tl σ H Q := h
theorem w_call {sp : Sp} {dvs : List V} {E : XK} (h : tl σ H fun vs H1 => sp (vs ++ dvs) H1 Q E) : tCall sp dvs E tl σ H Q := h
theorem w_tup (h : ∀ Q' : VK, Q' = Q → tl σ H fun xs H1 => xs.length ≤ sizeLine ∧ ∀ p, H1 p = none → Q' (.ref p) (upd H1 p (.tup xs))) : tTup tl σ H Q := h Q rfl
theorem w_lst (h : ∀ Q' : VK, Q' = Q → tl σ H fun xs H1 => xs.length ≤ sizeLine ∧ ∀ p, H1 p = none → Q' (.ref p) (upd H1 p (.lst xs))) : tLst tl σ H Q := h Q rfl
theorem w_new {o : HO} {n : Nat} {Q' : VK} (e : Q' = Q) (l : n ≤ sizeLine) (h : ∀ p H', H p = none → Same H H' → H' p = some o → Q (.ref p) H') : n ≤ sizeLine ∧ ∀ p, H p = none → Q' (.ref p) (upd H p o) := by
  subst e
  exact ⟨l, fun p hp => h p _ hp (same_upd hp) upd_same⟩
theorem w_newA {o : HO} {Q' : VK} (e : Q' = Q) (h : ∀ p H', H p = none → Same H H' → H' p = some o → Q (.ref p) H') : ∀ p, H p = none → Q' (.ref p) (upd H p o) := by
  subst e
  exact fun p hp => h p _ hp (same_upd hp) upd_same
theorem w_int1 {n : Int} {P : Int → Prop} {R : Prop} (h : P n) : (∃ i, [V.int n] = [.int i] ∧ P i) ∨ R := .inl ⟨n, rfl, h⟩
theorem w_int1b {b : Bool} {P : Bool → Prop} {R : Prop} (h : P b) : R ∨ ∃ k, [V.bl b] = [.bl k] ∧ P k := .inr ⟨b, rfl, h⟩
theorem w_lenL {K : PySem.W.Frag} {p : Addr} {xs : List V} {P : List V → Prop} (e : H p = some (.lst xs)) (h : P xs) : ∃ q ys, [V.ref p] = [.ref q] ∧ (SqL K H q ys ∨ SqT K H q ys) ∧ P ys := ⟨p, xs, rfl, .inl (.inl (.inl e)), h⟩
theorem w_lenT {K : PySem.W.Frag} {p : Addr} {xs : List V} {P : List V → Prop} (e : H p = some (.tup xs)) (h : P xs) : ∃ q ys, [V.ref p] = [.ref q] ∧ (SqL K H q ys ∨ SqT K H q ys) ∧ P ys := ⟨p, xs, rfl, .inr (.inl (.inl e)), h⟩
theorem w_one {R : Int → Prop} {n : Int} (h : R n) : ∃ i, [V.int n] = [.int i] ∧ R i := ⟨n, rfl, h⟩
theorem w_ixL {K : PySem.W.Frag} {p : Addr} {xs : List V} {n : Int} (e : H p = some (.lst xs)) (a : atI xs n = some v) (h : Q v H) : rIxL K (.ref p) (.int n) H Q := ⟨p, xs, n, v, rfl, rfl, .inl (.inl e), a, h⟩
theorem w_ixT {K : PySem.W.Frag} {p : Addr} {xs : List V} {n : Int} (e : H p = some (.tup xs)) (a : atI xs n = some v) (h : Q v H) : rIxT K (.ref p) (.int n) H Q := ⟨p, xs, n, v, rfl, rfl, .inl (.inl e), a, h⟩
theorem w_fld {K : PySem.W.Frag} {f : Str} (h : ta σ H fun x H1 => ∃ a C dx fs v, x = .ref a ∧ H1 a = some (.ins C dx fs) ∧ Cls K C ∧ NoAttr K C f ∧ fs.lookup f = some v ∧ Q v H1) : tFld K ta f σ H Q := h
theorem w_dget (h : ta σ H fun x H1 => tb σ H1 fun y H2 => ∃ a v, x = .ref a ∧ DGet H2 a y (some v) ∧ Q v H2) : tDGet ta tb σ H Q := h
theorem w_dg {d : Addr} {kvs : List (Key × V)} {z : Str} {P : V → Prop} (e : H d = some (.dK kvs)) (a : valV kvs (Sum.inr z) = some v) (h : P v) : ∃ a v, V.ref d = .ref a ∧ DGet H a (.str z) (some v) ∧ P v := ⟨d, v, rfl, a ▸ DGet.k (k := Sum.inr z) e, h⟩
theorem w_dput (h : tc σ H fun v H1 => ta σ H1 fun x H2 => tb σ H2 fun y H3 => ∃ a H4, x = .ref a ∧ DPut H3 a y v H4 ∧ D.nx σ H4) : sDPut ta tb tc D σ H := h
theorem w_dp {d : Addr} {kvs : List (Key × V)} {z : Str} {R : Hp → Prop} (e : H d = some (.dK kvs)) (l : kvs.length < sizeLine) (h : R (upd H d (.dK (putK kvs (Sum.inr z) v)))) : ∃ a H4, V.ref d = .ref a ∧ DPut H a (.str z) v H4 ∧ R H4 := ⟨d, _, rfl, DPut.k (k := Sum.inr z) e l, h⟩
theorem w_meth {C : Addr} {m : Str} {sp : Sp} {dvs : List V} {E : XK} (h : ta σ H fun x H1 => ∃ a dx fs, x = .ref a ∧ H1 a = some (.ins C dx fs) ∧ fs.lookup m = none ∧ tl σ H1 fun vs H2 => sp (x :: (vs ++ dvs)) H2 Q E) : tMeth C m sp dvs E ta tl σ H Q := h
theorem w_make {C : Addr} {sp : Sp} {dvs : List V} {E : XK} (h : ∀ Q' : VK, Q' = Q → tl σ H fun vs H1 => ∀ x dx, H1 x = none → H1 dx = none → dx ≠ x → sp (.ref x :: (vs ++ dvs)) (upd (upd H1 dx (.own x)) x (.ins C dx [])) (fun v H2 => v = .non ∧ Q' (.ref x) H2) E) : tMake C sp dvs E tl σ H Q := h Q rfl
theorem w_gtup {K : PySem.W.Frag} {n : Nat} {ts : TGs} {R : St → Hp → Prop} {a : Addr} {xs : List V} (e : H a = some (.tup xs)) (l : xs.length = n) (h : ts xs σ H R) : gTup K n ts (.ref a) σ H R := ⟨a, xs, rfl, .inl (.inl e), l, h⟩
theorem w_gcons {g : TG} {gs : TGs} {xs : List V} {R : St → Hp → Prop} (h : g v σ H fun σ' H' => gs xs σ' H' R) : gCons g gs (v :: xs) σ H R := ⟨v, xs, rfl, h⟩
theorem w_gnil {R : St → Hp → Prop} (h : R σ H) : gNil [] σ H R := ⟨rfl, h⟩
theorem w_ite {p A B : Prop} [Decidable p] (h1 : p → A) (h2 : ¬ p → B) : if decide p = true then A else B := by
  by_cases h : p
  · rw [decide_eq_true h]; exact iteT (h1 h)
  · rw [decide_eq_false h]; exact iteF (h2 h)
theorem w_iteN {p A B : Prop} [Decidable p] (h1 : ¬ p → A) (h2 : p → B) : if (!decide p) = true then A else B := by
  by_cases h : p
  · rw [decide_eq_true h]; exact iteF (h2 h)
  · rw [decide_eq_false h]; exact iteT (h1 h)
theorem w_iteB {b : Bool} {A B : Prop} (h1 : b = true → A) (h2 : b = false → B) : if b = true then A else B := by
  cases b with
  | true => exact iteT (h1 rfl)
  | false => exact iteF (h2 rfl)
end
/-! ### products of any size -/
def CMulA (i j : Int) : Prop := CMul i j ∨ CMulW i j
theorem CMulA.s1 {i j : Int} (h : -(2 ^ 64) < i) (h2 : i < 2 ^ 64) : CMulA i j := .inl (.inl ⟨h, h2⟩)
theorem CMulA.s2 {i j : Int} (h : -(2 ^ 64) < j) (h2 : j < 2 ^ 64) : CMulA i j := .inl (.inr ⟨h, h2⟩)
section
variable {X : Cx}
theorem op_mulA : OpR X (binaryOp .Mult) (rI CMulA fun i j => .int (i * j)) := by
  intro pins s σ H x y v u Q I rx ry h
  obtain ⟨i, j, ex, ey, hc, q⟩ := h
  rcases hc with hc | hc
  · exact op_mul pins s σ H x y v u Q I rx ry ⟨i, j, ex, ey, hc, q⟩
  · exact op_mulW pins s σ H x y v u Q I rx ry ⟨i, j, ex, ey, hc, q⟩
end
theorem V_int {i j : Int} : (V.int i = V.int j) = (i = j) := by simp
theorem V_str {i j : Str} : (V.str i = V.str j) = (i = j) := by simp
theorem V_bl {i j : Bool} : (V.bl i = V.bl j) = (i = j) := by simp
end DS
namespace DS
open PySem L2
theorem hu64_of {A : Around} {k : Nat} (hr : Room k A) : A.units + 64 < cLine := hr.units
theorem log_lt {m : Int} {a b : Nat} (h0 : 0 < m) (h : m < 2 ^ a) (hab : a ≤ b) : m.natAbs.log2 < b := by
  have h1 : m.natAbs < 2 ^ a := by
    have e : ((m.natAbs : Nat) : Int) = m := Int.natAbs_of_nonneg (by omega)
    have h2 : ((m.natAbs : Nat) : Int) < ((2 ^ a : Nat) : Int) := by
      rw [e]
      exact_mod_cast h
    exact Int.ofNat_lt.mp h2
  have ha : 0 < a := by
    rcases Nat.eq_zero_or_pos a with z | z
    · subst z
      have : m < 1 := h
      omega
    · exact z
  exact Nat.lt_of_lt_of_le (PySem.Flt.log2_lt_of ha h1) hab
end DS
namespace DS
open PySem L2
theorem dp_ints {K : PySem.W.Frag} {H : Hp} : ∀ ns : List Int, DpAll K H (ns.map V.int) (ns.map PyData.int)
  | [] => .nil
  | n :: r => .cons (.int n) (dp_ints r)
theorem lay_ints : ∀ ns : List Int, PyData.canLayAll0 (ns.map PyData.int) = true
  | [] => rfl
  | n :: r => by
    show (PyData.canLay0 (.int n) && PyData.canLayAll0 (r.map PyData.int)) = true
    rw [lay_ints r]
    rfl
theorem deep_ints : ∀ ns : List Int, PyData.depthAll (ns.map PyData.int) = 0
  | [] => rfl
  | n :: r => by
    show max (PyData.depth (.int n)) (PyData.depthAll (r.map PyData.int)) = 0
    rw [deep_ints r]
    rfl
theorem shaped_ints (ns : List Int) : SeqAt.shaped (.list (ns.map PyData.int)) = true := by
  show (PyData.canLayAll0 (ns.map PyData.int) && decide (PyData.depthAll (ns.map PyData.int) + 1 ≤ 64)) = true
  rw [lay_ints, deep_ints]
  rfl
theorem w_neNil {K : PySem.W.Frag} {H : Hp} {Q : VK} {p q : Addr} {ns : List Int} (hp : H p = some (.lst (ns.map V.int))) (hq : H q = some (.lst [])) (h : Q (.bl (!ns.isEmpty)) H) : rNeD K (.ref p) (.ref q) H Q := by
  refine ⟨.list (ns.map PyData.int), .list [], .lst (.inl (.inl hp)) (dp_ints ns), .lst (.inl (.inl hq)) .nil, shaped_ints ns, rfl, ?_⟩
  cases ns <;> exact h
theorem at_ints {ns : List Int} {i : Int} (h0 : 0 ≤ i) (h1 : i < ns.length) : ∃ z, atI (ns.map V.int) i = some (.int z) := by
  obtain ⟨j, rfl⟩ := Int.eq_ofNat_of_zero_le h0
  have hj : j < ns.length := by omega
  refine ⟨ns[j], atI_nat ?_⟩
  rw [List.getElem?_map, List.getElem?_eq_getElem hj]
  rfl
theorem at_any {xs : List V} {i : Int} (h0 : 0 ≤ i) (h1 : i < xs.length) : ∃ v, atI xs i = some v ∧ v ∈ xs := by
  obtain ⟨j, rfl⟩ := Int.eq_ofNat_of_zero_le h0
  have hj : j < xs.length := by omega
  exact ⟨xs[j], atI_nat (List.getElem?_eq_getElem hj), List.getElem_mem hj⟩
theorem iteFF {A B : Prop} (h : B) : if (false = true) then A else B := iteF h
end DS
namespace DS
open PySem L2
section
variable {σ : St} {H : Hp} {Q : VK} {D : Ends} {tb : TS} {g : TG} {c : TT} {wi : TI} {tl : TA}
theorem w_for (h : wi σ H fun J H1 => ∃ W : Nat → Nat → St → Hp → Prop, (∃ m, W 0 m σ H1) ∧ ∀ i m σ H, W i m σ H →
  (J.stop i H ∧ D.nx σ H) ∨ (J.go i H ∧ ∃ N : St → Hp → Prop, (∀ σ' H', N σ' H' → ∃ m', m' < m ∧ W (i + 1) m' σ' H') ∧ ∀ x H', J.yld i H x H' → g x σ H' fun σ2 H2 => tb { D with nx := N, ct := N, bk := D.nx } σ2 H2)) : tFor wi g tb D σ H := h
theorem w_irng1 {R : It → Hp → Prop} (h : tl σ H fun vs H1 => ∃ j : Int, vs = [.int j] ∧ -(2 ^ 62) ≤ j ∧ j < 2 ^ 62 ∧ R (Itr 0 j.toNat) H1) : iRng1 tl σ H R := h
theorem w_irng2 {R : It → Hp → Prop} (h : tl σ H fun vs H1 => ∃ i j : Int, vs = [.int i, .int j] ∧ (-(2 ^ 62) ≤ i ∧ i < 2 ^ 62 ∧ -(2 ^ 62) ≤ j ∧ j < 2 ^ 62) ∧ R (Itr i (j - i).toNat) H1) : iRng2 tl σ H R := h
theorem w_rng1 {j : Int} {P : Int → Prop} (h0 : -(2 ^ 62) ≤ j) (h1 : j < 2 ^ 62) (h : P j) : ∃ j' : Int, [V.int j] = [.int j'] ∧ -(2 ^ 62) ≤ j' ∧ j' < 2 ^ 62 ∧ P j' := ⟨j, rfl, h0, h1, h⟩
theorem w_rng2 {i j : Int} {P : Int → Int → Prop} (h0 : -(2 ^ 62) ≤ i ∧ i < 2 ^ 62 ∧ -(2 ^ 62) ≤ j ∧ j < 2 ^ 62) (h : P i j) : ∃ i' j' : Int, [V.int i, V.int j] = [.int i', .int j'] ∧ (-(2 ^ 62) ≤ i' ∧ i' < 2 ^ 62 ∧ -(2 ^ 62) ≤ j' ∧ j' < 2 ^ 62) ∧ P i' j' := ⟨i, j, rfl, h0, h⟩
/-- a while whose test is evaluated by a rule of one's own at each turn -/
theorem w_while (h : ∃ W : Nat → St → Hp → Prop, (∃ m, W m σ H) ∧ ∀ m σ H, W m σ H → c σ H fun b H1 => if b = true then ∃ N : St → Hp → Prop, (∀ σ' H', N σ' H' → ∃ m', m' < m ∧ W m' σ' H') ∧ tb { D with nx := N, ct := N, bk := D.nx } σ H1 else D.nx σ H1) : tWhile c tb D σ H := h
end
theorem pow_wide {a : Int} {n m : Nat} (h : a.natAbs < 2 ^ n) (hm : n ≤ m) : a.natAbs < 2 ^ m := Nat.lt_of_lt_of_le h (Nat.pow_le_pow_right (by decide) hm)
theorem CMulA.w {i j : Int} {a b : Nat} (ha : i.natAbs < 2 ^ a) (hb : j.natAbs < 2 ^ b) (h : a + b ≤ 999998) : CMulA i j :=
  .inr (wide_mul (a := a + 1) (b := b + 1) (pow_wide ha (by omega)) (pow_wide hb (by omega)) (by omega) (by omega) (by omega))
theorem ten_lt (n : Nat) : ((10 : Int) ^ n).natAbs < 2 ^ (4 * n + 1) := by
  rw [Int.natAbs_pow]
  show 10 ^ n < _
  have h : 10 ^ n ≤ 16 ^ n := Nat.pow_le_pow_left (by decide) n
  have e : (2 : Nat) ^ (4 * n + 1) = 16 ^ n * 2 := by rw [Nat.pow_succ, Nat.pow_mul]
  have p : 0 < 16 ^ n := Nat.pow_pos (by decide)
  omega
end DS
namespace DS
open PySem L2
section
variable {σ : St} {H : Hp} {Q : VK} {D : Ends} {tk tv te : TE} {trs : List (TE × TE)} {tl th : TO}
theorem w_disp (h : ∀ Q' : VK, Q' = Q → ∀ p H1, H p = none → Same H H1 → H1 p = some (.dK []) → tPairs trs σ H1 fun ps H2 => H2 p = some (.dK []) ∧ ∃ kvs : List (Key × V), ps = kvs.map (fun kv => (kV kv.1, kv.2)) ∧ kvs.length ≤ 15 ∧ Q' (.ref p) (upd H2 p (.dK (mergeK [] kvs)))) : tDisp trs σ H Q :=
  fun p hp => h Q rfl p _ hp (same_upd hp) upd_same
theorem w_pnil {R : List (V × V) → Hp → Prop} (h : R [] H) : tPairs [] σ H R := h
theorem w_pcons {R : List (V × V) → Hp → Prop} (h : tk σ H fun x H1 => tv σ H1 fun y H2 => tPairs trs σ H2 fun ps H3 => R ((x, y) :: ps) H3) : tPairs ((tk, tv) :: trs) σ H R := h
theorem w_dend {Q' : VK} {p : Addr} {ps : List (V × V)} (kvs : List (Key × V)) (e : Q' = Q) (h0 : H p = some (.dK [])) (e2 : ps = kvs.map (fun kv => (kV kv.1, kv.2))) (l : kvs.length ≤ 15)
    (h : ∀ H', Keep H H' → (∀ H0, Same H0 H → H0 p = none → Same H0 H') → H' p = some (.dK (mergeK [] kvs)) → Q (.ref p) H') :
    H p = some (.dK []) ∧ ∃ kvs : List (Key × V), ps = kvs.map (fun kv => (kV kv.1, kv.2)) ∧ kvs.length ≤ 15 ∧ Q' (.ref p) (upd H p (.dK (mergeK [] kvs))) := by
  subst e
  refine ⟨h0, kvs, e2, l, h _ (keep_dict h0) (fun H0 s n b o z => ?_) upd_same⟩
  rw [upd_ne (ne_of_none z n)]
  exact s b o z
theorem w_sl {r : V → Option Int → Option Int → Hp → VK → Prop} (h : te σ H fun x H1 => tl σ H1 fun l H2 => th σ H2 fun u H3 => r x l u H3 Q) : tSl r te tl th σ H Q := h
theorem w_nopart {R : Option Int → Hp → Prop} (h : R none H) : tNoPart σ H R := h
end
theorem w_list {K : PySem.W.Frag} {H : Hp} {p : Addr} {xs : List V} {P : List V → Prop} (e : SqL K H p xs ∨ SqT K H p xs) (h : P xs) : ∃ q ys, [V.ref p] = [.ref q] ∧ (SqL K H q ys ∨ SqT K H q ys) ∧ P ys := ⟨p, xs, rfl, e, h⟩
end DS
namespace DS
open PySem L2
theorem w_part {σ : St} {H : Hp} {te : TE} {R : Option Int → Hp → Prop} (h : te σ H fun x H1 => ∃ i, x = .int i ∧ R (some i) H1) : tPart te σ H R := h
theorem w_i {n : Int} {P : Int → Prop} (h : P n) : ∃ i, V.int n = .int i ∧ P i := ⟨n, rfl, h⟩
theorem w_slL {K : PySem.W.Frag} {H : Hp} {Q : VK} {p : Addr} {xs : List V} {lo hi : Option Int} (e : SqL K H p xs) (h : ∀ q H', H q = none → Same H H' → H' q = some (.lst (cutV xs lo hi)) → Q (.ref q) H') : rSlL K (.ref p) lo hi H Q :=
  ⟨p, xs, rfl, e, fun q hq => h q _ hq (same_upd hq) upd_same⟩
theorem w_listof {K : PySem.W.Frag} {H : Hp} {Q : VK} {p : Addr} {xs : List V} (e : SqL K H p xs ∨ SqT K H p xs) (h : ∀ q H', H q = none → Same H H' → H' q = some (.lst xs) → Q (.ref q) H') : ∃ p' ys, [V.ref p] = [.ref p'] ∧ (SqL K H p' ys ∨ SqT K H p' ys) ∧ ∀ l, H l = none → Q (.ref l) (upd H l (.lst ys)) :=
  ⟨p, xs, rfl, e, fun q hq => h q _ hq (same_upd hq) upd_same⟩
theorem cut_ints (ns : List Int) (lo hi : Option Int) : ∃ ms : List Int, cutV (ns.map V.int) lo hi = ms.map V.int ∧ ms.length ≤ ns.length := by
  unfold cutV
  refine ⟨(ns.drop (HT.sIx ns.length 0 lo)).take (HT.sIx ns.length ns.length hi - HT.sIx ns.length 0 lo), ?_, ?_⟩
  · rw [List.length_map, List.map_take, List.map_drop]
  · rw [List.length_take, List.length_drop]
    omega
end DS
namespace DS
open PySem L2 PyProof.Rows
/-- o.f = .. as a target -/
def gFld (K : PySem.W.Frag) (to : TE) (f : Str) : TG := fun v σ H Q => to σ H fun x H1 => ∃ a C dx fs, x = .ref a ∧ H1 a = some (.ins C dx fs) ∧ Cls K C ∧ NoAttr K C f ∧ fs.length < 1000 ∧ Q σ (upd H1 a (.ins C dx (putF f v fs)))
theorem pg_attr {X : Cx} {o : Expr} {f : Str} {pos : Pos} {to : TE} (ho : PE X o to)
    (ha : ∀ v, assign (.Attribute o f pos) X.env v = (do
      let ov ← holding [v] (eval o X.env)
      standAt pos.atName
      holding [v, ov] (setAttr ov f v)
      release [v, ov] []) := by intro _; rfl) : PG X (.Attribute o f pos) (gFld X.K to f) := by
  refine ⟨fun pins s σ H v u Q I r h => ?_⟩
  rw [ha]
  refine wpAny_bind (wpAny_holding (thn (ho.run pins s σ H _ I h) fun ov s1 ⟨x, H1, I1, r1, a, C, dx, fs, ex, ea, c, n, l, q1⟩ => ?_))
  subst ex
  obtain rfl : ov = Value.ref a := r1
  refine wpAny_bind (wpAny_standAt (wpAny_bind (wpAny_holding (setattr_ok I1 ea c n l r fun s3 I3 => ?_))))
  exact wpAny_release ⟨σ, _, I3, q1⟩
theorem w_gfld {K : PySem.W.Frag} {to : TE} {f : Str} {v : V} {σ : L2.St} {H : Hp} {Q : L2.St → Hp → Prop} (h : to σ H fun x H1 => ∃ a C dx fs, x = .ref a ∧ H1 a = some (.ins C dx fs) ∧ Cls K C ∧ NoAttr K C f ∧ fs.length < 1000 ∧ Q σ (upd H1 a (.ins C dx (putF f v fs)))) : gFld K to f v σ H Q := h
theorem w_sfld {K : PySem.W.Frag} {ta tv : TE} {f : Str} {D : Ends} {σ : L2.St} {H : Hp} (h : tv σ H fun y H1 => ta σ H1 fun x H2 => ∃ a C dx fs, x = .ref a ∧ H2 a = some (.ins C dx fs) ∧ Cls K C ∧ NoAttr K C f ∧ fs.length < 1000 ∧ D.nx σ (upd H2 a (.ins C dx (putF f y fs)))) : sFld K ta tv f D σ H := h
theorem w_isiB {K : PySem.W.Frag} {H : Hp} {x : V} {a b : String} {r : Bool} {P : Bool → Prop} (ty : TyX K H x (.type a)) (k : kitB a b = some r) (h : P r) :
    ∃ (x' c : V) (t u : Value) (b' : Bool), [x, V.ty b] = [x', c] ∧ ClsV c u ∧ TyX K H x' t ∧ PySem.W.kitOne K t u = some b' ∧ P b' := ⟨x, .ty b, _, _, r, rfl, .ty b, ty, kit_ty k, h⟩
theorem w_isi {K : PySem.W.Frag} {H : Hp} {x c : V} {t u : Value} {r : Bool} {P : Bool → Prop} (cl : ClsV c u) (ty : TyX K H x t) (k : PySem.W.kitOne K t u = some r) (h : P r) :
    ∃ (x' c' : V) (t u : Value) (b' : Bool), [x, c] = [x', c'] ∧ ClsV c' u ∧ TyX K H x' t ∧ PySem.W.kitOne K t u = some b' ∧ P b' := ⟨x, c, t, u, r, rfl, cl, ty, k, h⟩
theorem w_risi {K : PySem.W.Frag} {H : Hp} {Q : VK} {xs : List V} (h : ∃ (x c : V) (t u : Value) (b : Bool), xs = [x, c] ∧ ClsV c u ∧ TyX K H x t ∧ PySem.W.kitOne K t u = some b ∧ Q (.bl b) H) : rIsi K xs H Q := h
/-- is a value of the kind T -/
def IsI (K : PySem.W.Frag) (H : Hp) (v : V) (T : String) (r : Bool) : Prop := ∃ t, TyX K H v t ∧ PySem.W.kitOne K t (.type T) = some r
theorem w_isI {K : PySem.W.Frag} {H : Hp} {x : V} {b : String} {r : Bool} {P : Bool → Prop} (i : IsI K H x b r) (h : P r) :
    ∃ (x' c : V) (t u : Value) (b' : Bool), [x, V.ty b] = [x', c] ∧ ClsV c u ∧ TyX K H x' t ∧ PySem.W.kitOne K t u = some b' ∧ P b' := by
  obtain ⟨t, ty, k⟩ := i
  exact ⟨x, .ty b, t, _, r, rfl, .ty b, ty, k, h⟩
def IntLike (K : PySem.W.Frag) (H : Hp) (v : V) (b : Bool) : Prop := ∃ r1 r2, IsI K H v "int" r1 ∧ IsI K H v "bool" r2 ∧ b = (r1 && !r2)
theorem intLike_int {K : PySem.W.Frag} {H : Hp} {n : Int} : IntLike K H (.int n) true :=
  ⟨true, false, ⟨_, .base (.int n), kit_ty (by decide +kernel)⟩, ⟨_, .base (.int n), kit_ty (by decide +kernel)⟩, rfl⟩
end DS
namespace DS
open PySem L2
/-- a worth's own form -/
def nrm : Int → Nat → Int × Nat
  | u, 0 => (u, 0)
  | u, s + 1 => if u % 10 = 0 then nrm (u / 10) s else (u, s + 1)
theorem nrm_zero : ∀ s : Nat, nrm 0 s = (0, 0)
  | 0 => rfl
  | s + 1 => by
    show (if (0 : Int) % 10 = 0 then nrm (0 / 10) s else (0, s + 1)) = (0, 0)
    rw [if_pos (by decide)]
    exact nrm_zero s
theorem nrm_pos {u : Int} {s : Nat} (h : u % 10 = 0) : nrm u (s + 1) = nrm (u / 10) s := by
  show (if u % 10 = 0 then nrm (u / 10) s else (u, s + 1)) = _
  rw [if_pos h]
theorem nrm_neg {u : Int} {s : Nat} (h : ¬ u % 10 = 0) : nrm u s = (u, s) := by
  cases s with
  | zero => rfl
  | succ s =>
    show (if u % 10 = 0 then nrm (u / 10) s else (u, s + 1)) = _
    rw [if_neg h]
def wf (u : Int) (s : Nat) : List (Str × V) := [("units", .int (nrm u s).1), ("scale", .int ((nrm u s).2 : Int))]
theorem wf_units (u : Int) (s : Nat) : (wf u s).lookup ("units" : Str) = some (.int (nrm u s).1) := by
  unfold wf
  simp
theorem us_ne : ¬ (("scale" : Str) = "units") := by decide +kernel
theorem su_ne : ¬ (("units" : Str) = "scale") := by decide +kernel
theorem wf_scale (u : Int) (s : Nat) : (wf u s).lookup ("scale" : Str) = some (.int ((nrm u s).2 : Int)) := by
  unfold wf
  rw [List.lookup_cons, beq_eq_false_iff_ne.mpr us_ne]
  simp
theorem wf_put (a b : Int) : putF "scale" (.int b) (putF "units" (.int a) []) = ([("units", .int a), ("scale", .int b)] : List (Str × V)) := by
  show (if ("units" : Str) = "scale" then [(("units" : Str), V.int b)] else (("units" : Str), V.int a) :: putF "scale" (V.int b) []) = _
  rw [if_neg su_ne]
  rfl
def WAt (C : Addr) (H : Hp) (p : Addr) (u : Int) (s : Nat) : Prop := ∃ dx, H p = some (.ins C dx (wf u s))
theorem WAt.same {C : Addr} {H H' : Hp} {p : Addr} {u : Int} {s : Nat} (e : Same H H') (h : WAt C H p u s) : WAt C H' p u s := by
  obtain ⟨dx, h⟩ := h
  exact ⟨dx, e _ _ h⟩
theorem WAt.keep {C : Addr} {H H' : Hp} {p : Addr} {u : Int} {s : Nat} (e : Keep H H') (h : WAt C H p u s) : WAt C H' p u s := by
  obtain ⟨dx, h⟩ := h
  exact ⟨dx, e _ _ h rfl⟩
/-- __init__ of a worth -/
def sp_winit (C : Addr) : Sp := fun vs H Q _ => ∃ (p dx : Addr) (u : Int) (s : Nat), vs = [.ref p, .int u, .int s] ∧ H p = some (.ins C dx []) ∧
  ∀ H', H' p = some (.ins C dx (wf u s)) → (∀ b o, b ≠ p → H b = some o → H' b = some o) → Q .non H'
theorem make_worth {C : Addr} {H : Hp} {Q Q' : VK} {E : XK} {u : Int} {s : Nat} (e : Q' = Q) (h : ∀ x H', H x = none → Same H H' → WAt C H' x u s → Q (.ref x) H') :
    ∀ x dx, H x = none → H dx = none → dx ≠ x → sp_winit C (.ref x :: ([.int u, .int (s : Int)] ++ [])) (upd (upd H dx (.own x)) x (.ins C dx [])) (fun v H2 => v = .non ∧ Q' (.ref x) H2) E := by
  subst e
  intro x dx nx nd ne
  refine ⟨x, dx, u, s, rfl, upd_same, fun H' e k => ⟨rfl, h x H' nx (fun b o z => ?_) ⟨dx, e⟩⟩⟩
  have n1 : b ≠ x := ne_of_none z nx
  refine k b o n1 ?_
  rw [upd_ne n1, upd_ne (ne_of_none z nd)]
  exact z
theorem w_flds {K : PySem.W.Frag} {H : Hp} {p C dx : Addr} {fs : List (Str × V)} {f : Str} {v : V} {P : V → Prop} (e : H p = some (.ins C dx fs)) (cl : Cls K C) (n : NoAttr K C f) (l : fs.lookup f = some v) (h : P v) :
    ∃ a C dx fs v, V.ref p = .ref a ∧ H a = some (.ins C dx fs) ∧ Cls K C ∧ NoAttr K C f ∧ fs.lookup f = some v ∧ P v := ⟨p, C, dx, fs, v, rfl, e, cl, n, l, h⟩
end DS
namespace DS
open PySem L2 PyProof.Rows
/-- d.get(y, z), d a written dict -/
def tKGet2 (K : PySem.W.Frag) (d : Addr) (td ty tx : TE) : TE := fun σ H Q => td σ H fun x H1 => x = .ref d ∧ ty σ H1 fun y H2 => tx σ H2 fun z H3 => ∃ (k : Str) (r : Option Value), y = .str k ∧ PySem.W.nsIn K d k = some r ∧
  ((r = none ∧ Q z H3) ∨ ∃ u0 v0, r = some u0 ∧ RelV v0 u0 ∧ Q v0 H3)
theorem pe_kget2 {X : Cx} {d : Addr} {es : Array DictEntry} {n : Nat} {o e f : Expr} {apos cpos : Pos} {td ty tx : TE} (D : KDict X.K X.w d es n) (ho : PE X o td) (he : PE X e ty) (hf : PE X f tx) (m : M2 X o "get" apos e f cpos) :
    PE X (.Call (.Attribute o "get" apos) [e, f] [] cpos) (tKGet2 X.K d td ty tx) := by
  refine ⟨fun pins s σ H Q I h => ?_⟩
  refine wpAny_Call_method m.base m.few m.line PySem.F.plainAttrs_dict PySem.F.slot_dict_get PySem.F.type_dict_get (thn (ho.run pins s σ H _ I h) fun u s1 ⟨x, H1, I1, rx, ex, q1⟩ => ?_)
  subst ex
  obtain rfl : u = Value.ref d := rx
  refine ⟨kd_type D I1, fun b q => ?_, ?_⟩
  · cases q
    exact ⟨_, I1.kIn _ _ D.at_, rfl⟩
  rw [m.trees]
  refine Calls.callWith_builtin rfl (Calls.evalArgs_plain (Calls.spliced_cons (thn (he.run pins s1 σ H1 _ I1 q1) fun iv s2 ⟨y, H2, I2, ry, q2⟩ =>
    Calls.spliced_cons (thn (hf.run pins s2 σ H2 _ I2 q2) fun fv s3 ⟨z, H3, I3, rz, k, r, ey, g, q3⟩ => Calls.spliced_nil ?_))))
  subst ey
  obtain ⟨t, rfl⟩ := (show ∃ t, iv = Value.str k t from ry)
  have hm := PySem.W.mapOf_K (prog := X.prog) (w := X.w) I3.kIn D.at_ D.lit
  refine call_meetsIn PySem.F.slot_dict_get hm.typeIs PySem.F.entry_dict_get (PySem.F.args_dict_get_3 _ _ _) (meets_dict_get_default (strKind X.prog X.w) d (PySem.strKind_is X.prog X.w k t) D.low fv) ⟨_, hm, ?_⟩
  rw [PySem.W.find_K D.at_ g]
  rcases q3 with ⟨er, q3⟩ | ⟨u0, v0, er, r0, q3⟩
  · subst er
    exact ⟨z, H3, I3.tok _, rz, q3⟩
  · subst er
    exact ⟨v0, H3, I3.tok _, r0, q3⟩
end DS
namespace DS
open PySem L2 PyProof.Rows
/-- -x by the own __neg__ -/
def rNegOwn (C : Addr) (sp : Sp) (E : XK) : V → Hp → VK → Prop := fun x H Q => ∃ a dx fs, x = .ref a ∧ H a = some (.ins C dx fs) ∧ sp [.ref a] H Q E
theorem un_negOwn {X : Cx} {CX : CXT} {k : Nat} {f C : Addr} {fd : FuncData} {ps : List Str} {sp : Sp} {E : XK} (hm : Meth X.K C "__neg__" f) (F : FnOk X.prog X.w X.K X.mg X.base CX k f fd ps sp) (hr : Room k X.A) (hb : Binds X.K fd ps []) (hx : Passes CX X E) :
    UnR X (unaryOp .USub) (rNegOwn C sp E) := by
  intro pins s σ H x u Q I rx h
  obtain ⟨a, dx, fs, rfl, ea, q⟩ := h
  obtain rfl : u = Value.ref a := rx
  obtain ⟨mA, O, _⟩ := ins_get I.hok ea
  obtain ⟨od, J, _⟩ := O.look
  unfold unaryOp
  refine wpAny_holding ?_
  exact wpAny_bind (PySem.W.special_fn I.kIn J hm.at_ (beq_iff_eq.mp hm.fn) (wpAny_mono (run_fn (us := [.ref a]) (vs := [.ref a]) (dvs := []) (ds := []) F hr hb .nil hx I (.cons rfl .nil) q) (fun _ _ z => wpAny_pure z) fun _ _ z => z))
end DS
namespace DS
open PySem L2
/-- a loop over a tuple turn by turn -/
def unrollT (K : PySem.W.Frag) (a : Addr) (all : List V) (g : TG) (tb : TS) (D : Ends) : List V → St → Hp → Prop
  | [], σ, H => D.nx σ H
  | x :: xs, σ, H => g x σ H fun σ2 H2 => tb { D with nx := fun σ' H' => SqT K H' a all ∧ unrollT K a all g tb D xs σ' H', ct := fun σ' H' => SqT K H' a all ∧ unrollT K a all g tb D xs σ' H', bk := D.nx } σ2 H2
def unrollL (K : PySem.W.Frag) (a : Addr) (all : List V) (g : TG) (tb : TS) (D : Ends) : List V → St → Hp → Prop
  | [], σ, H => D.nx σ H
  | x :: xs, σ, H => g x σ H fun σ2 H2 => tb { D with nx := fun σ' H' => SqL K H' a all ∧ unrollL K a all g tb D xs σ' H', ct := fun σ' H' => SqL K H' a all ∧ unrollL K a all g tb D xs σ' H', bk := D.nx } σ2 H2
section
variable {K : PySem.W.Frag} {a : Addr} {all : List V} {g : TG} {tb : TS} {D : Ends} {σ : St} {H : Hp}
theorem w_unT0 (h : D.nx σ H) : unrollT K a all g tb D [] σ H := h
theorem w_unT {x : V} {xs : List V} (h : g x σ H fun σ2 H2 => tb { D with nx := fun σ' H' => SqT K H' a all ∧ unrollT K a all g tb D xs σ' H', ct := fun σ' H' => SqT K H' a all ∧ unrollT K a all g tb D xs σ' H', bk := D.nx } σ2 H2) : unrollT K a all g tb D (x :: xs) σ H := h
theorem w_unL0 (h : D.nx σ H) : unrollL K a all g tb D [] σ H := h
theorem w_unL {x : V} {xs : List V} (h : g x σ H fun σ2 H2 => tb { D with nx := fun σ' H' => SqL K H' a all ∧ unrollL K a all g tb D xs σ' H', ct := fun σ' H' => SqL K H' a all ∧ unrollL K a all g tb D xs σ' H', bk := D.nx } σ2 H2) : unrollL K a all g tb D (x :: xs) σ H := h
theorem for_unT (h : SqT K H a all) (hu : unrollT K a all g tb D all σ H) :
    ∃ W : Nat → Nat → St → Hp → Prop, (∃ m, W 0 m σ H) ∧ ∀ i m σ H, W i m σ H →
      ((Itt K a).stop i H ∧ D.nx σ H) ∨ ((Itt K a).go i H ∧ ∃ N : St → Hp → Prop, (∀ σ' H', N σ' H' → ∃ m', m' < m ∧ W (i + 1) m' σ' H') ∧ ∀ x H', (Itt K a).yld i H x H' → g x σ H' fun σ2 H2 => tb { D with nx := N, ct := N, bk := D.nx } σ2 H2) := by
  refine ⟨fun i m σ H => m + i = all.length ∧ SqT K H a all ∧ unrollT K a all g tb D (all.drop i) σ H, ⟨all.length, rfl, h, hu⟩, ?_⟩
  rintro i m σ H ⟨hm, hs, hu⟩
  by_cases hi : i < all.length
  · rw [List.drop_eq_getElem_cons hi] at hu
    refine .inr ⟨⟨all, all[i], hs, by simp [hi]⟩, fun σ' H' => SqT K H' a all ∧ unrollT K a all g tb D (all.drop (i + 1)) σ' H', fun σ' H' q => ⟨m - 1, by omega, by omega, q.1, q.2⟩, fun x H' y => ?_⟩
    obtain ⟨e, y⟩ := y
    subst e
    have ex : all[i] = x := by
      have := y all hs
      rw [List.getElem?_eq_getElem hi] at this
      exact Option.some.inj this
    rw [← ex]
    exact hu
  · have e : all.drop i = [] := List.drop_eq_nil_of_le (by omega)
    rw [e] at hu
    exact .inl ⟨⟨all, hs, by omega⟩, hu⟩
theorem for_unL (h : SqL K H a all) (hu : unrollL K a all g tb D all σ H) :
    ∃ W : Nat → Nat → St → Hp → Prop, (∃ m, W 0 m σ H) ∧ ∀ i m σ H, W i m σ H →
      ((Itl K a).stop i H ∧ D.nx σ H) ∨ ((Itl K a).go i H ∧ ∃ N : St → Hp → Prop, (∀ σ' H', N σ' H' → ∃ m', m' < m ∧ W (i + 1) m' σ' H') ∧ ∀ x H', (Itl K a).yld i H x H' → g x σ H' fun σ2 H2 => tb { D with nx := N, ct := N, bk := D.nx } σ2 H2) := by
  refine ⟨fun i m σ H => m + i = all.length ∧ SqL K H a all ∧ unrollL K a all g tb D (all.drop i) σ H, ⟨all.length, rfl, h, hu⟩, ?_⟩
  rintro i m σ H ⟨hm, hs, hu⟩
  by_cases hi : i < all.length
  · rw [List.drop_eq_getElem_cons hi] at hu
    refine .inr ⟨⟨all, all[i], hs, by simp [hi]⟩, fun σ' H' => SqL K H' a all ∧ unrollL K a all g tb D (all.drop (i + 1)) σ' H', fun σ' H' q => ⟨m - 1, by omega, by omega, q.1, q.2⟩, fun x H' y => ?_⟩
    obtain ⟨e, y⟩ := y
    subst e
    have ex : all[i] = x := by
      have := y all hs
      rw [List.getElem?_eq_getElem hi] at this
      exact Option.some.inj this
    rw [← ex]
    exact hu
  · have e : all.drop i = [] := List.drop_eq_nil_of_le (by omega)
    rw [e] at hu
    exact .inl ⟨⟨all, hs, by omega⟩, hu⟩
theorem w_iTup {tl : TE} {R : It → Hp → Prop} (h : tl σ H fun x H1 => ∃ a, x = .ref a ∧ (∃ xs, SqT K H1 a xs) ∧ R (Itt K a) H1) : iTup K tl σ H R := h
theorem w_iList {tl : TE} {R : It → Hp → Prop} (h : tl σ H fun x H1 => ∃ a, x = .ref a ∧ (∃ xs, SqL K H1 a xs) ∧ R (Itl K a) H1) : iList K tl σ H R := h
end
theorem bits_le {i : Int} {n : Nat} (h : i.natAbs < 2 ^ n) (hn : 0 < n) : Builtin.Int.intBits i ≤ n := by
  unfold Builtin.Int.intBits
  have := PySem.Flt.log2_lt_of hn h
  split <;> omega
theorem divp_of {i j : Int} (hj : 0 < j) (h : i.natAbs < 2 ^ 4000) : CDivP i j := divp_ok hj (Nat.le_trans (bits_le h (by decide)) (Nat.le_add_left _ _))
theorem in_strs {x : Str} {l : List Str} (h : x ∈ l) : inV (.str x) (l.map V.str) = true := by
  unfold inV
  rw [List.any_eq_true]
  exact ⟨.str x, List.mem_map.mpr ⟨x, h, rfl⟩, by simp [eqV]⟩
theorem flat_strs (l : List Str) : (l.map V.str).all flatV = true := by
  rw [List.all_eq_true]
  intro v hv
  obtain ⟨x, _, rfl⟩ := List.mem_map.mp hv
  rfl
end DS
namespace DS
open PySem L2
theorem nrm_idem : ∀ (s : Nat) (u : Int), nrm (nrm u s).1 (nrm u s).2 = nrm u s
  | 0, u => rfl
  | s + 1, u => by
    by_cases h : u % 10 = 0
    · rw [nrm_pos h]
      exact nrm_idem s (u / 10)
    · rw [nrm_neg h]
      exact nrm_neg h
theorem nrm_minus : ∀ (s : Nat) (u : Int), nrm (-u) s = (-(nrm u s).1, (nrm u s).2)
  | 0, u => rfl
  | s + 1, u => by
    by_cases h : u % 10 = 0
    · have h2 : (-u) % 10 = 0 := by omega
      have h3 : (-u) / 10 = -(u / 10) := by omega
      rw [nrm_pos h, nrm_pos h2, h3]
      exact nrm_minus s (u / 10)
    · have h2 : ¬ (-u) % 10 = 0 := by omega
      rw [nrm_neg h, nrm_neg h2]
theorem nrm_le : ∀ (s : Nat) (u : Int), (nrm u s).2 ≤ s
  | 0, u => Nat.le_refl _
  | s + 1, u => by
    by_cases h : u % 10 = 0
    · rw [nrm_pos h]
      exact Nat.le_succ_of_le (nrm_le s (u / 10))
    · rw [nrm_neg h]
      exact Nat.le_refl _
theorem nrm_val : ∀ (s : Nat) (u : Int), u = (nrm u s).1 * 10 ^ (s - (nrm u s).2)
  | 0, u => by
    show u = u * 10 ^ (0 - 0)
    rw [Nat.sub_self, Int.pow_zero, Int.mul_one]
  | s + 1, u => by
    by_cases h : u % 10 = 0
    · rw [nrm_pos h]
      have l := nrm_le s (u / 10)
      have e := nrm_val s (u / 10)
      rw [Nat.succ_sub l, Int.pow_succ, ← Int.mul_assoc, ← e]
      omega
    · rw [nrm_neg h, Nat.sub_self, Int.pow_zero, Int.mul_one]
theorem nrm_last : ∀ (s : Nat) (u : Int), (nrm u s).2 = 0 ∨ ¬ (nrm u s).1 % 10 = 0
  | 0, u => .inl rfl
  | s + 1, u => by
    by_cases h : u % 10 = 0
    · rw [nrm_pos h]
      exact nrm_last s (u / 10)
    · rw [nrm_neg h]
      exact .inr h
theorem nrm_abs : ∀ (s : Nat) (u : Int), (nrm u s).1.natAbs ≤ u.natAbs
  | 0, u => Nat.le_refl _
  | s + 1, u => by
    by_cases h : u % 10 = 0
    · rw [nrm_pos h]
      have := nrm_abs s (u / 10)
      omega
    · rw [nrm_neg h]
      exact Nat.le_refl _
theorem nrm_mul : ∀ (k s : Nat) (u : Int), nrm (u * 10 ^ k) (s + k) = nrm u s
  | 0, s, u => by rw [Int.pow_zero, Int.mul_one]; rfl
  | k + 1, s, u => by
    have e : u * 10 ^ (k + 1) = u * 10 ^ k * 10 := by rw [Int.pow_succ, Int.mul_assoc]
    rw [e]
    have h : (u * 10 ^ k * 10) % 10 = 0 := by omega
    have h2 : (u * 10 ^ k * 10) / 10 = u * 10 ^ k := by omega
    show nrm (u * 10 ^ k * 10) ((s + k) + 1) = nrm u s
    rw [nrm_pos h, h2]
    exact nrm_mul k s u
theorem wf_nrm (u : Int) (s : Nat) : wf (nrm u s).1 (nrm u s).2 = wf u s := by unfold wf; rw [nrm_idem]
theorem wf_minus (u : Int) (s : Nat) : wf (-(nrm u s).1) (nrm u s).2 = wf (-u) s := by unfold wf; rw [nrm_minus, nrm_minus, nrm_idem]
theorem w_eqT2 {K : PySem.W.Frag} {H : Hp} {Q : VK} {p q : Addr} {a b c d : Int} (hp : H p = some (.tup [.int a, .int b])) (hq : H q = some (.tup [.int c, .int d])) (h : Q (.bl (a == c && (b == d && true))) H) : rEqD K (.ref p) (.ref q) H Q :=
  ⟨.tuple [.int a, .int b], .tuple [.int c, .int d], .tup (.inl (.inl hp)) (.cons (.int _) (.cons (.int _) .nil)), .tup (.inl (.inl hq)) (.cons (.int _) (.cons (.int _) .nil)), rfl, rfl, h⟩
def R_W (C : Addr) (a b : Addr) (H : Hp) : Prop := ∃ u s u' s', WAt C H a u s ∧ WAt C H b u' s' ∧ nrm u s = nrm u' s'
theorem R_W.mon {C : Addr} : ∀ a b H H', Ext H H' → R_W C a b H → R_W C a b H' := fun a b H H' e ⟨u, s, u', s', h1, h2, h3⟩ => ⟨u, s, u', s', h1.same e, h2.same e, h3⟩
end DS
namespace DS
open PySem L2
theorem wf_no (u : Int) (s : Nat) {m : Str} (h1 : ¬ m = "units") (h2 : ¬ m = "scale") : (wf u s).lookup m = none := by
  unfold wf
  rw [List.lookup_cons, beq_eq_false_iff_ne.mpr h1, List.lookup_cons, beq_eq_false_iff_ne.mpr h2]
  rfl
end DS
namespace DS
open PySem L2
theorem inV_strs (x : Str) : ∀ l : List Str, inV (.str x) (l.map V.str) = decide (x ∈ l)
  | [] => rfl
  | y :: r => by
    show (eqV (.str y) (.str x) || inV (.str x) (r.map V.str)) = decide (x ∈ y :: r)
    rw [inV_strs x r]
    show ((y == x) || decide (x ∈ r)) = decide (x ∈ y :: r)
    by_cases h : x = y
    · subst h
      simp
    · have h2 : ¬ y = x := fun e => h e.symm
      simp [h, h2]
theorem w_inL {K : PySem.W.Frag} {H : Hp} {Q : VK} {p : Addr} {x : Str} {l : List Str} (e : H p = some (.lst (l.map V.str))) (h : Q (.bl (decide (x ∈ l))) H) : rIn K false (.str x) (.ref p) H Q := by
  refine ⟨p, l.map V.str, rfl, .inl (.inl (.inl e)), rfl, flat_strs l, ?_⟩
  rw [if_neg Bool.false_ne_true, inV_strs]
  exact h
theorem ediv_abs (n d : Int) : (n / d).natAbs ≤ n.natAbs := Int.natAbs_ediv_le_natAbs n d
end DS
namespace DS
open PySem L2
theorem w_lc {wi : TI} {g : TG} {tt : TT} {te : TE} {vs : List Nat} {σ : St} {H : Hp} {Q : VK} (h : wi σ H fun J H1 => ∀ D, H1 D = none → ∃ W : Nat → Nat → Hp → Prop, (∃ m, W 0 m (upd H1 D (.lst []))) ∧ ∀ i m H, W i m H →
  (J.stop i H ∧ Q (.ref D) H) ∨ (J.go i H ∧ ∃ Nx : Hp → Prop, (∀ H', Nx H' → ∃ m', m' < m ∧ W (i + 1) m' H') ∧ ∀ x H', J.yld i H x H' → g x (wipe σ vs) H' fun σ2 H2 => wipe σ2 vs = wipe σ vs ∧ tt σ2 H2 fun b H3 =>
    if b = true then te σ2 H3 fun y H4 => ∃ acc, H4 D = some (.lst acc) ∧ acc.length < sizeLine ∧ Nx (upd H4 D (.lst (acc ++ [y]))) else Nx H3)) : tLc wi g tt te vs σ H Q := h
theorem w_yes {σ : St} {H : Hp} {R : Bool → Hp → Prop} (h : R true H) : tYes σ H R := h
end DS
namespace DS
open PySem L2 PyProof.Rows
/-- a def's promise somewhere below the running body -/
theorem run_sub {X : Cx} {CX : CXT} {n : Nat} {f : Addr} {fd : FuncData} {ps : List Str} {sp : Sp} {E : XK} {A : Around} {pins : List (Addr × Obj)} {σ : L2.St} {H : Hp} {s : Shared} {Q : VK} {us : List Value} {vs : List V}
    (sb : Sub X n A) (F : FnOk X.prog X.w X.K X.mg X.base CX n f fd ps sp) (hb : Binds X.K fd ps []) (hx : Passes CX X E) (I : L2.Inv X pins σ H s) (r : Vals vs us) (h : sp vs H Q E) :
    wpAny (model X.prog X.w) A (call (.ref f) us) (EP X pins σ Q) X.xe s := by
  have hl : us.length = ps.length := by rw [← r.length]; exact F.len _ _ _ _ h
  have e0 : Env0 X.prog X.w X.K X.mg X.base A X.stack s H := by
    have e := I.env0
    exact ⟨by rw [sb.fr]; exact e.frames, e.mod, e.bs, e.bsz, e.funs, e.frf, e.hok, e.bare⟩
  refine wpAny_call (codeAny_mono (F.run A X.stack s H ⟨us, []⟩ us vs Q E sb.room e0 (by
    have := hb s us I.kIn (by simpa using hl)
    simpa using this) r h) fun r s' hq => ?_)
  cases r with
  | error e => exact hx pins σ H s e s' I hq
  | ok fl =>
    cases fl with
    | ret u => exact I.after hq
    | next => exact False.elim hq
    | brk => exact False.elim hq
    | cont => exact False.elim hq
/-- x == y by the own __eq__, both of the class at C; whatever the answer -/
def rEqII (C : Addr) (sp : Sp) (E : XK) : R2 := fun x y H Q => ∃ a b dx dy fs gs, x = .ref a ∧ y = .ref b ∧ H a = some (.ins C dx fs) ∧ H b = some (.ins C dy gs) ∧ sp [.ref a, .ref b] H (fun v H' => ∃ k, v = .bl k ∧ Q (.bl k) H') E
def rNeII (C : Addr) (sp : Sp) (E : XK) : R2 := fun x y H Q => ∃ a b dx dy fs gs, x = .ref a ∧ y = .ref b ∧ H a = some (.ins C dx fs) ∧ H b = some (.ins C dy gs) ∧ sp [.ref a, .ref b] H (fun v H' => ∃ k, v = .bl k ∧ Q (.bl (!k)) H') E
theorem cmpback_bl {X : Cx} {pins : List (Addr × Obj)} {σ : L2.St} {Q : VK} {v : Value} {s' : Shared} (h : EP X pins σ (fun v H' => ∃ k, v = .bl k ∧ Q (.bl k) H') v s') : PySem.W.CmpBack (EP X pins σ Q) v s' := by
  obtain ⟨z, H', I, r, k, rfl, q⟩ := h
  obtain rfl : v = Value.bool k := r
  exact ⟨.bl k, H', I, rfl, q⟩
theorem op_eqII {X : Cx} {CX : CXT} {n : Nat} {C f : Addr} {fd : FuncData} {ps : List Str} {sp : Sp} {E : XK} (hm : Meth X.K C "__eq__" f) (F : FnOk X.prog X.w X.K X.mg X.base CX n f fd ps sp) (hr : Room n X.A) (hb : Binds X.K fd ps []) (hx : Passes CX X E) :
    OpR X (compareOp .Eq) (rEqII C sp E) := by
  intro pins s σ H x y v u Q I rx ry h
  obtain ⟨a, b, dx, dy, fs, gs, rfl, rfl, ha, hb', q⟩ := h
  obtain rfl : v = Value.ref a := rx
  obtain rfl : u = Value.ref b := ry
  obtain ⟨mA, J, _⟩ := ins_get I.hok ha
  obtain ⟨mB, J', _⟩ := ins_get I.hok hb'
  obtain ⟨od, J, _⟩ := J.look
  obtain ⟨od', J', _⟩ := J'.look
  obtain ⟨m, hF⟩ := I.fr
  show wpAny (model X.prog X.w) X.A (richCompare .Eq (.ref a) (.ref b)) (EP X pins σ Q) X.xe s
  refine PySem.W.cmp_K (op := .Eq) (tb := .ref C) hr.units0 hF I.ok.mod.kin J J'.type (by simp [PySem.W.notFirst]) hm.at_ hm.fn ?_
  exact wpAny_mono (run_sub (vs := [.ref a, .ref b]) ⟨hr, rfl⟩ F hb hx I (.cons rfl (.cons rfl .nil)) q) (fun v s' h => cmpback_bl h) fun _ _ z => z
theorem ne_own {X : Cx} {n : Nat} {C a b : Addr} {pins : List (Addr × Obj)} {σ : L2.St} {s : Shared} {Q : VK} {f : Addr} {oa ob : Obj} {oda odb : Option Obj} (hr : Room (n + 1) X.A) (X0 : X.K.In s.heap) (J : PySem.W.InstAt s.heap a oa C oda) (J' : PySem.W.InstAt s.heap b ob C odb)
    (hne : PySem.W.findIn X.K (.ref C) "__ne__" = some (some (.builtin "object.__ne__"))) (hmo : PySem.W.mroIn X.K C (.type "object") = some true) (hs : PySem.W.findIn X.K (.ref C) "__eq__" = some (some (.ref f))) (hf : PySem.W.isFn X.K (.ref f) = true)
    (h : wpAny (model X.prog X.w) X.A.in1 (call (.ref f) [.ref a, .ref b]) (EP X pins σ (fun v H' => ∃ k, v = .bl k ∧ Q (.bl (!k)) H')) X.xe s) :
    wpAny (model X.prog X.w) X.A (richCompare .NotEq (.ref a) (.ref b)) (EP X pins σ Q) X.xe s := by
  have call1 : wpAny (model X.prog X.w) X.A (call (.builtin "object.__ne__") [.ref a, .ref b]) (fun v s' => ∃ k : Bool, v = .bool k ∧ EP X pins σ Q v s') X.xe s := by
    refine wpAny_call (codeAny_call_builtin PySem.F.slot_object_ne.plain PySem.F.entry_object_ne (PySem.W.check_slot (i := "object.__ne__") (owner := "object") (n := "__ne__") (by decide +kernel) (by decide +kernel) (J.type.andThen (PySem.W.looks_mroIn X0 hmo)) (PySem.F.args_object_ne_2 _ _) ?_))
    unfold Builtin.«object.__ne__»
    refine wpAny_bind (m := slotArgs "__ne__" 1 _) (wpAny_pure ?_)
    refine wpAny_bind (m := cRoomFor _ _) (wpAny_cRoomFor hr.in1.units0 ?_)
    refine wpAny_bind (m := callSpecialIfBound? (.ref a) (Str.ofString "__eq__") _) (PySem.W.ifBound_K X0 J hs hf (wpAny_mono h (fun r s' hq => ?_) fun _ _ y => y))
    obtain ⟨z, H', I', rz, k, rfl, q⟩ := hq
    obtain rfl : r = Value.bool k := rz
    refine wpAny_bind (wpAny_truthy_bool ?_)
    exact wpAny_pure ⟨!k, rfl, .bl (!k), H', I', rfl, q⟩
  have one : wpAny (model X.prog X.w) X.A (tryCompare (.ref a) "__ne__" (.ref b)) (fun r s' => ∃ v, r = some v ∧ EP X pins σ Q v s') X.xe s := by
    unfold tryCompare
    simp only [callSpecialIfBound?, bindSpecialIfBound?]
    refine wpAny_bind (wpAny_holding (wpAny_bind (wpAny_bind (wpAny_bind (J.type.here ((PySem.W.looks_findIn X0 hne).here ?_))))))
    refine wpAny_bind (wpAny_askSetting (PySem.wpAny_ite ?_))
    have fin : wpAny (model X.prog X.w) X.A (call (.builtin "object.__ne__") ([.ref a] ++ [.ref b]) >>= fun v => pure (some v)) (fun r s' => wpAny (model X.prog X.w) X.A (match r with | some .notImplemented | none => pure none | some v => pure (some v)) (fun r s' => ∃ v, r = some v ∧ EP X pins σ Q v s') X.xe s') X.xe s :=
      wpAny_bind (wpAny_mono call1 (fun v s' h' => wpAny_pure (by
        obtain ⟨k, rfl, q⟩ := h'
        exact wpAny_pure ⟨_, rfl, q⟩)) fun _ _ h' => h')
    split
    · exact wpAny_bind ((PySem.W.Looks.of_pure (PySem.F.slot_object_ne.bind _)).here (wpAny_pure (by exact fin)))
    · exact wpAny_tryCatch (wpAny_bind ((PySem.W.Looks.of_pure (PySem.F.slot_object_ne.bind _)).here (wpAny_pure (by exact fin))))
  unfold richCompare
  simp only [PySem.oneThing_ref]
  refine wpAny_holding (wpAny_bind (wpAny_cRoomFor hr.units0 ?_))
  refine wpAny_bind (J.type.here (wpAny_bind (J'.type.here ?_)))
  rw [if_neg (by simp)]
  refine wpAny_bind (wpAny_pure ?_)
  simp only [Bool.false_eq_true, if_false]
  refine wpAny_bind (wpAny_mono one (fun r s' z => ?_) fun _ _ e => e)
  obtain ⟨v, rfl, hq⟩ := z
  exact wpAny_pure hq
end DS
namespace DS
open PySem L2 PyProof.Rows
theorem op_neII {X : Cx} {CX : CXT} {n : Nat} {C f : Addr} {fd : FuncData} {ps : List Str} {sp : Sp} {E : XK} (hm : Meth X.K C "__eq__" f) (hne : PySem.W.findIn X.K (.ref C) "__ne__" = some (some (.builtin "object.__ne__"))) (hmo : PySem.W.mroIn X.K C (.type "object") = some true)
    (F : FnOk X.prog X.w X.K X.mg X.base CX n f fd ps sp) (hr : Room (n + 1) X.A) (hb : Binds X.K fd ps []) (hx : Passes CX X E) : OpR X (compareOp .NotEq) (rNeII C sp E) := by
  intro pins s σ H x y v u Q I rx ry h
  obtain ⟨a, b, dx, dy, fs, gs, rfl, rfl, ha, hb', q⟩ := h
  obtain rfl : v = Value.ref a := rx
  obtain rfl : u = Value.ref b := ry
  obtain ⟨mA, J, _⟩ := ins_get I.hok ha
  obtain ⟨mB, J', _⟩ := ins_get I.hok hb'
  obtain ⟨od, J, _⟩ := J.look
  obtain ⟨od', J', _⟩ := J'.look
  exact ne_own hr I.kIn J J' hne hmo hm.at_ hm.fn (run_sub (vs := [.ref a, .ref b]) ⟨hr.in1, rfl⟩ F hb hx I (.cons rfl (.cons rfl .nil)) q)
theorem cmpback_of {X : Cx} {pins : List (Addr × Obj)} {σ : L2.St} {Q : VK} {v : Value} {s' : Shared} (h : EP X pins σ Q v s') : PySem.W.CmpBack (EP X pins σ Q) v s' := by
  obtain ⟨z, H', I, r, q⟩ := id h
  cases v with
  | notImplemented =>
    cases z <;> first | (obtain ⟨t, e⟩ := r; cases e) | cases r
  | _ => exact h
/-- x op y by the own method, both of the class at C -/
def rBinII (C : Addr) (sp : Sp) (E : XK) : R2 := fun x y H Q => ∃ a b dx dy fs gs, x = .ref a ∧ y = .ref b ∧ H a = some (.ins C dx fs) ∧ H b = some (.ins C dy gs) ∧ sp [.ref a, .ref b] H Q E
theorem op_binII {X : Cx} {CX : CXT} {n : Nat} {C f : Addr} {fd : FuncData} {ps : List Str} {sp : Sp} {E : XK} {op : Operator} {nm : Str} (hm : Meth X.K C nm f) (hnm : PySem.dunder op.info.2 = nm) (hc : PySem.W.selfFirst X.K C = true)
    (F : FnOk X.prog X.w X.K X.mg X.base CX n f fd ps sp) (hr : Room n X.A) (hb : Binds X.K fd ps []) (hx : Passes CX X E) : OpR X (binaryOp op) (rBinII C sp E) := by
  intro pins s σ H x y v u Q I rx ry h
  obtain ⟨a, b, dx, dy, fs, gs, rfl, rfl, ha, hb', q⟩ := h
  obtain rfl : v = Value.ref a := rx
  obtain rfl : u = Value.ref b := ry
  obtain ⟨mA, J, _⟩ := ins_get I.hok ha
  obtain ⟨mB, J', _⟩ := ins_get I.hok hb'
  obtain ⟨od, J, _⟩ := J.look
  obtain ⟨od', J', _⟩ := J'.look
  obtain ⟨m, hF⟩ := I.fr
  refine PySem.W.binop_K hF I.ok.mod.kin J J'.type hc (by rw [hnm]; exact hm.at_) hm.fn ?_
  exact wpAny_mono (run_sub (vs := [.ref a, .ref b]) ⟨hr, rfl⟩ F hb hx I (.cons rfl (.cons rfl .nil)) q) (fun v s' h => cmpback_of h) fun _ _ z => z
/-- x op n by the own method, n an int -/
structure IntR (K : PySem.W.Frag) (C : Addr) (op : Operator) : Prop where
  rc : ∃ rc, PySem.W.findIn K (.ref C) (PySem.dunderR op.info.2) = some rc ∧ (rc = none ∨ ∃ g : Addr, rc = some (.ref g))
  fo : ∃ fo, PySem.W.findIn K (.type "int") (PySem.dunder op.info.2) = some fo
  ro : ∃ ro, PySem.W.findIn K (.type "int") (PySem.dunderR op.info.2) = some ro
  sub : PySem.W.subIn K (.type "int") (.ref C) = some false
def rBinIZ (C : Addr) (sp : Sp) (E : XK) : R2 := fun x y H Q => ∃ a dx fs n, x = .ref a ∧ y = .int n ∧ H a = some (.ins C dx fs) ∧ sp [.ref a, .int n] H Q E
theorem op_binIZ {X : Cx} {CX : CXT} {n : Nat} {C f : Addr} {fd : FuncData} {ps : List Str} {sp : Sp} {E : XK} {op : Operator} {nm : Str} (hm : Meth X.K C nm f) (hnm : PySem.dunder op.info.2 = nm) (hc : PySem.W.selfFirst X.K C = true) (hi : IntR X.K C op)
    (F : FnOk X.prog X.w X.K X.mg X.base CX n f fd ps sp) (hr : Room n X.A) (hb : Binds X.K fd ps []) (hx : Passes CX X E) : OpR X (binaryOp op) (rBinIZ C sp E) := by
  intro pins s σ H x y v u Q I rx ry h
  obtain ⟨a, dx, fs, z, rfl, rfl, ha, q⟩ := h
  obtain rfl : v = Value.ref a := rx
  obtain ⟨t, rfl⟩ := (show ∃ t, u = Value.int z t from ry)
  obtain ⟨mA, J, _⟩ := ins_get I.hok ha
  obtain ⟨od, J, _⟩ := J.look
  obtain ⟨m, hF⟩ := I.fr
  obtain ⟨rc, hrc, hp⟩ := hi.rc
  obtain ⟨fo, hfo⟩ := hi.fo
  obtain ⟨ro, hro⟩ := hi.ro
  refine PySem.W.ksp_binT (T := "int") hF I.ok.mod.kin J rfl hc (by rw [hnm]; exact hm.at_) hm.fn hrc hp hfo hro hi.sub ?_
  exact wpAny_mono (run_sub (vs := [.ref a, .int z]) ⟨hr, rfl⟩ F hb hx I (.cons rfl (.cons ⟨t, rfl⟩ .nil)) q) (fun v s' h => cmpback_of h) fun _ _ z => z
end DS
namespace DS
open PySem L2 PyProof.Rows
/-- X(), X an own exception class without own __init__ -/
theorem pmk_own0 {X : Cx} {C : Addr} {bmB : List Value} {B newId initId : String} {x : Str} {p pos : Pos} (F : ExcBaseFacts B newId initId bmB) (q : PySem.W.excIn X.K C bmB newId = true) (gC : X.mg x = some (.ref C)) (kC : PySem.W.keepIn X.K (.ref C) = true) (r : Raises X (.ref C)) (hg : Gl X x)
    (hdb : (x == ("__debug__" : Str)) = false := by decide) : PMk X (.Call (.Name x p) [] [] pos) (fun _ H Q => Q (.ref C) none H) := by
  intro pins s σ H Q I h
  refine wpAny_Call_Name_kw (ld_glob I hg gC ?_ hdb)
  refine PySem.W.callWith_K0 I.kIn kC ?_
  show wpAny _ _ (call (.ref C) []) _ _ _
  obtain ⟨bm, N, nm, qn, bs, hdct, sn, sub, ab, col, dd, k0, k1, k2, k3, k5, mN, hC, hN, hni, T⟩ := exc_obj I.kIn q
  exact wpAny_call_exc_subT F T hC hN hni (fun h' e hm => mk_of I hm r h (I.hok.gone hm.new)) (Nat.zero_le _)
end DS
namespace DS
open PySem L2
theorem w_dget2 {td ty tx : TE} {σ : St} {H : Hp} {Q : VK} (h : td σ H fun x H1 => ∃ a, x = .ref a ∧ IsD H1 a ∧ ty σ H1 fun y H2 => tx σ H2 fun z H3 => ∃ o, DGet H3 a y o ∧ Q (o.getD z) H3) : tDGet2 td ty tx σ H Q := h
end DS
/-! own exceptions whose __init__ calls super().__init__ -/
namespace DS
open PySem L2 PySem.Spec PyProof.Rows
section
variable {X : Cx} {pins : List (Addr × Obj)} {σ : L2.St} {H : Hp} {s : Shared} {A : Around} {E : Value → Shared → Prop} {a C u : Addr}
/-- the bound __init__ of ValueError, called: nothing of it is told -/
theorem mw_init {us : List Value} {Q : Value → Shared → Prop} (T : OexC X.K C) (I : Inv X pins σ H s) (e : H a = some (exo a C none)) (hu : s.heap.get? u = some (PySem.W.kxs_mw "ValueError.__init__" a)) (hl : us.length ≤ sizeLine) (h : ∀ s', Inv X pins σ H s' → Q .none s') :
    wpAny (model X.prog X.w) A (call (.ref u) us) Q E s := by
  obtain ⟨nm, q, N, bs, bm, sn, sub, ab, col, dd, k0, k1, k2, k3, k5, hC, hbm⟩ := T.cls
  obtain ⟨t1, ho⟩ := exo_at I.hok e
  have hC' := I.kIn _ _ hC
  obtain ⟨hp, g, d, t, os⟩ := s
  have fin : ∀ h' t2, (∀ b o, b ≠ a → hp.get? b = some o → h'.get? b = some o) → h'.get? a = some (PySem.HandSPX.excO C t2) → Q .none ⟨h', g, d, t, os⟩ := fun h' t2 k hx => by
    have J := I.write (t' := t) (x := a) (e := a) (o := exo a C none) (by rw [e]; exact True.intro) (.inl rfl) k ⟨_, hx⟩ (exo_ok hx)
    have eu : upd H a (exo a C none) = H := by
      funext b
      by_cases hb : b = a
      · rw [hb, upd_same, e]
      · rw [upd_ne hb]
    rw [eu] at J
    exact h _ J
  refine wpAny_call (codeAny_of_tree ?_)
  show wpAny _ A.in1 (callAny (.ref u) ⟨us, []⟩) _ _ _
  simp only [callAny]
  refine wpAny_bind (wpAny_load hu ?_)
  simp only [PySem.W.kxs_mw, show (Value.type "method-wrapper" == Value.type "method" || Value.type "method-wrapper" == Value.type "builtin_function_or_method" || Value.type "method-wrapper" == Value.type "method-wrapper") = true by decide, if_true]
  refine PySem.W.KFB.if_so (by decide) ?_
  refine wpAny_bind (PySem.W.check_bound_init PySem.F.excBase_ValueError.toExcCallFacts hC' ho rfl ?_)
  refine wpAny_bind (wpAny_pure (wpAny_pure ?_))
  refine ⟨Code.quiet_builtin _ (by decide +kernel), codeAny_builtin PySem.F.excBase_ValueError.initEntry ?_⟩
  rw [Around.under_plainId PySem.F.excBase_ValueError.init.plain _]
  wp_walk
  refine fin _ hp.objs.size (fun b o hb ho => ?_) ?_
  · rw [Heap.get?_update_other _ _ (Ne.symm hb)]
    exact Heap.get?_push_of_some _ ho
  · rw [Heap.get?_update_self _ (Heap.get?_push_of_some _ ho) rfl]
    rfl
end
section
open NdefX
variable {P : Program} {w : World} {K : PySem.W.Frag} {mg : Str → Option Value} {base : Heap} {N ps : List Str} {f C cc cda : Addr} {qual : Str} {params : Arguments} {scope : Scope} {kV doc pm ct oc ccl cl : Value} {an od cdd cld : Option Addr} {osl ccs csl : Array (Option Value)} {vsC : Array Value} {file : Str} {tf : Tok}
  {cdC : ClassData} {ar : Arg} {e : Expr} {es : List Expr} {rest : List Stmt} {p0 p1 ap cp ep : Pos} {k : Nat} {sp : Sp}
/-- the body of an own exception's __init__ -/
abbrev xBody (e : Expr) (es : List Expr) (rest : List Stmt) (p0 p1 ap cp ep : Pos) : List Stmt := .Expr (.Call (.Attribute (.Call (.Name "super" p0) [] [] p1) "__init__" ap) (e :: es) [] cp) ep :: rest
theorem sinit_ok (lk : K.lookup f = some ⟨oc, od, .func (PySem.W.ksFn "__init__" qual params (xBody e es rest p0 p1 ap cp ep) scope .none kV doc pm an (.ref cda) ct cc), osl⟩) (hcd : PySem.W.codeIn K (.ref cda) qual = true)
    (hcode : K.lookup cda = some ⟨ccl, cdd, .fields vsC, ccs⟩) (hvs : vsC[2]? = some (.str file tf)) (hfile : ((P.main.file : Str) == file) = true) (hcell : K.lookup cc = some ⟨cl, cld, .cell (some (.ref C)), csl⟩) (hC : PySem.W.clsIn K C = some cdC)
    (hsub : PySem.W.mroIn K C (.ref C) = some true) (hsup : mg "super" = none) (htop : (P.main.scope.names.lookup ("super" : Str)).isSome = false) (ho : PySem.W.nsIn K cStatics "thirdparty.any" = some none)
    (hm : PySem.W.ks_superIn K C C "__init__" = some (some (.builtin "ValueError.__init__"))) (hB : PySem.W.subIn K (.ref C) (.type "ValueError") = some true) (T : OexC K C) (S : NScope N ps ["__class__"] scope)
    (har : (params.posonlyargs ++ params.args).head? = some ar) (hps : ps[0]? = some ar.arg) (hks : scope.names.lookup ("super" : Str) = some .globalImplicit) (len : ∀ vs H Q E, sp vs H Q E → vs.length = ps.length)
    {pl : Sem Bool} (hi : ∀ L, interactive (PySem.W.ksEnv qual scope L f (.ref cda) cc) = false) (hsw : ∀ L, swapsWith (.Call (.Attribute (.Call (.Name "super" p0) [] [] p1) "__init__" ap) (e :: es) [] cp) none ep.line (PySem.W.ksEnv qual scope L f (.ref cda) cc) = pure false)
    (hev : ∀ L, eval (.Call (.Attribute (.Call (.Name "super" p0) [] [] p1) "__init__" ap) (e :: es) [] cp) (PySem.W.ksEnv qual scope L f (.ref cda) cc) = (do
      let ov ← attributeBase (.Call (.Name "super" p0) [] [] p1) "__init__" (PySem.W.ksEnv qual scope L f (.ref cda) cc) (eval (.Call (.Name "super" p0) [] [] p1) (PySem.W.ksEnv qual scope L f (.ref cda) cc))
      standAt ap.atName
      let (g, first) ← holding [ov] (getMethod ov "__init__" pl)
      callWith cp g first (backTo cp (starEach (e :: es) (PySem.W.ksEnv qual scope L f (.ref cda) cc))) []))
    (hstar : ∀ env : Env, starEach (e :: es) env = (false, eval e env) :: starEach es env) (hpl : ∀ env : Env, (backTo cp (starEach es env)).any (·.1) = false)
    (hbody : ∀ (A : Around) (outer : List Env) (s : Shared) (H : Hp) (vs : List V) (Q : VK) (E : XK), sp vs H Q E → ∃ (a : Addr) (ta : TA) (t : TS), vs[0]? = some (.ref a) ∧ H a = some (exo a C none) ∧
      PA (ncx CX0 P w K mg base N ⟨"__init__", qual, params, xBody e es rest p0 p1 ap cp ep, scope, [("__class__", cc)], cda⟩ f A outer s H E) (e :: es) ta ∧ PSs (ncx CX0 P w K mg base N ⟨"__init__", qual, params, xBody e es rest p0 p1 ap cp ep, scope, [("__class__", cc)], cda⟩ f A outer s H E) rest t ∧
      ta (startF N vs [some (.ref C)]) H fun ws H1 => ws.length ≤ 1000 ∧ H1 a = some (exo a C none) ∧ t { nx := fun _ H' => Q .non H', rt := Q } (startF N vs [some (.ref C)]) H1) :
    FnOk P w K mg base CX0 (k + 1) f (PySem.W.ksFn "__init__" qual params (xBody e es rest p0 p1 ap cp ep) scope .none kV doc pm an (.ref cda) ct cc) ps sp := by
  refine ⟨len, fun A outer s H args us vs Q E hr e0 hb r hsp => ?_⟩
  have hl := len _ _ _ _ hsp
  have KX : K.In s.heap := e0.mod.kin.keeps fun b o e => (e0.bs b o e).1
  have lim : s.heap.NoLimit := e0.mod.nolimit.keeps fun b o e => (e0.bs b o e).1
  obtain ⟨a, ta, t, hv0, hex, hpa, hpss, hq⟩ := hbody A outer s H vs Q E hsp
  have hcellH : s.heap.IsCell cc (some (.ref C)) := ⟨_, KX _ _ hcell, rfl⟩
  have one : ∀ {y c}, ([("__class__", cc)] : List (Str × Addr)).lookup y = some c → y = "__class__" ∧ c = cc := fun {y c} h => by
    rw [List.lookup_cons] at h
    by_cases hy : y = "__class__"
    · subst hy
      simp at h
      exact ⟨rfl, h.symm⟩
    · rw [beq_eq_false_iff_ne.mpr hy] at h
      simp at h
  have CA : CellsAt [("__class__", cc)] ["__class__"] [some (.ref C)] s.heap H := by
    refine ⟨rfl, fun y c h => ?_, fun x y c h1 h2 => ?_, fun i y h => ?_⟩
    · obtain ⟨_, rfl⟩ := one h
      exact ⟨(e0.bs _ _ (e0.mod.kin _ _ hcell)).2, _, hcellH⟩
    · rw [(one h1).1, (one h2).1]
    · match i, h with
      | 0, h =>
        cases h
        exact ⟨cc, by simp, fun v hv => by cases hv; exact ⟨.ref C, rfl, hcellH⟩⟩
      | n + 1, h => simp at h
  have hu0 : us[0]? = some (.ref a) := by
    obtain ⟨u, hu, rv⟩ := r.get hv0
    obtain rfl : u = Value.ref a := rv
    exact hu
  have ndP : ps.Nodup := by
    have q := S.nd.sublist (List.take_sublist (ps.length + 1) N)
    rw [show N.take (ps.length + 1) = ps ++ ([("__class__" : Str)] : List Str) from S.pre] at q
    exact (List.nodup_append.mp q).1
  refine PySem.ks_codeAny_call_defAt (binds := ps.zip us) hr.depth (KX _ _ lk) rfl lim (PySem.W.codeRec_of KX hcd) rfl hb S.nocell (fun ⟨n, v⟩ hy => S.par n (List.of_mem_zip hy).1) (fun h₁ hns kp => ?_) S.co S.gen S.kind
  have I : Inv (ncx CX0 P w K mg base N ⟨"__init__", qual, params, xBody e es rest p0 p1 ap cp ep, scope, [("__class__", cc)], cda⟩ f A outer s H E) [] (startF N vs [some (.ref C)]) H { s with heap := h₁, toks := s.toks + (ps.zip us).length } := inv_startN S hr.hd e0 hl r CA hns kp
  have hkc : scope.names.lookup ("__class__" : Str) = some .free := S.frk _ (by simp)
  have hka : scope.names.lookup ar.arg = some .local := S.par _ (List.mem_of_getElem? hps)
  have hself : (ps.zip us).reverse.lookup ar.arg = some (.ref a) := zip_look ndP hps hu0
  have KX1 : K.In h₁ := KX.keeps kp
  obtain ⟨oD, hD1, hD2⟩ : ∃ oD, h₁.get? C = some oD ∧ oD.data = .cls cdC := by
    unfold PySem.W.clsIn at hC
    split at hC
    · rename_i c d cd' sl ho
      cases hC
      exact ⟨_, KX1 _ _ ho, rfl⟩
    · cases hC
  obtain ⟨t1, hx⟩ := exo_at I.hok hex
  have hxC : a ≠ C := fun z => by
    rw [z, hD1] at hx
    cases hx
    cases hD2
  obtain ⟨mb, hb1, hb2⟩ := I.mod.blt
  refine PySem.ks_wpAt_execs_cons (PySem.ks_wpAt_Expr_any (PySem.ks_wpAt_MethodCall (pl := pl) (PySem.ks_wpAt_super_base hks hkc (by decide) rfl (KX1 _ _ lk) rfl har rfl (KX1 _ _ hcode) rfl hvs hfile htop ?_) (hev _)) (hi _) (hsw _))
  refine PySem.W.ks_loadName_global S.kind hks (Calls.loadGlobal_builtin (e0.mod.glob.keeps I.bk) hsup (hb1.keeps I.bk) ((hb2 _ (by decide)).trans (show bootBuiltins "super" = some (.type "super") by kernel_rfl)) ⟨rfl, ?_⟩)
  refine wpAny_loadName_free S.kind hkc rfl ⟨_, KX1 _ _ hcell, rfl⟩ ?_
  refine wpAny_loadName_local S.kind hka hns hself ?_
  refine PySem.ks_wpAny_isType_cls hD1 hD2 ⟨rfl, ?_⟩
  refine PySem.ks_wpAny_call_super hD1 hD2 hx rfl (fun c e => nomatch e) (PySem.W.looks_mroIn KX1 hsub) (fun h₂ eso k2 => ?_)
  have KX2 : K.In h₂ := KX1.keeps k2
  have hx2 := k2 _ _ hx
  have IA : PySem.W.InstAt h₂ a _ C none := ⟨hx2, rfl, rfl, trivial⟩
  refine PySem.W.kxs_getMethod PySem.W.kxs_ValueError eso (PySem.W.looks_opaque KX2 ho) (l₀ := cdC.mro) (fun A Q E s k q => wpAny_bind ((PySem.W.looks_clsIn KX2 hC) A _ E s k (wpAny_pure q))) rfl KX2 (by unfold PySem.W.ks_superIn at hm; rw [hC] at hm; exact hm) (IA.type.andThen (PySem.W.looks_subIn KX2 hB)) hxC (by decide) ?_
  have k3 : ∀ b o, h₁.get? b = some o → (h₂.push (PySem.W.kxs_mw "ValueError.__init__" a)).get? b = some o := fun b o e => Heap.get?_push_of_some _ (k2 b o e)
  have sz : h₁.objs.size ≤ h₂.objs.size := Nat.le_of_lt (Heap.lt_size eso)
  have I3 := I.kept (t' := s.toks + (ps.zip us).length + 1) k3
  have hmw : (h₂.push (PySem.W.kxs_mw "ValueError.__init__" a)).get? h₂.objs.size = some (PySem.W.kxs_mw "ValueError.__init__" a) := Heap.get?_push_at rfl rfl
  have pin : ∀ p ∈ ([] : List (Addr × Obj)) ++ [(h₂.objs.size, PySem.W.kxs_mw "ValueError.__init__" a)], (h₂.push (PySem.W.kxs_mw "ValueError.__init__" a)).get? p.1 = some p.2 ∧ H p.1 = none ∧ p.1 ≠ s.heap.objs.size ∧ p.1 ∉ frs outer ∧ ∀ v, p.2.data ≠ .cell v := fun p hp => by
    simp only [List.nil_append, List.mem_singleton] at hp
    subst hp
    have hlt : s.heap.objs.size < h₁.objs.size := hns.lt
    exact ⟨hmw, I.hok.fresh sz, Nat.ne_of_gt (Nat.lt_of_lt_of_le hlt sz), fun z => absurd (I.nofs (a := h₂.objs.size) sz z) (by simp), fun v z => by cases z⟩
  have I3p : Inv (ncx CX0 P w K mg base N ⟨"__init__", qual, params, xBody e es rest p0 p1 ap cp ep, scope, [("__class__", cc)], cda⟩ f A outer s H E) [(h₂.objs.size, PySem.W.kxs_mw "ValueError.__init__" a)] (startF N vs [some (.ref C)]) H { s with heap := h₂.push (PySem.W.kxs_mw "ValueError.__init__" a), toks := s.toks + (ps.zip us).length + 1 } :=
    ⟨I3.ok, I3.os, I3.bare, I3.base, I3.loc, I3.cell, I3.free, I3.freeC, pin, I3.hok, I3.len⟩
  have run := hpa.run cp _ _ _ H _ I3p hq
  show wpAny _ _ (callWith cp (.ref h₂.objs.size) [] (backTo cp (starEach (e :: es) (PySem.W.ksEnv qual scope s.heap.objs.size f (.ref cda) cc))) []) _ _ _
  have run' : wpAny (model P w) (A.deeper (PySem.W.ksEnv qual scope s.heap.objs.size f (.ref cda) cc)) (spliced (backTo cp (starEach (e :: es) (PySem.W.ksEnv qual scope s.heap.objs.size f (.ref cda) cc)))) _ _ _ := run
  rw [hstar] at run' ⊢
  refine PySem.W.kxs_callWith (i := "ValueError.__init__") (x := a) (by show (false || (backTo cp (starEach es _)).any (·.1)) = false; rw [hpl]; rfl) (Calls.evalArgs_plain (thn run' fun us2 s3 h3 => ?_))
  obtain ⟨ws, H1, I4, r4, hz, he1, hq2⟩ := h3
  have hmw4 := (I4.pin _ (List.mem_append_right _ (List.mem_singleton.mpr rfl))).1
  refine ⟨hmw4, ?_⟩
  have hlen : us2.length ≤ sizeLine := by
    rw [← Paired.length r4, sizeLine_eq]
    omega
  refine mw_init T I4 he1 hmw4 hlen (fun s' J => ?_)
  have J0 : Inv (ncx CX0 P w K mg base N ⟨"__init__", qual, params, xBody e es rest p0 p1 ap cp ep, scope, [("__class__", cc)], cda⟩ f A outer s H E) [] (startF N vs [some (.ref C)]) H1 s' :=
    ⟨J.ok, J.os, J.bare, J.base, J.loc, J.cell, J.free, J.freeC, fun p hp => absurd (show p ∈ ([] : List (Addr × Obj)) ++ [] from hp) (by simp), J.hok, J.len⟩
  refine wpAt_of_wpAny (wpAny_mono (hpss.run [] s' _ H1 _ J0 hq2) (fun fl s'' hs => ?_) fun e s'' hs => hs)
  have fin : ∀ {σ' : L2.St} {H' : Hp} {v : V} {u : Value}, Inv (ncx CX0 P w K mg base N ⟨"__init__", qual, params, xBody e es rest p0 p1 ap cp ep, scope, [("__class__", cc)], cda⟩ f A outer s H E) [] σ' H' s'' → L2.RelV v u → Q v H' → CE outer P w H s Q u s'' :=
    fun {σ' H' v u} J rv q => ⟨v, H', J.os, J.bare, J.base, J.hok, rv, q⟩
  cases fl with
  | ret u =>
    obtain ⟨v, σ', H', J, rv, q⟩ := hs
    exact fin J rv q
  | next =>
    obtain ⟨σ', H', J, q⟩ := hs
    exact fin (v := V.non) (u := Value.none) J rfl q
  | brk =>
    obtain ⟨_, _, _, q⟩ := hs
    exact False.elim q
  | cont =>
    obtain ⟨_, _, _, q⟩ := hs
    exact False.elim q
end
end DS
/-! lambdas as values: their cells are shown while a callee or a block runs -/
namespace DS
open PySem L2 PySem.Spec PyProof.Rows LamX NdefX
/-- a cell that is shown: its object as it is -/
def fz (c : Addr) (o : Obj) : HO := .frz o (.ext fun h => h.get? c = some o)
def nfz : HO → Bool
  | .frz _ (.ext _) => false
  | _ => true
theorem fz_nfz {c : Addr} {o : Obj} : nfz (fz c o) = false := rfl
/-- all but the shown cells stay -/
def Hid (J H : Hp) : Prop := ∀ b o, J b = some o → nfz o = true → H b = some o
def AllFz (J : Hp) (cs : List Addr) : Prop := ∀ c ∈ cs, ∃ o, J c = some (fz c o)
def less (J : Hp) (cs : List Addr) : Hp := fun b => if b ∈ cs then none else J b
theorem less_in {J : Hp} {cs : List Addr} {b : Addr} (h : b ∈ cs) : less J cs b = none := if_pos h
theorem less_out {J : Hp} {cs : List Addr} {b : Addr} (h : b ∉ cs) : less J cs b = J b := if_neg h
theorem AllFz.out {J : Hp} {cs : List Addr} (a : AllFz J cs) {b : Addr} {o : HO} (h : J b = some o) (n : nfz o = true) : b ∉ cs := fun z => by
  obtain ⟨q, e⟩ := a b z
  rw [h] at e
  cases e
  cases n
theorem hid_less {J : Hp} {cs : List Addr} (a : AllFz J cs) : Hid J (less J cs) := fun b o e n => by
  rw [less_out (a.out e n)]
  exact e
theorem hok_sub {P : Program} {w : World} {J H : Hp} {h : Heap} (x : HOk P w J h) (sub : ∀ b o, H b = some o → J b = some o) (own : ∀ b y, J b = some (.own y) → H b = some (.own y)) (tup : ∀ b xs, J b = some (.tup xs) → H b = some (.tup xs)) : HOk P w H h := fun b o e =>
  (x b o (sub b o e)).stay (fun _ _ _ q => q) (fun d q => own d _ q) fun d xs q => tup d xs q
theorem less_hok {P : Program} {w : World} {J : Hp} {cs : List Addr} {h : Heap} (x : HOk P w J h) (a : AllFz J cs) : HOk P w (less J cs) h := by
  refine hok_sub x (fun b o e => ?_) (fun b y e => hid_less a b _ e rfl) fun b xs e => hid_less a b _ e rfl
  by_cases z : b ∈ cs
  · rw [less_in z] at e
    cases e
  · rw [less_out z] at e
    exact e
theorem fz_at {P : Program} {w : World} {J : Hp} {h : Heap} {c : Addr} {o : Obj} (x : HOk P w J h) (e : J c = some (fz c o)) : h.get? c = some o := (x c _ e).1
/-- J is H with the cells cs shown -/
structure Shown (H J : Hp) (cs : List Addr) (h : Heap) : Prop where
  off : ∀ b, b ∉ cs → J b = H b
  on : ∀ c ∈ cs, H c = none ∧ ∃ o, h.get? c = some o ∧ J c = some (fz c o)
theorem Shown.all {H J : Hp} {cs : List Addr} {h : Heap} (S : Shown H J cs h) : AllFz J cs := fun c hc => by
  obtain ⟨_, o, _, e⟩ := S.on c hc
  exact ⟨o, e⟩
theorem Shown.same {H J : Hp} {cs : List Addr} {h : Heap} (S : Shown H J cs h) : Same H J := fun b o e => by
  by_cases z : b ∈ cs
  · rw [(S.on b z).1] at e
    cases e
  · rw [S.off b z]
    exact e
theorem Shown.hok {P : Program} {w : World} {H J : Hp} {cs : List Addr} {h : Heap} (S : Shown H J cs h) (x : HOk P w H h) : HOk P w J h := fun b u e => by
  by_cases z : b ∈ cs
  · obtain ⟨_, o, g, q⟩ := S.on b z
    rw [q] at e
    cases e
    exact ⟨g, g, ⟨o, g⟩, fun h1 h2 p st => st _ p⟩
  · rw [S.off b z] at e
    exact (x b u e).stay (fun _ _ _ q => q) (fun d q => S.same _ _ q) fun d xs q => S.same _ _ q
/-- where a run from J has come to J', from H to J' without the cells -/
theorem Shown.back {P : Program} {w : World} {H J J' : Hp} {cs fs ch : List Addr} {h h' : Heap} (S : Shown H J cs h) (u : Un fs ch J J' h h') (x : HOk P w J' h') : AllFz J' cs ∧ Un fs ch H (less J' cs) h h' := by
  have a : AllFz J' cs := fun c hc => by
    obtain ⟨_, o, _, e⟩ := S.on c hc
    exact ⟨o, u.frzs _ _ _ e⟩
  have st : ∀ b o, h.get? b = some o → b ∈ cs → h'.get? b = some o := fun b o e z => by
    obtain ⟨_, o', g, q⟩ := S.on b z
    rw [e] at g
    cases g
    exact fz_at x (u.frzs _ _ _ q)
  have mv : ∀ {b : Addr} {o : HO}, H b = some o → J b = some o := fun e => S.same _ _ e
  have no : ∀ {b : Addr} {o : HO}, H b = some o → b ∉ cs := fun {b o} e z => by
    rw [(S.on b z).1] at e
    cases e
  refine ⟨a, fun b o e n hb hc => ?_, fun b o e n hb hc => ?_, fun b o e n hc => ?_, fun b o e hc => u.there b o e hc, fun b xs e => ?_, fun b o v e => ?_, fun b ps e => ?_⟩
  · by_cases z : b ∈ cs
    · exact st b o e z
    · exact u.keep b o e (by rw [S.off b z]; exact n) hb hc
  · by_cases z : b ∈ cs
    · exact ⟨o.slots, st b o e z⟩
    · exact u.slot b o e (by rw [S.off b z]; exact n) hb hc
  · by_cases z : b ∈ cs
    · exact less_in z
    · rw [less_out z]
      exact u.free b o e (by rw [S.off b z]; exact n) hc
  · rw [less_out (no e)]
    exact u.tups _ _ (mv e)
  · rw [less_out (no e)]
    exact u.frzs _ _ _ (mv e)
  · rw [less_out (no e)]
    exact u.tbls _ _ (mv e)
/-! ### a call from a heap with shown cells, run without them -/
theorem env0_less {P : Program} {w : World} {K : PySem.W.Frag} {mg : Str → Option Value} {base : Heap} {A : Around} {outer : List Env} {s : Shared} {H : Hp} {cs : List Addr} (e0 : Env0 P w K mg base A outer s H) (a : AllFz H cs) : Env0 P w K mg base A outer s (less H cs) := by
  have nn : ∀ b, H b = none → less H cs b = none := fun b e => by
    by_cases z : b ∈ cs
    · exact less_in z
    · rw [less_out z]
      exact e
  exact ⟨e0.frames, e0.mod, fun b o e => ⟨(e0.bs b o e).1, nn b (e0.bs b o e).2⟩, e0.bsz, e0.funs, fun b hb => nn b (e0.frf b hb), less_hok e0.hok a, e0.bare⟩
/-- what is wanted behind it -/
def bkQ (H Hh : Hp) (Q : VK) : VK := fun v H' => ∀ H'', Same H' H'' → (Same Hh H' → Same H H'') → Q v H''
def bkE (H Hh : Hp) (E : XK) : XK := fun c d H' => ∀ H'', Same H' H'' → (Same Hh H' → Same H H'') → E c d H''
def glue (H : Hp) (cs : List Addr) (H' : Hp) : Hp := fun b => if b ∈ cs then H b else H' b
section
variable {P : Program} {w : World} {K : PySem.W.Frag} {mg : Str → Option Value} {base : Heap} {A : Around} {outer : List Env} {s s' : Shared} {H H' : Hp} {cs : List Addr} {B : Heap}
theorem glue_in {b : Addr} (z : b ∈ cs) : glue H cs H' b = H b := if_pos z
theorem glue_out {b : Addr} (z : b ∉ cs) : glue H cs H' b = H' b := if_neg z
theorem glue_same (n : ∀ c ∈ cs, H' c = none) : Same H' (glue H cs H') := fun b o e => by
  have z : b ∉ cs := fun z => by
    rw [n b z] at e
    cases e
  rw [glue_out z]
  exact e
theorem glue_same2 (q : Same (less H cs) H') : Same H (glue H cs H') := fun b o e => by
  by_cases z : b ∈ cs
  · rw [glue_in z]
    exact e
  · rw [glue_out z]
    exact q b o (by rw [less_out z]; exact e)
theorem glue_hok (n : ∀ c ∈ cs, H' c = none) (st : ∀ c o, c ∈ cs → H c = some (fz c o) → B.get? c = some o) (a : AllFz H cs) (x : HOk P w H' B) : HOk P w (glue H cs H') B := fun b u e => by
  by_cases z : b ∈ cs
  · obtain ⟨o, q⟩ := a b z
    rw [glue_in z, q] at e
    cases e
    have g := st b o z q
    exact ⟨g, g, ⟨o, g⟩, fun h1 h2 p k => k _ p⟩
  · rw [glue_out z] at e
    exact (x b u e).stay (fun _ _ _ q => q) (fun d q => glue_same n _ _ q) fun d xs q => glue_same n _ _ q
theorem cr_back {Q : VK} {E : XK} {r : Result} (e0 : Env0 P w K mg base A outer s H) (a : AllFz H cs) (h : CR (L2.CX P w) outer P w (less H cs) s (bkQ H (less H cs) Q) (bkE H (less H cs) E) r s') : CR (L2.CX P w) outer P w H s Q E r s' := by
  have g : ∀ c o, c ∈ cs → H c = some (fz c o) → s.heap.get? c = some o := fun c o _ e => fz_at e0.hok e
  have nf : ∀ c ∈ cs, c ∉ frs outer := fun c hc z => by
    obtain ⟨o, e⟩ := a c hc
    rw [e0.frf c z] at e
    cases e
  have nn : ∀ b, H b = none → less H cs b = none := fun b e => by
    by_cases z : b ∈ cs
    · exact less_in z
    · rw [less_out z]
      exact e
  have nc : ∀ b, H b = none → b ∉ cs := fun b e z => by
    obtain ⟨o, q⟩ := a b z
    rw [e] at q
    cases q
  have up : ∀ {b : Addr} {o : HO}, H b = some o → nfz o = true → b ∉ cs ∧ less H cs b = some o := fun {b o} e n => ⟨a.out e n, hid_less a b o e n⟩
  cases r with
  | error u =>
    obtain ⟨x, B, H', cls, d, rfl, fly, hB, ub, na, os, ag, q⟩ := h
    have n : ∀ c ∈ cs, H' c = none := fun c hc => by
      obtain ⟨o, e⟩ := a c hc
      exact ub.free c o (g c o hc e) (less_in hc)
    have st : ∀ c o, c ∈ cs → H c = some (fz c o) → B.get? c = some o := fun c o hc e => ub.keep c o (g c o hc e) (less_in hc) (nf c hc)
    have xn : x ∉ cs := fun z => by
      obtain ⟨o, e⟩ := a x z
      have := st x o z e
      rw [fly.2.1] at this
      cases this
    refine ⟨x, B, glue H cs H', cls, d, rfl, fly, glue_hok n st a hB, ⟨fun b o e m hb => ub.keep b o e (nn b m) hb, fun b o e hb => ub.slot b o e hb, fun b o e m => ?_, fun b o e hb => ub.there b o e hb, fun b xs e => ?_, fun b o v e => ?_, fun b ps e => ?_⟩, by rw [glue_out xn]; exact na, os, ag, q _ (glue_same n) glue_same2⟩
    · rw [glue_out (nc b m)]
      exact ub.free b o e (nn b m)
    · obtain ⟨z, e⟩ := up e rfl
      rw [glue_out z]
      exact ub.tups _ _ e
    · by_cases z : b ∈ cs
      · rw [glue_in z]
        exact e
      · rw [glue_out z]
        exact ub.frzs b o v (by rw [less_out z]; exact e)
    · obtain ⟨z, e⟩ := up e rfl
      rw [glue_out z]
      exact ub.tbls _ _ e
  | ok fl =>
    cases fl with
    | ret u =>
      obtain ⟨v, H', os, ag, un, hB, rv, q⟩ := h
      have n : ∀ c ∈ cs, H' c = none := fun c hc => by
        obtain ⟨o, e⟩ := a c hc
        exact un.free c o (g c o hc e) (less_in hc) (by simp)
      have st : ∀ c o, c ∈ cs → H c = some (fz c o) → s'.heap.get? c = some o := fun c o hc e => un.keep c o (g c o hc e) (less_in hc) (nf c hc) (by simp)
      refine ⟨v, glue H cs H', os, ag, ⟨fun b o e m hb hx => un.keep b o e (nn b m) hb hx, fun b o e m hb hx => un.slot b o e (nn b m) hb hx, fun b o e m hx => ?_, fun b o e hx => un.there b o e hx, fun b xs e => ?_, fun b o v e => ?_, fun b ps e => ?_⟩, glue_hok n st a hB, rv, q _ (glue_same n) glue_same2⟩
      · rw [glue_out (nc b m)]
        exact un.free b o e (nn b m) hx
      · obtain ⟨z, e⟩ := up e rfl
        rw [glue_out z]
        exact un.tups _ _ e
      · by_cases z : b ∈ cs
        · rw [glue_in z]
          exact e
        · rw [glue_out z]
          exact un.frzs b o v (by rw [less_out z]; exact e)
      · obtain ⟨z, e⟩ := up e rfl
        rw [glue_out z]
        exact un.tbls _ _ e
    | next => exact h.elim
    | brk => exact h.elim
    | cont => exact h.elim
end
/-! ### lambdas -/
structure LT where
  params : Arguments
  body : Expr
  scope : Scope
  qual : Str
def LamO (f : Addr) (L : LT) (cl : List (Str × Addr)) (c : Addr) : HO := .ext fun h => ∃ pm ctv, h.get? f = some (PySem.W.kla_obj "<lambda>" L.qual L.params L.body L.scope cl pm c ctv)
theorem lamO_ne {f c : Addr} {L : LT} {cl : List (Str × Addr)} (ps : Array Value) : LamO f L cl c ≠ .tbl ps := fun z => by
  unfold LamO at z
  cases z
theorem lamO_at {P : Program} {w : World} {H : Hp} {h : Heap} {f c : Addr} {L : LT} {cl : List (Str × Addr)} (x : HOk P w H h) (e : H f = some (LamO f L cl c)) : ∃ pm ctv, h.get? f = some (PySem.W.kla_obj "<lambda>" L.qual L.params L.body L.scope cl pm c ctv) := (x f _ e).1
/-- what a shown cell holds -/
def Cel (H : Hp) (c : Addr) (v : V) : Prop := ∃ o u, H c = some (fz c o) ∧ o.data = .cell (some u) ∧ RelV v u
theorem Cel.same {H H' : Hp} {c : Addr} {v : V} (e : Same H H') (h : Cel H c v) : Cel H' c v := by
  obtain ⟨o, u, a, b⟩ := h
  exact ⟨o, u, e _ _ a, b⟩
/-- at f a lambda of the text L, its captured names fr hold ws (its cells are shown) -/
def Lm (H : Hp) (f : Addr) (L : LT) (fr : List Str) (ws : List V) : Prop := ws.length = fr.length ∧ ∃ cl c, H f = some (LamO f L cl c) ∧ H c = some (CodeO c L.qual) ∧ (∀ x y a, cl.lookup x = some a → cl.lookup y = some a → x = y) ∧
  (∀ y a, cl.lookup y = some a → ∃ o v, H a = some (fz a o) ∧ o.data = .cell v) ∧ ∀ (i : Nat) (y : Str), fr[i]? = some y → ∃ a, cl.lookup y = some a ∧ ∀ v, ws[i]? = some v → Cel H a v
theorem Lm.same {H H' : Hp} {f : Addr} {L : LT} {fr : List Str} {ws : List V} (e : Same H H') (h : Lm H f L fr ws) : Lm H' f L fr ws := by
  obtain ⟨n, cl, c, h1, h2, h3, h4, h5⟩ := h
  refine ⟨n, cl, c, e _ _ h1, e _ _ h2, h3, fun y a l => ?_, fun i y l => ?_⟩
  · obtain ⟨o, v, a1, a2⟩ := h4 y a l
    exact ⟨o, v, e _ _ a1, a2⟩
  · obtain ⟨a, a1, a2⟩ := h5 i y l
    exact ⟨a, a1, fun v q => (a2 v q).same e⟩
/-- f() does: it ends as Q says, or lets out what E says -/
def Act (P : Program) (w : World) (K : PySem.W.Frag) (mg : Str → Option Value) (base : Heap) (k : Nat) (f : Addr) (H : Hp) (Q : VK) (E : XK) : Prop := (∃ L cl c, H f = some (LamO f L cl c)) ∧
  ∀ (A : Around) (outer : List Env) (s : Shared), Room k A → Env0 P w K mg base A outer s H → codeAny (model P w) A (.call (.ref f) ⟨[], []⟩) (CR (L2.CX P w) outer P w H s Q E) s
/-- a lambda's own context -/
abbrev lcx (P : Program) (w : World) (K : PySem.W.Frag) (mg : Str → Option Value) (base : Heap) (fr : List Str) (L : LT) (cl : List (Str × Addr)) (c f : Addr) (A : Around) (outer : List Env) (s : Shared) (H : Hp) (E : XK) : Cx :=
  ncx (L2.CX P w) P w K mg base fr ⟨"<lambda>", L.qual, L.params, [], L.scope, cl, c⟩ f A outer s H E
theorem lam_act {P : Program} {w : World} {K : PySem.W.Frag} {mg : Str → Option Value} {base : Heap} {L : LT} {fr : List Str} {k : Nat} {t : XK → TE} {f : Addr} {H : Hp} {Q : VK} {E : XK} {ws : List V} (S : NScope fr [] fr L.scope)
    (hbind : ∀ (cl : List (Str × Addr)) (pm cv ctv : Value), bindArgs (PySem.W.kla_fn "<lambda>" L.qual L.params L.body L.scope cl pm cv ctv) ⟨[], []⟩ = pure [])
    (hbody : ∀ (cl : List (Str × Addr)) (c f : Addr) (A : Around) (outer : List Env) (s : Shared) (H : Hp) (E : XK), Room k (A.deeper (PySem.W.envX L.qual L.scope s.heap.objs.size f (.ref c) cl)) → PE (lcx P w K mg base fr L cl c f A outer s H E) L.body (t E))
    (hl : Lm H f L fr ws) (h : ∀ Hh, Hid H Hh → t (bkE H Hh E) (ws.map some) Hh (bkQ H Hh Q)) : Act P w K mg base (k + 1) f H Q E := by
  obtain ⟨wl, cl, c, hf, hc, inj, cel, val⟩ := hl
  refine ⟨⟨L, cl, c, hf⟩, fun A outer s hr e0 => ?_⟩
  have mem : ∀ y b, cl.lookup y = some b → b ∈ (cl.map (·.1)).filterMap (fun y => cl.lookup y) := fun y b e => List.mem_filterMap.mpr ⟨y, List.mem_map.mpr ⟨(y, b), PySem.mem_of_lookup e, rfl⟩, e⟩
  have a : AllFz H ((cl.map (·.1)).filterMap (fun y => cl.lookup y)) := fun b hb => by
    obtain ⟨y, _, e⟩ := List.mem_filterMap.mp hb
    obtain ⟨o, v, e1, _⟩ := cel y b e
    exact ⟨o, e1⟩
  generalize hcs : (cl.map (·.1)).filterMap (fun y => cl.lookup y) = cs at mem a
  have e1 := env0_less e0 a
  refine codeAny_mono (R := CR (L2.CX P w) outer P w (less H cs) s (bkQ H (less H cs) Q) (bkE H (less H cs) E)) ?_ fun r s' z => cr_back e0 a z
  have KX : K.In s.heap := e0.mod.kin.keeps fun b o e => (e0.bs b o e).1
  have lim : s.heap.NoLimit := e0.mod.nolimit.keeps fun b o e => (e0.bs b o e).1
  obtain ⟨pm, ctv, of⟩ := lamO_at e0.hok hf
  obtain ⟨⟨oc, vs, tk, hoc, hdc, hvc⟩, _, _⟩ := e0.hok c _ hc
  have CA : CellsAt cl fr (ws.map some) s.heap (less H cs) := by
    refine ⟨by rw [List.length_map]; exact wl, fun y b e => ⟨less_in (mem y b e), ?_⟩, inj, fun i y e => ?_⟩
    · obtain ⟨o, v, q1, q2⟩ := cel y b e
      exact ⟨v, o, fz_at e0.hok q1, q2⟩
    · obtain ⟨b, q1, q2⟩ := val i y e
      refine ⟨b, q1, fun v hv => ?_⟩
      have hv2 : ws[i]? = some v := by
        rw [List.getElem?_map] at hv
        cases z : ws[i]? with
        | none => rw [z] at hv; cases hv
        | some x => rw [z] at hv; cases hv; rfl
      obtain ⟨o, u, r1, r2, r3⟩ := q2 v hv2
      exact ⟨u, r3, o, fz_at e0.hok r1, r2⟩
  refine PySem.W.kla_callFunE hr.depth of rfl S.co S.gen rfl ⟨c, oc, vs, tk, rfl, hoc, hdc, hvc⟩ ?_
  rw [hbind]
  refine wpAny_pure (wpAny_newFunctionEnv S.nocell (fun y hy => absurd hy (by simp)) (fun h1 hns hsb => ⟨lim.fresh _ hsb, ?_⟩) S.kind)
  have kp : ∀ b o, s.heap.get? b = some o → h1.get? b = some o := fun b o e => hsb.extBut b o (Nat.ne_of_lt (Heap.lt_size e)) (Heap.get?_push_of_some _ e)
  have J := inv_startN (CX := L2.CX P w) (F := ⟨"<lambda>", L.qual, L.params, [], L.scope, cl, c⟩) (f := f) (E := bkE H (less H cs) E) (us := []) (vs := []) (tk := s.toks + ([] : List (Str × Value)).length) S hr.hd e1 rfl .nil CA hns kp
  have st : startF fr [] (ws.map some) = ws.map some := by
    unfold startF
    have e : fr.length - ([] : List V).length - (ws.map some).length = 0 := by
      rw [List.length_map, wl]
      simp
    rw [e]
    simp
  rw [st] at J
  refine PySem.W.kla_codeExpr (wpAny_mono ((hbody cl c f A outer s (less H cs) (bkE H (less H cs) E) (hr.deeper _)).run [] _ _ _ _ J (h _ (hid_less a))) (fun v s' hq => ?_) fun e s' hq => hq)
  obtain ⟨v', H', J', rv, q⟩ := hq
  exact ⟨v', H', J'.os, J'.bare, J'.base, J'.hok, rv, q⟩
/-- x(), x a name that holds a lambda -/
def tAct (i k : Nat) (P : Program) (w : World) (K : PySem.W.Frag) (mg : Str → Option Value) (base : Heap) (W : WX) : TE := fun σ H Q => ∃ f, σ[i]? = some (some (.ref f)) ∧ Act P w K mg base k f H Q (fun c d H' => W c d σ H')
theorem pe_actN {X : Cx} {P : Program} {w : World} {K : PySem.W.Frag} {mg : Str → Option Value} {base : Heap} {W : WX} {i k : Nat} {a : Str} {p1 p2 : Pos} (hX : X.prog = P ∧ X.w = w ∧ X.K = K ∧ X.mg = mg ∧ X.base = base) (tk : Takes X W) (hr : Room k X.A) (hN : X.N[i]? = some a) (hv : Vis X.env.scope a) (hd : (a == ("__debug__" : Str)) = false := by decide) (hcd : (a == ("__classdict__" : Str)) = false := by decide) :
    PE X (.Call (.Name a p1) [] [] p2) (tAct i k P w K mg base W) := by
  obtain ⟨rfl, rfl, rfl, rfl, rfl⟩ := hX
  refine ⟨fun pins s σ H Q I h => ?_⟩
  obtain ⟨f, hs, ⟨L, cl, c, hf⟩, run⟩ := h
  refine wpAny_Call_Name_kw (thn ((pe_var (pos := p1) (i := i) hN hv hd hcd).run pins s σ H (fun v H1 => v = .ref f ∧ H1 = H) I ⟨.ref f, hs, rfl, rfl⟩) fun u s1 ⟨v, H1, I1, r1, q1⟩ => ?_)
  obtain ⟨ev, eH⟩ := q1
  subst ev
  subst eH
  obtain rfl : u = Value.ref f := r1
  obtain ⟨pm, ctv, of⟩ := lamO_at I1.hok hf
  refine PySem.W.callWith_F0 ⟨_, _, _, _, of⟩ ?_
  refine wpAny_call (codeAny_mono (run X.A X.stack s1 hr I1.env0) fun r s' hq => ?_)
  cases r with
  | error e => exact passAt tk σ pins H1 s1 e s' I1 hq
  | ok fl =>
    cases fl with
    | ret u => exact I1.after hq
    | next => exact False.elim hq
    | brk => exact False.elim hq
    | cont => exact False.elim hq
end DS
namespace DS
open PySem L2 PySem.Spec PyProof.Rows LamX NdefX
/-! ### a lambda is made -/
section
variable {X : Cx} {pins : List (Addr × Obj)} {σ : L2.St} {H : Hp} {s : Shared}
theorem inv_lam {L : LT} {cl : List (Str × Addr)} {c : Addr} {pm ctv : Value} {o : Obj} {t' : Nat} (I : Inv X pins σ H s) (ho : o = PySem.W.kla_obj "<lambda>" L.qual L.params L.body L.scope cl pm c ctv) :
    Inv X pins σ (upd H s.heap.objs.size (LamO s.heap.objs.size L cl c)) { s with heap := s.heap.push o, toks := t' } := by
  subst ho
  refine I.laid (a := s.heap.objs.size) (fun b u e => Heap.get?_push_of_some _ e) (Nat.le_refl _) ?_
  have e : (s.heap.push (PySem.W.kla_obj "<lambda>" L.qual L.params L.body L.scope cl pm c ctv)).get? s.heap.objs.size = some (PySem.W.kla_obj "<lambda>" L.qual L.params L.body L.scope cl pm c ctv) := Heap.get?_push_size _ rfl
  exact ⟨⟨pm, ctv, e⟩, ⟨_, e⟩, fun h1 h2 ⟨p, t, z⟩ st => ⟨p, t, st _ z⟩⟩
theorem lam_mk {T : List (Addr × Str)} {c P : Addr} {params : Arguments} {body : Expr} {scope : Scope} {pos : Pos} {E : Value → Shared → Prop} {Q : Value → Shared → Prop} (I : Inv X pins σ H s) (TB : TabB X.base X.mg c P) (hcode : X.env.code = .ref c)
    (hm : (P, X.env.qual ++ "<lambda>") ∈ T) (hu : ∀ p ∈ T, p.1 = P → p.2 = X.env.qual ++ "<lambda>") (hT : Tabs T H) (hdef : defaultsOf params X.env = ([], [])) (hfree : ∀ y ∈ scope.names, y.2 = .free → ∃ c, X.env.cells.lookup y.1 = some c)
    (h : ∀ (f c' : Addr) (H1 : Hp) (s' : Shared), Inv X pins σ H1 s' → ExtN H H1 → Tabs T H1 → H f = none → H1 f = some (LamO f ⟨params, body, scope, X.env.qual ++ "<lambda>"⟩ (cloFrom X.env.cells scope.names []) c') → H1 c' = some (CodeO c' (X.env.qual ++ "<lambda>")) → Q (.ref f) s') :
    wpAny (model X.prog X.w) X.A (eval (.Lambda params body scope pos) X.env) Q E s := by
  obtain ⟨ps, hP, ht, ha⟩ := hT _ hm
  refine PySem.W.kla_eval hdef ?_
  have bP : s.heap.BuiltinsAt X.mg P := TB.bm.keeps I.bk
  have gP : s.heap.get? P = some { cls := .none, data := .fields ps } := I.hok P _ hP
  cases am : codeAmong pos ps.toList with
  | none =>
    refine PySem.W.kla_makeFunction (mg := X.mg) (c := c) (P := P) (ps := ps) (closure_ok hfree) I.ok.glob (I.mod.glob.keeps I.bk) hcode (TB.code.keeps I.bk) gP ht am TB.gP bP fun c' ctv h' tk hx hge hlt hrec htb => ?_
    obtain ⟨c2, oc, vs, t, e2, hoc, hd, hv⟩ := hrec
    cases e2
    have nC : H c' = none := I.hok.fresh hge
    have I1 := inv_table (t' := tk) (more := #[rawInt pos.line, rawInt pos.col, .ref c']) (h' := h') I hP (fun b o hb e => hx b o hb e) htb hge ⟨oc, vs, t, hoc, hd, hv⟩
    generalize hH1 : upd (upd H P (.tbl (ps ++ #[rawInt pos.line, rawInt pos.col, .ref c']))) c' (CodeO c' (X.env.qual ++ "<lambda>")) = H1 at I1
    have at1 : ∀ b, b ≠ c' → b ≠ P → H1 b = H b := fun b n1 n2 => by rw [← hH1, upd_ne n1, upd_ne n2]
    have atC : H1 c' = some (CodeO c' (X.env.qual ++ "<lambda>")) := by rw [← hH1, upd_same]
    have atP : H1 P = some (.tbl (ps ++ #[rawInt pos.line, rawInt pos.col, .ref c'])) := by rw [← hH1, upd_ne (ne_of_none hP nC), upd_same]
    have x1 : ExtN H H1 := fun b o e n => by
      rw [at1 b (ne_of_none e nC) (fun z => n ps (by rw [z, hP] at e; exact (Option.some.inj e).symm))]
      exact e
    have eL : (ps ++ #[rawInt pos.line, rawInt pos.col, .ref c']).toList = ps.toList ++ [rawInt pos.line, rawInt pos.col, .ref c'] := by simp
    have T1 : Tabs T H1 := fun p hp => by
      by_cases hb : p.1 = P
      · rw [hu p hp hb, hb]
        refine ⟨_, atP, by rw [eL]; exact PySem.TriplesOk_snoc _ _ _ _ ht, fun p' cv hcv => ?_⟩
        rw [eL] at hcv
        rcases among_app _ ht hcv with z | z
        · obtain ⟨c0, q1, q2⟩ := ha p' cv z
          exact ⟨c0, q1, x1 _ _ q2 codeO_ne⟩
        · exact ⟨c', z, atC⟩
      · obtain ⟨ps', a1, a2, a3⟩ := hT p hp
        refine ⟨ps', by rw [at1 _ (ne_of_none a1 nC) hb]; exact a1, a2, fun p' cv hcv => ?_⟩
        obtain ⟨c0, q1, q2⟩ := a3 p' cv hcv
        exact ⟨c0, q1, x1 _ _ q2 codeO_ne⟩
    have nF : H1 h'.objs.size = none := I1.hok.fresh (Nat.le_refl _)
    have I2 := inv_lam (L := ⟨params, body, scope, X.env.qual ++ "<lambda>"⟩) (cl := cloFrom X.env.cells scope.names []) (c := c') (pm := (X.mg "__name__").getD .none) (ctv := ctv) (t' := tk) I1 rfl
    refine h h'.objs.size c' _ _ I2 (fun b o e n => ?_) (T1.ext fun b o e => ?_) (I.hok.fresh (Nat.le_trans hge (Nat.le_of_lt hlt))) upd_same ?_
    · have e1 := x1 b o e n
      exact (upd_ne (ne_of_none e1 nF)).trans e1
    · exact (upd_ne (ne_of_none e nF)).trans e
    · exact (upd_ne (ne_of_none atC nF)).trans atC
  | some cv =>
    obtain ⟨c', e, hco⟩ := ha pos cv am
    subst e
    refine PySem.W.kla_makeFunctionHit (mg := X.mg) (c := c) (P := P) (ps := ps) (closure_ok hfree) I.ok.glob (I.mod.glob.keeps I.bk) hcode (TB.code.keeps I.bk) gP ht am bP fun ctv h' tk hx hsz => ?_
    have I1 : Inv X pins σ H { s with heap := h', toks := tk } := I.kept hx
    have nF : H h'.objs.size = none := I1.hok.fresh (Nat.le_refl _)
    have I2 := inv_lam (L := ⟨params, body, scope, X.env.qual ++ "<lambda>"⟩) (cl := cloFrom X.env.cells scope.names []) (c := c') (pm := (X.mg "__name__").getD .none) (ctv := ctv) (t' := tk) I1 rfl
    refine h h'.objs.size c' _ _ I2 (fun b o e n => ?_) (hT.ext fun b o e => ?_) nF upd_same ?_
    · exact (upd_ne (ne_of_none e nF)).trans e
    · exact (upd_ne (ne_of_none e nF)).trans e
    · exact (upd_ne (ne_of_none hco nF)).trans hco
end
def tLamN (T : List (Addr × Str)) (L : LT) (cl : List (Str × Addr)) : TE := fun σ H Q => Tabs T H ∧ ∀ f c H1, ExtN H H1 → Tabs T H1 → H f = none → H1 f = some (LamO f L cl c) → H1 c = some (CodeO c L.qual) → Q (.ref f) H1
theorem pe_lamN {X : Cx} {T : List (Addr × Str)} {c P : Addr} {params : Arguments} {body : Expr} {scope : Scope} {pos : Pos} (TB : TabB X.base X.mg c P) (hcode : X.env.code = .ref c) (hm : (P, X.env.qual ++ "<lambda>") ∈ T) (hu : ∀ p ∈ T, p.1 = P → p.2 = X.env.qual ++ "<lambda>")
    (hL : LamS X.env.scope scope) (hdef : defaultsOf params X.env = ([], []) := by rfl) :
    PE X (.Lambda params body scope pos) (tLamN T ⟨params, body, scope, X.env.qual ++ "<lambda>"⟩ (cloFrom X.env.cells scope.names [])) :=
  ⟨fun pins s σ H Q I h => lam_mk I TB hcode hm hu h.1 hdef (hL.has I.ok) fun f c' H1 s' I1 eN T1 n0 e1 e2 => ⟨.ref f, H1, I1, rfl, h.2 f c' H1 eN T1 n0 e1 e2⟩⟩
/-! ### the cells of a def are shown -/
structure Showing (X : Cx) (σ : L2.St) (H J : Hp) : Prop where
  same : Same H J
  cell : ∀ y c, X.env.cells.lookup y = some c → ∃ o v, J c = some (fz c o) ∧ o.data = .cell v
  val : ∀ (i : Nat) (y : Str) (v : V), X.N[i]? = some y → σ[i]? = some (some v) → X.env.scope.names.lookup y = some .cell → ∃ c, X.env.cells.lookup y = some c ∧ Cel J c v
  inj : ∀ x y c, X.env.cells.lookup x = some c → X.env.cells.lookup y = some c → x = y
  has : ∀ y, X.env.scope.names.lookup y = some .cell → ∃ c, X.env.cells.lookup y = some c
def cellsOf (X : Cx) : List Addr := (X.env.cells.map (·.1)).filterMap (fun y => X.env.cells.lookup y)
theorem mem_cellsOf {X : Cx} {c : Addr} : c ∈ cellsOf X ↔ ∃ y, X.env.cells.lookup y = some c := by
  unfold cellsOf
  rw [List.mem_filterMap]
  constructor
  · rintro ⟨y, _, e⟩
    exact ⟨y, e⟩
  · rintro ⟨y, e⟩
    exact ⟨y, List.mem_map.mpr ⟨(y, c), PySem.mem_of_lookup e, rfl⟩, e⟩
open Classical in
theorem show_cells {X : Cx} {pins : List (Addr × Obj)} {σ : L2.St} {H : Hp} {s : Shared} (I : Inv X pins σ H s) : ∃ J, Shown H J (cellsOf X) s.heap ∧ Showing X σ H J := by
  have cel : ∀ c ∈ cellsOf X, ∃ o v, s.heap.get? c = some o ∧ o.data = .cell v ∧ H c = none := fun c hc => by
    obtain ⟨y, e⟩ := mem_cellsOf.mp hc
    obtain ⟨v, o, h1, h2⟩ := I.cell y c e
    exact ⟨o, v, h1, h2, I.freeC y c e⟩
  let J : Hp := fun b => if b ∈ cellsOf X then (s.heap.get? b).map (fz b) else H b
  have S : Shown H J (cellsOf X) s.heap := by
    refine ⟨fun b hb => if_neg hb, fun c hc => ?_⟩
    obtain ⟨o, v, h1, h2, h3⟩ := cel c hc
    refine ⟨h3, o, h1, ?_⟩
    show (if c ∈ cellsOf X then (s.heap.get? c).map (fz c) else H c) = _
    rw [if_pos hc, h1]
    rfl
  refine ⟨J, S, S.same, fun y c e => ?_, fun i y v e1 e2 e3 => ?_, I.ok.inj, fun y e => I.ok.has y (.inl e)⟩
  · have hc : c ∈ cellsOf X := mem_cellsOf.mpr ⟨y, e⟩
    obtain ⟨_, o, g, q⟩ := S.on c hc
    obtain ⟨o', v, h1, h2, _⟩ := cel c hc
    rw [g] at h1
    cases h1
    exact ⟨o, v, q, h2⟩
  · obtain ⟨m, hn, hl⟩ := I.loc
    obtain ⟨u, r, q⟩ := hl i y v e1 e2 (.inr (.inl e3))
    rcases q with ⟨k, _⟩ | ⟨_, c, ec, ⟨o, g, d⟩⟩
    · have k : X.env.scope.names.lookup y = some .local := k
      rw [e3] at k
      cases k
    · refine ⟨c, ec, o, u, ?_, d, r⟩
      obtain ⟨_, o', g', q⟩ := S.on c (mem_cellsOf.mpr ⟨y, ec⟩)
      rw [g] at g'
      cases g'
      exact q
/-- what is known of the cells' places -/
structure Apart (X : Cx) (pins : List (Addr × Obj)) (s : Shared) : Prop where
  base : ∀ c ∈ cellsOf X, X.base.get? c = none
  fr : ∀ c ∈ cellsOf X, c ∉ frs X.stack
theorem apart_of {X : Cx} {pins : List (Addr × Obj)} {σ : L2.St} {H : Hp} {s : Shared} (I : Inv X pins σ H s) (hfn : ∀ y, X.fn y = true) : Apart X pins s := by
  have lo : ∀ c ∈ cellsOf X, X.s_0.heap.objs.size ≤ c := fun c hc => by
    obtain ⟨y, e⟩ := mem_cellsOf.mp hc
    exact I.ok.cab y c (hfn y) e
  refine ⟨fun c hc => Heap.get?_none_of_le (Nat.le_trans I.ok.bsz (lo c hc)), fun c hc z => ?_⟩
  obtain ⟨y, e⟩ := mem_cellsOf.mp hc
  rcases List.mem_cons.mp (I.stkSub c z) with q | q
  · exact I.cne y c e q
  · obtain ⟨_, o, ho, _⟩ := I.ok.funs.mem q
    exact absurd (Nat.lt_of_lt_of_le (Heap.lt_size ho) (lo c hc)) (Nat.lt_irrefl _)
/-- a lambda, its cells not shown -/
def Lm0 (X : Cx) (H : Hp) (f : Addr) (L : LT) : Prop := ∃ c, H f = some (LamO f L (cloFrom X.env.cells L.scope.names []) c) ∧ H c = some (CodeO c L.qual)
theorem Lm0.same {X : Cx} {H H' : Hp} {f : Addr} {L : LT} (e : Same H H') (h : Lm0 X H f L) : Lm0 X H' f L := by
  obtain ⟨c, h1, h2⟩ := h
  exact ⟨c, e _ _ h1, e _ _ h2⟩
theorem Lm0.extN {X : Cx} {H H' : Hp} {f : Addr} {L : LT} (e : ExtN H H') (h : Lm0 X H f L) : Lm0 X H' f L := by
  obtain ⟨c, h1, h2⟩ := h
  exact ⟨c, e _ _ h1 lamO_ne, e _ _ h2 codeO_ne⟩
theorem Lm0.keep {X : Cx} {H H' : Hp} {f : Addr} {L : LT} (e : Keep H H') (h : Lm0 X H f L) : Lm0 X H' f L := by
  obtain ⟨c, h1, h2⟩ := h
  exact ⟨c, e _ _ h1 rfl, e _ _ h2 rfl⟩
theorem Lm0.shown {X : Cx} {σ : L2.St} {H J : Hp} {f : Addr} {L : LT} {fr : List Str} {ws : List V} (Z : Showing X σ H J) (hL : LamS X.env.scope L.scope) (nofree : ∀ y, X.env.scope.names.lookup y ≠ some .free) (h : Lm0 X H f L) (wl : ws.length = fr.length)
    (hv : ∀ (i : Nat) (y : Str) (v : V), fr[i]? = some y → ws[i]? = some v → (y, NameKind.free) ∈ L.scope.names ∧ ∃ j : Nat, X.N[j]? = some y ∧ σ[j]? = some (some v)) : Lm J f L fr ws := by
  obtain ⟨c, h1, h2⟩ := h
  have kc : ∀ y, (y, NameKind.free) ∈ L.scope.names → X.env.scope.names.lookup y = some .cell := fun y hy => by
    rcases hL.free _ hy rfl with q | q
    · exact q
    · exact absurd q (nofree y)
  have cm : ∀ {y a}, (cloFrom X.env.cells L.scope.names []).lookup y = some a → X.env.cells.lookup y = some a := fun {y a} e => by
    rcases cloFrom_mem (PySem.mem_of_lookup e) with hm | ⟨q1, q2⟩
    · cases hm
    · obtain ⟨c1, hc⟩ := Z.has y (kc y q1)
      rw [hc] at q2
      rw [hc, q2]
      rfl
  have has : ∀ {y}, (y, NameKind.free) ∈ L.scope.names → ∃ a, (cloFrom X.env.cells L.scope.names []).lookup y = some a := fun {y} hy => mem_lookup (cloFrom_has (cells := X.env.cells) (acc := []) hy)
  refine ⟨wl, _, c, Z.same _ _ h1, Z.same _ _ h2, fun x y a e1 e2 => Z.inj x y a (cm e1) (cm e2), fun y a e => Z.cell y a (cm e), fun i y e => ?_⟩
  have hi : i < ws.length := by
    rw [wl]
    exact (List.getElem?_eq_some_iff.mp e).1
  obtain ⟨m1, j, m2, m3⟩ := hv i y ws[i] e (List.getElem?_eq_getElem hi)
  obtain ⟨a, ha⟩ := has m1
  obtain ⟨c2, q1, q2⟩ := Z.val j y _ m2 m3 (kc y m1)
  have e3 := cm ha
  rw [q1] at e3
  cases e3
  refine ⟨_, ha, fun v hv2 => ?_⟩
  rw [List.getElem?_eq_getElem hi] at hv2
  cases hv2
  exact q2
end DS
namespace DS
open PySem L2 PySem.Spec PyProof.Rows LamX NdefX
/-! ### a comprehension in whose block the cells of the def around are shown -/
theorem inv_shown {Y : Cx} {pins : List (Addr × Obj)} {σ : L2.St} {H J : Hp} {s : Shared} {cs : List Addr} (I : Inv Y pins σ H s) (e0 : Y.H_0 = H) (S : Shown H J cs s.heap) (nb : ∀ c ∈ cs, Y.base.get? c = none) (nl : Y.env.locals ∉ cs) (nc : ∀ x c, Y.env.cells.lookup x = some c → c ∉ cs)
    (nf : ∀ c ∈ cs, c ∉ Y.fs) (np : ∀ p ∈ Y.pn ++ pins, p.1 ∉ cs) : Inv { Y with H_0 := J } pins σ J s := by
  have ok := I.ok
  have un := I.base
  rw [e0] at un
  have bk : ∀ b, J b = none → H b = none := fun b e => by
    by_cases z : b ∈ cs
    · exact (S.on b z).1
    · rw [← S.off b z]
      exact e
  refine ⟨⟨ok.mod, ok.kind, ok.glob, ok.blt, ok.above, ok.inj, ok.has, ok.cab, ok.hd, ok.frames, ok.stk, ok.exf, fun b o e => ⟨(ok.bs b o e).1, ?_⟩, ok.bsz, ok.noex, ok.exfs, ok.funs, fun b hb => ?_⟩, I.os, I.bare,
    ⟨fun b o e n hb hx => un.keep b o e (bk b n) hb hx, fun b o e n hb hx => un.slot b o e (bk b n) hb hx, fun b o e n hx => n, fun b o e hx => un.there b o e hx, fun b xs e => e, fun b o v e => e, fun b ps e => ⟨#[], by have e : J b = some (.tbl ps) := e; show J b = _; rw [e]; simp⟩⟩,
    I.loc, I.cell, ?_, fun x c e => ?_, fun p hp => ?_, S.hok I.hok, I.len⟩
  · have q := (ok.bs b o e).2
    rw [e0] at q
    show J b = none
    rw [S.off b (fun z => by rw [nb b z] at e; cases e)]
    exact q
  · have q := ok.frf b hb
    rw [e0] at q
    show J b = none
    rw [S.off b (fun z => nf b z hb)]
    exact q
  · rw [S.off _ nl]
    exact I.free
  · rw [S.off _ (nc x c e)]
    exact I.freeC x c e
  · obtain ⟨q1, q2, q3⟩ := I.pin p hp
    exact ⟨q1, by rw [S.off _ (np p hp)]; exact q2, q3⟩
def tLcS (X : Cx) (wi : TI) (g : TG) (tt : TT) (te : TE) (vs : List Nat) : TE := fun σ H Q => wi σ H fun It H1 => ∀ D Z, Showing X σ H1 Z → Z D = none → ∃ W : Nat → Nat → Hp → Prop, (∃ m, W 0 m (upd Z D (.lst []))) ∧ ∀ i m G, W i m G →
  (It.stop i G ∧ ∀ G', Hid G G' → Q (.ref D) G') ∨ (It.go i G ∧ ∃ Nx : Hp → Prop, (∀ G', Nx G' → ∃ m', m' < m ∧ W (i + 1) m' G') ∧ ∀ x G', It.yld i G x G' → g x (wipe σ vs) G' fun σ2 H2 => wipe σ2 vs = wipe σ vs ∧ tt σ2 H2 fun b H3 =>
    if b = true then te σ2 H3 fun y H4 => ∃ acc, H4 D = some (.lst acc) ∧ acc.length < sizeLine ∧ Nx (upd H4 D (.lst (acc ++ [y]))) else Nx H3)
theorem lcS_core {X : Cx} {pins : List (Addr × Obj)} {s : Shared} {σ : L2.St} {H : Hp} {Q : VK} {elt tg iter : Expr} {ifs : List Expr} {scope : Scope} {own : List (Str × Nat)} {pos pos' : Pos} {wi : TI} {g : TG} {tt : TT} {te : TE} {use : Option (Value → Sem Unit)} {Qf : Value → Shared → Prop}
    (hc : X.calm = true) (hN : X.N.Nodup) (hfn : ∀ y, X.fn y = true) (I : Inv X pins σ H s) (hi : PI X tg iter wi) (ok : BlkOk X.N X.env.scope scope own) (nof : ∀ y ∈ scope.names, y.2 ≠ .free)
    (hg : ∀ (s : Shared) (G : Hp) (C : Addr) (cl : List (Str × Addr)) (fp : List Addr), PG (X.blk s G scope (compEnvC scope cl C X.env) fp) tg g) (ht : ∀ (s : Shared) (G : Hp) (C : Addr) (cl : List (Str × Addr)) (fp : List Addr), PTs (X.blk s G scope (compEnvC scope cl C X.env) fp) ifs tt)
    (he : ∀ (s : Shared) (G : Hp) (C : Addr) (cl : List (Str × Addr)) (fp : List Addr), PE (X.blk s G scope (compEnvC scope cl C X.env) fp) elt te) (hs : ∀ x, foldedSetIterable iter X.env x = pure x) (h : tLcS X wi g tt te (own.map (·.2)) σ H Q)
    (fin : ∀ D C s' m G, Inv X pins σ G s' → Q (.ref D) G → s'.heap.Ns C m → FpOk X pins G C → compPost (model X.prog X.w) X.A X.xe use Qf (.ref D) C (.ok .next) s') :
    wpAny (model X.prog X.w) X.A (comprehension (.ListComp elt [⟨tg, iter, ifs, 0⟩] scope pos) scope X.env pos' (newList []) false (eval iter X.env) use) Qf X.xe s := by
  have hfree : ∀ y ∈ scope.names, y.2 = .free → ∃ c, X.env.cells.lookup y.1 = some c := fun y hy e => absurd e (nof y hy)
  refine wpAny_comprehension_free (use := use) rfl hs (closure_ok hfree) ok.kind (fun y hy z => (ok.uniq y hy).trans (by rw [z])) (thn (hi.run pins s σ H _ I h) fun v0 sa ha => thn ha fun v1 sb hb => ?_)
  obtain ⟨i0, fp, tn, It, Hb, e, Ib, T, tb, fb, q⟩ := hb
  subst e
  refine wpAny_newObj_type (newEnv_comp ?_) (show 0 ≤ sizeLine by decide)
  obtain ⟨Z, Sb, Zg⟩ := show_cells Ib
  have ap := apart_of Ib hfn
  have clt : ∀ c ∈ cellsOf X, c < sb.heap.objs.size := fun c hc => by
    obtain ⟨_, o, e, _⟩ := Sb.on c hc
    exact Heap.lt_size e
  generalize hD : sb.heap.objs.size = D
  have Dc : D ∉ cellsOf X := fun z => Nat.lt_irrefl _ (by have := clt D z; rw [hD] at this; exact this)
  have Db : Hb D = none := Ib.hok.fresh (Nat.le_of_eq hD)
  obtain ⟨W, ⟨m0, w0⟩, turn⟩ := q D Z Zg (by rw [Sb.off D Dc]; exact Db)
  generalize hsc : ({ sb with heap := sb.heap.push { cls := .type "list", data := .seq ([] : List Value).toArray } } : Shared) = sc
  have hpc : sc.heap = sb.heap.push { cls := .type "list", data := .seq ([] : List Value).toArray } := by rw [← hsc]
  have Ic : Inv X pins σ (upd Hb D (.lst [])) sc := by
    subst hsc
    refine Ib.laid (t' := sb.toks) (fun b o z => Heap.get?_push_of_some _ z) (Nat.le_of_eq hD) ⟨Nat.zero_le _, [], 0, .nil, ?_⟩
    subst hD
    exact Heap.get?_push_size _ rfl
  have Sc : Shown (upd Hb D (.lst [])) (upd Z D (.lst [])) (cellsOf X) sc.heap := by
    refine ⟨fun b hb => ?_, fun c hc => ?_⟩
    · by_cases z : b = D
      · rw [z, upd_same, upd_same]
      · rw [upd_ne z, upd_ne z]
        exact Sb.off b hb
    · have n : c ≠ D := fun z => Dc (z ▸ hc)
      obtain ⟨q1, o, q2, q3⟩ := Sb.on c hc
      exact ⟨by rw [upd_ne n]; exact q1, o, by rw [hpc]; exact Heap.get?_push_of_some _ q2, by rw [upd_ne n]; exact q3⟩
  have flt : ∀ b ∈ fp, b < sb.heap.objs.size := fun b hb => by
    obtain ⟨o, z, _⟩ := T.obj _ _ tb b hb
    exact Heap.lt_size z
  have fc : ∀ b ∈ fp, FpOk X pins (upd Hb D (.lst [])) b ∧ b < sc.heap.objs.size := fun b hb => by
    have l := flt b hb
    refine ⟨⟨?_, (fb b hb).2⟩, by rw [hpc, Heap.size_push]; exact Nat.lt_succ_of_lt l⟩
    rw [upd_ne (by rw [← hD]; exact Nat.ne_of_lt l)]
    exact (fb b hb).1
  have ncf : ∀ b ∈ fp, b ∉ cellsOf X := fun b hb z => by
    obtain ⟨y, e⟩ := mem_cellsOf.mp z
    exact (fb b hb).2.2.2.2.1 y b e rfl
  have tc : tn 0 sc.heap := T.keep _ _ _ tb fun b _ o z => by rw [hpc]; exact Heap.get?_push_of_some _ z
  have Id0 := block_start Ic ok hN fc
  have ecl : cloFrom X.env.cells scope.names [] = [] := by
    have all : ∀ l : List (Str × NameKind), (∀ y ∈ l, y.2 ≠ .free) → ∀ acc, cloFrom X.env.cells l acc = acc := by
      intro l
      induction l with
      | nil => intro _ acc; rfl
      | cons y r ih =>
        intro hy acc
        obtain ⟨n, k⟩ := y
        unfold cloFrom
        rw [if_neg (by
          have := hy (n, k) List.mem_cons_self
          simpa using this)]
        exact ih (fun y hy' => hy y (List.mem_cons_of_mem _ hy')) acc
    exact all scope.names nof []
  have gg := hg sc (upd Z D (.lst [])) sc.heap.objs.size (cellsFrom (sc.heap.objs.size + 1) scope.names (cloFrom X.env.cells scope.names [])) fp
  have gt := ht sc (upd Z D (.lst [])) sc.heap.objs.size (cellsFrom (sc.heap.objs.size + 1) scope.names (cloFrom X.env.cells scope.names [])) fp
  have ge := he sc (upd Z D (.lst [])) sc.heap.objs.size (cellsFrom (sc.heap.objs.size + 1) scope.names (cloFrom X.env.cells scope.names [])) fp
  show codeAny _ _ (.compStart (.ListComp elt [⟨tg, iter, ifs, 0⟩] scope pos) 0 (.ref i0) (.ref D) (compEnvC scope (cellsFrom (sc.heap.objs.size + 1) scope.names (cloFrom X.env.cells scope.names [])) sc.heap.objs.size X.env)) (compPost (model X.prog X.w) X.A X.xe use Qf (.ref D) sc.heap.objs.size) { sc with heap := pushCells (sc.heap.push { cls := .type "dict", data := .dict #[] }) scope.names }
  have kd : ∀ b o, sc.heap.get? b = some o → (pushCells (sc.heap.push { cls := .type "dict", data := .dict #[] }) scope.names).get? b = some o := fun b o z => pushCells_keeps _ _ _ _ (Heap.get?_push_of_some _ z)
  have Id := inv_shown (cs := cellsOf X) (J := upd Z D (.lst [])) Id0 rfl
    ⟨Sc.off, fun c hc => let ⟨q1, o, q2, q3⟩ := Sc.on c hc; ⟨q1, o, kd _ _ q2, q3⟩⟩ ap.base (fun z => by
      have l := clt _ z
      have l2 : sc.heap.objs.size < sb.heap.objs.size := l
      rw [hpc, Heap.size_push] at l2
      omega) (fun y c z hc => by
      have z : (cellsFrom (sc.heap.objs.size + 1) scope.names (cloFrom X.env.cells scope.names [])).lookup y = some c := z
      rw [ecl, ← Heap.size_push sc.heap { cls := .type "dict", data := .dict #[] }] at z
      rcases cells_mem (PySem.mem_of_lookup z) with hm | ⟨_, l, _⟩
      · cases hm
      · have l2 : @LT.lt Nat _ c sb.heap.objs.size := clt c hc
        rw [Heap.size_push, hpc, Heap.size_push] at l
        have l3 : @LE.le Nat _ (sb.heap.objs.size + 1 + 1) c := l
        omega) (fun c hc z => ap.fr c hc z) (fun p hp => absurd (show p ∈ ([] : List (Addr × Obj)) ++ [] from hp) (by simp))
  have nf0 : ∀ b ∈ fp, (upd Z D (.lst [])) b = none := fun b hb => by
    rw [Sc.off b (ncf b hb)]
    exact (fc b hb).1.1
  clear Id0
  generalize hce : compEnvC scope (cellsFrom (sc.heap.objs.size + 1) scope.names (cloFrom X.env.cells scope.names [])) sc.heap.objs.size X.env = ce at Id gg gt ge ⊢
  have cL : ce.locals = sc.heap.objs.size := by
    subst hce
    rfl
  generalize hsd : ({ sc with heap := pushCells (sc.heap.push { cls := .type "dict", data := .dict #[] }) scope.names } : Shared) = sd at Id ⊢
  have td : tn 0 sd.heap := T.keep _ _ _ tc fun b _ o z => by
    rw [← hsd]
    exact kd b o z
  generalize hZc : upd Z D (.lst []) = Zc0 at Sc gg gt ge w0 nf0 Id
  have fpk : ∀ {σ' : L2.St} {G : Hp} {s' : Shared}, Inv (X.blk sc Zc0 scope ce fp) [] σ' G s' → (∀ b ∈ fp, G b = none) → ∀ b ∈ fp, FpOk (X.blk sc Zc0 scope ce fp) [] G b := fun {σ' G s'} J hn b hb =>
    ⟨hn b hb, (J.ok.exf b hb).1, J.ok.exfs b hb, .inl hb, fun x c z => (J.ok.exf b hb).2 x c z, fun p hp => absurd (show p ∈ ([] : List (Addr × Obj)) ++ [] from hp) (by simp)⟩
  have loop : codeAny (model X.prog X.w) X.A (.compLoop (.ListComp elt [⟨tg, iter, ifs, 0⟩] scope pos) 0 (.ref i0) (.ref D) ce) (compPost (model X.prog X.w) X.A X.xe use Qf (.ref D) sc.heap.objs.size) sd := by
    refine compLoop_any (fun n s' => ∃ i G, Inv (X.blk sc Zc0 scope ce fp) [] (wipe σ (own.map (·.2))) G s' ∧ tn i s'.heap ∧ (∀ b ∈ fp, G b = none) ∧ W i n G) ?_ m0 ⟨0, Zc0, Id, td, nf0, w0⟩
    rintro n s5 ⟨i, G5, J5, t5, n5, w5⟩
    rcases turn i n G5 w5 with ⟨stop, qq⟩ | ⟨go, Nx, nx0, step⟩
    · refine thnF (T.done (X.blk sc Zc0 scope ce fp) rfl rfl rfl hc i [] s5 _ G5 (fun _ _ => False) J5 (fpk J5 n5) t5 stop) fun r s6 ⟨hr, J6⟩ => ?_
      subst hr
      obtain ⟨all6, un6⟩ := Sc.back (P := X.prog) (w := X.w) J6.base J6.hok
      have J7 : Inv X pins σ (less G5 (cellsOf X)) s6 := Ic.call' (ch := fp) J6.os un6 (less_hok J6.hok all6) J6.bare fun b hb =>
        let z := (fc b hb).1; ⟨z.2.2.2.1, z.2.1, z.2.2.2.2.1, z.2.2.2.2.2⟩
      have nC : G5 sc.heap.objs.size = none := by
        have z : G5 ce.locals = none := J6.free
        rw [cL] at z
        exact z
      obtain ⟨m, hn, _⟩ := J6.loc
      have hn : s6.heap.Ns ce.locals m := hn
      rw [cL] at hn
      refine fin D sc.heap.objs.size s6 m _ J7 (qq _ (hid_less all6)) hn (Ic.fpOk (Nat.le_refl _) ?_)
      by_cases z : sc.heap.objs.size ∈ cellsOf X
      · exact less_in z
      · rw [less_out z]
        exact nC
    · refine thnF (T.item (X.blk sc Zc0 scope ce fp) rfl rfl rfl hc i [] s5 _ G5 (fun _ _ => False) J5 (fpk J5 n5) t5 go) fun r s6 ⟨u, hr, h6⟩ => ?_
      subst hr
      refine thnF h6 fun _ s7 ⟨x, G7, J7, r7, y7, t7, n7⟩ => ?_
      refine thnF (gg.run _ s7 _ G7 x u _ (J7.pinned (fpk J7 n7) (T.obj _ _ t7)) r7 (step x G7 y7)) fun _ s8 ⟨σ8, G8, J8, hw8, q8⟩ => ?_
      refine thnF (gt.run _ s8 σ8 G8 _ J8 q8) fun b s9 ⟨G9, J9, q9⟩ => ?_
      have nxt : ∀ {s' : Shared} {G : Hp}, Inv (X.blk sc Zc0 scope ce fp) ([] ++ pinsAt fp s7.heap) σ8 G s' → Nx G → ∃ m, m < n ∧ ∃ i G, Inv (X.blk sc Zc0 scope ce fp) [] (wipe σ (own.map (·.2))) G s' ∧ tn i s'.heap ∧ (∀ b ∈ fp, G b = none) ∧ W i m G := fun {s' G} J' nx => by
        obtain ⟨m', hm, w'⟩ := nx0 G nx
        have pk : ∀ b ∈ fp, ∀ o, s7.heap.get? b = some o → s'.heap.get? b = some o ∧ G b = none := fun b hb o z =>
          let y := J'.pin (b, o) (List.mem_append_right _ (List.mem_append_right _ (mem_pinsAt hb z)))
          ⟨y.1, y.2.1⟩
        have hl : (wipe σ (own.map (·.2))).length = σ8.length := by rw [← hw8, wipe_length]
        refine ⟨m', hm, i + 1, G, (J'.unpinned (pins := [])).weak hl (fun j v z => ?_), T.keep _ _ _ t7 fun b hb o z => (pk b hb o z).1, fun b hb => ?_, w'⟩
        · rw [← hw8] at z
          exact (wipe_some z).1
        · obtain ⟨o, z, _⟩ := T.obj _ _ t7 b hb
          exact (pk b hb o z).2
      cases b with
      | false =>
        rw [if_neg (by simp)] at q9 ⊢
        exact nxt J9 q9
      | true =>
        rw [if_pos rfl] at q9 ⊢
        refine thnF (ge.run _ s9 σ8 G9 _ J9 q9) fun z s10 ⟨yv, G10, J10, r10, acc, a10, l10, nx⟩ => ?_
        exact app_ok (X := X.blk sc Zc0 scope ce fp) J10 a10 l10 r10 fun s11 J11 => nxt J11 nx
  exact codeAny_compStart_list loop (T.self X.A 0 _ _ _ td loop)
theorem pe_lcS {X : Cx} {elt tg iter : Expr} {ifs : List Expr} {scope : Scope} {own : List (Str × Nat)} {pos : Pos} {wi : TI} {g : TG} {tt : TT} {te : TE} (hc : X.calm = true) (hN : X.N.Nodup) (hfn : ∀ y, X.fn y = true) (hi : PI X tg iter wi) (ok : BlkOk X.N X.env.scope scope own) (nof : ∀ y ∈ scope.names, y.2 ≠ .free)
    (hg : ∀ (s : Shared) (G : Hp) (C : Addr) (cl : List (Str × Addr)) (fp : List Addr), PG (X.blk s G scope (compEnvC scope cl C X.env) fp) tg g) (ht : ∀ (s : Shared) (G : Hp) (C : Addr) (cl : List (Str × Addr)) (fp : List Addr), PTs (X.blk s G scope (compEnvC scope cl C X.env) fp) ifs tt)
    (he : ∀ (s : Shared) (G : Hp) (C : Addr) (cl : List (Str × Addr)) (fp : List Addr), PE (X.blk s G scope (compEnvC scope cl C X.env) fp) elt te) (hs : ∀ x, foldedSetIterable iter X.env x = pure x := by intro _; rfl) :
    PE X (.ListComp elt [⟨tg, iter, ifs, 0⟩] scope pos) (tLcS X wi g tt te (own.map (·.2))) := by
  refine ⟨fun pins s σ H Q I h => ?_⟩
  rw [eval_ListComp]
  refine lcS_core hc hN hfn I hi ok nof hg ht he hs h fun D C s' m G J q hn f => ⟨m, hn, fun h2 sb => ?_⟩
  exact ⟨.ref D, G, J.turned (t' := s'.toks) (fun b o hb z => (sb.2 b hb).trans z) f.1 f.2.1 f.2.2.2.1 f.2.2.2.2.1 f.2.2.2.2.2, rfl, q⟩
end DS
namespace DS
open PySem L2 PySem.Spec PyProof.Rows LamX NdefX
/-! ### operators that are read in several ways -/
def rAlt (r u : R2) : R2 := fun x y H Q => r x y H Q ∨ u x y H Q
theorem op_alt {X : Cx} {f : Value → Value → Sem Value} {r u : R2} (a : OpR X f r) (b : OpR X f u) : OpR X f (rAlt r u) := fun pins s σ H x y v w Q I rx ry h => h.elim (fun q => a pins s σ H x y v w Q I rx ry q) fun q => b pins s σ H x y v w Q I rx ry q
/-- x == y by the own __eq__ of x, y anything whose type is known and does not go first -/
def rEqIX (K : PySem.W.Frag) (C : Addr) (sp : Sp) (E : XK) : R2 := fun x y H Q => ∃ a dx fs ty, x = .ref a ∧ H a = some (.ins C dx fs) ∧ TyOf K H y ty ∧ PySem.W.notFirst K C ty = true ∧ sp [.ref a, y] H (fun v H' => ∃ k, v = .bl k ∧ Q (.bl k) H') E
theorem ty_look {X : Cx} {pins : List (Addr × Obj)} {σ : L2.St} {H : Hp} {s : Shared} {y : V} {ty u : Value} (I : Inv X pins σ H s) (t : TyOf X.K H y ty) (r : RelV y u) : PySem.W.Looks (model X.prog X.w) s.heap (typeOf u) ty := by
  cases t with
  | non =>
    obtain rfl : u = Value.none := r
    exact .of_pure rfl
  | bl b =>
    obtain rfl : u = Value.bool b := r
    exact .of_pure rfl
  | int i =>
    obtain ⟨t, rfl⟩ := (show ∃ t, u = Value.int i t from r)
    exact .of_pure rfl
  | str x =>
    obtain ⟨t, rfl⟩ := (show ∃ t, u = Value.str x t from r)
    exact .of_pure rfl
  | flt x =>
    obtain ⟨t, rfl⟩ := (show ∃ t, u = Value.float x t from r)
    exact .of_pure rfl
  | @lst a xs e =>
    obtain rfl : u = Value.ref a := r
    obtain ⟨_, _, n, _, h1⟩ := (show ObjOk X.prog X.w H s.heap a (.lst xs) from I.hok a _ e)
    exact fun A Q E s' k q => wpAny_typeOf_ref (k _ _ h1) q
  | @frz a o xs e =>
    obtain rfl : u = Value.ref a := r
    obtain ⟨h0, _, _, n, _, h1⟩ := (show ObjOk X.prog X.w H s.heap a (.frz o (.lst xs)) from I.hok a _ e)
    exact fun A Q E s' k q => wpAny_typeOf_ref (k _ _ h1) q
  | @tup a xs e =>
    obtain rfl : u = Value.ref a := r
    obtain ⟨_, its, _, o, h1, h2, _⟩ := (show ObjOk X.prog X.w H s.heap a (.tup xs) from I.hok a _ e)
    exact fun A Q E s' k q => wpAny_typeOf_ref (k _ _ h1) (by rw [h2]; exact q)
  | @dK a kvs e =>
    obtain rfl : u = Value.ref a := r
    obtain ⟨_, _, vs, _, o, es, ep, h1, h2, _⟩ := (show ObjOk X.prog X.w H s.heap a (.dK kvs) from I.hok a _ e)
    exact fun A Q E s' k q => wpAny_typeOf_ref (k _ _ h1) (by rw [h2.1]; exact q)
  | @dT a kvs e =>
    obtain rfl : u = Value.ref a := r
    obtain ⟨_, _, xs, _, o, es, ep, h1, h2, _⟩ := (show ObjOk X.prog X.w H s.heap a (.dT kvs) from I.hok a _ e)
    exact fun A Q E s' k q => wpAny_typeOf_ref (k _ _ h1) (by rw [h2.1]; exact q)
  | @ins a C dx fs e cl h1 h2 h3 h4 =>
    obtain rfl : u = Value.ref a := r
    obtain ⟨mA, J, _⟩ := ins_get I.hok e
    obtain ⟨od, J, _⟩ := J.look
    exact J.type
theorem op_eqIX {X : Cx} {CX : CXT} {n : Nat} {C f : Addr} {fd : FuncData} {ps : List Str} {sp : Sp} {E : XK} (hm : Meth X.K C "__eq__" f) (F : FnOk X.prog X.w X.K X.mg X.base CX n f fd ps sp) (hr : Room n X.A) (hb : Binds X.K fd ps []) (hx : Passes CX X E) :
    OpR X (compareOp .Eq) (rEqIX X.K C sp E) := by
  intro pins s σ H x y v u Q I rx ry h
  obtain ⟨a, dx, fs, ty, rfl, ha, hty, nf, q⟩ := h
  obtain rfl : v = Value.ref a := rx
  obtain ⟨mA, J, _⟩ := ins_get I.hok ha
  obtain ⟨od, J, _⟩ := J.look
  obtain ⟨m, hF⟩ := I.fr
  show wpAny (model X.prog X.w) X.A (richCompare .Eq (.ref a) u) (EP X pins σ Q) X.xe s
  refine PySem.W.cmp_K (op := .Eq) (tb := ty) hr.units0 hF I.ok.mod.kin J (ty_look I hty ry) nf hm.at_ hm.fn ?_
  exact wpAny_mono (run_sub (vs := [.ref a, y]) ⟨hr, rfl⟩ F hb hx I (.cons rfl (.cons ry .nil)) q) (fun v s' h => cmpback_bl h) fun _ _ z => z
/-- x in y, y an instance with an own __contains__ that gives a bool -/
def rInOwn (C : Addr) (sp : Sp) (E : XK) : R2 := fun x y H Q => ∃ a dx fs, y = .ref a ∧ H a = some (.ins C dx fs) ∧ sp [.ref a, x] H (fun v H' => ∃ k, v = .bl k ∧ Q (.bl k) H') E
theorem op_inOwn {X : Cx} {CX : CXT} {n : Nat} {C f : Addr} {fd : FuncData} {ps : List Str} {sp : Sp} {E : XK} (hm : Meth X.K C "__contains__" f) (F : FnOk X.prog X.w X.K X.mg X.base CX n f fd ps sp) (hr : Room n X.A) (hb : Binds X.K fd ps []) (hx : Passes CX X E) :
    OpR X (compareOp .In) (rInOwn C sp E) := by
  intro pins s σ H x y v u Q I rx ry h
  obtain ⟨a, dx, fs, rfl, ha, q⟩ := h
  obtain rfl : u = Value.ref a := ry
  obtain ⟨mA, J, _⟩ := ins_get I.hok ha
  obtain ⟨od, J, _⟩ := J.look
  obtain ⟨m, hF⟩ := I.fr
  refine PySem.W.in_K hF I.ok.mod.kin J hm.at_ hm.fn ?_
  refine wpAny_mono (run_sub (vs := [.ref a, x]) ⟨hr, rfl⟩ F hb hx I (.cons rfl (.cons rx .nil)) q) (fun v s' h => ?_) fun _ _ z => z
  obtain ⟨z, H', I', r, k, rfl, q'⟩ := h
  obtain rfl : v = Value.bool k := r
  exact wpAny_truthy_bool ⟨.bl k, H', I', rfl, q'⟩
theorem w_eqT3 {K : PySem.W.Frag} {H : Hp} {Q : VK} {p q : Addr} {a b c a' b' c' : Int} (hp : H p = some (.tup [.int a, .int b, .int c])) (hq : H q = some (.tup [.int a', .int b', .int c'])) (h : Q (.bl (a == a' && (b == b' && (c == c' && true)))) H) : rEqD K (.ref p) (.ref q) H Q :=
  ⟨.tuple [.int a, .int b, .int c], .tuple [.int a', .int b', .int c'], .tup (.inl (.inl hp)) (.cons (.int _) (.cons (.int _) (.cons (.int _) .nil))), .tup (.inl (.inl hq)) (.cons (.int _) (.cons (.int _) (.cons (.int _) .nil))), rfl, rfl, h⟩
end DS
namespace DS
open PySem L2 PySem.Spec PyProof.Rows LamX NdefX
/-! ### an own exception with one field -/
/-- __init__(self, f): super().__init__(f); self.f = f -/
def spX1 (C : Addr) (f : Str) : Sp := fun vs H Q _ => ∃ (a : Addr) (v : V), vs = [.ref a, v] ∧ H a = some (exo a C none) ∧ ∀ dx, H dx = none → dx ≠ a → Q .non (upd (upd H dx (exd dx [(f, v)])) a (exo a C (some dx)))
/-- what the head has left of such a class -/
structure XOne (P : Program) (w : World) (K : PySem.W.Frag) (mg : Str → Option Value) (C f : Addr) (fd : FuncData) (st : Stmt) (qual fld : Str) : Prop where
  fn : ∃ oc od osl kV doc pm an cda ct cc ccl cdd ccs vsC file tf cl cld csl cdC, fd = PySem.W.ksFn "__init__" qual (defArgs st) (defBody st) (defScope st) .none kV doc pm an (.ref cda) ct cc ∧
    K.lookup f = some ⟨oc, od, .func (PySem.W.ksFn "__init__" qual (defArgs st) (defBody st) (defScope st) .none kV doc pm an (.ref cda) ct cc), osl⟩ ∧ PySem.W.codeIn K (.ref cda) qual = true ∧
    K.lookup cda = some ⟨ccl, cdd, .fields vsC, ccs⟩ ∧ vsC[2]? = some (.str file tf) ∧ ((P.main.file : Str) == file) = true ∧ K.lookup cc = some ⟨cl, cld, .cell (some (.ref C)), csl⟩ ∧ PySem.W.clsIn K C = some cdC
  sub : PySem.W.mroIn K C (.ref C) = some true
  sup : mg "super" = none
  top : (P.main.scope.names.lookup ("super" : Str)).isSome = false
  any : PySem.W.nsIn K cStatics "thirdparty.any" = some none
  ini : PySem.W.ks_superIn K C C "__init__" = some (some (.builtin "ValueError.__init__"))
  ve : PySem.W.subIn K (.ref C) (.type "ValueError") = some true
  oex : OexC K C
  nof : PySem.W.findIn K (.ref C) fld = some none
  iC : PySem.W.findIn K (.ref C) "__init__" = some (some (.ref f))
  tI : PySem.W.typeIn K (.ref f) = some (.type "function")
/-- E takes a BadValue of v, raised at H -/
def Bad (C : Addr) (f : Str) (v : V) (E : XK) (H : Hp) : Prop := ∀ d H', Same H H' → H' d = some (.xd [(f, v)]) → E (.ref C) (some d) H'
theorem Bad.same {C : Addr} {f : Str} {v : V} {E : XK} {H H1 : Hp} (b : Bad C f v E H) (e : Same H H1) : Bad C f v E H1 := fun d H' s q => b d H' (e.trans s) q
/-- what is read by name -/
theorem w_mkX1 {C : Addr} {f : Str} {te : TE} {σ : L2.St} {H : Hp} {Q : XK} {v : V} (h : ∀ R : VK, R v H → te σ H R) (b : Bad C f v Q H) : tMkO C (spX1 C f) [] (tCons te tNil) σ H Q := by
  refine h _ ?_
  refine ⟨Nat.le_of_ble_eq_true rfl, fun a na => ⟨a, v, rfl, upd_same, fun dx nd ne => ⟨rfl, dx, [(f, v)], upd_same, ?_, ?_, ?_⟩⟩⟩
  · rw [upd_ne ne, upd_same]
  · rw [upd_ne ne] at nd
    exact nd
  · have nd' : H dx = none := by
      rw [upd_ne ne] at nd
      exact nd
    refine b dx _ (fun b o e => ?_) upd_same
    have n1 : b ≠ dx := ne_of_none e nd'
    have n2 : b ≠ a := ne_of_none e na
    rw [upd_ne n1, del_ne n2, upd_ne n2, upd_ne n1, upd_ne n2]
    exact e
theorem w_raise {t : L2.St → Hp → XK → Prop} {W : WX} {D : Ends} {σ : L2.St} {H : Hp} (h : t σ H fun cls d H' => W cls d σ H') : (fun (_ : Ends) (σ : L2.St) (H : Hp) => t σ H fun cls d H' => W cls d σ H') D σ H := h
end DS
namespace DS
open PySem L2 PySem.Spec PyProof.Rows
/-! ### int('1' + '0' * n) -/
def rMulS : R2 := fun x y H Q => ∃ a n, x = .str a ∧ y = .int n ∧ MulOk a n ∧ Q (.str (Txt.mul a n)) H
theorem op_mulS {X : Cx} : OpR X (binaryOp .Mult) rMulS := by
  intro pins s σ H x y v u Q I rx ry h
  obtain ⟨a, n, rfl, rfl, ok, q⟩ := h
  obtain ⟨t, rfl⟩ := (show ∃ t, v = Value.str a t from rx)
  obtain ⟨t', rfl⟩ := (show ∃ t, u = Value.int n t from ry)
  exact SB.mul ok fun t2 k => ⟨.str (Txt.mul a n), H, I.tok k, ⟨_, rfl⟩, q⟩
theorem foldl_arr (x : Array Nat) : ∀ (n : Nat) (acc : Array Nat), ((List.replicate n x).foldl (· ++ ·) acc).toList = acc.toList ++ (List.replicate n x.toList).flatten
  | 0, acc => by simp
  | n + 1, acc => by
    rw [List.replicate_succ, List.foldl_cons, foldl_arr x n, Array.toList_append, List.replicate_succ, List.flatten_cons, List.append_assoc]
theorem zero_cps : ("0" : Str).cps.toList = [48] := by decide +kernel
theorem one_cps : ("1" : Str).cps.toList = [49] := by decide +kernel
theorem flat48 : ∀ n : Nat, (List.replicate n [48]).flatten = List.replicate n 48
  | 0 => rfl
  | n + 1 => by rw [List.replicate_succ, List.flatten_cons, flat48 n]; rfl
theorem mul_cps (n : Nat) : (Txt.mul "0" (n : Int)).cps.toList = List.replicate n 48 := by
  unfold Txt.mul
  have l0 : (("0" : Str).length == 0) = false := by decide +kernel
  by_cases h : (n : Int) < 1
  · rw [if_pos h]
    have : n = 0 := by omega
    subst this
    rfl
  · rw [if_neg h]
    by_cases h1 : ((n : Int) == 1) = true
    · rw [h1, Bool.true_or, if_pos rfl]
      have : n = 1 := by
        have := beq_iff_eq.mp h1
        omega
      subst this
      exact zero_cps
    · rw [Bool.not_eq_true] at h1
      rw [h1, l0, Bool.false_or, if_neg (by simp)]
      show ((List.replicate ((n : Int)).toNat ("0" : Str).cps).foldl (· ++ ·) #[]).toList = _
      rw [foldl_arr, Int.toNat_natCast, zero_cps, flat48]
      rfl
theorem ten_cps (n : Nat) : (("1" : Str) ++ Txt.mul "0" (n : Int)).cps.toList = 49 :: List.replicate n 48 := by
  show (("1" : Str).cps ++ (Txt.mul "0" (n : Int)).cps).toList = _
  rw [Array.toList_append, one_cps, mul_cps]
  rfl
theorem fold48 : ∀ (n m : Nat), (List.replicate n 48).foldl (fun acc c => acc * 10 + (c - 48)) m = m * 10 ^ n
  | 0, m => by simp
  | n + 1, m => by
    rw [List.replicate_succ, List.foldl_cons, fold48 n, Nat.sub_self, Nat.add_zero, Nat.pow_succ, Nat.mul_assoc, Nat.mul_comm 10]
theorem ten_text {n : Nat} (h : n ≤ 600) : PySem.intText? (("1" : Str) ++ Txt.mul "0" (n : Int)) = some ((10 : Int) ^ n) ∧ (("1" : Str) ++ Txt.mul "0" (n : Int)).length ≤ 640 ∧ ("1" : Str).length + (Txt.mul "0" (n : Int)).length ≤ sizeLine := by
  have hc := ten_cps n
  have l1 : (("1" : Str) ++ Txt.mul "0" (n : Int)).length = n + 1 := by
    show (("1" : Str) ++ Txt.mul "0" (n : Int)).cps.size = _
    rw [← Array.length_toList, hc]
    simp
  have l2 : (Txt.mul "0" (n : Int)).length = n := by
    show (Txt.mul "0" (n : Int)).cps.size = _
    rw [← Array.length_toList, mul_cps]
    simp
  refine ⟨?_, by omega, ?_⟩
  · have dg : NumText.AllDigits (("1" : Str) ++ Txt.mul "0" (n : Int)).cps.toList := by
      rw [hc]
      intro c m
      rcases List.mem_cons.mp m with z | z
      · omega
      · have := List.eq_of_mem_replicate z
        omega
    rw [intText_digits dg (by rw [hc]; simp) (by omega), hc]
    unfold NumText.digitsVal
    rw [List.foldl_cons, fold48]
    simp
  · have e : ("1" : Str).length = 1 := by decide +kernel
    rw [l2, e]
    have : (641 : Nat) ≤ sizeLine := by decide
    omega
theorem mulok_ten {n : Nat} (h : n ≤ 600) : MulOk "0" (n : Int) := by
  refine ⟨by simp; omega, fun _ _ => ?_, fun _ _ => ?_⟩
  · have e : (("0" : Str).length : Int) = 1 := by decide +kernel
    rw [e]
    by_cases z : (n : Int) = 0
    · omega
    · have : (1 : Int) ≤ (2 ^ 63 - 1) / (n : Int) := Int.le_ediv_of_mul_le (by omega) (by omega)
      omega
  · have e : ("0" : Str).length = 1 := by decide +kernel
    rw [e]
    have : (641 : Nat) ≤ sizeLine := by decide
    exact decide_eq_false (by simp; omega)
end DS
namespace DS
open PySem L2
/-! ### sizes, hidden from omega -/
def B (k : Nat) (a : Int) : Prop := a.natAbs < 2 ^ k
theorem B.mono {k l : Nat} {a : Int} (h : B k a) (e : k ≤ l) : B l a := pow_wide h e
theorem B.add {k l : Nat} {a b : Int} (h : B k a) (g : B l b) : B (max k l + 1) (a + b) := by
  have h1 := h.mono (Nat.le_max_left k l)
  have g1 := g.mono (Nat.le_max_right k l)
  unfold B at *
  rw [Nat.pow_succ]
  generalize 2 ^ max k l = z at *
  omega
theorem B.neg {k : Nat} {a : Int} (h : B k a) : B k (-a) := by
  unfold B at *
  rw [Int.natAbs_neg]
  exact h
theorem B.sub {k l : Nat} {a b : Int} (h : B k a) (g : B l b) : B (max k l + 1) (a - b) := by
  rw [Int.sub_eq_add_neg]
  exact h.add g.neg
theorem B.mul {k l : Nat} {a b : Int} (h : B k a) (g : B l b) : B (k + l) (a * b) := by
  unfold B at *
  rw [Int.natAbs_mul, Nat.pow_add]
  exact Nat.mul_lt_mul'' h g
theorem B.div {k : Nat} {a b : Int} (h : B k a) : B k (a / b) := Nat.lt_of_le_of_lt (ediv_abs a b) h
theorem B.mod {k : Nat} {a b : Int} (h : B k b) (h0 : 0 < b) : B k (a % b) := by
  have h1 := Int.emod_nonneg a (show b ≠ 0 by omega)
  have h2 := Int.emod_lt_of_pos a h0
  unfold B at *
  generalize 2 ^ k = z at *
  omega
theorem B.le {k : Nat} {a b : Int} (h : B k b) (h0 : 0 ≤ a) (h1 : a ≤ b) : B k a := by
  unfold B at *
  generalize 2 ^ k = z at *
  omega
theorem B.lit {a : Int} {k : Nat} (h : a.natAbs < 2 ^ k := by decide) : B k a := h
theorem B.cmul {k l : Nat} {a b : Int} (h : B k a) (g : B l b) (e : k + l ≤ 999998 := by decide) : CMulA a b := CMulA.w h g e
theorem B.log {k : Nat} {a : Int} (h : B k a) (h0 : 0 < a) (e : k ≤ 9000 := by decide) : a.natAbs.log2 < 9000 := by
  unfold B at h
  have k0 : 0 < k := by
    rcases Nat.eq_zero_or_pos k with z | z
    · subst z
      simp at h
      omega
    · exact z
  exact Nat.lt_of_lt_of_le (PySem.Flt.log2_lt_of k0 h) e
theorem B.ten (n : Nat) : B (4 * n + 1) (10 ^ n) := ten_lt n
theorem B.small {k : Nat} {a : Int} (h0 : -1073741824 < a) (h1 : a < 1073741824) (e : 30 ≤ k := by decide) : B k a := by
  refine B.mono (k := 30) ?_ e
  unfold B
  omega
end DS
namespace DS
open PySem L2
/-! ### __init__ of an own class -/
def IniOk (C p dx : Addr) (fs : List (Str × V)) (H : Hp) (Q : VK) : Prop := H p = some (.ins C dx []) ∧ ∀ H', H' p = some (.ins C dx fs) → (∀ b o, b ≠ p → H b = some o → H' b = some o) → Q .non H'
def InsAt (C : Addr) (H : Hp) (p : Addr) (fs : List (Str × V)) : Prop := ∃ dx, H p = some (.ins C dx fs)
theorem InsAt.same {C : Addr} {H H' : Hp} {p : Addr} {fs : List (Str × V)} (e : Same H H') (h : InsAt C H p fs) : InsAt C H' p fs := by
  obtain ⟨dx, h⟩ := h
  exact ⟨dx, e _ _ h⟩
theorem InsAt.keep {C : Addr} {H H' : Hp} {p : Addr} {fs : List (Str × V)} (e : Keep H H') (h : InsAt C H p fs) : InsAt C H' p fs := by
  obtain ⟨dx, h⟩ := h
  exact ⟨dx, e _ _ h rfl⟩
theorem make_ini {C x dx : Addr} {H : Hp} {Q Q' : VK} {fs : List (Str × V)} (e : Q' = Q) (nx : H x = none) (nd : H dx = none) (ne : dx ≠ x) (h : ∀ H', Same H H' → InsAt C H' x fs → Q (.ref x) H') :
    IniOk C x dx fs (upd (upd H dx (.own x)) x (.ins C dx [])) (fun v H2 => v = .non ∧ Q' (.ref x) H2) := by
  subst e
  refine ⟨upd_same, fun H' e k => ⟨rfl, h H' (fun b o z => ?_) ⟨dx, e⟩⟩⟩
  have n1 : b ≠ x := ne_of_none z nx
  refine k b o n1 ?_
  rw [upd_ne n1, upd_ne (ne_of_none z nd)]
  exact z
theorem ini_end {C p dx : Addr} {fs : List (Str × V)} {H H' : Hp} {Q : VK} (i : IniOk C p dx fs H Q) (e : H' p = some (.ins C dx fs)) (k : ∀ b o, b ≠ p → H b = some o → H' b = some o) : Q .non H' := i.2 H' e k
theorem putF_len (f : Str) (v : V) : ∀ fs : List (Str × V), (putF f v fs).length ≤ fs.length + 1
  | [] => Nat.le_refl _
  | (g, u) :: r => by
    show (if g = f then (g, v) :: r else (g, u) :: putF f v r).length ≤ _
    split
    · exact Nat.le_succ _
    · exact Nat.succ_le_succ (putF_len f v r)
end DS
namespace DS
open PySem L2 PySem.Spec PyProof.Rows
/-! ### kinds of values stay -/
theorem tyOf_same {K : PySem.W.Frag} {H H' : Hp} {v : V} {t : Value} (e : Same H H') (h : TyOf K H v t) : TyOf K H' v t := by
  cases h with
  | non => exact .non
  | bl x => exact .bl x
  | int i => exact .int i
  | str x => exact .str x
  | flt x => exact .flt x
  | lst q => exact .lst (e _ _ q)
  | frz q => exact .frz (e _ _ q)
  | tup q => exact .tup (e _ _ q)
  | dK q => exact .dK (e _ _ q)
  | dT q => exact .dT (e _ _ q)
  | ins q cl a b c d => exact .ins (e _ _ q) cl a b c d
theorem tyX_same {K : PySem.W.Frag} {H H' : Hp} {v : V} {t : Value} (e : Same H H') (h : TyX K H v t) : TyX K H' v t := by
  cases h with
  | base q => exact .base (tyOf_same e q)
  | byt b => exact .byt b
  | set q => exact .set (e _ _ q)
  | kList q c => exact .kList q c
  | kTuple q c => exact .kTuple q c
  | kDict q c => exact .kDict q c
  | fTuple q => exact .fTuple (e _ _ q)
  | fDict q => exact .fDict (e _ _ q)
theorem isI_same {K : PySem.W.Frag} {H H' : Hp} {v : V} {T : String} {r : Bool} (e : Same H H') (h : IsI K H v T r) : IsI K H' v T r := by
  obtain ⟨t, a, b⟩ := h
  exact ⟨t, tyX_same e a, b⟩
theorem intLike_same {K : PySem.W.Frag} {H H' : Hp} {v : V} {b : Bool} (e : Same H H') (h : IntLike K H v b) : IntLike K H' v b := by
  obtain ⟨r1, r2, a, c, d⟩ := h
  exact ⟨r1, r2, isI_same e a, isI_same e c, d⟩
/-- the same where only the type's name counts -/
theorem isI_of {K : PySem.W.Frag} {H : Hp} {v : V} {n T : String} {r : Bool} (t : TyX K H v (.type n)) (k : kitB n T = some r) : IsI K H v T r := ⟨_, t, kit_ty k⟩
theorem intLike_of {K : PySem.W.Frag} {H : Hp} {v : V} {n : String} {r1 r2 : Bool} (t : TyX K H v (.type n)) (k1 : kitB n "int" = some r1) (k2 : kitB n "bool" = some r2) : IntLike K H v (r1 && !r2) := ⟨r1, r2, isI_of t k1, isI_of t k2, rfl⟩
/-! ### a value is equal to itself -/
mutual
theorem dp_same {K : PySem.W.Frag} {H H' : Hp} (e : Same H H') : ∀ {v : V} {d : PyData}, Dp K H v d → Dp K H' v d
  | _, _, .non => .non
  | _, _, .bl b => .bl b
  | _, _, .int i => .int i
  | _, _, .str x => .str x
  | _, _, .lst q a => .lst (e.seq q) (dpAll_same e a)
  | _, _, .tup q a => .tup (by
      rcases q with (q | ⟨o, q⟩) | q
      · exact .inl (.inl (e _ _ q))
      · exact .inl (.inr ⟨o, e _ _ q⟩)
      · exact .inr q) (dpAll_same e a)
theorem dpAll_same {K : PySem.W.Frag} {H H' : Hp} (e : Same H H') : ∀ {vs : List V} {ds : List PyData}, DpAll K H vs ds → DpAll K H' vs ds
  | _, _, .nil => .nil
  | _, _, .cons a b => .cons (dp_same e a) (dpAll_same e b)
end
def EqS (K : PySem.W.Frag) (C : Addr) (sp : Sp) : R2 := rAlt (rEqD K) (rAlt rEqDA (rEqIX K C sp (fun _ _ _ => False)))
def Self (K : PySem.W.Frag) (C : Addr) (sp : Sp) (H : Hp) (v : V) : Prop := ∀ H', Same H H' → (∀ Q' : VK, (∀ H'', Same H' H'' → Q' (.bl true) H'') → EqS K C sp v v H' Q') ∧ ∃ b, IsI K H' v "bool" b
theorem Self.same {K : PySem.W.Frag} {C : Addr} {sp : Sp} {H H1 : Hp} {v : V} (e : Same H H1) (s : Self K C sp H v) : Self K C sp H1 v := fun H' e' => s H' (e.trans e')
theorem self_flat {K : PySem.W.Frag} {C : Addr} {sp : Sp} {H : Hp} {v : V} {d : PyData} {b : Bool} (h : Dp K H v d) (s : SeqAt.shaped d = true) (r : PyData.eqv d d = true) (i : IsI K H v "bool" b) : Self K C sp H v := fun H' e =>
  ⟨fun Q' q => .inl ⟨d, d, dp_same e h, dp_same e h, s, s, by rw [r]; exact q H' (Same.refl _)⟩, b, isI_same e i⟩
theorem self_dict {K : PySem.W.Frag} {C : Addr} {sp : Sp} {H : Hp} {a : Addr} (h : H a = some (.dK [])) : Self K C sp H (.ref a) := fun H' e =>
  ⟨fun Q' q => .inr (.inl ⟨a, a, [], [], rfl, rfl, e _ _ h, e _ _ h, rfl, fun p hp => absurd hp (by simp), q H' (Same.refl _)⟩), false, isI_of (.base (.dK (e _ _ h))) (by decide +kernel)⟩
theorem self_int {K : PySem.W.Frag} {C : Addr} {sp : Sp} {H : Hp} (n : Int) : Self K C sp H (.int n) := self_flat (.int n) rfl (by simp [PyData.eqv]) (isI_of (r := false) (.base (.int n)) (by decide +kernel))
theorem cr_mono {P : Program} {w : World} {outer : List Env} {H : Hp} {s s' : Shared} {Q Q' : VK} {E E' : XK} {r : Result} (h : CR (L2.CX P w) outer P w H s Q E r s') (hQ : ∀ v G, Q v G → Q' v G) (hE : ∀ c d G, E c d G → E' c d G) : CR (L2.CX P w) outer P w H s Q' E' r s' := by
  cases r with
  | error u =>
    obtain ⟨a, B, G, cls, d, h1, h2, h3, h4, h5, h6, h7, q⟩ := h
    exact ⟨a, B, G, cls, d, h1, h2, h3, h4, h5, h6, h7, hE _ _ _ q⟩
  | ok fl =>
    cases fl with
    | ret u =>
      obtain ⟨v, G, h1, h2, h3, h4, h5, q⟩ := h
      exact ⟨v, G, h1, h2, h3, h4, h5, hQ _ _ q⟩
    | next => exact h.elim
    | brk => exact h.elim
    | cont => exact h.elim
theorem Act.mono {P : Program} {w : World} {K : PySem.W.Frag} {mg : Str → Option Value} {base : Heap} {k : Nat} {f : Addr} {H : Hp} {Q Q' : VK} {E E' : XK} (a : Act P w K mg base k f H Q E) (hQ : ∀ v G, Q v G → Q' v G) (hE : ∀ c d G, E c d G → E' c d G) : Act P w K mg base k f H Q' E' :=
  ⟨a.1, fun A outer s hr e0 => codeAny_mono (a.2 A outer s hr e0) fun r s' z => cr_mono z hQ hE⟩
theorem Act.room {P : Program} {w : World} {K : PySem.W.Frag} {mg : Str → Option Value} {base : Heap} {k l : Nat} {f : Addr} {H : Hp} {Q : VK} {E : XK} (a : Act P w K mg base k f H Q E) (h : k ≤ l) : Act P w K mg base l f H Q E :=
  ⟨a.1, fun A outer s hr e0 => a.2 A outer s (hr.mono h) e0⟩
/-! ### an if whose test is false -/
theorem w_ifF {c : TT} {t u : TS} {D : Ends} {σ : L2.St} {H : Hp} (N : Hp → Prop) (h1 : ∀ R : Bool → Hp → Prop, (∀ H', N H' → R false H') → c σ H R) (h2 : ∀ H', N H' → u D σ H') : tIfS c t u D σ H := h1 _ (fun H' n => iteF (h2 H' n))
theorem R_ne {x : V} {H : Hp} {R : Bool → Hp → Prop} (h : R false H) : R (!decide (x = x)) H := by
  rw [decide_eq_true rfl]
  exact h
theorem R_no {p : Prop} [Decidable p] {H : Hp} {R : Bool → Hp → Prop} (hp : ¬ p) (h : R false H) : R (decide p) H := by
  rw [decide_eq_false hp]
  exact h
/-- two ways to one value -/
theorem w_join {p : Prop} [Decidable p] {A B : VK → Prop} {K : VK} (N : V → Hp → Prop) (h1 : p → ∀ R : VK, (∀ v H, N v H → R v H) → A R) (h2 : ¬ p → ∀ R : VK, (∀ v H, N v H → R v H) → B R) (h3 : ∀ v H, N v H → K v H) : if decide p = true then A K else B K := by
  by_cases h : p
  · rw [decide_eq_true h]
    exact iteT (h1 h K h3)
  · rw [decide_eq_false h]
    exact iteF (h2 h K h3)
/-! ### all but one object stay -/
def But (d : Addr) (H H' : Hp) : Prop := ∀ b o, b ≠ d → H b = some o → H' b = some o
theorem But.refl (d : Addr) (H : Hp) : But d H H := fun _ _ _ h => h
theorem But.trans {d : Addr} {H H1 H2 : Hp} (a : But d H H1) (b : But d H1 H2) : But d H H2 := fun c o n h => b c o n (a c o n h)
theorem But.of {d : Addr} {H H' : Hp} (s : Same H H') : But d H H' := fun b o _ h => s b o h
theorem But.same {d : Addr} {H H1 H2 : Hp} (a : But d H H1) (b : Same H1 H2) : But d H H2 := a.trans (But.of b)
theorem But.upd {d : Addr} {H : Hp} {o : HO} : But d H (upd H d o) := fun b u n h => by rw [upd_ne n]; exact h
theorem But.keep {d : Addr} {H H' : Hp} {kvs : List (Key × V)} (a : But d H H') (h : H d = some (.dK kvs)) : Keep H H' := fun b o e s => by
  refine a b o (fun z => ?_) e
  rw [z, h] at e
  cases e
  cases s
/-! ### all but some objects and the tables stay -/
def Away (S : List Addr) (H H' : Hp) : Prop := ∀ b o, b ∉ S → (∀ ps, o ≠ .tbl ps) → H b = some o → H' b = some o
theorem Away.refl (S : List Addr) (H : Hp) : Away S H H := fun _ _ _ _ h => h
theorem Away.trans {S : List Addr} {H H1 H2 : Hp} (a : Away S H H1) (b : Away S H1 H2) : Away S H H2 := fun c o n t h => b c o n t (a c o n t h)
theorem Away.same {S : List Addr} {H H' : Hp} (s : Same H H') : Away S H H' := fun b o _ _ h => s b o h
theorem Away.but {d : Addr} {H H' : Hp} {S : List Addr} (s : But d H H') (hd : d ∈ S) : Away S H H' := fun b o n _ h => s b o (fun z => n (z ▸ hd)) h
theorem Away.ext {S : List Addr} {H H' : Hp} (s : LamX.ExtN H H') : Away S H H' := fun b o _ t h => s b o h t
theorem Away.upd {S : List Addr} {H : Hp} {l : Addr} {o : HO} (hl : l ∈ S) : Away S H (upd H l o) := fun b u n _ h => by
  rw [L2.upd_ne (fun z : b = l => n (by rw [z]; exact hl))]
  exact h
/-- a value that is none of what is wanted: its objects lie outside S -/
inductive OddD (C : Addr) (F : List (Str × V) → Prop) (S : List Addr) (H : Hp) : V → Prop where
  | non : OddD C F S H .non
  | bl (b : Bool) : OddD C F S H (.bl b)
  | str (x : Str) (s : SeqAt.shaped (PyData.str x) = true) : OddD C F S H (.str x)
  | tup {a : Addr} {xs : List Int} (n : a ∉ S) (e : H a = some (.tup (xs.map V.int))) : OddD C F S H (.ref a)
  | lst {a : Addr} {xs : List Int} (n : a ∉ S) (e : H a = some (.lst (xs.map V.int))) : OddD C F S H (.ref a)
  | dct {a : Addr} (n : a ∉ S) (e : H a = some (.dK [])) : OddD C F S H (.ref a)
  | ins {a dx : Addr} {fs : List (Str × V)} (n : a ∉ S) (e : H a = some (.ins C dx fs)) (f : F fs) : OddD C F S H (.ref a)
theorem OddD.away {C : Addr} {F : List (Str × V) → Prop} {S : List Addr} {H H' : Hp} {v : V} (s : Away S H H') (h : OddD C F S H v) : OddD C F S H' v := by
  cases h with
  | non => exact .non
  | bl b => exact .bl b
  | str x q => exact .str x q
  | tup n e => exact .tup n (s _ _ n (fun _ z => nomatch z) e)
  | lst n e => exact .lst n (s _ _ n (fun _ z => nomatch z) e)
  | dct n e => exact .dct n (s _ _ n (fun _ z => nomatch z) e)
  | ins n e f => exact .ins n (s _ _ n (fun _ z => nomatch z) e) f
theorem OddD.hid {C : Addr} {F : List (Str × V) → Prop} {S : List Addr} {H H' : Hp} {v : V} (s : Hid H H') (h : OddD C F S H v) : OddD C F S H' v := by
  cases h with
  | non => exact .non
  | bl b => exact .bl b
  | str x q => exact .str x q
  | tup n e => exact .tup n (s _ _ e rfl)
  | lst n e => exact .lst n (s _ _ e rfl)
  | dct n e => exact .dct n (s _ _ e rfl)
  | ins n e f => exact .ins n (s _ _ e rfl) f
theorem OddD.more {C : Addr} {F : List (Str × V) → Prop} {S : List Addr} {H : Hp} {v : V} {l : Addr} (h : OddD C F S H v) (hl : H l = none) : OddD C F (l :: S) H v := by
  have no : ∀ {a : Addr} {o : HO}, a ∉ S → H a = some o → a ∉ l :: S := fun {a o} n e z => (List.mem_cons.mp z).elim (fun q => ne_of_none e hl q) n
  cases h with
  | non => exact .non
  | bl b => exact .bl b
  | str x q => exact .str x q
  | tup n e => exact .tup (no n e) e
  | lst n e => exact .lst (no n e) e
  | dct n e => exact .dct (no n e) e
  | ins n e f => exact .ins (no n e) e f
theorem shaped_tup (ns : List Int) : SeqAt.shaped (.tuple (ns.map PyData.int)) = true := by
  show (PyData.canLayAll0 (ns.map PyData.int) && decide (PyData.depthAll (ns.map PyData.int) + 1 ≤ 64)) = true
  rw [lay_ints, deep_ints]
  rfl
theorem eqv_ints : ∀ ns : List Int, PyData.eqvAll (ns.map PyData.int) (ns.map PyData.int) = true
  | [] => rfl
  | n :: r => by
    show (PyData.eqv (.int n) (.int n) && PyData.eqvAll (r.map PyData.int) (r.map PyData.int)) = true
    rw [eqv_ints r]
    simp [PyData.eqv]
theorem oddD_int {K : PySem.W.Frag} {C : Addr} {F : List (Str × V) → Prop} {S : List Addr} {H : Hp} {v : V} (ki : PySem.W.kitOne K (.ref C) (.type "int") = some false) (kb : PySem.W.kitOne K (.ref C) (.type "bool") = some false) (ty : ∀ (H : Hp) (a dx : Addr) (fs : List (Str × V)), H a = some (.ins C dx fs) → TyOf K H (.ref a) (.ref C)) (h : OddD C F S H v) : IntLike K H v false := by
  cases h with
  | non => exact intLike_of (r1 := false) (r2 := false) (.base .non) (by decide +kernel) (by decide +kernel)
  | bl b => exact intLike_of (r1 := true) (r2 := true) (.base (.bl b)) (by decide +kernel) (by decide +kernel)
  | str x q => exact intLike_of (r1 := false) (r2 := false) (.base (.str x)) (by decide +kernel) (by decide +kernel)
  | tup n e => exact intLike_of (r1 := false) (r2 := false) (.base (.tup e)) (by decide +kernel) (by decide +kernel)
  | lst n e => exact intLike_of (r1 := false) (r2 := false) (.base (.lst e)) (by decide +kernel) (by decide +kernel)
  | dct n e => exact intLike_of (r1 := false) (r2 := false) (.base (.dK e)) (by decide +kernel) (by decide +kernel)
  | ins n e f => exact ⟨false, false, ⟨_, .base (ty _ _ _ _ e), ki⟩, ⟨_, .base (ty _ _ _ _ e), kb⟩, rfl⟩
theorem oddD_self {K : PySem.W.Frag} {C : Addr} {F : List (Str × V) → Prop} {sp : Sp} {S : List Addr} {H : Hp} {v : V} (hi : ∀ (H : Hp) (a dx : Addr) (fs : List (Str × V)), H a = some (.ins C dx fs) → F fs → Self K C sp H (.ref a)) (h : OddD C F S H v) : Self K C sp H v := by
  cases h with
  | non => exact self_flat .non rfl rfl (isI_of (r := false) (.base .non) (by decide +kernel))
  | bl b => exact self_flat (.bl b) rfl (by cases b <;> rfl) (isI_of (r := true) (.base (.bl b)) (by decide +kernel))
  | str x q => exact self_flat (.str x) q (by simp [PyData.eqv]) (isI_of (r := false) (.base (.str x)) (by decide +kernel))
  | @tup a xs n e => exact self_flat (.tup (.inl (.inl e)) (dp_ints xs)) (shaped_tup xs) (by simp [PyData.eqv, eqv_ints]) (isI_of (r := false) (.base (.tup e)) (by decide +kernel))
  | @lst a xs n e => exact self_flat (.lst (.inl (.inl e)) (dp_ints xs)) (shaped_ints xs) (by simp [PyData.eqv, eqv_ints]) (isI_of (r := false) (.base (.lst e)) (by decide +kernel))
  | dct n e => exact self_dict e
  | ins n e f => exact hi _ _ _ _ e f
theorem tabs_keep {T : List (Addr × Str)} {H H' : Hp} (k : Keep H H') (t : LamX.Tabs T H) : LamX.Tabs T H' := fun p hp => by
  obtain ⟨ps, h1, h2, h3⟩ := t p hp
  refine ⟨ps, k _ _ h1 rfl, h2, fun pos cv hc => ?_⟩
  obtain ⟨c, e1, e2⟩ := h3 pos cv hc
  exact ⟨c, e1, k _ _ e2 rfl⟩
/-- a lambda is made -/
theorem w_lam {X : Cx} {T : List (Addr × Str)} {L : LT} {σ : L2.St} {H : Hp} {Q : VK} (t : LamX.Tabs T H) (h : ∀ f H1, LamX.ExtN H H1 → LamX.Tabs T H1 → H f = none → Lm0 X H1 f L → Q (.ref f) H1) : tLamN T L (cloFrom X.env.cells L.scope.names []) σ H Q :=
  ⟨t, fun f c H1 x T1 n e1 e2 => h f H1 x T1 n ⟨c, e1, e2⟩⟩
theorem Lm0.away {X : Cx} {S : List Addr} {H H' : Hp} {f : Addr} {L : LT} (e : Away S H H') (hS : ∀ b ∈ S, (∃ xs, H b = some (.lst xs)) ∨ (∃ kvs, H b = some (.dK kvs)) ∨ H b = none) (h : Lm0 X H f L) : Lm0 X H' f L := by
  obtain ⟨c, h1, h2⟩ := h
  have no : ∀ {b : Addr} {φ : Heap → Prop}, H b = some (.ext φ) → b ∉ S := fun {b φ} e z => by
    rcases hS b z with ⟨xs, q⟩ | ⟨kvs, q⟩ | q <;> rw [e] at q <;> cases q
  exact ⟨c, e _ _ (no h1) (fun _ z => lamO_ne _ z) h1, e _ _ (no h2) (fun _ z => LamX.codeO_ne _ z) h2⟩
def isTbl : HO → Bool
  | .tbl _ => true
  | _ => false
theorem Away.get {S : List Addr} {H H' : Hp} {b : Addr} {o : HO} (w : Away S H H') (n : b ∉ S) (e : H b = some o) (t : isTbl o = false := by rfl) : H' b = some o := w b o n (fun ps z => by rw [z] at t; cases t) e
theorem w_append {K : PySem.W.Frag} {H : Hp} {l : Addr} {xs : List V} {P : Prop} (e : H l = some (.lst xs)) (h : P) : tyV K "list" (.ref l) H ∧ P := ⟨.inl ⟨rfl, xs, .inl (.inl e)⟩, h⟩
theorem w_app {H : Hp} {Q : VK} {l : Addr} {xs : List V} {y : V} (e : H l = some (.lst xs)) (n : xs.length < sizeLine) (h : Q .non (upd H l (.lst (xs ++ [y])))) : rAppend (.ref l) [y] H Q := ⟨l, xs, y, rfl, rfl, e, n, h⟩
theorem w_bm {K : PySem.W.Frag} {T : String} {r : V → List V → Hp → VK → Prop} {to : TE} {t : TA} {σ : L2.St} {H : Hp} {Q : VK} (h : to σ H fun x H1 => tyV K T x H1 ∧ t σ H1 fun xs H2 => r x xs H2 Q) : tBM K T r to t σ H Q := h
theorem w_lcS {X : Cx} {wi : TI} {g : TG} {tt : TT} {te : TE} {vs : List Nat} {σ : L2.St} {H : Hp} {Q : VK} (h : wi σ H fun It H1 => ∀ D Z, Showing X σ H1 Z → Z D = none → ∃ W : Nat → Nat → Hp → Prop, (∃ m, W 0 m (upd Z D (.lst []))) ∧ ∀ i m G, W i m G →
  (It.stop i G ∧ ∀ G', Hid G G' → Q (.ref D) G') ∨ (It.go i G ∧ ∃ Nx : Hp → Prop, (∀ G', Nx G' → ∃ m', m' < m ∧ W (i + 1) m' G') ∧ ∀ x G', It.yld i G x G' → g x (wipe σ vs) G' fun σ2 H2 => wipe σ2 vs = wipe σ vs ∧ tt σ2 H2 fun b H3 =>
    if b = true then te σ2 H3 fun y H4 => ∃ acc, H4 D = some (.lst acc) ∧ acc.length < sizeLine ∧ Nx (upd H4 D (.lst (acc ++ [y]))) else Nx H3)) : tLcS X wi g tt te vs σ H Q := h
theorem tabs_lst {T : List (Addr × Str)} {H : Hp} {l : Addr} {xs ys : List V} (e : H l = some (.lst xs)) (t : LamX.Tabs T H) : LamX.Tabs T (upd H l (.lst ys)) := fun p hp => by
  obtain ⟨ps, h1, h2, h3⟩ := t p hp
  refine ⟨ps, by rw [upd_ne (ne_of h1 e (by intro z; cases z))]; exact h1, h2, fun pos cv hc => ?_⟩
  obtain ⟨c, e1, e2⟩ := h3 pos cv hc
  exact ⟨c, e1, by rw [upd_ne (ne_of e2 e (by intro z; cases z))]; exact e2⟩
theorem tabs_hid {T : List (Addr × Str)} {H H' : Hp} (k : Hid H H') (t : LamX.Tabs T H) : LamX.Tabs T H' := fun p hp => by
  obtain ⟨ps, h1, h2, h3⟩ := t p hp
  refine ⟨ps, k _ _ h1 rfl, h2, fun pos cv hc => ?_⟩
  obtain ⟨c, e1, e2⟩ := h3 pos cv hc
  exact ⟨c, e1, k _ _ e2 rfl⟩
end DS
namespace K17
open PySem L2 DS
def top (i : Nat) : Stmt := PySem.Challenge.pw_dealtsums_k17_whole_windows_of_deals.main.body.getD i (.Pass ⟨0, 0, 0, 0⟩)
abbrev s_is_integer : Stmt := top 5
abbrev N_is_integer : List Str := ["value"]
theorem sc_is_integer : FnScope ["value"] ["value"] (defScope s_is_integer) := ⟨rfl, rfl, rfl, by decide +kernel, rfl, by decide +kernel, by decide +kernel⟩
abbrev s_is_whole : Stmt := top 6
abbrev N_is_whole : List Str := ["value"]
theorem sc_is_whole : FnScope ["value"] ["value"] (defScope s_is_whole) := ⟨rfl, rfl, rfl, by decide +kernel, rfl, by decide +kernel, by decide +kernel⟩
abbrev s_need_integer : Stmt := top 7
abbrev N_need_integer : List Str := ["value"]
theorem sc_need_integer : FnScope ["value"] ["value"] (defScope s_need_integer) := ⟨rfl, rfl, rfl, by decide +kernel, rfl, by decide +kernel, by decide +kernel⟩
abbrev s_need_whole : Stmt := top 8
abbrev N_need_whole : List Str := ["value"]
theorem sc_need_whole : FnScope ["value"] ["value"] (defScope s_need_whole) := ⟨rfl, rfl, rfl, by decide +kernel, rfl, by decide +kernel, by decide +kernel⟩
abbrev s_need_positive : Stmt := top 9
abbrev N_need_positive : List Str := ["value"]
theorem sc_need_positive : FnScope ["value"] ["value"] (defScope s_need_positive) := ⟨rfl, rfl, rfl, by decide +kernel, rfl, by decide +kernel, by decide +kernel⟩
abbrev s_need_below : Stmt := top 10
abbrev N_need_below : List Str := ["value", "bound"]
theorem sc_need_below : FnScope ["value", "bound"] ["value", "bound"] (defScope s_need_below) := ⟨rfl, rfl, rfl, by decide +kernel, rfl, by decide +kernel, by decide +kernel⟩
abbrev s_below : Stmt := top 12
abbrev N_below : List Str := ["period", "length", "bound"]
theorem sc_below : FnScope ["period", "length", "bound"] ["period", "length", "bound"] (defScope s_below) := ⟨rfl, rfl, rfl, by decide +kernel, rfl, by decide +kernel, by decide +kernel⟩
abbrev s_Window___init__ : Stmt := inClass (top 13) 0
abbrev N_Window___init__ : List Str := ["self", "period", "first", "length", "some"]
theorem sc_Window___init__ : FnScope ["self", "period", "first", "length", "some"] ["self", "period", "first", "length"] (defScope s_Window___init__) := ⟨rfl, rfl, rfl, by decide +kernel, rfl, by decide +kernel, by decide +kernel⟩
abbrev s_Window___eq__ : Stmt := inClass (top 13) 1
abbrev N_Window___eq__ : List Str := ["self", "other"]
theorem sc_Window___eq__ : FnScope ["self", "other"] ["self", "other"] (defScope s_Window___eq__) := ⟨rfl, rfl, rfl, by decide +kernel, rfl, by decide +kernel, by decide +kernel⟩
abbrev s_Window___contains__ : Stmt := inClass (top 13) 2
abbrev N_Window___contains__ : List Str := ["self", "k"]
theorem sc_Window___contains__ : FnScope ["self", "k"] ["self", "k"] (defScope s_Window___contains__) := ⟨rfl, rfl, rfl, by decide +kernel, rfl, by decide +kernel, by decide +kernel⟩
abbrev s_Window_count : Stmt := inClass (top 13) 3
abbrev N_Window_count : List Str := ["self", "many"]
theorem sc_Window_count : FnScope ["self", "many"] ["self", "many"] (defScope s_Window_count) := ⟨rfl, rfl, rfl, by decide +kernel, rfl, by decide +kernel, by decide +kernel⟩
abbrev s_Deal___init__ : Stmt := inClass (top 15) 0
abbrev N_Deal___init__ : List Str := ["self", "block", "houses", "shift"]
theorem sc_Deal___init__ : FnScope ["self", "block", "houses", "shift"] ["self", "block", "houses", "shift"] (defScope s_Deal___init__) := ⟨rfl, rfl, rfl, by decide +kernel, rfl, by decide +kernel, by decide +kernel⟩
abbrev s_Deal___eq__ : Stmt := inClass (top 15) 1
abbrev N_Deal___eq__ : List Str := ["self", "other"]
theorem sc_Deal___eq__ : FnScope ["self", "other"] ["self", "other"] (defScope s_Deal___eq__) := ⟨rfl, rfl, rfl, by decide +kernel, rfl, by decide +kernel, by decide +kernel⟩
abbrev s_Deal_turn : Stmt := inClass (top 15) 4
abbrev N_Deal_turn : List Str := ["self"]
theorem sc_Deal_turn : FnScope ["self"] ["self"] (defScope s_Deal_turn) := ⟨rfl, rfl, rfl, by decide +kernel, rfl, by decide +kernel, by decide +kernel⟩
abbrev s_Deal_house : Stmt := inClass (top 15) 5
abbrev N_Deal_house : List Str := ["self", "cell"]
theorem sc_Deal_house : FnScope ["self", "cell"] ["self", "cell"] (defScope s_Deal_house) := ⟨rfl, rfl, rfl, by decide +kernel, rfl, by decide +kernel, by decide +kernel⟩
abbrev s_Deal_window : Stmt := inClass (top 15) 8
abbrev N_Deal_window : List Str := ["self", "house"]
theorem sc_Deal_window : FnScope ["self", "house"] ["self", "house"] (defScope s_Deal_window) := ⟨rfl, rfl, rfl, by decide +kernel, rfl, by decide +kernel, by decide +kernel⟩
abbrev s_Deal_count : Stmt := inClass (top 15) 9
abbrev N_Deal_count : List Str := ["self", "house", "many"]
theorem sc_Deal_count : FnScope ["self", "house", "many"] ["self", "house", "many"] (defScope s_Deal_count) := ⟨rfl, rfl, rfl, by decide +kernel, rfl, by decide +kernel, by decide +kernel⟩
abbrev s__law_begin : Stmt := top 17
abbrev N__law_begin : List Str := ["_law_script"]
theorem sc__law_begin : FnScope ["_law_script"] ["_law_script"] (defScope s__law_begin) := ⟨rfl, rfl, rfl, by decide +kernel, rfl, by decide +kernel, by decide +kernel⟩
abbrev s__law_draw : Stmt := top 18
abbrev N__law_draw : List Str := ["_law_pen", "_law_span", "_law_digit", "_law_count_here", "_law_cell", "_law_first", "_law_blend"]
theorem sc__law_draw : FnScope ["_law_pen", "_law_span", "_law_digit", "_law_count_here", "_law_cell", "_law_first", "_law_blend"] ["_law_pen", "_law_span"] (defScope s__law_draw) := ⟨rfl, rfl, rfl, by decide +kernel, rfl, by decide +kernel, by decide +kernel⟩
abbrev s__law_pick : Stmt := top 19
abbrev N__law_pick : List Str := ["_law_pen", "_law_some"]
theorem sc__law_pick : FnScope ["_law_pen", "_law_some"] ["_law_pen", "_law_some"] (defScope s__law_pick) := ⟨rfl, rfl, rfl, by decide +kernel, rfl, by decide +kernel, by decide +kernel⟩
abbrev s__law_ten : Stmt := top 20
abbrev N__law_ten : List Str := ["_law_number"]
theorem sc__law_ten : FnScope ["_law_number"] ["_law_number"] (defScope s__law_ten) := ⟨rfl, rfl, rfl, by decide +kernel, rfl, by decide +kernel, by decide +kernel⟩
abbrev s__law_same : Stmt := top 21
abbrev N__law_same : List Str := ["_law_one", "_law_other"]
theorem sc__law_same : FnScope ["_law_one", "_law_other"] ["_law_one", "_law_other"] (defScope s__law_same) := ⟨rfl, rfl, rfl, by decide +kernel, rfl, by decide +kernel, by decide +kernel⟩
abbrev s__law_refused : Stmt := top 22
abbrev N__law_refused : List Str := ["_law_deed", "_law_value", "_law_told", "e"]
theorem sc__law_refused : FnScope ["_law_deed", "_law_value", "_law_told", "e"] ["_law_deed", "_law_value"] (defScope s__law_refused) := ⟨rfl, rfl, rfl, by decide +kernel, rfl, by decide +kernel, by decide +kernel⟩
abbrev s__law_size : Stmt := top 23
abbrev N__law_size : List Str := ["_law_pen", "_law_most", "_law_many", "_law_small", "_law_far"]
theorem sc__law_size : FnScope ["_law_pen", "_law_most", "_law_many", "_law_small", "_law_far"] ["_law_pen", "_law_most"] (defScope s__law_size) := ⟨rfl, rfl, rfl, by decide +kernel, rfl, by decide +kernel, by decide +kernel⟩
abbrev s__law_house : Stmt := top 24
abbrev N__law_house : List Str := ["_law_parts", "_law_cell"]
theorem sc__law_house : FnScope ["_law_parts", "_law_cell"] ["_law_parts", "_law_cell"] (defScope s__law_house) := ⟨rfl, rfl, rfl, by decide +kernel, rfl, by decide +kernel, by decide +kernel⟩
abbrev s__law_ahead : Stmt := top 25
abbrev N__law_ahead : List Str := ["_law_parts", "_law_house_here", "_law_bound", "_law_block", "_law_houses", "_law_shift", "_law_turn", "_law_rest"]
theorem sc__law_ahead : FnScope ["_law_parts", "_law_house_here", "_law_bound", "_law_block", "_law_houses", "_law_shift", "_law_turn", "_law_rest"] ["_law_parts", "_law_house_here", "_law_bound"] (defScope s__law_ahead) := ⟨rfl, rfl, rfl, by decide +kernel, rfl, by decide +kernel, by decide +kernel⟩
abbrev s__law_count : Stmt := top 26
abbrev N__law_count : List Str := ["_law_parts", "_law_house_here", "_law_many"]
theorem sc__law_count : FnScope ["_law_parts", "_law_house_here", "_law_many"] ["_law_parts", "_law_house_here", "_law_many"] (defScope s__law_count) := ⟨rfl, rfl, rfl, by decide +kernel, rfl, by decide +kernel, by decide +kernel⟩
abbrev s__law_numbers : Stmt := top 27
abbrev N__law_numbers : List Str := ["_law_pen", "_law_parts", "_law_block", "_law_houses", "_law_shift", "_law_near"]
theorem sc__law_numbers : FnScope ["_law_pen", "_law_parts", "_law_block", "_law_houses", "_law_shift", "_law_near"] ["_law_pen", "_law_parts"] (defScope s__law_numbers) := ⟨rfl, rfl, rfl, by decide +kernel, rfl, by decide +kernel, by decide +kernel⟩
abbrev s__law_counts_right : Stmt := top 28
abbrev N__law_counts_right : List Str := ["_law_deal", "_law_parts", "_law_house_here", "_law_many", "_law_window", "_law_own", "_law_due"]
theorem sc__law_counts_right : FnScope ["_law_deal", "_law_parts", "_law_house_here", "_law_many", "_law_window", "_law_own", "_law_due"] ["_law_deal", "_law_parts", "_law_house_here", "_law_many"] (defScope s__law_counts_right) := ⟨rfl, rfl, rfl, by decide +kernel, rfl, by decide +kernel, by decide +kernel⟩
abbrev s__law_windows_right : Stmt := top 29
abbrev N__law_windows_right : List Str := ["_law_pen", "_law_deal", "_law_parts", "_law_block", "_law_houses", "_law_shift", "_law_many", "_law_house_here", "_law_due", "_law_each"]
theorem sc__law_windows_right : FnScope ["_law_pen", "_law_deal", "_law_parts", "_law_block", "_law_houses", "_law_shift", "_law_many", "_law_house_here", "_law_due", "_law_each"] ["_law_pen", "_law_deal", "_law_parts"] (defScope s__law_windows_right) := ⟨rfl, rfl, rfl, by decide +kernel, rfl, by decide +kernel, by decide +kernel⟩
abbrev s__law_equal_right : Stmt := top 30
abbrev N__law_equal_right : List Str := ["_law_pen", "_law_one", "_law_other", "_law_turns", "_law_alike", "_law_many", "_law_near", "_law_far", "_law_block", "_law_houses", "_law_shift", "_law_pairs", "_law_bent", "_law_cell", "_law_parts", "_law_pair"]
theorem sc__law_equal_right : FnScope ["_law_pen", "_law_one", "_law_other", "_law_turns", "_law_alike", "_law_many", "_law_near", "_law_far", "_law_block", "_law_houses", "_law_shift", "_law_pairs", "_law_bent", "_law_cell", "_law_parts", "_law_pair"] ["_law_pen"] (defScope s__law_equal_right) := ⟨rfl, rfl, rfl, by decide +kernel, rfl, by decide +kernel, by decide +kernel⟩
abbrev s__law_refusals : Stmt := top 31
abbrev N__law_refusals : List Str := ["_law_pen", "_law_deal", "_law_houses", "_law_wrong", "_law_rows", "_law_less", "_law_odd", "_law_row"]
theorem sc__law_refusals : FnScope ["_law_pen", "_law_deal", "_law_houses", "_law_wrong", "_law_rows", "_law_less", "_law_odd", "_law_row"] ["_law_pen", "_law_deal", "_law_houses"] (defScope s__law_refusals) := ⟨rfl, rfl, rfl, by decide +kernel, rfl, by decide +kernel, by decide +kernel⟩
abbrev s_law : Stmt := top 32
abbrev N_law : List Str := ["_law_script", "_law_pen", "_law_parts", "_law_deal"]
theorem sc_law : FnScope ["_law_script", "_law_pen", "_law_parts", "_law_deal"] ["_law_script"] (defScope s_law) := ⟨rfl, rfl, rfl, by decide +kernel, rfl, by decide +kernel, by decide +kernel⟩
abbrev PR : Program := PySem.Challenge.pw_dealtsums_k17_whole_windows_of_deals
abbrev s_BadValue___init__ : Stmt := inClass (top 3) 0
structure Tx (w : World) (K : PySem.W.Frag) (mg : Str → Option Value) where
  C_BadValue : Addr
  f_BadValue___init__ : Addr
  fd_BadValue___init__ : FuncData
  gC_BadValue : mg "BadValue" = some (.ref C_BadValue)
  X_BadValue : XOne PR w K mg C_BadValue f_BadValue___init__ fd_BadValue___init__ s_BadValue___init__ "BadValue.__init__" "value"
  bX_BadValue : Binds K fd_BadValue___init__ ["self", "value"] []
  xf_BadValue : XfC K C_BadValue
  em_BadValue : PySem.W.exmOne K (.ref C_BadValue) (.ref C_BadValue) = some true
  C_Window : Addr
  cl_Window : Cls K C_Window
  gC_Window : mg "Window" = some (.ref C_Window)
  n_Window_period : NoAttr K C_Window "period"
  n_Window_first : NoAttr K C_Window "first"
  n_Window_length : NoAttr K C_Window "length"
  C_Deal : Addr
  cl_Deal : Cls K C_Deal
  gC_Deal : mg "Deal" = some (.ref C_Deal)
  n_Deal_houses : NoAttr K C_Deal "houses"
  n_Deal_block : NoAttr K C_Deal "block"
  n_Deal_shift : NoAttr K C_Deal "shift"
  f_is_integer : Addr
  fd_is_integer : FuncData
  F_is_integer : Fun K "is_integer" "is_integer" s_is_integer f_is_integer fd_is_integer
  b_is_integer : Binds K fd_is_integer ["value"] []
  g_is_integer : mg "is_integer" = some (.ref f_is_integer)
  f_is_whole : Addr
  fd_is_whole : FuncData
  F_is_whole : Fun K "is_whole" "is_whole" s_is_whole f_is_whole fd_is_whole
  b_is_whole : Binds K fd_is_whole ["value"] []
  g_is_whole : mg "is_whole" = some (.ref f_is_whole)
  f_need_integer : Addr
  fd_need_integer : FuncData
  F_need_integer : Fun K "need_integer" "need_integer" s_need_integer f_need_integer fd_need_integer
  b_need_integer : Binds K fd_need_integer ["value"] []
  g_need_integer : mg "need_integer" = some (.ref f_need_integer)
  f_need_whole : Addr
  fd_need_whole : FuncData
  F_need_whole : Fun K "need_whole" "need_whole" s_need_whole f_need_whole fd_need_whole
  b_need_whole : Binds K fd_need_whole ["value"] []
  g_need_whole : mg "need_whole" = some (.ref f_need_whole)
  f_need_positive : Addr
  fd_need_positive : FuncData
  F_need_positive : Fun K "need_positive" "need_positive" s_need_positive f_need_positive fd_need_positive
  b_need_positive : Binds K fd_need_positive ["value"] []
  g_need_positive : mg "need_positive" = some (.ref f_need_positive)
  f_need_below : Addr
  fd_need_below : FuncData
  F_need_below : Fun K "need_below" "need_below" s_need_below f_need_below fd_need_below
  b_need_below : Binds K fd_need_below ["value", "bound"] []
  g_need_below : mg "need_below" = some (.ref f_need_below)
  f_below : Addr
  fd_below : FuncData
  F_below : Fun K "below" "below" s_below f_below fd_below
  b_below : Binds K fd_below ["period", "length", "bound"] []
  g_below : mg "below" = some (.ref f_below)
  f_Window___init__ : Addr
  fd_Window___init__ : FuncData
  F_Window___init__ : Fun K "__init__" "Window.__init__" s_Window___init__ f_Window___init__ fd_Window___init__
  b_Window___init__ : Binds K fd_Window___init__ ["self", "period", "first", "length"] []
  M_Window : Mk K C_Window f_Window___init__
  f_Window___eq__ : Addr
  fd_Window___eq__ : FuncData
  F_Window___eq__ : Fun K "__eq__" "Window.__eq__" s_Window___eq__ f_Window___eq__ fd_Window___eq__
  b_Window___eq__ : Binds K fd_Window___eq__ ["self", "other"] []
  m_Window___eq__ : Meth K C_Window "__eq__" f_Window___eq__
  f_Window___contains__ : Addr
  fd_Window___contains__ : FuncData
  F_Window___contains__ : Fun K "__contains__" "Window.__contains__" s_Window___contains__ f_Window___contains__ fd_Window___contains__
  b_Window___contains__ : Binds K fd_Window___contains__ ["self", "k"] []
  m_Window___contains__ : Meth K C_Window "__contains__" f_Window___contains__
  f_Window_count : Addr
  fd_Window_count : FuncData
  F_Window_count : Fun K "count" "Window.count" s_Window_count f_Window_count fd_Window_count
  b_Window_count : Binds K fd_Window_count ["self", "many"] []
  m_Window_count : Meth K C_Window "count" f_Window_count
  f_Deal___init__ : Addr
  fd_Deal___init__ : FuncData
  F_Deal___init__ : FunD K "__init__" "Deal.__init__" (defArgs s_Deal___init__) (defBody s_Deal___init__) (defScope s_Deal___init__) [.int 0] [] f_Deal___init__ fd_Deal___init__
  b_Deal___init__ : Binds K fd_Deal___init__ ["self", "block", "houses", "shift"] []
  M_Deal : Mk K C_Deal f_Deal___init__
  f_Deal___eq__ : Addr
  fd_Deal___eq__ : FuncData
  F_Deal___eq__ : Fun K "__eq__" "Deal.__eq__" s_Deal___eq__ f_Deal___eq__ fd_Deal___eq__
  b_Deal___eq__ : Binds K fd_Deal___eq__ ["self", "other"] []
  m_Deal___eq__ : Meth K C_Deal "__eq__" f_Deal___eq__
  f_Deal_turn : Addr
  fd_Deal_turn : FuncData
  F_Deal_turn : Fun K "turn" "Deal.turn" s_Deal_turn f_Deal_turn fd_Deal_turn
  b_Deal_turn : Binds K fd_Deal_turn ["self"] []
  m_Deal_turn : Meth K C_Deal "turn" f_Deal_turn
  f_Deal_house : Addr
  fd_Deal_house : FuncData
  F_Deal_house : Fun K "house" "Deal.house" s_Deal_house f_Deal_house fd_Deal_house
  b_Deal_house : Binds K fd_Deal_house ["self", "cell"] []
  m_Deal_house : Meth K C_Deal "house" f_Deal_house
  f_Deal_window : Addr
  fd_Deal_window : FuncData
  F_Deal_window : Fun K "window" "Deal.window" s_Deal_window f_Deal_window fd_Deal_window
  b_Deal_window : Binds K fd_Deal_window ["self", "house"] []
  m_Deal_window : Meth K C_Deal "window" f_Deal_window
  f_Deal_count : Addr
  fd_Deal_count : FuncData
  F_Deal_count : Fun K "count" "Deal.count" s_Deal_count f_Deal_count fd_Deal_count
  b_Deal_count : Binds K fd_Deal_count ["self", "house", "many"] []
  m_Deal_count : Meth K C_Deal "count" f_Deal_count
  f__law_begin : Addr
  fd__law_begin : FuncData
  F__law_begin : Fun K "_law_begin" "_law_begin" s__law_begin f__law_begin fd__law_begin
  b__law_begin : Binds K fd__law_begin ["_law_script"] []
  g__law_begin : mg "_law_begin" = some (.ref f__law_begin)
  f__law_draw : Addr
  fd__law_draw : FuncData
  F__law_draw : Fun K "_law_draw" "_law_draw" s__law_draw f__law_draw fd__law_draw
  b__law_draw : Binds K fd__law_draw ["_law_pen", "_law_span"] []
  g__law_draw : mg "_law_draw" = some (.ref f__law_draw)
  f__law_pick : Addr
  fd__law_pick : FuncData
  F__law_pick : Fun K "_law_pick" "_law_pick" s__law_pick f__law_pick fd__law_pick
  b__law_pick : Binds K fd__law_pick ["_law_pen", "_law_some"] []
  g__law_pick : mg "_law_pick" = some (.ref f__law_pick)
  f__law_ten : Addr
  fd__law_ten : FuncData
  F__law_ten : Fun K "_law_ten" "_law_ten" s__law_ten f__law_ten fd__law_ten
  b__law_ten : Binds K fd__law_ten ["_law_number"] []
  g__law_ten : mg "_law_ten" = some (.ref f__law_ten)
  f__law_same : Addr
  fd__law_same : FuncData
  F__law_same : Fun K "_law_same" "_law_same" s__law_same f__law_same fd__law_same
  b__law_same : Binds K fd__law_same ["_law_one", "_law_other"] []
  g__law_same : mg "_law_same" = some (.ref f__law_same)
  f__law_refused : Addr
  fd__law_refused : FuncData
  F__law_refused : Fun K "_law_refused" "_law_refused" s__law_refused f__law_refused fd__law_refused
  b__law_refused : Binds K fd__law_refused ["_law_deed", "_law_value"] []
  g__law_refused : mg "_law_refused" = some (.ref f__law_refused)
  f__law_size : Addr
  fd__law_size : FuncData
  F__law_size : Fun K "_law_size" "_law_size" s__law_size f__law_size fd__law_size
  b__law_size : Binds K fd__law_size ["_law_pen", "_law_most"] []
  g__law_size : mg "_law_size" = some (.ref f__law_size)
  f__law_house : Addr
  fd__law_house : FuncData
  F__law_house : Fun K "_law_house" "_law_house" s__law_house f__law_house fd__law_house
  b__law_house : Binds K fd__law_house ["_law_parts", "_law_cell"] []
  g__law_house : mg "_law_house" = some (.ref f__law_house)
  f__law_ahead : Addr
  fd__law_ahead : FuncData
  F__law_ahead : Fun K "_law_ahead" "_law_ahead" s__law_ahead f__law_ahead fd__law_ahead
  b__law_ahead : Binds K fd__law_ahead ["_law_parts", "_law_house_here", "_law_bound"] []
  g__law_ahead : mg "_law_ahead" = some (.ref f__law_ahead)
  f__law_count : Addr
  fd__law_count : FuncData
  F__law_count : Fun K "_law_count" "_law_count" s__law_count f__law_count fd__law_count
  b__law_count : Binds K fd__law_count ["_law_parts", "_law_house_here", "_law_many"] []
  g__law_count : mg "_law_count" = some (.ref f__law_count)
  f__law_numbers : Addr
  fd__law_numbers : FuncData
  F__law_numbers : Fun K "_law_numbers" "_law_numbers" s__law_numbers f__law_numbers fd__law_numbers
  b__law_numbers : Binds K fd__law_numbers ["_law_pen", "_law_parts"] []
  g__law_numbers : mg "_law_numbers" = some (.ref f__law_numbers)
  f__law_counts_right : Addr
  fd__law_counts_right : FuncData
  F__law_counts_right : Fun K "_law_counts_right" "_law_counts_right" s__law_counts_right f__law_counts_right fd__law_counts_right
  b__law_counts_right : Binds K fd__law_counts_right ["_law_deal", "_law_parts", "_law_house_here", "_law_many"] []
  g__law_counts_right : mg "_law_counts_right" = some (.ref f__law_counts_right)
  f__law_windows_right : Addr
  fd__law_windows_right : FuncData
  F__law_windows_right : Fun K "_law_windows_right" "_law_windows_right" s__law_windows_right f__law_windows_right fd__law_windows_right
  b__law_windows_right : Binds K fd__law_windows_right ["_law_pen", "_law_deal", "_law_parts"] []
  g__law_windows_right : mg "_law_windows_right" = some (.ref f__law_windows_right)
  f__law_equal_right : Addr
  fd__law_equal_right : FuncData
  F__law_equal_right : Fun K "_law_equal_right" "_law_equal_right" s__law_equal_right f__law_equal_right fd__law_equal_right
  b__law_equal_right : Binds K fd__law_equal_right ["_law_pen"] []
  g__law_equal_right : mg "_law_equal_right" = some (.ref f__law_equal_right)
  f__law_refusals : Addr
  fd__law_refusals : FuncData
  F__law_refusals : Fun K "_law_refusals" "_law_refusals" s__law_refusals f__law_refusals fd__law_refusals
  b__law_refusals : Binds K fd__law_refusals ["_law_pen", "_law_deal", "_law_houses"] []
  g__law_refusals : mg "_law_refusals" = some (.ref f__law_refusals)
  f_law : Addr
  fd_law : FuncData
  F_law : Fun K "law" "law" s_law f_law fd_law
  b_law : Binds K fd_law ["_law_script"] []
  g_law : mg "law" = some (.ref f_law)
  c__law_refusals : Addr
  P__law_refusals : Addr
  FC__law_refusals : ∃ oc od kV doc pm an ct osl, fd__law_refusals = PySem.W.fnOf "_law_refusals" "_law_refusals" (defArgs s__law_refusals) (defBody s__law_refusals) (defScope s__law_refusals) .none kV doc pm an (.ref c__law_refusals) ct ∧ K.lookup f__law_refusals = some ⟨oc, od, .func (PySem.W.fnOf "_law_refusals" "_law_refusals" (defArgs s__law_refusals) (defBody s__law_refusals) (defScope s__law_refusals) .none kV doc pm an (.ref c__law_refusals) ct), osl⟩ ∧ PySem.W.codeIn K (.ref c__law_refusals) "_law_refusals" = true
  z_all : mg "all" = none
  z_bool : mg "bool" = none
  z_int : mg "int" = none
  z_isinstance : mg "isinstance" = none
  z_len : mg "len" = none
  z_list : mg "list" = none
  z_max : mg "max" = none
  z_min : mg "min" = none
  z_range : mg "range" = none
  z_sum : mg "sum" = none
  ty_Window : ∀ (H : Hp) (a dx : Addr) (fs : List (Str × V)), H a = some (.ins C_Window dx fs) → TyOf K H (.ref a) (.ref C_Window)
  ki_Window : PySem.W.kitOne K (.ref C_Window) (.ref C_Window) = some true
  ne_Window : PySem.W.findIn K (.ref C_Window) "__ne__" = some (some (.builtin "object.__ne__"))
  mo_Window : PySem.W.mroIn K C_Window (.type "object") = some true
  ty_Deal : ∀ (H : Hp) (a dx : Addr) (fs : List (Str × V)), H a = some (.ins C_Deal dx fs) → TyOf K H (.ref a) (.ref C_Deal)
  ki_Deal : PySem.W.kitOne K (.ref C_Deal) (.ref C_Deal) = some true
  ne_Deal : PySem.W.findIn K (.ref C_Deal) "__ne__" = some (some (.builtin "object.__ne__"))
  mo_Deal : PySem.W.mroIn K C_Deal (.type "object") = some true
  nf_tup : PySem.W.notFirst K C_Deal (.type "tuple") = true
  nf_win : PySem.W.notFirst K C_Deal (.ref C_Window) = true
  kd_tup : PySem.W.kitOne K (.type "tuple") (.ref C_Deal) = some false
  kd_win : PySem.W.kitOne K (.ref C_Window) (.ref C_Deal) = some false
  kd_int : PySem.W.kitOne K (.ref C_Deal) (.type "int") = some false
  kd_bool : PySem.W.kitOne K (.ref C_Deal) (.type "bool") = some false
end K17
namespace K17
open PySem L2 DS
set_option pp.maxSteps 1200
local macro_rules | `(tactic| walk_at "c") => `(tactic| first
  | (dsimp only; omega)
  | omega
  | (show CMulA _ _; first | exact CMulA.s1 (by omega) (by omega) | exact CMulA.s2 (by omega) (by omega))
  | (show CDivW _ _; first | exact ⟨by omega, by assumption⟩ | exact ⟨by omega, by decide⟩)
  | (show CPow _ _; exact ⟨by decide, by decide, by decide⟩)
  | assumption)
local macro_rules | `(tactic| walk_at "get") => `(tactic| first
  | assumption
  | (refine (by assumption : Same _ _) _ _ ?_; walk_at "get")
  | (refine (by assumption : Keep _ _) _ _ ?_ rfl; walk_at "get"))
local macro_rules | `(tactic| walk_at "pen") => `(tactic| first
  | assumption
  | (refine Pen.same (by assumption) ?_; walk_at "pen")
  | (refine Pen.mono ?_ (by omega); assumption))
local macro_rules | `(tactic| walk_at "keep") => `(tactic| first
  | assumption
  | exact Keep.refl _
  | exact Keep.of (by assumption)
  | (refine Keep.trans ?_ (by assumption); walk_at "keep")
  | (refine Keep.same ?_ (by assumption); walk_at "keep"))
local macro_rules | `(tactic| walk_at "same") => `(tactic| first
  | assumption
  | exact Same.refl _
  | (refine Same.trans ?_ (by assumption); walk_at "same"))
local macro_rules | `(tactic| walk_at "s0") => `(tactic| first
  | with_reducible refine w_seq ?_
  | with_reducible refine w_asg ?_
  | with_reducible refine w_name ?_
  | ((with_reducible apply w_var); exact rfl)
  | with_reducible refine w_c ?_
  | with_reducible refine w_op ?_
  | with_reducible refine w_I0 ?_
  | ((with_reducible apply w_I); (walk_at "c"))
  | with_reducible refine w_cons ?_
  | with_reducible refine w_nil ?_
  | with_reducible refine w_cb ?_
  | with_reducible refine w_int1 ?_
  | with_reducible refine w_int1b ?_
  | with_reducible refine w_call ?_
  | with_reducible refine w_test ?_
  | with_reducible refine w_k ?_
  | with_reducible refine w_ret ?_
  | with_reducible refine w_drop ?_
  | with_reducible refine w_not ?_
  | with_reducible refine w_and ?_
  | with_reducible refine w_or ?_
  | with_reducible refine w_andV ?_
  | with_reducible refine w_orV ?_
  | with_reducible refine w_notV ?_
  | with_reducible refine w_if ?_
  | with_reducible refine w_B ?_
  | with_reducible refine w_un ?_
  | with_reducible refine w_U ?_
  | (with_reducible refine w_tup ?_; intro _ _)
  | (with_reducible refine w_lst ?_; intro _ _)
  | with_reducible refine w_dget ?_
  | with_reducible refine w_dput ?_
  | with_reducible refine w_fld ?_
  | with_reducible refine w_meth ?_
  | (with_reducible refine w_make ?_; intro _ _)
  | with_reducible refine w_par ?_
  | with_reducible refine w_par3 ?_
  | with_reducible refine w_two ?_
  | with_reducible refine w_three ?_
  | with_reducible refine w_one ?_
  | with_reducible refine w_chain ?_
  | with_reducible refine w_next ?_
  | with_reducible refine w_brk ?_
  | with_reducible refine w_cont ?_
  | with_reducible refine w_retN ?_
  | with_reducible refine w_gcons ?_
  | with_reducible refine w_gnil ?_
  | ((with_reducible refine w_eq ?_ ?_); exact rfl)
  | ((with_reducible refine w_ne ?_ ?_); exact rfl)
  | with_reducible refine w_part ?_
  | with_reducible refine w_lc ?_
  | with_reducible refine w_bm ?_
  | with_reducible refine w_lcS ?_
  | with_reducible refine w_yes ?_
  | with_reducible refine w_iTup ?_
  | with_reducible refine w_iList ?_
  | with_reducible refine w_unT ?_
  | with_reducible refine w_unT0 ?_
  | with_reducible refine w_unL ?_
  | with_reducible refine w_unL0 ?_
  | ((with_reducible apply w_gtup); (walk_at "get"); (exact rfl))
  | with_reducible refine w_gfld ?_
  | with_reducible refine w_sfld ?_
  | with_reducible refine w_risi ?_
  | with_reducible refine w_i ?_
  | with_reducible refine w_pnil ?_
  | with_reducible refine w_pcons ?_
  | with_reducible refine w_sl ?_
  | with_reducible refine w_nopart ?_
  | with_reducible refine w_for ?_
  | with_reducible refine w_while ?_
  | with_reducible refine w_irng1 ?_
  | with_reducible refine w_irng2 ?_
  | with_reducible refine And.intro (rfl : V.non = V.non) ?_)
local macro_rules | `(tactic| walk_at "s") => `(tactic| first | walk_at "s0" | with_reducible refine w_ifs ?_)
local macro_rules | `(tactic| walk_at "go") => `(tactic| repeat (walk_at "s"))
local macro_rules | `(tactic| walk_at "gi") => `(tactic| repeat (walk_at "s0"))

def pen (c : Addr) (a l : Int) : List (Key × V) := [(Sum.inr "cells", .ref c), (Sum.inr "count", .int a), (Sum.inr "left", .int l)]
theorem pen_cells (c : Addr) (a l : Int) : valV (pen c a l) (Sum.inr "cells") = some (.ref c) := by unfold pen valV; simp
theorem pen_at (c : Addr) (a l : Int) : valV (pen c a l) (Sum.inr "count") = some (.int a) := by
  have h : ¬ (("cells" : Str) = "count") := by decide +kernel
  unfold pen valV; simp [h]
theorem pen_left (c : Addr) (a l : Int) : valV (pen c a l) (Sum.inr "left") = some (.int l) := by
  have h : ¬ (("cells" : Str) = "left") := by decide +kernel
  have h2 : ¬ (("count" : Str) = "left") := by decide +kernel
  unfold pen valV; simp [h, h2]
theorem pen_put_at (c : Addr) (a l b : Int) : putK (pen c a l) (Sum.inr "count") (.int b) = pen c b l := by
  have h : ¬ (("cells" : Str) = "count") := by decide +kernel
  have h2 : ¬ (("left" : Str) = "count") := by decide +kernel
  unfold pen putK; simp [h, h2]
theorem pen_put_left (c : Addr) (a l b : Int) : putK (pen c a l) (Sum.inr "left") (.int b) = pen c a b := by
  have h : ¬ (("cells" : Str) = "left") := by decide +kernel
  have h2 : ¬ (("count" : Str) = "left") := by decide +kernel
  unfold pen putK; simp [h, h2]
theorem pen_len (c : Addr) (a l : Int) : (pen c a l).length < sizeLine := Nat.lt_of_lt_of_le (show 3 < 4 by decide) (by decide)
/-- a pen at d, at most n cells begun -/
structure Pen (H : Hp) (d : Addr) (n : Nat) : Prop where
  ex : ∃ (c : Addr) (ns : List Int) (a l : Int), H d = some (.dK (pen c a l)) ∧ H c = some (.lst (ns.map V.int)) ∧ 0 ≤ a ∧ a ≤ n ∧ 0 ≤ l ∧ ns.length ≤ 63
theorem Pen.same {H H' : Hp} {d : Addr} {n : Nat} (s : Same H H') (p : Pen H d n) : Pen H' d n := by
  obtain ⟨c, ns, a, l, h1, h2, h⟩ := p.ex
  exact ⟨c, ns, a, l, s _ _ h1, s _ _ h2, h⟩
theorem Pen.extN {H H' : Hp} {d : Addr} {n : Nat} (s : LamX.ExtN H H') (p : Pen H d n) : Pen H' d n := by
  obtain ⟨c, ns, a, l, h1, h2, h⟩ := p.ex
  exact ⟨c, ns, a, l, s _ _ h1 (fun _ z => nomatch z), s _ _ h2 (fun _ z => nomatch z), h⟩
theorem Pen.updL {H : Hp} {d l t : Addr} {n : Nat} {xs ys : List V} (p : Pen H d n) (e : H l = some (.lst (.ref t :: xs))) : Pen (upd H l (.lst ys)) d n := by
  obtain ⟨c, ns, a, k, h1, h2, h⟩ := p.ex
  refine ⟨c, ns, a, k, ?_, ?_, h⟩
  · rw [upd_ne (ne_of h1 e (by intro z; cases z))]
    exact h1
  · rw [upd_ne (ne_of h2 e (by intro z; cases ns <;> cases z))]
    exact h2
theorem Pen.hid {H H' : Hp} {d : Addr} {n : Nat} (s : Hid H H') (p : Pen H d n) : Pen H' d n := by
  obtain ⟨c, ns, a, l, h1, h2, h⟩ := p.ex
  exact ⟨c, ns, a, l, s _ _ h1 rfl, s _ _ h2 rfl, h⟩
theorem Pen.mono {H : Hp} {d : Addr} {n m : Nat} (p : Pen H d n) (h : n ≤ m) : Pen H d m := by
  obtain ⟨c, ns, a, l, h1, h2, h3, h4, h5⟩ := p.ex
  exact ⟨c, ns, a, l, h1, h2, h3, by omega, h5⟩
section
variable {P : Program} {w : World} {K : PySem.W.Frag} {mg : Str → Option Value} {base : Heap}
/-- draw: a number below many -/
def sp_drawB : Sp := fun vs H Q _ => ∃ (d : Addr) (many : Int) (n : Nat), vs = [.ref d, .int many] ∧ Pen H d n ∧ n ≤ 1000000 ∧ 0 < many ∧ many < 2 ^ 200 ∧
  ∀ (r : Int) (H' : Hp), 0 ≤ r → r < many → Pen H' d (n + 1) → But d H H' → Q (.int r) H'
theorem ok__law_drawB (T : Tx w K mg) : FnOk P w K mg base CX0 1 T.f__law_draw T.fd__law_draw ["_law_pen", "_law_span"] sp_drawB := by
  refine T.F__law_draw.ok sc__law_draw (fun vs H Q E h => ?_) (fun cdv A outer s H vs Q E hr h => ?_)
  · obtain ⟨d, many, n, rfl, _⟩ := h
    rfl
  · obtain ⟨d, many, n, rfl, hp, hn, h0, hb, q⟩ := h
    have hu := hu_of hr
    have hu64 := hu64_of hr
    obtain ⟨c, ns, a, l, h1, h2, ha0, han, hl0, hlen⟩ := hp.ex
    have hlog : many.natAbs.log2 < 9000 := log_lt h0 hb (by decide)
    refine ⟨_, (pss_cons (ps_if (pt_cmpR op_ge (pe_dget hu (pv 0) pe_str (fun _ _ => rfl)) (pv 1) (nomark _)) (pss_cons (ps_set (i := 2) sc__law_draw.nd rfl (Or.inl rfl) (pe_op op_mod (pe_callTy call_int1 (by rfl) T.z_int (by decide +kernel) (pa_cons (pe_dget hu (pv 0) pe_str (fun _ _ => rfl)) pa_nil)) (pv 1)))
      (pss_cons (ps_dput hu (pv 0) pe_str (pe_op op_fdivW (pe_dget hu (pv 0) pe_str (fun _ _ => rfl)) (pv 1)) rfl)
      (pss_one (ps_ret (pv 2))))) pss_nil)
      (pss_cons (ps_set (i := 3) sc__law_draw.nd rfl (Or.inl rfl) (pe_dget hu (pv 0) pe_str (fun _ _ => rfl)))
      (pss_cons (ps_dput hu (pv 0) pe_str (pe_op op_add (pv 3) pe_int) rfl)
      (pss_cons (ps_set (i := 4) sc__law_draw.nd rfl (Or.inl rfl) (pe_op op_add (pe_op op_mulA pe_int (pv 3)) pe_int))
      (pss_cons (ps_if (pt_cmpR (op_neD hu64) (pe_dget hu (pv 0) pe_str (fun _ _ => rfl)) (pe_lst pa_nil) (nomark _)) (pss_one (ps_set (i := 4) sc__law_draw.nd rfl (Or.inl rfl) (pe_ix ix_list (pe_dget hu (pv 0) pe_str (fun _ _ => rfl)) (pe_op op_mod (pe_callTy call_int1 (by rfl) T.z_int (by decide +kernel) (pa_cons (pv 3) pa_nil)) (pe_callB call_len_seq (by rfl) T.z_len PySem.boot_len (pa_cons (pe_dget hu (pv 0) pe_str (fun _ _ => rfl)) pa_nil))) (fun _ _ => rfl)))) pss_nil)
      (pss_cons (ps_if (PW.pt (pw_and (pt_cmpR op_lt (pv 3) (pe_callB call_len_seq (by rfl) T.z_len PySem.boot_len (pa_cons (pe_dget hu (pv 0) pe_str (fun _ _ => rfl)) pa_nil)) (nomark _)) (pw_and1 (pt_cmpR op_ge (pv 4) (pe_op op_pow pe_int pe_int) (nomark _))))) (pss_cons (ps_dput hu (pv 0) pe_str (pe_op op_fdivW (pe_op op_sub (pv 4) (pe_op op_pow pe_int pe_int)) (pv 1)) rfl)
      (pss_one (ps_ret (pe_op op_mod (pe_callTy call_int1 (by rfl) T.z_int (by decide +kernel) (pa_cons (pe_op op_sub (pv 4) (pe_op op_pow pe_int pe_int)) pa_nil)) (pv 1))))) pss_nil)
      (pss_cons (ps_set (i := 5) sc__law_draw.nd rfl (Or.inl rfl) (pe_op op_add (pe_op op_mulA (pe_op op_mod (pe_callTy call_int1 (by rfl) T.z_int (by decide +kernel) (pa_cons (pv 4) pa_nil)) pe_int) pe_int) (pe_op op_mulA (pe_op op_mulA pe_int (pv 3)) (pv 3))))
      (pss_cons (ps_set (i := 6) sc__law_draw.nd rfl (Or.inl rfl) (pe_op op_mod (pe_callTy call_int1 (by rfl) T.z_int (by decide +kernel) (pa_cons (pe_op op_add (pe_op op_add (pv 5) (pe_op op_mulA pe_int (pv 3))) pe_int) pa_nil)) pe_int))
      (pss_cons (ps_set (i := 6) sc__law_draw.nd rfl (Or.inl rfl) (pe_op op_mod (pe_callTy call_int1 (by rfl) T.z_int (by decide +kernel) (pa_cons (pe_op op_mulA (pv 6) (pe_op op_add (pv 6) pe_int)) pa_nil)) pe_int))
      (pss_one (ps_ret (pe_op op_mod (pe_callTy call_int1 (by rfl) T.z_int (by decide +kernel) (pa_cons (pe_op op_fdivW (pe_op op_mod (pe_callTy call_int1 (by rfl) T.z_int (by decide +kernel) (pa_cons (pe_op op_add (pe_op op_mulA (pv 6) (pv 6)) (pe_op op_mulA pe_int (pv 6))) pa_nil)) pe_int) pe_int) pa_nil)) (pv 1))))))))))))), ?_⟩
    walk_at "go"
    refine w_dg h1 (pen_left _ _ _) ?_
    walk_at "go"
    refine w_ite (fun hc => ?_) (fun hc => ?_)
    · walk_at "go"
      refine w_dg h1 (pen_left _ _ _) ?_
      walk_at "go"
      refine w_dg h1 (pen_left _ _ _) ?_
      walk_at "go"
      refine w_dp h1 (pen_len _ _ _) ?_
      rw [pen_put_left]
      walk_at "go"
      refine q _ _ (Int.emod_nonneg _ (by omega)) (Int.emod_lt_of_pos _ h0) ⟨c, ns, a, l / many, upd_same, ?_, ha0, by omega, Int.ediv_nonneg hl0 (by omega), hlen⟩ But.upd
      rw [upd_ne (ne_of h2 h1 (by intro z; cases z))]
      exact h2
    · walk_at "go"
      refine w_dg h1 (pen_at _ _ _) ?_
      walk_at "go"
      refine w_dp h1 (pen_len _ _ _) ?_
      rw [pen_put_at]
      obtain ⟨H1, k1, e1, e2, z1⟩ : ∃ H1, But d H H1 ∧ H1 d = some (.dK (pen c (a + 1) l)) ∧ H1 c = some (.lst (ns.map V.int)) ∧ upd H d (.dK (pen c (a + 1) l)) = H1 := ⟨_, But.upd, upd_same, by rw [upd_ne (ne_of h2 h1 (by intro z; cases z))]; exact h2, rfl⟩
      rw [z1]
      walk_at "go"
      refine w_dg e1 (pen_cells _ _ _) ?_
      walk_at "go"
      refine w_new (by assumption) (Nat.zero_le _) (fun p H2 np s2 hp => ?_)
      walk_at "go"
      refine w_neNil (s2 _ _ e2) hp ?_
      walk_at "go"
      have f1 := s2 _ _ e1
      have f2 := s2 _ _ e2
      have kk : But d H H2 := k1.same s2
      refine w_iteB (fun hc => ?yes) (fun hc => ?no)
      case' yes =>
        walk_at "go"
        refine w_dg f1 (pen_cells _ _ _) ?_
        walk_at "go"
        refine w_dg f1 (pen_cells _ _ _) ?_
        walk_at "go"
        refine w_lenL f2 ?_
        have h63 : 0 < ((ns.map V.int).length : Int) := by
          rw [List.length_map]
          cases ns with
          | nil => cases hc
          | cons x r => exact Int.natCast_pos.mpr (Nat.succ_pos _)
        walk_at "go"
        obtain ⟨z, hz⟩ := at_ints (ns := ns) (i := a % ((ns.map V.int).length : Int)) (Int.emod_nonneg _ (by omega)) (by
          have := Int.emod_lt_of_pos a h63
          rw [List.length_map] at this ⊢
          exact this)
        refine w_ixL f2 hz ?_
      all_goals
        walk_at "go"
        refine w_dg f1 (pen_cells _ _ _) ?_
        walk_at "go"
        refine w_lenL f2 ?_
        walk_at "go"
        refine w_ite (fun hd => ?_) (fun hd => ?_)
        · walk_at "go"
          refine w_ite (fun he => ?_) (fun he => ?_)
          · walk_at "go"
            refine w_dp f1 (pen_len _ _ _) ?_
            rw [pen_put_left]
            walk_at "go"
            refine q _ _ (Int.emod_nonneg _ (by omega)) (Int.emod_lt_of_pos _ h0) ⟨c, ns, a + 1, _, upd_same, ?_, by omega, by omega, Int.ediv_nonneg ?_ (by omega), hlen⟩ (kk.trans But.upd)
            · rw [upd_ne (ne_of f2 f1 (by intro z; cases z))]
              exact f2
            · have e18 : (10 : Int) ^ (18 : Int).toNat = 1000000000000000000 := by decide
              rw [e18] at he ⊢
              omega
          · walk_at "go"
            exact q _ _ (Int.emod_nonneg _ (by omega)) (Int.emod_lt_of_pos _ h0) ⟨c, ns, a + 1, l, f1, f2, by omega, by omega, hl0, hlen⟩ kk
        · refine iteF ?_
          walk_at "go"
          exact q _ _ (Int.emod_nonneg _ (by omega)) (Int.emod_lt_of_pos _ h0) ⟨c, ns, a + 1, l, f1, f2, by omega, by omega, hl0, hlen⟩ kk
def sp_draw : Sp := fun vs H Q _ => ∃ (d : Addr) (many : Int) (n : Nat), vs = [.ref d, .int many] ∧ Pen H d n ∧ n ≤ 1000000 ∧ 0 < many ∧ many < 2 ^ 200 ∧
  ∀ (r : Int) (H' : Hp), 0 ≤ r → r < many → Pen H' d (n + 1) → Keep H H' → Q (.int r) H'
theorem ok__law_draw (T : Tx w K mg) : FnOk P w K mg base CX0 1 T.f__law_draw T.fd__law_draw ["_law_pen", "_law_span"] sp_draw :=
  (ok__law_drawB T).imp fun vs H Q E ⟨d, many, n, e, hp, hn, h0, h1, q⟩ => ⟨d, many, n, e, hp, hn, h0, h1, fun r H' a b p k => by
    obtain ⟨c, ns, aa, l, e1, _⟩ := hp.ex
    exact q r H' a b p (k.keep e1)⟩
end
end K17
namespace K17
open PySem L2 DS
set_option pp.maxSteps 1200
local macro_rules | `(tactic| walk_at "c") => `(tactic| first
  | (dsimp only; omega)
  | omega
  | (show CMulA _ _; first | exact CMulA.s1 (by omega) (by omega) | exact CMulA.s2 (by omega) (by omega))
  | (show CDivW _ _; first | exact ⟨by omega, by assumption⟩ | exact ⟨by omega, by decide⟩)
  | (show CPow _ _; exact ⟨by decide, by decide, by decide⟩)
  | assumption)
local macro_rules | `(tactic| walk_at "get") => `(tactic| first
  | assumption
  | (refine (by assumption : Same _ _) _ _ ?_; walk_at "get")
  | (refine (by assumption : Keep _ _) _ _ ?_ rfl; walk_at "get"))
local macro_rules | `(tactic| walk_at "pen") => `(tactic| first
  | assumption
  | (refine Pen.same (by assumption) ?_; walk_at "pen")
  | (refine Pen.mono ?_ (by omega); assumption))
local macro_rules | `(tactic| walk_at "keep") => `(tactic| first
  | assumption
  | exact Keep.refl _
  | exact Keep.of (by assumption)
  | (refine Keep.trans ?_ (by assumption); walk_at "keep")
  | (refine Keep.same ?_ (by assumption); walk_at "keep"))
local macro_rules | `(tactic| walk_at "same") => `(tactic| first
  | assumption
  | exact Same.refl _
  | (refine Same.trans ?_ (by assumption); walk_at "same"))
local macro_rules | `(tactic| walk_at "s0") => `(tactic| first
  | with_reducible refine w_seq ?_
  | with_reducible refine w_asg ?_
  | with_reducible refine w_name ?_
  | ((with_reducible apply w_var); exact rfl)
  | with_reducible refine w_c ?_
  | with_reducible refine w_op ?_
  | with_reducible refine w_I0 ?_
  | ((with_reducible apply w_I); (walk_at "c"))
  | with_reducible refine w_cons ?_
  | with_reducible refine w_nil ?_
  | with_reducible refine w_cb ?_
  | with_reducible refine w_int1 ?_
  | with_reducible refine w_int1b ?_
  | with_reducible refine w_call ?_
  | with_reducible refine w_test ?_
  | with_reducible refine w_k ?_
  | with_reducible refine w_ret ?_
  | with_reducible refine w_drop ?_
  | with_reducible refine w_not ?_
  | with_reducible refine w_and ?_
  | with_reducible refine w_or ?_
  | with_reducible refine w_andV ?_
  | with_reducible refine w_orV ?_
  | with_reducible refine w_notV ?_
  | with_reducible refine w_if ?_
  | with_reducible refine w_B ?_
  | with_reducible refine w_un ?_
  | with_reducible refine w_U ?_
  | (with_reducible refine w_tup ?_; intro _ _)
  | (with_reducible refine w_lst ?_; intro _ _)
  | with_reducible refine w_dget ?_
  | with_reducible refine w_dput ?_
  | with_reducible refine w_fld ?_
  | with_reducible refine w_meth ?_
  | (with_reducible refine w_make ?_; intro _ _)
  | with_reducible refine w_par ?_
  | with_reducible refine w_par3 ?_
  | with_reducible refine w_two ?_
  | with_reducible refine w_three ?_
  | with_reducible refine w_one ?_
  | with_reducible refine w_chain ?_
  | with_reducible refine w_next ?_
  | with_reducible refine w_brk ?_
  | with_reducible refine w_cont ?_
  | with_reducible refine w_retN ?_
  | with_reducible refine w_gcons ?_
  | with_reducible refine w_gnil ?_
  | ((with_reducible refine w_eq ?_ ?_); exact rfl)
  | ((with_reducible refine w_ne ?_ ?_); exact rfl)
  | with_reducible refine w_part ?_
  | with_reducible refine w_lc ?_
  | with_reducible refine w_bm ?_
  | with_reducible refine w_lcS ?_
  | with_reducible refine w_yes ?_
  | with_reducible refine w_iTup ?_
  | with_reducible refine w_iList ?_
  | with_reducible refine w_unT ?_
  | with_reducible refine w_unT0 ?_
  | with_reducible refine w_unL ?_
  | with_reducible refine w_unL0 ?_
  | ((with_reducible apply w_gtup); (walk_at "get"); (exact rfl))
  | with_reducible refine w_gfld ?_
  | with_reducible refine w_sfld ?_
  | with_reducible refine w_risi ?_
  | with_reducible refine w_i ?_
  | with_reducible refine w_pnil ?_
  | with_reducible refine w_pcons ?_
  | with_reducible refine w_sl ?_
  | with_reducible refine w_nopart ?_
  | with_reducible refine w_for ?_
  | with_reducible refine w_while ?_
  | with_reducible refine w_irng1 ?_
  | with_reducible refine w_irng2 ?_
  | with_reducible refine And.intro (rfl : V.non = V.non) ?_)
local macro_rules | `(tactic| walk_at "s") => `(tactic| first | walk_at "s0" | with_reducible refine w_ifs ?_)
local macro_rules | `(tactic| walk_at "go") => `(tactic| repeat (walk_at "s"))
local macro_rules | `(tactic| walk_at "gi") => `(tactic| repeat (walk_at "s0"))

section
variable {P : Program} {w : World} {K : PySem.W.Frag} {mg : Str → Option Value} {base : Heap}
def sp_pickB : Sp := fun vs H Q _ => ∃ (d l : Addr) (xs : List V) (n : Nat), vs = [.ref d, .ref l] ∧ Pen H d n ∧ n ≤ 1000000 ∧ H l = some (.lst xs) ∧ 0 < xs.length ∧ xs.length ≤ 1000 ∧
  ∀ (v : V) (H' : Hp), v ∈ xs → Pen H' d (n + 1) → But d H H' → Q v H'
theorem ok__law_pickB (T : Tx w K mg) : FnOk P w K mg base CX0 2 T.f__law_pick T.fd__law_pick ["_law_pen", "_law_some"] sp_pickB := by
  refine T.F__law_pick.ok sc__law_pick (fun vs H Q E h => ?_) (fun cdv A outer s H vs Q E hr h => ?_)
  · obtain ⟨d, l, xs, n, rfl, _⟩ := h
    rfl
  · obtain ⟨d, l, xs, n, rfl, hp, hn, hl, h0, h1, q⟩ := h
    have hu := hu_of hr
    have hne : l ≠ d := by
      obtain ⟨c, ns, aa, ll, e1, _⟩ := hp.ex
      exact ne_of hl e1 (by intro z; cases z)
    have hu64 := hu64_of hr
    refine ⟨_, (pss_one (ps_ret (pe_ix ix_list (pv 1) (pe_call (ok__law_drawB T) (hr.mono (by decide)) rfl T.g__law_draw T.F__law_draw.kp T.b__law_draw .nil pass0 (pa_cons (pv 0) (pa_cons (pe_callB call_len_seq (by rfl) T.z_len PySem.boot_len (pa_cons (pv 1) pa_nil)) pa_nil))) (fun _ _ => rfl)))), ?_⟩
    walk_at "go"
    refine w_lenL hl ?_
    walk_at "go"
    refine ⟨d, _, n, rfl, hp, hn, by omega, Int.lt_of_lt_of_le (show ((xs.length : Nat) : Int) < 1001 by omega) (by decide), fun r H1 r0 r1 p1 k1 => ?_⟩
    obtain ⟨v, hv, hm⟩ := at_any r0 r1
    refine w_ixL (k1 _ _ hne hl) hv ?_
    walk_at "go"
    exact q v H1 hm p1 k1
def sp_pick : Sp := fun vs H Q _ => ∃ (d l : Addr) (xs : List V) (n : Nat), vs = [.ref d, .ref l] ∧ Pen H d n ∧ n ≤ 1000000 ∧ H l = some (.lst xs) ∧ 0 < xs.length ∧ xs.length ≤ 1000 ∧
  ∀ (v : V) (H' : Hp), v ∈ xs → Pen H' d (n + 1) → Keep H H' → Q v H'
theorem ok__law_pick (T : Tx w K mg) : FnOk P w K mg base CX0 2 T.f__law_pick T.fd__law_pick ["_law_pen", "_law_some"] sp_pick :=
  (ok__law_pickB T).imp fun vs H Q E ⟨d, l, xs, n, e, hp, hn, hl, h0, h1, q⟩ => ⟨d, l, xs, n, e, hp, hn, hl, h0, h1, fun v H' a p k => by
    obtain ⟨c, ns, aa, ll, e1, _⟩ := hp.ex
    exact q v H' a p (k.keep e1)⟩
/-- ten to the power of a number -/
def sp_ten : Sp := fun vs H Q _ => ∃ n : Nat, vs = [.int n] ∧ n ≤ 600 ∧ Q (.int (10 ^ n)) H
theorem ok__law_ten (T : Tx w K mg) : FnOk P w K mg base CX0 1 T.f__law_ten T.fd__law_ten ["_law_number"] sp_ten := by
  refine T.F__law_ten.ok sc__law_ten (fun vs H Q E h => ?_) (fun cdv A outer s H vs Q E hr h => ?_)
  · obtain ⟨n, rfl, _⟩ := h
    rfl
  · obtain ⟨n, rfl, hn, q⟩ := h
    obtain ⟨t1, t2, t3⟩ := ten_text hn
    refine ⟨_, (pss_one (ps_ret (pe_callTy call_int_str (by rfl) T.z_int (by decide +kernel) (pa_cons (pe_op op_add_str pe_str (pe_op op_mulS pe_str (pv 0))) pa_nil)))), ?_⟩
    walk_at "go"
    refine ⟨_, _, rfl, rfl, mulok_ten hn, ?_⟩
    walk_at "go"
    refine ⟨_, _, rfl, rfl, t3, ?_⟩
    walk_at "go"
    exact ⟨_, _, rfl, t1, t2, q⟩
def sp_begin (K : PySem.W.Frag) : Sp := fun vs H Q _ => ∃ (a : Addr) (ns : List Int), vs = [.ref a] ∧ SqL K H a (ns.map V.int) ∧ ns.length ≤ 63 ∧ ∀ p H', Pen H' p 0 → Same H H' → Q (.ref p) H'
theorem ok__law_begin (T : Tx w K mg) : FnOk P w K mg base CX0 1 T.f__law_begin T.fd__law_begin ["_law_script"] (sp_begin K) := by
  refine T.F__law_begin.ok sc__law_begin (fun vs H Q E h => ?_) (fun cdv A outer s H vs Q E hr h => ?_)
  · obtain ⟨a, ns, rfl, _⟩ := h
    rfl
  · obtain ⟨a, ns, rfl, hS, hl, q⟩ := h
    have hu := hu_of hr
    have hu64 := hu64_of hr
    refine ⟨_, (pss_one (ps_ret (pe_disp (pps_cons pe_str (pe_callTy call_list_of (by rfl) T.z_list (by decide +kernel) (pa_cons (pe_slice sl_list (pv 0) po_none (po_some pe_int)) pa_nil)) (pps_cons pe_str pe_int (pps_cons pe_str pe_int pps_nil))) rfl rfl (by simp) (by decide)))), ?_⟩
    walk_at "go"
    refine w_disp (fun Q' eQ p H1 np s1 hp => ?_)
    walk_at "go"
    refine w_slL (s1.seq hS) (fun l2 H2 n2 s2 e2 => ?_)
    walk_at "go"
    obtain ⟨ms, em, lm⟩ := cut_ints ns none (some 63)
    rw [em] at e2
    refine ⟨l2, _, rfl, .inl (.inl (.inl e2)), fun l3 n3 => ?_⟩
    have s3 := same_upd (o := .lst (ms.map V.int)) n3
    have e3 : upd H2 l3 (.lst (ms.map V.int)) l3 = some (.lst (ms.map V.int)) := upd_same
    walk_at "go"
    generalize upd H2 l3 (.lst (ms.map V.int)) = H3 at *
    refine w_dend [(Sum.inr "cells", .ref l3), (Sum.inr "count", .int 0), (Sum.inr "left", .int 0)] eQ (s3 _ _ (s2 _ _ hp)) rfl (Nat.le_of_ble_eq_true rfl) (fun H4 k4 sm4 e4 => ?_)
    refine q p H4 ⟨l3, ms, 0, 0, ?_, k4 _ _ e3 rfl, Int.le_refl _, Int.le_refl _, Int.le_refl _, by omega⟩ (sm4 H ((s1.trans s2).trans s3) np)
    rw [e4]
    rfl
/-- a size of up to so many figures -/
def sp_size : Sp := fun vs H Q _ => ∃ (d : Addr) (m n : Nat), vs = [.ref d, .int m] ∧ 0 < m ∧ m ≤ 60 ∧ Pen H d n ∧ n ≤ 999900 ∧ ∀ (r : Int) (H' : Hp), 0 < r → B (4 * m + 32) r → Pen H' d (n + 6) → Keep H H' → Q (.int r) H'
theorem ok__law_size (T : Tx w K mg) : FnOk P w K mg base CX0 3 T.f__law_size T.fd__law_size ["_law_pen", "_law_most"] sp_size := by
  refine T.F__law_size.ok sc__law_size (fun vs H Q E h => ?_) (fun cdv A outer s H vs Q E hr h => ?_)
  · obtain ⟨d, m, n, rfl, _⟩ := h
    rfl
  · obtain ⟨d, m, n, rfl, m0, m1, hp, hn, q⟩ := h
    have hu := hu_of hr
    have hu64 := hu64_of hr
    refine ⟨_, (pss_cons (ps_par (i := 2) (j := 3) rfl sc__law_size.nd rfl rfl (by decide) rfl rfl (pa_cons (pe_call (ok__law_draw T) (hr.mono (by decide)) rfl T.g__law_draw T.F__law_draw.kp T.b__law_draw .nil pass0 (pa_cons (pv 0) (pa_cons (pv 1) pa_nil))) (pa_cons (pe_op op_add pe_int (pe_call (ok__law_draw T) (hr.mono (by decide)) rfl T.g__law_draw T.F__law_draw.kp T.b__law_draw .nil pass0 (pa_cons (pv 0) (pa_cons pe_int pa_nil)))) pa_nil)) rfl)
      (pss_cons (ps_set (i := 4) sc__law_size.nd rfl (Or.inl rfl) (pe_op op_add (pe_call (ok__law_ten T) (hr.mono (by decide)) rfl T.g__law_ten T.F__law_ten.kp T.b__law_ten .nil pass0 (pa_cons (pv 2) pa_nil)) (pe_op op_mulA (pe_call (ok__law_draw T) (hr.mono (by decide)) rfl T.g__law_draw T.F__law_draw.kp T.b__law_draw .nil pass0 (pa_cons (pv 0) (pa_cons (pe_op op_pow pe_int pe_int) pa_nil))) (pe_call (ok__law_ten T) (hr.mono (by decide)) rfl T.g__law_ten T.F__law_ten.kp T.b__law_ten .nil pass0 (pa_cons (pe_callB (call_max2 rfl) (by rfl) T.z_max (by decide +kernel) (pa_cons (pe_op op_sub (pv 2) pe_int) (pa_cons pe_int pa_nil))) pa_nil)))))
      (pss_one (ps_ret (pe_call (ok__law_pick T) (hr.mono (by decide)) rfl T.g__law_pick T.F__law_pick.kp T.b__law_pick .nil pass0 (pa_cons (pv 0) (pa_cons (pe_lst (pa_cons pe_int (pa_cons pe_int (pa_cons (pv 3) (pa_cons (pv 3) (pa_cons (pe_op op_add pe_int (pe_call (ok__law_draw T) (hr.mono (by decide)) rfl T.g__law_draw T.F__law_draw.kp T.b__law_draw .nil pass0 (pa_cons (pv 0) (pa_cons pe_int pa_nil)))) (pa_cons (pv 4) pa_nil))))))) pa_nil))))))), ?_⟩
    walk_at "go"
    refine ⟨d, m, n, rfl, hp, by omega, by omega, Int.lt_of_le_of_lt (show (m : Int) ≤ 60 by omega) (by decide), fun r1 H1 a1 b1 p1 k1 => ?_⟩
    obtain ⟨e, rfl⟩ := Int.eq_ofNat_of_zero_le a1
    walk_at "go"
    refine ⟨d, 6, n + 1, rfl, p1, by omega, by omega, by decide, fun r2 H2 a2 b2 p2 k2 => ?_⟩
    walk_at "go"
    refine ⟨e, rfl, by omega, ?_⟩
    walk_at "go"
    refine ⟨d, _, n + 2, rfl, p2, by omega, by decide, by decide, fun r3 H3 a3 b3 p3 k3 => ?_⟩
    walk_at "go"
    refine ⟨(e : Int) - 9, 0, rfl, ?_⟩
    have em : (if (0 : Int) > (e : Int) - 9 then (0 : Int) else (e : Int) - 9) = ((e - 9 : Nat) : Int) := by split <;> omega
    rw [em]
    walk_at "go"
    refine ⟨e - 9, rfl, by omega, ?_⟩
    have t1 : B (4 * e + 1) (10 ^ e) := B.ten e
    have t2 : B (4 * (e - 9) + 1) (10 ^ (e - 9)) := B.ten (e - 9)
    have z1 : (0 : Int) < 10 ^ e := Int.pow_pos (by decide)
    have z2 : (0 : Int) < 10 ^ (e - 9) := Int.pow_pos (by decide)
    have e9 : (10 : Int) ^ (9 : Int).toNat = 1000000000 := by decide
    rw [e9] at b3
    have t3 : B 30 r3 := B.small (by omega) (by omega)
    have t4 := t3.mul t2
    have g0 : (0 : Int) ≤ r3 * 10 ^ (e - 9) := Int.mul_nonneg a3 (Int.le_of_lt z2)
    have c1 : CMulA r3 (10 ^ (e - 9)) := t3.cmul t2 (by omega)
    have t5 : B (4 * m + 32) (10 ^ e + r3 * 10 ^ (e - 9)) := (t1.add t4).mono (by omega)
    walk_at "go"
    refine ⟨d, 99, n + 3, rfl, p3, by omega, by decide, by decide, fun r4 H4 a4 b4 p4 k4 => ?_⟩
    walk_at "go"
    refine w_new (by assumption) (Nat.le_of_ble_eq_true rfl) (fun l5 H5 n5 s5 e5 => ?_)
    walk_at "go"
    refine ⟨d, l5, _, n + 4, rfl, by walk_at "pen", by omega, e5, Nat.le_of_ble_eq_true rfl, Nat.le_of_ble_eq_true rfl, fun v6 H6 m6 p6 k6 => ?_⟩
    obtain ⟨r, rfl, r0, rB⟩ : ∃ r : Int, v6 = .int r ∧ 0 < r ∧ B (4 * m + 32) r := by
      simp only [List.mem_cons, List.not_mem_nil, or_false] at m6
      have sm : ∀ z : Int, 0 < z → z < 1000 → B (4 * m + 32) z := fun z h0 h1 => B.small (by omega) (by omega) (by omega)
      rcases m6 with h | h | h | h | h | h
      · exact ⟨_, h, by omega, sm _ (by omega) (by omega)⟩
      · exact ⟨_, h, by omega, sm _ (by omega) (by omega)⟩
      · exact ⟨_, h, by omega, sm _ (by omega) (by omega)⟩
      · exact ⟨_, h, by omega, sm _ (by omega) (by omega)⟩
      · exact ⟨_, h, by omega, sm _ (by omega) (by omega)⟩
      · exact ⟨_, h, Int.lt_of_lt_of_le z1 (Int.le_add_of_nonneg_right g0), t5⟩
    exact q r H6 r0 rB (p6.mono (by omega)) (by walk_at "keep")
end
end K17
namespace K17
open PySem L2 DS NdefX
set_option pp.maxSteps 1200
local macro_rules | `(tactic| walk_at "c") => `(tactic| first
  | (dsimp only; omega)
  | omega
  | (show CMulA _ _; first | exact CMulA.s1 (by omega) (by omega) | exact CMulA.s2 (by omega) (by omega))
  | (show CDivW _ _; first | exact ⟨by omega, by assumption⟩ | exact ⟨by omega, by decide⟩)
  | (show CPow _ _; exact ⟨by decide, by decide, by decide⟩)
  | assumption)
local macro_rules | `(tactic| walk_at "get") => `(tactic| first
  | assumption
  | (refine (by assumption : Same _ _) _ _ ?_; walk_at "get")
  | (refine (by assumption : Keep _ _) _ _ ?_ rfl; walk_at "get"))
local macro_rules | `(tactic| walk_at "pen") => `(tactic| first
  | assumption
  | (refine Pen.same (by assumption) ?_; walk_at "pen")
  | (refine Pen.mono ?_ (by omega); assumption))
local macro_rules | `(tactic| walk_at "keep") => `(tactic| first
  | assumption
  | exact Keep.refl _
  | exact Keep.of (by assumption)
  | (refine Keep.trans ?_ (by assumption); walk_at "keep")
  | (refine Keep.same ?_ (by assumption); walk_at "keep"))
local macro_rules | `(tactic| walk_at "same") => `(tactic| first
  | assumption
  | exact Same.refl _
  | (refine Same.trans ?_ (by assumption); walk_at "same"))
local macro_rules | `(tactic| walk_at "s0") => `(tactic| first
  | with_reducible refine w_seq ?_
  | with_reducible refine w_asg ?_
  | with_reducible refine w_name ?_
  | ((with_reducible apply w_var); exact rfl)
  | with_reducible refine w_c ?_
  | with_reducible refine w_op ?_
  | with_reducible refine w_I0 ?_
  | ((with_reducible apply w_I); (walk_at "c"))
  | with_reducible refine w_cons ?_
  | with_reducible refine w_nil ?_
  | with_reducible refine w_cb ?_
  | with_reducible refine w_int1 ?_
  | with_reducible refine w_int1b ?_
  | with_reducible refine w_call ?_
  | with_reducible refine w_test ?_
  | with_reducible refine w_k ?_
  | with_reducible refine w_ret ?_
  | with_reducible refine w_drop ?_
  | with_reducible refine w_not ?_
  | with_reducible refine w_and ?_
  | with_reducible refine w_or ?_
  | with_reducible refine w_andV ?_
  | with_reducible refine w_orV ?_
  | with_reducible refine w_notV ?_
  | with_reducible refine w_if ?_
  | with_reducible refine w_B ?_
  | with_reducible refine w_un ?_
  | with_reducible refine w_U ?_
  | (with_reducible refine w_tup ?_; intro _ _)
  | (with_reducible refine w_lst ?_; intro _ _)
  | with_reducible refine w_dget ?_
  | with_reducible refine w_dput ?_
  | with_reducible refine w_fld ?_
  | with_reducible refine w_meth ?_
  | (with_reducible refine w_make ?_; intro _ _)
  | with_reducible refine w_par ?_
  | with_reducible refine w_par3 ?_
  | with_reducible refine w_two ?_
  | with_reducible refine w_three ?_
  | with_reducible refine w_one ?_
  | with_reducible refine w_chain ?_
  | with_reducible refine w_next ?_
  | with_reducible refine w_brk ?_
  | with_reducible refine w_cont ?_
  | with_reducible refine w_retN ?_
  | with_reducible refine w_gcons ?_
  | with_reducible refine w_gnil ?_
  | ((with_reducible refine w_eq ?_ ?_); exact rfl)
  | ((with_reducible refine w_ne ?_ ?_); exact rfl)
  | with_reducible refine w_part ?_
  | with_reducible refine w_lc ?_
  | with_reducible refine w_bm ?_
  | with_reducible refine w_lcS ?_
  | with_reducible refine w_yes ?_
  | with_reducible refine w_iTup ?_
  | with_reducible refine w_iList ?_
  | with_reducible refine w_unT ?_
  | with_reducible refine w_unT0 ?_
  | with_reducible refine w_unL ?_
  | with_reducible refine w_unL0 ?_
  | ((with_reducible apply w_gtup); (walk_at "get"); (exact rfl))
  | with_reducible refine w_gfld ?_
  | with_reducible refine w_sfld ?_
  | with_reducible refine w_risi ?_
  | with_reducible refine w_i ?_
  | with_reducible refine w_pnil ?_
  | with_reducible refine w_pcons ?_
  | with_reducible refine w_sl ?_
  | with_reducible refine w_nopart ?_
  | with_reducible refine w_for ?_
  | with_reducible refine w_while ?_
  | with_reducible refine w_irng1 ?_
  | with_reducible refine w_irng2 ?_
  | with_reducible refine And.intro (rfl : V.non = V.non) ?_)
local macro_rules | `(tactic| walk_at "s") => `(tactic| first | walk_at "s0" | with_reducible refine w_ifs ?_)
local macro_rules | `(tactic| walk_at "go") => `(tactic| repeat (walk_at "s"))
local macro_rules | `(tactic| walk_at "gi") => `(tactic| repeat (walk_at "s0"))

section
variable {P : Program} {w : World} {K : PySem.W.Frag} {mg : Str → Option Value} {base : Heap}
def sp_isint (K : PySem.W.Frag) : Sp := fun vs H Q _ => ∃ (v : V) (b : Bool), vs = [v] ∧ IntLike K H v b ∧ Q (.bl b) H
theorem ok_is_integer (T : Tx w K mg) : FnOk P w K mg base CX0 1 T.f_is_integer T.fd_is_integer ["value"] (sp_isint K) := by
  refine T.F_is_integer.ok sc_is_integer (fun vs H Q E h => ?_) (fun cdv A outer s H vs Q E hr h => ?_)
  · obtain ⟨v, b, rfl, _⟩ := h
    rfl
  · obtain ⟨v, b, rfl, ⟨r1, r2, i1, i2, rfl⟩, q⟩ := h
    refine ⟨_, (pss_one (ps_ret (pe_and (pe_callB call_isi (by rfl) T.z_isinstance (by decide +kernel) (pa_cons (pv 0) (pa_cons (pe_bltn (v := .ty "int") (by rfl) T.z_int (by decide +kernel) rfl) pa_nil))) (pe_one (pe_not (pe_callB call_isi (by rfl) T.z_isinstance (by decide +kernel) (pa_cons (pv 0) (pa_cons (pe_bltn (v := .ty "bool") (by rfl) T.z_bool (by decide +kernel) rfl) pa_nil)))))))), ?_⟩
    walk_at "go"
    refine w_isI i1 ?_
    walk_at "go"
    refine w_iteB (fun hc => ?_) (fun hc => ?_)
    · walk_at "go"
      refine w_isI i2 ?_
      walk_at "go"
      rw [hc] at q
      exact q
    · walk_at "go"
      rw [hc] at q
      exact q
def sp_iswhole (K : PySem.W.Frag) : Sp := fun vs H Q _ => ∃ v : V, vs = [v] ∧ ((∃ n, v = .int n ∧ Q (.bl (decide (0 ≤ n))) H) ∨ (IntLike K H v false ∧ Q (.bl false) H))
theorem ok_is_whole (T : Tx w K mg) : FnOk P w K mg base CX0 2 T.f_is_whole T.fd_is_whole ["value"] (sp_iswhole K) := by
  refine T.F_is_whole.ok sc_is_whole (fun vs H Q E h => ?_) (fun cdv A outer s H vs Q E hr h => ?_)
  · obtain ⟨v, rfl, _⟩ := h
    rfl
  · obtain ⟨v, rfl, q⟩ := h
    refine ⟨_, (pss_one (ps_ret (pe_and (pe_call (ok_is_integer T) (hr.mono (by decide)) rfl T.g_is_integer T.F_is_integer.kp T.b_is_integer .nil pass0 (pa_cons (pv 0) pa_nil)) (pe_one (pe_cmpR op_ge (pv 0) pe_int (nomark _)))))), ?_⟩
    walk_at "go"
    rcases q with ⟨n, rfl, q⟩ | ⟨i, q⟩
    · refine ⟨_, true, rfl, intLike_int, ?_⟩
      walk_at "go"
      refine iteT ?_
      walk_at "go"
      exact q
    · refine ⟨_, false, rfl, i, ?_⟩
      walk_at "go"
      exact iteF q
def sp_needint : Sp := fun vs H Q _ => ∃ n : Int, vs = [.int n] ∧ Q .non H
theorem ok_need_integer (T : Tx w K mg) : FnOk P w K mg base CX0 2 T.f_need_integer T.fd_need_integer ["value"] sp_needint := by
  refine T.F_need_integer.ok sc_need_integer (fun vs H Q E h => ?_) (fun cdv A outer s H vs Q E hr h => ?_)
  · obtain ⟨v, rfl, _⟩ := h
    rfl
  · obtain ⟨v, rfl, q⟩ := h
    refine ⟨_, (pss_one (ps_if (pt_not (pt_val (pe_call (ok_is_integer T) (hr.mono (by decide)) rfl T.g_is_integer T.F_is_integer.kp T.b_is_integer .nil pass0 (pa_cons (pv 0) pa_nil)))) (pss_never) pss_nil)), ?_⟩
    walk_at "go"
    refine ⟨_, true, rfl, intLike_int, ?_⟩
    walk_at "go"
    exact iteF q
def sp_needwhole : Sp := fun vs H Q _ => ∃ n : Int, vs = [.int n] ∧ 0 ≤ n ∧ Q .non H
theorem ok_need_whole (T : Tx w K mg) : FnOk P w K mg base CX0 3 T.f_need_whole T.fd_need_whole ["value"] sp_needwhole := by
  refine T.F_need_whole.ok sc_need_whole (fun vs H Q E h => ?_) (fun cdv A outer s H vs Q E hr h => ?_)
  · obtain ⟨v, rfl, _⟩ := h
    rfl
  · obtain ⟨v, rfl, h0, q⟩ := h
    refine ⟨_, (pss_one (ps_if (pt_not (pt_val (pe_call (ok_is_whole T) (hr.mono (by decide)) rfl T.g_is_whole T.F_is_whole.kp T.b_is_whole .nil pass0 (pa_cons (pv 0) pa_nil)))) (pss_never) pss_nil)), ?_⟩
    walk_at "go"
    refine ⟨_, rfl, .inl ⟨v, rfl, ?_⟩⟩
    walk_at "go"
    rw [decide_eq_true h0]
    exact iteF q
def sp_needpos : Sp := fun vs H Q _ => ∃ n : Int, vs = [.int n] ∧ 0 < n ∧ Q .non H
theorem ok_need_positive (T : Tx w K mg) : FnOk P w K mg base CX0 3 T.f_need_positive T.fd_need_positive ["value"] sp_needpos := by
  refine T.F_need_positive.ok sc_need_positive (fun vs H Q E h => ?_) (fun cdv A outer s H vs Q E hr h => ?_)
  · obtain ⟨v, rfl, _⟩ := h
    rfl
  · obtain ⟨v, rfl, h0, q⟩ := h
    refine ⟨_, (pss_one (ps_if (PW.pt (pw_or (pt_not (pt_val (pe_call (ok_is_whole T) (hr.mono (by decide)) rfl T.g_is_whole T.F_is_whole.kp T.b_is_whole .nil pass0 (pa_cons (pv 0) pa_nil)))) (pw_or1 (pt_cmpR op_eq (pv 0) pe_int (nomark _))))) (pss_never) pss_nil)), ?_⟩
    walk_at "go"
    refine ⟨_, rfl, .inl ⟨v, rfl, ?_⟩⟩
    walk_at "go"
    rw [decide_eq_true (show 0 ≤ v by omega)]
    refine iteF ?_
    walk_at "go"
    refine w_ite (fun hc => ?_) (fun _ => q)
    rw [V_int] at hc
    omega
def sp_needbelow : Sp := fun vs H Q _ => ∃ n b : Int, vs = [.int n, .int b] ∧ 0 ≤ n ∧ n < b ∧ Q .non H
theorem ok_need_below (T : Tx w K mg) : FnOk P w K mg base CX0 3 T.f_need_below T.fd_need_below ["value", "bound"] sp_needbelow := by
  refine T.F_need_below.ok sc_need_below (fun vs H Q E h => ?_) (fun cdv A outer s H vs Q E hr h => ?_)
  · obtain ⟨v, b, rfl, _⟩ := h
    rfl
  · obtain ⟨v, b, rfl, h0, h1, q⟩ := h
    refine ⟨_, (pss_one (ps_if (PW.pt (pw_or (pt_not (pt_val (pe_call (ok_is_whole T) (hr.mono (by decide)) rfl T.g_is_whole T.F_is_whole.kp T.b_is_whole .nil pass0 (pa_cons (pv 0) pa_nil)))) (pw_or1 (pt_cmpR op_ge (pv 0) (pv 1) (nomark _))))) (pss_never) pss_nil)), ?_⟩
    walk_at "go"
    refine ⟨_, rfl, .inl ⟨v, rfl, ?_⟩⟩
    walk_at "go"
    rw [decide_eq_true h0]
    refine iteF ?_
    walk_at "go"
    exact w_ite (fun hc => absurd hc (by omega)) (fun _ => q)
/-! ### refusals -/
theorem okX_BadValue (T : Tx w K mg) : FnOk PR w K mg base CX0 1 T.f_BadValue___init__ T.fd_BadValue___init__ ["self", "value"] (spX1 T.C_BadValue "value") := by
  obtain ⟨oc, od, osl, kV, doc, pm, an, cda, ct, cc, ccl, cdd, ccs, vsC, file, tf, cl, cld, csl, cdC, e, lk, hcd, hcode, hvs, hfile, hcell, hC⟩ := T.X_BadValue.fn
  rw [e]
  refine sinit_ok (N := ["self", "value", "__class__"]) (k := 0) lk hcd hcode hvs hfile hcell hC T.X_BadValue.sub T.X_BadValue.sup T.X_BadValue.top T.X_BadValue.any T.X_BadValue.ini T.X_BadValue.ve T.X_BadValue.oex (nscope_by (by decide +kernel)) rfl rfl rfl (fun vs H Q E h => ?_) (fun L => rfl) (fun L => rfl) (fun L => rfl) (fun env => rfl) (fun env => rfl) (fun A outer s H vs Q E h => ?_)
  · obtain ⟨a, v, rfl, _⟩ := h
    rfl
  · obtain ⟨a, v, rfl, ha, q⟩ := h
    refine ⟨a, _, _, rfl, ha, pa_cons (pv 1) pa_nil, pss_one (ps_ost (pv 0) (pv 1)), ?_⟩
    refine ⟨v, rfl, Nat.le_of_ble_eq_true rfl, ha, v, rfl, .ref a, rfl, a, T.C_BadValue, rfl, T.X_BadValue.oex, T.X_BadValue.nof, .inl ⟨ha, fun dx nd ne => q dx nd ne⟩⟩
def NotWhole (K : PySem.W.Frag) (H : Hp) (v : V) : Prop := (∃ n, v = .int n ∧ n < 0) ∨ IntLike K H v false
def spR_whole (K : PySem.W.Frag) (C : Addr) : Sp := fun vs H Q E => ∃ v, vs = [v] ∧ NotWhole K H v ∧ Bad C "value" v E H
theorem okR_need_whole (T : Tx w K mg) : FnOk PR w K mg base (L2.CX PR w) 4 T.f_need_whole T.fd_need_whole ["value"] (spR_whole K T.C_BadValue) := by
  refine T.F_need_whole.okX sc_need_whole (fun vs H Q E h => ?_) (fun cdv A outer s H vs Q E hr h => ?_)
  · obtain ⟨v, rfl, _⟩ := h
    rfl
  · obtain ⟨v, rfl, hv, b⟩ := h
    refine ⟨_, (pss_one (ps_if (pt_not (pt_val (pe_call (ok_is_whole T) (hr.mono (by decide)) rfl T.g_is_whole T.F_is_whole.kp T.b_is_whole .nil pass0 (pa_cons (pv 0) pa_nil)))) (pss_one (ps_raise rfl (takes_of rfl rfl rfl rfl) (pmk_oex T.X_BadValue.oex T.X_BadValue.iC T.X_BadValue.tI (okX_BadValue T) (hr.mono (by decide)) T.bX_BadValue .nil pass0 rfl T.gC_BadValue (pa_cons (pv 0) pa_nil)))) pss_nil)), ?_⟩
    walk_at "go"
    have fin : tMkO T.C_BadValue (spX1 T.C_BadValue "value") [] (tCons (tVar 0) tNil) (start ["value"] [v]) H (fun cls d H' => E cls d H') := w_mkX1 (fun R hR => ⟨v, rfl, hR⟩) b
    rcases hv with ⟨n, rfl, h0⟩ | hv
    · refine ⟨_, rfl, .inl ⟨n, rfl, ?_⟩⟩
      walk_at "go"
      rw [decide_eq_false (show ¬ 0 ≤ n by omega)]
      exact iteT fin
    · refine ⟨_, rfl, .inr ⟨hv, ?_⟩⟩
      walk_at "go"
      exact iteT fin
def NotBelow (K : PySem.W.Frag) (H : Hp) (v : V) (b : Int) : Prop := (∃ n, v = .int n ∧ (n < 0 ∨ b ≤ n)) ∨ IntLike K H v false
def spR_below (K : PySem.W.Frag) (C : Addr) : Sp := fun vs H Q E => ∃ v b, vs = [v, .int b] ∧ NotBelow K H v b ∧ Bad C "value" v E H
theorem okR_need_below (T : Tx w K mg) : FnOk PR w K mg base (L2.CX PR w) 4 T.f_need_below T.fd_need_below ["value", "bound"] (spR_below K T.C_BadValue) := by
  refine T.F_need_below.okX sc_need_below (fun vs H Q E h => ?_) (fun cdv A outer s H vs Q E hr h => ?_)
  · obtain ⟨v, b, rfl, _⟩ := h
    rfl
  · obtain ⟨v, m, rfl, hv, b⟩ := h
    refine ⟨_, (pss_one (ps_if (PW.pt (pw_or (pt_not (pt_val (pe_call (ok_is_whole T) (hr.mono (by decide)) rfl T.g_is_whole T.F_is_whole.kp T.b_is_whole .nil pass0 (pa_cons (pv 0) pa_nil)))) (pw_or1 (pt_cmpR op_ge (pv 0) (pv 1) (nomark _))))) (pss_one (ps_raise rfl (takes_of rfl rfl rfl rfl) (pmk_oex T.X_BadValue.oex T.X_BadValue.iC T.X_BadValue.tI (okX_BadValue T) (hr.mono (by decide)) T.bX_BadValue .nil pass0 rfl T.gC_BadValue (pa_cons (pv 0) pa_nil)))) pss_nil)), ?_⟩
    walk_at "go"
    have fin : tMkO T.C_BadValue (spX1 T.C_BadValue "value") [] (tCons (tVar 0) tNil) (start ["value", "bound"] [v, .int m]) H (fun cls d H' => E cls d H') := w_mkX1 (fun R hR => ⟨v, rfl, hR⟩) b
    rcases hv with ⟨n, rfl, h0⟩ | hv
    · refine ⟨_, rfl, .inl ⟨n, rfl, ?_⟩⟩
      walk_at "go"
      by_cases h1 : 0 ≤ n
      · rw [decide_eq_true h1]
        refine iteF ?_
        walk_at "go"
        exact w_ite (fun _ => fin) (fun hc => absurd (h0.resolve_left (by omega)) (by omega))
      · rw [decide_eq_false h1]
        exact iteT (iteT fin)
    · refine ⟨_, rfl, .inr ⟨hv, ?_⟩⟩
      walk_at "go"
      exact iteT (iteT fin)
end
end K17
namespace K17
open PySem L2 DS NdefX
set_option pp.maxSteps 1200
local macro_rules | `(tactic| walk_at "c") => `(tactic| first
  | (dsimp only; omega)
  | omega
  | (show CMulA _ _; first | exact CMulA.s1 (by omega) (by omega) | exact CMulA.s2 (by omega) (by omega))
  | (show CDivW _ _; first | exact ⟨by omega, by assumption⟩ | exact ⟨by omega, by decide⟩)
  | (show CPow _ _; exact ⟨by decide, by decide, by decide⟩)
  | assumption)
local macro_rules | `(tactic| walk_at "get") => `(tactic| first
  | assumption
  | (refine (by assumption : Same _ _) _ _ ?_; walk_at "get")
  | (refine (by assumption : Keep _ _) _ _ ?_ rfl; walk_at "get"))
local macro_rules | `(tactic| walk_at "pen") => `(tactic| first
  | assumption
  | (refine Pen.same (by assumption) ?_; walk_at "pen")
  | (refine Pen.mono ?_ (by omega); assumption))
local macro_rules | `(tactic| walk_at "keep") => `(tactic| first
  | assumption
  | exact Keep.refl _
  | exact Keep.of (by assumption)
  | (refine Keep.trans ?_ (by assumption); walk_at "keep")
  | (refine Keep.same ?_ (by assumption); walk_at "keep"))
local macro_rules | `(tactic| walk_at "same") => `(tactic| first
  | assumption
  | exact Same.refl _
  | (refine Same.trans ?_ (by assumption); walk_at "same"))
local macro_rules | `(tactic| walk_at "s0") => `(tactic| first
  | with_reducible refine w_seq ?_
  | with_reducible refine w_asg ?_
  | with_reducible refine w_name ?_
  | ((with_reducible apply w_var); exact rfl)
  | with_reducible refine w_c ?_
  | with_reducible refine w_op ?_
  | with_reducible refine w_I0 ?_
  | ((with_reducible apply w_I); (walk_at "c"))
  | with_reducible refine w_cons ?_
  | with_reducible refine w_nil ?_
  | with_reducible refine w_cb ?_
  | with_reducible refine w_int1 ?_
  | with_reducible refine w_int1b ?_
  | with_reducible refine w_call ?_
  | with_reducible refine w_test ?_
  | with_reducible refine w_k ?_
  | with_reducible refine w_ret ?_
  | with_reducible refine w_drop ?_
  | with_reducible refine w_not ?_
  | with_reducible refine w_and ?_
  | with_reducible refine w_or ?_
  | with_reducible refine w_andV ?_
  | with_reducible refine w_orV ?_
  | with_reducible refine w_notV ?_
  | with_reducible refine w_if ?_
  | with_reducible refine w_B ?_
  | with_reducible refine w_un ?_
  | with_reducible refine w_U ?_
  | (with_reducible refine w_tup ?_; intro _ _)
  | (with_reducible refine w_lst ?_; intro _ _)
  | with_reducible refine w_dget ?_
  | with_reducible refine w_dput ?_
  | with_reducible refine w_fld ?_
  | with_reducible refine w_meth ?_
  | (with_reducible refine w_make ?_; intro _ _)
  | with_reducible refine w_par ?_
  | with_reducible refine w_par3 ?_
  | with_reducible refine w_two ?_
  | with_reducible refine w_three ?_
  | with_reducible refine w_one ?_
  | with_reducible refine w_chain ?_
  | with_reducible refine w_next ?_
  | with_reducible refine w_brk ?_
  | with_reducible refine w_cont ?_
  | with_reducible refine w_retN ?_
  | with_reducible refine w_gcons ?_
  | with_reducible refine w_gnil ?_
  | ((with_reducible refine w_eq ?_ ?_); exact rfl)
  | ((with_reducible refine w_ne ?_ ?_); exact rfl)
  | with_reducible refine w_part ?_
  | with_reducible refine w_lc ?_
  | with_reducible refine w_bm ?_
  | with_reducible refine w_lcS ?_
  | with_reducible refine w_yes ?_
  | with_reducible refine w_iTup ?_
  | with_reducible refine w_iList ?_
  | with_reducible refine w_unT ?_
  | with_reducible refine w_unT0 ?_
  | with_reducible refine w_unL ?_
  | with_reducible refine w_unL0 ?_
  | ((with_reducible apply w_gtup); (walk_at "get"); (exact rfl))
  | with_reducible refine w_gfld ?_
  | with_reducible refine w_sfld ?_
  | with_reducible refine w_risi ?_
  | with_reducible refine w_i ?_
  | with_reducible refine w_pnil ?_
  | with_reducible refine w_pcons ?_
  | with_reducible refine w_sl ?_
  | with_reducible refine w_nopart ?_
  | with_reducible refine w_for ?_
  | with_reducible refine w_while ?_
  | with_reducible refine w_irng1 ?_
  | with_reducible refine w_irng2 ?_
  | with_reducible refine And.intro (rfl : V.non = V.non) ?_)
local macro_rules | `(tactic| walk_at "s") => `(tactic| first | walk_at "s0" | with_reducible refine w_ifs ?_)
local macro_rules | `(tactic| walk_at "go") => `(tactic| repeat (walk_at "s"))
local macro_rules | `(tactic| walk_at "gi") => `(tactic| repeat (walk_at "s0"))

section
variable {P : Program} {w : World} {K : PySem.W.Frag} {mg : Str → Option Value} {base : Heap}
def gB (p l x : Int) : Int := l * (x / p) + (if l < x % p then l else x % p)
def sp_below : Sp := fun vs H Q _ => ∃ p l x : Int, vs = [.int p, .int l, .int x] ∧ 0 < p ∧ B 2000 p ∧ B 2000 l ∧ B 4000 x ∧ Q (.int (gB p l x)) H
theorem ok_below (T : Tx w K mg) : FnOk P w K mg base CX0 1 T.f_below T.fd_below ["period", "length", "bound"] sp_below := by
  refine T.F_below.ok sc_below (fun vs H Q E h => ?_) (fun cdv A outer s H vs Q E hr h => ?_)
  · obtain ⟨p, l, x, rfl, _⟩ := h
    rfl
  · obtain ⟨p, l, x, rfl, p0, pB, lB, xB, q⟩ := h
    have lg := pB.log p0
    have c1 : CMulA l (x / p) := lB.cmul xB.div
    refine ⟨_, (pss_one (ps_ret (pe_op op_add (pe_op op_mulA (pv 1) (pe_op op_fdivW (pv 2) (pv 0))) (pe_callB (call_min2 rfl) (by rfl) T.z_min (by decide +kernel) (pa_cons (pe_op op_mod (pe_callTy call_int1 (by rfl) T.z_int (by decide +kernel) (pa_cons (pv 2) pa_nil)) (pv 0)) (pa_cons (pe_callTy call_int1 (by rfl) T.z_int (by decide +kernel) (pa_cons (pv 1) pa_nil)) pa_nil)))))), ?_⟩
    walk_at "go"
    refine ⟨_, _, rfl, ?_⟩
    walk_at "go"
    exact q
/-! windows -/
def wfs (p f l : Int) : List (Str × V) := [("period", .int p), ("first", .int f), ("length", .int l)]
theorem wfs_p (p f l : Int) : (wfs p f l).lookup ("period" : Str) = some (.int p) := by unfold wfs; simp
theorem wfs_f (p f l : Int) : (wfs p f l).lookup ("first" : Str) = some (.int f) := by
  have h : ¬ (("first" : Str) = "period") := by decide +kernel
  unfold wfs; rw [List.lookup_cons, beq_eq_false_iff_ne.mpr h]; simp
theorem wfs_l (p f l : Int) : (wfs p f l).lookup ("length" : Str) = some (.int l) := by
  have h : ¬ (("length" : Str) = "period") := by decide +kernel
  have h2 : ¬ (("length" : Str) = "first") := by decide +kernel
  unfold wfs; rw [List.lookup_cons, beq_eq_false_iff_ne.mpr h, List.lookup_cons, beq_eq_false_iff_ne.mpr h2]; simp
theorem wfs_no (p f l : Int) {m : Str} (h1 : ¬ m = "period") (h2 : ¬ m = "first") (h3 : ¬ m = "length") : (wfs p f l).lookup m = none := by
  unfold wfs
  rw [List.lookup_cons, beq_eq_false_iff_ne.mpr h1, List.lookup_cons, beq_eq_false_iff_ne.mpr h2, List.lookup_cons, beq_eq_false_iff_ne.mpr h3]
  rfl
theorem wfs_put (p f l : Int) : putF "length" (.int l) (putF "first" (.int f) (putF "period" (.int p) [])) = wfs p f l := by
  have h1 : ¬ (("period" : Str) = "first") := by decide +kernel
  have h2 : ¬ (("period" : Str) = "length") := by decide +kernel
  have h3 : ¬ (("first" : Str) = "length") := by decide +kernel
  unfold wfs
  simp [putF, h1, h2, h3]
/-- a window's own form, 0 < l ≤ p -/
def WN (p f l : Int) : Int × Int × Int := if l < p then (p, f % p, l) else (1, 0, 1)
def sp_winit (C : Addr) : Sp := fun vs H Q _ => ∃ (x dx : Addr) (p f l : Int), vs = [.ref x, .int p, .int f, .int l] ∧ 0 < l ∧ l ≤ p ∧ IniOk C x dx (wfs (WN p f l).1 (WN p f l).2.1 (WN p f l).2.2) H Q
theorem ok_Window___init__ (T : Tx w K mg) : FnOk P w K mg base CX0 4 T.f_Window___init__ T.fd_Window___init__ ["self", "period", "first", "length"] (sp_winit T.C_Window) := by
  refine T.F_Window___init__.ok sc_Window___init__ (fun vs H Q E h => ?_) (fun cdv A outer s H vs Q E hr h => ?_)
  · obtain ⟨x, dx, p, f, l, rfl, _⟩ := h
    rfl
  · obtain ⟨x, dx, p, f, l, rfl, l0, l1, i⟩ := h
    refine ⟨_, (pss_cons (ps_expr (pe_call (ok_need_positive T) (hr.mono (by decide)) rfl T.g_need_positive T.F_need_positive.kp T.b_need_positive .nil pass0 (pa_cons (pv 1) pa_nil)))
      (pss_cons (ps_expr (pe_call (ok_need_integer T) (hr.mono (by decide)) rfl T.g_need_integer T.F_need_integer.kp T.b_need_integer .nil pass0 (pa_cons (pv 2) pa_nil)))
      (pss_cons (ps_expr (pe_call (ok_need_whole T) (hr.mono (by decide)) rfl T.g_need_whole T.F_need_whole.kp T.b_need_whole .nil pass0 (pa_cons (pv 3) pa_nil)))
      (pss_cons (ps_if (pt_cmpR op_gt (pv 3) (pv 1) (nomark _)) (pss_never) pss_nil)
      (pss_cons (ps_set (i := 4) sc_Window___init__.nd rfl (Or.inl rfl) (pe_chain op_lt op_lt pe_int (pv 3) (pv 1)))
      (pss_cons (ps_fld (pv 0) (pe_ifExp (pt_val (pv 4)) (pv 1) pe_int) rfl)
      (pss_cons (ps_fld (pv 0) (pe_ifExp (pt_val (pv 4)) (pe_op op_mod (pv 2) (pv 1)) pe_int) rfl)
      (pss_one (ps_fld (pv 0) (pe_ifExp (pt_val (pv 4)) (pv 3) (pe_callTy call_int1 (by rfl) T.z_int (by decide +kernel) (pa_cons (pe_cmpR op_gt (pv 3) pe_int (nomark _)) pa_nil))) rfl))))))))), ?_⟩
    walk_at "go"
    refine ⟨p, rfl, by omega, ?_⟩
    walk_at "go"
    refine ⟨f, rfl, ?_⟩
    walk_at "go"
    refine ⟨l, rfl, by omega, ?_⟩
    walk_at "go"
    refine w_ite (fun hc => absurd hc (by omega)) (fun _ => ?_)
    walk_at "go"
    rw [decide_eq_true l0]
    refine iteT ?_
    walk_at "go"
    unfold WN at i
    by_cases c : l < p
    · rw [if_pos c] at i
      rw [decide_eq_true c]
      walk_at "go"
      refine iteT ?_
      walk_at "go"
      refine ⟨x, _, dx, [], rfl, i.1, T.cl_Window, T.n_Window_period, by decide, ?_⟩
      walk_at "go"
      refine iteT ?_
      have p0 : 0 < p := by omega
      walk_at "go"
      refine ⟨x, _, dx, _, rfl, upd_same, T.cl_Window, T.n_Window_first, (by show 1 < 1000; decide), ?_⟩
      walk_at "go"
      refine iteT ?_
      walk_at "go"
      refine ⟨x, _, dx, _, rfl, upd_same, T.cl_Window, T.n_Window_length, Nat.lt_of_le_of_lt (putF_len _ _ _) (by show 2 < 1000; decide), ?_⟩
      walk_at "go"
      rw [wfs_put, upd_upd, upd_upd]
      refine ini_end i upd_same (fun b o nb e => ?_)
      rw [upd_ne nb]
      exact e
    · rw [if_neg c] at i
      rw [decide_eq_false c]
      walk_at "go"
      refine iteF ?_
      walk_at "go"
      refine ⟨x, _, dx, [], rfl, i.1, T.cl_Window, T.n_Window_period, by decide, ?_⟩
      walk_at "go"
      refine iteF ?_
      walk_at "go"
      refine ⟨x, _, dx, _, rfl, upd_same, T.cl_Window, T.n_Window_first, (by show 1 < 1000; decide), ?_⟩
      walk_at "go"
      refine iteF ?_
      walk_at "go"
      rw [decide_eq_true l0, if_pos rfl]
      refine ⟨x, _, dx, _, rfl, upd_same, T.cl_Window, T.n_Window_length, Nat.lt_of_le_of_lt (putF_len _ _ _) (by show 2 < 1000; decide), ?_⟩
      walk_at "go"
      rw [wfs_put, upd_upd, upd_upd]
      refine ini_end i upd_same (fun b o nb e => ?_)
      rw [upd_ne nb]
      exact e
def WAt (C : Addr) (H : Hp) (x : Addr) (z : Int × Int × Int) : Prop := InsAt C H x (wfs z.1 z.2.1 z.2.2)
/-- == of two windows: whether the forms are equal -/
def sp_weq (C : Addr) : Sp := fun vs H Q _ => ∃ (a b : Addr) (z y : Int × Int × Int), vs = [.ref a, .ref b] ∧ WAt C H a z ∧ WAt C H b y ∧ ∀ H', Same H H' → Q (.bl (decide (z = y))) H'
theorem dec3 (z y : Int × Int × Int) : (z.1 == y.1 && (z.2.1 == y.2.1 && (z.2.2 == y.2.2 && true))) = decide (z = y) := by
  obtain ⟨a, b, c⟩ := z
  obtain ⟨a', b', c'⟩ := y
  by_cases h : (a, b, c) = (a', b', c')
  · cases h
    simp
  · rw [decide_eq_false h]
    simp only [Prod.mk.injEq] at h
    by_cases h1 : a = a' <;> by_cases h2 : b = b' <;> by_cases h3 : c = c' <;> simp_all
theorem ok_Window___eq__ (T : Tx w K mg) : FnOk P w K mg base CX0 1 T.f_Window___eq__ T.fd_Window___eq__ ["self", "other"] (sp_weq T.C_Window) := by
  refine T.F_Window___eq__.ok sc_Window___eq__ (fun vs H Q E h => ?_) (fun cdv A outer s H vs Q E hr h => ?_)
  · obtain ⟨a, b, z, y, rfl, _⟩ := h
    rfl
  · obtain ⟨a, b, z, y, rfl, ⟨da, ha⟩, ⟨db, hb⟩, q⟩ := h
    have hu64 := hu64_of hr
    refine ⟨_, (pss_cons (ps_if (pt_not (pt_val (pe_callB call_isi (by rfl) T.z_isinstance (by decide +kernel) (pa_cons (pv 1) (pa_cons (pe_glob (v := .ref T.C_Window) rfl T.gC_Window rfl) pa_nil))))) (pss_one (ps_ret pe_bl)) pss_nil)
      (pss_one (ps_ret (pe_cmpR (op_eqD hu64) (pe_tup (pa_cons (pe_fld (pv 0) rfl) (pa_cons (pe_fld (pv 0) rfl) (pa_cons (pe_fld (pv 0) rfl) pa_nil)))) (pe_tup (pa_cons (pe_fld (pv 1) rfl) (pa_cons (pe_fld (pv 1) rfl) (pa_cons (pe_fld (pv 1) rfl) pa_nil)))) (nomark _))))), ?_⟩
    walk_at "go"
    refine w_isi (.own _) (.base (T.ty_Window _ _ _ _ hb)) T.ki_Window ?_
    walk_at "go"
    refine iteF ?_
    walk_at "go"
    refine w_flds ha T.cl_Window T.n_Window_period (wfs_p _ _ _) ?_
    walk_at "go"
    refine w_flds ha T.cl_Window T.n_Window_first (wfs_f _ _ _) ?_
    walk_at "go"
    refine w_flds ha T.cl_Window T.n_Window_length (wfs_l _ _ _) ?_
    walk_at "go"
    refine w_new (by assumption) (Nat.le_of_ble_eq_true rfl) (fun p1 H1 n1 s1 e1 => ?_)
    walk_at "go"
    refine w_flds (s1 _ _ hb) T.cl_Window T.n_Window_period (wfs_p _ _ _) ?_
    walk_at "go"
    refine w_flds (s1 _ _ hb) T.cl_Window T.n_Window_first (wfs_f _ _ _) ?_
    walk_at "go"
    refine w_flds (s1 _ _ hb) T.cl_Window T.n_Window_length (wfs_l _ _ _) ?_
    walk_at "go"
    refine w_new (by assumption) (Nat.le_of_ble_eq_true rfl) (fun p2 H2 n2 s2 e2 => ?_)
    walk_at "go"
    refine w_eqT3 (s2 _ _ e1) e2 ?_
    rw [dec3]
    exact q H2 (s1.trans s2)
def sp_win (C : Addr) : Sp := fun vs H Q _ => ∃ (a : Addr) (z : Int × Int × Int) (k : Int), vs = [.ref a, .int k] ∧ WAt C H a z ∧ 0 < z.1 ∧ 0 ≤ k ∧ Q (.bl (decide ((k - z.2.1) % z.1 < z.2.2))) H
theorem ok_Window___contains__ (T : Tx w K mg) : FnOk P w K mg base CX0 4 T.f_Window___contains__ T.fd_Window___contains__ ["self", "k"] (sp_win T.C_Window) := by
  refine T.F_Window___contains__.ok sc_Window___contains__ (fun vs H Q E h => ?_) (fun cdv A outer s H vs Q E hr h => ?_)
  · obtain ⟨a, z, k, rfl, _⟩ := h
    rfl
  · obtain ⟨a, z, k, rfl, ⟨da, ha⟩, z0, k0, q⟩ := h
    refine ⟨_, (pss_cons (ps_expr (pe_call (ok_need_whole T) (hr.mono (by decide)) rfl T.g_need_whole T.F_need_whole.kp T.b_need_whole .nil pass0 (pa_cons (pv 1) pa_nil)))
      (pss_one (ps_ret (pe_cmpR op_lt (pe_op op_mod (pe_op op_sub (pv 1) (pe_fld (pv 0) rfl)) (pe_fld (pv 0) rfl)) (pe_fld (pv 0) rfl) (nomark _))))), ?_⟩
    walk_at "go"
    refine ⟨k, rfl, k0, ?_⟩
    walk_at "go"
    refine w_flds ha T.cl_Window T.n_Window_first (wfs_f _ _ _) ?_
    walk_at "go"
    refine w_flds ha T.cl_Window T.n_Window_period (wfs_p _ _ _) ?_
    walk_at "go"
    refine w_flds ha T.cl_Window T.n_Window_length (wfs_l _ _ _) ?_
    walk_at "go"
    exact q
def wC (z : Int × Int × Int) (m : Int) : Int := gB z.1 z.2.2 (m - z.2.1) - gB z.1 z.2.2 (-z.2.1)
def sp_wcount (C : Addr) : Sp := fun vs H Q _ => ∃ (a : Addr) (z : Int × Int × Int) (m : Int), vs = [.ref a, .int m] ∧ WAt C H a z ∧ 0 < z.1 ∧ B 2000 z.1 ∧ B 2000 z.2.1 ∧ B 2000 z.2.2 ∧ B 2000 m ∧ 0 ≤ m ∧ Q (.int (wC z m)) H
theorem ok_Window_count (T : Tx w K mg) : FnOk P w K mg base CX0 4 T.f_Window_count T.fd_Window_count ["self", "many"] (sp_wcount T.C_Window) := by
  refine T.F_Window_count.ok sc_Window_count (fun vs H Q E h => ?_) (fun cdv A outer s H vs Q E hr h => ?_)
  · obtain ⟨a, z, k, rfl, _⟩ := h
    rfl
  · obtain ⟨a, z, m, rfl, ⟨da, ha⟩, z0, zB, fB, lB, mB, m0, q⟩ := h
    refine ⟨_, (pss_cons (ps_expr (pe_call (ok_need_whole T) (hr.mono (by decide)) rfl T.g_need_whole T.F_need_whole.kp T.b_need_whole .nil pass0 (pa_cons (pv 1) pa_nil)))
      (pss_one (ps_ret (pe_op op_sub (pe_call (ok_below T) (hr.mono (by decide)) rfl T.g_below T.F_below.kp T.b_below .nil pass0 (pa_cons (pe_fld (pv 0) rfl) (pa_cons (pe_fld (pv 0) rfl) (pa_cons (pe_op op_sub (pv 1) (pe_fld (pv 0) rfl)) pa_nil)))) (pe_call (ok_below T) (hr.mono (by decide)) rfl T.g_below T.F_below.kp T.b_below .nil pass0 (pa_cons (pe_fld (pv 0) rfl) (pa_cons (pe_fld (pv 0) rfl) (pa_cons (pe_un un_neg (pe_fld (pv 0) rfl)) pa_nil)))))))), ?_⟩
    walk_at "go"
    refine ⟨m, rfl, m0, ?_⟩
    walk_at "go"
    refine w_flds ha T.cl_Window T.n_Window_period (wfs_p _ _ _) ?_
    walk_at "go"
    refine w_flds ha T.cl_Window T.n_Window_length (wfs_l _ _ _) ?_
    walk_at "go"
    refine w_flds ha T.cl_Window T.n_Window_first (wfs_f _ _ _) ?_
    walk_at "go"
    refine ⟨_, _, _, rfl, z0, zB, lB, (mB.sub fB).mono (by decide), ?_⟩
    walk_at "go"
    refine w_flds ha T.cl_Window T.n_Window_period (wfs_p _ _ _) ?_
    walk_at "go"
    refine w_flds ha T.cl_Window T.n_Window_length (wfs_l _ _ _) ?_
    walk_at "go"
    refine w_flds ha T.cl_Window T.n_Window_first (wfs_f _ _ _) ?_
    walk_at "go"
    refine ⟨_, _, _, rfl, z0, zB, lB, fB.neg.mono (by decide), ?_⟩
    walk_at "go"
    exact q
end
end K17
namespace K17
open PySem L2 DS NdefX
set_option pp.maxSteps 1200
local macro_rules | `(tactic| walk_at "c") => `(tactic| first
  | (dsimp only; omega)
  | omega
  | (show CMulA _ _; first | exact CMulA.s1 (by omega) (by omega) | exact CMulA.s2 (by omega) (by omega))
  | (show CDivW _ _; first | exact ⟨by omega, by assumption⟩ | exact ⟨by omega, by decide⟩)
  | (show CPow _ _; exact ⟨by decide, by decide, by decide⟩)
  | assumption)
local macro_rules | `(tactic| walk_at "get") => `(tactic| first
  | assumption
  | (refine (by assumption : Same _ _) _ _ ?_; walk_at "get")
  | (refine (by assumption : Keep _ _) _ _ ?_ rfl; walk_at "get"))
local macro_rules | `(tactic| walk_at "pen") => `(tactic| first
  | assumption
  | (refine Pen.same (by assumption) ?_; walk_at "pen")
  | (refine Pen.mono ?_ (by omega); assumption))
local macro_rules | `(tactic| walk_at "keep") => `(tactic| first
  | assumption
  | exact Keep.refl _
  | exact Keep.of (by assumption)
  | (refine Keep.trans ?_ (by assumption); walk_at "keep")
  | (refine Keep.same ?_ (by assumption); walk_at "keep"))
local macro_rules | `(tactic| walk_at "same") => `(tactic| first
  | assumption
  | exact Same.refl _
  | (refine Same.trans ?_ (by assumption); walk_at "same"))
local macro_rules | `(tactic| walk_at "s0") => `(tactic| first
  | with_reducible refine w_seq ?_
  | with_reducible refine w_asg ?_
  | with_reducible refine w_name ?_
  | ((with_reducible apply w_var); exact rfl)
  | with_reducible refine w_c ?_
  | with_reducible refine w_op ?_
  | with_reducible refine w_I0 ?_
  | ((with_reducible apply w_I); (walk_at "c"))
  | with_reducible refine w_cons ?_
  | with_reducible refine w_nil ?_
  | with_reducible refine w_cb ?_
  | with_reducible refine w_int1 ?_
  | with_reducible refine w_int1b ?_
  | with_reducible refine w_call ?_
  | with_reducible refine w_test ?_
  | with_reducible refine w_k ?_
  | with_reducible refine w_ret ?_
  | with_reducible refine w_drop ?_
  | with_reducible refine w_not ?_
  | with_reducible refine w_and ?_
  | with_reducible refine w_or ?_
  | with_reducible refine w_andV ?_
  | with_reducible refine w_orV ?_
  | with_reducible refine w_notV ?_
  | with_reducible refine w_if ?_
  | with_reducible refine w_B ?_
  | with_reducible refine w_un ?_
  | with_reducible refine w_U ?_
  | (with_reducible refine w_tup ?_; intro _ _)
  | (with_reducible refine w_lst ?_; intro _ _)
  | with_reducible refine w_dget ?_
  | with_reducible refine w_dput ?_
  | with_reducible refine w_fld ?_
  | with_reducible refine w_meth ?_
  | (with_reducible refine w_make ?_; intro _ _)
  | with_reducible refine w_par ?_
  | with_reducible refine w_par3 ?_
  | with_reducible refine w_two ?_
  | with_reducible refine w_three ?_
  | with_reducible refine w_one ?_
  | with_reducible refine w_chain ?_
  | with_reducible refine w_next ?_
  | with_reducible refine w_brk ?_
  | with_reducible refine w_cont ?_
  | with_reducible refine w_retN ?_
  | with_reducible refine w_gcons ?_
  | with_reducible refine w_gnil ?_
  | ((with_reducible refine w_eq ?_ ?_); exact rfl)
  | ((with_reducible refine w_ne ?_ ?_); exact rfl)
  | with_reducible refine w_part ?_
  | with_reducible refine w_lc ?_
  | with_reducible refine w_bm ?_
  | with_reducible refine w_lcS ?_
  | with_reducible refine w_yes ?_
  | with_reducible refine w_iTup ?_
  | with_reducible refine w_iList ?_
  | with_reducible refine w_unT ?_
  | with_reducible refine w_unT0 ?_
  | with_reducible refine w_unL ?_
  | with_reducible refine w_unL0 ?_
  | ((with_reducible apply w_gtup); (walk_at "get"); (exact rfl))
  | with_reducible refine w_gfld ?_
  | with_reducible refine w_sfld ?_
  | with_reducible refine w_risi ?_
  | with_reducible refine w_i ?_
  | with_reducible refine w_pnil ?_
  | with_reducible refine w_pcons ?_
  | with_reducible refine w_sl ?_
  | with_reducible refine w_nopart ?_
  | with_reducible refine w_for ?_
  | with_reducible refine w_while ?_
  | with_reducible refine w_irng1 ?_
  | with_reducible refine w_irng2 ?_
  | with_reducible refine And.intro (rfl : V.non = V.non) ?_)
local macro_rules | `(tactic| walk_at "s") => `(tactic| first | walk_at "s0" | with_reducible refine w_ifs ?_)
local macro_rules | `(tactic| walk_at "go") => `(tactic| repeat (walk_at "s"))
local macro_rules | `(tactic| walk_at "gi") => `(tactic| repeat (walk_at "s0"))

section
variable {P : Program} {w : World} {K : PySem.W.Frag} {mg : Str → Option Value} {base : Heap}
/-- a deal: block, houses, shift -/
def dfs (z : Int × Int × Int) : List (Str × V) := [("houses", .int z.2.1), ("block", .int z.1), ("shift", .int z.2.2)]
theorem dfs_h (z : Int × Int × Int) : (dfs z).lookup ("houses" : Str) = some (.int z.2.1) := by unfold dfs; simp
theorem dfs_b (z : Int × Int × Int) : (dfs z).lookup ("block" : Str) = some (.int z.1) := by
  have h : ¬ (("block" : Str) = "houses") := by decide +kernel
  unfold dfs; rw [List.lookup_cons, beq_eq_false_iff_ne.mpr h]; simp
theorem dfs_s (z : Int × Int × Int) : (dfs z).lookup ("shift" : Str) = some (.int z.2.2) := by
  have h : ¬ (("shift" : Str) = "houses") := by decide +kernel
  have h2 : ¬ (("shift" : Str) = "block") := by decide +kernel
  unfold dfs; rw [List.lookup_cons, beq_eq_false_iff_ne.mpr h, List.lookup_cons, beq_eq_false_iff_ne.mpr h2]; simp
theorem dfs_no (z : Int × Int × Int) {m : Str} (h1 : ¬ m = "houses") (h2 : ¬ m = "block") (h3 : ¬ m = "shift") : (dfs z).lookup m = none := by
  unfold dfs
  rw [List.lookup_cons, beq_eq_false_iff_ne.mpr h1, List.lookup_cons, beq_eq_false_iff_ne.mpr h2, List.lookup_cons, beq_eq_false_iff_ne.mpr h3]
  rfl
theorem dfs_put2 (h b : Int) : (putF "block" (.int b) (putF "houses" (.int h) [])).lookup ("block" : Str) = some (.int b) := by rw [lookup_putF, if_pos rfl]
theorem dfs_put (z : Int × Int × Int) : putF "shift" (.int z.2.2) (putF "block" (.int z.1) (putF "houses" (.int z.2.1) [])) = dfs z := by
  have h1 : ¬ (("houses" : Str) = "block") := by decide +kernel
  have h2 : ¬ (("houses" : Str) = "shift") := by decide +kernel
  have h3 : ¬ (("block" : Str) = "shift") := by decide +kernel
  unfold dfs
  simp [putF, h1, h2, h3]
def DAt (C : Addr) (H : Hp) (x : Addr) (z : Int × Int × Int) : Prop := InsAt C H x (dfs z)
def nb (b h : Int) : Int := if 1 < h then b else 1
def DN (b h s : Int) : Int × Int × Int := (nb b h, h, s % (nb b h * h))
structure DOk (z : Int × Int × Int) : Prop where
  b0 : 0 < z.1
  h0 : 0 < z.2.1
  s0 : 0 ≤ z.2.2
  s1 : z.2.2 < z.1 * z.2.1
  one : z.2.1 = 1 → z.1 = 1
  bB : B 700 z.1
  hB : B 700 z.2.1
theorem nb_pos {b h : Int} (b0 : 0 < b) : 0 < nb b h := by unfold nb; split <;> omega
theorem nb_B {b h : Int} (bB : B 700 b) : B 700 (nb b h) := by
  unfold nb
  split
  · exact bB
  · exact B.small (by decide) (by decide)
theorem DN_ok {b h s : Int} (b0 : 0 < b) (h0 : 0 < h) (bB : B 700 b) (hB : B 700 h) : DOk (DN b h s) := by
  have p := Int.mul_pos (nb_pos (h := h) b0) h0
  refine ⟨nb_pos b0, h0, Int.emod_nonneg _ (by omega), Int.emod_lt_of_pos _ p, fun e => ?_, nb_B bB, hB⟩
  have e : h = 1 := e
  show nb b h = 1
  unfold nb
  rw [if_neg (by omega)]
def sp_dinit (C : Addr) : Sp := fun vs H Q _ => ∃ (x dx : Addr) (b h s : Int), vs = [.ref x, .int b, .int h, .int s] ∧ 0 < b ∧ 0 < h ∧ B 700 b ∧ B 700 h ∧ IniOk C x dx (dfs (DN b h s)) H Q
theorem ok_Deal___init__ (T : Tx w K mg) : FnOk P w K mg base CX0 4 T.f_Deal___init__ T.fd_Deal___init__ ["self", "block", "houses", "shift"] (sp_dinit T.C_Deal) := by
  refine T.F_Deal___init__.ok sc_Deal___init__ (fun vs H Q E h => ?_) (fun cdv A outer s H vs Q E hr h => ?_)
  · obtain ⟨x, dx, b, h, s, rfl, _⟩ := h
    rfl
  · obtain ⟨x, dx, b, h, s, rfl, b0, h0, bB, hB, i⟩ := h
    refine ⟨_, (pss_cons (ps_expr (pe_call (ok_need_positive T) (hr.mono (by decide)) rfl T.g_need_positive T.F_need_positive.kp T.b_need_positive .nil pass0 (pa_cons (pv 1) pa_nil)))
      (pss_cons (ps_expr (pe_call (ok_need_positive T) (hr.mono (by decide)) rfl T.g_need_positive T.F_need_positive.kp T.b_need_positive .nil pass0 (pa_cons (pv 2) pa_nil)))
      (pss_cons (ps_expr (pe_call (ok_need_integer T) (hr.mono (by decide)) rfl T.g_need_integer T.F_need_integer.kp T.b_need_integer .nil pass0 (pa_cons (pv 3) pa_nil)))
      (pss_cons (ps_fld (pv 0) (pv 2) rfl)
      (pss_cons (ps_fld (pv 0) (pe_ifExp (pt_cmpR op_gt (pv 2) pe_int (nomark _)) (pv 1) pe_int) rfl)
      (pss_one (ps_fld (pv 0) (pe_op op_mod (pv 3) (pe_op op_mulA (pe_fld (pv 0) rfl) (pv 2))) rfl))))))), ?_⟩
    walk_at "go"
    refine ⟨b, rfl, by omega, ?_⟩
    walk_at "go"
    refine ⟨h, rfl, by omega, ?_⟩
    walk_at "go"
    refine ⟨s, rfl, ?_⟩
    walk_at "go"
    refine ⟨x, _, dx, [], rfl, i.1, T.cl_Deal, T.n_Deal_houses, by decide, ?_⟩
    walk_at "go"
    have c1 : CMulA (nb b h) h := (nb_B bB).cmul hB
    have p1 : 0 < nb b h * h := Int.mul_pos (nb_pos b0) h0
    have fin : ∀ b' : Int, b' = nb b h → (tSeq (sFld K (tVar 0) (tC (.int b')) "block") (sFld K (tVar 0) (tOp (rI (fun _ j => 0 < j) fun i j => .int (i % j)) (tVar 3) (tOp (rI CMulA fun i j => .int (i * j)) (tFld K (tVar 0) "block") (tVar 2))) "shift") { nx := fun _ H' => Q .non H', rt := Q } (start ["self", "block", "houses", "shift"] [.ref x, .int b, .int h, .int s]) (upd H x (.ins T.C_Deal dx (putF "houses" (.int h) [])))) := by
      intro b' eb
      subst eb
      walk_at "go"
      refine ⟨x, _, dx, _, rfl, upd_same, T.cl_Deal, T.n_Deal_block, (by show 1 < 1000; decide), ?_⟩
      walk_at "go"
      refine w_flds upd_same T.cl_Deal T.n_Deal_block (dfs_put2 _ _) ?_
      walk_at "go"
      refine ⟨x, _, dx, _, rfl, upd_same, T.cl_Deal, T.n_Deal_shift, Nat.lt_of_le_of_lt (putF_len _ _ _) (by show 2 < 1000; decide), ?_⟩
      walk_at "go"
      have e := dfs_put (DN b h s)
      show Q .non (upd _ x (.ins _ dx (putF "shift" (.int (s % (nb b h * h))) _)))
      rw [show putF "shift" (.int (s % (nb b h * h))) (putF "block" (.int (nb b h)) (putF "houses" (.int h) [])) = dfs (DN b h s) from e, upd_upd, upd_upd]
      refine ini_end i upd_same (fun b o nb e => ?_)
      rw [upd_ne nb]
      exact e
    refine w_ite (fun hc => ?_) (fun hc => ?_)
    · exact ⟨_, rfl, fin b (by unfold nb; rw [if_pos hc])⟩
    · exact fin 1 (by unfold nb; rw [if_neg hc])
def sp_deq (K : PySem.W.Frag) (C : Addr) : Sp := fun vs H Q _ => ∃ (a : Addr) (z : Int × Int × Int) (v : V), vs = [.ref a, v] ∧ DAt C H a z ∧
  ((∃ b y, v = .ref b ∧ DAt C H b y ∧ ∀ H', Same H H' → Q (.bl (decide (z = y))) H') ∨ ∃ ty, TyX K H v ty ∧ PySem.W.kitOne K ty (.ref C) = some false ∧ Q (.bl false) H)
theorem ok_Deal___eq__ (T : Tx w K mg) : FnOk P w K mg base CX0 1 T.f_Deal___eq__ T.fd_Deal___eq__ ["self", "other"] (sp_deq K T.C_Deal) := by
  refine T.F_Deal___eq__.ok sc_Deal___eq__ (fun vs H Q E h => ?_) (fun cdv A outer s H vs Q E hr h => ?_)
  · obtain ⟨a, z, v, rfl, _⟩ := h
    rfl
  · obtain ⟨a, z, v, rfl, ⟨da, ha⟩, q⟩ := h
    have hu64 := hu64_of hr
    refine ⟨_, (pss_cons (ps_if (pt_not (pt_val (pe_callB call_isi (by rfl) T.z_isinstance (by decide +kernel) (pa_cons (pv 1) (pa_cons (pe_glob (v := .ref T.C_Deal) rfl T.gC_Deal rfl) pa_nil))))) (pss_one (ps_ret pe_bl)) pss_nil)
      (pss_one (ps_ret (pe_cmpR (op_eqD hu64) (pe_tup (pa_cons (pe_fld (pv 0) rfl) (pa_cons (pe_fld (pv 0) rfl) (pa_cons (pe_fld (pv 0) rfl) pa_nil)))) (pe_tup (pa_cons (pe_fld (pv 1) rfl) (pa_cons (pe_fld (pv 1) rfl) (pa_cons (pe_fld (pv 1) rfl) pa_nil)))) (nomark _))))), ?_⟩
    walk_at "go"
    rcases q with ⟨b, y, rfl, ⟨db, hb⟩, q⟩ | ⟨ty, hty, hk, q⟩
    · refine w_isi (.own _) (.base (T.ty_Deal _ _ _ _ hb)) T.ki_Deal ?_
      walk_at "go"
      refine iteF ?_
      walk_at "go"
      refine w_flds ha T.cl_Deal T.n_Deal_block (dfs_b _) ?_
      walk_at "go"
      refine w_flds ha T.cl_Deal T.n_Deal_houses (dfs_h _) ?_
      walk_at "go"
      refine w_flds ha T.cl_Deal T.n_Deal_shift (dfs_s _) ?_
      walk_at "go"
      refine w_new (by assumption) (Nat.le_of_ble_eq_true rfl) (fun p1 H1 n1 s1 e1 => ?_)
      walk_at "go"
      refine w_flds (s1 _ _ hb) T.cl_Deal T.n_Deal_block (dfs_b _) ?_
      walk_at "go"
      refine w_flds (s1 _ _ hb) T.cl_Deal T.n_Deal_houses (dfs_h _) ?_
      walk_at "go"
      refine w_flds (s1 _ _ hb) T.cl_Deal T.n_Deal_shift (dfs_s _) ?_
      walk_at "go"
      refine w_new (by assumption) (Nat.le_of_ble_eq_true rfl) (fun p2 H2 n2 s2 e2 => ?_)
      walk_at "go"
      refine w_eqT3 (s2 _ _ e1) e2 ?_
      rw [dec3]
      exact q H2 (s1.trans s2)
    · refine w_isi (.own _) hty hk ?_
      walk_at "go"
      refine iteT ?_
      walk_at "go"
      exact q
def sp_turn (C : Addr) : Sp := fun vs H Q _ => ∃ (a : Addr) (z : Int × Int × Int), vs = [.ref a] ∧ DAt C H a z ∧ DOk z ∧ Q (.int (z.1 * z.2.1)) H
theorem ok_Deal_turn (T : Tx w K mg) : FnOk P w K mg base CX0 1 T.f_Deal_turn T.fd_Deal_turn ["self"] (sp_turn T.C_Deal) := by
  refine T.F_Deal_turn.ok sc_Deal_turn (fun vs H Q E h => ?_) (fun cdv A outer s H vs Q E hr h => ?_)
  · obtain ⟨a, z, rfl, _⟩ := h
    rfl
  · obtain ⟨a, z, rfl, ⟨da, ha⟩, ok, q⟩ := h
    have c1 : CMulA z.1 z.2.1 := ok.bB.cmul ok.hB
    refine ⟨_, (pss_one (ps_ret (pe_op op_mulA (pe_fld (pv 0) rfl) (pe_fld (pv 0) rfl)))), ?_⟩
    walk_at "go"
    refine w_flds ha T.cl_Deal T.n_Deal_block (dfs_b _) ?_
    walk_at "go"
    refine w_flds ha T.cl_Deal T.n_Deal_houses (dfs_h _) ?_
    walk_at "go"
    exact q
def dH (z : Int × Int × Int) (c : Int) : Int := (c + z.2.2) / z.1 % z.2.1
def sp_house (C : Addr) : Sp := fun vs H Q _ => ∃ (a : Addr) (z : Int × Int × Int) (c : Int), vs = [.ref a, .int c] ∧ DAt C H a z ∧ DOk z ∧ B 2000 c ∧ Q (.int (dH z c)) H
theorem ok_Deal_house (T : Tx w K mg) : FnOk P w K mg base CX0 3 T.f_Deal_house T.fd_Deal_house ["self", "cell"] (sp_house T.C_Deal) := by
  refine T.F_Deal_house.ok sc_Deal_house (fun vs H Q E h => ?_) (fun cdv A outer s H vs Q E hr h => ?_)
  · obtain ⟨a, z, c, rfl, _⟩ := h
    rfl
  · obtain ⟨a, z, c, rfl, ⟨da, ha⟩, ok, cB, q⟩ := h
    have lg := ok.bB.log ok.b0
    have b0 := ok.b0
    have h0 := ok.h0
    refine ⟨_, (pss_cons (ps_expr (pe_call (ok_need_integer T) (hr.mono (by decide)) rfl T.g_need_integer T.F_need_integer.kp T.b_need_integer .nil pass0 (pa_cons (pv 1) pa_nil)))
      (pss_one (ps_ret (pe_op op_mod (pe_op op_fdivW (pe_op op_add (pv 1) (pe_fld (pv 0) rfl)) (pe_fld (pv 0) rfl)) (pe_fld (pv 0) rfl))))), ?_⟩
    walk_at "go"
    refine ⟨c, rfl, ?_⟩
    walk_at "go"
    refine w_flds ha T.cl_Deal T.n_Deal_shift (dfs_s _) ?_
    walk_at "go"
    refine w_flds ha T.cl_Deal T.n_Deal_block (dfs_b _) ?_
    walk_at "go"
    refine w_flds ha T.cl_Deal T.n_Deal_houses (dfs_h _) ?_
    walk_at "go"
    exact q
/-- the window of a house -/
def dW (z : Int × Int × Int) (k : Int) : Int × Int × Int := WN (z.1 * z.2.1) (k * z.1 - z.2.2) z.1
theorem le_turn {z : Int × Int × Int} (ok : DOk z) : z.1 ≤ z.1 * z.2.1 := by
  have h := Int.mul_le_mul_of_nonneg_left (show 1 ≤ z.2.1 from ok.h0) (Int.le_of_lt ok.b0)
  rw [Int.mul_one] at h
  exact h
theorem dW_pos {z : Int × Int × Int} (ok : DOk z) (k : Int) : 0 < (dW z k).1 := by
  unfold dW WN
  split
  · exact Int.mul_pos ok.b0 ok.h0
  · decide
theorem dW_B {z : Int × Int × Int} (ok : DOk z) (k : Int) : B 2000 (dW z k).1 ∧ B 2000 (dW z k).2.1 ∧ B 2000 (dW z k).2.2 := by
  have t : B 1400 (z.1 * z.2.1) := ok.bB.mul ok.hB
  unfold dW WN
  split
  · exact ⟨t.mono (by decide), (t.mod (Int.mul_pos ok.b0 ok.h0)).mono (by decide), ok.bB.mono (by decide)⟩
  · exact ⟨B.small (by decide) (by decide), B.small (by decide) (by decide), B.small (by decide) (by decide)⟩
def sp_window (C D : Addr) : Sp := fun vs H Q _ => ∃ (a : Addr) (z : Int × Int × Int) (k : Int), vs = [.ref a, .int k] ∧ DAt C H a z ∧ DOk z ∧ 0 ≤ k ∧ k < z.2.1 ∧ ∀ x H', Same H H' → WAt D H' x (dW z k) → Q (.ref x) H'
theorem ok_Deal_window (T : Tx w K mg) : FnOk P w K mg base CX0 6 T.f_Deal_window T.fd_Deal_window ["self", "house"] (sp_window T.C_Deal T.C_Window) := by
  refine T.F_Deal_window.ok sc_Deal_window (fun vs H Q E h => ?_) (fun cdv A outer s H vs Q E hr h => ?_)
  · obtain ⟨a, z, c, rfl, _⟩ := h
    rfl
  · obtain ⟨a, z, k, rfl, hD, ok, k0, k1, q⟩ := h
    obtain ⟨da, ha⟩ := id hD
    have kB : B 700 k := ok.hB.le k0 (by omega)
    have c1 : CMulA k z.1 := kB.cmul ok.bB
    refine ⟨_, (pss_cons (ps_expr (pe_call (ok_need_below T) (hr.mono (by decide)) rfl T.g_need_below T.F_need_below.kp T.b_need_below .nil pass0 (pa_cons (pv 1) (pa_cons (pe_fld (pv 0) rfl) pa_nil))))
      (pss_one (ps_ret (pe_make T.M_Window (ok_Window___init__ T) (hr.mono (by decide)) rfl T.gC_Window T.b_Window___init__ .nil pass0 (pa_cons (pe_meth0 (pv 0) T.cl_Deal T.m_Deal_turn (ok_Deal_turn T) (hr.mono (by decide)) T.b_Deal_turn .nil pass0) (pa_cons (pe_op op_sub (pe_op op_mulA (pv 1) (pe_fld (pv 0) rfl)) (pe_fld (pv 0) rfl)) (pa_cons (pe_fld (pv 0) rfl) pa_nil))))))), ?_⟩
    walk_at "go"
    refine w_flds ha T.cl_Deal T.n_Deal_houses (dfs_h _) ?_
    walk_at "go"
    refine ⟨k, _, rfl, k0, k1, ?_⟩
    walk_at "go"
    refine ⟨a, da, _, rfl, ha, dfs_no _ (by decide +kernel) (by decide +kernel) (by decide +kernel), ?_⟩
    walk_at "go"
    refine ⟨a, z, rfl, hD, ok, ?_⟩
    walk_at "go"
    refine w_flds ha T.cl_Deal T.n_Deal_block (dfs_b _) ?_
    walk_at "go"
    refine w_flds ha T.cl_Deal T.n_Deal_shift (dfs_s _) ?_
    walk_at "go"
    refine w_flds ha T.cl_Deal T.n_Deal_block (dfs_b _) ?_
    walk_at "go"
    exact fun x dx nx nd ne => ⟨x, dx, _, _, _, rfl, ok.b0, le_turn ok, make_ini (by assumption) nx nd ne (fun H1 s1 h1 => q x H1 s1 h1)⟩
def sp_dcount (C : Addr) : Sp := fun vs H Q _ => ∃ (a : Addr) (z : Int × Int × Int) (k m : Int), vs = [.ref a, .int k, .int m] ∧ DAt C H a z ∧ DOk z ∧ 0 ≤ k ∧ k < z.2.1 ∧ 0 ≤ m ∧ B 2000 m ∧ ∀ H', Same H H' → Q (.int (wC (dW z k) m)) H'
theorem ok_Deal_count (T : Tx w K mg) : FnOk P w K mg base CX0 7 T.f_Deal_count T.fd_Deal_count ["self", "house", "many"] (sp_dcount T.C_Deal) := by
  refine T.F_Deal_count.ok sc_Deal_count (fun vs H Q E h => ?_) (fun cdv A outer s H vs Q E hr h => ?_)
  · obtain ⟨a, z, k, m, rfl, _⟩ := h
    rfl
  · obtain ⟨a, z, k, m, rfl, hD, ok, k0, k1, m0, mB, q⟩ := h
    obtain ⟨da, ha⟩ := id hD
    refine ⟨_, (pss_cons (ps_expr (pe_call (ok_need_below T) (hr.mono (by decide)) rfl T.g_need_below T.F_need_below.kp T.b_need_below .nil pass0 (pa_cons (pv 1) (pa_cons (pe_fld (pv 0) rfl) pa_nil))))
      (pss_cons (ps_expr (pe_call (ok_need_whole T) (hr.mono (by decide)) rfl T.g_need_whole T.F_need_whole.kp T.b_need_whole .nil pass0 (pa_cons (pv 2) pa_nil)))
      (pss_one (ps_ret (pe_meth (pe_meth (pv 0) T.cl_Deal T.m_Deal_window (ok_Deal_window T) (hr.mono (by decide)) T.b_Deal_window .nil pass0 (pa_cons (pv 1) pa_nil)) T.cl_Window T.m_Window_count (ok_Window_count T) (hr.mono (by decide)) T.b_Window_count .nil pass0 (pa_cons (pv 2) pa_nil)))))), ?_⟩
    walk_at "go"
    refine w_flds ha T.cl_Deal T.n_Deal_houses (dfs_h _) ?_
    walk_at "go"
    refine ⟨k, _, rfl, k0, k1, ?_⟩
    walk_at "go"
    refine ⟨m, rfl, m0, ?_⟩
    walk_at "go"
    refine ⟨a, da, _, rfl, ha, dfs_no _ (by decide +kernel) (by decide +kernel) (by decide +kernel), ?_⟩
    walk_at "go"
    refine ⟨a, z, k, rfl, hD, ok, k0, k1, fun x H1 s1 hW => ?_⟩
    obtain ⟨dw, hw⟩ := id hW
    refine ⟨x, dw, _, rfl, hw, wfs_no _ _ _ (by decide +kernel) (by decide +kernel) (by decide +kernel), ?_⟩
    walk_at "go"
    obtain ⟨b1, b2, b3⟩ := dW_B ok k
    refine ⟨x, _, m, rfl, hW, dW_pos ok k, b1, b2, b3, mB, m0, ?_⟩
    exact q H1 s1
/-! ### refusals -/
def spR_window (K : PySem.W.Frag) (C X : Addr) : Sp := fun vs H Q E => ∃ (a : Addr) (z : Int × Int × Int) (v : V), vs = [.ref a, v] ∧ DAt C H a z ∧ NotBelow K H v z.2.1 ∧ Bad X "value" v E H
theorem okR_Deal_window (T : Tx w K mg) : FnOk PR w K mg base (L2.CX PR w) 6 T.f_Deal_window T.fd_Deal_window ["self", "house"] (spR_window K T.C_Deal T.C_BadValue) := by
  refine T.F_Deal_window.okX sc_Deal_window (fun vs H Q E h => ?_) (fun cdv A outer s H vs Q E hr h => ?_)
  · obtain ⟨a, z, v, rfl, _⟩ := h
    rfl
  · obtain ⟨a, z, v, rfl, ⟨da, ha⟩, hv, b⟩ := h
    refine ⟨_, (pss_cons (ps_expr (pe_call (okR_need_below T) (hr.mono (by decide)) rfl T.g_need_below T.F_need_below.kp T.b_need_below .nil (passes_call (takes_of rfl rfl rfl rfl) (fun _ _ _ _ h => h)) (pa_cons (pv 1) (pa_cons (pe_fld (pv 0) rfl) pa_nil))))
      (pss_one (ps_ret (pe_make T.M_Window (ok_Window___init__ T) (hr.mono (by decide)) rfl T.gC_Window T.b_Window___init__ .nil pass0 (pa_cons (pe_meth0 (pv 0) T.cl_Deal T.m_Deal_turn (ok_Deal_turn T) (hr.mono (by decide)) T.b_Deal_turn .nil pass0) (pa_cons (pe_op op_sub (pe_op op_mulA (pv 1) (pe_fld (pv 0) rfl)) (pe_fld (pv 0) rfl)) (pa_cons (pe_fld (pv 0) rfl) pa_nil))))))), ?_⟩
    walk_at "go"
    refine w_flds ha T.cl_Deal T.n_Deal_houses (dfs_h _) ?_
    walk_at "go"
    exact ⟨v, _, rfl, hv, b⟩
def spR_dcount (K : PySem.W.Frag) (C X : Addr) : Sp := fun vs H Q E => ∃ (a : Addr) (z : Int × Int × Int) (v m : V), vs = [.ref a, v, m] ∧ DAt C H a z ∧ ((NotBelow K H v z.2.1 ∧ Bad X "value" v E H) ∨ ∃ k, v = .int k ∧ 0 ≤ k ∧ k < z.2.1 ∧ NotWhole K H m ∧ Bad X "value" m E H)
theorem okR_Deal_count (T : Tx w K mg) : FnOk PR w K mg base (L2.CX PR w) 7 T.f_Deal_count T.fd_Deal_count ["self", "house", "many"] (spR_dcount K T.C_Deal T.C_BadValue) := by
  refine T.F_Deal_count.okX sc_Deal_count (fun vs H Q E h => ?_) (fun cdv A outer s H vs Q E hr h => ?_)
  · obtain ⟨a, z, v, m, rfl, _⟩ := h
    rfl
  · obtain ⟨a, z, v, m, rfl, ⟨da, ha⟩, hv⟩ := h
    rcases hv with ⟨hv, b⟩ | ⟨k, rfl, k0, k1, hm, b⟩
    · refine ⟨_, (pss_cons (ps_expr (pe_call (okR_need_below T) (hr.mono (by decide)) rfl T.g_need_below T.F_need_below.kp T.b_need_below .nil (passes_call (takes_of rfl rfl rfl rfl) (fun _ _ _ _ h => h)) (pa_cons (pv 1) (pa_cons (pe_fld (pv 0) rfl) pa_nil))))
      (pss_cons (ps_expr (pe_call (ok_need_whole T) (hr.mono (by decide)) rfl T.g_need_whole T.F_need_whole.kp T.b_need_whole .nil pass0 (pa_cons (pv 2) pa_nil)))
      (pss_one (ps_ret (pe_meth (pe_meth (pv 0) T.cl_Deal T.m_Deal_window (ok_Deal_window T) (hr.mono (by decide)) T.b_Deal_window .nil pass0 (pa_cons (pv 1) pa_nil)) T.cl_Window T.m_Window_count (ok_Window_count T) (hr.mono (by decide)) T.b_Window_count .nil pass0 (pa_cons (pv 2) pa_nil)))))), ?_⟩
      walk_at "go"
      refine w_flds ha T.cl_Deal T.n_Deal_houses (dfs_h _) ?_
      walk_at "go"
      exact ⟨v, _, rfl, hv, b⟩
    · refine ⟨_, (pss_cons (ps_expr (pe_call (ok_need_below T) (hr.mono (by decide)) rfl T.g_need_below T.F_need_below.kp T.b_need_below .nil pass0 (pa_cons (pv 1) (pa_cons (pe_fld (pv 0) rfl) pa_nil))))
      (pss_cons (ps_expr (pe_call (okR_need_whole T) (hr.mono (by decide)) rfl T.g_need_whole T.F_need_whole.kp T.b_need_whole .nil (passes_call (takes_of rfl rfl rfl rfl) (fun _ _ _ _ h => h)) (pa_cons (pv 2) pa_nil)))
      (pss_one (ps_ret (pe_meth (pe_meth (pv 0) T.cl_Deal T.m_Deal_window (ok_Deal_window T) (hr.mono (by decide)) T.b_Deal_window .nil pass0 (pa_cons (pv 1) pa_nil)) T.cl_Window T.m_Window_count (ok_Window_count T) (hr.mono (by decide)) T.b_Window_count .nil pass0 (pa_cons (pv 2) pa_nil)))))), ?_⟩
      walk_at "go"
      refine w_flds ha T.cl_Deal T.n_Deal_houses (dfs_h _) ?_
      walk_at "go"
      refine ⟨k, _, rfl, k0, k1, ?_⟩
      walk_at "go"
      exact ⟨m, rfl, hm, b⟩
end
end K17
namespace K17
open PySem L2 DS NdefX
set_option pp.maxSteps 1200
local macro_rules | `(tactic| walk_at "c") => `(tactic| first
  | (dsimp only; omega)
  | omega
  | (show CMulA _ _; first | exact CMulA.s1 (by omega) (by omega) | exact CMulA.s2 (by omega) (by omega))
  | (show CDivW _ _; first | exact ⟨by omega, by assumption⟩ | exact ⟨by omega, by decide⟩)
  | (show CPow _ _; exact ⟨by decide, by decide, by decide⟩)
  | assumption)
local macro_rules | `(tactic| walk_at "get") => `(tactic| first
  | assumption
  | (refine (by assumption : Same _ _) _ _ ?_; walk_at "get")
  | (refine (by assumption : Keep _ _) _ _ ?_ rfl; walk_at "get"))
local macro_rules | `(tactic| walk_at "pen") => `(tactic| first
  | assumption
  | (refine Pen.same (by assumption) ?_; walk_at "pen")
  | (refine Pen.mono ?_ (by omega); assumption))
local macro_rules | `(tactic| walk_at "keep") => `(tactic| first
  | assumption
  | exact Keep.refl _
  | exact Keep.of (by assumption)
  | (refine Keep.trans ?_ (by assumption); walk_at "keep")
  | (refine Keep.same ?_ (by assumption); walk_at "keep"))
local macro_rules | `(tactic| walk_at "same") => `(tactic| first
  | assumption
  | exact Same.refl _
  | (refine Same.trans ?_ (by assumption); walk_at "same"))
local macro_rules | `(tactic| walk_at "s0") => `(tactic| first
  | with_reducible refine w_seq ?_
  | with_reducible refine w_asg ?_
  | with_reducible refine w_name ?_
  | ((with_reducible apply w_var); exact rfl)
  | with_reducible refine w_c ?_
  | with_reducible refine w_op ?_
  | with_reducible refine w_I0 ?_
  | ((with_reducible apply w_I); (walk_at "c"))
  | with_reducible refine w_cons ?_
  | with_reducible refine w_nil ?_
  | with_reducible refine w_cb ?_
  | with_reducible refine w_int1 ?_
  | with_reducible refine w_int1b ?_
  | with_reducible refine w_call ?_
  | with_reducible refine w_test ?_
  | with_reducible refine w_k ?_
  | with_reducible refine w_ret ?_
  | with_reducible refine w_drop ?_
  | with_reducible refine w_not ?_
  | with_reducible refine w_and ?_
  | with_reducible refine w_or ?_
  | with_reducible refine w_andV ?_
  | with_reducible refine w_orV ?_
  | with_reducible refine w_notV ?_
  | with_reducible refine w_if ?_
  | with_reducible refine w_B ?_
  | with_reducible refine w_un ?_
  | with_reducible refine w_U ?_
  | (with_reducible refine w_tup ?_; intro _ _)
  | (with_reducible refine w_lst ?_; intro _ _)
  | with_reducible refine w_dget ?_
  | with_reducible refine w_dput ?_
  | with_reducible refine w_fld ?_
  | with_reducible refine w_meth ?_
  | (with_reducible refine w_make ?_; intro _ _)
  | with_reducible refine w_par ?_
  | with_reducible refine w_par3 ?_
  | with_reducible refine w_two ?_
  | with_reducible refine w_three ?_
  | with_reducible refine w_one ?_
  | with_reducible refine w_chain ?_
  | with_reducible refine w_next ?_
  | with_reducible refine w_brk ?_
  | with_reducible refine w_cont ?_
  | with_reducible refine w_retN ?_
  | with_reducible refine w_gcons ?_
  | with_reducible refine w_gnil ?_
  | ((with_reducible refine w_eq ?_ ?_); exact rfl)
  | ((with_reducible refine w_ne ?_ ?_); exact rfl)
  | with_reducible refine w_part ?_
  | with_reducible refine w_lc ?_
  | with_reducible refine w_bm ?_
  | with_reducible refine w_lcS ?_
  | with_reducible refine w_yes ?_
  | with_reducible refine w_iTup ?_
  | with_reducible refine w_iList ?_
  | with_reducible refine w_unT ?_
  | with_reducible refine w_unT0 ?_
  | with_reducible refine w_unL ?_
  | with_reducible refine w_unL0 ?_
  | ((with_reducible apply w_gtup); (walk_at "get"); (exact rfl))
  | with_reducible refine w_gfld ?_
  | with_reducible refine w_sfld ?_
  | with_reducible refine w_risi ?_
  | with_reducible refine w_i ?_
  | with_reducible refine w_pnil ?_
  | with_reducible refine w_pcons ?_
  | with_reducible refine w_sl ?_
  | with_reducible refine w_nopart ?_
  | with_reducible refine w_for ?_
  | with_reducible refine w_while ?_
  | with_reducible refine w_irng1 ?_
  | with_reducible refine w_irng2 ?_
  | with_reducible refine And.intro (rfl : V.non = V.non) ?_)
local macro_rules | `(tactic| walk_at "s") => `(tactic| first | walk_at "s0" | with_reducible refine w_ifs ?_)
local macro_rules | `(tactic| walk_at "go") => `(tactic| repeat (walk_at "s"))
local macro_rules | `(tactic| walk_at "gi") => `(tactic| repeat (walk_at "s0"))

section
variable {P : Program} {w : World} {K : PySem.W.Frag} {mg : Str → Option Value} {base : Heap}
def sp_same (K : PySem.W.Frag) (C : Addr) : Sp := fun vs H Q _ => ∃ x y : V, vs = [x, y] ∧ ((x = y ∧ Self K C (sp_deq K C) H x ∧ ∀ H', Same H H' → Q (.bl true) H') ∨ (∃ a b : Int, x = .int a ∧ y = .int b ∧ Q (.bl (decide (a = b))) H) ∨ ∃ a b : Bool, x = .bl a ∧ y = .bl b ∧ Q (.bl (decide (a = b))) H)
theorem ok__law_same (T : Tx w K mg) : FnOk P w K mg base CX0 3 T.f__law_same T.fd__law_same ["_law_one", "_law_other"] (sp_same K T.C_Deal) := by
  refine T.F__law_same.ok sc__law_same (fun vs H Q E h => ?_) (fun cdv A outer s H vs Q E hr h => ?_)
  · obtain ⟨x, y, rfl, _⟩ := h
    rfl
  · obtain ⟨x, y, rfl, h⟩ := h
    have hu := hr.units0
    have hu64 := hu64_of hr
    refine ⟨_, (pss_one (ps_ret (pe_and (pe_cmpR (op_alt (op_eqD hu64) (op_alt (op_eq_dictA hu) (op_eqIX (E := fun _ _ _ => False) T.m_Deal___eq__ (ok_Deal___eq__ T) (hr.mono (by decide)) T.b_Deal___eq__ pass0))) (pv 0) (pv 1) (nomark _)) (pe_one (pe_cmpR op_eq (pe_callB call_isi (by rfl) T.z_isinstance (by decide +kernel) (pa_cons (pv 0) (pa_cons (pe_bltn (v := .ty "bool") (by rfl) T.z_bool (by decide +kernel) rfl) pa_nil))) (pe_callB call_isi (by rfl) T.z_isinstance (by decide +kernel) (pa_cons (pv 1) (pa_cons (pe_bltn (v := .ty "bool") (by rfl) T.z_bool (by decide +kernel) rfl) pa_nil))) (nomark _)))))), ?_⟩
    walk_at "go"
    rcases h with ⟨rfl, hs, q⟩ | ⟨a, b, rfl, rfl, q⟩ | ⟨a, b, rfl, rfl, q⟩
    · refine (hs H (Same.refl H)).1 _ (fun H1 s1 => ?_)
      obtain ⟨_, r, hb⟩ := hs H1 s1
      walk_at "go"
      refine iteT ?_
      walk_at "go"
      refine w_isI hb ?_
      walk_at "go"
      refine w_isI hb ?_
      walk_at "go"
      rw [decide_eq_true rfl]
      exact q H1 s1
    · refine .inl ⟨_, _, .int a, .int b, rfl, rfl, ?_⟩
      walk_at "go"
      have e : PyData.eqv (.int a) (.int b) = decide (a = b) := by
        by_cases h : a = b <;> simp [PyData.eqv, h]
      rw [e]
      refine w_ite (fun hc => ?_) (fun hc => ?_)
      · walk_at "go"
        refine w_isiB (r := false) (.base (.int a)) (by decide +kernel) ?_
        walk_at "go"
        refine w_isiB (r := false) (.base (.int b)) (by decide +kernel) ?_
        walk_at "go"
        rw [decide_eq_true hc] at q
        exact q
      · rw [decide_eq_false hc] at q
        exact q
    · refine .inl ⟨_, _, .bl a, .bl b, rfl, rfl, ?_⟩
      walk_at "go"
      have e : PyData.eqv (.bool a) (.bool b) = decide (a = b) := by
        cases a <;> cases b <;> decide +kernel
      rw [e]
      refine w_ite (fun hc => ?_) (fun hc => ?_)
      · walk_at "go"
        refine w_isiB (r := true) (.base (.bl a)) (by decide +kernel) ?_
        walk_at "go"
        refine w_isiB (r := true) (.base (.bl b)) (by decide +kernel) ?_
        walk_at "go"
        rw [decide_eq_true hc] at q
        exact q
      · rw [decide_eq_false hc] at q
        exact q
/-- refused with just this value -/
def sp_refused (T : Tx w K mg) (base : Heap) : Sp := fun vs H Q _ => ∃ (f : Addr) (v : V), vs = [.ref f, v] ∧ Act PR w K mg base 9 f H (fun _ _ => False) (fun c d H' => Same H H' ∧ c = .ref T.C_BadValue ∧ ∃ dd, d = some dd ∧ H' dd = some (.xd [("value", v)])) ∧
  Self K T.C_Deal (sp_deq K T.C_Deal) H v ∧ ∀ H', Same H H' → Q (.bl true) H'
theorem ok__law_refused (T : Tx w K mg) : FnOk PR w K mg base CX0 10 T.f__law_refused T.fd__law_refused ["_law_deed", "_law_value"] (sp_refused T base) := by
  refine T.F__law_refused.ok sc__law_refused (fun vs H Q E h => ?_) (fun cdv A outer s H vs Q E hr h => ?_)
  · obtain ⟨x, y, rfl, _⟩ := h
    rfl
  · obtain ⟨f, v, rfl, act, hs, q⟩ := h
    refine ⟨_, (pss_cons (ps_set (i := 2) sc__law_refused.nd rfl (Or.inl rfl) pe_non)
      (pss_cons (ps_try_as (i := 3) rfl rfl sc__law_refused.nd rfl rfl ⟨rfl, rfl, .inl T.gC_BadValue⟩ takes0 (fun W pn xe tk _ => pss_one (ps_expr (pe_actN (P := PR) (w := w) (K := K) (mg := mg) (base := base) (i := 0) (k := 9) ⟨rfl, rfl, rfl, rfl, rfl⟩ tk hr rfl (.inl rfl)))) (fun a oe cls d pn hz hf => pss_one (ps_set (i := 2) sc__law_refused.nd rfl (.inl rfl) (pe_tup (pa_cons (pe_xf (C := T.C_BadValue) T.xf_BadValue T.X_BadValue.nof hz hf (pv 3)) pa_nil)))))
      (pss_one (ps_ret (pe_and (pe_cmpR op_notN (pv 2) pe_non (nomark _)) (pe_one (pe_call (ok__law_same T) (hr.mono (by decide)) rfl T.g__law_same T.F__law_same.kp T.b__law_same .nil pass0 (pa_cons (pe_ix ix_tup (pv 2) pe_int (fun _ _ => rfl)) (pa_cons (pv 1) pa_nil))))))))), ?_⟩
    walk_at "go"
    refine ⟨f, rfl, act.mono (fun _ _ z => z.elim) (fun c d H1 z => ?_)⟩
    obtain ⟨s1, rfl, dd, rfl, hd⟩ := z
    refine ⟨true, T.em_BadValue, fun _ a na => ?_, fun z => absurd z (by decide)⟩
    walk_at "go"
    refine ⟨.ref a, rfl, rfl, rfl, dd, _, v, rfl, hd, by simp, ?_⟩
    walk_at "go"
    refine w_new (by assumption) (Nat.le_of_ble_eq_true rfl) (fun p2 H2 n2 s2 e2 => ?_)
    walk_at "go"
    rw [decide_eq_false (show ¬ V.ref p2 = V.non from fun z => by cases z)]
    refine iteT ?_
    walk_at "go"
    refine w_ixT e2 rfl ?_
    walk_at "go"
    exact ⟨v, v, rfl, .inl ⟨rfl, hs.same (s1.trans s2), fun H3 s3 => q H3 ((s1.trans s2).trans s3)⟩⟩
/-! ### the law's own houses and counts -/
def lH (b h s c : Int) : Int := (c + s) / b % h
def sp_lhouse : Sp := fun vs H Q _ => ∃ (p : Addr) (b h s c : Int), vs = [.ref p, .int c] ∧ H p = some (.tup [.int b, .int h, .int s]) ∧ 0 < b ∧ 0 < h ∧ B 700 b ∧ Q (.int (lH b h s c)) H
theorem ok__law_house (T : Tx w K mg) : FnOk P w K mg base CX0 1 T.f__law_house T.fd__law_house ["_law_parts", "_law_cell"] sp_lhouse := by
  refine T.F__law_house.ok sc__law_house (fun vs H Q E h => ?_) (fun cdv A outer s H vs Q E hr h => ?_)
  · obtain ⟨p, b, h, s, c, rfl, _⟩ := h
    rfl
  · obtain ⟨p, b, h, s, c, rfl, hp, b0, h0, bB, q⟩ := h
    have lg := bB.log b0
    refine ⟨_, (pss_one (ps_ret (pe_op op_mod (pe_callTy call_int1 (by rfl) T.z_int (by decide +kernel) (pa_cons (pe_op op_fdivW (pe_op op_add (pv 1) (pe_ix ix_tup (pv 0) pe_int (fun _ _ => rfl))) (pe_ix ix_tup (pv 0) pe_int (fun _ _ => rfl))) pa_nil)) (pe_ix ix_tup (pv 0) pe_int (fun _ _ => rfl))))), ?_⟩
    walk_at "go"
    refine w_ixT hp rfl ?_
    walk_at "go"
    refine w_ixT hp rfl ?_
    walk_at "go"
    refine w_ixT hp rfl ?_
    walk_at "go"
    exact q
def lA (b h k x : Int) : Int := x / (b * h) * b + (if b < (if x % (b * h) - b * k < 0 then 0 else x % (b * h) - b * k) then b else (if x % (b * h) - b * k < 0 then 0 else x % (b * h) - b * k))
def sp_ahead : Sp := fun vs H Q _ => ∃ (p : Addr) (b h s k x : Int), vs = [.ref p, .int k, .int x] ∧ H p = some (.tup [.int b, .int h, .int s]) ∧ 0 < b ∧ 0 < h ∧ B 700 b ∧ B 700 h ∧ B 700 k ∧ B 2000 x ∧ Q (.int (lA b h k x)) H
theorem ok__law_ahead (T : Tx w K mg) : FnOk P w K mg base CX0 1 T.f__law_ahead T.fd__law_ahead ["_law_parts", "_law_house_here", "_law_bound"] sp_ahead := by
  refine T.F__law_ahead.ok sc__law_ahead (fun vs H Q E h => ?_) (fun cdv A outer s H vs Q E hr h => ?_)
  · obtain ⟨p, b, h, s, k, x, rfl, _⟩ := h
    rfl
  · obtain ⟨p, b, h, s, k, x, rfl, hp, b0, h0, bB, hB, kB, xB, q⟩ := h
    have t0 : 0 < b * h := Int.mul_pos b0 h0
    have tB : B 1400 (b * h) := bB.mul hB
    have lg := tB.log t0
    have c1 : CMulA b h := bB.cmul hB
    have c2 : CMulA b k := bB.cmul kB
    have c3 : CMulA (x / (b * h)) b := xB.div.cmul bB
    refine ⟨_, (pss_cons (ps_asg (pv 0) (pg_tup rfl (pgs_cons (pg_name (i := 3) sc__law_ahead.nd rfl (Or.inl rfl)) (pgs_cons (pg_name (i := 4) sc__law_ahead.nd rfl (Or.inl rfl)) (pgs_cons (pg_name (i := 5) sc__law_ahead.nd rfl (Or.inl rfl)) pgs_nil)))))
      (pss_cons (ps_set (i := 6) sc__law_ahead.nd rfl (Or.inl rfl) (pe_op op_mulA (pv 3) (pv 4)))
      (pss_cons (ps_set (i := 7) sc__law_ahead.nd rfl (Or.inl rfl) (pe_op op_sub (pe_op op_mod (pe_callTy call_int1 (by rfl) T.z_int (by decide +kernel) (pa_cons (pv 2) pa_nil)) (pv 6)) (pe_op op_mulA (pv 3) (pv 1))))
      (pss_one (ps_ret (pe_op op_add (pe_op op_mulA (pe_op op_fdivW (pv 2) (pv 6)) (pv 3)) (pe_callB (call_min2 rfl) (by rfl) T.z_min (by decide +kernel) (pa_cons (pe_callB (call_max2 rfl) (by rfl) T.z_max (by decide +kernel) (pa_cons (pv 7) (pa_cons pe_int pa_nil))) (pa_cons (pv 3) pa_nil))))))))), ?_⟩
    walk_at "go"
    refine ⟨_, _, rfl, ?_⟩
    walk_at "go"
    refine ⟨_, _, rfl, ?_⟩
    walk_at "go"
    exact q
def lC (b h s k m : Int) : Int := lA b h k (m + s) - lA b h k s
def sp_count : Sp := fun vs H Q _ => ∃ (p : Addr) (b h s k m : Int), vs = [.ref p, .int k, .int m] ∧ H p = some (.tup [.int b, .int h, .int s]) ∧ 0 < b ∧ 0 < h ∧ B 700 b ∧ B 700 h ∧ B 700 k ∧ B 1900 s ∧ B 1900 m ∧ Q (.int (lC b h s k m)) H
theorem ok__law_count (T : Tx w K mg) : FnOk P w K mg base CX0 2 T.f__law_count T.fd__law_count ["_law_parts", "_law_house_here", "_law_many"] sp_count := by
  refine T.F__law_count.ok sc__law_count (fun vs H Q E h => ?_) (fun cdv A outer s H vs Q E hr h => ?_)
  · obtain ⟨p, b, h, s, k, m, rfl, _⟩ := h
    rfl
  · obtain ⟨p, b, h, s, k, m, rfl, hp, b0, h0, bB, hB, kB, sB, mB, q⟩ := h
    refine ⟨_, (pss_one (ps_ret (pe_op op_sub (pe_call (ok__law_ahead T) (hr.mono (by decide)) rfl T.g__law_ahead T.F__law_ahead.kp T.b__law_ahead .nil pass0 (pa_cons (pv 0) (pa_cons (pv 1) (pa_cons (pe_op op_add (pv 2) (pe_ix ix_tup (pv 0) pe_int (fun _ _ => rfl))) pa_nil)))) (pe_call (ok__law_ahead T) (hr.mono (by decide)) rfl T.g__law_ahead T.F__law_ahead.kp T.b__law_ahead .nil pass0 (pa_cons (pv 0) (pa_cons (pv 1) (pa_cons (pe_ix ix_tup (pv 0) pe_int (fun _ _ => rfl)) pa_nil))))))), ?_⟩
    walk_at "go"
    refine w_ixT hp rfl ?_
    walk_at "go"
    refine ⟨p, b, h, s, k, _, rfl, hp, b0, h0, bB, hB, kB, (mB.add sB).mono (by decide), ?_⟩
    walk_at "go"
    refine w_ixT hp rfl ?_
    walk_at "go"
    refine ⟨p, b, h, s, k, s, rfl, hp, b0, h0, bB, hB, kB, sB.mono (by decide), ?_⟩
    walk_at "go"
    exact q
/-- numbers at the ends of blocks and any -/
def sp_numbers : Sp := fun vs H Q _ => ∃ (d p : Addr) (n : Nat) (b h s : Int), vs = [.ref d, .ref p] ∧ H p = some (.tup [.int b, .int h, .int s]) ∧ 0 < b ∧ 0 < h ∧ B 112 b ∧ B 112 h ∧ Pen H d n ∧ n ≤ 999800 ∧
  ∀ (l : Addr) (ms : List Int) (H' : Hp), H' l = some (.lst (ms.map V.int)) → ms.length = 6 → (∀ m ∈ ms, 0 ≤ m ∧ B 500 m) → Pen H' d (n + 20) → Keep H H' → Q (.ref l) H'
theorem mx0 {x : Int} {k : Nat} (h : B k x) (e : 1 ≤ k) : 0 ≤ (if (0 : Int) > x then 0 else x) ∧ B k (if (0 : Int) > x then 0 else x) := by
  split
  · refine ⟨Int.le_refl _, ?_⟩
    show (0 : Int).natAbs < 2 ^ k
    exact Nat.pow_pos (by decide)
  · exact ⟨by omega, h⟩
theorem ok__law_numbers (T : Tx w K mg) : FnOk P w K mg base CX0 4 T.f__law_numbers T.fd__law_numbers ["_law_pen", "_law_parts"] sp_numbers := by
  refine T.F__law_numbers.ok sc__law_numbers (fun vs H Q E h => ?_) (fun cdv A outer s H vs Q E hr h => ?_)
  · obtain ⟨d, p, n, b, h, s, rfl, _⟩ := h
    rfl
  · obtain ⟨d, p, n, b, h, s, rfl, hp, b0, h0, bB, hB, hpen, hn, q⟩ := h
    have t0 : 0 < b * h := Int.mul_pos b0 h0
    have tB : B 224 (b * h) := bB.mul hB
    have c1 : CMulA b h := bB.cmul hB
    refine ⟨_, (pss_cons (ps_asg (pv 1) (pg_tup rfl (pgs_cons (pg_name (i := 2) sc__law_numbers.nd rfl (Or.inl rfl)) (pgs_cons (pg_name (i := 3) sc__law_numbers.nd rfl (Or.inl rfl)) (pgs_cons (pg_name (i := 4) sc__law_numbers.nd rfl (Or.inl rfl)) pgs_nil)))))
      (pss_cons (ps_set (i := 5) sc__law_numbers.nd rfl (Or.inl rfl) (pe_op op_sub (pe_op op_add (pe_op op_mulA (pe_op op_mulA (pe_call (ok__law_size T) (hr.mono (by decide)) rfl T.g__law_size T.F__law_size.kp T.b__law_size .nil pass0 (pa_cons (pv 0) (pa_cons pe_int pa_nil))) (pv 2)) (pv 3)) (pe_op op_mulA (pe_call (ok__law_draw T) (hr.mono (by decide)) rfl T.g__law_draw T.F__law_draw.kp T.b__law_draw .nil pass0 (pa_cons (pv 0) (pa_cons (pv 3) pa_nil))) (pv 2))) (pe_op op_mod (pe_callTy call_int1 (by rfl) T.z_int (by decide +kernel) (pa_cons (pv 4) pa_nil)) (pe_op op_mulA (pv 2) (pv 3)))))
      (pss_one (ps_ret (pe_lst (pa_cons pe_int (pa_cons pe_int (pa_cons (pe_callB (call_max2 rfl) (by rfl) T.z_max (by decide +kernel) (pa_cons (pe_op op_sub (pv 5) pe_int) (pa_cons pe_int pa_nil))) (pa_cons (pe_callB (call_max2 rfl) (by rfl) T.z_max (by decide +kernel) (pa_cons (pv 5) (pa_cons pe_int pa_nil))) (pa_cons (pe_callB (call_max2 rfl) (by rfl) T.z_max (by decide +kernel) (pa_cons (pe_op op_add (pv 5) (pv 2)) (pa_cons pe_int pa_nil))) (pa_cons (pe_call (ok__law_size T) (hr.mono (by decide)) rfl T.g__law_size T.F__law_size.kp T.b__law_size .nil pass0 (pa_cons (pv 0) (pa_cons pe_int pa_nil))) pa_nil))))))))))), ?_⟩
    walk_at "go"
    refine ⟨d, 20, n, rfl, by omega, by omega, hpen, by omega, fun r1 H1 r10 r1B p1 k1 => ?_⟩
    have c2 : CMulA r1 b := r1B.cmul bB
    have x1 := r1B.mul bB
    have c3 : CMulA (r1 * b) h := x1.cmul hB
    walk_at "go"
    refine ⟨d, h, n + 6, rfl, p1, by omega, h0, (Int.lt_of_le_of_lt Int.le_natAbs (Int.ofNat_lt.mpr (Nat.lt_of_lt_of_le hB (Nat.pow_le_pow_right (by decide) (by decide))))), fun r2 H2 r20 r21 p2 k2 => ?_⟩
    have r2B : B 112 r2 := hB.le r20 (by omega)
    have c4 : CMulA r2 b := r2B.cmul bB
    have nB : B 338 (r1 * b * h + r2 * b - s % (b * h)) := (((x1.mul hB).add (r2B.mul bB)).sub (tB.mod t0 (a := s))).mono (by decide)
    walk_at "go"
    generalize hnear : r1 * b * h + r2 * b - s % (b * h) = near at *
    refine ⟨near - 1, 0, rfl, ?_⟩
    walk_at "go"
    refine ⟨near, 0, rfl, ?_⟩
    walk_at "go"
    refine ⟨near + b, 0, rfl, ?_⟩
    walk_at "go"
    refine ⟨d, 60, n + 7, rfl, by omega, by omega, p2, by omega, fun r3 H3 r30 r3B p3 k3 => ?_⟩
    walk_at "go"
    have m1 := mx0 (nB.sub (B.small (by decide) (by decide) : B 338 1)) (by decide)
    have m2 := mx0 nB (by decide)
    have m3 := mx0 (nB.add bB) (by decide)
    refine w_new (by assumption) (Nat.le_of_ble_eq_true rfl) (fun l H4 n4 s4 e4 => ?_)
    refine q l [0, 1, if (0 : Int) > near - 1 then 0 else near - 1, if (0 : Int) > near then 0 else near, if (0 : Int) > near + b then 0 else near + b, r3] H4 e4 rfl (fun m hm => ?_) ((p3.same s4).mono (by omega)) (by walk_at "keep")
    · simp only [List.mem_cons, List.not_mem_nil, or_false] at hm
      rcases hm with rfl | rfl | rfl | rfl | rfl | rfl
      · exact ⟨by omega, B.small (by decide) (by decide)⟩
      · exact ⟨by omega, B.small (by decide) (by decide)⟩
      · exact ⟨m1.1, m1.2.mono (by decide)⟩
      · exact ⟨m2.1, m2.2.mono (by decide)⟩
      · exact ⟨m3.1, m3.2.mono (by decide)⟩
      · exact ⟨by omega, r3B.mono (by decide)⟩
end
end K17
namespace K17
open PySem L2 DS
/-! ### the mathematics of deals -/
theorem emod_unique {x q r m : Int} (h : x = m * q + r) (h0 : 0 ≤ r) (h1 : r < m) : x % m = r ∧ x / m = q := by
  have hm : 0 < m := by omega
  subst h
  constructor
  · rw [Int.mul_add_emod_self_left, Int.emod_eq_of_lt h0 h1]
  · rw [Int.add_comm, Int.add_mul_ediv_left _ _ (by omega), Int.ediv_eq_zero_of_lt h0 h1, Int.zero_add]
theorem shift_div (x k m : Int) (hm : 0 < m) : (x + m * k) / m = x / m + k := Int.add_mul_ediv_left _ _ (by omega)
theorem shift_mod (x k m : Int) : (x + m * k) % m = x % m := Int.add_mul_emod_self_left _ _ _
/-- one house -/
theorem mod_one' (x : Int) : x % 1 = 0 := Int.emod_one x
theorem nb_one {b : Int} : nb b 1 = 1 := rfl
theorem nb_more {b h : Int} (e : 1 < h) : nb b h = b := if_pos e
/-- the house of a cell by the deal is the law's -/
theorem house_eq {b h s c : Int} (b0 : 0 < b) (h0 : 0 < h) : dH (DN b h s) c = lH b h s c := by
  show (c + s % (nb b h * h)) / nb b h % h = (c + s) / b % h
  by_cases h1 : 1 < h
  · rw [nb_more h1]
    have e : c + s = (c + s % (b * h)) + b * (h * (s / (b * h))) := by
      have := Int.emod_add_mul_ediv s (b * h)
      rw [← Int.mul_assoc]
      omega
    rw [e, shift_div _ _ _ b0, shift_mod]
  · have : h = 1 := by omega
    subst this
    rw [mod_one', mod_one']
/-- g by a whole turn more -/
theorem gB_turn {p l : Int} (x k : Int) (p0 : 0 < p) : gB p l (x + p * k) = gB p l x + l * k := by
  unfold gB
  rw [shift_div _ _ _ p0, shift_mod, Int.mul_add]
  omega
/-- ahead of a bound: the law's is g -/
theorem ahead_eq {b h k x : Int} (b0 : 0 < b) (h0 : 0 < h) (k0 : 0 ≤ k) (k1 : k < h) : lA b h k x = gB (b * h) b (x - b * k) := by
  have t0 : 0 < b * h := Int.mul_pos b0 h0
  have r0 := Int.emod_nonneg x (show b * h ≠ 0 by omega)
  have r1 := Int.emod_lt_of_pos x t0
  have e := Int.mul_ediv_add_emod x (b * h)
  have bk0 : 0 ≤ b * k := Int.mul_nonneg (by omega) k0
  have bk1 : b * k + b ≤ b * h := by
    have := Int.mul_le_mul_of_nonneg_left (show k + 1 ≤ h by omega) (Int.le_of_lt b0)
    rw [Int.mul_add, Int.mul_one] at this
    exact this
  unfold lA
  generalize hq : x / (b * h) = q at *
  generalize hr : x % (b * h) = r at *
  by_cases c : b * k ≤ r
  · obtain ⟨e1, e2⟩ := emod_unique (x := x - b * k) (q := q) (r := r - b * k) (m := b * h) (by omega) (by omega) (by omega)
    unfold gB
    rw [e1, e2, if_neg (show ¬ r - b * k < 0 by omega), Int.mul_comm b q]
  · obtain ⟨e1, e2⟩ := emod_unique (x := x - b * k) (q := q - 1) (r := r - b * k + b * h) (m := b * h) (by rw [Int.mul_sub, Int.mul_one]; omega) (by omega) (by omega)
    unfold gB
    rw [e1, e2, if_pos (show r - b * k < 0 by omega), if_neg (show ¬ b < 0 by omega), Int.mul_sub, Int.mul_one, Int.mul_comm b q]
    split <;> omega
/-- the count by the deal is the law's -/
theorem count_eq {b h s k m : Int} (b0 : 0 < b) (h0 : 0 < h) (k0 : 0 ≤ k) (k1 : k < h) : wC (dW (DN b h s) k) m = lC b h s k m := by
  by_cases h1 : 1 < h
  · have eD : DN b h s = (b, h, s % (b * h)) := by unfold DN; rw [nb_more h1]
    have t0 : 0 < b * h := Int.mul_pos b0 h0
    have lt : b < b * h := by
      have := Int.mul_lt_mul_of_pos_left h1 b0
      rw [Int.mul_one] at this
      exact this
    unfold lC
    rw [ahead_eq b0 h0 k0 k1, ahead_eq b0 h0 k0 k1, eD]
    show wC (WN (b * h) (k * b - s % (b * h)) b) m = _
    unfold WN
    rw [if_pos lt]
    show gB (b * h) b (m - (k * b - s % (b * h)) % (b * h)) - gB (b * h) b (-((k * b - s % (b * h)) % (b * h))) = _
    have e1 := Int.emod_add_mul_ediv (k * b - s % (b * h)) (b * h)
    have e2 := Int.emod_add_mul_ediv s (b * h)
    generalize hF : (k * b - s % (b * h)) % (b * h) = F at *
    generalize (k * b - s % (b * h)) / (b * h) = u at *
    generalize hS : s % (b * h) = S at *
    generalize s / (b * h) = v at *
    have x1 : m + s - b * k = (m - F) + b * h * (v - u) := by rw [Int.mul_sub, Int.mul_comm b k]; omega
    have x2 : s - b * k = -F + b * h * (v - u) := by rw [Int.mul_sub, Int.mul_comm b k]; omega
    rw [x1, x2, gB_turn _ _ t0, gB_turn _ _ t0]
    omega
  · have e : h = 1 := by omega
    subst e
    have ek : k = 0 := by omega
    subst ek
    unfold lC
    rw [ahead_eq b0 h0 k0 k1, ahead_eq b0 h0 k0 k1]
    show wC (WN (nb b 1 * 1) (0 * nb b 1 - s % (nb b 1 * 1)) (nb b 1)) m = _
    rw [nb_one]
    show gB 1 1 (m - 0) - gB 1 1 (-0) = gB (b * 1) b (m + s - b * 0) - gB (b * 1) b (s - b * 0)
    have gb : ∀ x, gB (b * 1) b (x - b * 0) = x := fun x => by
      unfold gB
      rw [Int.mul_one, Int.mul_zero, Int.sub_zero, if_neg (by have := Int.emod_lt_of_pos x b0; omega)]
      exact Int.mul_ediv_add_emod x b
    have g1 : ∀ x, gB 1 1 x = x := fun x => by
      unfold gB
      rw [mod_one', Int.ediv_one]
      simp
    rw [gb, gb, g1, g1]
    omega
/-- one number more -/
theorem gB_step {p l x : Int} (p0 : 0 < p) (l0 : 0 < l) (l1 : l ≤ p) : gB p l (x + 1) = gB p l x + (if x % p < l then 1 else 0) := by
  have r0 := Int.emod_nonneg x (show p ≠ 0 by omega)
  have r1 := Int.emod_lt_of_pos x p0
  have e := Int.mul_ediv_add_emod x p
  unfold gB
  generalize x / p = q at *
  generalize hr : x % p = r at *
  by_cases c : r + 1 < p
  · obtain ⟨e1, e2⟩ := emod_unique (x := x + 1) (q := q) (r := r + 1) (m := p) (by omega) (by omega) c
    rw [e1, e2]
    split <;> split <;> split <;> omega
  · obtain ⟨e1, e2⟩ := emod_unique (x := x + 1) (q := q + 1) (r := 0) (m := p) (by rw [Int.mul_add, Int.mul_one]; omega) (by omega) (by omega)
    rw [e1, e2, Int.mul_add, Int.mul_one]
    split <;> split <;> split <;> omega
/-- a cell lies in the house where it is -/
theorem house_iff {b h s k c : Int} (b0 : 0 < b) (h0 : 0 < h) (k0 : 0 ≤ k) (k1 : k < h) : (c + s - b * k) % (b * h) < b ↔ lH b h s c = k := by
  have t0 : 0 < b * h := Int.mul_pos b0 h0
  have e := Int.mul_ediv_add_emod (c + s) b
  have r0 := Int.emod_nonneg (c + s) (show b ≠ 0 by omega)
  have r1 := Int.emod_lt_of_pos (c + s) b0
  unfold lH
  generalize hx : c + s = x at *
  generalize hq : x / b = q at *
  generalize hr : x % b = r at *
  have e2 := Int.mul_ediv_add_emod q h
  have s0 := Int.emod_nonneg q (show h ≠ 0 by omega)
  have s1 := Int.emod_lt_of_pos q h0
  generalize hQ : q / h = Q at *
  generalize hS : q % h = S at *
  have bS : b * S + b ≤ b * h := by
    have := Int.mul_le_mul_of_nonneg_left (show S + 1 ≤ h by omega) (Int.le_of_lt b0)
    rw [Int.mul_add, Int.mul_one] at this
    exact this
  have bS0 : 0 ≤ b * S := Int.mul_nonneg (by omega) s0
  have ex : x = b * h * Q + (b * S + r) := by
    rw [← e, ← e2, Int.mul_add, Int.mul_assoc]
    omega
  by_cases c1 : S = k
  · subst c1
    obtain ⟨e3, _⟩ := emod_unique (x := x - b * S) (q := Q) (r := r) (m := b * h) (by omega) r0 (by omega)
    rw [e3]
    exact ⟨fun _ => rfl, fun _ => r1⟩
  · refine ⟨fun z => absurd z ?_, fun z => absurd z c1⟩
    by_cases c2 : k < S
    · have : b * k + b ≤ b * S := by
        have := Int.mul_le_mul_of_nonneg_left (show k + 1 ≤ S by omega) (Int.le_of_lt b0)
        rw [Int.mul_add, Int.mul_one] at this
        exact this
      obtain ⟨e3, _⟩ := emod_unique (x := x - b * k) (q := Q) (r := b * S + r - b * k) (m := b * h) (by omega) (by omega) (by have : 0 ≤ b * k := Int.mul_nonneg (by omega) k0; omega)
      rw [e3]
      omega
    · have h1 : b * S + b ≤ b * k := by
        have := Int.mul_le_mul_of_nonneg_left (show S + 1 ≤ k by omega) (Int.le_of_lt b0)
        rw [Int.mul_add, Int.mul_one] at this
        exact this
      have h2 : b * k + b ≤ b * h := by
        have := Int.mul_le_mul_of_nonneg_left (show k + 1 ≤ h by omega) (Int.le_of_lt b0)
        rw [Int.mul_add, Int.mul_one] at this
        exact this
      obtain ⟨e3, _⟩ := emod_unique (x := x - b * k) (q := Q - 1) (r := b * S + r - b * k + b * h) (m := b * h) (by rw [Int.mul_sub, Int.mul_one]; omega) (by omega) (by omega)
      rw [e3]
      omega
theorem count_step {b h s k m : Int} (b0 : 0 < b) (h0 : 0 < h) (k0 : 0 ≤ k) (k1 : k < h) : lC b h s k (m + 1) = lC b h s k m + (if lH b h s m = k then 1 else 0) := by
  unfold lC
  rw [ahead_eq b0 h0 k0 k1, ahead_eq b0 h0 k0 k1, ahead_eq b0 h0 k0 k1]
  have t0 : 0 < b * h := Int.mul_pos b0 h0
  have l1 : b ≤ b * h := by
    have := Int.mul_le_mul_of_nonneg_left (show 1 ≤ h by omega) (Int.le_of_lt b0)
    rw [Int.mul_one] at this
    exact this
  have e : m + 1 + s - b * k = (m + s - b * k) + 1 := by omega
  rw [e, gB_step t0 b0 l1]
  have q := house_iff (s := s) (c := m) b0 h0 k0 k1
  by_cases c : lH b h s m = k
  · rw [if_pos c, if_pos (q.mpr c)]
    omega
  · rw [if_neg c, if_neg (fun z => c (q.mp z))]
    omega
/-- a number is in the window just if it lies in the house -/
theorem win_iff {b h s k m : Int} (b0 : 0 < b) (h0 : 0 < h) (k0 : 0 ≤ k) (k1 : k < h) : ((m - (dW (DN b h s) k).2.1) % (dW (DN b h s) k).1 < (dW (DN b h s) k).2.2) ↔ lH b h s m = k := by
  by_cases h1 : 1 < h
  · have eD : DN b h s = (b, h, s % (b * h)) := by unfold DN; rw [nb_more h1]
    have lt : b < b * h := by
      have := Int.mul_lt_mul_of_pos_left h1 b0
      rw [Int.mul_one] at this
      exact this
    rw [← house_iff b0 h0 k0 k1, eD]
    show (m - (WN (b * h) (k * b - s % (b * h)) b).2.1) % (WN (b * h) (k * b - s % (b * h)) b).1 < (WN (b * h) (k * b - s % (b * h)) b).2.2 ↔ _
    unfold WN
    rw [if_pos lt]
    show (m - (k * b - s % (b * h)) % (b * h)) % (b * h) < b ↔ _
    have e1 := Int.emod_add_mul_ediv (k * b - s % (b * h)) (b * h)
    have e2 := Int.emod_add_mul_ediv s (b * h)
    generalize hF : (k * b - s % (b * h)) % (b * h) = F at *
    generalize (k * b - s % (b * h)) / (b * h) = u at *
    generalize hS : s % (b * h) = S at *
    generalize s / (b * h) = v at *
    have x1 : m + s - b * k = (m - F) + b * h * (v - u) := by rw [Int.mul_sub, Int.mul_comm b k]; omega
    rw [x1, shift_mod]
  · have e : h = 1 := by omega
    subst e
    have ek : k = 0 := by omega
    subst ek
    show (m - (WN (nb b 1 * 1) (0 * nb b 1 - s % (nb b 1 * 1)) (nb b 1)).2.1) % (WN (nb b 1 * 1) (0 * nb b 1 - s % (nb b 1 * 1)) (nb b 1)).1 < (WN (nb b 1 * 1) (0 * nb b 1 - s % (nb b 1 * 1)) (nb b 1)).2.2 ↔ (m + s) / b % 1 = 0
    rw [nb_one, mod_one']
    show (m - 0) % 1 < 1 ↔ _
    rw [mod_one']
    simp
/-- the window by the document -/
theorem win_due {b h s k : Int} (h1 : 1 < h) : dW (DN b h s) k = WN (b * h) (b * k - s) b := by
  have eD : DN b h s = (b, h, s % (b * h)) := by unfold DN; rw [nb_more h1]
  rw [eD]
  show WN (b * h) (k * b - s % (b * h)) b = _
  unfold WN
  have e2 := Int.emod_add_mul_ediv s (b * h)
  have x : k * b - s % (b * h) = (b * k - s) + b * h * (s / (b * h)) := by rw [Int.mul_comm k b]; omega
  rw [x, shift_mod]
theorem win_due1 {b s k : Int} : dW (DN b 1 s) k = WN 1 0 1 := by
  show WN (nb b 1 * 1) (k * nb b 1 - s % (nb b 1 * 1)) (nb b 1) = _
  rw [nb_one]
  rfl
/-- all houses together have all numbers -/
theorem sum_ahead {b h x : Int} (b0 : 0 < b) (h0 : 0 < h) : ∀ n : Nat, (n : Int) ≤ h → ((List.range n).map fun (k : Nat) => lA b h k x).sum = n * (x / (b * h) * b) + (if b * n < x % (b * h) then b * n else x % (b * h))
  | 0, _ => by
    have r0 := Int.emod_nonneg x (show b * h ≠ 0 from Int.ne_of_gt (Int.mul_pos b0 h0))
    simp
    omega
  | n + 1, hn => by
    have r0 := Int.emod_nonneg x (show b * h ≠ 0 from Int.ne_of_gt (Int.mul_pos b0 h0))
    rw [List.range_succ, List.map_append, List.sum_append, sum_ahead b0 h0 n (by omega)]
    simp only [List.map_cons, List.map_nil, List.sum_cons, List.sum_nil]
    unfold lA
    generalize x / (b * h) * b = q at *
    generalize x % (b * h) = r at *
    have e : b * ((n + 1 : Nat) : Int) = b * (n : Int) + b := by
      rw [Int.natCast_add, Int.mul_add]
      simp
    have e2 : ((n + 1 : Nat) : Int) * q = (n : Int) * q + q := by
      rw [Int.natCast_add, Int.add_mul]
      simp
    rw [e, e2]
    have bn : 0 ≤ b * (n : Int) := Int.mul_nonneg (by omega) (by omega)
    generalize (n : Int) * q = u at *
    generalize b * (n : Int) = v at *
    split <;> split <;> split <;> first | omega | (split <;> omega)
theorem sum_counts {b s m : Int} {h : Nat} (b0 : 0 < b) (h0 : 0 < h) : ((List.range h).map fun (k : Nat) => lC b h s k m).sum = m := by
  have key : ∀ x, ((List.range h).map fun (k : Nat) => lA b h k x).sum = x := fun x => by
    have t0 : 0 < b * (h : Int) := Int.mul_pos b0 (by omega)
    have r1 := Int.emod_lt_of_pos x t0
    have e := Int.mul_ediv_add_emod x (b * h)
    rw [sum_ahead b0 (by omega) h (Int.le_refl _), if_neg (by omega)]
    have e3 : (h : Int) * (x / (b * h) * b) = b * h * (x / (b * h)) := by
      rw [Int.mul_comm (x / (b * h)) b, ← Int.mul_assoc, Int.mul_comm (h : Int) b]
    rw [e3]
    exact e
  have sub : ∀ (l : List Nat) (f g : Nat → Int), (l.map fun k => f k - g k).sum = (l.map f).sum - (l.map g).sum := by
    intro l f g
    induction l with
    | nil => rfl
    | cons a r ih =>
      simp only [List.map_cons, List.sum_cons]
      rw [ih]
      omega
  have z := sub (List.range h) (fun k => lA b h k (m + s)) (fun k => lA b h k s)
  unfold lC
  rw [z, key, key]
  omega
end K17
namespace K17
open PySem L2 DS NdefX
set_option pp.maxSteps 1200
local macro_rules | `(tactic| walk_at "c") => `(tactic| first
  | (dsimp only; omega)
  | omega
  | (show CMulA _ _; first | exact CMulA.s1 (by omega) (by omega) | exact CMulA.s2 (by omega) (by omega))
  | (show CDivW _ _; first | exact ⟨by omega, by assumption⟩ | exact ⟨by omega, by decide⟩)
  | (show CPow _ _; exact ⟨by decide, by decide, by decide⟩)
  | assumption)
local macro_rules | `(tactic| walk_at "get") => `(tactic| first
  | assumption
  | (refine (by assumption : Same _ _) _ _ ?_; walk_at "get")
  | (refine (by assumption : Keep _ _) _ _ ?_ rfl; walk_at "get"))
local macro_rules | `(tactic| walk_at "pen") => `(tactic| first
  | assumption
  | (refine Pen.same (by assumption) ?_; walk_at "pen")
  | (refine Pen.mono ?_ (by omega); assumption))
local macro_rules | `(tactic| walk_at "keep") => `(tactic| first
  | assumption
  | exact Keep.refl _
  | exact Keep.of (by assumption)
  | (refine Keep.trans ?_ (by assumption); walk_at "keep")
  | (refine Keep.same ?_ (by assumption); walk_at "keep"))
local macro_rules | `(tactic| walk_at "same") => `(tactic| first
  | assumption
  | exact Same.refl _
  | (refine Same.trans ?_ (by assumption); walk_at "same"))
local macro_rules | `(tactic| walk_at "s0") => `(tactic| first
  | with_reducible refine w_seq ?_
  | with_reducible refine w_asg ?_
  | with_reducible refine w_name ?_
  | ((with_reducible apply w_var); exact rfl)
  | with_reducible refine w_c ?_
  | with_reducible refine w_op ?_
  | with_reducible refine w_I0 ?_
  | ((with_reducible apply w_I); (walk_at "c"))
  | with_reducible refine w_cons ?_
  | with_reducible refine w_nil ?_
  | with_reducible refine w_cb ?_
  | with_reducible refine w_int1 ?_
  | with_reducible refine w_int1b ?_
  | with_reducible refine w_call ?_
  | with_reducible refine w_test ?_
  | with_reducible refine w_k ?_
  | with_reducible refine w_ret ?_
  | with_reducible refine w_drop ?_
  | with_reducible refine w_not ?_
  | with_reducible refine w_and ?_
  | with_reducible refine w_or ?_
  | with_reducible refine w_andV ?_
  | with_reducible refine w_orV ?_
  | with_reducible refine w_notV ?_
  | with_reducible refine w_if ?_
  | with_reducible refine w_B ?_
  | with_reducible refine w_un ?_
  | with_reducible refine w_U ?_
  | (with_reducible refine w_tup ?_; intro _ _)
  | (with_reducible refine w_lst ?_; intro _ _)
  | with_reducible refine w_dget ?_
  | with_reducible refine w_dput ?_
  | with_reducible refine w_fld ?_
  | with_reducible refine w_meth ?_
  | (with_reducible refine w_make ?_; intro _ _)
  | with_reducible refine w_par ?_
  | with_reducible refine w_par3 ?_
  | with_reducible refine w_two ?_
  | with_reducible refine w_three ?_
  | with_reducible refine w_one ?_
  | with_reducible refine w_chain ?_
  | with_reducible refine w_next ?_
  | with_reducible refine w_brk ?_
  | with_reducible refine w_cont ?_
  | with_reducible refine w_retN ?_
  | with_reducible refine w_gcons ?_
  | with_reducible refine w_gnil ?_
  | ((with_reducible refine w_eq ?_ ?_); exact rfl)
  | ((with_reducible refine w_ne ?_ ?_); exact rfl)
  | with_reducible refine w_part ?_
  | with_reducible refine w_lc ?_
  | with_reducible refine w_bm ?_
  | with_reducible refine w_lcS ?_
  | with_reducible refine w_yes ?_
  | with_reducible refine w_iTup ?_
  | with_reducible refine w_iList ?_
  | with_reducible refine w_unT ?_
  | with_reducible refine w_unT0 ?_
  | with_reducible refine w_unL ?_
  | with_reducible refine w_unL0 ?_
  | ((with_reducible apply w_gtup); (walk_at "get"); (exact rfl))
  | with_reducible refine w_gfld ?_
  | with_reducible refine w_sfld ?_
  | with_reducible refine w_risi ?_
  | with_reducible refine w_i ?_
  | with_reducible refine w_pnil ?_
  | with_reducible refine w_pcons ?_
  | with_reducible refine w_sl ?_
  | with_reducible refine w_nopart ?_
  | with_reducible refine w_for ?_
  | with_reducible refine w_while ?_
  | with_reducible refine w_irng1 ?_
  | with_reducible refine w_irng2 ?_
  | with_reducible refine And.intro (rfl : V.non = V.non) ?_)
local macro_rules | `(tactic| walk_at "s") => `(tactic| first | walk_at "s0" | with_reducible refine w_ifs ?_)
local macro_rules | `(tactic| walk_at "go") => `(tactic| repeat (walk_at "s"))
local macro_rules | `(tactic| walk_at "gi") => `(tactic| repeat (walk_at "s0"))

section
variable {P : Program} {w : World} {K : PySem.W.Frag} {mg : Str → Option Value} {base : Heap}
structure Raw (b h s : Int) : Prop where
  b0 : 0 < b
  h0 : 0 < h
  bB : B 112 b
  hB : B 112 h
  sB : B 300 s
theorem Raw.ok {b h s : Int} (r : Raw b h s) : DOk (DN b h s) := DN_ok r.b0 r.h0 (r.bB.mono (by decide)) (r.hB.mono (by decide))
def sp_cright (C : Addr) : Sp := fun vs H Q _ => ∃ (a p : Addr) (b h s k m : Int), vs = [.ref a, .ref p, .int k, .int m] ∧ Raw b h s ∧ DAt C H a (DN b h s) ∧ H p = some (.tup [.int b, .int h, .int s]) ∧ 0 ≤ k ∧ k < h ∧ 0 ≤ m ∧ B 500 m ∧ ∀ H', Same H H' → Q (.bl true) H'
theorem ok__law_counts_right (T : Tx w K mg) : FnOk P w K mg base CX0 8 T.f__law_counts_right T.fd__law_counts_right ["_law_deal", "_law_parts", "_law_house_here", "_law_many"] (sp_cright T.C_Deal) := by
  refine T.F__law_counts_right.ok sc__law_counts_right (fun vs H Q E h => ?_) (fun cdv A outer s H vs Q E hr h => ?_)
  · obtain ⟨a, p, b, h, s, k, m, rfl, _⟩ := h
    rfl
  · obtain ⟨a, p, b, h, s, k, m, rfl, rw, hD, hp, k0, k1, m0, mB, q⟩ := h
    obtain ⟨da, ha⟩ := id hD
    have ok := rw.ok
    have b0 := rw.b0
    have h0 := rw.h0
    have bB : B 700 b := rw.bB.mono (by decide)
    have hB : B 700 h := rw.hB.mono (by decide)
    have sB : B 1900 s := rw.sB.mono (by decide)
    have kB : B 700 k := hB.le k0 (by omega)
    have dno : ∀ {m : Str}, ¬ m = "houses" → ¬ m = "block" → ¬ m = "shift" → (dfs (DN b h s)).lookup m = none := fun h1 h2 h3 => dfs_no _ h1 h2 h3
    obtain ⟨w1, w2, w3⟩ := dW_B ok k
    have w0 := dW_pos ok k
    refine ⟨_, (pss_cons (ps_par (i := 4) (j := 5) rfl sc__law_counts_right.nd rfl rfl (by decide) rfl rfl (pa_cons (pe_meth (pv 0) T.cl_Deal T.m_Deal_window (ok_Deal_window T) (hr.mono (by decide)) T.b_Deal_window .nil pass0 (pa_cons (pv 2) pa_nil)) (pa_cons (pe_cmpR op_eq (pe_call (ok__law_house T) (hr.mono (by decide)) rfl T.g__law_house T.F__law_house.kp T.b__law_house .nil pass0 (pa_cons (pv 1) (pa_cons (pv 3) pa_nil))) (pv 2) (nomark _)) pa_nil)) rfl)
      (pss_cons (ps_if (PW.pt (pw_or (pt_not (pt_val (pe_call (ok__law_same T) (hr.mono (by decide)) rfl T.g__law_same T.F__law_same.kp T.b__law_same .nil pass0 (pa_cons (pe_cmpR (op_inOwn T.m_Window___contains__ (ok_Window___contains__ T) (hr.mono (by decide)) T.b_Window___contains__ pass0) (pv 3) (pv 4) rfl) (pa_cons (pv 5) pa_nil))))) (pw_or1 (pt_cmpR op_ne (pe_meth (pv 0) T.cl_Deal T.m_Deal_house (ok_Deal_house T) (hr.mono (by decide)) T.b_Deal_house .nil pass0 (pa_cons (pv 3) pa_nil)) (pe_call (ok__law_house T) (hr.mono (by decide)) rfl T.g__law_house T.F__law_house.kp T.b__law_house .nil pass0 (pa_cons (pv 1) (pa_cons (pv 3) pa_nil))) (nomark _))))) (pss_one (ps_ret pe_bl)) pss_nil)
      (pss_cons (ps_set (i := 6) sc__law_counts_right.nd rfl (Or.inl rfl) (pe_call (ok__law_count T) (hr.mono (by decide)) rfl T.g__law_count T.F__law_count.kp T.b__law_count .nil pass0 (pa_cons (pv 1) (pa_cons (pv 2) (pa_cons (pv 3) pa_nil)))))
      (pss_cons (ps_if (PW.pt (pw_or (pt_not (pt_val (pe_call (ok__law_same T) (hr.mono (by decide)) rfl T.g__law_same T.F__law_same.kp T.b__law_same .nil pass0 (pa_cons (pe_meth (pv 0) T.cl_Deal T.m_Deal_count (ok_Deal_count T) (hr.mono (by decide)) T.b_Deal_count .nil pass0 (pa_cons (pv 2) (pa_cons (pv 3) pa_nil))) (pa_cons (pv 6) pa_nil))))) (pw_or1 (pt_cmpR op_ne (pe_meth (pv 0) T.cl_Deal T.m_Deal_count (ok_Deal_count T) (hr.mono (by decide)) T.b_Deal_count .nil pass0 (pa_cons (pv 2) (pa_cons (pe_op op_add (pv 3) pe_int) pa_nil))) (pe_op op_add (pv 6) (pe_callTy call_int1 (by rfl) T.z_int (by decide +kernel) (pa_cons (pv 5) pa_nil))) (nomark _))))) (pss_one (ps_ret pe_bl)) pss_nil)
      (pss_one (ps_ret (pe_cmpR op_eq (pe_meth (pv 4) T.cl_Window T.m_Window_count (ok_Window_count T) (hr.mono (by decide)) T.b_Window_count .nil pass0 (pa_cons (pv 3) pa_nil)) (pv 6) (nomark _)))))))), ?_⟩
    walk_at "go"
    refine ⟨a, da, _, rfl, ha, dno (by decide +kernel) (by decide +kernel) (by decide +kernel), ?_⟩
    walk_at "go"
    refine ⟨a, _, k, rfl, hD, ok, k0, k1, fun x H1 s1 hW => ?_⟩
    obtain ⟨dw, hw⟩ := id hW
    walk_at "go"
    refine ⟨p, b, h, s, m, rfl, s1 _ _ hp, b0, h0, bB, ?_⟩
    walk_at "go"
    refine ⟨x, dw, _, rfl, hw, x, _, m, rfl, hW, w0, m0, ?_⟩
    refine ⟨_, rfl, ?_⟩
    walk_at "go"
    have ein : decide ((m - (dW (DN b h s) k).2.1) % (dW (DN b h s) k).1 < (dW (DN b h s) k).2.2) = decide (lH b h s m = k) := by
      have := win_iff (s := s) (m := m) b0 h0 k0 k1
      by_cases c : lH b h s m = k
      · rw [decide_eq_true c, decide_eq_true (this.mpr c)]
      · rw [decide_eq_false c, decide_eq_false (fun z => c (this.mp z))]
    simp only [V_int]
    rw [ein]
    refine ⟨_, _, rfl, .inr (.inr ⟨_, _, rfl, rfl, ?_⟩)⟩
    rw [decide_eq_true rfl]
    walk_at "go"
    refine iteF ?_
    walk_at "go"
    refine ⟨a, da, _, rfl, s1 _ _ ha, dno (by decide +kernel) (by decide +kernel) (by decide +kernel), ?_⟩
    walk_at "go"
    refine ⟨a, _, m, rfl, hD.same s1, ok, mB.mono (by decide), ?_⟩
    walk_at "go"
    refine ⟨p, b, h, s, m, rfl, s1 _ _ hp, b0, h0, bB, ?_⟩
    walk_at "go"
    rw [house_eq b0 h0]
    refine w_iteN (fun hc => absurd rfl hc) (fun _ => ?_)
    walk_at "go"
    refine ⟨p, b, h, s, k, m, rfl, s1 _ _ hp, b0, h0, bB, hB, kB, sB, mB.mono (by decide), ?_⟩
    walk_at "go"
    refine ⟨a, da, _, rfl, s1 _ _ ha, dno (by decide +kernel) (by decide +kernel) (by decide +kernel), ?_⟩
    walk_at "go"
    refine ⟨a, _, k, m, rfl, hD.same s1, ok, k0, k1, m0, mB.mono (by decide), fun H2 s2 => ?_⟩
    rw [count_eq b0 h0 k0 k1]
    walk_at "go"
    refine ⟨_, _, rfl, .inr (.inl ⟨_, _, rfl, rfl, ?_⟩)⟩
    rw [decide_eq_true rfl]
    walk_at "go"
    refine iteF ?_
    walk_at "go"
    have hD2 := (hD.same s1).same s2
    refine ⟨a, da, _, rfl, s2 _ _ (s1 _ _ ha), dno (by decide +kernel) (by decide +kernel) (by decide +kernel), ?_⟩
    walk_at "go"
    refine ⟨a, _, k, m + 1, rfl, hD2, ok, k0, k1, by omega, (mB.add (B.small (by decide) (by decide) : B 500 1)).mono (by decide), fun H3 s3 => ?_⟩
    rw [count_eq b0 h0 k0 k1, count_step b0 h0 k0 k1]
    walk_at "go"
    have eI : (if decide (lH b h s m = k) = true then (1 : Int) else 0) = (if lH b h s m = k then 1 else 0) := by
      by_cases c : lH b h s m = k <;> simp [c]
    rw [eI]
    refine w_iteN (fun hc => absurd rfl hc) (fun _ => ?_)
    walk_at "go"
    have hW3 := (hW.same s2).same s3
    refine ⟨x, dw, _, rfl, s3 _ _ (s2 _ _ hw), wfs_no _ _ _ (by decide +kernel) (by decide +kernel) (by decide +kernel), ?_⟩
    walk_at "go"
    refine ⟨x, _, m, rfl, hW3, w0, w1, w2, w3, mB.mono (by decide), m0, ?_⟩
    rw [count_eq b0 h0 k0 k1]
    walk_at "go"
    rw [decide_eq_true rfl]
    exact q H3 ((s1.trans s2).trans s3)
end
end K17
namespace K17
open PySem L2 DS NdefX
set_option pp.maxSteps 1200
local macro_rules | `(tactic| walk_at "c") => `(tactic| first
  | (dsimp only; omega)
  | omega
  | (show CMulA _ _; first | exact CMulA.s1 (by omega) (by omega) | exact CMulA.s2 (by omega) (by omega))
  | (show CDivW _ _; first | exact ⟨by omega, by assumption⟩ | exact ⟨by omega, by decide⟩)
  | (show CPow _ _; exact ⟨by decide, by decide, by decide⟩)
  | assumption)
local macro_rules | `(tactic| walk_at "get") => `(tactic| first
  | assumption
  | (refine (by assumption : Same _ _) _ _ ?_; walk_at "get")
  | (refine (by assumption : Keep _ _) _ _ ?_ rfl; walk_at "get"))
local macro_rules | `(tactic| walk_at "pen") => `(tactic| first
  | assumption
  | (refine Pen.same (by assumption) ?_; walk_at "pen")
  | (refine Pen.mono ?_ (by omega); assumption))
local macro_rules | `(tactic| walk_at "keep") => `(tactic| first
  | assumption
  | exact Keep.refl _
  | exact Keep.of (by assumption)
  | (refine Keep.trans ?_ (by assumption); walk_at "keep")
  | (refine Keep.same ?_ (by assumption); walk_at "keep"))
local macro_rules | `(tactic| walk_at "same") => `(tactic| first
  | assumption
  | exact Same.refl _
  | (refine Same.trans ?_ (by assumption); walk_at "same"))
local macro_rules | `(tactic| walk_at "s0") => `(tactic| first
  | with_reducible refine w_seq ?_
  | with_reducible refine w_asg ?_
  | with_reducible refine w_name ?_
  | ((with_reducible apply w_var); exact rfl)
  | with_reducible refine w_c ?_
  | with_reducible refine w_op ?_
  | with_reducible refine w_I0 ?_
  | ((with_reducible apply w_I); (walk_at "c"))
  | with_reducible refine w_cons ?_
  | with_reducible refine w_nil ?_
  | with_reducible refine w_cb ?_
  | with_reducible refine w_int1 ?_
  | with_reducible refine w_int1b ?_
  | with_reducible refine w_call ?_
  | with_reducible refine w_test ?_
  | with_reducible refine w_k ?_
  | with_reducible refine w_ret ?_
  | with_reducible refine w_drop ?_
  | with_reducible refine w_not ?_
  | with_reducible refine w_and ?_
  | with_reducible refine w_or ?_
  | with_reducible refine w_andV ?_
  | with_reducible refine w_orV ?_
  | with_reducible refine w_notV ?_
  | with_reducible refine w_if ?_
  | with_reducible refine w_B ?_
  | with_reducible refine w_un ?_
  | with_reducible refine w_U ?_
  | (with_reducible refine w_tup ?_; intro _ _)
  | (with_reducible refine w_lst ?_; intro _ _)
  | with_reducible refine w_dget ?_
  | with_reducible refine w_dput ?_
  | with_reducible refine w_fld ?_
  | with_reducible refine w_meth ?_
  | (with_reducible refine w_make ?_; intro _ _)
  | with_reducible refine w_par ?_
  | with_reducible refine w_par3 ?_
  | with_reducible refine w_two ?_
  | with_reducible refine w_three ?_
  | with_reducible refine w_one ?_
  | with_reducible refine w_chain ?_
  | with_reducible refine w_next ?_
  | with_reducible refine w_brk ?_
  | with_reducible refine w_cont ?_
  | with_reducible refine w_retN ?_
  | with_reducible refine w_gcons ?_
  | with_reducible refine w_gnil ?_
  | ((with_reducible refine w_eq ?_ ?_); exact rfl)
  | ((with_reducible refine w_ne ?_ ?_); exact rfl)
  | with_reducible refine w_part ?_
  | with_reducible refine w_lc ?_
  | with_reducible refine w_bm ?_
  | with_reducible refine w_lcS ?_
  | with_reducible refine w_yes ?_
  | with_reducible refine w_iTup ?_
  | with_reducible refine w_iList ?_
  | with_reducible refine w_unT ?_
  | with_reducible refine w_unT0 ?_
  | with_reducible refine w_unL ?_
  | with_reducible refine w_unL0 ?_
  | ((with_reducible apply w_gtup); (walk_at "get"); (exact rfl))
  | with_reducible refine w_gfld ?_
  | with_reducible refine w_sfld ?_
  | with_reducible refine w_risi ?_
  | with_reducible refine w_i ?_
  | with_reducible refine w_pnil ?_
  | with_reducible refine w_pcons ?_
  | with_reducible refine w_sl ?_
  | with_reducible refine w_nopart ?_
  | with_reducible refine w_for ?_
  | with_reducible refine w_while ?_
  | with_reducible refine w_irng1 ?_
  | with_reducible refine w_irng2 ?_
  | with_reducible refine And.intro (rfl : V.non = V.non) ?_)
local macro_rules | `(tactic| walk_at "s") => `(tactic| first | walk_at "s0" | with_reducible refine w_ifs ?_)
local macro_rules | `(tactic| walk_at "go") => `(tactic| repeat (walk_at "s"))
local macro_rules | `(tactic| walk_at "gi") => `(tactic| repeat (walk_at "s0"))

section
variable {P : Program} {w : World} {K : PySem.W.Frag} {mg : Str → Option Value} {base : Heap}
def sp_wright (C : Addr) : Sp := fun vs H Q _ => ∃ (d a p : Addr) (n : Nat) (b h s : Int), vs = [.ref d, .ref a, .ref p] ∧ Raw b h s ∧ DAt C H a (DN b h s) ∧ H p = some (.tup [.int b, .int h, .int s]) ∧ Pen H d n ∧ n ≤ 999700 ∧ ∀ H', Pen H' d (n + 50) → Keep H H' → Q (.bl true) H'
theorem ok__law_windows_right (T : Tx w K mg) : FnOk P w K mg base CX0 9 T.f__law_windows_right T.fd__law_windows_right ["_law_pen", "_law_deal", "_law_parts"] (sp_wright T.C_Deal) := by
  refine T.F__law_windows_right.ok sc__law_windows_right (fun vs H Q E h => ?_) (fun cdv A outer s H vs Q E hr h => ?_)
  · obtain ⟨d, a, p, n, b, h, s, rfl, _⟩ := h
    rfl
  · obtain ⟨d, a, p, n, b, h, s, rfl, rw, hD, hp, hpen, hn, q⟩ := h
    obtain ⟨da, ha⟩ := id hD
    have ok := rw.ok
    have b0 := rw.b0
    have h0 := rw.h0
    refine ⟨_, (pss_cons (ps_asg (pv 2) (pg_tup rfl (pgs_cons (pg_name (i := 3) sc__law_windows_right.nd rfl (Or.inl rfl)) (pgs_cons (pg_name (i := 4) sc__law_windows_right.nd rfl (Or.inl rfl)) (pgs_cons (pg_name (i := 5) sc__law_windows_right.nd rfl (Or.inl rfl)) pgs_nil)))))
      (pss_cons (ps_for PassesOwn.never rfl (pi_list (pe_call (ok__law_numbers T) (hr.mono (by decide)) rfl T.g__law_numbers T.F__law_numbers.kp T.b__law_numbers .nil pass0 (pa_cons (pv 0) (pa_cons (pv 2) pa_nil)))) (pg_name (i := 6) sc__law_windows_right.nd rfl (Or.inr rfl))
      (pss_cons (ps_set (i := 7) sc__law_windows_right.nd rfl (Or.inl rfl) (pe_call (ok__law_pick T) (hr.mono (by decide)) rfl T.g__law_pick T.F__law_pick.kp T.b__law_pick .nil pass0 (pa_cons (pv 0) (pa_cons (pe_lst (pa_cons pe_int (pa_cons (pe_op op_sub (pv 4) pe_int) (pa_cons (pe_call (ok__law_draw T) (hr.mono (by decide)) rfl T.g__law_draw T.F__law_draw.kp T.b__law_draw .nil pass0 (pa_cons (pv 0) (pa_cons (pv 4) pa_nil))) (pa_cons (pe_call (ok__law_house T) (hr.mono (by decide)) rfl T.g__law_house T.F__law_house.kp T.b__law_house .nil pass0 (pa_cons (pv 2) (pa_cons (pv 6) pa_nil))) pa_nil))))) pa_nil))))
      (pss_cons (ps_if (pt_not (pt_val (pe_call (ok__law_counts_right T) (hr.mono (by decide)) rfl T.g__law_counts_right T.F__law_counts_right.kp T.b__law_counts_right .nil pass0 (pa_cons (pv 1) (pa_cons (pv 2) (pa_cons (pv 7) (pa_cons (pv 6) pa_nil))))))) (pss_one (ps_ret pe_bl)) pss_nil)
      (pss_cons (ps_if (PW.pt (pw_and (pt_cmpR op_lt (pv 4) pe_int (nomark _)) (pw_and1 (pt_cmpR op_ne (pe_callB (cr_sum rfl) (by rfl) T.z_sum (by decide +kernel) (pa_cons (pe_lc (own := [("_law_each", 9)]) (g := (gName 9)) (te := (tMeth T.C_Deal "count" (sp_dcount T.C_Deal) [] E0 (tVar 1) (tCons (tVar 9) (tCons (tVar 6) tNil)))) (tt := tYes) rfl sc__law_windows_right.nd (pi_range1 (by rfl) T.z_range (pa_cons (pv 4) pa_nil)) (blkOk_by (N := N__law_windows_right) (sc := defScope s__law_windows_right) (by decide +kernel)) (fun _ _ _ _ _ => (pg_name (i := 9) sc__law_windows_right.nd rfl (Or.inl rfl))) (fun _ _ _ _ _ => pts_nil) (fun _ _ _ _ _ => (pe_meth (pv 1) T.cl_Deal T.m_Deal_count (ok_Deal_count T) (hr.mono (by decide)) T.b_Deal_count .nil pass0 (pa_cons (pv 9) (pa_cons (pv 6) pa_nil))))) pa_nil)) (pv 6) (nomark _))))) (pss_one (ps_ret pe_bl)) pss_nil)
      (pss_cons (ps_set (i := 8) sc__law_windows_right.nd rfl (Or.inl rfl) (pe_ifExp (pt_cmpR op_gt (pv 4) pe_int (nomark _)) (pe_make T.M_Window (ok_Window___init__ T) (hr.mono (by decide)) rfl T.gC_Window T.b_Window___init__ .nil pass0 (pa_cons (pe_op op_mulA (pv 3) (pv 4)) (pa_cons (pe_op op_sub (pe_op op_mulA (pv 3) (pv 7)) (pv 5)) (pa_cons (pv 3) pa_nil)))) (pe_make T.M_Window (ok_Window___init__ T) (hr.mono (by decide)) rfl T.gC_Window T.b_Window___init__ .nil pass0 (pa_cons pe_int (pa_cons pe_int (pa_cons pe_int pa_nil))))))
      (pss_one (ps_if (pt_cmpR (op_neII T.m_Window___eq__ T.ne_Window T.mo_Window (ok_Window___eq__ T) (hr.mono (by decide)) T.b_Window___eq__ pass0) (pe_meth (pv 1) T.cl_Deal T.m_Deal_window (ok_Deal_window T) (hr.mono (by decide)) T.b_Deal_window .nil pass0 (pa_cons (pv 7) pa_nil)) (pv 8) (nomark _)) (pss_one (ps_ret pe_bl)) pss_nil)))))))
      (pss_one (ps_ret pe_bl)))), ?_⟩
    walk_at "go"
    refine ⟨d, p, n, b, h, s, rfl, hp, b0, h0, rw.bB, rw.hB, hpen, by omega, fun l ms H1 e1 l1 m1 p1 k1 => ?_⟩
    have bB : B 700 b := rw.bB.mono (by decide)
    have tB : B 224 (b * h) := rw.bB.mul rw.hB
    have c1 : CMulA b h := rw.bB.cmul rw.hB
    have t0 : 0 < b * h := Int.mul_pos b0 h0
    have bh : b ≤ b * h := by
      have := Int.mul_le_mul_of_nonneg_left (show 1 ≤ h by omega) (Int.le_of_lt b0)
      rw [Int.mul_one] at this
      exact this
    have h200 : h < 2 ^ 200 := Int.lt_of_le_of_lt Int.le_natAbs (Int.ofNat_lt.mpr (Nat.lt_of_lt_of_le rw.hB (Nat.pow_le_pow_right (by decide) (by decide))))
    have dno : ∀ {m : Str}, ¬ m = "houses" → ¬ m = "block" → ¬ m = "shift" → (dfs (DN b h s)).lookup m = none := fun h1 h2 h3 => dfs_no _ h1 h2 h3
    have hD1 := hD.keep k1
    have hp1 := k1 _ _ hp rfl
    refine ⟨l, rfl, ⟨_, .inl (.inl e1)⟩, for_list (fun i σ H' => (∃ z6 z7 z8 z9, σ = [some (.ref d), some (.ref a), some (.ref p), some (.int b), some (.int h), some (.int s), z6, z7, z8, z9]) ∧ Keep H1 H' ∧ Pen H' d (n + 20 + 2 * i))
      ⟨⟨none, none, none, none, rfl⟩, Keep.refl _, p1⟩ (fun i σ H' hi hI => .inl (.inl (hI.2.1 _ _ e1 rfl))) (fun i x σ H2 hx hI => ?_) (fun σ H2 hI => ?_)⟩
    · obtain ⟨⟨z6, z7, z8, z9, rfl⟩, k2, p2⟩ := hI
      have hi6 : i < 6 := by
        have := (List.getElem?_eq_some_iff.mp hx).1
        rw [List.length_map] at this
        omega
      obtain ⟨m, hm, rfl⟩ : ∃ m, m ∈ ms ∧ x = .int m := by
        obtain ⟨m, hm, e⟩ := List.mem_map.mp (List.mem_of_getElem? hx)
        exact ⟨m, hm, e.symm⟩
      obtain ⟨m0, mB⟩ := m1 m hm
      have hD2 := hD1.keep k2
      have hp2 := k2 _ _ hp1 rfl
      obtain ⟨da2, ha2⟩ := id hD2
      walk_at "gi"
      refine ⟨d, h, _, rfl, p2, by omega, h0, h200, fun r3 H3 r30 r31 p3 k3 => ?_⟩
      have hp3 := k3 _ _ hp2 rfl
      walk_at "gi"
      refine ⟨p, b, h, s, m, rfl, hp3, b0, h0, bB, ?_⟩
      walk_at "gi"
      refine w_new (by assumption) (Nat.le_of_ble_eq_true rfl) (fun l4 H4 n4 s4 e4 => ?_)
      walk_at "gi"
      refine ⟨d, l4, _, _, rfl, p3.same s4, by omega, e4, Nat.le_of_ble_eq_true rfl, Nat.le_of_ble_eq_true rfl, fun v5 H5 m5 p5 k5 => ?_⟩
      obtain ⟨k, rfl, kk0, kk1⟩ : ∃ k : Int, v5 = .int k ∧ 0 ≤ k ∧ k < h := by
        simp only [List.mem_cons, List.not_mem_nil, or_false] at m5
        rcases m5 with z | z | z | z
        · exact ⟨_, z, by omega, by omega⟩
        · exact ⟨_, z, by omega, by omega⟩
        · exact ⟨_, z, r30, r31⟩
        · exact ⟨_, z, Int.emod_nonneg _ (by omega), Int.emod_lt_of_pos _ h0⟩
      have kA : Keep H2 H5 := (k3.trans (Keep.of s4)).trans k5
      have hD5 := hD2.keep kA
      have hp5 := kA _ _ hp2 rfl
      obtain ⟨da5, ha5⟩ := id hD5
      have kB : B 112 k := rw.hB.le kk0 (by omega)
      walk_at "gi"
      refine w_ifF (fun H' => Same H5 H') (fun R hR => ?_) (fun H6 s6 => ?_)
      · walk_at "gi"
        refine ⟨a, p, b, h, s, k, m, rfl, rw, hD5, hp5, kk0, kk1, m0, mB, fun H6 s6 => ?_⟩
        walk_at "gi"
        exact hR H6 s6
      walk_at "gi"
      refine w_ifF (fun H' => Same H6 H') (fun R hR => ?_) (fun H7 s7 => ?_)
      · walk_at "gi"
        refine w_ite (fun h7 => ?_) (fun _ => hR _ (Same.refl _))
        walk_at "gi"
        obtain ⟨hn', rfl⟩ : ∃ hn : Nat, h = hn := ⟨h.toNat, by omega⟩
        refine ⟨by omega, by omega, fun D nD => lc_range (fun i G => Same H6 G ∧ G D = some (.lst ((List.range i).map fun (k : Nat) => V.int (lC b hn' s k m)))) ⟨same_upd nD, upd_same⟩ ?_ ?_⟩
        · intro i' G hi' hI'
          obtain ⟨sG, eD⟩ := hI'
          have hDG := (hD5.same s6).same sG
          obtain ⟨daG, haG⟩ := id hDG
          walk_at "gi"
          refine ⟨rfl, ?_⟩
          walk_at "gi"
          refine iteT ?_
          walk_at "gi"
          refine ⟨a, daG, _, rfl, haG, dno (by decide +kernel) (by decide +kernel) (by decide +kernel), ?_⟩
          walk_at "gi"
          have i1 : ((0 : Int) + (i' : Nat)) < (hn' : Int) := by
            rw [Int.toNat_natCast] at hi'
            omega
          refine ⟨a, _, _, m, rfl, hDG, ok, by omega, i1, m0, mB.mono (by decide), fun G2 sG2 => ?_⟩
          rw [count_eq b0 h0 (by omega) i1]
          refine ⟨_, sG2 _ _ eD, ?_, fun bb o z => ?_, ?_⟩
          · rw [List.length_map, List.length_range]
            rw [Int.toNat_natCast] at hi'
            have : (7 : Nat) ≤ sizeLine := by decide
            omega
          · have nb : bb ≠ D := ne_of_none z nD
            rw [upd_ne nb]
            exact sG2 _ _ (sG bb o z)
          · rw [upd_same, List.range_succ, List.map_append]
            simp
        · intro G hI'
          obtain ⟨sG, eD⟩ := hI'
          rw [Int.toNat_natCast] at eD
          walk_at "gi"
          refine ⟨D, (List.range hn').map (fun (k : Nat) => lC b hn' s k m), rfl, .inl (.inl ?_), ?_⟩
          · rw [eD, List.map_map]
            rfl
          rw [sum_counts b0 (by omega)]
          walk_at "gi"
          exact R_ne (hR G sG)
      have s67 := s6.trans s7
      have hD7 := hD5.same s67
      obtain ⟨da7, ha7⟩ := id hD7
      have p7 : Pen H7 d (n + 20 + 2 * (i + 1)) := (p5.same s67).mono (by omega)
      have k7 : Keep H1 H7 := (k2.trans kA).trans (Keep.of s67)
      have c2 : CMulA b k := rw.bB.cmul kB
      walk_at "gi"
      refine w_join (A := fun R => tMake _ _ _ _ _ _ _ R) (B := fun R => tMake _ _ _ _ _ _ _ R) (fun v G => ∃ x, v = .ref x ∧ Same H7 G ∧ WAt T.C_Window G x (dW (DN b h s) k)) (fun h1 R hR => ?_) (fun h1 R hR => ?_) (fun v H8 z => ?_)
      · walk_at "gi"
        exact fun x dx nx nd ne => ⟨x, dx, _, _, _, rfl, b0, bh, make_ini (by assumption) nx nd ne (fun G sG hG => hR _ _ ⟨x, rfl, sG, by rw [win_due h1]; exact hG⟩)⟩
      · have eh : h = 1 := by omega
        walk_at "gi"
        exact fun x dx nx nd ne => ⟨x, dx, _, _, _, rfl, by decide, by decide, make_ini (by assumption) nx nd ne (fun G sG hG => hR _ _ ⟨x, rfl, sG, by rw [eh, win_due1]; exact hG⟩)⟩
      obtain ⟨x8, rfl, s8, hW8⟩ := z
      obtain ⟨dw8, hw8⟩ := id hW8
      walk_at "gi"
      dsimp only
      refine w_ifF (fun H' => Same H7 H') (fun R hR => ?_) (fun H9 s9 => ?_)
      · walk_at "gi"
        refine ⟨a, da7, _, rfl, s8 _ _ ha7, dno (by decide +kernel) (by decide +kernel) (by decide +kernel), ?_⟩
        walk_at "gi"
        refine ⟨a, _, k, rfl, hD7.same s8, ok, kk0, kk1, fun y G sG hWy => ?_⟩
        obtain ⟨dy, hy⟩ := id hWy
        walk_at "gi"
        refine ⟨y, x8, dy, dw8, _, _, rfl, rfl, hy, sG _ _ hw8, y, x8, _, _, rfl, hWy, hW8.same sG, fun G2 sG2 => ?_⟩
        rw [decide_eq_true rfl]
        refine ⟨true, rfl, ?_⟩
        walk_at "gi"
        exact hR G2 ((s8.trans sG).trans sG2)
      walk_at "gi"
      exact ⟨⟨_, _, _, _, rfl⟩, k7.trans (Keep.of s9), p7.same s9⟩
    · obtain ⟨⟨z6, z7, z8, z9, rfl⟩, k2, p2⟩ := hI
      walk_at "go"
      refine q H2 (p2.mono ?_) (k1.trans k2)
      rw [List.length_map, l1]
      omega
end
end K17
namespace K17
open PySem L2 DS NdefX LamX
set_option pp.maxSteps 1200
local macro_rules | `(tactic| walk_at "c") => `(tactic| first
  | (dsimp only; omega)
  | omega
  | (show CMulA _ _; first | exact CMulA.s1 (by omega) (by omega) | exact CMulA.s2 (by omega) (by omega))
  | (show CDivW _ _; first | exact ⟨by omega, by assumption⟩ | exact ⟨by omega, by decide⟩)
  | (show CPow _ _; exact ⟨by decide, by decide, by decide⟩)
  | assumption)
local macro_rules | `(tactic| walk_at "get") => `(tactic| first
  | assumption
  | (refine (by assumption : Same _ _) _ _ ?_; walk_at "get")
  | (refine (by assumption : Keep _ _) _ _ ?_ rfl; walk_at "get"))
local macro_rules | `(tactic| walk_at "pen") => `(tactic| first
  | assumption
  | (refine Pen.same (by assumption) ?_; walk_at "pen")
  | (refine Pen.mono ?_ (by omega); assumption))
local macro_rules | `(tactic| walk_at "keep") => `(tactic| first
  | assumption
  | exact Keep.refl _
  | exact Keep.of (by assumption)
  | (refine Keep.trans ?_ (by assumption); walk_at "keep")
  | (refine Keep.same ?_ (by assumption); walk_at "keep"))
local macro_rules | `(tactic| walk_at "same") => `(tactic| first
  | assumption
  | exact Same.refl _
  | (refine Same.trans ?_ (by assumption); walk_at "same"))
local macro_rules | `(tactic| walk_at "s0") => `(tactic| first
  | with_reducible refine w_seq ?_
  | with_reducible refine w_asg ?_
  | with_reducible refine w_name ?_
  | ((with_reducible apply w_var); exact rfl)
  | with_reducible refine w_c ?_
  | with_reducible refine w_op ?_
  | with_reducible refine w_I0 ?_
  | ((with_reducible apply w_I); (walk_at "c"))
  | with_reducible refine w_cons ?_
  | with_reducible refine w_nil ?_
  | with_reducible refine w_cb ?_
  | with_reducible refine w_int1 ?_
  | with_reducible refine w_int1b ?_
  | with_reducible refine w_call ?_
  | with_reducible refine w_test ?_
  | with_reducible refine w_k ?_
  | with_reducible refine w_ret ?_
  | with_reducible refine w_drop ?_
  | with_reducible refine w_not ?_
  | with_reducible refine w_and ?_
  | with_reducible refine w_or ?_
  | with_reducible refine w_andV ?_
  | with_reducible refine w_orV ?_
  | with_reducible refine w_notV ?_
  | with_reducible refine w_if ?_
  | with_reducible refine w_B ?_
  | with_reducible refine w_un ?_
  | with_reducible refine w_U ?_
  | (with_reducible refine w_tup ?_; intro _ _)
  | (with_reducible refine w_lst ?_; intro _ _)
  | with_reducible refine w_dget ?_
  | with_reducible refine w_dput ?_
  | with_reducible refine w_fld ?_
  | with_reducible refine w_meth ?_
  | (with_reducible refine w_make ?_; intro _ _)
  | with_reducible refine w_par ?_
  | with_reducible refine w_par3 ?_
  | with_reducible refine w_two ?_
  | with_reducible refine w_three ?_
  | with_reducible refine w_one ?_
  | with_reducible refine w_chain ?_
  | with_reducible refine w_next ?_
  | with_reducible refine w_brk ?_
  | with_reducible refine w_cont ?_
  | with_reducible refine w_retN ?_
  | with_reducible refine w_gcons ?_
  | with_reducible refine w_gnil ?_
  | ((with_reducible refine w_eq ?_ ?_); exact rfl)
  | ((with_reducible refine w_ne ?_ ?_); exact rfl)
  | with_reducible refine w_part ?_
  | with_reducible refine w_lc ?_
  | with_reducible refine w_bm ?_
  | with_reducible refine w_lcS ?_
  | with_reducible refine w_yes ?_
  | with_reducible refine w_iTup ?_
  | with_reducible refine w_iList ?_
  | with_reducible refine w_unT ?_
  | with_reducible refine w_unT0 ?_
  | with_reducible refine w_unL ?_
  | with_reducible refine w_unL0 ?_
  | ((with_reducible apply w_gtup); (walk_at "get"); (exact rfl))
  | with_reducible refine w_gfld ?_
  | with_reducible refine w_sfld ?_
  | with_reducible refine w_risi ?_
  | with_reducible refine w_i ?_
  | with_reducible refine w_pnil ?_
  | with_reducible refine w_pcons ?_
  | with_reducible refine w_sl ?_
  | with_reducible refine w_nopart ?_
  | with_reducible refine w_for ?_
  | with_reducible refine w_while ?_
  | with_reducible refine w_irng1 ?_
  | with_reducible refine w_irng2 ?_
  | with_reducible refine And.intro (rfl : V.non = V.non) ?_)
local macro_rules | `(tactic| walk_at "s") => `(tactic| first | walk_at "s0" | with_reducible refine w_ifs ?_)
local macro_rules | `(tactic| walk_at "go") => `(tactic| repeat (walk_at "s"))
local macro_rules | `(tactic| walk_at "gi") => `(tactic| repeat (walk_at "s0"))

/-! ### the lambdas' texts -/
def lamQ : Str := (PyProof.Rows.envOfC "_law_refusals" (defScope s__law_refusals) 0 0 .none).qual ++ "<lambda>"
def noE : Expr := .Constant .none 0 ⟨0, 0, 0, 0⟩
def valOf : Stmt → Expr
  | .Assign _ v _ => v
  | .Expr v _ => v
  | .Return (some v) _ => v
  | _ => noE
def itemOf (i : Nat) : Expr → Expr
  | .List es _ => es.getD i noE
  | .Tuple es _ _ => es.getD i noE
  | .Call _ es _ _ => es.getD i noE
  | _ => noE
def lamOf (q : Str) : Expr → LT
  | .Lambda p b s _ => ⟨p, b, s, q⟩
  | _ => ⟨⟨[], [], none, [], [], none, []⟩, noE, defScope s__law_refusals, q⟩
def bodyR : List Stmt := defBody s__law_refusals
def L1 : LT := lamOf lamQ (itemOf 0 (itemOf 0 (valOf (bodyR.getD 3 (.Pass ⟨0, 0, 0, 0⟩)))))
def L2' : LT := lamOf lamQ (itemOf 0 (itemOf 0 (valOf (bodyR.getD 4 (.Pass ⟨0, 0, 0, 0⟩)))))
def L3 : LT := lamOf lamQ (itemOf 0 (itemOf 0 (valOf (bodyR.getD 5 (.Pass ⟨0, 0, 0, 0⟩)))))
section
variable {w : World} {K : PySem.W.Frag} {mg : Str → Option Value} {base : Heap}
def isD (fs : List (Str × V)) : Prop := ∃ z, fs = dfs z
theorem self_deal (T : Tx w K mg) (H : Hp) (a dx : Addr) (fs : List (Str × V)) (e : H a = some (.ins T.C_Deal dx fs)) (f : isD fs) : Self K T.C_Deal (sp_deq K T.C_Deal) H (.ref a) := by
  obtain ⟨z, rfl⟩ := f
  intro H' s
  refine ⟨fun Q' q => .inr (.inr ⟨a, dx, dfs z, .ref T.C_Deal, rfl, s _ _ e, T.ty_Deal _ _ _ _ (s _ _ e), by simp [PySem.W.notFirst], a, z, .ref a, rfl, ⟨dx, s _ _ e⟩, .inl ⟨a, z, rfl, ⟨dx, s _ _ e⟩, fun H'' s'' => ?_⟩⟩), false, _, .base (T.ty_Deal _ _ _ _ (s _ _ e)), T.kd_bool⟩
  rw [decide_eq_true rfl]
  exact ⟨true, rfl, q H'' s''⟩
def TT (T : Tx w K mg) : List (Addr × Str) := [(T.P__law_refusals, lamQ)]
def sp_refusals (T : Tx w K mg) : Sp := fun vs H Q _ => ∃ (d a : Addr) (n : Nat) (z : Int × Int × Int), vs = [.ref d, .ref a, .int z.2.1] ∧ Pen H d n ∧ n ≤ 999000 ∧ DAt T.C_Deal H a z ∧ DOk z ∧ Tabs (TT T) H ∧ ∀ H', Pen H' d (n + 10) → Tabs (TT T) H' → Q (.bl true) H'
theorem pbut {d : Addr} {n : Nat} {H H' : Hp} (b : But d H H') (p : Pen H d n) : Keep H H' := by
  obtain ⟨c, ns, aa, ll, e1, _⟩ := p.ex
  exact b.keep e1
theorem ok__law_refusals (T : Tx w K mg) (TB : TabB base mg T.c__law_refusals T.P__law_refusals) : FnOk PR w K mg base CX0 12 T.f__law_refusals T.fd__law_refusals ["_law_pen", "_law_deal", "_law_houses"] (sp_refusals T) := by
  obtain ⟨oc, od, kV, doc, pm, an, ct, osl, e, lk, hcd⟩ := T.FC__law_refusals
  rw [e]
  refine fn_of lk hcd sc__law_refusals (fun vs H Q E h => ?_) (fun A outer s H vs Q E hr h => ?_)
  · obtain ⟨d, a, n, z, rfl, _⟩ := h
    rfl
  · obtain ⟨d, a, n, z, rfl, hpen, hn, hD, ok, hT, q⟩ := h
    have hu := hu_of hr
    have hu64 := hu64_of hr
    refine ⟨_, (pss_cons (ps_set (i := 3) sc__law_refusals.nd rfl (Or.inl rfl) (pe_call (ok__law_pickB T) (hr.mono (by decide)) rfl T.g__law_pick T.F__law_pick.kp T.b__law_pick .nil pass0 (pa_cons (pv 0) (pa_cons (pe_lst (pa_cons pe_non (pa_cons pe_bl (pa_cons pe_bl (pa_cons pe_str (pa_cons (pe_tup (pa_cons pe_int pa_nil)) (pa_cons (pe_lst (pa_cons pe_int pa_nil)) (pa_cons pe_dnewK (pa_cons (pv 1) pa_nil))))))))) pa_nil))))
      (pss_cons (ps_set (i := 6) sc__law_refusals.nd rfl (Or.inr rfl) (pe_call (ok__law_pickB T) (hr.mono (by decide)) rfl T.g__law_pick T.F__law_pick.kp T.b__law_pick .nil pass0 (pa_cons (pv 0) (pa_cons (pe_lst (pa_cons (pv 2) (pa_cons (pe_op op_add (pe_op op_add (pv 2) pe_int) (pe_call (ok__law_drawB T) (hr.mono (by decide)) rfl T.g__law_draw T.F__law_draw.kp T.b__law_draw .nil pass0 (pa_cons (pv 0) (pa_cons pe_int pa_nil)))) (pa_cons (pe_un un_neg pe_int) (pa_cons (pv 3) pa_nil))))) pa_nil))))
      (pss_cons (ps_set (i := 5) sc__law_refusals.nd rfl (Or.inr rfl) (pe_call (ok__law_pickB T) (hr.mono (by decide)) rfl T.g__law_pick T.F__law_pick.kp T.b__law_pick .nil pass0 (pa_cons (pv 0) (pa_cons (pe_lst (pa_cons (pe_op op_sub (pe_un un_neg pe_int) (pe_call (ok__law_drawB T) (hr.mono (by decide)) rfl T.g__law_draw T.F__law_draw.kp T.b__law_draw .nil pass0 (pa_cons (pv 0) (pa_cons pe_int pa_nil)))) (pa_cons (pv 3) pa_nil))) pa_nil))))
      (pss_cons (ps_set (i := 4) sc__law_refusals.nd rfl (Or.inl rfl) (pe_lst (pa_cons (pe_tup (pa_cons (pe_lamN (T := TT T) TB rfl (List.mem_singleton.mpr rfl) (fun p hp _ => by rw [List.mem_singleton.mp hp]; rfl) (show LamX.LamS (defScope s__law_refusals) _ from LamX.lamS_by (by decide +kernel))) (pa_cons (pv 6) pa_nil))) pa_nil)))
      (pss_cons (ps_expr (pe_bm PySem.F.plainAttrs_list PySem.F.slot_list_append PySem.F.type_list_append mt_append (pv 4) (pa_cons (pe_tup (pa_cons (pe_lamN (T := TT T) TB rfl (List.mem_singleton.mpr rfl) (fun p hp _ => by rw [List.mem_singleton.mp hp]; rfl) (show LamX.LamS (defScope s__law_refusals) _ from LamX.lamS_by (by decide +kernel))) (pa_cons (pv 6) pa_nil))) pa_nil)))
      (pss_cons (ps_expr (pe_bm PySem.F.plainAttrs_list PySem.F.slot_list_append PySem.F.type_list_append mt_append (pv 4) (pa_cons (pe_tup (pa_cons (pe_lamN (T := TT T) TB rfl (List.mem_singleton.mpr rfl) (fun p hp _ => by rw [List.mem_singleton.mp hp]; rfl) (show LamX.LamS (defScope s__law_refusals) _ from LamX.lamS_by (by decide +kernel))) (pa_cons (pv 5) pa_nil))) pa_nil)))
      (pss_one (ps_ret (pe_callB (cr_all rfl) (by rfl) T.z_all (by decide +kernel) (pa_cons (pe_lcS (own := [("_law_row", 7)]) (g := (gName 7)) (te := (tCall (sp_refused T base) [] E0 (tCons (tOp (rIxT K) (tVar 7) (tC (.int 0))) (tCons (tOp (rIxT K) (tVar 7) (tC (.int 1))) tNil)))) (tt := tYes) rfl sc__law_refusals.nd (fun _ => rfl) (pi_list (pv 4)) (blkOk_by (N := N__law_refusals) (sc := defScope s__law_refusals) (by decide +kernel)) (by decide +kernel) (fun _ _ _ _ _ => (pg_name (i := 7) sc__law_refusals.nd rfl (Or.inl rfl))) (fun _ _ _ _ _ => pts_nil) (fun _ _ _ _ _ => (pe_call (ok__law_refused T) (hr.mono (by decide)) rfl T.g__law_refused T.F__law_refused.kp T.b__law_refused .nil pass0 (pa_cons (pe_ix ix_tup (pv 7) pe_int (fun _ _ => rfl)) (pa_cons (pe_ix ix_tup (pv 7) pe_int (fun _ _ => rfl)) pa_nil))))) pa_nil)))))))))), ?_⟩
    obtain ⟨da, ha⟩ := id hD
    have nad : a ∉ [d] := by
      obtain ⟨c, ns, aa, ll, e1, _⟩ := hpen.ex
      intro zz
      exact ne_of ha e1 (by intro z; cases z) (List.mem_singleton.mp zz)
    have fresh : ∀ {b : Addr} {G : Hp}, Pen G d n → G b = none → b ∉ [d] := fun {b G} hp hb zz => by
      obtain ⟨c, ns, aa, ll, e1, _⟩ := hp.ex
      exact ne_of_none e1 hb (List.mem_singleton.mp zz).symm
    have fresh' : ∀ {b : Addr} {G : Hp} {m : Nat}, Pen G d m → G b = none → b ∉ [d] := fun {b G m} hp hb zz => by
      obtain ⟨c, ns, aa, ll, e1, _⟩ := hp.ex
      exact ne_of_none e1 hb (List.mem_singleton.mp zz).symm
    walk_at "gi"
    refine w_new (by assumption) (Nat.le_of_ble_eq_true rfl) (fun p1 H1 n1 s1 e1 => ?_)
    walk_at "gi"
    refine w_new (by assumption) (Nat.le_of_ble_eq_true rfl) (fun p2 H2 n2 s2 e2 => ?_)
    walk_at "gi"
    refine fun p3 n3 => ?_
    have s3 := same_upd (o := .dK []) n3
    have e3 : upd H2 p3 (.dK []) p3 = some (.dK []) := upd_same
    generalize upd H2 p3 (.dK []) = H3 at *
    walk_at "gi"
    refine w_new (by assumption) (Nat.le_of_ble_eq_true rfl) (fun l4 H4 n4 s4 e4 => ?_)
    walk_at "gi"
    have s04 : Same H H4 := ((s1.trans s2).trans s3).trans s4
    refine ⟨d, l4, _, n, rfl, hpen.same s04, by omega, e4, Nat.le_of_ble_eq_true rfl, Nat.le_of_ble_eq_true rfl, fun wr H5 m5 p5 b5 => ?_⟩
    have w05 : Away [d] H H5 := (Away.same s04).trans (Away.but b5 (List.mem_singleton.mpr rfl))
    have w45 : Away [d] H4 H5 := Away.but b5 (List.mem_singleton.mpr rfl)
    have oW : OddD T.C_Deal isD [d] H5 wr := by
      refine OddD.away w45 ?_
      simp only [List.mem_cons, List.not_mem_nil, or_false] at m5
      rcases m5 with rfl | rfl | rfl | rfl | rfl | rfl | rfl | rfl
      · exact .non
      · exact .bl _
      · exact .bl _
      · exact .str _ (by decide +kernel)
      · exact .tup (xs := [1]) (fresh hpen n1) (s4 _ _ (s3 _ _ (s2 _ _ e1)))
      · exact .lst (xs := [1]) (fresh (hpen.same s1) n2) (s4 _ _ (s3 _ _ e2))
      · exact .dct (fresh (hpen.same (s1.trans s2)) n3) (s4 _ _ e3)
      · exact .ins nad (s04 _ _ ha) ⟨z, rfl⟩
    have ha5 : H5 a = some (.ins T.C_Deal da (dfs z)) := w05.get nad ha
    have T5 : Tabs (TT T) H5 := tabs_keep ((Keep.of s04).trans (pbut b5 (hpen.same s04))) hT
    clear e1 e2 e3 s1 s2 s3 s4 n1 n2 n3 n4 e4 m5 w45 b5
    walk_at "gi"
    refine ⟨d, 9, _, rfl, p5, by omega, by decide, by decide, fun r6 H6 r60 r61 p6 b6 => ?_⟩
    walk_at "gi"
    refine w_new (by assumption) (Nat.le_of_ble_eq_true rfl) (fun l7 H7 n7 s7 e7 => ?_)
    walk_at "gi"
    refine ⟨d, l7, _, _, rfl, p6.same s7, by omega, e7, Nat.le_of_ble_eq_true rfl, Nat.le_of_ble_eq_true rfl, fun od' H8 m8 p8 b8 => ?_⟩
    have w58 : Away [d] H5 H8 := ((Away.but b6 (List.mem_singleton.mpr rfl)).trans (Away.same s7)).trans (Away.but b8 (List.mem_singleton.mpr rfl))
    have oO : (∃ k, od' = .int k ∧ (k < 0 ∨ z.2.1 ≤ k)) ∨ OddD T.C_Deal isD [d] H8 od' := by
      have h0 := ok.h0
      simp only [List.mem_cons, List.not_mem_nil, or_false] at m8
      rcases m8 with rfl | rfl | rfl | rfl
      · exact .inl ⟨_, rfl, by omega⟩
      · exact .inl ⟨_, rfl, by omega⟩
      · exact .inl ⟨_, rfl, by omega⟩
      · exact .inr (oW.away w58)
    have oW8 := oW.away w58
    have T8 : Tabs (TT T) H8 := tabs_keep (((pbut b6 p5).trans (Keep.of s7)).trans (pbut b8 (p6.same s7))) T5
    have ha8 := w58.get nad ha5
    clear m8 s7 e7 n7 b6 b8
    walk_at "gi"
    refine ⟨d, 9, _, rfl, p8, by omega, by decide, by decide, fun r9 H9 r90 r91 p9 b9 => ?_⟩
    walk_at "gi"
    refine w_new (by assumption) (Nat.le_of_ble_eq_true rfl) (fun l10 H10 n10 s10 e10 => ?_)
    walk_at "gi"
    refine ⟨d, l10, _, _, rfl, p9.same s10, by omega, e10, Nat.le_of_ble_eq_true rfl, Nat.le_of_ble_eq_true rfl, fun le H11 m11 p11 b11 => ?_⟩
    have w8 : Away [d] H8 H11 := ((Away.but b9 (List.mem_singleton.mpr rfl)).trans (Away.same s10)).trans (Away.but b11 (List.mem_singleton.mpr rfl))
    have oL : (∃ k, le = .int k ∧ k < 0) ∨ OddD T.C_Deal isD [d] H11 le := by
      simp only [List.mem_cons, List.not_mem_nil, or_false] at m11
      rcases m11 with rfl | rfl
      · exact .inl ⟨_, rfl, by omega⟩
      · exact .inr (oW8.away w8)
    have oO11 : (∃ k, od' = .int k ∧ (k < 0 ∨ z.2.1 ≤ k)) ∨ OddD T.C_Deal isD [d] H11 od' := oO.imp id fun q => q.away w8
    have ha11 := w8.get nad ha8
    have T11 : Tabs (TT T) H11 := tabs_keep (((pbut b9 p8).trans (Keep.of s10)).trans (pbut b11 (p9.same s10))) T8
    clear oW oW8 oO m11 s10 e10 n10 b9 b11 w8 w58 w05 ha5 ha8 p5 p6 p8 p9
    walk_at "gi"
    refine w_lam (L := L1) T11 (fun f1 H12 x12 T12 nf1 l1 => ?_)
    have p12 : Pen H12 d (n + 5) := p11.extN x12
    have w12 : Away [d] H11 H12 := Away.ext x12
    walk_at "gi"
    refine w_new (by assumption) (Nat.le_of_ble_eq_true rfl) (fun t1 H13 n13 s13 e13 => ?_)
    walk_at "gi"
    refine w_new (by assumption) (Nat.le_of_ble_eq_true rfl) (fun l H14 n14 s14 e14 => ?_)
    have nld : l ∉ [d] := fresh' (p12.same s13) n14
    have nal : a ∉ [l, d] := fun zz => (List.mem_cons.mp zz).elim (fun q => ne_of_none (s13 _ _ (w12.get nad ha11)) n14 q) nad
    have p14 := (p12.same s13).same s14
    have oO14 : (∃ k, od' = .int k ∧ (k < 0 ∨ z.2.1 ≤ k)) ∨ OddD T.C_Deal isD [l, d] H14 od' := oO11.imp id fun q => ((q.away (w12.trans (Away.same s13))).more n14).away (Away.same s14)
    have oL14 : (∃ k, le = .int k ∧ k < 0) ∨ OddD T.C_Deal isD [l, d] H14 le := oL.imp id fun q => ((q.away (w12.trans (Away.same s13))).more n14).away (Away.same s14)
    have ha14 := s14 _ _ (s13 _ _ (w12.get nad ha11))
    have l14 := (l1.same s13).same s14
    have t14 := s14 _ _ e13
    have T14 : Tabs (TT T) H14 := (T12.ext s13).ext s14
    clear oO11 oL ha11 T11 T12 p11 p12 w12 x12 s13 s14 e13 n13 nf1 T5 T8 l1
    walk_at "gi"
    refine w_append e14 ?_
    walk_at "gi"
    refine w_lam (L := L2') T14 (fun f2 H15 x15 T15 nf2 l2 => ?_)
    walk_at "gi"
    refine w_new (by assumption) (Nat.le_of_ble_eq_true rfl) (fun t2 H16 n16 s16 e16 => ?_)
    walk_at "gi"
    have e16l : H16 l = some (.lst [.ref t1]) := s16 _ _ (x15 _ _ e14 (fun _ z => nomatch z))
    refine w_app e16l (by show 1 < sizeLine; decide) ?_
    have w15 : Away [l, d] H14 H15 := Away.ext x15
    have w17 : Away [l, d] H16 (upd H16 l (.lst ([.ref t1] ++ [.ref t2]))) := Away.upd (List.mem_cons_self ..)
    have w14 := (w15.trans (Away.same s16)).trans w17
    have noext : ∀ {b : Addr} {φ : Heap → Prop} {G : Hp} {m : Nat} {xs : List V}, Pen G d m → G l = some (.lst xs) → G b = some (.ext φ) → b ∉ [l, d] := fun {b φ G m xs} hp hl hb zz => by
      obtain ⟨c, ns, aa, ll, q1, _⟩ := hp.ex
      rcases List.mem_cons.mp zz with q | q
      · exact ne_of hb hl (by intro z; cases z) q
      · exact ne_of hb q1 (by intro z; cases z) (List.mem_singleton.mp q)
    have notup : ∀ {b : Addr} {ys : List V} {G : Hp} {m : Nat} {xs : List V}, Pen G d m → G l = some (.lst xs) → G b = some (.tup ys) → b ∉ [l, d] := fun {b ys G m xs} hp hl hb zz => by
      obtain ⟨c, ns, aa, ll, q1, _⟩ := hp.ex
      rcases List.mem_cons.mp zz with q | q
      · exact ne_of hb hl (by intro z; cases z) q
      · exact ne_of hb q1 (by intro z; cases z) (List.mem_singleton.mp q)
    have lmv : ∀ {L : LT} {f : Addr} {G G' : Hp} {m : Nat} {xs : List V} {X : Cx}, Pen G d m → G l = some (.lst xs) → Away [l, d] G G' → Lm0 X G f L → Lm0 X G' f L := fun {L f G G' m xs X} hp hl hw ⟨c, q1, q2⟩ => ⟨c, hw.get (noext hp hl q1) q1, hw.get (noext hp hl q2) q2⟩
    have p16 := (p14.extN x15).same s16
    have l17 := lmv p14 e14 w14 l14
    have t17 := w14.get (notup p14 e14 t14) t14
    have m17 := lmv p16 e16l w17 (l2.same s16)
    have u17 := w17.get (notup p16 e16l e16) e16
    have ha17 := w14.get nal ha14
    have oO17 := oO14.imp id fun q => q.away w14
    have oL17 := oL14.imp id fun q => q.away w14
    have T17 : Tabs (TT T) (upd H16 l (.lst ([.ref t1] ++ [.ref t2]))) := tabs_lst e16l (T15.ext s16)
    have p17 : Pen (upd H16 l (.lst ([.ref t1] ++ [.ref t2]))) d (n + 5) := p16.updL e16l
    have e17 : (upd H16 l (.lst ([.ref t1] ++ [.ref t2]))) l = some (.lst [.ref t1, .ref t2]) := upd_same
    generalize upd H16 l (.lst ([.ref t1] ++ [.ref t2])) = H17 at *
    clear w14 w15 w17 s16 x15 e16l e14 l14 l2 t14 e16 ha14 oO14 oL14 T14 T15 p14 p16 n16 nf2
    walk_at "gi"
    refine w_append e17 ?_
    walk_at "gi"
    refine w_lam (L := L3) T17 (fun f3 H18 x18 T18 nf3 l3 => ?_)
    walk_at "gi"
    refine w_new (by assumption) (Nat.le_of_ble_eq_true rfl) (fun t3 H19 n19 s19 e19 => ?_)
    walk_at "gi"
    have e19l : H19 l = some (.lst [.ref t1, .ref t2]) := s19 _ _ (x18 _ _ e17 (fun _ z => nomatch z))
    refine w_app e19l (by show 2 < sizeLine; decide) ?_
    have w20 : Away [l, d] H19 (upd H19 l (.lst ([.ref t1, .ref t2] ++ [.ref t3]))) := Away.upd (List.mem_cons_self ..)
    have w17 : Away [l, d] H17 _ := ((Away.ext x18).trans (Away.same s19)).trans w20
    have p19 := (p17.extN x18).same s19
    have l20 := lmv p17 e17 w17 l17
    have m20 := lmv p17 e17 w17 m17
    have t20 := w17.get (notup p17 e17 t17) t17
    have u20 := w17.get (notup p17 e17 u17) u17
    have k20 := lmv p19 e19l w20 (l3.same s19)
    have v20 := w20.get (notup p19 e19l e19) e19
    have ha20 := w17.get nal ha17
    have oO20 := oO17.imp id fun q => q.away w17
    have oL20 := oL17.imp id fun q => q.away w17
    have T20 : Tabs (TT T) (upd H19 l (.lst ([.ref t1, .ref t2] ++ [.ref t3]))) := tabs_lst e19l (T18.ext s19)
    have p20 : Pen (upd H19 l (.lst ([.ref t1, .ref t2] ++ [.ref t3]))) d (n + 5) := p19.updL e19l
    have e20 : (upd H19 l (.lst ([.ref t1, .ref t2] ++ [.ref t3]))) l = some (.lst [.ref t1, .ref t2, .ref t3]) := upd_same
    generalize upd H19 l (.lst ([.ref t1, .ref t2] ++ [.ref t3])) = H20 at *
    clear w17 w20 s19 x18 e19l e17 l17 m17 l3 t17 u17 e19 ha17 oO17 oL17 T17 T18 p17 p19 n19 nf3
    walk_at "gi"
    refine ⟨l, rfl, ⟨_, .inl (.inl e20)⟩, fun D Z Zg nZ => ?_⟩
    have haZ := Zg.same _ _ ha20
    have oOZ := oO20.imp id fun q => q.away (Away.same Zg.same)
    have oLZ := oL20.imp id fun q => q.away (Away.same Zg.same)
    have nofree : ∀ y, (defScope s__law_refusals).names.lookup y ≠ some .free := fun y e => sc__law_refusals.nofree _ (PySem.mem_of_lookup e) rfl
    have dno : ∀ {m : Str}, ¬ m = "houses" → ¬ m = "block" → ¬ m = "shift" → (dfs z).lookup m = none := fun h1 h2 h3 => dfs_no _ h1 h2 h3
    have lm1 : Lm Z f1 L1 ["_law_deal", "_law_odd"] [.ref a, od'] := l20.shown Zg (lamS_by (sc := defScope s__law_refusals) (by decide +kernel)) nofree rfl (fun i y v h1 h2 => match i, h1, h2 with
      | 0, h1, h2 => by cases h1; cases h2; exact ⟨by decide +kernel, 1, rfl, rfl⟩
      | 1, h1, h2 => by cases h1; cases h2; exact ⟨by decide +kernel, 6, rfl, rfl⟩
      | n + 2, h1, _ => by simp at h1)
    have lm2 : Lm Z f2 L2' ["_law_deal", "_law_odd", "_law_less"] [.ref a, od', le] := m20.shown Zg (lamS_by (sc := defScope s__law_refusals) (by decide +kernel)) nofree rfl (fun i y v h1 h2 => match i, h1, h2 with
      | 0, h1, h2 => by cases h1; cases h2; exact ⟨by decide +kernel, 1, rfl, rfl⟩
      | 1, h1, h2 => by cases h1; cases h2; exact ⟨by decide +kernel, 6, rfl, rfl⟩
      | 2, h1, h2 => by cases h1; cases h2; exact ⟨by decide +kernel, 5, rfl, rfl⟩
      | n + 3, h1, _ => by simp at h1)
    have lm3 : Lm Z f3 L3 ["_law_deal", "_law_less"] [.ref a, le] := k20.shown Zg (lamS_by (sc := defScope s__law_refusals) (by decide +kernel)) nofree rfl (fun i y v h1 h2 => match i, h1, h2 with
      | 0, h1, h2 => by cases h1; cases h2; exact ⟨by decide +kernel, 1, rfl, rfl⟩
      | 1, h1, h2 => by cases h1; cases h2; exact ⟨by decide +kernel, 5, rfl, rfl⟩
      | n + 2, h1, _ => by simp at h1)
    have nbl : ∀ {G : Hp}, (∃ k, od' = .int k ∧ (k < 0 ∨ z.2.1 ≤ k)) ∨ OddD T.C_Deal isD [l, d] G od' → NotBelow K G od' z.2.1 := fun o => o.imp id fun q => oddD_int T.kd_int T.kd_bool T.ty_Deal q
    have nwh : ∀ {G : Hp}, (∃ k, le = .int k ∧ k < 0) ∨ OddD T.C_Deal isD [l, d] G le → NotWhole K G le := fun o => o.imp id fun q => oddD_int T.kd_int T.kd_bool T.ty_Deal q
    have slO : ∀ {G : Hp}, (∃ k, od' = .int k ∧ (k < 0 ∨ z.2.1 ≤ k)) ∨ OddD T.C_Deal isD [l, d] G od' → Self K T.C_Deal (sp_deq K T.C_Deal) G od' := fun o => o.elim (fun ⟨k, e, _⟩ => e ▸ self_int k) fun q => oddD_self (self_deal T) q
    have slL : ∀ {G : Hp}, (∃ k, le = .int k ∧ k < 0) ∨ OddD T.C_Deal isD [l, d] G le → Self K T.C_Deal (sp_deq K T.C_Deal) G le := fun o => o.elim (fun ⟨k, e, _⟩ => e ▸ self_int k) fun q => oddD_self (self_deal T) q
    have act1 : ∀ G, Same Z G → Act PR w K mg base 9 f1 G (fun _ _ => False) (fun c d H' => Same G H' ∧ c = .ref T.C_BadValue ∧ ∃ dd, d = some dd ∧ H' dd = some (.xd [("value", od')])) := fun G sG => by
      refine lam_act (k := 8) (t := fun E => tMeth T.C_Deal "window" (spR_window K T.C_Deal T.C_BadValue) [] E (tVar 0) (tCons (tVar 1) tNil)) (nscope_by (by decide +kernel)) (fun cl pm cv ctv => rfl)
        (fun cl c f A outer s H E hr => pe_meth (pv 0) T.cl_Deal T.m_Deal_window (okR_Deal_window T) (hr.mono (by decide)) T.b_Deal_window .nil (passes_call (takes_of rfl rfl rfl rfl) (fun _ _ _ _ h => h)) (pa_cons (pv 1) pa_nil)) (lm1.same sG) (fun Hh hid => ?_)
      have haH := hid _ _ (sG _ _ haZ) rfl
      have oH := oOZ.imp id fun q => (q.away (Away.same sG)).hid hid
      exact ⟨.ref a, rfl, a, da, _, rfl, haH, dno (by decide +kernel) (by decide +kernel) (by decide +kernel), od', rfl, a, z, od', rfl, ⟨da, haH⟩, nbl oH, fun dd H' s' hd' H'' sa sb => ⟨sb s', rfl, dd, rfl, sa _ _ hd'⟩⟩
    have act2 : ∀ G, Same Z G → Act PR w K mg base 9 f2 G (fun _ _ => False) (fun c d H' => Same G H' ∧ c = .ref T.C_BadValue ∧ ∃ dd, d = some dd ∧ H' dd = some (.xd [("value", od')])) := fun G sG => by
      refine lam_act (k := 8) (t := fun E => tMeth T.C_Deal "count" (spR_dcount K T.C_Deal T.C_BadValue) [] E (tVar 0) (tCons (tVar 1) (tCons (tVar 2) tNil))) (nscope_by (by decide +kernel)) (fun cl pm cv ctv => rfl)
        (fun cl c f A outer s H E hr => pe_meth (pv 0) T.cl_Deal T.m_Deal_count (okR_Deal_count T) (hr.mono (by decide)) T.b_Deal_count .nil (passes_call (takes_of rfl rfl rfl rfl) (fun _ _ _ _ h => h)) (pa_cons (pv 1) (pa_cons (pv 2) pa_nil))) (lm2.same sG) (fun Hh hid => ?_)
      have haH := hid _ _ (sG _ _ haZ) rfl
      have oH := oOZ.imp id fun q => (q.away (Away.same sG)).hid hid
      exact ⟨.ref a, rfl, a, da, _, rfl, haH, dno (by decide +kernel) (by decide +kernel) (by decide +kernel), od', rfl, le, rfl, a, z, od', le, rfl, ⟨da, haH⟩, .inl ⟨nbl oH, fun dd H' s' hd' H'' sa sb => ⟨sb s', rfl, dd, rfl, sa _ _ hd'⟩⟩⟩
    have act3 : ∀ G, Same Z G → Act PR w K mg base 9 f3 G (fun _ _ => False) (fun c d H' => Same G H' ∧ c = .ref T.C_BadValue ∧ ∃ dd, d = some dd ∧ H' dd = some (.xd [("value", le)])) := fun G sG => by
      refine lam_act (k := 8) (t := fun E => tMeth T.C_Deal "count" (spR_dcount K T.C_Deal T.C_BadValue) [] E (tVar 0) (tCons (tC (.int 0)) (tCons (tVar 1) tNil))) (nscope_by (by decide +kernel)) (fun cl pm cv ctv => rfl)
        (fun cl c f A outer s H E hr => pe_meth (pv 0) T.cl_Deal T.m_Deal_count (okR_Deal_count T) (hr.mono (by decide)) T.b_Deal_count .nil (passes_call (takes_of rfl rfl rfl rfl) (fun _ _ _ _ h => h)) (pa_cons pe_int (pa_cons (pv 1) pa_nil))) (lm3.same sG) (fun Hh hid => ?_)
      have haH := hid _ _ (sG _ _ haZ) rfl
      have oH := oLZ.imp id fun q => (q.away (Away.same sG)).hid hid
      exact ⟨.ref a, rfl, a, da, _, rfl, haH, dno (by decide +kernel) (by decide +kernel) (by decide +kernel), le, rfl, a, z, .int 0, le, rfl, ⟨da, haH⟩, .inr ⟨0, rfl, by decide, ok.h0, nwh oH, fun dd H' s' hd' H'' sa sb => ⟨sb s', rfl, dd, rfl, sa _ _ hd'⟩⟩⟩
    refine lc_list (xs := [.ref t1, .ref t2, .ref t3]) (fun i G => Same Z G ∧ G D = some (.lst (List.replicate i (.bl true)))) ⟨same_upd nZ, upd_same⟩ (fun i G hi hI => .inl (.inl (hI.1 _ _ (Zg.same _ _ e20)))) (fun i x G hx hI => ?_) (fun G hI => ?_)
    · obtain ⟨sG, eD⟩ := hI
      have row : ∃ (f t : Addr) (v : V), x = .ref t ∧ Z t = some (.tup [.ref f, v]) ∧ Act PR w K mg base 9 f G (fun _ _ => False) (fun c d H' => Same G H' ∧ c = .ref T.C_BadValue ∧ ∃ dd, d = some dd ∧ H' dd = some (.xd [("value", v)])) ∧ Self K T.C_Deal (sp_deq K T.C_Deal) G v ∧ i < 3 := by
        match i, hx with
        | 0, hx => cases hx; exact ⟨f1, t1, od', rfl, Zg.same _ _ t20, act1 G sG, (slO oOZ).same sG, by decide⟩
        | 1, hx => cases hx; exact ⟨f2, t2, od', rfl, Zg.same _ _ u20, act2 G sG, (slO oOZ).same sG, by decide⟩
        | 2, hx => cases hx; exact ⟨f3, t3, le, rfl, Zg.same _ _ v20, act3 G sG, (slL oLZ).same sG, by decide⟩
        | n + 3, hx => simp at hx
      obtain ⟨f, t, v, rfl, ht, act, sl, hi3⟩ := row
      have ht' := sG _ _ ht
      walk_at "gi"
      refine ⟨rfl, ?_⟩
      walk_at "gi"
      refine iteT ?_
      walk_at "gi"
      refine w_ixT ht' rfl ?_
      walk_at "gi"
      refine w_ixT ht' rfl ?_
      walk_at "gi"
      refine ⟨f, v, rfl, act, sl, fun G2 s2 => ?_⟩
      refine ⟨_, s2 _ _ eD, ?_, fun b o zz => ?_, ?_⟩
      · rw [List.length_replicate]
        exact Nat.lt_of_lt_of_le hi3 (by decide)
      · rw [upd_ne (ne_of_none zz nZ)]
        exact s2 _ _ (sG b o zz)
      · rw [upd_same, List.replicate_succ']
    · obtain ⟨sG, eD⟩ := hI
      intro G' hid
      walk_at "gi"
      refine ⟨D, [true, true, true], rfl, .inl (.inl (hid _ _ eD rfl)), ?_⟩
      walk_at "gi"
      exact q G' ((((p20.same Zg.same).same sG).hid hid).mono (by omega)) (tabs_hid hid ((T20.ext Zg.same).ext sG))
end
end K17
namespace K17
open PySem L2 DS
/-! ### when two deals are equal -/
def forms : List (Int × Int × Int) := (1, 1, 0) :: ([2, 3].flatMap fun (h : Nat) => [1, 2, 3].flatMap fun (b : Nat) => (List.range (b * h)).map fun (s : Nat) => ((b : Int), (h : Int), (s : Int)))
def unlikeB (z y : Int × Int × Int) : Bool := (List.range (2 * (z.1 * z.2.1 * (y.1 * y.2.1)).toNat)).any fun (i : Nat) => !decide (dH z (-(z.1 * z.2.1 * (y.1 * y.2.1)) + i) = dH y (-(z.1 * z.2.1 * (y.1 * y.2.1)) + i))
theorem forms_all : (forms.all fun z => forms.all fun y => decide (z = y) || unlikeB z y) = true := by decide +kernel
structure Small (b h s : Int) : Prop where
  b0 : 0 < b
  b1 : b ≤ 3
  h0 : 0 < h
  h1 : h ≤ 3
  s0 : -9 ≤ s
  s1 : s ≤ 9
theorem small_form {b h s : Int} (r : Small b h s) : DN b h s ∈ forms := by
  obtain ⟨b0, b1, h0, h1, s0, s1⟩ := r
  unfold DN
  have key : (([1, 2, 3] : List Nat).all fun b => ([2, 3] : List Nat).all fun h => (List.range (b * h)).all fun (k : Nat) => decide (((b : Int), (h : Int), (k : Int)) ∈ forms)) = true := by decide +kernel
  obtain ⟨b, rfl⟩ := Int.eq_ofNat_of_zero_le (Int.le_of_lt b0)
  obtain ⟨h, rfl⟩ := Int.eq_ofNat_of_zero_le (Int.le_of_lt h0)
  by_cases c : 1 < h
  · have e2 := List.all_eq_true.mp (List.all_eq_true.mp key b (by simp only [List.mem_cons, List.not_mem_nil, or_false]; omega)) h (by simp only [List.mem_cons, List.not_mem_nil, or_false]; omega)
    rw [nb_more (by omega)]
    have p : (0 : Int) < (b : Int) * h := Int.mul_pos b0 h0
    have q0 := Int.emod_nonneg s (show (b : Int) * h ≠ 0 by omega)
    have q1 := Int.emod_lt_of_pos s p
    obtain ⟨k, hk⟩ := Int.eq_ofNat_of_zero_le q0
    rw [hk]
    have kk : k < b * h := by
      have : ((k : Nat) : Int) < ((b * h : Nat) : Int) := by
        rw [← hk, Int.natCast_mul]
        exact q1
      omega
    exact of_decide_eq_true (List.all_eq_true.mp e2 k (List.mem_range.mpr kk))
  · have : h = 1 := by omega
    subst this
    rw [show ((1 : Nat) : Int) = 1 from rfl, nb_one]
    rw [show (1 : Int) * 1 = 1 from rfl, mod_one']
    exact List.mem_cons_self ..
theorem alike_iff {b h s b' h' s' : Int} (r : Small b h s) (r' : Small b' h' s') (t : Int) (ht : t = b * h * b' * h') :
    ((List.range (t - -t).toNat).map fun (i : Nat) => decide (lH b h s (-t + i) = lH b' h' s' (-t + i))).all id = decide (DN b h s = DN b' h' s') := by
  by_cases c : DN b h s = DN b' h' s'
  · rw [decide_eq_true c, List.all_eq_true]
    intro x hx
    obtain ⟨i, _, rfl⟩ := List.mem_map.mp hx
    show decide _ = true
    rw [← house_eq r.b0 r.h0, ← house_eq r'.b0 r'.h0, c]
    exact decide_eq_true rfl
  · rw [decide_eq_false c]
    have f := List.all_eq_true.mp (List.all_eq_true.mp forms_all _ (small_form r)) _ (small_form r')
    rw [decide_eq_false c, Bool.false_or] at f
    unfold unlikeB at f
    obtain ⟨i, hi, hd⟩ := List.any_eq_true.mp f
    have bb : nb b h ≤ b := by unfold nb; have := r.b0; split <;> omega
    have bb' : nb b' h' ≤ b' := by unfold nb; have := r'.b0; split <;> omega
    have n0 := nb_pos (h := h) r.b0
    have n0' := nb_pos (h := h') r'.b0
    have e1 : (DN b h s).1 * (DN b h s).2.1 * ((DN b' h' s').1 * (DN b' h' s').2.1) = nb b h * h * (nb b' h' * h') := rfl
    rw [e1] at hi hd
    have m1 : nb b h * h ≤ b * h := Int.mul_le_mul_of_nonneg_right bb (Int.le_of_lt r.h0)
    have m2 : nb b' h' * h' ≤ b' * h' := Int.mul_le_mul_of_nonneg_right bb' (Int.le_of_lt r'.h0)
    have p1 : 0 < nb b h * h := Int.mul_pos n0 r.h0
    have p2 : 0 < nb b' h' * h' := Int.mul_pos n0' r'.h0
    have m3 : nb b h * h * (nb b' h' * h') ≤ t := by
      rw [ht, Int.mul_assoc (b * h)]
      exact Int.mul_le_mul m1 m2 (Int.le_of_lt p2) (by have := Int.mul_pos r.b0 r.h0; omega)
    have p3 : 0 < nb b h * h * (nb b' h' * h') := Int.mul_pos p1 p2
    generalize nb b h * h * (nb b' h' * h') = u at *
    have hi := List.mem_range.mp hi
    rw [Bool.eq_false_iff]
    intro all
    have q := List.all_eq_true.mp all (decide (lH b h s (-t + ((t - u + i).toNat : Nat)) = lH b' h' s' (-t + ((t - u + i).toNat : Nat)))) (List.mem_map.mpr ⟨(t - u + i).toNat, List.mem_range.mpr (by omega), rfl⟩)
    have q := of_decide_eq_true q
    rw [← house_eq r.b0 r.h0, ← house_eq r'.b0 r'.h0] at q
    have e2 : -t + (((t - u + i).toNat : Nat) : Int) = -u + i := by omega
    rw [e2] at q
    rw [decide_eq_true q] at hd
    cases hd
/-- told so many times as great -/
theorem times_form {m b h s : Int} (m0 : 0 < m) : DN (m * b) h (m * s) = if 1 < h then (m * b, h, m * (s % (b * h))) else (1, h, (m * s) % (1 * h)) := by
  unfold DN nb
  by_cases c : 1 < h
  · rw [if_pos c, if_pos c, Int.mul_assoc, Int.mul_emod_mul_of_pos _ _ m0]
  · rw [if_neg c, if_neg c]
theorem far_iff {m b h s b' h' s' : Int} (m0 : 0 < m) (h0 : 0 < h) (h0' : 0 < h') : decide (DN (m * b) h (m * s) = DN (m * b') h' (m * s')) = decide (DN b h s = DN b' h' s') := by
  have key : DN (m * b) h (m * s) = DN (m * b') h' (m * s') ↔ DN b h s = DN b' h' s' := by
    rw [times_form m0, times_form m0]
    by_cases c : 1 < h
    · by_cases c' : 1 < h'
      · rw [if_pos c, if_pos c']
        unfold DN
        rw [nb_more c, nb_more c']
        simp only [Prod.mk.injEq]
        constructor
        · rintro ⟨e1, e2, e3⟩
          have e1 := Int.eq_of_mul_eq_mul_left (by omega) e1
          subst e1 e2
          exact ⟨rfl, rfl, Int.eq_of_mul_eq_mul_left (by omega) e3⟩
        · rintro ⟨e1, e2, e3⟩
          exact ⟨by rw [e1], e2, by rw [e3]⟩
      · have : h' = 1 := by omega
        subst this
        rw [if_pos c, if_neg c']
        unfold DN
        constructor
        · intro e
          have := congrArg (fun x => x.2.1) e
          simp at this
          omega
        · intro e
          have := congrArg (fun x => x.2.1) e
          simp at this
          omega
    · have : h = 1 := by omega
      subst this
      by_cases c' : 1 < h'
      · rw [if_neg c, if_pos c']
        unfold DN
        constructor
        · intro e
          have := congrArg (fun x => x.2.1) e
          simp at this
          omega
        · intro e
          have := congrArg (fun x => x.2.1) e
          simp at this
          omega
      · have : h' = 1 := by omega
        subst this
        rw [if_neg c]
        unfold DN
        rw [nb_one, nb_one]
        simp [mod_one']
  by_cases c : DN b h s = DN b' h' s'
  · rw [decide_eq_true c, decide_eq_true (key.mpr c)]
  · rw [decide_eq_false c, decide_eq_false (fun z => c (key.mp z))]
theorem bent_iff {m b h s : Int} (m0 : 0 < m) (b0 : 0 < b) (h0 : 0 < h) : decide (DN (m * b) h (m * s + 1) = DN (m * b) h (m * s)) = decide (h = 1) := by
  by_cases c : h = 1
  · subst c
    rw [decide_eq_true rfl]
    refine decide_eq_true ?_
    unfold DN
    rw [nb_one]
    simp [mod_one']
  · rw [decide_eq_false c]
    refine decide_eq_false fun e => ?_
    have e2 : (m * s + 1) % (m * b * h) = (m * s) % (m * b * h) := by
      have := congrArg (fun x => x.2.2) e
      unfold DN at this
      rw [nb_more (by omega)] at this
      exact this
    have mb : 1 ≤ m * b := Int.mul_pos m0 b0
    have t2 : 2 ≤ m * b * h := by
      have := Int.mul_le_mul mb (show 2 ≤ h by omega) (by decide) (by omega)
      omega
    generalize m * b * h = t at *
    generalize m * s = x at *
    have : ((x + 1) - x) % t = 0 := Int.emod_eq_emod_iff_emod_sub_eq_zero.mp e2
    have e3 : (x + 1) - x = 1 := by omega
    rw [e3, Int.emod_eq_of_lt (by decide) (by omega)] at this
    cases this
end K17
set_option maxHeartbeats 40000000
namespace K17
open PySem L2 DS NdefX
set_option pp.maxSteps 1200
local macro_rules | `(tactic| walk_at "c") => `(tactic| first
  | (dsimp only; omega)
  | omega
  | (show CMulA _ _; first | exact CMulA.s1 (by omega) (by omega) | exact CMulA.s2 (by omega) (by omega))
  | (show CDivW _ _; first | exact ⟨by omega, by assumption⟩ | exact ⟨by omega, by decide⟩)
  | (show CPow _ _; exact ⟨by decide, by decide, by decide⟩)
  | assumption)
local macro_rules | `(tactic| walk_at "get") => `(tactic| first
  | assumption
  | (refine (by assumption : Same _ _) _ _ ?_; walk_at "get")
  | (refine (by assumption : Keep _ _) _ _ ?_ rfl; walk_at "get"))
local macro_rules | `(tactic| walk_at "pen") => `(tactic| first
  | assumption
  | (refine Pen.same (by assumption) ?_; walk_at "pen")
  | (refine Pen.mono ?_ (by omega); assumption))
local macro_rules | `(tactic| walk_at "keep") => `(tactic| first
  | assumption
  | exact Keep.refl _
  | exact Keep.of (by assumption)
  | (refine Keep.trans ?_ (by assumption); walk_at "keep")
  | (refine Keep.same ?_ (by assumption); walk_at "keep"))
local macro_rules | `(tactic| walk_at "same") => `(tactic| first
  | assumption
  | exact Same.refl _
  | (refine Same.trans ?_ (by assumption); walk_at "same"))
local macro_rules | `(tactic| walk_at "s0") => `(tactic| first
  | with_reducible refine w_seq ?_
  | with_reducible refine w_asg ?_
  | with_reducible refine w_name ?_
  | ((with_reducible apply w_var); exact rfl)
  | with_reducible refine w_c ?_
  | with_reducible refine w_op ?_
  | with_reducible refine w_I0 ?_
  | ((with_reducible apply w_I); (walk_at "c"))
  | with_reducible refine w_cons ?_
  | with_reducible refine w_nil ?_
  | with_reducible refine w_cb ?_
  | with_reducible refine w_int1 ?_
  | with_reducible refine w_int1b ?_
  | with_reducible refine w_call ?_
  | with_reducible refine w_test ?_
  | with_reducible refine w_k ?_
  | with_reducible refine w_ret ?_
  | with_reducible refine w_drop ?_
  | with_reducible refine w_not ?_
  | with_reducible refine w_and ?_
  | with_reducible refine w_or ?_
  | with_reducible refine w_andV ?_
  | with_reducible refine w_orV ?_
  | with_reducible refine w_notV ?_
  | with_reducible refine w_if ?_
  | with_reducible refine w_B ?_
  | with_reducible refine w_un ?_
  | with_reducible refine w_U ?_
  | (with_reducible refine w_tup ?_; intro _ _)
  | (with_reducible refine w_lst ?_; intro _ _)
  | with_reducible refine w_dget ?_
  | with_reducible refine w_dput ?_
  | with_reducible refine w_fld ?_
  | with_reducible refine w_meth ?_
  | (with_reducible refine w_make ?_; intro _ _)
  | with_reducible refine w_par ?_
  | with_reducible refine w_par3 ?_
  | with_reducible refine w_two ?_
  | with_reducible refine w_three ?_
  | with_reducible refine w_one ?_
  | with_reducible refine w_chain ?_
  | with_reducible refine w_next ?_
  | with_reducible refine w_brk ?_
  | with_reducible refine w_cont ?_
  | with_reducible refine w_retN ?_
  | with_reducible refine w_gcons ?_
  | with_reducible refine w_gnil ?_
  | ((with_reducible refine w_eq ?_ ?_); exact rfl)
  | ((with_reducible refine w_ne ?_ ?_); exact rfl)
  | with_reducible refine w_part ?_
  | with_reducible refine w_lc ?_
  | with_reducible refine w_bm ?_
  | with_reducible refine w_lcS ?_
  | with_reducible refine w_yes ?_
  | with_reducible refine w_iTup ?_
  | with_reducible refine w_iList ?_
  | with_reducible refine w_unT ?_
  | with_reducible refine w_unT0 ?_
  | with_reducible refine w_unL ?_
  | with_reducible refine w_unL0 ?_
  | ((with_reducible apply w_gtup); (walk_at "get"); (exact rfl))
  | with_reducible refine w_gfld ?_
  | with_reducible refine w_sfld ?_
  | with_reducible refine w_risi ?_
  | with_reducible refine w_i ?_
  | with_reducible refine w_pnil ?_
  | with_reducible refine w_pcons ?_
  | with_reducible refine w_sl ?_
  | with_reducible refine w_nopart ?_
  | with_reducible refine w_for ?_
  | with_reducible refine w_while ?_
  | with_reducible refine w_irng1 ?_
  | with_reducible refine w_irng2 ?_
  | with_reducible refine And.intro (rfl : V.non = V.non) ?_)
local macro_rules | `(tactic| walk_at "s") => `(tactic| first | walk_at "s0" | with_reducible refine w_ifs ?_)
local macro_rules | `(tactic| walk_at "go") => `(tactic| repeat (walk_at "s"))
local macro_rules | `(tactic| walk_at "gi") => `(tactic| repeat (walk_at "s0"))

section
variable {P : Program} {w : World} {K : PySem.W.Frag} {mg : Str → Option Value} {base : Heap}
abbrev eqX (P : Program) (base : Heap) (T : Tx w K mg) (cdv : Value) (A : Around) (outer : List Env) (s0 : Shared) (H0 : Hp) (E : XK) : Cx := (cxOf CX0 P w K mg base N__law_equal_right "_law_equal_right" (defScope s__law_equal_right) T.f__law_equal_right cdv A outer s0 H0 E).nox
structure EqF (T : Tx w K mg) (H : Hp) (o1 ln lf y0 y1 x0 x1 : Addr) (m b h s b' h' s' : Int) : Prop where
  m0 : 0 < m
  mB : B 192 m
  sm : Small b h s
  sm' : Small b' h' s'
  o1 : H o1 = some (.tup [.int b, .int h, .int s])
  ln : H ln = some (.lst [.ref y0, .ref y1])
  lf : H lf = some (.lst [.ref x0, .ref x1])
  q0 : DAt T.C_Deal H y0 (DN b h s)
  q1 : DAt T.C_Deal H y1 (DN b' h' s')
  q2 : DAt T.C_Deal H x0 (DN (m * b) h (m * s))
  q3 : DAt T.C_Deal H x1 (DN (m * b') h' (m * s'))
theorem eq3 (T : Tx w K mg) (cdv : Value) (A : Around) (outer : List Env) (s0 : Shared) (H0 : Hp) (E : XK) (hr : Room 8 (A.deeper (PyProof.Rows.envOfC "_law_equal_right" (defScope s__law_equal_right) s0.heap.objs.size T.f__law_equal_right cdv))) :
    ∃ t, PSs (eqX P base T cdv A outer s0 H0 E) ((defBody s__law_equal_right).drop 8) t ∧ ∀ (D : Ends) (H : Hp) (d o1 ln lf y0 y1 x0 x1 : Addr) (m b h s b' h' s' : Int) (z2 z3 z8 z9 z10 z11 z12 z13 z14 z15 : Option V), EqF T H o1 ln lf y0 y1 x0 x1 m b h s b' h' s' → (∀ H', Same H H' → D.rt (.bl true) H') →
      t D [some (.ref d), some (.ref o1), z2, z3, some (.bl (decide (DN b h s = DN b' h' s'))), some (.int m), some (.ref ln), some (.ref lf), z8, z9, z10, z11, z12, z13, z14, z15] H := by
  refine ⟨_, (pss_cons (ps_set (i := 11) sc__law_equal_right.nd rfl (Or.inl rfl) (pe_lst (pa_cons (pe_tup (pa_cons (pe_cmpR (op_eqIX T.m_Deal___eq__ (ok_Deal___eq__ T) (hr.mono (by decide)) T.b_Deal___eq__ pass0) (pe_ix ix_list (pv 6) pe_int (fun _ _ => rfl)) (pe_ix ix_list (pv 6) pe_int (fun _ _ => rfl)) (nomark _)) (pa_cons (pv 4) pa_nil))) (pa_cons (pe_tup (pa_cons (pe_cmpR (op_eqIX T.m_Deal___eq__ (ok_Deal___eq__ T) (hr.mono (by decide)) T.b_Deal___eq__ pass0) (pe_ix ix_list (pv 7) pe_int (fun _ _ => rfl)) (pe_ix ix_list (pv 7) pe_int (fun _ _ => rfl)) (nomark _)) (pa_cons (pv 4) pa_nil))) (pa_cons (pe_tup (pa_cons (pe_cmpR (op_neII T.m_Deal___eq__ T.ne_Deal T.mo_Deal (ok_Deal___eq__ T) (hr.mono (by decide)) T.b_Deal___eq__ pass0) (pe_ix ix_list (pv 6) pe_int (fun _ _ => rfl)) (pe_ix ix_list (pv 6) pe_int (fun _ _ => rfl)) (nomark _)) (pa_cons (pe_not (pv 4)) pa_nil))) pa_nil)))))
      (pss_cons (ps_set (i := 12) sc__law_equal_right.nd rfl (Or.inl rfl) (pe_make T.M_Deal (ok_Deal___init__ T) (hr.mono (by decide)) rfl T.gC_Deal T.b_Deal___init__ .nil pass0 (pa_cons (pe_op op_mulA (pv 5) (pe_ix ix_tup (pv 1) pe_int (fun _ _ => rfl))) (pa_cons (pe_ix ix_tup (pv 1) pe_int (fun _ _ => rfl)) (pa_cons (pe_op op_add (pe_op op_mulA (pv 5) (pe_ix ix_tup (pv 1) pe_int (fun _ _ => rfl))) pe_int) pa_nil)))))
      (pss_cons (ps_set (i := 11) sc__law_equal_right.nd rfl (Or.inl rfl) (pe_op op_cat (pv 11) (pe_lst (pa_cons (pe_tup (pa_cons (pe_cmpR (op_eqIX T.m_Deal___eq__ (ok_Deal___eq__ T) (hr.mono (by decide)) T.b_Deal___eq__ pass0) (pv 12) (pe_ix ix_list (pv 7) pe_int (fun _ _ => rfl)) (nomark _)) (pa_cons (pe_cmpR op_eq (pe_ix ix_tup (pv 1) pe_int (fun _ _ => rfl)) pe_int (nomark _)) pa_nil))) (pa_cons (pe_tup (pa_cons (pe_cmpR (op_eqIX T.m_Deal___eq__ (ok_Deal___eq__ T) (hr.mono (by decide)) T.b_Deal___eq__ pass0) (pe_ix ix_list (pv 6) pe_int (fun _ _ => rfl)) (pv 1) (nomark _)) (pa_cons pe_bl pa_nil))) (pa_cons (pe_tup (pa_cons (pe_cmpR (op_eqIX T.m_Deal___eq__ (ok_Deal___eq__ T) (hr.mono (by decide)) T.b_Deal___eq__ pass0) (pe_ix ix_list (pv 6) pe_int (fun _ _ => rfl)) (pe_meth (pe_ix ix_list (pv 6) pe_int (fun _ _ => rfl)) T.cl_Deal T.m_Deal_window (ok_Deal_window T) (hr.mono (by decide)) T.b_Deal_window .nil pass0 (pa_cons pe_int pa_nil)) (nomark _)) (pa_cons pe_bl pa_nil))) pa_nil))))))
      (pss_one (ps_ret (pe_callB (cr_all rfl) (by rfl) T.z_all (by decide +kernel) (pa_cons (pe_lc (own := [("_law_pair", 15)]) (g := (gName 15)) (te := (tCall (sp_same K T.C_Deal) [] E0 (tCons (tOp (rIxT K) (tVar 15) (tC (.int 0))) (tCons (tOp (rIxT K) (tVar 15) (tC (.int 1))) tNil)))) (tt := tYes) rfl sc__law_equal_right.nd (pi_list (pv 11)) (blkOk_by (N := N__law_equal_right) (sc := defScope s__law_equal_right) (by decide +kernel)) (fun _ _ _ _ _ => (pg_name (i := 15) sc__law_equal_right.nd rfl (Or.inl rfl))) (fun _ _ _ _ _ => pts_nil) (fun _ _ _ _ _ => (pe_call (ok__law_same T) (hr.mono (by decide)) rfl T.g__law_same T.F__law_same.kp T.b__law_same .nil pass0 (pa_cons (pe_ix ix_tup (pv 15) pe_int (fun _ _ => rfl)) (pa_cons (pe_ix ix_tup (pv 15) pe_int (fun _ _ => rfl)) pa_nil))))) pa_nil))))))), ?_⟩
  intro D H d o1 ln lf y0 y1 x0 x1 m b h s b' h' s' z2 z3 z8 z9 z10 z11 z12 z13 z14 z15 F q
  obtain ⟨m0, mB, sm, sm', e1, eN, eF, q0, q1, q2, q3⟩ := F
  obtain ⟨v0, w0⟩ := id q0
  obtain ⟨v1, w1⟩ := id q1
  obtain ⟨v2, w2⟩ := id q2
  obtain ⟨v3, w3⟩ := id q3
  have nfD : PySem.W.notFirst K T.C_Deal (.ref T.C_Deal) = true := by simp [PySem.W.notFirst]
  have fi := far_iff (b := b) (h := h) (s := s) (b' := b') (h' := h') (s' := s') m0 sm.h0 sm'.h0
  have bi := bent_iff (b := b) (h := h) (s := s) m0 sm.b0 sm.h0
  have sy : decide (DN b' h' s' = DN b h s) = decide (DN b h s = DN b' h' s') := by
    by_cases c : DN b h s = DN b' h' s'
    · rw [decide_eq_true c, decide_eq_true c.symm]
    · rw [decide_eq_false c, decide_eq_false (fun z => c z.symm)]
  generalize hal : decide (DN b h s = DN b' h' s') = al at *
  walk_at "gi"
  refine w_ixL eN rfl ?_
  walk_at "gi"
  refine w_ixL eN rfl ?_
  walk_at "gi"
  refine ⟨y0, v0, _, _, rfl, w0, T.ty_Deal _ _ _ _ w1, nfD, y0, _, _, rfl, q0, .inl ⟨y1, _, rfl, q1, fun H1 s1 => ⟨_, rfl, ?_⟩⟩⟩
  rw [hal]
  walk_at "gi"
  refine w_new (by assumption) (Nat.le_of_ble_eq_true rfl) (fun t1 H2 n2 s2 f1 => ?_)
  have sA := s1.trans s2
  walk_at "gi"
  refine w_ixL (sA _ _ eF) rfl ?_
  walk_at "gi"
  refine w_ixL (sA _ _ eF) rfl ?_
  walk_at "gi"
  refine ⟨x0, v2, _, _, rfl, sA _ _ w2, T.ty_Deal _ _ _ _ (sA _ _ w3), nfD, x0, _, _, rfl, q2.same sA, .inl ⟨x1, _, rfl, q3.same sA, fun H3 s3 => ⟨_, rfl, ?_⟩⟩⟩
  rw [fi]
  walk_at "gi"
  refine w_new (by assumption) (Nat.le_of_ble_eq_true rfl) (fun t2 H4 n4 s4 f2 => ?_)
  have sB := (sA.trans s3).trans s4
  have f1 := s4 _ _ (s3 _ _ f1)
  walk_at "gi"
  refine w_ixL (sB _ _ eN) rfl ?_
  walk_at "gi"
  refine w_ixL (sB _ _ eN) rfl ?_
  walk_at "gi"
  refine ⟨y1, y0, v1, v0, _, _, rfl, rfl, sB _ _ w1, sB _ _ w0, y1, _, _, rfl, q1.same sB, .inl ⟨y0, _, rfl, q0.same sB, fun H5 s5 => ⟨_, rfl, ?_⟩⟩⟩
  rw [sy]
  walk_at "gi"
  refine w_new (by assumption) (Nat.le_of_ble_eq_true rfl) (fun t3 H6 n6 s6 f3 => ?_)
  walk_at "gi"
  refine w_new (by assumption) (Nat.le_of_ble_eq_true rfl) (fun lp H7 n7 s7 ep => ?_)
  have sC := ((sB.trans s5).trans s6).trans s7
  have f1 := s7 _ _ (s6 _ _ (s5 _ _ f1))
  have f2 := s7 _ _ (s6 _ _ (s5 _ _ f2))
  have f3 := s7 _ _ f3
  have e1 := sC _ _ e1
  have eN := sC _ _ eN
  have eF := sC _ _ eF
  have w0 := sC _ _ w0
  have q0 := q0.same sC
  have q2 := q2.same sC
  have w2 := sC _ _ w2
  have qq : ∀ H', Same H7 H' → D.rt (.bl true) H' := fun H' z => q H' (sC.trans z)
  clear sA sB sC s1 s2 s3 s4 s5 s6 s7 n2 n4 n6 n7 q q1 q3 w1 w3
  have c1 : CMulA m b := CMulA.s2 (by have := sm.b0; omega) (by have := sm.b1; omega)
  have c2 : CMulA m s := CMulA.s2 (by have := sm.s0; omega) (by have := sm.s1; omega)
  walk_at "gi"
  refine w_ixT e1 rfl ?_
  walk_at "gi"
  refine w_ixT e1 rfl ?_
  walk_at "gi"
  refine w_ixT e1 rfl ?_
  walk_at "gi"
  intro xb db nx nd ne
  have mb : B 194 (m * b) := mB.mul (B.lit (k := 2) (by have := sm.b0; have := sm.b1; omega))
  refine ⟨xb, db, m * b, h, m * s + 1, rfl, Int.mul_pos m0 sm.b0, sm.h0, mb.mono (by decide), B.small (by have := sm.h0; omega) (by have := sm.h1; omega), make_ini (by assumption) nx nd ne (fun H8 s8 hb => ?_)⟩
  have hb : DAt T.C_Deal H8 xb (DN (m * b) h (m * s + 1)) := hb
  obtain ⟨vb, wb⟩ := id hb
  walk_at "gi"
  refine w_ixL (s8 _ _ eF) rfl ?_
  walk_at "gi"
  refine ⟨xb, vb, _, _, rfl, wb, T.ty_Deal _ _ _ _ (s8 _ _ w2), nfD, xb, _, _, rfl, hb, .inl ⟨x0, _, rfl, q2.same s8, fun H9 s9 => ⟨_, rfl, ?_⟩⟩⟩
  rw [bi]
  have sD := s8.trans s9
  walk_at "gi"
  refine w_ixT (sD _ _ e1) rfl ?_
  walk_at "gi"
  simp only [V_int]
  refine w_new (by assumption) (Nat.le_of_ble_eq_true rfl) (fun t4 H10 n10 s10 f4 => ?_)
  have sE := sD.trans s10
  walk_at "gi"
  refine w_ixL (sE _ _ eN) rfl ?_
  walk_at "gi"
  refine ⟨y0, v0, _, _, rfl, sE _ _ w0, .tup (sE _ _ e1), T.nf_tup, y0, _, _, rfl, q0.same sE, .inr ⟨_, .base (.tup (sE _ _ e1)), T.kd_tup, ⟨_, rfl, ?_⟩⟩⟩
  walk_at "gi"
  refine w_new (by assumption) (Nat.le_of_ble_eq_true rfl) (fun t5 H11 n11 s11 f5 => ?_)
  have sF := sE.trans s11
  walk_at "gi"
  refine w_ixL (sF _ _ eN) rfl ?_
  walk_at "gi"
  refine w_ixL (sF _ _ eN) rfl ?_
  walk_at "gi"
  have okN : DOk (DN b h s) := DN_ok sm.b0 sm.h0 (B.small (by have := sm.b0; omega) (by have := sm.b1; omega)) (B.small (by have := sm.h0; omega) (by have := sm.h1; omega))
  refine ⟨y0, v0, _, rfl, sF _ _ w0, dfs_no _ (by decide +kernel) (by decide +kernel) (by decide +kernel), ?_⟩
  walk_at "gi"
  refine ⟨y0, _, 0, rfl, q0.same sF, okN, by decide, sm.h0, fun xw H12 s12 hw => ?_⟩
  obtain ⟨vw, ww⟩ := id hw
  have sG := sF.trans s12
  walk_at "gi"
  refine ⟨y0, v0, _, _, rfl, sG _ _ w0, T.ty_Window _ _ _ _ ww, T.nf_win, y0, _, _, rfl, q0.same sG, .inr ⟨_, .base (T.ty_Window _ _ _ _ ww), T.kd_win, ⟨_, rfl, ?_⟩⟩⟩
  walk_at "gi"
  refine w_new (by assumption) (Nat.le_of_ble_eq_true rfl) (fun t6 H13 n13 s13 f6 => ?_)
  walk_at "gi"
  refine w_new (by assumption) (Nat.le_of_ble_eq_true rfl) (fun l14 H14 n14 s14 f14 => ?_)
  have sH := (sG.trans s13).trans s14
  walk_at "gi"
  refine ⟨lp, l14, _, _, rfl, rfl, sH _ _ ep, f14, Nat.le_of_ble_eq_true rfl, fun l15 n15 => ?_⟩
  have s15 := same_upd (o := .lst ([V.ref t1, .ref t2, .ref t3] ++ [.ref t4, .ref t5, .ref t6])) n15
  have e15 : upd H14 l15 (.lst ([V.ref t1, .ref t2, .ref t3] ++ [.ref t4, .ref t5, .ref t6])) l15 = some (.lst [V.ref t1, .ref t2, .ref t3, .ref t4, .ref t5, .ref t6]) := upd_same
  have sI := sH.trans s15
  have f1 := sI _ _ f1
  have f2 := sI _ _ f2
  have f3 := sI _ _ f3
  have f4 := s15 _ _ (s14 _ _ (s13 _ _ (s12 _ _ (s11 _ _ f4))))
  have f5 := s15 _ _ (s14 _ _ (s13 _ _ (s12 _ _ f5)))
  have f6 := s15 _ _ (s14 _ _ f6)
  generalize upd H14 l15 (.lst ([V.ref t1, .ref t2, .ref t3] ++ [.ref t4, .ref t5, .ref t6])) = H15 at *
  walk_at "gi"
  refine ⟨l15, rfl, ⟨_, .inl (.inl e15)⟩, fun DD nD => lc_list (xs := [V.ref t1, .ref t2, .ref t3, .ref t4, .ref t5, .ref t6]) (fun i G => Same H15 G ∧ G DD = some (.lst (List.replicate i (.bl true)))) ⟨same_upd nD, upd_same⟩ (fun i G hi hI => .inl (.inl (hI.1 _ _ e15))) (fun i x G hx hI => ?_) (fun G hI => ?_)⟩
  · obtain ⟨sG, eD⟩ := hI
    have row : ∃ (t : Addr) (c : Bool), x = .ref t ∧ H15 t = some (.tup [.bl c, .bl c]) ∧ i < 6 := by
      match i, hx with
      | 0, hx => cases hx; exact ⟨t1, _, rfl, f1, by decide⟩
      | 1, hx => cases hx; exact ⟨t2, _, rfl, f2, by decide⟩
      | 2, hx => cases hx; exact ⟨t3, _, rfl, f3, by decide⟩
      | 3, hx => cases hx; exact ⟨t4, _, rfl, f4, by decide⟩
      | 4, hx => cases hx; exact ⟨t5, _, rfl, f5, by decide⟩
      | 5, hx => cases hx; exact ⟨t6, _, rfl, f6, by decide⟩
      | n + 6, hx => simp at hx
    obtain ⟨t, c, rfl, ht, hi6⟩ := row
    have ht' := sG _ _ ht
    walk_at "gi"
    refine ⟨rfl, ?_⟩
    walk_at "gi"
    refine iteT ?_
    walk_at "gi"
    refine w_ixT ht' rfl ?_
    walk_at "gi"
    refine w_ixT ht' rfl ?_
    walk_at "gi"
    refine ⟨_, _, rfl, .inr (.inr ⟨c, c, rfl, rfl, ?_⟩)⟩
    rw [decide_eq_true rfl]
    refine ⟨_, eD, ?_, fun b o zz => ?_, ?_⟩
    · rw [List.length_replicate]
      exact Nat.lt_of_lt_of_le hi6 (by decide)
    · rw [upd_ne (ne_of_none zz nD)]
      exact sG b o zz
    · rw [upd_same, List.replicate_succ']
  · obtain ⟨sG, eD⟩ := hI
    walk_at "gi"
    refine ⟨DD, [true, true, true, true, true, true], rfl, .inl (.inl eD), ?_⟩
    walk_at "gi"
    exact qq G (sI.trans sG)
end
end K17
set_option maxHeartbeats 40000000
namespace K17
open PySem L2 DS NdefX
set_option pp.maxSteps 1200
local macro_rules | `(tactic| walk_at "c") => `(tactic| first
  | (dsimp only; omega)
  | omega
  | (show CMulA _ _; first | exact CMulA.s1 (by omega) (by omega) | exact CMulA.s2 (by omega) (by omega))
  | (show CDivW _ _; first | exact ⟨by omega, by assumption⟩ | exact ⟨by omega, by decide⟩)
  | (show CPow _ _; exact ⟨by decide, by decide, by decide⟩)
  | assumption)
local macro_rules | `(tactic| walk_at "get") => `(tactic| first
  | assumption
  | (refine (by assumption : Same _ _) _ _ ?_; walk_at "get")
  | (refine (by assumption : Keep _ _) _ _ ?_ rfl; walk_at "get"))
local macro_rules | `(tactic| walk_at "pen") => `(tactic| first
  | assumption
  | (refine Pen.same (by assumption) ?_; walk_at "pen")
  | (refine Pen.mono ?_ (by omega); assumption))
local macro_rules | `(tactic| walk_at "keep") => `(tactic| first
  | assumption
  | exact Keep.refl _
  | exact Keep.of (by assumption)
  | (refine Keep.trans ?_ (by assumption); walk_at "keep")
  | (refine Keep.same ?_ (by assumption); walk_at "keep"))
local macro_rules | `(tactic| walk_at "same") => `(tactic| first
  | assumption
  | exact Same.refl _
  | (refine Same.trans ?_ (by assumption); walk_at "same"))
local macro_rules | `(tactic| walk_at "s0") => `(tactic| first
  | with_reducible refine w_seq ?_
  | with_reducible refine w_asg ?_
  | with_reducible refine w_name ?_
  | ((with_reducible apply w_var); exact rfl)
  | with_reducible refine w_c ?_
  | with_reducible refine w_op ?_
  | with_reducible refine w_I0 ?_
  | ((with_reducible apply w_I); (walk_at "c"))
  | with_reducible refine w_cons ?_
  | with_reducible refine w_nil ?_
  | with_reducible refine w_cb ?_
  | with_reducible refine w_int1 ?_
  | with_reducible refine w_int1b ?_
  | with_reducible refine w_call ?_
  | with_reducible refine w_test ?_
  | with_reducible refine w_k ?_
  | with_reducible refine w_ret ?_
  | with_reducible refine w_drop ?_
  | with_reducible refine w_not ?_
  | with_reducible refine w_and ?_
  | with_reducible refine w_or ?_
  | with_reducible refine w_andV ?_
  | with_reducible refine w_orV ?_
  | with_reducible refine w_notV ?_
  | with_reducible refine w_if ?_
  | with_reducible refine w_B ?_
  | with_reducible refine w_un ?_
  | with_reducible refine w_U ?_
  | (with_reducible refine w_tup ?_; intro _ _)
  | (with_reducible refine w_lst ?_; intro _ _)
  | with_reducible refine w_dget ?_
  | with_reducible refine w_dput ?_
  | with_reducible refine w_fld ?_
  | with_reducible refine w_meth ?_
  | (with_reducible refine w_make ?_; intro _ _)
  | with_reducible refine w_par ?_
  | with_reducible refine w_par3 ?_
  | with_reducible refine w_two ?_
  | with_reducible refine w_three ?_
  | with_reducible refine w_one ?_
  | with_reducible refine w_chain ?_
  | with_reducible refine w_next ?_
  | with_reducible refine w_brk ?_
  | with_reducible refine w_cont ?_
  | with_reducible refine w_retN ?_
  | with_reducible refine w_gcons ?_
  | with_reducible refine w_gnil ?_
  | ((with_reducible refine w_eq ?_ ?_); exact rfl)
  | ((with_reducible refine w_ne ?_ ?_); exact rfl)
  | with_reducible refine w_part ?_
  | with_reducible refine w_lc ?_
  | with_reducible refine w_bm ?_
  | with_reducible refine w_lcS ?_
  | with_reducible refine w_yes ?_
  | with_reducible refine w_iTup ?_
  | with_reducible refine w_iList ?_
  | with_reducible refine w_unT ?_
  | with_reducible refine w_unT0 ?_
  | with_reducible refine w_unL ?_
  | with_reducible refine w_unL0 ?_
  | ((with_reducible apply w_gtup); (walk_at "get"); (exact rfl))
  | with_reducible refine w_gfld ?_
  | with_reducible refine w_sfld ?_
  | with_reducible refine w_risi ?_
  | with_reducible refine w_i ?_
  | with_reducible refine w_pnil ?_
  | with_reducible refine w_pcons ?_
  | with_reducible refine w_sl ?_
  | with_reducible refine w_nopart ?_
  | with_reducible refine w_for ?_
  | with_reducible refine w_while ?_
  | with_reducible refine w_irng1 ?_
  | with_reducible refine w_irng2 ?_
  | with_reducible refine And.intro (rfl : V.non = V.non) ?_)
local macro_rules | `(tactic| walk_at "s") => `(tactic| first | walk_at "s0" | with_reducible refine w_ifs ?_)
local macro_rules | `(tactic| walk_at "go") => `(tactic| repeat (walk_at "s"))
local macro_rules | `(tactic| walk_at "gi") => `(tactic| repeat (walk_at "s0"))

section
variable {P : Program} {w : World} {K : PySem.W.Frag} {mg : Str → Option Value} {base : Heap}
theorem eq2 (T : Tx w K mg) (cdv : Value) (A : Around) (outer : List Env) (s0 : Shared) (H0 : Hp) (E : XK) (hr : Room 8 (A.deeper (PyProof.Rows.envOfC "_law_equal_right" (defScope s__law_equal_right) s0.heap.objs.size T.f__law_equal_right cdv))) :
    ∃ t, PSs (eqX P base T cdv A outer s0 H0 E) ((defBody s__law_equal_right).drop 6) t ∧ ∀ (D : Ends) (H14 : Hp) (d o1 o : Addr) (m b h s b' h' s' : Int) (z3 z6 z7 z8 z9 z10 z11 z12 z13 z14 z15 : Option V), 0 < m → B 192 m → Small b h s → Small b' h' s' → H14 o1 = some (.tup [.int b, .int h, .int s]) → H14 o = some (.tup [.int b', .int h', .int s']) → (∀ H', Same H14 H' → D.rt (.bl true) H') →
      t D [some (.ref d), some (.ref o1), some (.ref o), z3, some (.bl (decide (DN b h s = DN b' h' s'))), some (.int m), z6, z7, z8, z9, z10, z11, z12, z13, z14, z15] H14 := by
  obtain ⟨t3, ht3, run3⟩ := eq3 (P := P) (base := base) T cdv A outer s0 H0 E hr
  refine ⟨_, (pss_cons (ps_par (i := 6) (j := 7) rfl sc__law_equal_right.nd rfl rfl (by decide) rfl rfl (pa_cons (pe_lc (own := [("_law_parts", 14)]) (g := (gName 14)) (te := (tMake T.C_Deal (sp_dinit T.C_Deal) [] E0 (tCons (tOp (rIxT K) (tVar 14) (tC (.int 0))) (tCons (tOp (rIxT K) (tVar 14) (tC (.int 1))) (tCons (tOp (rIxT K) (tVar 14) (tC (.int 2))) tNil))))) (tt := tYes) rfl sc__law_equal_right.nd (pi_tup (pe_tup (pa_cons (pv 1) (pa_cons (pv 2) pa_nil)))) (blkOk_by (N := N__law_equal_right) (sc := defScope s__law_equal_right) (by decide +kernel)) (fun _ _ _ _ _ => (pg_name (i := 14) sc__law_equal_right.nd rfl (Or.inl rfl))) (fun _ _ _ _ _ => pts_nil) (fun _ _ _ _ _ => (pe_make T.M_Deal (ok_Deal___init__ T) (hr.mono (by decide)) rfl T.gC_Deal T.b_Deal___init__ .nil pass0 (pa_cons (pe_ix ix_tup (pv 14) pe_int (fun _ _ => rfl)) (pa_cons (pe_ix ix_tup (pv 14) pe_int (fun _ _ => rfl)) (pa_cons (pe_ix ix_tup (pv 14) pe_int (fun _ _ => rfl)) pa_nil)))))) (pa_cons (pe_lst pa_nil) pa_nil)) rfl)
      (pss_cons (ps_for PassesOwn.never rfl (pi_tup (pe_tup (pa_cons (pv 1) (pa_cons (pv 2) pa_nil)))) (pg_tup rfl (pgs_cons (pg_name (i := 8) sc__law_equal_right.nd rfl (Or.inl rfl)) (pgs_cons (pg_name (i := 9) sc__law_equal_right.nd rfl (Or.inl rfl)) (pgs_cons (pg_name (i := 10) sc__law_equal_right.nd rfl (Or.inl rfl)) pgs_nil))))
      (pss_one (ps_set (i := 7) sc__law_equal_right.nd rfl (Or.inl rfl) (pe_op op_cat (pv 7) (pe_lst (pa_cons (pe_make T.M_Deal (ok_Deal___init__ T) (hr.mono (by decide)) rfl T.gC_Deal T.b_Deal___init__ .nil pass0 (pa_cons (pe_op op_mulA (pv 5) (pv 8)) (pa_cons (pv 9) (pa_cons (pe_op op_mulA (pv 5) (pv 10)) pa_nil)))) pa_nil))))))
      ht3)), ?_⟩
  intro DE H14 d o1 o m b h s b' h' s' z3 z6 z7 z8 z9 z10 z11 z12 z13 z14 z15 m0 mB sm1 sm' f1 f2 q
  obtain ⟨b0, b1, h0, h1, s0', s1⟩ := id sm1
  obtain ⟨b0', b1', h0', h1', s0'', s1'⟩ := id sm'
  have B7 : ∀ x : Int, 0 < x → x ≤ 3 → B 700 x := fun x h0 h1 => B.small (by omega) (by omega)
  walk_at "gi"
  refine w_new (by assumption) (Nat.le_of_ble_eq_true rfl) (fun o15 H15 n15 s15 e15 => ?_)
  walk_at "gi"
  refine ⟨o15, rfl, ⟨_, .inl (.inl e15)⟩, fun D nD => lc_tup (xs := [.ref o1, .ref o]) (fun i G => Same H15 G ∧ ∃ xs : List Addr, G D = some (.lst (xs.map V.ref)) ∧ xs.length = i ∧ (∀ x, xs[0]? = some x → DAt T.C_Deal G x (DN b h s)) ∧ ∀ x, xs[1]? = some x → DAt T.C_Deal G x (DN b' h' s')) ⟨same_upd nD, [], upd_same, rfl, fun x z => by simp at z, fun x z => by simp at z⟩ (fun i G hi hI => .inl (.inl (hI.1 _ _ e15))) (fun i x G hx hI => ?_) ?_⟩
  · obtain ⟨sG, xs, eD, lx, x0, x1⟩ := hI
    have row : ∃ (u : Addr) (bb hh ss : Int), x = .ref u ∧ H15 u = some (.tup [.int bb, .int hh, .int ss]) ∧ Small bb hh ss ∧ ((i = 0 ∧ DN bb hh ss = DN b h s) ∨ (i = 1 ∧ DN bb hh ss = DN b' h' s')) := by
      match i, hx with
      | 0, hx => cases hx; exact ⟨o1, b, h, s, rfl, s15 _ _ f1, sm1, .inl ⟨rfl, rfl⟩⟩
      | 1, hx => cases hx; exact ⟨o, b', h', s', rfl, s15 _ _ f2, sm', .inr ⟨rfl, rfl⟩⟩
      | n + 2, hx => simp at hx
    obtain ⟨u, bb, hh, ss, rfl, eu, su, cs⟩ := row
    have eu' := sG _ _ eu
    walk_at "gi"
    refine ⟨rfl, ?_⟩
    walk_at "gi"
    refine iteT ?_
    walk_at "gi"
    refine w_ixT eu' rfl ?_
    walk_at "gi"
    refine w_ixT eu' rfl ?_
    walk_at "gi"
    refine w_ixT eu' rfl ?_
    walk_at "gi"
    intro y dy ny ndy ney
    refine ⟨y, dy, bb, hh, ss, rfl, su.b0, su.h0, B7 _ su.b0 su.b1, B7 _ su.h0 su.h1, make_ini (by assumption) ny ndy ney (fun G2 s2 hy => ?_)⟩
    have eD2 := s2 _ _ eD
    have mvD : ∀ x zz, DAt T.C_Deal G2 x zz → DAt T.C_Deal (upd G2 D (.lst (xs.map V.ref ++ [V.ref y]))) x zz := fun x zz ⟨dx, q⟩ => ⟨dx, by rw [upd_ne (ne_of q eD2 (by intro z; cases z))]; exact q⟩
    refine ⟨_, eD2, ?_, fun b o zz => ?_, xs ++ [y], ?_, by rw [List.length_append, lx]; rfl, fun x z => ?_, fun x z => ?_⟩
    · rw [List.length_map, lx]
      have : (1000 : Nat) ≤ sizeLine := by decide
      rcases cs with ⟨q, _⟩ | ⟨q, _⟩ <;> omega
    · rw [upd_ne (ne_of_none zz nD)]
      exact s2 _ _ (sG b o zz)
    · rw [upd_same, List.map_append]
      rfl
    · refine mvD _ _ ?_
      rcases cs with ⟨q, ec⟩ | ⟨q, ec⟩
      · have : xs = [] := List.eq_nil_of_length_eq_zero (by omega)
        subst this
        cases z
        rw [← ec]
        exact hy
      · rw [List.getElem?_append_left (by omega)] at z
        exact (x0 x z).same s2
    · refine mvD _ _ ?_
      rcases cs with ⟨q, ec⟩ | ⟨q, ec⟩
      · rw [List.getElem?_eq_none (by rw [List.length_append, lx, q]; exact Nat.le_refl _)] at z
        cases z
      · rw [List.getElem?_append_right (by omega), lx, q] at z
        cases z
        rw [← ec]
        exact hy
  intro G hI
  obtain ⟨sG, xs, eD, lx, x0, x1⟩ := hI
  obtain ⟨y0, y1, rfl⟩ : ∃ y0 y1, xs = [y0, y1] := by
    match xs, lx with
    | [y0, y1], _ => exact ⟨y0, y1, rfl⟩
  have d0 := x0 y0 rfl
  have d1 := x1 y1 rfl
  have g1 := sG _ _ (s15 _ _ f1)
  have g2 := sG _ _ (s15 _ _ f2)
  clear x0 x1 f1 f2 n15 lx e15
  walk_at "gi"
  refine w_new (by assumption) (Nat.zero_le _) (fun l17 H17 n17 s17 e17 => ?_)
  walk_at "gi"
  refine w_new (by assumption) (Nat.le_of_ble_eq_true rfl) (fun o18 H18 n18 s18 e18 => ?_)
  walk_at "gi"
  refine ⟨o18, rfl, ⟨_, .inl (.inl e18)⟩, for_unT (.inl (.inl e18)) ?_⟩
  have h1718 := s17.trans s18
  have mb : ∀ x : Int, 0 < x → x ≤ 3 → B 194 (m * x) := fun x h0 h1 => mB.mul (B.lit (k := 2) (by omega))
  have cm : ∀ x : Int, -10 < x → x < 10 → CMulA m x := fun x h0 h1 => CMulA.s2 (by omega) (by omega)
  have c1 := cm b (by omega) (by omega)
  have c2 := cm s (by omega) (by omega)
  have c3 := cm b' (by omega) (by omega)
  have c4 := cm s' (by omega) (by omega)
  have i1 := h1718 _ _ g1
  have i2 := h1718 _ _ g2
  walk_at "gi"
  intro x19 dx19 nx19 nd19 ne19
  refine ⟨x19, dx19, _, _, _, rfl, Int.mul_pos m0 b0, h0, (mb b b0 b1).mono (by decide), B7 _ h0 h1, make_ini (by assumption) nx19 nd19 ne19 (fun H19 s19 hy19 => ?_)⟩
  walk_at "gi"
  refine w_new (by assumption) (Nat.le_of_ble_eq_true rfl) (fun l20 H20 n20 s20 e20 => ?_)
  walk_at "gi"
  refine ⟨l17, l20, [], _, rfl, rfl, s20 _ _ (s19 _ _ (s18 _ _ e17)), e20, Nat.le_of_ble_eq_true rfl, fun l21 n21 => ?_⟩
  have s21 := same_upd (o := .lst ([] ++ [V.ref x19])) n21
  have e21 : upd H20 l21 (.lst ([] ++ [V.ref x19])) l21 = some (.lst [.ref x19]) := upd_same
  generalize upd H20 l21 (.lst ([] ++ [V.ref x19])) = H21 at *
  have s1821 := (s19.trans s20).trans s21
  walk_at "gi"
  refine ⟨.inl (.inl (s1821 _ _ e18)), ?_⟩
  have i2' := s1821 _ _ i2
  walk_at "gi"
  intro x22 dx22 nx22 nd22 ne22
  refine ⟨x22, dx22, _, _, _, rfl, Int.mul_pos m0 b0', h0', (mb b' b0' b1').mono (by decide), B7 _ h0' h1', make_ini (by assumption) nx22 nd22 ne22 (fun H22 s22 hy22 => ?_)⟩
  walk_at "gi"
  refine w_new (by assumption) (Nat.le_of_ble_eq_true rfl) (fun l23 H23 n23 s23 e23 => ?_)
  walk_at "gi"
  refine ⟨l21, l23, [.ref x19], _, rfl, rfl, s23 _ _ (s22 _ _ e21), e23, Nat.le_of_ble_eq_true rfl, fun l24 n24 => ?_⟩
  have s24 := same_upd (o := .lst ([V.ref x19] ++ [V.ref x22])) n24
  have e24 : upd H23 l24 (.lst ([V.ref x19] ++ [V.ref x22])) l24 = some (.lst [.ref x19, .ref x22]) := upd_same
  generalize upd H23 l24 (.lst ([V.ref x19] ++ [V.ref x22])) = H24 at *
  have s2124 := (s22.trans s23).trans s24
  have sAll := h1718.trans (s1821.trans s2124)
  walk_at "gi"
  refine ⟨.inl (.inl (s2124 _ _ (s1821 _ _ e18))), ?_⟩
  have fin := run3 DE H24 d o1 D l24 y0 y1 x19 x22 m b h s b' h' s'
  refine fin _ _ _ _ _ _ _ _ _ _ ⟨m0, mB, sm1, sm', sAll _ _ g1, sAll _ _ eD, e24, d0.same sAll, d1.same sAll, (hy19.same (s20.trans s21)).same s2124, hy22.same (s23.trans s24)⟩ (fun H' z => q H' (((s15.trans sG).trans sAll).trans z))
end
end K17
set_option maxHeartbeats 40000000
namespace K17
open PySem L2 DS NdefX
set_option pp.maxSteps 1200
local macro_rules | `(tactic| walk_at "c") => `(tactic| first
  | (dsimp only; omega)
  | omega
  | (show CMulA _ _; first | exact CMulA.s1 (by omega) (by omega) | exact CMulA.s2 (by omega) (by omega))
  | (show CDivW _ _; first | exact ⟨by omega, by assumption⟩ | exact ⟨by omega, by decide⟩)
  | (show CPow _ _; exact ⟨by decide, by decide, by decide⟩)
  | assumption)
local macro_rules | `(tactic| walk_at "get") => `(tactic| first
  | assumption
  | (refine (by assumption : Same _ _) _ _ ?_; walk_at "get")
  | (refine (by assumption : Keep _ _) _ _ ?_ rfl; walk_at "get"))
local macro_rules | `(tactic| walk_at "pen") => `(tactic| first
  | assumption
  | (refine Pen.same (by assumption) ?_; walk_at "pen")
  | (refine Pen.mono ?_ (by omega); assumption))
local macro_rules | `(tactic| walk_at "keep") => `(tactic| first
  | assumption
  | exact Keep.refl _
  | exact Keep.of (by assumption)
  | (refine Keep.trans ?_ (by assumption); walk_at "keep")
  | (refine Keep.same ?_ (by assumption); walk_at "keep"))
local macro_rules | `(tactic| walk_at "same") => `(tactic| first
  | assumption
  | exact Same.refl _
  | (refine Same.trans ?_ (by assumption); walk_at "same"))
local macro_rules | `(tactic| walk_at "s0") => `(tactic| first
  | with_reducible refine w_seq ?_
  | with_reducible refine w_asg ?_
  | with_reducible refine w_name ?_
  | ((with_reducible apply w_var); exact rfl)
  | with_reducible refine w_c ?_
  | with_reducible refine w_op ?_
  | with_reducible refine w_I0 ?_
  | ((with_reducible apply w_I); (walk_at "c"))
  | with_reducible refine w_cons ?_
  | with_reducible refine w_nil ?_
  | with_reducible refine w_cb ?_
  | with_reducible refine w_int1 ?_
  | with_reducible refine w_int1b ?_
  | with_reducible refine w_call ?_
  | with_reducible refine w_test ?_
  | with_reducible refine w_k ?_
  | with_reducible refine w_ret ?_
  | with_reducible refine w_drop ?_
  | with_reducible refine w_not ?_
  | with_reducible refine w_and ?_
  | with_reducible refine w_or ?_
  | with_reducible refine w_andV ?_
  | with_reducible refine w_orV ?_
  | with_reducible refine w_notV ?_
  | with_reducible refine w_if ?_
  | with_reducible refine w_B ?_
  | with_reducible refine w_un ?_
  | with_reducible refine w_U ?_
  | (with_reducible refine w_tup ?_; intro _ _)
  | (with_reducible refine w_lst ?_; intro _ _)
  | with_reducible refine w_dget ?_
  | with_reducible refine w_dput ?_
  | with_reducible refine w_fld ?_
  | with_reducible refine w_meth ?_
  | (with_reducible refine w_make ?_; intro _ _)
  | with_reducible refine w_par ?_
  | with_reducible refine w_par3 ?_
  | with_reducible refine w_two ?_
  | with_reducible refine w_three ?_
  | with_reducible refine w_one ?_
  | with_reducible refine w_chain ?_
  | with_reducible refine w_next ?_
  | with_reducible refine w_brk ?_
  | with_reducible refine w_cont ?_
  | with_reducible refine w_retN ?_
  | with_reducible refine w_gcons ?_
  | with_reducible refine w_gnil ?_
  | ((with_reducible refine w_eq ?_ ?_); exact rfl)
  | ((with_reducible refine w_ne ?_ ?_); exact rfl)
  | with_reducible refine w_part ?_
  | with_reducible refine w_lc ?_
  | with_reducible refine w_bm ?_
  | with_reducible refine w_lcS ?_
  | with_reducible refine w_yes ?_
  | with_reducible refine w_iTup ?_
  | with_reducible refine w_iList ?_
  | with_reducible refine w_unT ?_
  | with_reducible refine w_unT0 ?_
  | with_reducible refine w_unL ?_
  | with_reducible refine w_unL0 ?_
  | ((with_reducible apply w_gtup); (walk_at "get"); (exact rfl))
  | with_reducible refine w_gfld ?_
  | with_reducible refine w_sfld ?_
  | with_reducible refine w_risi ?_
  | with_reducible refine w_i ?_
  | with_reducible refine w_pnil ?_
  | with_reducible refine w_pcons ?_
  | with_reducible refine w_sl ?_
  | with_reducible refine w_nopart ?_
  | with_reducible refine w_for ?_
  | with_reducible refine w_while ?_
  | with_reducible refine w_irng1 ?_
  | with_reducible refine w_irng2 ?_
  | with_reducible refine And.intro (rfl : V.non = V.non) ?_)
local macro_rules | `(tactic| walk_at "s") => `(tactic| first | walk_at "s0" | with_reducible refine w_ifs ?_)
local macro_rules | `(tactic| walk_at "go") => `(tactic| repeat (walk_at "s"))
local macro_rules | `(tactic| walk_at "gi") => `(tactic| repeat (walk_at "s0"))

section
variable {P : Program} {w : World} {K : PySem.W.Frag} {mg : Str → Option Value} {base : Heap}
def sp_eqright : Sp := fun vs H Q _ => ∃ (d : Addr) (n : Nat), vs = [.ref d] ∧ Pen H d n ∧ n ≤ 999000 ∧ ∀ H', Pen H' d (n + 30) → Q (.bl true) H'
theorem ok__law_equal_right (T : Tx w K mg) : FnOk P w K mg base CX0 9 T.f__law_equal_right T.fd__law_equal_right ["_law_pen"] sp_eqright := by
  refine T.F__law_equal_right.ok sc__law_equal_right (fun vs H Q E h => ?_) (fun cdv A outer s H vs Q E hr h => ?_)
  · obtain ⟨d, n, rfl, _⟩ := h
    rfl
  · obtain ⟨d, n, rfl, hpen, hn, q⟩ := h
    obtain ⟨t2, ht2, run2⟩ := eq2 (P := P) (base := base) T cdv A outer s H E hr
    refine ⟨_, (pss_cons (ps_set (i := 1) sc__law_equal_right.nd rfl (Or.inr rfl) (pe_tup (pa_cons (pe_op op_add pe_int (pe_call (ok__law_draw T) (hr.mono (by decide)) rfl T.g__law_draw T.F__law_draw.kp T.b__law_draw .nil pass0 (pa_cons (pv 0) (pa_cons pe_int pa_nil)))) (pa_cons (pe_op op_add pe_int (pe_call (ok__law_draw T) (hr.mono (by decide)) rfl T.g__law_draw T.F__law_draw.kp T.b__law_draw .nil pass0 (pa_cons (pv 0) (pa_cons pe_int pa_nil)))) (pa_cons (pe_op op_sub (pe_call (ok__law_draw T) (hr.mono (by decide)) rfl T.g__law_draw T.F__law_draw.kp T.b__law_draw .nil pass0 (pa_cons (pv 0) (pa_cons pe_int pa_nil))) pe_int) pa_nil)))))
      (pss_cons (ps_set (i := 2) sc__law_equal_right.nd rfl (Or.inr rfl) (pe_tup (pa_cons (pe_op op_add pe_int (pe_call (ok__law_draw T) (hr.mono (by decide)) rfl T.g__law_draw T.F__law_draw.kp T.b__law_draw .nil pass0 (pa_cons (pv 0) (pa_cons pe_int pa_nil)))) (pa_cons (pe_op op_add pe_int (pe_call (ok__law_draw T) (hr.mono (by decide)) rfl T.g__law_draw T.F__law_draw.kp T.b__law_draw .nil pass0 (pa_cons (pv 0) (pa_cons pe_int pa_nil)))) (pa_cons (pe_op op_sub (pe_call (ok__law_draw T) (hr.mono (by decide)) rfl T.g__law_draw T.F__law_draw.kp T.b__law_draw .nil pass0 (pa_cons (pv 0) (pa_cons pe_int pa_nil))) pe_int) pa_nil)))))
      (pss_cons (ps_set (i := 2) sc__law_equal_right.nd rfl (Or.inr rfl) (pe_call (ok__law_pick T) (hr.mono (by decide)) rfl T.g__law_pick T.F__law_pick.kp T.b__law_pick .nil pass0 (pa_cons (pv 0) (pa_cons (pe_lst (pa_cons (pv 2) (pa_cons (pe_tup (pa_cons (pe_ix ix_tup (pv 1) pe_int (fun _ _ => rfl)) (pa_cons (pe_ix ix_tup (pv 1) pe_int (fun _ _ => rfl)) (pa_cons (pe_ix ix_tup (pv 2) pe_int (fun _ _ => rfl)) pa_nil)))) (pa_cons (pe_tup (pa_cons (pe_ix ix_tup (pv 2) pe_int (fun _ _ => rfl)) (pa_cons (pe_ix ix_tup (pv 1) pe_int (fun _ _ => rfl)) (pa_cons (pe_ix ix_tup (pv 1) pe_int (fun _ _ => rfl)) pa_nil)))) pa_nil)))) pa_nil))))
      (pss_cons (ps_set (i := 3) sc__law_equal_right.nd rfl (Or.inl rfl) (pe_op op_mulA (pe_op op_mulA (pe_op op_mulA (pe_ix ix_tup (pv 1) pe_int (fun _ _ => rfl)) (pe_ix ix_tup (pv 1) pe_int (fun _ _ => rfl))) (pe_ix ix_tup (pv 2) pe_int (fun _ _ => rfl))) (pe_ix ix_tup (pv 2) pe_int (fun _ _ => rfl))))
      (pss_cons (ps_set (i := 4) sc__law_equal_right.nd rfl (Or.inl rfl) (pe_callB (cr_all rfl) (by rfl) T.z_all (by decide +kernel) (pa_cons (pe_lc (own := [("_law_cell", 13)]) (g := (gName 13)) (te := (tOp rEq (tCall sp_lhouse [] E0 (tCons (tVar 1) (tCons (tVar 13) tNil))) (tCall sp_lhouse [] E0 (tCons (tVar 2) (tCons (tVar 13) tNil))))) (tt := tYes) rfl sc__law_equal_right.nd (pi_range2 (by rfl) T.z_range (pa_cons (pe_un un_neg (pv 3)) (pa_cons (pv 3) pa_nil))) (blkOk_by (N := N__law_equal_right) (sc := defScope s__law_equal_right) (by decide +kernel)) (fun _ _ _ _ _ => (pg_name (i := 13) sc__law_equal_right.nd rfl (Or.inl rfl))) (fun _ _ _ _ _ => pts_nil) (fun _ _ _ _ _ => (pe_cmpR op_eq (pe_call (ok__law_house T) (hr.mono (by decide)) rfl T.g__law_house T.F__law_house.kp T.b__law_house .nil pass0 (pa_cons (pv 1) (pa_cons (pv 13) pa_nil))) (pe_call (ok__law_house T) (hr.mono (by decide)) rfl T.g__law_house T.F__law_house.kp T.b__law_house .nil pass0 (pa_cons (pv 2) (pa_cons (pv 13) pa_nil))) (nomark _)))) pa_nil)))
      (pss_cons (ps_set (i := 5) sc__law_equal_right.nd rfl (Or.inl rfl) (pe_call (ok__law_size T) (hr.mono (by decide)) rfl T.g__law_size T.F__law_size.kp T.b__law_size .nil pass0 (pa_cons (pv 0) (pa_cons pe_int pa_nil))))
      ht2)))))), ?_⟩
    walk_at "gi"
    refine ⟨d, 3, n, rfl, hpen, by omega, by decide, by decide, fun r1 H1 a1 b1 p1 k1 => ?_⟩
    walk_at "gi"
    refine ⟨d, 3, _, rfl, p1, by omega, by decide, by decide, fun r2 H2 a2 b2 p2 k2 => ?_⟩
    walk_at "gi"
    refine ⟨d, 19, _, rfl, p2, by omega, by decide, by decide, fun r3 H3 a3 b3 p3 k3 => ?_⟩
    walk_at "gi"
    refine w_new (by assumption) (Nat.le_of_ble_eq_true rfl) (fun o1 H4 n4 s4 e4 => ?_)
    have p4 := p3.same s4
    walk_at "gi"
    refine ⟨d, 3, _, rfl, p4, by omega, by decide, by decide, fun r5 H5 a5 b5 p5 k5 => ?_⟩
    walk_at "gi"
    refine ⟨d, 3, _, rfl, p5, by omega, by decide, by decide, fun r6 H6 a6 b6 p6 k6 => ?_⟩
    walk_at "gi"
    refine ⟨d, 19, _, rfl, p6, by omega, by decide, by decide, fun r7 H7 a7 b7 p7 k7 => ?_⟩
    walk_at "gi"
    refine w_new (by assumption) (Nat.le_of_ble_eq_true rfl) (fun o2 H8 n8 s8 e8 => ?_)
    have p8 := p7.same s8
    have e4' : H8 o1 = some (.tup [.int (1 + r1), .int (1 + r2), .int (r3 - 9)]) := s8 _ _ (k7 _ _ (k6 _ _ (k5 _ _ e4 rfl) rfl) rfl)
    have e8' : H8 o2 = some (.tup [.int (1 + r5), .int (1 + r6), .int (r7 - 9)]) := e8
    have sm1 : Small (1 + r1) (1 + r2) (r3 - 9) := ⟨by omega, by omega, by omega, by omega, by omega, by omega⟩
    have sm2 : Small (1 + r5) (1 + r6) (r7 - 9) := ⟨by omega, by omega, by omega, by omega, by omega, by omega⟩
    generalize 1 + r1 = b at *
    generalize 1 + r2 = h at *
    generalize r3 - 9 = s at *
    generalize 1 + r5 = b5 at *
    generalize 1 + r6 = h5 at *
    generalize r7 - 9 = s5 at *
    clear e4 e8 k1 k2 k3 k5 k6 k7 s4 s8 n4 n8 p1 p2 p3 p4 p5 p6 p7 a1 a2 a3 a5 a6 a7
    walk_at "gi"
    refine w_ixT e4' rfl ?_
    walk_at "gi"
    refine w_ixT e4' rfl ?_
    walk_at "gi"
    refine w_ixT e8' rfl ?_
    walk_at "gi"
    refine w_new (by assumption) (Nat.le_of_ble_eq_true rfl) (fun q9 H9 n9 s9 e9 => ?_)
    have f4 := s9 _ _ e4'
    have f8 := s9 _ _ e8'
    walk_at "gi"
    refine w_ixT f8 rfl ?_
    walk_at "gi"
    refine w_ixT f4 rfl ?_
    walk_at "gi"
    refine w_ixT f4 rfl ?_
    walk_at "gi"
    refine w_new (by assumption) (Nat.le_of_ble_eq_true rfl) (fun q10 H10 n10 s10 e10 => ?_)
    walk_at "gi"
    refine w_new (by assumption) (Nat.le_of_ble_eq_true rfl) (fun l11 H11 n11 s11 e11 => ?_)
    walk_at "gi"
    have p11 := ((p8.same s9).same s10).same s11
    refine ⟨d, l11, _, _, rfl, p11, by omega, e11, Nat.le_of_ble_eq_true rfl, Nat.le_of_ble_eq_true rfl, fun v12 H12 m12 p12 k12 => ?_⟩
    obtain ⟨o, b', h', s', rfl, eo, sm'⟩ : ∃ (o : Addr) (b' h' s' : Int), v12 = .ref o ∧ H12 o = some (.tup [.int b', .int h', .int s']) ∧ Small b' h' s' := by
      simp only [List.mem_cons, List.not_mem_nil, or_false] at m12
      rcases m12 with rfl | rfl | rfl
      · exact ⟨o2, _, _, _, rfl, k12 _ _ (s11 _ _ (s10 _ _ f8)) rfl, sm2⟩
      · exact ⟨q9, b, h, s5, rfl, k12 _ _ (s11 _ _ (s10 _ _ e9)) rfl, ⟨sm1.b0, sm1.b1, sm1.h0, sm1.h1, sm2.s0, sm2.s1⟩⟩
      · exact ⟨q10, b5, h, s, rfl, k12 _ _ (s11 _ _ e10) rfl, ⟨sm2.b0, sm2.b1, sm1.h0, sm1.h1, sm1.s0, sm1.s1⟩⟩
    have g4 := k12 _ _ (s11 _ _ (s10 _ _ f4)) rfl
    clear m12 e4' e8' f4 f8 e9 e10 e11 s9 s10 s11 n9 n10 n11 p8 p11 k12 sm2
    obtain ⟨b0, b1, h0, h1, s0, s1⟩ := id sm1
    obtain ⟨b0', b1', h0', h1', s0', s1'⟩ := id sm'
    walk_at "gi"
    refine w_ixT g4 rfl ?_
    walk_at "gi"
    refine w_ixT g4 rfl ?_
    walk_at "gi"
    refine w_ixT eo rfl ?_
    have c2 : CMulA (b * h) b' := CMulA.s2 (by omega) (by omega)
    walk_at "gi"
    refine w_ixT eo rfl ?_
    have c3 : CMulA (b * h * b') h' := CMulA.s2 (by omega) (by omega)
    walk_at "gi"
    have tB1 : b * h ≤ 9 := by
      have := Int.mul_le_mul b1 h1 (by omega) (by decide)
      omega
    have tB2 : b' * h' ≤ 9 := by
      have := Int.mul_le_mul b1' h1' (by omega) (by decide)
      omega
    have tp1 : 0 < b * h := Int.mul_pos b0 h0
    have tp2 : 0 < b' * h' := Int.mul_pos b0' h0'
    have tt0 : 0 < b * h * b' * h' := by
      rw [Int.mul_assoc (b * h)]
      exact Int.mul_pos tp1 tp2
    have tt1 : b * h * b' * h' ≤ 81 := by
      rw [Int.mul_assoc (b * h)]
      have := Int.mul_le_mul tB1 tB2 (by omega) (by decide)
      omega
    have al := alike_iff sm1 sm' (b * h * b' * h') rfl
    have e : ∃ t, t = b * h * b' * h' := ⟨_, rfl⟩
    generalize b * h * b' * h' = t at *
    have B7 : ∀ x : Int, 0 < x → x ≤ 3 → B 700 x := fun x h0 h1 => B.small (by omega) (by omega)
    refine ⟨_, _, rfl, ⟨by omega, by omega, by omega, by omega⟩, fun D nD => lc_range (fun i G => Same H12 G ∧ G D = some (.lst ((List.range i).map fun (i : Nat) => V.bl (decide (lH b h s (-t + i) = lH b' h' s' (-t + i)))))) ⟨same_upd nD, upd_same⟩ ?_ ?_⟩
    · intro i G hi hI
      obtain ⟨sG, eD⟩ := hI
      walk_at "gi"
      refine ⟨rfl, ?_⟩
      walk_at "gi"
      refine iteT ?_
      walk_at "gi"
      refine ⟨o1, b, h, s, _, rfl, sG _ _ g4, b0, h0, B7 _ b0 b1, ?_⟩
      walk_at "gi"
      refine ⟨o, b', h', s', _, rfl, sG _ _ eo, b0', h0', B7 _ b0' b1', ?_⟩
      walk_at "gi"
      simp only [V_int]
      refine ⟨_, eD, ?_, fun b o zz => ?_, ?_⟩
      · rw [List.length_map, List.length_range]
        have : (1000 : Nat) ≤ sizeLine := by decide
        omega
      · rw [upd_ne (ne_of_none zz nD)]
        exact sG b o zz
      · rw [upd_same, List.range_succ, List.map_append]
        rfl
    intro G hI
    obtain ⟨sG, eD⟩ := hI
    walk_at "gi"
    refine ⟨D, (List.range (t - -t).toNat).map (fun (i : Nat) => decide (lH b h s (-t + i) = lH b' h' s' (-t + i))), rfl, .inl (.inl (by rw [eD, List.map_map]; rfl)), ?_⟩
    rw [al]
    have p13 := p12.same sG
    have e1 := sG _ _ g4
    have e2 := sG _ _ eo
    clear al eD sG g4 eo p12 c2 c3
    walk_at "gi"
    refine ⟨d, 40, _, rfl, by omega, by omega, p13, by omega, fun m H14 m0 mB p14 k14 => ?_⟩
    have f1 := k14 _ _ e1 rfl
    have f2 := k14 _ _ e2 rfl
    clear e1 e2 p13 k14
    walk_at "gi"
    exact run2 _ H14 d o1 o m b h _ b' h' s' _ _ _ _ _ _ _ _ _ _ _ m0 mB sm1 sm' f1 f2 (fun H' z => q H' ((p14.same z).mono (by omega)))
end
end K17
namespace K17
open PySem L2 DS NdefX LamX
set_option pp.maxSteps 1200
local macro_rules | `(tactic| walk_at "c") => `(tactic| first
  | (dsimp only; omega)
  | omega
  | (show CMulA _ _; first | exact CMulA.s1 (by omega) (by omega) | exact CMulA.s2 (by omega) (by omega))
  | (show CDivW _ _; first | exact ⟨by omega, by assumption⟩ | exact ⟨by omega, by decide⟩)
  | (show CPow _ _; exact ⟨by decide, by decide, by decide⟩)
  | assumption)
local macro_rules | `(tactic| walk_at "get") => `(tactic| first
  | assumption
  | (refine (by assumption : Same _ _) _ _ ?_; walk_at "get")
  | (refine (by assumption : Keep _ _) _ _ ?_ rfl; walk_at "get"))
local macro_rules | `(tactic| walk_at "pen") => `(tactic| first
  | assumption
  | (refine Pen.same (by assumption) ?_; walk_at "pen")
  | (refine Pen.mono ?_ (by omega); assumption))
local macro_rules | `(tactic| walk_at "keep") => `(tactic| first
  | assumption
  | exact Keep.refl _
  | exact Keep.of (by assumption)
  | (refine Keep.trans ?_ (by assumption); walk_at "keep")
  | (refine Keep.same ?_ (by assumption); walk_at "keep"))
local macro_rules | `(tactic| walk_at "same") => `(tactic| first
  | assumption
  | exact Same.refl _
  | (refine Same.trans ?_ (by assumption); walk_at "same"))
local macro_rules | `(tactic| walk_at "s0") => `(tactic| first
  | with_reducible refine w_seq ?_
  | with_reducible refine w_asg ?_
  | with_reducible refine w_name ?_
  | ((with_reducible apply w_var); exact rfl)
  | with_reducible refine w_c ?_
  | with_reducible refine w_op ?_
  | with_reducible refine w_I0 ?_
  | ((with_reducible apply w_I); (walk_at "c"))
  | with_reducible refine w_cons ?_
  | with_reducible refine w_nil ?_
  | with_reducible refine w_cb ?_
  | with_reducible refine w_int1 ?_
  | with_reducible refine w_int1b ?_
  | with_reducible refine w_call ?_
  | with_reducible refine w_test ?_
  | with_reducible refine w_k ?_
  | with_reducible refine w_ret ?_
  | with_reducible refine w_drop ?_
  | with_reducible refine w_not ?_
  | with_reducible refine w_and ?_
  | with_reducible refine w_or ?_
  | with_reducible refine w_andV ?_
  | with_reducible refine w_orV ?_
  | with_reducible refine w_notV ?_
  | with_reducible refine w_if ?_
  | with_reducible refine w_B ?_
  | with_reducible refine w_un ?_
  | with_reducible refine w_U ?_
  | (with_reducible refine w_tup ?_; intro _ _)
  | (with_reducible refine w_lst ?_; intro _ _)
  | with_reducible refine w_dget ?_
  | with_reducible refine w_dput ?_
  | with_reducible refine w_fld ?_
  | with_reducible refine w_meth ?_
  | (with_reducible refine w_make ?_; intro _ _)
  | with_reducible refine w_par ?_
  | with_reducible refine w_par3 ?_
  | with_reducible refine w_two ?_
  | with_reducible refine w_three ?_
  | with_reducible refine w_one ?_
  | with_reducible refine w_chain ?_
  | with_reducible refine w_next ?_
  | with_reducible refine w_brk ?_
  | with_reducible refine w_cont ?_
  | with_reducible refine w_retN ?_
  | with_reducible refine w_gcons ?_
  | with_reducible refine w_gnil ?_
  | ((with_reducible refine w_eq ?_ ?_); exact rfl)
  | ((with_reducible refine w_ne ?_ ?_); exact rfl)
  | with_reducible refine w_part ?_
  | with_reducible refine w_lc ?_
  | with_reducible refine w_bm ?_
  | with_reducible refine w_lcS ?_
  | with_reducible refine w_yes ?_
  | with_reducible refine w_iTup ?_
  | with_reducible refine w_iList ?_
  | with_reducible refine w_unT ?_
  | with_reducible refine w_unT0 ?_
  | with_reducible refine w_unL ?_
  | with_reducible refine w_unL0 ?_
  | ((with_reducible apply w_gtup); (walk_at "get"); (exact rfl))
  | with_reducible refine w_gfld ?_
  | with_reducible refine w_sfld ?_
  | with_reducible refine w_risi ?_
  | with_reducible refine w_i ?_
  | with_reducible refine w_pnil ?_
  | with_reducible refine w_pcons ?_
  | with_reducible refine w_sl ?_
  | with_reducible refine w_nopart ?_
  | with_reducible refine w_for ?_
  | with_reducible refine w_while ?_
  | with_reducible refine w_irng1 ?_
  | with_reducible refine w_irng2 ?_
  | with_reducible refine And.intro (rfl : V.non = V.non) ?_)
local macro_rules | `(tactic| walk_at "s") => `(tactic| first | walk_at "s0" | with_reducible refine w_ifs ?_)
local macro_rules | `(tactic| walk_at "go") => `(tactic| repeat (walk_at "s"))
local macro_rules | `(tactic| walk_at "gi") => `(tactic| repeat (walk_at "s0"))

section
variable {w : World} {K : PySem.W.Frag} {mg : Str → Option Value} {base : Heap}
def spLaw (K : PySem.W.Frag) (T : Tx w K mg) : Sp := fun vs H Q _ => ∃ (a : Addr) (ns : List Int), vs = [.ref a] ∧ SqL K H a (ns.map V.int) ∧ ns.length ≤ 63 ∧ H T.P__law_refusals = some (.tbl #[]) ∧ ∀ H', Q (.bl true) H'
theorem spLaw_of (T : Tx w K mg) {H : Hp} {a : Addr} {ns : List Int} (hl : ns.length ≤ 63) (hs : SqL K H a (ns.map V.int)) (ht : H T.P__law_refusals = some (.tbl #[])) : spLaw K T [.ref a] H (fun v _ => v = .bl true) (fun _ _ _ => False) := ⟨a, ns, rfl, hs, hl, ht, fun _ => rfl⟩
theorem ok_law (T : Tx w K mg) (TB : TabB base mg T.c__law_refusals T.P__law_refusals) : FnOk PR w K mg base CX0 14 T.f_law T.fd_law ["_law_script"] (spLaw K T) := by
  refine T.F_law.ok sc_law (fun vs H Q E h => ?_) (fun cdv A outer s H vs Q E hr h => ?_)
  · obtain ⟨a, ns, rfl, _⟩ := h
    rfl
  · obtain ⟨sa, ns, rfl, hS, hl, hP, q⟩ := h
    have T0 : Tabs (TT T) H := fun p hp => by
      rw [List.mem_singleton.mp hp]
      exact TabS.nil hP
    refine ⟨_, (pss_cons (ps_set (i := 1) sc_law.nd rfl (Or.inl rfl) (pe_call (ok__law_begin T) (hr.mono (by decide)) rfl T.g__law_begin T.F__law_begin.kp T.b__law_begin .nil pass0 (pa_cons (pv 0) pa_nil)))
      (pss_cons (ps_set (i := 2) sc_law.nd rfl (Or.inl rfl) (pe_tup (pa_cons (pe_call (ok__law_size T) (hr.mono (by decide)) rfl T.g__law_size T.F__law_size.kp T.b__law_size .nil pass0 (pa_cons (pv 1) (pa_cons pe_int pa_nil))) (pa_cons (pe_call (ok__law_size T) (hr.mono (by decide)) rfl T.g__law_size T.F__law_size.kp T.b__law_size .nil pass0 (pa_cons (pv 1) (pa_cons pe_int pa_nil))) (pa_cons (pe_op op_sub (pe_call (ok__law_size T) (hr.mono (by decide)) rfl T.g__law_size T.F__law_size.kp T.b__law_size .nil pass0 (pa_cons (pv 1) (pa_cons pe_int pa_nil))) (pe_call (ok__law_size T) (hr.mono (by decide)) rfl T.g__law_size T.F__law_size.kp T.b__law_size .nil pass0 (pa_cons (pv 1) (pa_cons pe_int pa_nil)))) pa_nil)))))
      (pss_cons (ps_set (i := 3) sc_law.nd rfl (Or.inl rfl) (pe_make T.M_Deal (ok_Deal___init__ T) (hr.mono (by decide)) rfl T.gC_Deal T.b_Deal___init__ .nil pass0 (pa_cons (pe_ix ix_tup (pv 2) pe_int (fun _ _ => rfl)) (pa_cons (pe_ix ix_tup (pv 2) pe_int (fun _ _ => rfl)) (pa_cons (pe_ix ix_tup (pv 2) pe_int (fun _ _ => rfl)) pa_nil)))))
      (pss_cons (ps_if (PW.pt (pw_or (pt_not (pt_val (pe_call (ok__law_windows_right T) (hr.mono (by decide)) rfl T.g__law_windows_right T.F__law_windows_right.kp T.b__law_windows_right .nil pass0 (pa_cons (pv 1) (pa_cons (pv 3) (pa_cons (pv 2) pa_nil)))))) (pw_or1 (pt_not (pt_val (pe_call (ok__law_refusals T TB) (hr.mono (by decide)) rfl T.g__law_refusals T.F__law_refusals.kp T.b__law_refusals .nil pass0 (pa_cons (pv 1) (pa_cons (pv 3) (pa_cons (pe_ix ix_tup (pv 2) pe_int (fun _ _ => rfl)) pa_nil))))))))) (pss_one (ps_ret pe_bl)) pss_nil)
      (pss_one (ps_ret (pe_and (pe_call (ok__law_equal_right T) (hr.mono (by decide)) rfl T.g__law_equal_right T.F__law_equal_right.kp T.b__law_equal_right .nil pass0 (pa_cons (pv 1) pa_nil)) (pe_one (pe_call (ok__law_equal_right T) (hr.mono (by decide)) rfl T.g__law_equal_right T.F__law_equal_right.kp T.b__law_equal_right .nil pass0 (pa_cons (pv 1) pa_nil)))))))))), ?_⟩
    walk_at "gi"
    refine ⟨sa, ns, rfl, hS, hl, fun d H1 p1 s1 => ?_⟩
    walk_at "gi"
    refine ⟨d, 20, _, rfl, by decide, by decide, p1, by omega, fun b H2 b0 bB p2 k2 => ?_⟩
    walk_at "gi"
    refine ⟨d, 20, _, rfl, by decide, by decide, p2, by omega, fun h H3 h0 hB p3 k3 => ?_⟩
    walk_at "gi"
    refine ⟨d, 60, _, rfl, by decide, by decide, p3, by omega, fun x4 H4 x40 x4B p4 k4 => ?_⟩
    walk_at "gi"
    refine ⟨d, 60, _, rfl, by decide, by decide, p4, by omega, fun x5 H5 x50 x5B p5 k5 => ?_⟩
    walk_at "gi"
    refine w_new (by assumption) (Nat.le_of_ble_eq_true rfl) (fun o6 H6 n6 s6 e6 => ?_)
    have e6' : H6 o6 = some (.tup [.int b, .int h, .int (x4 - x5)]) := e6
    have sB : B 300 (x4 - x5) := (x4B.sub x5B).mono (by decide)
    have T6 : Tabs (TT T) H6 := (tabs_keep (((k2.trans k3).trans k4).trans k5) (T0.ext s1)).ext s6
    generalize x4 - x5 = sh at *
    have raw : Raw b h sh := ⟨b0, h0, bB, hB, sB⟩
    walk_at "gi"
    refine w_ixT e6' rfl ?_
    walk_at "gi"
    refine w_ixT e6' rfl ?_
    walk_at "gi"
    refine w_ixT e6' rfl ?_
    walk_at "gi"
    intro x dx nx nd ne
    refine ⟨x, dx, b, h, sh, rfl, b0, h0, bB.mono (by decide), hB.mono (by decide), make_ini (by assumption) nx nd ne (fun H7 s7 hD => ?_)⟩
    have hD : DAt T.C_Deal H7 x (DN b h sh) := hD
    have e7 := s7 _ _ e6'
    have p7 := (p5.same s6).same s7
    walk_at "gi"
    refine w_ifF (fun H' => Pen H' d 84) (fun R hR => ?_) (fun H9 p9 => ?_)
    · walk_at "gi"
      refine ⟨d, x, o6, _, b, h, sh, rfl, raw, hD, e7, p7, by omega, fun H8 p8 k8 => ?_⟩
      walk_at "gi"
      refine iteF ?_
      walk_at "gi"
      refine w_ixT (k8 _ _ e7 rfl) rfl ?_
      walk_at "gi"
      refine ⟨d, x, _, DN b h sh, rfl, p8, by omega, hD.keep k8, raw.ok, tabs_keep k8 (T6.ext s7), fun H9 p9 T9 => ?_⟩
      walk_at "gi"
      exact hR H9 (p9.mono (by omega))
    walk_at "gi"
    refine ⟨d, _, rfl, p9, by omega, fun H10 p10 => ?_⟩
    walk_at "gi"
    refine iteT ?_
    walk_at "gi"
    refine ⟨d, _, rfl, p10, by omega, fun H11 p11 => ?_⟩
    exact q H11
end
end K17
namespace K17
open PySem L2 DS NdefX LamX
set_option pp.maxSteps 300
theorem all_mk {w : World} {K : PySem.W.Frag} {h : Heap} {mg : Str → Option Value} {fa : Addr} (X : K.In h) (G : h.Ns mainGlobals mg) (hfa : mg "law" = some (.ref fa))
    {C_BadValue f_BadValue___init__ cda_BadValue cc_BadValue N_BadValue : Addr} {oc_BadValue kV_BadValue dc_BadValue pm_BadValue ct_BadValue ccl_BadValue cl_BadValue : Value} {od_BadValue an_BadValue cdd_BadValue cld_BadValue dd_BadValue : Option Addr} {osl_BadValue ccs_BadValue csl_BadValue : Array (Option Value)} {vs_BadValue : Array Value} {fi_BadValue nm_BadValue qn_BadValue : Str} {tf_BadValue : Tok} {cdC_BadValue : ClassData}
    {bs_BadValue bm_BadValue su_BadValue : List Value} {sn_BadValue : List Str} {ab_BadValue : Bool} {col_BadValue : Option Bool} {k0_BadValue k1_BadValue k2_BadValue k3_BadValue k5_BadValue : Option Value}
    {C_Window : Addr}
    {C_Deal : Addr}
    {f_is_integer : Addr} {od0 an0 : Option Addr} {sl0 : Array (Option Value)} {oc0 kV0 dc0 pm0 cd0 ct0 : Value}
    {f_is_whole : Addr} {od1 an1 : Option Addr} {sl1 : Array (Option Value)} {oc1 kV1 dc1 pm1 cd1 ct1 : Value}
    {f_need_integer : Addr} {od2 an2 : Option Addr} {sl2 : Array (Option Value)} {oc2 kV2 dc2 pm2 cd2 ct2 : Value}
    {f_need_whole : Addr} {od3 an3 : Option Addr} {sl3 : Array (Option Value)} {oc3 kV3 dc3 pm3 cd3 ct3 : Value}
    {f_need_positive : Addr} {od4 an4 : Option Addr} {sl4 : Array (Option Value)} {oc4 kV4 dc4 pm4 cd4 ct4 : Value}
    {f_need_below : Addr} {od5 an5 : Option Addr} {sl5 : Array (Option Value)} {oc5 kV5 dc5 pm5 cd5 ct5 : Value}
    {f_below : Addr} {od6 an6 : Option Addr} {sl6 : Array (Option Value)} {oc6 kV6 dc6 pm6 cd6 ct6 : Value}
    {f_Window___init__ : Addr} {od7 an7 : Option Addr} {sl7 : Array (Option Value)} {oc7 kV7 dc7 pm7 cd7 ct7 : Value}
    {f_Window___eq__ : Addr} {od8 an8 : Option Addr} {sl8 : Array (Option Value)} {oc8 kV8 dc8 pm8 cd8 ct8 : Value}
    {f_Window___contains__ : Addr} {od9 an9 : Option Addr} {sl9 : Array (Option Value)} {oc9 kV9 dc9 pm9 cd9 ct9 : Value}
    {f_Window_count : Addr} {od10 an10 : Option Addr} {sl10 : Array (Option Value)} {oc10 kV10 dc10 pm10 cd10 ct10 : Value}
    {f_Deal___init__ : Addr} {od11 an11 : Option Addr} {sl11 : Array (Option Value)} {oc11 kV11 dc11 pm11 cd11 ct11 : Value}
    {dT11 : Addr} {do11 : Option Addr} {dn11 : Nat} {ds11 : Array (Option Value)} {dt11_0 : Tok}
    {f_Deal___eq__ : Addr} {od12 an12 : Option Addr} {sl12 : Array (Option Value)} {oc12 kV12 dc12 pm12 cd12 ct12 : Value}
    {f_Deal_turn : Addr} {od13 an13 : Option Addr} {sl13 : Array (Option Value)} {oc13 kV13 dc13 pm13 cd13 ct13 : Value}
    {f_Deal_house : Addr} {od14 an14 : Option Addr} {sl14 : Array (Option Value)} {oc14 kV14 dc14 pm14 cd14 ct14 : Value}
    {f_Deal_window : Addr} {od15 an15 : Option Addr} {sl15 : Array (Option Value)} {oc15 kV15 dc15 pm15 cd15 ct15 : Value}
    {f_Deal_count : Addr} {od16 an16 : Option Addr} {sl16 : Array (Option Value)} {oc16 kV16 dc16 pm16 cd16 ct16 : Value}
    {f__law_begin : Addr} {od17 an17 : Option Addr} {sl17 : Array (Option Value)} {oc17 kV17 dc17 pm17 cd17 ct17 : Value}
    {f__law_draw : Addr} {od18 an18 : Option Addr} {sl18 : Array (Option Value)} {oc18 kV18 dc18 pm18 cd18 ct18 : Value}
    {f__law_pick : Addr} {od19 an19 : Option Addr} {sl19 : Array (Option Value)} {oc19 kV19 dc19 pm19 cd19 ct19 : Value}
    {f__law_ten : Addr} {od20 an20 : Option Addr} {sl20 : Array (Option Value)} {oc20 kV20 dc20 pm20 cd20 ct20 : Value}
    {f__law_same : Addr} {od21 an21 : Option Addr} {sl21 : Array (Option Value)} {oc21 kV21 dc21 pm21 cd21 ct21 : Value}
    {f__law_refused : Addr} {od22 an22 : Option Addr} {sl22 : Array (Option Value)} {oc22 kV22 dc22 pm22 cd22 ct22 : Value}
    {f__law_size : Addr} {od23 an23 : Option Addr} {sl23 : Array (Option Value)} {oc23 kV23 dc23 pm23 cd23 ct23 : Value}
    {f__law_house : Addr} {od24 an24 : Option Addr} {sl24 : Array (Option Value)} {oc24 kV24 dc24 pm24 cd24 ct24 : Value}
    {f__law_ahead : Addr} {od25 an25 : Option Addr} {sl25 : Array (Option Value)} {oc25 kV25 dc25 pm25 cd25 ct25 : Value}
    {f__law_count : Addr} {od26 an26 : Option Addr} {sl26 : Array (Option Value)} {oc26 kV26 dc26 pm26 cd26 ct26 : Value}
    {f__law_numbers : Addr} {od27 an27 : Option Addr} {sl27 : Array (Option Value)} {oc27 kV27 dc27 pm27 cd27 ct27 : Value}
    {f__law_counts_right : Addr} {od28 an28 : Option Addr} {sl28 : Array (Option Value)} {oc28 kV28 dc28 pm28 cd28 ct28 : Value}
    {f__law_windows_right : Addr} {od29 an29 : Option Addr} {sl29 : Array (Option Value)} {oc29 kV29 dc29 pm29 cd29 ct29 : Value}
    {f__law_equal_right : Addr} {od30 an30 : Option Addr} {sl30 : Array (Option Value)} {oc30 kV30 dc30 pm30 cd30 ct30 : Value}
    {f__law_refusals cR31 P31 : Addr} {od31 an31 dL31 : Option Addr} {sl31 sL31 : Array (Option Value)} {oc31 kV31 dc31 pm31 cL31 ct31 : Value} {vL31 : Array Value}
    {f_law : Addr} {od32 an32 : Option Addr} {sl32 : Array (Option Value)} {oc32 kV32 dc32 pm32 cd32 ct32 : Value}
    (xC_BadValue : PySem.W.nsIn K mainGlobals "BadValue" = some (some (.ref C_BadValue)))
    (xi_BadValue : PySem.W.findIn K (.ref C_BadValue) "__init__" = some (some (.ref f_BadValue___init__)))
    (xl_BadValue : K.lookup f_BadValue___init__ = some ⟨oc_BadValue, od_BadValue, .func (PySem.W.ksFn "__init__" "BadValue.__init__" (defArgs s_BadValue___init__) (defBody s_BadValue___init__) (defScope s_BadValue___init__) .none kV_BadValue dc_BadValue pm_BadValue an_BadValue (.ref cda_BadValue) ct_BadValue cc_BadValue), osl_BadValue⟩)
    (xc_BadValue : PySem.W.codeIn K (.ref cda_BadValue) "BadValue.__init__" = true)
    (xd_BadValue : K.lookup cda_BadValue = some ⟨ccl_BadValue, cdd_BadValue, .fields vs_BadValue, ccs_BadValue⟩)
    (xv_BadValue : vs_BadValue[2]? = some (.str fi_BadValue tf_BadValue))
    (xf_BadValue : ((PR.main.file : Str) == fi_BadValue) = true)
    (xe_BadValue : K.lookup cc_BadValue = some ⟨cl_BadValue, cld_BadValue, .cell (some (.ref C_BadValue)), csl_BadValue⟩)
    (xk_BadValue : PySem.W.clsIn K C_BadValue = some cdC_BadValue)
    (xm_BadValue : PySem.W.mroIn K C_BadValue (.ref C_BadValue) = some true)
    (xt_BadValue : (PR.main.scope.names.lookup ("super" : Str)).isSome = false)
    (xa_BadValue : PySem.W.nsIn K cStatics "thirdparty.any" = some none)
    (xs_BadValue : PySem.W.ks_superIn K C_BadValue C_BadValue "__init__" = some (some (.builtin "ValueError.__init__")))
    (xb_BadValue : PySem.W.subIn K (.ref C_BadValue) (.type "ValueError") = some true)
    (xo_BadValue : K.lookup C_BadValue = some (excClassObj nm_BadValue qn_BadValue C_BadValue N_BadValue bs_BadValue bm_BadValue true sn_BadValue su_BadValue ab_BadValue col_BadValue dd_BadValue k0_BadValue k1_BadValue k2_BadValue k3_BadValue k5_BadValue "ValueError.__new__"))
    (xr_BadValue : PySem.HandSPX.refsVE bm_BadValue = true)
    (xw_BadValue : PySem.W.findIn K (.ref C_BadValue) "__setattr__" = some (some (.builtin "object.__setattr__")))
    (xx_BadValue : PySem.W.subIn K (.ref C_BadValue) (.type "BaseException") = some true)
    (xy_BadValue : PySem.W.typeIn K (.ref C_BadValue) = some (.type "type"))
    (xp_BadValue : PySem.W.keepIn K (.ref C_BadValue) = true)
    (xn_BadValue : PySem.W.findIn K (.ref C_BadValue) "value" = some none)
    (xj_BadValue : PySem.W.typeIn K (.ref f_BadValue___init__) = some (.type "function"))
    (xg_BadValue : PySem.W.findIn K (.ref C_BadValue) "__getattribute__" = some (some (.builtin "BaseException.__getattribute__")))
    (xh_BadValue : PySem.W.findIn K (.ref C_BadValue) "__getattr__" = some none)
    (xq_BadValue : PySem.W.hasDictIn K C_BadValue = true)
    (xz_BadValue : PySem.W.exmOne K (.ref C_BadValue) (.ref C_BadValue) = some true)
    (aC_Window : PySem.W.nsIn K mainGlobals "Window" = some (some (.ref C_Window)))
    (pg_Window : PySem.W.plainGet K C_Window Str.empty = true)
    (hd_Window : PySem.W.hasDictIn K C_Window = true)
    (po_Window : PySem.W.plainOver K C_Window = true)
    (sa_Window : PySem.W.findIn K (.ref C_Window) "__setattr__" = some (some (.builtin "object.__setattr__")))
    (mk_Window : PySem.W.makesIn K C_Window = true)
    (kc_Window : PySem.W.keepIn K (.ref C_Window) = true)
    (tya_Window : PySem.W.findIn K (.ref C_Window) "__class__" = some (some (.builtin "object.__class__")))
    (tyb_Window : PySem.W.specialIn K (.builtin "object.__class__") "__get__" = some (some (.builtin "getset_descriptor.__get__")))
    (tyc_Window : PySem.W.takesIn K (.builtin "object.__class__") = some true)
    (tyd_Window : PySem.W.mroIn K C_Window (.type "object") = some true)
    (n_Window_period : PySem.W.findIn K (.ref C_Window) "period" = some none)
    (n_Window_first : PySem.W.findIn K (.ref C_Window) "first" = some none)
    (n_Window_length : PySem.W.findIn K (.ref C_Window) "length" = some none)
    (aC_Deal : PySem.W.nsIn K mainGlobals "Deal" = some (some (.ref C_Deal)))
    (pg_Deal : PySem.W.plainGet K C_Deal Str.empty = true)
    (hd_Deal : PySem.W.hasDictIn K C_Deal = true)
    (po_Deal : PySem.W.plainOver K C_Deal = true)
    (sa_Deal : PySem.W.findIn K (.ref C_Deal) "__setattr__" = some (some (.builtin "object.__setattr__")))
    (mk_Deal : PySem.W.makesIn K C_Deal = true)
    (kc_Deal : PySem.W.keepIn K (.ref C_Deal) = true)
    (tya_Deal : PySem.W.findIn K (.ref C_Deal) "__class__" = some (some (.builtin "object.__class__")))
    (tyb_Deal : PySem.W.specialIn K (.builtin "object.__class__") "__get__" = some (some (.builtin "getset_descriptor.__get__")))
    (tyc_Deal : PySem.W.takesIn K (.builtin "object.__class__") = some true)
    (tyd_Deal : PySem.W.mroIn K C_Deal (.type "object") = some true)
    (n_Deal_houses : PySem.W.findIn K (.ref C_Deal) "houses" = some none)
    (n_Deal_block : PySem.W.findIn K (.ref C_Deal) "block" = some none)
    (n_Deal_shift : PySem.W.findIn K (.ref C_Deal) "shift" = some none)
    (a0 : PySem.W.nsIn K mainGlobals "is_integer" = some (some (.ref f_is_integer)))
    (l0 : K.lookup f_is_integer = some ⟨oc0, od0, .func (PySem.W.fnOf "is_integer" "is_integer" (defArgs s_is_integer) (defBody s_is_integer) (defScope s_is_integer) .none kV0 dc0 pm0 an0 cd0 ct0), sl0⟩)
    (c0 : PySem.W.codeIn K cd0 "is_integer" = true)
    (k0 : PySem.W.keepIn K (.ref f_is_integer) = true)
    (a1 : PySem.W.nsIn K mainGlobals "is_whole" = some (some (.ref f_is_whole)))
    (l1 : K.lookup f_is_whole = some ⟨oc1, od1, .func (PySem.W.fnOf "is_whole" "is_whole" (defArgs s_is_whole) (defBody s_is_whole) (defScope s_is_whole) .none kV1 dc1 pm1 an1 cd1 ct1), sl1⟩)
    (c1 : PySem.W.codeIn K cd1 "is_whole" = true)
    (k1 : PySem.W.keepIn K (.ref f_is_whole) = true)
    (a2 : PySem.W.nsIn K mainGlobals "need_integer" = some (some (.ref f_need_integer)))
    (l2 : K.lookup f_need_integer = some ⟨oc2, od2, .func (PySem.W.fnOf "need_integer" "need_integer" (defArgs s_need_integer) (defBody s_need_integer) (defScope s_need_integer) .none kV2 dc2 pm2 an2 cd2 ct2), sl2⟩)
    (c2 : PySem.W.codeIn K cd2 "need_integer" = true)
    (k2 : PySem.W.keepIn K (.ref f_need_integer) = true)
    (a3 : PySem.W.nsIn K mainGlobals "need_whole" = some (some (.ref f_need_whole)))
    (l3 : K.lookup f_need_whole = some ⟨oc3, od3, .func (PySem.W.fnOf "need_whole" "need_whole" (defArgs s_need_whole) (defBody s_need_whole) (defScope s_need_whole) .none kV3 dc3 pm3 an3 cd3 ct3), sl3⟩)
    (c3 : PySem.W.codeIn K cd3 "need_whole" = true)
    (k3 : PySem.W.keepIn K (.ref f_need_whole) = true)
    (a4 : PySem.W.nsIn K mainGlobals "need_positive" = some (some (.ref f_need_positive)))
    (l4 : K.lookup f_need_positive = some ⟨oc4, od4, .func (PySem.W.fnOf "need_positive" "need_positive" (defArgs s_need_positive) (defBody s_need_positive) (defScope s_need_positive) .none kV4 dc4 pm4 an4 cd4 ct4), sl4⟩)
    (c4 : PySem.W.codeIn K cd4 "need_positive" = true)
    (k4 : PySem.W.keepIn K (.ref f_need_positive) = true)
    (a5 : PySem.W.nsIn K mainGlobals "need_below" = some (some (.ref f_need_below)))
    (l5 : K.lookup f_need_below = some ⟨oc5, od5, .func (PySem.W.fnOf "need_below" "need_below" (defArgs s_need_below) (defBody s_need_below) (defScope s_need_below) .none kV5 dc5 pm5 an5 cd5 ct5), sl5⟩)
    (c5 : PySem.W.codeIn K cd5 "need_below" = true)
    (k5 : PySem.W.keepIn K (.ref f_need_below) = true)
    (a6 : PySem.W.nsIn K mainGlobals "below" = some (some (.ref f_below)))
    (l6 : K.lookup f_below = some ⟨oc6, od6, .func (PySem.W.fnOf "below" "below" (defArgs s_below) (defBody s_below) (defScope s_below) .none kV6 dc6 pm6 an6 cd6 ct6), sl6⟩)
    (c6 : PySem.W.codeIn K cd6 "below" = true)
    (k6 : PySem.W.keepIn K (.ref f_below) = true)
    (a7 : PySem.W.findIn K (.ref C_Window) "__init__" = some (some (.ref f_Window___init__)))
    (i7 : PySem.W.isFn K (.ref f_Window___init__) = true)
    (l7 : K.lookup f_Window___init__ = some ⟨oc7, od7, .func (PySem.W.fnOf "__init__" "Window.__init__" (defArgs s_Window___init__) (defBody s_Window___init__) (defScope s_Window___init__) .none kV7 dc7 pm7 an7 cd7 ct7), sl7⟩)
    (c7 : PySem.W.codeIn K cd7 "Window.__init__" = true)
    (k7 : PySem.W.keepIn K (.ref f_Window___init__) = true)
    (a8 : PySem.W.findIn K (.ref C_Window) "__eq__" = some (some (.ref f_Window___eq__)))
    (i8 : PySem.W.isFn K (.ref f_Window___eq__) = true)
    (l8 : K.lookup f_Window___eq__ = some ⟨oc8, od8, .func (PySem.W.fnOf "__eq__" "Window.__eq__" (defArgs s_Window___eq__) (defBody s_Window___eq__) (defScope s_Window___eq__) .none kV8 dc8 pm8 an8 cd8 ct8), sl8⟩)
    (c8 : PySem.W.codeIn K cd8 "Window.__eq__" = true)
    (k8 : PySem.W.keepIn K (.ref f_Window___eq__) = true)
    (a9 : PySem.W.findIn K (.ref C_Window) "__contains__" = some (some (.ref f_Window___contains__)))
    (i9 : PySem.W.isFn K (.ref f_Window___contains__) = true)
    (l9 : K.lookup f_Window___contains__ = some ⟨oc9, od9, .func (PySem.W.fnOf "__contains__" "Window.__contains__" (defArgs s_Window___contains__) (defBody s_Window___contains__) (defScope s_Window___contains__) .none kV9 dc9 pm9 an9 cd9 ct9), sl9⟩)
    (c9 : PySem.W.codeIn K cd9 "Window.__contains__" = true)
    (k9 : PySem.W.keepIn K (.ref f_Window___contains__) = true)
    (a10 : PySem.W.findIn K (.ref C_Window) "count" = some (some (.ref f_Window_count)))
    (i10 : PySem.W.isFn K (.ref f_Window_count) = true)
    (l10 : K.lookup f_Window_count = some ⟨oc10, od10, .func (PySem.W.fnOf "count" "Window.count" (defArgs s_Window_count) (defBody s_Window_count) (defScope s_Window_count) .none kV10 dc10 pm10 an10 cd10 ct10), sl10⟩)
    (c10 : PySem.W.codeIn K cd10 "Window.count" = true)
    (k10 : PySem.W.keepIn K (.ref f_Window_count) = true)
    (a11 : PySem.W.findIn K (.ref C_Deal) "__init__" = some (some (.ref f_Deal___init__)))
    (i11 : PySem.W.isFn K (.ref f_Deal___init__) = true)
    (l11 : K.lookup f_Deal___init__ = some ⟨oc11, od11, .func (PySem.W.fnOf "__init__" "Deal.__init__" (defArgs s_Deal___init__) (defBody s_Deal___init__) (defScope s_Deal___init__) (.ref dT11) kV11 dc11 pm11 an11 cd11 ct11), sl11⟩)
    (c11 : PySem.W.codeIn K cd11 "Deal.__init__" = true)
    (k11 : PySem.W.keepIn K (.ref f_Deal___init__) = true)
    (e11 : K.lookup dT11 = some ⟨.type "tuple", do11, .seq #[.int 0 dt11_0] dn11, ds11⟩)
    (a12 : PySem.W.findIn K (.ref C_Deal) "__eq__" = some (some (.ref f_Deal___eq__)))
    (i12 : PySem.W.isFn K (.ref f_Deal___eq__) = true)
    (l12 : K.lookup f_Deal___eq__ = some ⟨oc12, od12, .func (PySem.W.fnOf "__eq__" "Deal.__eq__" (defArgs s_Deal___eq__) (defBody s_Deal___eq__) (defScope s_Deal___eq__) .none kV12 dc12 pm12 an12 cd12 ct12), sl12⟩)
    (c12 : PySem.W.codeIn K cd12 "Deal.__eq__" = true)
    (k12 : PySem.W.keepIn K (.ref f_Deal___eq__) = true)
    (a13 : PySem.W.findIn K (.ref C_Deal) "turn" = some (some (.ref f_Deal_turn)))
    (i13 : PySem.W.isFn K (.ref f_Deal_turn) = true)
    (l13 : K.lookup f_Deal_turn = some ⟨oc13, od13, .func (PySem.W.fnOf "turn" "Deal.turn" (defArgs s_Deal_turn) (defBody s_Deal_turn) (defScope s_Deal_turn) .none kV13 dc13 pm13 an13 cd13 ct13), sl13⟩)
    (c13 : PySem.W.codeIn K cd13 "Deal.turn" = true)
    (k13 : PySem.W.keepIn K (.ref f_Deal_turn) = true)
    (a14 : PySem.W.findIn K (.ref C_Deal) "house" = some (some (.ref f_Deal_house)))
    (i14 : PySem.W.isFn K (.ref f_Deal_house) = true)
    (l14 : K.lookup f_Deal_house = some ⟨oc14, od14, .func (PySem.W.fnOf "house" "Deal.house" (defArgs s_Deal_house) (defBody s_Deal_house) (defScope s_Deal_house) .none kV14 dc14 pm14 an14 cd14 ct14), sl14⟩)
    (c14 : PySem.W.codeIn K cd14 "Deal.house" = true)
    (k14 : PySem.W.keepIn K (.ref f_Deal_house) = true)
    (a15 : PySem.W.findIn K (.ref C_Deal) "window" = some (some (.ref f_Deal_window)))
    (i15 : PySem.W.isFn K (.ref f_Deal_window) = true)
    (l15 : K.lookup f_Deal_window = some ⟨oc15, od15, .func (PySem.W.fnOf "window" "Deal.window" (defArgs s_Deal_window) (defBody s_Deal_window) (defScope s_Deal_window) .none kV15 dc15 pm15 an15 cd15 ct15), sl15⟩)
    (c15 : PySem.W.codeIn K cd15 "Deal.window" = true)
    (k15 : PySem.W.keepIn K (.ref f_Deal_window) = true)
    (a16 : PySem.W.findIn K (.ref C_Deal) "count" = some (some (.ref f_Deal_count)))
    (i16 : PySem.W.isFn K (.ref f_Deal_count) = true)
    (l16 : K.lookup f_Deal_count = some ⟨oc16, od16, .func (PySem.W.fnOf "count" "Deal.count" (defArgs s_Deal_count) (defBody s_Deal_count) (defScope s_Deal_count) .none kV16 dc16 pm16 an16 cd16 ct16), sl16⟩)
    (c16 : PySem.W.codeIn K cd16 "Deal.count" = true)
    (k16 : PySem.W.keepIn K (.ref f_Deal_count) = true)
    (a17 : PySem.W.nsIn K mainGlobals "_law_begin" = some (some (.ref f__law_begin)))
    (l17 : K.lookup f__law_begin = some ⟨oc17, od17, .func (PySem.W.fnOf "_law_begin" "_law_begin" (defArgs s__law_begin) (defBody s__law_begin) (defScope s__law_begin) .none kV17 dc17 pm17 an17 cd17 ct17), sl17⟩)
    (c17 : PySem.W.codeIn K cd17 "_law_begin" = true)
    (k17 : PySem.W.keepIn K (.ref f__law_begin) = true)
    (a18 : PySem.W.nsIn K mainGlobals "_law_draw" = some (some (.ref f__law_draw)))
    (l18 : K.lookup f__law_draw = some ⟨oc18, od18, .func (PySem.W.fnOf "_law_draw" "_law_draw" (defArgs s__law_draw) (defBody s__law_draw) (defScope s__law_draw) .none kV18 dc18 pm18 an18 cd18 ct18), sl18⟩)
    (c18 : PySem.W.codeIn K cd18 "_law_draw" = true)
    (k18 : PySem.W.keepIn K (.ref f__law_draw) = true)
    (a19 : PySem.W.nsIn K mainGlobals "_law_pick" = some (some (.ref f__law_pick)))
    (l19 : K.lookup f__law_pick = some ⟨oc19, od19, .func (PySem.W.fnOf "_law_pick" "_law_pick" (defArgs s__law_pick) (defBody s__law_pick) (defScope s__law_pick) .none kV19 dc19 pm19 an19 cd19 ct19), sl19⟩)
    (c19 : PySem.W.codeIn K cd19 "_law_pick" = true)
    (k19 : PySem.W.keepIn K (.ref f__law_pick) = true)
    (a20 : PySem.W.nsIn K mainGlobals "_law_ten" = some (some (.ref f__law_ten)))
    (l20 : K.lookup f__law_ten = some ⟨oc20, od20, .func (PySem.W.fnOf "_law_ten" "_law_ten" (defArgs s__law_ten) (defBody s__law_ten) (defScope s__law_ten) .none kV20 dc20 pm20 an20 cd20 ct20), sl20⟩)
    (c20 : PySem.W.codeIn K cd20 "_law_ten" = true)
    (k20 : PySem.W.keepIn K (.ref f__law_ten) = true)
    (a21 : PySem.W.nsIn K mainGlobals "_law_same" = some (some (.ref f__law_same)))
    (l21 : K.lookup f__law_same = some ⟨oc21, od21, .func (PySem.W.fnOf "_law_same" "_law_same" (defArgs s__law_same) (defBody s__law_same) (defScope s__law_same) .none kV21 dc21 pm21 an21 cd21 ct21), sl21⟩)
    (c21 : PySem.W.codeIn K cd21 "_law_same" = true)
    (k21 : PySem.W.keepIn K (.ref f__law_same) = true)
    (a22 : PySem.W.nsIn K mainGlobals "_law_refused" = some (some (.ref f__law_refused)))
    (l22 : K.lookup f__law_refused = some ⟨oc22, od22, .func (PySem.W.fnOf "_law_refused" "_law_refused" (defArgs s__law_refused) (defBody s__law_refused) (defScope s__law_refused) .none kV22 dc22 pm22 an22 cd22 ct22), sl22⟩)
    (c22 : PySem.W.codeIn K cd22 "_law_refused" = true)
    (k22 : PySem.W.keepIn K (.ref f__law_refused) = true)
    (a23 : PySem.W.nsIn K mainGlobals "_law_size" = some (some (.ref f__law_size)))
    (l23 : K.lookup f__law_size = some ⟨oc23, od23, .func (PySem.W.fnOf "_law_size" "_law_size" (defArgs s__law_size) (defBody s__law_size) (defScope s__law_size) .none kV23 dc23 pm23 an23 cd23 ct23), sl23⟩)
    (c23 : PySem.W.codeIn K cd23 "_law_size" = true)
    (k23 : PySem.W.keepIn K (.ref f__law_size) = true)
    (a24 : PySem.W.nsIn K mainGlobals "_law_house" = some (some (.ref f__law_house)))
    (l24 : K.lookup f__law_house = some ⟨oc24, od24, .func (PySem.W.fnOf "_law_house" "_law_house" (defArgs s__law_house) (defBody s__law_house) (defScope s__law_house) .none kV24 dc24 pm24 an24 cd24 ct24), sl24⟩)
    (c24 : PySem.W.codeIn K cd24 "_law_house" = true)
    (k24 : PySem.W.keepIn K (.ref f__law_house) = true)
    (a25 : PySem.W.nsIn K mainGlobals "_law_ahead" = some (some (.ref f__law_ahead)))
    (l25 : K.lookup f__law_ahead = some ⟨oc25, od25, .func (PySem.W.fnOf "_law_ahead" "_law_ahead" (defArgs s__law_ahead) (defBody s__law_ahead) (defScope s__law_ahead) .none kV25 dc25 pm25 an25 cd25 ct25), sl25⟩)
    (c25 : PySem.W.codeIn K cd25 "_law_ahead" = true)
    (k25 : PySem.W.keepIn K (.ref f__law_ahead) = true)
    (a26 : PySem.W.nsIn K mainGlobals "_law_count" = some (some (.ref f__law_count)))
    (l26 : K.lookup f__law_count = some ⟨oc26, od26, .func (PySem.W.fnOf "_law_count" "_law_count" (defArgs s__law_count) (defBody s__law_count) (defScope s__law_count) .none kV26 dc26 pm26 an26 cd26 ct26), sl26⟩)
    (c26 : PySem.W.codeIn K cd26 "_law_count" = true)
    (k26 : PySem.W.keepIn K (.ref f__law_count) = true)
    (a27 : PySem.W.nsIn K mainGlobals "_law_numbers" = some (some (.ref f__law_numbers)))
    (l27 : K.lookup f__law_numbers = some ⟨oc27, od27, .func (PySem.W.fnOf "_law_numbers" "_law_numbers" (defArgs s__law_numbers) (defBody s__law_numbers) (defScope s__law_numbers) .none kV27 dc27 pm27 an27 cd27 ct27), sl27⟩)
    (c27 : PySem.W.codeIn K cd27 "_law_numbers" = true)
    (k27 : PySem.W.keepIn K (.ref f__law_numbers) = true)
    (a28 : PySem.W.nsIn K mainGlobals "_law_counts_right" = some (some (.ref f__law_counts_right)))
    (l28 : K.lookup f__law_counts_right = some ⟨oc28, od28, .func (PySem.W.fnOf "_law_counts_right" "_law_counts_right" (defArgs s__law_counts_right) (defBody s__law_counts_right) (defScope s__law_counts_right) .none kV28 dc28 pm28 an28 cd28 ct28), sl28⟩)
    (c28 : PySem.W.codeIn K cd28 "_law_counts_right" = true)
    (k28 : PySem.W.keepIn K (.ref f__law_counts_right) = true)
    (a29 : PySem.W.nsIn K mainGlobals "_law_windows_right" = some (some (.ref f__law_windows_right)))
    (l29 : K.lookup f__law_windows_right = some ⟨oc29, od29, .func (PySem.W.fnOf "_law_windows_right" "_law_windows_right" (defArgs s__law_windows_right) (defBody s__law_windows_right) (defScope s__law_windows_right) .none kV29 dc29 pm29 an29 cd29 ct29), sl29⟩)
    (c29 : PySem.W.codeIn K cd29 "_law_windows_right" = true)
    (k29 : PySem.W.keepIn K (.ref f__law_windows_right) = true)
    (a30 : PySem.W.nsIn K mainGlobals "_law_equal_right" = some (some (.ref f__law_equal_right)))
    (l30 : K.lookup f__law_equal_right = some ⟨oc30, od30, .func (PySem.W.fnOf "_law_equal_right" "_law_equal_right" (defArgs s__law_equal_right) (defBody s__law_equal_right) (defScope s__law_equal_right) .none kV30 dc30 pm30 an30 cd30 ct30), sl30⟩)
    (c30 : PySem.W.codeIn K cd30 "_law_equal_right" = true)
    (k30 : PySem.W.keepIn K (.ref f__law_equal_right) = true)
    (a31 : PySem.W.nsIn K mainGlobals "_law_refusals" = some (some (.ref f__law_refusals)))
    (l31 : K.lookup f__law_refusals = some ⟨oc31, od31, .func (PySem.W.fnOf "_law_refusals" "_law_refusals" (defArgs s__law_refusals) (defBody s__law_refusals) (defScope s__law_refusals) .none kV31 dc31 pm31 an31 (.ref cR31) ct31), sl31⟩)
    (c31 : PySem.W.codeIn K (.ref cR31) "_law_refusals" = true)
    (lc31 : K.lookup cR31 = some ⟨cL31, dL31, .fields vL31, sL31⟩)
    (lp31 : vL31[11]? = some (.ref P31))
    (lh31 : PySem.W.codeHdIn K cR31 P31 = true)
    (ln31 : K.lookup P31 = none)
    (lt31 : h.get? P31 = some { cls := .none, data := .fields #[] })
    (k31 : PySem.W.keepIn K (.ref f__law_refusals) = true)
    (a32 : PySem.W.nsIn K mainGlobals "law" = some (some (.ref f_law)))
    (l32 : K.lookup f_law = some ⟨oc32, od32, .func (PySem.W.fnOf "law" "law" (defArgs s_law) (defBody s_law) (defScope s_law) .none kV32 dc32 pm32 an32 cd32 ct32), sl32⟩)
    (c32 : PySem.W.codeIn K cd32 "law" = true)
    (k32 : PySem.W.keepIn K (.ref f_law) = true)
    (z_all : PySem.W.nsIn K mainGlobals "all" = some none)
    (z_bool : PySem.W.nsIn K mainGlobals "bool" = some none)
    (z_int : PySem.W.nsIn K mainGlobals "int" = some none)
    (z_isinstance : PySem.W.nsIn K mainGlobals "isinstance" = some none)
    (z_len : PySem.W.nsIn K mainGlobals "len" = some none)
    (z_list : PySem.W.nsIn K mainGlobals "list" = some none)
    (z_max : PySem.W.nsIn K mainGlobals "max" = some none)
    (z_min : PySem.W.nsIn K mainGlobals "min" = some none)
    (z_range : PySem.W.nsIn K mainGlobals "range" = some none)
    (z_sum : PySem.W.nsIn K mainGlobals "sum" = some none)
    (z_super : PySem.W.nsIn K mainGlobals "super" = some none)
    (ne_Window : PySem.W.findIn K (.ref C_Window) "__ne__" = some (some (.builtin "object.__ne__")))
    (ne_Deal : PySem.W.findIn K (.ref C_Deal) "__ne__" = some (some (.builtin "object.__ne__")))
    (nf_tup : PySem.W.notFirst K C_Deal (.type "tuple") = true)
    (nf_win : PySem.W.notFirst K C_Deal (.ref C_Window) = true)
    (kd_tup : PySem.W.kitOne K (.type "tuple") (.ref C_Deal) = some false)
    (kd_win : PySem.W.kitOne K (.ref C_Window) (.ref C_Deal) = some false)
    (kd_int : PySem.W.kitOne K (.ref C_Deal) (.type "int") = some false)
    (kd_bool : PySem.W.kitOne K (.ref C_Deal) (.type "bool") = some false) :
    LamX.LawAtS PySem.Challenge.rw_dealtsums_k17_whole_windows_of_deals w K CX0 14 63 "_law_script" mg fa h := by
  have e := hfa.symm.trans (PySem.W.mg_of X G a32)
  cases e
  have bX_BadValue : Binds K (PySem.W.ksFn "__init__" "BadValue.__init__" (defArgs s_BadValue___init__) (defBody s_BadValue___init__) (defScope s_BadValue___init__) .none kV_BadValue dc_BadValue pm_BadValue an_BadValue (.ref cda_BadValue) ct_BadValue cc_BadValue) ["self", "value"] [] := Binds.all fun us hl => match us, hl with | [_, _], _ => rfl
  have F0 := fun_mk (st := s_is_integer) l0 c0 k0
  have b0 := F0.binds (ps := ["value"]) fun _ _ _ _ _ _ us hl => match us, hl with | [_], _ => rfl
  have F1 := fun_mk (st := s_is_whole) l1 c1 k1
  have b1 := F1.binds (ps := ["value"]) fun _ _ _ _ _ _ us hl => match us, hl with | [_], _ => rfl
  have F2 := fun_mk (st := s_need_integer) l2 c2 k2
  have b2 := F2.binds (ps := ["value"]) fun _ _ _ _ _ _ us hl => match us, hl with | [_], _ => rfl
  have F3 := fun_mk (st := s_need_whole) l3 c3 k3
  have b3 := F3.binds (ps := ["value"]) fun _ _ _ _ _ _ us hl => match us, hl with | [_], _ => rfl
  have F4 := fun_mk (st := s_need_positive) l4 c4 k4
  have b4 := F4.binds (ps := ["value"]) fun _ _ _ _ _ _ us hl => match us, hl with | [_], _ => rfl
  have F5 := fun_mk (st := s_need_below) l5 c5 k5
  have b5 := F5.binds (ps := ["value", "bound"]) fun _ _ _ _ _ _ us hl => match us, hl with | [_, _], _ => rfl
  have F6 := fun_mk (st := s_below) l6 c6 k6
  have b6 := F6.binds (ps := ["period", "length", "bound"]) fun _ _ _ _ _ _ us hl => match us, hl with | [_, _, _], _ => rfl
  have F7 := fun_mk (st := s_Window___init__) l7 c7 k7
  have b7 := F7.binds (ps := ["self", "period", "first", "length"]) fun _ _ _ _ _ _ us hl => match us, hl with | [_, _, _, _], _ => rfl
  have F8 := fun_mk (st := s_Window___eq__) l8 c8 k8
  have b8 := F8.binds (ps := ["self", "other"]) fun _ _ _ _ _ _ us hl => match us, hl with | [_, _], _ => rfl
  have F9 := fun_mk (st := s_Window___contains__) l9 c9 k9
  have b9 := F9.binds (ps := ["self", "k"]) fun _ _ _ _ _ _ us hl => match us, hl with | [_, _], _ => rfl
  have F10 := fun_mk (st := s_Window_count) l10 c10 k10
  have b10 := F10.binds (ps := ["self", "many"]) fun _ _ _ _ _ _ us hl => match us, hl with | [_, _], _ => rfl
  have F11 : FunD K "__init__" "Deal.__init__" (defArgs s_Deal___init__) (defBody s_Deal___init__) (defScope s_Deal___init__) [.int 0] [] f_Deal___init__ (PySem.W.fnOf "__init__" "Deal.__init__" (defArgs s_Deal___init__) (defBody s_Deal___init__) (defScope s_Deal___init__) (.ref dT11) kV11 dc11 pm11 an11 cd11 ct11) := ⟨⟨oc11, od11, .ref dT11, kV11, dc11, pm11, an11, cd11, ct11, sl11, rfl, l11, c11, .inr ⟨by simp, dT11, _, [.int 0 dt11_0], dn11, rfl, e11, rfl, .cons ⟨_, rfl⟩ (.nil)⟩, .inl rfl⟩, k11⟩
  obtain ⟨z11, hz11, b11⟩ := F11.binds1 (ps := ["self", "block", "houses", "shift"]) 4 1 (by simp) rfl fun _ _ _ _ _ _ _ us its h1 h2 => match us, h1, its, h2 with | [_, _, _, _], _, [_], _ => ⟨_, rfl, rfl⟩
  cases hz11
  have F12 := fun_mk (st := s_Deal___eq__) l12 c12 k12
  have b12 := F12.binds (ps := ["self", "other"]) fun _ _ _ _ _ _ us hl => match us, hl with | [_, _], _ => rfl
  have F13 := fun_mk (st := s_Deal_turn) l13 c13 k13
  have b13 := F13.binds (ps := ["self"]) fun _ _ _ _ _ _ us hl => match us, hl with | [_], _ => rfl
  have F14 := fun_mk (st := s_Deal_house) l14 c14 k14
  have b14 := F14.binds (ps := ["self", "cell"]) fun _ _ _ _ _ _ us hl => match us, hl with | [_, _], _ => rfl
  have F15 := fun_mk (st := s_Deal_window) l15 c15 k15
  have b15 := F15.binds (ps := ["self", "house"]) fun _ _ _ _ _ _ us hl => match us, hl with | [_, _], _ => rfl
  have F16 := fun_mk (st := s_Deal_count) l16 c16 k16
  have b16 := F16.binds (ps := ["self", "house", "many"]) fun _ _ _ _ _ _ us hl => match us, hl with | [_, _, _], _ => rfl
  have F17 := fun_mk (st := s__law_begin) l17 c17 k17
  have b17 := F17.binds (ps := ["_law_script"]) fun _ _ _ _ _ _ us hl => match us, hl with | [_], _ => rfl
  have F18 := fun_mk (st := s__law_draw) l18 c18 k18
  have b18 := F18.binds (ps := ["_law_pen", "_law_span"]) fun _ _ _ _ _ _ us hl => match us, hl with | [_, _], _ => rfl
  have F19 := fun_mk (st := s__law_pick) l19 c19 k19
  have b19 := F19.binds (ps := ["_law_pen", "_law_some"]) fun _ _ _ _ _ _ us hl => match us, hl with | [_, _], _ => rfl
  have F20 := fun_mk (st := s__law_ten) l20 c20 k20
  have b20 := F20.binds (ps := ["_law_number"]) fun _ _ _ _ _ _ us hl => match us, hl with | [_], _ => rfl
  have F21 := fun_mk (st := s__law_same) l21 c21 k21
  have b21 := F21.binds (ps := ["_law_one", "_law_other"]) fun _ _ _ _ _ _ us hl => match us, hl with | [_, _], _ => rfl
  have F22 := fun_mk (st := s__law_refused) l22 c22 k22
  have b22 := F22.binds (ps := ["_law_deed", "_law_value"]) fun _ _ _ _ _ _ us hl => match us, hl with | [_, _], _ => rfl
  have F23 := fun_mk (st := s__law_size) l23 c23 k23
  have b23 := F23.binds (ps := ["_law_pen", "_law_most"]) fun _ _ _ _ _ _ us hl => match us, hl with | [_, _], _ => rfl
  have F24 := fun_mk (st := s__law_house) l24 c24 k24
  have b24 := F24.binds (ps := ["_law_parts", "_law_cell"]) fun _ _ _ _ _ _ us hl => match us, hl with | [_, _], _ => rfl
  have F25 := fun_mk (st := s__law_ahead) l25 c25 k25
  have b25 := F25.binds (ps := ["_law_parts", "_law_house_here", "_law_bound"]) fun _ _ _ _ _ _ us hl => match us, hl with | [_, _, _], _ => rfl
  have F26 := fun_mk (st := s__law_count) l26 c26 k26
  have b26 := F26.binds (ps := ["_law_parts", "_law_house_here", "_law_many"]) fun _ _ _ _ _ _ us hl => match us, hl with | [_, _, _], _ => rfl
  have F27 := fun_mk (st := s__law_numbers) l27 c27 k27
  have b27 := F27.binds (ps := ["_law_pen", "_law_parts"]) fun _ _ _ _ _ _ us hl => match us, hl with | [_, _], _ => rfl
  have F28 := fun_mk (st := s__law_counts_right) l28 c28 k28
  have b28 := F28.binds (ps := ["_law_deal", "_law_parts", "_law_house_here", "_law_many"]) fun _ _ _ _ _ _ us hl => match us, hl with | [_, _, _, _], _ => rfl
  have F29 := fun_mk (st := s__law_windows_right) l29 c29 k29
  have b29 := F29.binds (ps := ["_law_pen", "_law_deal", "_law_parts"]) fun _ _ _ _ _ _ us hl => match us, hl with | [_, _, _], _ => rfl
  have F30 := fun_mk (st := s__law_equal_right) l30 c30 k30
  have b30 := F30.binds (ps := ["_law_pen"]) fun _ _ _ _ _ _ us hl => match us, hl with | [_], _ => rfl
  have F31 := fun_mk (st := s__law_refusals) l31 c31 k31
  have b31 := F31.binds (ps := ["_law_pen", "_law_deal", "_law_houses"]) fun _ _ _ _ _ _ us hl => match us, hl with | [_, _, _], _ => rfl
  have F32 := fun_mk (st := s_law) l32 c32 k32
  have b32 := F32.binds (ps := ["_law_script"]) fun _ _ _ _ _ _ us hl => match us, hl with | [_], _ => rfl
  let T : Tx w K mg := {
    C_BadValue := C_BadValue,
    f_BadValue___init__ := f_BadValue___init__,
    fd_BadValue___init__ := PySem.W.ksFn "__init__" "BadValue.__init__" (defArgs s_BadValue___init__) (defBody s_BadValue___init__) (defScope s_BadValue___init__) .none kV_BadValue dc_BadValue pm_BadValue an_BadValue (.ref cda_BadValue) ct_BadValue cc_BadValue,
    gC_BadValue := PySem.W.mg_of X G xC_BadValue,
    X_BadValue := ⟨⟨_, _, _, _, _, _, _, _, _, _, _, _, _, _, _, _, _, _, _, _, rfl, xl_BadValue, xc_BadValue, xd_BadValue, xv_BadValue, xf_BadValue, xe_BadValue, xk_BadValue⟩, xm_BadValue, PySem.W.mg_none_of X G z_super, xt_BadValue, xa_BadValue, xs_BadValue, xb_BadValue, ⟨⟨_, _, _, _, _, _, _, _, _, _, _, _, _, _, _, xo_BadValue, xr_BadValue⟩, xw_BadValue, xx_BadValue, xy_BadValue, xp_BadValue⟩, xn_BadValue, xi_BadValue, xj_BadValue⟩,
    bX_BadValue := bX_BadValue,
    xf_BadValue := ⟨xg_BadValue, xh_BadValue, xx_BadValue, xq_BadValue⟩,
    em_BadValue := xz_BadValue,
    C_Window := C_Window,
    cl_Window := ⟨pg_Window, hd_Window, po_Window, sa_Window⟩,
    gC_Window := PySem.W.mg_of X G aC_Window,
    n_Window_period := n_Window_period,
    n_Window_first := n_Window_first,
    n_Window_length := n_Window_length,
    C_Deal := C_Deal,
    cl_Deal := ⟨pg_Deal, hd_Deal, po_Deal, sa_Deal⟩,
    gC_Deal := PySem.W.mg_of X G aC_Deal,
    n_Deal_houses := n_Deal_houses,
    n_Deal_block := n_Deal_block,
    n_Deal_shift := n_Deal_shift,
    f_is_integer := f_is_integer,
    fd_is_integer := PySem.W.fnOf "is_integer" "is_integer" (defArgs s_is_integer) (defBody s_is_integer) (defScope s_is_integer) .none kV0 dc0 pm0 an0 cd0 ct0,
    F_is_integer := F0,
    b_is_integer := b0,
    g_is_integer := PySem.W.mg_of X G a0,
    f_is_whole := f_is_whole,
    fd_is_whole := PySem.W.fnOf "is_whole" "is_whole" (defArgs s_is_whole) (defBody s_is_whole) (defScope s_is_whole) .none kV1 dc1 pm1 an1 cd1 ct1,
    F_is_whole := F1,
    b_is_whole := b1,
    g_is_whole := PySem.W.mg_of X G a1,
    f_need_integer := f_need_integer,
    fd_need_integer := PySem.W.fnOf "need_integer" "need_integer" (defArgs s_need_integer) (defBody s_need_integer) (defScope s_need_integer) .none kV2 dc2 pm2 an2 cd2 ct2,
    F_need_integer := F2,
    b_need_integer := b2,
    g_need_integer := PySem.W.mg_of X G a2,
    f_need_whole := f_need_whole,
    fd_need_whole := PySem.W.fnOf "need_whole" "need_whole" (defArgs s_need_whole) (defBody s_need_whole) (defScope s_need_whole) .none kV3 dc3 pm3 an3 cd3 ct3,
    F_need_whole := F3,
    b_need_whole := b3,
    g_need_whole := PySem.W.mg_of X G a3,
    f_need_positive := f_need_positive,
    fd_need_positive := PySem.W.fnOf "need_positive" "need_positive" (defArgs s_need_positive) (defBody s_need_positive) (defScope s_need_positive) .none kV4 dc4 pm4 an4 cd4 ct4,
    F_need_positive := F4,
    b_need_positive := b4,
    g_need_positive := PySem.W.mg_of X G a4,
    f_need_below := f_need_below,
    fd_need_below := PySem.W.fnOf "need_below" "need_below" (defArgs s_need_below) (defBody s_need_below) (defScope s_need_below) .none kV5 dc5 pm5 an5 cd5 ct5,
    F_need_below := F5,
    b_need_below := b5,
    g_need_below := PySem.W.mg_of X G a5,
    f_below := f_below,
    fd_below := PySem.W.fnOf "below" "below" (defArgs s_below) (defBody s_below) (defScope s_below) .none kV6 dc6 pm6 an6 cd6 ct6,
    F_below := F6,
    b_below := b6,
    g_below := PySem.W.mg_of X G a6,
    f_Window___init__ := f_Window___init__,
    fd_Window___init__ := PySem.W.fnOf "__init__" "Window.__init__" (defArgs s_Window___init__) (defBody s_Window___init__) (defScope s_Window___init__) .none kV7 dc7 pm7 an7 cd7 ct7,
    F_Window___init__ := F7,
    b_Window___init__ := b7,
    M_Window := ⟨mk_Window, a7, i7, kc_Window⟩,
    f_Window___eq__ := f_Window___eq__,
    fd_Window___eq__ := PySem.W.fnOf "__eq__" "Window.__eq__" (defArgs s_Window___eq__) (defBody s_Window___eq__) (defScope s_Window___eq__) .none kV8 dc8 pm8 an8 cd8 ct8,
    F_Window___eq__ := F8,
    b_Window___eq__ := b8,
    m_Window___eq__ := ⟨a8, i8, k8⟩,
    f_Window___contains__ := f_Window___contains__,
    fd_Window___contains__ := PySem.W.fnOf "__contains__" "Window.__contains__" (defArgs s_Window___contains__) (defBody s_Window___contains__) (defScope s_Window___contains__) .none kV9 dc9 pm9 an9 cd9 ct9,
    F_Window___contains__ := F9,
    b_Window___contains__ := b9,
    m_Window___contains__ := ⟨a9, i9, k9⟩,
    f_Window_count := f_Window_count,
    fd_Window_count := PySem.W.fnOf "count" "Window.count" (defArgs s_Window_count) (defBody s_Window_count) (defScope s_Window_count) .none kV10 dc10 pm10 an10 cd10 ct10,
    F_Window_count := F10,
    b_Window_count := b10,
    m_Window_count := ⟨a10, i10, k10⟩,
    f_Deal___init__ := f_Deal___init__,
    fd_Deal___init__ := PySem.W.fnOf "__init__" "Deal.__init__" (defArgs s_Deal___init__) (defBody s_Deal___init__) (defScope s_Deal___init__) (.ref dT11) kV11 dc11 pm11 an11 cd11 ct11,
    F_Deal___init__ := F11,
    b_Deal___init__ := b11,
    M_Deal := ⟨mk_Deal, a11, i11, kc_Deal⟩,
    f_Deal___eq__ := f_Deal___eq__,
    fd_Deal___eq__ := PySem.W.fnOf "__eq__" "Deal.__eq__" (defArgs s_Deal___eq__) (defBody s_Deal___eq__) (defScope s_Deal___eq__) .none kV12 dc12 pm12 an12 cd12 ct12,
    F_Deal___eq__ := F12,
    b_Deal___eq__ := b12,
    m_Deal___eq__ := ⟨a12, i12, k12⟩,
    f_Deal_turn := f_Deal_turn,
    fd_Deal_turn := PySem.W.fnOf "turn" "Deal.turn" (defArgs s_Deal_turn) (defBody s_Deal_turn) (defScope s_Deal_turn) .none kV13 dc13 pm13 an13 cd13 ct13,
    F_Deal_turn := F13,
    b_Deal_turn := b13,
    m_Deal_turn := ⟨a13, i13, k13⟩,
    f_Deal_house := f_Deal_house,
    fd_Deal_house := PySem.W.fnOf "house" "Deal.house" (defArgs s_Deal_house) (defBody s_Deal_house) (defScope s_Deal_house) .none kV14 dc14 pm14 an14 cd14 ct14,
    F_Deal_house := F14,
    b_Deal_house := b14,
    m_Deal_house := ⟨a14, i14, k14⟩,
    f_Deal_window := f_Deal_window,
    fd_Deal_window := PySem.W.fnOf "window" "Deal.window" (defArgs s_Deal_window) (defBody s_Deal_window) (defScope s_Deal_window) .none kV15 dc15 pm15 an15 cd15 ct15,
    F_Deal_window := F15,
    b_Deal_window := b15,
    m_Deal_window := ⟨a15, i15, k15⟩,
    f_Deal_count := f_Deal_count,
    fd_Deal_count := PySem.W.fnOf "count" "Deal.count" (defArgs s_Deal_count) (defBody s_Deal_count) (defScope s_Deal_count) .none kV16 dc16 pm16 an16 cd16 ct16,
    F_Deal_count := F16,
    b_Deal_count := b16,
    m_Deal_count := ⟨a16, i16, k16⟩,
    f__law_begin := f__law_begin,
    fd__law_begin := PySem.W.fnOf "_law_begin" "_law_begin" (defArgs s__law_begin) (defBody s__law_begin) (defScope s__law_begin) .none kV17 dc17 pm17 an17 cd17 ct17,
    F__law_begin := F17,
    b__law_begin := b17,
    g__law_begin := PySem.W.mg_of X G a17,
    f__law_draw := f__law_draw,
    fd__law_draw := PySem.W.fnOf "_law_draw" "_law_draw" (defArgs s__law_draw) (defBody s__law_draw) (defScope s__law_draw) .none kV18 dc18 pm18 an18 cd18 ct18,
    F__law_draw := F18,
    b__law_draw := b18,
    g__law_draw := PySem.W.mg_of X G a18,
    f__law_pick := f__law_pick,
    fd__law_pick := PySem.W.fnOf "_law_pick" "_law_pick" (defArgs s__law_pick) (defBody s__law_pick) (defScope s__law_pick) .none kV19 dc19 pm19 an19 cd19 ct19,
    F__law_pick := F19,
    b__law_pick := b19,
    g__law_pick := PySem.W.mg_of X G a19,
    f__law_ten := f__law_ten,
    fd__law_ten := PySem.W.fnOf "_law_ten" "_law_ten" (defArgs s__law_ten) (defBody s__law_ten) (defScope s__law_ten) .none kV20 dc20 pm20 an20 cd20 ct20,
    F__law_ten := F20,
    b__law_ten := b20,
    g__law_ten := PySem.W.mg_of X G a20,
    f__law_same := f__law_same,
    fd__law_same := PySem.W.fnOf "_law_same" "_law_same" (defArgs s__law_same) (defBody s__law_same) (defScope s__law_same) .none kV21 dc21 pm21 an21 cd21 ct21,
    F__law_same := F21,
    b__law_same := b21,
    g__law_same := PySem.W.mg_of X G a21,
    f__law_refused := f__law_refused,
    fd__law_refused := PySem.W.fnOf "_law_refused" "_law_refused" (defArgs s__law_refused) (defBody s__law_refused) (defScope s__law_refused) .none kV22 dc22 pm22 an22 cd22 ct22,
    F__law_refused := F22,
    b__law_refused := b22,
    g__law_refused := PySem.W.mg_of X G a22,
    f__law_size := f__law_size,
    fd__law_size := PySem.W.fnOf "_law_size" "_law_size" (defArgs s__law_size) (defBody s__law_size) (defScope s__law_size) .none kV23 dc23 pm23 an23 cd23 ct23,
    F__law_size := F23,
    b__law_size := b23,
    g__law_size := PySem.W.mg_of X G a23,
    f__law_house := f__law_house,
    fd__law_house := PySem.W.fnOf "_law_house" "_law_house" (defArgs s__law_house) (defBody s__law_house) (defScope s__law_house) .none kV24 dc24 pm24 an24 cd24 ct24,
    F__law_house := F24,
    b__law_house := b24,
    g__law_house := PySem.W.mg_of X G a24,
    f__law_ahead := f__law_ahead,
    fd__law_ahead := PySem.W.fnOf "_law_ahead" "_law_ahead" (defArgs s__law_ahead) (defBody s__law_ahead) (defScope s__law_ahead) .none kV25 dc25 pm25 an25 cd25 ct25,
    F__law_ahead := F25,
    b__law_ahead := b25,
    g__law_ahead := PySem.W.mg_of X G a25,
    f__law_count := f__law_count,
    fd__law_count := PySem.W.fnOf "_law_count" "_law_count" (defArgs s__law_count) (defBody s__law_count) (defScope s__law_count) .none kV26 dc26 pm26 an26 cd26 ct26,
    F__law_count := F26,
    b__law_count := b26,
    g__law_count := PySem.W.mg_of X G a26,
    f__law_numbers := f__law_numbers,
    fd__law_numbers := PySem.W.fnOf "_law_numbers" "_law_numbers" (defArgs s__law_numbers) (defBody s__law_numbers) (defScope s__law_numbers) .none kV27 dc27 pm27 an27 cd27 ct27,
    F__law_numbers := F27,
    b__law_numbers := b27,
    g__law_numbers := PySem.W.mg_of X G a27,
    f__law_counts_right := f__law_counts_right,
    fd__law_counts_right := PySem.W.fnOf "_law_counts_right" "_law_counts_right" (defArgs s__law_counts_right) (defBody s__law_counts_right) (defScope s__law_counts_right) .none kV28 dc28 pm28 an28 cd28 ct28,
    F__law_counts_right := F28,
    b__law_counts_right := b28,
    g__law_counts_right := PySem.W.mg_of X G a28,
    f__law_windows_right := f__law_windows_right,
    fd__law_windows_right := PySem.W.fnOf "_law_windows_right" "_law_windows_right" (defArgs s__law_windows_right) (defBody s__law_windows_right) (defScope s__law_windows_right) .none kV29 dc29 pm29 an29 cd29 ct29,
    F__law_windows_right := F29,
    b__law_windows_right := b29,
    g__law_windows_right := PySem.W.mg_of X G a29,
    f__law_equal_right := f__law_equal_right,
    fd__law_equal_right := PySem.W.fnOf "_law_equal_right" "_law_equal_right" (defArgs s__law_equal_right) (defBody s__law_equal_right) (defScope s__law_equal_right) .none kV30 dc30 pm30 an30 cd30 ct30,
    F__law_equal_right := F30,
    b__law_equal_right := b30,
    g__law_equal_right := PySem.W.mg_of X G a30,
    c__law_refusals := cR31,
    P__law_refusals := P31,
    FC__law_refusals := ⟨_, _, _, _, _, _, _, _, rfl, l31, c31⟩,
    f__law_refusals := f__law_refusals,
    fd__law_refusals := PySem.W.fnOf "_law_refusals" "_law_refusals" (defArgs s__law_refusals) (defBody s__law_refusals) (defScope s__law_refusals) .none kV31 dc31 pm31 an31 (.ref cR31) ct31,
    F__law_refusals := F31,
    b__law_refusals := b31,
    g__law_refusals := PySem.W.mg_of X G a31,
    f_law := fa,
    fd_law := PySem.W.fnOf "law" "law" (defArgs s_law) (defBody s_law) (defScope s_law) .none kV32 dc32 pm32 an32 cd32 ct32,
    F_law := F32,
    b_law := b32,
    g_law := PySem.W.mg_of X G a32,
    z_all := PySem.W.mg_none_of X G z_all,
    z_bool := PySem.W.mg_none_of X G z_bool,
    z_int := PySem.W.mg_none_of X G z_int,
    z_isinstance := PySem.W.mg_none_of X G z_isinstance,
    z_len := PySem.W.mg_none_of X G z_len,
    z_list := PySem.W.mg_none_of X G z_list,
    z_max := PySem.W.mg_none_of X G z_max,
    z_min := PySem.W.mg_none_of X G z_min,
    z_range := PySem.W.mg_none_of X G z_range,
    z_sum := PySem.W.mg_none_of X G z_sum,
    ty_Window := fun H a dx fs e => .ins e ⟨pg_Window, hd_Window, po_Window, sa_Window⟩ tya_Window tyb_Window tyc_Window tyd_Window,
    ki_Window := by unfold PySem.W.kitOne; rw [if_pos (by simp)],
    ne_Window := ne_Window,
    mo_Window := tyd_Window,
    ty_Deal := fun H a dx fs e => .ins e ⟨pg_Deal, hd_Deal, po_Deal, sa_Deal⟩ tya_Deal tyb_Deal tyc_Deal tyd_Deal,
    ki_Deal := by unfold PySem.W.kitOne; rw [if_pos (by simp)],
    ne_Deal := ne_Deal,
    mo_Deal := tyd_Deal,
    nf_tup := nf_tup,
    nf_win := nf_win,
    kd_tup := kd_tup,
    kd_win := kd_win,
    kd_int := kd_int,
    kd_bool := kd_bool }
  refine ⟨T.fd_law, [(cR31, P31)], spLaw K T, ?_, ?_, ?_, fun s v => .of_eq rfl, fun H a ns hl hb ht hs => ?_, fun base _ _ tb => ?_⟩
  · intro p hp
    obtain rfl := List.mem_singleton.mp hp
    exact lt31
  · intro p hp
    obtain rfl := List.mem_singleton.mp hp
    exact ln31
  · intro p hp
    obtain rfl := List.mem_singleton.mp hp
    exact PySem.W.codeHd_of_K X lh31
  · exact spLaw_of T hl hs (ht (cR31, P31) (by simp))
  · exact ok_law T (tb (cR31, P31) (by simp))
end K17
open PySem PySem.W PyProof.Rows
set_option maxHeartbeats 0 in
theorem PySem.Challenge.cw_dealtsums_k17_whole_windows_of_deals_holds : PySem.Challenge.rw_dealtsums_k17_whole_windows_of_deals.Holds := by
  w_on; o_law; k_head; (case hw => w_witness2)
  k_fill
  refine LamX.walk_ofTs (l := PySem.Challenge.rw_dealtsums_k17_whole_windows_of_deals) (n := 63) (k := 14) (x := "_law_script") (CX := fun _ => L2.CX0) rfl (by decide) rfl ⟨rfl, by decide, by decide⟩ (fun w h Y => PySem.W.km_in_of Y) ?F (fun _ _ _ _ _ h => h)
  case F =>
    intro w mg fa h Y KX G hmg
    refine' K17.all_mk KX G hmg ?xC_BadValue ?xi_BadValue ?xl_BadValue ?xc_BadValue ?xd_BadValue ?xv_BadValue ?xf_BadValue ?xe_BadValue ?xk_BadValue ?xm_BadValue ?xt_BadValue ?xa_BadValue ?xs_BadValue ?xb_BadValue ?xo_BadValue ?xr_BadValue ?xw_BadValue ?xx_BadValue ?xy_BadValue ?xp_BadValue ?xn_BadValue ?xj_BadValue ?xg_BadValue ?xh_BadValue ?xq_BadValue ?xz_BadValue ?aC_Window ?pg_Window ?hd_Window ?po_Window ?sa_Window ?mk_Window ?kc_Window ?tya_Window ?tyb_Window ?tyc_Window ?tyd_Window ?n_Window_period ?n_Window_first ?n_Window_length ?aC_Deal ?pg_Deal ?hd_Deal ?po_Deal ?sa_Deal ?mk_Deal ?kc_Deal ?tya_Deal ?tyb_Deal ?tyc_Deal ?tyd_Deal ?n_Deal_houses ?n_Deal_block ?n_Deal_shift ?a0 ?l0 ?c0 ?k0 ?a1 ?l1 ?c1 ?k1 ?a2 ?l2 ?c2 ?k2 ?a3 ?l3 ?c3 ?k3 ?a4 ?l4 ?c4 ?k4 ?a5 ?l5 ?c5 ?k5 ?a6 ?l6 ?c6 ?k6 ?a7 ?i7 ?l7 ?c7 ?k7 ?a8 ?i8 ?l8 ?c8 ?k8 ?a9 ?i9 ?l9 ?c9 ?k9 ?a10 ?i10 ?l10 ?c10 ?k10 ?a11 ?i11 ?l11 ?c11 ?k11 ?e11 ?a12 ?i12 ?l12 ?c12 ?k12 ?a13 ?i13 ?l13 ?c13 ?k13 ?a14 ?i14 ?l14 ?c14 ?k14 ?a15 ?i15 ?l15 ?c15 ?k15 ?a16 ?i16 ?l16 ?c16 ?k16 ?a17 ?l17 ?c17 ?k17 ?a18 ?l18 ?c18 ?k18 ?a19 ?l19 ?c19 ?k19 ?a20 ?l20 ?c20 ?k20 ?a21 ?l21 ?c21 ?k21 ?a22 ?l22 ?c22 ?k22 ?a23 ?l23 ?c23 ?k23 ?a24 ?l24 ?c24 ?k24 ?a25 ?l25 ?c25 ?k25 ?a26 ?l26 ?c26 ?k26 ?a27 ?l27 ?c27 ?k27 ?a28 ?l28 ?c28 ?k28 ?a29 ?l29 ?c29 ?k29 ?a30 ?l30 ?c30 ?k30 ?a31 ?l31 ?c31 ?lc31 ?lp31 ?lh31 ?ln31 ?lt31 ?k31 ?a32 ?l32 ?c32 ?k32 ?z_all ?z_bool ?z_int ?z_isinstance ?z_len ?z_list ?z_max ?z_min ?z_range ?z_sum ?z_super ?ne_Window ?ne_Deal ?nf_tup ?nf_win ?kd_tup ?kd_win ?kd_int ?kd_bool
    (case xC_BadValue => k_is)
    (case xi_BadValue => k_is)
    (case xl_BadValue => k_is)
    (case xc_BadValue => k_is)
    (case xd_BadValue => k_is)
    (case xv_BadValue => rfl)
    (case xf_BadValue => decide +kernel)
    (case xe_BadValue => k_is)
    (case xk_BadValue => k_is)
    (case xm_BadValue => k_is)
    (case xt_BadValue => decide +kernel)
    (case xa_BadValue => k_is)
    (case xs_BadValue => kernel_rfl)
    (case xb_BadValue => k_is)
    (case xo_BadValue => k_is)
    (case xr_BadValue => rfl)
    (case xw_BadValue => k_is)
    (case xx_BadValue => k_is)
    (case xy_BadValue => k_is)
    (case xp_BadValue => k_is)
    (case xn_BadValue => k_is)
    (case xj_BadValue => k_is)
    (case xg_BadValue => k_is)
    (case xh_BadValue => k_is)
    (case xq_BadValue => k_is)
    (case xz_BadValue => kernel_rfl)
    (case aC_Window => k_is)
    (case pg_Window => k_is)
    (case hd_Window => k_is)
    (case po_Window => k_is)
    (case sa_Window => k_is)
    (case mk_Window => k_is)
    (case kc_Window => k_is)
    (case tya_Window => k_is)
    (case tyb_Window => k_is)
    (case tyc_Window => k_is)
    (case tyd_Window => k_is)
    (case n_Window_period => k_is)
    (case n_Window_first => k_is)
    (case n_Window_length => k_is)
    (case aC_Deal => k_is)
    (case pg_Deal => k_is)
    (case hd_Deal => k_is)
    (case po_Deal => k_is)
    (case sa_Deal => k_is)
    (case mk_Deal => k_is)
    (case kc_Deal => k_is)
    (case tya_Deal => k_is)
    (case tyb_Deal => k_is)
    (case tyc_Deal => k_is)
    (case tyd_Deal => k_is)
    (case n_Deal_houses => k_is)
    (case n_Deal_block => k_is)
    (case n_Deal_shift => k_is)
    (case a0 => k_is)
    (case l0 => k_is)
    (case c0 => k_is)
    (case k0 => k_is)
    (case a1 => k_is)
    (case l1 => k_is)
    (case c1 => k_is)
    (case k1 => k_is)
    (case a2 => k_is)
    (case l2 => k_is)
    (case c2 => k_is)
    (case k2 => k_is)
    (case a3 => k_is)
    (case l3 => k_is)
    (case c3 => k_is)
    (case k3 => k_is)
    (case a4 => k_is)
    (case l4 => k_is)
    (case c4 => k_is)
    (case k4 => k_is)
    (case a5 => k_is)
    (case l5 => k_is)
    (case c5 => k_is)
    (case k5 => k_is)
    (case a6 => k_is)
    (case l6 => k_is)
    (case c6 => k_is)
    (case k6 => k_is)
    (case a7 => k_is)
    (case i7 => k_is)
    (case l7 => k_is)
    (case c7 => k_is)
    (case k7 => k_is)
    (case a8 => k_is)
    (case i8 => k_is)
    (case l8 => k_is)
    (case c8 => k_is)
    (case k8 => k_is)
    (case a9 => k_is)
    (case i9 => k_is)
    (case l9 => k_is)
    (case c9 => k_is)
    (case k9 => k_is)
    (case a10 => k_is)
    (case i10 => k_is)
    (case l10 => k_is)
    (case c10 => k_is)
    (case k10 => k_is)
    (case a11 => k_is)
    (case i11 => k_is)
    (case l11 => k_is)
    (case c11 => k_is)
    (case k11 => k_is)
    (case e11 => k_is)
    (case a12 => k_is)
    (case i12 => k_is)
    (case l12 => k_is)
    (case c12 => k_is)
    (case k12 => k_is)
    (case a13 => k_is)
    (case i13 => k_is)
    (case l13 => k_is)
    (case c13 => k_is)
    (case k13 => k_is)
    (case a14 => k_is)
    (case i14 => k_is)
    (case l14 => k_is)
    (case c14 => k_is)
    (case k14 => k_is)
    (case a15 => k_is)
    (case i15 => k_is)
    (case l15 => k_is)
    (case c15 => k_is)
    (case k15 => k_is)
    (case a16 => k_is)
    (case i16 => k_is)
    (case l16 => k_is)
    (case c16 => k_is)
    (case k16 => k_is)
    (case a17 => k_is)
    (case l17 => k_is)
    (case c17 => k_is)
    (case k17 => k_is)
    (case a18 => k_is)
    (case l18 => k_is)
    (case c18 => k_is)
    (case k18 => k_is)
    (case a19 => k_is)
    (case l19 => k_is)
    (case c19 => k_is)
    (case k19 => k_is)
    (case a20 => k_is)
    (case l20 => k_is)
    (case c20 => k_is)
    (case k20 => k_is)
    (case a21 => k_is)
    (case l21 => k_is)
    (case c21 => k_is)
    (case k21 => k_is)
    (case a22 => k_is)
    (case l22 => k_is)
    (case c22 => k_is)
    (case k22 => k_is)
    (case a23 => k_is)
    (case l23 => k_is)
    (case c23 => k_is)
    (case k23 => k_is)
    (case a24 => k_is)
    (case l24 => k_is)
    (case c24 => k_is)
    (case k24 => k_is)
    (case a25 => k_is)
    (case l25 => k_is)
    (case c25 => k_is)
    (case k25 => k_is)
    (case a26 => k_is)
    (case l26 => k_is)
    (case c26 => k_is)
    (case k26 => k_is)
    (case a27 => k_is)
    (case l27 => k_is)
    (case c27 => k_is)
    (case k27 => k_is)
    (case a28 => k_is)
    (case l28 => k_is)
    (case c28 => k_is)
    (case k28 => k_is)
    (case a29 => k_is)
    (case l29 => k_is)
    (case c29 => k_is)
    (case k29 => k_is)
    (case a30 => k_is)
    (case l30 => k_is)
    (case c30 => k_is)
    (case k30 => k_is)
    (case a31 => k_is)
    (case l31 => k_is)
    (case c31 => k_is)
    (case lc31 => k_is)
    (case lp31 => rfl)
    (case lh31 => kernel_rfl)
    (case ln31 => kernel_rfl)
    (case lt31 => exact PySem.W.km_tabs_of Y _ (by decide))
    (case k31 => k_is)
    (case a32 => k_is)
    (case l32 => k_is)
    (case c32 => k_is)
    (case k32 => k_is)
    (case z_all => k_is)
    (case z_bool => k_is)
    (case z_int => k_is)
    (case z_isinstance => k_is)
    (case z_len => k_is)
    (case z_list => k_is)
    (case z_max => k_is)
    (case z_min => k_is)
    (case z_range => k_is)
    (case z_sum => k_is)
    (case z_super => k_is)
    (case ne_Window => k_is)
    (case ne_Deal => k_is)
    (case nf_tup => k_is)
    (case nf_win => k_is)
    (case kd_tup => kernel_rfl)
    (case kd_win => kernel_rfl)
    (case kd_int => kernel_rfl)
    (case kd_bool => kernel_rfl)
