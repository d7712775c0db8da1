import PyProof.Rows.All
import Wide.All
import OpenK.AllK
import Wide.FinOn
import HandS.ForMost
import HandS.Wide
import HandS.WideBits
import HandS.IsInst
import HandS.Defaults
import HandS.Style
import HandS.OwnEq
import HandS.More
import KE.KOpsOwn
import PySem.Challenge.RW_dealtsums_k05_whole_worths_rounded_to_on
set_option Elab.async false
set_option linter.all false
set_option maxRecDepth 100000
set_option maxHeartbeats 4000000
namespace DS
open PySem L2
/-! ### heaps -/
/-- what never changes once it is made: all but dicts -/
def stab : HO → Bool
  | .dK _ => false
  | _ => true
def Keep (H H' : Hp) : Prop := ∀ b o, H b = some o → stab o = true → H' b = some o
theorem Keep.refl (H : Hp) : Keep H H := fun _ _ h _ => h
theorem Keep.trans {H H1 H2 : Hp} (a : Keep H H1) (b : Keep H1 H2) : Keep H H2 := fun c o h s => b c o (a c o h s) s
theorem Keep.of {H H' : Hp} (s : Same H H') : Keep H H' := fun b o h _ => s b o h
theorem Same.keep {H H1 H2 : Hp} (a : Same H H1) (b : Keep H1 H2) : Keep H H2 := (Keep.of a).trans b
theorem Keep.same {H H1 H2 : Hp} (a : Keep H H1) (b : Same H1 H2) : Keep H H2 := a.trans (Keep.of b)
theorem same_upd {H : Hp} {p : Addr} {o : HO} (h : H p = none) : Same H (upd H p o) := fun b x e => by
  rw [upd_ne (ne_of_none e h)]
  exact e
theorem keep_dict {H : Hp} {p : Addr} {kvs kvs' : List (Key × V)} (h : H p = some (.dK kvs)) : Keep H (upd H p (.dK kvs')) := fun b o e s => by
  have n : b ≠ p := fun z => by
    subst z
    rw [h] at e
    cases e
    cases s
  rw [upd_ne n]
  exact e
/-! ### steps of a reading -/
section
variable {σ : St} {H : Hp} {Q : VK} {D : Ends} {t u : TS} {te ta tb tc : TE} {g : TG} {c c' : TT} {x y v : V} {i : Nat} {r r' : R2} {tl tr : TA}
theorem w_seq (h : t { D with nx := u D } σ H) : tSeq t u D σ H := h
theorem w_next (h : D.nx σ H) : tNext D σ H := h
theorem w_brk (h : D.bk σ H) : tBreak D σ H := h
theorem w_cont (h : D.ct σ H) : tCont D σ H := h
theorem w_asg (h : te σ H fun x H1 => g x σ H1 D.nx) : tAsg te g D σ H := h
theorem w_name {R : St → Hp → Prop} (h : R (σ.set i (some v)) H) : gName i v σ H R := h
theorem w_par {j : Nat} (h : tl σ H fun vs H1 => ∃ v w, vs = [v, w] ∧ D.nx ((σ.set i (some v)).set j (some w)) H1) : tPar i j tl D σ H := h
theorem w_two {w : V} {P : V → V → Prop} (h : P v w) : ∃ v' w', [v, w] = [v', w'] ∧ P v' w' := ⟨v, w, rfl, h⟩
theorem w_three {w z : V} {P : V → V → V → Prop} (h : P v w z) : ∃ v' w' z', [v, w, z] = [v', w', z'] ∧ P v' w' z' := ⟨v, w, z, rfl, h⟩
theorem w_par3 {j l : Nat} (h : tl σ H fun vs H1 => ∃ v w z, vs = [v, w, z] ∧ D.nx (((σ.set i (some v)).set j (some w)).set l (some z)) H1) : tPar3 i j l tl D σ H := h
theorem w_ret (h : te σ H D.rt) : tRet te D σ H := h
theorem w_retN (h : D.rt .non H) : tRetN D σ H := h
theorem w_drop (h : te σ H fun _ H1 => D.nx σ H1) : tDrop te D σ H := h
theorem w_ifs (h : c σ H fun b H1 => if b = true then t D σ H1 else u D σ H1) : tIfS c t u D σ H := h
theorem w_var (e : σ[i]? = some (some v)) (h : Q v H) : tVar i σ H Q := ⟨v, e, h⟩
theorem w_c (h : Q v H) : tC v σ H Q := h
theorem w_op (h : ta σ H fun x H1 => tb σ H1 fun y H2 => r x y H2 Q) : tOp r ta tb σ H Q := h
theorem w_un {r : V → Hp → VK → Prop} (h : ta σ H fun x H1 => r x H1 Q) : tUn r ta σ H Q := h
theorem w_I0 {g : Int → Int → V} {i j : Int} (h : Q (g i j) H) : rI0 g (.int i) (.int j) H Q := ⟨i, j, rfl, rfl, h⟩
theorem w_I {C : Int → Int → Prop} {g : Int → Int → V} {i j : Int} (k : C i j) (h : Q (g i j) H) : rI C g (.int i) (.int j) H Q := ⟨i, j, rfl, rfl, k, h⟩
theorem w_U {g : Int → V} {i : Int} (h : Q (g i) H) : rU g (.int i) H Q := ⟨i, rfl, h⟩
theorem w_test {R : Bool → Hp → Prop} (h : te σ H fun x H' => ∃ k, x = .bl k ∧ R k H') : tTest te σ H R := h
theorem w_B {R : Bool → Hp → Prop} (h : te σ H fun x H' => ∃ k, x = .bl k ∧ R k H') : tB te σ H R := h
theorem w_k {k : Bool} {P : Bool → Prop} (h : P k) : ∃ k', V.bl k = .bl k' ∧ P k' := ⟨k, rfl, h⟩
theorem w_eq (s : scal x y = true) (h : Q (.bl (decide (x = y))) H) : rEq x y H Q := ⟨s, h⟩
theorem w_ne (s : scal x y = true) (h : Q (.bl (!decide (x = y))) H) : rNe x y H Q := ⟨s, h⟩
theorem w_isN (h : Q (.bl (decide (x = .non))) H) : (V.non = .non ∧ Q (.bl (decide (x = .non))) H) := ⟨rfl, h⟩
theorem w_notN (h : Q (.bl (!decide (x = .non))) H) : (V.non = .non ∧ Q (.bl (!decide (x = .non))) H) := ⟨rfl, h⟩
theorem w_not {R : Bool → Hp → Prop} (h : c σ H fun b H1 => R (!b) H1) : tNot c σ H R := h
theorem w_and {R : Bool → Hp → Prop} (h : c σ H fun b H1 => if b = true then c' σ H1 R else R false H1) : tAnd c c' σ H R := h
theorem w_or {R : Bool → Hp → Prop} (h : c σ H fun b H1 => if b = true then R true H1 else c' σ H1 R) : tOr c c' σ H R := h
theorem w_andV (h : ta σ H fun x H1 => ∃ k, x = .bl k ∧ if k = true then tb σ H1 Q else Q (.bl false) H1) : tAndV ta tb σ H Q := h
theorem w_orV (h : ta σ H fun x H1 => ∃ k, x = .bl k ∧ if k = true then Q (.bl true) H1 else tb σ H1 Q) : tOrV ta tb σ H Q := h
theorem w_notV (h : ta σ H fun x H1 => ∃ k, x = .bl k ∧ Q (.bl (!k)) H1) : tNotV ta σ H Q := h
theorem w_if (h : c σ H fun b H1 => if b = true then ta σ H1 Q else tb σ H1 Q) : tIf c ta tb σ H Q := h
theorem w_chain (h : ta σ H fun x H1 => tb σ H1 fun y H2 => r x y H2 fun z H3 => ∃ k, z = .bl k ∧ (if k = true then tc σ H3 fun w' H4 => r' y w' H4 Q else Q (.bl false) H3)) : tChain r r' ta tb tc σ H Q := h
theorem w_cons {R : List V → Hp → Prop} (h : ta σ H fun x H1 => tr σ H1 fun xs H2 => R (x :: xs) H2) : tCons ta tr σ H R := h
theorem w_nil {R : List V → Hp → Prop} (h : R [] H) : tNil σ H R := h
theorem w_cb {r : List V → Hp → VK → Prop} (h : tl σ H fun vs H1 => r vs H1 Q) : tCB r tl σ H Q := h
theorem w_call {sp : Sp} {dvs : List V} {E : XK} (h : tl σ H fun vs H1 => sp (vs ++ dvs) H1 Q E) : tCall sp dvs E tl σ H Q := h
theorem w_tup (h : ∀ Q' : VK, Q' = Q → tl σ H fun xs H1 => xs.length ≤ sizeLine ∧ ∀ p, H1 p = none → Q' (.ref p) (upd H1 p (.tup xs))) : tTup tl σ H Q := h Q rfl
theorem w_lst (h : ∀ Q' : VK, Q' = Q → tl σ H fun xs H1 => xs.length ≤ sizeLine ∧ ∀ p, H1 p = none → Q' (.ref p) (upd H1 p (.lst xs))) : tLst tl σ H Q := h Q rfl
theorem w_new {o : HO} {n : Nat} {Q' : VK} (e : Q' = Q) (l : n ≤ sizeLine) (h : ∀ p H', H p = none → Same H H' → H' p = some o → Q (.ref p) H') : n ≤ sizeLine ∧ ∀ p, H p = none → Q' (.ref p) (upd H p o) := by
  subst e
  exact ⟨l, fun p hp => h p _ hp (same_upd hp) upd_same⟩
theorem w_newA {o : HO} {Q' : VK} (e : Q' = Q) (h : ∀ p H', H p = none → Same H H' → H' p = some o → Q (.ref p) H') : ∀ p, H p = none → Q' (.ref p) (upd H p o) := by
  subst e
  exact fun p hp => h p _ hp (same_upd hp) upd_same
theorem w_int1 {n : Int} {P : Int → Prop} {R : Prop} (h : P n) : (∃ i, [V.int n] = [.int i] ∧ P i) ∨ R := .inl ⟨n, rfl, h⟩
theorem w_int1b {b : Bool} {P : Bool → Prop} {R : Prop} (h : P b) : R ∨ ∃ k, [V.bl b] = [.bl k] ∧ P k := .inr ⟨b, rfl, h⟩
theorem w_lenL {K : PySem.W.Frag} {p : Addr} {xs : List V} {P : List V → Prop} (e : H p = some (.lst xs)) (h : P xs) : ∃ q ys, [V.ref p] = [.ref q] ∧ (SqL K H q ys ∨ SqT K H q ys) ∧ P ys := ⟨p, xs, rfl, .inl (.inl (.inl e)), h⟩
theorem w_lenT {K : PySem.W.Frag} {p : Addr} {xs : List V} {P : List V → Prop} (e : H p = some (.tup xs)) (h : P xs) : ∃ q ys, [V.ref p] = [.ref q] ∧ (SqL K H q ys ∨ SqT K H q ys) ∧ P ys := ⟨p, xs, rfl, .inr (.inl (.inl e)), h⟩
theorem w_one {R : Int → Prop} {n : Int} (h : R n) : ∃ i, [V.int n] = [.int i] ∧ R i := ⟨n, rfl, h⟩
theorem w_ixL {K : PySem.W.Frag} {p : Addr} {xs : List V} {n : Int} (e : H p = some (.lst xs)) (a : atI xs n = some v) (h : Q v H) : rIxL K (.ref p) (.int n) H Q := ⟨p, xs, n, v, rfl, rfl, .inl (.inl e), a, h⟩
theorem w_ixT {K : PySem.W.Frag} {p : Addr} {xs : List V} {n : Int} (e : H p = some (.tup xs)) (a : atI xs n = some v) (h : Q v H) : rIxT K (.ref p) (.int n) H Q := ⟨p, xs, n, v, rfl, rfl, .inl (.inl e), a, h⟩
theorem w_fld {K : PySem.W.Frag} {f : Str} (h : ta σ H fun x H1 => ∃ a C dx fs v, x = .ref a ∧ H1 a = some (.ins C dx fs) ∧ Cls K C ∧ NoAttr K C f ∧ fs.lookup f = some v ∧ Q v H1) : tFld K ta f σ H Q := h
theorem w_dget (h : ta σ H fun x H1 => tb σ H1 fun y H2 => ∃ a v, x = .ref a ∧ DGet H2 a y (some v) ∧ Q v H2) : tDGet ta tb σ H Q := h
theorem w_dg {d : Addr} {kvs : List (Key × V)} {z : Str} {P : V → Prop} (e : H d = some (.dK kvs)) (a : valV kvs (Sum.inr z) = some v) (h : P v) : ∃ a v, V.ref d = .ref a ∧ DGet H a (.str z) (some v) ∧ P v := ⟨d, v, rfl, a ▸ DGet.k (k := Sum.inr z) e, h⟩
theorem w_dput (h : tc σ H fun v H1 => ta σ H1 fun x H2 => tb σ H2 fun y H3 => ∃ a H4, x = .ref a ∧ DPut H3 a y v H4 ∧ D.nx σ H4) : sDPut ta tb tc D σ H := h
theorem w_dp {d : Addr} {kvs : List (Key × V)} {z : Str} {R : Hp → Prop} (e : H d = some (.dK kvs)) (l : kvs.length < sizeLine) (h : R (upd H d (.dK (putK kvs (Sum.inr z) v)))) : ∃ a H4, V.ref d = .ref a ∧ DPut H a (.str z) v H4 ∧ R H4 := ⟨d, _, rfl, DPut.k (k := Sum.inr z) e l, h⟩
theorem w_meth {C : Addr} {m : Str} {sp : Sp} {dvs : List V} {E : XK} (h : ta σ H fun x H1 => ∃ a dx fs, x = .ref a ∧ H1 a = some (.ins C dx fs) ∧ fs.lookup m = none ∧ tl σ H1 fun vs H2 => sp (x :: (vs ++ dvs)) H2 Q E) : tMeth C m sp dvs E ta tl σ H Q := h
theorem w_make {C : Addr} {sp : Sp} {dvs : List V} {E : XK} (h : ∀ Q' : VK, Q' = Q → tl σ H fun vs H1 => ∀ x dx, H1 x = none → H1 dx = none → dx ≠ x → sp (.ref x :: (vs ++ dvs)) (upd (upd H1 dx (.own x)) x (.ins C dx [])) (fun v H2 => v = .non ∧ Q' (.ref x) H2) E) : tMake C sp dvs E tl σ H Q := h Q rfl
theorem w_gtup {K : PySem.W.Frag} {n : Nat} {ts : TGs} {R : St → Hp → Prop} {a : Addr} {xs : List V} (e : H a = some (.tup xs)) (l : xs.length = n) (h : ts xs σ H R) : gTup K n ts (.ref a) σ H R := ⟨a, xs, rfl, .inl (.inl e), l, h⟩
theorem w_gcons {g : TG} {gs : TGs} {xs : List V} {R : St → Hp → Prop} (h : g v σ H fun σ' H' => gs xs σ' H' R) : gCons g gs (v :: xs) σ H R := ⟨v, xs, rfl, h⟩
theorem w_gnil {R : St → Hp → Prop} (h : R σ H) : gNil [] σ H R := ⟨rfl, h⟩
theorem w_ite {p A B : Prop} [Decidable p] (h1 : p → A) (h2 : ¬ p → B) : if decide p = true then A else B := by
  by_cases h : p
  · rw [decide_eq_true h]; exact iteT (h1 h)
  · rw [decide_eq_false h]; exact iteF (h2 h)
theorem w_iteN {p A B : Prop} [Decidable p] (h1 : ¬ p → A) (h2 : p → B) : if (!decide p) = true then A else B := by
  by_cases h : p
  · rw [decide_eq_true h]; exact iteF (h2 h)
  · rw [decide_eq_false h]; exact iteT (h1 h)
theorem w_iteB {b : Bool} {A B : Prop} (h1 : b = true → A) (h2 : b = false → B) : if b = true then A else B := by
  cases b with
  | true => exact iteT (h1 rfl)
  | false => exact iteF (h2 rfl)
end
/-! ### products of any size -/
def CMulA (i j : Int) : Prop := CMul i j ∨ CMulW i j
theorem CMulA.s1 {i j : Int} (h : -(2 ^ 64) < i) (h2 : i < 2 ^ 64) : CMulA i j := .inl (.inl ⟨h, h2⟩)
theorem CMulA.s2 {i j : Int} (h : -(2 ^ 64) < j) (h2 : j < 2 ^ 64) : CMulA i j := .inl (.inr ⟨h, h2⟩)
section
variable {X : Cx}
theorem op_mulA : OpR X (binaryOp .Mult) (rI CMulA fun i j => .int (i * j)) := by
  intro pins s σ H x y v u Q I rx ry h
  obtain ⟨i, j, ex, ey, hc, q⟩ := h
  rcases hc with hc | hc
  · exact op_mul pins s σ H x y v u Q I rx ry ⟨i, j, ex, ey, hc, q⟩
  · exact op_mulW pins s σ H x y v u Q I rx ry ⟨i, j, ex, ey, hc, q⟩
end
theorem V_int {i j : Int} : (V.int i = V.int j) = (i = j) := by simp
theorem V_str {i j : Str} : (V.str i = V.str j) = (i = j) := by simp
theorem V_bl {i j : Bool} : (V.bl i = V.bl j) = (i = j) := by simp
end DS
namespace DS
open PySem L2
theorem hu64_of {A : Around} {k : Nat} (hr : Room k A) : A.units + 64 < cLine := hr.units
theorem log_lt {m : Int} {a b : Nat} (h0 : 0 < m) (h : m < 2 ^ a) (hab : a ≤ b) : m.natAbs.log2 < b := by
  have h1 : m.natAbs < 2 ^ a := by
    have e : ((m.natAbs : Nat) : Int) = m := Int.natAbs_of_nonneg (by omega)
    have h2 : ((m.natAbs : Nat) : Int) < ((2 ^ a : Nat) : Int) := by
      rw [e]
      exact_mod_cast h
    exact Int.ofNat_lt.mp h2
  have ha : 0 < a := by
    rcases Nat.eq_zero_or_pos a with z | z
    · subst z
      have : m < 1 := h
      omega
    · exact z
  exact Nat.lt_of_lt_of_le (PySem.Flt.log2_lt_of ha h1) hab
end DS
namespace DS
open PySem L2
theorem dp_ints {K : PySem.W.Frag} {H : Hp} : ∀ ns : List Int, DpAll K H (ns.map V.int) (ns.map PyData.int)
  | [] => .nil
  | n :: r => .cons (.int n) (dp_ints r)
theorem lay_ints : ∀ ns : List Int, PyData.canLayAll0 (ns.map PyData.int) = true
  | [] => rfl
  | n :: r => by
    show (PyData.canLay0 (.int n) && PyData.canLayAll0 (r.map PyData.int)) = true
    rw [lay_ints r]
    rfl
theorem deep_ints : ∀ ns : List Int, PyData.depthAll (ns.map PyData.int) = 0
  | [] => rfl
  | n :: r => by
    show max (PyData.depth (.int n)) (PyData.depthAll (r.map PyData.int)) = 0
    rw [deep_ints r]
    rfl
theorem shaped_ints (ns : List Int) : SeqAt.shaped (.list (ns.map PyData.int)) = true := by
  show (PyData.canLayAll0 (ns.map PyData.int) && decide (PyData.depthAll (ns.map PyData.int) + 1 ≤ 64)) = true
  rw [lay_ints, deep_ints]
  rfl
theorem w_neNil {K : PySem.W.Frag} {H : Hp} {Q : VK} {p q : Addr} {ns : List Int} (hp : H p = some (.lst (ns.map V.int))) (hq : H q = some (.lst [])) (h : Q (.bl (!ns.isEmpty)) H) : rNeD K (.ref p) (.ref q) H Q := by
  refine ⟨.list (ns.map PyData.int), .list [], .lst (.inl (.inl hp)) (dp_ints ns), .lst (.inl (.inl hq)) .nil, shaped_ints ns, rfl, ?_⟩
  cases ns <;> exact h
theorem at_ints {ns : List Int} {i : Int} (h0 : 0 ≤ i) (h1 : i < ns.length) : ∃ z, atI (ns.map V.int) i = some (.int z) := by
  obtain ⟨j, rfl⟩ := Int.eq_ofNat_of_zero_le h0
  have hj : j < ns.length := by omega
  refine ⟨ns[j], atI_nat ?_⟩
  rw [List.getElem?_map, List.getElem?_eq_getElem hj]
  rfl
theorem at_any {xs : List V} {i : Int} (h0 : 0 ≤ i) (h1 : i < xs.length) : ∃ v, atI xs i = some v ∧ v ∈ xs := by
  obtain ⟨j, rfl⟩ := Int.eq_ofNat_of_zero_le h0
  have hj : j < xs.length := by omega
  exact ⟨xs[j], atI_nat (List.getElem?_eq_getElem hj), List.getElem_mem hj⟩
theorem iteFF {A B : Prop} (h : B) : if (false = true) then A else B := iteF h
end DS
namespace DS
open PySem L2
section
variable {σ : St} {H : Hp} {Q : VK} {D : Ends} {tb : TS} {g : TG} {c : TT} {wi : TI} {tl : TA}
theorem w_for (h : wi σ H fun J H1 => ∃ W : Nat → Nat → St → Hp → Prop, (∃ m, W 0 m σ H1) ∧ ∀ i m σ H, W i m σ H →
  (J.stop i H ∧ D.nx σ H) ∨ (J.go i H ∧ ∃ N : St → Hp → Prop, (∀ σ' H', N σ' H' → ∃ m', m' < m ∧ W (i + 1) m' σ' H') ∧ ∀ x H', J.yld i H x H' → g x σ H' fun σ2 H2 => tb { D with nx := N, ct := N, bk := D.nx } σ2 H2)) : tFor wi g tb D σ H := h
theorem w_irng1 {R : It → Hp → Prop} (h : tl σ H fun vs H1 => ∃ j : Int, vs = [.int j] ∧ -(2 ^ 62) ≤ j ∧ j < 2 ^ 62 ∧ R (Itr 0 j.toNat) H1) : iRng1 tl σ H R := h
theorem w_irng2 {R : It → Hp → Prop} (h : tl σ H fun vs H1 => ∃ i j : Int, vs = [.int i, .int j] ∧ (-(2 ^ 62) ≤ i ∧ i < 2 ^ 62 ∧ -(2 ^ 62) ≤ j ∧ j < 2 ^ 62) ∧ R (Itr i (j - i).toNat) H1) : iRng2 tl σ H R := h
theorem w_rng1 {j : Int} {P : Int → Prop} (h0 : -(2 ^ 62) ≤ j) (h1 : j < 2 ^ 62) (h : P j) : ∃ j' : Int, [V.int j] = [.int j'] ∧ -(2 ^ 62) ≤ j' ∧ j' < 2 ^ 62 ∧ P j' := ⟨j, rfl, h0, h1, h⟩
theorem w_rng2 {i j : Int} {P : Int → Int → Prop} (h0 : -(2 ^ 62) ≤ i ∧ i < 2 ^ 62 ∧ -(2 ^ 62) ≤ j ∧ j < 2 ^ 62) (h : P i j) : ∃ i' j' : Int, [V.int i, V.int j] = [.int i', .int j'] ∧ (-(2 ^ 62) ≤ i' ∧ i' < 2 ^ 62 ∧ -(2 ^ 62) ≤ j' ∧ j' < 2 ^ 62) ∧ P i' j' := ⟨i, j, rfl, h0, h⟩
/-- a while whose test is evaluated by a rule of one's own at each turn -/
theorem w_while (h : ∃ W : Nat → St → Hp → Prop, (∃ m, W m σ H) ∧ ∀ m σ H, W m σ H → c σ H fun b H1 => if b = true then ∃ N : St → Hp → Prop, (∀ σ' H', N σ' H' → ∃ m', m' < m ∧ W m' σ' H') ∧ tb { D with nx := N, ct := N, bk := D.nx } σ H1 else D.nx σ H1) : tWhile c tb D σ H := h
end
theorem pow_wide {a : Int} {n m : Nat} (h : a.natAbs < 2 ^ n) (hm : n ≤ m) : a.natAbs < 2 ^ m := Nat.lt_of_lt_of_le h (Nat.pow_le_pow_right (by decide) hm)
theorem CMulA.w {i j : Int} {a b : Nat} (ha : i.natAbs < 2 ^ a) (hb : j.natAbs < 2 ^ b) (h : a + b ≤ 999998) : CMulA i j :=
  .inr (wide_mul (a := a + 1) (b := b + 1) (pow_wide ha (by omega)) (pow_wide hb (by omega)) (by omega) (by omega) (by omega))
theorem ten_lt (n : Nat) : ((10 : Int) ^ n).natAbs < 2 ^ (4 * n + 1) := by
  rw [Int.natAbs_pow]
  show 10 ^ n < _
  have h : 10 ^ n ≤ 16 ^ n := Nat.pow_le_pow_left (by decide) n
  have e : (2 : Nat) ^ (4 * n + 1) = 16 ^ n * 2 := by rw [Nat.pow_succ, Nat.pow_mul]
  have p : 0 < 16 ^ n := Nat.pow_pos (by decide)
  omega
end DS
namespace DS
open PySem L2
section
variable {σ : St} {H : Hp} {Q : VK} {D : Ends} {tk tv te : TE} {trs : List (TE × TE)} {tl th : TO}
theorem w_disp (h : ∀ Q' : VK, Q' = Q → ∀ p H1, H p = none → Same H H1 → H1 p = some (.dK []) → tPairs trs σ H1 fun ps H2 => H2 p = some (.dK []) ∧ ∃ kvs : List (Key × V), ps = kvs.map (fun kv => (kV kv.1, kv.2)) ∧ kvs.length ≤ 15 ∧ Q' (.ref p) (upd H2 p (.dK (mergeK [] kvs)))) : tDisp trs σ H Q :=
  fun p hp => h Q rfl p _ hp (same_upd hp) upd_same
theorem w_pnil {R : List (V × V) → Hp → Prop} (h : R [] H) : tPairs [] σ H R := h
theorem w_pcons {R : List (V × V) → Hp → Prop} (h : tk σ H fun x H1 => tv σ H1 fun y H2 => tPairs trs σ H2 fun ps H3 => R ((x, y) :: ps) H3) : tPairs ((tk, tv) :: trs) σ H R := h
theorem w_dend {Q' : VK} {p : Addr} {ps : List (V × V)} (kvs : List (Key × V)) (e : Q' = Q) (h0 : H p = some (.dK [])) (e2 : ps = kvs.map (fun kv => (kV kv.1, kv.2))) (l : kvs.length ≤ 15)
    (h : ∀ H', Keep H H' → (∀ H0, Same H0 H → H0 p = none → Same H0 H') → H' p = some (.dK (mergeK [] kvs)) → Q (.ref p) H') :
    H p = some (.dK []) ∧ ∃ kvs : List (Key × V), ps = kvs.map (fun kv => (kV kv.1, kv.2)) ∧ kvs.length ≤ 15 ∧ Q' (.ref p) (upd H p (.dK (mergeK [] kvs))) := by
  subst e
  refine ⟨h0, kvs, e2, l, h _ (keep_dict h0) (fun H0 s n b o z => ?_) upd_same⟩
  rw [upd_ne (ne_of_none z n)]
  exact s b o z
theorem w_sl {r : V → Option Int → Option Int → Hp → VK → Prop} (h : te σ H fun x H1 => tl σ H1 fun l H2 => th σ H2 fun u H3 => r x l u H3 Q) : tSl r te tl th σ H Q := h
theorem w_nopart {R : Option Int → Hp → Prop} (h : R none H) : tNoPart σ H R := h
end
theorem w_list {K : PySem.W.Frag} {H : Hp} {p : Addr} {xs : List V} {P : List V → Prop} (e : SqL K H p xs ∨ SqT K H p xs) (h : P xs) : ∃ q ys, [V.ref p] = [.ref q] ∧ (SqL K H q ys ∨ SqT K H q ys) ∧ P ys := ⟨p, xs, rfl, e, h⟩
end DS
namespace DS
open PySem L2
theorem w_part {σ : St} {H : Hp} {te : TE} {R : Option Int → Hp → Prop} (h : te σ H fun x H1 => ∃ i, x = .int i ∧ R (some i) H1) : tPart te σ H R := h
theorem w_i {n : Int} {P : Int → Prop} (h : P n) : ∃ i, V.int n = .int i ∧ P i := ⟨n, rfl, h⟩
theorem w_slL {K : PySem.W.Frag} {H : Hp} {Q : VK} {p : Addr} {xs : List V} {lo hi : Option Int} (e : SqL K H p xs) (h : ∀ q H', H q = none → Same H H' → H' q = some (.lst (cutV xs lo hi)) → Q (.ref q) H') : rSlL K (.ref p) lo hi H Q :=
  ⟨p, xs, rfl, e, fun q hq => h q _ hq (same_upd hq) upd_same⟩
theorem w_listof {K : PySem.W.Frag} {H : Hp} {Q : VK} {p : Addr} {xs : List V} (e : SqL K H p xs ∨ SqT K H p xs) (h : ∀ q H', H q = none → Same H H' → H' q = some (.lst xs) → Q (.ref q) H') : ∃ p' ys, [V.ref p] = [.ref p'] ∧ (SqL K H p' ys ∨ SqT K H p' ys) ∧ ∀ l, H l = none → Q (.ref l) (upd H l (.lst ys)) :=
  ⟨p, xs, rfl, e, fun q hq => h q _ hq (same_upd hq) upd_same⟩
theorem cut_ints (ns : List Int) (lo hi : Option Int) : ∃ ms : List Int, cutV (ns.map V.int) lo hi = ms.map V.int ∧ ms.length ≤ ns.length := by
  unfold cutV
  refine ⟨(ns.drop (HT.sIx ns.length 0 lo)).take (HT.sIx ns.length ns.length hi - HT.sIx ns.length 0 lo), ?_, ?_⟩
  · rw [List.length_map, List.map_take, List.map_drop]
  · rw [List.length_take, List.length_drop]
    omega
end DS
namespace DS
open PySem L2 PyProof.Rows
/-- o.f = .. as a target -/
def gFld (K : PySem.W.Frag) (to : TE) (f : Str) : TG := fun v σ H Q => to σ H fun x H1 => ∃ a C dx fs, x = .ref a ∧ H1 a = some (.ins C dx fs) ∧ Cls K C ∧ NoAttr K C f ∧ fs.length < 1000 ∧ Q σ (upd H1 a (.ins C dx (putF f v fs)))
theorem pg_attr {X : Cx} {o : Expr} {f : Str} {pos : Pos} {to : TE} (ho : PE X o to)
    (ha : ∀ v, assign (.Attribute o f pos) X.env v = (do
      let ov ← holding [v] (eval o X.env)
      standAt pos.atName
      holding [v, ov] (setAttr ov f v)
      release [v, ov] []) := by intro _; rfl) : PG X (.Attribute o f pos) (gFld X.K to f) := by
  refine ⟨fun pins s σ H v u Q I r h => ?_⟩
  rw [ha]
  refine wpAny_bind (wpAny_holding (thn (ho.run pins s σ H _ I h) fun ov s1 ⟨x, H1, I1, r1, a, C, dx, fs, ex, ea, c, n, l, q1⟩ => ?_))
  subst ex
  obtain rfl : ov = Value.ref a := r1
  refine wpAny_bind (wpAny_standAt (wpAny_bind (wpAny_holding (setattr_ok I1 ea c n l r fun s3 I3 => ?_))))
  exact wpAny_release ⟨σ, _, I3, q1⟩
theorem w_gfld {K : PySem.W.Frag} {to : TE} {f : Str} {v : V} {σ : L2.St} {H : Hp} {Q : L2.St → Hp → Prop} (h : to σ H fun x H1 => ∃ a C dx fs, x = .ref a ∧ H1 a = some (.ins C dx fs) ∧ Cls K C ∧ NoAttr K C f ∧ fs.length < 1000 ∧ Q σ (upd H1 a (.ins C dx (putF f v fs)))) : gFld K to f v σ H Q := h
theorem w_sfld {K : PySem.W.Frag} {ta tv : TE} {f : Str} {D : Ends} {σ : L2.St} {H : Hp} (h : tv σ H fun y H1 => ta σ H1 fun x H2 => ∃ a C dx fs, x = .ref a ∧ H2 a = some (.ins C dx fs) ∧ Cls K C ∧ NoAttr K C f ∧ fs.length < 1000 ∧ D.nx σ (upd H2 a (.ins C dx (putF f y fs)))) : sFld K ta tv f D σ H := h
theorem w_isiB {K : PySem.W.Frag} {H : Hp} {x : V} {a b : String} {r : Bool} {P : Bool → Prop} (ty : TyX K H x (.type a)) (k : kitB a b = some r) (h : P r) :
    ∃ (x' c : V) (t u : Value) (b' : Bool), [x, V.ty b] = [x', c] ∧ ClsV c u ∧ TyX K H x' t ∧ PySem.W.kitOne K t u = some b' ∧ P b' := ⟨x, .ty b, _, _, r, rfl, .ty b, ty, kit_ty k, h⟩
theorem w_isi {K : PySem.W.Frag} {H : Hp} {x c : V} {t u : Value} {r : Bool} {P : Bool → Prop} (cl : ClsV c u) (ty : TyX K H x t) (k : PySem.W.kitOne K t u = some r) (h : P r) :
    ∃ (x' c' : V) (t u : Value) (b' : Bool), [x, c] = [x', c'] ∧ ClsV c' u ∧ TyX K H x' t ∧ PySem.W.kitOne K t u = some b' ∧ P b' := ⟨x, c, t, u, r, rfl, cl, ty, k, h⟩
theorem w_risi {K : PySem.W.Frag} {H : Hp} {Q : VK} {xs : List V} (h : ∃ (x c : V) (t u : Value) (b : Bool), xs = [x, c] ∧ ClsV c u ∧ TyX K H x t ∧ PySem.W.kitOne K t u = some b ∧ Q (.bl b) H) : rIsi K xs H Q := h
/-- is a value of the kind T -/
def IsI (K : PySem.W.Frag) (H : Hp) (v : V) (T : String) (r : Bool) : Prop := ∃ t, TyX K H v t ∧ PySem.W.kitOne K t (.type T) = some r
theorem w_isI {K : PySem.W.Frag} {H : Hp} {x : V} {b : String} {r : Bool} {P : Bool → Prop} (i : IsI K H x b r) (h : P r) :
    ∃ (x' c : V) (t u : Value) (b' : Bool), [x, V.ty b] = [x', c] ∧ ClsV c u ∧ TyX K H x' t ∧ PySem.W.kitOne K t u = some b' ∧ P b' := by
  obtain ⟨t, ty, k⟩ := i
  exact ⟨x, .ty b, t, _, r, rfl, .ty b, ty, k, h⟩
def IntLike (K : PySem.W.Frag) (H : Hp) (v : V) (b : Bool) : Prop := ∃ r1 r2, IsI K H v "int" r1 ∧ IsI K H v "bool" r2 ∧ b = (r1 && !r2)
theorem intLike_int {K : PySem.W.Frag} {H : Hp} {n : Int} : IntLike K H (.int n) true :=
  ⟨true, false, ⟨_, .base (.int n), kit_ty (by decide +kernel)⟩, ⟨_, .base (.int n), kit_ty (by decide +kernel)⟩, rfl⟩
end DS
namespace DS
open PySem L2
/-- a worth's own form -/
def nrm : Int → Nat → Int × Nat
  | u, 0 => (u, 0)
  | u, s + 1 => if u % 10 = 0 then nrm (u / 10) s else (u, s + 1)
theorem nrm_zero : ∀ s : Nat, nrm 0 s = (0, 0)
  | 0 => rfl
  | s + 1 => by
    show (if (0 : Int) % 10 = 0 then nrm (0 / 10) s else (0, s + 1)) = (0, 0)
    rw [if_pos (by decide)]
    exact nrm_zero s
theorem nrm_pos {u : Int} {s : Nat} (h : u % 10 = 0) : nrm u (s + 1) = nrm (u / 10) s := by
  show (if u % 10 = 0 then nrm (u / 10) s else (u, s + 1)) = _
  rw [if_pos h]
theorem nrm_neg {u : Int} {s : Nat} (h : ¬ u % 10 = 0) : nrm u s = (u, s) := by
  cases s with
  | zero => rfl
  | succ s =>
    show (if u % 10 = 0 then nrm (u / 10) s else (u, s + 1)) = _
    rw [if_neg h]
def wf (u : Int) (s : Nat) : List (Str × V) := [("units", .int (nrm u s).1), ("scale", .int ((nrm u s).2 : Int))]
theorem wf_units (u : Int) (s : Nat) : (wf u s).lookup ("units" : Str) = some (.int (nrm u s).1) := by
  unfold wf
  simp
theorem us_ne : ¬ (("scale" : Str) = "units") := by decide +kernel
theorem su_ne : ¬ (("units" : Str) = "scale") := by decide +kernel
theorem wf_scale (u : Int) (s : Nat) : (wf u s).lookup ("scale" : Str) = some (.int ((nrm u s).2 : Int)) := by
  unfold wf
  rw [List.lookup_cons, beq_eq_false_iff_ne.mpr us_ne]
  simp
theorem wf_put (a b : Int) : putF "scale" (.int b) (putF "units" (.int a) []) = ([("units", .int a), ("scale", .int b)] : List (Str × V)) := by
  show (if ("units" : Str) = "scale" then [(("units" : Str), V.int b)] else (("units" : Str), V.int a) :: putF "scale" (V.int b) []) = _
  rw [if_neg su_ne]
  rfl
def WAt (C : Addr) (H : Hp) (p : Addr) (u : Int) (s : Nat) : Prop := ∃ dx, H p = some (.ins C dx (wf u s))
theorem WAt.same {C : Addr} {H H' : Hp} {p : Addr} {u : Int} {s : Nat} (e : Same H H') (h : WAt C H p u s) : WAt C H' p u s := by
  obtain ⟨dx, h⟩ := h
  exact ⟨dx, e _ _ h⟩
theorem WAt.keep {C : Addr} {H H' : Hp} {p : Addr} {u : Int} {s : Nat} (e : Keep H H') (h : WAt C H p u s) : WAt C H' p u s := by
  obtain ⟨dx, h⟩ := h
  exact ⟨dx, e _ _ h rfl⟩
/-- __init__ of a worth -/
def sp_winit (C : Addr) : Sp := fun vs H Q _ => ∃ (p dx : Addr) (u : Int) (s : Nat), vs = [.ref p, .int u, .int s] ∧ H p = some (.ins C dx []) ∧
  ∀ H', H' p = some (.ins C dx (wf u s)) → (∀ b o, b ≠ p → H b = some o → H' b = some o) → Q .non H'
theorem make_worth {C : Addr} {H : Hp} {Q Q' : VK} {E : XK} {u : Int} {s : Nat} (e : Q' = Q) (h : ∀ x H', H x = none → Same H H' → WAt C H' x u s → Q (.ref x) H') :
    ∀ x dx, H x = none → H dx = none → dx ≠ x → sp_winit C (.ref x :: ([.int u, .int (s : Int)] ++ [])) (upd (upd H dx (.own x)) x (.ins C dx [])) (fun v H2 => v = .non ∧ Q' (.ref x) H2) E := by
  subst e
  intro x dx nx nd ne
  refine ⟨x, dx, u, s, rfl, upd_same, fun H' e k => ⟨rfl, h x H' nx (fun b o z => ?_) ⟨dx, e⟩⟩⟩
  have n1 : b ≠ x := ne_of_none z nx
  refine k b o n1 ?_
  rw [upd_ne n1, upd_ne (ne_of_none z nd)]
  exact z
theorem w_flds {K : PySem.W.Frag} {H : Hp} {p C dx : Addr} {fs : List (Str × V)} {f : Str} {v : V} {P : V → Prop} (e : H p = some (.ins C dx fs)) (cl : Cls K C) (n : NoAttr K C f) (l : fs.lookup f = some v) (h : P v) :
    ∃ a C dx fs v, V.ref p = .ref a ∧ H a = some (.ins C dx fs) ∧ Cls K C ∧ NoAttr K C f ∧ fs.lookup f = some v ∧ P v := ⟨p, C, dx, fs, v, rfl, e, cl, n, l, h⟩
end DS
namespace DS
open PySem L2 PyProof.Rows
/-- d.get(y, z), d a written dict -/
def tKGet2 (K : PySem.W.Frag) (d : Addr) (td ty tx : TE) : TE := fun σ H Q => td σ H fun x H1 => x = .ref d ∧ ty σ H1 fun y H2 => tx σ H2 fun z H3 => ∃ (k : Str) (r : Option Value), y = .str k ∧ PySem.W.nsIn K d k = some r ∧
  ((r = none ∧ Q z H3) ∨ ∃ u0 v0, r = some u0 ∧ RelV v0 u0 ∧ Q v0 H3)
theorem pe_kget2 {X : Cx} {d : Addr} {es : Array DictEntry} {n : Nat} {o e f : Expr} {apos cpos : Pos} {td ty tx : TE} (D : KDict X.K X.w d es n) (ho : PE X o td) (he : PE X e ty) (hf : PE X f tx) (m : M2 X o "get" apos e f cpos) :
    PE X (.Call (.Attribute o "get" apos) [e, f] [] cpos) (tKGet2 X.K d td ty tx) := by
  refine ⟨fun pins s σ H Q I h => ?_⟩
  refine wpAny_Call_method m.base m.few m.line PySem.F.plainAttrs_dict PySem.F.slot_dict_get PySem.F.type_dict_get (thn (ho.run pins s σ H _ I h) fun u s1 ⟨x, H1, I1, rx, ex, q1⟩ => ?_)
  subst ex
  obtain rfl : u = Value.ref d := rx
  refine ⟨kd_type D I1, fun b q => ?_, ?_⟩
  · cases q
    exact ⟨_, I1.kIn _ _ D.at_, rfl⟩
  rw [m.trees]
  refine Calls.callWith_builtin rfl (Calls.evalArgs_plain (Calls.spliced_cons (thn (he.run pins s1 σ H1 _ I1 q1) fun iv s2 ⟨y, H2, I2, ry, q2⟩ =>
    Calls.spliced_cons (thn (hf.run pins s2 σ H2 _ I2 q2) fun fv s3 ⟨z, H3, I3, rz, k, r, ey, g, q3⟩ => Calls.spliced_nil ?_))))
  subst ey
  obtain ⟨t, rfl⟩ := (show ∃ t, iv = Value.str k t from ry)
  have hm := PySem.W.mapOf_K (prog := X.prog) (w := X.w) I3.kIn D.at_ D.lit
  refine call_meetsIn PySem.F.slot_dict_get hm.typeIs PySem.F.entry_dict_get (PySem.F.args_dict_get_3 _ _ _) (meets_dict_get_default (strKind X.prog X.w) d (PySem.strKind_is X.prog X.w k t) D.low fv) ⟨_, hm, ?_⟩
  rw [PySem.W.find_K D.at_ g]
  rcases q3 with ⟨er, q3⟩ | ⟨u0, v0, er, r0, q3⟩
  · subst er
    exact ⟨z, H3, I3.tok _, rz, q3⟩
  · subst er
    exact ⟨v0, H3, I3.tok _, r0, q3⟩
end DS
namespace DS
open PySem L2 PyProof.Rows
/-- -x by the own __neg__ -/
def rNegOwn (C : Addr) (sp : Sp) (E : XK) : V → Hp → VK → Prop := fun x H Q => ∃ a dx fs, x = .ref a ∧ H a = some (.ins C dx fs) ∧ sp [.ref a] H Q E
theorem un_negOwn {X : Cx} {CX : CXT} {k : Nat} {f C : Addr} {fd : FuncData} {ps : List Str} {sp : Sp} {E : XK} (hm : Meth X.K C "__neg__" f) (F : FnOk X.prog X.w X.K X.mg X.base CX k f fd ps sp) (hr : Room k X.A) (hb : Binds X.K fd ps []) (hx : Passes CX X E) :
    UnR X (unaryOp .USub) (rNegOwn C sp E) := by
  intro pins s σ H x u Q I rx h
  obtain ⟨a, dx, fs, rfl, ea, q⟩ := h
  obtain rfl : u = Value.ref a := rx
  obtain ⟨mA, O, _⟩ := ins_get I.hok ea
  obtain ⟨od, J, _⟩ := O.look
  unfold unaryOp
  refine wpAny_holding ?_
  exact wpAny_bind (PySem.W.special_fn I.kIn J hm.at_ (beq_iff_eq.mp hm.fn) (wpAny_mono (run_fn (us := [.ref a]) (vs := [.ref a]) (dvs := []) (ds := []) F hr hb .nil hx I (.cons rfl .nil) q) (fun _ _ z => wpAny_pure z) fun _ _ z => z))
end DS
namespace DS
open PySem L2
/-- a loop over a tuple turn by turn -/
def unrollT (K : PySem.W.Frag) (a : Addr) (all : List V) (g : TG) (tb : TS) (D : Ends) : List V → St → Hp → Prop
  | [], σ, H => D.nx σ H
  | x :: xs, σ, H => g x σ H fun σ2 H2 => tb { D with nx := fun σ' H' => SqT K H' a all ∧ unrollT K a all g tb D xs σ' H', ct := fun σ' H' => SqT K H' a all ∧ unrollT K a all g tb D xs σ' H', bk := D.nx } σ2 H2
def unrollL (K : PySem.W.Frag) (a : Addr) (all : List V) (g : TG) (tb : TS) (D : Ends) : List V → St → Hp → Prop
  | [], σ, H => D.nx σ H
  | x :: xs, σ, H => g x σ H fun σ2 H2 => tb { D with nx := fun σ' H' => SqL K H' a all ∧ unrollL K a all g tb D xs σ' H', ct := fun σ' H' => SqL K H' a all ∧ unrollL K a all g tb D xs σ' H', bk := D.nx } σ2 H2
section
variable {K : PySem.W.Frag} {a : Addr} {all : List V} {g : TG} {tb : TS} {D : Ends} {σ : St} {H : Hp}
theorem w_unT0 (h : D.nx σ H) : unrollT K a all g tb D [] σ H := h
theorem w_unT {x : V} {xs : List V} (h : g x σ H fun σ2 H2 => tb { D with nx := fun σ' H' => SqT K H' a all ∧ unrollT K a all g tb D xs σ' H', ct := fun σ' H' => SqT K H' a all ∧ unrollT K a all g tb D xs σ' H', bk := D.nx } σ2 H2) : unrollT K a all g tb D (x :: xs) σ H := h
theorem w_unL0 (h : D.nx σ H) : unrollL K a all g tb D [] σ H := h
theorem w_unL {x : V} {xs : List V} (h : g x σ H fun σ2 H2 => tb { D with nx := fun σ' H' => SqL K H' a all ∧ unrollL K a all g tb D xs σ' H', ct := fun σ' H' => SqL K H' a all ∧ unrollL K a all g tb D xs σ' H', bk := D.nx } σ2 H2) : unrollL K a all g tb D (x :: xs) σ H := h
theorem for_unT (h : SqT K H a all) (hu : unrollT K a all g tb D all σ H) :
    ∃ W : Nat → Nat → St → Hp → Prop, (∃ m, W 0 m σ H) ∧ ∀ i m σ H, W i m σ H →
      ((Itt K a).stop i H ∧ D.nx σ H) ∨ ((Itt K a).go i H ∧ ∃ N : St → Hp → Prop, (∀ σ' H', N σ' H' → ∃ m', m' < m ∧ W (i + 1) m' σ' H') ∧ ∀ x H', (Itt K a).yld i H x H' → g x σ H' fun σ2 H2 => tb { D with nx := N, ct := N, bk := D.nx } σ2 H2) := by
  refine ⟨fun i m σ H => m + i = all.length ∧ SqT K H a all ∧ unrollT K a all g tb D (all.drop i) σ H, ⟨all.length, rfl, h, hu⟩, ?_⟩
  rintro i m σ H ⟨hm, hs, hu⟩
  by_cases hi : i < all.length
  · rw [List.drop_eq_getElem_cons hi] at hu
    refine .inr ⟨⟨all, all[i], hs, by simp [hi]⟩, fun σ' H' => SqT K H' a all ∧ unrollT K a all g tb D (all.drop (i + 1)) σ' H', fun σ' H' q => ⟨m - 1, by omega, by omega, q.1, q.2⟩, fun x H' y => ?_⟩
    obtain ⟨e, y⟩ := y
    subst e
    have ex : all[i] = x := by
      have := y all hs
      rw [List.getElem?_eq_getElem hi] at this
      exact Option.some.inj this
    rw [← ex]
    exact hu
  · have e : all.drop i = [] := List.drop_eq_nil_of_le (by omega)
    rw [e] at hu
    exact .inl ⟨⟨all, hs, by omega⟩, hu⟩
theorem for_unL (h : SqL K H a all) (hu : unrollL K a all g tb D all σ H) :
    ∃ W : Nat → Nat → St → Hp → Prop, (∃ m, W 0 m σ H) ∧ ∀ i m σ H, W i m σ H →
      ((Itl K a).stop i H ∧ D.nx σ H) ∨ ((Itl K a).go i H ∧ ∃ N : St → Hp → Prop, (∀ σ' H', N σ' H' → ∃ m', m' < m ∧ W (i + 1) m' σ' H') ∧ ∀ x H', (Itl K a).yld i H x H' → g x σ H' fun σ2 H2 => tb { D with nx := N, ct := N, bk := D.nx } σ2 H2) := by
  refine ⟨fun i m σ H => m + i = all.length ∧ SqL K H a all ∧ unrollL K a all g tb D (all.drop i) σ H, ⟨all.length, rfl, h, hu⟩, ?_⟩
  rintro i m σ H ⟨hm, hs, hu⟩
  by_cases hi : i < all.length
  · rw [List.drop_eq_getElem_cons hi] at hu
    refine .inr ⟨⟨all, all[i], hs, by simp [hi]⟩, fun σ' H' => SqL K H' a all ∧ unrollL K a all g tb D (all.drop (i + 1)) σ' H', fun σ' H' q => ⟨m - 1, by omega, by omega, q.1, q.2⟩, fun x H' y => ?_⟩
    obtain ⟨e, y⟩ := y
    subst e
    have ex : all[i] = x := by
      have := y all hs
      rw [List.getElem?_eq_getElem hi] at this
      exact Option.some.inj this
    rw [← ex]
    exact hu
  · have e : all.drop i = [] := List.drop_eq_nil_of_le (by omega)
    rw [e] at hu
    exact .inl ⟨⟨all, hs, by omega⟩, hu⟩
theorem w_iTup {tl : TE} {R : It → Hp → Prop} (h : tl σ H fun x H1 => ∃ a, x = .ref a ∧ (∃ xs, SqT K H1 a xs) ∧ R (Itt K a) H1) : iTup K tl σ H R := h
theorem w_iList {tl : TE} {R : It → Hp → Prop} (h : tl σ H fun x H1 => ∃ a, x = .ref a ∧ (∃ xs, SqL K H1 a xs) ∧ R (Itl K a) H1) : iList K tl σ H R := h
end
theorem bits_le {i : Int} {n : Nat} (h : i.natAbs < 2 ^ n) (hn : 0 < n) : Builtin.Int.intBits i ≤ n := by
  unfold Builtin.Int.intBits
  have := PySem.Flt.log2_lt_of hn h
  split <;> omega
theorem divp_of {i j : Int} (hj : 0 < j) (h : i.natAbs < 2 ^ 4000) : CDivP i j := divp_ok hj (Nat.le_trans (bits_le h (by decide)) (Nat.le_add_left _ _))
theorem in_strs {x : Str} {l : List Str} (h : x ∈ l) : inV (.str x) (l.map V.str) = true := by
  unfold inV
  rw [List.any_eq_true]
  exact ⟨.str x, List.mem_map.mpr ⟨x, h, rfl⟩, by simp [eqV]⟩
theorem flat_strs (l : List Str) : (l.map V.str).all flatV = true := by
  rw [List.all_eq_true]
  intro v hv
  obtain ⟨x, _, rfl⟩ := List.mem_map.mp hv
  rfl
end DS
namespace DS
open PySem L2
theorem nrm_idem : ∀ (s : Nat) (u : Int), nrm (nrm u s).1 (nrm u s).2 = nrm u s
  | 0, u => rfl
  | s + 1, u => by
    by_cases h : u % 10 = 0
    · rw [nrm_pos h]
      exact nrm_idem s (u / 10)
    · rw [nrm_neg h]
      exact nrm_neg h
theorem nrm_minus : ∀ (s : Nat) (u : Int), nrm (-u) s = (-(nrm u s).1, (nrm u s).2)
  | 0, u => rfl
  | s + 1, u => by
    by_cases h : u % 10 = 0
    · have h2 : (-u) % 10 = 0 := by omega
      have h3 : (-u) / 10 = -(u / 10) := by omega
      rw [nrm_pos h, nrm_pos h2, h3]
      exact nrm_minus s (u / 10)
    · have h2 : ¬ (-u) % 10 = 0 := by omega
      rw [nrm_neg h, nrm_neg h2]
theorem nrm_le : ∀ (s : Nat) (u : Int), (nrm u s).2 ≤ s
  | 0, u => Nat.le_refl _
  | s + 1, u => by
    by_cases h : u % 10 = 0
    · rw [nrm_pos h]
      exact Nat.le_succ_of_le (nrm_le s (u / 10))
    · rw [nrm_neg h]
      exact Nat.le_refl _
theorem nrm_val : ∀ (s : Nat) (u : Int), u = (nrm u s).1 * 10 ^ (s - (nrm u s).2)
  | 0, u => by
    show u = u * 10 ^ (0 - 0)
    rw [Nat.sub_self, Int.pow_zero, Int.mul_one]
  | s + 1, u => by
    by_cases h : u % 10 = 0
    · rw [nrm_pos h]
      have l := nrm_le s (u / 10)
      have e := nrm_val s (u / 10)
      rw [Nat.succ_sub l, Int.pow_succ, ← Int.mul_assoc, ← e]
      omega
    · rw [nrm_neg h, Nat.sub_self, Int.pow_zero, Int.mul_one]
theorem nrm_last : ∀ (s : Nat) (u : Int), (nrm u s).2 = 0 ∨ ¬ (nrm u s).1 % 10 = 0
  | 0, u => .inl rfl
  | s + 1, u => by
    by_cases h : u % 10 = 0
    · rw [nrm_pos h]
      exact nrm_last s (u / 10)
    · rw [nrm_neg h]
      exact .inr h
theorem nrm_abs : ∀ (s : Nat) (u : Int), (nrm u s).1.natAbs ≤ u.natAbs
  | 0, u => Nat.le_refl _
  | s + 1, u => by
    by_cases h : u % 10 = 0
    · rw [nrm_pos h]
      have := nrm_abs s (u / 10)
      omega
    · rw [nrm_neg h]
      exact Nat.le_refl _
theorem nrm_mul : ∀ (k s : Nat) (u : Int), nrm (u * 10 ^ k) (s + k) = nrm u s
  | 0, s, u => by rw [Int.pow_zero, Int.mul_one]; rfl
  | k + 1, s, u => by
    have e : u * 10 ^ (k + 1) = u * 10 ^ k * 10 := by rw [Int.pow_succ, Int.mul_assoc]
    rw [e]
    have h : (u * 10 ^ k * 10) % 10 = 0 := by omega
    have h2 : (u * 10 ^ k * 10) / 10 = u * 10 ^ k := by omega
    show nrm (u * 10 ^ k * 10) ((s + k) + 1) = nrm u s
    rw [nrm_pos h, h2]
    exact nrm_mul k s u
theorem wf_nrm (u : Int) (s : Nat) : wf (nrm u s).1 (nrm u s).2 = wf u s := by unfold wf; rw [nrm_idem]
theorem wf_minus (u : Int) (s : Nat) : wf (-(nrm u s).1) (nrm u s).2 = wf (-u) s := by unfold wf; rw [nrm_minus, nrm_minus, nrm_idem]
theorem w_eqT2 {K : PySem.W.Frag} {H : Hp} {Q : VK} {p q : Addr} {a b c d : Int} (hp : H p = some (.tup [.int a, .int b])) (hq : H q = some (.tup [.int c, .int d])) (h : Q (.bl (a == c && (b == d && true))) H) : rEqD K (.ref p) (.ref q) H Q :=
  ⟨.tuple [.int a, .int b], .tuple [.int c, .int d], .tup (.inl (.inl hp)) (.cons (.int _) (.cons (.int _) .nil)), .tup (.inl (.inl hq)) (.cons (.int _) (.cons (.int _) .nil)), rfl, rfl, h⟩
def R_W (C : Addr) (a b : Addr) (H : Hp) : Prop := ∃ u s u' s', WAt C H a u s ∧ WAt C H b u' s' ∧ nrm u s = nrm u' s'
theorem R_W.mon {C : Addr} : ∀ a b H H', Ext H H' → R_W C a b H → R_W C a b H' := fun a b H H' e ⟨u, s, u', s', h1, h2, h3⟩ => ⟨u, s, u', s', h1.same e, h2.same e, h3⟩
end DS
namespace DS
open PySem L2
theorem wf_no (u : Int) (s : Nat) {m : Str} (h1 : ¬ m = "units") (h2 : ¬ m = "scale") : (wf u s).lookup m = none := by
  unfold wf
  rw [List.lookup_cons, beq_eq_false_iff_ne.mpr h1, List.lookup_cons, beq_eq_false_iff_ne.mpr h2]
  rfl
end DS
namespace DS
open PySem L2
theorem inV_strs (x : Str) : ∀ l : List Str, inV (.str x) (l.map V.str) = decide (x ∈ l)
  | [] => rfl
  | y :: r => by
    show (eqV (.str y) (.str x) || inV (.str x) (r.map V.str)) = decide (x ∈ y :: r)
    rw [inV_strs x r]
    show ((y == x) || decide (x ∈ r)) = decide (x ∈ y :: r)
    by_cases h : x = y
    · subst h
      simp
    · have h2 : ¬ y = x := fun e => h e.symm
      simp [h, h2]
theorem w_inL {K : PySem.W.Frag} {H : Hp} {Q : VK} {p : Addr} {x : Str} {l : List Str} (e : H p = some (.lst (l.map V.str))) (h : Q (.bl (decide (x ∈ l))) H) : rIn K false (.str x) (.ref p) H Q := by
  refine ⟨p, l.map V.str, rfl, .inl (.inl (.inl e)), rfl, flat_strs l, ?_⟩
  rw [if_neg Bool.false_ne_true, inV_strs]
  exact h
theorem ediv_abs (n d : Int) : (n / d).natAbs ≤ n.natAbs := Int.natAbs_ediv_le_natAbs n d
end DS
namespace DS
open PySem L2
theorem w_lc {wi : TI} {g : TG} {tt : TT} {te : TE} {vs : List Nat} {σ : St} {H : Hp} {Q : VK} (h : wi σ H fun J H1 => ∀ D, H1 D = none → ∃ W : Nat → Nat → Hp → Prop, (∃ m, W 0 m (upd H1 D (.lst []))) ∧ ∀ i m H, W i m H →
  (J.stop i H ∧ Q (.ref D) H) ∨ (J.go i H ∧ ∃ Nx : Hp → Prop, (∀ H', Nx H' → ∃ m', m' < m ∧ W (i + 1) m' H') ∧ ∀ x H', J.yld i H x H' → g x (wipe σ vs) H' fun σ2 H2 => wipe σ2 vs = wipe σ vs ∧ tt σ2 H2 fun b H3 =>
    if b = true then te σ2 H3 fun y H4 => ∃ acc, H4 D = some (.lst acc) ∧ acc.length < sizeLine ∧ Nx (upd H4 D (.lst (acc ++ [y]))) else Nx H3)) : tLc wi g tt te vs σ H Q := h
theorem w_yes {σ : St} {H : Hp} {R : Bool → Hp → Prop} (h : R true H) : tYes σ H R := h
end DS
namespace K05
open PySem L2 DS
def waysL : List Str := ["floor", "ceiling", "cut", "away", "halfup", "halfdown", "halfeven", "halfaway", "halfcut"]
def mirF (x : Str) : Str := if x = "floor" then "ceiling" else if x = "ceiling" then "floor" else if x = "halfup" then "halfdown" else if x = "halfdown" then "halfup" else x
def top (i : Nat) : Stmt := PySem.Challenge.pw_dealtsums_k05_whole_worths_rounded_to_on.main.body.getD i (.Pass ⟨0, 0, 0, 0⟩)
abbrev s_is_integer : Stmt := top 5
abbrev N_is_integer : List Str := ["value"]
theorem sc_is_integer : FnScope ["value"] ["value"] (defScope s_is_integer) := ⟨rfl, rfl, rfl, by decide +kernel, rfl, by decide +kernel, by decide +kernel⟩
abbrev s_is_whole : Stmt := top 6
abbrev N_is_whole : List Str := ["value"]
theorem sc_is_whole : FnScope ["value"] ["value"] (defScope s_is_whole) := ⟨rfl, rfl, rfl, by decide +kernel, rfl, by decide +kernel, by decide +kernel⟩
abbrev s_need_integer : Stmt := top 7
abbrev N_need_integer : List Str := ["value"]
theorem sc_need_integer : FnScope ["value"] ["value"] (defScope s_need_integer) := ⟨rfl, rfl, rfl, by decide +kernel, rfl, by decide +kernel, by decide +kernel⟩
abbrev s_need_whole : Stmt := top 8
abbrev N_need_whole : List Str := ["value"]
theorem sc_need_whole : FnScope ["value"] ["value"] (defScope s_need_whole) := ⟨rfl, rfl, rfl, by decide +kernel, rfl, by decide +kernel, by decide +kernel⟩
abbrev s_ten_to : Stmt := top 10
abbrev N_ten_to : List Str := ["number", "made", "base"]
theorem sc_ten_to : FnScope ["number", "made", "base"] ["number"] (defScope s_ten_to) := ⟨rfl, rfl, rfl, by decide +kernel, rfl, by decide +kernel, by decide +kernel⟩
abbrev s_lowered : Stmt := top 12
abbrev N_lowered : List Str := ["units", "scale"]
theorem sc_lowered : FnScope ["units", "scale"] ["units", "scale"] (defScope s_lowered) := ⟨rfl, rfl, rfl, by decide +kernel, rfl, by decide +kernel, by decide +kernel⟩
abbrev s_Worth___init__ : Stmt := inClass (top 14) 0
abbrev N_Worth___init__ : List Str := ["self", "units", "scale"]
theorem sc_Worth___init__ : FnScope ["self", "units", "scale"] ["self", "units", "scale"] (defScope s_Worth___init__) := ⟨rfl, rfl, rfl, by decide +kernel, rfl, by decide +kernel, by decide +kernel⟩
abbrev s_Worth___eq__ : Stmt := inClass (top 14) 1
abbrev N_Worth___eq__ : List Str := ["self", "other"]
theorem sc_Worth___eq__ : FnScope ["self", "other"] ["self", "other"] (defScope s_Worth___eq__) := ⟨rfl, rfl, rfl, by decide +kernel, rfl, by decide +kernel, by decide +kernel⟩
abbrev s_Worth___neg__ : Stmt := inClass (top 14) 8
abbrev N_Worth___neg__ : List Str := ["self"]
theorem sc_Worth___neg__ : FnScope ["self"] ["self"] (defScope s_Worth___neg__) := ⟨rfl, rfl, rfl, by decide +kernel, rfl, by decide +kernel, by decide +kernel⟩
abbrev s_Worth_units_at : Stmt := inClass (top 14) 12
abbrev N_Worth_units_at : List Str := ["self", "scale"]
theorem sc_Worth_units_at : FnScope ["self", "scale"] ["self", "scale"] (defScope s_Worth_units_at) := ⟨rfl, rfl, rfl, by decide +kernel, rfl, by decide +kernel, by decide +kernel⟩
abbrev s_need_worth : Stmt := top 15
abbrev N_need_worth : List Str := ["value"]
theorem sc_need_worth : FnScope ["value"] ["value"] (defScope s_need_worth) := ⟨rfl, rfl, rfl, by decide +kernel, rfl, by decide +kernel, by decide +kernel⟩
abbrev s_need_way : Stmt := top 22
abbrev N_need_way : List Str := ["value"]
theorem sc_need_way : FnScope ["value"] ["value"] (defScope s_need_way) := ⟨rfl, rfl, rfl, by decide +kernel, rfl, by decide +kernel, by decide +kernel⟩
abbrev s_mirrored : Stmt := top 23
abbrev N_mirrored : List Str := ["way"]
theorem sc_mirrored : FnScope ["way"] ["way"] (defScope s_mirrored) := ⟨rfl, rfl, rfl, by decide +kernel, rfl, by decide +kernel, by decide +kernel⟩
abbrev s_lift : Stmt := top 24
abbrev N_lift : List Str := ["way", "part", "negative", "odd", "ties"]
theorem sc_lift : FnScope ["way", "part", "negative", "odd", "ties"] ["way", "part", "negative", "odd"] (defScope s_lift) := ⟨rfl, rfl, rfl, by decide +kernel, rfl, by decide +kernel, by decide +kernel⟩
abbrev s_part_of : Stmt := top 25
abbrev N_part_of : List Str := ["left", "divisor"]
theorem sc_part_of : FnScope ["left", "divisor"] ["left", "divisor"] (defScope s_part_of) := ⟨rfl, rfl, rfl, by decide +kernel, rfl, by decide +kernel, by decide +kernel⟩
abbrev s_divided_by : Stmt := top 26
abbrev N_divided_by : List Str := ["number", "divisor", "way", "low", "left"]
theorem sc_divided_by : FnScope ["number", "divisor", "way", "low", "left"] ["number", "divisor", "way"] (defScope s_divided_by) := ⟨rfl, rfl, rfl, by decide +kernel, rfl, by decide +kernel, by decide +kernel⟩
abbrev s_rounded : Stmt := top 27
abbrev N_rounded : List Str := ["worth", "scale", "way"]
theorem sc_rounded : FnScope ["worth", "scale", "way"] ["worth", "scale", "way"] (defScope s_rounded) := ⟨rfl, rfl, rfl, by decide +kernel, rfl, by decide +kernel, by decide +kernel⟩
abbrev s_reach_below : Stmt := top 28
abbrev N_reach_below : List Str := ["way", "units", "wide", "half", "part", "most"]
theorem sc_reach_below : FnScope ["way", "units", "wide", "half", "part", "most"] ["way", "units", "wide"] (defScope s_reach_below) := ⟨rfl, rfl, rfl, by decide +kernel, rfl, by decide +kernel, by decide +kernel⟩
abbrev s_reach_above : Stmt := top 29
abbrev N_reach_above : List Str := ["way", "units", "wide", "half", "part", "most"]
theorem sc_reach_above : FnScope ["way", "units", "wide", "half", "part", "most"] ["way", "units", "wide"] (defScope s_reach_above) := ⟨rfl, rfl, rfl, by decide +kernel, rfl, by decide +kernel, by decide +kernel⟩
abbrev s_shown_as : Stmt := top 30
abbrev N_shown_as : List Str := ["worth", "scale", "places", "way", "units", "wide", "low", "high"]
theorem sc_shown_as : FnScope ["worth", "scale", "places", "way", "units", "wide", "low", "high"] ["worth", "scale", "places", "way"] (defScope s_shown_as) := ⟨rfl, rfl, rfl, by decide +kernel, rfl, by decide +kernel, by decide +kernel⟩
abbrev s__law_pen : Stmt := top 32
abbrev N__law_pen : List Str := ["_law_script"]
theorem sc__law_pen : FnScope ["_law_script"] ["_law_script"] (defScope s__law_pen) := ⟨rfl, rfl, rfl, by decide +kernel, rfl, by decide +kernel, by decide +kernel⟩
abbrev s__law_draw : Stmt := top 33
abbrev N__law_draw : List Str := ["_law_pen_here", "_law_many", "_law_digit", "_law_at", "_law_cell", "_law_mixed"]
theorem sc__law_draw : FnScope ["_law_pen_here", "_law_many", "_law_digit", "_law_at", "_law_cell", "_law_mixed"] ["_law_pen_here", "_law_many"] (defScope s__law_draw) := ⟨rfl, rfl, rfl, by decide +kernel, rfl, by decide +kernel, by decide +kernel⟩
abbrev s__law_pick : Stmt := top 34
abbrev N__law_pick : List Str := ["_law_pen_here", "_law_items"]
theorem sc__law_pick : FnScope ["_law_pen_here", "_law_items"] ["_law_pen_here", "_law_items"] (defScope s__law_pick) := ⟨rfl, rfl, rfl, by decide +kernel, rfl, by decide +kernel, by decide +kernel⟩
abbrev s__law_ten : Stmt := top 35
abbrev N__law_ten : List Str := ["_law_count", "_law_made", "_law_turn"]
theorem sc__law_ten : FnScope ["_law_count", "_law_made", "_law_turn"] ["_law_count"] (defScope s__law_ten) := ⟨rfl, rfl, rfl, by decide +kernel, rfl, by decide +kernel, by decide +kernel⟩
abbrev s__law_ways : Stmt := top 36
abbrev N__law_ways : List Str := []
theorem sc__law_ways : FnScope [] [] (defScope s__law_ways) := ⟨rfl, rfl, rfl, by decide +kernel, rfl, by decide +kernel, by decide +kernel⟩
abbrev s__law_near : Stmt := top 37
abbrev N__law_near : List Str := ["_law_number", "_law_divisor", "_law_manner", "_law_low", "_law_inner", "_law_outer", "_law_gap", "_law_even"]
theorem sc__law_near : FnScope ["_law_number", "_law_divisor", "_law_manner", "_law_low", "_law_inner", "_law_outer", "_law_gap", "_law_even"] ["_law_number", "_law_divisor", "_law_manner"] (defScope s__law_near) := ⟨rfl, rfl, rfl, by decide +kernel, rfl, by decide +kernel, by decide +kernel⟩
abbrev s__law_some_units : Stmt := top 38
abbrev N__law_some_units : List Str := ["_law_pen_here", "_law_few", "_law_great", "_law_found"]
theorem sc__law_some_units : FnScope ["_law_pen_here", "_law_few", "_law_great", "_law_found"] ["_law_pen_here"] (defScope s__law_some_units) := ⟨rfl, rfl, rfl, by decide +kernel, rfl, by decide +kernel, by decide +kernel⟩
abbrev s__law_is_shown : Stmt := top 39
abbrev N__law_is_shown : List Str := ["_law_units", "_law_scale", "_law_places", "_law_way", "_law_tried"]
theorem sc__law_is_shown : FnScope ["_law_units", "_law_scale", "_law_places", "_law_way", "_law_tried"] ["_law_units", "_law_scale", "_law_places", "_law_way", "_law_tried"] (defScope s__law_is_shown) := ⟨rfl, rfl, rfl, by decide +kernel, rfl, by decide +kernel, by decide +kernel⟩
abbrev s__law_ends : Stmt := top 40
abbrev N__law_ends : List Str := ["_law_worth", "_law_told", "_law_places", "_law_end"]
theorem sc__law_ends : FnScope ["_law_worth", "_law_told", "_law_places", "_law_end"] ["_law_worth", "_law_told", "_law_places"] (defScope s__law_ends) := ⟨rfl, rfl, rfl, by decide +kernel, rfl, by decide +kernel, by decide +kernel⟩
abbrev s__law_is_right : Stmt := top 41
abbrev N__law_is_right : List Str := ["_law_pen_here", "_law_units", "_law_scale", "_law_places", "_law_way", "_law_worth", "_law_told", "_law_tried", "_law_near_here", "_law_ends_here", "_law_inside", "_law_other", "_law_k", "_law_one"]
theorem sc__law_is_right : FnScope ["_law_pen_here", "_law_units", "_law_scale", "_law_places", "_law_way", "_law_worth", "_law_told", "_law_tried", "_law_near_here", "_law_ends_here", "_law_inside", "_law_other", "_law_k", "_law_one"] ["_law_pen_here", "_law_units", "_law_scale", "_law_places", "_law_way"] (defScope s__law_is_right) := ⟨rfl, rfl, rfl, by decide +kernel, rfl, by decide +kernel, by decide +kernel⟩
abbrev s_law : Stmt := top 42
abbrev N_law : List Str := ["_law_script", "_law_pen_here", "_law_turn", "_law_way", "_law_scale", "_law_units", "_law_places"]
theorem sc_law : FnScope ["_law_script", "_law_pen_here", "_law_turn", "_law_way", "_law_scale", "_law_units", "_law_places"] ["_law_script"] (defScope s_law) := ⟨rfl, rfl, rfl, by decide +kernel, rfl, by decide +kernel, by decide +kernel⟩
structure Tx (w : World) (K : PySem.W.Frag) (mg : Str → Option Value) where
  C_Worth : Addr
  cl_Worth : Cls K C_Worth
  gC_Worth : mg "Worth" = some (.ref C_Worth)
  n_Worth_units : NoAttr K C_Worth "units"
  n_Worth_scale : NoAttr K C_Worth "scale"
  f_is_integer : Addr
  fd_is_integer : FuncData
  F_is_integer : Fun K "is_integer" "is_integer" s_is_integer f_is_integer fd_is_integer
  b_is_integer : Binds K fd_is_integer ["value"] []
  g_is_integer : mg "is_integer" = some (.ref f_is_integer)
  f_is_whole : Addr
  fd_is_whole : FuncData
  F_is_whole : Fun K "is_whole" "is_whole" s_is_whole f_is_whole fd_is_whole
  b_is_whole : Binds K fd_is_whole ["value"] []
  g_is_whole : mg "is_whole" = some (.ref f_is_whole)
  f_need_integer : Addr
  fd_need_integer : FuncData
  F_need_integer : Fun K "need_integer" "need_integer" s_need_integer f_need_integer fd_need_integer
  b_need_integer : Binds K fd_need_integer ["value"] []
  g_need_integer : mg "need_integer" = some (.ref f_need_integer)
  f_need_whole : Addr
  fd_need_whole : FuncData
  F_need_whole : Fun K "need_whole" "need_whole" s_need_whole f_need_whole fd_need_whole
  b_need_whole : Binds K fd_need_whole ["value"] []
  g_need_whole : mg "need_whole" = some (.ref f_need_whole)
  f_ten_to : Addr
  fd_ten_to : FuncData
  F_ten_to : Fun K "ten_to" "ten_to" s_ten_to f_ten_to fd_ten_to
  b_ten_to : Binds K fd_ten_to ["number"] []
  g_ten_to : mg "ten_to" = some (.ref f_ten_to)
  f_lowered : Addr
  fd_lowered : FuncData
  F_lowered : Fun K "lowered" "lowered" s_lowered f_lowered fd_lowered
  b_lowered : Binds K fd_lowered ["units", "scale"] []
  g_lowered : mg "lowered" = some (.ref f_lowered)
  f_Worth___init__ : Addr
  fd_Worth___init__ : FuncData
  F_Worth___init__ : FunD K "__init__" "Worth.__init__" (defArgs s_Worth___init__) (defBody s_Worth___init__) (defScope s_Worth___init__) [.int 0] [] f_Worth___init__ fd_Worth___init__
  b_Worth___init__ : Binds K fd_Worth___init__ ["self", "units", "scale"] []
  M_Worth : Mk K C_Worth f_Worth___init__
  f_Worth___eq__ : Addr
  fd_Worth___eq__ : FuncData
  F_Worth___eq__ : Fun K "__eq__" "Worth.__eq__" s_Worth___eq__ f_Worth___eq__ fd_Worth___eq__
  b_Worth___eq__ : Binds K fd_Worth___eq__ ["self", "other"] []
  m_Worth___eq__ : Meth K C_Worth "__eq__" f_Worth___eq__
  f_Worth___neg__ : Addr
  fd_Worth___neg__ : FuncData
  F_Worth___neg__ : Fun K "__neg__" "Worth.__neg__" s_Worth___neg__ f_Worth___neg__ fd_Worth___neg__
  b_Worth___neg__ : Binds K fd_Worth___neg__ ["self"] []
  m_Worth___neg__ : Meth K C_Worth "__neg__" f_Worth___neg__
  f_Worth_units_at : Addr
  fd_Worth_units_at : FuncData
  F_Worth_units_at : Fun K "units_at" "Worth.units_at" s_Worth_units_at f_Worth_units_at fd_Worth_units_at
  b_Worth_units_at : Binds K fd_Worth_units_at ["self", "scale"] []
  m_Worth_units_at : Meth K C_Worth "units_at" f_Worth_units_at
  f_need_worth : Addr
  fd_need_worth : FuncData
  F_need_worth : Fun K "need_worth" "need_worth" s_need_worth f_need_worth fd_need_worth
  b_need_worth : Binds K fd_need_worth ["value"] []
  g_need_worth : mg "need_worth" = some (.ref f_need_worth)
  f_need_way : Addr
  fd_need_way : FuncData
  F_need_way : Fun K "need_way" "need_way" s_need_way f_need_way fd_need_way
  b_need_way : Binds K fd_need_way ["value"] []
  g_need_way : mg "need_way" = some (.ref f_need_way)
  f_mirrored : Addr
  fd_mirrored : FuncData
  F_mirrored : Fun K "mirrored" "mirrored" s_mirrored f_mirrored fd_mirrored
  b_mirrored : Binds K fd_mirrored ["way"] []
  g_mirrored : mg "mirrored" = some (.ref f_mirrored)
  f_lift : Addr
  fd_lift : FuncData
  F_lift : Fun K "lift" "lift" s_lift f_lift fd_lift
  b_lift : Binds K fd_lift ["way", "part", "negative", "odd"] []
  g_lift : mg "lift" = some (.ref f_lift)
  f_part_of : Addr
  fd_part_of : FuncData
  F_part_of : Fun K "part_of" "part_of" s_part_of f_part_of fd_part_of
  b_part_of : Binds K fd_part_of ["left", "divisor"] []
  g_part_of : mg "part_of" = some (.ref f_part_of)
  f_divided_by : Addr
  fd_divided_by : FuncData
  F_divided_by : Fun K "divided_by" "divided_by" s_divided_by f_divided_by fd_divided_by
  b_divided_by : Binds K fd_divided_by ["number", "divisor", "way"] []
  g_divided_by : mg "divided_by" = some (.ref f_divided_by)
  f_rounded : Addr
  fd_rounded : FuncData
  F_rounded : Fun K "rounded" "rounded" s_rounded f_rounded fd_rounded
  b_rounded : Binds K fd_rounded ["worth", "scale", "way"] []
  g_rounded : mg "rounded" = some (.ref f_rounded)
  f_reach_below : Addr
  fd_reach_below : FuncData
  F_reach_below : Fun K "reach_below" "reach_below" s_reach_below f_reach_below fd_reach_below
  b_reach_below : Binds K fd_reach_below ["way", "units", "wide"] []
  g_reach_below : mg "reach_below" = some (.ref f_reach_below)
  f_reach_above : Addr
  fd_reach_above : FuncData
  F_reach_above : Fun K "reach_above" "reach_above" s_reach_above f_reach_above fd_reach_above
  b_reach_above : Binds K fd_reach_above ["way", "units", "wide"] []
  g_reach_above : mg "reach_above" = some (.ref f_reach_above)
  f_shown_as : Addr
  fd_shown_as : FuncData
  F_shown_as : Fun K "shown_as" "shown_as" s_shown_as f_shown_as fd_shown_as
  b_shown_as : Binds K fd_shown_as ["worth", "scale", "places", "way"] []
  g_shown_as : mg "shown_as" = some (.ref f_shown_as)
  f__law_pen : Addr
  fd__law_pen : FuncData
  F__law_pen : Fun K "_law_pen" "_law_pen" s__law_pen f__law_pen fd__law_pen
  b__law_pen : Binds K fd__law_pen ["_law_script"] []
  g__law_pen : mg "_law_pen" = some (.ref f__law_pen)
  f__law_draw : Addr
  fd__law_draw : FuncData
  F__law_draw : Fun K "_law_draw" "_law_draw" s__law_draw f__law_draw fd__law_draw
  b__law_draw : Binds K fd__law_draw ["_law_pen_here", "_law_many"] []
  g__law_draw : mg "_law_draw" = some (.ref f__law_draw)
  f__law_pick : Addr
  fd__law_pick : FuncData
  F__law_pick : Fun K "_law_pick" "_law_pick" s__law_pick f__law_pick fd__law_pick
  b__law_pick : Binds K fd__law_pick ["_law_pen_here", "_law_items"] []
  g__law_pick : mg "_law_pick" = some (.ref f__law_pick)
  f__law_ten : Addr
  fd__law_ten : FuncData
  F__law_ten : Fun K "_law_ten" "_law_ten" s__law_ten f__law_ten fd__law_ten
  b__law_ten : Binds K fd__law_ten ["_law_count"] []
  g__law_ten : mg "_law_ten" = some (.ref f__law_ten)
  f__law_ways : Addr
  fd__law_ways : FuncData
  F__law_ways : Fun K "_law_ways" "_law_ways" s__law_ways f__law_ways fd__law_ways
  b__law_ways : Binds K fd__law_ways [] []
  g__law_ways : mg "_law_ways" = some (.ref f__law_ways)
  f__law_near : Addr
  fd__law_near : FuncData
  F__law_near : Fun K "_law_near" "_law_near" s__law_near f__law_near fd__law_near
  b__law_near : Binds K fd__law_near ["_law_number", "_law_divisor", "_law_manner"] []
  g__law_near : mg "_law_near" = some (.ref f__law_near)
  f__law_some_units : Addr
  fd__law_some_units : FuncData
  F__law_some_units : Fun K "_law_some_units" "_law_some_units" s__law_some_units f__law_some_units fd__law_some_units
  b__law_some_units : Binds K fd__law_some_units ["_law_pen_here"] []
  g__law_some_units : mg "_law_some_units" = some (.ref f__law_some_units)
  f__law_is_shown : Addr
  fd__law_is_shown : FuncData
  F__law_is_shown : Fun K "_law_is_shown" "_law_is_shown" s__law_is_shown f__law_is_shown fd__law_is_shown
  b__law_is_shown : Binds K fd__law_is_shown ["_law_units", "_law_scale", "_law_places", "_law_way", "_law_tried"] []
  g__law_is_shown : mg "_law_is_shown" = some (.ref f__law_is_shown)
  f__law_ends : Addr
  fd__law_ends : FuncData
  F__law_ends : Fun K "_law_ends" "_law_ends" s__law_ends f__law_ends fd__law_ends
  b__law_ends : Binds K fd__law_ends ["_law_worth", "_law_told", "_law_places"] []
  g__law_ends : mg "_law_ends" = some (.ref f__law_ends)
  f__law_is_right : Addr
  fd__law_is_right : FuncData
  F__law_is_right : Fun K "_law_is_right" "_law_is_right" s__law_is_right f__law_is_right fd__law_is_right
  b__law_is_right : Binds K fd__law_is_right ["_law_pen_here", "_law_units", "_law_scale", "_law_places", "_law_way"] []
  g__law_is_right : mg "_law_is_right" = some (.ref f__law_is_right)
  f_law : Addr
  fd_law : FuncData
  F_law : Fun K "law" "law" s_law f_law fd_law
  b_law : Binds K fd_law ["_law_script"] []
  g_law : mg "law" = some (.ref f_law)
  z_bool : mg "bool" = none
  z_divmod : mg "divmod" = none
  z_int : mg "int" = none
  z_isinstance : mg "isinstance" = none
  z_len : mg "len" = none
  z_list : mg "list" = none
  z_max : mg "max" = none
  z_min : mg "min" = none
  z_range : mg "range" = none
  z_tuple : mg "tuple" = none
  tyW : ∀ (H : Hp) (a dx : Addr) (fs : List (Str × V)), H a = some (.ins C_Worth dx fs) → TyOf K H (.ref a) (.ref C_Worth)
  kiW : PySem.W.kitOne K (.ref C_Worth) (.ref C_Worth) = some true
  a_WAYS : Addr
  gv_WAYS : mg "WAYS" = some (.ref a_WAYS)
  sq_WAYS : ∀ H : Hp, SqT K H a_WAYS (waysL.map V.str)
  a_MIRRORS : Addr
  es_M : Array DictEntry
  n_M : Nat
  gv_MIRRORS : mg "MIRRORS" = some (.ref a_MIRRORS)
  D_M : KDict K w a_MIRRORS es_M n_M
  mir : ∀ x ∈ waysL, ∃ r, PySem.W.nsIn K a_MIRRORS x = some r ∧ ((r = none ∧ mirF x = x) ∨ ∃ t, r = some (.str (mirF x) t))
end K05
namespace K05
open PySem L2 DS
set_option pp.maxSteps 1200
local macro_rules | `(tactic| walk_at "c") => `(tactic| first
  | (dsimp only; omega)
  | omega
  | (show CMulA _ _; first | exact CMulA.s1 (by omega) (by omega) | exact CMulA.s2 (by omega) (by omega))
  | (show CDivW _ _; first | exact ⟨by omega, by assumption⟩ | exact ⟨by omega, by decide⟩)
  | (show CPow _ _; exact ⟨by decide, by decide, by decide⟩)
  | assumption)
local macro_rules | `(tactic| walk_at "get") => `(tactic| first
  | assumption
  | (refine (by assumption : Same _ _) _ _ ?_; walk_at "get")
  | (refine (by assumption : Keep _ _) _ _ ?_ rfl; walk_at "get"))
local macro_rules | `(tactic| walk_at "pen") => `(tactic| first
  | assumption
  | (refine Pen.same (by assumption) ?_; walk_at "pen")
  | (refine Pen.mono ?_ (by omega); assumption))
local macro_rules | `(tactic| walk_at "keep") => `(tactic| first
  | assumption
  | exact Keep.refl _
  | exact Keep.of (by assumption)
  | (refine Keep.trans ?_ (by assumption); walk_at "keep")
  | (refine Keep.same ?_ (by assumption); walk_at "keep"))
local macro_rules | `(tactic| walk_at "same") => `(tactic| first
  | assumption
  | exact Same.refl _
  | (refine Same.trans ?_ (by assumption); walk_at "same"))
local macro_rules | `(tactic| walk_at "s") => `(tactic| first
  | with_reducible refine w_seq ?_
  | with_reducible refine w_asg ?_
  | with_reducible refine w_name ?_
  | ((with_reducible apply w_var); exact rfl)
  | with_reducible refine w_c ?_
  | with_reducible refine w_op ?_
  | with_reducible refine w_I0 ?_
  | ((with_reducible apply w_I); (walk_at "c"))
  | with_reducible refine w_cons ?_
  | with_reducible refine w_nil ?_
  | with_reducible refine w_cb ?_
  | with_reducible refine w_int1 ?_
  | with_reducible refine w_int1b ?_
  | with_reducible refine w_call ?_
  | with_reducible refine w_ifs ?_
  | with_reducible refine w_test ?_
  | with_reducible refine w_k ?_
  | with_reducible refine w_ret ?_
  | with_reducible refine w_drop ?_
  | with_reducible refine w_not ?_
  | with_reducible refine w_and ?_
  | with_reducible refine w_or ?_
  | with_reducible refine w_andV ?_
  | with_reducible refine w_orV ?_
  | with_reducible refine w_notV ?_
  | with_reducible refine w_if ?_
  | with_reducible refine w_B ?_
  | with_reducible refine w_un ?_
  | with_reducible refine w_U ?_
  | (with_reducible refine w_tup ?_; intro _ _)
  | (with_reducible refine w_lst ?_; intro _ _)
  | with_reducible refine w_dget ?_
  | with_reducible refine w_dput ?_
  | with_reducible refine w_fld ?_
  | with_reducible refine w_meth ?_
  | (with_reducible refine w_make ?_; intro _ _)
  | with_reducible refine w_par ?_
  | with_reducible refine w_par3 ?_
  | with_reducible refine w_two ?_
  | with_reducible refine w_three ?_
  | with_reducible refine w_one ?_
  | with_reducible refine w_chain ?_
  | with_reducible refine w_next ?_
  | with_reducible refine w_brk ?_
  | with_reducible refine w_cont ?_
  | with_reducible refine w_retN ?_
  | with_reducible refine w_gcons ?_
  | with_reducible refine w_gnil ?_
  | ((with_reducible refine w_eq ?_ ?_); exact rfl)
  | ((with_reducible refine w_ne ?_ ?_); exact rfl)
  | with_reducible refine w_part ?_
  | with_reducible refine w_lc ?_
  | with_reducible refine w_yes ?_
  | with_reducible refine w_iTup ?_
  | with_reducible refine w_iList ?_
  | with_reducible refine w_unT ?_
  | with_reducible refine w_unT0 ?_
  | with_reducible refine w_unL ?_
  | with_reducible refine w_unL0 ?_
  | ((with_reducible apply w_gtup); (walk_at "get"); (exact rfl))
  | with_reducible refine w_gfld ?_
  | with_reducible refine w_sfld ?_
  | with_reducible refine w_risi ?_
  | with_reducible refine w_i ?_
  | with_reducible refine w_pnil ?_
  | with_reducible refine w_pcons ?_
  | with_reducible refine w_sl ?_
  | with_reducible refine w_nopart ?_
  | with_reducible refine w_for ?_
  | with_reducible refine w_while ?_
  | with_reducible refine w_irng1 ?_
  | with_reducible refine w_irng2 ?_
  | with_reducible refine And.intro (rfl : V.non = V.non) ?_)
local macro_rules | `(tactic| walk_at "go") => `(tactic| repeat (walk_at "s"))

def pen (c : Addr) (a l : Int) : List (Key × V) := [(Sum.inr "cells", .ref c), (Sum.inr "at", .int a), (Sum.inr "left", .int l)]
theorem pen_cells (c : Addr) (a l : Int) : valV (pen c a l) (Sum.inr "cells") = some (.ref c) := by unfold pen valV; simp
theorem pen_at (c : Addr) (a l : Int) : valV (pen c a l) (Sum.inr "at") = some (.int a) := by
  have h : ¬ (("cells" : Str) = "at") := by decide +kernel
  unfold pen valV; simp [h]
theorem pen_left (c : Addr) (a l : Int) : valV (pen c a l) (Sum.inr "left") = some (.int l) := by
  have h : ¬ (("cells" : Str) = "left") := by decide +kernel
  have h2 : ¬ (("at" : Str) = "left") := by decide +kernel
  unfold pen valV; simp [h, h2]
theorem pen_put_at (c : Addr) (a l b : Int) : putK (pen c a l) (Sum.inr "at") (.int b) = pen c b l := by
  have h : ¬ (("cells" : Str) = "at") := by decide +kernel
  have h2 : ¬ (("left" : Str) = "at") := by decide +kernel
  unfold pen putK; simp [h, h2]
theorem pen_put_left (c : Addr) (a l b : Int) : putK (pen c a l) (Sum.inr "left") (.int b) = pen c a b := by
  have h : ¬ (("cells" : Str) = "left") := by decide +kernel
  have h2 : ¬ (("at" : Str) = "left") := by decide +kernel
  unfold pen putK; simp [h, h2]
theorem pen_len (c : Addr) (a l : Int) : (pen c a l).length < sizeLine := Nat.lt_of_lt_of_le (show 3 < 4 by decide) (by decide)
/-- a pen at d, at most n cells begun -/
structure Pen (H : Hp) (d : Addr) (n : Nat) : Prop where
  ex : ∃ (c : Addr) (ns : List Int) (a l : Int), H d = some (.dK (pen c a l)) ∧ H c = some (.lst (ns.map V.int)) ∧ 0 ≤ a ∧ a ≤ n ∧ 0 ≤ l ∧ ns.length ≤ 63
theorem Pen.same {H H' : Hp} {d : Addr} {n : Nat} (s : Same H H') (p : Pen H d n) : Pen H' d n := by
  obtain ⟨c, ns, a, l, h1, h2, h⟩ := p.ex
  exact ⟨c, ns, a, l, s _ _ h1, s _ _ h2, h⟩
theorem Pen.mono {H : Hp} {d : Addr} {n m : Nat} (p : Pen H d n) (h : n ≤ m) : Pen H d m := by
  obtain ⟨c, ns, a, l, h1, h2, h3, h4, h5⟩ := p.ex
  exact ⟨c, ns, a, l, h1, h2, h3, by omega, h5⟩
section
variable {P : Program} {w : World} {K : PySem.W.Frag} {mg : Str → Option Value} {base : Heap}
/-- draw: a number below many -/
def sp_draw : Sp := fun vs H Q _ => ∃ (d : Addr) (many : Int) (n : Nat), vs = [.ref d, .int many] ∧ Pen H d n ∧ n ≤ 1000000 ∧ 0 < many ∧ many < 2 ^ 200 ∧
  ∀ (r : Int) (H' : Hp), 0 ≤ r → r < many → Pen H' d (n + 1) → Keep H H' → Q (.int r) H'
theorem ok__law_draw (T : Tx w K mg) : FnOk P w K mg base CX0 1 T.f__law_draw T.fd__law_draw ["_law_pen_here", "_law_many"] sp_draw := by
  refine T.F__law_draw.ok sc__law_draw (fun vs H Q E h => ?_) (fun cdv A outer s H vs Q E hr h => ?_)
  · obtain ⟨d, many, n, rfl, _⟩ := h
    rfl
  · obtain ⟨d, many, n, rfl, hp, hn, h0, hb, q⟩ := h
    have hu := hu_of hr
    have hu64 := hu64_of hr
    obtain ⟨c, ns, a, l, h1, h2, ha0, han, hl0, hlen⟩ := hp.ex
    have hlog : many.natAbs.log2 < 9000 := log_lt h0 hb (by decide)
    refine ⟨_, (pss_cons (ps_if (pt_cmpR op_ge (pe_dget hu (pv 0) pe_str (fun _ _ => rfl)) (pv 1) (nomark _)) (pss_cons (ps_set (i := 2) sc__law_draw.nd rfl (Or.inl rfl) (pe_op op_mod (pe_callTy call_int1 (by rfl) T.z_int (by decide +kernel) (pa_cons (pe_dget hu (pv 0) pe_str (fun _ _ => rfl)) pa_nil)) (pv 1)))
      (pss_cons (ps_dput hu (pv 0) pe_str (pe_op op_fdivW (pe_dget hu (pv 0) pe_str (fun _ _ => rfl)) (pv 1)) rfl)
      (pss_one (ps_ret (pv 2))))) pss_nil)
      (pss_cons (ps_set (i := 3) sc__law_draw.nd rfl (Or.inl rfl) (pe_dget hu (pv 0) pe_str (fun _ _ => rfl)))
      (pss_cons (ps_dput hu (pv 0) pe_str (pe_op op_add (pv 3) pe_int) rfl)
      (pss_cons (ps_set (i := 4) sc__law_draw.nd rfl (Or.inl rfl) (pe_op op_add (pe_op op_mulA pe_int (pv 3)) pe_int))
      (pss_cons (ps_if (pt_cmpR (op_neD hu64) (pe_dget hu (pv 0) pe_str (fun _ _ => rfl)) (pe_lst pa_nil) (nomark _)) (pss_one (ps_set (i := 4) sc__law_draw.nd rfl (Or.inl rfl) (pe_ix ix_list (pe_dget hu (pv 0) pe_str (fun _ _ => rfl)) (pe_op op_mod (pe_callTy call_int1 (by rfl) T.z_int (by decide +kernel) (pa_cons (pv 3) pa_nil)) (pe_callB call_len_seq (by rfl) T.z_len PySem.boot_len (pa_cons (pe_dget hu (pv 0) pe_str (fun _ _ => rfl)) pa_nil))) (fun _ _ => rfl)))) pss_nil)
      (pss_cons (ps_if (PW.pt (pw_and (pt_cmpR op_lt (pv 3) (pe_callB call_len_seq (by rfl) T.z_len PySem.boot_len (pa_cons (pe_dget hu (pv 0) pe_str (fun _ _ => rfl)) pa_nil)) (nomark _)) (pw_and1 (pt_cmpR op_ge (pv 4) (pe_op op_pow pe_int pe_int) (nomark _))))) (pss_cons (ps_dput hu (pv 0) pe_str (pe_op op_fdivW (pe_op op_sub (pv 4) (pe_op op_pow pe_int pe_int)) (pv 1)) rfl)
      (pss_one (ps_ret (pe_op op_mod (pe_callTy call_int1 (by rfl) T.z_int (by decide +kernel) (pa_cons (pe_op op_sub (pv 4) (pe_op op_pow pe_int pe_int)) pa_nil)) (pv 1))))) pss_nil)
      (pss_cons (ps_set (i := 5) sc__law_draw.nd rfl (Or.inl rfl) (pe_op op_add (pe_op op_add (pe_op op_add (pe_op op_mulA (pe_op op_mod (pe_callTy call_int1 (by rfl) T.z_int (by decide +kernel) (pa_cons (pv 4) pa_nil)) pe_int) pe_int) (pe_op op_mulA (pe_op op_mulA pe_int (pv 3)) (pv 3))) (pe_op op_mulA pe_int (pv 3))) pe_int))
      (pss_cons (ps_set (i := 5) sc__law_draw.nd rfl (Or.inl rfl) (pe_op op_mod (pe_callTy call_int1 (by rfl) T.z_int (by decide +kernel) (pa_cons (pv 5) pa_nil)) pe_int))
      (pss_cons (ps_set (i := 5) sc__law_draw.nd rfl (Or.inl rfl) (pe_op op_mod (pe_callTy call_int1 (by rfl) T.z_int (by decide +kernel) (pa_cons (pe_op op_mulA (pv 5) (pe_op op_add (pv 5) pe_int)) pa_nil)) pe_int))
      (pss_one (ps_ret (pe_op op_mod (pe_callTy call_int1 (by rfl) T.z_int (by decide +kernel) (pa_cons (pe_op op_fdivW (pe_op op_mod (pe_callTy call_int1 (by rfl) T.z_int (by decide +kernel) (pa_cons (pe_op op_mulA (pv 5) (pv 5)) pa_nil)) pe_int) pe_int) pa_nil)) (pv 1))))))))))))), ?_⟩
    walk_at "go"
    refine w_dg h1 (pen_left _ _ _) ?_
    walk_at "go"
    refine w_ite (fun hc => ?_) (fun hc => ?_)
    · walk_at "go"
      refine w_dg h1 (pen_left _ _ _) ?_
      walk_at "go"
      refine w_dg h1 (pen_left _ _ _) ?_
      walk_at "go"
      refine w_dp h1 (pen_len _ _ _) ?_
      rw [pen_put_left]
      walk_at "go"
      refine q _ _ (Int.emod_nonneg _ (by omega)) (Int.emod_lt_of_pos _ h0) ⟨c, ns, a, l / many, upd_same, ?_, ha0, by omega, Int.ediv_nonneg hl0 (by omega), hlen⟩ (keep_dict h1)
      rw [upd_ne (ne_of h2 h1 (by intro z; cases z))]
      exact h2
    · walk_at "go"
      refine w_dg h1 (pen_at _ _ _) ?_
      walk_at "go"
      refine w_dp h1 (pen_len _ _ _) ?_
      rw [pen_put_at]
      obtain ⟨H1, k1, e1, e2, z1⟩ : ∃ H1, Keep H H1 ∧ H1 d = some (.dK (pen c (a + 1) l)) ∧ H1 c = some (.lst (ns.map V.int)) ∧ upd H d (.dK (pen c (a + 1) l)) = H1 := ⟨_, keep_dict h1, upd_same, by rw [upd_ne (ne_of h2 h1 (by intro z; cases z))]; exact h2, rfl⟩
      rw [z1]
      walk_at "go"
      refine w_dg e1 (pen_cells _ _ _) ?_
      walk_at "go"
      refine w_new (by assumption) (Nat.zero_le _) (fun p H2 np s2 hp => ?_)
      walk_at "go"
      refine w_neNil (s2 _ _ e2) hp ?_
      walk_at "go"
      have f1 := s2 _ _ e1
      have f2 := s2 _ _ e2
      have kk : Keep H H2 := k1.same s2
      refine w_iteB (fun hc => ?yes) (fun hc => ?no)
      case' yes =>
        walk_at "go"
        refine w_dg f1 (pen_cells _ _ _) ?_
        walk_at "go"
        refine w_dg f1 (pen_cells _ _ _) ?_
        walk_at "go"
        refine w_lenL f2 ?_
        have h63 : 0 < ((ns.map V.int).length : Int) := by
          rw [List.length_map]
          cases ns with
          | nil => cases hc
          | cons x r => exact Int.natCast_pos.mpr (Nat.succ_pos _)
        walk_at "go"
        obtain ⟨z, hz⟩ := at_ints (ns := ns) (i := a % ((ns.map V.int).length : Int)) (Int.emod_nonneg _ (by omega)) (by
          have := Int.emod_lt_of_pos a h63
          rw [List.length_map] at this ⊢
          exact this)
        refine w_ixL f2 hz ?_
      all_goals
        walk_at "go"
        refine w_dg f1 (pen_cells _ _ _) ?_
        walk_at "go"
        refine w_lenL f2 ?_
        walk_at "go"
        refine w_ite (fun hd => ?_) (fun hd => ?_)
        · walk_at "go"
          refine w_ite (fun he => ?_) (fun he => ?_)
          · walk_at "go"
            refine w_dp f1 (pen_len _ _ _) ?_
            rw [pen_put_left]
            walk_at "go"
            refine q _ _ (Int.emod_nonneg _ (by omega)) (Int.emod_lt_of_pos _ h0) ⟨c, ns, a + 1, _, upd_same, ?_, by omega, by omega, Int.ediv_nonneg ?_ (by omega), hlen⟩ (kk.trans (keep_dict f1))
            · rw [upd_ne (ne_of f2 f1 (by intro z; cases z))]
              exact f2
            · have e18 : (10 : Int) ^ (18 : Int).toNat = 1000000000000000000 := by decide
              rw [e18] at he ⊢
              omega
          · walk_at "go"
            exact q _ _ (Int.emod_nonneg _ (by omega)) (Int.emod_lt_of_pos _ h0) ⟨c, ns, a + 1, l, f1, f2, by omega, by omega, hl0, hlen⟩ kk
        · refine iteF ?_
          walk_at "go"
          exact q _ _ (Int.emod_nonneg _ (by omega)) (Int.emod_lt_of_pos _ h0) ⟨c, ns, a + 1, l, f1, f2, by omega, by omega, hl0, hlen⟩ kk
end
end K05
namespace K05
open PySem L2 DS
set_option pp.maxSteps 1200
local macro_rules | `(tactic| walk_at "c") => `(tactic| first
  | (dsimp only; omega)
  | omega
  | (show CMulA _ _; first | exact CMulA.s1 (by omega) (by omega) | exact CMulA.s2 (by omega) (by omega))
  | (show CDivW _ _; first | exact ⟨by omega, by assumption⟩ | exact ⟨by omega, by decide⟩)
  | (show CPow _ _; exact ⟨by decide, by decide, by decide⟩)
  | assumption)
local macro_rules | `(tactic| walk_at "get") => `(tactic| first
  | assumption
  | (refine (by assumption : Same _ _) _ _ ?_; walk_at "get")
  | (refine (by assumption : Keep _ _) _ _ ?_ rfl; walk_at "get"))
local macro_rules | `(tactic| walk_at "pen") => `(tactic| first
  | assumption
  | (refine Pen.same (by assumption) ?_; walk_at "pen")
  | (refine Pen.mono ?_ (by omega); assumption))
local macro_rules | `(tactic| walk_at "keep") => `(tactic| first
  | assumption
  | exact Keep.refl _
  | exact Keep.of (by assumption)
  | (refine Keep.trans ?_ (by assumption); walk_at "keep")
  | (refine Keep.same ?_ (by assumption); walk_at "keep"))
local macro_rules | `(tactic| walk_at "same") => `(tactic| first
  | assumption
  | exact Same.refl _
  | (refine Same.trans ?_ (by assumption); walk_at "same"))
local macro_rules | `(tactic| walk_at "s") => `(tactic| first
  | with_reducible refine w_seq ?_
  | with_reducible refine w_asg ?_
  | with_reducible refine w_name ?_
  | ((with_reducible apply w_var); exact rfl)
  | with_reducible refine w_c ?_
  | with_reducible refine w_op ?_
  | with_reducible refine w_I0 ?_
  | ((with_reducible apply w_I); (walk_at "c"))
  | with_reducible refine w_cons ?_
  | with_reducible refine w_nil ?_
  | with_reducible refine w_cb ?_
  | with_reducible refine w_int1 ?_
  | with_reducible refine w_int1b ?_
  | with_reducible refine w_call ?_
  | with_reducible refine w_ifs ?_
  | with_reducible refine w_test ?_
  | with_reducible refine w_k ?_
  | with_reducible refine w_ret ?_
  | with_reducible refine w_drop ?_
  | with_reducible refine w_not ?_
  | with_reducible refine w_and ?_
  | with_reducible refine w_or ?_
  | with_reducible refine w_andV ?_
  | with_reducible refine w_orV ?_
  | with_reducible refine w_notV ?_
  | with_reducible refine w_if ?_
  | with_reducible refine w_B ?_
  | with_reducible refine w_un ?_
  | with_reducible refine w_U ?_
  | (with_reducible refine w_tup ?_; intro _ _)
  | (with_reducible refine w_lst ?_; intro _ _)
  | with_reducible refine w_dget ?_
  | with_reducible refine w_dput ?_
  | with_reducible refine w_fld ?_
  | with_reducible refine w_meth ?_
  | (with_reducible refine w_make ?_; intro _ _)
  | with_reducible refine w_par ?_
  | with_reducible refine w_par3 ?_
  | with_reducible refine w_two ?_
  | with_reducible refine w_three ?_
  | with_reducible refine w_one ?_
  | with_reducible refine w_chain ?_
  | with_reducible refine w_next ?_
  | with_reducible refine w_brk ?_
  | with_reducible refine w_cont ?_
  | with_reducible refine w_retN ?_
  | with_reducible refine w_gcons ?_
  | with_reducible refine w_gnil ?_
  | ((with_reducible refine w_eq ?_ ?_); exact rfl)
  | ((with_reducible refine w_ne ?_ ?_); exact rfl)
  | with_reducible refine w_part ?_
  | with_reducible refine w_lc ?_
  | with_reducible refine w_yes ?_
  | with_reducible refine w_iTup ?_
  | with_reducible refine w_iList ?_
  | with_reducible refine w_unT ?_
  | with_reducible refine w_unT0 ?_
  | with_reducible refine w_unL ?_
  | with_reducible refine w_unL0 ?_
  | ((with_reducible apply w_gtup); (walk_at "get"); (exact rfl))
  | with_reducible refine w_gfld ?_
  | with_reducible refine w_sfld ?_
  | with_reducible refine w_risi ?_
  | with_reducible refine w_i ?_
  | with_reducible refine w_pnil ?_
  | with_reducible refine w_pcons ?_
  | with_reducible refine w_sl ?_
  | with_reducible refine w_nopart ?_
  | with_reducible refine w_for ?_
  | with_reducible refine w_while ?_
  | with_reducible refine w_irng1 ?_
  | with_reducible refine w_irng2 ?_
  | with_reducible refine And.intro (rfl : V.non = V.non) ?_)
local macro_rules | `(tactic| walk_at "go") => `(tactic| repeat (walk_at "s"))

section
variable {P : Program} {w : World} {K : PySem.W.Frag} {mg : Str → Option Value} {base : Heap}
def sp_pick : Sp := fun vs H Q _ => ∃ (d l : Addr) (xs : List V) (n : Nat), vs = [.ref d, .ref l] ∧ Pen H d n ∧ n ≤ 1000000 ∧ H l = some (.lst xs) ∧ 0 < xs.length ∧ xs.length ≤ 1000 ∧
  ∀ (v : V) (H' : Hp), v ∈ xs → Pen H' d (n + 1) → Keep H H' → Q v H'
theorem ok__law_pick (T : Tx w K mg) : FnOk P w K mg base CX0 2 T.f__law_pick T.fd__law_pick ["_law_pen_here", "_law_items"] sp_pick := by
  refine T.F__law_pick.ok sc__law_pick (fun vs H Q E h => ?_) (fun cdv A outer s H vs Q E hr h => ?_)
  · obtain ⟨d, l, xs, n, rfl, _⟩ := h
    rfl
  · obtain ⟨d, l, xs, n, rfl, hp, hn, hl, h0, h1, q⟩ := h
    have hu := hu_of hr
    have hu64 := hu64_of hr
    refine ⟨_, (pss_one (ps_ret (pe_ix ix_list (pv 1) (pe_call (ok__law_draw T) (hr.mono (by decide)) rfl T.g__law_draw T.F__law_draw.kp T.b__law_draw .nil pass0 (pa_cons (pv 0) (pa_cons (pe_callB call_len_seq (by rfl) T.z_len PySem.boot_len (pa_cons (pv 1) pa_nil)) pa_nil))) (fun _ _ => rfl)))), ?_⟩
    walk_at "go"
    refine w_lenL hl ?_
    walk_at "go"
    refine ⟨d, _, n, rfl, hp, hn, by omega, Int.lt_of_lt_of_le (show ((xs.length : Nat) : Int) < 1001 by omega) (by decide), fun r H1 r0 r1 p1 k1 => ?_⟩
    obtain ⟨v, hv, hm⟩ := at_any r0 r1
    refine w_ixL (k1 _ _ hl rfl) hv ?_
    walk_at "go"
    exact q v H1 hm p1 k1
/-- ten to the power of count -/
def sp_ten : Sp := fun vs H Q _ => ∃ n : Nat, vs = [.int n] ∧ n ≤ 10000 ∧ ∀ H', Same H H' → Q (.int (10 ^ n)) H'
theorem ok__law_ten (T : Tx w K mg) : FnOk P w K mg base CX0 1 T.f__law_ten T.fd__law_ten ["_law_count"] sp_ten := by
  refine T.F__law_ten.ok sc__law_ten (fun vs H Q E h => ?_) (fun cdv A outer s H vs Q E hr h => ?_)
  · obtain ⟨n, rfl, _⟩ := h
    rfl
  · obtain ⟨n, rfl, hn, q⟩ := h
    have hu := hu_of hr
    have hu64 := hu64_of hr
    refine ⟨_, (pss_cons (ps_set (i := 1) sc__law_ten.nd rfl (Or.inl rfl) pe_int)
      (pss_cons (ps_for PassesOwn.never rfl (pi_range1 (by rfl) T.z_range (pa_cons (pv 0) pa_nil)) (pg_name (i := 2) sc__law_ten.nd rfl (Or.inl rfl))
      (pss_one (ps_set (i := 1) sc__law_ten.nd rfl (Or.inl rfl) (pe_op op_mulA (pv 1) pe_int))))
      (pss_one (ps_ret (pv 1))))), ?_⟩
    walk_at "go"
    refine ⟨by omega, by omega, ?_⟩
    refine for_range (fun i σ H' => i ≤ n ∧ H' = H ∧ ∃ z, σ = [some (.int n), some (.int (10 ^ i)), z]) ⟨Nat.zero_le _, rfl, none, rfl⟩ (fun i σ H' hi hI => ?_) (fun σ H' hI => ?_)
    · obtain ⟨hin, rfl, z, rfl⟩ := hI
      walk_at "go"
      refine ⟨by omega, rfl, some (.int (0 + i)), ?_⟩
      rw [Int.pow_succ]
      rfl
    · obtain ⟨hin, rfl, z, rfl⟩ := hI
      walk_at "go"
      have e : ((n : Int)).toNat = n := Int.toNat_natCast n
      rw [e]
      exact q _ (Same.refl _)
def sp_ways : Sp := fun vs H Q _ => vs = [] ∧ ∀ p H', H p = none → Same H H' → H' p = some (.lst (waysL.map V.str)) → Q (.ref p) H'
theorem ok__law_ways (T : Tx w K mg) : FnOk P w K mg base CX0 1 T.f__law_ways T.fd__law_ways [] sp_ways := by
  refine T.F__law_ways.ok sc__law_ways (fun vs H Q E h => ?_) (fun cdv A outer s H vs Q E hr h => ?_)
  · obtain ⟨rfl, _⟩ := h
    rfl
  · obtain ⟨rfl, q⟩ := h
    refine ⟨_, (pss_one (ps_ret (pe_lst (pa_cons pe_str (pa_cons pe_str (pa_cons pe_str (pa_cons pe_str (pa_cons pe_str (pa_cons pe_str (pa_cons pe_str (pa_cons pe_str (pa_cons pe_str pa_nil)))))))))))), ?_⟩
    walk_at "go"
    exact w_new (by assumption) (Nat.le_of_ble_eq_true rfl) (fun p H' np sm hp => q p H' np sm hp)
/-- the drawn units -/
def sp_units : Sp := fun vs H Q _ => ∃ (d : Addr) (n : Nat), vs = [.ref d] ∧ Pen H d n ∧ n ≤ 999900 ∧ ∀ (u : Int) (H' : Hp), u.natAbs < 2 ^ 300 → Pen H' d (n + 20) → Keep H H' → Q (.int u) H'
theorem ok__law_some_units (T : Tx w K mg) : FnOk P w K mg base CX0 3 T.f__law_some_units T.fd__law_some_units ["_law_pen_here"] sp_units := by
  refine T.F__law_some_units.ok sc__law_some_units (fun vs H Q E h => ?_) (fun cdv A outer s H vs Q E hr h => ?_)
  · obtain ⟨d, n, rfl, _⟩ := h
    rfl
  · obtain ⟨d, n, rfl, hp, hn, q⟩ := h
    have hu := hu_of hr
    have hu64 := hu64_of hr
    refine ⟨_, (pss_cons (ps_set (i := 1) sc__law_some_units.nd rfl (Or.inl rfl) (pe_call (ok__law_pick T) (hr.mono (by decide)) rfl T.g__law_pick T.F__law_pick.kp T.b__law_pick .nil pass0 (pa_cons (pv 0) (pa_cons (pe_lst (pa_cons pe_int (pa_cons pe_int (pa_cons pe_int (pa_cons pe_int (pa_cons pe_int (pa_cons pe_int (pa_cons pe_int (pa_cons pe_int (pa_cons pe_int (pa_cons pe_int (pa_cons (pe_call (ok__law_draw T) (hr.mono (by decide)) rfl T.g__law_draw T.F__law_draw.kp T.b__law_draw .nil pass0 (pa_cons (pv 0) (pa_cons pe_int pa_nil))) pa_nil)))))))))))) pa_nil))))
      (pss_cons (ps_set (i := 2) sc__law_some_units.nd rfl (Or.inl rfl) (pe_op op_sub (pe_op op_add (pe_call (ok__law_ten T) (hr.mono (by decide)) rfl T.g__law_ten T.F__law_ten.kp T.b__law_ten .nil pass0 (pa_cons (pe_op op_add pe_int (pe_call (ok__law_draw T) (hr.mono (by decide)) rfl T.g__law_draw T.F__law_draw.kp T.b__law_draw .nil pass0 (pa_cons (pv 0) (pa_cons pe_int pa_nil)))) pa_nil)) (pe_call (ok__law_draw T) (hr.mono (by decide)) rfl T.g__law_draw T.F__law_draw.kp T.b__law_draw .nil pass0 (pa_cons (pv 0) (pa_cons pe_int pa_nil)))) pe_int))
      (pss_cons (ps_set (i := 3) sc__law_some_units.nd rfl (Or.inl rfl) (pe_call (ok__law_pick T) (hr.mono (by decide)) rfl T.g__law_pick T.F__law_pick.kp T.b__law_pick .nil pass0 (pa_cons (pv 0) (pa_cons (pe_lst (pa_cons (pv 1) (pa_cons (pv 1) (pa_cons (pv 1) (pa_cons (pv 2) (pa_cons (pe_op op_fdivW (pv 2) pe_int) (pa_cons (pe_op op_mulA (pv 1) (pv 2)) (pa_cons (pe_call (ok__law_draw T) (hr.mono (by decide)) rfl T.g__law_draw T.F__law_draw.kp T.b__law_draw .nil pass0 (pa_cons (pv 0) (pa_cons (pe_op op_pow pe_int pe_int) pa_nil))) pa_nil)))))))) pa_nil))))
      (pss_one (ps_ret (pe_ifExp (pt_cmpR op_eq (pe_call (ok__law_draw T) (hr.mono (by decide)) rfl T.g__law_draw T.F__law_draw.kp T.b__law_draw .nil pass0 (pa_cons (pv 0) (pa_cons pe_int pa_nil))) pe_int (nomark _)) (pe_un un_neg (pv 3)) (pv 3))))))), ?_⟩
    walk_at "go"
    refine ⟨d, 1000, n, rfl, hp, by omega, by omega, by decide, fun r1 H1 a1 b1 p1 k1 => ?_⟩
    walk_at "go"
    refine w_new (by assumption) (Nat.le_of_ble_eq_true rfl) (fun l2 H2 n2 s2 e2 => ?_)
    walk_at "go"
    refine ⟨d, l2, _, n + 1, rfl, by walk_at "pen", by omega, e2, Nat.le_of_ble_eq_true rfl, Nat.le_of_ble_eq_true rfl, fun v3 H3 m3 p3 k3 => ?_⟩
    obtain ⟨few, rfl, few0, few1⟩ : ∃ few : Int, v3 = .int few ∧ 0 ≤ few ∧ few < 1000 := by
      simp only [List.mem_cons, List.not_mem_nil, or_false] at m3
      rcases m3 with h | h | h | h | h | h | h | h | h | h | h <;> exact ⟨_, h, by omega, by omega⟩
    walk_at "go"
    refine ⟨d, 40, n + 2, rfl, p3, by omega, by omega, by decide, fun r4 H4 a4 b4 p4 k4 => ?_⟩
    walk_at "go"
    obtain ⟨e4, rfl⟩ := Int.eq_ofNat_of_zero_le a4
    refine ⟨3 + e4, by simp, by omega, fun H5 s5 => ?_⟩
    walk_at "go"
    refine ⟨d, 3, n + 3, rfl, p4.same s5, by omega, by omega, by decide, fun r6 H6 a6 b6 p6 k6 => ?_⟩
    have t4 := ten_lt (3 + e4)
    have t5 : ((10 : Int) ^ (3 + e4)).natAbs < 2 ^ 180 := pow_wide t4 (by omega)
    have t0 : (0 : Int) < 10 ^ (3 + e4) := Int.pow_pos (by decide)
    have tb : (2 : Nat) ^ 180 = 1532495540865888858358347027150309183618739122183602176 := by decide +kernel
    generalize (10 : Int) ^ (3 + e4) = ten at *
    have g0 : (0 : Int) ≤ ten + r6 - 1 := by omega
    have g1 : (ten + r6 - 1).natAbs < 2 ^ 181 := by
      have : (2 : Nat) ^ 181 = 2 * 2 ^ 180 := by decide +kernel
      omega
    walk_at "go"
    generalize hg : ten + r6 - 1 = great at *
    have c1 : CMulA few great := CMulA.s1 (by omega) (by omega)
    walk_at "go"
    refine ⟨d, 10 ^ 30, n + 4, rfl, p6, by omega, by decide, by decide, fun r7 H7 a7 b7 p7 k7 => ?_⟩
    walk_at "go"
    refine w_new (by assumption) (Nat.le_of_ble_eq_true rfl) (fun l8 H8 n8 s8 e8 => ?_)
    walk_at "go"
    refine ⟨d, l8, _, n + 5, rfl, by walk_at "pen", by omega, e8, Nat.le_of_ble_eq_true rfl, Nat.le_of_ble_eq_true rfl, fun v9 H9 m9 p9 k9 => ?_⟩
    obtain ⟨found, rfl, found1⟩ : ∃ found : Int, v9 = .int found ∧ found.natAbs < 2 ^ 300 := by
      have e300 : (2 : Nat) ^ 300 = 2 ^ 181 * 2 ^ 119 := by decide +kernel
      have e181 : (2 : Nat) ^ 181 = 3064991081731777716716694054300618367237478244367204352 := by decide +kernel
      have e119 : (2 : Nat) ^ 119 = 664613997892457936451903530140172288 := by decide +kernel
      have e30 : (10 : Int) ^ 30 = 1000000000000000000000000000000 := by decide +kernel
      simp only [List.mem_cons, List.not_mem_nil, or_false] at m9
      rcases m9 with h | h | h | h | h | h | h
      · exact ⟨_, h, by omega⟩
      · exact ⟨_, h, by omega⟩
      · exact ⟨_, h, by omega⟩
      · exact ⟨_, h, by omega⟩
      · exact ⟨_, h, by omega⟩
      · refine ⟨_, h, ?_⟩
        have := wide_lt (i := few) (j := great) (a := 10) (b := 181) (by omega) g1
        exact pow_wide this (by decide)
      · exact ⟨_, h, by omega⟩
    walk_at "go"
    refine ⟨d, 2, n + 6, rfl, p9, by omega, by omega, by decide, fun r10 H10 a10 b10 p10 k10 => ?_⟩
    have K10 : Keep H H10 := by walk_at "keep"
    have P10 : Pen H10 d (n + 20) := p10.mono (by omega)
    walk_at "go"
    refine w_ite (fun hc => ?_) (fun hc => ?_)
    · walk_at "go"
      exact q _ _ (by rw [Int.natAbs_neg]; exact found1) P10 K10
    · walk_at "go"
      exact q _ _ found1 P10 K10
def sp_pen (K : PySem.W.Frag) : Sp := fun vs H Q _ => ∃ (a : Addr) (ns : List Int), vs = [.ref a] ∧ SqL K H a (ns.map V.int) ∧ ns.length ≤ 63 ∧
  ∀ (d : Addr) (H' : Hp), Pen H' d 0 → Same H H' → Q (.ref d) H'
theorem ok__law_pen (T : Tx w K mg) : FnOk P w K mg base CX0 1 T.f__law_pen T.fd__law_pen ["_law_script"] (sp_pen K) := by
  refine T.F__law_pen.ok sc__law_pen (fun vs H Q E h => ?_) (fun cdv A outer s H vs Q E hr h => ?_)
  · obtain ⟨a, ns, rfl, _⟩ := h
    rfl
  · obtain ⟨a, ns, rfl, hS, hl, q⟩ := h
    have hu := hu_of hr
    have hu64 := hu64_of hr
    refine ⟨_, (pss_one (ps_ret (pe_disp (pps_cons pe_str (pe_callTy call_list_of (by rfl) T.z_list (by decide +kernel) (pa_cons (pe_slice sl_list (pv 0) po_none (po_some pe_int)) pa_nil)) (pps_cons pe_str pe_int (pps_cons pe_str pe_int pps_nil))) rfl rfl (by simp) (by decide)))), ?_⟩
    walk_at "go"
    refine w_disp (fun Q' eQ p H1 np s1 hp => ?_)
    walk_at "go"
    refine w_slL (s1.seq hS) (fun l2 H2 n2 s2 e2 => ?_)
    walk_at "go"
    obtain ⟨ms, em, lm⟩ := cut_ints ns none (some 63)
    rw [em] at e2
    refine ⟨l2, _, rfl, .inl (.inl (.inl e2)), fun l3 n3 => ?_⟩
    have s3 := same_upd (o := .lst (ms.map V.int)) n3
    have e3 : upd H2 l3 (.lst (ms.map V.int)) l3 = some (.lst (ms.map V.int)) := upd_same
    walk_at "go"
    generalize upd H2 l3 (.lst (ms.map V.int)) = H3 at *
    refine w_dend [(Sum.inr "cells", .ref l3), (Sum.inr "at", .int 0), (Sum.inr "left", .int 0)] eQ (s3 _ _ (s2 _ _ hp)) rfl (Nat.le_of_ble_eq_true rfl) (fun H4 k4 sm4 e4 => ?_)
    refine q p H4 ⟨l3, ms, 0, 0, ?_, k4 _ _ e3 rfl, Int.le_refl _, Int.le_refl _, Int.le_refl _, by omega⟩ (sm4 H ((s1.trans s2).trans s3) np)
    rw [e4]
    rfl
end
end K05
namespace K05
open PySem L2 DS
set_option pp.maxSteps 1200
local macro_rules | `(tactic| walk_at "c") => `(tactic| first
  | (dsimp only; omega)
  | omega
  | (show CMulA _ _; first | exact CMulA.s1 (by omega) (by omega) | exact CMulA.s2 (by omega) (by omega))
  | (show CDivW _ _; first | exact ⟨by omega, by assumption⟩ | exact ⟨by omega, by decide⟩)
  | (show CPow _ _; exact ⟨by decide, by decide, by decide⟩)
  | assumption)
local macro_rules | `(tactic| walk_at "get") => `(tactic| first
  | assumption
  | (refine (by assumption : Same _ _) _ _ ?_; walk_at "get")
  | (refine (by assumption : Keep _ _) _ _ ?_ rfl; walk_at "get"))
local macro_rules | `(tactic| walk_at "pen") => `(tactic| first
  | assumption
  | (refine Pen.same (by assumption) ?_; walk_at "pen")
  | (refine Pen.mono ?_ (by omega); assumption))
local macro_rules | `(tactic| walk_at "keep") => `(tactic| first
  | assumption
  | exact Keep.refl _
  | exact Keep.of (by assumption)
  | (refine Keep.trans ?_ (by assumption); walk_at "keep")
  | (refine Keep.same ?_ (by assumption); walk_at "keep"))
local macro_rules | `(tactic| walk_at "same") => `(tactic| first
  | assumption
  | exact Same.refl _
  | (refine Same.trans ?_ (by assumption); walk_at "same"))
local macro_rules | `(tactic| walk_at "s") => `(tactic| first
  | with_reducible refine w_seq ?_
  | with_reducible refine w_asg ?_
  | with_reducible refine w_name ?_
  | ((with_reducible apply w_var); exact rfl)
  | with_reducible refine w_c ?_
  | with_reducible refine w_op ?_
  | with_reducible refine w_I0 ?_
  | ((with_reducible apply w_I); (walk_at "c"))
  | with_reducible refine w_cons ?_
  | with_reducible refine w_nil ?_
  | with_reducible refine w_cb ?_
  | with_reducible refine w_int1 ?_
  | with_reducible refine w_int1b ?_
  | with_reducible refine w_call ?_
  | with_reducible refine w_ifs ?_
  | with_reducible refine w_test ?_
  | with_reducible refine w_k ?_
  | with_reducible refine w_ret ?_
  | with_reducible refine w_drop ?_
  | with_reducible refine w_not ?_
  | with_reducible refine w_and ?_
  | with_reducible refine w_or ?_
  | with_reducible refine w_andV ?_
  | with_reducible refine w_orV ?_
  | with_reducible refine w_notV ?_
  | with_reducible refine w_if ?_
  | with_reducible refine w_B ?_
  | with_reducible refine w_un ?_
  | with_reducible refine w_U ?_
  | (with_reducible refine w_tup ?_; intro _ _)
  | (with_reducible refine w_lst ?_; intro _ _)
  | with_reducible refine w_dget ?_
  | with_reducible refine w_dput ?_
  | with_reducible refine w_fld ?_
  | with_reducible refine w_meth ?_
  | (with_reducible refine w_make ?_; intro _ _)
  | with_reducible refine w_par ?_
  | with_reducible refine w_par3 ?_
  | with_reducible refine w_two ?_
  | with_reducible refine w_three ?_
  | with_reducible refine w_one ?_
  | with_reducible refine w_chain ?_
  | with_reducible refine w_next ?_
  | with_reducible refine w_brk ?_
  | with_reducible refine w_cont ?_
  | with_reducible refine w_retN ?_
  | with_reducible refine w_gcons ?_
  | with_reducible refine w_gnil ?_
  | ((with_reducible refine w_eq ?_ ?_); exact rfl)
  | ((with_reducible refine w_ne ?_ ?_); exact rfl)
  | with_reducible refine w_part ?_
  | with_reducible refine w_lc ?_
  | with_reducible refine w_yes ?_
  | with_reducible refine w_iTup ?_
  | with_reducible refine w_iList ?_
  | with_reducible refine w_unT ?_
  | with_reducible refine w_unT0 ?_
  | with_reducible refine w_unL ?_
  | with_reducible refine w_unL0 ?_
  | ((with_reducible apply w_gtup); (walk_at "get"); (exact rfl))
  | with_reducible refine w_gfld ?_
  | with_reducible refine w_sfld ?_
  | with_reducible refine w_risi ?_
  | with_reducible refine w_i ?_
  | with_reducible refine w_pnil ?_
  | with_reducible refine w_pcons ?_
  | with_reducible refine w_sl ?_
  | with_reducible refine w_nopart ?_
  | with_reducible refine w_for ?_
  | with_reducible refine w_while ?_
  | with_reducible refine w_irng1 ?_
  | with_reducible refine w_irng2 ?_
  | with_reducible refine And.intro (rfl : V.non = V.non) ?_)
local macro_rules | `(tactic| walk_at "go") => `(tactic| repeat (walk_at "s"))

section
variable {P : Program} {w : World} {K : PySem.W.Frag} {mg : Str → Option Value} {base : Heap}
def sp_isint (K : PySem.W.Frag) : Sp := fun vs H Q _ => ∃ (v : V) (b : Bool), vs = [v] ∧ IntLike K H v b ∧ Q (.bl b) H
theorem ok_is_integer (T : Tx w K mg) : FnOk P w K mg base CX0 1 T.f_is_integer T.fd_is_integer ["value"] (sp_isint K) := by
  refine T.F_is_integer.ok sc_is_integer (fun vs H Q E h => ?_) (fun cdv A outer s H vs Q E hr h => ?_)
  · obtain ⟨v, b, rfl, _⟩ := h
    rfl
  · obtain ⟨v, b, rfl, ⟨r1, r2, i1, i2, rfl⟩, q⟩ := h
    refine ⟨_, (pss_one (ps_ret (pe_and (pe_callB call_isi (by rfl) T.z_isinstance (by decide +kernel) (pa_cons (pv 0) (pa_cons (pe_bltn (v := .ty "int") (by rfl) T.z_int (by decide +kernel) rfl) pa_nil))) (pe_one (pe_not (pe_callB call_isi (by rfl) T.z_isinstance (by decide +kernel) (pa_cons (pv 0) (pa_cons (pe_bltn (v := .ty "bool") (by rfl) T.z_bool (by decide +kernel) rfl) pa_nil)))))))), ?_⟩
    walk_at "go"
    refine w_isI i1 ?_
    walk_at "go"
    refine w_iteB (fun hc => ?_) (fun hc => ?_)
    · walk_at "go"
      refine w_isI i2 ?_
      walk_at "go"
      rw [hc] at q
      exact q
    · walk_at "go"
      rw [hc] at q
      exact q
def sp_iswhole (K : PySem.W.Frag) : Sp := fun vs H Q _ => ∃ v : V, vs = [v] ∧ ((∃ n, v = .int n ∧ Q (.bl (decide (0 ≤ n))) H) ∨ (IntLike K H v false ∧ Q (.bl false) H))
theorem ok_is_whole (T : Tx w K mg) : FnOk P w K mg base CX0 2 T.f_is_whole T.fd_is_whole ["value"] (sp_iswhole K) := by
  refine T.F_is_whole.ok sc_is_whole (fun vs H Q E h => ?_) (fun cdv A outer s H vs Q E hr h => ?_)
  · obtain ⟨v, rfl, _⟩ := h
    rfl
  · obtain ⟨v, rfl, q⟩ := h
    refine ⟨_, (pss_one (ps_ret (pe_and (pe_call (ok_is_integer T) (hr.mono (by decide)) rfl T.g_is_integer T.F_is_integer.kp T.b_is_integer .nil pass0 (pa_cons (pv 0) pa_nil)) (pe_one (pe_cmpR op_ge (pv 0) pe_int (nomark _)))))), ?_⟩
    walk_at "go"
    rcases q with ⟨n, rfl, q⟩ | ⟨i, q⟩
    · refine ⟨_, true, rfl, intLike_int, ?_⟩
      walk_at "go"
      refine iteT ?_
      walk_at "go"
      exact q
    · refine ⟨_, false, rfl, i, ?_⟩
      walk_at "go"
      exact iteF q
def sp_needint : Sp := fun vs H Q _ => ∃ n : Int, vs = [.int n] ∧ Q .non H
theorem ok_need_integer (T : Tx w K mg) : FnOk P w K mg base CX0 2 T.f_need_integer T.fd_need_integer ["value"] sp_needint := by
  refine T.F_need_integer.ok sc_need_integer (fun vs H Q E h => ?_) (fun cdv A outer s H vs Q E hr h => ?_)
  · obtain ⟨v, rfl, _⟩ := h
    rfl
  · obtain ⟨v, rfl, q⟩ := h
    refine ⟨_, (pss_one (ps_if (pt_not (pt_val (pe_call (ok_is_integer T) (hr.mono (by decide)) rfl T.g_is_integer T.F_is_integer.kp T.b_is_integer .nil pass0 (pa_cons (pv 0) pa_nil)))) (pss_never) pss_nil)), ?_⟩
    walk_at "go"
    refine ⟨_, true, rfl, intLike_int, ?_⟩
    walk_at "go"
    exact iteF q
def sp_needwhole : Sp := fun vs H Q _ => ∃ n : Int, vs = [.int n] ∧ 0 ≤ n ∧ Q .non H
theorem ok_need_whole (T : Tx w K mg) : FnOk P w K mg base CX0 3 T.f_need_whole T.fd_need_whole ["value"] sp_needwhole := by
  refine T.F_need_whole.ok sc_need_whole (fun vs H Q E h => ?_) (fun cdv A outer s H vs Q E hr h => ?_)
  · obtain ⟨v, rfl, _⟩ := h
    rfl
  · obtain ⟨v, rfl, h0, q⟩ := h
    refine ⟨_, (pss_one (ps_if (pt_not (pt_val (pe_call (ok_is_whole T) (hr.mono (by decide)) rfl T.g_is_whole T.F_is_whole.kp T.b_is_whole .nil pass0 (pa_cons (pv 0) pa_nil)))) (pss_never) pss_nil)), ?_⟩
    walk_at "go"
    refine ⟨_, rfl, .inl ⟨v, rfl, ?_⟩⟩
    walk_at "go"
    rw [decide_eq_true h0]
    exact iteF q
def sp_tento : Sp := fun vs H Q _ => ∃ n : Nat, vs = [.int n] ∧ n ≤ 10000 ∧ ∀ H', Same H H' → Q (.int (10 ^ n)) H'
theorem ok_ten_to (T : Tx w K mg) : FnOk P w K mg base CX0 1 T.f_ten_to T.fd_ten_to ["number"] sp_tento := by
  refine T.F_ten_to.ok sc_ten_to (fun vs H Q E h => ?_) (fun cdv A outer s H vs Q E hr h => ?_)
  · obtain ⟨v, rfl, _⟩ := h
    rfl
  · obtain ⟨n, rfl, hn, q⟩ := h
    refine ⟨_, (pss_cons (ps_asg (pe_tup (pa_cons pe_int (pa_cons pe_int pa_nil))) (pg_tup rfl (pgs_cons (pg_name (i := 1) sc_ten_to.nd rfl (Or.inl rfl)) (pgs_cons (pg_name (i := 2) sc_ten_to.nd rfl (Or.inl rfl)) pgs_nil))))
      (pss_cons (ps_while PassesOwn.never (pt_cmpR op_gt (pv 0) pe_int (nomark _)) (pss_cons (ps_if (pt_cmpR op_eq (pe_op op_mod (pv 0) pe_int) pe_int (nomark _)) (pss_one (ps_set (i := 1) sc_ten_to.nd rfl (Or.inl rfl) (pe_op op_mulA (pv 1) (pv 2)))) pss_nil)
      (pss_cons (ps_set (i := 2) sc_ten_to.nd rfl (Or.inl rfl) (pe_op op_mulA (pv 2) (pv 2)))
      (pss_one (ps_set (i := 0) sc_ten_to.nd rfl (Or.inl rfl) (pe_op op_fdivW (pv 0) pe_int))))))
      (pss_one (ps_ret (pv 1))))), ?_⟩
    walk_at "go"
    refine w_new (by assumption) (Nat.le_of_ble_eq_true rfl) (fun p1 H1 n1 s1 e1 => ?_)
    walk_at "go"
    refine ⟨fun m σ H' => H' = H1 ∧ ∃ a e : Nat, σ = [some (.int (m : Int)), some (.int (10 ^ a)), some (.int (10 ^ e))] ∧ a + e * m = n, ⟨n, rfl, 0, 1, rfl, by omega⟩, fun m σ H' hI => ?_⟩
    obtain ⟨rfl, a, e, rfl, hm⟩ := hI
    walk_at "go"
    refine w_ite (fun hc => ?_) (fun hc => ?_)
    · refine ⟨_, fun _ _ h => h, ?_⟩
      have he : e ≤ n := by
        have : e * 1 ≤ e * m := Nat.mul_le_mul_left e (by omega)
        omega
      have te := ten_lt e
      have ta := ten_lt a
      have c1 : CMulA ((10 : Int) ^ a) (10 ^ e) := CMulA.w ta te (by omega)
      have c2 : CMulA ((10 : Int) ^ e) (10 ^ e) := CMulA.w te te (by omega)
      have fin : ∀ b : Nat, b + e * (m % 2) = a + e * (m % 2) + 0 → True := fun _ _ => trivial
      have hmd : ((m : Int) % 2) = ((m % 2 : Nat) : Int) := rfl
      have hmq : ((m : Int) / 2) = ((m / 2 : Nat) : Int) := rfl
      have ee : (10 : Int) ^ e * 10 ^ e = 10 ^ (e + e) := (Int.pow_add _ _ _).symm
      have ea : (10 : Int) ^ a * 10 ^ e = 10 ^ (a + e) := (Int.pow_add _ _ _).symm
      have hsum : (e + e) * (m / 2) + e * (m % 2) = e * m := by
        have h1 : m = 2 * (m / 2) + m % 2 := by omega
        calc (e + e) * (m / 2) + e * (m % 2) = e * (2 * (m / 2) + m % 2) := by rw [Nat.mul_add, ← Nat.mul_assoc, Nat.mul_comm e 2, Nat.two_mul]
          _ = e * m := by rw [← h1]
      walk_at "go"
      refine w_ite (fun hd => ?_) (fun hd => ?_)
      all_goals
        rw [V_int] at hd
        walk_at "go"
        refine ⟨m / 2, by omega, rfl, ?_⟩
      · refine ⟨a + e, e + e, by rw [ee, ea, hmq]; rfl, ?_⟩
        have h2 : m % 2 = 1 := by omega
        rw [h2] at hsum
        omega
      · refine ⟨a, e + e, by rw [ee, hmq]; rfl, ?_⟩
        have h2 : m % 2 = 0 := by omega
        rw [h2] at hsum
        omega
    · walk_at "go"
      have h0 : m = 0 := by omega
      subst h0
      have h1 : a = n := by omega
      subst h1
      exact q _ s1
def sp_lowered : Sp := fun vs H Q _ => ∃ (u : Int) (s : Nat), vs = [.int u, .int s] ∧ ∀ p H', Same H H' → H' p = some (.tup [.int (nrm u s).1, .int ((nrm u s).2 : Int)]) → Q (.ref p) H'
theorem ok_lowered (T : Tx w K mg) : FnOk P w K mg base CX0 1 T.f_lowered T.fd_lowered ["units", "scale"] sp_lowered := by
  refine T.F_lowered.ok sc_lowered (fun vs H Q E h => ?_) (fun cdv A outer s H vs Q E hr h => ?_)
  · obtain ⟨u, s, rfl, _⟩ := h
    rfl
  · obtain ⟨u, s, rfl, q⟩ := h
    refine ⟨_, (pss_cons (ps_if (pt_cmpR op_eq (pv 0) pe_int (nomark _)) (pss_one (ps_ret (pe_tup (pa_cons pe_int (pa_cons pe_int pa_nil))))) pss_nil)
      (pss_cons (ps_while PassesOwn.never (PW.pt (pw_and (pt_cmpR op_gt (pv 1) pe_int (nomark _)) (pw_and1 (pt_cmpR op_eq (pe_op op_mod (pv 0) pe_int) pe_int (nomark _))))) (pss_one (ps_par (i := 0) (j := 1) rfl sc_lowered.nd rfl rfl (by decide) rfl rfl (pa_cons (pe_op op_fdivW (pv 0) pe_int) (pa_cons (pe_op op_sub (pv 1) pe_int) pa_nil)) rfl)))
      (pss_one (ps_ret (pe_tup (pa_cons (pv 0) (pa_cons (pv 1) pa_nil))))))), ?_⟩
    walk_at "go"
    refine w_ite (fun hc => ?_) (fun hc => ?_)
    all_goals rw [V_int] at hc
    · subst hc
      walk_at "go"
      refine w_new (by assumption) (Nat.le_of_ble_eq_true rfl) (fun p1 H1 n1 s1 e1 => ?_)
      rw [nrm_zero] at q
      exact q p1 H1 s1 e1
    · walk_at "go"
      refine ⟨fun m σ H' => H' = H ∧ ∃ u' : Int, σ = [some (.int u'), some (.int (m : Int))] ∧ nrm u' m = nrm u s, ⟨s, rfl, u, rfl, rfl⟩, fun m σ H' hI => ?_⟩
      obtain ⟨rfl, u', rfl, hn⟩ := hI
      have fin : ∀ (u1 : Int) (m1 : Nat), nrm u1 m1 = (u1, m1) → u1 = u' → m1 = m → nrm u s = (u', m) := fun u1 m1 e1 e2 e3 => by rw [← hn, ← e2, ← e3, e1]
      walk_at "go"
      refine w_ite (fun hd => ?_) (fun hd => ?_)
      · walk_at "go"
        refine w_ite (fun he => ?_) (fun he => ?_)
        all_goals rw [V_int] at he
        · refine ⟨_, fun _ _ h => h, ?_⟩
          walk_at "go"
          obtain ⟨k, rfl⟩ : ∃ k, m = k + 1 := ⟨m - 1, by omega⟩
          refine ⟨k, Nat.lt_succ_self _, rfl, u' / 10, ?_, by rw [← hn, nrm_pos he]⟩
          have e1 : ((k + 1 : Nat) : Int) - 1 = (k : Int) := by omega
          rw [e1]
          rfl
        · walk_at "go"
          refine w_new (by assumption) (Nat.le_of_ble_eq_true rfl) (fun p1 H1 n1 s1 e1 => ?_)
          rw [fin u' m (nrm_neg he) rfl rfl] at q
          exact q p1 H1 s1 e1
      · refine iteF ?_
        walk_at "go"
        refine w_new (by assumption) (Nat.le_of_ble_eq_true rfl) (fun p1 H1 n1 s1 e1 => ?_)
        have h0 : m = 0 := by omega
        subst h0
        rw [fin u' 0 rfl rfl rfl] at q
        exact q p1 H1 s1 e1
theorem ok_Worth___init__ (T : Tx w K mg) : FnOk P w K mg base CX0 4 T.f_Worth___init__ T.fd_Worth___init__ ["self", "units", "scale"] (sp_winit T.C_Worth) := by
  refine T.F_Worth___init__.ok sc_Worth___init__ (fun vs H Q E h => ?_) (fun cdv A outer s H vs Q E hr h => ?_)
  · obtain ⟨p, dx, u, s, rfl, _⟩ := h
    rfl
  · obtain ⟨p, dx, u, s, rfl, hp, q⟩ := h
    refine ⟨_, PSs.nox (pss_cons (ps_expr (pe_call (ok_need_integer T) (hr.mono (by decide)) rfl T.g_need_integer T.F_need_integer.kp T.b_need_integer .nil pass0 (pa_cons (pv 1) pa_nil)))
      (pss_cons (ps_expr (pe_call (ok_need_whole T) (hr.mono (by decide)) rfl T.g_need_whole T.F_need_whole.kp T.b_need_whole .nil pass0 (pa_cons (pv 2) pa_nil)))
      (pss_one (ps_asg (pe_call (ok_lowered T) (hr.mono (by decide)) rfl T.g_lowered T.F_lowered.kp T.b_lowered .nil pass0 (pa_cons (pv 1) (pa_cons (pv 2) pa_nil))) (pg_tup rfl (pgs_cons (pg_attr (pv 0)) (pgs_cons (pg_attr (pv 0)) pgs_nil))))))), ?_⟩
    walk_at "go"
    refine ⟨u, rfl, ?_⟩
    walk_at "go"
    refine ⟨s, rfl, by omega, ?_⟩
    walk_at "go"
    refine ⟨u, s, rfl, fun t1 H1 s1 e1 => ?_⟩
    walk_at "go"
    refine ⟨p, _, dx, [], rfl, s1 _ _ hp, T.cl_Worth, T.n_Worth_units, by decide, ?_⟩
    walk_at "go"
    refine ⟨p, _, dx, _, rfl, upd_same, T.cl_Worth, T.n_Worth_scale, (by show 1 < 1000; decide), ?_⟩
    walk_at "go"
    rw [wf_put, upd_upd]
    refine q _ upd_same (fun b o nb e => ?_)
    rw [upd_ne nb]
    exact s1 _ _ e
end
end K05
namespace K05
open PySem L2 DS
set_option pp.maxSteps 1200
local macro_rules | `(tactic| walk_at "c") => `(tactic| first
  | (dsimp only; omega)
  | omega
  | (show CMulA _ _; first | exact CMulA.s1 (by omega) (by omega) | exact CMulA.s2 (by omega) (by omega))
  | (show CDivW _ _; first | exact ⟨by omega, by assumption⟩ | exact ⟨by omega, by decide⟩)
  | (show CPow _ _; exact ⟨by decide, by decide, by decide⟩)
  | assumption)
local macro_rules | `(tactic| walk_at "get") => `(tactic| first
  | assumption
  | (refine (by assumption : Same _ _) _ _ ?_; walk_at "get")
  | (refine (by assumption : Keep _ _) _ _ ?_ rfl; walk_at "get"))
local macro_rules | `(tactic| walk_at "pen") => `(tactic| first
  | assumption
  | (refine Pen.same (by assumption) ?_; walk_at "pen")
  | (refine Pen.mono ?_ (by omega); assumption))
local macro_rules | `(tactic| walk_at "keep") => `(tactic| first
  | assumption
  | exact Keep.refl _
  | exact Keep.of (by assumption)
  | (refine Keep.trans ?_ (by assumption); walk_at "keep")
  | (refine Keep.same ?_ (by assumption); walk_at "keep"))
local macro_rules | `(tactic| walk_at "same") => `(tactic| first
  | assumption
  | exact Same.refl _
  | (refine Same.trans ?_ (by assumption); walk_at "same"))
local macro_rules | `(tactic| walk_at "s") => `(tactic| first
  | with_reducible refine w_seq ?_
  | with_reducible refine w_asg ?_
  | with_reducible refine w_name ?_
  | ((with_reducible apply w_var); exact rfl)
  | with_reducible refine w_c ?_
  | with_reducible refine w_op ?_
  | with_reducible refine w_I0 ?_
  | ((with_reducible apply w_I); (walk_at "c"))
  | with_reducible refine w_cons ?_
  | with_reducible refine w_nil ?_
  | with_reducible refine w_cb ?_
  | with_reducible refine w_int1 ?_
  | with_reducible refine w_int1b ?_
  | with_reducible refine w_call ?_
  | with_reducible refine w_ifs ?_
  | with_reducible refine w_test ?_
  | with_reducible refine w_k ?_
  | with_reducible refine w_ret ?_
  | with_reducible refine w_drop ?_
  | with_reducible refine w_not ?_
  | with_reducible refine w_and ?_
  | with_reducible refine w_or ?_
  | with_reducible refine w_andV ?_
  | with_reducible refine w_orV ?_
  | with_reducible refine w_notV ?_
  | with_reducible refine w_if ?_
  | with_reducible refine w_B ?_
  | with_reducible refine w_un ?_
  | with_reducible refine w_U ?_
  | (with_reducible refine w_tup ?_; intro _ _)
  | (with_reducible refine w_lst ?_; intro _ _)
  | with_reducible refine w_dget ?_
  | with_reducible refine w_dput ?_
  | with_reducible refine w_fld ?_
  | with_reducible refine w_meth ?_
  | (with_reducible refine w_make ?_; intro _ _)
  | with_reducible refine w_par ?_
  | with_reducible refine w_par3 ?_
  | with_reducible refine w_two ?_
  | with_reducible refine w_three ?_
  | with_reducible refine w_one ?_
  | with_reducible refine w_chain ?_
  | with_reducible refine w_next ?_
  | with_reducible refine w_brk ?_
  | with_reducible refine w_cont ?_
  | with_reducible refine w_retN ?_
  | with_reducible refine w_gcons ?_
  | with_reducible refine w_gnil ?_
  | ((with_reducible refine w_eq ?_ ?_); exact rfl)
  | ((with_reducible refine w_ne ?_ ?_); exact rfl)
  | with_reducible refine w_part ?_
  | with_reducible refine w_lc ?_
  | with_reducible refine w_yes ?_
  | with_reducible refine w_iTup ?_
  | with_reducible refine w_iList ?_
  | with_reducible refine w_unT ?_
  | with_reducible refine w_unT0 ?_
  | with_reducible refine w_unL ?_
  | with_reducible refine w_unL0 ?_
  | ((with_reducible apply w_gtup); (walk_at "get"); (exact rfl))
  | with_reducible refine w_gfld ?_
  | with_reducible refine w_sfld ?_
  | with_reducible refine w_risi ?_
  | with_reducible refine w_i ?_
  | with_reducible refine w_pnil ?_
  | with_reducible refine w_pcons ?_
  | with_reducible refine w_sl ?_
  | with_reducible refine w_nopart ?_
  | with_reducible refine w_for ?_
  | with_reducible refine w_while ?_
  | with_reducible refine w_irng1 ?_
  | with_reducible refine w_irng2 ?_
  | with_reducible refine And.intro (rfl : V.non = V.non) ?_)
local macro_rules | `(tactic| walk_at "go") => `(tactic| repeat (walk_at "s"))

section
variable {P : Program} {w : World} {K : PySem.W.Frag} {mg : Str → Option Value} {base : Heap}
def sp_needworth (C : Addr) : Sp := fun vs H Q _ => ∃ (p : Addr) (u : Int) (s : Nat), vs = [.ref p] ∧ WAt C H p u s ∧ Q .non H
theorem ok_need_worth (T : Tx w K mg) : FnOk P w K mg base CX0 1 T.f_need_worth T.fd_need_worth ["value"] (sp_needworth T.C_Worth) := by
  refine T.F_need_worth.ok sc_need_worth (fun vs H Q E h => ?_) (fun cdv A outer s H vs Q E hr h => ?_)
  · obtain ⟨p, u, s, rfl, _⟩ := h
    rfl
  · obtain ⟨p, u, s, rfl, ⟨dx, hp⟩, q⟩ := h
    refine ⟨_, (pss_one (ps_if (pt_not (pt_val (pe_callB call_isi (by rfl) T.z_isinstance (by decide +kernel) (pa_cons (pv 0) (pa_cons (pe_glob (v := .ref T.C_Worth) rfl T.gC_Worth rfl) pa_nil))))) (pss_never) pss_nil)), ?_⟩
    walk_at "go"
    refine w_isi (.own _) (.base (T.tyW _ _ _ _ hp)) T.kiW ?_
    walk_at "go"
    exact iteF q
def sp_needway : Sp := fun vs H Q _ => ∃ x : Str, vs = [.str x] ∧ x ∈ waysL ∧ Q .non H
theorem ok_need_way (T : Tx w K mg) : FnOk P w K mg base CX0 1 T.f_need_way T.fd_need_way ["value"] sp_needway := by
  refine T.F_need_way.ok sc_need_way (fun vs H Q E h => ?_) (fun cdv A outer s H vs Q E hr h => ?_)
  · obtain ⟨x, rfl, _⟩ := h
    rfl
  · obtain ⟨x, rfl, hx, q⟩ := h
    refine ⟨_, (pss_one (ps_if (pt_cmpR op_notIn_seq (pv 0) (pe_glob (v := .ref T.a_WAYS) rfl T.gv_WAYS rfl) rfl) (pss_never) pss_nil)), ?_⟩
    walk_at "go"
    refine ⟨_, _, rfl, .inr (T.sq_WAYS H), rfl, flat_strs _, ?_⟩
    rw [in_strs hx]
    walk_at "go"
    exact iteF q
def sp_mirrored : Sp := fun vs H Q _ => ∃ x : Str, vs = [.str x] ∧ x ∈ waysL ∧ Q (.str (mirF x)) H
theorem ok_mirrored (T : Tx w K mg) : FnOk P w K mg base CX0 2 T.f_mirrored T.fd_mirrored ["way"] sp_mirrored := by
  refine T.F_mirrored.ok sc_mirrored (fun vs H Q E h => ?_) (fun cdv A outer s H vs Q E hr h => ?_)
  · obtain ⟨x, rfl, _⟩ := h
    rfl
  · obtain ⟨x, rfl, hx, q⟩ := h
    refine ⟨_, (pss_cons (ps_expr (pe_call (ok_need_way T) (hr.mono (by decide)) rfl T.g_need_way T.F_need_way.kp T.b_need_way .nil pass0 (pa_cons (pv 0) pa_nil)))
      (pss_one (ps_ret (pe_kget2 T.D_M (pe_glob (v := .ref T.a_MIRRORS) rfl T.gv_MIRRORS rfl) (pv 0) (pv 0) ⟨rfl, rfl, rfl, rfl⟩)))), ?_⟩
    walk_at "go"
    refine ⟨x, rfl, hx, ?_⟩
    walk_at "go"
    refine ⟨rfl, ?_⟩
    walk_at "go"
    obtain ⟨r, hr1, hr2⟩ := T.mir x hx
    refine ⟨x, r, rfl, hr1, ?_⟩
    rcases hr2 with ⟨e, e2⟩ | ⟨t, e⟩
    · rw [e2] at q
      exact .inl ⟨e, q⟩
    · exact .inr ⟨_, .str (mirF x), e, ⟨t, rfl⟩, q⟩
def tieF (x : Str) (n o : Bool) : Bool := if x = "halfup" then true else if x = "halfdown" then false else if x = "halfeven" then o else if x = "halfaway" then !n else n
def liftF (x : Str) (p : Int) (n o : Bool) : Int := if p = 0 then 0 else if x = "floor" then 0 else if x = "ceiling" then 1 else if x = "cut" then (if n then 1 else 0) else if x = "away" then (if !n then 1 else 0) else
  if p = 2 then (if tieF x n o then 1 else 0) else (if p = 3 then 1 else 0)
def tiesL (n o : Bool) : List (Key × V) := [(Sum.inr "halfup", V.bl true), (Sum.inr "halfdown", .bl false), (Sum.inr "halfeven", .bl o), (Sum.inr "halfaway", .bl (!n)), (Sum.inr "halfcut", .bl n)]
theorem ties_val (n o : Bool) {x : Str} (hx : x ∈ waysL) (h1 : ¬ x = "floor") (h2 : ¬ x = "ceiling") (h3 : ¬ x = "cut") (h4 : ¬ x = "away") : valV (mergeK [] (tiesL n o)) (Sum.inr x) = some (.bl (tieF x n o)) := by
  simp only [waysL, List.mem_cons, List.not_mem_nil, or_false] at hx
  rcases hx with rfl | rfl | rfl | rfl | rfl | rfl | rfl | rfl | rfl
  · exact absurd rfl h1
  · exact absurd rfl h2
  · exact absurd rfl h3
  · exact absurd rfl h4
  all_goals cases n <;> cases o <;> decide +kernel
def sp_lift : Sp := fun vs H Q _ => ∃ (x : Str) (p : Int) (n o : Bool), vs = [.str x, .int p, .bl n, .bl o] ∧ x ∈ waysL ∧ ∀ H', Same H H' → Q (.int (liftF x p n o)) H'
theorem ok_lift (T : Tx w K mg) : FnOk P w K mg base CX0 1 T.f_lift T.fd_lift ["way", "part", "negative", "odd"] sp_lift := by
  refine T.F_lift.ok sc_lift (fun vs H Q E h => ?_) (fun cdv A outer s H vs Q E hr h => ?_)
  · obtain ⟨x, p, n, o, rfl, _⟩ := h
    rfl
  · obtain ⟨x, p, n, o, rfl, hx, q⟩ := h
    have hu := hu_of hr
    refine ⟨_, (pss_cons (ps_if (PW.pt (pw_or (pt_cmpR op_eq (pv 1) pe_int (nomark _)) (pw_or1 (pt_cmpR op_eq (pv 0) pe_str (nomark _))))) (pss_one (ps_ret pe_int)) pss_nil)
      (pss_cons (ps_if (pt_cmpR op_eq (pv 0) pe_str (nomark _)) (pss_one (ps_ret pe_int)) pss_nil)
      (pss_cons (ps_if (pt_cmpR op_eq (pv 0) pe_str (nomark _)) (pss_one (ps_ret (pe_callTy call_int1 (by rfl) T.z_int (by decide +kernel) (pa_cons (pv 2) pa_nil)))) pss_nil)
      (pss_cons (ps_if (pt_cmpR op_eq (pv 0) pe_str (nomark _)) (pss_one (ps_ret (pe_callTy call_int1 (by rfl) T.z_int (by decide +kernel) (pa_cons (pe_not (pv 2)) pa_nil)))) pss_nil)
      (pss_cons (ps_if (pt_cmpR op_ne (pv 1) pe_int (nomark _)) (pss_one (ps_ret (pe_callTy call_int1 (by rfl) T.z_int (by decide +kernel) (pa_cons (pe_cmpR op_eq (pv 1) pe_int (nomark _)) pa_nil)))) pss_nil)
      (pss_cons (ps_set (i := 4) sc_lift.nd rfl (Or.inl rfl) (pe_disp (pps_cons pe_str pe_bl (pps_cons pe_str pe_bl (pps_cons pe_str (pv 3) (pps_cons pe_str (pe_not (pv 2)) (pps_cons pe_str (pv 2) pps_nil))))) rfl rfl (by simp) (by decide)))
      (pss_one (ps_ret (pe_callTy call_int1 (by rfl) T.z_int (by decide +kernel) (pa_cons (pe_dget hu (pv 4) (pv 0) (fun _ _ => rfl)) pa_nil)))))))))), ?_⟩
    walk_at "go"
    refine w_ite (fun h0 => ?_) (fun h0 => ?_)
    all_goals rw [V_int] at h0
    · refine iteT ?_
      walk_at "go"
      have z := q H (Same.refl H)
      simp only [liftF, h0, if_true] at z
      exact z
    walk_at "go"
    refine w_ite (fun h1 => ?_) (fun h1 => ?_)
    all_goals rw [V_str] at h1
    · walk_at "go"
      have z := q H (Same.refl H)
      simp only [liftF, h0, h1, if_true, if_false] at z
      exact z
    walk_at "go"
    refine w_ite (fun h2 => ?_) (fun h2 => ?_)
    all_goals rw [V_str] at h2
    · walk_at "go"
      have z := q H (Same.refl H)
      simp only [liftF, h0, h1, if_neg, if_false] at z
      rw [if_pos h2] at z
      exact z
    walk_at "go"
    refine w_ite (fun h3 => ?_) (fun h3 => ?_)
    all_goals rw [V_str] at h3
    · walk_at "go"
      have z := q H (Same.refl H)
      unfold liftF at z
      rw [if_neg h0, if_neg h1, if_neg h2, if_pos h3] at z
      exact z
    walk_at "go"
    refine w_ite (fun h4 => ?_) (fun h4 => ?_)
    all_goals rw [V_str] at h4
    · walk_at "go"
      have z := q H (Same.refl H)
      unfold liftF at z
      rw [if_neg h0, if_neg h1, if_neg h2, if_neg h3, if_pos h4] at z
      exact z
    walk_at "go"
    refine w_iteN (fun h5 => ?_) (fun h5 => ?_)
    all_goals rw [V_int] at h5
    · walk_at "go"
      have z := q H (Same.refl H)
      unfold liftF at z
      rw [if_neg h0, if_neg h1, if_neg h2, if_neg h3, if_neg h4, if_neg h5] at z
      have e : (if decide (V.int p = V.int 3) = true then (1 : Int) else 0) = if p = 3 then 1 else 0 := by simp only [V_int, decide_eq_true_eq]
      rw [e]
      exact z
    walk_at "go"
    refine w_disp (fun Q' eQ d H1 nd s1 hd => ?_)
    walk_at "go"
    refine w_dend (tiesL n o) eQ hd rfl (Nat.le_of_ble_eq_true rfl) (fun H2 k2 sm2 e2 => ?_)
    walk_at "go"
    refine w_dg e2 (ties_val n o hx h1 h2 h3 h4) ?_
    walk_at "go"
    have z := q H2 (sm2 H s1 nd)
    unfold liftF at z
    rw [if_neg h0, if_neg h1, if_neg h2, if_neg h3, if_neg h4, if_pos h5] at z
    exact z
def partF (l d : Int) : Int := if l = 0 then 0 else 2 + (if d < 2 * l then 1 else 0) - (if 2 * l < d then 1 else 0)
def sp_part : Sp := fun vs H Q _ => ∃ l d : Int, vs = [.int l, .int d] ∧ Q (.int (partF l d)) H
theorem ok_part_of (T : Tx w K mg) : FnOk P w K mg base CX0 1 T.f_part_of T.fd_part_of ["left", "divisor"] sp_part := by
  refine T.F_part_of.ok sc_part_of (fun vs H Q E h => ?_) (fun cdv A outer s H vs Q E hr h => ?_)
  · obtain ⟨l, d, rfl, _⟩ := h
    rfl
  · obtain ⟨l, d, rfl, q⟩ := h
    refine ⟨_, (pss_cons (ps_if (pt_cmpR op_eq (pv 0) pe_int (nomark _)) (pss_one (ps_ret pe_int)) pss_nil)
      (pss_one (ps_ret (pe_op op_sub (pe_op op_add pe_int (pe_callTy call_int1 (by rfl) T.z_int (by decide +kernel) (pa_cons (pe_cmpR op_gt (pe_op op_mulA pe_int (pv 0)) (pv 1) (nomark _)) pa_nil))) (pe_callTy call_int1 (by rfl) T.z_int (by decide +kernel) (pa_cons (pe_cmpR op_lt (pe_op op_mulA pe_int (pv 0)) (pv 1) (nomark _)) pa_nil)))))), ?_⟩
    walk_at "go"
    refine w_ite (fun h0 => ?_) (fun h0 => ?_)
    all_goals rw [V_int] at h0
    · walk_at "go"
      unfold partF at q
      rw [if_pos h0] at q
      exact q
    · walk_at "go"
      unfold partF at q
      rw [if_neg h0] at q
      simp only [decide_eq_true_eq]
      exact q
def divF (n d : Int) (x : Str) : Int := n / d + liftF x (partF (n % d) d) (decide (n < 0)) (decide (n / d % 2 = 1))
def sp_div : Sp := fun vs H Q _ => ∃ (n d : Int) (x : Str), vs = [.int n, .int d, .str x] ∧ x ∈ waysL ∧ 0 < d ∧ n.natAbs < 2 ^ 4000 ∧ ∀ H', Same H H' → Q (.int (divF n d x)) H'
theorem ok_divided_by (T : Tx w K mg) : FnOk P w K mg base CX0 2 T.f_divided_by T.fd_divided_by ["number", "divisor", "way"] sp_div := by
  refine T.F_divided_by.ok sc_divided_by (fun vs H Q E h => ?_) (fun cdv A outer s H vs Q E hr h => ?_)
  · obtain ⟨n, d, x, rfl, _⟩ := h
    rfl
  · obtain ⟨n, d, x, rfl, hx, hd, hn, q⟩ := h
    refine ⟨_, (pss_cons (ps_asg (pe_callB call_divmodW (by rfl) T.z_divmod (by decide +kernel) (pa_cons (pv 0) (pa_cons (pv 1) pa_nil))) (pg_tup rfl (pgs_cons (pg_name (i := 3) sc_divided_by.nd rfl (Or.inl rfl)) (pgs_cons (pg_name (i := 4) sc_divided_by.nd rfl (Or.inl rfl)) pgs_nil))))
      (pss_one (ps_ret (pe_op op_add (pv 3) (pe_call (ok_lift T) (hr.mono (by decide)) rfl T.g_lift T.F_lift.kp T.b_lift .nil pass0 (pa_cons (pv 2) (pa_cons (pe_call (ok_part_of T) (hr.mono (by decide)) rfl T.g_part_of T.F_part_of.kp T.b_part_of .nil pass0 (pa_cons (pv 4) (pa_cons (pv 1) pa_nil))) (pa_cons (pe_cmpR op_lt (pv 0) pe_int (nomark _)) (pa_cons (pe_cmpR op_eq (pe_op op_mod (pv 3) pe_int) pe_int (nomark _)) pa_nil))))))))), ?_⟩
    walk_at "go"
    refine ⟨n, d, rfl, divp_of hd hn, fun p np => ?_⟩
    have s1 := same_upd (o := .tup [.int (n / d), .int (n % d)]) np
    have e1 : upd H p (.tup [.int (n / d), .int (n % d)]) p = some (.tup [.int (n / d), .int (n % d)]) := upd_same
    generalize upd H p (.tup [.int (n / d), .int (n % d)]) = H1 at *
    walk_at "go"
    refine ⟨_, _, rfl, ?_⟩
    walk_at "go"
    refine ⟨_, _, _, _, rfl, hx, fun H2 s2 => ?_⟩
    walk_at "go"
    have z := q H2 (s1.trans s2)
    unfold divF at z
    simp only [V_int]
    exact z
end
end K05
namespace K05
open PySem L2 DS
set_option pp.maxSteps 1200
local macro_rules | `(tactic| walk_at "c") => `(tactic| first
  | (dsimp only; omega)
  | omega
  | (show CMulA _ _; first | exact CMulA.s1 (by omega) (by omega) | exact CMulA.s2 (by omega) (by omega))
  | (show CDivW _ _; first | exact ⟨by omega, by assumption⟩ | exact ⟨by omega, by decide⟩)
  | (show CPow _ _; exact ⟨by decide, by decide, by decide⟩)
  | assumption)
local macro_rules | `(tactic| walk_at "get") => `(tactic| first
  | assumption
  | (refine (by assumption : Same _ _) _ _ ?_; walk_at "get")
  | (refine (by assumption : Keep _ _) _ _ ?_ rfl; walk_at "get"))
local macro_rules | `(tactic| walk_at "pen") => `(tactic| first
  | assumption
  | (refine Pen.same (by assumption) ?_; walk_at "pen")
  | (refine Pen.mono ?_ (by omega); assumption))
local macro_rules | `(tactic| walk_at "keep") => `(tactic| first
  | assumption
  | exact Keep.refl _
  | exact Keep.of (by assumption)
  | (refine Keep.trans ?_ (by assumption); walk_at "keep")
  | (refine Keep.same ?_ (by assumption); walk_at "keep"))
local macro_rules | `(tactic| walk_at "same") => `(tactic| first
  | assumption
  | exact Same.refl _
  | (refine Same.trans ?_ (by assumption); walk_at "same"))
local macro_rules | `(tactic| walk_at "s") => `(tactic| first
  | with_reducible refine w_seq ?_
  | with_reducible refine w_asg ?_
  | with_reducible refine w_name ?_
  | ((with_reducible apply w_var); exact rfl)
  | with_reducible refine w_c ?_
  | with_reducible refine w_op ?_
  | with_reducible refine w_I0 ?_
  | ((with_reducible apply w_I); (walk_at "c"))
  | with_reducible refine w_cons ?_
  | with_reducible refine w_nil ?_
  | with_reducible refine w_cb ?_
  | with_reducible refine w_int1 ?_
  | with_reducible refine w_int1b ?_
  | with_reducible refine w_call ?_
  | with_reducible refine w_ifs ?_
  | with_reducible refine w_test ?_
  | with_reducible refine w_k ?_
  | with_reducible refine w_ret ?_
  | with_reducible refine w_drop ?_
  | with_reducible refine w_not ?_
  | with_reducible refine w_and ?_
  | with_reducible refine w_or ?_
  | with_reducible refine w_andV ?_
  | with_reducible refine w_orV ?_
  | with_reducible refine w_notV ?_
  | with_reducible refine w_if ?_
  | with_reducible refine w_B ?_
  | with_reducible refine w_un ?_
  | with_reducible refine w_U ?_
  | (with_reducible refine w_tup ?_; intro _ _)
  | (with_reducible refine w_lst ?_; intro _ _)
  | with_reducible refine w_dget ?_
  | with_reducible refine w_dput ?_
  | with_reducible refine w_fld ?_
  | with_reducible refine w_meth ?_
  | (with_reducible refine w_make ?_; intro _ _)
  | with_reducible refine w_par ?_
  | with_reducible refine w_par3 ?_
  | with_reducible refine w_two ?_
  | with_reducible refine w_three ?_
  | with_reducible refine w_one ?_
  | with_reducible refine w_chain ?_
  | with_reducible refine w_next ?_
  | with_reducible refine w_brk ?_
  | with_reducible refine w_cont ?_
  | with_reducible refine w_retN ?_
  | with_reducible refine w_gcons ?_
  | with_reducible refine w_gnil ?_
  | ((with_reducible refine w_eq ?_ ?_); exact rfl)
  | ((with_reducible refine w_ne ?_ ?_); exact rfl)
  | with_reducible refine w_part ?_
  | with_reducible refine w_lc ?_
  | with_reducible refine w_yes ?_
  | with_reducible refine w_iTup ?_
  | with_reducible refine w_iList ?_
  | with_reducible refine w_unT ?_
  | with_reducible refine w_unT0 ?_
  | with_reducible refine w_unL ?_
  | with_reducible refine w_unL0 ?_
  | ((with_reducible apply w_gtup); (walk_at "get"); (exact rfl))
  | with_reducible refine w_gfld ?_
  | with_reducible refine w_sfld ?_
  | with_reducible refine w_risi ?_
  | with_reducible refine w_i ?_
  | with_reducible refine w_pnil ?_
  | with_reducible refine w_pcons ?_
  | with_reducible refine w_sl ?_
  | with_reducible refine w_nopart ?_
  | with_reducible refine w_for ?_
  | with_reducible refine w_while ?_
  | with_reducible refine w_irng1 ?_
  | with_reducible refine w_irng2 ?_
  | with_reducible refine And.intro (rfl : V.non = V.non) ?_)
local macro_rules | `(tactic| walk_at "go") => `(tactic| repeat (walk_at "s"))

section
variable {P : Program} {w : World} {K : PySem.W.Frag} {mg : Str → Option Value} {base : Heap}
theorem ok_Worth___eq__ (T : Tx w K mg) : FnOk P w K mg base CX0 1 T.f_Worth___eq__ T.fd_Worth___eq__ ["self", "other"] (spEq (R_W T.C_Worth)) := by
  refine T.F_Worth___eq__.ok sc_Worth___eq__ (fun vs H Q E h => ?_) (fun cdv A outer s H vs Q E hr h => ?_)
  · obtain ⟨a, b, rfl, _⟩ := h
    rfl
  · obtain ⟨a, b, rfl, ⟨u, s, u', s', ⟨da, ha⟩, ⟨db, hb⟩, he⟩, q⟩ := h
    have hu64 := hu64_of hr
    refine ⟨_, (pss_cons (ps_if (pt_not (pt_val (pe_callB call_isi (by rfl) T.z_isinstance (by decide +kernel) (pa_cons (pv 1) (pa_cons (pe_glob (v := .ref T.C_Worth) rfl T.gC_Worth rfl) pa_nil))))) (pss_one (ps_ret pe_bl)) pss_nil)
      (pss_one (ps_ret (pe_cmpR (op_eqD hu64) (pe_tup (pa_cons (pe_fld (pv 0) rfl) (pa_cons (pe_fld (pv 0) rfl) pa_nil))) (pe_tup (pa_cons (pe_fld (pv 1) rfl) (pa_cons (pe_fld (pv 1) rfl) pa_nil))) (nomark _))))), ?_⟩
    walk_at "go"
    refine w_isi (.own _) (.base (T.tyW _ _ _ _ hb)) T.kiW ?_
    walk_at "go"
    refine iteF ?_
    walk_at "go"
    refine w_flds ha T.cl_Worth T.n_Worth_units (wf_units _ _) ?_
    walk_at "go"
    refine w_flds ha T.cl_Worth T.n_Worth_scale (wf_scale _ _) ?_
    walk_at "go"
    refine w_new (by assumption) (Nat.le_of_ble_eq_true rfl) (fun p1 H1 n1 s1 e1 => ?_)
    walk_at "go"
    refine w_flds (s1 _ _ hb) T.cl_Worth T.n_Worth_units (wf_units _ _) ?_
    walk_at "go"
    refine w_flds (s1 _ _ hb) T.cl_Worth T.n_Worth_scale (wf_scale _ _) ?_
    walk_at "go"
    refine w_new (by assumption) (Nat.le_of_ble_eq_true rfl) (fun p2 H2 n2 s2 e2 => ?_)
    walk_at "go"
    refine w_eqT2 (s2 _ _ e1) e2 ?_
    rw [he]
    have z := q H2 (s1.trans s2)
    simp only [beq_self_eq_true, Bool.and_true]
    exact z
def sp_neg (C : Addr) : Sp := fun vs H Q _ => ∃ (p : Addr) (u : Int) (s : Nat), vs = [.ref p] ∧ WAt C H p u s ∧ ∀ x H', Same H H' → WAt C H' x (-u) s → Q (.ref x) H'
theorem ok_Worth___neg__ (T : Tx w K mg) : FnOk P w K mg base CX0 6 T.f_Worth___neg__ T.fd_Worth___neg__ ["self"] (sp_neg T.C_Worth) := by
  refine T.F_Worth___neg__.ok sc_Worth___neg__ (fun vs H Q E h => ?_) (fun cdv A outer s H vs Q E hr h => ?_)
  · obtain ⟨p, u, s, rfl, _⟩ := h
    rfl
  · obtain ⟨p, u, s, rfl, ⟨dx, hp⟩, q⟩ := h
    refine ⟨_, (pss_one (ps_ret (pe_make T.M_Worth (ok_Worth___init__ T) (hr.mono (by decide)) rfl T.gC_Worth T.b_Worth___init__ .nil pass0 (pa_cons (pe_un un_neg (pe_fld (pv 0) rfl)) (pa_cons (pe_fld (pv 0) rfl) pa_nil))))), ?_⟩
    walk_at "go"
    refine w_flds hp T.cl_Worth T.n_Worth_units (wf_units _ _) ?_
    walk_at "go"
    refine w_flds hp T.cl_Worth T.n_Worth_scale (wf_scale _ _) ?_
    walk_at "go"
    refine make_worth (by assumption) (fun x H1 nx s1 h1 => ?_)
    obtain ⟨d1, h1⟩ := h1
    rw [wf_minus] at h1
    exact q x H1 s1 ⟨d1, h1⟩
/-- the units at a scale that a worth has -/
def uAt (u : Int) (s t : Nat) : Int := (nrm u s).1 * 10 ^ (t - (nrm u s).2)
def sp_unitsat (C : Addr) : Sp := fun vs H Q _ => ∃ (p : Addr) (u : Int) (s t : Nat), vs = [.ref p, .int t] ∧ WAt C H p u s ∧ (nrm u s).2 ≤ t ∧ t ≤ 10000 ∧ u.natAbs < 2 ^ 3000 ∧ ∀ H', Same H H' → Q (.int (uAt u s t)) H'
theorem ok_Worth_units_at (T : Tx w K mg) : FnOk P w K mg base CX0 4 T.f_Worth_units_at T.fd_Worth_units_at ["self", "scale"] (sp_unitsat T.C_Worth) := by
  refine T.F_Worth_units_at.ok sc_Worth_units_at (fun vs H Q E h => ?_) (fun cdv A outer s H vs Q E hr h => ?_)
  · obtain ⟨p, u, s, t, rfl, _⟩ := h
    rfl
  · obtain ⟨p, u, s, t, rfl, ⟨dx, hp⟩, ht, ht2, hu, q⟩ := h
    refine ⟨_, (pss_cons (ps_expr (pe_call (ok_need_whole T) (hr.mono (by decide)) rfl T.g_need_whole T.F_need_whole.kp T.b_need_whole .nil pass0 (pa_cons (pv 1) pa_nil)))
      (pss_cons (ps_if (pt_cmpR op_lt (pv 1) (pe_fld (pv 0) rfl) (nomark _)) (pss_never) pss_nil)
      (pss_one (ps_ret (pe_op op_mulA (pe_fld (pv 0) rfl) (pe_call (ok_ten_to T) (hr.mono (by decide)) rfl T.g_ten_to T.F_ten_to.kp T.b_ten_to .nil pass0 (pa_cons (pe_op op_sub (pv 1) (pe_fld (pv 0) rfl)) pa_nil))))))), ?_⟩
    walk_at "go"
    refine ⟨t, rfl, by omega, ?_⟩
    walk_at "go"
    refine w_flds hp T.cl_Worth T.n_Worth_scale (wf_scale _ _) ?_
    walk_at "go"
    refine w_ite (fun hc => absurd hc (by omega)) (fun hc => ?_)
    walk_at "go"
    refine w_flds hp T.cl_Worth T.n_Worth_units (wf_units _ _) ?_
    walk_at "go"
    refine w_flds hp T.cl_Worth T.n_Worth_scale (wf_scale _ _) ?_
    walk_at "go"
    refine ⟨t - (nrm u s).2, by simp; omega, by omega, fun H1 s1 => ?_⟩
    have c1 : CMulA (nrm u s).1 (10 ^ (t - (nrm u s).2)) := CMulA.w (Nat.lt_of_le_of_lt (nrm_abs s u) hu) (ten_lt _) (by omega)
    walk_at "go"
    exact q H1 s1
def sp_rounded (C : Addr) : Sp := fun vs H Q _ => ∃ (p : Addr) (u : Int) (s t : Nat) (x : Str), vs = [.ref p, .int t, .str x] ∧ WAt C H p u s ∧ x ∈ waysL ∧ s ≤ 10000 ∧ u.natAbs < 2 ^ 3000 ∧
  ((nrm u s).2 ≤ t → ∀ H', Same H H' → Q (.ref p) H') ∧ (t < (nrm u s).2 → ∀ r H', Same H H' → WAt C H' r (divF (nrm u s).1 (10 ^ ((nrm u s).2 - t)) x) t → Q (.ref r) H')
theorem ok_rounded (T : Tx w K mg) : FnOk P w K mg base CX0 6 T.f_rounded T.fd_rounded ["worth", "scale", "way"] (sp_rounded T.C_Worth) := by
  refine T.F_rounded.ok sc_rounded (fun vs H Q E h => ?_) (fun cdv A outer s H vs Q E hr h => ?_)
  · obtain ⟨p, u, s, t, x, rfl, _⟩ := h
    rfl
  · obtain ⟨p, u, s, t, x, rfl, hW, hx, hs, hu, q1, q2⟩ := h
    obtain ⟨dx, hp⟩ := id hW
    refine ⟨_, (pss_cons (ps_expr (pe_call (ok_need_worth T) (hr.mono (by decide)) rfl T.g_need_worth T.F_need_worth.kp T.b_need_worth .nil pass0 (pa_cons (pv 0) pa_nil)))
      (pss_cons (ps_expr (pe_call (ok_need_whole T) (hr.mono (by decide)) rfl T.g_need_whole T.F_need_whole.kp T.b_need_whole .nil pass0 (pa_cons (pv 1) pa_nil)))
      (pss_cons (ps_expr (pe_call (ok_need_way T) (hr.mono (by decide)) rfl T.g_need_way T.F_need_way.kp T.b_need_way .nil pass0 (pa_cons (pv 2) pa_nil)))
      (pss_cons (ps_if (pt_cmpR op_le (pe_fld (pv 0) rfl) (pv 1) (nomark _)) (pss_one (ps_ret (pv 0))) pss_nil)
      (pss_one (ps_ret (pe_make T.M_Worth (ok_Worth___init__ T) (hr.mono (by decide)) rfl T.gC_Worth T.b_Worth___init__ .nil pass0 (pa_cons (pe_call (ok_divided_by T) (hr.mono (by decide)) rfl T.g_divided_by T.F_divided_by.kp T.b_divided_by .nil pass0 (pa_cons (pe_fld (pv 0) rfl) (pa_cons (pe_call (ok_ten_to T) (hr.mono (by decide)) rfl T.g_ten_to T.F_ten_to.kp T.b_ten_to .nil pass0 (pa_cons (pe_op op_sub (pe_fld (pv 0) rfl) (pv 1)) pa_nil)) (pa_cons (pv 2) pa_nil)))) (pa_cons (pv 1) pa_nil))))))))), ?_⟩
    walk_at "go"
    refine ⟨p, u, s, rfl, hW, ?_⟩
    walk_at "go"
    refine ⟨t, rfl, by omega, ?_⟩
    walk_at "go"
    refine ⟨x, rfl, hx, ?_⟩
    walk_at "go"
    refine w_flds hp T.cl_Worth T.n_Worth_scale (wf_scale _ _) ?_
    walk_at "go"
    refine w_ite (fun hc => ?_) (fun hc => ?_)
    · walk_at "go"
      exact q1 (by omega) H (Same.refl H)
    · walk_at "go"
      refine w_flds hp T.cl_Worth T.n_Worth_units (wf_units _ _) ?_
      walk_at "go"
      refine w_flds hp T.cl_Worth T.n_Worth_scale (wf_scale _ _) ?_
      have hle := nrm_le s u
      walk_at "go"
      refine ⟨(nrm u s).2 - t, by simp; omega, by omega, fun H1 s1 => ?_⟩
      walk_at "go"
      refine ⟨_, _, _, rfl, hx, Int.pow_pos (by decide), pow_wide (Nat.lt_of_le_of_lt (nrm_abs s u) hu) (by decide), fun H2 s2 => ?_⟩
      walk_at "go"
      exact make_worth (by assumption) (fun r H3 nr s3 h3 => q2 (by omega) r H3 ((s1.trans s2).trans s3) h3)
def rbF (x : Str) (u W : Int) : Int := if liftF x 3 (decide (u ≤ 0)) (decide (u % 2 = 0)) = 0 then 0 else if liftF x 2 (decide (u ≤ 0)) (decide (u % 2 = 0)) = 0 then W / 2 - 1 else if liftF x 1 (decide (u ≤ 0)) (decide (u % 2 = 0)) = 0 then W / 2 else W - 1
def raF (x : Str) (u W : Int) : Int := if liftF x 1 (decide (u < 0)) (decide (u % 2 = 1)) = 1 then 0 else if liftF x 2 (decide (u < 0)) (decide (u % 2 = 1)) = 1 then W / 2 - 1 else if liftF x 3 (decide (u < 0)) (decide (u % 2 = 1)) = 1 then W / 2 else W - 1
def sp_rb (F : Str → Int → Int → Int) : Sp := fun vs H Q _ => ∃ (x : Str) (u W : Int), vs = [.str x, .int u, .int W] ∧ x ∈ waysL ∧ ∀ H', Same H H' → Q (.int (F x u W)) H'
theorem ok_reach_below (T : Tx w K mg) : FnOk P w K mg base CX0 2 T.f_reach_below T.fd_reach_below ["way", "units", "wide"] (sp_rb rbF) := by
  refine T.F_reach_below.ok sc_reach_below (fun vs H Q E h => ?_) (fun cdv A outer s H vs Q E hr h => ?_)
  · obtain ⟨x, u, W, rfl, _⟩ := h
    rfl
  · obtain ⟨x, u, W, rfl, hx, q⟩ := h
    refine ⟨_, (pss_cons (ps_set (i := 3) sc_reach_below.nd rfl (Or.inl rfl) (pe_op op_fdivW (pv 2) pe_int))
      (pss_cons (ps_for PassesOwn.never rfl (pi_tup (pe_tup (pa_cons (pe_tup (pa_cons pe_int (pa_cons pe_int pa_nil))) (pa_cons (pe_tup (pa_cons pe_int (pa_cons (pe_op op_sub (pv 3) pe_int) pa_nil))) (pa_cons (pe_tup (pa_cons pe_int (pa_cons (pv 3) pa_nil))) pa_nil))))) (pg_tup rfl (pgs_cons (pg_name (i := 4) sc_reach_below.nd rfl (Or.inl rfl)) (pgs_cons (pg_name (i := 5) sc_reach_below.nd rfl (Or.inl rfl)) pgs_nil)))
      (pss_one (ps_if (pt_cmpR op_eq (pe_call (ok_lift T) (hr.mono (by decide)) rfl T.g_lift T.F_lift.kp T.b_lift .nil pass0 (pa_cons (pv 0) (pa_cons (pv 4) (pa_cons (pe_cmpR op_le (pv 1) pe_int (nomark _)) (pa_cons (pe_cmpR op_eq (pe_op op_mod (pv 1) pe_int) pe_int (nomark _)) pa_nil))))) pe_int (nomark _)) (pss_one (ps_ret (pv 5))) pss_nil)))
      (pss_one (ps_ret (pe_op op_sub (pv 2) pe_int))))), ?_⟩
    walk_at "go"
    refine w_new (by assumption) (Nat.le_of_ble_eq_true rfl) (fun p1 H1 n1 s1 e1 => ?_)
    walk_at "go"
    refine w_new (by assumption) (Nat.le_of_ble_eq_true rfl) (fun p2 H2 n2 s2 e2 => ?_)
    walk_at "go"
    refine w_new (by assumption) (Nat.le_of_ble_eq_true rfl) (fun p3 H3 n3 s3 e3 => ?_)
    walk_at "go"
    refine w_new (by assumption) (Nat.le_of_ble_eq_true rfl) (fun p4 H4 n4 s4 e4 => ?_)
    walk_at "go"
    refine ⟨p4, rfl, ⟨_, .inl (.inl e4)⟩, for_unT (.inl (.inl e4)) ?_⟩
    walk_at "go"
    simp only [V_int]
    refine ⟨x, 3, _, _, rfl, hx, fun H5 s5 => ?_⟩
    walk_at "go"
    refine w_ite (fun c3 => ?_) (fun c3 => ?_)
    all_goals rw [V_int] at c3
    · walk_at "go"
      have z := q H5 (by walk_at "same")
      unfold rbF at z
      rw [if_pos c3] at z
      exact z
    walk_at "go"
    refine ⟨.inl (.inl (by walk_at "get")), ?_⟩
    walk_at "go"
    simp only [V_int]
    refine ⟨x, 2, _, _, rfl, hx, fun H6 s6 => ?_⟩
    walk_at "go"
    refine w_ite (fun c2 => ?_) (fun c2 => ?_)
    all_goals rw [V_int] at c2
    · walk_at "go"
      have z := q H6 (by walk_at "same")
      unfold rbF at z
      rw [if_neg c3, if_pos c2] at z
      exact z
    walk_at "go"
    refine ⟨.inl (.inl (by walk_at "get")), ?_⟩
    walk_at "go"
    simp only [V_int]
    refine ⟨x, 1, _, _, rfl, hx, fun H7 s7 => ?_⟩
    walk_at "go"
    refine w_ite (fun c1 => ?_) (fun c1 => ?_)
    all_goals rw [V_int] at c1
    · walk_at "go"
      have z := q H7 (by walk_at "same")
      unfold rbF at z
      rw [if_neg c3, if_neg c2, if_pos c1] at z
      exact z
    walk_at "go"
    refine ⟨.inl (.inl (by walk_at "get")), ?_⟩
    walk_at "go"
    have z := q H7 (by walk_at "same")
    unfold rbF at z
    rw [if_neg c3, if_neg c2, if_neg c1] at z
    exact z
theorem ok_reach_above (T : Tx w K mg) : FnOk P w K mg base CX0 2 T.f_reach_above T.fd_reach_above ["way", "units", "wide"] (sp_rb raF) := by
  refine T.F_reach_above.ok sc_reach_above (fun vs H Q E h => ?_) (fun cdv A outer s H vs Q E hr h => ?_)
  · obtain ⟨x, u, W, rfl, _⟩ := h
    rfl
  · obtain ⟨x, u, W, rfl, hx, q⟩ := h
    refine ⟨_, (pss_cons (ps_set (i := 3) sc_reach_above.nd rfl (Or.inl rfl) (pe_op op_fdivW (pv 2) pe_int))
      (pss_cons (ps_for PassesOwn.never rfl (pi_tup (pe_tup (pa_cons (pe_tup (pa_cons pe_int (pa_cons pe_int pa_nil))) (pa_cons (pe_tup (pa_cons pe_int (pa_cons (pe_op op_sub (pv 3) pe_int) pa_nil))) (pa_cons (pe_tup (pa_cons pe_int (pa_cons (pv 3) pa_nil))) pa_nil))))) (pg_tup rfl (pgs_cons (pg_name (i := 4) sc_reach_above.nd rfl (Or.inl rfl)) (pgs_cons (pg_name (i := 5) sc_reach_above.nd rfl (Or.inl rfl)) pgs_nil)))
      (pss_one (ps_if (pt_cmpR op_eq (pe_call (ok_lift T) (hr.mono (by decide)) rfl T.g_lift T.F_lift.kp T.b_lift .nil pass0 (pa_cons (pv 0) (pa_cons (pv 4) (pa_cons (pe_cmpR op_lt (pv 1) pe_int (nomark _)) (pa_cons (pe_cmpR op_eq (pe_op op_mod (pv 1) pe_int) pe_int (nomark _)) pa_nil))))) pe_int (nomark _)) (pss_one (ps_ret (pv 5))) pss_nil)))
      (pss_one (ps_ret (pe_op op_sub (pv 2) pe_int))))), ?_⟩
    walk_at "go"
    refine w_new (by assumption) (Nat.le_of_ble_eq_true rfl) (fun p1 H1 n1 s1 e1 => ?_)
    walk_at "go"
    refine w_new (by assumption) (Nat.le_of_ble_eq_true rfl) (fun p2 H2 n2 s2 e2 => ?_)
    walk_at "go"
    refine w_new (by assumption) (Nat.le_of_ble_eq_true rfl) (fun p3 H3 n3 s3 e3 => ?_)
    walk_at "go"
    refine w_new (by assumption) (Nat.le_of_ble_eq_true rfl) (fun p4 H4 n4 s4 e4 => ?_)
    walk_at "go"
    refine ⟨p4, rfl, ⟨_, .inl (.inl e4)⟩, for_unT (.inl (.inl e4)) ?_⟩
    walk_at "go"
    simp only [V_int]
    refine ⟨x, 1, _, _, rfl, hx, fun H5 s5 => ?_⟩
    walk_at "go"
    refine w_ite (fun c3 => ?_) (fun c3 => ?_)
    all_goals rw [V_int] at c3
    · walk_at "go"
      have z := q H5 (by walk_at "same")
      unfold raF at z
      rw [if_pos c3] at z
      exact z
    walk_at "go"
    refine ⟨.inl (.inl (by walk_at "get")), ?_⟩
    walk_at "go"
    simp only [V_int]
    refine ⟨x, 2, _, _, rfl, hx, fun H6 s6 => ?_⟩
    walk_at "go"
    refine w_ite (fun c2 => ?_) (fun c2 => ?_)
    all_goals rw [V_int] at c2
    · walk_at "go"
      have z := q H6 (by walk_at "same")
      unfold raF at z
      rw [if_neg c3, if_pos c2] at z
      exact z
    walk_at "go"
    refine ⟨.inl (.inl (by walk_at "get")), ?_⟩
    walk_at "go"
    simp only [V_int]
    refine ⟨x, 3, _, _, rfl, hx, fun H7 s7 => ?_⟩
    walk_at "go"
    refine w_ite (fun c1 => ?_) (fun c1 => ?_)
    all_goals rw [V_int] at c1
    · walk_at "go"
      have z := q H7 (by walk_at "same")
      unfold raF at z
      rw [if_neg c3, if_neg c2, if_pos c1] at z
      exact z
    walk_at "go"
    refine ⟨.inl (.inl (by walk_at "get")), ?_⟩
    walk_at "go"
    have z := q H7 (by walk_at "same")
    unfold raF at z
    rw [if_neg c3, if_neg c2, if_neg c1] at z
    exact z
/-- all worths with b places that are rounded to a worth at the scale a -/
def sp_shown (C : Addr) : Sp := fun vs H Q _ => ∃ (p : Addr) (u : Int) (s a b : Nat) (x : Str), vs = [.ref p, .int a, .int b, .str x] ∧ WAt C H p u s ∧ x ∈ waysL ∧ a ≤ 1000 ∧ b ≤ 1000 ∧ u.natAbs < 2 ^ 3000 ∧
  (min a b < (nrm u s).2 → ∀ H', Same H H' → Q .non H') ∧
  ((nrm u s).2 ≤ min a b → b ≤ a → ∀ t H', Same H H' → H' t = some (.tup [.ref p, .ref p]) → Q (.ref t) H') ∧
  ((nrm u s).2 ≤ min a b → a < b → ∀ t l h H', Same H H' → H' t = some (.tup [.ref l, .ref h]) →
    WAt C H' l (uAt u s a * 10 ^ (b - a) - rbF x (uAt u s a) (10 ^ (b - a))) b → WAt C H' h (uAt u s a * 10 ^ (b - a) + raF x (uAt u s a) (10 ^ (b - a))) b → Q (.ref t) H')
theorem ok_shown_as (T : Tx w K mg) : FnOk P w K mg base CX0 6 T.f_shown_as T.fd_shown_as ["worth", "scale", "places", "way"] (sp_shown T.C_Worth) := by
  refine T.F_shown_as.ok sc_shown_as (fun vs H Q E h => ?_) (fun cdv A outer s H vs Q E hr h => ?_)
  · obtain ⟨p, u, s, a, b, x, rfl, _⟩ := h
    rfl
  · obtain ⟨p, u, s, a, b, x, rfl, hW, hx, ha, hb, hu, q1, q2, q3⟩ := h
    obtain ⟨dx, hp⟩ := id hW
    have hm : (if (b : Int) < a then (b : Int) else a) = ((min a b : Nat) : Int) := by
      split <;> omega
    refine ⟨_, (pss_cons (ps_expr (pe_call (ok_need_worth T) (hr.mono (by decide)) rfl T.g_need_worth T.F_need_worth.kp T.b_need_worth .nil pass0 (pa_cons (pv 0) pa_nil)))
      (pss_cons (ps_expr (pe_call (ok_need_whole T) (hr.mono (by decide)) rfl T.g_need_whole T.F_need_whole.kp T.b_need_whole .nil pass0 (pa_cons (pv 1) pa_nil)))
      (pss_cons (ps_expr (pe_call (ok_need_whole T) (hr.mono (by decide)) rfl T.g_need_whole T.F_need_whole.kp T.b_need_whole .nil pass0 (pa_cons (pv 2) pa_nil)))
      (pss_cons (ps_expr (pe_call (ok_need_way T) (hr.mono (by decide)) rfl T.g_need_way T.F_need_way.kp T.b_need_way .nil pass0 (pa_cons (pv 3) pa_nil)))
      (pss_cons (ps_if (pt_cmpR op_gt (pe_fld (pv 0) rfl) (pe_callB (call_min2 rfl) (by rfl) T.z_min (by decide +kernel) (pa_cons (pv 1) (pa_cons (pv 2) pa_nil))) (nomark _)) (pss_one (ps_ret pe_non)) pss_nil)
      (pss_cons (ps_if (pt_cmpR op_le (pv 2) (pv 1) (nomark _)) (pss_one (ps_ret (pe_tup (pa_cons (pv 0) (pa_cons (pv 0) pa_nil))))) pss_nil)
      (pss_cons (ps_par (i := 4) (j := 5) rfl sc_shown_as.nd rfl rfl (by decide) rfl rfl (pa_cons (pe_meth (pv 0) T.cl_Worth T.m_Worth_units_at (ok_Worth_units_at T) (hr.mono (by decide)) T.b_Worth_units_at .nil pass0 (pa_cons (pv 1) pa_nil)) (pa_cons (pe_call (ok_ten_to T) (hr.mono (by decide)) rfl T.g_ten_to T.F_ten_to.kp T.b_ten_to .nil pass0 (pa_cons (pe_op op_sub (pv 2) (pv 1)) pa_nil)) pa_nil)) rfl)
      (pss_cons (ps_set (i := 6) sc_shown_as.nd rfl (Or.inl rfl) (pe_op op_sub (pe_op op_mulA (pv 4) (pv 5)) (pe_call (ok_reach_below T) (hr.mono (by decide)) rfl T.g_reach_below T.F_reach_below.kp T.b_reach_below .nil pass0 (pa_cons (pv 3) (pa_cons (pv 4) (pa_cons (pv 5) pa_nil))))))
      (pss_cons (ps_set (i := 7) sc_shown_as.nd rfl (Or.inl rfl) (pe_op op_add (pe_op op_mulA (pv 4) (pv 5)) (pe_call (ok_reach_above T) (hr.mono (by decide)) rfl T.g_reach_above T.F_reach_above.kp T.b_reach_above .nil pass0 (pa_cons (pv 3) (pa_cons (pv 4) (pa_cons (pv 5) pa_nil))))))
      (pss_one (ps_ret (pe_tup (pa_cons (pe_make T.M_Worth (ok_Worth___init__ T) (hr.mono (by decide)) rfl T.gC_Worth T.b_Worth___init__ .nil pass0 (pa_cons (pv 6) (pa_cons (pv 2) pa_nil))) (pa_cons (pe_make T.M_Worth (ok_Worth___init__ T) (hr.mono (by decide)) rfl T.gC_Worth T.b_Worth___init__ .nil pass0 (pa_cons (pv 7) (pa_cons (pv 2) pa_nil))) pa_nil)))))))))))))), ?_⟩
    walk_at "go"
    refine ⟨p, u, s, rfl, hW, ?_⟩
    walk_at "go"
    refine ⟨a, rfl, by omega, ?_⟩
    walk_at "go"
    refine ⟨b, rfl, by omega, ?_⟩
    walk_at "go"
    refine ⟨x, rfl, hx, ?_⟩
    walk_at "go"
    refine w_flds hp T.cl_Worth T.n_Worth_scale (wf_scale _ _) ?_
    walk_at "go"
    refine ⟨a, b, rfl, ?_⟩
    rw [hm]
    walk_at "go"
    refine w_ite (fun hc => ?_) (fun hc => ?_)
    · walk_at "go"
      exact q1 (by omega) H (Same.refl H)
    walk_at "go"
    refine w_ite (fun hd => ?_) (fun hd => ?_)
    · walk_at "go"
      exact w_new (by assumption) (Nat.le_of_ble_eq_true rfl) (fun t H1 n1 s1 e1 => q2 (by omega) (by omega) t H1 s1 e1)
    walk_at "go"
    refine ⟨p, dx, _, rfl, hp, wf_no _ _ (by decide +kernel) (by decide +kernel), ?_⟩
    walk_at "go"
    refine ⟨p, u, s, a, rfl, hW, by omega, by omega, hu, fun H1 s1 => ?_⟩
    walk_at "go"
    refine ⟨b - a, by simp; omega, by omega, fun H2 s2 => ?_⟩
    have b1 : (uAt u s a).natAbs < 2 ^ (3000 + (4 * 1000 + 1)) := wide_lt (Nat.lt_of_le_of_lt (nrm_abs s u) hu) (pow_wide (ten_lt _) (by omega))
    have c1 : CMulA (uAt u s a) (10 ^ (b - a)) := CMulA.w b1 (pow_wide (ten_lt _) (show 4 * (b - a) + 1 ≤ 4001 by omega)) (by decide)
    generalize hU : uAt u s a = U at *
    walk_at "go"
    refine ⟨x, U, _, rfl, hx, fun H3 s3 => ?_⟩
    walk_at "go"
    refine ⟨x, U, _, rfl, hx, fun H4 s4 => ?_⟩
    walk_at "go"
    refine make_worth (by assumption) (fun l H5 n5 s5 h5 => ?_)
    walk_at "go"
    refine make_worth (by assumption) (fun r H6 n6 s6 h6 => ?_)
    walk_at "go"
    refine w_new (by assumption) (Nat.le_of_ble_eq_true rfl) (fun t H7 n7 s7 e7 => ?_)
    exact q3 (by omega) (by omega) t l r H7 (by walk_at "same") e7 ((h5.same s6).same s7) (h6.same s7)
end
end K05
namespace K05
open PySem L2 DS
def pick4 (x : Str) (a b c d : Int) : Int := if x = "floor" then a else if x = "ceiling" then b else if x = "cut" then c else d
def pick5 (x : Str) (a b c d e : Int) : Int := if x = "halfup" then a else if x = "halfdown" then b else if x = "halfeven" then c else if x = "halfaway" then d else e
def four : List Str := ["floor", "ceiling", "cut", "away"]
def innF (n l : Int) : Int := if 0 < n then l else l + 1
def outF (n l : Int) : Int := if 0 < n then l + 1 else l
/-- the law's own rounding -/
def nearF (n d : Int) (x : Str) : Int := if n / d * d = n then n / d else
  if x ∈ four then pick4 x (n / d) (n / d + 1) (innF n (n / d)) (outF n (n / d)) else
  if 2 * (n - n / d * d) - d = 0 then pick5 x (n / d + 1) (n / d) (if n / d % 2 = 0 then n / d else n / d + 1) (outF n (n / d)) (innF n (n / d)) else
  if 2 * (n - n / d * d) - d < 0 then n / d else n / d + 1

theorem ne_floor_ceiling : ¬ (("floor" : Str) = "ceiling") := by decide +kernel
theorem ne_floor_cut : ¬ (("floor" : Str) = "cut") := by decide +kernel
theorem ne_floor_away : ¬ (("floor" : Str) = "away") := by decide +kernel
theorem ne_floor_halfup : ¬ (("floor" : Str) = "halfup") := by decide +kernel
theorem ne_floor_halfdown : ¬ (("floor" : Str) = "halfdown") := by decide +kernel
theorem ne_floor_halfeven : ¬ (("floor" : Str) = "halfeven") := by decide +kernel
theorem ne_floor_halfaway : ¬ (("floor" : Str) = "halfaway") := by decide +kernel
theorem ne_floor_halfcut : ¬ (("floor" : Str) = "halfcut") := by decide +kernel
theorem ne_ceiling_floor : ¬ (("ceiling" : Str) = "floor") := by decide +kernel
theorem ne_ceiling_cut : ¬ (("ceiling" : Str) = "cut") := by decide +kernel
theorem ne_ceiling_away : ¬ (("ceiling" : Str) = "away") := by decide +kernel
theorem ne_ceiling_halfup : ¬ (("ceiling" : Str) = "halfup") := by decide +kernel
theorem ne_ceiling_halfdown : ¬ (("ceiling" : Str) = "halfdown") := by decide +kernel
theorem ne_ceiling_halfeven : ¬ (("ceiling" : Str) = "halfeven") := by decide +kernel
theorem ne_ceiling_halfaway : ¬ (("ceiling" : Str) = "halfaway") := by decide +kernel
theorem ne_ceiling_halfcut : ¬ (("ceiling" : Str) = "halfcut") := by decide +kernel
theorem ne_cut_floor : ¬ (("cut" : Str) = "floor") := by decide +kernel
theorem ne_cut_ceiling : ¬ (("cut" : Str) = "ceiling") := by decide +kernel
theorem ne_cut_away : ¬ (("cut" : Str) = "away") := by decide +kernel
theorem ne_cut_halfup : ¬ (("cut" : Str) = "halfup") := by decide +kernel
theorem ne_cut_halfdown : ¬ (("cut" : Str) = "halfdown") := by decide +kernel
theorem ne_cut_halfeven : ¬ (("cut" : Str) = "halfeven") := by decide +kernel
theorem ne_cut_halfaway : ¬ (("cut" : Str) = "halfaway") := by decide +kernel
theorem ne_cut_halfcut : ¬ (("cut" : Str) = "halfcut") := by decide +kernel
theorem ne_away_floor : ¬ (("away" : Str) = "floor") := by decide +kernel
theorem ne_away_ceiling : ¬ (("away" : Str) = "ceiling") := by decide +kernel
theorem ne_away_cut : ¬ (("away" : Str) = "cut") := by decide +kernel
theorem ne_away_halfup : ¬ (("away" : Str) = "halfup") := by decide +kernel
theorem ne_away_halfdown : ¬ (("away" : Str) = "halfdown") := by decide +kernel
theorem ne_away_halfeven : ¬ (("away" : Str) = "halfeven") := by decide +kernel
theorem ne_away_halfaway : ¬ (("away" : Str) = "halfaway") := by decide +kernel
theorem ne_away_halfcut : ¬ (("away" : Str) = "halfcut") := by decide +kernel
theorem ne_halfup_floor : ¬ (("halfup" : Str) = "floor") := by decide +kernel
theorem ne_halfup_ceiling : ¬ (("halfup" : Str) = "ceiling") := by decide +kernel
theorem ne_halfup_cut : ¬ (("halfup" : Str) = "cut") := by decide +kernel
theorem ne_halfup_away : ¬ (("halfup" : Str) = "away") := by decide +kernel
theorem ne_halfup_halfdown : ¬ (("halfup" : Str) = "halfdown") := by decide +kernel
theorem ne_halfup_halfeven : ¬ (("halfup" : Str) = "halfeven") := by decide +kernel
theorem ne_halfup_halfaway : ¬ (("halfup" : Str) = "halfaway") := by decide +kernel
theorem ne_halfup_halfcut : ¬ (("halfup" : Str) = "halfcut") := by decide +kernel
theorem ne_halfdown_floor : ¬ (("halfdown" : Str) = "floor") := by decide +kernel
theorem ne_halfdown_ceiling : ¬ (("halfdown" : Str) = "ceiling") := by decide +kernel
theorem ne_halfdown_cut : ¬ (("halfdown" : Str) = "cut") := by decide +kernel
theorem ne_halfdown_away : ¬ (("halfdown" : Str) = "away") := by decide +kernel
theorem ne_halfdown_halfup : ¬ (("halfdown" : Str) = "halfup") := by decide +kernel
theorem ne_halfdown_halfeven : ¬ (("halfdown" : Str) = "halfeven") := by decide +kernel
theorem ne_halfdown_halfaway : ¬ (("halfdown" : Str) = "halfaway") := by decide +kernel
theorem ne_halfdown_halfcut : ¬ (("halfdown" : Str) = "halfcut") := by decide +kernel
theorem ne_halfeven_floor : ¬ (("halfeven" : Str) = "floor") := by decide +kernel
theorem ne_halfeven_ceiling : ¬ (("halfeven" : Str) = "ceiling") := by decide +kernel
theorem ne_halfeven_cut : ¬ (("halfeven" : Str) = "cut") := by decide +kernel
theorem ne_halfeven_away : ¬ (("halfeven" : Str) = "away") := by decide +kernel
theorem ne_halfeven_halfup : ¬ (("halfeven" : Str) = "halfup") := by decide +kernel
theorem ne_halfeven_halfdown : ¬ (("halfeven" : Str) = "halfdown") := by decide +kernel
theorem ne_halfeven_halfaway : ¬ (("halfeven" : Str) = "halfaway") := by decide +kernel
theorem ne_halfeven_halfcut : ¬ (("halfeven" : Str) = "halfcut") := by decide +kernel
theorem ne_halfaway_floor : ¬ (("halfaway" : Str) = "floor") := by decide +kernel
theorem ne_halfaway_ceiling : ¬ (("halfaway" : Str) = "ceiling") := by decide +kernel
theorem ne_halfaway_cut : ¬ (("halfaway" : Str) = "cut") := by decide +kernel
theorem ne_halfaway_away : ¬ (("halfaway" : Str) = "away") := by decide +kernel
theorem ne_halfaway_halfup : ¬ (("halfaway" : Str) = "halfup") := by decide +kernel
theorem ne_halfaway_halfdown : ¬ (("halfaway" : Str) = "halfdown") := by decide +kernel
theorem ne_halfaway_halfeven : ¬ (("halfaway" : Str) = "halfeven") := by decide +kernel
theorem ne_halfaway_halfcut : ¬ (("halfaway" : Str) = "halfcut") := by decide +kernel
theorem ne_halfcut_floor : ¬ (("halfcut" : Str) = "floor") := by decide +kernel
theorem ne_halfcut_ceiling : ¬ (("halfcut" : Str) = "ceiling") := by decide +kernel
theorem ne_halfcut_cut : ¬ (("halfcut" : Str) = "cut") := by decide +kernel
theorem ne_halfcut_away : ¬ (("halfcut" : Str) = "away") := by decide +kernel
theorem ne_halfcut_halfup : ¬ (("halfcut" : Str) = "halfup") := by decide +kernel
theorem ne_halfcut_halfdown : ¬ (("halfcut" : Str) = "halfdown") := by decide +kernel
theorem ne_halfcut_halfeven : ¬ (("halfcut" : Str) = "halfeven") := by decide +kernel
theorem ne_halfcut_halfaway : ¬ (("halfcut" : Str) = "halfaway") := by decide +kernel
theorem in_four_floor :  (("floor" : Str) ∈ four) := by decide +kernel
theorem in_four_ceiling :  (("ceiling" : Str) ∈ four) := by decide +kernel
theorem in_four_cut :  (("cut" : Str) ∈ four) := by decide +kernel
theorem in_four_away :  (("away" : Str) ∈ four) := by decide +kernel
theorem ni_four_halfup : ¬ (("halfup" : Str) ∈ four) := by decide +kernel
theorem ni_four_halfdown : ¬ (("halfdown" : Str) ∈ four) := by decide +kernel
theorem ni_four_halfeven : ¬ (("halfeven" : Str) ∈ four) := by decide +kernel
theorem ni_four_halfaway : ¬ (("halfaway" : Str) ∈ four) := by decide +kernel
theorem ni_four_halfcut : ¬ (("halfcut" : Str) ∈ four) := by decide +kernel
theorem lift_floor (p : Int) (n o : Bool) : liftF "floor" p n o = 0 := by
  unfold liftF tieF
  simp only [ne_floor_ceiling, ne_floor_cut, ne_floor_away, ne_floor_halfup, ne_floor_halfdown, ne_floor_halfeven, ne_floor_halfaway, ne_floor_halfcut, if_true, if_false]
  all_goals (first | rfl | (split <;> rfl))
theorem lift_ceiling (p : Int) (n o : Bool) : liftF "ceiling" p n o = if p = 0 then 0 else 1 := by
  unfold liftF tieF
  simp only [ne_ceiling_floor, ne_ceiling_cut, ne_ceiling_away, ne_ceiling_halfup, ne_ceiling_halfdown, ne_ceiling_halfeven, ne_ceiling_halfaway, ne_ceiling_halfcut, if_true, if_false]
  all_goals (first | rfl | (split <;> rfl))
theorem lift_cut (p : Int) (n o : Bool) : liftF "cut" p n o = if p = 0 then 0 else if n then 1 else 0 := by
  unfold liftF tieF
  simp only [ne_cut_floor, ne_cut_ceiling, ne_cut_away, ne_cut_halfup, ne_cut_halfdown, ne_cut_halfeven, ne_cut_halfaway, ne_cut_halfcut, if_true, if_false]
  all_goals (first | rfl | (split <;> rfl))
theorem lift_away (p : Int) (n o : Bool) : liftF "away" p n o = if p = 0 then 0 else if !n then 1 else 0 := by
  unfold liftF tieF
  simp only [ne_away_floor, ne_away_ceiling, ne_away_cut, ne_away_halfup, ne_away_halfdown, ne_away_halfeven, ne_away_halfaway, ne_away_halfcut, if_true, if_false]
  all_goals (first | rfl | (split <;> rfl))
theorem lift_halfup (p : Int) (n o : Bool) : liftF "halfup" p n o = if p = 0 then 0 else if p = 2 then 1 else if p = 3 then 1 else 0 := by
  unfold liftF tieF
  simp only [ne_halfup_floor, ne_halfup_ceiling, ne_halfup_cut, ne_halfup_away, ne_halfup_halfdown, ne_halfup_halfeven, ne_halfup_halfaway, ne_halfup_halfcut, if_true, if_false]
  all_goals (first | rfl | (split <;> rfl))
theorem lift_halfdown (p : Int) (n o : Bool) : liftF "halfdown" p n o = if p = 0 then 0 else if p = 2 then 0 else if p = 3 then 1 else 0 := by
  unfold liftF tieF
  simp only [ne_halfdown_floor, ne_halfdown_ceiling, ne_halfdown_cut, ne_halfdown_away, ne_halfdown_halfup, ne_halfdown_halfeven, ne_halfdown_halfaway, ne_halfdown_halfcut, if_true, if_false]
  all_goals (first | rfl | (split <;> rfl))
theorem lift_halfeven (p : Int) (n o : Bool) : liftF "halfeven" p n o = if p = 0 then 0 else if p = 2 then (if o then 1 else 0) else if p = 3 then 1 else 0 := by
  unfold liftF tieF
  simp only [ne_halfeven_floor, ne_halfeven_ceiling, ne_halfeven_cut, ne_halfeven_away, ne_halfeven_halfup, ne_halfeven_halfdown, ne_halfeven_halfaway, ne_halfeven_halfcut, if_true, if_false]
  all_goals (first | rfl | (split <;> rfl))
theorem lift_halfaway (p : Int) (n o : Bool) : liftF "halfaway" p n o = if p = 0 then 0 else if p = 2 then (if !n then 1 else 0) else if p = 3 then 1 else 0 := by
  unfold liftF tieF
  simp only [ne_halfaway_floor, ne_halfaway_ceiling, ne_halfaway_cut, ne_halfaway_away, ne_halfaway_halfup, ne_halfaway_halfdown, ne_halfaway_halfeven, ne_halfaway_halfcut, if_true, if_false]
  all_goals (first | rfl | (split <;> rfl))
theorem lift_halfcut (p : Int) (n o : Bool) : liftF "halfcut" p n o = if p = 0 then 0 else if p = 2 then (if n then 1 else 0) else if p = 3 then 1 else 0 := by
  unfold liftF tieF
  simp only [ne_halfcut_floor, ne_halfcut_ceiling, ne_halfcut_cut, ne_halfcut_away, ne_halfcut_halfup, ne_halfcut_halfdown, ne_halfcut_halfeven, ne_halfcut_halfaway, if_true, if_false]
  all_goals (first | rfl | (split <;> rfl))
theorem near_floor (n d : Int) : nearF n d "floor" = if n / d * d = n then n / d else n / d := by
  unfold nearF pick4
  simp only [in_four_floor, ne_floor_ceiling, ne_floor_cut, ne_floor_away, ne_floor_halfup, ne_floor_halfdown, ne_floor_halfeven, ne_floor_halfaway, ne_floor_halfcut, if_true, if_false]
theorem near_ceiling (n d : Int) : nearF n d "ceiling" = if n / d * d = n then n / d else n / d + 1 := by
  unfold nearF pick4
  simp only [in_four_ceiling, ne_ceiling_floor, ne_ceiling_cut, ne_ceiling_away, ne_ceiling_halfup, ne_ceiling_halfdown, ne_ceiling_halfeven, ne_ceiling_halfaway, ne_ceiling_halfcut, if_true, if_false]
theorem near_cut (n d : Int) : nearF n d "cut" = if n / d * d = n then n / d else innF n (n / d) := by
  unfold nearF pick4
  simp only [in_four_cut, ne_cut_floor, ne_cut_ceiling, ne_cut_away, ne_cut_halfup, ne_cut_halfdown, ne_cut_halfeven, ne_cut_halfaway, ne_cut_halfcut, if_true, if_false]
theorem near_away (n d : Int) : nearF n d "away" = if n / d * d = n then n / d else outF n (n / d) := by
  unfold nearF pick4
  simp only [in_four_away, ne_away_floor, ne_away_ceiling, ne_away_cut, ne_away_halfup, ne_away_halfdown, ne_away_halfeven, ne_away_halfaway, ne_away_halfcut, if_true, if_false]
theorem near_halfup (n d : Int) : nearF n d "halfup" = if n / d * d = n then n / d else if 2 * (n - n / d * d) - d = 0 then n / d + 1 else if 2 * (n - n / d * d) - d < 0 then n / d else n / d + 1 := by
  unfold nearF pick5
  simp only [ni_four_halfup, ne_halfup_floor, ne_halfup_ceiling, ne_halfup_cut, ne_halfup_away, ne_halfup_halfdown, ne_halfup_halfeven, ne_halfup_halfaway, ne_halfup_halfcut, if_true, if_false]
theorem near_halfdown (n d : Int) : nearF n d "halfdown" = if n / d * d = n then n / d else if 2 * (n - n / d * d) - d = 0 then n / d else if 2 * (n - n / d * d) - d < 0 then n / d else n / d + 1 := by
  unfold nearF pick5
  simp only [ni_four_halfdown, ne_halfdown_floor, ne_halfdown_ceiling, ne_halfdown_cut, ne_halfdown_away, ne_halfdown_halfup, ne_halfdown_halfeven, ne_halfdown_halfaway, ne_halfdown_halfcut, if_true, if_false]
theorem near_halfeven (n d : Int) : nearF n d "halfeven" = if n / d * d = n then n / d else if 2 * (n - n / d * d) - d = 0 then (if n / d % 2 = 0 then n / d else n / d + 1) else if 2 * (n - n / d * d) - d < 0 then n / d else n / d + 1 := by
  unfold nearF pick5
  simp only [ni_four_halfeven, ne_halfeven_floor, ne_halfeven_ceiling, ne_halfeven_cut, ne_halfeven_away, ne_halfeven_halfup, ne_halfeven_halfdown, ne_halfeven_halfaway, ne_halfeven_halfcut, if_true, if_false]
theorem near_halfaway (n d : Int) : nearF n d "halfaway" = if n / d * d = n then n / d else if 2 * (n - n / d * d) - d = 0 then outF n (n / d) else if 2 * (n - n / d * d) - d < 0 then n / d else n / d + 1 := by
  unfold nearF pick5
  simp only [ni_four_halfaway, ne_halfaway_floor, ne_halfaway_ceiling, ne_halfaway_cut, ne_halfaway_away, ne_halfaway_halfup, ne_halfaway_halfdown, ne_halfaway_halfeven, ne_halfaway_halfcut, if_true, if_false]
theorem near_halfcut (n d : Int) : nearF n d "halfcut" = if n / d * d = n then n / d else if 2 * (n - n / d * d) - d = 0 then innF n (n / d) else if 2 * (n - n / d * d) - d < 0 then n / d else n / d + 1 := by
  unfold nearF pick5
  simp only [ni_four_halfcut, ne_halfcut_floor, ne_halfcut_ceiling, ne_halfcut_cut, ne_halfcut_away, ne_halfcut_halfup, ne_halfcut_halfdown, ne_halfcut_halfeven, ne_halfcut_halfaway, if_true, if_false]
theorem ways_cases {C : Str → Prop} (h : C "floor" ∧ C "ceiling" ∧ C "cut" ∧ C "away" ∧ C "halfup" ∧ C "halfdown" ∧ C "halfeven" ∧ C "halfaway" ∧ C "halfcut") : ∀ x ∈ waysL, C x := by
  intro x hx
  simp only [waysL, List.mem_cons, List.not_mem_nil, or_false] at hx
  obtain ⟨h1, h2, h3, h4, h5, h6, h7, h8, h9⟩ := h
  rcases hx with rfl | rfl | rfl | rfl | rfl | rfl | rfl | rfl | rfl <;> assumption

theorem ediv_eq (n d : Int) : n / d * d + n % d = n := by
  have := Int.mul_ediv_add_emod n d
  rw [Int.mul_comm] at this
  exact this

theorem dn_floor (n d : Int) (hd : 0 < d) : divF n d "floor" = nearF n d "floor" := by
  have e := ediv_eq n d
  have h0 := Int.emod_nonneg n (show d ≠ 0 by omega)
  have h1 := Int.emod_lt_of_pos n hd
  have hz : n = 0 → n % d = 0 := fun h => by rw [h]; exact Int.zero_emod d
  unfold divF
  simp only [lift_floor, near_floor, innF, outF, partF, Bool.not_eq_true', decide_eq_true_eq, decide_eq_false_iff_not, Bool.false_eq_true, Int.not_lt]
  generalize n / d * d = qd at *
  generalize n % d = r at *
  generalize n / d = q at *
  (repeat' split) <;> omega
theorem dn_ceiling (n d : Int) (hd : 0 < d) : divF n d "ceiling" = nearF n d "ceiling" := by
  have e := ediv_eq n d
  have h0 := Int.emod_nonneg n (show d ≠ 0 by omega)
  have h1 := Int.emod_lt_of_pos n hd
  have hz : n = 0 → n % d = 0 := fun h => by rw [h]; exact Int.zero_emod d
  unfold divF
  simp only [lift_ceiling, near_ceiling, innF, outF, partF, Bool.not_eq_true', decide_eq_true_eq, decide_eq_false_iff_not, Bool.false_eq_true, Int.not_lt]
  generalize n / d * d = qd at *
  generalize n % d = r at *
  generalize n / d = q at *
  (repeat' split) <;> omega
theorem dn_cut (n d : Int) (hd : 0 < d) : divF n d "cut" = nearF n d "cut" := by
  have e := ediv_eq n d
  have h0 := Int.emod_nonneg n (show d ≠ 0 by omega)
  have h1 := Int.emod_lt_of_pos n hd
  have hz : n = 0 → n % d = 0 := fun h => by rw [h]; exact Int.zero_emod d
  unfold divF
  simp only [lift_cut, near_cut, innF, outF, partF, Bool.not_eq_true', decide_eq_true_eq, decide_eq_false_iff_not, Bool.false_eq_true, Int.not_lt]
  generalize n / d * d = qd at *
  generalize n % d = r at *
  generalize n / d = q at *
  (repeat' split) <;> omega
theorem dn_away (n d : Int) (hd : 0 < d) : divF n d "away" = nearF n d "away" := by
  have e := ediv_eq n d
  have h0 := Int.emod_nonneg n (show d ≠ 0 by omega)
  have h1 := Int.emod_lt_of_pos n hd
  have hz : n = 0 → n % d = 0 := fun h => by rw [h]; exact Int.zero_emod d
  unfold divF
  simp only [lift_away, near_away, innF, outF, partF, Bool.not_eq_true', decide_eq_true_eq, decide_eq_false_iff_not, Bool.false_eq_true, Int.not_lt]
  generalize n / d * d = qd at *
  generalize n % d = r at *
  generalize n / d = q at *
  (repeat' split) <;> omega
theorem dn_halfup (n d : Int) (hd : 0 < d) : divF n d "halfup" = nearF n d "halfup" := by
  have e := ediv_eq n d
  have h0 := Int.emod_nonneg n (show d ≠ 0 by omega)
  have h1 := Int.emod_lt_of_pos n hd
  have hz : n = 0 → n % d = 0 := fun h => by rw [h]; exact Int.zero_emod d
  unfold divF
  simp only [lift_halfup, near_halfup, innF, outF, partF, Bool.not_eq_true', decide_eq_true_eq, decide_eq_false_iff_not, Bool.false_eq_true, Int.not_lt]
  generalize n / d * d = qd at *
  generalize n % d = r at *
  generalize n / d = q at *
  (repeat' split) <;> omega
theorem dn_halfdown (n d : Int) (hd : 0 < d) : divF n d "halfdown" = nearF n d "halfdown" := by
  have e := ediv_eq n d
  have h0 := Int.emod_nonneg n (show d ≠ 0 by omega)
  have h1 := Int.emod_lt_of_pos n hd
  have hz : n = 0 → n % d = 0 := fun h => by rw [h]; exact Int.zero_emod d
  unfold divF
  simp only [lift_halfdown, near_halfdown, innF, outF, partF, Bool.not_eq_true', decide_eq_true_eq, decide_eq_false_iff_not, Bool.false_eq_true, Int.not_lt]
  generalize n / d * d = qd at *
  generalize n % d = r at *
  generalize n / d = q at *
  (repeat' split) <;> omega
theorem dn_halfeven (n d : Int) (hd : 0 < d) : divF n d "halfeven" = nearF n d "halfeven" := by
  have e := ediv_eq n d
  have h0 := Int.emod_nonneg n (show d ≠ 0 by omega)
  have h1 := Int.emod_lt_of_pos n hd
  have hz : n = 0 → n % d = 0 := fun h => by rw [h]; exact Int.zero_emod d
  unfold divF
  simp only [lift_halfeven, near_halfeven, innF, outF, partF, Bool.not_eq_true', decide_eq_true_eq, decide_eq_false_iff_not, Bool.false_eq_true, Int.not_lt]
  generalize n / d * d = qd at *
  generalize n % d = r at *
  generalize n / d = q at *
  (repeat' split) <;> omega
theorem dn_halfaway (n d : Int) (hd : 0 < d) : divF n d "halfaway" = nearF n d "halfaway" := by
  have e := ediv_eq n d
  have h0 := Int.emod_nonneg n (show d ≠ 0 by omega)
  have h1 := Int.emod_lt_of_pos n hd
  have hz : n = 0 → n % d = 0 := fun h => by rw [h]; exact Int.zero_emod d
  unfold divF
  simp only [lift_halfaway, near_halfaway, innF, outF, partF, Bool.not_eq_true', decide_eq_true_eq, decide_eq_false_iff_not, Bool.false_eq_true, Int.not_lt]
  generalize n / d * d = qd at *
  generalize n % d = r at *
  generalize n / d = q at *
  (repeat' split) <;> omega
theorem dn_halfcut (n d : Int) (hd : 0 < d) : divF n d "halfcut" = nearF n d "halfcut" := by
  have e := ediv_eq n d
  have h0 := Int.emod_nonneg n (show d ≠ 0 by omega)
  have h1 := Int.emod_lt_of_pos n hd
  have hz : n = 0 → n % d = 0 := fun h => by rw [h]; exact Int.zero_emod d
  unfold divF
  simp only [lift_halfcut, near_halfcut, innF, outF, partF, Bool.not_eq_true', decide_eq_true_eq, decide_eq_false_iff_not, Bool.false_eq_true, Int.not_lt]
  generalize n / d * d = qd at *
  generalize n % d = r at *
  generalize n / d = q at *
  (repeat' split) <;> omega
theorem div_near (n d : Int) (hd : 0 < d) : ∀ x ∈ waysL, divF n d x = nearF n d x := ways_cases ⟨dn_floor n d hd, dn_ceiling n d hd, dn_cut n d hd, dn_away n d hd, dn_halfup n d hd, dn_halfdown n d hd, dn_halfeven n d hd, dn_halfaway n d hd, dn_halfcut n d hd⟩
theorem near_scale (n d k : Int) (hd : 0 < d) (hk : 0 < k) : ∀ x ∈ waysL, nearF (n * k) (d * k) x = nearF n d x := by
  have e1 : (n * k) / (d * k) = n / d := Int.mul_ediv_mul_of_pos_left n d hk
  have e2 : n / d * (d * k) = n / d * d * k := (Int.mul_assoc _ _ _).symm
  have e3 : (n / d * d * k = n * k) = (n / d * d = n) := propext ⟨fun h => Int.eq_of_mul_eq_mul_right (by omega) h, fun h => by rw [h]⟩
  have e4 : 2 * (n * k - n / d * d * k) - d * k = (2 * (n - n / d * d) - d) * k := by
    have e8 : (n - n / d * d) * k = n * k - n / d * d * k := Int.sub_mul _ _ _
    have e9 : (2 * (n - n / d * d) - d) * k = 2 * ((n - n / d * d) * k) - d * k := by rw [Int.sub_mul, Int.mul_assoc]
    rw [e9, e8]
  have e5 : ((2 * (n - n / d * d) - d) * k = 0) = (2 * (n - n / d * d) - d = 0) := propext ⟨fun h => by
    rcases Int.mul_eq_zero.mp h with h | h
    · exact h
    · omega, fun h => by rw [h, Int.zero_mul]⟩
  have e6 : ((2 * (n - n / d * d) - d) * k < 0) = (2 * (n - n / d * d) - d < 0) := propext ⟨fun h => by
    rcases Int.lt_or_le (2 * (n - n / d * d) - d) 0 with c | c
    · exact c
    · have := Int.mul_nonneg c (Int.le_of_lt hk)
      omega, fun h => Int.mul_neg_of_neg_of_pos h hk⟩
  have e7 : (0 < n * k) = (0 < n) := propext ⟨fun h => by
    rcases Int.lt_or_le 0 n with c | c
    · exact c
    · have := Int.mul_nonpos_of_nonpos_of_nonneg c (Int.le_of_lt hk)
      omega, fun h => Int.mul_pos h hk⟩
  intro x hx
  unfold nearF innF outF
  simp only [e1, e2, e3, e4, e5, e6, e7]

theorem rb_floor (u W : Int) : rbF "floor" u W = 0 := by
  have p3 : u % 2 = 1 ↔ ¬ u % 2 = 0 := by omega
  have p2 : u = 0 → u ≤ 0 := by omega
  have p1 : u < 0 → u ≤ 0 := by omega
  by_cases h1 : u ≤ 0 <;> by_cases h2 : u < 0 <;> by_cases h3 : u % 2 = 0 <;> first | omega | simp [rbF, lift_floor, h1, h2, h3, p3]
theorem ra_floor (u W : Int) : raF "floor" u W = W - 1 := by
  have p3 : u % 2 = 1 ↔ ¬ u % 2 = 0 := by omega
  have p2 : u = 0 → u ≤ 0 := by omega
  have p1 : u < 0 → u ≤ 0 := by omega
  by_cases h1 : u ≤ 0 <;> by_cases h2 : u < 0 <;> by_cases h3 : u % 2 = 0 <;> first | omega | simp [raF, lift_floor, h1, h2, h3, p3]
theorem rb_ceiling (u W : Int) : rbF "ceiling" u W = W - 1 := by
  have p3 : u % 2 = 1 ↔ ¬ u % 2 = 0 := by omega
  have p2 : u = 0 → u ≤ 0 := by omega
  have p1 : u < 0 → u ≤ 0 := by omega
  by_cases h1 : u ≤ 0 <;> by_cases h2 : u < 0 <;> by_cases h3 : u % 2 = 0 <;> first | omega | simp [rbF, lift_ceiling, h1, h2, h3, p3]
theorem ra_ceiling (u W : Int) : raF "ceiling" u W = 0 := by
  have p3 : u % 2 = 1 ↔ ¬ u % 2 = 0 := by omega
  have p2 : u = 0 → u ≤ 0 := by omega
  have p1 : u < 0 → u ≤ 0 := by omega
  by_cases h1 : u ≤ 0 <;> by_cases h2 : u < 0 <;> by_cases h3 : u % 2 = 0 <;> first | omega | simp [raF, lift_ceiling, h1, h2, h3, p3]
theorem rb_cut (u W : Int) : rbF "cut" u W = if u ≤ 0 then W - 1 else 0 := by
  have p3 : u % 2 = 1 ↔ ¬ u % 2 = 0 := by omega
  have p2 : u = 0 → u ≤ 0 := by omega
  have p1 : u < 0 → u ≤ 0 := by omega
  by_cases h1 : u ≤ 0 <;> by_cases h2 : u < 0 <;> by_cases h3 : u % 2 = 0 <;> first | omega | simp [rbF, lift_cut, h1, h2, h3, p3]
theorem ra_cut (u W : Int) : raF "cut" u W = if u < 0 then 0 else W - 1 := by
  have p3 : u % 2 = 1 ↔ ¬ u % 2 = 0 := by omega
  have p2 : u = 0 → u ≤ 0 := by omega
  have p1 : u < 0 → u ≤ 0 := by omega
  by_cases h1 : u ≤ 0 <;> by_cases h2 : u < 0 <;> by_cases h3 : u % 2 = 0 <;> first | omega | simp [raF, lift_cut, h1, h2, h3, p3]
theorem rb_away (u W : Int) : rbF "away" u W = if u ≤ 0 then 0 else W - 1 := by
  have p3 : u % 2 = 1 ↔ ¬ u % 2 = 0 := by omega
  have p2 : u = 0 → u ≤ 0 := by omega
  have p1 : u < 0 → u ≤ 0 := by omega
  by_cases h1 : u ≤ 0 <;> by_cases h2 : u < 0 <;> by_cases h3 : u % 2 = 0 <;> first | omega | simp [rbF, lift_away, h1, h2, h3, p3]
theorem ra_away (u W : Int) : raF "away" u W = if u < 0 then W - 1 else 0 := by
  have p3 : u % 2 = 1 ↔ ¬ u % 2 = 0 := by omega
  have p2 : u = 0 → u ≤ 0 := by omega
  have p1 : u < 0 → u ≤ 0 := by omega
  by_cases h1 : u ≤ 0 <;> by_cases h2 : u < 0 <;> by_cases h3 : u % 2 = 0 <;> first | omega | simp [raF, lift_away, h1, h2, h3, p3]
theorem rb_halfup (u W : Int) : rbF "halfup" u W = W / 2 := by
  have p3 : u % 2 = 1 ↔ ¬ u % 2 = 0 := by omega
  have p2 : u = 0 → u ≤ 0 := by omega
  have p1 : u < 0 → u ≤ 0 := by omega
  by_cases h1 : u ≤ 0 <;> by_cases h2 : u < 0 <;> by_cases h3 : u % 2 = 0 <;> first | omega | simp [rbF, lift_halfup, h1, h2, h3, p3]
theorem ra_halfup (u W : Int) : raF "halfup" u W = W / 2 - 1 := by
  have p3 : u % 2 = 1 ↔ ¬ u % 2 = 0 := by omega
  have p2 : u = 0 → u ≤ 0 := by omega
  have p1 : u < 0 → u ≤ 0 := by omega
  by_cases h1 : u ≤ 0 <;> by_cases h2 : u < 0 <;> by_cases h3 : u % 2 = 0 <;> first | omega | simp [raF, lift_halfup, h1, h2, h3, p3]
theorem rb_halfdown (u W : Int) : rbF "halfdown" u W = W / 2 - 1 := by
  have p3 : u % 2 = 1 ↔ ¬ u % 2 = 0 := by omega
  have p2 : u = 0 → u ≤ 0 := by omega
  have p1 : u < 0 → u ≤ 0 := by omega
  by_cases h1 : u ≤ 0 <;> by_cases h2 : u < 0 <;> by_cases h3 : u % 2 = 0 <;> first | omega | simp [rbF, lift_halfdown, h1, h2, h3, p3]
theorem ra_halfdown (u W : Int) : raF "halfdown" u W = W / 2 := by
  have p3 : u % 2 = 1 ↔ ¬ u % 2 = 0 := by omega
  have p2 : u = 0 → u ≤ 0 := by omega
  have p1 : u < 0 → u ≤ 0 := by omega
  by_cases h1 : u ≤ 0 <;> by_cases h2 : u < 0 <;> by_cases h3 : u % 2 = 0 <;> first | omega | simp [raF, lift_halfdown, h1, h2, h3, p3]
theorem rb_halfeven (u W : Int) : rbF "halfeven" u W = if u % 2 = 0 then W / 2 else W / 2 - 1 := by
  have p3 : u % 2 = 1 ↔ ¬ u % 2 = 0 := by omega
  have p2 : u = 0 → u ≤ 0 := by omega
  have p1 : u < 0 → u ≤ 0 := by omega
  by_cases h1 : u ≤ 0 <;> by_cases h2 : u < 0 <;> by_cases h3 : u % 2 = 0 <;> first | omega | simp [rbF, lift_halfeven, h1, h2, h3, p3]
theorem ra_halfeven (u W : Int) : raF "halfeven" u W = if u % 2 = 1 then W / 2 - 1 else W / 2 := by
  have p3 : u % 2 = 1 ↔ ¬ u % 2 = 0 := by omega
  have p2 : u = 0 → u ≤ 0 := by omega
  have p1 : u < 0 → u ≤ 0 := by omega
  by_cases h1 : u ≤ 0 <;> by_cases h2 : u < 0 <;> by_cases h3 : u % 2 = 0 <;> first | omega | simp [raF, lift_halfeven, h1, h2, h3, p3]
theorem rb_halfaway (u W : Int) : rbF "halfaway" u W = if u ≤ 0 then W / 2 - 1 else W / 2 := by
  have p3 : u % 2 = 1 ↔ ¬ u % 2 = 0 := by omega
  have p2 : u = 0 → u ≤ 0 := by omega
  have p1 : u < 0 → u ≤ 0 := by omega
  by_cases h1 : u ≤ 0 <;> by_cases h2 : u < 0 <;> by_cases h3 : u % 2 = 0 <;> first | omega | simp [rbF, lift_halfaway, h1, h2, h3, p3]
theorem ra_halfaway (u W : Int) : raF "halfaway" u W = if u < 0 then W / 2 else W / 2 - 1 := by
  have p3 : u % 2 = 1 ↔ ¬ u % 2 = 0 := by omega
  have p2 : u = 0 → u ≤ 0 := by omega
  have p1 : u < 0 → u ≤ 0 := by omega
  by_cases h1 : u ≤ 0 <;> by_cases h2 : u < 0 <;> by_cases h3 : u % 2 = 0 <;> first | omega | simp [raF, lift_halfaway, h1, h2, h3, p3]
theorem rb_halfcut (u W : Int) : rbF "halfcut" u W = if u ≤ 0 then W / 2 else W / 2 - 1 := by
  have p3 : u % 2 = 1 ↔ ¬ u % 2 = 0 := by omega
  have p2 : u = 0 → u ≤ 0 := by omega
  have p1 : u < 0 → u ≤ 0 := by omega
  by_cases h1 : u ≤ 0 <;> by_cases h2 : u < 0 <;> by_cases h3 : u % 2 = 0 <;> first | omega | simp [rbF, lift_halfcut, h1, h2, h3, p3]
theorem ra_halfcut (u W : Int) : raF "halfcut" u W = if u < 0 then W / 2 - 1 else W / 2 := by
  have p3 : u % 2 = 1 ↔ ¬ u % 2 = 0 := by omega
  have p2 : u = 0 → u ≤ 0 := by omega
  have p1 : u < 0 → u ≤ 0 := by omega
  by_cases h1 : u ≤ 0 <;> by_cases h2 : u < 0 <;> by_cases h3 : u % 2 = 0 <;> first | omega | simp [raF, lift_halfcut, h1, h2, h3, p3]
/-- how far a floor may be from U -/
theorem cases3 (U q W : Int) (hW : 10 ≤ W) : (U = q ∧ U * W = q * W) ∨ (U = q + 1 ∧ U * W = q * W + W) ∨ (U ≤ q - 1 ∧ U * W ≤ q * W - W) ∨ (q + 2 ≤ U ∧ q * W + 2 * W ≤ U * W) := by
  have hc : U = q ∨ U = q + 1 ∨ U ≤ q - 1 ∨ q + 2 ≤ U := by omega
  rcases hc with h | h | h | h
  · exact .inl ⟨h, by rw [h]⟩
  · refine .inr (.inl ⟨h, ?_⟩)
    rw [h, Int.add_mul, Int.one_mul]
  · refine .inr (.inr (.inl ⟨h, ?_⟩))
    have := Int.mul_le_mul_of_nonneg_right h (show 0 ≤ W by omega)
    rw [Int.sub_mul, Int.one_mul] at this
    exact this
  · refine .inr (.inr (.inr ⟨h, ?_⟩))
    have := Int.mul_le_mul_of_nonneg_right h (show 0 ≤ W by omega)
    rw [Int.add_mul] at this
    exact this
theorem sq3 (U W : Int) (hW : 10 ≤ W) : (0 < U → W ≤ U * W) ∧ (U = 0 → U * W = 0) ∧ (U < 0 → U * W ≤ -W) := by
  refine ⟨fun h => ?_, fun h => by rw [h, Int.zero_mul], fun h => ?_⟩
  · have := Int.mul_le_mul_of_nonneg_right (show 1 ≤ U by omega) (show 0 ≤ W by omega)
    omega
  · have := Int.mul_le_mul_of_nonneg_right (show U ≤ -1 by omega) (show 0 ≤ W by omega)
    omega

theorem ni_floor (t U W : Int) (hW : 10 ≤ W) (h2 : W % 2 = 0) : (nearF t W "floor" = U ↔ (U * W - rbF "floor" U W ≤ t ∧ t ≤ U * W + raF "floor" U W)) := by
  have e := ediv_eq t W
  have h0 := Int.emod_nonneg t (show W ≠ 0 by omega)
  have h1 := Int.emod_lt_of_pos t (show 0 < W by omega)
  have hz : t = 0 → t % W = 0 := fun h => by rw [h]; exact Int.zero_emod W
  have c3 := cases3 U (t / W) W hW
  have s3 := sq3 U W hW
  simp only [rb_floor, ra_floor, near_floor, innF, outF]
  generalize U * W = UW at *
  generalize t / W * W = qd at *
  generalize t % W = r at *
  generalize t / W = q at *
  (repeat' split) <;> omega
theorem ni_ceiling (t U W : Int) (hW : 10 ≤ W) (h2 : W % 2 = 0) : (nearF t W "ceiling" = U ↔ (U * W - rbF "ceiling" U W ≤ t ∧ t ≤ U * W + raF "ceiling" U W)) := by
  have e := ediv_eq t W
  have h0 := Int.emod_nonneg t (show W ≠ 0 by omega)
  have h1 := Int.emod_lt_of_pos t (show 0 < W by omega)
  have hz : t = 0 → t % W = 0 := fun h => by rw [h]; exact Int.zero_emod W
  have c3 := cases3 U (t / W) W hW
  have s3 := sq3 U W hW
  simp only [rb_ceiling, ra_ceiling, near_ceiling, innF, outF]
  generalize U * W = UW at *
  generalize t / W * W = qd at *
  generalize t % W = r at *
  generalize t / W = q at *
  (repeat' split) <;> omega
theorem ni_cut (t U W : Int) (hW : 10 ≤ W) (h2 : W % 2 = 0) : (nearF t W "cut" = U ↔ (U * W - rbF "cut" U W ≤ t ∧ t ≤ U * W + raF "cut" U W)) := by
  have e := ediv_eq t W
  have h0 := Int.emod_nonneg t (show W ≠ 0 by omega)
  have h1 := Int.emod_lt_of_pos t (show 0 < W by omega)
  have hz : t = 0 → t % W = 0 := fun h => by rw [h]; exact Int.zero_emod W
  have c3 := cases3 U (t / W) W hW
  have s3 := sq3 U W hW
  simp only [rb_cut, ra_cut, near_cut, innF, outF]
  generalize U * W = UW at *
  generalize t / W * W = qd at *
  generalize t % W = r at *
  generalize t / W = q at *
  (repeat' split) <;> omega
theorem ni_away (t U W : Int) (hW : 10 ≤ W) (h2 : W % 2 = 0) : (nearF t W "away" = U ↔ (U * W - rbF "away" U W ≤ t ∧ t ≤ U * W + raF "away" U W)) := by
  have e := ediv_eq t W
  have h0 := Int.emod_nonneg t (show W ≠ 0 by omega)
  have h1 := Int.emod_lt_of_pos t (show 0 < W by omega)
  have hz : t = 0 → t % W = 0 := fun h => by rw [h]; exact Int.zero_emod W
  have c3 := cases3 U (t / W) W hW
  have s3 := sq3 U W hW
  simp only [rb_away, ra_away, near_away, innF, outF]
  generalize U * W = UW at *
  generalize t / W * W = qd at *
  generalize t % W = r at *
  generalize t / W = q at *
  (repeat' split) <;> omega
theorem ni_halfup (t U W : Int) (hW : 10 ≤ W) (h2 : W % 2 = 0) : (nearF t W "halfup" = U ↔ (U * W - rbF "halfup" U W ≤ t ∧ t ≤ U * W + raF "halfup" U W)) := by
  have e := ediv_eq t W
  have h0 := Int.emod_nonneg t (show W ≠ 0 by omega)
  have h1 := Int.emod_lt_of_pos t (show 0 < W by omega)
  have hz : t = 0 → t % W = 0 := fun h => by rw [h]; exact Int.zero_emod W
  have c3 := cases3 U (t / W) W hW
  have s3 := sq3 U W hW
  simp only [rb_halfup, ra_halfup, near_halfup, innF, outF]
  generalize U * W = UW at *
  generalize t / W * W = qd at *
  generalize t % W = r at *
  generalize t / W = q at *
  (repeat' split) <;> omega
theorem ni_halfdown (t U W : Int) (hW : 10 ≤ W) (h2 : W % 2 = 0) : (nearF t W "halfdown" = U ↔ (U * W - rbF "halfdown" U W ≤ t ∧ t ≤ U * W + raF "halfdown" U W)) := by
  have e := ediv_eq t W
  have h0 := Int.emod_nonneg t (show W ≠ 0 by omega)
  have h1 := Int.emod_lt_of_pos t (show 0 < W by omega)
  have hz : t = 0 → t % W = 0 := fun h => by rw [h]; exact Int.zero_emod W
  have c3 := cases3 U (t / W) W hW
  have s3 := sq3 U W hW
  simp only [rb_halfdown, ra_halfdown, near_halfdown, innF, outF]
  generalize U * W = UW at *
  generalize t / W * W = qd at *
  generalize t % W = r at *
  generalize t / W = q at *
  (repeat' split) <;> omega
theorem ni_halfeven (t U W : Int) (hW : 10 ≤ W) (h2 : W % 2 = 0) : (nearF t W "halfeven" = U ↔ (U * W - rbF "halfeven" U W ≤ t ∧ t ≤ U * W + raF "halfeven" U W)) := by
  have e := ediv_eq t W
  have h0 := Int.emod_nonneg t (show W ≠ 0 by omega)
  have h1 := Int.emod_lt_of_pos t (show 0 < W by omega)
  have hz : t = 0 → t % W = 0 := fun h => by rw [h]; exact Int.zero_emod W
  have c3 := cases3 U (t / W) W hW
  have s3 := sq3 U W hW
  simp only [rb_halfeven, ra_halfeven, near_halfeven, innF, outF]
  generalize U * W = UW at *
  generalize t / W * W = qd at *
  generalize t % W = r at *
  generalize t / W = q at *
  (repeat' split) <;> omega
theorem ni_halfaway (t U W : Int) (hW : 10 ≤ W) (h2 : W % 2 = 0) : (nearF t W "halfaway" = U ↔ (U * W - rbF "halfaway" U W ≤ t ∧ t ≤ U * W + raF "halfaway" U W)) := by
  have e := ediv_eq t W
  have h0 := Int.emod_nonneg t (show W ≠ 0 by omega)
  have h1 := Int.emod_lt_of_pos t (show 0 < W by omega)
  have hz : t = 0 → t % W = 0 := fun h => by rw [h]; exact Int.zero_emod W
  have c3 := cases3 U (t / W) W hW
  have s3 := sq3 U W hW
  simp only [rb_halfaway, ra_halfaway, near_halfaway, innF, outF]
  generalize U * W = UW at *
  generalize t / W * W = qd at *
  generalize t % W = r at *
  generalize t / W = q at *
  (repeat' split) <;> omega
theorem ni_halfcut (t U W : Int) (hW : 10 ≤ W) (h2 : W % 2 = 0) : (nearF t W "halfcut" = U ↔ (U * W - rbF "halfcut" U W ≤ t ∧ t ≤ U * W + raF "halfcut" U W)) := by
  have e := ediv_eq t W
  have h0 := Int.emod_nonneg t (show W ≠ 0 by omega)
  have h1 := Int.emod_lt_of_pos t (show 0 < W by omega)
  have hz : t = 0 → t % W = 0 := fun h => by rw [h]; exact Int.zero_emod W
  have c3 := cases3 U (t / W) W hW
  have s3 := sq3 U W hW
  simp only [rb_halfcut, ra_halfcut, near_halfcut, innF, outF]
  generalize U * W = UW at *
  generalize t / W * W = qd at *
  generalize t % W = r at *
  generalize t / W = q at *
  (repeat' split) <;> omega
theorem near_iff (t U W : Int) (hW : 10 ≤ W) (h2 : W % 2 = 0) : ∀ x ∈ waysL, (nearF t W x = U ↔ (U * W - rbF x U W ≤ t ∧ t ≤ U * W + raF x U W)) := ways_cases ⟨ni_floor t U W hW h2, ni_ceiling t U W hW h2, ni_cut t U W hW h2, ni_away t U W hW h2, ni_halfup t U W hW h2, ni_halfdown t U W hW h2, ni_halfeven t U W hW h2, ni_halfaway t U W hW h2, ni_halfcut t U W hW h2⟩
theorem rb_range (u W : Int) (hW : 10 ≤ W) : ∀ x ∈ waysL, 0 ≤ rbF x u W ∧ rbF x u W < W := by
  refine ways_cases ⟨by rw [rb_floor]; (first | omega | (split <;> omega)), by rw [rb_ceiling]; (first | omega | (split <;> omega)), by rw [rb_cut]; (first | omega | (split <;> omega)), by rw [rb_away]; (first | omega | (split <;> omega)), by rw [rb_halfup]; (first | omega | (split <;> omega)), by rw [rb_halfdown]; (first | omega | (split <;> omega)), by rw [rb_halfeven]; (first | omega | (split <;> omega)), by rw [rb_halfaway]; (first | omega | (split <;> omega)), by rw [rb_halfcut]; (first | omega | (split <;> omega))⟩
theorem ra_range (u W : Int) (hW : 10 ≤ W) : ∀ x ∈ waysL, 0 ≤ raF x u W ∧ raF x u W < W := by
  refine ways_cases ⟨by rw [ra_floor]; (first | omega | (split <;> omega)), by rw [ra_ceiling]; (first | omega | (split <;> omega)), by rw [ra_cut]; (first | omega | (split <;> omega)), by rw [ra_away]; (first | omega | (split <;> omega)), by rw [ra_halfup]; (first | omega | (split <;> omega)), by rw [ra_halfdown]; (first | omega | (split <;> omega)), by rw [ra_halfeven]; (first | omega | (split <;> omega)), by rw [ra_halfaway]; (first | omega | (split <;> omega)), by rw [ra_halfcut]; (first | omega | (split <;> omega))⟩
theorem mir_floor : mirF "floor" = "ceiling" := by decide +kernel
theorem mir_ceiling : mirF "ceiling" = "floor" := by decide +kernel
theorem mir_cut : mirF "cut" = "cut" := by decide +kernel
theorem mir_away : mirF "away" = "away" := by decide +kernel
theorem mir_halfup : mirF "halfup" = "halfdown" := by decide +kernel
theorem mir_halfdown : mirF "halfdown" = "halfup" := by decide +kernel
theorem mir_halfeven : mirF "halfeven" = "halfeven" := by decide +kernel
theorem mir_halfaway : mirF "halfaway" = "halfaway" := by decide +kernel
theorem mir_halfcut : mirF "halfcut" = "halfcut" := by decide +kernel
theorem rb_mir (u W : Int) : ∀ x ∈ waysL, rbF (mirF x) (-u) W = raF x u W := by
  refine ways_cases ⟨by rw [mir_floor, rb_ceiling, ra_floor] <;> (first | rfl | omega | ((repeat' split) <;> omega)), by rw [mir_ceiling, rb_floor, ra_ceiling] <;> (first | rfl | omega | ((repeat' split) <;> omega)), by rw [mir_cut, rb_cut, ra_cut] <;> (first | rfl | omega | ((repeat' split) <;> omega)), by rw [mir_away, rb_away, ra_away] <;> (first | rfl | omega | ((repeat' split) <;> omega)), by rw [mir_halfup, rb_halfdown, ra_halfup] <;> (first | rfl | omega | ((repeat' split) <;> omega)), by rw [mir_halfdown, rb_halfup, ra_halfdown] <;> (first | rfl | omega | ((repeat' split) <;> omega)), by rw [mir_halfeven, rb_halfeven, ra_halfeven] <;> (first | rfl | omega | ((repeat' split) <;> omega)), by rw [mir_halfaway, rb_halfaway, ra_halfaway] <;> (first | rfl | omega | ((repeat' split) <;> omega)), by rw [mir_halfcut, rb_halfcut, ra_halfcut] <;> (first | rfl | omega | ((repeat' split) <;> omega))⟩
theorem ra_mir (u W : Int) : ∀ x ∈ waysL, raF (mirF x) (-u) W = rbF x u W := by
  refine ways_cases ⟨by rw [mir_floor, ra_ceiling, rb_floor] <;> (first | rfl | omega | ((repeat' split) <;> omega)), by rw [mir_ceiling, ra_floor, rb_ceiling] <;> (first | rfl | omega | ((repeat' split) <;> omega)), by rw [mir_cut, ra_cut, rb_cut] <;> (first | rfl | omega | ((repeat' split) <;> omega)), by rw [mir_away, ra_away, rb_away] <;> (first | rfl | omega | ((repeat' split) <;> omega)), by rw [mir_halfup, ra_halfdown, rb_halfup] <;> (first | rfl | omega | ((repeat' split) <;> omega)), by rw [mir_halfdown, ra_halfup, rb_halfdown] <;> (first | rfl | omega | ((repeat' split) <;> omega)), by rw [mir_halfeven, ra_halfeven, rb_halfeven] <;> (first | rfl | omega | ((repeat' split) <;> omega)), by rw [mir_halfaway, ra_halfaway, rb_halfaway] <;> (first | rfl | omega | ((repeat' split) <;> omega)), by rw [mir_halfcut, ra_halfcut, rb_halfcut] <;> (first | rfl | omega | ((repeat' split) <;> omega))⟩
theorem mir_in : ∀ x ∈ waysL, mirF x ∈ waysL := by decide +kernel
end K05
namespace K05
open PySem L2 DS
set_option pp.maxSteps 1200
local macro_rules | `(tactic| walk_at "c") => `(tactic| first
  | (dsimp only; omega)
  | omega
  | (show CMulA _ _; first | exact CMulA.s1 (by omega) (by omega) | exact CMulA.s2 (by omega) (by omega))
  | (show CDivW _ _; first | exact ⟨by omega, by assumption⟩ | exact ⟨by omega, by decide⟩)
  | (show CPow _ _; exact ⟨by decide, by decide, by decide⟩)
  | assumption)
local macro_rules | `(tactic| walk_at "get") => `(tactic| first
  | assumption
  | (refine (by assumption : Same _ _) _ _ ?_; walk_at "get")
  | (refine (by assumption : Keep _ _) _ _ ?_ rfl; walk_at "get"))
local macro_rules | `(tactic| walk_at "pen") => `(tactic| first
  | assumption
  | (refine Pen.same (by assumption) ?_; walk_at "pen")
  | (refine Pen.mono ?_ (by omega); assumption))
local macro_rules | `(tactic| walk_at "keep") => `(tactic| first
  | assumption
  | exact Keep.refl _
  | exact Keep.of (by assumption)
  | (refine Keep.trans ?_ (by assumption); walk_at "keep")
  | (refine Keep.same ?_ (by assumption); walk_at "keep"))
local macro_rules | `(tactic| walk_at "same") => `(tactic| first
  | assumption
  | exact Same.refl _
  | (refine Same.trans ?_ (by assumption); walk_at "same"))
local macro_rules | `(tactic| walk_at "s") => `(tactic| first
  | with_reducible refine w_seq ?_
  | with_reducible refine w_asg ?_
  | with_reducible refine w_name ?_
  | ((with_reducible apply w_var); exact rfl)
  | with_reducible refine w_c ?_
  | with_reducible refine w_op ?_
  | with_reducible refine w_I0 ?_
  | ((with_reducible apply w_I); (walk_at "c"))
  | with_reducible refine w_cons ?_
  | with_reducible refine w_nil ?_
  | with_reducible refine w_cb ?_
  | with_reducible refine w_int1 ?_
  | with_reducible refine w_int1b ?_
  | with_reducible refine w_call ?_
  | with_reducible refine w_ifs ?_
  | with_reducible refine w_test ?_
  | with_reducible refine w_k ?_
  | with_reducible refine w_ret ?_
  | with_reducible refine w_drop ?_
  | with_reducible refine w_not ?_
  | with_reducible refine w_and ?_
  | with_reducible refine w_or ?_
  | with_reducible refine w_andV ?_
  | with_reducible refine w_orV ?_
  | with_reducible refine w_notV ?_
  | with_reducible refine w_if ?_
  | with_reducible refine w_B ?_
  | with_reducible refine w_un ?_
  | with_reducible refine w_U ?_
  | (with_reducible refine w_tup ?_; intro _ _)
  | (with_reducible refine w_lst ?_; intro _ _)
  | with_reducible refine w_dget ?_
  | with_reducible refine w_dput ?_
  | with_reducible refine w_fld ?_
  | with_reducible refine w_meth ?_
  | (with_reducible refine w_make ?_; intro _ _)
  | with_reducible refine w_par ?_
  | with_reducible refine w_par3 ?_
  | with_reducible refine w_two ?_
  | with_reducible refine w_three ?_
  | with_reducible refine w_one ?_
  | with_reducible refine w_chain ?_
  | with_reducible refine w_next ?_
  | with_reducible refine w_brk ?_
  | with_reducible refine w_cont ?_
  | with_reducible refine w_retN ?_
  | with_reducible refine w_gcons ?_
  | with_reducible refine w_gnil ?_
  | ((with_reducible refine w_eq ?_ ?_); exact rfl)
  | ((with_reducible refine w_ne ?_ ?_); exact rfl)
  | with_reducible refine w_part ?_
  | with_reducible refine w_lc ?_
  | with_reducible refine w_yes ?_
  | with_reducible refine w_iTup ?_
  | with_reducible refine w_iList ?_
  | with_reducible refine w_unT ?_
  | with_reducible refine w_unT0 ?_
  | with_reducible refine w_unL ?_
  | with_reducible refine w_unL0 ?_
  | ((with_reducible apply w_gtup); (walk_at "get"); (exact rfl))
  | with_reducible refine w_gfld ?_
  | with_reducible refine w_sfld ?_
  | with_reducible refine w_risi ?_
  | with_reducible refine w_i ?_
  | with_reducible refine w_pnil ?_
  | with_reducible refine w_pcons ?_
  | with_reducible refine w_sl ?_
  | with_reducible refine w_nopart ?_
  | with_reducible refine w_for ?_
  | with_reducible refine w_while ?_
  | with_reducible refine w_irng1 ?_
  | with_reducible refine w_irng2 ?_
  | with_reducible refine And.intro (rfl : V.non = V.non) ?_)
local macro_rules | `(tactic| walk_at "go") => `(tactic| repeat (walk_at "s"))

section
variable {P : Program} {w : World} {K : PySem.W.Frag} {mg : Str → Option Value} {base : Heap}
theorem val4 (a b c d : Int) {x : Str} (hx : x ∈ four) : valV (mergeK [] [(Sum.inr "floor", V.int a), (Sum.inr "ceiling", .int b), (Sum.inr "cut", .int c), (Sum.inr "away", .int d)]) (Sum.inr x) = some (.int (pick4 x a b c d)) := by
  simp only [four, List.mem_cons, List.not_mem_nil, or_false] at hx
  rcases hx with rfl | rfl | rfl | rfl <;> kernel_rfl
theorem val5 (a b c d e : Int) {x : Str} (hx : x ∈ waysL) (hf : ¬ x ∈ four) : valV (mergeK [] [(Sum.inr "halfup", V.int a), (Sum.inr "halfdown", .int b), (Sum.inr "halfeven", .int c), (Sum.inr "halfaway", .int d), (Sum.inr "halfcut", .int e)]) (Sum.inr x) = some (.int (pick5 x a b c d e)) := by
  simp only [waysL, List.mem_cons, List.not_mem_nil, or_false] at hx
  rcases hx with rfl | rfl | rfl | rfl | rfl | rfl | rfl | rfl | rfl
  · exact absurd in_four_floor hf
  · exact absurd in_four_ceiling hf
  · exact absurd in_four_cut hf
  · exact absurd in_four_away hf
  all_goals kernel_rfl
def sp_near : Sp := fun vs H Q _ => ∃ (n d : Int) (x : Str), vs = [.int n, .int d, .str x] ∧ x ∈ waysL ∧ 0 < d ∧ n.natAbs < 2 ^ 5000 ∧ d.natAbs < 2 ^ 5000 ∧ ∀ H', Same H H' → Q (.int (nearF n d x)) H'
theorem ok__law_near (T : Tx w K mg) : FnOk P w K mg base CX0 1 T.f__law_near T.fd__law_near ["_law_number", "_law_divisor", "_law_manner"] sp_near := by
  refine T.F__law_near.ok sc__law_near (fun vs H Q E h => ?_) (fun cdv A outer s H vs Q E hr h => ?_)
  · obtain ⟨n, d, x, rfl, _⟩ := h
    rfl
  · obtain ⟨n, d, x, rfl, hx, hd, hn, hdb, q⟩ := h
    have hu := hu_of hr
    have hu64 := hu64_of hr
    have hlog : d.natAbs.log2 < 9000 := Nat.lt_of_lt_of_le (PySem.Flt.log2_lt_of (by decide) hdb) (by decide)
    have c1 : CMulA (n / d) d := CMulA.w (Nat.lt_of_le_of_lt (ediv_abs n d) hn) hdb (by decide)
    clear hn hdb
    refine ⟨_, (pss_cons (ps_set (i := 3) sc__law_near.nd rfl (Or.inl rfl) (pe_op op_fdivW (pv 0) (pv 1)))
      (pss_cons (ps_if (pt_cmpR op_eq (pe_op op_mulA (pv 3) (pv 1)) (pv 0) (nomark _)) (pss_one (ps_ret (pv 3))) pss_nil)
      (pss_cons (ps_asg (pe_ifExp (pt_cmpR op_gt (pv 0) pe_int (nomark _)) (pe_tup (pa_cons (pv 3) (pa_cons (pe_op op_add (pv 3) pe_int) pa_nil))) (pe_tup (pa_cons (pe_op op_add (pv 3) pe_int) (pa_cons (pv 3) pa_nil)))) (pg_tup rfl (pgs_cons (pg_name (i := 4) sc__law_near.nd rfl (Or.inl rfl)) (pgs_cons (pg_name (i := 5) sc__law_near.nd rfl (Or.inl rfl)) pgs_nil))))
      (pss_cons (ps_set (i := 6) sc__law_near.nd rfl (Or.inl rfl) (pe_op op_sub (pe_op op_mulA pe_int (pe_op op_sub (pv 0) (pe_op op_mulA (pv 3) (pv 1)))) (pv 1)))
      (pss_cons (ps_if (pt_cmpR op_in_seq (pv 2) (pe_lst (pa_cons pe_str (pa_cons pe_str (pa_cons pe_str (pa_cons pe_str pa_nil))))) rfl) (pss_one (ps_ret (pe_dget hu (pe_disp (pps_cons pe_str (pv 3) (pps_cons pe_str (pe_op op_add (pv 3) pe_int) (pps_cons pe_str (pv 4) (pps_cons pe_str (pv 5) pps_nil)))) rfl rfl (by simp) (by decide)) (pv 2) (fun _ _ => rfl)))) pss_nil)
      (pss_cons (ps_if (pt_cmpR op_ne (pv 6) pe_int (nomark _)) (pss_one (ps_ret (pe_ifExp (pt_cmpR op_lt (pv 6) pe_int (nomark _)) (pv 3) (pe_op op_add (pv 3) pe_int)))) pss_nil)
      (pss_cons (ps_set (i := 7) sc__law_near.nd rfl (Or.inl rfl) (pe_ifExp (pt_cmpR op_eq (pe_op op_mod (pe_callTy call_int1 (by rfl) T.z_int (by decide +kernel) (pa_cons (pv 3) pa_nil)) pe_int) pe_int (nomark _)) (pv 3) (pe_op op_add (pv 3) pe_int)))
      (pss_one (ps_ret (pe_dget hu (pe_disp (pps_cons pe_str (pe_op op_add (pv 3) pe_int) (pps_cons pe_str (pv 3) (pps_cons pe_str (pv 7) (pps_cons pe_str (pv 5) (pps_cons pe_str (pv 4) pps_nil))))) rfl rfl (by simp) (by decide)) (pv 2) (fun _ _ => rfl))))))))))), ?_⟩
    walk_at "go"
    refine w_ite (fun h1 => ?_) (fun h1 => ?_)
    all_goals rw [V_int] at h1
    · walk_at "go"
      have z := q H (Same.refl H)
      unfold nearF at z
      rw [if_pos h1] at z
      exact z
    walk_at "go"
    -- inner, outer
    have tail : ∀ (H1 : Hp) (p : Addr), Same H H1 → H1 p = some (.tup [.int (innF n (n / d)), .int (outF n (n / d))]) → True := fun _ _ _ _ => trivial
    refine w_ite (fun h2 => ?yes) (fun h2 => ?no)
    all_goals
      walk_at "go"
      refine w_new (by assumption) (Nat.le_of_ble_eq_true rfl) (fun p1 H1 n1 s1 e1 => ?_)
      walk_at "go"
      refine w_new (by assumption) (Nat.le_of_ble_eq_true rfl) (fun p2 H2 n2 s2 e2 => ?_)
      walk_at "go"
      refine w_inL (l := four) e2 ?_
      walk_at "go"
      refine w_ite (fun h3 => ?_) (fun h3 => ?_)
      · walk_at "go"
        refine w_disp (fun Q' eQ p3 H3 n3 s3 e3 => ?_)
        walk_at "go"
        refine w_dend [(Sum.inr "floor", V.int _), (Sum.inr "ceiling", .int _), (Sum.inr "cut", .int _), (Sum.inr "away", .int _)] eQ e3 rfl (Nat.le_of_ble_eq_true rfl) (fun H4 k4 sm4 e4 => ?_)
        walk_at "go"
        refine w_dg e4 (val4 _ _ _ _ h3) ?_
        have z := q H4 (sm4 _ ((s1.trans s2).trans s3) ((s1.trans s2).free n3))
        unfold nearF innF outF at z
        rw [if_neg h1, if_pos h3] at z
        simp only [h2, if_true, if_false] at z
        exact z
      walk_at "go"
      refine w_iteN (fun h4 => ?_) (fun h4 => ?_)
      all_goals rw [V_int] at h4
      · walk_at "go"
        refine w_ite (fun h5 => ?_) (fun h5 => ?_)
        · walk_at "go"
          have z := q H2 (s1.trans s2)
          unfold nearF at z
          rw [if_neg h1, if_neg h3, if_neg h4, if_pos h5] at z
          exact z
        · walk_at "go"
          have z := q H2 (s1.trans s2)
          unfold nearF at z
          rw [if_neg h1, if_neg h3, if_neg h4, if_neg h5] at z
          exact z
      walk_at "go"
      refine w_ite (fun h6 => ?_) (fun h6 => ?_)
      all_goals
        rw [V_int] at h6
        walk_at "go"
        refine w_disp (fun Q' eQ p3 H3 n3 s3 e3 => ?_)
        walk_at "go"
        refine w_dend [(Sum.inr "halfup", V.int _), (Sum.inr "halfdown", .int _), (Sum.inr "halfeven", .int _), (Sum.inr "halfaway", .int _), (Sum.inr "halfcut", .int _)] eQ e3 rfl (Nat.le_of_ble_eq_true rfl) (fun H4 k4 sm4 e4 => ?_)
        walk_at "go"
        refine w_dg e4 (val5 _ _ _ _ _ hx h3) ?_
        have z := q H4 (sm4 _ ((s1.trans s2).trans s3) ((s1.trans s2).free n3))
        unfold nearF innF outF at z
        rw [if_neg h1, if_neg h3, if_pos h4] at z
        simp only [h2, h6, if_true, if_false] at z
        exact z
def shownF (U : Int) (a b : Nat) (x : Str) (t : Int) : Bool := if b ≤ a then decide (t * 10 ^ (a - b) = U) else decide (nearF t (10 ^ (b - a)) x = U)
def sp_isshown : Sp := fun vs H Q _ => ∃ (U t : Int) (a b : Nat) (x : Str), vs = [.int U, .int a, .int b, .str x, .int t] ∧ x ∈ waysL ∧ a ≤ 1000 ∧ b ≤ 1000 ∧ t.natAbs < 2 ^ 4900 ∧ ∀ H', Same H H' → Q (.bl (shownF U a b x t)) H'
theorem ok__law_is_shown (T : Tx w K mg) : FnOk P w K mg base CX0 2 T.f__law_is_shown T.fd__law_is_shown ["_law_units", "_law_scale", "_law_places", "_law_way", "_law_tried"] sp_isshown := by
  refine T.F__law_is_shown.ok sc__law_is_shown (fun vs H Q E h => ?_) (fun cdv A outer s H vs Q E hr h => ?_)
  · obtain ⟨U, t, a, b, x, rfl, _⟩ := h
    rfl
  · obtain ⟨U, t, a, b, x, rfl, hx, ha, hb, ht, q⟩ := h
    refine ⟨_, (pss_cons (ps_if (pt_cmpR op_le (pv 2) (pv 1) (nomark _)) (pss_one (ps_ret (pe_cmpR op_eq (pe_op op_mulA (pv 4) (pe_call (ok__law_ten T) (hr.mono (by decide)) rfl T.g__law_ten T.F__law_ten.kp T.b__law_ten .nil pass0 (pa_cons (pe_op op_sub (pv 1) (pv 2)) pa_nil))) (pv 0) (nomark _)))) pss_nil)
      (pss_one (ps_ret (pe_cmpR op_eq (pe_call (ok__law_near T) (hr.mono (by decide)) rfl T.g__law_near T.F__law_near.kp T.b__law_near .nil pass0 (pa_cons (pv 4) (pa_cons (pe_call (ok__law_ten T) (hr.mono (by decide)) rfl T.g__law_ten T.F__law_ten.kp T.b__law_ten .nil pass0 (pa_cons (pe_op op_sub (pv 2) (pv 1)) pa_nil)) (pa_cons (pv 3) pa_nil)))) (pv 0) (nomark _))))), ?_⟩
    walk_at "go"
    refine w_ite (fun hc => ?_) (fun hc => ?_)
    · walk_at "go"
      refine ⟨a - b, by simp; omega, by omega, fun H1 s1 => ?_⟩
      have c1 : CMulA t (10 ^ (a - b)) := CMulA.w ht (pow_wide (ten_lt _) (show 4 * (a - b) + 1 ≤ 4001 by omega)) (by decide)
      clear ht
      walk_at "go"
      have z := q H1 s1
      unfold shownF at z
      rw [if_pos (show b ≤ a by omega)] at z
      simp only [V_int]
      exact z
    · walk_at "go"
      refine ⟨b - a, by simp; omega, by omega, fun H1 s1 => ?_⟩
      walk_at "go"
      refine ⟨t, _, x, rfl, hx, Int.pow_pos (by decide), pow_wide ht (by decide), pow_wide (ten_lt _) (show 4 * (b - a) + 1 ≤ 5000 by omega), fun H2 s2 => ?_⟩
      walk_at "go"
      have z := q H2 (s1.trans s2)
      unfold shownF at z
      rw [if_neg (show ¬ b ≤ a by omega)] at z
      simp only [V_int]
      exact z
def sp_ends (C : Addr) : Sp := fun vs H Q _ => ∃ (wv : V) (t l h : Addr) (ul uh : Int) (sl sh b : Nat), vs = [wv, .ref t, .int b] ∧ H t = some (.tup [.ref l, .ref h]) ∧ WAt C H l ul sl ∧ WAt C H h uh sh ∧ (nrm ul sl).2 ≤ b ∧ (nrm uh sh).2 ≤ b ∧ b ≤ 1000 ∧
  ul.natAbs < 2 ^ 3000 ∧ uh.natAbs < 2 ^ 3000 ∧ ∀ p H', Same H H' → H' p = some (.tup [.int (uAt ul sl b), .int (uAt uh sh b)]) → Q (.ref p) H'
theorem ok__law_ends (T : Tx w K mg) : FnOk P w K mg base CX0 5 T.f__law_ends T.fd__law_ends ["_law_worth", "_law_told", "_law_places"] (sp_ends T.C_Worth) := by
  refine T.F__law_ends.ok sc__law_ends (fun vs H Q E h => ?_) (fun cdv A outer s H vs Q E hr h => ?_)
  · obtain ⟨wv, t, l, h, ul, uh, sl, sh, b, rfl, _⟩ := h
    rfl
  · obtain ⟨wv, t, l, h, ul, uh, sl, sh, b, rfl, ht, hl, hh, h1, h2, hb, hul, huh, q⟩ := h
    have hu64 := hu64_of hr
    refine ⟨_, (pss_cons (ps_if (PW.pt (pw_or (pt_not (pt_val (pe_callB call_isi (by rfl) T.z_isinstance (by decide +kernel) (pa_cons (pv 1) (pa_cons (pe_bltn (v := .ty "tuple") (by rfl) T.z_tuple (by decide +kernel) rfl) pa_nil))))) (pw_or1 (pt_cmpR op_ne (pe_callB call_len_seq (by rfl) T.z_len PySem.boot_len (pa_cons (pv 1) pa_nil)) pe_int (nomark _))))) (pss_one (ps_ret pe_non)) pss_nil)
      (pss_cons (ps_if (pt_cmpR (op_neD hu64) (pe_lc (own := [("_law_end", 3)]) (g := (gName 3)) (te := (tVar 3)) (tt := (tOr (tNot (tB (tCB (rIsi K) (tCons (tVar 3) (tCons (tC (.ref T.C_Worth)) tNil))))) (tTest (tOp (rI0 fun i j => .bl (decide (j < i))) (tFld K (tVar 3) "scale") (tVar 2))))) rfl sc__law_ends.nd (pi_tup (pv 1)) (blkOk_by (N := N__law_ends) (sc := defScope s__law_ends) (by decide +kernel)) (fun _ _ _ _ _ => (pg_name (i := 3) sc__law_ends.nd rfl (Or.inl rfl))) (fun _ _ _ _ _ => pts_one (PW.pt (pw_or (pt_not (pt_val (pe_callB call_isi (by rfl) T.z_isinstance (by decide +kernel) (pa_cons (pv 3) (pa_cons (pe_glob (v := .ref T.C_Worth) rfl T.gC_Worth rfl) pa_nil))))) (pw_or1 (pt_cmpR op_gt (pe_fld (pv 3) rfl) (pv 2) (nomark _)))))) (fun _ _ _ _ _ => (pv 3))) (pe_lst pa_nil) (nomark _)) (pss_one (ps_ret pe_non)) pss_nil)
      (pss_one (ps_ret (pe_tup (pa_cons (pe_meth (pe_ix ix_tup (pv 1) pe_int (fun _ _ => rfl)) T.cl_Worth T.m_Worth_units_at (ok_Worth_units_at T) (hr.mono (by decide)) T.b_Worth_units_at .nil pass0 (pa_cons (pv 2) pa_nil)) (pa_cons (pe_meth (pe_ix ix_tup (pv 1) pe_int (fun _ _ => rfl)) T.cl_Worth T.m_Worth_units_at (ok_Worth_units_at T) (hr.mono (by decide)) T.b_Worth_units_at .nil pass0 (pa_cons (pv 2) pa_nil)) pa_nil))))))), ?_⟩
    walk_at "go"
    refine w_isiB (.base (.tup ht)) (show kitB "tuple" "tuple" = some true by decide +kernel) ?_
    walk_at "go"
    refine iteF ?_
    walk_at "go"
    refine w_lenT ht ?_
    walk_at "go"
    refine w_iteN (fun hc => absurd rfl hc) (fun hc => ?_)
    walk_at "go"
    refine ⟨t, rfl, ⟨_, .inl (.inl ht)⟩, fun D nD => lc_tup (K := K) (a := t) (xs := [.ref l, .ref h]) (fun i H' => Same H H' ∧ H' D = some (.lst [])) ⟨same_upd nD, upd_same⟩ (fun i H' _ hI => .inl (.inl (hI.1 _ _ ht))) ?_ ?_⟩
    · intro i v H' hi hI
      obtain ⟨sI, eD⟩ := hI
      obtain ⟨p, u, s', rfl, hW, hle⟩ : ∃ (p : Addr) (u : Int) (s' : Nat), v = .ref p ∧ WAt T.C_Worth H' p u s' ∧ (nrm u s').2 ≤ b := by
        match i, hi with
        | 0, hi => cases hi; exact ⟨l, ul, sl, rfl, hl.same sI, h1⟩
        | 1, hi => cases hi; exact ⟨h, uh, sh, rfl, hh.same sI, h2⟩
      obtain ⟨dx, hp⟩ := hW
      walk_at "go"
      refine ⟨rfl, ?_⟩
      walk_at "go"
      refine w_isi (.own _) (.base (T.tyW _ _ _ _ hp)) T.kiW ?_
      walk_at "go"
      refine iteF ?_
      walk_at "go"
      refine w_flds hp T.cl_Worth T.n_Worth_scale (wf_scale _ _) ?_
      walk_at "go"
      refine w_ite (fun hc => absurd hc (by omega)) (fun hc => ?_)
      exact ⟨sI, eD⟩
    · intro H1 hI
      obtain ⟨s1, eD⟩ := hI
      walk_at "go"
      refine w_new (by assumption) (Nat.le_of_ble_eq_true rfl) (fun p2 H2 n2 s2 e2 => ?_)
      walk_at "go"
      refine w_neNil (ns := []) (s2 _ _ eD) e2 ?_
      walk_at "go"
      refine iteF ?_
      have hl2 := (hl.same s1).same s2
      have hh2 := (hh.same s1).same s2
      have ht2 := s2 _ _ (s1 _ _ ht)
      obtain ⟨dl, hl3⟩ := id hl2
      walk_at "go"
      refine w_ixT ht2 rfl ?_
      walk_at "go"
      refine ⟨l, dl, _, rfl, hl3, wf_no _ _ (by decide +kernel) (by decide +kernel), ?_⟩
      walk_at "go"
      refine ⟨l, ul, sl, b, rfl, hl2, h1, by omega, hul, fun H3 s3 => ?_⟩
      walk_at "go"
      refine w_ixT (s3 _ _ ht2) rfl ?_
      obtain ⟨dh, hh3⟩ := id (hh2.same s3)
      walk_at "go"
      refine ⟨h, dh, _, rfl, hh3, wf_no _ _ (by decide +kernel) (by decide +kernel), ?_⟩
      walk_at "go"
      refine ⟨h, uh, sh, b, rfl, hh2.same s3, h2, by omega, huh, fun H4 s4 => ?_⟩
      walk_at "go"
      exact w_new (by assumption) (Nat.le_of_ble_eq_true rfl) (fun p5 H5 n5 s5 e5 => q p5 H5 ((((s1.trans s2).trans s3).trans s4).trans s5) e5)
end
end K05
namespace K05
open PySem L2 DS
def loF (U : Int) (a b : Nat) (x : Str) : Int := if b ≤ a then uAt U a b else U * 10 ^ (b - a) - rbF x U (10 ^ (b - a))
def hiF (U : Int) (a b : Nat) (x : Str) : Int := if b ≤ a then uAt U a b else U * 10 ^ (b - a) + raF x U (10 ^ (b - a))
theorem ten_big {k : Nat} (h : 0 < k) : (10 : Int) ≤ 10 ^ k ∧ (10 : Int) ^ k % 2 = 0 := by
  obtain ⟨j, rfl⟩ : ∃ j, k = j + 1 := ⟨k - 1, by omega⟩
  have p : (0 : Int) < 10 ^ j := Int.pow_pos (by decide)
  rw [Int.pow_succ]
  omega
theorem uAt_self (U : Int) (a : Nat) : uAt U a a = U := (nrm_val a U).symm
theorem uAt_mul {U : Int} {a b : Nat} (h : (nrm U a).2 ≤ b) (hb : b ≤ a) : uAt U a b * 10 ^ (a - b) = U := by
  unfold uAt
  rw [Int.mul_assoc, ← Int.pow_add]
  have e : b - (nrm U a).2 + (a - b) = a - (nrm U a).2 := by omega
  rw [e]
  exact (nrm_val a U).symm
theorem nrm_uAt {U : Int} {a b : Nat} (h : (nrm U a).2 ≤ b) (hb : b ≤ a) : nrm (uAt U a b) b = nrm U a := by
  have e := uAt_mul h hb
  have z := nrm_mul (a - b) b (uAt U a b)
  rw [e, show b + (a - b) = a by omega] at z
  exact z.symm
/-- F0: none is told where no worth is rounded to it -/
theorem none_shown {U : Int} {a b : Nat} {x : Str} (h : min a b < (nrm U a).2) (t : Int) : shownF U a b x t = false := by
  have hle := nrm_le a U
  have hba : b ≤ a := by omega
  unfold shownF
  rw [if_pos hba]
  refine decide_eq_false fun e => ?_
  have z := nrm_mul (a - b) b t
  rw [e, show b + (a - b) = a by omega] at z
  have l := nrm_le b t
  rw [← z] at l
  omega
theorem lo_le_hi (U : Int) (a b : Nat) {x : Str} (hx : x ∈ waysL) : loF U a b x ≤ hiF U a b x ∧ hiF U a b x ≤ loF U a b x + 2 * 10 ^ (b - a) := by
  unfold loF hiF
  have p : (0 : Int) < 10 ^ (b - a) := Int.pow_pos (by decide)
  split
  · omega
  · have h10 := ten_big (k := b - a) (by omega)
    have h1 := rb_range U _ h10.1 x hx
    have h2 := ra_range U _ h10.1 x hx
    omega
theorem all_shown {U : Int} {a b : Nat} {x : Str} (hx : x ∈ waysL) (h : (nrm U a).2 ≤ min a b) {t : Int} (h1 : loF U a b x ≤ t) (h2 : t ≤ hiF U a b x) : shownF U a b x t = true := by
  unfold shownF
  by_cases hba : b ≤ a
  · rw [if_pos hba]
    unfold loF at h1
    unfold hiF at h2
    rw [if_pos hba] at h1 h2
    have e : t = uAt U a b := by omega
    rw [e]
    exact decide_eq_true (uAt_mul (by omega) hba)
  · rw [if_neg hba]
    unfold loF at h1
    unfold hiF at h2
    rw [if_neg hba] at h1 h2
    have h10 := ten_big (k := b - a) (by omega)
    exact decide_eq_true ((near_iff t U _ h10.1 h10.2 x hx).mpr ⟨h1, h2⟩)
theorem not_shown {U : Int} {a b : Nat} {x : Str} (hx : x ∈ waysL) (h : (nrm U a).2 ≤ min a b) {t : Int} (ht : t < loF U a b x ∨ hiF U a b x < t) : shownF U a b x t = false := by
  unfold shownF
  by_cases hba : b ≤ a
  · rw [if_pos hba]
    unfold loF hiF at ht
    rw [if_pos hba, if_pos hba] at ht
    refine decide_eq_false fun e => ?_
    have e2 := uAt_mul (U := U) (a := a) (b := b) (by omega) hba
    have p : (0 : Int) < 10 ^ (a - b) := Int.pow_pos (by decide)
    have := Int.eq_of_mul_eq_mul_right (Int.ne_of_gt p) (e.trans e2.symm)
    omega
  · rw [if_neg hba]
    unfold loF hiF at ht
    rw [if_neg hba, if_neg hba] at ht
    have h10 := ten_big (k := b - a) (by omega)
    refine decide_eq_false fun e => ?_
    have z := (near_iff t U _ h10.1 h10.2 x hx).mp e
    omega
theorem uAt_minus (U : Int) (a b : Nat) : uAt (-U) a b = - uAt U a b := by
  unfold uAt
  rw [nrm_minus]
  exact Int.neg_mul _ _
theorem lo_mir (U : Int) (a b : Nat) {x : Str} (hx : x ∈ waysL) : loF (-U) a b (mirF x) = - hiF U a b x := by
  unfold loF hiF
  split
  · exact uAt_minus U a b
  · rw [rb_mir U _ x hx, Int.neg_mul]
    omega
theorem hi_mir (U : Int) (a b : Nat) {x : Str} (hx : x ∈ waysL) : hiF (-U) a b (mirF x) = - loF U a b x := by
  unfold loF hiF
  split
  · exact uAt_minus U a b
  · rw [ra_mir U _ x hx, Int.neg_mul]
    omega
/-- the least worth that is rounded to U, rounded -/
theorem round_lo {U : Int} {a b : Nat} {x : Str} (hx : x ∈ waysL) (h : (nrm U a).2 ≤ min a b) : ((nrm (loF U a b x) b).2 ≤ a → nrm (loF U a b x) b = nrm U a) ∧
    (a < (nrm (loF U a b x) b).2 → divF (nrm (loF U a b x) b).1 (10 ^ ((nrm (loF U a b x) b).2 - a)) x = U) := by
  by_cases hba : b ≤ a
  · have e : loF U a b x = uAt U a b := by unfold loF; rw [if_pos hba]
    rw [e, nrm_uAt (by omega) hba]
    exact ⟨fun _ => rfl, fun z => by have := nrm_le a U; omega⟩
  · have h10 := ten_big (k := b - a) (by omega)
    have hl := lo_le_hi U a b hx
    have e : loF U a b x = U * 10 ^ (b - a) - rbF x U (10 ^ (b - a)) := by unfold loF; rw [if_neg hba]
    have hn : nearF (loF U a b x) (10 ^ (b - a)) x = U := by
      have e2 : hiF U a b x = U * 10 ^ (b - a) + raF x U (10 ^ (b - a)) := by unfold hiF; rw [if_neg hba]
      exact (near_iff _ U _ h10.1 h10.2 x hx).mpr ⟨by omega, by omega⟩
    generalize loF U a b x = L at *
    have hv := nrm_val b L
    have hle := nrm_le b L
    have p : ∀ k : Nat, (0 : Int) < 10 ^ k := fun k => Int.pow_pos (by decide)
    refine ⟨fun hs => ?_, fun hs => ?_⟩
    · -- L is a multiple of W
      have hv2 : L = (nrm L b).1 * 10 ^ (a - (nrm L b).2) * 10 ^ (b - a) := by
        rw [Int.mul_assoc, ← Int.pow_add, show a - (nrm L b).2 + (b - a) = b - (nrm L b).2 by omega]
        exact hv
      have hz := near_scale ((nrm L b).1 * 10 ^ (a - (nrm L b).2)) 1 (10 ^ (b - a)) (by decide) (p _) x hx
      rw [← hv2, Int.one_mul, hn] at hz
      have h1 : nearF ((nrm L b).1 * 10 ^ (a - (nrm L b).2)) 1 x = (nrm L b).1 * 10 ^ (a - (nrm L b).2) := by
        unfold nearF
        rw [Int.ediv_one, Int.mul_one, if_pos rfl]
      rw [h1] at hz
      have hm := nrm_mul (a - (nrm L b).2) (nrm L b).2 (nrm L b).1
      rw [← hz, show (nrm L b).2 + (a - (nrm L b).2) = a by omega, nrm_idem] at hm
      exact hm.symm
    · rw [div_near _ _ (p _) x hx]
      have hz := near_scale (nrm L b).1 (10 ^ ((nrm L b).2 - a)) (10 ^ (b - (nrm L b).2)) (p _) (p _) x hx
      rw [← hv, ← Int.pow_add, show (nrm L b).2 - a + (b - (nrm L b).2) = b - a by omega, hn] at hz
      exact hz.symm
theorem bound_lo {U : Int} {a b : Nat} {x : Str} (hx : x ∈ waysL) (hU : U.natAbs < 2 ^ 400) (ha : a ≤ 50) (hb : b ≤ 50) : (loF U a b x).natAbs < 2 ^ 1000 ∧ (hiF U a b x).natAbs < 2 ^ 1000 := by
  unfold loF hiF
  split
  · have h : (uAt U a b).natAbs < 2 ^ (400 + 201) := wide_lt (Nat.lt_of_le_of_lt (nrm_abs a U) hU) (pow_wide (ten_lt _) (by omega))
    have h2 := pow_wide h (show 400 + 201 ≤ 1000 by decide)
    exact ⟨h2, h2⟩
  · have h10 := ten_big (k := b - a) (by omega)
    have h1 := rb_range U _ h10.1 x hx
    have h2 := ra_range U _ h10.1 x hx
    have h3 : (U * 10 ^ (b - a)).natAbs < 2 ^ (400 + 201) := wide_lt hU (pow_wide (ten_lt _) (by omega))
    have h4 : ((10 : Int) ^ (b - a)).natAbs < 2 ^ 601 := pow_wide (ten_lt (b - a)) (by omega)
    have h3' : (U * 10 ^ (b - a)).natAbs < 2 ^ 601 := h3
    have e : (2 : Nat) ^ 602 ≤ 2 ^ 1000 := Nat.pow_le_pow_right (by decide) (by decide)
    have e2 : (2 : Nat) ^ 602 = 2 ^ 601 * 2 := Nat.pow_succ 2 601
    generalize (2 : Nat) ^ 1000 = B at *
    generalize (2 : Nat) ^ 602 = C at *
    generalize (2 : Nat) ^ 601 = E at *
    generalize U * 10 ^ (b - a) = UW at *
    generalize (10 : Int) ^ (b - a) = W at *
    clear h3 hU
    omega
theorem draw_room {U : Int} {a b : Nat} {x : Str} (hx : x ∈ waysL) (hb : b ≤ 50) : 0 < hiF U a b x - loF U a b x + 1 ∧ hiF U a b x - loF U a b x + 1 < 2 ^ 200 := by
  have h := lo_le_hi U a b hx
  have h2' : (10 : Nat) ^ (b - a) ≤ 10 ^ 50 := Nat.pow_le_pow_right (by decide) (by omega)
  have h2 : (10 : Int) ^ (b - a) ≤ 10 ^ 50 := by exact_mod_cast h2'
  have e : (10 : Int) ^ 50 = 100000000000000000000000000000000000000000000000000 := by decide +kernel
  have e2 : (2 : Int) ^ 200 = 1606938044258990275541962092341162602522202993782792835301376 := by decide +kernel
  rw [e] at h2
  rw [e2]
  omega
end K05
namespace K05
open PySem L2 DS
set_option pp.maxSteps 1200
local macro_rules | `(tactic| walk_at "c") => `(tactic| first
  | (dsimp only; omega)
  | omega
  | (show CMulA _ _; first | exact CMulA.s1 (by omega) (by omega) | exact CMulA.s2 (by omega) (by omega))
  | (show CDivW _ _; first | exact ⟨by omega, by assumption⟩ | exact ⟨by omega, by decide⟩)
  | (show CPow _ _; exact ⟨by decide, by decide, by decide⟩)
  | assumption)
local macro_rules | `(tactic| walk_at "get") => `(tactic| first
  | assumption
  | (refine (by assumption : Same _ _) _ _ ?_; walk_at "get")
  | (refine (by assumption : Keep _ _) _ _ ?_ rfl; walk_at "get"))
local macro_rules | `(tactic| walk_at "pen") => `(tactic| first
  | assumption
  | (refine Pen.same (by assumption) ?_; walk_at "pen")
  | (refine Pen.mono ?_ (by omega); assumption))
local macro_rules | `(tactic| walk_at "keep") => `(tactic| first
  | assumption
  | exact Keep.refl _
  | exact Keep.of (by assumption)
  | (refine Keep.trans ?_ (by assumption); walk_at "keep")
  | (refine Keep.same ?_ (by assumption); walk_at "keep"))
local macro_rules | `(tactic| walk_at "same") => `(tactic| first
  | assumption
  | exact Same.refl _
  | (refine Same.trans ?_ (by assumption); walk_at "same"))
local macro_rules | `(tactic| walk_at "s") => `(tactic| first
  | with_reducible refine w_seq ?_
  | with_reducible refine w_asg ?_
  | with_reducible refine w_name ?_
  | ((with_reducible apply w_var); exact rfl)
  | with_reducible refine w_c ?_
  | with_reducible refine w_op ?_
  | with_reducible refine w_I0 ?_
  | ((with_reducible apply w_I); (walk_at "c"))
  | with_reducible refine w_cons ?_
  | with_reducible refine w_nil ?_
  | with_reducible refine w_cb ?_
  | with_reducible refine w_int1 ?_
  | with_reducible refine w_int1b ?_
  | with_reducible refine w_call ?_
  | with_reducible refine w_ifs ?_
  | with_reducible refine w_test ?_
  | with_reducible refine w_k ?_
  | with_reducible refine w_ret ?_
  | with_reducible refine w_drop ?_
  | with_reducible refine w_not ?_
  | with_reducible refine w_and ?_
  | with_reducible refine w_or ?_
  | with_reducible refine w_andV ?_
  | with_reducible refine w_orV ?_
  | with_reducible refine w_notV ?_
  | with_reducible refine w_if ?_
  | with_reducible refine w_B ?_
  | with_reducible refine w_un ?_
  | with_reducible refine w_U ?_
  | (with_reducible refine w_tup ?_; intro _ _)
  | (with_reducible refine w_lst ?_; intro _ _)
  | with_reducible refine w_dget ?_
  | with_reducible refine w_dput ?_
  | with_reducible refine w_fld ?_
  | with_reducible refine w_meth ?_
  | (with_reducible refine w_make ?_; intro _ _)
  | with_reducible refine w_par ?_
  | with_reducible refine w_par3 ?_
  | with_reducible refine w_two ?_
  | with_reducible refine w_three ?_
  | with_reducible refine w_one ?_
  | with_reducible refine w_chain ?_
  | with_reducible refine w_next ?_
  | with_reducible refine w_brk ?_
  | with_reducible refine w_cont ?_
  | with_reducible refine w_retN ?_
  | with_reducible refine w_gcons ?_
  | with_reducible refine w_gnil ?_
  | ((with_reducible refine w_eq ?_ ?_); exact rfl)
  | ((with_reducible refine w_ne ?_ ?_); exact rfl)
  | with_reducible refine w_part ?_
  | with_reducible refine w_lc ?_
  | with_reducible refine w_yes ?_
  | with_reducible refine w_iTup ?_
  | with_reducible refine w_iList ?_
  | with_reducible refine w_unT ?_
  | with_reducible refine w_unT0 ?_
  | with_reducible refine w_unL ?_
  | with_reducible refine w_unL0 ?_
  | ((with_reducible apply w_gtup); (walk_at "get"); (exact rfl))
  | with_reducible refine w_gfld ?_
  | with_reducible refine w_sfld ?_
  | with_reducible refine w_risi ?_
  | with_reducible refine w_i ?_
  | with_reducible refine w_pnil ?_
  | with_reducible refine w_pcons ?_
  | with_reducible refine w_sl ?_
  | with_reducible refine w_nopart ?_
  | with_reducible refine w_for ?_
  | with_reducible refine w_while ?_
  | with_reducible refine w_irng1 ?_
  | with_reducible refine w_irng2 ?_
  | with_reducible refine And.intro (rfl : V.non = V.non) ?_)
local macro_rules | `(tactic| walk_at "go") => `(tactic| repeat (walk_at "s"))

section
variable {P : Program} {w : World} {K : PySem.W.Frag} {mg : Str → Option Value} {base : Heap}
/-- shown_as of a worth at the scale that is asked -/
def sp_shown2 (C : Addr) : Sp := fun vs H Q _ => ∃ (p : Addr) (U : Int) (a b : Nat) (x : Str), vs = [.ref p, .int a, .int b, .str x] ∧ WAt C H p U a ∧ x ∈ waysL ∧ a ≤ 50 ∧ b ≤ 50 ∧ U.natAbs < 2 ^ 400 ∧
  (min a b < (nrm U a).2 → ∀ H', Same H H' → Q .non H') ∧
  ((nrm U a).2 ≤ min a b → ∀ t l h H', Same H H' → H' t = some (.tup [.ref l, .ref h]) → WAt C H' l (loF U a b x) b → WAt C H' h (hiF U a b x) b → Q (.ref t) H')
theorem ok_shown2 (T : Tx w K mg) : FnOk P w K mg base CX0 6 T.f_shown_as T.fd_shown_as ["worth", "scale", "places", "way"] (sp_shown2 T.C_Worth) := by
  refine (ok_shown_as T).imp fun vs H Q E h => ?_
  obtain ⟨p, U, a, b, x, rfl, hW, hx, ha, hb, hU, q1, q2⟩ := h
  refine ⟨p, U, a, a, b, x, rfl, hW, hx, by omega, by omega, pow_wide hU (by decide), q1, fun h hba t H' s e => ?_, fun h hab t l r H' s e hl hr => ?_⟩
  · have ew : wf (uAt U a b) b = wf U a := by unfold wf; rw [nrm_uAt (by omega) hba]
    have hW' : WAt T.C_Worth H' p (uAt U a b) b := by
      obtain ⟨dx, hp⟩ := hW.same s
      exact ⟨dx, by rw [ew]; exact hp⟩
    refine q2 h t p p H' s e ?_ ?_
    · unfold loF; rw [if_pos hba]; exact hW'
    · unfold hiF; rw [if_pos hba]; exact hW'
  · rw [uAt_self] at hl hr
    refine q2 h t l r H' s e ?_ ?_
    · unfold loF; rw [if_neg (by omega)]; exact hl
    · unfold hiF; rw [if_neg (by omega)]; exact hr
theorem w_eqNil {K : PySem.W.Frag} {H : Hp} {Q : VK} {p q : Addr} {ns : List Int} (hp : H p = some (.lst (ns.map V.int))) (hq : H q = some (.lst [])) (h : Q (.bl ns.isEmpty) H) : rEqD K (.ref p) (.ref q) H Q := by
  refine ⟨.list (ns.map PyData.int), .list [], .lst (.inl (.inl hp)) (dp_ints ns), .lst (.inl (.inl hq)) .nil, shaped_ints ns, rfl, ?_⟩
  cases ns <;> exact h
def sp_isright : Sp := fun vs H Q _ => ∃ (d : Addr) (n : Nat) (U : Int) (a b : Nat) (x : Str), vs = [.ref d, .int U, .int a, .int b, .str x] ∧ Pen H d n ∧ n ≤ 999900 ∧ x ∈ waysL ∧ a ≤ 50 ∧ b ≤ 50 ∧ U.natAbs < 2 ^ 400 ∧
  ∀ H', Pen H' d (n + 1) → Keep H H' → Q (.bl true) H'
theorem ok__law_is_right (T : Tx w K mg) : FnOk P w K mg base CX0 7 T.f__law_is_right T.fd__law_is_right ["_law_pen_here", "_law_units", "_law_scale", "_law_places", "_law_way"] sp_isright := by
  refine T.F__law_is_right.ok sc__law_is_right (fun vs H Q E h => ?_) (fun cdv A outer s H vs Q E hr h => ?_)
  · obtain ⟨d, n, U, a, b, x, rfl, _⟩ := h
    rfl
  · obtain ⟨d, n, U, a, b, x, rfl, hP, hn, hx, ha, hb, hU, q⟩ := h
    have hu := hu_of hr
    have hu64 := hu64_of hr
    refine ⟨_, (pss_cons (ps_set (i := 5) sc__law_is_right.nd rfl (Or.inl rfl) (pe_make T.M_Worth (ok_Worth___init__ T) (hr.mono (by decide)) rfl T.gC_Worth T.b_Worth___init__ .nil pass0 (pa_cons (pv 1) (pa_cons (pv 2) pa_nil))))
      (pss_cons (ps_set (i := 6) sc__law_is_right.nd rfl (Or.inl rfl) (pe_call (ok_shown2 T) (hr.mono (by decide)) rfl T.g_shown_as T.F_shown_as.kp T.b_shown_as .nil pass0 (pa_cons (pv 5) (pa_cons (pv 2) (pa_cons (pv 3) (pa_cons (pv 4) pa_nil))))))
      (pss_cons (ps_if (pt_cmpR op_isN (pv 6) pe_non (nomark _)) (pss_cons (ps_set (i := 7) sc__law_is_right.nd rfl (Or.inr rfl) (pe_op op_fdivW (pe_op op_mulA (pv 1) (pe_call (ok__law_ten T) (hr.mono (by decide)) rfl T.g__law_ten T.F__law_ten.kp T.b__law_ten .nil pass0 (pa_cons (pe_callB (call_max2 rfl) (by rfl) T.z_max (by decide +kernel) (pa_cons pe_int (pa_cons (pe_op op_sub (pv 3) (pv 2)) pa_nil))) pa_nil))) (pe_call (ok__law_ten T) (hr.mono (by decide)) rfl T.g__law_ten T.F__law_ten.kp T.b__law_ten .nil pass0 (pa_cons (pe_callB (call_max2 rfl) (by rfl) T.z_max (by decide +kernel) (pa_cons pe_int (pa_cons (pe_op op_sub (pv 2) (pv 3)) pa_nil))) pa_nil))))
      (pss_cons (ps_setLc (i := 8) (own := [("_law_k", 12)]) (g := (gName 12)) (te := (tOp (rI0 fun i j => .int (i + j)) (tVar 7) (tVar 12))) (tt := tYes) rfl sc__law_is_right.nd rfl rfl (sw_true rfl rfl rfl (by decide +kernel)) (pi_range2 (by rfl) T.z_range (pa_cons (pe_un un_neg pe_int) (pa_cons pe_int pa_nil))) (blkOk_by (N := N__law_is_right) (sc := defScope s__law_is_right) (by decide +kernel)) (fun _ _ _ _ _ => (pg_name (i := 12) sc__law_is_right.nd rfl (Or.inl rfl))) (fun _ _ _ _ _ => pts_nil) (fun _ _ _ _ _ => (pe_op op_add (pv 7) (pv 12))))
      (pss_one (ps_ret (pe_cmpR (op_eqD hu64) (pe_lc (own := [("_law_one", 13)]) (g := (gName 13)) (te := (tVar 13)) (tt := (tB (tCall sp_isshown [] E0 (tCons (tVar 1) (tCons (tVar 2) (tCons (tVar 3) (tCons (tVar 4) (tCons (tVar 13) tNil)))))))) rfl sc__law_is_right.nd (pi_list (pv 8)) (blkOk_by (N := N__law_is_right) (sc := defScope s__law_is_right) (by decide +kernel)) (fun _ _ _ _ _ => (pg_name (i := 13) sc__law_is_right.nd rfl (Or.inl rfl))) (fun _ _ _ _ _ => pts_one (pt_val (pe_call (ok__law_is_shown T) (hr.mono (by decide)) rfl T.g__law_is_shown T.F__law_is_shown.kp T.b__law_is_shown .nil pass0 (pa_cons (pv 1) (pa_cons (pv 2) (pa_cons (pv 3) (pa_cons (pv 4) (pa_cons (pv 13) pa_nil)))))))) (fun _ _ _ _ _ => (pv 13))) (pe_lst pa_nil) (nomark _)))))) pss_nil)
      (pss_cons (ps_set (i := 9) sc__law_is_right.nd rfl (Or.inl rfl) (pe_call (ok__law_ends T) (hr.mono (by decide)) rfl T.g__law_ends T.F__law_ends.kp T.b__law_ends .nil pass0 (pa_cons (pv 5) (pa_cons (pv 6) (pa_cons (pv 3) pa_nil)))))
      (pss_cons (ps_if (PW.pt (pw_or (pt_cmpR op_isN (pv 9) pe_non (nomark _)) (pw_or1 (pt_cmpR op_gt (pe_ix ix_tup (pv 9) pe_int (fun _ _ => rfl)) (pe_ix ix_tup (pv 9) pe_int (fun _ _ => rfl)) (nomark _))))) (pss_one (ps_ret pe_bl)) pss_nil)
      (pss_cons (ps_set (i := 10) sc__law_is_right.nd rfl (Or.inl rfl) (pe_lst (pa_cons (pe_ix ix_tup (pv 9) pe_int (fun _ _ => rfl)) (pa_cons (pe_ix ix_tup (pv 9) pe_int (fun _ _ => rfl)) (pa_cons (pe_op op_add (pe_ix ix_tup (pv 9) pe_int (fun _ _ => rfl)) (pe_call (ok__law_draw T) (hr.mono (by decide)) rfl T.g__law_draw T.F__law_draw.kp T.b__law_draw .nil pass0 (pa_cons (pv 0) (pa_cons (pe_op op_add (pe_op op_sub (pe_ix ix_tup (pv 9) pe_int (fun _ _ => rfl)) (pe_ix ix_tup (pv 9) pe_int (fun _ _ => rfl))) pe_int) pa_nil)))) pa_nil)))))
      (pss_cons (ps_if (pt_cmpR (op_neD hu64) (pe_lc (own := [("_law_one", 13)]) (g := (gName 13)) (te := (tVar 13)) (tt := (tNot (tB (tCall sp_isshown [] E0 (tCons (tVar 1) (tCons (tVar 2) (tCons (tVar 3) (tCons (tVar 4) (tCons (tVar 13) tNil))))))))) rfl sc__law_is_right.nd (pi_list (pv 10)) (blkOk_by (N := N__law_is_right) (sc := defScope s__law_is_right) (by decide +kernel)) (fun _ _ _ _ _ => (pg_name (i := 13) sc__law_is_right.nd rfl (Or.inl rfl))) (fun _ _ _ _ _ => pts_one (pt_not (pt_val (pe_call (ok__law_is_shown T) (hr.mono (by decide)) rfl T.g__law_is_shown T.F__law_is_shown.kp T.b__law_is_shown .nil pass0 (pa_cons (pv 1) (pa_cons (pv 2) (pa_cons (pv 3) (pa_cons (pv 4) (pa_cons (pv 13) pa_nil))))))))) (fun _ _ _ _ _ => (pv 13))) (pe_lst pa_nil) (nomark _)) (pss_one (ps_ret pe_bl)) pss_nil)
      (pss_cons (ps_if (pt_cmpR (op_neD hu64) (pe_lc (own := [("_law_one", 13)]) (g := (gName 13)) (te := (tVar 13)) (tt := (tB (tCall sp_isshown [] E0 (tCons (tVar 1) (tCons (tVar 2) (tCons (tVar 3) (tCons (tVar 4) (tCons (tVar 13) tNil)))))))) rfl sc__law_is_right.nd (pi_list (pe_lst (pa_cons (pe_op op_sub (pe_ix ix_tup (pv 9) pe_int (fun _ _ => rfl)) pe_int) (pa_cons (pe_op op_add (pe_ix ix_tup (pv 9) pe_int (fun _ _ => rfl)) pe_int) pa_nil)))) (blkOk_by (N := N__law_is_right) (sc := defScope s__law_is_right) (by decide +kernel)) (fun _ _ _ _ _ => (pg_name (i := 13) sc__law_is_right.nd rfl (Or.inl rfl))) (fun _ _ _ _ _ => pts_one (pt_val (pe_call (ok__law_is_shown T) (hr.mono (by decide)) rfl T.g__law_is_shown T.F__law_is_shown.kp T.b__law_is_shown .nil pass0 (pa_cons (pv 1) (pa_cons (pv 2) (pa_cons (pv 3) (pa_cons (pv 4) (pa_cons (pv 13) pa_nil)))))))) (fun _ _ _ _ _ => (pv 13))) (pe_lst pa_nil) (nomark _)) (pss_one (ps_ret pe_bl)) pss_nil)
      (pss_cons (ps_set (i := 11) sc__law_is_right.nd rfl (Or.inl rfl) (pe_call (ok_shown2 T) (hr.mono (by decide)) rfl T.g_shown_as T.F_shown_as.kp T.b_shown_as .nil pass0 (pa_cons (pe_un (un_negOwn T.m_Worth___neg__ (ok_Worth___neg__ T) (hr.mono (by decide)) T.b_Worth___neg__ pass0) (pv 5)) (pa_cons (pv 2) (pa_cons (pv 3) (pa_cons (pe_call (ok_mirrored T) (hr.mono (by decide)) rfl T.g_mirrored T.F_mirrored.kp T.b_mirrored .nil pass0 (pa_cons (pv 4) pa_nil)) pa_nil))))))
      (pss_one (ps_ret (pe_and (pe_cmpR (op_eqG (rcG_tup (mon_ins R_W.mon) (eqG_ins (ok_Worth___eq__ T) T.m_Worth___eq__.at_ T.m_Worth___eq__.fn T.b_Worth___eq__ pass0)) (hr.mono (by decide))) (pv 11) (pe_tup (pa_cons (pe_un (un_negOwn T.m_Worth___neg__ (ok_Worth___neg__ T) (hr.mono (by decide)) T.b_Worth___neg__ pass0) (pe_ix ix_tup (pv 6) pe_int (fun _ _ => rfl))) (pa_cons (pe_un (un_negOwn T.m_Worth___neg__ (ok_Worth___neg__ T) (hr.mono (by decide)) T.b_Worth___neg__ pass0) (pe_ix ix_tup (pv 6) pe_int (fun _ _ => rfl))) pa_nil))) (nomark _)) (pe_one (pe_cmpR (op_eqG (rcG_ins (ok_Worth___eq__ T) T.m_Worth___eq__.at_ T.m_Worth___eq__.fn T.b_Worth___eq__ pass0) (hr.mono (by decide))) (pe_call (ok_rounded T) (hr.mono (by decide)) rfl T.g_rounded T.F_rounded.kp T.b_rounded .nil pass0 (pa_cons (pe_ix ix_tup (pv 6) pe_int (fun _ _ => rfl)) (pa_cons (pv 2) (pa_cons (pv 4) pa_nil)))) (pv 5) (nomark _))))))))))))))), ?_⟩
    walk_at "go"
    refine make_worth (by assumption) (fun pw H1 n1 s1 hW => ?_)
    walk_at "go"
    refine ⟨pw, U, a, b, x, rfl, hW, hx, ha, hb, hU, fun hmin H2 s2 => ?_, fun hmin t l h H2 s2 e2 hl hh => ?_⟩
    · -- none is told
      walk_at "go"
      refine w_ite (fun _ => ?_) (fun hc => absurd rfl hc)
      have mx : ∀ c e : Nat, (if ((c : Int) - e) > 0 then ((c : Int) - e) else 0) = ((c - e : Nat) : Int) := fun c e => by
        split <;> omega
      walk_at "go"
      refine ⟨0, _, rfl, ?_⟩
      rw [mx]
      walk_at "go"
      refine ⟨b - a, rfl, by omega, fun H3 s3 => ?_⟩
      have c1 : CMulA U (10 ^ (b - a)) := CMulA.w hU (pow_wide (ten_lt _) (show 4 * (b - a) + 1 ≤ 201 by omega)) (by decide)
      have b1 : (U * 10 ^ (b - a)).natAbs < 2 ^ (400 + 201) := wide_lt hU (pow_wide (ten_lt _) (show 4 * (b - a) + 1 ≤ 201 by omega))
      walk_at "go"
      refine ⟨0, _, rfl, ?_⟩
      rw [mx]
      walk_at "go"
      refine ⟨a - b, rfl, by omega, fun H4 s4 => ?_⟩
      have d1 : CDivW (U * 10 ^ (b - a)) (10 ^ (a - b)) := wide_div (b := 202) (Int.pow_pos (by decide)) (pow_wide (ten_lt _) (show 4 * (a - b) + 1 ≤ 202 by omega)) (by decide) (by decide)
      have b2 : (U * 10 ^ (b - a) / 10 ^ (a - b)).natAbs < 2 ^ 601 := Nat.lt_of_le_of_lt (ediv_abs _ _) b1
      walk_at "go"
      generalize U * 10 ^ (b - a) / 10 ^ (a - b) = tried at *
      have tb : ∀ k : Int, -12 ≤ k → k < 13 → (tried + k).natAbs < 2 ^ 4900 := fun k k0 k1 => by
        refine Nat.lt_of_lt_of_le ?_ (Nat.pow_le_pow_right (by decide) (show 602 ≤ 4900 by decide))
        have e2 : (2 : Nat) ^ 602 = 2 ^ 601 * 2 := Nat.pow_succ 2 601
        have e3 : 13 ≤ (2 : Nat) ^ 601 := Nat.le_trans (show 13 ≤ 2 ^ 4 by decide) (Nat.pow_le_pow_right (by decide) (by decide))
        rw [e2]
        generalize (2 : Nat) ^ 601 = E at *
        omega
      clear b1 b2 c1 d1
      walk_at "go"
      refine ⟨_, _, rfl, ⟨by decide, by decide, by decide, by decide⟩, fun D nD => lc_range (fun i H' => Same H4 H' ∧ ∃ ms : List Int, H' D = some (.lst (ms.map V.int)) ∧ ms.length = i ∧ ∀ m ∈ ms, m.natAbs < 2 ^ 4900) ⟨same_upd nD, [], upd_same, rfl, fun m hm => nomatch hm⟩ ?_ ?_⟩
      · intro i H' hi hI
        obtain ⟨sI, ms, eD, lm, bm⟩ := hI
        walk_at "go"
        refine ⟨rfl, ?_⟩
        walk_at "go"
        refine iteT ?_
        walk_at "go"
        refine ⟨_, eD, by rw [List.length_map, lm]; exact Nat.lt_trans hi (by decide), fun b o z => ?_, ms ++ [tried + (-12 + i)], ?_, by simp [lm], fun m hm => ?_⟩
        · have nb : b ≠ D := ne_of_none z nD
          rw [upd_ne nb]
          exact sI b o z
        · rw [upd_same, List.map_append]
          rfl
        · rcases List.mem_append.mp hm with hm | hm
          · exact bm m hm
          · rw [List.mem_singleton.mp hm]
            have hi' : i < 25 := hi
            exact tb _ (by omega) (by omega)
      · intro H5 hI
        obtain ⟨s5, ms, eD, lm, bm⟩ := hI
        walk_at "go"
        refine ⟨D, rfl, ⟨_, .inl (.inl eD)⟩, fun D2 nD2 => lc_list (K := K) (a := D) (xs := ms.map V.int) (fun i H' => Same H5 H' ∧ H' D2 = some (.lst [])) ⟨same_upd nD2, upd_same⟩ (fun i H' _ hI => .inl (.inl (hI.1 _ _ eD))) ?_ ?_⟩
        · intro i v H' hi hI
          obtain ⟨sI, eD2⟩ := hI
          obtain ⟨m, rfl, hm⟩ : ∃ m, v = .int m ∧ m ∈ ms := by
            rw [List.getElem?_map] at hi
            cases e : ms[i]? with
            | none => rw [e] at hi; cases hi
            | some m => rw [e] at hi; exact ⟨m, (Option.some.inj hi).symm, List.mem_of_getElem? e⟩
          walk_at "go"
          refine ⟨rfl, ?_⟩
          walk_at "go"
          refine ⟨U, m, a, b, x, rfl, hx, by omega, by omega, bm m hm, fun H6 s6 => ?_⟩
          walk_at "go"
          rw [none_shown hmin]
          exact iteF ⟨sI.trans s6, s6 _ _ eD2⟩
        · intro H6 hI
          obtain ⟨s6, eD2⟩ := hI
          walk_at "go"
          refine w_new (by assumption) (Nat.le_of_ble_eq_true rfl) (fun p7 H7 n7 s7 e7 => ?_)
          walk_at "go"
          refine w_eqNil (ns := []) (s7 _ _ eD2) e7 ?_
          have sA : Same H H7 := (((((s1.trans s2).trans s3).trans s4).trans s5).trans s6).trans s7
          exact q H7 ((hP.same sA).mono (by omega)) (Keep.of sA)
    · walk_at "go"
      refine w_ite (fun hc => nomatch hc) (fun _ => ?_)
      have bl := bound_lo hx hU ha hb
      have dr := draw_room (U := U) (a := a) hx hb
      have lh := lo_le_hi U a b hx
      walk_at "go"
      have hle1 := nrm_le b (loF U a b x)
      have hle2 := nrm_le b (hiF U a b x)
      refine ⟨_, t, l, h, _, _, b, b, b, rfl, e2, hl, hh, hle1, hle2, by omega, pow_wide bl.1 (by decide), pow_wide bl.2 (by decide), fun p3 H3 s3 e3 => ?_⟩
      rw [uAt_self, uAt_self] at e3
      walk_at "go"
      refine w_ite (fun hc => nomatch hc) (fun _ => ?_)
      walk_at "go"
      refine w_ixT e3 rfl ?_
      walk_at "go"
      refine w_ixT e3 rfl ?_
      walk_at "go"
      refine w_ite (fun hc => absurd hc (by omega)) (fun _ => ?_)
      walk_at "go"
      refine w_ixT e3 rfl ?_
      walk_at "go"
      refine w_ixT e3 rfl ?_
      walk_at "go"
      refine w_ixT e3 rfl ?_
      walk_at "go"
      refine w_ixT e3 rfl ?_
      walk_at "go"
      refine w_ixT e3 rfl ?_
      walk_at "go"
      have s03 : Same H H3 := (s1.trans s2).trans s3
      refine ⟨d, _, n, rfl, hP.same s03, by omega, dr.1, dr.2, fun r4 H4 r0 r1 p4 k4 => ?_⟩
      have k04 : Keep H H4 := (Keep.of s03).trans k4
      have t4 : H4 t = some (.tup [.ref l, .ref h]) := k4 _ _ (s3 _ _ e2) rfl
      have hl4 : WAt T.C_Worth H4 l (loF U a b x) b := (hl.same s3).keep k4
      have hh4 : WAt T.C_Worth H4 h (hiF U a b x) b := (hh.same s3).keep k4
      have hW4 : WAt T.C_Worth H4 pw U a := ((hW.same s2).same s3).keep k4
      have e4 : H4 p3 = some (.tup [.int (loF U a b x), .int (hiF U a b x)]) := k4 _ _ e3 rfl
      have bnd : ∀ m : Int, loF U a b x - 1 ≤ m → m ≤ hiF U a b x + 1 → m.natAbs < 2 ^ 4900 := fun m m0 m1 => by
        refine Nat.lt_of_lt_of_le ?_ (Nat.pow_le_pow_right (by decide) (show 1001 ≤ 4900 by decide))
        have e2 : (2 : Nat) ^ 1001 = 2 ^ 1000 * 2 := Nat.pow_succ 2 1000
        have e3 : 1 ≤ (2 : Nat) ^ 1000 := Nat.pow_pos (by decide)
        obtain ⟨b1, b2⟩ := bl
        rw [e2]
        clear dr
        generalize (2 : Nat) ^ 1000 = E at *
        omega
      clear s03 hl hh e3 hW
      walk_at "go"
      refine w_new (by assumption) (Nat.le_of_ble_eq_true rfl) (fun p5 H5 n5 s5 e5 => ?_)
      walk_at "go"
      -- all inside are shown
      refine ⟨p5, rfl, ⟨_, .inl (.inl e5)⟩, fun D6 nD6 => lc_list (K := K) (a := p5) (xs := [.int (loF U a b x), .int (hiF U a b x), .int (loF U a b x + r4)]) (fun i H' => Same H5 H' ∧ H' D6 = some (.lst [])) ⟨same_upd nD6, upd_same⟩ (fun i H' _ hI => .inl (.inl (hI.1 _ _ e5))) ?_ ?_⟩
      · intro i v H' hi hI
        obtain ⟨sI, eD⟩ := hI
        obtain ⟨m, rfl, hm0, hm1⟩ : ∃ m : Int, v = .int m ∧ loF U a b x ≤ m ∧ m ≤ hiF U a b x := by
          match i, hi with
          | 0, hi => cases hi; exact ⟨_, rfl, by omega, by omega⟩
          | 1, hi => cases hi; exact ⟨_, rfl, by omega, by omega⟩
          | 2, hi => cases hi; exact ⟨_, rfl, by omega, by omega⟩
        walk_at "go"
        refine ⟨rfl, ?_⟩
        walk_at "go"
        refine ⟨U, m, a, b, x, rfl, hx, by omega, by omega, bnd m (by omega) (by omega), fun H6 s6 => ?_⟩
        walk_at "go"
        rw [all_shown hx hmin hm0 hm1]
        exact iteF ⟨sI.trans s6, s6 _ _ eD⟩
      intro H6 hI
      obtain ⟨s6, eD6⟩ := hI
      walk_at "go"
      refine w_new (by assumption) (Nat.le_of_ble_eq_true rfl) (fun p7 H7 n7 s7 e7 => ?_)
      walk_at "go"
      refine w_neNil (ns := []) (s7 _ _ eD6) e7 ?_
      walk_at "go"
      refine iteF ?_
      have s47 : Same H4 H7 := (s5.trans s6).trans s7
      walk_at "go"
      refine w_ixT (s47 _ _ e4) rfl ?_
      walk_at "go"
      refine w_ixT (s47 _ _ e4) rfl ?_
      walk_at "go"
      refine w_new (by assumption) (Nat.le_of_ble_eq_true rfl) (fun p8 H8 n8 s8 e8 => ?_)
      walk_at "go"
      -- the neighbours are not
      refine ⟨p8, rfl, ⟨_, .inl (.inl e8)⟩, fun D9 nD9 => lc_list (K := K) (a := p8) (xs := [.int (loF U a b x - 1), .int (hiF U a b x + 1)]) (fun i H' => Same H8 H' ∧ H' D9 = some (.lst [])) ⟨same_upd nD9, upd_same⟩ (fun i H' _ hI => .inl (.inl (hI.1 _ _ e8))) ?_ ?_⟩
      · intro i v H' hi hI
        obtain ⟨sI, eD⟩ := hI
        obtain ⟨m, rfl, hm0, hm1, hm2⟩ : ∃ m : Int, v = .int m ∧ loF U a b x - 1 ≤ m ∧ m ≤ hiF U a b x + 1 ∧ (m < loF U a b x ∨ hiF U a b x < m) := by
          match i, hi with
          | 0, hi => cases hi; exact ⟨_, rfl, by omega, by omega, by omega⟩
          | 1, hi => cases hi; exact ⟨_, rfl, by omega, by omega, by omega⟩
        walk_at "go"
        refine ⟨rfl, ?_⟩
        walk_at "go"
        refine ⟨U, m, a, b, x, rfl, hx, by omega, by omega, bnd m (by omega) (by omega), fun H6 s6 => ?_⟩
        walk_at "go"
        rw [not_shown hx hmin hm2]
        exact iteF ⟨sI.trans s6, s6 _ _ eD⟩
      intro H9 hI
      obtain ⟨s9, eD9⟩ := hI
      walk_at "go"
      refine w_new (by assumption) (Nat.le_of_ble_eq_true rfl) (fun p10 H10 n10 s10 e10 => ?_)
      walk_at "go"
      refine w_neNil (ns := []) (s10 _ _ eD9) e10 ?_
      walk_at "go"
      refine iteF ?_
      have s410 : Same H4 H10 := ((s47.trans s8).trans s9).trans s10
      obtain ⟨dW, hW10⟩ := hW4.same s410
      walk_at "go"
      -- -worth, mirrored
      refine ⟨pw, dW, _, rfl, hW10, pw, U, a, rfl, ⟨dW, hW10⟩, fun pm H11 s11 hm11 => ?_⟩
      walk_at "go"
      refine ⟨x, rfl, hx, ?_⟩
      walk_at "go"
      have emin : (nrm (-U) a).2 = (nrm U a).2 := by rw [nrm_minus]
      refine ⟨pm, -U, a, b, mirF x, rfl, hm11, mir_in x hx, ha, hb, by rw [Int.natAbs_neg]; exact hU, fun hq => absurd hq (by rw [emin]; omega), fun _ t12 l12 h12 H12 s12 e12 hl12 hh12 => ?_⟩
      rw [lo_mir U a b hx] at hl12
      rw [hi_mir U a b hx] at hh12
      have s412 : Same H4 H12 := (s410.trans s11).trans s12
      obtain ⟨dh, hh12'⟩ := hh4.same s412
      walk_at "go"
      refine w_ixT (s412 _ _ t4) rfl ?_
      walk_at "go"
      refine ⟨h, dh, _, rfl, hh12', h, _, b, rfl, ⟨dh, hh12'⟩, fun ph H13 s13 hp13 => ?_⟩
      have s413 : Same H4 H13 := s412.trans s13
      obtain ⟨dl, hl13⟩ := hl4.same s413
      walk_at "go"
      refine w_ixT (s413 _ _ t4) rfl ?_
      walk_at "go"
      refine ⟨l, dl, _, rfl, hl13, l, _, b, rfl, ⟨dl, hl13⟩, fun pl H14 s14 hp14 => ?_⟩
      walk_at "go"
      refine w_new (by assumption) (Nat.le_of_ble_eq_true rfl) (fun p15 H15 n15 s15 e15 => ?_)
      walk_at "go"
      have hl15 := ((hl12.same s13).same s14).same s15
      have hh15 := ((hh12.same s13).same s14).same s15
      have hp15 := (hp13.same s14).same s15
      have hq15 := hp14.same s15
      obtain ⟨q1, hl15'⟩ := id hl15
      obtain ⟨q2, hh15'⟩ := id hh15
      obtain ⟨q3, hp15'⟩ := id hp15
      obtain ⟨q4, hq15'⟩ := id hq15
      refine ⟨⟨t12, p15, _, _, rfl, rfl, .inl (.inl (((s13.trans s14).trans s15) _ _ e12)), .inl (.inl e15), .cons ⟨l12, ph, _, _, _, _, rfl, rfl, hl15', hp15', _, _, _, _, hl15, hp15, rfl⟩ (.cons ⟨h12, pl, _, _, _, _, rfl, rfl, hh15', hq15', _, _, _, _, hh15, hq15, rfl⟩ .nil)⟩, fun H16 s16 => ?_⟩
      walk_at "go"
      refine iteT ?_
      have s416 : Same H4 H16 := ((s413.trans s14).trans s15).trans s16
      walk_at "go"
      refine w_ixT (s416 _ _ t4) rfl ?_
      walk_at "go"
      have hl16 := hl4.same s416
      have hW16 := hW4.same s416
      obtain ⟨rl1, rl2⟩ := round_lo hx hmin
      refine ⟨l, _, b, a, x, rfl, hl16, hx, by omega, pow_wide bl.1 (by decide), fun hs H17 s17 => ?_, fun hs r17 H17 s17 hr17 => ?_⟩
      · walk_at "go"
        obtain ⟨d1, hl17⟩ := id (hl16.same s17)
        obtain ⟨d2, hW17⟩ := id (hW16.same s17)
        refine ⟨⟨l, pw, _, _, _, _, rfl, rfl, hl17, hW17, _, _, _, _, ⟨d1, hl17⟩, ⟨d2, hW17⟩, rl1 hs⟩, fun H18 s18 => ?_⟩
        exact q H18 (((p4.same s416).same s17).same s18) (k04.same ((s416.trans s17).trans s18))
      · walk_at "go"
        rw [rl2 hs] at hr17
        obtain ⟨d1, hl17⟩ := id hr17
        obtain ⟨d2, hW17⟩ := id (hW16.same s17)
        refine ⟨⟨r17, pw, _, _, _, _, rfl, rfl, hl17, hW17, _, _, _, _, ⟨d1, hl17⟩, ⟨d2, hW17⟩, rfl⟩, fun H18 s18 => ?_⟩
        exact q H18 (((p4.same s416).same s17).same s18) (k04.same ((s416.trans s17).trans s18))
end
end K05
namespace K05
open PySem L2 DS
set_option pp.maxSteps 1200
local macro_rules | `(tactic| walk_at "c") => `(tactic| first
  | (dsimp only; omega)
  | omega
  | (show CMulA _ _; first | exact CMulA.s1 (by omega) (by omega) | exact CMulA.s2 (by omega) (by omega))
  | (show CDivW _ _; first | exact ⟨by omega, by assumption⟩ | exact ⟨by omega, by decide⟩)
  | (show CPow _ _; exact ⟨by decide, by decide, by decide⟩)
  | assumption)
local macro_rules | `(tactic| walk_at "get") => `(tactic| first
  | assumption
  | (refine (by assumption : Same _ _) _ _ ?_; walk_at "get")
  | (refine (by assumption : Keep _ _) _ _ ?_ rfl; walk_at "get"))
local macro_rules | `(tactic| walk_at "pen") => `(tactic| first
  | assumption
  | (refine Pen.same (by assumption) ?_; walk_at "pen")
  | (refine Pen.mono ?_ (by omega); assumption))
local macro_rules | `(tactic| walk_at "keep") => `(tactic| first
  | assumption
  | exact Keep.refl _
  | exact Keep.of (by assumption)
  | (refine Keep.trans ?_ (by assumption); walk_at "keep")
  | (refine Keep.same ?_ (by assumption); walk_at "keep"))
local macro_rules | `(tactic| walk_at "same") => `(tactic| first
  | assumption
  | exact Same.refl _
  | (refine Same.trans ?_ (by assumption); walk_at "same"))
local macro_rules | `(tactic| walk_at "s") => `(tactic| first
  | with_reducible refine w_seq ?_
  | with_reducible refine w_asg ?_
  | with_reducible refine w_name ?_
  | ((with_reducible apply w_var); exact rfl)
  | with_reducible refine w_c ?_
  | with_reducible refine w_op ?_
  | with_reducible refine w_I0 ?_
  | ((with_reducible apply w_I); (walk_at "c"))
  | with_reducible refine w_cons ?_
  | with_reducible refine w_nil ?_
  | with_reducible refine w_cb ?_
  | with_reducible refine w_int1 ?_
  | with_reducible refine w_int1b ?_
  | with_reducible refine w_call ?_
  | with_reducible refine w_ifs ?_
  | with_reducible refine w_test ?_
  | with_reducible refine w_k ?_
  | with_reducible refine w_ret ?_
  | with_reducible refine w_drop ?_
  | with_reducible refine w_not ?_
  | with_reducible refine w_and ?_
  | with_reducible refine w_or ?_
  | with_reducible refine w_andV ?_
  | with_reducible refine w_orV ?_
  | with_reducible refine w_notV ?_
  | with_reducible refine w_if ?_
  | with_reducible refine w_B ?_
  | with_reducible refine w_un ?_
  | with_reducible refine w_U ?_
  | (with_reducible refine w_tup ?_; intro _ _)
  | (with_reducible refine w_lst ?_; intro _ _)
  | with_reducible refine w_dget ?_
  | with_reducible refine w_dput ?_
  | with_reducible refine w_fld ?_
  | with_reducible refine w_meth ?_
  | (with_reducible refine w_make ?_; intro _ _)
  | with_reducible refine w_par ?_
  | with_reducible refine w_par3 ?_
  | with_reducible refine w_two ?_
  | with_reducible refine w_three ?_
  | with_reducible refine w_one ?_
  | with_reducible refine w_chain ?_
  | with_reducible refine w_next ?_
  | with_reducible refine w_brk ?_
  | with_reducible refine w_cont ?_
  | with_reducible refine w_retN ?_
  | with_reducible refine w_gcons ?_
  | with_reducible refine w_gnil ?_
  | ((with_reducible refine w_eq ?_ ?_); exact rfl)
  | ((with_reducible refine w_ne ?_ ?_); exact rfl)
  | with_reducible refine w_part ?_
  | with_reducible refine w_lc ?_
  | with_reducible refine w_yes ?_
  | with_reducible refine w_iTup ?_
  | with_reducible refine w_iList ?_
  | with_reducible refine w_unT ?_
  | with_reducible refine w_unT0 ?_
  | with_reducible refine w_unL ?_
  | with_reducible refine w_unL0 ?_
  | ((with_reducible apply w_gtup); (walk_at "get"); (exact rfl))
  | with_reducible refine w_gfld ?_
  | with_reducible refine w_sfld ?_
  | with_reducible refine w_risi ?_
  | with_reducible refine w_i ?_
  | with_reducible refine w_pnil ?_
  | with_reducible refine w_pcons ?_
  | with_reducible refine w_sl ?_
  | with_reducible refine w_nopart ?_
  | with_reducible refine w_for ?_
  | with_reducible refine w_while ?_
  | with_reducible refine w_irng1 ?_
  | with_reducible refine w_irng2 ?_
  | with_reducible refine And.intro (rfl : V.non = V.non) ?_)
local macro_rules | `(tactic| walk_at "go") => `(tactic| repeat (walk_at "s"))

section
variable {P : Program} {w : World} {K : PySem.W.Frag} {mg : Str → Option Value} {base : Heap}
theorem nrm_odd {u : Int} {s : Nat} (h : ¬ u % 10 = 0) : (nrm u s).2 = s := by rw [nrm_neg h]
def spLaw (K : PySem.W.Frag) : Sp := fun vs H Q _ => ∃ (a : Addr) (ns : List Int), vs = [.ref a] ∧ SqL K H a (ns.map V.int) ∧ ns.length ≤ 63 ∧ ∀ H', Q (.bl true) H'
theorem ok_law (T : Tx w K mg) : FnOk P w K mg base CX0 8 T.f_law T.fd_law ["_law_script"] (spLaw K) := by
  refine T.F_law.ok sc_law (fun vs H Q E h => ?_) (fun cdv A outer s H vs Q E hr h => ?_)
  · obtain ⟨a, ns, rfl, _⟩ := h
    rfl
  · obtain ⟨a, ns, rfl, hS, hl, q⟩ := h
    have hu := hu_of hr
    have hu64 := hu64_of hr
    refine ⟨_, (pss_cons (ps_set (i := 1) sc_law.nd rfl (Or.inl rfl) (pe_call (ok__law_pen T) (hr.mono (by decide)) rfl T.g__law_pen T.F__law_pen.kp T.b__law_pen .nil pass0 (pa_cons (pv 0) pa_nil)))
      (pss_cons (ps_for PassesOwn.never rfl (pi_range1 (by rfl) T.z_range (pa_cons (pe_op op_add pe_int (pe_callB (call_min2 rfl) (by rfl) T.z_min (by decide +kernel) (pa_cons pe_int (pa_cons (pe_callB call_len_seq (by rfl) T.z_len PySem.boot_len (pa_cons (pv 0) pa_nil)) pa_nil)))) pa_nil)) (pg_name (i := 2) sc_law.nd rfl (Or.inl rfl))
      (pss_cons (ps_par (i := 3) (j := 4) rfl sc_law.nd rfl rfl (by decide) rfl rfl (pa_cons (pe_call (ok__law_pick T) (hr.mono (by decide)) rfl T.g__law_pick T.F__law_pick.kp T.b__law_pick .nil pass0 (pa_cons (pv 1) (pa_cons (pe_call0 (ok__law_ways T) (hr.mono (by decide)) rfl T.g__law_ways T.F__law_ways.kp T.b__law_ways .nil pass0) pa_nil))) (pa_cons (pe_call (ok__law_pick T) (hr.mono (by decide)) rfl T.g__law_pick T.F__law_pick.kp T.b__law_pick .nil pass0 (pa_cons (pv 1) (pa_cons (pe_lst (pa_cons pe_int (pa_cons pe_int (pa_cons pe_int (pa_cons pe_int (pa_cons (pe_call (ok__law_draw T) (hr.mono (by decide)) rfl T.g__law_draw T.F__law_draw.kp T.b__law_draw .nil pass0 (pa_cons (pv 1) (pa_cons pe_int pa_nil))) pa_nil)))))) pa_nil))) pa_nil)) rfl)
      (pss_cons (ps_set (i := 5) sc_law.nd rfl (Or.inl rfl) (pe_call (ok__law_pick T) (hr.mono (by decide)) rfl T.g__law_pick T.F__law_pick.kp T.b__law_pick .nil pass0 (pa_cons (pv 1) (pa_cons (pe_lst (pa_cons pe_int (pa_cons pe_int (pa_cons (pe_un un_neg pe_int) (pa_cons pe_int (pa_cons (pe_un un_neg pe_int) (pa_cons pe_int (pa_cons (pe_call (ok__law_some_units T) (hr.mono (by decide)) rfl T.g__law_some_units T.F__law_some_units.kp T.b__law_some_units .nil pass0 (pa_cons (pv 1) pa_nil)) pa_nil)))))))) pa_nil))))
      (pss_cons (ps_set (i := 6) sc_law.nd rfl (Or.inl rfl) (pe_call (ok__law_pick T) (hr.mono (by decide)) rfl T.g__law_pick T.F__law_pick.kp T.b__law_pick .nil pass0 (pa_cons (pv 1) (pa_cons (pe_lst (pa_cons (pv 4) (pa_cons (pe_op op_add (pv 4) pe_int) (pa_cons (pe_op op_add (pv 4) pe_int) (pa_cons (pe_callB (call_max2 rfl) (by rfl) T.z_max (by decide +kernel) (pa_cons pe_int (pa_cons (pe_op op_sub (pv 4) pe_int) pa_nil))) (pa_cons (pe_op op_add (pv 4) (pe_call (ok__law_draw T) (hr.mono (by decide)) rfl T.g__law_draw T.F__law_draw.kp T.b__law_draw .nil pass0 (pa_cons (pv 1) (pa_cons pe_int pa_nil)))) pa_nil)))))) pa_nil))))
      (pss_cons (ps_if (pt_not (pt_val (pe_call (ok__law_is_right T) (hr.mono (by decide)) rfl T.g__law_is_right T.F__law_is_right.kp T.b__law_is_right .nil pass0 (pa_cons (pv 1) (pa_cons (pv 5) (pa_cons (pv 4) (pa_cons (pv 6) (pa_cons (pv 3) pa_nil)))))))) (pss_one (ps_ret pe_bl)) pss_nil)
      (pss_one (ps_if (pt_cmpR op_notN (pe_call (ok_shown_as T) (hr.mono (by decide)) rfl T.g_shown_as T.F_shown_as.kp T.b_shown_as .nil pass0 (pa_cons (pe_make T.M_Worth (ok_Worth___init__ T) (hr.mono (by decide)) rfl T.gC_Worth T.b_Worth___init__ .nil pass0 (pa_cons (pe_op op_add (pe_op op_add (pe_op op_mulA pe_int (pv 5)) pe_int) (pe_call (ok__law_draw T) (hr.mono (by decide)) rfl T.g__law_draw T.F__law_draw.kp T.b__law_draw .nil pass0 (pa_cons (pv 1) (pa_cons pe_int pa_nil)))) (pa_cons (pe_op op_add (pv 4) pe_int) pa_nil))) (pa_cons (pv 4) (pa_cons (pv 6) (pa_cons (pv 3) pa_nil))))) pe_non (nomark _)) (pss_one (ps_ret pe_bl)) pss_nil)))))))
      (pss_one (ps_ret pe_bl)))), ?_⟩
    walk_at "go"
    refine ⟨a, ns, rfl, hS, hl, fun d H1 hP s1 => ?_⟩
    walk_at "go"
    refine ⟨a, _, rfl, .inl (s1.seq hS), ?_⟩
    walk_at "go"
    refine ⟨8, _, rfl, ?_⟩
    rw [List.length_map]
    obtain ⟨k, hk, hk2⟩ : ∃ k : Nat, (8 + if (ns.length : Int) < 8 then (ns.length : Int) else 8) = (k : Int) ∧ k ≤ 16 := by
      refine ⟨8 + min ns.length 8, ?_, by omega⟩
      split <;> omega
    walk_at "go"
    rw [hk]
    refine ⟨by omega, by omega, ?_⟩
    refine for_range (fun i σ H' => i ≤ k ∧ Pen H' d (100 * i) ∧ ∃ z2 z3 z4 z5 z6, σ = [some (.ref a), some (.ref d), z2, z3, z4, z5, z6]) ⟨Nat.zero_le _, hP.mono (by omega), none, none, none, none, none, rfl⟩ (fun i σ H2 hi hI => ?_) (fun σ H2 hI => ?_)
    · obtain ⟨hik, hP2, z2, z3, z4, z5, z6, rfl⟩ := hI
      walk_at "go"
      refine ⟨rfl, fun p3 H3 n3 s3 e3 => ?_⟩
      walk_at "go"
      refine ⟨d, p3, _, 100 * i, rfl, hP2.same s3, by omega, e3, by decide, by decide, fun v4 H4 m4 p4 k4 => ?_⟩
      obtain ⟨x, hx, rfl⟩ := List.mem_map.mp m4
      walk_at "go"
      refine ⟨d, 30, _, rfl, p4, by omega, by omega, by decide, fun r5 H5 a5 b5 p5 k5 => ?_⟩
      walk_at "go"
      refine w_new (by assumption) (Nat.le_of_ble_eq_true rfl) (fun p6 H6 n6 s6 e6 => ?_)
      walk_at "go"
      refine ⟨d, p6, _, _, rfl, p5.same s6, by omega, e6, Nat.le_of_ble_eq_true rfl, Nat.le_of_ble_eq_true rfl, fun v7 H7 m7 p7 k7 => ?_⟩
      obtain ⟨sc, rfl, hsc⟩ : ∃ sc : Nat, v7 = .int sc ∧ sc ≤ 30 := by
        obtain ⟨e, rfl⟩ := Int.eq_ofNat_of_zero_le a5
        simp only [List.mem_cons, List.not_mem_nil, or_false] at m7
        rcases m7 with h | h | h | h | h
        · exact ⟨0, h, by omega⟩
        · exact ⟨0, h, by omega⟩
        · exact ⟨1, h, by omega⟩
        · exact ⟨2, h, by omega⟩
        · exact ⟨e, h, by omega⟩
      walk_at "go"
      refine ⟨d, _, rfl, p7, by omega, fun u8 H8 hu8 p8 k8 => ?_⟩
      walk_at "go"
      refine w_new (by assumption) (Nat.le_of_ble_eq_true rfl) (fun p9 H9 n9 s9 e9 => ?_)
      walk_at "go"
      refine ⟨d, p9, _, _, rfl, p8.same s9, by omega, e9, Nat.le_of_ble_eq_true rfl, Nat.le_of_ble_eq_true rfl, fun v10 H10 m10 p10 k10 => ?_⟩
      obtain ⟨U, rfl, hU⟩ : ∃ U : Int, v10 = .int U ∧ U.natAbs < 2 ^ 300 := by
        have big : 3 < (2 : Nat) ^ 300 := Nat.lt_of_lt_of_le (show 3 < 2 ^ 2 by decide) (Nat.pow_le_pow_right (by decide) (by decide))
        generalize (2 : Nat) ^ 300 = B at *
        simp only [List.mem_cons, List.not_mem_nil, or_false] at m10
        rcases m10 with h | h | h | h | h | h | h
        · exact ⟨_, h, by omega⟩
        · exact ⟨_, h, by omega⟩
        · exact ⟨_, h, by omega⟩
        · exact ⟨_, h, by omega⟩
        · exact ⟨_, h, by omega⟩
        · exact ⟨_, h, by omega⟩
        · exact ⟨_, h, hu8⟩
      clear hu8
      walk_at "go"
      refine ⟨0, _, rfl, ?_⟩
      walk_at "go"
      refine ⟨d, 10, _, rfl, p10, by omega, by omega, by decide, fun r11 H11 a11 b11 p11 k11 => ?_⟩
      walk_at "go"
      refine w_new (by assumption) (Nat.le_of_ble_eq_true rfl) (fun p12 H12 n12 s12 e12 => ?_)
      walk_at "go"
      refine ⟨d, p12, _, _, rfl, p11.same s12, by omega, e12, Nat.le_of_ble_eq_true rfl, Nat.le_of_ble_eq_true rfl, fun v13 H13 m13 p13 k13 => ?_⟩
      obtain ⟨pl, rfl, hpl⟩ : ∃ pl : Nat, v13 = .int pl ∧ pl ≤ 40 := by
        obtain ⟨e, rfl⟩ := Int.eq_ofNat_of_zero_le a11
        simp only [List.mem_cons, List.not_mem_nil, or_false] at m13
        rcases m13 with h | h | h | h | h
        · exact ⟨sc, h, by omega⟩
        · exact ⟨sc + 1, h, by omega⟩
        · exact ⟨sc + 2, h, by omega⟩
        · refine ⟨sc - 1, h.trans ?_, by omega⟩
          congr 1
          split <;> omega
        · exact ⟨sc + e, h, by omega⟩
      walk_at "go"
      refine ⟨d, _, U, sc, pl, x, rfl, p13, by omega, hx, by omega, by omega, pow_wide hU (by decide), fun H14 p14 k14 => ?_⟩
      walk_at "go"
      refine iteF ?_
      have c1 : CMulA 10 U := CMulA.s1 (by decide) (by decide)
      walk_at "go"
      refine ⟨d, 9, _, rfl, p14, by omega, by omega, by decide, fun r15 H15 a15 b15 p15 k15 => ?_⟩
      walk_at "go"
      refine make_worth (s := sc + 1) (by assumption) (fun pw H16 n16 s16 hW => ?_)
      walk_at "go"
      have hodd : ¬ (10 * U + 1 + r15) % 10 = 0 := by omega
      have hn2 := nrm_odd (s := sc + 1) hodd
      have hb : (10 * U + 1 + r15).natAbs < 2 ^ 3000 := by
        refine Nat.lt_of_lt_of_le ?_ (Nat.pow_le_pow_right (by decide) (show 305 ≤ 3000 by decide))
        have e2 : (2 : Nat) ^ 305 = 2 ^ 300 * 32 := by rw [← Nat.pow_add 2 300 5]
        have e3 : 1 ≤ (2 : Nat) ^ 300 := Nat.pow_pos (by decide)
        rw [e2]
        generalize (2 : Nat) ^ 300 = B at *
        omega
      refine ⟨pw, _, sc + 1, sc, pl, x, rfl, hW, hx, by omega, by omega, hb, fun _ H17 s17 => ?_, fun h => absurd h (by rw [hn2]; omega), fun h => absurd h (by rw [hn2]; omega)⟩
      walk_at "go"
      refine w_iteN (fun hc => absurd rfl hc) (fun _ => ?_)
      walk_at "go"
      exact ⟨by omega, ((p15.same s16).same s17).mono (by omega), _, _, _, _, _, rfl⟩
    · walk_at "go"
      exact q H2
end
end K05
namespace K05
open PySem L2 DS
theorem mir_all {K : PySem.W.Frag} {a : Addr} {tm_floor tm_ceiling tm_halfup tm_halfdown : Tok} (h_floor : PySem.W.nsIn K a "floor" = some (some (.str "ceiling" tm_floor))) (h_ceiling : PySem.W.nsIn K a "ceiling" = some (some (.str "floor" tm_ceiling))) (h_cut : PySem.W.nsIn K a "cut" = some none) (h_away : PySem.W.nsIn K a "away" = some none) (h_halfup : PySem.W.nsIn K a "halfup" = some (some (.str "halfdown" tm_halfup))) (h_halfdown : PySem.W.nsIn K a "halfdown" = some (some (.str "halfup" tm_halfdown))) (h_halfeven : PySem.W.nsIn K a "halfeven" = some none) (h_halfaway : PySem.W.nsIn K a "halfaway" = some none) (h_halfcut : PySem.W.nsIn K a "halfcut" = some none) : ∀ x ∈ waysL, ∃ r, PySem.W.nsIn K a x = some r ∧ ((r = none ∧ mirF x = x) ∨ ∃ t, r = some (.str (mirF x) t)) :=
  ways_cases ⟨⟨_, h_floor, by rw [mir_floor]; exact .inr ⟨_, rfl⟩⟩, ⟨_, h_ceiling, by rw [mir_ceiling]; exact .inr ⟨_, rfl⟩⟩, ⟨_, h_cut, by rw [mir_cut]; exact .inl ⟨rfl, rfl⟩⟩, ⟨_, h_away, by rw [mir_away]; exact .inl ⟨rfl, rfl⟩⟩, ⟨_, h_halfup, by rw [mir_halfup]; exact .inr ⟨_, rfl⟩⟩, ⟨_, h_halfdown, by rw [mir_halfdown]; exact .inr ⟨_, rfl⟩⟩, ⟨_, h_halfeven, by rw [mir_halfeven]; exact .inl ⟨rfl, rfl⟩⟩, ⟨_, h_halfaway, by rw [mir_halfaway]; exact .inl ⟨rfl, rfl⟩⟩, ⟨_, h_halfcut, by rw [mir_halfcut]; exact .inl ⟨rfl, rfl⟩⟩⟩
theorem all_mk {l : PySem.W.OpenLaw} {w : World} {K : PySem.W.Frag} {h : Heap} {mg : Str → Option Value} {fa : Addr} (X : K.In h) (G : h.Ns mainGlobals mg) (hfa : mg "law" = some (.ref fa))
    {C_Worth : Addr}
    {f_is_integer : Addr} {od0 an0 : Option Addr} {sl0 : Array (Option Value)} {oc0 kV0 dc0 pm0 cd0 ct0 : Value}
    {f_is_whole : Addr} {od1 an1 : Option Addr} {sl1 : Array (Option Value)} {oc1 kV1 dc1 pm1 cd1 ct1 : Value}
    {f_need_integer : Addr} {od2 an2 : Option Addr} {sl2 : Array (Option Value)} {oc2 kV2 dc2 pm2 cd2 ct2 : Value}
    {f_need_whole : Addr} {od3 an3 : Option Addr} {sl3 : Array (Option Value)} {oc3 kV3 dc3 pm3 cd3 ct3 : Value}
    {f_ten_to : Addr} {od4 an4 : Option Addr} {sl4 : Array (Option Value)} {oc4 kV4 dc4 pm4 cd4 ct4 : Value}
    {f_lowered : Addr} {od5 an5 : Option Addr} {sl5 : Array (Option Value)} {oc5 kV5 dc5 pm5 cd5 ct5 : Value}
    {f_Worth___init__ : Addr} {od6 an6 : Option Addr} {sl6 : Array (Option Value)} {oc6 kV6 dc6 pm6 cd6 ct6 : Value}
    {dT6 : Addr} {do6 : Option Addr} {dn6 : Nat} {ds6 : Array (Option Value)} {dt6_0 : Tok}
    {f_Worth___eq__ : Addr} {od7 an7 : Option Addr} {sl7 : Array (Option Value)} {oc7 kV7 dc7 pm7 cd7 ct7 : Value}
    {f_Worth___neg__ : Addr} {od8 an8 : Option Addr} {sl8 : Array (Option Value)} {oc8 kV8 dc8 pm8 cd8 ct8 : Value}
    {f_Worth_units_at : Addr} {od9 an9 : Option Addr} {sl9 : Array (Option Value)} {oc9 kV9 dc9 pm9 cd9 ct9 : Value}
    {f_need_worth : Addr} {od10 an10 : Option Addr} {sl10 : Array (Option Value)} {oc10 kV10 dc10 pm10 cd10 ct10 : Value}
    {f_need_way : Addr} {od11 an11 : Option Addr} {sl11 : Array (Option Value)} {oc11 kV11 dc11 pm11 cd11 ct11 : Value}
    {f_mirrored : Addr} {od12 an12 : Option Addr} {sl12 : Array (Option Value)} {oc12 kV12 dc12 pm12 cd12 ct12 : Value}
    {f_lift : Addr} {od13 an13 : Option Addr} {sl13 : Array (Option Value)} {oc13 kV13 dc13 pm13 cd13 ct13 : Value}
    {f_part_of : Addr} {od14 an14 : Option Addr} {sl14 : Array (Option Value)} {oc14 kV14 dc14 pm14 cd14 ct14 : Value}
    {f_divided_by : Addr} {od15 an15 : Option Addr} {sl15 : Array (Option Value)} {oc15 kV15 dc15 pm15 cd15 ct15 : Value}
    {f_rounded : Addr} {od16 an16 : Option Addr} {sl16 : Array (Option Value)} {oc16 kV16 dc16 pm16 cd16 ct16 : Value}
    {f_reach_below : Addr} {od17 an17 : Option Addr} {sl17 : Array (Option Value)} {oc17 kV17 dc17 pm17 cd17 ct17 : Value}
    {f_reach_above : Addr} {od18 an18 : Option Addr} {sl18 : Array (Option Value)} {oc18 kV18 dc18 pm18 cd18 ct18 : Value}
    {f_shown_as : Addr} {od19 an19 : Option Addr} {sl19 : Array (Option Value)} {oc19 kV19 dc19 pm19 cd19 ct19 : Value}
    {f__law_pen : Addr} {od20 an20 : Option Addr} {sl20 : Array (Option Value)} {oc20 kV20 dc20 pm20 cd20 ct20 : Value}
    {f__law_draw : Addr} {od21 an21 : Option Addr} {sl21 : Array (Option Value)} {oc21 kV21 dc21 pm21 cd21 ct21 : Value}
    {f__law_pick : Addr} {od22 an22 : Option Addr} {sl22 : Array (Option Value)} {oc22 kV22 dc22 pm22 cd22 ct22 : Value}
    {f__law_ten : Addr} {od23 an23 : Option Addr} {sl23 : Array (Option Value)} {oc23 kV23 dc23 pm23 cd23 ct23 : Value}
    {f__law_ways : Addr} {od24 an24 : Option Addr} {sl24 : Array (Option Value)} {oc24 kV24 dc24 pm24 cd24 ct24 : Value}
    {f__law_near : Addr} {od25 an25 : Option Addr} {sl25 : Array (Option Value)} {oc25 kV25 dc25 pm25 cd25 ct25 : Value}
    {f__law_some_units : Addr} {od26 an26 : Option Addr} {sl26 : Array (Option Value)} {oc26 kV26 dc26 pm26 cd26 ct26 : Value}
    {f__law_is_shown : Addr} {od27 an27 : Option Addr} {sl27 : Array (Option Value)} {oc27 kV27 dc27 pm27 cd27 ct27 : Value}
    {f__law_ends : Addr} {od28 an28 : Option Addr} {sl28 : Array (Option Value)} {oc28 kV28 dc28 pm28 cd28 ct28 : Value}
    {f__law_is_right : Addr} {od29 an29 : Option Addr} {sl29 : Array (Option Value)} {oc29 kV29 dc29 pm29 cd29 ct29 : Value}
    {f_law : Addr} {od30 an30 : Option Addr} {sl30 : Array (Option Value)} {oc30 kV30 dc30 pm30 cd30 ct30 : Value}
    {a_WAYS : Addr} {odW : Option Addr} {nW : Nat} {slW : Array (Option Value)} {tw0 tw1 tw2 tw3 tw4 tw5 tw6 tw7 tw8 : Tok}
    {a_MIRRORS : Addr} {es_M : Array DictEntry} {n_M : Nat} {tm_floor tm_ceiling tm_halfup tm_halfdown : Tok}
    (aC_Worth : PySem.W.nsIn K mainGlobals "Worth" = some (some (.ref C_Worth)))
    (pg_Worth : PySem.W.plainGet K C_Worth Str.empty = true)
    (hd_Worth : PySem.W.hasDictIn K C_Worth = true)
    (po_Worth : PySem.W.plainOver K C_Worth = true)
    (sa_Worth : PySem.W.findIn K (.ref C_Worth) "__setattr__" = some (some (.builtin "object.__setattr__")))
    (mk_Worth : PySem.W.makesIn K C_Worth = true)
    (kc_Worth : PySem.W.keepIn K (.ref C_Worth) = true)
    (tya_Worth : PySem.W.findIn K (.ref C_Worth) "__class__" = some (some (.builtin "object.__class__")))
    (tyb_Worth : PySem.W.specialIn K (.builtin "object.__class__") "__get__" = some (some (.builtin "getset_descriptor.__get__")))
    (tyc_Worth : PySem.W.takesIn K (.builtin "object.__class__") = some true)
    (tyd_Worth : PySem.W.mroIn K C_Worth (.type "object") = some true)
    (n_Worth_units : PySem.W.findIn K (.ref C_Worth) "units" = some none)
    (n_Worth_scale : PySem.W.findIn K (.ref C_Worth) "scale" = some none)
    (a0 : PySem.W.nsIn K mainGlobals "is_integer" = some (some (.ref f_is_integer)))
    (l0 : K.lookup f_is_integer = some ⟨oc0, od0, .func (PySem.W.fnOf "is_integer" "is_integer" (defArgs s_is_integer) (defBody s_is_integer) (defScope s_is_integer) .none kV0 dc0 pm0 an0 cd0 ct0), sl0⟩)
    (c0 : PySem.W.codeIn K cd0 "is_integer" = true)
    (k0 : PySem.W.keepIn K (.ref f_is_integer) = true)
    (a1 : PySem.W.nsIn K mainGlobals "is_whole" = some (some (.ref f_is_whole)))
    (l1 : K.lookup f_is_whole = some ⟨oc1, od1, .func (PySem.W.fnOf "is_whole" "is_whole" (defArgs s_is_whole) (defBody s_is_whole) (defScope s_is_whole) .none kV1 dc1 pm1 an1 cd1 ct1), sl1⟩)
    (c1 : PySem.W.codeIn K cd1 "is_whole" = true)
    (k1 : PySem.W.keepIn K (.ref f_is_whole) = true)
    (a2 : PySem.W.nsIn K mainGlobals "need_integer" = some (some (.ref f_need_integer)))
    (l2 : K.lookup f_need_integer = some ⟨oc2, od2, .func (PySem.W.fnOf "need_integer" "need_integer" (defArgs s_need_integer) (defBody s_need_integer) (defScope s_need_integer) .none kV2 dc2 pm2 an2 cd2 ct2), sl2⟩)
    (c2 : PySem.W.codeIn K cd2 "need_integer" = true)
    (k2 : PySem.W.keepIn K (.ref f_need_integer) = true)
    (a3 : PySem.W.nsIn K mainGlobals "need_whole" = some (some (.ref f_need_whole)))
    (l3 : K.lookup f_need_whole = some ⟨oc3, od3, .func (PySem.W.fnOf "need_whole" "need_whole" (defArgs s_need_whole) (defBody s_need_whole) (defScope s_need_whole) .none kV3 dc3 pm3 an3 cd3 ct3), sl3⟩)
    (c3 : PySem.W.codeIn K cd3 "need_whole" = true)
    (k3 : PySem.W.keepIn K (.ref f_need_whole) = true)
    (a4 : PySem.W.nsIn K mainGlobals "ten_to" = some (some (.ref f_ten_to)))
    (l4 : K.lookup f_ten_to = some ⟨oc4, od4, .func (PySem.W.fnOf "ten_to" "ten_to" (defArgs s_ten_to) (defBody s_ten_to) (defScope s_ten_to) .none kV4 dc4 pm4 an4 cd4 ct4), sl4⟩)
    (c4 : PySem.W.codeIn K cd4 "ten_to" = true)
    (k4 : PySem.W.keepIn K (.ref f_ten_to) = true)
    (a5 : PySem.W.nsIn K mainGlobals "lowered" = some (some (.ref f_lowered)))
    (l5 : K.lookup f_lowered = some ⟨oc5, od5, .func (PySem.W.fnOf "lowered" "lowered" (defArgs s_lowered) (defBody s_lowered) (defScope s_lowered) .none kV5 dc5 pm5 an5 cd5 ct5), sl5⟩)
    (c5 : PySem.W.codeIn K cd5 "lowered" = true)
    (k5 : PySem.W.keepIn K (.ref f_lowered) = true)
    (a6 : PySem.W.findIn K (.ref C_Worth) "__init__" = some (some (.ref f_Worth___init__)))
    (i6 : PySem.W.isFn K (.ref f_Worth___init__) = true)
    (l6 : K.lookup f_Worth___init__ = some ⟨oc6, od6, .func (PySem.W.fnOf "__init__" "Worth.__init__" (defArgs s_Worth___init__) (defBody s_Worth___init__) (defScope s_Worth___init__) (.ref dT6) kV6 dc6 pm6 an6 cd6 ct6), sl6⟩)
    (c6 : PySem.W.codeIn K cd6 "Worth.__init__" = true)
    (k6 : PySem.W.keepIn K (.ref f_Worth___init__) = true)
    (e6 : K.lookup dT6 = some ⟨.type "tuple", do6, .seq #[.int 0 dt6_0] dn6, ds6⟩)
    (a7 : PySem.W.findIn K (.ref C_Worth) "__eq__" = some (some (.ref f_Worth___eq__)))
    (i7 : PySem.W.isFn K (.ref f_Worth___eq__) = true)
    (l7 : K.lookup f_Worth___eq__ = some ⟨oc7, od7, .func (PySem.W.fnOf "__eq__" "Worth.__eq__" (defArgs s_Worth___eq__) (defBody s_Worth___eq__) (defScope s_Worth___eq__) .none kV7 dc7 pm7 an7 cd7 ct7), sl7⟩)
    (c7 : PySem.W.codeIn K cd7 "Worth.__eq__" = true)
    (k7 : PySem.W.keepIn K (.ref f_Worth___eq__) = true)
    (a8 : PySem.W.findIn K (.ref C_Worth) "__neg__" = some (some (.ref f_Worth___neg__)))
    (i8 : PySem.W.isFn K (.ref f_Worth___neg__) = true)
    (l8 : K.lookup f_Worth___neg__ = some ⟨oc8, od8, .func (PySem.W.fnOf "__neg__" "Worth.__neg__" (defArgs s_Worth___neg__) (defBody s_Worth___neg__) (defScope s_Worth___neg__) .none kV8 dc8 pm8 an8 cd8 ct8), sl8⟩)
    (c8 : PySem.W.codeIn K cd8 "Worth.__neg__" = true)
    (k8 : PySem.W.keepIn K (.ref f_Worth___neg__) = true)
    (a9 : PySem.W.findIn K (.ref C_Worth) "units_at" = some (some (.ref f_Worth_units_at)))
    (i9 : PySem.W.isFn K (.ref f_Worth_units_at) = true)
    (l9 : K.lookup f_Worth_units_at = some ⟨oc9, od9, .func (PySem.W.fnOf "units_at" "Worth.units_at" (defArgs s_Worth_units_at) (defBody s_Worth_units_at) (defScope s_Worth_units_at) .none kV9 dc9 pm9 an9 cd9 ct9), sl9⟩)
    (c9 : PySem.W.codeIn K cd9 "Worth.units_at" = true)
    (k9 : PySem.W.keepIn K (.ref f_Worth_units_at) = true)
    (a10 : PySem.W.nsIn K mainGlobals "need_worth" = some (some (.ref f_need_worth)))
    (l10 : K.lookup f_need_worth = some ⟨oc10, od10, .func (PySem.W.fnOf "need_worth" "need_worth" (defArgs s_need_worth) (defBody s_need_worth) (defScope s_need_worth) .none kV10 dc10 pm10 an10 cd10 ct10), sl10⟩)
    (c10 : PySem.W.codeIn K cd10 "need_worth" = true)
    (k10 : PySem.W.keepIn K (.ref f_need_worth) = true)
    (a11 : PySem.W.nsIn K mainGlobals "need_way" = some (some (.ref f_need_way)))
    (l11 : K.lookup f_need_way = some ⟨oc11, od11, .func (PySem.W.fnOf "need_way" "need_way" (defArgs s_need_way) (defBody s_need_way) (defScope s_need_way) .none kV11 dc11 pm11 an11 cd11 ct11), sl11⟩)
    (c11 : PySem.W.codeIn K cd11 "need_way" = true)
    (k11 : PySem.W.keepIn K (.ref f_need_way) = true)
    (a12 : PySem.W.nsIn K mainGlobals "mirrored" = some (some (.ref f_mirrored)))
    (l12 : K.lookup f_mirrored = some ⟨oc12, od12, .func (PySem.W.fnOf "mirrored" "mirrored" (defArgs s_mirrored) (defBody s_mirrored) (defScope s_mirrored) .none kV12 dc12 pm12 an12 cd12 ct12), sl12⟩)
    (c12 : PySem.W.codeIn K cd12 "mirrored" = true)
    (k12 : PySem.W.keepIn K (.ref f_mirrored) = true)
    (a13 : PySem.W.nsIn K mainGlobals "lift" = some (some (.ref f_lift)))
    (l13 : K.lookup f_lift = some ⟨oc13, od13, .func (PySem.W.fnOf "lift" "lift" (defArgs s_lift) (defBody s_lift) (defScope s_lift) .none kV13 dc13 pm13 an13 cd13 ct13), sl13⟩)
    (c13 : PySem.W.codeIn K cd13 "lift" = true)
    (k13 : PySem.W.keepIn K (.ref f_lift) = true)
    (a14 : PySem.W.nsIn K mainGlobals "part_of" = some (some (.ref f_part_of)))
    (l14 : K.lookup f_part_of = some ⟨oc14, od14, .func (PySem.W.fnOf "part_of" "part_of" (defArgs s_part_of) (defBody s_part_of) (defScope s_part_of) .none kV14 dc14 pm14 an14 cd14 ct14), sl14⟩)
    (c14 : PySem.W.codeIn K cd14 "part_of" = true)
    (k14 : PySem.W.keepIn K (.ref f_part_of) = true)
    (a15 : PySem.W.nsIn K mainGlobals "divided_by" = some (some (.ref f_divided_by)))
    (l15 : K.lookup f_divided_by = some ⟨oc15, od15, .func (PySem.W.fnOf "divided_by" "divided_by" (defArgs s_divided_by) (defBody s_divided_by) (defScope s_divided_by) .none kV15 dc15 pm15 an15 cd15 ct15), sl15⟩)
    (c15 : PySem.W.codeIn K cd15 "divided_by" = true)
    (k15 : PySem.W.keepIn K (.ref f_divided_by) = true)
    (a16 : PySem.W.nsIn K mainGlobals "rounded" = some (some (.ref f_rounded)))
    (l16 : K.lookup f_rounded = some ⟨oc16, od16, .func (PySem.W.fnOf "rounded" "rounded" (defArgs s_rounded) (defBody s_rounded) (defScope s_rounded) .none kV16 dc16 pm16 an16 cd16 ct16), sl16⟩)
    (c16 : PySem.W.codeIn K cd16 "rounded" = true)
    (k16 : PySem.W.keepIn K (.ref f_rounded) = true)
    (a17 : PySem.W.nsIn K mainGlobals "reach_below" = some (some (.ref f_reach_below)))
    (l17 : K.lookup f_reach_below = some ⟨oc17, od17, .func (PySem.W.fnOf "reach_below" "reach_below" (defArgs s_reach_below) (defBody s_reach_below) (defScope s_reach_below) .none kV17 dc17 pm17 an17 cd17 ct17), sl17⟩)
    (c17 : PySem.W.codeIn K cd17 "reach_below" = true)
    (k17 : PySem.W.keepIn K (.ref f_reach_below) = true)
    (a18 : PySem.W.nsIn K mainGlobals "reach_above" = some (some (.ref f_reach_above)))
    (l18 : K.lookup f_reach_above = some ⟨oc18, od18, .func (PySem.W.fnOf "reach_above" "reach_above" (defArgs s_reach_above) (defBody s_reach_above) (defScope s_reach_above) .none kV18 dc18 pm18 an18 cd18 ct18), sl18⟩)
    (c18 : PySem.W.codeIn K cd18 "reach_above" = true)
    (k18 : PySem.W.keepIn K (.ref f_reach_above) = true)
    (a19 : PySem.W.nsIn K mainGlobals "shown_as" = some (some (.ref f_shown_as)))
    (l19 : K.lookup f_shown_as = some ⟨oc19, od19, .func (PySem.W.fnOf "shown_as" "shown_as" (defArgs s_shown_as) (defBody s_shown_as) (defScope s_shown_as) .none kV19 dc19 pm19 an19 cd19 ct19), sl19⟩)
    (c19 : PySem.W.codeIn K cd19 "shown_as" = true)
    (k19 : PySem.W.keepIn K (.ref f_shown_as) = true)
    (a20 : PySem.W.nsIn K mainGlobals "_law_pen" = some (some (.ref f__law_pen)))
    (l20 : K.lookup f__law_pen = some ⟨oc20, od20, .func (PySem.W.fnOf "_law_pen" "_law_pen" (defArgs s__law_pen) (defBody s__law_pen) (defScope s__law_pen) .none kV20 dc20 pm20 an20 cd20 ct20), sl20⟩)
    (c20 : PySem.W.codeIn K cd20 "_law_pen" = true)
    (k20 : PySem.W.keepIn K (.ref f__law_pen) = true)
    (a21 : PySem.W.nsIn K mainGlobals "_law_draw" = some (some (.ref f__law_draw)))
    (l21 : K.lookup f__law_draw = some ⟨oc21, od21, .func (PySem.W.fnOf "_law_draw" "_law_draw" (defArgs s__law_draw) (defBody s__law_draw) (defScope s__law_draw) .none kV21 dc21 pm21 an21 cd21 ct21), sl21⟩)
    (c21 : PySem.W.codeIn K cd21 "_law_draw" = true)
    (k21 : PySem.W.keepIn K (.ref f__law_draw) = true)
    (a22 : PySem.W.nsIn K mainGlobals "_law_pick" = some (some (.ref f__law_pick)))
    (l22 : K.lookup f__law_pick = some ⟨oc22, od22, .func (PySem.W.fnOf "_law_pick" "_law_pick" (defArgs s__law_pick) (defBody s__law_pick) (defScope s__law_pick) .none kV22 dc22 pm22 an22 cd22 ct22), sl22⟩)
    (c22 : PySem.W.codeIn K cd22 "_law_pick" = true)
    (k22 : PySem.W.keepIn K (.ref f__law_pick) = true)
    (a23 : PySem.W.nsIn K mainGlobals "_law_ten" = some (some (.ref f__law_ten)))
    (l23 : K.lookup f__law_ten = some ⟨oc23, od23, .func (PySem.W.fnOf "_law_ten" "_law_ten" (defArgs s__law_ten) (defBody s__law_ten) (defScope s__law_ten) .none kV23 dc23 pm23 an23 cd23 ct23), sl23⟩)
    (c23 : PySem.W.codeIn K cd23 "_law_ten" = true)
    (k23 : PySem.W.keepIn K (.ref f__law_ten) = true)
    (a24 : PySem.W.nsIn K mainGlobals "_law_ways" = some (some (.ref f__law_ways)))
    (l24 : K.lookup f__law_ways = some ⟨oc24, od24, .func (PySem.W.fnOf "_law_ways" "_law_ways" (defArgs s__law_ways) (defBody s__law_ways) (defScope s__law_ways) .none kV24 dc24 pm24 an24 cd24 ct24), sl24⟩)
    (c24 : PySem.W.codeIn K cd24 "_law_ways" = true)
    (k24 : PySem.W.keepIn K (.ref f__law_ways) = true)
    (a25 : PySem.W.nsIn K mainGlobals "_law_near" = some (some (.ref f__law_near)))
    (l25 : K.lookup f__law_near = some ⟨oc25, od25, .func (PySem.W.fnOf "_law_near" "_law_near" (defArgs s__law_near) (defBody s__law_near) (defScope s__law_near) .none kV25 dc25 pm25 an25 cd25 ct25), sl25⟩)
    (c25 : PySem.W.codeIn K cd25 "_law_near" = true)
    (k25 : PySem.W.keepIn K (.ref f__law_near) = true)
    (a26 : PySem.W.nsIn K mainGlobals "_law_some_units" = some (some (.ref f__law_some_units)))
    (l26 : K.lookup f__law_some_units = some ⟨oc26, od26, .func (PySem.W.fnOf "_law_some_units" "_law_some_units" (defArgs s__law_some_units) (defBody s__law_some_units) (defScope s__law_some_units) .none kV26 dc26 pm26 an26 cd26 ct26), sl26⟩)
    (c26 : PySem.W.codeIn K cd26 "_law_some_units" = true)
    (k26 : PySem.W.keepIn K (.ref f__law_some_units) = true)
    (a27 : PySem.W.nsIn K mainGlobals "_law_is_shown" = some (some (.ref f__law_is_shown)))
    (l27 : K.lookup f__law_is_shown = some ⟨oc27, od27, .func (PySem.W.fnOf "_law_is_shown" "_law_is_shown" (defArgs s__law_is_shown) (defBody s__law_is_shown) (defScope s__law_is_shown) .none kV27 dc27 pm27 an27 cd27 ct27), sl27⟩)
    (c27 : PySem.W.codeIn K cd27 "_law_is_shown" = true)
    (k27 : PySem.W.keepIn K (.ref f__law_is_shown) = true)
    (a28 : PySem.W.nsIn K mainGlobals "_law_ends" = some (some (.ref f__law_ends)))
    (l28 : K.lookup f__law_ends = some ⟨oc28, od28, .func (PySem.W.fnOf "_law_ends" "_law_ends" (defArgs s__law_ends) (defBody s__law_ends) (defScope s__law_ends) .none kV28 dc28 pm28 an28 cd28 ct28), sl28⟩)
    (c28 : PySem.W.codeIn K cd28 "_law_ends" = true)
    (k28 : PySem.W.keepIn K (.ref f__law_ends) = true)
    (a29 : PySem.W.nsIn K mainGlobals "_law_is_right" = some (some (.ref f__law_is_right)))
    (l29 : K.lookup f__law_is_right = some ⟨oc29, od29, .func (PySem.W.fnOf "_law_is_right" "_law_is_right" (defArgs s__law_is_right) (defBody s__law_is_right) (defScope s__law_is_right) .none kV29 dc29 pm29 an29 cd29 ct29), sl29⟩)
    (c29 : PySem.W.codeIn K cd29 "_law_is_right" = true)
    (k29 : PySem.W.keepIn K (.ref f__law_is_right) = true)
    (a30 : PySem.W.nsIn K mainGlobals "law" = some (some (.ref f_law)))
    (l30 : K.lookup f_law = some ⟨oc30, od30, .func (PySem.W.fnOf "law" "law" (defArgs s_law) (defBody s_law) (defScope s_law) .none kV30 dc30 pm30 an30 cd30 ct30), sl30⟩)
    (c30 : PySem.W.codeIn K cd30 "law" = true)
    (k30 : PySem.W.keepIn K (.ref f_law) = true)
    (z_bool : PySem.W.nsIn K mainGlobals "bool" = some none)
    (z_divmod : PySem.W.nsIn K mainGlobals "divmod" = some none)
    (z_int : PySem.W.nsIn K mainGlobals "int" = some none)
    (z_isinstance : PySem.W.nsIn K mainGlobals "isinstance" = some none)
    (z_len : PySem.W.nsIn K mainGlobals "len" = some none)
    (z_list : PySem.W.nsIn K mainGlobals "list" = some none)
    (z_max : PySem.W.nsIn K mainGlobals "max" = some none)
    (z_min : PySem.W.nsIn K mainGlobals "min" = some none)
    (z_range : PySem.W.nsIn K mainGlobals "range" = some none)
    (z_tuple : PySem.W.nsIn K mainGlobals "tuple" = some none)
    (aW : PySem.W.nsIn K mainGlobals "WAYS" = some (some (.ref a_WAYS)))
    (lW : K.lookup a_WAYS = some ⟨.type "tuple", odW, .seq #[.str "floor" tw0, .str "ceiling" tw1, .str "cut" tw2, .str "away" tw3, .str "halfup" tw4, .str "halfdown" tw5, .str "halfeven" tw6, .str "halfaway" tw7, .str "halfcut" tw8] nW, slW⟩)
    (aM : PySem.W.nsIn K mainGlobals "MIRRORS" = some (some (.ref a_MIRRORS)))
    (lM : K.lookup a_MIRRORS = some ⟨.type "dict", none, .dict es_M n_M, #[]⟩)
    (kM : PySem.W.KeysLit w.params es_M.toList)
    (sM : (a_MIRRORS == sysModules) = false)
    (m_floor : PySem.W.nsIn K a_MIRRORS "floor" = some (some (.str "ceiling" tm_floor)))
    (m_ceiling : PySem.W.nsIn K a_MIRRORS "ceiling" = some (some (.str "floor" tm_ceiling)))
    (m_cut : PySem.W.nsIn K a_MIRRORS "cut" = some none)
    (m_away : PySem.W.nsIn K a_MIRRORS "away" = some none)
    (m_halfup : PySem.W.nsIn K a_MIRRORS "halfup" = some (some (.str "halfdown" tm_halfup)))
    (m_halfdown : PySem.W.nsIn K a_MIRRORS "halfdown" = some (some (.str "halfup" tm_halfdown)))
    (m_halfeven : PySem.W.nsIn K a_MIRRORS "halfeven" = some none)
    (m_halfaway : PySem.W.nsIn K a_MIRRORS "halfaway" = some none)
    (m_halfcut : PySem.W.nsIn K a_MIRRORS "halfcut" = some none) :
    ∃ fd : FuncData, (∀ (s : Shared) (v : Value), BindsTo s fd ⟨[v], []⟩ [("_law_script", v)]) ∧ ∀ base : Heap, K.In base → base.Ns mainGlobals mg → FnOk l.prog w K mg base CX0 8 fa fd ["_law_script"] (spLaw K) := by
  have e := hfa.symm.trans (PySem.W.mg_of X G a30)
  cases e
  have F0 := fun_mk (st := s_is_integer) l0 c0 k0
  have b0 := F0.binds (ps := ["value"]) fun _ _ _ _ _ _ us hl => match us, hl with | [_], _ => rfl
  have F1 := fun_mk (st := s_is_whole) l1 c1 k1
  have b1 := F1.binds (ps := ["value"]) fun _ _ _ _ _ _ us hl => match us, hl with | [_], _ => rfl
  have F2 := fun_mk (st := s_need_integer) l2 c2 k2
  have b2 := F2.binds (ps := ["value"]) fun _ _ _ _ _ _ us hl => match us, hl with | [_], _ => rfl
  have F3 := fun_mk (st := s_need_whole) l3 c3 k3
  have b3 := F3.binds (ps := ["value"]) fun _ _ _ _ _ _ us hl => match us, hl with | [_], _ => rfl
  have F4 := fun_mk (st := s_ten_to) l4 c4 k4
  have b4 := F4.binds (ps := ["number"]) fun _ _ _ _ _ _ us hl => match us, hl with | [_], _ => rfl
  have F5 := fun_mk (st := s_lowered) l5 c5 k5
  have b5 := F5.binds (ps := ["units", "scale"]) fun _ _ _ _ _ _ us hl => match us, hl with | [_, _], _ => rfl
  have F6 : FunD K "__init__" "Worth.__init__" (defArgs s_Worth___init__) (defBody s_Worth___init__) (defScope s_Worth___init__) [.int 0] [] f_Worth___init__ (PySem.W.fnOf "__init__" "Worth.__init__" (defArgs s_Worth___init__) (defBody s_Worth___init__) (defScope s_Worth___init__) (.ref dT6) kV6 dc6 pm6 an6 cd6 ct6) := ⟨⟨oc6, od6, .ref dT6, kV6, dc6, pm6, an6, cd6, ct6, sl6, rfl, l6, c6, .inr ⟨by simp, dT6, _, [.int 0 dt6_0], dn6, rfl, e6, rfl, .cons ⟨_, rfl⟩ (.nil)⟩, .inl rfl⟩, k6⟩
  obtain ⟨z6, hz6, b6⟩ := F6.binds1 (ps := ["self", "units", "scale"]) 3 1 (by simp) rfl fun _ _ _ _ _ _ _ us its h1 h2 => match us, h1, its, h2 with | [_, _, _], _, [_], _ => ⟨_, rfl, rfl⟩
  cases hz6
  have F7 := fun_mk (st := s_Worth___eq__) l7 c7 k7
  have b7 := F7.binds (ps := ["self", "other"]) fun _ _ _ _ _ _ us hl => match us, hl with | [_, _], _ => rfl
  have F8 := fun_mk (st := s_Worth___neg__) l8 c8 k8
  have b8 := F8.binds (ps := ["self"]) fun _ _ _ _ _ _ us hl => match us, hl with | [_], _ => rfl
  have F9 := fun_mk (st := s_Worth_units_at) l9 c9 k9
  have b9 := F9.binds (ps := ["self", "scale"]) fun _ _ _ _ _ _ us hl => match us, hl with | [_, _], _ => rfl
  have F10 := fun_mk (st := s_need_worth) l10 c10 k10
  have b10 := F10.binds (ps := ["value"]) fun _ _ _ _ _ _ us hl => match us, hl with | [_], _ => rfl
  have F11 := fun_mk (st := s_need_way) l11 c11 k11
  have b11 := F11.binds (ps := ["value"]) fun _ _ _ _ _ _ us hl => match us, hl with | [_], _ => rfl
  have F12 := fun_mk (st := s_mirrored) l12 c12 k12
  have b12 := F12.binds (ps := ["way"]) fun _ _ _ _ _ _ us hl => match us, hl with | [_], _ => rfl
  have F13 := fun_mk (st := s_lift) l13 c13 k13
  have b13 := F13.binds (ps := ["way", "part", "negative", "odd"]) fun _ _ _ _ _ _ us hl => match us, hl with | [_, _, _, _], _ => rfl
  have F14 := fun_mk (st := s_part_of) l14 c14 k14
  have b14 := F14.binds (ps := ["left", "divisor"]) fun _ _ _ _ _ _ us hl => match us, hl with | [_, _], _ => rfl
  have F15 := fun_mk (st := s_divided_by) l15 c15 k15
  have b15 := F15.binds (ps := ["number", "divisor", "way"]) fun _ _ _ _ _ _ us hl => match us, hl with | [_, _, _], _ => rfl
  have F16 := fun_mk (st := s_rounded) l16 c16 k16
  have b16 := F16.binds (ps := ["worth", "scale", "way"]) fun _ _ _ _ _ _ us hl => match us, hl with | [_, _, _], _ => rfl
  have F17 := fun_mk (st := s_reach_below) l17 c17 k17
  have b17 := F17.binds (ps := ["way", "units", "wide"]) fun _ _ _ _ _ _ us hl => match us, hl with | [_, _, _], _ => rfl
  have F18 := fun_mk (st := s_reach_above) l18 c18 k18
  have b18 := F18.binds (ps := ["way", "units", "wide"]) fun _ _ _ _ _ _ us hl => match us, hl with | [_, _, _], _ => rfl
  have F19 := fun_mk (st := s_shown_as) l19 c19 k19
  have b19 := F19.binds (ps := ["worth", "scale", "places", "way"]) fun _ _ _ _ _ _ us hl => match us, hl with | [_, _, _, _], _ => rfl
  have F20 := fun_mk (st := s__law_pen) l20 c20 k20
  have b20 := F20.binds (ps := ["_law_script"]) fun _ _ _ _ _ _ us hl => match us, hl with | [_], _ => rfl
  have F21 := fun_mk (st := s__law_draw) l21 c21 k21
  have b21 := F21.binds (ps := ["_law_pen_here", "_law_many"]) fun _ _ _ _ _ _ us hl => match us, hl with | [_, _], _ => rfl
  have F22 := fun_mk (st := s__law_pick) l22 c22 k22
  have b22 := F22.binds (ps := ["_law_pen_here", "_law_items"]) fun _ _ _ _ _ _ us hl => match us, hl with | [_, _], _ => rfl
  have F23 := fun_mk (st := s__law_ten) l23 c23 k23
  have b23 := F23.binds (ps := ["_law_count"]) fun _ _ _ _ _ _ us hl => match us, hl with | [_], _ => rfl
  have F24 := fun_mk (st := s__law_ways) l24 c24 k24
  have b24 := F24.binds (ps := []) fun _ _ _ _ _ _ us hl => match us, hl with | [], _ => rfl
  have F25 := fun_mk (st := s__law_near) l25 c25 k25
  have b25 := F25.binds (ps := ["_law_number", "_law_divisor", "_law_manner"]) fun _ _ _ _ _ _ us hl => match us, hl with | [_, _, _], _ => rfl
  have F26 := fun_mk (st := s__law_some_units) l26 c26 k26
  have b26 := F26.binds (ps := ["_law_pen_here"]) fun _ _ _ _ _ _ us hl => match us, hl with | [_], _ => rfl
  have F27 := fun_mk (st := s__law_is_shown) l27 c27 k27
  have b27 := F27.binds (ps := ["_law_units", "_law_scale", "_law_places", "_law_way", "_law_tried"]) fun _ _ _ _ _ _ us hl => match us, hl with | [_, _, _, _, _], _ => rfl
  have F28 := fun_mk (st := s__law_ends) l28 c28 k28
  have b28 := F28.binds (ps := ["_law_worth", "_law_told", "_law_places"]) fun _ _ _ _ _ _ us hl => match us, hl with | [_, _, _], _ => rfl
  have F29 := fun_mk (st := s__law_is_right) l29 c29 k29
  have b29 := F29.binds (ps := ["_law_pen_here", "_law_units", "_law_scale", "_law_places", "_law_way"]) fun _ _ _ _ _ _ us hl => match us, hl with | [_, _, _, _, _], _ => rfl
  have F30 := fun_mk (st := s_law) l30 c30 k30
  have b30 := F30.binds (ps := ["_law_script"]) fun _ _ _ _ _ _ us hl => match us, hl with | [_], _ => rfl
  let T : Tx w K mg := {
    C_Worth := C_Worth,
    cl_Worth := ⟨pg_Worth, hd_Worth, po_Worth, sa_Worth⟩,
    gC_Worth := PySem.W.mg_of X G aC_Worth,
    n_Worth_units := n_Worth_units,
    n_Worth_scale := n_Worth_scale,
    f_is_integer := f_is_integer,
    fd_is_integer := PySem.W.fnOf "is_integer" "is_integer" (defArgs s_is_integer) (defBody s_is_integer) (defScope s_is_integer) .none kV0 dc0 pm0 an0 cd0 ct0,
    F_is_integer := F0,
    b_is_integer := b0,
    g_is_integer := PySem.W.mg_of X G a0,
    f_is_whole := f_is_whole,
    fd_is_whole := PySem.W.fnOf "is_whole" "is_whole" (defArgs s_is_whole) (defBody s_is_whole) (defScope s_is_whole) .none kV1 dc1 pm1 an1 cd1 ct1,
    F_is_whole := F1,
    b_is_whole := b1,
    g_is_whole := PySem.W.mg_of X G a1,
    f_need_integer := f_need_integer,
    fd_need_integer := PySem.W.fnOf "need_integer" "need_integer" (defArgs s_need_integer) (defBody s_need_integer) (defScope s_need_integer) .none kV2 dc2 pm2 an2 cd2 ct2,
    F_need_integer := F2,
    b_need_integer := b2,
    g_need_integer := PySem.W.mg_of X G a2,
    f_need_whole := f_need_whole,
    fd_need_whole := PySem.W.fnOf "need_whole" "need_whole" (defArgs s_need_whole) (defBody s_need_whole) (defScope s_need_whole) .none kV3 dc3 pm3 an3 cd3 ct3,
    F_need_whole := F3,
    b_need_whole := b3,
    g_need_whole := PySem.W.mg_of X G a3,
    f_ten_to := f_ten_to,
    fd_ten_to := PySem.W.fnOf "ten_to" "ten_to" (defArgs s_ten_to) (defBody s_ten_to) (defScope s_ten_to) .none kV4 dc4 pm4 an4 cd4 ct4,
    F_ten_to := F4,
    b_ten_to := b4,
    g_ten_to := PySem.W.mg_of X G a4,
    f_lowered := f_lowered,
    fd_lowered := PySem.W.fnOf "lowered" "lowered" (defArgs s_lowered) (defBody s_lowered) (defScope s_lowered) .none kV5 dc5 pm5 an5 cd5 ct5,
    F_lowered := F5,
    b_lowered := b5,
    g_lowered := PySem.W.mg_of X G a5,
    f_Worth___init__ := f_Worth___init__,
    fd_Worth___init__ := PySem.W.fnOf "__init__" "Worth.__init__" (defArgs s_Worth___init__) (defBody s_Worth___init__) (defScope s_Worth___init__) (.ref dT6) kV6 dc6 pm6 an6 cd6 ct6,
    F_Worth___init__ := F6,
    b_Worth___init__ := b6,
    M_Worth := ⟨mk_Worth, a6, i6, kc_Worth⟩,
    f_Worth___eq__ := f_Worth___eq__,
    fd_Worth___eq__ := PySem.W.fnOf "__eq__" "Worth.__eq__" (defArgs s_Worth___eq__) (defBody s_Worth___eq__) (defScope s_Worth___eq__) .none kV7 dc7 pm7 an7 cd7 ct7,
    F_Worth___eq__ := F7,
    b_Worth___eq__ := b7,
    m_Worth___eq__ := ⟨a7, i7, k7⟩,
    f_Worth___neg__ := f_Worth___neg__,
    fd_Worth___neg__ := PySem.W.fnOf "__neg__" "Worth.__neg__" (defArgs s_Worth___neg__) (defBody s_Worth___neg__) (defScope s_Worth___neg__) .none kV8 dc8 pm8 an8 cd8 ct8,
    F_Worth___neg__ := F8,
    b_Worth___neg__ := b8,
    m_Worth___neg__ := ⟨a8, i8, k8⟩,
    f_Worth_units_at := f_Worth_units_at,
    fd_Worth_units_at := PySem.W.fnOf "units_at" "Worth.units_at" (defArgs s_Worth_units_at) (defBody s_Worth_units_at) (defScope s_Worth_units_at) .none kV9 dc9 pm9 an9 cd9 ct9,
    F_Worth_units_at := F9,
    b_Worth_units_at := b9,
    m_Worth_units_at := ⟨a9, i9, k9⟩,
    f_need_worth := f_need_worth,
    fd_need_worth := PySem.W.fnOf "need_worth" "need_worth" (defArgs s_need_worth) (defBody s_need_worth) (defScope s_need_worth) .none kV10 dc10 pm10 an10 cd10 ct10,
    F_need_worth := F10,
    b_need_worth := b10,
    g_need_worth := PySem.W.mg_of X G a10,
    f_need_way := f_need_way,
    fd_need_way := PySem.W.fnOf "need_way" "need_way" (defArgs s_need_way) (defBody s_need_way) (defScope s_need_way) .none kV11 dc11 pm11 an11 cd11 ct11,
    F_need_way := F11,
    b_need_way := b11,
    g_need_way := PySem.W.mg_of X G a11,
    f_mirrored := f_mirrored,
    fd_mirrored := PySem.W.fnOf "mirrored" "mirrored" (defArgs s_mirrored) (defBody s_mirrored) (defScope s_mirrored) .none kV12 dc12 pm12 an12 cd12 ct12,
    F_mirrored := F12,
    b_mirrored := b12,
    g_mirrored := PySem.W.mg_of X G a12,
    f_lift := f_lift,
    fd_lift := PySem.W.fnOf "lift" "lift" (defArgs s_lift) (defBody s_lift) (defScope s_lift) .none kV13 dc13 pm13 an13 cd13 ct13,
    F_lift := F13,
    b_lift := b13,
    g_lift := PySem.W.mg_of X G a13,
    f_part_of := f_part_of,
    fd_part_of := PySem.W.fnOf "part_of" "part_of" (defArgs s_part_of) (defBody s_part_of) (defScope s_part_of) .none kV14 dc14 pm14 an14 cd14 ct14,
    F_part_of := F14,
    b_part_of := b14,
    g_part_of := PySem.W.mg_of X G a14,
    f_divided_by := f_divided_by,
    fd_divided_by := PySem.W.fnOf "divided_by" "divided_by" (defArgs s_divided_by) (defBody s_divided_by) (defScope s_divided_by) .none kV15 dc15 pm15 an15 cd15 ct15,
    F_divided_by := F15,
    b_divided_by := b15,
    g_divided_by := PySem.W.mg_of X G a15,
    f_rounded := f_rounded,
    fd_rounded := PySem.W.fnOf "rounded" "rounded" (defArgs s_rounded) (defBody s_rounded) (defScope s_rounded) .none kV16 dc16 pm16 an16 cd16 ct16,
    F_rounded := F16,
    b_rounded := b16,
    g_rounded := PySem.W.mg_of X G a16,
    f_reach_below := f_reach_below,
    fd_reach_below := PySem.W.fnOf "reach_below" "reach_below" (defArgs s_reach_below) (defBody s_reach_below) (defScope s_reach_below) .none kV17 dc17 pm17 an17 cd17 ct17,
    F_reach_below := F17,
    b_reach_below := b17,
    g_reach_below := PySem.W.mg_of X G a17,
    f_reach_above := f_reach_above,
    fd_reach_above := PySem.W.fnOf "reach_above" "reach_above" (defArgs s_reach_above) (defBody s_reach_above) (defScope s_reach_above) .none kV18 dc18 pm18 an18 cd18 ct18,
    F_reach_above := F18,
    b_reach_above := b18,
    g_reach_above := PySem.W.mg_of X G a18,
    f_shown_as := f_shown_as,
    fd_shown_as := PySem.W.fnOf "shown_as" "shown_as" (defArgs s_shown_as) (defBody s_shown_as) (defScope s_shown_as) .none kV19 dc19 pm19 an19 cd19 ct19,
    F_shown_as := F19,
    b_shown_as := b19,
    g_shown_as := PySem.W.mg_of X G a19,
    f__law_pen := f__law_pen,
    fd__law_pen := PySem.W.fnOf "_law_pen" "_law_pen" (defArgs s__law_pen) (defBody s__law_pen) (defScope s__law_pen) .none kV20 dc20 pm20 an20 cd20 ct20,
    F__law_pen := F20,
    b__law_pen := b20,
    g__law_pen := PySem.W.mg_of X G a20,
    f__law_draw := f__law_draw,
    fd__law_draw := PySem.W.fnOf "_law_draw" "_law_draw" (defArgs s__law_draw) (defBody s__law_draw) (defScope s__law_draw) .none kV21 dc21 pm21 an21 cd21 ct21,
    F__law_draw := F21,
    b__law_draw := b21,
    g__law_draw := PySem.W.mg_of X G a21,
    f__law_pick := f__law_pick,
    fd__law_pick := PySem.W.fnOf "_law_pick" "_law_pick" (defArgs s__law_pick) (defBody s__law_pick) (defScope s__law_pick) .none kV22 dc22 pm22 an22 cd22 ct22,
    F__law_pick := F22,
    b__law_pick := b22,
    g__law_pick := PySem.W.mg_of X G a22,
    f__law_ten := f__law_ten,
    fd__law_ten := PySem.W.fnOf "_law_ten" "_law_ten" (defArgs s__law_ten) (defBody s__law_ten) (defScope s__law_ten) .none kV23 dc23 pm23 an23 cd23 ct23,
    F__law_ten := F23,
    b__law_ten := b23,
    g__law_ten := PySem.W.mg_of X G a23,
    f__law_ways := f__law_ways,
    fd__law_ways := PySem.W.fnOf "_law_ways" "_law_ways" (defArgs s__law_ways) (defBody s__law_ways) (defScope s__law_ways) .none kV24 dc24 pm24 an24 cd24 ct24,
    F__law_ways := F24,
    b__law_ways := b24,
    g__law_ways := PySem.W.mg_of X G a24,
    f__law_near := f__law_near,
    fd__law_near := PySem.W.fnOf "_law_near" "_law_near" (defArgs s__law_near) (defBody s__law_near) (defScope s__law_near) .none kV25 dc25 pm25 an25 cd25 ct25,
    F__law_near := F25,
    b__law_near := b25,
    g__law_near := PySem.W.mg_of X G a25,
    f__law_some_units := f__law_some_units,
    fd__law_some_units := PySem.W.fnOf "_law_some_units" "_law_some_units" (defArgs s__law_some_units) (defBody s__law_some_units) (defScope s__law_some_units) .none kV26 dc26 pm26 an26 cd26 ct26,
    F__law_some_units := F26,
    b__law_some_units := b26,
    g__law_some_units := PySem.W.mg_of X G a26,
    f__law_is_shown := f__law_is_shown,
    fd__law_is_shown := PySem.W.fnOf "_law_is_shown" "_law_is_shown" (defArgs s__law_is_shown) (defBody s__law_is_shown) (defScope s__law_is_shown) .none kV27 dc27 pm27 an27 cd27 ct27,
    F__law_is_shown := F27,
    b__law_is_shown := b27,
    g__law_is_shown := PySem.W.mg_of X G a27,
    f__law_ends := f__law_ends,
    fd__law_ends := PySem.W.fnOf "_law_ends" "_law_ends" (defArgs s__law_ends) (defBody s__law_ends) (defScope s__law_ends) .none kV28 dc28 pm28 an28 cd28 ct28,
    F__law_ends := F28,
    b__law_ends := b28,
    g__law_ends := PySem.W.mg_of X G a28,
    f__law_is_right := f__law_is_right,
    fd__law_is_right := PySem.W.fnOf "_law_is_right" "_law_is_right" (defArgs s__law_is_right) (defBody s__law_is_right) (defScope s__law_is_right) .none kV29 dc29 pm29 an29 cd29 ct29,
    F__law_is_right := F29,
    b__law_is_right := b29,
    g__law_is_right := PySem.W.mg_of X G a29,
    f_law := fa,
    fd_law := PySem.W.fnOf "law" "law" (defArgs s_law) (defBody s_law) (defScope s_law) .none kV30 dc30 pm30 an30 cd30 ct30,
    F_law := F30,
    b_law := b30,
    g_law := PySem.W.mg_of X G a30,
    z_bool := PySem.W.mg_none_of X G z_bool,
    z_divmod := PySem.W.mg_none_of X G z_divmod,
    z_int := PySem.W.mg_none_of X G z_int,
    z_isinstance := PySem.W.mg_none_of X G z_isinstance,
    z_len := PySem.W.mg_none_of X G z_len,
    z_list := PySem.W.mg_none_of X G z_list,
    z_max := PySem.W.mg_none_of X G z_max,
    z_min := PySem.W.mg_none_of X G z_min,
    z_range := PySem.W.mg_none_of X G z_range,
    z_tuple := PySem.W.mg_none_of X G z_tuple,
    tyW := fun H a dx fs e => .ins e ⟨pg_Worth, hd_Worth, po_Worth, sa_Worth⟩ tya_Worth tyb_Worth tyc_Worth tyd_Worth,
    kiW := by unfold PySem.W.kitOne; rw [if_pos (by simp)],
    a_WAYS := a_WAYS,
    gv_WAYS := PySem.W.mg_of X G aW,
    sq_WAYS := fun H => .inr ⟨_, _, nW, lW, rfl, rfl, Nat.le_of_ble_eq_true rfl, .cons ⟨_, rfl⟩ (.cons ⟨_, rfl⟩ (.cons ⟨_, rfl⟩ (.cons ⟨_, rfl⟩ (.cons ⟨_, rfl⟩ (.cons ⟨_, rfl⟩ (.cons ⟨_, rfl⟩ (.cons ⟨_, rfl⟩ (.cons ⟨_, rfl⟩ (.nil)))))))))⟩,
    a_MIRRORS := a_MIRRORS,
    es_M := es_M,
    n_M := n_M,
    gv_MIRRORS := PySem.W.mg_of X G aM,
    D_M := ⟨lM, kM, sM⟩,
    mir := mir_all m_floor m_ceiling m_cut m_away m_halfup m_halfdown m_halfeven m_halfaway m_halfcut }
  exact ⟨T.fd_law, fun s v => .of_eq rfl, fun base _ _ => ok_law T⟩
end K05
open PySem PySem.W PyProof.Rows
set_option maxHeartbeats 0 in
theorem PySem.Challenge.cw_dealtsums_k05_whole_worths_rounded_to_on_holds : PySem.Challenge.rw_dealtsums_k05_whole_worths_rounded_to_on.Holds := by
  w_on; o_law; k_head; (case hw => w_witness2)
  k_fill
  refine L2.walk_of (l := PySem.Challenge.rw_dealtsums_k05_whole_worths_rounded_to_on) (n := 63) (k := 8) (x := "_law_script") (CX := fun _ => L2.CX0) (sp := fun w => K05.spLaw _) rfl (by decide) rfl ⟨rfl, by decide, by decide⟩ (fun w h Y => PySem.W.kIn_of Y) ?F (fun _ _ a ns hl _ hS => ⟨a, ns, rfl, hS, hl, fun _ => rfl⟩) (fun _ _ _ _ _ h => h)
  case F =>
    intro w mg fa h KX G hmg
    refine' K05.all_mk KX G hmg ?aC_Worth ?pg_Worth ?hd_Worth ?po_Worth ?sa_Worth ?mk_Worth ?kc_Worth ?tya_Worth ?tyb_Worth ?tyc_Worth ?tyd_Worth ?n_Worth_units ?n_Worth_scale ?a0 ?l0 ?c0 ?k0 ?a1 ?l1 ?c1 ?k1 ?a2 ?l2 ?c2 ?k2 ?a3 ?l3 ?c3 ?k3 ?a4 ?l4 ?c4 ?k4 ?a5 ?l5 ?c5 ?k5 ?a6 ?i6 ?l6 ?c6 ?k6 ?e6 ?a7 ?i7 ?l7 ?c7 ?k7 ?a8 ?i8 ?l8 ?c8 ?k8 ?a9 ?i9 ?l9 ?c9 ?k9 ?a10 ?l10 ?c10 ?k10 ?a11 ?l11 ?c11 ?k11 ?a12 ?l12 ?c12 ?k12 ?a13 ?l13 ?c13 ?k13 ?a14 ?l14 ?c14 ?k14 ?a15 ?l15 ?c15 ?k15 ?a16 ?l16 ?c16 ?k16 ?a17 ?l17 ?c17 ?k17 ?a18 ?l18 ?c18 ?k18 ?a19 ?l19 ?c19 ?k19 ?a20 ?l20 ?c20 ?k20 ?a21 ?l21 ?c21 ?k21 ?a22 ?l22 ?c22 ?k22 ?a23 ?l23 ?c23 ?k23 ?a24 ?l24 ?c24 ?k24 ?a25 ?l25 ?c25 ?k25 ?a26 ?l26 ?c26 ?k26 ?a27 ?l27 ?c27 ?k27 ?a28 ?l28 ?c28 ?k28 ?a29 ?l29 ?c29 ?k29 ?a30 ?l30 ?c30 ?k30 ?z_bool ?z_divmod ?z_int ?z_isinstance ?z_len ?z_list ?z_max ?z_min ?z_range ?z_tuple ?aW ?lW ?aM ?lM ?kM ?sM ?m_floor ?m_ceiling ?m_cut ?m_away ?m_halfup ?m_halfdown ?m_halfeven ?m_halfaway ?m_halfcut
    (case aC_Worth => k_is)
    (case pg_Worth => k_is)
    (case hd_Worth => k_is)
    (case po_Worth => k_is)
    (case sa_Worth => k_is)
    (case mk_Worth => k_is)
    (case kc_Worth => k_is)
    (case tya_Worth => k_is)
    (case tyb_Worth => k_is)
    (case tyc_Worth => k_is)
    (case tyd_Worth => k_is)
    (case n_Worth_units => k_is)
    (case n_Worth_scale => k_is)
    (case a0 => k_is)
    (case l0 => k_is)
    (case c0 => k_is)
    (case k0 => k_is)
    (case a1 => k_is)
    (case l1 => k_is)
    (case c1 => k_is)
    (case k1 => k_is)
    (case a2 => k_is)
    (case l2 => k_is)
    (case c2 => k_is)
    (case k2 => k_is)
    (case a3 => k_is)
    (case l3 => k_is)
    (case c3 => k_is)
    (case k3 => k_is)
    (case a4 => k_is)
    (case l4 => k_is)
    (case c4 => k_is)
    (case k4 => k_is)
    (case a5 => k_is)
    (case l5 => k_is)
    (case c5 => k_is)
    (case k5 => k_is)
    (case a6 => k_is)
    (case i6 => k_is)
    (case l6 => k_is)
    (case c6 => k_is)
    (case k6 => k_is)
    (case e6 => k_is)
    (case a7 => k_is)
    (case i7 => k_is)
    (case l7 => k_is)
    (case c7 => k_is)
    (case k7 => k_is)
    (case a8 => k_is)
    (case i8 => k_is)
    (case l8 => k_is)
    (case c8 => k_is)
    (case k8 => k_is)
    (case a9 => k_is)
    (case i9 => k_is)
    (case l9 => k_is)
    (case c9 => k_is)
    (case k9 => k_is)
    (case a10 => k_is)
    (case l10 => k_is)
    (case c10 => k_is)
    (case k10 => k_is)
    (case a11 => k_is)
    (case l11 => k_is)
    (case c11 => k_is)
    (case k11 => k_is)
    (case a12 => k_is)
    (case l12 => k_is)
    (case c12 => k_is)
    (case k12 => k_is)
    (case a13 => k_is)
    (case l13 => k_is)
    (case c13 => k_is)
    (case k13 => k_is)
    (case a14 => k_is)
    (case l14 => k_is)
    (case c14 => k_is)
    (case k14 => k_is)
    (case a15 => k_is)
    (case l15 => k_is)
    (case c15 => k_is)
    (case k15 => k_is)
    (case a16 => k_is)
    (case l16 => k_is)
    (case c16 => k_is)
    (case k16 => k_is)
    (case a17 => k_is)
    (case l17 => k_is)
    (case c17 => k_is)
    (case k17 => k_is)
    (case a18 => k_is)
    (case l18 => k_is)
    (case c18 => k_is)
    (case k18 => k_is)
    (case a19 => k_is)
    (case l19 => k_is)
    (case c19 => k_is)
    (case k19 => k_is)
    (case a20 => k_is)
    (case l20 => k_is)
    (case c20 => k_is)
    (case k20 => k_is)
    (case a21 => k_is)
    (case l21 => k_is)
    (case c21 => k_is)
    (case k21 => k_is)
    (case a22 => k_is)
    (case l22 => k_is)
    (case c22 => k_is)
    (case k22 => k_is)
    (case a23 => k_is)
    (case l23 => k_is)
    (case c23 => k_is)
    (case k23 => k_is)
    (case a24 => k_is)
    (case l24 => k_is)
    (case c24 => k_is)
    (case k24 => k_is)
    (case a25 => k_is)
    (case l25 => k_is)
    (case c25 => k_is)
    (case k25 => k_is)
    (case a26 => k_is)
    (case l26 => k_is)
    (case c26 => k_is)
    (case k26 => k_is)
    (case a27 => k_is)
    (case l27 => k_is)
    (case c27 => k_is)
    (case k27 => k_is)
    (case a28 => k_is)
    (case l28 => k_is)
    (case c28 => k_is)
    (case k28 => k_is)
    (case a29 => k_is)
    (case l29 => k_is)
    (case c29 => k_is)
    (case k29 => k_is)
    (case a30 => k_is)
    (case l30 => k_is)
    (case c30 => k_is)
    (case k30 => k_is)
    (case z_bool => k_is)
    (case z_divmod => k_is)
    (case z_int => k_is)
    (case z_isinstance => k_is)
    (case z_len => k_is)
    (case z_list => k_is)
    (case z_max => k_is)
    (case z_min => k_is)
    (case z_range => k_is)
    (case z_tuple => k_is)
    (case aW => k_is)
    (case lW => k_is)
    (case aM => k_is)
    (case lM => k_is)
    (case kM => k_keys)
    (case sM => decide)
    (case m_floor => k_is)
    (case m_ceiling => k_is)
    (case m_cut => k_is)
    (case m_away => k_is)
    (case m_halfup => k_is)
    (case m_halfdown => k_is)
    (case m_halfeven => k_is)
    (case m_halfaway => k_is)
    (case m_halfcut => k_is)
