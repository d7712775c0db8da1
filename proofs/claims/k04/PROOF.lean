import PyProof.Rows.All
import Wide.All
import OpenK.AllK
import Wide.FinOn
import HandS.ForMost
import HandS.Wide
import HandS.WideBits
import HandS.IsInst
import HandS.Defaults
import HandS.Style
import HandS.OwnEq
import HandS.More
import KE.KOpsOwn
import KE.KFmtOwn
import HandS.ForExc
import HandS.Small
import PySem.Challenge.RW_dealtsums_k04_whole_rounding_by_each_way
set_option Elab.async false
set_option linter.all false
set_option maxRecDepth 100000
set_option maxHeartbeats 4000000
namespace DS
open PySem L2
/-! ### heaps -/
/-- what never changes once it is made: all but dicts -/
def stab : HO → Bool
  | .dK _ => false
  | _ => true
def Keep (H H' : Hp) : Prop := ∀ b o, H b = some o → stab o = true → H' b = some o
theorem Keep.refl (H : Hp) : Keep H H := fun _ _ h _ => h
theorem Keep.trans {H H1 H2 : Hp} (a : Keep H H1) (b : Keep H1 H2) : Keep H H2 := fun c o h s => b c o (a c o h s) s
theorem Keep.of {H H' : Hp} (s : Same H H') : Keep H H' := fun b o h _ => s b o h
theorem Same.keep {H H1 H2 : Hp} (a : Same H H1) (b : Keep H1 H2) : Keep H H2 := (Keep.of a).trans b
theorem Keep.same {H H1 H2 : Hp} (a : Keep H H1) (b : Same H1 H2) : Keep H H2 := a.trans (Keep.of b)
theorem same_upd {H : Hp} {p : Addr} {o : HO} (h : H p = none) : Same H (upd H p o) := fun b x e => by
  rw [upd_ne (ne_of_none e h)]
  exact e
theorem keep_dict {H : Hp} {p : Addr} {kvs kvs' : List (Key × V)} (h : H p = some (.dK kvs)) : Keep H (upd H p (.dK kvs')) := fun b o e s => by
  have n : b ≠ p := fun z => by
    subst z
    rw [h] at e
    cases e
    cases s
  rw [upd_ne n]
  exact e
/-! ### steps of a reading -/
section
variable {σ : St} {H : Hp} {Q : VK} {D : Ends} {t u : TS} {te ta tb tc : TE} {g : TG} {c c' : TT} {x y v : V} {i : Nat} {r r' : R2} {tl tr : TA}
theorem w_seq (h : t { D with nx := u D } σ H) : tSeq t u D σ H := h
theorem w_next (h : D.nx σ H) : tNext D σ H := h
theorem w_brk (h : D.bk σ H) : tBreak D σ H := h
theorem w_cont (h : D.ct σ H) : tCont D σ H := h
theorem w_asg (h : te σ H fun x H1 => g x σ H1 D.nx) : tAsg te g D σ H := h
theorem w_name {R : St → Hp → Prop} (h : R (σ.set i (some v)) H) : gName i v σ H R := h
theorem w_par {j : Nat} (h : tl σ H fun vs H1 => ∃ v w, vs = [v, w] ∧ D.nx ((σ.set i (some v)).set j (some w)) H1) : tPar i j tl D σ H := h
theorem w_two {w : V} {P : V → V → Prop} (h : P v w) : ∃ v' w', [v, w] = [v', w'] ∧ P v' w' := ⟨v, w, rfl, h⟩
theorem w_three {w z : V} {P : V → V → V → Prop} (h : P v w z) : ∃ v' w' z', [v, w, z] = [v', w', z'] ∧ P v' w' z' := ⟨v, w, z, rfl, h⟩
theorem w_par3 {j l : Nat} (h : tl σ H fun vs H1 => ∃ v w z, vs = [v, w, z] ∧ D.nx (((σ.set i (some v)).set j (some w)).set l (some z)) H1) : tPar3 i j l tl D σ H := h
theorem w_ret (h : te σ H D.rt) : tRet te D σ H := h
theorem w_retN (h : D.rt .non H) : tRetN D σ H := h
theorem w_drop (h : te σ H fun _ H1 => D.nx σ H1) : tDrop te D σ H := h
theorem w_ifs (h : c σ H fun b H1 => if b = true then t D σ H1 else u D σ H1) : tIfS c t u D σ H := h
theorem w_var (e : σ[i]? = some (some v)) (h : Q v H) : tVar i σ H Q := ⟨v, e, h⟩
theorem w_c (h : Q v H) : tC v σ H Q := h
theorem w_op (h : ta σ H fun x H1 => tb σ H1 fun y H2 => r x y H2 Q) : tOp r ta tb σ H Q := h
theorem w_un {r : V → Hp → VK → Prop} (h : ta σ H fun x H1 => r x H1 Q) : tUn r ta σ H Q := h
theorem w_I0 {g : Int → Int → V} {i j : Int} (h : Q (g i j) H) : rI0 g (.int i) (.int j) H Q := ⟨i, j, rfl, rfl, h⟩
theorem w_I {C : Int → Int → Prop} {g : Int → Int → V} {i j : Int} (k : C i j) (h : Q (g i j) H) : rI C g (.int i) (.int j) H Q := ⟨i, j, rfl, rfl, k, h⟩
theorem w_U {g : Int → V} {i : Int} (h : Q (g i) H) : rU g (.int i) H Q := ⟨i, rfl, h⟩
theorem w_test {R : Bool → Hp → Prop} (h : te σ H fun x H' => ∃ k, x = .bl k ∧ R k H') : tTest te σ H R := h
theorem w_B {R : Bool → Hp → Prop} (h : te σ H fun x H' => ∃ k, x = .bl k ∧ R k H') : tB te σ H R := h
theorem w_k {k : Bool} {P : Bool → Prop} (h : P k) : ∃ k', V.bl k = .bl k' ∧ P k' := ⟨k, rfl, h⟩
theorem w_eq (s : scal x y = true) (h : Q (.bl (decide (x = y))) H) : rEq x y H Q := ⟨s, h⟩
theorem w_ne (s : scal x y = true) (h : Q (.bl (!decide (x = y))) H) : rNe x y H Q := ⟨s, h⟩
theorem w_isN (h : Q (.bl (decide (x = .non))) H) : (V.non = .non ∧ Q (.bl (decide (x = .non))) H) := ⟨rfl, h⟩
theorem w_notN (h : Q (.bl (!decide (x = .non))) H) : (V.non = .non ∧ Q (.bl (!decide (x = .non))) H) := ⟨rfl, h⟩
theorem w_not {R : Bool → Hp → Prop} (h : c σ H fun b H1 => R (!b) H1) : tNot c σ H R := h
theorem w_and {R : Bool → Hp → Prop} (h : c σ H fun b H1 => if b = true then c' σ H1 R else R false H1) : tAnd c c' σ H R := h
theorem w_or {R : Bool → Hp → Prop} (h : c σ H fun b H1 => if b = true then R true H1 else c' σ H1 R) : tOr c c' σ H R := h
theorem w_andV (h : ta σ H fun x H1 => ∃ k, x = .bl k ∧ if k = true then tb σ H1 Q else Q (.bl false) H1) : tAndV ta tb σ H Q := h
theorem w_orV (h : ta σ H fun x H1 => ∃ k, x = .bl k ∧ if k = true then Q (.bl true) H1 else tb σ H1 Q) : tOrV ta tb σ H Q := h
theorem w_notV (h : ta σ H fun x H1 => ∃ k, x = .bl k ∧ Q (.bl (!k)) H1) : tNotV ta σ H Q := h
theorem w_if (h : c σ H fun b H1 => if b = true then ta σ H1 Q else tb σ H1 Q) : tIf c ta tb σ H Q := h
theorem w_chain (h : ta σ H fun x H1 => tb σ H1 fun y H2 => r x y H2 fun z H3 => ∃ k, z = .bl k ∧ (if k = true then tc σ H3 fun w' H4 => r' y w' H4 Q else Q (.bl false) H3)) : tChain r r' ta tb tc σ H Q := h
theorem w_cons {R : List V → Hp → Prop} (h : ta σ H fun x H1 => tr σ H1 fun xs H2 => R (x :: xs) H2) : tCons ta tr σ H R := h
theorem w_nil {R : List V → Hp → Prop} (h : R [] H) : tNil σ H R := h
theorem w_cb {r : List V → Hp → VK → Prop} (h : tl σ H fun vs H1 => r vs H1 Q) : tCB r tl σ H Q := h
theorem w_call {sp : Sp} {dvs : List V} {E : XK} (h : tl σ H fun vs H1 => sp (vs ++ dvs) H1 Q E) : tCall sp dvs E tl σ H Q := h
theorem w_tup (h : ∀ Q' : VK, Q' = Q → tl σ H fun xs H1 => xs.length ≤ sizeLine ∧ ∀ p, H1 p = none → Q' (.ref p) (upd H1 p (.tup xs))) : tTup tl σ H Q := h Q rfl
theorem w_lst (h : ∀ Q' : VK, Q' = Q → tl σ H fun xs H1 => xs.length ≤ sizeLine ∧ ∀ p, H1 p = none → Q' (.ref p) (upd H1 p (.lst xs))) : tLst tl σ H Q := h Q rfl
theorem w_new {o : HO} {n : Nat} {Q' : VK} (e : Q' = Q) (l : n ≤ sizeLine) (h : ∀ p H', H p = none → Same H H' → H' p = some o → Q (.ref p) H') : n ≤ sizeLine ∧ ∀ p, H p = none → Q' (.ref p) (upd H p o) := by
  subst e
  exact ⟨l, fun p hp => h p _ hp (same_upd hp) upd_same⟩
theorem w_newA {o : HO} {Q' : VK} (e : Q' = Q) (h : ∀ p H', H p = none → Same H H' → H' p = some o → Q (.ref p) H') : ∀ p, H p = none → Q' (.ref p) (upd H p o) := by
  subst e
  exact fun p hp => h p _ hp (same_upd hp) upd_same
theorem w_int1 {n : Int} {P : Int → Prop} {R : Prop} (h : P n) : (∃ i, [V.int n] = [.int i] ∧ P i) ∨ R := .inl ⟨n, rfl, h⟩
theorem w_int1b {b : Bool} {P : Bool → Prop} {R : Prop} (h : P b) : R ∨ ∃ k, [V.bl b] = [.bl k] ∧ P k := .inr ⟨b, rfl, h⟩
theorem w_lenL {K : PySem.W.Frag} {p : Addr} {xs : List V} {P : List V → Prop} (e : H p = some (.lst xs)) (h : P xs) : ∃ q ys, [V.ref p] = [.ref q] ∧ (SqL K H q ys ∨ SqT K H q ys) ∧ P ys := ⟨p, xs, rfl, .inl (.inl (.inl e)), h⟩
theorem w_lenT {K : PySem.W.Frag} {p : Addr} {xs : List V} {P : List V → Prop} (e : H p = some (.tup xs)) (h : P xs) : ∃ q ys, [V.ref p] = [.ref q] ∧ (SqL K H q ys ∨ SqT K H q ys) ∧ P ys := ⟨p, xs, rfl, .inr (.inl (.inl e)), h⟩
theorem w_one {R : Int → Prop} {n : Int} (h : R n) : ∃ i, [V.int n] = [.int i] ∧ R i := ⟨n, rfl, h⟩
theorem w_ixL {K : PySem.W.Frag} {p : Addr} {xs : List V} {n : Int} (e : H p = some (.lst xs)) (a : atI xs n = some v) (h : Q v H) : rIxL K (.ref p) (.int n) H Q := ⟨p, xs, n, v, rfl, rfl, .inl (.inl e), a, h⟩
theorem w_ixT {K : PySem.W.Frag} {p : Addr} {xs : List V} {n : Int} (e : H p = some (.tup xs)) (a : atI xs n = some v) (h : Q v H) : rIxT K (.ref p) (.int n) H Q := ⟨p, xs, n, v, rfl, rfl, .inl (.inl e), a, h⟩
theorem w_fld {K : PySem.W.Frag} {f : Str} (h : ta σ H fun x H1 => ∃ a C dx fs v, x = .ref a ∧ H1 a = some (.ins C dx fs) ∧ Cls K C ∧ NoAttr K C f ∧ fs.lookup f = some v ∧ Q v H1) : tFld K ta f σ H Q := h
theorem w_dget (h : ta σ H fun x H1 => tb σ H1 fun y H2 => ∃ a v, x = .ref a ∧ DGet H2 a y (some v) ∧ Q v H2) : tDGet ta tb σ H Q := h
theorem w_dg {d : Addr} {kvs : List (Key × V)} {z : Str} {P : V → Prop} (e : H d = some (.dK kvs)) (a : valV kvs (Sum.inr z) = some v) (h : P v) : ∃ a v, V.ref d = .ref a ∧ DGet H a (.str z) (some v) ∧ P v := ⟨d, v, rfl, a ▸ DGet.k (k := Sum.inr z) e, h⟩
theorem w_dput (h : tc σ H fun v H1 => ta σ H1 fun x H2 => tb σ H2 fun y H3 => ∃ a H4, x = .ref a ∧ DPut H3 a y v H4 ∧ D.nx σ H4) : sDPut ta tb tc D σ H := h
theorem w_dp {d : Addr} {kvs : List (Key × V)} {z : Str} {R : Hp → Prop} (e : H d = some (.dK kvs)) (l : kvs.length < sizeLine) (h : R (upd H d (.dK (putK kvs (Sum.inr z) v)))) : ∃ a H4, V.ref d = .ref a ∧ DPut H a (.str z) v H4 ∧ R H4 := ⟨d, _, rfl, DPut.k (k := Sum.inr z) e l, h⟩
theorem w_meth {C : Addr} {m : Str} {sp : Sp} {dvs : List V} {E : XK} (h : ta σ H fun x H1 => ∃ a dx fs, x = .ref a ∧ H1 a = some (.ins C dx fs) ∧ fs.lookup m = none ∧ tl σ H1 fun vs H2 => sp (x :: (vs ++ dvs)) H2 Q E) : tMeth C m sp dvs E ta tl σ H Q := h
theorem w_make {C : Addr} {sp : Sp} {dvs : List V} {E : XK} (h : ∀ Q' : VK, Q' = Q → tl σ H fun vs H1 => ∀ x dx, H1 x = none → H1 dx = none → dx ≠ x → sp (.ref x :: (vs ++ dvs)) (upd (upd H1 dx (.own x)) x (.ins C dx [])) (fun v H2 => v = .non ∧ Q' (.ref x) H2) E) : tMake C sp dvs E tl σ H Q := h Q rfl
theorem w_gtup {K : PySem.W.Frag} {n : Nat} {ts : TGs} {R : St → Hp → Prop} {a : Addr} {xs : List V} (e : H a = some (.tup xs)) (l : xs.length = n) (h : ts xs σ H R) : gTup K n ts (.ref a) σ H R := ⟨a, xs, rfl, .inl (.inl e), l, h⟩
theorem w_gcons {g : TG} {gs : TGs} {xs : List V} {R : St → Hp → Prop} (h : g v σ H fun σ' H' => gs xs σ' H' R) : gCons g gs (v :: xs) σ H R := ⟨v, xs, rfl, h⟩
theorem w_gnil {R : St → Hp → Prop} (h : R σ H) : gNil [] σ H R := ⟨rfl, h⟩
theorem w_ite {p A B : Prop} [Decidable p] (h1 : p → A) (h2 : ¬ p → B) : if decide p = true then A else B := by
  by_cases h : p
  · rw [decide_eq_true h]; exact iteT (h1 h)
  · rw [decide_eq_false h]; exact iteF (h2 h)
theorem w_iteN {p A B : Prop} [Decidable p] (h1 : ¬ p → A) (h2 : p → B) : if (!decide p) = true then A else B := by
  by_cases h : p
  · rw [decide_eq_true h]; exact iteF (h2 h)
  · rw [decide_eq_false h]; exact iteT (h1 h)
theorem w_iteB {b : Bool} {A B : Prop} (h1 : b = true → A) (h2 : b = false → B) : if b = true then A else B := by
  cases b with
  | true => exact iteT (h1 rfl)
  | false => exact iteF (h2 rfl)
end
/-! ### products of any size -/
def CMulA (i j : Int) : Prop := CMul i j ∨ CMulW i j
theorem CMulA.s1 {i j : Int} (h : -(2 ^ 64) < i) (h2 : i < 2 ^ 64) : CMulA i j := .inl (.inl ⟨h, h2⟩)
theorem CMulA.s2 {i j : Int} (h : -(2 ^ 64) < j) (h2 : j < 2 ^ 64) : CMulA i j := .inl (.inr ⟨h, h2⟩)
section
variable {X : Cx}
theorem op_mulA : OpR X (binaryOp .Mult) (rI CMulA fun i j => .int (i * j)) := by
  intro pins s σ H x y v u Q I rx ry h
  obtain ⟨i, j, ex, ey, hc, q⟩ := h
  rcases hc with hc | hc
  · exact op_mul pins s σ H x y v u Q I rx ry ⟨i, j, ex, ey, hc, q⟩
  · exact op_mulW pins s σ H x y v u Q I rx ry ⟨i, j, ex, ey, hc, q⟩
end
theorem V_int {i j : Int} : (V.int i = V.int j) = (i = j) := by simp
theorem V_str {i j : Str} : (V.str i = V.str j) = (i = j) := by simp
theorem V_bl {i j : Bool} : (V.bl i = V.bl j) = (i = j) := by simp
end DS
namespace DS
open PySem L2
theorem hu64_of {A : Around} {k : Nat} (hr : Room k A) : A.units + 64 < cLine := hr.units
theorem log_lt {m : Int} {a b : Nat} (h0 : 0 < m) (h : m < 2 ^ a) (hab : a ≤ b) : m.natAbs.log2 < b := by
  have h1 : m.natAbs < 2 ^ a := by
    have e : ((m.natAbs : Nat) : Int) = m := Int.natAbs_of_nonneg (by omega)
    have h2 : ((m.natAbs : Nat) : Int) < ((2 ^ a : Nat) : Int) := by
      rw [e]
      exact_mod_cast h
    exact Int.ofNat_lt.mp h2
  have ha : 0 < a := by
    rcases Nat.eq_zero_or_pos a with z | z
    · subst z
      have : m < 1 := h
      omega
    · exact z
  exact Nat.lt_of_lt_of_le (PySem.Flt.log2_lt_of ha h1) hab
end DS
namespace DS
open PySem L2
theorem dp_ints {K : PySem.W.Frag} {H : Hp} : ∀ ns : List Int, DpAll K H (ns.map V.int) (ns.map PyData.int)
  | [] => .nil
  | n :: r => .cons (.int n) (dp_ints r)
theorem lay_ints : ∀ ns : List Int, PyData.canLayAll0 (ns.map PyData.int) = true
  | [] => rfl
  | n :: r => by
    show (PyData.canLay0 (.int n) && PyData.canLayAll0 (r.map PyData.int)) = true
    rw [lay_ints r]
    rfl
theorem deep_ints : ∀ ns : List Int, PyData.depthAll (ns.map PyData.int) = 0
  | [] => rfl
  | n :: r => by
    show max (PyData.depth (.int n)) (PyData.depthAll (r.map PyData.int)) = 0
    rw [deep_ints r]
    rfl
theorem shaped_ints (ns : List Int) : SeqAt.shaped (.list (ns.map PyData.int)) = true := by
  show (PyData.canLayAll0 (ns.map PyData.int) && decide (PyData.depthAll (ns.map PyData.int) + 1 ≤ 64)) = true
  rw [lay_ints, deep_ints]
  rfl
theorem w_neNil {K : PySem.W.Frag} {H : Hp} {Q : VK} {p q : Addr} {ns : List Int} (hp : H p = some (.lst (ns.map V.int))) (hq : H q = some (.lst [])) (h : Q (.bl (!ns.isEmpty)) H) : rNeD K (.ref p) (.ref q) H Q := by
  refine ⟨.list (ns.map PyData.int), .list [], .lst (.inl (.inl hp)) (dp_ints ns), .lst (.inl (.inl hq)) .nil, shaped_ints ns, rfl, ?_⟩
  cases ns <;> exact h
theorem at_ints {ns : List Int} {i : Int} (h0 : 0 ≤ i) (h1 : i < ns.length) : ∃ z, atI (ns.map V.int) i = some (.int z) := by
  obtain ⟨j, rfl⟩ := Int.eq_ofNat_of_zero_le h0
  have hj : j < ns.length := by omega
  refine ⟨ns[j], atI_nat ?_⟩
  rw [List.getElem?_map, List.getElem?_eq_getElem hj]
  rfl
theorem at_any {xs : List V} {i : Int} (h0 : 0 ≤ i) (h1 : i < xs.length) : ∃ v, atI xs i = some v ∧ v ∈ xs := by
  obtain ⟨j, rfl⟩ := Int.eq_ofNat_of_zero_le h0
  have hj : j < xs.length := by omega
  exact ⟨xs[j], atI_nat (List.getElem?_eq_getElem hj), List.getElem_mem hj⟩
theorem iteFF {A B : Prop} (h : B) : if (false = true) then A else B := iteF h
end DS
namespace DS
open PySem L2
section
variable {σ : St} {H : Hp} {Q : VK} {D : Ends} {tb : TS} {g : TG} {c : TT} {wi : TI} {tl : TA}
theorem w_for (h : wi σ H fun J H1 => ∃ W : Nat → Nat → St → Hp → Prop, (∃ m, W 0 m σ H1) ∧ ∀ i m σ H, W i m σ H →
  (J.stop i H ∧ D.nx σ H) ∨ (J.go i H ∧ ∃ N : St → Hp → Prop, (∀ σ' H', N σ' H' → ∃ m', m' < m ∧ W (i + 1) m' σ' H') ∧ ∀ x H', J.yld i H x H' → g x σ H' fun σ2 H2 => tb { D with nx := N, ct := N, bk := D.nx } σ2 H2)) : tFor wi g tb D σ H := h
theorem w_irng1 {R : It → Hp → Prop} (h : tl σ H fun vs H1 => ∃ j : Int, vs = [.int j] ∧ -(2 ^ 62) ≤ j ∧ j < 2 ^ 62 ∧ R (Itr 0 j.toNat) H1) : iRng1 tl σ H R := h
theorem w_irng2 {R : It → Hp → Prop} (h : tl σ H fun vs H1 => ∃ i j : Int, vs = [.int i, .int j] ∧ (-(2 ^ 62) ≤ i ∧ i < 2 ^ 62 ∧ -(2 ^ 62) ≤ j ∧ j < 2 ^ 62) ∧ R (Itr i (j - i).toNat) H1) : iRng2 tl σ H R := h
theorem w_rng1 {j : Int} {P : Int → Prop} (h0 : -(2 ^ 62) ≤ j) (h1 : j < 2 ^ 62) (h : P j) : ∃ j' : Int, [V.int j] = [.int j'] ∧ -(2 ^ 62) ≤ j' ∧ j' < 2 ^ 62 ∧ P j' := ⟨j, rfl, h0, h1, h⟩
theorem w_rng2 {i j : Int} {P : Int → Int → Prop} (h0 : -(2 ^ 62) ≤ i ∧ i < 2 ^ 62 ∧ -(2 ^ 62) ≤ j ∧ j < 2 ^ 62) (h : P i j) : ∃ i' j' : Int, [V.int i, V.int j] = [.int i', .int j'] ∧ (-(2 ^ 62) ≤ i' ∧ i' < 2 ^ 62 ∧ -(2 ^ 62) ≤ j' ∧ j' < 2 ^ 62) ∧ P i' j' := ⟨i, j, rfl, h0, h⟩
/-- a while whose test is evaluated by a rule of one's own at each turn -/
theorem w_while (h : ∃ W : Nat → St → Hp → Prop, (∃ m, W m σ H) ∧ ∀ m σ H, W m σ H → c σ H fun b H1 => if b = true then ∃ N : St → Hp → Prop, (∀ σ' H', N σ' H' → ∃ m', m' < m ∧ W m' σ' H') ∧ tb { D with nx := N, ct := N, bk := D.nx } σ H1 else D.nx σ H1) : tWhile c tb D σ H := h
end
theorem pow_wide {a : Int} {n m : Nat} (h : a.natAbs < 2 ^ n) (hm : n ≤ m) : a.natAbs < 2 ^ m := Nat.lt_of_lt_of_le h (Nat.pow_le_pow_right (by decide) hm)
theorem CMulA.w {i j : Int} {a b : Nat} (ha : i.natAbs < 2 ^ a) (hb : j.natAbs < 2 ^ b) (h : a + b ≤ 999998) : CMulA i j :=
  .inr (wide_mul (a := a + 1) (b := b + 1) (pow_wide ha (by omega)) (pow_wide hb (by omega)) (by omega) (by omega) (by omega))
theorem ten_lt (n : Nat) : ((10 : Int) ^ n).natAbs < 2 ^ (4 * n + 1) := by
  rw [Int.natAbs_pow]
  show 10 ^ n < _
  have h : 10 ^ n ≤ 16 ^ n := Nat.pow_le_pow_left (by decide) n
  have e : (2 : Nat) ^ (4 * n + 1) = 16 ^ n * 2 := by rw [Nat.pow_succ, Nat.pow_mul]
  have p : 0 < 16 ^ n := Nat.pow_pos (by decide)
  omega
end DS
namespace DS
open PySem L2
section
variable {σ : St} {H : Hp} {Q : VK} {D : Ends} {tk tv te : TE} {trs : List (TE × TE)} {tl th : TO}
theorem w_disp (h : ∀ Q' : VK, Q' = Q → ∀ p H1, H p = none → Same H H1 → H1 p = some (.dK []) → tPairs trs σ H1 fun ps H2 => H2 p = some (.dK []) ∧ ∃ kvs : List (Key × V), ps = kvs.map (fun kv => (kV kv.1, kv.2)) ∧ kvs.length ≤ 15 ∧ Q' (.ref p) (upd H2 p (.dK (mergeK [] kvs)))) : tDisp trs σ H Q :=
  fun p hp => h Q rfl p _ hp (same_upd hp) upd_same
theorem w_pnil {R : List (V × V) → Hp → Prop} (h : R [] H) : tPairs [] σ H R := h
theorem w_pcons {R : List (V × V) → Hp → Prop} (h : tk σ H fun x H1 => tv σ H1 fun y H2 => tPairs trs σ H2 fun ps H3 => R ((x, y) :: ps) H3) : tPairs ((tk, tv) :: trs) σ H R := h
theorem w_dend {Q' : VK} {p : Addr} {ps : List (V × V)} (kvs : List (Key × V)) (e : Q' = Q) (h0 : H p = some (.dK [])) (e2 : ps = kvs.map (fun kv => (kV kv.1, kv.2))) (l : kvs.length ≤ 15)
    (h : ∀ H', Keep H H' → (∀ H0, Same H0 H → H0 p = none → Same H0 H') → H' p = some (.dK (mergeK [] kvs)) → Q (.ref p) H') :
    H p = some (.dK []) ∧ ∃ kvs : List (Key × V), ps = kvs.map (fun kv => (kV kv.1, kv.2)) ∧ kvs.length ≤ 15 ∧ Q' (.ref p) (upd H p (.dK (mergeK [] kvs))) := by
  subst e
  refine ⟨h0, kvs, e2, l, h _ (keep_dict h0) (fun H0 s n b o z => ?_) upd_same⟩
  rw [upd_ne (ne_of_none z n)]
  exact s b o z
theorem w_sl {r : V → Option Int → Option Int → Hp → VK → Prop} (h : te σ H fun x H1 => tl σ H1 fun l H2 => th σ H2 fun u H3 => r x l u H3 Q) : tSl r te tl th σ H Q := h
theorem w_nopart {R : Option Int → Hp → Prop} (h : R none H) : tNoPart σ H R := h
end
theorem w_list {K : PySem.W.Frag} {H : Hp} {p : Addr} {xs : List V} {P : List V → Prop} (e : SqL K H p xs ∨ SqT K H p xs) (h : P xs) : ∃ q ys, [V.ref p] = [.ref q] ∧ (SqL K H q ys ∨ SqT K H q ys) ∧ P ys := ⟨p, xs, rfl, e, h⟩
end DS
namespace DS
open PySem L2
theorem w_part {σ : St} {H : Hp} {te : TE} {R : Option Int → Hp → Prop} (h : te σ H fun x H1 => ∃ i, x = .int i ∧ R (some i) H1) : tPart te σ H R := h
theorem w_i {n : Int} {P : Int → Prop} (h : P n) : ∃ i, V.int n = .int i ∧ P i := ⟨n, rfl, h⟩
theorem w_slL {K : PySem.W.Frag} {H : Hp} {Q : VK} {p : Addr} {xs : List V} {lo hi : Option Int} (e : SqL K H p xs) (h : ∀ q H', H q = none → Same H H' → H' q = some (.lst (cutV xs lo hi)) → Q (.ref q) H') : rSlL K (.ref p) lo hi H Q :=
  ⟨p, xs, rfl, e, fun q hq => h q _ hq (same_upd hq) upd_same⟩
theorem w_listof {K : PySem.W.Frag} {H : Hp} {Q : VK} {p : Addr} {xs : List V} (e : SqL K H p xs ∨ SqT K H p xs) (h : ∀ q H', H q = none → Same H H' → H' q = some (.lst xs) → Q (.ref q) H') : ∃ p' ys, [V.ref p] = [.ref p'] ∧ (SqL K H p' ys ∨ SqT K H p' ys) ∧ ∀ l, H l = none → Q (.ref l) (upd H l (.lst ys)) :=
  ⟨p, xs, rfl, e, fun q hq => h q _ hq (same_upd hq) upd_same⟩
theorem cut_ints (ns : List Int) (lo hi : Option Int) : ∃ ms : List Int, cutV (ns.map V.int) lo hi = ms.map V.int ∧ ms.length ≤ ns.length := by
  unfold cutV
  refine ⟨(ns.drop (HT.sIx ns.length 0 lo)).take (HT.sIx ns.length ns.length hi - HT.sIx ns.length 0 lo), ?_, ?_⟩
  · rw [List.length_map, List.map_take, List.map_drop]
  · rw [List.length_take, List.length_drop]
    omega
end DS
namespace DS
open PySem L2 PyProof.Rows
/-- o.f = .. as a target -/
def gFld (K : PySem.W.Frag) (to : TE) (f : Str) : TG := fun v σ H Q => to σ H fun x H1 => ∃ a C dx fs, x = .ref a ∧ H1 a = some (.ins C dx fs) ∧ Cls K C ∧ NoAttr K C f ∧ fs.length < 1000 ∧ Q σ (upd H1 a (.ins C dx (putF f v fs)))
theorem pg_attr {X : Cx} {o : Expr} {f : Str} {pos : Pos} {to : TE} (ho : PE X o to)
    (ha : ∀ v, assign (.Attribute o f pos) X.env v = (do
      let ov ← holding [v] (eval o X.env)
      standAt pos.atName
      holding [v, ov] (setAttr ov f v)
      release [v, ov] []) := by intro _; rfl) : PG X (.Attribute o f pos) (gFld X.K to f) := by
  refine ⟨fun pins s σ H v u Q I r h => ?_⟩
  rw [ha]
  refine wpAny_bind (wpAny_holding (thn (ho.run pins s σ H _ I h) fun ov s1 ⟨x, H1, I1, r1, a, C, dx, fs, ex, ea, c, n, l, q1⟩ => ?_))
  subst ex
  obtain rfl : ov = Value.ref a := r1
  refine wpAny_bind (wpAny_standAt (wpAny_bind (wpAny_holding (setattr_ok I1 ea c n l r fun s3 I3 => ?_))))
  exact wpAny_release ⟨σ, _, I3, q1⟩
theorem w_gfld {K : PySem.W.Frag} {to : TE} {f : Str} {v : V} {σ : L2.St} {H : Hp} {Q : L2.St → Hp → Prop} (h : to σ H fun x H1 => ∃ a C dx fs, x = .ref a ∧ H1 a = some (.ins C dx fs) ∧ Cls K C ∧ NoAttr K C f ∧ fs.length < 1000 ∧ Q σ (upd H1 a (.ins C dx (putF f v fs)))) : gFld K to f v σ H Q := h
theorem w_sfld {K : PySem.W.Frag} {ta tv : TE} {f : Str} {D : Ends} {σ : L2.St} {H : Hp} (h : tv σ H fun y H1 => ta σ H1 fun x H2 => ∃ a C dx fs, x = .ref a ∧ H2 a = some (.ins C dx fs) ∧ Cls K C ∧ NoAttr K C f ∧ fs.length < 1000 ∧ D.nx σ (upd H2 a (.ins C dx (putF f y fs)))) : sFld K ta tv f D σ H := h
theorem w_isiB {K : PySem.W.Frag} {H : Hp} {x : V} {a b : String} {r : Bool} {P : Bool → Prop} (ty : TyX K H x (.type a)) (k : kitB a b = some r) (h : P r) :
    ∃ (x' c : V) (t u : Value) (b' : Bool), [x, V.ty b] = [x', c] ∧ ClsV c u ∧ TyX K H x' t ∧ PySem.W.kitOne K t u = some b' ∧ P b' := ⟨x, .ty b, _, _, r, rfl, .ty b, ty, kit_ty k, h⟩
theorem w_isi {K : PySem.W.Frag} {H : Hp} {x c : V} {t u : Value} {r : Bool} {P : Bool → Prop} (cl : ClsV c u) (ty : TyX K H x t) (k : PySem.W.kitOne K t u = some r) (h : P r) :
    ∃ (x' c' : V) (t u : Value) (b' : Bool), [x, c] = [x', c'] ∧ ClsV c' u ∧ TyX K H x' t ∧ PySem.W.kitOne K t u = some b' ∧ P b' := ⟨x, c, t, u, r, rfl, cl, ty, k, h⟩
theorem w_risi {K : PySem.W.Frag} {H : Hp} {Q : VK} {xs : List V} (h : ∃ (x c : V) (t u : Value) (b : Bool), xs = [x, c] ∧ ClsV c u ∧ TyX K H x t ∧ PySem.W.kitOne K t u = some b ∧ Q (.bl b) H) : rIsi K xs H Q := h
/-- is a value of the kind T -/
def IsI (K : PySem.W.Frag) (H : Hp) (v : V) (T : String) (r : Bool) : Prop := ∃ t, TyX K H v t ∧ PySem.W.kitOne K t (.type T) = some r
theorem w_isI {K : PySem.W.Frag} {H : Hp} {x : V} {b : String} {r : Bool} {P : Bool → Prop} (i : IsI K H x b r) (h : P r) :
    ∃ (x' c : V) (t u : Value) (b' : Bool), [x, V.ty b] = [x', c] ∧ ClsV c u ∧ TyX K H x' t ∧ PySem.W.kitOne K t u = some b' ∧ P b' := by
  obtain ⟨t, ty, k⟩ := i
  exact ⟨x, .ty b, t, _, r, rfl, .ty b, ty, k, h⟩
def IntLike (K : PySem.W.Frag) (H : Hp) (v : V) (b : Bool) : Prop := ∃ r1 r2, IsI K H v "int" r1 ∧ IsI K H v "bool" r2 ∧ b = (r1 && !r2)
theorem intLike_int {K : PySem.W.Frag} {H : Hp} {n : Int} : IntLike K H (.int n) true :=
  ⟨true, false, ⟨_, .base (.int n), kit_ty (by decide +kernel)⟩, ⟨_, .base (.int n), kit_ty (by decide +kernel)⟩, rfl⟩
end DS
namespace DS
open PySem L2
/-- a worth's own form -/
def nrm : Int → Nat → Int × Nat
  | u, 0 => (u, 0)
  | u, s + 1 => if u % 10 = 0 then nrm (u / 10) s else (u, s + 1)
theorem nrm_zero : ∀ s : Nat, nrm 0 s = (0, 0)
  | 0 => rfl
  | s + 1 => by
    show (if (0 : Int) % 10 = 0 then nrm (0 / 10) s else (0, s + 1)) = (0, 0)
    rw [if_pos (by decide)]
    exact nrm_zero s
theorem nrm_pos {u : Int} {s : Nat} (h : u % 10 = 0) : nrm u (s + 1) = nrm (u / 10) s := by
  show (if u % 10 = 0 then nrm (u / 10) s else (u, s + 1)) = _
  rw [if_pos h]
theorem nrm_neg {u : Int} {s : Nat} (h : ¬ u % 10 = 0) : nrm u s = (u, s) := by
  cases s with
  | zero => rfl
  | succ s =>
    show (if u % 10 = 0 then nrm (u / 10) s else (u, s + 1)) = _
    rw [if_neg h]
def wf (u : Int) (s : Nat) : List (Str × V) := [("units", .int (nrm u s).1), ("scale", .int ((nrm u s).2 : Int))]
theorem wf_units (u : Int) (s : Nat) : (wf u s).lookup ("units" : Str) = some (.int (nrm u s).1) := by
  unfold wf
  simp
theorem us_ne : ¬ (("scale" : Str) = "units") := by decide +kernel
theorem su_ne : ¬ (("units" : Str) = "scale") := by decide +kernel
theorem wf_scale (u : Int) (s : Nat) : (wf u s).lookup ("scale" : Str) = some (.int ((nrm u s).2 : Int)) := by
  unfold wf
  rw [List.lookup_cons, beq_eq_false_iff_ne.mpr us_ne]
  simp
theorem wf_put (a b : Int) : putF "scale" (.int b) (putF "units" (.int a) []) = ([("units", .int a), ("scale", .int b)] : List (Str × V)) := by
  show (if ("units" : Str) = "scale" then [(("units" : Str), V.int b)] else (("units" : Str), V.int a) :: putF "scale" (V.int b) []) = _
  rw [if_neg su_ne]
  rfl
def WAt (C : Addr) (H : Hp) (p : Addr) (u : Int) (s : Nat) : Prop := ∃ dx, H p = some (.ins C dx (wf u s))
theorem WAt.same {C : Addr} {H H' : Hp} {p : Addr} {u : Int} {s : Nat} (e : Same H H') (h : WAt C H p u s) : WAt C H' p u s := by
  obtain ⟨dx, h⟩ := h
  exact ⟨dx, e _ _ h⟩
theorem WAt.keep {C : Addr} {H H' : Hp} {p : Addr} {u : Int} {s : Nat} (e : Keep H H') (h : WAt C H p u s) : WAt C H' p u s := by
  obtain ⟨dx, h⟩ := h
  exact ⟨dx, e _ _ h rfl⟩
/-- __init__ of a worth -/
def sp_winit (C : Addr) : Sp := fun vs H Q _ => ∃ (p dx : Addr) (u : Int) (s : Nat), vs = [.ref p, .int u, .int s] ∧ H p = some (.ins C dx []) ∧
  ∀ H', H' p = some (.ins C dx (wf u s)) → (∀ b o, b ≠ p → H b = some o → H' b = some o) → Q .non H'
theorem make_worth {C : Addr} {H : Hp} {Q Q' : VK} {E : XK} {u : Int} {s : Nat} (e : Q' = Q) (h : ∀ x H', H x = none → Same H H' → WAt C H' x u s → Q (.ref x) H') :
    ∀ x dx, H x = none → H dx = none → dx ≠ x → sp_winit C (.ref x :: ([.int u, .int (s : Int)] ++ [])) (upd (upd H dx (.own x)) x (.ins C dx [])) (fun v H2 => v = .non ∧ Q' (.ref x) H2) E := by
  subst e
  intro x dx nx nd ne
  refine ⟨x, dx, u, s, rfl, upd_same, fun H' e k => ⟨rfl, h x H' nx (fun b o z => ?_) ⟨dx, e⟩⟩⟩
  have n1 : b ≠ x := ne_of_none z nx
  refine k b o n1 ?_
  rw [upd_ne n1, upd_ne (ne_of_none z nd)]
  exact z
theorem w_flds {K : PySem.W.Frag} {H : Hp} {p C dx : Addr} {fs : List (Str × V)} {f : Str} {v : V} {P : V → Prop} (e : H p = some (.ins C dx fs)) (cl : Cls K C) (n : NoAttr K C f) (l : fs.lookup f = some v) (h : P v) :
    ∃ a C dx fs v, V.ref p = .ref a ∧ H a = some (.ins C dx fs) ∧ Cls K C ∧ NoAttr K C f ∧ fs.lookup f = some v ∧ P v := ⟨p, C, dx, fs, v, rfl, e, cl, n, l, h⟩
end DS
namespace DS
open PySem L2 PyProof.Rows
/-- d.get(y, z), d a written dict -/
def tKGet2 (K : PySem.W.Frag) (d : Addr) (td ty tx : TE) : TE := fun σ H Q => td σ H fun x H1 => x = .ref d ∧ ty σ H1 fun y H2 => tx σ H2 fun z H3 => ∃ (k : Str) (r : Option Value), y = .str k ∧ PySem.W.nsIn K d k = some r ∧
  ((r = none ∧ Q z H3) ∨ ∃ u0 v0, r = some u0 ∧ RelV v0 u0 ∧ Q v0 H3)
theorem pe_kget2 {X : Cx} {d : Addr} {es : Array DictEntry} {n : Nat} {o e f : Expr} {apos cpos : Pos} {td ty tx : TE} (D : KDict X.K X.w d es n) (ho : PE X o td) (he : PE X e ty) (hf : PE X f tx) (m : M2 X o "get" apos e f cpos) :
    PE X (.Call (.Attribute o "get" apos) [e, f] [] cpos) (tKGet2 X.K d td ty tx) := by
  refine ⟨fun pins s σ H Q I h => ?_⟩
  refine wpAny_Call_method m.base m.few m.line PySem.F.plainAttrs_dict PySem.F.slot_dict_get PySem.F.type_dict_get (thn (ho.run pins s σ H _ I h) fun u s1 ⟨x, H1, I1, rx, ex, q1⟩ => ?_)
  subst ex
  obtain rfl : u = Value.ref d := rx
  refine ⟨kd_type D I1, fun b q => ?_, ?_⟩
  · cases q
    exact ⟨_, I1.kIn _ _ D.at_, rfl⟩
  rw [m.trees]
  refine Calls.callWith_builtin rfl (Calls.evalArgs_plain (Calls.spliced_cons (thn (he.run pins s1 σ H1 _ I1 q1) fun iv s2 ⟨y, H2, I2, ry, q2⟩ =>
    Calls.spliced_cons (thn (hf.run pins s2 σ H2 _ I2 q2) fun fv s3 ⟨z, H3, I3, rz, k, r, ey, g, q3⟩ => Calls.spliced_nil ?_))))
  subst ey
  obtain ⟨t, rfl⟩ := (show ∃ t, iv = Value.str k t from ry)
  have hm := PySem.W.mapOf_K (prog := X.prog) (w := X.w) I3.kIn D.at_ D.lit
  refine call_meetsIn PySem.F.slot_dict_get hm.typeIs PySem.F.entry_dict_get (PySem.F.args_dict_get_3 _ _ _) (meets_dict_get_default (strKind X.prog X.w) d (PySem.strKind_is X.prog X.w k t) D.low fv) ⟨_, hm, ?_⟩
  rw [PySem.W.find_K D.at_ g]
  rcases q3 with ⟨er, q3⟩ | ⟨u0, v0, er, r0, q3⟩
  · subst er
    exact ⟨z, H3, I3.tok _, rz, q3⟩
  · subst er
    exact ⟨v0, H3, I3.tok _, r0, q3⟩
end DS
namespace DS
open PySem L2 PyProof.Rows
/-- -x by the own __neg__ -/
def rNegOwn (C : Addr) (sp : Sp) (E : XK) : V → Hp → VK → Prop := fun x H Q => ∃ a dx fs, x = .ref a ∧ H a = some (.ins C dx fs) ∧ sp [.ref a] H Q E
theorem un_negOwn {X : Cx} {CX : CXT} {k : Nat} {f C : Addr} {fd : FuncData} {ps : List Str} {sp : Sp} {E : XK} (hm : Meth X.K C "__neg__" f) (F : FnOk X.prog X.w X.K X.mg X.base CX k f fd ps sp) (hr : Room k X.A) (hb : Binds X.K fd ps []) (hx : Passes CX X E) :
    UnR X (unaryOp .USub) (rNegOwn C sp E) := by
  intro pins s σ H x u Q I rx h
  obtain ⟨a, dx, fs, rfl, ea, q⟩ := h
  obtain rfl : u = Value.ref a := rx
  obtain ⟨mA, O, _⟩ := ins_get I.hok ea
  obtain ⟨od, J, _⟩ := O.look
  unfold unaryOp
  refine wpAny_holding ?_
  exact wpAny_bind (PySem.W.special_fn I.kIn J hm.at_ (beq_iff_eq.mp hm.fn) (wpAny_mono (run_fn (us := [.ref a]) (vs := [.ref a]) (dvs := []) (ds := []) F hr hb .nil hx I (.cons rfl .nil) q) (fun _ _ z => wpAny_pure z) fun _ _ z => z))
end DS
namespace DS
open PySem L2
/-- a loop over a tuple turn by turn -/
def unrollT (K : PySem.W.Frag) (a : Addr) (all : List V) (g : TG) (tb : TS) (D : Ends) : List V → St → Hp → Prop
  | [], σ, H => D.nx σ H
  | x :: xs, σ, H => g x σ H fun σ2 H2 => tb { D with nx := fun σ' H' => SqT K H' a all ∧ unrollT K a all g tb D xs σ' H', ct := fun σ' H' => SqT K H' a all ∧ unrollT K a all g tb D xs σ' H', bk := D.nx } σ2 H2
def unrollL (K : PySem.W.Frag) (a : Addr) (all : List V) (g : TG) (tb : TS) (D : Ends) : List V → St → Hp → Prop
  | [], σ, H => D.nx σ H
  | x :: xs, σ, H => g x σ H fun σ2 H2 => tb { D with nx := fun σ' H' => SqL K H' a all ∧ unrollL K a all g tb D xs σ' H', ct := fun σ' H' => SqL K H' a all ∧ unrollL K a all g tb D xs σ' H', bk := D.nx } σ2 H2
section
variable {K : PySem.W.Frag} {a : Addr} {all : List V} {g : TG} {tb : TS} {D : Ends} {σ : St} {H : Hp}
theorem w_unT0 (h : D.nx σ H) : unrollT K a all g tb D [] σ H := h
theorem w_unT {x : V} {xs : List V} (h : g x σ H fun σ2 H2 => tb { D with nx := fun σ' H' => SqT K H' a all ∧ unrollT K a all g tb D xs σ' H', ct := fun σ' H' => SqT K H' a all ∧ unrollT K a all g tb D xs σ' H', bk := D.nx } σ2 H2) : unrollT K a all g tb D (x :: xs) σ H := h
theorem w_unL0 (h : D.nx σ H) : unrollL K a all g tb D [] σ H := h
theorem w_unL {x : V} {xs : List V} (h : g x σ H fun σ2 H2 => tb { D with nx := fun σ' H' => SqL K H' a all ∧ unrollL K a all g tb D xs σ' H', ct := fun σ' H' => SqL K H' a all ∧ unrollL K a all g tb D xs σ' H', bk := D.nx } σ2 H2) : unrollL K a all g tb D (x :: xs) σ H := h
theorem for_unT (h : SqT K H a all) (hu : unrollT K a all g tb D all σ H) :
    ∃ W : Nat → Nat → St → Hp → Prop, (∃ m, W 0 m σ H) ∧ ∀ i m σ H, W i m σ H →
      ((Itt K a).stop i H ∧ D.nx σ H) ∨ ((Itt K a).go i H ∧ ∃ N : St → Hp → Prop, (∀ σ' H', N σ' H' → ∃ m', m' < m ∧ W (i + 1) m' σ' H') ∧ ∀ x H', (Itt K a).yld i H x H' → g x σ H' fun σ2 H2 => tb { D with nx := N, ct := N, bk := D.nx } σ2 H2) := by
  refine ⟨fun i m σ H => m + i = all.length ∧ SqT K H a all ∧ unrollT K a all g tb D (all.drop i) σ H, ⟨all.length, rfl, h, hu⟩, ?_⟩
  rintro i m σ H ⟨hm, hs, hu⟩
  by_cases hi : i < all.length
  · rw [List.drop_eq_getElem_cons hi] at hu
    refine .inr ⟨⟨all, all[i], hs, by simp [hi]⟩, fun σ' H' => SqT K H' a all ∧ unrollT K a all g tb D (all.drop (i + 1)) σ' H', fun σ' H' q => ⟨m - 1, by omega, by omega, q.1, q.2⟩, fun x H' y => ?_⟩
    obtain ⟨e, y⟩ := y
    subst e
    have ex : all[i] = x := by
      have := y all hs
      rw [List.getElem?_eq_getElem hi] at this
      exact Option.some.inj this
    rw [← ex]
    exact hu
  · have e : all.drop i = [] := List.drop_eq_nil_of_le (by omega)
    rw [e] at hu
    exact .inl ⟨⟨all, hs, by omega⟩, hu⟩
theorem for_unL (h : SqL K H a all) (hu : unrollL K a all g tb D all σ H) :
    ∃ W : Nat → Nat → St → Hp → Prop, (∃ m, W 0 m σ H) ∧ ∀ i m σ H, W i m σ H →
      ((Itl K a).stop i H ∧ D.nx σ H) ∨ ((Itl K a).go i H ∧ ∃ N : St → Hp → Prop, (∀ σ' H', N σ' H' → ∃ m', m' < m ∧ W (i + 1) m' σ' H') ∧ ∀ x H', (Itl K a).yld i H x H' → g x σ H' fun σ2 H2 => tb { D with nx := N, ct := N, bk := D.nx } σ2 H2) := by
  refine ⟨fun i m σ H => m + i = all.length ∧ SqL K H a all ∧ unrollL K a all g tb D (all.drop i) σ H, ⟨all.length, rfl, h, hu⟩, ?_⟩
  rintro i m σ H ⟨hm, hs, hu⟩
  by_cases hi : i < all.length
  · rw [List.drop_eq_getElem_cons hi] at hu
    refine .inr ⟨⟨all, all[i], hs, by simp [hi]⟩, fun σ' H' => SqL K H' a all ∧ unrollL K a all g tb D (all.drop (i + 1)) σ' H', fun σ' H' q => ⟨m - 1, by omega, by omega, q.1, q.2⟩, fun x H' y => ?_⟩
    obtain ⟨e, y⟩ := y
    subst e
    have ex : all[i] = x := by
      have := y all hs
      rw [List.getElem?_eq_getElem hi] at this
      exact Option.some.inj this
    rw [← ex]
    exact hu
  · have e : all.drop i = [] := List.drop_eq_nil_of_le (by omega)
    rw [e] at hu
    exact .inl ⟨⟨all, hs, by omega⟩, hu⟩
theorem w_iTup {tl : TE} {R : It → Hp → Prop} (h : tl σ H fun x H1 => ∃ a, x = .ref a ∧ (∃ xs, SqT K H1 a xs) ∧ R (Itt K a) H1) : iTup K tl σ H R := h
theorem w_iList {tl : TE} {R : It → Hp → Prop} (h : tl σ H fun x H1 => ∃ a, x = .ref a ∧ (∃ xs, SqL K H1 a xs) ∧ R (Itl K a) H1) : iList K tl σ H R := h
end
theorem bits_le {i : Int} {n : Nat} (h : i.natAbs < 2 ^ n) (hn : 0 < n) : Builtin.Int.intBits i ≤ n := by
  unfold Builtin.Int.intBits
  have := PySem.Flt.log2_lt_of hn h
  split <;> omega
theorem divp_of {i j : Int} (hj : 0 < j) (h : i.natAbs < 2 ^ 4000) : CDivP i j := divp_ok hj (Nat.le_trans (bits_le h (by decide)) (Nat.le_add_left _ _))
theorem in_strs {x : Str} {l : List Str} (h : x ∈ l) : inV (.str x) (l.map V.str) = true := by
  unfold inV
  rw [List.any_eq_true]
  exact ⟨.str x, List.mem_map.mpr ⟨x, h, rfl⟩, by simp [eqV]⟩
theorem flat_strs (l : List Str) : (l.map V.str).all flatV = true := by
  rw [List.all_eq_true]
  intro v hv
  obtain ⟨x, _, rfl⟩ := List.mem_map.mp hv
  rfl
end DS
namespace DS
open PySem L2
theorem nrm_idem : ∀ (s : Nat) (u : Int), nrm (nrm u s).1 (nrm u s).2 = nrm u s
  | 0, u => rfl
  | s + 1, u => by
    by_cases h : u % 10 = 0
    · rw [nrm_pos h]
      exact nrm_idem s (u / 10)
    · rw [nrm_neg h]
      exact nrm_neg h
theorem nrm_minus : ∀ (s : Nat) (u : Int), nrm (-u) s = (-(nrm u s).1, (nrm u s).2)
  | 0, u => rfl
  | s + 1, u => by
    by_cases h : u % 10 = 0
    · have h2 : (-u) % 10 = 0 := by omega
      have h3 : (-u) / 10 = -(u / 10) := by omega
      rw [nrm_pos h, nrm_pos h2, h3]
      exact nrm_minus s (u / 10)
    · have h2 : ¬ (-u) % 10 = 0 := by omega
      rw [nrm_neg h, nrm_neg h2]
theorem nrm_le : ∀ (s : Nat) (u : Int), (nrm u s).2 ≤ s
  | 0, u => Nat.le_refl _
  | s + 1, u => by
    by_cases h : u % 10 = 0
    · rw [nrm_pos h]
      exact Nat.le_succ_of_le (nrm_le s (u / 10))
    · rw [nrm_neg h]
      exact Nat.le_refl _
theorem nrm_val : ∀ (s : Nat) (u : Int), u = (nrm u s).1 * 10 ^ (s - (nrm u s).2)
  | 0, u => by
    show u = u * 10 ^ (0 - 0)
    rw [Nat.sub_self, Int.pow_zero, Int.mul_one]
  | s + 1, u => by
    by_cases h : u % 10 = 0
    · rw [nrm_pos h]
      have l := nrm_le s (u / 10)
      have e := nrm_val s (u / 10)
      rw [Nat.succ_sub l, Int.pow_succ, ← Int.mul_assoc, ← e]
      omega
    · rw [nrm_neg h, Nat.sub_self, Int.pow_zero, Int.mul_one]
theorem nrm_last : ∀ (s : Nat) (u : Int), (nrm u s).2 = 0 ∨ ¬ (nrm u s).1 % 10 = 0
  | 0, u => .inl rfl
  | s + 1, u => by
    by_cases h : u % 10 = 0
    · rw [nrm_pos h]
      exact nrm_last s (u / 10)
    · rw [nrm_neg h]
      exact .inr h
theorem nrm_abs : ∀ (s : Nat) (u : Int), (nrm u s).1.natAbs ≤ u.natAbs
  | 0, u => Nat.le_refl _
  | s + 1, u => by
    by_cases h : u % 10 = 0
    · rw [nrm_pos h]
      have := nrm_abs s (u / 10)
      omega
    · rw [nrm_neg h]
      exact Nat.le_refl _
theorem nrm_mul : ∀ (k s : Nat) (u : Int), nrm (u * 10 ^ k) (s + k) = nrm u s
  | 0, s, u => by rw [Int.pow_zero, Int.mul_one]; rfl
  | k + 1, s, u => by
    have e : u * 10 ^ (k + 1) = u * 10 ^ k * 10 := by rw [Int.pow_succ, Int.mul_assoc]
    rw [e]
    have h : (u * 10 ^ k * 10) % 10 = 0 := by omega
    have h2 : (u * 10 ^ k * 10) / 10 = u * 10 ^ k := by omega
    show nrm (u * 10 ^ k * 10) ((s + k) + 1) = nrm u s
    rw [nrm_pos h, h2]
    exact nrm_mul k s u
theorem wf_nrm (u : Int) (s : Nat) : wf (nrm u s).1 (nrm u s).2 = wf u s := by unfold wf; rw [nrm_idem]
theorem wf_minus (u : Int) (s : Nat) : wf (-(nrm u s).1) (nrm u s).2 = wf (-u) s := by unfold wf; rw [nrm_minus, nrm_minus, nrm_idem]
theorem w_eqT2 {K : PySem.W.Frag} {H : Hp} {Q : VK} {p q : Addr} {a b c d : Int} (hp : H p = some (.tup [.int a, .int b])) (hq : H q = some (.tup [.int c, .int d])) (h : Q (.bl (a == c && (b == d && true))) H) : rEqD K (.ref p) (.ref q) H Q :=
  ⟨.tuple [.int a, .int b], .tuple [.int c, .int d], .tup (.inl (.inl hp)) (.cons (.int _) (.cons (.int _) .nil)), .tup (.inl (.inl hq)) (.cons (.int _) (.cons (.int _) .nil)), rfl, rfl, h⟩
def R_W (C : Addr) (a b : Addr) (H : Hp) : Prop := ∃ u s u' s', WAt C H a u s ∧ WAt C H b u' s' ∧ nrm u s = nrm u' s'
theorem R_W.mon {C : Addr} : ∀ a b H H', Ext H H' → R_W C a b H → R_W C a b H' := fun a b H H' e ⟨u, s, u', s', h1, h2, h3⟩ => ⟨u, s, u', s', h1.same e, h2.same e, h3⟩
end DS
namespace DS
open PySem L2
theorem wf_no (u : Int) (s : Nat) {m : Str} (h1 : ¬ m = "units") (h2 : ¬ m = "scale") : (wf u s).lookup m = none := by
  unfold wf
  rw [List.lookup_cons, beq_eq_false_iff_ne.mpr h1, List.lookup_cons, beq_eq_false_iff_ne.mpr h2]
  rfl
end DS
namespace DS
open PySem L2
theorem inV_strs (x : Str) : ∀ l : List Str, inV (.str x) (l.map V.str) = decide (x ∈ l)
  | [] => rfl
  | y :: r => by
    show (eqV (.str y) (.str x) || inV (.str x) (r.map V.str)) = decide (x ∈ y :: r)
    rw [inV_strs x r]
    show ((y == x) || decide (x ∈ r)) = decide (x ∈ y :: r)
    by_cases h : x = y
    · subst h
      simp
    · have h2 : ¬ y = x := fun e => h e.symm
      simp [h, h2]
theorem w_inL {K : PySem.W.Frag} {H : Hp} {Q : VK} {p : Addr} {x : Str} {l : List Str} (e : H p = some (.lst (l.map V.str))) (h : Q (.bl (decide (x ∈ l))) H) : rIn K false (.str x) (.ref p) H Q := by
  refine ⟨p, l.map V.str, rfl, .inl (.inl (.inl e)), rfl, flat_strs l, ?_⟩
  rw [if_neg Bool.false_ne_true, inV_strs]
  exact h
theorem ediv_abs (n d : Int) : (n / d).natAbs ≤ n.natAbs := Int.natAbs_ediv_le_natAbs n d
end DS
namespace DS
open PySem L2
theorem w_lc {wi : TI} {g : TG} {tt : TT} {te : TE} {vs : List Nat} {σ : St} {H : Hp} {Q : VK} (h : wi σ H fun J H1 => ∀ D, H1 D = none → ∃ W : Nat → Nat → Hp → Prop, (∃ m, W 0 m (upd H1 D (.lst []))) ∧ ∀ i m H, W i m H →
  (J.stop i H ∧ Q (.ref D) H) ∨ (J.go i H ∧ ∃ Nx : Hp → Prop, (∀ H', Nx H' → ∃ m', m' < m ∧ W (i + 1) m' H') ∧ ∀ x H', J.yld i H x H' → g x (wipe σ vs) H' fun σ2 H2 => wipe σ2 vs = wipe σ vs ∧ tt σ2 H2 fun b H3 =>
    if b = true then te σ2 H3 fun y H4 => ∃ acc, H4 D = some (.lst acc) ∧ acc.length < sizeLine ∧ Nx (upd H4 D (.lst (acc ++ [y]))) else Nx H3)) : tLc wi g tt te vs σ H Q := h
theorem w_yes {σ : St} {H : Hp} {R : Bool → Hp → Prop} (h : R true H) : tYes σ H R := h
end DS
namespace DS
open PySem L2 PyProof.Rows
/-- a def's promise somewhere below the running body -/
theorem run_sub {X : Cx} {CX : CXT} {n : Nat} {f : Addr} {fd : FuncData} {ps : List Str} {sp : Sp} {E : XK} {A : Around} {pins : List (Addr × Obj)} {σ : L2.St} {H : Hp} {s : Shared} {Q : VK} {us : List Value} {vs : List V}
    (sb : Sub X n A) (F : FnOk X.prog X.w X.K X.mg X.base CX n f fd ps sp) (hb : Binds X.K fd ps []) (hx : Passes CX X E) (I : L2.Inv X pins σ H s) (r : Vals vs us) (h : sp vs H Q E) :
    wpAny (model X.prog X.w) A (call (.ref f) us) (EP X pins σ Q) X.xe s := by
  have hl : us.length = ps.length := by rw [← r.length]; exact F.len _ _ _ _ h
  have e0 : Env0 X.prog X.w X.K X.mg X.base A X.stack s H := by
    have e := I.env0
    exact ⟨by rw [sb.fr]; exact e.frames, e.mod, e.bs, e.bsz, e.funs, e.frf, e.hok, e.bare⟩
  refine wpAny_call (codeAny_mono (F.run A X.stack s H ⟨us, []⟩ us vs Q E sb.room e0 (by
    have := hb s us I.kIn (by simpa using hl)
    simpa using this) r h) fun r s' hq => ?_)
  cases r with
  | error e => exact hx pins σ H s e s' I hq
  | ok fl =>
    cases fl with
    | ret u => exact I.after hq
    | next => exact False.elim hq
    | brk => exact False.elim hq
    | cont => exact False.elim hq
/-- x == y by the own __eq__, both of the class at C; whatever the answer -/
def rEqII (C : Addr) (sp : Sp) (E : XK) : R2 := fun x y H Q => ∃ a b dx dy fs gs, x = .ref a ∧ y = .ref b ∧ H a = some (.ins C dx fs) ∧ H b = some (.ins C dy gs) ∧ sp [.ref a, .ref b] H (fun v H' => ∃ k, v = .bl k ∧ Q (.bl k) H') E
def rNeII (C : Addr) (sp : Sp) (E : XK) : R2 := fun x y H Q => ∃ a b dx dy fs gs, x = .ref a ∧ y = .ref b ∧ H a = some (.ins C dx fs) ∧ H b = some (.ins C dy gs) ∧ sp [.ref a, .ref b] H (fun v H' => ∃ k, v = .bl k ∧ Q (.bl (!k)) H') E
theorem cmpback_bl {X : Cx} {pins : List (Addr × Obj)} {σ : L2.St} {Q : VK} {v : Value} {s' : Shared} (h : EP X pins σ (fun v H' => ∃ k, v = .bl k ∧ Q (.bl k) H') v s') : PySem.W.CmpBack (EP X pins σ Q) v s' := by
  obtain ⟨z, H', I, r, k, rfl, q⟩ := h
  obtain rfl : v = Value.bool k := r
  exact ⟨.bl k, H', I, rfl, q⟩
theorem op_eqII {X : Cx} {CX : CXT} {n : Nat} {C f : Addr} {fd : FuncData} {ps : List Str} {sp : Sp} {E : XK} (hm : Meth X.K C "__eq__" f) (F : FnOk X.prog X.w X.K X.mg X.base CX n f fd ps sp) (hr : Room n X.A) (hb : Binds X.K fd ps []) (hx : Passes CX X E) :
    OpR X (compareOp .Eq) (rEqII C sp E) := by
  intro pins s σ H x y v u Q I rx ry h
  obtain ⟨a, b, dx, dy, fs, gs, rfl, rfl, ha, hb', q⟩ := h
  obtain rfl : v = Value.ref a := rx
  obtain rfl : u = Value.ref b := ry
  obtain ⟨mA, J, _⟩ := ins_get I.hok ha
  obtain ⟨mB, J', _⟩ := ins_get I.hok hb'
  obtain ⟨od, J, _⟩ := J.look
  obtain ⟨od', J', _⟩ := J'.look
  obtain ⟨m, hF⟩ := I.fr
  show wpAny (model X.prog X.w) X.A (richCompare .Eq (.ref a) (.ref b)) (EP X pins σ Q) X.xe s
  refine PySem.W.cmp_K (op := .Eq) (tb := .ref C) hr.units0 hF I.ok.mod.kin J J'.type (by simp [PySem.W.notFirst]) hm.at_ hm.fn ?_
  exact wpAny_mono (run_sub (vs := [.ref a, .ref b]) ⟨hr, rfl⟩ F hb hx I (.cons rfl (.cons rfl .nil)) q) (fun v s' h => cmpback_bl h) fun _ _ z => z
theorem ne_own {X : Cx} {n : Nat} {C a b : Addr} {pins : List (Addr × Obj)} {σ : L2.St} {s : Shared} {Q : VK} {f : Addr} {oa ob : Obj} {oda odb : Option Obj} (hr : Room (n + 1) X.A) (X0 : X.K.In s.heap) (J : PySem.W.InstAt s.heap a oa C oda) (J' : PySem.W.InstAt s.heap b ob C odb)
    (hne : PySem.W.findIn X.K (.ref C) "__ne__" = some (some (.builtin "object.__ne__"))) (hmo : PySem.W.mroIn X.K C (.type "object") = some true) (hs : PySem.W.findIn X.K (.ref C) "__eq__" = some (some (.ref f))) (hf : PySem.W.isFn X.K (.ref f) = true)
    (h : wpAny (model X.prog X.w) X.A.in1 (call (.ref f) [.ref a, .ref b]) (EP X pins σ (fun v H' => ∃ k, v = .bl k ∧ Q (.bl (!k)) H')) X.xe s) :
    wpAny (model X.prog X.w) X.A (richCompare .NotEq (.ref a) (.ref b)) (EP X pins σ Q) X.xe s := by
  have call1 : wpAny (model X.prog X.w) X.A (call (.builtin "object.__ne__") [.ref a, .ref b]) (fun v s' => ∃ k : Bool, v = .bool k ∧ EP X pins σ Q v s') X.xe s := by
    refine wpAny_call (codeAny_call_builtin PySem.F.slot_object_ne.plain PySem.F.entry_object_ne (PySem.W.check_slot (i := "object.__ne__") (owner := "object") (n := "__ne__") (by decide +kernel) (by decide +kernel) (J.type.andThen (PySem.W.looks_mroIn X0 hmo)) (PySem.F.args_object_ne_2 _ _) ?_))
    unfold Builtin.«object.__ne__»
    refine wpAny_bind (m := slotArgs "__ne__" 1 _) (wpAny_pure ?_)
    refine wpAny_bind (m := cRoomFor _ _) (wpAny_cRoomFor hr.in1.units0 ?_)
    refine wpAny_bind (m := callSpecialIfBound? (.ref a) (Str.ofString "__eq__") _) (PySem.W.ifBound_K X0 J hs hf (wpAny_mono h (fun r s' hq => ?_) fun _ _ y => y))
    obtain ⟨z, H', I', rz, k, rfl, q⟩ := hq
    obtain rfl : r = Value.bool k := rz
    refine wpAny_bind (wpAny_truthy_bool ?_)
    exact wpAny_pure ⟨!k, rfl, .bl (!k), H', I', rfl, q⟩
  have one : wpAny (model X.prog X.w) X.A (tryCompare (.ref a) "__ne__" (.ref b)) (fun r s' => ∃ v, r = some v ∧ EP X pins σ Q v s') X.xe s := by
    unfold tryCompare
    simp only [callSpecialIfBound?, bindSpecialIfBound?]
    refine wpAny_bind (wpAny_holding (wpAny_bind (wpAny_bind (wpAny_bind (J.type.here ((PySem.W.looks_findIn X0 hne).here ?_))))))
    refine wpAny_bind (wpAny_askSetting (PySem.wpAny_ite ?_))
    have fin : wpAny (model X.prog X.w) X.A (call (.builtin "object.__ne__") ([.ref a] ++ [.ref b]) >>= fun v => pure (some v)) (fun r s' => wpAny (model X.prog X.w) X.A (match r with | some .notImplemented | none => pure none | some v => pure (some v)) (fun r s' => ∃ v, r = some v ∧ EP X pins σ Q v s') X.xe s') X.xe s :=
      wpAny_bind (wpAny_mono call1 (fun v s' h' => wpAny_pure (by
        obtain ⟨k, rfl, q⟩ := h'
        exact wpAny_pure ⟨_, rfl, q⟩)) fun _ _ h' => h')
    split
    · exact wpAny_bind ((PySem.W.Looks.of_pure (PySem.F.slot_object_ne.bind _)).here (wpAny_pure (by exact fin)))
    · exact wpAny_tryCatch (wpAny_bind ((PySem.W.Looks.of_pure (PySem.F.slot_object_ne.bind _)).here (wpAny_pure (by exact fin))))
  unfold richCompare
  simp only [PySem.oneThing_ref]
  refine wpAny_holding (wpAny_bind (wpAny_cRoomFor hr.units0 ?_))
  refine wpAny_bind (J.type.here (wpAny_bind (J'.type.here ?_)))
  rw [if_neg (by simp)]
  refine wpAny_bind (wpAny_pure ?_)
  simp only [Bool.false_eq_true, if_false]
  refine wpAny_bind (wpAny_mono one (fun r s' z => ?_) fun _ _ e => e)
  obtain ⟨v, rfl, hq⟩ := z
  exact wpAny_pure hq
end DS
namespace DS
open PySem L2 PyProof.Rows
theorem op_neII {X : Cx} {CX : CXT} {n : Nat} {C f : Addr} {fd : FuncData} {ps : List Str} {sp : Sp} {E : XK} (hm : Meth X.K C "__eq__" f) (hne : PySem.W.findIn X.K (.ref C) "__ne__" = some (some (.builtin "object.__ne__"))) (hmo : PySem.W.mroIn X.K C (.type "object") = some true)
    (F : FnOk X.prog X.w X.K X.mg X.base CX n f fd ps sp) (hr : Room (n + 1) X.A) (hb : Binds X.K fd ps []) (hx : Passes CX X E) : OpR X (compareOp .NotEq) (rNeII C sp E) := by
  intro pins s σ H x y v u Q I rx ry h
  obtain ⟨a, b, dx, dy, fs, gs, rfl, rfl, ha, hb', q⟩ := h
  obtain rfl : v = Value.ref a := rx
  obtain rfl : u = Value.ref b := ry
  obtain ⟨mA, J, _⟩ := ins_get I.hok ha
  obtain ⟨mB, J', _⟩ := ins_get I.hok hb'
  obtain ⟨od, J, _⟩ := J.look
  obtain ⟨od', J', _⟩ := J'.look
  exact ne_own hr I.kIn J J' hne hmo hm.at_ hm.fn (run_sub (vs := [.ref a, .ref b]) ⟨hr.in1, rfl⟩ F hb hx I (.cons rfl (.cons rfl .nil)) q)
theorem cmpback_of {X : Cx} {pins : List (Addr × Obj)} {σ : L2.St} {Q : VK} {v : Value} {s' : Shared} (h : EP X pins σ Q v s') : PySem.W.CmpBack (EP X pins σ Q) v s' := by
  obtain ⟨z, H', I, r, q⟩ := id h
  cases v with
  | notImplemented =>
    cases z <;> first | (obtain ⟨t, e⟩ := r; cases e) | cases r
  | _ => exact h
/-- x op y by the own method, both of the class at C -/
def rBinII (C : Addr) (sp : Sp) (E : XK) : R2 := fun x y H Q => ∃ a b dx dy fs gs, x = .ref a ∧ y = .ref b ∧ H a = some (.ins C dx fs) ∧ H b = some (.ins C dy gs) ∧ sp [.ref a, .ref b] H Q E
theorem op_binII {X : Cx} {CX : CXT} {n : Nat} {C f : Addr} {fd : FuncData} {ps : List Str} {sp : Sp} {E : XK} {op : Operator} {nm : Str} (hm : Meth X.K C nm f) (hnm : PySem.dunder op.info.2 = nm) (hc : PySem.W.selfFirst X.K C = true)
    (F : FnOk X.prog X.w X.K X.mg X.base CX n f fd ps sp) (hr : Room n X.A) (hb : Binds X.K fd ps []) (hx : Passes CX X E) : OpR X (binaryOp op) (rBinII C sp E) := by
  intro pins s σ H x y v u Q I rx ry h
  obtain ⟨a, b, dx, dy, fs, gs, rfl, rfl, ha, hb', q⟩ := h
  obtain rfl : v = Value.ref a := rx
  obtain rfl : u = Value.ref b := ry
  obtain ⟨mA, J, _⟩ := ins_get I.hok ha
  obtain ⟨mB, J', _⟩ := ins_get I.hok hb'
  obtain ⟨od, J, _⟩ := J.look
  obtain ⟨od', J', _⟩ := J'.look
  obtain ⟨m, hF⟩ := I.fr
  refine PySem.W.binop_K hF I.ok.mod.kin J J'.type hc (by rw [hnm]; exact hm.at_) hm.fn ?_
  exact wpAny_mono (run_sub (vs := [.ref a, .ref b]) ⟨hr, rfl⟩ F hb hx I (.cons rfl (.cons rfl .nil)) q) (fun v s' h => cmpback_of h) fun _ _ z => z
/-- x op n by the own method, n an int -/
structure IntR (K : PySem.W.Frag) (C : Addr) (op : Operator) : Prop where
  rc : ∃ rc, PySem.W.findIn K (.ref C) (PySem.dunderR op.info.2) = some rc ∧ (rc = none ∨ ∃ g : Addr, rc = some (.ref g))
  fo : ∃ fo, PySem.W.findIn K (.type "int") (PySem.dunder op.info.2) = some fo
  ro : ∃ ro, PySem.W.findIn K (.type "int") (PySem.dunderR op.info.2) = some ro
  sub : PySem.W.subIn K (.type "int") (.ref C) = some false
def rBinIZ (C : Addr) (sp : Sp) (E : XK) : R2 := fun x y H Q => ∃ a dx fs n, x = .ref a ∧ y = .int n ∧ H a = some (.ins C dx fs) ∧ sp [.ref a, .int n] H Q E
theorem op_binIZ {X : Cx} {CX : CXT} {n : Nat} {C f : Addr} {fd : FuncData} {ps : List Str} {sp : Sp} {E : XK} {op : Operator} {nm : Str} (hm : Meth X.K C nm f) (hnm : PySem.dunder op.info.2 = nm) (hc : PySem.W.selfFirst X.K C = true) (hi : IntR X.K C op)
    (F : FnOk X.prog X.w X.K X.mg X.base CX n f fd ps sp) (hr : Room n X.A) (hb : Binds X.K fd ps []) (hx : Passes CX X E) : OpR X (binaryOp op) (rBinIZ C sp E) := by
  intro pins s σ H x y v u Q I rx ry h
  obtain ⟨a, dx, fs, z, rfl, rfl, ha, q⟩ := h
  obtain rfl : v = Value.ref a := rx
  obtain ⟨t, rfl⟩ := (show ∃ t, u = Value.int z t from ry)
  obtain ⟨mA, J, _⟩ := ins_get I.hok ha
  obtain ⟨od, J, _⟩ := J.look
  obtain ⟨m, hF⟩ := I.fr
  obtain ⟨rc, hrc, hp⟩ := hi.rc
  obtain ⟨fo, hfo⟩ := hi.fo
  obtain ⟨ro, hro⟩ := hi.ro
  refine PySem.W.ksp_binT (T := "int") hF I.ok.mod.kin J rfl hc (by rw [hnm]; exact hm.at_) hm.fn hrc hp hfo hro hi.sub ?_
  exact wpAny_mono (run_sub (vs := [.ref a, .int z]) ⟨hr, rfl⟩ F hb hx I (.cons rfl (.cons ⟨t, rfl⟩ .nil)) q) (fun v s' h => cmpback_of h) fun _ _ z => z
end DS
namespace DS
open PySem L2 PyProof.Rows
/-- X(), X an own exception class without own __init__ -/
theorem pmk_own0 {X : Cx} {C : Addr} {bmB : List Value} {B newId initId : String} {x : Str} {p pos : Pos} (F : ExcBaseFacts B newId initId bmB) (q : PySem.W.excIn X.K C bmB newId = true) (gC : X.mg x = some (.ref C)) (kC : PySem.W.keepIn X.K (.ref C) = true) (r : Raises X (.ref C)) (hg : Gl X x)
    (hdb : (x == ("__debug__" : Str)) = false := by decide) : PMk X (.Call (.Name x p) [] [] pos) (fun _ H Q => Q (.ref C) none H) := by
  intro pins s σ H Q I h
  refine wpAny_Call_Name_kw (ld_glob I hg gC ?_ hdb)
  refine PySem.W.callWith_K0 I.kIn kC ?_
  show wpAny _ _ (call (.ref C) []) _ _ _
  obtain ⟨bm, N, nm, qn, bs, hdct, sn, sub, ab, col, dd, k0, k1, k2, k3, k5, mN, hC, hN, hni, T⟩ := exc_obj I.kIn q
  exact wpAny_call_exc_subT F T hC hN hni (fun h' e hm => mk_of I hm r h (I.hok.gone hm.new)) (Nat.zero_le _)
end DS
namespace DS
open PySem L2
theorem w_dget2 {td ty tx : TE} {σ : St} {H : Hp} {Q : VK} (h : td σ H fun x H1 => ∃ a, x = .ref a ∧ IsD H1 a ∧ ty σ H1 fun y H2 => tx σ H2 fun z H3 => ∃ o, DGet H3 a y o ∧ Q (o.getD z) H3) : tDGet2 td ty tx σ H Q := h
end DS
namespace K04
open PySem L2 DS
def waysL : List Str := ["floor", "ceiling", "cut", "away", "halfup", "halfdown", "halfeven", "halfaway", "halfcut"]
def mirF (x : Str) : Str := if x = "floor" then "ceiling" else if x = "ceiling" then "floor" else if x = "halfup" then "halfdown" else if x = "halfdown" then "halfup" else x
def top (i : Nat) : Stmt := PySem.Challenge.pw_dealtsums_k04_whole_rounding_by_each_way.main.body.getD i (.Pass ⟨0, 0, 0, 0⟩)
abbrev s_is_integer : Stmt := top 6
abbrev N_is_integer : List Str := ["value"]
theorem sc_is_integer : FnScope ["value"] ["value"] (defScope s_is_integer) := ⟨rfl, rfl, rfl, by decide +kernel, rfl, by decide +kernel, by decide +kernel⟩
abbrev s_is_whole : Stmt := top 7
abbrev N_is_whole : List Str := ["value"]
theorem sc_is_whole : FnScope ["value"] ["value"] (defScope s_is_whole) := ⟨rfl, rfl, rfl, by decide +kernel, rfl, by decide +kernel, by decide +kernel⟩
abbrev s_need_integer : Stmt := top 8
abbrev N_need_integer : List Str := ["value"]
theorem sc_need_integer : FnScope ["value"] ["value"] (defScope s_need_integer) := ⟨rfl, rfl, rfl, by decide +kernel, rfl, by decide +kernel, by decide +kernel⟩
abbrev s_need_whole : Stmt := top 9
abbrev N_need_whole : List Str := ["value"]
theorem sc_need_whole : FnScope ["value"] ["value"] (defScope s_need_whole) := ⟨rfl, rfl, rfl, by decide +kernel, rfl, by decide +kernel, by decide +kernel⟩
abbrev s_need_positive : Stmt := top 10
abbrev N_need_positive : List Str := ["value"]
theorem sc_need_positive : FnScope ["value"] ["value"] (defScope s_need_positive) := ⟨rfl, rfl, rfl, by decide +kernel, rfl, by decide +kernel, by decide +kernel⟩
abbrev s_ten_to : Stmt := top 12
abbrev N_ten_to : List Str := ["number", "made", "base"]
theorem sc_ten_to : FnScope ["number", "made", "base"] ["number"] (defScope s_ten_to) := ⟨rfl, rfl, rfl, by decide +kernel, rfl, by decide +kernel, by decide +kernel⟩
abbrev s_lowered : Stmt := top 14
abbrev N_lowered : List Str := ["units", "scale"]
theorem sc_lowered : FnScope ["units", "scale"] ["units", "scale"] (defScope s_lowered) := ⟨rfl, rfl, rfl, by decide +kernel, rfl, by decide +kernel, by decide +kernel⟩
abbrev s_Worth___init__ : Stmt := inClass (top 16) 0
abbrev N_Worth___init__ : List Str := ["self", "units", "scale"]
theorem sc_Worth___init__ : FnScope ["self", "units", "scale"] ["self", "units", "scale"] (defScope s_Worth___init__) := ⟨rfl, rfl, rfl, by decide +kernel, rfl, by decide +kernel, by decide +kernel⟩
abbrev s_Worth___eq__ : Stmt := inClass (top 16) 1
abbrev N_Worth___eq__ : List Str := ["self", "other"]
theorem sc_Worth___eq__ : FnScope ["self", "other"] ["self", "other"] (defScope s_Worth___eq__) := ⟨rfl, rfl, rfl, by decide +kernel, rfl, by decide +kernel, by decide +kernel⟩
abbrev s_Worth___add__ : Stmt := inClass (top 16) 2
abbrev N_Worth___add__ : List Str := ["self", "other"]
theorem sc_Worth___add__ : FnScope ["self", "other"] ["self", "other"] (defScope s_Worth___add__) := ⟨rfl, rfl, rfl, by decide +kernel, rfl, by decide +kernel, by decide +kernel⟩
abbrev s_Worth_sign : Stmt := inClass (top 16) 11
abbrev N_Worth_sign : List Str := ["self"]
theorem sc_Worth_sign : FnScope ["self"] ["self"] (defScope s_Worth_sign) := ⟨rfl, rfl, rfl, by decide +kernel, rfl, by decide +kernel, by decide +kernel⟩
abbrev s_need_worth : Stmt := top 17
abbrev N_need_worth : List Str := ["value"]
theorem sc_need_worth : FnScope ["value"] ["value"] (defScope s_need_worth) := ⟨rfl, rfl, rfl, by decide +kernel, rfl, by decide +kernel, by decide +kernel⟩
abbrev s_worth_of : Stmt := top 18
abbrev N_worth_of : List Str := ["value"]
theorem sc_worth_of : FnScope ["value"] ["value"] (defScope s_worth_of) := ⟨rfl, rfl, rfl, by decide +kernel, rfl, by decide +kernel, by decide +kernel⟩
abbrev s_worth_sum : Stmt := top 19
abbrev N_worth_sum : List Str := ["one", "other", "sign", "scale", "units"]
theorem sc_worth_sum : FnScope ["one", "other", "sign", "scale", "units"] ["one", "other", "sign"] (defScope s_worth_sum) := ⟨rfl, rfl, rfl, by decide +kernel, rfl, by decide +kernel, by decide +kernel⟩
abbrev s_compare : Stmt := top 21
abbrev N_compare : List Str := ["one", "other"]
theorem sc_compare : FnScope ["one", "other"] ["one", "other"] (defScope s_compare) := ⟨rfl, rfl, rfl, by decide +kernel, rfl, by decide +kernel, by decide +kernel⟩
abbrev s_need_way : Stmt := top 25
abbrev N_need_way : List Str := ["value"]
theorem sc_need_way : FnScope ["value"] ["value"] (defScope s_need_way) := ⟨rfl, rfl, rfl, by decide +kernel, rfl, by decide +kernel, by decide +kernel⟩
abbrev s_mirrored : Stmt := top 26
abbrev N_mirrored : List Str := ["way"]
theorem sc_mirrored : FnScope ["way"] ["way"] (defScope s_mirrored) := ⟨rfl, rfl, rfl, by decide +kernel, rfl, by decide +kernel, by decide +kernel⟩
abbrev s_lift : Stmt := top 27
abbrev N_lift : List Str := ["way", "part", "negative", "odd", "ties"]
theorem sc_lift : FnScope ["way", "part", "negative", "odd", "ties"] ["way", "part", "negative", "odd"] (defScope s_lift) := ⟨rfl, rfl, rfl, by decide +kernel, rfl, by decide +kernel, by decide +kernel⟩
abbrev s_part_of : Stmt := top 28
abbrev N_part_of : List Str := ["left", "divisor"]
theorem sc_part_of : FnScope ["left", "divisor"] ["left", "divisor"] (defScope s_part_of) := ⟨rfl, rfl, rfl, by decide +kernel, rfl, by decide +kernel, by decide +kernel⟩
abbrev s_divided_by : Stmt := top 29
abbrev N_divided_by : List Str := ["number", "divisor", "way", "low", "left"]
theorem sc_divided_by : FnScope ["number", "divisor", "way", "low", "left"] ["number", "divisor", "way"] (defScope s_divided_by) := ⟨rfl, rfl, rfl, by decide +kernel, rfl, by decide +kernel, by decide +kernel⟩
abbrev s_divided : Stmt := top 30
abbrev N_divided : List Str := ["number", "divisor", "way"]
theorem sc_divided : FnScope ["number", "divisor", "way"] ["number", "divisor", "way"] (defScope s_divided) := ⟨rfl, rfl, rfl, by decide +kernel, rfl, by decide +kernel, by decide +kernel⟩
abbrev s_rounded : Stmt := top 31
abbrev N_rounded : List Str := ["worth", "scale", "way"]
theorem sc_rounded : FnScope ["worth", "scale", "way"] ["worth", "scale", "way"] (defScope s_rounded) := ⟨rfl, rfl, rfl, by decide +kernel, rfl, by decide +kernel, by decide +kernel⟩
abbrev s_rounded_quotient : Stmt := top 32
abbrev N_rounded_quotient : List Str := ["one", "other", "scale", "way", "number", "divisor"]
theorem sc_rounded_quotient : FnScope ["one", "other", "scale", "way", "number", "divisor"] ["one", "other", "scale", "way"] (defScope s_rounded_quotient) := ⟨rfl, rfl, rfl, by decide +kernel, rfl, by decide +kernel, by decide +kernel⟩
abbrev s__law_pen : Stmt := top 34
abbrev N__law_pen : List Str := ["_law_script"]
theorem sc__law_pen : FnScope ["_law_script"] ["_law_script"] (defScope s__law_pen) := ⟨rfl, rfl, rfl, by decide +kernel, rfl, by decide +kernel, by decide +kernel⟩
abbrev s__law_draw : Stmt := top 35
abbrev N__law_draw : List Str := ["_law_pen_here", "_law_many", "_law_digit", "_law_at", "_law_cell", "_law_mixed"]
theorem sc__law_draw : FnScope ["_law_pen_here", "_law_many", "_law_digit", "_law_at", "_law_cell", "_law_mixed"] ["_law_pen_here", "_law_many"] (defScope s__law_draw) := ⟨rfl, rfl, rfl, by decide +kernel, rfl, by decide +kernel, by decide +kernel⟩
abbrev s__law_pick : Stmt := top 36
abbrev N__law_pick : List Str := ["_law_pen_here", "_law_items"]
theorem sc__law_pick : FnScope ["_law_pen_here", "_law_items"] ["_law_pen_here", "_law_items"] (defScope s__law_pick) := ⟨rfl, rfl, rfl, by decide +kernel, rfl, by decide +kernel, by decide +kernel⟩
abbrev s__law_ten : Stmt := top 37
abbrev N__law_ten : List Str := ["_law_count", "_law_made", "_law_turn"]
theorem sc__law_ten : FnScope ["_law_count", "_law_made", "_law_turn"] ["_law_count"] (defScope s__law_ten) := ⟨rfl, rfl, rfl, by decide +kernel, rfl, by decide +kernel, by decide +kernel⟩
abbrev s__law_ways : Stmt := top 38
abbrev N__law_ways : List Str := []
theorem sc__law_ways : FnScope [] [] (defScope s__law_ways) := ⟨rfl, rfl, rfl, by decide +kernel, rfl, by decide +kernel, by decide +kernel⟩
abbrev s__law_mirror : Stmt := top 39
abbrev N__law_mirror : List Str := ["_law_manner"]
theorem sc__law_mirror : FnScope ["_law_manner"] ["_law_manner"] (defScope s__law_mirror) := ⟨rfl, rfl, rfl, by decide +kernel, rfl, by decide +kernel, by decide +kernel⟩
abbrev s__law_near : Stmt := top 40
abbrev N__law_near : List Str := ["_law_number", "_law_divisor", "_law_manner", "_law_low", "_law_inner", "_law_outer", "_law_gap", "_law_even"]
theorem sc__law_near : FnScope ["_law_number", "_law_divisor", "_law_manner", "_law_low", "_law_inner", "_law_outer", "_law_gap", "_law_even"] ["_law_number", "_law_divisor", "_law_manner"] (defScope s__law_near) := ⟨rfl, rfl, rfl, by decide +kernel, rfl, by decide +kernel, by decide +kernel⟩
abbrev s__law_some_units : Stmt := top 41
abbrev N__law_some_units : List Str := ["_law_pen_here", "_law_few", "_law_great", "_law_found"]
theorem sc__law_some_units : FnScope ["_law_pen_here", "_law_few", "_law_great", "_law_found"] ["_law_pen_here"] (defScope s__law_some_units) := ⟨rfl, rfl, rfl, by decide +kernel, rfl, by decide +kernel, by decide +kernel⟩
abbrev s__law_some_scale : Stmt := top 42
abbrev N__law_some_scale : List Str := ["_law_pen_here"]
theorem sc__law_some_scale : FnScope ["_law_pen_here"] ["_law_pen_here"] (defScope s__law_some_scale) := ⟨rfl, rfl, rfl, by decide +kernel, rfl, by decide +kernel, by decide +kernel⟩
abbrev s__law_own : Stmt := top 43
abbrev N__law_own : List Str := ["_law_units", "_law_scale", "_law_turn"]
theorem sc__law_own : FnScope ["_law_units", "_law_scale", "_law_turn"] ["_law_units", "_law_scale"] (defScope s__law_own) := ⟨rfl, rfl, rfl, by decide +kernel, rfl, by decide +kernel, by decide +kernel⟩
abbrev s__law_is_worth : Stmt := top 44
abbrev N__law_is_worth : List Str := ["_law_told", "_law_units", "_law_scale"]
theorem sc__law_is_worth : FnScope ["_law_told", "_law_units", "_law_scale"] ["_law_told", "_law_units", "_law_scale"] (defScope s__law_is_worth) := ⟨rfl, rfl, rfl, by decide +kernel, rfl, by decide +kernel, by decide +kernel⟩
abbrev s__law_rounded : Stmt := top 45
abbrev N__law_rounded : List Str := ["_law_units", "_law_scale", "_law_to", "_law_way"]
theorem sc__law_rounded : FnScope ["_law_units", "_law_scale", "_law_to", "_law_way"] ["_law_units", "_law_scale", "_law_to", "_law_way"] (defScope s__law_rounded) := ⟨rfl, rfl, rfl, by decide +kernel, rfl, by decide +kernel, by decide +kernel⟩
abbrev s__law_moves : Stmt := top 46
abbrev N__law_moves : List Str := ["_law_way", "_law_units", "_law_more", "_law_wide", "_law_tie", "_law_far"]
theorem sc__law_moves : FnScope ["_law_way", "_law_units", "_law_more", "_law_wide", "_law_tie", "_law_far"] ["_law_way", "_law_units", "_law_more", "_law_wide"] (defScope s__law_moves) := ⟨rfl, rfl, rfl, by decide +kernel, rfl, by decide +kernel, by decide +kernel⟩
abbrev s__law_is_quotient_right : Stmt := top 47
abbrev N__law_is_quotient_right : List Str := ["_law_pen_here", "_law_way", "_law_one", "_law_other", "_law_to", "_law_mine", "_law_yours", "_law_top", "_law_low", "_law_due"]
theorem sc__law_is_quotient_right : FnScope ["_law_pen_here", "_law_way", "_law_one", "_law_other", "_law_to", "_law_mine", "_law_yours", "_law_top", "_law_low", "_law_due"] ["_law_pen_here", "_law_way"] (defScope s__law_is_quotient_right) := ⟨rfl, rfl, rfl, by decide +kernel, rfl, by decide +kernel, by decide +kernel⟩
abbrev s_law : Stmt := top 48
abbrev N_law : List Str := ["_law_script", "_law_pen_here", "_law_turn", "_law_way", "_law_number", "_law_divisor", "_law_low", "_law_units", "_law_scale", "_law_to", "_law_worth", "_law_due", "_law_found", "_law_wide", "_law_more", "_law_moved", "_law_less"]
theorem sc_law : FnScope ["_law_script", "_law_pen_here", "_law_turn", "_law_way", "_law_number", "_law_divisor", "_law_low", "_law_units", "_law_scale", "_law_to", "_law_worth", "_law_due", "_law_found", "_law_wide", "_law_more", "_law_moved", "_law_less"] ["_law_script"] (defScope s_law) := ⟨rfl, rfl, rfl, by decide +kernel, rfl, by decide +kernel, by decide +kernel⟩
structure Tx (w : World) (K : PySem.W.Frag) (mg : Str → Option Value) where
  C_Worth : Addr
  cl_Worth : Cls K C_Worth
  gC_Worth : mg "Worth" = some (.ref C_Worth)
  n_Worth_units : NoAttr K C_Worth "units"
  n_Worth_scale : NoAttr K C_Worth "scale"
  f_is_integer : Addr
  fd_is_integer : FuncData
  F_is_integer : Fun K "is_integer" "is_integer" s_is_integer f_is_integer fd_is_integer
  b_is_integer : Binds K fd_is_integer ["value"] []
  g_is_integer : mg "is_integer" = some (.ref f_is_integer)
  f_is_whole : Addr
  fd_is_whole : FuncData
  F_is_whole : Fun K "is_whole" "is_whole" s_is_whole f_is_whole fd_is_whole
  b_is_whole : Binds K fd_is_whole ["value"] []
  g_is_whole : mg "is_whole" = some (.ref f_is_whole)
  f_need_integer : Addr
  fd_need_integer : FuncData
  F_need_integer : Fun K "need_integer" "need_integer" s_need_integer f_need_integer fd_need_integer
  b_need_integer : Binds K fd_need_integer ["value"] []
  g_need_integer : mg "need_integer" = some (.ref f_need_integer)
  f_need_whole : Addr
  fd_need_whole : FuncData
  F_need_whole : Fun K "need_whole" "need_whole" s_need_whole f_need_whole fd_need_whole
  b_need_whole : Binds K fd_need_whole ["value"] []
  g_need_whole : mg "need_whole" = some (.ref f_need_whole)
  f_need_positive : Addr
  fd_need_positive : FuncData
  F_need_positive : Fun K "need_positive" "need_positive" s_need_positive f_need_positive fd_need_positive
  b_need_positive : Binds K fd_need_positive ["value"] []
  g_need_positive : mg "need_positive" = some (.ref f_need_positive)
  f_ten_to : Addr
  fd_ten_to : FuncData
  F_ten_to : Fun K "ten_to" "ten_to" s_ten_to f_ten_to fd_ten_to
  b_ten_to : Binds K fd_ten_to ["number"] []
  g_ten_to : mg "ten_to" = some (.ref f_ten_to)
  f_lowered : Addr
  fd_lowered : FuncData
  F_lowered : Fun K "lowered" "lowered" s_lowered f_lowered fd_lowered
  b_lowered : Binds K fd_lowered ["units", "scale"] []
  g_lowered : mg "lowered" = some (.ref f_lowered)
  f_Worth___init__ : Addr
  fd_Worth___init__ : FuncData
  F_Worth___init__ : FunD K "__init__" "Worth.__init__" (defArgs s_Worth___init__) (defBody s_Worth___init__) (defScope s_Worth___init__) [.int 0] [] f_Worth___init__ fd_Worth___init__
  b_Worth___init__ : Binds K fd_Worth___init__ ["self", "units", "scale"] []
  M_Worth : Mk K C_Worth f_Worth___init__
  f_Worth___eq__ : Addr
  fd_Worth___eq__ : FuncData
  F_Worth___eq__ : Fun K "__eq__" "Worth.__eq__" s_Worth___eq__ f_Worth___eq__ fd_Worth___eq__
  b_Worth___eq__ : Binds K fd_Worth___eq__ ["self", "other"] []
  m_Worth___eq__ : Meth K C_Worth "__eq__" f_Worth___eq__
  f_Worth___add__ : Addr
  fd_Worth___add__ : FuncData
  F_Worth___add__ : Fun K "__add__" "Worth.__add__" s_Worth___add__ f_Worth___add__ fd_Worth___add__
  b_Worth___add__ : Binds K fd_Worth___add__ ["self", "other"] []
  m_Worth___add__ : Meth K C_Worth "__add__" f_Worth___add__
  f_Worth_sign : Addr
  fd_Worth_sign : FuncData
  F_Worth_sign : Fun K "sign" "Worth.sign" s_Worth_sign f_Worth_sign fd_Worth_sign
  b_Worth_sign : Binds K fd_Worth_sign ["self"] []
  m_Worth_sign : Meth K C_Worth "sign" f_Worth_sign
  f_need_worth : Addr
  fd_need_worth : FuncData
  F_need_worth : Fun K "need_worth" "need_worth" s_need_worth f_need_worth fd_need_worth
  b_need_worth : Binds K fd_need_worth ["value"] []
  g_need_worth : mg "need_worth" = some (.ref f_need_worth)
  f_worth_of : Addr
  fd_worth_of : FuncData
  F_worth_of : Fun K "worth_of" "worth_of" s_worth_of f_worth_of fd_worth_of
  b_worth_of : Binds K fd_worth_of ["value"] []
  g_worth_of : mg "worth_of" = some (.ref f_worth_of)
  f_worth_sum : Addr
  fd_worth_sum : FuncData
  F_worth_sum : Fun K "worth_sum" "worth_sum" s_worth_sum f_worth_sum fd_worth_sum
  b_worth_sum : Binds K fd_worth_sum ["one", "other", "sign"] []
  g_worth_sum : mg "worth_sum" = some (.ref f_worth_sum)
  f_compare : Addr
  fd_compare : FuncData
  F_compare : Fun K "compare" "compare" s_compare f_compare fd_compare
  b_compare : Binds K fd_compare ["one", "other"] []
  g_compare : mg "compare" = some (.ref f_compare)
  f_need_way : Addr
  fd_need_way : FuncData
  F_need_way : Fun K "need_way" "need_way" s_need_way f_need_way fd_need_way
  b_need_way : Binds K fd_need_way ["value"] []
  g_need_way : mg "need_way" = some (.ref f_need_way)
  f_mirrored : Addr
  fd_mirrored : FuncData
  F_mirrored : Fun K "mirrored" "mirrored" s_mirrored f_mirrored fd_mirrored
  b_mirrored : Binds K fd_mirrored ["way"] []
  g_mirrored : mg "mirrored" = some (.ref f_mirrored)
  f_lift : Addr
  fd_lift : FuncData
  F_lift : Fun K "lift" "lift" s_lift f_lift fd_lift
  b_lift : Binds K fd_lift ["way", "part", "negative", "odd"] []
  g_lift : mg "lift" = some (.ref f_lift)
  f_part_of : Addr
  fd_part_of : FuncData
  F_part_of : Fun K "part_of" "part_of" s_part_of f_part_of fd_part_of
  b_part_of : Binds K fd_part_of ["left", "divisor"] []
  g_part_of : mg "part_of" = some (.ref f_part_of)
  f_divided_by : Addr
  fd_divided_by : FuncData
  F_divided_by : Fun K "divided_by" "divided_by" s_divided_by f_divided_by fd_divided_by
  b_divided_by : Binds K fd_divided_by ["number", "divisor", "way"] []
  g_divided_by : mg "divided_by" = some (.ref f_divided_by)
  f_divided : Addr
  fd_divided : FuncData
  F_divided : Fun K "divided" "divided" s_divided f_divided fd_divided
  b_divided : Binds K fd_divided ["number", "divisor", "way"] []
  g_divided : mg "divided" = some (.ref f_divided)
  f_rounded : Addr
  fd_rounded : FuncData
  F_rounded : Fun K "rounded" "rounded" s_rounded f_rounded fd_rounded
  b_rounded : Binds K fd_rounded ["worth", "scale", "way"] []
  g_rounded : mg "rounded" = some (.ref f_rounded)
  f_rounded_quotient : Addr
  fd_rounded_quotient : FuncData
  F_rounded_quotient : Fun K "rounded_quotient" "rounded_quotient" s_rounded_quotient f_rounded_quotient fd_rounded_quotient
  b_rounded_quotient : Binds K fd_rounded_quotient ["one", "other", "scale", "way"] []
  g_rounded_quotient : mg "rounded_quotient" = some (.ref f_rounded_quotient)
  f__law_pen : Addr
  fd__law_pen : FuncData
  F__law_pen : Fun K "_law_pen" "_law_pen" s__law_pen f__law_pen fd__law_pen
  b__law_pen : Binds K fd__law_pen ["_law_script"] []
  g__law_pen : mg "_law_pen" = some (.ref f__law_pen)
  f__law_draw : Addr
  fd__law_draw : FuncData
  F__law_draw : Fun K "_law_draw" "_law_draw" s__law_draw f__law_draw fd__law_draw
  b__law_draw : Binds K fd__law_draw ["_law_pen_here", "_law_many"] []
  g__law_draw : mg "_law_draw" = some (.ref f__law_draw)
  f__law_pick : Addr
  fd__law_pick : FuncData
  F__law_pick : Fun K "_law_pick" "_law_pick" s__law_pick f__law_pick fd__law_pick
  b__law_pick : Binds K fd__law_pick ["_law_pen_here", "_law_items"] []
  g__law_pick : mg "_law_pick" = some (.ref f__law_pick)
  f__law_ten : Addr
  fd__law_ten : FuncData
  F__law_ten : Fun K "_law_ten" "_law_ten" s__law_ten f__law_ten fd__law_ten
  b__law_ten : Binds K fd__law_ten ["_law_count"] []
  g__law_ten : mg "_law_ten" = some (.ref f__law_ten)
  f__law_ways : Addr
  fd__law_ways : FuncData
  F__law_ways : Fun K "_law_ways" "_law_ways" s__law_ways f__law_ways fd__law_ways
  b__law_ways : Binds K fd__law_ways [] []
  g__law_ways : mg "_law_ways" = some (.ref f__law_ways)
  f__law_mirror : Addr
  fd__law_mirror : FuncData
  F__law_mirror : Fun K "_law_mirror" "_law_mirror" s__law_mirror f__law_mirror fd__law_mirror
  b__law_mirror : Binds K fd__law_mirror ["_law_manner"] []
  g__law_mirror : mg "_law_mirror" = some (.ref f__law_mirror)
  f__law_near : Addr
  fd__law_near : FuncData
  F__law_near : Fun K "_law_near" "_law_near" s__law_near f__law_near fd__law_near
  b__law_near : Binds K fd__law_near ["_law_number", "_law_divisor", "_law_manner"] []
  g__law_near : mg "_law_near" = some (.ref f__law_near)
  f__law_some_units : Addr
  fd__law_some_units : FuncData
  F__law_some_units : Fun K "_law_some_units" "_law_some_units" s__law_some_units f__law_some_units fd__law_some_units
  b__law_some_units : Binds K fd__law_some_units ["_law_pen_here"] []
  g__law_some_units : mg "_law_some_units" = some (.ref f__law_some_units)
  f__law_some_scale : Addr
  fd__law_some_scale : FuncData
  F__law_some_scale : Fun K "_law_some_scale" "_law_some_scale" s__law_some_scale f__law_some_scale fd__law_some_scale
  b__law_some_scale : Binds K fd__law_some_scale ["_law_pen_here"] []
  g__law_some_scale : mg "_law_some_scale" = some (.ref f__law_some_scale)
  f__law_own : Addr
  fd__law_own : FuncData
  F__law_own : Fun K "_law_own" "_law_own" s__law_own f__law_own fd__law_own
  b__law_own : Binds K fd__law_own ["_law_units", "_law_scale"] []
  g__law_own : mg "_law_own" = some (.ref f__law_own)
  f__law_is_worth : Addr
  fd__law_is_worth : FuncData
  F__law_is_worth : Fun K "_law_is_worth" "_law_is_worth" s__law_is_worth f__law_is_worth fd__law_is_worth
  b__law_is_worth : Binds K fd__law_is_worth ["_law_told", "_law_units", "_law_scale"] []
  g__law_is_worth : mg "_law_is_worth" = some (.ref f__law_is_worth)
  f__law_rounded : Addr
  fd__law_rounded : FuncData
  F__law_rounded : Fun K "_law_rounded" "_law_rounded" s__law_rounded f__law_rounded fd__law_rounded
  b__law_rounded : Binds K fd__law_rounded ["_law_units", "_law_scale", "_law_to", "_law_way"] []
  g__law_rounded : mg "_law_rounded" = some (.ref f__law_rounded)
  f__law_moves : Addr
  fd__law_moves : FuncData
  F__law_moves : Fun K "_law_moves" "_law_moves" s__law_moves f__law_moves fd__law_moves
  b__law_moves : Binds K fd__law_moves ["_law_way", "_law_units", "_law_more", "_law_wide"] []
  g__law_moves : mg "_law_moves" = some (.ref f__law_moves)
  f__law_is_quotient_right : Addr
  fd__law_is_quotient_right : FuncData
  F__law_is_quotient_right : Fun K "_law_is_quotient_right" "_law_is_quotient_right" s__law_is_quotient_right f__law_is_quotient_right fd__law_is_quotient_right
  b__law_is_quotient_right : Binds K fd__law_is_quotient_right ["_law_pen_here", "_law_way"] []
  g__law_is_quotient_right : mg "_law_is_quotient_right" = some (.ref f__law_is_quotient_right)
  f_law : Addr
  fd_law : FuncData
  F_law : Fun K "law" "law" s_law f_law fd_law
  b_law : Binds K fd_law ["_law_script"] []
  g_law : mg "law" = some (.ref f_law)
  z_abs : mg "abs" = none
  z_bool : mg "bool" = none
  z_divmod : mg "divmod" = none
  z_int : mg "int" = none
  z_isinstance : mg "isinstance" = none
  z_len : mg "len" = none
  z_list : mg "list" = none
  z_max : mg "max" = none
  z_min : mg "min" = none
  z_range : mg "range" = none
  z_str : mg "str" = none
  z_tuple : mg "tuple" = none
  tyW : ∀ (H : Hp) (a dx : Addr) (fs : List (Str × V)), H a = some (.ins C_Worth dx fs) → TyOf K H (.ref a) (.ref C_Worth)
  sfW : PySem.W.selfFirst K C_Worth = true
  neW : PySem.W.findIn K (.ref C_Worth) "__ne__" = some (some (.builtin "object.__ne__"))
  moW : PySem.W.mroIn K C_Worth (.type "object") = some true
  C_NoDivisor : Addr
  gC_NoDivisor : mg "NoDivisor" = some (.ref C_NoDivisor)
  xND : PySem.W.excIn K C_NoDivisor [.type "ValueError", .type "Exception", .type "BaseException", .type "object"] "ValueError.__new__" = true
  kND : PySem.W.keepIn K (.ref C_NoDivisor) = true
  bND : PySem.W.subIn K (.ref C_NoDivisor) (.type "BaseException") = some true
  tND : PySem.W.typeIn K (.ref C_NoDivisor) = some (.type "type")
  eND : PySem.W.exmOne K (.ref C_NoDivisor) (.ref C_NoDivisor) = some true
  kiW : PySem.W.kitOne K (.ref C_Worth) (.ref C_Worth) = some true
  a_WAYS : Addr
  gv_WAYS : mg "WAYS" = some (.ref a_WAYS)
  sq_WAYS : ∀ H : Hp, SqT K H a_WAYS (waysL.map V.str)
  a_MIRRORS : Addr
  es_M : Array DictEntry
  n_M : Nat
  gv_MIRRORS : mg "MIRRORS" = some (.ref a_MIRRORS)
  D_M : KDict K w a_MIRRORS es_M n_M
  mir : ∀ x ∈ waysL, ∃ r, PySem.W.nsIn K a_MIRRORS x = some r ∧ ((r = none ∧ mirF x = x) ∨ ∃ t, r = some (.str (mirF x) t))
end K04
namespace K04
open PySem L2 DS
set_option pp.maxSteps 1200
local macro_rules | `(tactic| walk_at "c") => `(tactic| first
  | (dsimp only; omega)
  | omega
  | (show CMulA _ _; first | exact CMulA.s1 (by omega) (by omega) | exact CMulA.s2 (by omega) (by omega))
  | (show CDivW _ _; first | exact ⟨by omega, by assumption⟩ | exact ⟨by omega, by decide⟩)
  | (show CPow _ _; exact ⟨by decide, by decide, by decide⟩)
  | assumption)
local macro_rules | `(tactic| walk_at "get") => `(tactic| first
  | assumption
  | (refine (by assumption : Same _ _) _ _ ?_; walk_at "get")
  | (refine (by assumption : Keep _ _) _ _ ?_ rfl; walk_at "get"))
local macro_rules | `(tactic| walk_at "pen") => `(tactic| first
  | assumption
  | (refine Pen.same (by assumption) ?_; walk_at "pen")
  | (refine Pen.mono ?_ (by omega); assumption))
local macro_rules | `(tactic| walk_at "keep") => `(tactic| first
  | assumption
  | exact Keep.refl _
  | exact Keep.of (by assumption)
  | (refine Keep.trans ?_ (by assumption); walk_at "keep")
  | (refine Keep.same ?_ (by assumption); walk_at "keep"))
local macro_rules | `(tactic| walk_at "same") => `(tactic| first
  | assumption
  | exact Same.refl _
  | (refine Same.trans ?_ (by assumption); walk_at "same"))
local macro_rules | `(tactic| walk_at "s") => `(tactic| first
  | with_reducible refine w_seq ?_
  | with_reducible refine w_asg ?_
  | with_reducible refine w_name ?_
  | ((with_reducible apply w_var); exact rfl)
  | with_reducible refine w_c ?_
  | with_reducible refine w_op ?_
  | with_reducible refine w_I0 ?_
  | ((with_reducible apply w_I); (walk_at "c"))
  | with_reducible refine w_cons ?_
  | with_reducible refine w_nil ?_
  | with_reducible refine w_cb ?_
  | with_reducible refine w_int1 ?_
  | with_reducible refine w_int1b ?_
  | with_reducible refine w_call ?_
  | with_reducible refine w_ifs ?_
  | with_reducible refine w_test ?_
  | with_reducible refine w_k ?_
  | with_reducible refine w_ret ?_
  | with_reducible refine w_drop ?_
  | with_reducible refine w_not ?_
  | with_reducible refine w_and ?_
  | with_reducible refine w_or ?_
  | with_reducible refine w_andV ?_
  | with_reducible refine w_orV ?_
  | with_reducible refine w_notV ?_
  | with_reducible refine w_if ?_
  | with_reducible refine w_B ?_
  | with_reducible refine w_un ?_
  | with_reducible refine w_U ?_
  | (with_reducible refine w_tup ?_; intro _ _)
  | (with_reducible refine w_lst ?_; intro _ _)
  | with_reducible refine w_dget ?_
  | with_reducible refine w_dput ?_
  | with_reducible refine w_fld ?_
  | with_reducible refine w_meth ?_
  | (with_reducible refine w_make ?_; intro _ _)
  | with_reducible refine w_par ?_
  | with_reducible refine w_par3 ?_
  | with_reducible refine w_two ?_
  | with_reducible refine w_three ?_
  | with_reducible refine w_one ?_
  | with_reducible refine w_chain ?_
  | with_reducible refine w_next ?_
  | with_reducible refine w_brk ?_
  | with_reducible refine w_cont ?_
  | with_reducible refine w_retN ?_
  | with_reducible refine w_gcons ?_
  | with_reducible refine w_gnil ?_
  | ((with_reducible refine w_eq ?_ ?_); exact rfl)
  | ((with_reducible refine w_ne ?_ ?_); exact rfl)
  | with_reducible refine w_part ?_
  | with_reducible refine w_lc ?_
  | with_reducible refine w_yes ?_
  | with_reducible refine w_iTup ?_
  | with_reducible refine w_iList ?_
  | with_reducible refine w_unT ?_
  | with_reducible refine w_unT0 ?_
  | with_reducible refine w_unL ?_
  | with_reducible refine w_unL0 ?_
  | ((with_reducible apply w_gtup); (walk_at "get"); (exact rfl))
  | with_reducible refine w_gfld ?_
  | with_reducible refine w_sfld ?_
  | with_reducible refine w_risi ?_
  | with_reducible refine w_i ?_
  | with_reducible refine w_pnil ?_
  | with_reducible refine w_pcons ?_
  | with_reducible refine w_sl ?_
  | with_reducible refine w_nopart ?_
  | with_reducible refine w_for ?_
  | with_reducible refine w_while ?_
  | with_reducible refine w_irng1 ?_
  | with_reducible refine w_irng2 ?_
  | with_reducible refine And.intro (rfl : V.non = V.non) ?_)
local macro_rules | `(tactic| walk_at "go") => `(tactic| repeat (walk_at "s"))

def pen (c : Addr) (a l : Int) : List (Key × V) := [(Sum.inr "cells", .ref c), (Sum.inr "at", .int a), (Sum.inr "left", .int l)]
theorem pen_cells (c : Addr) (a l : Int) : valV (pen c a l) (Sum.inr "cells") = some (.ref c) := by unfold pen valV; simp
theorem pen_at (c : Addr) (a l : Int) : valV (pen c a l) (Sum.inr "at") = some (.int a) := by
  have h : ¬ (("cells" : Str) = "at") := by decide +kernel
  unfold pen valV; simp [h]
theorem pen_left (c : Addr) (a l : Int) : valV (pen c a l) (Sum.inr "left") = some (.int l) := by
  have h : ¬ (("cells" : Str) = "left") := by decide +kernel
  have h2 : ¬ (("at" : Str) = "left") := by decide +kernel
  unfold pen valV; simp [h, h2]
theorem pen_put_at (c : Addr) (a l b : Int) : putK (pen c a l) (Sum.inr "at") (.int b) = pen c b l := by
  have h : ¬ (("cells" : Str) = "at") := by decide +kernel
  have h2 : ¬ (("left" : Str) = "at") := by decide +kernel
  unfold pen putK; simp [h, h2]
theorem pen_put_left (c : Addr) (a l b : Int) : putK (pen c a l) (Sum.inr "left") (.int b) = pen c a b := by
  have h : ¬ (("cells" : Str) = "left") := by decide +kernel
  have h2 : ¬ (("at" : Str) = "left") := by decide +kernel
  unfold pen putK; simp [h, h2]
theorem pen_len (c : Addr) (a l : Int) : (pen c a l).length < sizeLine := Nat.lt_of_lt_of_le (show 3 < 4 by decide) (by decide)
/-- a pen at d, at most n cells begun -/
structure Pen (H : Hp) (d : Addr) (n : Nat) : Prop where
  ex : ∃ (c : Addr) (ns : List Int) (a l : Int), H d = some (.dK (pen c a l)) ∧ H c = some (.lst (ns.map V.int)) ∧ 0 ≤ a ∧ a ≤ n ∧ 0 ≤ l ∧ ns.length ≤ 63
theorem Pen.same {H H' : Hp} {d : Addr} {n : Nat} (s : Same H H') (p : Pen H d n) : Pen H' d n := by
  obtain ⟨c, ns, a, l, h1, h2, h⟩ := p.ex
  exact ⟨c, ns, a, l, s _ _ h1, s _ _ h2, h⟩
theorem Pen.mono {H : Hp} {d : Addr} {n m : Nat} (p : Pen H d n) (h : n ≤ m) : Pen H d m := by
  obtain ⟨c, ns, a, l, h1, h2, h3, h4, h5⟩ := p.ex
  exact ⟨c, ns, a, l, h1, h2, h3, by omega, h5⟩
section
variable {P : Program} {w : World} {K : PySem.W.Frag} {mg : Str → Option Value} {base : Heap}
/-- draw: a number below many -/
def sp_draw : Sp := fun vs H Q _ => ∃ (d : Addr) (many : Int) (n : Nat), vs = [.ref d, .int many] ∧ Pen H d n ∧ n ≤ 1000000 ∧ 0 < many ∧ many < 2 ^ 200 ∧
  ∀ (r : Int) (H' : Hp), 0 ≤ r → r < many → Pen H' d (n + 1) → Keep H H' → Q (.int r) H'
theorem ok__law_draw (T : Tx w K mg) : FnOk P w K mg base CX0 1 T.f__law_draw T.fd__law_draw ["_law_pen_here", "_law_many"] sp_draw := by
  refine T.F__law_draw.ok sc__law_draw (fun vs H Q E h => ?_) (fun cdv A outer s H vs Q E hr h => ?_)
  · obtain ⟨d, many, n, rfl, _⟩ := h
    rfl
  · obtain ⟨d, many, n, rfl, hp, hn, h0, hb, q⟩ := h
    have hu := hu_of hr
    have hu64 := hu64_of hr
    obtain ⟨c, ns, a, l, h1, h2, ha0, han, hl0, hlen⟩ := hp.ex
    have hlog : many.natAbs.log2 < 9000 := log_lt h0 hb (by decide)
    refine ⟨_, (pss_cons (ps_if (pt_cmpR op_ge (pe_dget hu (pv 0) pe_str (fun _ _ => rfl)) (pv 1) (nomark _)) (pss_cons (ps_set (i := 2) sc__law_draw.nd rfl (Or.inl rfl) (pe_op op_mod (pe_callTy call_int1 (by rfl) T.z_int (by decide +kernel) (pa_cons (pe_dget hu (pv 0) pe_str (fun _ _ => rfl)) pa_nil)) (pv 1)))
      (pss_cons (ps_dput hu (pv 0) pe_str (pe_op op_fdivW (pe_dget hu (pv 0) pe_str (fun _ _ => rfl)) (pv 1)) rfl)
      (pss_one (ps_ret (pv 2))))) pss_nil)
      (pss_cons (ps_set (i := 3) sc__law_draw.nd rfl (Or.inl rfl) (pe_dget hu (pv 0) pe_str (fun _ _ => rfl)))
      (pss_cons (ps_dput hu (pv 0) pe_str (pe_op op_add (pv 3) pe_int) rfl)
      (pss_cons (ps_set (i := 4) sc__law_draw.nd rfl (Or.inl rfl) (pe_op op_add (pe_op op_mulA pe_int (pv 3)) pe_int))
      (pss_cons (ps_if (pt_cmpR (op_neD hu64) (pe_dget hu (pv 0) pe_str (fun _ _ => rfl)) (pe_lst pa_nil) (nomark _)) (pss_one (ps_set (i := 4) sc__law_draw.nd rfl (Or.inl rfl) (pe_ix ix_list (pe_dget hu (pv 0) pe_str (fun _ _ => rfl)) (pe_op op_mod (pe_callTy call_int1 (by rfl) T.z_int (by decide +kernel) (pa_cons (pv 3) pa_nil)) (pe_callB call_len_seq (by rfl) T.z_len PySem.boot_len (pa_cons (pe_dget hu (pv 0) pe_str (fun _ _ => rfl)) pa_nil))) (fun _ _ => rfl)))) pss_nil)
      (pss_cons (ps_if (PW.pt (pw_and (pt_cmpR op_lt (pv 3) (pe_callB call_len_seq (by rfl) T.z_len PySem.boot_len (pa_cons (pe_dget hu (pv 0) pe_str (fun _ _ => rfl)) pa_nil)) (nomark _)) (pw_and1 (pt_cmpR op_ge (pv 4) (pe_op op_pow pe_int pe_int) (nomark _))))) (pss_cons (ps_dput hu (pv 0) pe_str (pe_op op_fdivW (pe_op op_sub (pv 4) (pe_op op_pow pe_int pe_int)) (pv 1)) rfl)
      (pss_one (ps_ret (pe_op op_mod (pe_callTy call_int1 (by rfl) T.z_int (by decide +kernel) (pa_cons (pe_op op_sub (pv 4) (pe_op op_pow pe_int pe_int)) pa_nil)) (pv 1))))) pss_nil)
      (pss_cons (ps_set (i := 5) sc__law_draw.nd rfl (Or.inl rfl) (pe_op op_add (pe_op op_add (pe_op op_add (pe_op op_mulA (pe_op op_mod (pe_callTy call_int1 (by rfl) T.z_int (by decide +kernel) (pa_cons (pv 4) pa_nil)) pe_int) pe_int) (pe_op op_mulA (pe_op op_mulA pe_int (pv 3)) (pv 3))) (pe_op op_mulA pe_int (pv 3))) pe_int))
      (pss_cons (ps_set (i := 5) sc__law_draw.nd rfl (Or.inl rfl) (pe_op op_mod (pe_callTy call_int1 (by rfl) T.z_int (by decide +kernel) (pa_cons (pv 5) pa_nil)) pe_int))
      (pss_cons (ps_set (i := 5) sc__law_draw.nd rfl (Or.inl rfl) (pe_op op_mod (pe_callTy call_int1 (by rfl) T.z_int (by decide +kernel) (pa_cons (pe_op op_mulA (pv 5) (pe_op op_add (pv 5) pe_int)) pa_nil)) pe_int))
      (pss_one (ps_ret (pe_op op_mod (pe_callTy call_int1 (by rfl) T.z_int (by decide +kernel) (pa_cons (pe_op op_fdivW (pe_op op_mod (pe_callTy call_int1 (by rfl) T.z_int (by decide +kernel) (pa_cons (pe_op op_mulA (pv 5) (pv 5)) pa_nil)) pe_int) pe_int) pa_nil)) (pv 1))))))))))))), ?_⟩
    walk_at "go"
    refine w_dg h1 (pen_left _ _ _) ?_
    walk_at "go"
    refine w_ite (fun hc => ?_) (fun hc => ?_)
    · walk_at "go"
      refine w_dg h1 (pen_left _ _ _) ?_
      walk_at "go"
      refine w_dg h1 (pen_left _ _ _) ?_
      walk_at "go"
      refine w_dp h1 (pen_len _ _ _) ?_
      rw [pen_put_left]
      walk_at "go"
      refine q _ _ (Int.emod_nonneg _ (by omega)) (Int.emod_lt_of_pos _ h0) ⟨c, ns, a, l / many, upd_same, ?_, ha0, by omega, Int.ediv_nonneg hl0 (by omega), hlen⟩ (keep_dict h1)
      rw [upd_ne (ne_of h2 h1 (by intro z; cases z))]
      exact h2
    · walk_at "go"
      refine w_dg h1 (pen_at _ _ _) ?_
      walk_at "go"
      refine w_dp h1 (pen_len _ _ _) ?_
      rw [pen_put_at]
      obtain ⟨H1, k1, e1, e2, z1⟩ : ∃ H1, Keep H H1 ∧ H1 d = some (.dK (pen c (a + 1) l)) ∧ H1 c = some (.lst (ns.map V.int)) ∧ upd H d (.dK (pen c (a + 1) l)) = H1 := ⟨_, keep_dict h1, upd_same, by rw [upd_ne (ne_of h2 h1 (by intro z; cases z))]; exact h2, rfl⟩
      rw [z1]
      walk_at "go"
      refine w_dg e1 (pen_cells _ _ _) ?_
      walk_at "go"
      refine w_new (by assumption) (Nat.zero_le _) (fun p H2 np s2 hp => ?_)
      walk_at "go"
      refine w_neNil (s2 _ _ e2) hp ?_
      walk_at "go"
      have f1 := s2 _ _ e1
      have f2 := s2 _ _ e2
      have kk : Keep H H2 := k1.same s2
      refine w_iteB (fun hc => ?yes) (fun hc => ?no)
      case' yes =>
        walk_at "go"
        refine w_dg f1 (pen_cells _ _ _) ?_
        walk_at "go"
        refine w_dg f1 (pen_cells _ _ _) ?_
        walk_at "go"
        refine w_lenL f2 ?_
        have h63 : 0 < ((ns.map V.int).length : Int) := by
          rw [List.length_map]
          cases ns with
          | nil => cases hc
          | cons x r => exact Int.natCast_pos.mpr (Nat.succ_pos _)
        walk_at "go"
        obtain ⟨z, hz⟩ := at_ints (ns := ns) (i := a % ((ns.map V.int).length : Int)) (Int.emod_nonneg _ (by omega)) (by
          have := Int.emod_lt_of_pos a h63
          rw [List.length_map] at this ⊢
          exact this)
        refine w_ixL f2 hz ?_
      all_goals
        walk_at "go"
        refine w_dg f1 (pen_cells _ _ _) ?_
        walk_at "go"
        refine w_lenL f2 ?_
        walk_at "go"
        refine w_ite (fun hd => ?_) (fun hd => ?_)
        · walk_at "go"
          refine w_ite (fun he => ?_) (fun he => ?_)
          · walk_at "go"
            refine w_dp f1 (pen_len _ _ _) ?_
            rw [pen_put_left]
            walk_at "go"
            refine q _ _ (Int.emod_nonneg _ (by omega)) (Int.emod_lt_of_pos _ h0) ⟨c, ns, a + 1, _, upd_same, ?_, by omega, by omega, Int.ediv_nonneg ?_ (by omega), hlen⟩ (kk.trans (keep_dict f1))
            · rw [upd_ne (ne_of f2 f1 (by intro z; cases z))]
              exact f2
            · have e18 : (10 : Int) ^ (18 : Int).toNat = 1000000000000000000 := by decide
              rw [e18] at he ⊢
              omega
          · walk_at "go"
            exact q _ _ (Int.emod_nonneg _ (by omega)) (Int.emod_lt_of_pos _ h0) ⟨c, ns, a + 1, l, f1, f2, by omega, by omega, hl0, hlen⟩ kk
        · refine iteF ?_
          walk_at "go"
          exact q _ _ (Int.emod_nonneg _ (by omega)) (Int.emod_lt_of_pos _ h0) ⟨c, ns, a + 1, l, f1, f2, by omega, by omega, hl0, hlen⟩ kk
end
end K04
namespace K04
open PySem L2 DS
set_option pp.maxSteps 1200
local macro_rules | `(tactic| walk_at "c") => `(tactic| first
  | (dsimp only; omega)
  | omega
  | (show CMulA _ _; first | exact CMulA.s1 (by omega) (by omega) | exact CMulA.s2 (by omega) (by omega))
  | (show CDivW _ _; first | exact ⟨by omega, by assumption⟩ | exact ⟨by omega, by decide⟩)
  | (show CPow _ _; exact ⟨by decide, by decide, by decide⟩)
  | assumption)
local macro_rules | `(tactic| walk_at "get") => `(tactic| first
  | assumption
  | (refine (by assumption : Same _ _) _ _ ?_; walk_at "get")
  | (refine (by assumption : Keep _ _) _ _ ?_ rfl; walk_at "get"))
local macro_rules | `(tactic| walk_at "pen") => `(tactic| first
  | assumption
  | (refine Pen.same (by assumption) ?_; walk_at "pen")
  | (refine Pen.mono ?_ (by omega); assumption))
local macro_rules | `(tactic| walk_at "keep") => `(tactic| first
  | assumption
  | exact Keep.refl _
  | exact Keep.of (by assumption)
  | (refine Keep.trans ?_ (by assumption); walk_at "keep")
  | (refine Keep.same ?_ (by assumption); walk_at "keep"))
local macro_rules | `(tactic| walk_at "same") => `(tactic| first
  | assumption
  | exact Same.refl _
  | (refine Same.trans ?_ (by assumption); walk_at "same"))
local macro_rules | `(tactic| walk_at "s") => `(tactic| first
  | with_reducible refine w_seq ?_
  | with_reducible refine w_asg ?_
  | with_reducible refine w_name ?_
  | ((with_reducible apply w_var); exact rfl)
  | with_reducible refine w_c ?_
  | with_reducible refine w_op ?_
  | with_reducible refine w_I0 ?_
  | ((with_reducible apply w_I); (walk_at "c"))
  | with_reducible refine w_cons ?_
  | with_reducible refine w_nil ?_
  | with_reducible refine w_cb ?_
  | with_reducible refine w_int1 ?_
  | with_reducible refine w_int1b ?_
  | with_reducible refine w_call ?_
  | with_reducible refine w_ifs ?_
  | with_reducible refine w_test ?_
  | with_reducible refine w_k ?_
  | with_reducible refine w_ret ?_
  | with_reducible refine w_drop ?_
  | with_reducible refine w_not ?_
  | with_reducible refine w_and ?_
  | with_reducible refine w_or ?_
  | with_reducible refine w_andV ?_
  | with_reducible refine w_orV ?_
  | with_reducible refine w_notV ?_
  | with_reducible refine w_if ?_
  | with_reducible refine w_B ?_
  | with_reducible refine w_un ?_
  | with_reducible refine w_U ?_
  | (with_reducible refine w_tup ?_; intro _ _)
  | (with_reducible refine w_lst ?_; intro _ _)
  | with_reducible refine w_dget ?_
  | with_reducible refine w_dput ?_
  | with_reducible refine w_fld ?_
  | with_reducible refine w_meth ?_
  | (with_reducible refine w_make ?_; intro _ _)
  | with_reducible refine w_par ?_
  | with_reducible refine w_par3 ?_
  | with_reducible refine w_two ?_
  | with_reducible refine w_three ?_
  | with_reducible refine w_one ?_
  | with_reducible refine w_chain ?_
  | with_reducible refine w_next ?_
  | with_reducible refine w_brk ?_
  | with_reducible refine w_cont ?_
  | with_reducible refine w_retN ?_
  | with_reducible refine w_gcons ?_
  | with_reducible refine w_gnil ?_
  | ((with_reducible refine w_eq ?_ ?_); exact rfl)
  | ((with_reducible refine w_ne ?_ ?_); exact rfl)
  | with_reducible refine w_part ?_
  | with_reducible refine w_lc ?_
  | with_reducible refine w_yes ?_
  | with_reducible refine w_iTup ?_
  | with_reducible refine w_iList ?_
  | with_reducible refine w_unT ?_
  | with_reducible refine w_unT0 ?_
  | with_reducible refine w_unL ?_
  | with_reducible refine w_unL0 ?_
  | ((with_reducible apply w_gtup); (walk_at "get"); (exact rfl))
  | with_reducible refine w_gfld ?_
  | with_reducible refine w_sfld ?_
  | with_reducible refine w_risi ?_
  | with_reducible refine w_i ?_
  | with_reducible refine w_pnil ?_
  | with_reducible refine w_pcons ?_
  | with_reducible refine w_sl ?_
  | with_reducible refine w_nopart ?_
  | with_reducible refine w_for ?_
  | with_reducible refine w_while ?_
  | with_reducible refine w_irng1 ?_
  | with_reducible refine w_irng2 ?_
  | with_reducible refine And.intro (rfl : V.non = V.non) ?_)
local macro_rules | `(tactic| walk_at "go") => `(tactic| repeat (walk_at "s"))

section
variable {P : Program} {w : World} {K : PySem.W.Frag} {mg : Str → Option Value} {base : Heap}
def sp_pick : Sp := fun vs H Q _ => ∃ (d l : Addr) (xs : List V) (n : Nat), vs = [.ref d, .ref l] ∧ Pen H d n ∧ n ≤ 1000000 ∧ H l = some (.lst xs) ∧ 0 < xs.length ∧ xs.length ≤ 1000 ∧
  ∀ (v : V) (H' : Hp), v ∈ xs → Pen H' d (n + 1) → Keep H H' → Q v H'
theorem ok__law_pick (T : Tx w K mg) : FnOk P w K mg base CX0 2 T.f__law_pick T.fd__law_pick ["_law_pen_here", "_law_items"] sp_pick := by
  refine T.F__law_pick.ok sc__law_pick (fun vs H Q E h => ?_) (fun cdv A outer s H vs Q E hr h => ?_)
  · obtain ⟨d, l, xs, n, rfl, _⟩ := h
    rfl
  · obtain ⟨d, l, xs, n, rfl, hp, hn, hl, h0, h1, q⟩ := h
    have hu := hu_of hr
    have hu64 := hu64_of hr
    refine ⟨_, (pss_one (ps_ret (pe_ix ix_list (pv 1) (pe_call (ok__law_draw T) (hr.mono (by decide)) rfl T.g__law_draw T.F__law_draw.kp T.b__law_draw .nil pass0 (pa_cons (pv 0) (pa_cons (pe_callB call_len_seq (by rfl) T.z_len PySem.boot_len (pa_cons (pv 1) pa_nil)) pa_nil))) (fun _ _ => rfl)))), ?_⟩
    walk_at "go"
    refine w_lenL hl ?_
    walk_at "go"
    refine ⟨d, _, n, rfl, hp, hn, by omega, Int.lt_of_lt_of_le (show ((xs.length : Nat) : Int) < 1001 by omega) (by decide), fun r H1 r0 r1 p1 k1 => ?_⟩
    obtain ⟨v, hv, hm⟩ := at_any r0 r1
    refine w_ixL (k1 _ _ hl rfl) hv ?_
    walk_at "go"
    exact q v H1 hm p1 k1
/-- ten to the power of count -/
def sp_ten : Sp := fun vs H Q _ => ∃ n : Nat, vs = [.int n] ∧ n ≤ 10000 ∧ ∀ H', Same H H' → Q (.int (10 ^ n)) H'
theorem ok__law_ten (T : Tx w K mg) : FnOk P w K mg base CX0 1 T.f__law_ten T.fd__law_ten ["_law_count"] sp_ten := by
  refine T.F__law_ten.ok sc__law_ten (fun vs H Q E h => ?_) (fun cdv A outer s H vs Q E hr h => ?_)
  · obtain ⟨n, rfl, _⟩ := h
    rfl
  · obtain ⟨n, rfl, hn, q⟩ := h
    have hu := hu_of hr
    have hu64 := hu64_of hr
    refine ⟨_, (pss_cons (ps_set (i := 1) sc__law_ten.nd rfl (Or.inl rfl) pe_int)
      (pss_cons (ps_for PassesOwn.never rfl (pi_range1 (by rfl) T.z_range (pa_cons (pv 0) pa_nil)) (pg_name (i := 2) sc__law_ten.nd rfl (Or.inl rfl))
      (pss_one (ps_set (i := 1) sc__law_ten.nd rfl (Or.inl rfl) (pe_op op_mulA (pv 1) pe_int))))
      (pss_one (ps_ret (pv 1))))), ?_⟩
    walk_at "go"
    refine ⟨by omega, by omega, ?_⟩
    refine for_range (fun i σ H' => i ≤ n ∧ H' = H ∧ ∃ z, σ = [some (.int n), some (.int (10 ^ i)), z]) ⟨Nat.zero_le _, rfl, none, rfl⟩ (fun i σ H' hi hI => ?_) (fun σ H' hI => ?_)
    · obtain ⟨hin, rfl, z, rfl⟩ := hI
      walk_at "go"
      refine ⟨by omega, rfl, some (.int (0 + i)), ?_⟩
      rw [Int.pow_succ]
      rfl
    · obtain ⟨hin, rfl, z, rfl⟩ := hI
      walk_at "go"
      have e : ((n : Int)).toNat = n := Int.toNat_natCast n
      rw [e]
      exact q _ (Same.refl _)
def sp_ways : Sp := fun vs H Q _ => vs = [] ∧ ∀ p H', H p = none → Same H H' → H' p = some (.lst (waysL.map V.str)) → Q (.ref p) H'
theorem ok__law_ways (T : Tx w K mg) : FnOk P w K mg base CX0 1 T.f__law_ways T.fd__law_ways [] sp_ways := by
  refine T.F__law_ways.ok sc__law_ways (fun vs H Q E h => ?_) (fun cdv A outer s H vs Q E hr h => ?_)
  · obtain ⟨rfl, _⟩ := h
    rfl
  · obtain ⟨rfl, q⟩ := h
    refine ⟨_, (pss_one (ps_ret (pe_lst (pa_cons pe_str (pa_cons pe_str (pa_cons pe_str (pa_cons pe_str (pa_cons pe_str (pa_cons pe_str (pa_cons pe_str (pa_cons pe_str (pa_cons pe_str pa_nil)))))))))))), ?_⟩
    walk_at "go"
    exact w_new (by assumption) (Nat.le_of_ble_eq_true rfl) (fun p H' np sm hp => q p H' np sm hp)
/-- the drawn units -/
def sp_units : Sp := fun vs H Q _ => ∃ (d : Addr) (n : Nat), vs = [.ref d] ∧ Pen H d n ∧ n ≤ 999900 ∧ ∀ (u : Int) (H' : Hp), u.natAbs < 2 ^ 300 → Pen H' d (n + 20) → Keep H H' → Q (.int u) H'
theorem ok__law_some_units (T : Tx w K mg) : FnOk P w K mg base CX0 3 T.f__law_some_units T.fd__law_some_units ["_law_pen_here"] sp_units := by
  refine T.F__law_some_units.ok sc__law_some_units (fun vs H Q E h => ?_) (fun cdv A outer s H vs Q E hr h => ?_)
  · obtain ⟨d, n, rfl, _⟩ := h
    rfl
  · obtain ⟨d, n, rfl, hp, hn, q⟩ := h
    have hu := hu_of hr
    have hu64 := hu64_of hr
    refine ⟨_, (pss_cons (ps_set (i := 1) sc__law_some_units.nd rfl (Or.inl rfl) (pe_call (ok__law_pick T) (hr.mono (by decide)) rfl T.g__law_pick T.F__law_pick.kp T.b__law_pick .nil pass0 (pa_cons (pv 0) (pa_cons (pe_lst (pa_cons pe_int (pa_cons pe_int (pa_cons pe_int (pa_cons pe_int (pa_cons pe_int (pa_cons pe_int (pa_cons pe_int (pa_cons pe_int (pa_cons pe_int (pa_cons pe_int (pa_cons (pe_call (ok__law_draw T) (hr.mono (by decide)) rfl T.g__law_draw T.F__law_draw.kp T.b__law_draw .nil pass0 (pa_cons (pv 0) (pa_cons pe_int pa_nil))) pa_nil)))))))))))) pa_nil))))
      (pss_cons (ps_set (i := 2) sc__law_some_units.nd rfl (Or.inl rfl) (pe_op op_sub (pe_op op_add (pe_call (ok__law_ten T) (hr.mono (by decide)) rfl T.g__law_ten T.F__law_ten.kp T.b__law_ten .nil pass0 (pa_cons (pe_op op_add pe_int (pe_call (ok__law_draw T) (hr.mono (by decide)) rfl T.g__law_draw T.F__law_draw.kp T.b__law_draw .nil pass0 (pa_cons (pv 0) (pa_cons pe_int pa_nil)))) pa_nil)) (pe_call (ok__law_draw T) (hr.mono (by decide)) rfl T.g__law_draw T.F__law_draw.kp T.b__law_draw .nil pass0 (pa_cons (pv 0) (pa_cons pe_int pa_nil)))) pe_int))
      (pss_cons (ps_set (i := 3) sc__law_some_units.nd rfl (Or.inl rfl) (pe_call (ok__law_pick T) (hr.mono (by decide)) rfl T.g__law_pick T.F__law_pick.kp T.b__law_pick .nil pass0 (pa_cons (pv 0) (pa_cons (pe_lst (pa_cons (pv 1) (pa_cons (pv 1) (pa_cons (pv 1) (pa_cons (pv 2) (pa_cons (pe_op op_fdivW (pv 2) pe_int) (pa_cons (pe_op op_mulA (pv 1) (pv 2)) (pa_cons (pe_call (ok__law_draw T) (hr.mono (by decide)) rfl T.g__law_draw T.F__law_draw.kp T.b__law_draw .nil pass0 (pa_cons (pv 0) (pa_cons (pe_op op_pow pe_int pe_int) pa_nil))) pa_nil)))))))) pa_nil))))
      (pss_one (ps_ret (pe_ifExp (pt_cmpR op_eq (pe_call (ok__law_draw T) (hr.mono (by decide)) rfl T.g__law_draw T.F__law_draw.kp T.b__law_draw .nil pass0 (pa_cons (pv 0) (pa_cons pe_int pa_nil))) pe_int (nomark _)) (pe_un un_neg (pv 3)) (pv 3))))))), ?_⟩
    walk_at "go"
    refine ⟨d, 1000, n, rfl, hp, by omega, by omega, by decide, fun r1 H1 a1 b1 p1 k1 => ?_⟩
    walk_at "go"
    refine w_new (by assumption) (Nat.le_of_ble_eq_true rfl) (fun l2 H2 n2 s2 e2 => ?_)
    walk_at "go"
    refine ⟨d, l2, _, n + 1, rfl, by walk_at "pen", by omega, e2, Nat.le_of_ble_eq_true rfl, Nat.le_of_ble_eq_true rfl, fun v3 H3 m3 p3 k3 => ?_⟩
    obtain ⟨few, rfl, few0, few1⟩ : ∃ few : Int, v3 = .int few ∧ 0 ≤ few ∧ few < 1000 := by
      simp only [List.mem_cons, List.not_mem_nil, or_false] at m3
      rcases m3 with h | h | h | h | h | h | h | h | h | h | h <;> exact ⟨_, h, by omega, by omega⟩
    walk_at "go"
    refine ⟨d, 40, n + 2, rfl, p3, by omega, by omega, by decide, fun r4 H4 a4 b4 p4 k4 => ?_⟩
    walk_at "go"
    obtain ⟨e4, rfl⟩ := Int.eq_ofNat_of_zero_le a4
    refine ⟨3 + e4, by simp, by omega, fun H5 s5 => ?_⟩
    walk_at "go"
    refine ⟨d, 3, n + 3, rfl, p4.same s5, by omega, by omega, by decide, fun r6 H6 a6 b6 p6 k6 => ?_⟩
    have t4 := ten_lt (3 + e4)
    have t5 : ((10 : Int) ^ (3 + e4)).natAbs < 2 ^ 180 := pow_wide t4 (by omega)
    have t0 : (0 : Int) < 10 ^ (3 + e4) := Int.pow_pos (by decide)
    have tb : (2 : Nat) ^ 180 = 1532495540865888858358347027150309183618739122183602176 := by decide +kernel
    generalize (10 : Int) ^ (3 + e4) = ten at *
    have g0 : (0 : Int) ≤ ten + r6 - 1 := by omega
    have g1 : (ten + r6 - 1).natAbs < 2 ^ 181 := by
      have : (2 : Nat) ^ 181 = 2 * 2 ^ 180 := by decide +kernel
      omega
    walk_at "go"
    generalize hg : ten + r6 - 1 = great at *
    have c1 : CMulA few great := CMulA.s1 (by omega) (by omega)
    walk_at "go"
    refine ⟨d, 10 ^ 30, n + 4, rfl, p6, by omega, by decide, by decide, fun r7 H7 a7 b7 p7 k7 => ?_⟩
    walk_at "go"
    refine w_new (by assumption) (Nat.le_of_ble_eq_true rfl) (fun l8 H8 n8 s8 e8 => ?_)
    walk_at "go"
    refine ⟨d, l8, _, n + 5, rfl, by walk_at "pen", by omega, e8, Nat.le_of_ble_eq_true rfl, Nat.le_of_ble_eq_true rfl, fun v9 H9 m9 p9 k9 => ?_⟩
    obtain ⟨found, rfl, found1⟩ : ∃ found : Int, v9 = .int found ∧ found.natAbs < 2 ^ 300 := by
      have e300 : (2 : Nat) ^ 300 = 2 ^ 181 * 2 ^ 119 := by decide +kernel
      have e181 : (2 : Nat) ^ 181 = 3064991081731777716716694054300618367237478244367204352 := by decide +kernel
      have e119 : (2 : Nat) ^ 119 = 664613997892457936451903530140172288 := by decide +kernel
      have e30 : (10 : Int) ^ 30 = 1000000000000000000000000000000 := by decide +kernel
      simp only [List.mem_cons, List.not_mem_nil, or_false] at m9
      rcases m9 with h | h | h | h | h | h | h
      · exact ⟨_, h, by omega⟩
      · exact ⟨_, h, by omega⟩
      · exact ⟨_, h, by omega⟩
      · exact ⟨_, h, by omega⟩
      · exact ⟨_, h, by omega⟩
      · refine ⟨_, h, ?_⟩
        have := wide_lt (i := few) (j := great) (a := 10) (b := 181) (by omega) g1
        exact pow_wide this (by decide)
      · exact ⟨_, h, by omega⟩
    walk_at "go"
    refine ⟨d, 2, n + 6, rfl, p9, by omega, by omega, by decide, fun r10 H10 a10 b10 p10 k10 => ?_⟩
    have K10 : Keep H H10 := by walk_at "keep"
    have P10 : Pen H10 d (n + 20) := p10.mono (by omega)
    walk_at "go"
    refine w_ite (fun hc => ?_) (fun hc => ?_)
    · walk_at "go"
      exact q _ _ (by rw [Int.natAbs_neg]; exact found1) P10 K10
    · walk_at "go"
      exact q _ _ found1 P10 K10
def sp_pen (K : PySem.W.Frag) : Sp := fun vs H Q _ => ∃ (a : Addr) (ns : List Int), vs = [.ref a] ∧ SqL K H a (ns.map V.int) ∧ ns.length ≤ 63 ∧
  ∀ (d : Addr) (H' : Hp), Pen H' d 0 → Same H H' → Q (.ref d) H'
theorem ok__law_pen (T : Tx w K mg) : FnOk P w K mg base CX0 1 T.f__law_pen T.fd__law_pen ["_law_script"] (sp_pen K) := by
  refine T.F__law_pen.ok sc__law_pen (fun vs H Q E h => ?_) (fun cdv A outer s H vs Q E hr h => ?_)
  · obtain ⟨a, ns, rfl, _⟩ := h
    rfl
  · obtain ⟨a, ns, rfl, hS, hl, q⟩ := h
    have hu := hu_of hr
    have hu64 := hu64_of hr
    refine ⟨_, (pss_one (ps_ret (pe_disp (pps_cons pe_str (pe_callTy call_list_of (by rfl) T.z_list (by decide +kernel) (pa_cons (pe_slice sl_list (pv 0) po_none (po_some pe_int)) pa_nil)) (pps_cons pe_str pe_int (pps_cons pe_str pe_int pps_nil))) rfl rfl (by simp) (by decide)))), ?_⟩
    walk_at "go"
    refine w_disp (fun Q' eQ p H1 np s1 hp => ?_)
    walk_at "go"
    refine w_slL (s1.seq hS) (fun l2 H2 n2 s2 e2 => ?_)
    walk_at "go"
    obtain ⟨ms, em, lm⟩ := cut_ints ns none (some 63)
    rw [em] at e2
    refine ⟨l2, _, rfl, .inl (.inl (.inl e2)), fun l3 n3 => ?_⟩
    have s3 := same_upd (o := .lst (ms.map V.int)) n3
    have e3 : upd H2 l3 (.lst (ms.map V.int)) l3 = some (.lst (ms.map V.int)) := upd_same
    walk_at "go"
    generalize upd H2 l3 (.lst (ms.map V.int)) = H3 at *
    refine w_dend [(Sum.inr "cells", .ref l3), (Sum.inr "at", .int 0), (Sum.inr "left", .int 0)] eQ (s3 _ _ (s2 _ _ hp)) rfl (Nat.le_of_ble_eq_true rfl) (fun H4 k4 sm4 e4 => ?_)
    refine q p H4 ⟨l3, ms, 0, 0, ?_, k4 _ _ e3 rfl, Int.le_refl _, Int.le_refl _, Int.le_refl _, by omega⟩ (sm4 H ((s1.trans s2).trans s3) np)
    rw [e4]
    rfl
end
end K04
namespace K04
open PySem L2 DS
set_option pp.maxSteps 1200
local macro_rules | `(tactic| walk_at "c") => `(tactic| first
  | (dsimp only; omega)
  | omega
  | (show CMulA _ _; first | exact CMulA.s1 (by omega) (by omega) | exact CMulA.s2 (by omega) (by omega))
  | (show CDivW _ _; first | exact ⟨by omega, by assumption⟩ | exact ⟨by omega, by decide⟩)
  | (show CPow _ _; exact ⟨by decide, by decide, by decide⟩)
  | assumption)
local macro_rules | `(tactic| walk_at "get") => `(tactic| first
  | assumption
  | (refine (by assumption : Same _ _) _ _ ?_; walk_at "get")
  | (refine (by assumption : Keep _ _) _ _ ?_ rfl; walk_at "get"))
local macro_rules | `(tactic| walk_at "pen") => `(tactic| first
  | assumption
  | (refine Pen.same (by assumption) ?_; walk_at "pen")
  | (refine Pen.mono ?_ (by omega); assumption))
local macro_rules | `(tactic| walk_at "keep") => `(tactic| first
  | assumption
  | exact Keep.refl _
  | exact Keep.of (by assumption)
  | (refine Keep.trans ?_ (by assumption); walk_at "keep")
  | (refine Keep.same ?_ (by assumption); walk_at "keep"))
local macro_rules | `(tactic| walk_at "same") => `(tactic| first
  | assumption
  | exact Same.refl _
  | (refine Same.trans ?_ (by assumption); walk_at "same"))
local macro_rules | `(tactic| walk_at "s") => `(tactic| first
  | with_reducible refine w_seq ?_
  | with_reducible refine w_asg ?_
  | with_reducible refine w_name ?_
  | ((with_reducible apply w_var); exact rfl)
  | with_reducible refine w_c ?_
  | with_reducible refine w_op ?_
  | with_reducible refine w_I0 ?_
  | ((with_reducible apply w_I); (walk_at "c"))
  | with_reducible refine w_cons ?_
  | with_reducible refine w_nil ?_
  | with_reducible refine w_cb ?_
  | with_reducible refine w_int1 ?_
  | with_reducible refine w_int1b ?_
  | with_reducible refine w_call ?_
  | with_reducible refine w_ifs ?_
  | with_reducible refine w_test ?_
  | with_reducible refine w_k ?_
  | with_reducible refine w_ret ?_
  | with_reducible refine w_drop ?_
  | with_reducible refine w_not ?_
  | with_reducible refine w_and ?_
  | with_reducible refine w_or ?_
  | with_reducible refine w_andV ?_
  | with_reducible refine w_orV ?_
  | with_reducible refine w_notV ?_
  | with_reducible refine w_if ?_
  | with_reducible refine w_B ?_
  | with_reducible refine w_un ?_
  | with_reducible refine w_U ?_
  | (with_reducible refine w_tup ?_; intro _ _)
  | (with_reducible refine w_lst ?_; intro _ _)
  | with_reducible refine w_dget ?_
  | with_reducible refine w_dput ?_
  | with_reducible refine w_fld ?_
  | with_reducible refine w_meth ?_
  | (with_reducible refine w_make ?_; intro _ _)
  | with_reducible refine w_par ?_
  | with_reducible refine w_par3 ?_
  | with_reducible refine w_two ?_
  | with_reducible refine w_three ?_
  | with_reducible refine w_one ?_
  | with_reducible refine w_chain ?_
  | with_reducible refine w_next ?_
  | with_reducible refine w_brk ?_
  | with_reducible refine w_cont ?_
  | with_reducible refine w_retN ?_
  | with_reducible refine w_gcons ?_
  | with_reducible refine w_gnil ?_
  | ((with_reducible refine w_eq ?_ ?_); exact rfl)
  | ((with_reducible refine w_ne ?_ ?_); exact rfl)
  | with_reducible refine w_part ?_
  | with_reducible refine w_lc ?_
  | with_reducible refine w_yes ?_
  | with_reducible refine w_iTup ?_
  | with_reducible refine w_iList ?_
  | with_reducible refine w_unT ?_
  | with_reducible refine w_unT0 ?_
  | with_reducible refine w_unL ?_
  | with_reducible refine w_unL0 ?_
  | ((with_reducible apply w_gtup); (walk_at "get"); (exact rfl))
  | with_reducible refine w_gfld ?_
  | with_reducible refine w_sfld ?_
  | with_reducible refine w_risi ?_
  | with_reducible refine w_i ?_
  | with_reducible refine w_pnil ?_
  | with_reducible refine w_pcons ?_
  | with_reducible refine w_sl ?_
  | with_reducible refine w_nopart ?_
  | with_reducible refine w_for ?_
  | with_reducible refine w_while ?_
  | with_reducible refine w_irng1 ?_
  | with_reducible refine w_irng2 ?_
  | with_reducible refine And.intro (rfl : V.non = V.non) ?_)
local macro_rules | `(tactic| walk_at "go") => `(tactic| repeat (walk_at "s"))

section
variable {P : Program} {w : World} {K : PySem.W.Frag} {mg : Str → Option Value} {base : Heap}
def sp_isint (K : PySem.W.Frag) : Sp := fun vs H Q _ => ∃ (v : V) (b : Bool), vs = [v] ∧ IntLike K H v b ∧ Q (.bl b) H
theorem ok_is_integer (T : Tx w K mg) : FnOk P w K mg base CX0 1 T.f_is_integer T.fd_is_integer ["value"] (sp_isint K) := by
  refine T.F_is_integer.ok sc_is_integer (fun vs H Q E h => ?_) (fun cdv A outer s H vs Q E hr h => ?_)
  · obtain ⟨v, b, rfl, _⟩ := h
    rfl
  · obtain ⟨v, b, rfl, ⟨r1, r2, i1, i2, rfl⟩, q⟩ := h
    refine ⟨_, (pss_one (ps_ret (pe_and (pe_callB call_isi (by rfl) T.z_isinstance (by decide +kernel) (pa_cons (pv 0) (pa_cons (pe_bltn (v := .ty "int") (by rfl) T.z_int (by decide +kernel) rfl) pa_nil))) (pe_one (pe_not (pe_callB call_isi (by rfl) T.z_isinstance (by decide +kernel) (pa_cons (pv 0) (pa_cons (pe_bltn (v := .ty "bool") (by rfl) T.z_bool (by decide +kernel) rfl) pa_nil)))))))), ?_⟩
    walk_at "go"
    refine w_isI i1 ?_
    walk_at "go"
    refine w_iteB (fun hc => ?_) (fun hc => ?_)
    · walk_at "go"
      refine w_isI i2 ?_
      walk_at "go"
      rw [hc] at q
      exact q
    · walk_at "go"
      rw [hc] at q
      exact q
def sp_iswhole (K : PySem.W.Frag) : Sp := fun vs H Q _ => ∃ v : V, vs = [v] ∧ ((∃ n, v = .int n ∧ Q (.bl (decide (0 ≤ n))) H) ∨ (IntLike K H v false ∧ Q (.bl false) H))
theorem ok_is_whole (T : Tx w K mg) : FnOk P w K mg base CX0 2 T.f_is_whole T.fd_is_whole ["value"] (sp_iswhole K) := by
  refine T.F_is_whole.ok sc_is_whole (fun vs H Q E h => ?_) (fun cdv A outer s H vs Q E hr h => ?_)
  · obtain ⟨v, rfl, _⟩ := h
    rfl
  · obtain ⟨v, rfl, q⟩ := h
    refine ⟨_, (pss_one (ps_ret (pe_and (pe_call (ok_is_integer T) (hr.mono (by decide)) rfl T.g_is_integer T.F_is_integer.kp T.b_is_integer .nil pass0 (pa_cons (pv 0) pa_nil)) (pe_one (pe_cmpR op_ge (pv 0) pe_int (nomark _)))))), ?_⟩
    walk_at "go"
    rcases q with ⟨n, rfl, q⟩ | ⟨i, q⟩
    · refine ⟨_, true, rfl, intLike_int, ?_⟩
      walk_at "go"
      refine iteT ?_
      walk_at "go"
      exact q
    · refine ⟨_, false, rfl, i, ?_⟩
      walk_at "go"
      exact iteF q
def sp_needint : Sp := fun vs H Q _ => ∃ n : Int, vs = [.int n] ∧ Q .non H
theorem ok_need_integer (T : Tx w K mg) : FnOk P w K mg base CX0 2 T.f_need_integer T.fd_need_integer ["value"] sp_needint := by
  refine T.F_need_integer.ok sc_need_integer (fun vs H Q E h => ?_) (fun cdv A outer s H vs Q E hr h => ?_)
  · obtain ⟨v, rfl, _⟩ := h
    rfl
  · obtain ⟨v, rfl, q⟩ := h
    refine ⟨_, (pss_one (ps_if (pt_not (pt_val (pe_call (ok_is_integer T) (hr.mono (by decide)) rfl T.g_is_integer T.F_is_integer.kp T.b_is_integer .nil pass0 (pa_cons (pv 0) pa_nil)))) (pss_never) pss_nil)), ?_⟩
    walk_at "go"
    refine ⟨_, true, rfl, intLike_int, ?_⟩
    walk_at "go"
    exact iteF q
def sp_needwhole : Sp := fun vs H Q _ => ∃ n : Int, vs = [.int n] ∧ 0 ≤ n ∧ Q .non H
theorem ok_need_whole (T : Tx w K mg) : FnOk P w K mg base CX0 3 T.f_need_whole T.fd_need_whole ["value"] sp_needwhole := by
  refine T.F_need_whole.ok sc_need_whole (fun vs H Q E h => ?_) (fun cdv A outer s H vs Q E hr h => ?_)
  · obtain ⟨v, rfl, _⟩ := h
    rfl
  · obtain ⟨v, rfl, h0, q⟩ := h
    refine ⟨_, (pss_one (ps_if (pt_not (pt_val (pe_call (ok_is_whole T) (hr.mono (by decide)) rfl T.g_is_whole T.F_is_whole.kp T.b_is_whole .nil pass0 (pa_cons (pv 0) pa_nil)))) (pss_never) pss_nil)), ?_⟩
    walk_at "go"
    refine ⟨_, rfl, .inl ⟨v, rfl, ?_⟩⟩
    walk_at "go"
    rw [decide_eq_true h0]
    exact iteF q
def sp_tento : Sp := fun vs H Q _ => ∃ n : Nat, vs = [.int n] ∧ n ≤ 10000 ∧ ∀ H', Same H H' → Q (.int (10 ^ n)) H'
theorem ok_ten_to (T : Tx w K mg) : FnOk P w K mg base CX0 1 T.f_ten_to T.fd_ten_to ["number"] sp_tento := by
  refine T.F_ten_to.ok sc_ten_to (fun vs H Q E h => ?_) (fun cdv A outer s H vs Q E hr h => ?_)
  · obtain ⟨v, rfl, _⟩ := h
    rfl
  · obtain ⟨n, rfl, hn, q⟩ := h
    refine ⟨_, (pss_cons (ps_asg (pe_tup (pa_cons pe_int (pa_cons pe_int pa_nil))) (pg_tup rfl (pgs_cons (pg_name (i := 1) sc_ten_to.nd rfl (Or.inl rfl)) (pgs_cons (pg_name (i := 2) sc_ten_to.nd rfl (Or.inl rfl)) pgs_nil))))
      (pss_cons (ps_while PassesOwn.never (pt_cmpR op_gt (pv 0) pe_int (nomark _)) (pss_cons (ps_if (pt_cmpR op_eq (pe_op op_mod (pv 0) pe_int) pe_int (nomark _)) (pss_one (ps_set (i := 1) sc_ten_to.nd rfl (Or.inl rfl) (pe_op op_mulA (pv 1) (pv 2)))) pss_nil)
      (pss_cons (ps_set (i := 2) sc_ten_to.nd rfl (Or.inl rfl) (pe_op op_mulA (pv 2) (pv 2)))
      (pss_one (ps_set (i := 0) sc_ten_to.nd rfl (Or.inl rfl) (pe_op op_fdivW (pv 0) pe_int))))))
      (pss_one (ps_ret (pv 1))))), ?_⟩
    walk_at "go"
    refine w_new (by assumption) (Nat.le_of_ble_eq_true rfl) (fun p1 H1 n1 s1 e1 => ?_)
    walk_at "go"
    refine ⟨fun m σ H' => H' = H1 ∧ ∃ a e : Nat, σ = [some (.int (m : Int)), some (.int (10 ^ a)), some (.int (10 ^ e))] ∧ a + e * m = n, ⟨n, rfl, 0, 1, rfl, by omega⟩, fun m σ H' hI => ?_⟩
    obtain ⟨rfl, a, e, rfl, hm⟩ := hI
    walk_at "go"
    refine w_ite (fun hc => ?_) (fun hc => ?_)
    · refine ⟨_, fun _ _ h => h, ?_⟩
      have he : e ≤ n := by
        have : e * 1 ≤ e * m := Nat.mul_le_mul_left e (by omega)
        omega
      have te := ten_lt e
      have ta := ten_lt a
      have c1 : CMulA ((10 : Int) ^ a) (10 ^ e) := CMulA.w ta te (by omega)
      have c2 : CMulA ((10 : Int) ^ e) (10 ^ e) := CMulA.w te te (by omega)
      have fin : ∀ b : Nat, b + e * (m % 2) = a + e * (m % 2) + 0 → True := fun _ _ => trivial
      have hmd : ((m : Int) % 2) = ((m % 2 : Nat) : Int) := rfl
      have hmq : ((m : Int) / 2) = ((m / 2 : Nat) : Int) := rfl
      have ee : (10 : Int) ^ e * 10 ^ e = 10 ^ (e + e) := (Int.pow_add _ _ _).symm
      have ea : (10 : Int) ^ a * 10 ^ e = 10 ^ (a + e) := (Int.pow_add _ _ _).symm
      have hsum : (e + e) * (m / 2) + e * (m % 2) = e * m := by
        have h1 : m = 2 * (m / 2) + m % 2 := by omega
        calc (e + e) * (m / 2) + e * (m % 2) = e * (2 * (m / 2) + m % 2) := by rw [Nat.mul_add, ← Nat.mul_assoc, Nat.mul_comm e 2, Nat.two_mul]
          _ = e * m := by rw [← h1]
      walk_at "go"
      refine w_ite (fun hd => ?_) (fun hd => ?_)
      all_goals
        rw [V_int] at hd
        walk_at "go"
        refine ⟨m / 2, by omega, rfl, ?_⟩
      · refine ⟨a + e, e + e, by rw [ee, ea, hmq]; rfl, ?_⟩
        have h2 : m % 2 = 1 := by omega
        rw [h2] at hsum
        omega
      · refine ⟨a, e + e, by rw [ee, hmq]; rfl, ?_⟩
        have h2 : m % 2 = 0 := by omega
        rw [h2] at hsum
        omega
    · walk_at "go"
      have h0 : m = 0 := by omega
      subst h0
      have h1 : a = n := by omega
      subst h1
      exact q _ s1
def sp_lowered : Sp := fun vs H Q _ => ∃ (u : Int) (s : Nat), vs = [.int u, .int s] ∧ ∀ p H', Same H H' → H' p = some (.tup [.int (nrm u s).1, .int ((nrm u s).2 : Int)]) → Q (.ref p) H'
theorem ok_lowered (T : Tx w K mg) : FnOk P w K mg base CX0 1 T.f_lowered T.fd_lowered ["units", "scale"] sp_lowered := by
  refine T.F_lowered.ok sc_lowered (fun vs H Q E h => ?_) (fun cdv A outer s H vs Q E hr h => ?_)
  · obtain ⟨u, s, rfl, _⟩ := h
    rfl
  · obtain ⟨u, s, rfl, q⟩ := h
    refine ⟨_, (pss_cons (ps_if (pt_cmpR op_eq (pv 0) pe_int (nomark _)) (pss_one (ps_ret (pe_tup (pa_cons pe_int (pa_cons pe_int pa_nil))))) pss_nil)
      (pss_cons (ps_while PassesOwn.never (PW.pt (pw_and (pt_cmpR op_gt (pv 1) pe_int (nomark _)) (pw_and1 (pt_cmpR op_eq (pe_op op_mod (pv 0) pe_int) pe_int (nomark _))))) (pss_one (ps_par (i := 0) (j := 1) rfl sc_lowered.nd rfl rfl (by decide) rfl rfl (pa_cons (pe_op op_fdivW (pv 0) pe_int) (pa_cons (pe_op op_sub (pv 1) pe_int) pa_nil)) rfl)))
      (pss_one (ps_ret (pe_tup (pa_cons (pv 0) (pa_cons (pv 1) pa_nil))))))), ?_⟩
    walk_at "go"
    refine w_ite (fun hc => ?_) (fun hc => ?_)
    all_goals rw [V_int] at hc
    · subst hc
      walk_at "go"
      refine w_new (by assumption) (Nat.le_of_ble_eq_true rfl) (fun p1 H1 n1 s1 e1 => ?_)
      rw [nrm_zero] at q
      exact q p1 H1 s1 e1
    · walk_at "go"
      refine ⟨fun m σ H' => H' = H ∧ ∃ u' : Int, σ = [some (.int u'), some (.int (m : Int))] ∧ nrm u' m = nrm u s, ⟨s, rfl, u, rfl, rfl⟩, fun m σ H' hI => ?_⟩
      obtain ⟨rfl, u', rfl, hn⟩ := hI
      have fin : ∀ (u1 : Int) (m1 : Nat), nrm u1 m1 = (u1, m1) → u1 = u' → m1 = m → nrm u s = (u', m) := fun u1 m1 e1 e2 e3 => by rw [← hn, ← e2, ← e3, e1]
      walk_at "go"
      refine w_ite (fun hd => ?_) (fun hd => ?_)
      · walk_at "go"
        refine w_ite (fun he => ?_) (fun he => ?_)
        all_goals rw [V_int] at he
        · refine ⟨_, fun _ _ h => h, ?_⟩
          walk_at "go"
          obtain ⟨k, rfl⟩ : ∃ k, m = k + 1 := ⟨m - 1, by omega⟩
          refine ⟨k, Nat.lt_succ_self _, rfl, u' / 10, ?_, by rw [← hn, nrm_pos he]⟩
          have e1 : ((k + 1 : Nat) : Int) - 1 = (k : Int) := by omega
          rw [e1]
          rfl
        · walk_at "go"
          refine w_new (by assumption) (Nat.le_of_ble_eq_true rfl) (fun p1 H1 n1 s1 e1 => ?_)
          rw [fin u' m (nrm_neg he) rfl rfl] at q
          exact q p1 H1 s1 e1
      · refine iteF ?_
        walk_at "go"
        refine w_new (by assumption) (Nat.le_of_ble_eq_true rfl) (fun p1 H1 n1 s1 e1 => ?_)
        have h0 : m = 0 := by omega
        subst h0
        rw [fin u' 0 rfl rfl rfl] at q
        exact q p1 H1 s1 e1
theorem ok_Worth___init__ (T : Tx w K mg) : FnOk P w K mg base CX0 4 T.f_Worth___init__ T.fd_Worth___init__ ["self", "units", "scale"] (sp_winit T.C_Worth) := by
  refine T.F_Worth___init__.ok sc_Worth___init__ (fun vs H Q E h => ?_) (fun cdv A outer s H vs Q E hr h => ?_)
  · obtain ⟨p, dx, u, s, rfl, _⟩ := h
    rfl
  · obtain ⟨p, dx, u, s, rfl, hp, q⟩ := h
    refine ⟨_, PSs.nox (pss_cons (ps_expr (pe_call (ok_need_integer T) (hr.mono (by decide)) rfl T.g_need_integer T.F_need_integer.kp T.b_need_integer .nil pass0 (pa_cons (pv 1) pa_nil)))
      (pss_cons (ps_expr (pe_call (ok_need_whole T) (hr.mono (by decide)) rfl T.g_need_whole T.F_need_whole.kp T.b_need_whole .nil pass0 (pa_cons (pv 2) pa_nil)))
      (pss_one (ps_asg (pe_call (ok_lowered T) (hr.mono (by decide)) rfl T.g_lowered T.F_lowered.kp T.b_lowered .nil pass0 (pa_cons (pv 1) (pa_cons (pv 2) pa_nil))) (pg_tup rfl (pgs_cons (pg_attr (pv 0)) (pgs_cons (pg_attr (pv 0)) pgs_nil))))))), ?_⟩
    walk_at "go"
    refine ⟨u, rfl, ?_⟩
    walk_at "go"
    refine ⟨s, rfl, by omega, ?_⟩
    walk_at "go"
    refine ⟨u, s, rfl, fun t1 H1 s1 e1 => ?_⟩
    walk_at "go"
    refine ⟨p, _, dx, [], rfl, s1 _ _ hp, T.cl_Worth, T.n_Worth_units, by decide, ?_⟩
    walk_at "go"
    refine ⟨p, _, dx, _, rfl, upd_same, T.cl_Worth, T.n_Worth_scale, (by show 1 < 1000; decide), ?_⟩
    walk_at "go"
    rw [wf_put, upd_upd]
    refine q _ upd_same (fun b o nb e => ?_)
    rw [upd_ne nb]
    exact s1 _ _ e
end
end K04
namespace K04
open PySem L2 DS
set_option pp.maxSteps 1200
local macro_rules | `(tactic| walk_at "c") => `(tactic| first
  | (dsimp only; omega)
  | omega
  | (show CMulA _ _; first | exact CMulA.s1 (by omega) (by omega) | exact CMulA.s2 (by omega) (by omega))
  | (show CDivW _ _; first | exact ⟨by omega, by assumption⟩ | exact ⟨by omega, by decide⟩)
  | (show CPow _ _; exact ⟨by decide, by decide, by decide⟩)
  | assumption)
local macro_rules | `(tactic| walk_at "get") => `(tactic| first
  | assumption
  | (refine (by assumption : Same _ _) _ _ ?_; walk_at "get")
  | (refine (by assumption : Keep _ _) _ _ ?_ rfl; walk_at "get"))
local macro_rules | `(tactic| walk_at "pen") => `(tactic| first
  | assumption
  | (refine Pen.same (by assumption) ?_; walk_at "pen")
  | (refine Pen.mono ?_ (by omega); assumption))
local macro_rules | `(tactic| walk_at "keep") => `(tactic| first
  | assumption
  | exact Keep.refl _
  | exact Keep.of (by assumption)
  | (refine Keep.trans ?_ (by assumption); walk_at "keep")
  | (refine Keep.same ?_ (by assumption); walk_at "keep"))
local macro_rules | `(tactic| walk_at "same") => `(tactic| first
  | assumption
  | exact Same.refl _
  | (refine Same.trans ?_ (by assumption); walk_at "same"))
local macro_rules | `(tactic| walk_at "s") => `(tactic| first
  | with_reducible refine w_seq ?_
  | with_reducible refine w_asg ?_
  | with_reducible refine w_name ?_
  | ((with_reducible apply w_var); exact rfl)
  | with_reducible refine w_c ?_
  | with_reducible refine w_op ?_
  | with_reducible refine w_I0 ?_
  | ((with_reducible apply w_I); (walk_at "c"))
  | with_reducible refine w_cons ?_
  | with_reducible refine w_nil ?_
  | with_reducible refine w_cb ?_
  | with_reducible refine w_int1 ?_
  | with_reducible refine w_int1b ?_
  | with_reducible refine w_call ?_
  | with_reducible refine w_ifs ?_
  | with_reducible refine w_test ?_
  | with_reducible refine w_k ?_
  | with_reducible refine w_ret ?_
  | with_reducible refine w_drop ?_
  | with_reducible refine w_not ?_
  | with_reducible refine w_and ?_
  | with_reducible refine w_or ?_
  | with_reducible refine w_andV ?_
  | with_reducible refine w_orV ?_
  | with_reducible refine w_notV ?_
  | with_reducible refine w_if ?_
  | with_reducible refine w_B ?_
  | with_reducible refine w_un ?_
  | with_reducible refine w_U ?_
  | (with_reducible refine w_tup ?_; intro _ _)
  | (with_reducible refine w_lst ?_; intro _ _)
  | with_reducible refine w_dget ?_
  | with_reducible refine w_dput ?_
  | with_reducible refine w_fld ?_
  | with_reducible refine w_meth ?_
  | (with_reducible refine w_make ?_; intro _ _)
  | with_reducible refine w_par ?_
  | with_reducible refine w_par3 ?_
  | with_reducible refine w_two ?_
  | with_reducible refine w_three ?_
  | with_reducible refine w_one ?_
  | with_reducible refine w_chain ?_
  | with_reducible refine w_next ?_
  | with_reducible refine w_brk ?_
  | with_reducible refine w_cont ?_
  | with_reducible refine w_retN ?_
  | with_reducible refine w_gcons ?_
  | with_reducible refine w_gnil ?_
  | ((with_reducible refine w_eq ?_ ?_); exact rfl)
  | ((with_reducible refine w_ne ?_ ?_); exact rfl)
  | with_reducible refine w_part ?_
  | with_reducible refine w_lc ?_
  | with_reducible refine w_yes ?_
  | with_reducible refine w_iTup ?_
  | with_reducible refine w_iList ?_
  | with_reducible refine w_unT ?_
  | with_reducible refine w_unT0 ?_
  | with_reducible refine w_unL ?_
  | with_reducible refine w_unL0 ?_
  | ((with_reducible apply w_gtup); (walk_at "get"); (exact rfl))
  | with_reducible refine w_gfld ?_
  | with_reducible refine w_sfld ?_
  | with_reducible refine w_risi ?_
  | with_reducible refine w_i ?_
  | with_reducible refine w_pnil ?_
  | with_reducible refine w_pcons ?_
  | with_reducible refine w_sl ?_
  | with_reducible refine w_nopart ?_
  | with_reducible refine w_for ?_
  | with_reducible refine w_while ?_
  | with_reducible refine w_irng1 ?_
  | with_reducible refine w_irng2 ?_
  | with_reducible refine And.intro (rfl : V.non = V.non) ?_)
local macro_rules | `(tactic| walk_at "go") => `(tactic| repeat (walk_at "s"))

section
variable {P : Program} {w : World} {K : PySem.W.Frag} {mg : Str → Option Value} {base : Heap}
def sp_needworth (C : Addr) : Sp := fun vs H Q _ => ∃ (p : Addr) (u : Int) (s : Nat), vs = [.ref p] ∧ WAt C H p u s ∧ Q .non H
theorem ok_need_worth (T : Tx w K mg) : FnOk P w K mg base CX0 1 T.f_need_worth T.fd_need_worth ["value"] (sp_needworth T.C_Worth) := by
  refine T.F_need_worth.ok sc_need_worth (fun vs H Q E h => ?_) (fun cdv A outer s H vs Q E hr h => ?_)
  · obtain ⟨p, u, s, rfl, _⟩ := h
    rfl
  · obtain ⟨p, u, s, rfl, ⟨dx, hp⟩, q⟩ := h
    refine ⟨_, (pss_one (ps_if (pt_not (pt_val (pe_callB call_isi (by rfl) T.z_isinstance (by decide +kernel) (pa_cons (pv 0) (pa_cons (pe_glob (v := .ref T.C_Worth) rfl T.gC_Worth rfl) pa_nil))))) (pss_never) pss_nil)), ?_⟩
    walk_at "go"
    refine w_isi (.own _) (.base (T.tyW _ _ _ _ hp)) T.kiW ?_
    walk_at "go"
    exact iteF q
def sp_needway : Sp := fun vs H Q _ => ∃ x : Str, vs = [.str x] ∧ x ∈ waysL ∧ Q .non H
theorem ok_need_way (T : Tx w K mg) : FnOk P w K mg base CX0 1 T.f_need_way T.fd_need_way ["value"] sp_needway := by
  refine T.F_need_way.ok sc_need_way (fun vs H Q E h => ?_) (fun cdv A outer s H vs Q E hr h => ?_)
  · obtain ⟨x, rfl, _⟩ := h
    rfl
  · obtain ⟨x, rfl, hx, q⟩ := h
    refine ⟨_, (pss_one (ps_if (pt_cmpR op_notIn_seq (pv 0) (pe_glob (v := .ref T.a_WAYS) rfl T.gv_WAYS rfl) rfl) (pss_never) pss_nil)), ?_⟩
    walk_at "go"
    refine ⟨_, _, rfl, .inr (T.sq_WAYS H), rfl, flat_strs _, ?_⟩
    rw [in_strs hx]
    walk_at "go"
    exact iteF q
def sp_mirrored : Sp := fun vs H Q _ => ∃ x : Str, vs = [.str x] ∧ x ∈ waysL ∧ Q (.str (mirF x)) H
theorem ok_mirrored (T : Tx w K mg) : FnOk P w K mg base CX0 2 T.f_mirrored T.fd_mirrored ["way"] sp_mirrored := by
  refine T.F_mirrored.ok sc_mirrored (fun vs H Q E h => ?_) (fun cdv A outer s H vs Q E hr h => ?_)
  · obtain ⟨x, rfl, _⟩ := h
    rfl
  · obtain ⟨x, rfl, hx, q⟩ := h
    refine ⟨_, (pss_cons (ps_expr (pe_call (ok_need_way T) (hr.mono (by decide)) rfl T.g_need_way T.F_need_way.kp T.b_need_way .nil pass0 (pa_cons (pv 0) pa_nil)))
      (pss_one (ps_ret (pe_kget2 T.D_M (pe_glob (v := .ref T.a_MIRRORS) rfl T.gv_MIRRORS rfl) (pv 0) (pv 0) ⟨rfl, rfl, rfl, rfl⟩)))), ?_⟩
    walk_at "go"
    refine ⟨x, rfl, hx, ?_⟩
    walk_at "go"
    refine ⟨rfl, ?_⟩
    walk_at "go"
    obtain ⟨r, hr1, hr2⟩ := T.mir x hx
    refine ⟨x, r, rfl, hr1, ?_⟩
    rcases hr2 with ⟨e, e2⟩ | ⟨t, e⟩
    · rw [e2] at q
      exact .inl ⟨e, q⟩
    · exact .inr ⟨_, .str (mirF x), e, ⟨t, rfl⟩, q⟩
def tieF (x : Str) (n o : Bool) : Bool := if x = "halfup" then true else if x = "halfdown" then false else if x = "halfeven" then o else if x = "halfaway" then !n else n
def liftF (x : Str) (p : Int) (n o : Bool) : Int := if p = 0 then 0 else if x = "floor" then 0 else if x = "ceiling" then 1 else if x = "cut" then (if n then 1 else 0) else if x = "away" then (if !n then 1 else 0) else
  if p = 2 then (if tieF x n o then 1 else 0) else (if p = 3 then 1 else 0)
def tiesL (n o : Bool) : List (Key × V) := [(Sum.inr "halfup", V.bl true), (Sum.inr "halfdown", .bl false), (Sum.inr "halfeven", .bl o), (Sum.inr "halfaway", .bl (!n)), (Sum.inr "halfcut", .bl n)]
theorem ties_val (n o : Bool) {x : Str} (hx : x ∈ waysL) (h1 : ¬ x = "floor") (h2 : ¬ x = "ceiling") (h3 : ¬ x = "cut") (h4 : ¬ x = "away") : valV (mergeK [] (tiesL n o)) (Sum.inr x) = some (.bl (tieF x n o)) := by
  simp only [waysL, List.mem_cons, List.not_mem_nil, or_false] at hx
  rcases hx with rfl | rfl | rfl | rfl | rfl | rfl | rfl | rfl | rfl
  · exact absurd rfl h1
  · exact absurd rfl h2
  · exact absurd rfl h3
  · exact absurd rfl h4
  all_goals cases n <;> cases o <;> decide +kernel
def sp_lift : Sp := fun vs H Q _ => ∃ (x : Str) (p : Int) (n o : Bool), vs = [.str x, .int p, .bl n, .bl o] ∧ x ∈ waysL ∧ ∀ H', Same H H' → Q (.int (liftF x p n o)) H'
theorem ok_lift (T : Tx w K mg) : FnOk P w K mg base CX0 1 T.f_lift T.fd_lift ["way", "part", "negative", "odd"] sp_lift := by
  refine T.F_lift.ok sc_lift (fun vs H Q E h => ?_) (fun cdv A outer s H vs Q E hr h => ?_)
  · obtain ⟨x, p, n, o, rfl, _⟩ := h
    rfl
  · obtain ⟨x, p, n, o, rfl, hx, q⟩ := h
    have hu := hu_of hr
    refine ⟨_, (pss_cons (ps_if (PW.pt (pw_or (pt_cmpR op_eq (pv 1) pe_int (nomark _)) (pw_or1 (pt_cmpR op_eq (pv 0) pe_str (nomark _))))) (pss_one (ps_ret pe_int)) pss_nil)
      (pss_cons (ps_if (pt_cmpR op_eq (pv 0) pe_str (nomark _)) (pss_one (ps_ret pe_int)) pss_nil)
      (pss_cons (ps_if (pt_cmpR op_eq (pv 0) pe_str (nomark _)) (pss_one (ps_ret (pe_callTy call_int1 (by rfl) T.z_int (by decide +kernel) (pa_cons (pv 2) pa_nil)))) pss_nil)
      (pss_cons (ps_if (pt_cmpR op_eq (pv 0) pe_str (nomark _)) (pss_one (ps_ret (pe_callTy call_int1 (by rfl) T.z_int (by decide +kernel) (pa_cons (pe_not (pv 2)) pa_nil)))) pss_nil)
      (pss_cons (ps_if (pt_cmpR op_ne (pv 1) pe_int (nomark _)) (pss_one (ps_ret (pe_callTy call_int1 (by rfl) T.z_int (by decide +kernel) (pa_cons (pe_cmpR op_eq (pv 1) pe_int (nomark _)) pa_nil)))) pss_nil)
      (pss_cons (ps_set (i := 4) sc_lift.nd rfl (Or.inl rfl) (pe_disp (pps_cons pe_str pe_bl (pps_cons pe_str pe_bl (pps_cons pe_str (pv 3) (pps_cons pe_str (pe_not (pv 2)) (pps_cons pe_str (pv 2) pps_nil))))) rfl rfl (by simp) (by decide)))
      (pss_one (ps_ret (pe_callTy call_int1 (by rfl) T.z_int (by decide +kernel) (pa_cons (pe_dget hu (pv 4) (pv 0) (fun _ _ => rfl)) pa_nil)))))))))), ?_⟩
    walk_at "go"
    refine w_ite (fun h0 => ?_) (fun h0 => ?_)
    all_goals rw [V_int] at h0
    · refine iteT ?_
      walk_at "go"
      have z := q H (Same.refl H)
      simp only [liftF, h0, if_true] at z
      exact z
    walk_at "go"
    refine w_ite (fun h1 => ?_) (fun h1 => ?_)
    all_goals rw [V_str] at h1
    · walk_at "go"
      have z := q H (Same.refl H)
      simp only [liftF, h0, h1, if_true, if_false] at z
      exact z
    walk_at "go"
    refine w_ite (fun h2 => ?_) (fun h2 => ?_)
    all_goals rw [V_str] at h2
    · walk_at "go"
      have z := q H (Same.refl H)
      simp only [liftF, h0, h1, if_neg, if_false] at z
      rw [if_pos h2] at z
      exact z
    walk_at "go"
    refine w_ite (fun h3 => ?_) (fun h3 => ?_)
    all_goals rw [V_str] at h3
    · walk_at "go"
      have z := q H (Same.refl H)
      unfold liftF at z
      rw [if_neg h0, if_neg h1, if_neg h2, if_pos h3] at z
      exact z
    walk_at "go"
    refine w_ite (fun h4 => ?_) (fun h4 => ?_)
    all_goals rw [V_str] at h4
    · walk_at "go"
      have z := q H (Same.refl H)
      unfold liftF at z
      rw [if_neg h0, if_neg h1, if_neg h2, if_neg h3, if_pos h4] at z
      exact z
    walk_at "go"
    refine w_iteN (fun h5 => ?_) (fun h5 => ?_)
    all_goals rw [V_int] at h5
    · walk_at "go"
      have z := q H (Same.refl H)
      unfold liftF at z
      rw [if_neg h0, if_neg h1, if_neg h2, if_neg h3, if_neg h4, if_neg h5] at z
      have e : (if decide (V.int p = V.int 3) = true then (1 : Int) else 0) = if p = 3 then 1 else 0 := by simp only [V_int, decide_eq_true_eq]
      rw [e]
      exact z
    walk_at "go"
    refine w_disp (fun Q' eQ d H1 nd s1 hd => ?_)
    walk_at "go"
    refine w_dend (tiesL n o) eQ hd rfl (Nat.le_of_ble_eq_true rfl) (fun H2 k2 sm2 e2 => ?_)
    walk_at "go"
    refine w_dg e2 (ties_val n o hx h1 h2 h3 h4) ?_
    walk_at "go"
    have z := q H2 (sm2 H s1 nd)
    unfold liftF at z
    rw [if_neg h0, if_neg h1, if_neg h2, if_neg h3, if_neg h4, if_pos h5] at z
    exact z
def partF (l d : Int) : Int := if l = 0 then 0 else 2 + (if d < 2 * l then 1 else 0) - (if 2 * l < d then 1 else 0)
def sp_part : Sp := fun vs H Q _ => ∃ l d : Int, vs = [.int l, .int d] ∧ Q (.int (partF l d)) H
theorem ok_part_of (T : Tx w K mg) : FnOk P w K mg base CX0 1 T.f_part_of T.fd_part_of ["left", "divisor"] sp_part := by
  refine T.F_part_of.ok sc_part_of (fun vs H Q E h => ?_) (fun cdv A outer s H vs Q E hr h => ?_)
  · obtain ⟨l, d, rfl, _⟩ := h
    rfl
  · obtain ⟨l, d, rfl, q⟩ := h
    refine ⟨_, (pss_cons (ps_if (pt_cmpR op_eq (pv 0) pe_int (nomark _)) (pss_one (ps_ret pe_int)) pss_nil)
      (pss_one (ps_ret (pe_op op_sub (pe_op op_add pe_int (pe_callTy call_int1 (by rfl) T.z_int (by decide +kernel) (pa_cons (pe_cmpR op_gt (pe_op op_mulA pe_int (pv 0)) (pv 1) (nomark _)) pa_nil))) (pe_callTy call_int1 (by rfl) T.z_int (by decide +kernel) (pa_cons (pe_cmpR op_lt (pe_op op_mulA pe_int (pv 0)) (pv 1) (nomark _)) pa_nil)))))), ?_⟩
    walk_at "go"
    refine w_ite (fun h0 => ?_) (fun h0 => ?_)
    all_goals rw [V_int] at h0
    · walk_at "go"
      unfold partF at q
      rw [if_pos h0] at q
      exact q
    · walk_at "go"
      unfold partF at q
      rw [if_neg h0] at q
      simp only [decide_eq_true_eq]
      exact q
def divF (n d : Int) (x : Str) : Int := n / d + liftF x (partF (n % d) d) (decide (n < 0)) (decide (n / d % 2 = 1))
def sp_div : Sp := fun vs H Q _ => ∃ (n d : Int) (x : Str), vs = [.int n, .int d, .str x] ∧ x ∈ waysL ∧ 0 < d ∧ n.natAbs < 2 ^ 4000 ∧ ∀ H', Same H H' → Q (.int (divF n d x)) H'
theorem ok_divided_by (T : Tx w K mg) : FnOk P w K mg base CX0 2 T.f_divided_by T.fd_divided_by ["number", "divisor", "way"] sp_div := by
  refine T.F_divided_by.ok sc_divided_by (fun vs H Q E h => ?_) (fun cdv A outer s H vs Q E hr h => ?_)
  · obtain ⟨n, d, x, rfl, _⟩ := h
    rfl
  · obtain ⟨n, d, x, rfl, hx, hd, hn, q⟩ := h
    refine ⟨_, (pss_cons (ps_asg (pe_callB call_divmodW (by rfl) T.z_divmod (by decide +kernel) (pa_cons (pv 0) (pa_cons (pv 1) pa_nil))) (pg_tup rfl (pgs_cons (pg_name (i := 3) sc_divided_by.nd rfl (Or.inl rfl)) (pgs_cons (pg_name (i := 4) sc_divided_by.nd rfl (Or.inl rfl)) pgs_nil))))
      (pss_one (ps_ret (pe_op op_add (pv 3) (pe_call (ok_lift T) (hr.mono (by decide)) rfl T.g_lift T.F_lift.kp T.b_lift .nil pass0 (pa_cons (pv 2) (pa_cons (pe_call (ok_part_of T) (hr.mono (by decide)) rfl T.g_part_of T.F_part_of.kp T.b_part_of .nil pass0 (pa_cons (pv 4) (pa_cons (pv 1) pa_nil))) (pa_cons (pe_cmpR op_lt (pv 0) pe_int (nomark _)) (pa_cons (pe_cmpR op_eq (pe_op op_mod (pv 3) pe_int) pe_int (nomark _)) pa_nil))))))))), ?_⟩
    walk_at "go"
    refine ⟨n, d, rfl, divp_of hd hn, fun p np => ?_⟩
    have s1 := same_upd (o := .tup [.int (n / d), .int (n % d)]) np
    have e1 : upd H p (.tup [.int (n / d), .int (n % d)]) p = some (.tup [.int (n / d), .int (n % d)]) := upd_same
    generalize upd H p (.tup [.int (n / d), .int (n % d)]) = H1 at *
    walk_at "go"
    refine ⟨_, _, rfl, ?_⟩
    walk_at "go"
    refine ⟨_, _, _, _, rfl, hx, fun H2 s2 => ?_⟩
    walk_at "go"
    have z := q H2 (s1.trans s2)
    unfold divF at z
    simp only [V_int]
    exact z
end
end K04
namespace K04
open PySem L2 DS
set_option pp.maxSteps 1200
local macro_rules | `(tactic| walk_at "c") => `(tactic| first
  | (dsimp only; omega)
  | omega
  | (show CMulA _ _; first | exact CMulA.s1 (by omega) (by omega) | exact CMulA.s2 (by omega) (by omega))
  | (show CDivW _ _; first | exact ⟨by omega, by assumption⟩ | exact ⟨by omega, by decide⟩)
  | (show CPow _ _; exact ⟨by decide, by decide, by decide⟩)
  | assumption)
local macro_rules | `(tactic| walk_at "get") => `(tactic| first
  | assumption
  | (refine (by assumption : Same _ _) _ _ ?_; walk_at "get")
  | (refine (by assumption : Keep _ _) _ _ ?_ rfl; walk_at "get"))
local macro_rules | `(tactic| walk_at "pen") => `(tactic| first
  | assumption
  | (refine Pen.same (by assumption) ?_; walk_at "pen")
  | (refine Pen.mono ?_ (by omega); assumption))
local macro_rules | `(tactic| walk_at "keep") => `(tactic| first
  | assumption
  | exact Keep.refl _
  | exact Keep.of (by assumption)
  | (refine Keep.trans ?_ (by assumption); walk_at "keep")
  | (refine Keep.same ?_ (by assumption); walk_at "keep"))
local macro_rules | `(tactic| walk_at "same") => `(tactic| first
  | assumption
  | exact Same.refl _
  | (refine Same.trans ?_ (by assumption); walk_at "same"))
local macro_rules | `(tactic| walk_at "s") => `(tactic| first
  | with_reducible refine w_seq ?_
  | with_reducible refine w_asg ?_
  | with_reducible refine w_name ?_
  | ((with_reducible apply w_var); exact rfl)
  | with_reducible refine w_c ?_
  | with_reducible refine w_op ?_
  | with_reducible refine w_I0 ?_
  | ((with_reducible apply w_I); (walk_at "c"))
  | with_reducible refine w_cons ?_
  | with_reducible refine w_nil ?_
  | with_reducible refine w_cb ?_
  | with_reducible refine w_int1 ?_
  | with_reducible refine w_int1b ?_
  | with_reducible refine w_call ?_
  | with_reducible refine w_ifs ?_
  | with_reducible refine w_test ?_
  | with_reducible refine w_k ?_
  | with_reducible refine w_ret ?_
  | with_reducible refine w_drop ?_
  | with_reducible refine w_not ?_
  | with_reducible refine w_and ?_
  | with_reducible refine w_or ?_
  | with_reducible refine w_andV ?_
  | with_reducible refine w_orV ?_
  | with_reducible refine w_notV ?_
  | with_reducible refine w_if ?_
  | with_reducible refine w_B ?_
  | with_reducible refine w_un ?_
  | with_reducible refine w_U ?_
  | (with_reducible refine w_tup ?_; intro _ _)
  | (with_reducible refine w_lst ?_; intro _ _)
  | with_reducible refine w_dget ?_
  | with_reducible refine w_dput ?_
  | with_reducible refine w_fld ?_
  | with_reducible refine w_meth ?_
  | (with_reducible refine w_make ?_; intro _ _)
  | with_reducible refine w_par ?_
  | with_reducible refine w_par3 ?_
  | with_reducible refine w_two ?_
  | with_reducible refine w_three ?_
  | with_reducible refine w_one ?_
  | with_reducible refine w_chain ?_
  | with_reducible refine w_next ?_
  | with_reducible refine w_brk ?_
  | with_reducible refine w_cont ?_
  | with_reducible refine w_retN ?_
  | with_reducible refine w_gcons ?_
  | with_reducible refine w_gnil ?_
  | ((with_reducible refine w_eq ?_ ?_); exact rfl)
  | ((with_reducible refine w_ne ?_ ?_); exact rfl)
  | with_reducible refine w_part ?_
  | with_reducible refine w_lc ?_
  | with_reducible refine w_yes ?_
  | with_reducible refine w_iTup ?_
  | with_reducible refine w_iList ?_
  | with_reducible refine w_unT ?_
  | with_reducible refine w_unT0 ?_
  | with_reducible refine w_unL ?_
  | with_reducible refine w_unL0 ?_
  | ((with_reducible apply w_gtup); (walk_at "get"); (exact rfl))
  | with_reducible refine w_gfld ?_
  | with_reducible refine w_sfld ?_
  | with_reducible refine w_risi ?_
  | with_reducible refine w_i ?_
  | with_reducible refine w_pnil ?_
  | with_reducible refine w_pcons ?_
  | with_reducible refine w_sl ?_
  | with_reducible refine w_nopart ?_
  | with_reducible refine w_for ?_
  | with_reducible refine w_while ?_
  | with_reducible refine w_irng1 ?_
  | with_reducible refine w_irng2 ?_
  | with_reducible refine And.intro (rfl : V.non = V.non) ?_)
local macro_rules | `(tactic| walk_at "go") => `(tactic| repeat (walk_at "s"))

section
variable {P : Program} {w : World} {K : PySem.W.Frag} {mg : Str → Option Value} {base : Heap}
theorem ok_Worth___eq__ (T : Tx w K mg) : FnOk P w K mg base CX0 1 T.f_Worth___eq__ T.fd_Worth___eq__ ["self", "other"] (spEq (R_W T.C_Worth)) := by
  refine T.F_Worth___eq__.ok sc_Worth___eq__ (fun vs H Q E h => ?_) (fun cdv A outer s H vs Q E hr h => ?_)
  · obtain ⟨a, b, rfl, _⟩ := h
    rfl
  · obtain ⟨a, b, rfl, ⟨u, s, u', s', ⟨da, ha⟩, ⟨db, hb⟩, he⟩, q⟩ := h
    have hu64 := hu64_of hr
    refine ⟨_, (pss_cons (ps_if (pt_not (pt_val (pe_callB call_isi (by rfl) T.z_isinstance (by decide +kernel) (pa_cons (pv 1) (pa_cons (pe_glob (v := .ref T.C_Worth) rfl T.gC_Worth rfl) pa_nil))))) (pss_one (ps_ret pe_bl)) pss_nil)
      (pss_one (ps_ret (pe_cmpR (op_eqD hu64) (pe_tup (pa_cons (pe_fld (pv 0) rfl) (pa_cons (pe_fld (pv 0) rfl) pa_nil))) (pe_tup (pa_cons (pe_fld (pv 1) rfl) (pa_cons (pe_fld (pv 1) rfl) pa_nil))) (nomark _))))), ?_⟩
    walk_at "go"
    refine w_isi (.own _) (.base (T.tyW _ _ _ _ hb)) T.kiW ?_
    walk_at "go"
    refine iteF ?_
    walk_at "go"
    refine w_flds ha T.cl_Worth T.n_Worth_units (wf_units _ _) ?_
    walk_at "go"
    refine w_flds ha T.cl_Worth T.n_Worth_scale (wf_scale _ _) ?_
    walk_at "go"
    refine w_new (by assumption) (Nat.le_of_ble_eq_true rfl) (fun p1 H1 n1 s1 e1 => ?_)
    walk_at "go"
    refine w_flds (s1 _ _ hb) T.cl_Worth T.n_Worth_units (wf_units _ _) ?_
    walk_at "go"
    refine w_flds (s1 _ _ hb) T.cl_Worth T.n_Worth_scale (wf_scale _ _) ?_
    walk_at "go"
    refine w_new (by assumption) (Nat.le_of_ble_eq_true rfl) (fun p2 H2 n2 s2 e2 => ?_)
    walk_at "go"
    refine w_eqT2 (s2 _ _ e1) e2 ?_
    rw [he]
    have z := q H2 (s1.trans s2)
    simp only [beq_self_eq_true, Bool.and_true]
    exact z
def sp_rounded (C : Addr) : Sp := fun vs H Q _ => ∃ (p : Addr) (u : Int) (s t : Nat) (x : Str), vs = [.ref p, .int t, .str x] ∧ WAt C H p u s ∧ x ∈ waysL ∧ s ≤ 10000 ∧ u.natAbs < 2 ^ 3000 ∧
  ((nrm u s).2 ≤ t → ∀ H', Same H H' → Q (.ref p) H') ∧ (t < (nrm u s).2 → ∀ r H', Same H H' → WAt C H' r (divF (nrm u s).1 (10 ^ ((nrm u s).2 - t)) x) t → Q (.ref r) H')
theorem ok_rounded (T : Tx w K mg) : FnOk P w K mg base CX0 6 T.f_rounded T.fd_rounded ["worth", "scale", "way"] (sp_rounded T.C_Worth) := by
  refine T.F_rounded.ok sc_rounded (fun vs H Q E h => ?_) (fun cdv A outer s H vs Q E hr h => ?_)
  · obtain ⟨p, u, s, t, x, rfl, _⟩ := h
    rfl
  · obtain ⟨p, u, s, t, x, rfl, hW, hx, hs, hu, q1, q2⟩ := h
    obtain ⟨dx, hp⟩ := id hW
    refine ⟨_, (pss_cons (ps_expr (pe_call (ok_need_worth T) (hr.mono (by decide)) rfl T.g_need_worth T.F_need_worth.kp T.b_need_worth .nil pass0 (pa_cons (pv 0) pa_nil)))
      (pss_cons (ps_expr (pe_call (ok_need_whole T) (hr.mono (by decide)) rfl T.g_need_whole T.F_need_whole.kp T.b_need_whole .nil pass0 (pa_cons (pv 1) pa_nil)))
      (pss_cons (ps_expr (pe_call (ok_need_way T) (hr.mono (by decide)) rfl T.g_need_way T.F_need_way.kp T.b_need_way .nil pass0 (pa_cons (pv 2) pa_nil)))
      (pss_cons (ps_if (pt_cmpR op_le (pe_fld (pv 0) rfl) (pv 1) (nomark _)) (pss_one (ps_ret (pv 0))) pss_nil)
      (pss_one (ps_ret (pe_make T.M_Worth (ok_Worth___init__ T) (hr.mono (by decide)) rfl T.gC_Worth T.b_Worth___init__ .nil pass0 (pa_cons (pe_call (ok_divided_by T) (hr.mono (by decide)) rfl T.g_divided_by T.F_divided_by.kp T.b_divided_by .nil pass0 (pa_cons (pe_fld (pv 0) rfl) (pa_cons (pe_call (ok_ten_to T) (hr.mono (by decide)) rfl T.g_ten_to T.F_ten_to.kp T.b_ten_to .nil pass0 (pa_cons (pe_op op_sub (pe_fld (pv 0) rfl) (pv 1)) pa_nil)) (pa_cons (pv 2) pa_nil)))) (pa_cons (pv 1) pa_nil))))))))), ?_⟩
    walk_at "go"
    refine ⟨p, u, s, rfl, hW, ?_⟩
    walk_at "go"
    refine ⟨t, rfl, by omega, ?_⟩
    walk_at "go"
    refine ⟨x, rfl, hx, ?_⟩
    walk_at "go"
    refine w_flds hp T.cl_Worth T.n_Worth_scale (wf_scale _ _) ?_
    walk_at "go"
    refine w_ite (fun hc => ?_) (fun hc => ?_)
    · walk_at "go"
      exact q1 (by omega) H (Same.refl H)
    · walk_at "go"
      refine w_flds hp T.cl_Worth T.n_Worth_units (wf_units _ _) ?_
      walk_at "go"
      refine w_flds hp T.cl_Worth T.n_Worth_scale (wf_scale _ _) ?_
      have hle := nrm_le s u
      walk_at "go"
      refine ⟨(nrm u s).2 - t, by simp; omega, by omega, fun H1 s1 => ?_⟩
      walk_at "go"
      refine ⟨_, _, _, rfl, hx, Int.pow_pos (by decide), pow_wide (Nat.lt_of_le_of_lt (nrm_abs s u) hu) (by decide), fun H2 s2 => ?_⟩
      walk_at "go"
      exact make_worth (by assumption) (fun r H3 nr s3 h3 => q2 (by omega) r H3 ((s1.trans s2).trans s3) h3)
end
end K04
namespace K04
open PySem L2 DS
def pick4 (x : Str) (a b c d : Int) : Int := if x = "floor" then a else if x = "ceiling" then b else if x = "cut" then c else d
def pick5 (x : Str) (a b c d e : Int) : Int := if x = "halfup" then a else if x = "halfdown" then b else if x = "halfeven" then c else if x = "halfaway" then d else e
def four : List Str := ["floor", "ceiling", "cut", "away"]
def innF (n l : Int) : Int := if 0 < n then l else l + 1
def outF (n l : Int) : Int := if 0 < n then l + 1 else l
/-- the law's own rounding -/
def nearF (n d : Int) (x : Str) : Int := if n / d * d = n then n / d else
  if x ∈ four then pick4 x (n / d) (n / d + 1) (innF n (n / d)) (outF n (n / d)) else
  if 2 * (n - n / d * d) - d = 0 then pick5 x (n / d + 1) (n / d) (if n / d % 2 = 0 then n / d else n / d + 1) (outF n (n / d)) (innF n (n / d)) else
  if 2 * (n - n / d * d) - d < 0 then n / d else n / d + 1

theorem ne_floor_ceiling : ¬ (("floor" : Str) = "ceiling") := by decide +kernel
theorem ne_floor_cut : ¬ (("floor" : Str) = "cut") := by decide +kernel
theorem ne_floor_away : ¬ (("floor" : Str) = "away") := by decide +kernel
theorem ne_floor_halfup : ¬ (("floor" : Str) = "halfup") := by decide +kernel
theorem ne_floor_halfdown : ¬ (("floor" : Str) = "halfdown") := by decide +kernel
theorem ne_floor_halfeven : ¬ (("floor" : Str) = "halfeven") := by decide +kernel
theorem ne_floor_halfaway : ¬ (("floor" : Str) = "halfaway") := by decide +kernel
theorem ne_floor_halfcut : ¬ (("floor" : Str) = "halfcut") := by decide +kernel
theorem ne_ceiling_floor : ¬ (("ceiling" : Str) = "floor") := by decide +kernel
theorem ne_ceiling_cut : ¬ (("ceiling" : Str) = "cut") := by decide +kernel
theorem ne_ceiling_away : ¬ (("ceiling" : Str) = "away") := by decide +kernel
theorem ne_ceiling_halfup : ¬ (("ceiling" : Str) = "halfup") := by decide +kernel
theorem ne_ceiling_halfdown : ¬ (("ceiling" : Str) = "halfdown") := by decide +kernel
theorem ne_ceiling_halfeven : ¬ (("ceiling" : Str) = "halfeven") := by decide +kernel
theorem ne_ceiling_halfaway : ¬ (("ceiling" : Str) = "halfaway") := by decide +kernel
theorem ne_ceiling_halfcut : ¬ (("ceiling" : Str) = "halfcut") := by decide +kernel
theorem ne_cut_floor : ¬ (("cut" : Str) = "floor") := by decide +kernel
theorem ne_cut_ceiling : ¬ (("cut" : Str) = "ceiling") := by decide +kernel
theorem ne_cut_away : ¬ (("cut" : Str) = "away") := by decide +kernel
theorem ne_cut_halfup : ¬ (("cut" : Str) = "halfup") := by decide +kernel
theorem ne_cut_halfdown : ¬ (("cut" : Str) = "halfdown") := by decide +kernel
theorem ne_cut_halfeven : ¬ (("cut" : Str) = "halfeven") := by decide +kernel
theorem ne_cut_halfaway : ¬ (("cut" : Str) = "halfaway") := by decide +kernel
theorem ne_cut_halfcut : ¬ (("cut" : Str) = "halfcut") := by decide +kernel
theorem ne_away_floor : ¬ (("away" : Str) = "floor") := by decide +kernel
theorem ne_away_ceiling : ¬ (("away" : Str) = "ceiling") := by decide +kernel
theorem ne_away_cut : ¬ (("away" : Str) = "cut") := by decide +kernel
theorem ne_away_halfup : ¬ (("away" : Str) = "halfup") := by decide +kernel
theorem ne_away_halfdown : ¬ (("away" : Str) = "halfdown") := by decide +kernel
theorem ne_away_halfeven : ¬ (("away" : Str) = "halfeven") := by decide +kernel
theorem ne_away_halfaway : ¬ (("away" : Str) = "halfaway") := by decide +kernel
theorem ne_away_halfcut : ¬ (("away" : Str) = "halfcut") := by decide +kernel
theorem ne_halfup_floor : ¬ (("halfup" : Str) = "floor") := by decide +kernel
theorem ne_halfup_ceiling : ¬ (("halfup" : Str) = "ceiling") := by decide +kernel
theorem ne_halfup_cut : ¬ (("halfup" : Str) = "cut") := by decide +kernel
theorem ne_halfup_away : ¬ (("halfup" : Str) = "away") := by decide +kernel
theorem ne_halfup_halfdown : ¬ (("halfup" : Str) = "halfdown") := by decide +kernel
theorem ne_halfup_halfeven : ¬ (("halfup" : Str) = "halfeven") := by decide +kernel
theorem ne_halfup_halfaway : ¬ (("halfup" : Str) = "halfaway") := by decide +kernel
theorem ne_halfup_halfcut : ¬ (("halfup" : Str) = "halfcut") := by decide +kernel
theorem ne_halfdown_floor : ¬ (("halfdown" : Str) = "floor") := by decide +kernel
theorem ne_halfdown_ceiling : ¬ (("halfdown" : Str) = "ceiling") := by decide +kernel
theorem ne_halfdown_cut : ¬ (("halfdown" : Str) = "cut") := by decide +kernel
theorem ne_halfdown_away : ¬ (("halfdown" : Str) = "away") := by decide +kernel
theorem ne_halfdown_halfup : ¬ (("halfdown" : Str) = "halfup") := by decide +kernel
theorem ne_halfdown_halfeven : ¬ (("halfdown" : Str) = "halfeven") := by decide +kernel
theorem ne_halfdown_halfaway : ¬ (("halfdown" : Str) = "halfaway") := by decide +kernel
theorem ne_halfdown_halfcut : ¬ (("halfdown" : Str) = "halfcut") := by decide +kernel
theorem ne_halfeven_floor : ¬ (("halfeven" : Str) = "floor") := by decide +kernel
theorem ne_halfeven_ceiling : ¬ (("halfeven" : Str) = "ceiling") := by decide +kernel
theorem ne_halfeven_cut : ¬ (("halfeven" : Str) = "cut") := by decide +kernel
theorem ne_halfeven_away : ¬ (("halfeven" : Str) = "away") := by decide +kernel
theorem ne_halfeven_halfup : ¬ (("halfeven" : Str) = "halfup") := by decide +kernel
theorem ne_halfeven_halfdown : ¬ (("halfeven" : Str) = "halfdown") := by decide +kernel
theorem ne_halfeven_halfaway : ¬ (("halfeven" : Str) = "halfaway") := by decide +kernel
theorem ne_halfeven_halfcut : ¬ (("halfeven" : Str) = "halfcut") := by decide +kernel
theorem ne_halfaway_floor : ¬ (("halfaway" : Str) = "floor") := by decide +kernel
theorem ne_halfaway_ceiling : ¬ (("halfaway" : Str) = "ceiling") := by decide +kernel
theorem ne_halfaway_cut : ¬ (("halfaway" : Str) = "cut") := by decide +kernel
theorem ne_halfaway_away : ¬ (("halfaway" : Str) = "away") := by decide +kernel
theorem ne_halfaway_halfup : ¬ (("halfaway" : Str) = "halfup") := by decide +kernel
theorem ne_halfaway_halfdown : ¬ (("halfaway" : Str) = "halfdown") := by decide +kernel
theorem ne_halfaway_halfeven : ¬ (("halfaway" : Str) = "halfeven") := by decide +kernel
theorem ne_halfaway_halfcut : ¬ (("halfaway" : Str) = "halfcut") := by decide +kernel
theorem ne_halfcut_floor : ¬ (("halfcut" : Str) = "floor") := by decide +kernel
theorem ne_halfcut_ceiling : ¬ (("halfcut" : Str) = "ceiling") := by decide +kernel
theorem ne_halfcut_cut : ¬ (("halfcut" : Str) = "cut") := by decide +kernel
theorem ne_halfcut_away : ¬ (("halfcut" : Str) = "away") := by decide +kernel
theorem ne_halfcut_halfup : ¬ (("halfcut" : Str) = "halfup") := by decide +kernel
theorem ne_halfcut_halfdown : ¬ (("halfcut" : Str) = "halfdown") := by decide +kernel
theorem ne_halfcut_halfeven : ¬ (("halfcut" : Str) = "halfeven") := by decide +kernel
theorem ne_halfcut_halfaway : ¬ (("halfcut" : Str) = "halfaway") := by decide +kernel
theorem in_four_floor :  (("floor" : Str) ∈ four) := by decide +kernel
theorem in_four_ceiling :  (("ceiling" : Str) ∈ four) := by decide +kernel
theorem in_four_cut :  (("cut" : Str) ∈ four) := by decide +kernel
theorem in_four_away :  (("away" : Str) ∈ four) := by decide +kernel
theorem ni_four_halfup : ¬ (("halfup" : Str) ∈ four) := by decide +kernel
theorem ni_four_halfdown : ¬ (("halfdown" : Str) ∈ four) := by decide +kernel
theorem ni_four_halfeven : ¬ (("halfeven" : Str) ∈ four) := by decide +kernel
theorem ni_four_halfaway : ¬ (("halfaway" : Str) ∈ four) := by decide +kernel
theorem ni_four_halfcut : ¬ (("halfcut" : Str) ∈ four) := by decide +kernel
theorem lift_floor (p : Int) (n o : Bool) : liftF "floor" p n o = 0 := by
  unfold liftF tieF
  simp only [ne_floor_ceiling, ne_floor_cut, ne_floor_away, ne_floor_halfup, ne_floor_halfdown, ne_floor_halfeven, ne_floor_halfaway, ne_floor_halfcut, if_true, if_false]
  all_goals (first | rfl | (split <;> rfl))
theorem lift_ceiling (p : Int) (n o : Bool) : liftF "ceiling" p n o = if p = 0 then 0 else 1 := by
  unfold liftF tieF
  simp only [ne_ceiling_floor, ne_ceiling_cut, ne_ceiling_away, ne_ceiling_halfup, ne_ceiling_halfdown, ne_ceiling_halfeven, ne_ceiling_halfaway, ne_ceiling_halfcut, if_true, if_false]
  all_goals (first | rfl | (split <;> rfl))
theorem lift_cut (p : Int) (n o : Bool) : liftF "cut" p n o = if p = 0 then 0 else if n then 1 else 0 := by
  unfold liftF tieF
  simp only [ne_cut_floor, ne_cut_ceiling, ne_cut_away, ne_cut_halfup, ne_cut_halfdown, ne_cut_halfeven, ne_cut_halfaway, ne_cut_halfcut, if_true, if_false]
  all_goals (first | rfl | (split <;> rfl))
theorem lift_away (p : Int) (n o : Bool) : liftF "away" p n o = if p = 0 then 0 else if !n then 1 else 0 := by
  unfold liftF tieF
  simp only [ne_away_floor, ne_away_ceiling, ne_away_cut, ne_away_halfup, ne_away_halfdown, ne_away_halfeven, ne_away_halfaway, ne_away_halfcut, if_true, if_false]
  all_goals (first | rfl | (split <;> rfl))
theorem lift_halfup (p : Int) (n o : Bool) : liftF "halfup" p n o = if p = 0 then 0 else if p = 2 then 1 else if p = 3 then 1 else 0 := by
  unfold liftF tieF
  simp only [ne_halfup_floor, ne_halfup_ceiling, ne_halfup_cut, ne_halfup_away, ne_halfup_halfdown, ne_halfup_halfeven, ne_halfup_halfaway, ne_halfup_halfcut, if_true, if_false]
  all_goals (first | rfl | (split <;> rfl))
theorem lift_halfdown (p : Int) (n o : Bool) : liftF "halfdown" p n o = if p = 0 then 0 else if p = 2 then 0 else if p = 3 then 1 else 0 := by
  unfold liftF tieF
  simp only [ne_halfdown_floor, ne_halfdown_ceiling, ne_halfdown_cut, ne_halfdown_away, ne_halfdown_halfup, ne_halfdown_halfeven, ne_halfdown_halfaway, ne_halfdown_halfcut, if_true, if_false]
  all_goals (first | rfl | (split <;> rfl))
theorem lift_halfeven (p : Int) (n o : Bool) : liftF "halfeven" p n o = if p = 0 then 0 else if p = 2 then (if o then 1 else 0) else if p = 3 then 1 else 0 := by
  unfold liftF tieF
  simp only [ne_halfeven_floor, ne_halfeven_ceiling, ne_halfeven_cut, ne_halfeven_away, ne_halfeven_halfup, ne_halfeven_halfdown, ne_halfeven_halfaway, ne_halfeven_halfcut, if_true, if_false]
  all_goals (first | rfl | (split <;> rfl))
theorem lift_halfaway (p : Int) (n o : Bool) : liftF "halfaway" p n o = if p = 0 then 0 else if p = 2 then (if !n then 1 else 0) else if p = 3 then 1 else 0 := by
  unfold liftF tieF
  simp only [ne_halfaway_floor, ne_halfaway_ceiling, ne_halfaway_cut, ne_halfaway_away, ne_halfaway_halfup, ne_halfaway_halfdown, ne_halfaway_halfeven, ne_halfaway_halfcut, if_true, if_false]
  all_goals (first | rfl | (split <;> rfl))
theorem lift_halfcut (p : Int) (n o : Bool) : liftF "halfcut" p n o = if p = 0 then 0 else if p = 2 then (if n then 1 else 0) else if p = 3 then 1 else 0 := by
  unfold liftF tieF
  simp only [ne_halfcut_floor, ne_halfcut_ceiling, ne_halfcut_cut, ne_halfcut_away, ne_halfcut_halfup, ne_halfcut_halfdown, ne_halfcut_halfeven, ne_halfcut_halfaway, if_true, if_false]
  all_goals (first | rfl | (split <;> rfl))
theorem near_floor (n d : Int) : nearF n d "floor" = if n / d * d = n then n / d else n / d := by
  unfold nearF pick4
  simp only [in_four_floor, ne_floor_ceiling, ne_floor_cut, ne_floor_away, ne_floor_halfup, ne_floor_halfdown, ne_floor_halfeven, ne_floor_halfaway, ne_floor_halfcut, if_true, if_false]
theorem near_ceiling (n d : Int) : nearF n d "ceiling" = if n / d * d = n then n / d else n / d + 1 := by
  unfold nearF pick4
  simp only [in_four_ceiling, ne_ceiling_floor, ne_ceiling_cut, ne_ceiling_away, ne_ceiling_halfup, ne_ceiling_halfdown, ne_ceiling_halfeven, ne_ceiling_halfaway, ne_ceiling_halfcut, if_true, if_false]
theorem near_cut (n d : Int) : nearF n d "cut" = if n / d * d = n then n / d else innF n (n / d) := by
  unfold nearF pick4
  simp only [in_four_cut, ne_cut_floor, ne_cut_ceiling, ne_cut_away, ne_cut_halfup, ne_cut_halfdown, ne_cut_halfeven, ne_cut_halfaway, ne_cut_halfcut, if_true, if_false]
theorem near_away (n d : Int) : nearF n d "away" = if n / d * d = n then n / d else outF n (n / d) := by
  unfold nearF pick4
  simp only [in_four_away, ne_away_floor, ne_away_ceiling, ne_away_cut, ne_away_halfup, ne_away_halfdown, ne_away_halfeven, ne_away_halfaway, ne_away_halfcut, if_true, if_false]
theorem near_halfup (n d : Int) : nearF n d "halfup" = if n / d * d = n then n / d else if 2 * (n - n / d * d) - d = 0 then n / d + 1 else if 2 * (n - n / d * d) - d < 0 then n / d else n / d + 1 := by
  unfold nearF pick5
  simp only [ni_four_halfup, ne_halfup_floor, ne_halfup_ceiling, ne_halfup_cut, ne_halfup_away, ne_halfup_halfdown, ne_halfup_halfeven, ne_halfup_halfaway, ne_halfup_halfcut, if_true, if_false]
theorem near_halfdown (n d : Int) : nearF n d "halfdown" = if n / d * d = n then n / d else if 2 * (n - n / d * d) - d = 0 then n / d else if 2 * (n - n / d * d) - d < 0 then n / d else n / d + 1 := by
  unfold nearF pick5
  simp only [ni_four_halfdown, ne_halfdown_floor, ne_halfdown_ceiling, ne_halfdown_cut, ne_halfdown_away, ne_halfdown_halfup, ne_halfdown_halfeven, ne_halfdown_halfaway, ne_halfdown_halfcut, if_true, if_false]
theorem near_halfeven (n d : Int) : nearF n d "halfeven" = if n / d * d = n then n / d else if 2 * (n - n / d * d) - d = 0 then (if n / d % 2 = 0 then n / d else n / d + 1) else if 2 * (n - n / d * d) - d < 0 then n / d else n / d + 1 := by
  unfold nearF pick5
  simp only [ni_four_halfeven, ne_halfeven_floor, ne_halfeven_ceiling, ne_halfeven_cut, ne_halfeven_away, ne_halfeven_halfup, ne_halfeven_halfdown, ne_halfeven_halfaway, ne_halfeven_halfcut, if_true, if_false]
theorem near_halfaway (n d : Int) : nearF n d "halfaway" = if n / d * d = n then n / d else if 2 * (n - n / d * d) - d = 0 then outF n (n / d) else if 2 * (n - n / d * d) - d < 0 then n / d else n / d + 1 := by
  unfold nearF pick5
  simp only [ni_four_halfaway, ne_halfaway_floor, ne_halfaway_ceiling, ne_halfaway_cut, ne_halfaway_away, ne_halfaway_halfup, ne_halfaway_halfdown, ne_halfaway_halfeven, ne_halfaway_halfcut, if_true, if_false]
theorem near_halfcut (n d : Int) : nearF n d "halfcut" = if n / d * d = n then n / d else if 2 * (n - n / d * d) - d = 0 then innF n (n / d) else if 2 * (n - n / d * d) - d < 0 then n / d else n / d + 1 := by
  unfold nearF pick5
  simp only [ni_four_halfcut, ne_halfcut_floor, ne_halfcut_ceiling, ne_halfcut_cut, ne_halfcut_away, ne_halfcut_halfup, ne_halfcut_halfdown, ne_halfcut_halfeven, ne_halfcut_halfaway, if_true, if_false]
theorem ways_cases {C : Str → Prop} (h : C "floor" ∧ C "ceiling" ∧ C "cut" ∧ C "away" ∧ C "halfup" ∧ C "halfdown" ∧ C "halfeven" ∧ C "halfaway" ∧ C "halfcut") : ∀ x ∈ waysL, C x := by
  intro x hx
  simp only [waysL, List.mem_cons, List.not_mem_nil, or_false] at hx
  obtain ⟨h1, h2, h3, h4, h5, h6, h7, h8, h9⟩ := h
  rcases hx with rfl | rfl | rfl | rfl | rfl | rfl | rfl | rfl | rfl <;> assumption

theorem ediv_eq (n d : Int) : n / d * d + n % d = n := by
  have := Int.mul_ediv_add_emod n d
  rw [Int.mul_comm] at this
  exact this

theorem dn_floor (n d : Int) (hd : 0 < d) : divF n d "floor" = nearF n d "floor" := by
  have e := ediv_eq n d
  have h0 := Int.emod_nonneg n (show d ≠ 0 by omega)
  have h1 := Int.emod_lt_of_pos n hd
  have hz : n = 0 → n % d = 0 := fun h => by rw [h]; exact Int.zero_emod d
  unfold divF
  simp only [lift_floor, near_floor, innF, outF, partF, Bool.not_eq_true', decide_eq_true_eq, decide_eq_false_iff_not, Bool.false_eq_true, Int.not_lt]
  generalize n / d * d = qd at *
  generalize n % d = r at *
  generalize n / d = q at *
  (repeat' split) <;> omega
theorem dn_ceiling (n d : Int) (hd : 0 < d) : divF n d "ceiling" = nearF n d "ceiling" := by
  have e := ediv_eq n d
  have h0 := Int.emod_nonneg n (show d ≠ 0 by omega)
  have h1 := Int.emod_lt_of_pos n hd
  have hz : n = 0 → n % d = 0 := fun h => by rw [h]; exact Int.zero_emod d
  unfold divF
  simp only [lift_ceiling, near_ceiling, innF, outF, partF, Bool.not_eq_true', decide_eq_true_eq, decide_eq_false_iff_not, Bool.false_eq_true, Int.not_lt]
  generalize n / d * d = qd at *
  generalize n % d = r at *
  generalize n / d = q at *
  (repeat' split) <;> omega
theorem dn_cut (n d : Int) (hd : 0 < d) : divF n d "cut" = nearF n d "cut" := by
  have e := ediv_eq n d
  have h0 := Int.emod_nonneg n (show d ≠ 0 by omega)
  have h1 := Int.emod_lt_of_pos n hd
  have hz : n = 0 → n % d = 0 := fun h => by rw [h]; exact Int.zero_emod d
  unfold divF
  simp only [lift_cut, near_cut, innF, outF, partF, Bool.not_eq_true', decide_eq_true_eq, decide_eq_false_iff_not, Bool.false_eq_true, Int.not_lt]
  generalize n / d * d = qd at *
  generalize n % d = r at *
  generalize n / d = q at *
  (repeat' split) <;> omega
theorem dn_away (n d : Int) (hd : 0 < d) : divF n d "away" = nearF n d "away" := by
  have e := ediv_eq n d
  have h0 := Int.emod_nonneg n (show d ≠ 0 by omega)
  have h1 := Int.emod_lt_of_pos n hd
  have hz : n = 0 → n % d = 0 := fun h => by rw [h]; exact Int.zero_emod d
  unfold divF
  simp only [lift_away, near_away, innF, outF, partF, Bool.not_eq_true', decide_eq_true_eq, decide_eq_false_iff_not, Bool.false_eq_true, Int.not_lt]
  generalize n / d * d = qd at *
  generalize n % d = r at *
  generalize n / d = q at *
  (repeat' split) <;> omega
theorem dn_halfup (n d : Int) (hd : 0 < d) : divF n d "halfup" = nearF n d "halfup" := by
  have e := ediv_eq n d
  have h0 := Int.emod_nonneg n (show d ≠ 0 by omega)
  have h1 := Int.emod_lt_of_pos n hd
  have hz : n = 0 → n % d = 0 := fun h => by rw [h]; exact Int.zero_emod d
  unfold divF
  simp only [lift_halfup, near_halfup, innF, outF, partF, Bool.not_eq_true', decide_eq_true_eq, decide_eq_false_iff_not, Bool.false_eq_true, Int.not_lt]
  generalize n / d * d = qd at *
  generalize n % d = r at *
  generalize n / d = q at *
  (repeat' split) <;> omega
theorem dn_halfdown (n d : Int) (hd : 0 < d) : divF n d "halfdown" = nearF n d "halfdown" := by
  have e := ediv_eq n d
  have h0 := Int.emod_nonneg n (show d ≠ 0 by omega)
  have h1 := Int.emod_lt_of_pos n hd
  have hz : n = 0 → n % d = 0 := fun h => by rw [h]; exact Int.zero_emod d
  unfold divF
  simp only [lift_halfdown, near_halfdown, innF, outF, partF, Bool.not_eq_true', decide_eq_true_eq, decide_eq_false_iff_not, Bool.false_eq_true, Int.not_lt]
  generalize n / d * d = qd at *
  generalize n % d = r at *
  generalize n / d = q at *
  (repeat' split) <;> omega
theorem dn_halfeven (n d : Int) (hd : 0 < d) : divF n d "halfeven" = nearF n d "halfeven" := by
  have e := ediv_eq n d
  have h0 := Int.emod_nonneg n (show d ≠ 0 by omega)
  have h1 := Int.emod_lt_of_pos n hd
  have hz : n = 0 → n % d = 0 := fun h => by rw [h]; exact Int.zero_emod d
  unfold divF
  simp only [lift_halfeven, near_halfeven, innF, outF, partF, Bool.not_eq_true', decide_eq_true_eq, decide_eq_false_iff_not, Bool.false_eq_true, Int.not_lt]
  generalize n / d * d = qd at *
  generalize n % d = r at *
  generalize n / d = q at *
  (repeat' split) <;> omega
theorem dn_halfaway (n d : Int) (hd : 0 < d) : divF n d "halfaway" = nearF n d "halfaway" := by
  have e := ediv_eq n d
  have h0 := Int.emod_nonneg n (show d ≠ 0 by omega)
  have h1 := Int.emod_lt_of_pos n hd
  have hz : n = 0 → n % d = 0 := fun h => by rw [h]; exact Int.zero_emod d
  unfold divF
  simp only [lift_halfaway, near_halfaway, innF, outF, partF, Bool.not_eq_true', decide_eq_true_eq, decide_eq_false_iff_not, Bool.false_eq_true, Int.not_lt]
  generalize n / d * d = qd at *
  generalize n % d = r at *
  generalize n / d = q at *
  (repeat' split) <;> omega
theorem dn_halfcut (n d : Int) (hd : 0 < d) : divF n d "halfcut" = nearF n d "halfcut" := by
  have e := ediv_eq n d
  have h0 := Int.emod_nonneg n (show d ≠ 0 by omega)
  have h1 := Int.emod_lt_of_pos n hd
  have hz : n = 0 → n % d = 0 := fun h => by rw [h]; exact Int.zero_emod d
  unfold divF
  simp only [lift_halfcut, near_halfcut, innF, outF, partF, Bool.not_eq_true', decide_eq_true_eq, decide_eq_false_iff_not, Bool.false_eq_true, Int.not_lt]
  generalize n / d * d = qd at *
  generalize n % d = r at *
  generalize n / d = q at *
  (repeat' split) <;> omega
theorem div_near (n d : Int) (hd : 0 < d) : ∀ x ∈ waysL, divF n d x = nearF n d x := ways_cases ⟨dn_floor n d hd, dn_ceiling n d hd, dn_cut n d hd, dn_away n d hd, dn_halfup n d hd, dn_halfdown n d hd, dn_halfeven n d hd, dn_halfaway n d hd, dn_halfcut n d hd⟩
theorem near_scale (n d k : Int) (hd : 0 < d) (hk : 0 < k) : ∀ x ∈ waysL, nearF (n * k) (d * k) x = nearF n d x := by
  have e1 : (n * k) / (d * k) = n / d := Int.mul_ediv_mul_of_pos_left n d hk
  have e2 : n / d * (d * k) = n / d * d * k := (Int.mul_assoc _ _ _).symm
  have e3 : (n / d * d * k = n * k) = (n / d * d = n) := propext ⟨fun h => Int.eq_of_mul_eq_mul_right (by omega) h, fun h => by rw [h]⟩
  have e4 : 2 * (n * k - n / d * d * k) - d * k = (2 * (n - n / d * d) - d) * k := by
    have e8 : (n - n / d * d) * k = n * k - n / d * d * k := Int.sub_mul _ _ _
    have e9 : (2 * (n - n / d * d) - d) * k = 2 * ((n - n / d * d) * k) - d * k := by rw [Int.sub_mul, Int.mul_assoc]
    rw [e9, e8]
  have e5 : ((2 * (n - n / d * d) - d) * k = 0) = (2 * (n - n / d * d) - d = 0) := propext ⟨fun h => by
    rcases Int.mul_eq_zero.mp h with h | h
    · exact h
    · omega, fun h => by rw [h, Int.zero_mul]⟩
  have e6 : ((2 * (n - n / d * d) - d) * k < 0) = (2 * (n - n / d * d) - d < 0) := propext ⟨fun h => by
    rcases Int.lt_or_le (2 * (n - n / d * d) - d) 0 with c | c
    · exact c
    · have := Int.mul_nonneg c (Int.le_of_lt hk)
      omega, fun h => Int.mul_neg_of_neg_of_pos h hk⟩
  have e7 : (0 < n * k) = (0 < n) := propext ⟨fun h => by
    rcases Int.lt_or_le 0 n with c | c
    · exact c
    · have := Int.mul_nonpos_of_nonpos_of_nonneg c (Int.le_of_lt hk)
      omega, fun h => Int.mul_pos h hk⟩
  intro x hx
  unfold nearF innF outF
  simp only [e1, e2, e3, e4, e5, e6, e7]

end K04
namespace K04
open PySem L2 DS
set_option pp.maxSteps 1200
local macro_rules | `(tactic| walk_at "c") => `(tactic| first
  | (dsimp only; omega)
  | omega
  | (show CMulA _ _; first | exact CMulA.s1 (by omega) (by omega) | exact CMulA.s2 (by omega) (by omega))
  | (show CDivW _ _; first | exact ⟨by omega, by assumption⟩ | exact ⟨by omega, by decide⟩)
  | (show CPow _ _; exact ⟨by decide, by decide, by decide⟩)
  | assumption)
local macro_rules | `(tactic| walk_at "get") => `(tactic| first
  | assumption
  | (refine (by assumption : Same _ _) _ _ ?_; walk_at "get")
  | (refine (by assumption : Keep _ _) _ _ ?_ rfl; walk_at "get"))
local macro_rules | `(tactic| walk_at "pen") => `(tactic| first
  | assumption
  | (refine Pen.same (by assumption) ?_; walk_at "pen")
  | (refine Pen.mono ?_ (by omega); assumption))
local macro_rules | `(tactic| walk_at "keep") => `(tactic| first
  | assumption
  | exact Keep.refl _
  | exact Keep.of (by assumption)
  | (refine Keep.trans ?_ (by assumption); walk_at "keep")
  | (refine Keep.same ?_ (by assumption); walk_at "keep"))
local macro_rules | `(tactic| walk_at "same") => `(tactic| first
  | assumption
  | exact Same.refl _
  | (refine Same.trans ?_ (by assumption); walk_at "same"))
local macro_rules | `(tactic| walk_at "s") => `(tactic| first
  | with_reducible refine w_seq ?_
  | with_reducible refine w_asg ?_
  | with_reducible refine w_name ?_
  | ((with_reducible apply w_var); exact rfl)
  | with_reducible refine w_c ?_
  | with_reducible refine w_op ?_
  | with_reducible refine w_I0 ?_
  | ((with_reducible apply w_I); (walk_at "c"))
  | with_reducible refine w_cons ?_
  | with_reducible refine w_nil ?_
  | with_reducible refine w_cb ?_
  | with_reducible refine w_int1 ?_
  | with_reducible refine w_int1b ?_
  | with_reducible refine w_call ?_
  | with_reducible refine w_ifs ?_
  | with_reducible refine w_test ?_
  | with_reducible refine w_k ?_
  | with_reducible refine w_ret ?_
  | with_reducible refine w_drop ?_
  | with_reducible refine w_not ?_
  | with_reducible refine w_and ?_
  | with_reducible refine w_or ?_
  | with_reducible refine w_andV ?_
  | with_reducible refine w_orV ?_
  | with_reducible refine w_notV ?_
  | with_reducible refine w_if ?_
  | with_reducible refine w_B ?_
  | with_reducible refine w_un ?_
  | with_reducible refine w_U ?_
  | (with_reducible refine w_tup ?_; intro _ _)
  | (with_reducible refine w_lst ?_; intro _ _)
  | with_reducible refine w_dget ?_
  | with_reducible refine w_dput ?_
  | with_reducible refine w_fld ?_
  | with_reducible refine w_meth ?_
  | (with_reducible refine w_make ?_; intro _ _)
  | with_reducible refine w_par ?_
  | with_reducible refine w_par3 ?_
  | with_reducible refine w_two ?_
  | with_reducible refine w_three ?_
  | with_reducible refine w_one ?_
  | with_reducible refine w_chain ?_
  | with_reducible refine w_next ?_
  | with_reducible refine w_brk ?_
  | with_reducible refine w_cont ?_
  | with_reducible refine w_retN ?_
  | with_reducible refine w_gcons ?_
  | with_reducible refine w_gnil ?_
  | ((with_reducible refine w_eq ?_ ?_); exact rfl)
  | ((with_reducible refine w_ne ?_ ?_); exact rfl)
  | with_reducible refine w_part ?_
  | with_reducible refine w_lc ?_
  | with_reducible refine w_yes ?_
  | with_reducible refine w_iTup ?_
  | with_reducible refine w_iList ?_
  | with_reducible refine w_unT ?_
  | with_reducible refine w_unT0 ?_
  | with_reducible refine w_unL ?_
  | with_reducible refine w_unL0 ?_
  | ((with_reducible apply w_gtup); (walk_at "get"); (exact rfl))
  | with_reducible refine w_gfld ?_
  | with_reducible refine w_sfld ?_
  | with_reducible refine w_risi ?_
  | with_reducible refine w_i ?_
  | with_reducible refine w_pnil ?_
  | with_reducible refine w_pcons ?_
  | with_reducible refine w_sl ?_
  | with_reducible refine w_nopart ?_
  | with_reducible refine w_for ?_
  | with_reducible refine w_while ?_
  | with_reducible refine w_irng1 ?_
  | with_reducible refine w_irng2 ?_
  | with_reducible refine And.intro (rfl : V.non = V.non) ?_)
local macro_rules | `(tactic| walk_at "go") => `(tactic| repeat (walk_at "s"))

section
variable {P : Program} {w : World} {K : PySem.W.Frag} {mg : Str → Option Value} {base : Heap}
theorem val4 (a b c d : Int) {x : Str} (hx : x ∈ four) : valV (mergeK [] [(Sum.inr "floor", V.int a), (Sum.inr "ceiling", .int b), (Sum.inr "cut", .int c), (Sum.inr "away", .int d)]) (Sum.inr x) = some (.int (pick4 x a b c d)) := by
  simp only [four, List.mem_cons, List.not_mem_nil, or_false] at hx
  rcases hx with rfl | rfl | rfl | rfl <;> kernel_rfl
theorem val5 (a b c d e : Int) {x : Str} (hx : x ∈ waysL) (hf : ¬ x ∈ four) : valV (mergeK [] [(Sum.inr "halfup", V.int a), (Sum.inr "halfdown", .int b), (Sum.inr "halfeven", .int c), (Sum.inr "halfaway", .int d), (Sum.inr "halfcut", .int e)]) (Sum.inr x) = some (.int (pick5 x a b c d e)) := by
  simp only [waysL, List.mem_cons, List.not_mem_nil, or_false] at hx
  rcases hx with rfl | rfl | rfl | rfl | rfl | rfl | rfl | rfl | rfl
  · exact absurd in_four_floor hf
  · exact absurd in_four_ceiling hf
  · exact absurd in_four_cut hf
  · exact absurd in_four_away hf
  all_goals kernel_rfl
def sp_near : Sp := fun vs H Q _ => ∃ (n d : Int) (x : Str), vs = [.int n, .int d, .str x] ∧ x ∈ waysL ∧ 0 < d ∧ n.natAbs < 2 ^ 5000 ∧ d.natAbs < 2 ^ 5000 ∧ ∀ H', Same H H' → Q (.int (nearF n d x)) H'
theorem ok__law_near (T : Tx w K mg) : FnOk P w K mg base CX0 1 T.f__law_near T.fd__law_near ["_law_number", "_law_divisor", "_law_manner"] sp_near := by
  refine T.F__law_near.ok sc__law_near (fun vs H Q E h => ?_) (fun cdv A outer s H vs Q E hr h => ?_)
  · obtain ⟨n, d, x, rfl, _⟩ := h
    rfl
  · obtain ⟨n, d, x, rfl, hx, hd, hn, hdb, q⟩ := h
    have hu := hu_of hr
    have hu64 := hu64_of hr
    have hlog : d.natAbs.log2 < 9000 := Nat.lt_of_lt_of_le (PySem.Flt.log2_lt_of (by decide) hdb) (by decide)
    have c1 : CMulA (n / d) d := CMulA.w (Nat.lt_of_le_of_lt (ediv_abs n d) hn) hdb (by decide)
    clear hn hdb
    refine ⟨_, (pss_cons (ps_set (i := 3) sc__law_near.nd rfl (Or.inl rfl) (pe_op op_fdivW (pv 0) (pv 1)))
      (pss_cons (ps_if (pt_cmpR op_eq (pe_op op_mulA (pv 3) (pv 1)) (pv 0) (nomark _)) (pss_one (ps_ret (pv 3))) pss_nil)
      (pss_cons (ps_asg (pe_ifExp (pt_cmpR op_gt (pv 0) pe_int (nomark _)) (pe_tup (pa_cons (pv 3) (pa_cons (pe_op op_add (pv 3) pe_int) pa_nil))) (pe_tup (pa_cons (pe_op op_add (pv 3) pe_int) (pa_cons (pv 3) pa_nil)))) (pg_tup rfl (pgs_cons (pg_name (i := 4) sc__law_near.nd rfl (Or.inl rfl)) (pgs_cons (pg_name (i := 5) sc__law_near.nd rfl (Or.inl rfl)) pgs_nil))))
      (pss_cons (ps_set (i := 6) sc__law_near.nd rfl (Or.inl rfl) (pe_op op_sub (pe_op op_mulA pe_int (pe_op op_sub (pv 0) (pe_op op_mulA (pv 3) (pv 1)))) (pv 1)))
      (pss_cons (ps_if (pt_cmpR op_in_seq (pv 2) (pe_lst (pa_cons pe_str (pa_cons pe_str (pa_cons pe_str (pa_cons pe_str pa_nil))))) rfl) (pss_one (ps_ret (pe_dget hu (pe_disp (pps_cons pe_str (pv 3) (pps_cons pe_str (pe_op op_add (pv 3) pe_int) (pps_cons pe_str (pv 4) (pps_cons pe_str (pv 5) pps_nil)))) rfl rfl (by simp) (by decide)) (pv 2) (fun _ _ => rfl)))) pss_nil)
      (pss_cons (ps_if (pt_cmpR op_ne (pv 6) pe_int (nomark _)) (pss_one (ps_ret (pe_ifExp (pt_cmpR op_lt (pv 6) pe_int (nomark _)) (pv 3) (pe_op op_add (pv 3) pe_int)))) pss_nil)
      (pss_cons (ps_set (i := 7) sc__law_near.nd rfl (Or.inl rfl) (pe_ifExp (pt_cmpR op_eq (pe_op op_mod (pe_callTy call_int1 (by rfl) T.z_int (by decide +kernel) (pa_cons (pv 3) pa_nil)) pe_int) pe_int (nomark _)) (pv 3) (pe_op op_add (pv 3) pe_int)))
      (pss_one (ps_ret (pe_dget hu (pe_disp (pps_cons pe_str (pe_op op_add (pv 3) pe_int) (pps_cons pe_str (pv 3) (pps_cons pe_str (pv 7) (pps_cons pe_str (pv 5) (pps_cons pe_str (pv 4) pps_nil))))) rfl rfl (by simp) (by decide)) (pv 2) (fun _ _ => rfl))))))))))), ?_⟩
    walk_at "go"
    refine w_ite (fun h1 => ?_) (fun h1 => ?_)
    all_goals rw [V_int] at h1
    · walk_at "go"
      have z := q H (Same.refl H)
      unfold nearF at z
      rw [if_pos h1] at z
      exact z
    walk_at "go"
    -- inner, outer
    have tail : ∀ (H1 : Hp) (p : Addr), Same H H1 → H1 p = some (.tup [.int (innF n (n / d)), .int (outF n (n / d))]) → True := fun _ _ _ _ => trivial
    refine w_ite (fun h2 => ?yes) (fun h2 => ?no)
    all_goals
      walk_at "go"
      refine w_new (by assumption) (Nat.le_of_ble_eq_true rfl) (fun p1 H1 n1 s1 e1 => ?_)
      walk_at "go"
      refine w_new (by assumption) (Nat.le_of_ble_eq_true rfl) (fun p2 H2 n2 s2 e2 => ?_)
      walk_at "go"
      refine w_inL (l := four) e2 ?_
      walk_at "go"
      refine w_ite (fun h3 => ?_) (fun h3 => ?_)
      · walk_at "go"
        refine w_disp (fun Q' eQ p3 H3 n3 s3 e3 => ?_)
        walk_at "go"
        refine w_dend [(Sum.inr "floor", V.int _), (Sum.inr "ceiling", .int _), (Sum.inr "cut", .int _), (Sum.inr "away", .int _)] eQ e3 rfl (Nat.le_of_ble_eq_true rfl) (fun H4 k4 sm4 e4 => ?_)
        walk_at "go"
        refine w_dg e4 (val4 _ _ _ _ h3) ?_
        have z := q H4 (sm4 _ ((s1.trans s2).trans s3) ((s1.trans s2).free n3))
        unfold nearF innF outF at z
        rw [if_neg h1, if_pos h3] at z
        simp only [h2, if_true, if_false] at z
        exact z
      walk_at "go"
      refine w_iteN (fun h4 => ?_) (fun h4 => ?_)
      all_goals rw [V_int] at h4
      · walk_at "go"
        refine w_ite (fun h5 => ?_) (fun h5 => ?_)
        · walk_at "go"
          have z := q H2 (s1.trans s2)
          unfold nearF at z
          rw [if_neg h1, if_neg h3, if_neg h4, if_pos h5] at z
          exact z
        · walk_at "go"
          have z := q H2 (s1.trans s2)
          unfold nearF at z
          rw [if_neg h1, if_neg h3, if_neg h4, if_neg h5] at z
          exact z
      walk_at "go"
      refine w_ite (fun h6 => ?_) (fun h6 => ?_)
      all_goals
        rw [V_int] at h6
        walk_at "go"
        refine w_disp (fun Q' eQ p3 H3 n3 s3 e3 => ?_)
        walk_at "go"
        refine w_dend [(Sum.inr "halfup", V.int _), (Sum.inr "halfdown", .int _), (Sum.inr "halfeven", .int _), (Sum.inr "halfaway", .int _), (Sum.inr "halfcut", .int _)] eQ e3 rfl (Nat.le_of_ble_eq_true rfl) (fun H4 k4 sm4 e4 => ?_)
        walk_at "go"
        refine w_dg e4 (val5 _ _ _ _ _ hx h3) ?_
        have z := q H4 (sm4 _ ((s1.trans s2).trans s3) ((s1.trans s2).free n3))
        unfold nearF innF outF at z
        rw [if_neg h1, if_neg h3, if_pos h4] at z
        simp only [h2, h6, if_true, if_false] at z
        exact z
end
end K04
namespace K04
open PySem L2 DS
set_option pp.maxSteps 1200
local macro_rules | `(tactic| walk_at "c") => `(tactic| first
  | (dsimp only; omega)
  | omega
  | (show CMulA _ _; first | exact CMulA.s1 (by omega) (by omega) | exact CMulA.s2 (by omega) (by omega))
  | (show CDivW _ _; first | exact ⟨by omega, by assumption⟩ | exact ⟨by omega, by decide⟩)
  | (show CPow _ _; exact ⟨by decide, by decide, by decide⟩)
  | assumption)
local macro_rules | `(tactic| walk_at "get") => `(tactic| first
  | assumption
  | (refine (by assumption : Same _ _) _ _ ?_; walk_at "get")
  | (refine (by assumption : Keep _ _) _ _ ?_ rfl; walk_at "get"))
local macro_rules | `(tactic| walk_at "pen") => `(tactic| first
  | assumption
  | (refine Pen.same (by assumption) ?_; walk_at "pen")
  | (refine Pen.mono ?_ (by omega); assumption))
local macro_rules | `(tactic| walk_at "keep") => `(tactic| first
  | assumption
  | exact Keep.refl _
  | exact Keep.of (by assumption)
  | (refine Keep.trans ?_ (by assumption); walk_at "keep")
  | (refine Keep.same ?_ (by assumption); walk_at "keep"))
local macro_rules | `(tactic| walk_at "same") => `(tactic| first
  | assumption
  | exact Same.refl _
  | (refine Same.trans ?_ (by assumption); walk_at "same"))
local macro_rules | `(tactic| walk_at "s") => `(tactic| first
  | with_reducible refine w_seq ?_
  | with_reducible refine w_asg ?_
  | with_reducible refine w_name ?_
  | ((with_reducible apply w_var); exact rfl)
  | with_reducible refine w_c ?_
  | with_reducible refine w_op ?_
  | with_reducible refine w_I0 ?_
  | ((with_reducible apply w_I); (walk_at "c"))
  | with_reducible refine w_cons ?_
  | with_reducible refine w_nil ?_
  | with_reducible refine w_cb ?_
  | with_reducible refine w_int1 ?_
  | with_reducible refine w_int1b ?_
  | with_reducible refine w_call ?_
  | with_reducible refine w_ifs ?_
  | with_reducible refine w_test ?_
  | with_reducible refine w_k ?_
  | with_reducible refine w_ret ?_
  | with_reducible refine w_drop ?_
  | with_reducible refine w_not ?_
  | with_reducible refine w_and ?_
  | with_reducible refine w_or ?_
  | with_reducible refine w_andV ?_
  | with_reducible refine w_orV ?_
  | with_reducible refine w_notV ?_
  | with_reducible refine w_if ?_
  | with_reducible refine w_B ?_
  | with_reducible refine w_un ?_
  | with_reducible refine w_U ?_
  | (with_reducible refine w_tup ?_; intro _ _)
  | (with_reducible refine w_lst ?_; intro _ _)
  | with_reducible refine w_dget ?_
  | with_reducible refine w_dput ?_
  | with_reducible refine w_fld ?_
  | with_reducible refine w_meth ?_
  | (with_reducible refine w_make ?_; intro _ _)
  | with_reducible refine w_par ?_
  | with_reducible refine w_par3 ?_
  | with_reducible refine w_two ?_
  | with_reducible refine w_three ?_
  | with_reducible refine w_one ?_
  | with_reducible refine w_chain ?_
  | with_reducible refine w_next ?_
  | with_reducible refine w_brk ?_
  | with_reducible refine w_cont ?_
  | with_reducible refine w_retN ?_
  | with_reducible refine w_gcons ?_
  | with_reducible refine w_gnil ?_
  | ((with_reducible refine w_eq ?_ ?_); exact rfl)
  | ((with_reducible refine w_ne ?_ ?_); exact rfl)
  | with_reducible refine w_part ?_
  | with_reducible refine w_lc ?_
  | with_reducible refine w_yes ?_
  | with_reducible refine w_iTup ?_
  | with_reducible refine w_iList ?_
  | with_reducible refine w_unT ?_
  | with_reducible refine w_unT0 ?_
  | with_reducible refine w_unL ?_
  | with_reducible refine w_unL0 ?_
  | ((with_reducible apply w_gtup); (walk_at "get"); (exact rfl))
  | with_reducible refine w_gfld ?_
  | with_reducible refine w_sfld ?_
  | with_reducible refine w_risi ?_
  | with_reducible refine w_i ?_
  | with_reducible refine w_pnil ?_
  | with_reducible refine w_pcons ?_
  | with_reducible refine w_sl ?_
  | with_reducible refine w_nopart ?_
  | with_reducible refine w_for ?_
  | with_reducible refine w_while ?_
  | with_reducible refine w_irng1 ?_
  | with_reducible refine w_irng2 ?_
  | with_reducible refine And.intro (rfl : V.non = V.non) ?_)
local macro_rules | `(tactic| walk_at "go") => `(tactic| repeat (walk_at "s"))

section
variable {P : Program} {w : World} {K : PySem.W.Frag} {mg : Str → Option Value} {base : Heap}
def sp_needpos : Sp := fun vs H Q _ => ∃ n : Int, vs = [.int n] ∧ 0 < n ∧ Q .non H
theorem ok_need_positive (T : Tx w K mg) : FnOk P w K mg base CX0 3 T.f_need_positive T.fd_need_positive ["value"] sp_needpos := by
  refine T.F_need_positive.ok sc_need_positive (fun vs H Q E h => ?_) (fun cdv A outer s H vs Q E hr h => ?_)
  · obtain ⟨v, rfl, _⟩ := h
    rfl
  · obtain ⟨v, rfl, h0, q⟩ := h
    refine ⟨_, (pss_one (ps_if (PW.pt (pw_or (pt_not (pt_val (pe_call (ok_is_whole T) (hr.mono (by decide)) rfl T.g_is_whole T.F_is_whole.kp T.b_is_whole .nil pass0 (pa_cons (pv 0) pa_nil)))) (pw_or1 (pt_cmpR op_eq (pv 0) pe_int (nomark _))))) (pss_never) pss_nil)), ?_⟩
    walk_at "go"
    refine ⟨_, rfl, .inl ⟨v, rfl, ?_⟩⟩
    walk_at "go"
    rw [decide_eq_true (show 0 ≤ v by omega)]
    refine iteF ?_
    walk_at "go"
    refine w_ite (fun hc => ?_) (fun hc => ?_)
    · rw [V_int] at hc
      omega
    · exact q
def sp_worthof (C : Addr) : Sp := fun vs H Q _ => ∃ (p : Addr) (u : Int) (s : Nat), vs = [.ref p] ∧ WAt C H p u s ∧ Q (.ref p) H
theorem ok_worth_of (T : Tx w K mg) : FnOk P w K mg base CX0 1 T.f_worth_of T.fd_worth_of ["value"] (sp_worthof T.C_Worth) := by
  refine T.F_worth_of.ok sc_worth_of (fun vs H Q E h => ?_) (fun cdv A outer s H vs Q E hr h => ?_)
  · obtain ⟨p, u, s, rfl, _⟩ := h
    rfl
  · obtain ⟨p, u, s, rfl, ⟨dx, hp⟩, q⟩ := h
    refine ⟨_, (pss_cons (ps_if (pt_val (pe_callB call_isi (by rfl) T.z_isinstance (by decide +kernel) (pa_cons (pv 0) (pa_cons (pe_glob (v := .ref T.C_Worth) rfl T.gC_Worth rfl) pa_nil)))) (pss_one (ps_ret (pv 0))) pss_nil)
      (pss_cons (ps_never)
      (pss_never))), ?_⟩
    walk_at "go"
    refine w_isi (.own _) (.base (T.tyW _ _ _ _ hp)) T.kiW ?_
    walk_at "go"
    refine iteT ?_
    walk_at "go"
    exact q
theorem ten_add (a b : Nat) : (10 : Int) ^ a * 10 ^ b = 10 ^ (a + b) := (Int.pow_add _ _ _).symm
/-- a worth's units at a greater scale -/
theorem up_val {u : Int} {s m M : Nat} (h1 : (nrm u s).2 ≤ m) (h2 : m ≤ M) (h3 : s ≤ M) : u * 10 ^ (M - s) = (nrm u s).1 * 10 ^ (m - (nrm u s).2) * 10 ^ (M - m) := by
  have hv := nrm_val s u
  have hl := nrm_le s u
  have e : u * 10 ^ (M - s) = (nrm u s).1 * 10 ^ (s - (nrm u s).2) * 10 ^ (M - s) := congrArg (· * 10 ^ (M - s)) hv
  rw [e, Int.mul_assoc, ten_add, Int.mul_assoc, ten_add]
  congr 2
  omega
theorem nrm_sum (u v sg : Int) (s t : Nat) : nrm ((nrm u s).1 * 10 ^ (max (nrm u s).2 (nrm v t).2 - (nrm u s).2) + sg * (nrm v t).1 * 10 ^ (max (nrm u s).2 (nrm v t).2 - (nrm v t).2)) (max (nrm u s).2 (nrm v t).2) =
    nrm (u * 10 ^ (max s t - s) + sg * (v * 10 ^ (max s t - t))) (max s t) := by
  have l1 := nrm_le s u
  have l2 := nrm_le t v
  have a1 := up_val (u := u) (s := s) (m := max (nrm u s).2 (nrm v t).2) (M := max s t) (by omega) (by omega) (by omega)
  have a2 := up_val (u := v) (s := t) (m := max (nrm u s).2 (nrm v t).2) (M := max s t) (by omega) (by omega) (by omega)
  rw [a1, a2]
  have e : (nrm u s).1 * 10 ^ (max (nrm u s).2 (nrm v t).2 - (nrm u s).2) * 10 ^ (max s t - max (nrm u s).2 (nrm v t).2) + sg * ((nrm v t).1 * 10 ^ (max (nrm u s).2 (nrm v t).2 - (nrm v t).2) * 10 ^ (max s t - max (nrm u s).2 (nrm v t).2)) =
      ((nrm u s).1 * 10 ^ (max (nrm u s).2 (nrm v t).2 - (nrm u s).2) + sg * (nrm v t).1 * 10 ^ (max (nrm u s).2 (nrm v t).2 - (nrm v t).2)) * 10 ^ (max s t - max (nrm u s).2 (nrm v t).2) := by
    rw [Int.add_mul, Int.mul_assoc sg, Int.mul_assoc sg]
  rw [e]
  have z := nrm_mul (max s t - max (nrm u s).2 (nrm v t).2) (max (nrm u s).2 (nrm v t).2) ((nrm u s).1 * 10 ^ (max (nrm u s).2 (nrm v t).2 - (nrm u s).2) + sg * (nrm v t).1 * 10 ^ (max (nrm u s).2 (nrm v t).2 - (nrm v t).2))
  rw [show max (nrm u s).2 (nrm v t).2 + (max s t - max (nrm u s).2 (nrm v t).2) = max s t by omega] at z
  exact z.symm
def sp_wsum (C : Addr) : Sp := fun vs H Q _ => ∃ (p q : Addr) (u v sg : Int) (s t : Nat), vs = [.ref p, .ref q, .int sg] ∧ WAt C H p u s ∧ WAt C H q v t ∧ -1 ≤ sg ∧ sg ≤ 1 ∧ s ≤ 1000 ∧ t ≤ 1000 ∧ u.natAbs < 2 ^ 1000 ∧ v.natAbs < 2 ^ 1000 ∧
  ∀ x H', Same H H' → WAt C H' x (u * 10 ^ (max s t - s) + sg * (v * 10 ^ (max s t - t))) (max s t) → Q (.ref x) H'
theorem ok_worth_sum (T : Tx w K mg) : FnOk P w K mg base CX0 6 T.f_worth_sum T.fd_worth_sum ["one", "other", "sign"] (sp_wsum T.C_Worth) := by
  refine T.F_worth_sum.ok sc_worth_sum (fun vs H Q E h => ?_) (fun cdv A outer s H vs Q E hr h => ?_)
  · obtain ⟨p, q, u, v, sg, s, t, rfl, _⟩ := h
    rfl
  · obtain ⟨p, q, u, v, sg, s, t, rfl, hp, hq, g0, g1, hs, ht, hu, hv, k⟩ := h
    obtain ⟨dp, hp⟩ := hp
    obtain ⟨dq, hq⟩ := hq
    have l1 := nrm_le s u
    have l2 := nrm_le t v
    have nu := Nat.lt_of_le_of_lt (nrm_abs s u) hu
    have nv := Nat.lt_of_le_of_lt (nrm_abs t v) hv
    have hm : ∀ a b : Nat, (if (b : Int) > a then (b : Int) else a) = ((max a b : Nat) : Int) := fun a b => by split <;> omega
    have ks := nrm_sum u v sg s t
    clear hu hv
    refine ⟨_, (pss_cons (ps_set (i := 3) sc_worth_sum.nd rfl (Or.inl rfl) (pe_callB (call_max2 rfl) (by rfl) T.z_max (by decide +kernel) (pa_cons (pe_fld (pv 0) rfl) (pa_cons (pe_fld (pv 1) rfl) pa_nil))))
      (pss_cons (ps_set (i := 4) sc_worth_sum.nd rfl (Or.inl rfl) (pe_op op_mulA (pe_fld (pv 0) rfl) (pe_call (ok_ten_to T) (hr.mono (by decide)) rfl T.g_ten_to T.F_ten_to.kp T.b_ten_to .nil pass0 (pa_cons (pe_op op_sub (pv 3) (pe_fld (pv 0) rfl)) pa_nil))))
      (pss_one (ps_ret (pe_make T.M_Worth (ok_Worth___init__ T) (hr.mono (by decide)) rfl T.gC_Worth T.b_Worth___init__ .nil pass0 (pa_cons (pe_op op_add (pv 4) (pe_op op_mulA (pe_op op_mulA (pv 2) (pe_fld (pv 1) rfl)) (pe_call (ok_ten_to T) (hr.mono (by decide)) rfl T.g_ten_to T.F_ten_to.kp T.b_ten_to .nil pass0 (pa_cons (pe_op op_sub (pv 3) (pe_fld (pv 1) rfl)) pa_nil)))) (pa_cons (pv 3) pa_nil))))))), ?_⟩
    walk_at "go"
    refine w_flds hp T.cl_Worth T.n_Worth_scale (wf_scale _ _) ?_
    walk_at "go"
    refine w_flds hq T.cl_Worth T.n_Worth_scale (wf_scale _ _) ?_
    walk_at "go"
    refine ⟨_, _, rfl, ?_⟩
    rw [hm]
    generalize hM : max (nrm u s).2 (nrm v t).2 = m at *
    walk_at "go"
    refine w_flds hp T.cl_Worth T.n_Worth_units (wf_units _ _) ?_
    walk_at "go"
    refine w_flds hp T.cl_Worth T.n_Worth_scale (wf_scale _ _) ?_
    walk_at "go"
    refine ⟨m - (nrm u s).2, by simp; omega, by omega, fun H1 s1 => ?_⟩
    have c1 : CMulA (nrm u s).1 (10 ^ (m - (nrm u s).2)) := CMulA.w nu (pow_wide (ten_lt _) (show 4 * (m - (nrm u s).2) + 1 ≤ 4001 by omega)) (by decide)
    walk_at "go"
    refine w_flds (s1 _ _ hq) T.cl_Worth T.n_Worth_units (wf_units _ _) ?_
    have c2 : CMulA sg (nrm v t).1 := CMulA.s1 (by omega) (by omega)
    walk_at "go"
    refine w_flds (s1 _ _ hq) T.cl_Worth T.n_Worth_scale (wf_scale _ _) ?_
    walk_at "go"
    refine ⟨m - (nrm v t).2, by simp; omega, by omega, fun H2 s2 => ?_⟩
    have nsv : (sg * (nrm v t).1).natAbs < 2 ^ (1 + 1000) := wide_lt (by omega) nv
    have c3 : CMulA (sg * (nrm v t).1) (10 ^ (m - (nrm v t).2)) := CMulA.w nsv (pow_wide (ten_lt _) (show 4 * (m - (nrm v t).2) + 1 ≤ 4001 by omega)) (by decide)
    walk_at "go"
    refine make_worth (by assumption) (fun x H3 nx s3 h3 => ?_)
    refine k x H3 ((s1.trans s2).trans s3) ?_
    obtain ⟨dx, h3⟩ := h3
    refine ⟨dx, ?_⟩
    rw [h3]
    unfold wf
    rw [ks]
def sp_wadd (C : Addr) : Sp := fun vs H Q _ => ∃ (p q : Addr) (u v : Int) (s t : Nat), vs = [.ref p, .ref q] ∧ WAt C H p u s ∧ WAt C H q v t ∧ s ≤ 1000 ∧ t ≤ 1000 ∧ u.natAbs < 2 ^ 1000 ∧ v.natAbs < 2 ^ 1000 ∧
  ∀ x H', Same H H' → WAt C H' x (u * 10 ^ (max s t - s) + v * 10 ^ (max s t - t)) (max s t) → Q (.ref x) H'
theorem ok_Worth___add__ (T : Tx w K mg) : FnOk P w K mg base CX0 7 T.f_Worth___add__ T.fd_Worth___add__ ["self", "other"] (sp_wadd T.C_Worth) := by
  refine T.F_Worth___add__.ok sc_Worth___add__ (fun vs H Q E h => ?_) (fun cdv A outer s H vs Q E hr h => ?_)
  · obtain ⟨p, q, u, v, s, t, rfl, _⟩ := h
    rfl
  · obtain ⟨p, q, u, v, s, t, rfl, hp, hq, hs, ht, hu, hv, k⟩ := h
    refine ⟨_, (pss_one (ps_ret (pe_call (ok_worth_sum T) (hr.mono (by decide)) rfl T.g_worth_sum T.F_worth_sum.kp T.b_worth_sum .nil pass0 (pa_cons (pv 0) (pa_cons (pe_call (ok_worth_of T) (hr.mono (by decide)) rfl T.g_worth_of T.F_worth_of.kp T.b_worth_of .nil pass0 (pa_cons (pv 1) pa_nil)) (pa_cons pe_int pa_nil)))))), ?_⟩
    walk_at "go"
    refine ⟨q, v, t, rfl, hq, ?_⟩
    walk_at "go"
    refine ⟨p, q, u, v, 1, s, t, rfl, hp, hq, by decide, by decide, hs, ht, hu, hv, fun x H1 s1 h1 => ?_⟩
    rw [Int.one_mul] at h1
    exact k x H1 s1 h1
def sgF (u : Int) : Int := (if 0 < u then 1 else 0) - (if u < 0 then 1 else 0)
theorem nrm_sg (u : Int) (s : Nat) : sgF (nrm u s).1 = sgF u := by
  have hv := nrm_val s u
  have p : (0 : Int) < 10 ^ (s - (nrm u s).2) := Int.pow_pos (by decide)
  generalize (nrm u s).1 = n at *
  generalize (10 : Int) ^ (s - (nrm u s).2) = W at *
  unfold sgF
  rcases Int.lt_trichotomy n 0 with h | h | h
  · have := Int.mul_neg_of_neg_of_pos h p
    rw [← hv] at this
    simp only [show ¬ 0 < n by omega, show ¬ 0 < u by omega, h, this, if_true, if_false]
  · subst h
    rw [Int.zero_mul] at hv
    rw [hv]
  · have := Int.mul_pos h p
    rw [← hv] at this
    simp only [show ¬ n < 0 by omega, show ¬ u < 0 by omega, h, this, if_true, if_false]
def sp_sign (C : Addr) : Sp := fun vs H Q _ => ∃ (p : Addr) (u : Int) (s : Nat), vs = [.ref p] ∧ WAt C H p u s ∧ Q (.int (sgF u)) H
theorem ok_Worth_sign (T : Tx w K mg) : FnOk P w K mg base CX0 1 T.f_Worth_sign T.fd_Worth_sign ["self"] (sp_sign T.C_Worth) := by
  refine T.F_Worth_sign.ok sc_Worth_sign (fun vs H Q E h => ?_) (fun cdv A outer s H vs Q E hr h => ?_)
  · obtain ⟨p, u, s, rfl, _⟩ := h
    rfl
  · obtain ⟨p, u, s, rfl, ⟨dx, hp⟩, q⟩ := h
    refine ⟨_, (pss_one (ps_ret (pe_op op_sub (pe_callTy call_int1 (by rfl) T.z_int (by decide +kernel) (pa_cons (pe_cmpR op_gt (pe_fld (pv 0) rfl) pe_int (nomark _)) pa_nil)) (pe_callTy call_int1 (by rfl) T.z_int (by decide +kernel) (pa_cons (pe_cmpR op_lt (pe_fld (pv 0) rfl) pe_int (nomark _)) pa_nil))))), ?_⟩
    walk_at "go"
    refine w_flds hp T.cl_Worth T.n_Worth_units (wf_units _ _) ?_
    walk_at "go"
    refine w_flds hp T.cl_Worth T.n_Worth_units (wf_units _ _) ?_
    walk_at "go"
    rw [← nrm_sg u s] at q
    unfold sgF at q
    simp only [decide_eq_true_eq]
    exact q
def sp_compare (C : Addr) : Sp := fun vs H Q _ => ∃ (p q : Addr) (u v : Int) (s t : Nat), vs = [.ref p, .ref q] ∧ WAt C H p u s ∧ WAt C H q v t ∧ s ≤ 1000 ∧ t ≤ 1000 ∧ u.natAbs < 2 ^ 1000 ∧ v.natAbs < 2 ^ 1000 ∧
  ∀ H', Same H H' → Q (.int (sgF (u * 10 ^ (max s t - s) + -1 * (v * 10 ^ (max s t - t))))) H'
theorem ok_compare (T : Tx w K mg) : FnOk P w K mg base CX0 7 T.f_compare T.fd_compare ["one", "other"] (sp_compare T.C_Worth) := by
  refine T.F_compare.ok sc_compare (fun vs H Q E h => ?_) (fun cdv A outer s H vs Q E hr h => ?_)
  · obtain ⟨p, q, u, v, s, t, rfl, _⟩ := h
    rfl
  · obtain ⟨p, q, u, v, s, t, rfl, hp, hq, hs, ht, hu, hv, k⟩ := h
    refine ⟨_, (pss_cons (ps_expr (pe_call (ok_need_worth T) (hr.mono (by decide)) rfl T.g_need_worth T.F_need_worth.kp T.b_need_worth .nil pass0 (pa_cons (pv 0) pa_nil)))
      (pss_cons (ps_expr (pe_call (ok_need_worth T) (hr.mono (by decide)) rfl T.g_need_worth T.F_need_worth.kp T.b_need_worth .nil pass0 (pa_cons (pv 1) pa_nil)))
      (pss_one (ps_ret (pe_meth0 (pe_call (ok_worth_sum T) (hr.mono (by decide)) rfl T.g_worth_sum T.F_worth_sum.kp T.b_worth_sum .nil pass0 (pa_cons (pv 0) (pa_cons (pv 1) (pa_cons (pe_un un_neg pe_int) pa_nil)))) T.cl_Worth T.m_Worth_sign (ok_Worth_sign T) (hr.mono (by decide)) T.b_Worth_sign .nil pass0))))), ?_⟩
    walk_at "go"
    refine ⟨p, u, s, rfl, hp, ?_⟩
    walk_at "go"
    refine ⟨q, v, t, rfl, hq, ?_⟩
    walk_at "go"
    refine ⟨p, q, u, v, -1, s, t, rfl, hp, hq, by decide, by decide, hs, ht, hu, hv, fun x H1 s1 h1 => ?_⟩
    obtain ⟨dx, hx⟩ := id h1
    walk_at "go"
    refine ⟨x, dx, _, rfl, hx, wf_no _ _ (by decide +kernel) (by decide +kernel), ?_⟩
    walk_at "go"
    refine ⟨x, _, _, rfl, h1, ?_⟩
    exact k H1 s1
theorem ok_divided (T : Tx w K mg) : FnOk P w K mg base CX0 4 T.f_divided T.fd_divided ["number", "divisor", "way"] sp_div := by
  refine T.F_divided.ok sc_divided (fun vs H Q E h => ?_) (fun cdv A outer s H vs Q E hr h => ?_)
  · obtain ⟨n, d, x, rfl, _⟩ := h
    rfl
  · obtain ⟨n, d, x, rfl, hx, hd, hn, q⟩ := h
    refine ⟨_, (pss_cons (ps_expr (pe_call (ok_need_integer T) (hr.mono (by decide)) rfl T.g_need_integer T.F_need_integer.kp T.b_need_integer .nil pass0 (pa_cons (pv 0) pa_nil)))
      (pss_cons (ps_expr (pe_call (ok_need_positive T) (hr.mono (by decide)) rfl T.g_need_positive T.F_need_positive.kp T.b_need_positive .nil pass0 (pa_cons (pv 1) pa_nil)))
      (pss_cons (ps_expr (pe_call (ok_need_way T) (hr.mono (by decide)) rfl T.g_need_way T.F_need_way.kp T.b_need_way .nil pass0 (pa_cons (pv 2) pa_nil)))
      (pss_one (ps_ret (pe_call (ok_divided_by T) (hr.mono (by decide)) rfl T.g_divided_by T.F_divided_by.kp T.b_divided_by .nil pass0 (pa_cons (pv 0) (pa_cons (pv 1) (pa_cons (pv 2) pa_nil))))))))), ?_⟩
    walk_at "go"
    refine ⟨n, rfl, ?_⟩
    walk_at "go"
    refine ⟨d, rfl, hd, ?_⟩
    walk_at "go"
    refine ⟨x, rfl, hx, ?_⟩
    walk_at "go"
    exact ⟨n, d, x, rfl, hx, hd, hn, q⟩
def quoF (u v : Int) (s t a : Nat) (x : Str) : Int := if (nrm v t).1 * 10 ^ (nrm u s).2 < 0 then divF (-((nrm u s).1 * 10 ^ ((nrm v t).2 + a))) (-((nrm v t).1 * 10 ^ (nrm u s).2)) x else divF ((nrm u s).1 * 10 ^ ((nrm v t).2 + a)) ((nrm v t).1 * 10 ^ (nrm u s).2) x
def sp_quot (C D : Addr) : Sp := fun vs H Q E => ∃ (p q : Addr) (u v : Int) (s t a : Nat) (x : Str), vs = [.ref p, .ref q, .int a, .str x] ∧ WAt C H p u s ∧ WAt C H q v t ∧ x ∈ waysL ∧ s ≤ 100 ∧ t ≤ 100 ∧ a ≤ 100 ∧ u.natAbs < 2 ^ 1000 ∧ v.natAbs < 2 ^ 1000 ∧
  ((nrm v t).1 = 0 → ∀ H', Same H H' → E (.ref D) none H') ∧ (¬ (nrm v t).1 = 0 → ∀ r H', Same H H' → WAt C H' r (quoF u v s t a x) a → Q (.ref r) H')
theorem ok_rounded_quotient (T : Tx w K mg) : FnOk P w K mg base (L2.CX P w) 6 T.f_rounded_quotient T.fd_rounded_quotient ["one", "other", "scale", "way"] (sp_quot T.C_Worth T.C_NoDivisor) := by
  refine T.F_rounded_quotient.okX sc_rounded_quotient (fun vs H Q E h => ?_) (fun cdv A outer s H vs Q E hr h => ?_)
  · obtain ⟨p, q, u, v, s, t, a, x, rfl, _⟩ := h
    rfl
  · obtain ⟨p, q, u, v, s, t, a, x, rfl, hp, hq, hx, hs, ht, ha, hu, hv, kE, kQ⟩ := h
    obtain ⟨dp, hp'⟩ := id hp
    obtain ⟨dq, hq'⟩ := id hq
    have l1 := nrm_le s u
    have l2 := nrm_le t v
    have nu := Nat.lt_of_le_of_lt (nrm_abs s u) hu
    have nv := Nat.lt_of_le_of_lt (nrm_abs t v) hv
    clear hu hv
    refine ⟨_, (pss_cons (ps_expr (pe_call (ok_need_worth T) (hr.mono (by decide)) rfl T.g_need_worth T.F_need_worth.kp T.b_need_worth .nil pass0 (pa_cons (pv 0) pa_nil)))
      (pss_cons (ps_expr (pe_call (ok_need_worth T) (hr.mono (by decide)) rfl T.g_need_worth T.F_need_worth.kp T.b_need_worth .nil pass0 (pa_cons (pv 1) pa_nil)))
      (pss_cons (ps_expr (pe_call (ok_need_whole T) (hr.mono (by decide)) rfl T.g_need_whole T.F_need_whole.kp T.b_need_whole .nil pass0 (pa_cons (pv 2) pa_nil)))
      (pss_cons (ps_expr (pe_call (ok_need_way T) (hr.mono (by decide)) rfl T.g_need_way T.F_need_way.kp T.b_need_way .nil pass0 (pa_cons (pv 3) pa_nil)))
      (pss_cons (ps_if (pt_cmpR op_eq (pe_fld (pv 1) rfl) pe_int (nomark _)) (pss_one (ps_raise rfl (takes_of rfl rfl rfl rfl) (pmk_own0 PySem.F.excBase_ValueError T.xND T.gC_NoDivisor T.kND (raises_own T.bND T.tND) rfl))) pss_nil)
      (pss_cons (ps_set (i := 4) sc_rounded_quotient.nd rfl (Or.inl rfl) (pe_op op_mulA (pe_fld (pv 0) rfl) (pe_call (ok_ten_to T) (hr.mono (by decide)) rfl T.g_ten_to T.F_ten_to.kp T.b_ten_to .nil pass0 (pa_cons (pe_op op_add (pe_fld (pv 1) rfl) (pv 2)) pa_nil))))
      (pss_cons (ps_set (i := 5) sc_rounded_quotient.nd rfl (Or.inl rfl) (pe_op op_mulA (pe_fld (pv 1) rfl) (pe_call (ok_ten_to T) (hr.mono (by decide)) rfl T.g_ten_to T.F_ten_to.kp T.b_ten_to .nil pass0 (pa_cons (pe_fld (pv 0) rfl) pa_nil))))
      (pss_cons (ps_if (pt_cmpR op_lt (pv 5) pe_int (nomark _)) (pss_one (ps_par (i := 4) (j := 5) rfl sc_rounded_quotient.nd rfl rfl (by decide) rfl rfl (pa_cons (pe_un un_neg (pv 4)) (pa_cons (pe_un un_neg (pv 5)) pa_nil)) rfl)) pss_nil)
      (pss_one (ps_ret (pe_make T.M_Worth (ok_Worth___init__ T) (hr.mono (by decide)) rfl T.gC_Worth T.b_Worth___init__ .nil pass0 (pa_cons (pe_call (ok_divided_by T) (hr.mono (by decide)) rfl T.g_divided_by T.F_divided_by.kp T.b_divided_by .nil pass0 (pa_cons (pv 4) (pa_cons (pv 5) (pa_cons (pv 3) pa_nil)))) (pa_cons (pv 2) pa_nil))))))))))))), ?_⟩
    walk_at "go"
    refine ⟨p, u, s, rfl, hp, ?_⟩
    walk_at "go"
    refine ⟨q, v, t, rfl, hq, ?_⟩
    walk_at "go"
    refine ⟨a, rfl, by omega, ?_⟩
    walk_at "go"
    refine ⟨x, rfl, hx, ?_⟩
    walk_at "go"
    refine w_flds hq' T.cl_Worth T.n_Worth_units (wf_units _ _) ?_
    walk_at "go"
    refine w_ite (fun hc => ?_) (fun hc => ?_)
    all_goals rw [V_int] at hc
    · exact kE hc H (Same.refl H)
    walk_at "go"
    refine w_flds hp' T.cl_Worth T.n_Worth_units (wf_units _ _) ?_
    walk_at "go"
    refine w_flds hq' T.cl_Worth T.n_Worth_scale (wf_scale _ _) ?_
    walk_at "go"
    refine ⟨(nrm v t).2 + a, by simp, by omega, fun H1 s1 => ?_⟩
    have c1 : CMulA (nrm u s).1 (10 ^ ((nrm v t).2 + a)) := CMulA.w nu (pow_wide (ten_lt _) (show 4 * ((nrm v t).2 + a) + 1 ≤ 801 by omega)) (by decide)
    have n1 : ((nrm u s).1 * 10 ^ ((nrm v t).2 + a)).natAbs < 2 ^ (1000 + 801) := wide_lt nu (pow_wide (ten_lt _) (show 4 * ((nrm v t).2 + a) + 1 ≤ 801 by omega))
    have n2 := pow_wide n1 (show 1000 + 801 ≤ 4000 by decide)
    clear n1
    walk_at "go"
    refine w_flds (s1 _ _ hq') T.cl_Worth T.n_Worth_units (wf_units _ _) ?_
    walk_at "go"
    refine w_flds (s1 _ _ hp') T.cl_Worth T.n_Worth_scale (wf_scale _ _) ?_
    walk_at "go"
    refine ⟨(nrm u s).2, rfl, by omega, fun H2 s2 => ?_⟩
    have c2 : CMulA (nrm v t).1 (10 ^ (nrm u s).2) := CMulA.w nv (pow_wide (ten_lt _) (show 4 * (nrm u s).2 + 1 ≤ 401 by omega)) (by decide)
    have p2 : (0 : Int) < 10 ^ (nrm u s).2 := Int.pow_pos (by decide)
    have hne : ¬ (nrm v t).1 * 10 ^ (nrm u s).2 = 0 := fun e => by
      rcases Int.mul_eq_zero.mp e with e | e
      · exact hc e
      · omega
    have kQ2 := kQ hc
    unfold quoF at kQ2
    clear kQ kE
    walk_at "go"
    generalize (nrm u s).1 * 10 ^ ((nrm v t).2 + a) = n at *
    generalize (nrm v t).1 * 10 ^ (nrm u s).2 = d at *
    refine w_ite (fun hd => ?_) (fun hd => ?_)
    · walk_at "go"
      refine ⟨-n, -d, x, rfl, hx, by omega, by rw [Int.natAbs_neg]; exact n2, fun H3 s3 => ?_⟩
      walk_at "go"
      refine make_worth (by assumption) (fun r H4 n4 s4 h4 => ?_)
      rw [if_pos hd] at kQ2
      exact kQ2 r H4 (((s1.trans s2).trans s3).trans s4) h4
    · walk_at "go"
      refine ⟨n, d, x, rfl, hx, by omega, n2, fun H3 s3 => ?_⟩
      walk_at "go"
      refine make_worth (by assumption) (fun r H4 n4 s4 h4 => ?_)
      rw [if_neg hd] at kQ2
      exact kQ2 r H4 (((s1.trans s2).trans s3).trans s4) h4
end
end K04
namespace K04
open PySem L2 DS
set_option pp.maxSteps 1200
local macro_rules | `(tactic| walk_at "c") => `(tactic| first
  | (dsimp only; omega)
  | omega
  | (show CMulA _ _; first | exact CMulA.s1 (by omega) (by omega) | exact CMulA.s2 (by omega) (by omega))
  | (show CDivW _ _; first | exact ⟨by omega, by assumption⟩ | exact ⟨by omega, by decide⟩)
  | (show CPow _ _; exact ⟨by decide, by decide, by decide⟩)
  | assumption)
local macro_rules | `(tactic| walk_at "get") => `(tactic| first
  | assumption
  | (refine (by assumption : Same _ _) _ _ ?_; walk_at "get")
  | (refine (by assumption : Keep _ _) _ _ ?_ rfl; walk_at "get"))
local macro_rules | `(tactic| walk_at "pen") => `(tactic| first
  | assumption
  | (refine Pen.same (by assumption) ?_; walk_at "pen")
  | (refine Pen.mono ?_ (by omega); assumption))
local macro_rules | `(tactic| walk_at "keep") => `(tactic| first
  | assumption
  | exact Keep.refl _
  | exact Keep.of (by assumption)
  | (refine Keep.trans ?_ (by assumption); walk_at "keep")
  | (refine Keep.same ?_ (by assumption); walk_at "keep"))
local macro_rules | `(tactic| walk_at "same") => `(tactic| first
  | assumption
  | exact Same.refl _
  | (refine Same.trans ?_ (by assumption); walk_at "same"))
local macro_rules | `(tactic| walk_at "s") => `(tactic| first
  | with_reducible refine w_seq ?_
  | with_reducible refine w_asg ?_
  | with_reducible refine w_name ?_
  | ((with_reducible apply w_var); exact rfl)
  | with_reducible refine w_c ?_
  | with_reducible refine w_op ?_
  | with_reducible refine w_I0 ?_
  | ((with_reducible apply w_I); (walk_at "c"))
  | with_reducible refine w_cons ?_
  | with_reducible refine w_nil ?_
  | with_reducible refine w_cb ?_
  | with_reducible refine w_int1 ?_
  | with_reducible refine w_int1b ?_
  | with_reducible refine w_call ?_
  | with_reducible refine w_ifs ?_
  | with_reducible refine w_test ?_
  | with_reducible refine w_k ?_
  | with_reducible refine w_ret ?_
  | with_reducible refine w_drop ?_
  | with_reducible refine w_not ?_
  | with_reducible refine w_and ?_
  | with_reducible refine w_or ?_
  | with_reducible refine w_andV ?_
  | with_reducible refine w_orV ?_
  | with_reducible refine w_notV ?_
  | with_reducible refine w_if ?_
  | with_reducible refine w_B ?_
  | with_reducible refine w_un ?_
  | with_reducible refine w_U ?_
  | (with_reducible refine w_tup ?_; intro _ _)
  | (with_reducible refine w_lst ?_; intro _ _)
  | with_reducible refine w_dget ?_
  | with_reducible refine w_dput ?_
  | with_reducible refine w_fld ?_
  | with_reducible refine w_meth ?_
  | (with_reducible refine w_make ?_; intro _ _)
  | with_reducible refine w_par ?_
  | with_reducible refine w_par3 ?_
  | with_reducible refine w_two ?_
  | with_reducible refine w_three ?_
  | with_reducible refine w_one ?_
  | with_reducible refine w_chain ?_
  | with_reducible refine w_next ?_
  | with_reducible refine w_brk ?_
  | with_reducible refine w_cont ?_
  | with_reducible refine w_retN ?_
  | with_reducible refine w_gcons ?_
  | with_reducible refine w_gnil ?_
  | ((with_reducible refine w_eq ?_ ?_); exact rfl)
  | ((with_reducible refine w_ne ?_ ?_); exact rfl)
  | with_reducible refine w_part ?_
  | with_reducible refine w_lc ?_
  | with_reducible refine w_yes ?_
  | with_reducible refine w_iTup ?_
  | with_reducible refine w_iList ?_
  | with_reducible refine w_unT ?_
  | with_reducible refine w_unT0 ?_
  | with_reducible refine w_unL ?_
  | with_reducible refine w_unL0 ?_
  | ((with_reducible apply w_gtup); (walk_at "get"); (exact rfl))
  | with_reducible refine w_gfld ?_
  | with_reducible refine w_sfld ?_
  | with_reducible refine w_risi ?_
  | with_reducible refine w_i ?_
  | with_reducible refine w_pnil ?_
  | with_reducible refine w_pcons ?_
  | with_reducible refine w_sl ?_
  | with_reducible refine w_nopart ?_
  | with_reducible refine w_for ?_
  | with_reducible refine w_while ?_
  | with_reducible refine w_irng1 ?_
  | with_reducible refine w_irng2 ?_
  | with_reducible refine And.intro (rfl : V.non = V.non) ?_)
local macro_rules | `(tactic| walk_at "go") => `(tactic| repeat (walk_at "s"))

section
variable {P : Program} {w : World} {K : PySem.W.Frag} {mg : Str → Option Value} {base : Heap}
def mirL : List (Key × V) := [(Sum.inr "floor", V.str "ceiling"), (Sum.inr "ceiling", .str "floor"), (Sum.inr "halfup", .str "halfdown"), (Sum.inr "halfdown", .str "halfup")]
theorem mir_val : ∀ x ∈ waysL, (valV (mergeK [] mirL) (Sum.inr x)).getD (.str x) = .str (mirF x) := by decide +kernel
theorem ok__law_mirror (T : Tx w K mg) : FnOk P w K mg base CX0 1 T.f__law_mirror T.fd__law_mirror ["_law_manner"] (fun vs H Q _ => ∃ x : Str, vs = [.str x] ∧ x ∈ waysL ∧ ∀ H', Same H H' → Q (.str (mirF x)) H') := by
  refine T.F__law_mirror.ok sc__law_mirror (fun vs H Q E h => ?_) (fun cdv A outer s H vs Q E hr h => ?_)
  · obtain ⟨x, rfl, _⟩ := h
    rfl
  · obtain ⟨x, rfl, hx, q⟩ := h
    have hu := hu_of hr
    refine ⟨_, (pss_one (ps_ret (pe_dget2 hu (pe_disp (pps_cons pe_str pe_str (pps_cons pe_str pe_str (pps_cons pe_str pe_str (pps_cons pe_str pe_str pps_nil)))) rfl rfl (by simp) (by decide)) (pv 0) (pv 0) ⟨rfl, rfl, rfl, rfl⟩))), ?_⟩
    walk_at "go"
    refine w_dget2 ?_
    refine w_disp (fun Q' eQ d H1 nd s1 hd => ?_)
    walk_at "go"
    refine w_dend mirL eQ hd rfl (Nat.le_of_ble_eq_true rfl) (fun H2 k2 sm2 e2 => ?_)
    refine ⟨d, rfl, .inl ⟨_, .inl e2⟩, ?_⟩
    walk_at "go"
    refine ⟨_, DGet.k (k := Sum.inr x) e2, ?_⟩
    have z := q H2 (sm2 H s1 nd)
    rw [← mir_val x hx] at z
    exact z
def sp_scale : Sp := fun vs H Q _ => ∃ (d : Addr) (n : Nat), vs = [.ref d] ∧ Pen H d n ∧ n ≤ 999900 ∧ ∀ (a : Nat) (H' : Hp), a < 40 → Pen H' d (n + 2) → Keep H H' → Q (.int a) H'
theorem ok__law_some_scale (T : Tx w K mg) : FnOk P w K mg base CX0 3 T.f__law_some_scale T.fd__law_some_scale ["_law_pen_here"] sp_scale := by
  refine T.F__law_some_scale.ok sc__law_some_scale (fun vs H Q E h => ?_) (fun cdv A outer s H vs Q E hr h => ?_)
  · obtain ⟨d, n, rfl, _⟩ := h
    rfl
  · obtain ⟨d, n, rfl, hp, hn, q⟩ := h
    refine ⟨_, (pss_one (ps_ret (pe_call (ok__law_pick T) (hr.mono (by decide)) rfl T.g__law_pick T.F__law_pick.kp T.b__law_pick .nil pass0 (pa_cons (pv 0) (pa_cons (pe_lst (pa_cons pe_int (pa_cons pe_int (pa_cons pe_int (pa_cons pe_int (pa_cons pe_int (pa_cons pe_int (pa_cons pe_int (pa_cons pe_int (pa_cons (pe_call (ok__law_draw T) (hr.mono (by decide)) rfl T.g__law_draw T.F__law_draw.kp T.b__law_draw .nil pass0 (pa_cons (pv 0) (pa_cons pe_int pa_nil))) pa_nil)))))))))) pa_nil))))), ?_⟩
    walk_at "go"
    refine ⟨d, 40, n, rfl, hp, by omega, by omega, by decide, fun r1 H1 a1 b1 p1 k1 => ?_⟩
    walk_at "go"
    refine w_new (by assumption) (Nat.le_of_ble_eq_true rfl) (fun l2 H2 n2 s2 e2 => ?_)
    walk_at "go"
    refine ⟨d, l2, _, n + 1, rfl, p1.same s2, by omega, e2, Nat.le_of_ble_eq_true rfl, Nat.le_of_ble_eq_true rfl, fun v3 H3 m3 p3 k3 => ?_⟩
    obtain ⟨e, rfl⟩ := Int.eq_ofNat_of_zero_le a1
    have K3 : Keep H H3 := (k1.same s2).trans k3
    simp only [List.mem_cons, List.not_mem_nil, or_false] at m3
    rcases m3 with h | h | h | h | h | h | h | h | h <;> subst h
    · exact q 0 _ (by omega) p3 K3
    · exact q 0 _ (by omega) p3 K3
    · exact q 1 _ (by omega) p3 K3
    · exact q 1 _ (by omega) p3 K3
    · exact q 2 _ (by omega) p3 K3
    · exact q 3 _ (by omega) p3 K3
    · exact q 5 _ (by omega) p3 K3
    · exact q 20 _ (by omega) p3 K3
    · exact q e _ (by omega) p3 K3
theorem ok__law_own (T : Tx w K mg) : FnOk P w K mg base CX0 1 T.f__law_own T.fd__law_own ["_law_units", "_law_scale"] (fun vs H Q _ => ∃ (u : Int) (s : Nat), vs = [.int u, .int s] ∧ s ≤ 500 ∧ ∀ p H', Same H H' → H' p = some (.tup [.int (nrm u s).1, .int ((nrm u s).2 : Int)]) → Q (.ref p) H') := by
  refine T.F__law_own.ok sc__law_own (fun vs H Q E h => ?_) (fun cdv A outer s H vs Q E hr h => ?_)
  · obtain ⟨u, s, rfl, _⟩ := h
    rfl
  · obtain ⟨u, s, rfl, hs, q⟩ := h
    refine ⟨_, (pss_cons (ps_for PassesOwn.never rfl (pi_range1 (by rfl) T.z_range (pa_cons pe_int pa_nil)) (pg_name (i := 2) sc__law_own.nd rfl (Or.inl rfl))
      (pss_cons (ps_if (PW.pt (pw_or (pt_cmpR op_eq (pv 1) pe_int (nomark _)) (pw_or1 (PW.pt (pw_and (pt_cmpR op_ne (pv 0) pe_int (nomark _)) (pw_and1 (pt_cmpR op_ne (pe_op op_mod (pe_callTy call_int1 (by rfl) T.z_int (by decide +kernel) (pa_cons (pv 0) pa_nil)) pe_int) pe_int (nomark _)))))))) (pss_one (ps_ret (pe_tup (pa_cons (pv 0) (pa_cons (pv 1) pa_nil))))) pss_nil)
      (pss_one (ps_par (i := 0) (j := 1) rfl sc__law_own.nd rfl rfl (by decide) rfl rfl (pa_cons (pe_op op_fdivW (pv 0) pe_int) (pa_cons (pe_op op_sub (pv 1) pe_int) pa_nil)) rfl))))
      (pss_one (ps_ret (pe_tup (pa_cons (pv 0) (pa_cons (pv 1) pa_nil)))))), ?_⟩
    walk_at "go"
    refine ⟨by decide, by decide, for_range (fun i σ H' => H' = H ∧ ∃ (u' : Int) (m : Nat) (z : Option V), σ = [some (.int u'), some (.int (m : Int)), z] ∧ nrm u' m = nrm u s ∧ m + i = s) ⟨rfl, u, s, none, rfl, rfl, rfl⟩ (fun i σ H' hi hI => ?_) (fun σ H' hI => ?_)⟩
    · obtain ⟨rfl, u', m, z, rfl, hn, hm⟩ := hI
      walk_at "go"
      refine w_ite (fun h0 => ?_) (fun h0 => ?_)
      all_goals rw [V_int] at h0
      · refine iteT ?_
        walk_at "go"
        refine w_new (by assumption) (Nat.le_of_ble_eq_true rfl) (fun p1 H1 n1 s1 e1 => ?_)
        have m0 : m = 0 := by omega
        subst m0
        have hn' : nrm u s = (u', 0) := by rw [← hn]; rfl
        rw [hn'] at q
        exact q p1 H1 s1 e1
      walk_at "go"
      have next : ∀ σ' : St, nrm u' m = nrm (u' / 10) (m - 1) → σ' = [some (.int (u' / 10)), some (.int ((m : Int) - 1)), some (.int (0 + i))] → (H' = H' ∧ ∃ (u2 : Int) (m2 : Nat) (z : Option V), σ' = [some (.int u2), some (.int (m2 : Int)), z] ∧ nrm u2 m2 = nrm u s ∧ m2 + (i + 1) = s) := fun σ' hq hσ => by
        refine ⟨rfl, u' / 10, m - 1, some (.int (0 + i)), ?_, by rw [← hq, hn], by omega⟩
        rw [hσ, show ((m : Int) - 1) = ((m - 1 : Nat) : Int) by omega]
      have step : u' % 10 = 0 → nrm u' m = nrm (u' / 10) (m - 1) := fun hz => by
        obtain ⟨k, rfl⟩ : ∃ k, m = k + 1 := ⟨m - 1, by omega⟩
        exact nrm_pos hz
      refine w_iteN (fun h1 => ?_) (fun h1 => ?_)
      all_goals rw [V_int] at h1
      · walk_at "go"
        refine w_iteN (fun h2 => ?_) (fun h2 => ?_)
        all_goals rw [V_int] at h2
        · walk_at "go"
          refine w_new (by assumption) (Nat.le_of_ble_eq_true rfl) (fun p1 H1 n1 s1 e1 => ?_)
          have hn' : nrm u s = (u', m) := by rw [← hn]; exact nrm_neg h2
          rw [hn'] at q
          exact q p1 H1 s1 e1
        · walk_at "go"
          exact next _ (step h2) rfl
      · refine iteF ?_
        walk_at "go"
        exact next _ (step (by rw [h1]; rfl)) rfl
    · obtain ⟨rfl, u', m, z, rfl, hn, hm⟩ := hI
      exact absurd hm (by
        have : ((600 : Int)).toNat = 600 := rfl
        omega)
theorem ok__law_is_worth (T : Tx w K mg) : FnOk P w K mg base CX0 2 T.f__law_is_worth T.fd__law_is_worth ["_law_told", "_law_units", "_law_scale"] (fun vs H Q _ => ∃ (p : Addr) (u U : Int) (s a : Nat), vs = [.ref p, .int U, .int a] ∧ WAt T.C_Worth H p u s ∧ nrm u s = nrm U a ∧ a ≤ 500 ∧ ∀ H', Same H H' → Q (.bl true) H') := by
  refine T.F__law_is_worth.ok sc__law_is_worth (fun vs H Q E h => ?_) (fun cdv A outer s H vs Q E hr h => ?_)
  · obtain ⟨p, u, U, s, a, rfl, _⟩ := h
    rfl
  · obtain ⟨p, u, U, s, a, rfl, ⟨dx, hp⟩, he, ha, q⟩ := h
    have hu64 := hu64_of hr
    refine ⟨_, (pss_one (ps_ret (pe_and (pe_callB call_isi (by rfl) T.z_isinstance (by decide +kernel) (pa_cons (pv 0) (pa_cons (pe_glob (v := .ref T.C_Worth) rfl T.gC_Worth rfl) pa_nil))) (pe_one (pe_cmpR (op_eqD hu64) (pe_tup (pa_cons (pe_fld (pv 0) rfl) (pa_cons (pe_fld (pv 0) rfl) pa_nil))) (pe_call (ok__law_own T) (hr.mono (by decide)) rfl T.g__law_own T.F__law_own.kp T.b__law_own .nil pass0 (pa_cons (pv 1) (pa_cons (pv 2) pa_nil))) (nomark _)))))), ?_⟩
    walk_at "go"
    refine w_isi (.own _) (.base (T.tyW _ _ _ _ hp)) T.kiW ?_
    walk_at "go"
    refine iteT ?_
    walk_at "go"
    refine w_flds hp T.cl_Worth T.n_Worth_units (wf_units _ _) ?_
    walk_at "go"
    refine w_flds hp T.cl_Worth T.n_Worth_scale (wf_scale _ _) ?_
    walk_at "go"
    refine w_new (by assumption) (Nat.le_of_ble_eq_true rfl) (fun p1 H1 n1 s1 e1 => ?_)
    walk_at "go"
    refine ⟨U, a, rfl, ha, fun p2 H2 s2 e2 => ?_⟩
    walk_at "go"
    refine w_eqT2 (s2 _ _ e1) e2 ?_
    rw [he]
    simp only [beq_self_eq_true, Bool.and_true]
    exact q H2 (s1.trans s2)
/-- the law's rounding of a worth -/
def rndF (U : Int) (s a : Nat) (x : Str) : Int := if s ≤ a then U * 10 ^ (a - s) else nearF U (10 ^ (s - a)) x
theorem ok__law_rounded (T : Tx w K mg) : FnOk P w K mg base CX0 2 T.f__law_rounded T.fd__law_rounded ["_law_units", "_law_scale", "_law_to", "_law_way"] (fun vs H Q _ => ∃ (U : Int) (s a : Nat) (x : Str), vs = [.int U, .int s, .int a, .str x] ∧ x ∈ waysL ∧ s ≤ 1000 ∧ a ≤ 1000 ∧ U.natAbs < 2 ^ 4900 ∧ ∀ H', Same H H' → Q (.int (rndF U s a x)) H') := by
  refine T.F__law_rounded.ok sc__law_rounded (fun vs H Q E h => ?_) (fun cdv A outer s H vs Q E hr h => ?_)
  · obtain ⟨U, s, a, x, rfl, _⟩ := h
    rfl
  · obtain ⟨U, b, a, x, rfl, hx, hb, ha, ht, q⟩ := h
    refine ⟨_, (pss_cons (ps_if (pt_cmpR op_le (pv 1) (pv 2) (nomark _)) (pss_one (ps_ret (pe_op op_mulA (pv 0) (pe_call (ok__law_ten T) (hr.mono (by decide)) rfl T.g__law_ten T.F__law_ten.kp T.b__law_ten .nil pass0 (pa_cons (pe_op op_sub (pv 2) (pv 1)) pa_nil))))) pss_nil)
      (pss_one (ps_ret (pe_call (ok__law_near T) (hr.mono (by decide)) rfl T.g__law_near T.F__law_near.kp T.b__law_near .nil pass0 (pa_cons (pv 0) (pa_cons (pe_call (ok__law_ten T) (hr.mono (by decide)) rfl T.g__law_ten T.F__law_ten.kp T.b__law_ten .nil pass0 (pa_cons (pe_op op_sub (pv 1) (pv 2)) pa_nil)) (pa_cons (pv 3) pa_nil))))))), ?_⟩
    walk_at "go"
    refine w_ite (fun hc => ?_) (fun hc => ?_)
    · walk_at "go"
      refine ⟨a - b, by simp; omega, by omega, fun H1 s1 => ?_⟩
      have c1 : CMulA U (10 ^ (a - b)) := CMulA.w ht (pow_wide (ten_lt _) (show 4 * (a - b) + 1 ≤ 4001 by omega)) (by decide)
      clear ht
      walk_at "go"
      have z := q H1 s1
      unfold rndF at z
      rw [if_pos (show b ≤ a by omega)] at z
      exact z
    · walk_at "go"
      refine ⟨b - a, by simp; omega, by omega, fun H1 s1 => ?_⟩
      walk_at "go"
      refine ⟨U, _, x, rfl, hx, Int.pow_pos (by decide), pow_wide ht (by decide), pow_wide (ten_lt _) (show 4 * (b - a) + 1 ≤ 5000 by omega), fun H2 s2 => ?_⟩
      have z := q H2 (s1.trans s2)
      unfold rndF at z
      rw [if_neg (show ¬ b ≤ a by omega)] at z
      exact z
end
end K04
namespace K04
open PySem L2 DS
theorem neg_div (n d : Int) (hd : 0 < d) : (n % d = 0 → (-n) / d = -(n / d)) ∧ (¬ n % d = 0 → (-n) / d = -(n / d) - 1) := by
  have e := ediv_eq n d
  have h0 := Int.emod_nonneg n (show d ≠ 0 by omega)
  have h1 := Int.emod_lt_of_pos n hd
  refine ⟨fun h => ?_, fun h => ?_⟩
  · refine (Int.ediv_emod_unique (a := -n) (b := d) (r := 0) (q := -(n / d)) hd |>.mpr ⟨?_, by omega, hd⟩).1
    rw [Int.mul_neg, Int.mul_comm]
    omega
  · refine (Int.ediv_emod_unique (a := -n) (b := d) (r := d - n % d) (q := -(n / d) - 1) hd |>.mpr ⟨?_, by omega, by omega⟩).1
    rw [Int.mul_sub, Int.mul_neg, Int.mul_comm d (n / d), Int.mul_one]
    omega
theorem mir_floor : mirF "floor" = "ceiling" := by decide +kernel
theorem mir_ceiling : mirF "ceiling" = "floor" := by decide +kernel
theorem mir_cut : mirF "cut" = "cut" := by decide +kernel
theorem mir_away : mirF "away" = "away" := by decide +kernel
theorem mir_halfup : mirF "halfup" = "halfdown" := by decide +kernel
theorem mir_halfdown : mirF "halfdown" = "halfup" := by decide +kernel
theorem mir_halfeven : mirF "halfeven" = "halfeven" := by decide +kernel
theorem mir_halfaway : mirF "halfaway" = "halfaway" := by decide +kernel
theorem mir_halfcut : mirF "halfcut" = "halfcut" := by decide +kernel
theorem mir_in : ∀ x ∈ waysL, mirF x ∈ waysL := by decide +kernel
theorem nn_floor (n d : Int) (hd : 0 < d) : nearF (-n) d (mirF "floor") = - nearF n d "floor" := by
  have e := ediv_eq n d
  have e' := ediv_eq (-n) d
  have h0 := Int.emod_nonneg n (show d ≠ 0 by omega)
  have h1 := Int.emod_lt_of_pos n hd
  have h0' := Int.emod_nonneg (-n) (show d ≠ 0 by omega)
  have h1' := Int.emod_lt_of_pos (-n) hd
  have hz : n = 0 → n % d = 0 := fun h => by rw [h]; exact Int.zero_emod d
  obtain ⟨g1, g2⟩ := neg_div n d hd
  have k1 : n % d = 0 → (-n) / d * d = -(n / d * d) := fun h => by rw [g1 h, Int.neg_mul]
  have k2 : ¬ n % d = 0 → (-n) / d * d = -(n / d * d) - d := fun h => by rw [g2 h, Int.sub_mul, Int.neg_mul, Int.one_mul]
  rw [mir_floor]
  simp only [near_ceiling, near_floor, innF, outF]
  generalize n / d * d = qd at *
  generalize (-n) / d * d = qd' at *
  generalize n % d = r at *
  generalize (-n) % d = r' at *
  generalize n / d = q at *
  generalize (-n) / d = q' at *
  (repeat' split) <;> omega
theorem nn_ceiling (n d : Int) (hd : 0 < d) : nearF (-n) d (mirF "ceiling") = - nearF n d "ceiling" := by
  have e := ediv_eq n d
  have e' := ediv_eq (-n) d
  have h0 := Int.emod_nonneg n (show d ≠ 0 by omega)
  have h1 := Int.emod_lt_of_pos n hd
  have h0' := Int.emod_nonneg (-n) (show d ≠ 0 by omega)
  have h1' := Int.emod_lt_of_pos (-n) hd
  have hz : n = 0 → n % d = 0 := fun h => by rw [h]; exact Int.zero_emod d
  obtain ⟨g1, g2⟩ := neg_div n d hd
  have k1 : n % d = 0 → (-n) / d * d = -(n / d * d) := fun h => by rw [g1 h, Int.neg_mul]
  have k2 : ¬ n % d = 0 → (-n) / d * d = -(n / d * d) - d := fun h => by rw [g2 h, Int.sub_mul, Int.neg_mul, Int.one_mul]
  rw [mir_ceiling]
  simp only [near_floor, near_ceiling, innF, outF]
  generalize n / d * d = qd at *
  generalize (-n) / d * d = qd' at *
  generalize n % d = r at *
  generalize (-n) % d = r' at *
  generalize n / d = q at *
  generalize (-n) / d = q' at *
  (repeat' split) <;> omega
theorem nn_cut (n d : Int) (hd : 0 < d) : nearF (-n) d (mirF "cut") = - nearF n d "cut" := by
  have e := ediv_eq n d
  have e' := ediv_eq (-n) d
  have h0 := Int.emod_nonneg n (show d ≠ 0 by omega)
  have h1 := Int.emod_lt_of_pos n hd
  have h0' := Int.emod_nonneg (-n) (show d ≠ 0 by omega)
  have h1' := Int.emod_lt_of_pos (-n) hd
  have hz : n = 0 → n % d = 0 := fun h => by rw [h]; exact Int.zero_emod d
  obtain ⟨g1, g2⟩ := neg_div n d hd
  have k1 : n % d = 0 → (-n) / d * d = -(n / d * d) := fun h => by rw [g1 h, Int.neg_mul]
  have k2 : ¬ n % d = 0 → (-n) / d * d = -(n / d * d) - d := fun h => by rw [g2 h, Int.sub_mul, Int.neg_mul, Int.one_mul]
  rw [mir_cut]
  simp only [near_cut, innF, outF]
  generalize n / d * d = qd at *
  generalize (-n) / d * d = qd' at *
  generalize n % d = r at *
  generalize (-n) % d = r' at *
  generalize n / d = q at *
  generalize (-n) / d = q' at *
  (repeat' split) <;> omega
theorem nn_away (n d : Int) (hd : 0 < d) : nearF (-n) d (mirF "away") = - nearF n d "away" := by
  have e := ediv_eq n d
  have e' := ediv_eq (-n) d
  have h0 := Int.emod_nonneg n (show d ≠ 0 by omega)
  have h1 := Int.emod_lt_of_pos n hd
  have h0' := Int.emod_nonneg (-n) (show d ≠ 0 by omega)
  have h1' := Int.emod_lt_of_pos (-n) hd
  have hz : n = 0 → n % d = 0 := fun h => by rw [h]; exact Int.zero_emod d
  obtain ⟨g1, g2⟩ := neg_div n d hd
  have k1 : n % d = 0 → (-n) / d * d = -(n / d * d) := fun h => by rw [g1 h, Int.neg_mul]
  have k2 : ¬ n % d = 0 → (-n) / d * d = -(n / d * d) - d := fun h => by rw [g2 h, Int.sub_mul, Int.neg_mul, Int.one_mul]
  rw [mir_away]
  simp only [near_away, innF, outF]
  generalize n / d * d = qd at *
  generalize (-n) / d * d = qd' at *
  generalize n % d = r at *
  generalize (-n) % d = r' at *
  generalize n / d = q at *
  generalize (-n) / d = q' at *
  (repeat' split) <;> omega
theorem nn_halfup (n d : Int) (hd : 0 < d) : nearF (-n) d (mirF "halfup") = - nearF n d "halfup" := by
  have e := ediv_eq n d
  have e' := ediv_eq (-n) d
  have h0 := Int.emod_nonneg n (show d ≠ 0 by omega)
  have h1 := Int.emod_lt_of_pos n hd
  have h0' := Int.emod_nonneg (-n) (show d ≠ 0 by omega)
  have h1' := Int.emod_lt_of_pos (-n) hd
  have hz : n = 0 → n % d = 0 := fun h => by rw [h]; exact Int.zero_emod d
  obtain ⟨g1, g2⟩ := neg_div n d hd
  have k1 : n % d = 0 → (-n) / d * d = -(n / d * d) := fun h => by rw [g1 h, Int.neg_mul]
  have k2 : ¬ n % d = 0 → (-n) / d * d = -(n / d * d) - d := fun h => by rw [g2 h, Int.sub_mul, Int.neg_mul, Int.one_mul]
  rw [mir_halfup]
  simp only [near_halfdown, near_halfup, innF, outF]
  generalize n / d * d = qd at *
  generalize (-n) / d * d = qd' at *
  generalize n % d = r at *
  generalize (-n) % d = r' at *
  generalize n / d = q at *
  generalize (-n) / d = q' at *
  (repeat' split) <;> omega
theorem nn_halfdown (n d : Int) (hd : 0 < d) : nearF (-n) d (mirF "halfdown") = - nearF n d "halfdown" := by
  have e := ediv_eq n d
  have e' := ediv_eq (-n) d
  have h0 := Int.emod_nonneg n (show d ≠ 0 by omega)
  have h1 := Int.emod_lt_of_pos n hd
  have h0' := Int.emod_nonneg (-n) (show d ≠ 0 by omega)
  have h1' := Int.emod_lt_of_pos (-n) hd
  have hz : n = 0 → n % d = 0 := fun h => by rw [h]; exact Int.zero_emod d
  obtain ⟨g1, g2⟩ := neg_div n d hd
  have k1 : n % d = 0 → (-n) / d * d = -(n / d * d) := fun h => by rw [g1 h, Int.neg_mul]
  have k2 : ¬ n % d = 0 → (-n) / d * d = -(n / d * d) - d := fun h => by rw [g2 h, Int.sub_mul, Int.neg_mul, Int.one_mul]
  rw [mir_halfdown]
  simp only [near_halfup, near_halfdown, innF, outF]
  generalize n / d * d = qd at *
  generalize (-n) / d * d = qd' at *
  generalize n % d = r at *
  generalize (-n) % d = r' at *
  generalize n / d = q at *
  generalize (-n) / d = q' at *
  (repeat' split) <;> omega
theorem nn_halfeven (n d : Int) (hd : 0 < d) : nearF (-n) d (mirF "halfeven") = - nearF n d "halfeven" := by
  have e := ediv_eq n d
  have e' := ediv_eq (-n) d
  have h0 := Int.emod_nonneg n (show d ≠ 0 by omega)
  have h1 := Int.emod_lt_of_pos n hd
  have h0' := Int.emod_nonneg (-n) (show d ≠ 0 by omega)
  have h1' := Int.emod_lt_of_pos (-n) hd
  have hz : n = 0 → n % d = 0 := fun h => by rw [h]; exact Int.zero_emod d
  obtain ⟨g1, g2⟩ := neg_div n d hd
  have k1 : n % d = 0 → (-n) / d * d = -(n / d * d) := fun h => by rw [g1 h, Int.neg_mul]
  have k2 : ¬ n % d = 0 → (-n) / d * d = -(n / d * d) - d := fun h => by rw [g2 h, Int.sub_mul, Int.neg_mul, Int.one_mul]
  rw [mir_halfeven]
  simp only [near_halfeven, innF, outF]
  generalize n / d * d = qd at *
  generalize (-n) / d * d = qd' at *
  generalize n % d = r at *
  generalize (-n) % d = r' at *
  generalize n / d = q at *
  generalize (-n) / d = q' at *
  (repeat' split) <;> omega
theorem nn_halfaway (n d : Int) (hd : 0 < d) : nearF (-n) d (mirF "halfaway") = - nearF n d "halfaway" := by
  have e := ediv_eq n d
  have e' := ediv_eq (-n) d
  have h0 := Int.emod_nonneg n (show d ≠ 0 by omega)
  have h1 := Int.emod_lt_of_pos n hd
  have h0' := Int.emod_nonneg (-n) (show d ≠ 0 by omega)
  have h1' := Int.emod_lt_of_pos (-n) hd
  have hz : n = 0 → n % d = 0 := fun h => by rw [h]; exact Int.zero_emod d
  obtain ⟨g1, g2⟩ := neg_div n d hd
  have k1 : n % d = 0 → (-n) / d * d = -(n / d * d) := fun h => by rw [g1 h, Int.neg_mul]
  have k2 : ¬ n % d = 0 → (-n) / d * d = -(n / d * d) - d := fun h => by rw [g2 h, Int.sub_mul, Int.neg_mul, Int.one_mul]
  rw [mir_halfaway]
  simp only [near_halfaway, innF, outF]
  generalize n / d * d = qd at *
  generalize (-n) / d * d = qd' at *
  generalize n % d = r at *
  generalize (-n) % d = r' at *
  generalize n / d = q at *
  generalize (-n) / d = q' at *
  (repeat' split) <;> omega
theorem nn_halfcut (n d : Int) (hd : 0 < d) : nearF (-n) d (mirF "halfcut") = - nearF n d "halfcut" := by
  have e := ediv_eq n d
  have e' := ediv_eq (-n) d
  have h0 := Int.emod_nonneg n (show d ≠ 0 by omega)
  have h1 := Int.emod_lt_of_pos n hd
  have h0' := Int.emod_nonneg (-n) (show d ≠ 0 by omega)
  have h1' := Int.emod_lt_of_pos (-n) hd
  have hz : n = 0 → n % d = 0 := fun h => by rw [h]; exact Int.zero_emod d
  obtain ⟨g1, g2⟩ := neg_div n d hd
  have k1 : n % d = 0 → (-n) / d * d = -(n / d * d) := fun h => by rw [g1 h, Int.neg_mul]
  have k2 : ¬ n % d = 0 → (-n) / d * d = -(n / d * d) - d := fun h => by rw [g2 h, Int.sub_mul, Int.neg_mul, Int.one_mul]
  rw [mir_halfcut]
  simp only [near_halfcut, innF, outF]
  generalize n / d * d = qd at *
  generalize (-n) / d * d = qd' at *
  generalize n % d = r at *
  generalize (-n) % d = r' at *
  generalize n / d = q at *
  generalize (-n) / d = q' at *
  (repeat' split) <;> omega
theorem near_neg (n d : Int) (hd : 0 < d) : ∀ x ∈ waysL, nearF (-n) d (mirF x) = - nearF n d x := ways_cases ⟨nn_floor n d hd, nn_ceiling n d hd, nn_cut n d hd, nn_away n d hd, nn_halfup n d hd, nn_halfdown n d hd, nn_halfeven n d hd, nn_halfaway n d hd, nn_halfcut n d hd⟩
theorem nm_floor (n m d : Int) (hd : 0 < d) (h : n ≤ m) : nearF n d "floor" ≤ nearF m d "floor" := by
  have e := ediv_eq n d
  have e' := ediv_eq m d
  have h0 := Int.emod_nonneg n (show d ≠ 0 by omega)
  have h1 := Int.emod_lt_of_pos n hd
  have h0' := Int.emod_nonneg m (show d ≠ 0 by omega)
  have h1' := Int.emod_lt_of_pos m hd
  have l := Int.ediv_le_ediv hd h
  have same : n / d = m / d → n / d * d = m / d * d := fun h => by rw [h]
  have s1 : n < 0 → n / d < 0 := fun h => Int.ediv_neg_of_neg_of_pos h hd
  have s2 : 0 ≤ m → 0 ≤ m / d := fun h => Int.ediv_nonneg h (Int.le_of_lt hd)
  have hz : n = 0 → n % d = 0 := fun h => by rw [h]; exact Int.zero_emod d
  have hz' : m = 0 → m % d = 0 := fun h => by rw [h]; exact Int.zero_emod d
  simp only [near_floor, innF, outF]
  generalize n / d * d = qd at *
  generalize m / d * d = qd' at *
  generalize n % d = r at *
  generalize m % d = r' at *
  generalize n / d = q at *
  generalize m / d = q' at *
  (repeat' split) <;> omega
theorem nm_ceiling (n m d : Int) (hd : 0 < d) (h : n ≤ m) : nearF n d "ceiling" ≤ nearF m d "ceiling" := by
  have e := ediv_eq n d
  have e' := ediv_eq m d
  have h0 := Int.emod_nonneg n (show d ≠ 0 by omega)
  have h1 := Int.emod_lt_of_pos n hd
  have h0' := Int.emod_nonneg m (show d ≠ 0 by omega)
  have h1' := Int.emod_lt_of_pos m hd
  have l := Int.ediv_le_ediv hd h
  have same : n / d = m / d → n / d * d = m / d * d := fun h => by rw [h]
  have s1 : n < 0 → n / d < 0 := fun h => Int.ediv_neg_of_neg_of_pos h hd
  have s2 : 0 ≤ m → 0 ≤ m / d := fun h => Int.ediv_nonneg h (Int.le_of_lt hd)
  have hz : n = 0 → n % d = 0 := fun h => by rw [h]; exact Int.zero_emod d
  have hz' : m = 0 → m % d = 0 := fun h => by rw [h]; exact Int.zero_emod d
  simp only [near_ceiling, innF, outF]
  generalize n / d * d = qd at *
  generalize m / d * d = qd' at *
  generalize n % d = r at *
  generalize m % d = r' at *
  generalize n / d = q at *
  generalize m / d = q' at *
  (repeat' split) <;> omega
theorem nm_cut (n m d : Int) (hd : 0 < d) (h : n ≤ m) : nearF n d "cut" ≤ nearF m d "cut" := by
  have e := ediv_eq n d
  have e' := ediv_eq m d
  have h0 := Int.emod_nonneg n (show d ≠ 0 by omega)
  have h1 := Int.emod_lt_of_pos n hd
  have h0' := Int.emod_nonneg m (show d ≠ 0 by omega)
  have h1' := Int.emod_lt_of_pos m hd
  have l := Int.ediv_le_ediv hd h
  have same : n / d = m / d → n / d * d = m / d * d := fun h => by rw [h]
  have s1 : n < 0 → n / d < 0 := fun h => Int.ediv_neg_of_neg_of_pos h hd
  have s2 : 0 ≤ m → 0 ≤ m / d := fun h => Int.ediv_nonneg h (Int.le_of_lt hd)
  have hz : n = 0 → n % d = 0 := fun h => by rw [h]; exact Int.zero_emod d
  have hz' : m = 0 → m % d = 0 := fun h => by rw [h]; exact Int.zero_emod d
  simp only [near_cut, innF, outF]
  generalize n / d * d = qd at *
  generalize m / d * d = qd' at *
  generalize n % d = r at *
  generalize m % d = r' at *
  generalize n / d = q at *
  generalize m / d = q' at *
  (repeat' split) <;> omega
theorem nm_away (n m d : Int) (hd : 0 < d) (h : n ≤ m) : nearF n d "away" ≤ nearF m d "away" := by
  have e := ediv_eq n d
  have e' := ediv_eq m d
  have h0 := Int.emod_nonneg n (show d ≠ 0 by omega)
  have h1 := Int.emod_lt_of_pos n hd
  have h0' := Int.emod_nonneg m (show d ≠ 0 by omega)
  have h1' := Int.emod_lt_of_pos m hd
  have l := Int.ediv_le_ediv hd h
  have same : n / d = m / d → n / d * d = m / d * d := fun h => by rw [h]
  have s1 : n < 0 → n / d < 0 := fun h => Int.ediv_neg_of_neg_of_pos h hd
  have s2 : 0 ≤ m → 0 ≤ m / d := fun h => Int.ediv_nonneg h (Int.le_of_lt hd)
  have hz : n = 0 → n % d = 0 := fun h => by rw [h]; exact Int.zero_emod d
  have hz' : m = 0 → m % d = 0 := fun h => by rw [h]; exact Int.zero_emod d
  simp only [near_away, innF, outF]
  generalize n / d * d = qd at *
  generalize m / d * d = qd' at *
  generalize n % d = r at *
  generalize m % d = r' at *
  generalize n / d = q at *
  generalize m / d = q' at *
  (repeat' split) <;> omega
theorem nm_halfup (n m d : Int) (hd : 0 < d) (h : n ≤ m) : nearF n d "halfup" ≤ nearF m d "halfup" := by
  have e := ediv_eq n d
  have e' := ediv_eq m d
  have h0 := Int.emod_nonneg n (show d ≠ 0 by omega)
  have h1 := Int.emod_lt_of_pos n hd
  have h0' := Int.emod_nonneg m (show d ≠ 0 by omega)
  have h1' := Int.emod_lt_of_pos m hd
  have l := Int.ediv_le_ediv hd h
  have same : n / d = m / d → n / d * d = m / d * d := fun h => by rw [h]
  have s1 : n < 0 → n / d < 0 := fun h => Int.ediv_neg_of_neg_of_pos h hd
  have s2 : 0 ≤ m → 0 ≤ m / d := fun h => Int.ediv_nonneg h (Int.le_of_lt hd)
  have hz : n = 0 → n % d = 0 := fun h => by rw [h]; exact Int.zero_emod d
  have hz' : m = 0 → m % d = 0 := fun h => by rw [h]; exact Int.zero_emod d
  simp only [near_halfup, innF, outF]
  generalize n / d * d = qd at *
  generalize m / d * d = qd' at *
  generalize n % d = r at *
  generalize m % d = r' at *
  generalize n / d = q at *
  generalize m / d = q' at *
  (repeat' split) <;> omega
theorem nm_halfdown (n m d : Int) (hd : 0 < d) (h : n ≤ m) : nearF n d "halfdown" ≤ nearF m d "halfdown" := by
  have e := ediv_eq n d
  have e' := ediv_eq m d
  have h0 := Int.emod_nonneg n (show d ≠ 0 by omega)
  have h1 := Int.emod_lt_of_pos n hd
  have h0' := Int.emod_nonneg m (show d ≠ 0 by omega)
  have h1' := Int.emod_lt_of_pos m hd
  have l := Int.ediv_le_ediv hd h
  have same : n / d = m / d → n / d * d = m / d * d := fun h => by rw [h]
  have s1 : n < 0 → n / d < 0 := fun h => Int.ediv_neg_of_neg_of_pos h hd
  have s2 : 0 ≤ m → 0 ≤ m / d := fun h => Int.ediv_nonneg h (Int.le_of_lt hd)
  have hz : n = 0 → n % d = 0 := fun h => by rw [h]; exact Int.zero_emod d
  have hz' : m = 0 → m % d = 0 := fun h => by rw [h]; exact Int.zero_emod d
  simp only [near_halfdown, innF, outF]
  generalize n / d * d = qd at *
  generalize m / d * d = qd' at *
  generalize n % d = r at *
  generalize m % d = r' at *
  generalize n / d = q at *
  generalize m / d = q' at *
  (repeat' split) <;> omega
theorem nm_halfeven (n m d : Int) (hd : 0 < d) (h : n ≤ m) : nearF n d "halfeven" ≤ nearF m d "halfeven" := by
  have e := ediv_eq n d
  have e' := ediv_eq m d
  have h0 := Int.emod_nonneg n (show d ≠ 0 by omega)
  have h1 := Int.emod_lt_of_pos n hd
  have h0' := Int.emod_nonneg m (show d ≠ 0 by omega)
  have h1' := Int.emod_lt_of_pos m hd
  have l := Int.ediv_le_ediv hd h
  have same : n / d = m / d → n / d * d = m / d * d := fun h => by rw [h]
  have s1 : n < 0 → n / d < 0 := fun h => Int.ediv_neg_of_neg_of_pos h hd
  have s2 : 0 ≤ m → 0 ≤ m / d := fun h => Int.ediv_nonneg h (Int.le_of_lt hd)
  have hz : n = 0 → n % d = 0 := fun h => by rw [h]; exact Int.zero_emod d
  have hz' : m = 0 → m % d = 0 := fun h => by rw [h]; exact Int.zero_emod d
  simp only [near_halfeven, innF, outF]
  generalize n / d * d = qd at *
  generalize m / d * d = qd' at *
  generalize n % d = r at *
  generalize m % d = r' at *
  generalize n / d = q at *
  generalize m / d = q' at *
  (repeat' split) <;> omega
theorem nm_halfaway (n m d : Int) (hd : 0 < d) (h : n ≤ m) : nearF n d "halfaway" ≤ nearF m d "halfaway" := by
  have e := ediv_eq n d
  have e' := ediv_eq m d
  have h0 := Int.emod_nonneg n (show d ≠ 0 by omega)
  have h1 := Int.emod_lt_of_pos n hd
  have h0' := Int.emod_nonneg m (show d ≠ 0 by omega)
  have h1' := Int.emod_lt_of_pos m hd
  have l := Int.ediv_le_ediv hd h
  have same : n / d = m / d → n / d * d = m / d * d := fun h => by rw [h]
  have s1 : n < 0 → n / d < 0 := fun h => Int.ediv_neg_of_neg_of_pos h hd
  have s2 : 0 ≤ m → 0 ≤ m / d := fun h => Int.ediv_nonneg h (Int.le_of_lt hd)
  have hz : n = 0 → n % d = 0 := fun h => by rw [h]; exact Int.zero_emod d
  have hz' : m = 0 → m % d = 0 := fun h => by rw [h]; exact Int.zero_emod d
  simp only [near_halfaway, innF, outF]
  generalize n / d * d = qd at *
  generalize m / d * d = qd' at *
  generalize n % d = r at *
  generalize m % d = r' at *
  generalize n / d = q at *
  generalize m / d = q' at *
  (repeat' split) <;> omega
theorem nm_halfcut (n m d : Int) (hd : 0 < d) (h : n ≤ m) : nearF n d "halfcut" ≤ nearF m d "halfcut" := by
  have e := ediv_eq n d
  have e' := ediv_eq m d
  have h0 := Int.emod_nonneg n (show d ≠ 0 by omega)
  have h1 := Int.emod_lt_of_pos n hd
  have h0' := Int.emod_nonneg m (show d ≠ 0 by omega)
  have h1' := Int.emod_lt_of_pos m hd
  have l := Int.ediv_le_ediv hd h
  have same : n / d = m / d → n / d * d = m / d * d := fun h => by rw [h]
  have s1 : n < 0 → n / d < 0 := fun h => Int.ediv_neg_of_neg_of_pos h hd
  have s2 : 0 ≤ m → 0 ≤ m / d := fun h => Int.ediv_nonneg h (Int.le_of_lt hd)
  have hz : n = 0 → n % d = 0 := fun h => by rw [h]; exact Int.zero_emod d
  have hz' : m = 0 → m % d = 0 := fun h => by rw [h]; exact Int.zero_emod d
  simp only [near_halfcut, innF, outF]
  generalize n / d * d = qd at *
  generalize m / d * d = qd' at *
  generalize n % d = r at *
  generalize m % d = r' at *
  generalize n / d = q at *
  generalize m / d = q' at *
  (repeat' split) <;> omega
theorem near_mono (n m d : Int) (hd : 0 < d) (h : n ≤ m) : ∀ x ∈ waysL, nearF n d x ≤ nearF m d x := ways_cases ⟨nm_floor n m d hd h, nm_ceiling n m d hd h, nm_cut n m d hd h, nm_away n m d hd h, nm_halfup n m d hd h, nm_halfdown n m d hd h, nm_halfeven n m d hd h, nm_halfaway n m d hd h, nm_halfcut n m d hd h⟩
theorem mv_floor (U m W : Int) (hW : 0 < W) (hc : True) : nearF (U + m * W) W "floor" = nearF U W "floor" + m := by
  have e := ediv_eq U W
  have h0 := Int.emod_nonneg U (show W ≠ 0 by omega)
  have h1 := Int.emod_lt_of_pos U hW
  have hz : U = 0 → U % W = 0 := fun h => by rw [h]; exact Int.zero_emod W
  have e1 : (U + m * W) / W = U / W + m := Int.add_mul_ediv_right U m (by omega)
  have e2 : (U / W + m) * W = U / W * W + m * W := Int.add_mul _ _ _
  have ez : U + m * W = 0 → U / W * W = U := fun h => by
    have hU : U = (-m) * W := by rw [Int.neg_mul]; omega
    rw [hU, Int.mul_ediv_cancel _ (by omega)]
  have et : W * (2 * (U / W) + 1) = 2 * (U / W * W) + W := by rw [Int.mul_add, Int.mul_one, Int.mul_comm W, Int.mul_assoc]
  simp only [near_floor, innF, outF, e1, e2]
  skip
  generalize U / W * W = qd at *
  generalize m * W = mw at *
  generalize U % W = r at *
  generalize U / W = q at *
  (repeat' split) <;> omega
theorem mv_ceiling (U m W : Int) (hW : 0 < W) (hc : True) : nearF (U + m * W) W "ceiling" = nearF U W "ceiling" + m := by
  have e := ediv_eq U W
  have h0 := Int.emod_nonneg U (show W ≠ 0 by omega)
  have h1 := Int.emod_lt_of_pos U hW
  have hz : U = 0 → U % W = 0 := fun h => by rw [h]; exact Int.zero_emod W
  have e1 : (U + m * W) / W = U / W + m := Int.add_mul_ediv_right U m (by omega)
  have e2 : (U / W + m) * W = U / W * W + m * W := Int.add_mul _ _ _
  have ez : U + m * W = 0 → U / W * W = U := fun h => by
    have hU : U = (-m) * W := by rw [Int.neg_mul]; omega
    rw [hU, Int.mul_ediv_cancel _ (by omega)]
  have et : W * (2 * (U / W) + 1) = 2 * (U / W * W) + W := by rw [Int.mul_add, Int.mul_one, Int.mul_comm W, Int.mul_assoc]
  simp only [near_ceiling, innF, outF, e1, e2]
  skip
  generalize U / W * W = qd at *
  generalize m * W = mw at *
  generalize U % W = r at *
  generalize U / W = q at *
  (repeat' split) <;> omega
theorem mv_cut (U m W : Int) (hW : 0 < W) (hc : (0 ≤ U ∧ 0 ≤ U + m * W) ∨ (U ≤ 0 ∧ U + m * W ≤ 0)) : nearF (U + m * W) W "cut" = nearF U W "cut" + m := by
  have e := ediv_eq U W
  have h0 := Int.emod_nonneg U (show W ≠ 0 by omega)
  have h1 := Int.emod_lt_of_pos U hW
  have hz : U = 0 → U % W = 0 := fun h => by rw [h]; exact Int.zero_emod W
  have e1 : (U + m * W) / W = U / W + m := Int.add_mul_ediv_right U m (by omega)
  have e2 : (U / W + m) * W = U / W * W + m * W := Int.add_mul _ _ _
  have ez : U + m * W = 0 → U / W * W = U := fun h => by
    have hU : U = (-m) * W := by rw [Int.neg_mul]; omega
    rw [hU, Int.mul_ediv_cancel _ (by omega)]
  have et : W * (2 * (U / W) + 1) = 2 * (U / W * W) + W := by rw [Int.mul_add, Int.mul_one, Int.mul_comm W, Int.mul_assoc]
  simp only [near_cut, innF, outF, e1, e2]
  skip
  generalize U / W * W = qd at *
  generalize m * W = mw at *
  generalize U % W = r at *
  generalize U / W = q at *
  (repeat' split) <;> omega
theorem mv_away (U m W : Int) (hW : 0 < W) (hc : (0 ≤ U ∧ 0 ≤ U + m * W) ∨ (U ≤ 0 ∧ U + m * W ≤ 0)) : nearF (U + m * W) W "away" = nearF U W "away" + m := by
  have e := ediv_eq U W
  have h0 := Int.emod_nonneg U (show W ≠ 0 by omega)
  have h1 := Int.emod_lt_of_pos U hW
  have hz : U = 0 → U % W = 0 := fun h => by rw [h]; exact Int.zero_emod W
  have e1 : (U + m * W) / W = U / W + m := Int.add_mul_ediv_right U m (by omega)
  have e2 : (U / W + m) * W = U / W * W + m * W := Int.add_mul _ _ _
  have ez : U + m * W = 0 → U / W * W = U := fun h => by
    have hU : U = (-m) * W := by rw [Int.neg_mul]; omega
    rw [hU, Int.mul_ediv_cancel _ (by omega)]
  have et : W * (2 * (U / W) + 1) = 2 * (U / W * W) + W := by rw [Int.mul_add, Int.mul_one, Int.mul_comm W, Int.mul_assoc]
  simp only [near_away, innF, outF, e1, e2]
  skip
  generalize U / W * W = qd at *
  generalize m * W = mw at *
  generalize U % W = r at *
  generalize U / W = q at *
  (repeat' split) <;> omega
theorem mv_halfup (U m W : Int) (hW : 0 < W) (hc : True) : nearF (U + m * W) W "halfup" = nearF U W "halfup" + m := by
  have e := ediv_eq U W
  have h0 := Int.emod_nonneg U (show W ≠ 0 by omega)
  have h1 := Int.emod_lt_of_pos U hW
  have hz : U = 0 → U % W = 0 := fun h => by rw [h]; exact Int.zero_emod W
  have e1 : (U + m * W) / W = U / W + m := Int.add_mul_ediv_right U m (by omega)
  have e2 : (U / W + m) * W = U / W * W + m * W := Int.add_mul _ _ _
  have ez : U + m * W = 0 → U / W * W = U := fun h => by
    have hU : U = (-m) * W := by rw [Int.neg_mul]; omega
    rw [hU, Int.mul_ediv_cancel _ (by omega)]
  have et : W * (2 * (U / W) + 1) = 2 * (U / W * W) + W := by rw [Int.mul_add, Int.mul_one, Int.mul_comm W, Int.mul_assoc]
  simp only [near_halfup, innF, outF, e1, e2]
  skip
  generalize U / W * W = qd at *
  generalize m * W = mw at *
  generalize U % W = r at *
  generalize U / W = q at *
  (repeat' split) <;> omega
theorem mv_halfdown (U m W : Int) (hW : 0 < W) (hc : True) : nearF (U + m * W) W "halfdown" = nearF U W "halfdown" + m := by
  have e := ediv_eq U W
  have h0 := Int.emod_nonneg U (show W ≠ 0 by omega)
  have h1 := Int.emod_lt_of_pos U hW
  have hz : U = 0 → U % W = 0 := fun h => by rw [h]; exact Int.zero_emod W
  have e1 : (U + m * W) / W = U / W + m := Int.add_mul_ediv_right U m (by omega)
  have e2 : (U / W + m) * W = U / W * W + m * W := Int.add_mul _ _ _
  have ez : U + m * W = 0 → U / W * W = U := fun h => by
    have hU : U = (-m) * W := by rw [Int.neg_mul]; omega
    rw [hU, Int.mul_ediv_cancel _ (by omega)]
  have et : W * (2 * (U / W) + 1) = 2 * (U / W * W) + W := by rw [Int.mul_add, Int.mul_one, Int.mul_comm W, Int.mul_assoc]
  simp only [near_halfdown, innF, outF, e1, e2]
  skip
  generalize U / W * W = qd at *
  generalize m * W = mw at *
  generalize U % W = r at *
  generalize U / W = q at *
  (repeat' split) <;> omega
theorem mv_halfeven (U m W : Int) (hW : 0 < W) (hc : m % 2 = 0 ∨ ¬ 2 * U = W * (2 * (U / W) + 1)) : nearF (U + m * W) W "halfeven" = nearF U W "halfeven" + m := by
  have e := ediv_eq U W
  have h0 := Int.emod_nonneg U (show W ≠ 0 by omega)
  have h1 := Int.emod_lt_of_pos U hW
  have hz : U = 0 → U % W = 0 := fun h => by rw [h]; exact Int.zero_emod W
  have e1 : (U + m * W) / W = U / W + m := Int.add_mul_ediv_right U m (by omega)
  have e2 : (U / W + m) * W = U / W * W + m * W := Int.add_mul _ _ _
  have ez : U + m * W = 0 → U / W * W = U := fun h => by
    have hU : U = (-m) * W := by rw [Int.neg_mul]; omega
    rw [hU, Int.mul_ediv_cancel _ (by omega)]
  have et : W * (2 * (U / W) + 1) = 2 * (U / W * W) + W := by rw [Int.mul_add, Int.mul_one, Int.mul_comm W, Int.mul_assoc]
  simp only [near_halfeven, innF, outF, e1, e2]
  rw [et] at hc
  generalize U / W * W = qd at *
  generalize m * W = mw at *
  generalize U % W = r at *
  generalize U / W = q at *
  (repeat' split) <;> omega
theorem mv_halfaway (U m W : Int) (hW : 0 < W) (hc : ((0 ≤ U ∧ 0 ≤ U + m * W) ∨ (U ≤ 0 ∧ U + m * W ≤ 0)) ∨ ¬ 2 * U = W * (2 * (U / W) + 1)) : nearF (U + m * W) W "halfaway" = nearF U W "halfaway" + m := by
  have e := ediv_eq U W
  have h0 := Int.emod_nonneg U (show W ≠ 0 by omega)
  have h1 := Int.emod_lt_of_pos U hW
  have hz : U = 0 → U % W = 0 := fun h => by rw [h]; exact Int.zero_emod W
  have e1 : (U + m * W) / W = U / W + m := Int.add_mul_ediv_right U m (by omega)
  have e2 : (U / W + m) * W = U / W * W + m * W := Int.add_mul _ _ _
  have ez : U + m * W = 0 → U / W * W = U := fun h => by
    have hU : U = (-m) * W := by rw [Int.neg_mul]; omega
    rw [hU, Int.mul_ediv_cancel _ (by omega)]
  have et : W * (2 * (U / W) + 1) = 2 * (U / W * W) + W := by rw [Int.mul_add, Int.mul_one, Int.mul_comm W, Int.mul_assoc]
  simp only [near_halfaway, innF, outF, e1, e2]
  rw [et] at hc
  generalize U / W * W = qd at *
  generalize m * W = mw at *
  generalize U % W = r at *
  generalize U / W = q at *
  (repeat' split) <;> omega
theorem mv_halfcut (U m W : Int) (hW : 0 < W) (hc : ((0 ≤ U ∧ 0 ≤ U + m * W) ∨ (U ≤ 0 ∧ U + m * W ≤ 0)) ∨ ¬ 2 * U = W * (2 * (U / W) + 1)) : nearF (U + m * W) W "halfcut" = nearF U W "halfcut" + m := by
  have e := ediv_eq U W
  have h0 := Int.emod_nonneg U (show W ≠ 0 by omega)
  have h1 := Int.emod_lt_of_pos U hW
  have hz : U = 0 → U % W = 0 := fun h => by rw [h]; exact Int.zero_emod W
  have e1 : (U + m * W) / W = U / W + m := Int.add_mul_ediv_right U m (by omega)
  have e2 : (U / W + m) * W = U / W * W + m * W := Int.add_mul _ _ _
  have ez : U + m * W = 0 → U / W * W = U := fun h => by
    have hU : U = (-m) * W := by rw [Int.neg_mul]; omega
    rw [hU, Int.mul_ediv_cancel _ (by omega)]
  have et : W * (2 * (U / W) + 1) = 2 * (U / W * W) + W := by rw [Int.mul_add, Int.mul_one, Int.mul_comm W, Int.mul_assoc]
  simp only [near_halfcut, innF, outF, e1, e2]
  rw [et] at hc
  generalize U / W * W = qd at *
  generalize m * W = mw at *
  generalize U % W = r at *
  generalize U / W = q at *
  (repeat' split) <;> omega
theorem rnd_up (U : Int) (k s a : Nat) {x : Str} (hx : x ∈ waysL) : rndF (U * 10 ^ k) (s + k) a x = rndF U s a x := by
  have p : ∀ k : Nat, (0 : Int) < 10 ^ k := fun k => Int.pow_pos (by decide)
  unfold rndF
  by_cases h1 : s + k ≤ a
  · rw [if_pos h1, if_pos (by omega), Int.mul_assoc, ten_add]
    congr 2
    omega
  · rw [if_neg h1]
    by_cases h2 : s ≤ a
    · rw [if_pos h2]
      have e : U * 10 ^ k = U * 10 ^ (a - s) * 10 ^ (s + k - a) := by
        rw [Int.mul_assoc, ten_add]
        congr 2
        omega
      have z := near_scale (U * 10 ^ (a - s)) 1 (10 ^ (s + k - a)) (by decide) (p _) x hx
      rw [Int.one_mul, ← e] at z
      rw [z]
      unfold nearF
      rw [Int.ediv_one, Int.mul_one, if_pos rfl]
    · rw [if_neg h2]
      have z := near_scale U (10 ^ (s - a)) (10 ^ k) (p _) (p _) x hx
      rw [ten_add, show s - a + k = s + k - a by omega] at z
      exact z
theorem rnd_mono {U V : Int} {s a : Nat} {x : Str} (hx : x ∈ waysL) (h : U ≤ V) : rndF U s a x ≤ rndF V s a x := by
  have p : ∀ k : Nat, (0 : Int) < 10 ^ k := fun k => Int.pow_pos (by decide)
  unfold rndF
  split
  · exact Int.mul_le_mul_of_nonneg_right h (Int.le_of_lt (p _))
  · exact near_mono U V _ (p _) h x hx
theorem nf_floor (n d : Int) : nearF n d "floor" = n / d := by rw [near_floor]; split <;> rfl
theorem nf_ceil (n d : Int) (hd : 0 < d) : nearF n d "ceiling" = -((-n) / d) := by
  have z := nn_ceiling n d hd
  rw [mir_ceiling, nf_floor] at z
  omega
theorem nf_cut (n d : Int) (hd : 0 < d) : nearF n d "cut" = if 0 ≤ n then n / d else -((-n) / d) := by
  have c := nf_ceil n d hd
  have hz : n = 0 → n / d * d = n := fun h => by rw [h, Int.zero_ediv, Int.zero_mul]
  rw [near_ceiling] at c
  rw [near_cut]
  unfold innF
  (repeat' split) <;> (repeat' split at c) <;> omega
theorem nf_away (n d : Int) (hd : 0 < d) : nearF n d "away" = if 0 ≤ n then -((-n) / d) else n / d := by
  have c := nf_ceil n d hd
  have hz : n = 0 → n / d * d = n := fun h => by rw [h, Int.zero_ediv, Int.zero_mul]
  rw [near_ceiling] at c
  rw [near_away]
  unfold outF
  (repeat' split) <;> (repeat' split at c) <;> omega
theorem near2 (U A B : Int) (hA : 0 < A) (hB : 0 < B) : ∀ x ∈ four, nearF (nearF U A x) B x = nearF U (A * B) x := by
  have hAB : 0 < A * B := Int.mul_pos hA hB
  have d1 : U / A / B = U / (A * B) := Int.ediv_ediv_of_nonneg (Int.le_of_lt hA)
  have d2 : (-U) / A / B = (-U) / (A * B) := Int.ediv_ediv_of_nonneg (Int.le_of_lt hA)
  have p1 : 0 ≤ U → 0 ≤ U / A := fun h => Int.ediv_nonneg h (Int.le_of_lt hA)
  have p2 : U < 0 → U / A < 0 := fun h => Int.ediv_neg_of_neg_of_pos h hA
  have p3 : U < 0 → 0 ≤ (-U) / A := fun h => Int.ediv_nonneg (by omega) (Int.le_of_lt hA)
  have p4 : 0 ≤ U → (-U) / A ≤ 0 := fun h => by
    rcases Int.lt_or_le 0 U with c | c
    · exact Int.le_of_lt (Int.ediv_neg_of_neg_of_pos (by omega) hA)
    · rw [show U = 0 by omega]
      exact Int.le_of_eq (Int.zero_ediv A)
  have z1 : ∀ y : Int, - -y = y := fun y => Int.neg_neg y
  intro x hx
  simp only [four, List.mem_cons, List.not_mem_nil, or_false] at hx
  rcases hx with rfl | rfl | rfl | rfl
  · rw [nf_floor, nf_floor, nf_floor, d1]
  · rw [nf_ceil _ _ hA, nf_ceil _ _ hB, nf_ceil _ _ hAB, z1, d2]
  · rw [nf_cut _ _ hA, nf_cut _ _ hB, nf_cut _ _ hAB]
    by_cases h : 0 ≤ U
    · rw [if_pos h, if_pos (p1 h), if_pos h, d1]
    · rw [if_neg h, if_neg h]
      by_cases h2 : 0 ≤ -((-U) / A)
      · rw [if_pos h2]
        have z : (-U) / A = 0 := by have := p3 (by omega); omega
        rw [← d2, z, Int.neg_zero, Int.zero_ediv]
        rfl
      · rw [if_neg h2, z1, d2]
  · rw [nf_away _ _ hA, nf_away _ _ hB, nf_away _ _ hAB]
    by_cases h : 0 ≤ U
    · rw [if_pos h, if_pos (by have := p4 h; omega), if_pos h, z1, d2]
    · rw [if_neg h, if_neg (by have := p2 (by omega); omega), if_neg h, d1]
theorem four_ways : ∀ x ∈ four, x ∈ waysL := by decide +kernel
theorem rnd2 (U : Int) {s a b : Nat} {x : Str} (hx : x ∈ four) (h : b ≤ a) : rndF (rndF U s a x) a b x = rndF U s b x := by
  have hw := four_ways x hx
  have p : ∀ k : Nat, (0 : Int) < 10 ^ k := fun k => Int.pow_pos (by decide)
  by_cases h1 : s ≤ a
  · have e : rndF U s a x = U * 10 ^ (a - s) := by unfold rndF; rw [if_pos h1]
    have z := rnd_up U (a - s) s b hw
    rw [show s + (a - s) = a by omega] at z
    rw [e, z]
  · have e : rndF U s a x = nearF U (10 ^ (s - a)) x := by unfold rndF; rw [if_neg h1]
    rw [e]
    unfold rndF
    rw [if_neg (show ¬ s ≤ b by omega)]
    by_cases h2 : a ≤ b
    · have hab : a = b := by omega
      subst hab
      rw [if_pos h2, Nat.sub_self, Int.pow_zero, Int.mul_one]
    · rw [if_neg h2, near2 U _ _ (p _) (p _) x hx, ten_add]
      congr 2
      omega
/-- a quotient by own forms is the law's -/
theorem quo_near {U V : Int} {s t a : Nat} {x : Str} (hx : x ∈ waysL) (hV : ¬ V = 0) : quoF U V s t a x = if 0 < V * 10 ^ s then nearF (U * 10 ^ (t + a)) (V * 10 ^ s) x else nearF (-(U * 10 ^ (t + a))) (-(V * 10 ^ s)) x := by
  have p : ∀ k : Nat, (0 : Int) < 10 ^ k := fun k => Int.pow_pos (by decide)
  have hu := nrm_val s U
  have hv := nrm_val t V
  have l1 := nrm_le s U
  have l2 := nrm_le t V
  unfold quoF
  generalize hk : (10 : Int) ^ ((s - (nrm U s).2) + (t - (nrm V t).2)) = k
  have kp : 0 < k := by rw [← hk]; exact p _
  have en : U * 10 ^ (t + a) = (nrm U s).1 * 10 ^ ((nrm V t).2 + a) * k := by
    have e : U * 10 ^ (t + a) = (nrm U s).1 * 10 ^ (s - (nrm U s).2) * 10 ^ (t + a) := congrArg (· * 10 ^ (t + a)) hu
    rw [e, ← hk, Int.mul_assoc, ten_add, Int.mul_assoc, ten_add]
    congr 2
    omega
  have ed : V * 10 ^ s = (nrm V t).1 * 10 ^ (nrm U s).2 * k := by
    have e : V * 10 ^ s = (nrm V t).1 * 10 ^ (t - (nrm V t).2) * 10 ^ s := congrArg (· * 10 ^ s) hv
    rw [e, ← hk, Int.mul_assoc, ten_add, Int.mul_assoc, ten_add]
    congr 2
    omega
  have hd0 : ¬ (nrm V t).1 * 10 ^ (nrm U s).2 = 0 := fun z => by
    rcases Int.mul_eq_zero.mp z with z | z
    · rw [z, Int.zero_mul] at hv
      exact hV hv
    · have := p (nrm U s).2
      omega
  rw [en, ed]
  generalize (nrm U s).1 * 10 ^ ((nrm V t).2 + a) = n at *
  generalize (nrm V t).1 * 10 ^ (nrm U s).2 = d at *
  by_cases h : d < 0
  · have hdk := Int.mul_neg_of_neg_of_pos h kp
    rw [if_pos h, if_neg (by omega), div_near _ _ (by omega) x hx, ← Int.neg_mul, ← Int.neg_mul, near_scale _ _ k (by omega) kp x hx]
  · have hdk : 0 < d * k := Int.mul_pos (by omega) kp
    rw [if_neg h, if_pos hdk, div_near _ _ (by omega) x hx, near_scale _ _ k (by omega) kp x hx]
theorem rnd_own (U : Int) (s a : Nat) {x : Str} (hx : x ∈ waysL) : rndF U s a x = rndF (nrm U s).1 (nrm U s).2 a x := by
  have l := nrm_le s U
  have z := rnd_up (nrm U s).1 (s - (nrm U s).2) (nrm U s).2 a hx
  rw [← nrm_val, show (nrm U s).2 + (s - (nrm U s).2) = s by omega] at z
  exact z
end K04
namespace K04
open PySem L2 DS
set_option pp.maxSteps 1200
local macro_rules | `(tactic| walk_at "c") => `(tactic| first
  | (dsimp only; omega)
  | omega
  | (show CMulA _ _; first | exact CMulA.s1 (by omega) (by omega) | exact CMulA.s2 (by omega) (by omega))
  | (show CDivW _ _; first | exact ⟨by omega, by assumption⟩ | exact ⟨by omega, by decide⟩)
  | (show CPow _ _; exact ⟨by decide, by decide, by decide⟩)
  | assumption)
local macro_rules | `(tactic| walk_at "get") => `(tactic| first
  | assumption
  | (refine (by assumption : Same _ _) _ _ ?_; walk_at "get")
  | (refine (by assumption : Keep _ _) _ _ ?_ rfl; walk_at "get"))
local macro_rules | `(tactic| walk_at "pen") => `(tactic| first
  | assumption
  | (refine Pen.same (by assumption) ?_; walk_at "pen")
  | (refine Pen.mono ?_ (by omega); assumption))
local macro_rules | `(tactic| walk_at "keep") => `(tactic| first
  | assumption
  | exact Keep.refl _
  | exact Keep.of (by assumption)
  | (refine Keep.trans ?_ (by assumption); walk_at "keep")
  | (refine Keep.same ?_ (by assumption); walk_at "keep"))
local macro_rules | `(tactic| walk_at "same") => `(tactic| first
  | assumption
  | exact Same.refl _
  | (refine Same.trans ?_ (by assumption); walk_at "same"))
local macro_rules | `(tactic| walk_at "s") => `(tactic| first
  | with_reducible refine w_seq ?_
  | with_reducible refine w_asg ?_
  | with_reducible refine w_name ?_
  | ((with_reducible apply w_var); exact rfl)
  | with_reducible refine w_c ?_
  | with_reducible refine w_op ?_
  | with_reducible refine w_I0 ?_
  | ((with_reducible apply w_I); (walk_at "c"))
  | with_reducible refine w_cons ?_
  | with_reducible refine w_nil ?_
  | with_reducible refine w_cb ?_
  | with_reducible refine w_int1 ?_
  | with_reducible refine w_int1b ?_
  | with_reducible refine w_call ?_
  | with_reducible refine w_ifs ?_
  | with_reducible refine w_test ?_
  | with_reducible refine w_k ?_
  | with_reducible refine w_ret ?_
  | with_reducible refine w_drop ?_
  | with_reducible refine w_not ?_
  | with_reducible refine w_and ?_
  | with_reducible refine w_or ?_
  | with_reducible refine w_andV ?_
  | with_reducible refine w_orV ?_
  | with_reducible refine w_notV ?_
  | with_reducible refine w_if ?_
  | with_reducible refine w_B ?_
  | with_reducible refine w_un ?_
  | with_reducible refine w_U ?_
  | (with_reducible refine w_tup ?_; intro _ _)
  | (with_reducible refine w_lst ?_; intro _ _)
  | with_reducible refine w_dget ?_
  | with_reducible refine w_dput ?_
  | with_reducible refine w_fld ?_
  | with_reducible refine w_meth ?_
  | (with_reducible refine w_make ?_; intro _ _)
  | with_reducible refine w_par ?_
  | with_reducible refine w_par3 ?_
  | with_reducible refine w_two ?_
  | with_reducible refine w_three ?_
  | with_reducible refine w_one ?_
  | with_reducible refine w_chain ?_
  | with_reducible refine w_next ?_
  | with_reducible refine w_brk ?_
  | with_reducible refine w_cont ?_
  | with_reducible refine w_retN ?_
  | with_reducible refine w_gcons ?_
  | with_reducible refine w_gnil ?_
  | ((with_reducible refine w_eq ?_ ?_); exact rfl)
  | ((with_reducible refine w_ne ?_ ?_); exact rfl)
  | with_reducible refine w_part ?_
  | with_reducible refine w_lc ?_
  | with_reducible refine w_yes ?_
  | with_reducible refine w_iTup ?_
  | with_reducible refine w_iList ?_
  | with_reducible refine w_unT ?_
  | with_reducible refine w_unT0 ?_
  | with_reducible refine w_unL ?_
  | with_reducible refine w_unL0 ?_
  | ((with_reducible apply w_gtup); (walk_at "get"); (exact rfl))
  | with_reducible refine w_gfld ?_
  | with_reducible refine w_sfld ?_
  | with_reducible refine w_risi ?_
  | with_reducible refine w_i ?_
  | with_reducible refine w_pnil ?_
  | with_reducible refine w_pcons ?_
  | with_reducible refine w_sl ?_
  | with_reducible refine w_nopart ?_
  | with_reducible refine w_for ?_
  | with_reducible refine w_while ?_
  | with_reducible refine w_irng1 ?_
  | with_reducible refine w_irng2 ?_
  | with_reducible refine And.intro (rfl : V.non = V.non) ?_)
local macro_rules | `(tactic| walk_at "go") => `(tactic| repeat (walk_at "s"))

section
variable {P : Program} {w : World} {K : PySem.W.Frag} {mg : Str → Option Value} {base : Heap}
def sp_rounded2 (C : Addr) : Sp := fun vs H Q _ => ∃ (p : Addr) (u : Int) (s t : Nat) (x : Str), vs = [.ref p, .int t, .str x] ∧ WAt C H p u s ∧ x ∈ waysL ∧ s ≤ 10000 ∧ u.natAbs < 2 ^ 3000 ∧ ∀ r H', Same H H' → WAt C H' r (rndF u s t x) t → Q (.ref r) H'
theorem rnd_whole (u : Int) (s t : Nat) {x : Str} (hx : x ∈ waysL) (h : (nrm u s).2 ≤ t) : wf (rndF u s t x) t = wf u s := by
  have e : rndF u s t x = (nrm u s).1 * 10 ^ (t - (nrm u s).2) := by
    rw [rnd_own u s t hx]
    unfold rndF
    rw [if_pos h]
  have z := nrm_mul (t - (nrm u s).2) (nrm u s).2 (nrm u s).1
  rw [show (nrm u s).2 + (t - (nrm u s).2) = t by omega] at z
  unfold wf
  rw [e, z, nrm_idem]
theorem ok_rounded2 (T : Tx w K mg) : FnOk P w K mg base CX0 6 T.f_rounded T.fd_rounded ["worth", "scale", "way"] (sp_rounded2 T.C_Worth) := (ok_rounded T).imp fun vs H Q E h => by
  obtain ⟨p, u, s, t, x, rfl, hW, hx, hs, hu, q⟩ := h
  refine ⟨p, u, s, t, x, rfl, hW, hx, hs, hu, fun hc H' s1 => q p H' s1 ?_, fun hc r H' s1 hr => q r H' s1 ?_⟩
  · obtain ⟨dx, h⟩ := hW
    exact ⟨dx, by rw [rnd_whole u s t hx hc]; exact s1 _ _ h⟩
  · have p10 : (0 : Int) < 10 ^ ((nrm u s).2 - t) := Int.pow_pos (by decide)
    rw [div_near _ _ p10 x hx] at hr
    rw [rnd_own u s t hx]
    unfold rndF
    rw [if_neg (by omega)]
    exact hr
theorem ok__law_moves (T : Tx w K mg) : FnOk P w K mg base CX0 1 T.f__law_moves T.fd__law_moves ["_law_way", "_law_units", "_law_more", "_law_wide"] (fun vs H Q _ => ∃ (x : Str) (U m W : Int), vs = [.str x, .int U, .int m, .int W] ∧ x ∈ waysL ∧ 0 < W ∧ U.natAbs < 2 ^ 4000 ∧ W.natAbs < 2 ^ 4000 ∧ m.natAbs ≤ 1000 ∧
    ∀ b H', (b = true → nearF (U + m * W) W x = nearF U W x + m) → Same H H' → Q (.bl b) H') := by
  refine T.F__law_moves.ok sc__law_moves (fun vs H Q E h => ?_) (fun cdv A outer s H vs Q E hr h => ?_)
  · obtain ⟨x, U, m, W, rfl, _⟩ := h
    rfl
  · obtain ⟨x, U, m, W, rfl, hx, hW, hU, hWb, hm, q⟩ := h
    have hlog : W.natAbs.log2 < 9000 := Nat.lt_of_lt_of_le (PySem.Flt.log2_lt_of (by decide) hWb) (by decide)
    have hq2 : (2 * (U / W) + 1).natAbs < 2 ^ 4002 := by
      have z := Nat.lt_of_le_of_lt (ediv_abs U W) hU
      have e2 : (2 : Nat) ^ 4002 = 2 ^ 4000 * 4 := by rw [← Nat.pow_add 2 4000 2]
      rw [e2]
      clear hU hWb
      generalize (2 : Nat) ^ 4000 = B at *
      omega
    have c1 : CMulA W (2 * (U / W) + 1) := CMulA.w hWb hq2 (by decide)
    have c2 : CMulA m W := CMulA.s1 (by omega) (by omega)
    have c3 : CMulA 2 U := CMulA.s1 (by decide) (by decide)
    have c4 : CMulA 2 (U / W) := CMulA.s1 (by decide) (by decide)
    clear hU hWb hq2
    have hu64 := hu64_of hr
    refine ⟨_, (pss_cons (ps_if (pt_cmpR op_in_seq (pv 0) (pe_lst (pa_cons pe_str (pa_cons pe_str (pa_cons pe_str (pa_cons pe_str pa_nil))))) rfl) (pss_one (ps_ret pe_bl)) pss_nil)
      (pss_cons (ps_set (i := 4) sc__law_moves.nd rfl (Or.inl rfl) (pe_cmpR op_eq (pe_op op_mulA pe_int (pv 1)) (pe_op op_mulA (pv 3) (pe_op op_add (pe_op op_mulA pe_int (pe_op op_fdivW (pv 1) (pv 3))) pe_int)) (nomark _)))
      (pss_cons (ps_if (pt_cmpR op_eq (pv 0) pe_str (nomark _)) (pss_one (ps_ret (pe_or (pe_cmpR op_eq (pe_op op_mod (pe_callTy call_int1 (by rfl) T.z_int (by decide +kernel) (pa_cons (pv 2) pa_nil)) pe_int) pe_int (nomark _)) (pe_one (pe_not (pv 4)))))) pss_nil)
      (pss_cons (ps_set (i := 5) sc__law_moves.nd rfl (Or.inl rfl) (pe_op op_add (pv 1) (pe_op op_mulA (pv 2) (pv 3))))
      (pss_cons (ps_if (PW.pt (pw_or (pt_cmpR op_ge (pe_callB (call_min2 rfl) (by rfl) T.z_min (by decide +kernel) (pa_cons (pv 1) (pa_cons (pv 5) pa_nil))) pe_int (nomark _)) (pw_or1 (pt_cmpR op_le (pe_callB (call_max2 rfl) (by rfl) T.z_max (by decide +kernel) (pa_cons (pv 1) (pa_cons (pv 5) pa_nil))) pe_int (nomark _))))) (pss_one (ps_ret pe_bl)) pss_nil)
      (pss_one (ps_ret (pe_and (pe_cmpR op_in_seq (pv 0) (pe_lst (pa_cons pe_str (pa_cons pe_str pa_nil))) rfl) (pe_one (pe_not (pv 4))))))))))), ?_⟩
    walk_at "go"
    refine w_new (by assumption) (Nat.le_of_ble_eq_true rfl) (fun p1 H1 n1 s1 e1 => ?_)
    walk_at "go"
    refine w_inL (l := ["floor", "ceiling", "halfup", "halfdown"]) e1 ?_
    walk_at "go"
    refine w_ite (fun h1 => ?_) (fun h1 => ?_)
    · walk_at "go"
      refine q true H1 (fun _ => ?_) s1
      simp only [List.mem_cons, List.not_mem_nil, or_false] at h1
      rcases h1 with rfl | rfl | rfl | rfl
      · exact mv_floor U m W hW trivial
      · exact mv_ceiling U m W hW trivial
      · exact mv_halfup U m W hW trivial
      · exact mv_halfdown U m W hW trivial
    walk_at "go"
    refine w_ite (fun h2 => ?_) (fun h2 => ?_)
    · have h2' : x = "halfeven" := by simpa using h2
      subst h2'
      walk_at "go"
      refine w_ite (fun h3 => ?_) (fun h3 => ?_)
      all_goals rw [V_int] at h3
      · exact q true H1 (fun _ => mv_halfeven U m W hW (.inl h3)) s1
      · walk_at "go"
        refine q _ H1 (fun hb => mv_halfeven U m W hW (.inr ?_)) s1
        intro ht
        simp [ht] at hb
    have h2' : ¬ x = "halfeven" := by simpa using h2
    walk_at "go"
    refine ⟨_, _, rfl, ?_⟩
    walk_at "go"
    have key : ((0 ≤ U ∧ 0 ≤ U + m * W) ∨ (U ≤ 0 ∧ U + m * W ≤ 0)) → nearF (U + m * W) W x = nearF U W x + m := fun hc => by
      simp only [List.mem_cons, List.not_mem_nil, or_false, not_or] at h1
      obtain ⟨g1, g2, g3, g4⟩ := h1
      simp only [waysL, List.mem_cons, List.not_mem_nil, or_false] at hx
      rcases hx with rfl | rfl | rfl | rfl | rfl | rfl | rfl | rfl | rfl
      · exact absurd rfl g1
      · exact absurd rfl g2
      · exact mv_cut U m W hW hc
      · exact mv_away U m W hW hc
      · exact absurd rfl g3
      · exact absurd rfl g4
      · exact absurd rfl h2'
      · exact mv_halfaway U m W hW (.inl hc)
      · exact mv_halfcut U m W hW (.inl hc)
    generalize hf : U + m * W = F at *
    refine w_ite (fun h3 => ?_) (fun h3 => ?_)
    · refine iteT ?_
      walk_at "go"
      refine q true H1 (fun _ => key ?_) s1
      split at h3 <;> omega
    walk_at "go"
    refine ⟨_, _, rfl, ?_⟩
    walk_at "go"
    refine w_ite (fun h4 => ?_) (fun h4 => ?_)
    · walk_at "go"
      refine q true H1 (fun _ => key ?_) s1
      split at h4 <;> omega
    walk_at "go"
    refine w_new (by assumption) (Nat.le_of_ble_eq_true rfl) (fun p2 H2 n2 s2 e2 => ?_)
    walk_at "go"
    refine w_inL (l := ["halfaway", "halfcut"]) e2 ?_
    walk_at "go"
    refine w_ite (fun h5 => ?_) (fun h5 => ?_)
    · walk_at "go"
      refine q _ H2 (fun hb => ?_) (s1.trans s2)
      have hb' : ¬ 2 * U = W * (2 * (U / W) + 1) := by
        intro ht
        simp [ht] at hb
      rw [← hf]
      simp only [List.mem_cons, List.not_mem_nil, or_false] at h5
      rcases h5 with rfl | rfl
      · exact mv_halfaway U m W hW (.inr hb')
      · exact mv_halfcut U m W hW (.inr hb')
    · exact q false H2 (fun hb => absurd hb (by decide)) (s1.trans s2)
end
end K04
namespace K04
open PySem L2 DS
set_option pp.maxSteps 1200
local macro_rules | `(tactic| walk_at "c") => `(tactic| first
  | (dsimp only; omega)
  | omega
  | (show CMulA _ _; first | exact CMulA.s1 (by omega) (by omega) | exact CMulA.s2 (by omega) (by omega))
  | (show CDivW _ _; first | exact ⟨by omega, by assumption⟩ | exact ⟨by omega, by decide⟩)
  | (show CPow _ _; exact ⟨by decide, by decide, by decide⟩)
  | assumption)
local macro_rules | `(tactic| walk_at "get") => `(tactic| first
  | assumption
  | (refine (by assumption : Same _ _) _ _ ?_; walk_at "get")
  | (refine (by assumption : Keep _ _) _ _ ?_ rfl; walk_at "get"))
local macro_rules | `(tactic| walk_at "pen") => `(tactic| first
  | assumption
  | (refine Pen.same (by assumption) ?_; walk_at "pen")
  | (refine Pen.mono ?_ (by omega); assumption))
local macro_rules | `(tactic| walk_at "keep") => `(tactic| first
  | assumption
  | exact Keep.refl _
  | exact Keep.of (by assumption)
  | (refine Keep.trans ?_ (by assumption); walk_at "keep")
  | (refine Keep.same ?_ (by assumption); walk_at "keep"))
local macro_rules | `(tactic| walk_at "same") => `(tactic| first
  | assumption
  | exact Same.refl _
  | (refine Same.trans ?_ (by assumption); walk_at "same"))
local macro_rules | `(tactic| walk_at "s") => `(tactic| first
  | with_reducible refine w_seq ?_
  | with_reducible refine w_asg ?_
  | with_reducible refine w_name ?_
  | ((with_reducible apply w_var); exact rfl)
  | with_reducible refine w_c ?_
  | with_reducible refine w_op ?_
  | with_reducible refine w_I0 ?_
  | ((with_reducible apply w_I); (walk_at "c"))
  | with_reducible refine w_cons ?_
  | with_reducible refine w_nil ?_
  | with_reducible refine w_cb ?_
  | with_reducible refine w_int1 ?_
  | with_reducible refine w_int1b ?_
  | with_reducible refine w_call ?_
  | with_reducible refine w_ifs ?_
  | with_reducible refine w_test ?_
  | with_reducible refine w_k ?_
  | with_reducible refine w_ret ?_
  | with_reducible refine w_drop ?_
  | with_reducible refine w_not ?_
  | with_reducible refine w_and ?_
  | with_reducible refine w_or ?_
  | with_reducible refine w_andV ?_
  | with_reducible refine w_orV ?_
  | with_reducible refine w_notV ?_
  | with_reducible refine w_if ?_
  | with_reducible refine w_B ?_
  | with_reducible refine w_un ?_
  | with_reducible refine w_U ?_
  | (with_reducible refine w_tup ?_; intro _ _)
  | (with_reducible refine w_lst ?_; intro _ _)
  | with_reducible refine w_dget ?_
  | with_reducible refine w_dput ?_
  | with_reducible refine w_fld ?_
  | with_reducible refine w_meth ?_
  | (with_reducible refine w_make ?_; intro _ _)
  | with_reducible refine w_par ?_
  | with_reducible refine w_par3 ?_
  | with_reducible refine w_two ?_
  | with_reducible refine w_three ?_
  | with_reducible refine w_one ?_
  | with_reducible refine w_chain ?_
  | with_reducible refine w_next ?_
  | with_reducible refine w_brk ?_
  | with_reducible refine w_cont ?_
  | with_reducible refine w_retN ?_
  | with_reducible refine w_gcons ?_
  | with_reducible refine w_gnil ?_
  | ((with_reducible refine w_eq ?_ ?_); exact rfl)
  | ((with_reducible refine w_ne ?_ ?_); exact rfl)
  | with_reducible refine w_part ?_
  | with_reducible refine w_lc ?_
  | with_reducible refine w_yes ?_
  | with_reducible refine w_iTup ?_
  | with_reducible refine w_iList ?_
  | with_reducible refine w_unT ?_
  | with_reducible refine w_unT0 ?_
  | with_reducible refine w_unL ?_
  | with_reducible refine w_unL0 ?_
  | ((with_reducible apply w_gtup); (walk_at "get"); (exact rfl))
  | with_reducible refine w_gfld ?_
  | with_reducible refine w_sfld ?_
  | with_reducible refine w_risi ?_
  | with_reducible refine w_i ?_
  | with_reducible refine w_pnil ?_
  | with_reducible refine w_pcons ?_
  | with_reducible refine w_sl ?_
  | with_reducible refine w_nopart ?_
  | with_reducible refine w_for ?_
  | with_reducible refine w_while ?_
  | with_reducible refine w_irng1 ?_
  | with_reducible refine w_irng2 ?_
  | with_reducible refine And.intro (rfl : V.non = V.non) ?_)
local macro_rules | `(tactic| walk_at "go") => `(tactic| repeat (walk_at "s"))

section
variable {P : Program} {w : World} {K : PySem.W.Frag} {mg : Str → Option Value} {base : Heap}
theorem nrm_zero {v : Int} {t : Nat} : (nrm v t).1 = 0 ↔ v = 0 := by
  have hv := nrm_val t v
  have p : (0 : Int) < 10 ^ (t - (nrm v t).2) := Int.pow_pos (by decide)
  constructor
  · intro h
    rw [h, Int.zero_mul] at hv
    exact hv
  · intro h
    rw [h] at hv
    rw [h]
    rcases Int.mul_eq_zero.mp hv.symm with z | z
    · exact z
    · rw [h] at p
      omega
theorem ok__law_is_quotient_right (T : Tx w K mg) : FnOk P w K mg base CX0 7 T.f__law_is_quotient_right T.fd__law_is_quotient_right ["_law_pen_here", "_law_way"] (fun vs H Q _ => ∃ (d : Addr) (n : Nat) (x : Str), vs = [.ref d, .str x] ∧ Pen H d n ∧ n ≤ 990000 ∧ x ∈ waysL ∧ ∀ H', Pen H' d (n + 60) → Keep H H' → Q (.bl true) H') := by
  refine T.F__law_is_quotient_right.ok sc__law_is_quotient_right (fun vs H Q E h => ?_) (fun cdv A outer s H vs Q E hr h => ?_)
  · obtain ⟨d, n, x, rfl, _⟩ := h
    rfl
  · obtain ⟨d, n, x, rfl, hp, hn, hx, q⟩ := h
    have hr6 : Room 6 _ := hr.mono (by decide)
    refine ⟨_, (pss_cons (ps_par (i := 2) (j := 3) rfl sc__law_is_quotient_right.nd rfl rfl (by decide) rfl rfl (pa_cons (pe_tup (pa_cons (pe_call (ok__law_some_units T) (hr.mono (by decide)) rfl T.g__law_some_units T.F__law_some_units.kp T.b__law_some_units .nil pass0 (pa_cons (pv 0) pa_nil)) (pa_cons (pe_call (ok__law_some_scale T) (hr.mono (by decide)) rfl T.g__law_some_scale T.F__law_some_scale.kp T.b__law_some_scale .nil pass0 (pa_cons (pv 0) pa_nil)) pa_nil))) (pa_cons (pe_tup (pa_cons (pe_call (ok__law_some_units T) (hr.mono (by decide)) rfl T.g__law_some_units T.F__law_some_units.kp T.b__law_some_units .nil pass0 (pa_cons (pv 0) pa_nil)) (pa_cons (pe_call (ok__law_some_scale T) (hr.mono (by decide)) rfl T.g__law_some_scale T.F__law_some_scale.kp T.b__law_some_scale .nil pass0 (pa_cons (pv 0) pa_nil)) pa_nil))) pa_nil)) rfl)
      (pss_cons (ps_set (i := 4) sc__law_is_quotient_right.nd rfl (Or.inl rfl) (pe_call (ok__law_some_scale T) (hr.mono (by decide)) rfl T.g__law_some_scale T.F__law_some_scale.kp T.b__law_some_scale .nil pass0 (pa_cons (pv 0) pa_nil)))
      (pss_cons (ps_par (i := 5) (j := 6) rfl sc__law_is_quotient_right.nd rfl rfl (by decide) rfl rfl (pa_cons (pe_make T.M_Worth (ok_Worth___init__ T) (hr.mono (by decide)) rfl T.gC_Worth T.b_Worth___init__ .nil pass0 (pa_cons (pe_ix ix_tup (pv 2) pe_int (fun _ _ => rfl)) (pa_cons (pe_ix ix_tup (pv 2) pe_int (fun _ _ => rfl)) pa_nil))) (pa_cons (pe_make T.M_Worth (ok_Worth___init__ T) (hr.mono (by decide)) rfl T.gC_Worth T.b_Worth___init__ .nil pass0 (pa_cons (pe_ix ix_tup (pv 3) pe_int (fun _ _ => rfl)) (pa_cons (pe_ix ix_tup (pv 3) pe_int (fun _ _ => rfl)) pa_nil))) pa_nil)) rfl)
      (pss_cons (ps_if (pt_cmpR op_eq (pe_ix ix_tup (pv 3) pe_int (fun _ _ => rfl)) pe_int (nomark _)) (pss_cons (ps_try_only (tb := fun W => tDrop (tCallS (sp_quot T.C_Worth T.C_NoDivisor) (WE W) (tCons (tVar 5) (tCons (tVar 6) (tCons (tVar 4) (tCons (tVar 1) tNil)))))) (ts := fun _ _ _ => tRet (tC (.bl true))) (Wout := fun _ _ _ _ => False) rfl rfl ⟨rfl, by decide, Or.inl T.gC_NoDivisor⟩ takes0 (fun W pn xe tk _ => pss_one (ps_expr (pe_callS (ok_rounded_quotient T) hr6 rfl T.g_rounded_quotient T.F_rounded_quotient.kp T.b_rounded_quotient (fun σ => passAt tk σ) (by exact (pa_cons (pv 5) (pa_cons (pv 6) (pa_cons (pv 4) (pa_cons (pv 1) pa_nil)))))))) (fun _ _ _ _ _ _ _ => pss_one (ps_ret pe_bl)))
      (pss_one (ps_ret pe_bl))) pss_nil)
      (pss_cons (ps_par (i := 7) (j := 8) rfl sc__law_is_quotient_right.nd rfl rfl (by decide) rfl rfl (pa_cons (pe_op op_mulA (pe_ix ix_tup (pv 2) pe_int (fun _ _ => rfl)) (pe_call (ok__law_ten T) (hr.mono (by decide)) rfl T.g__law_ten T.F__law_ten.kp T.b__law_ten .nil pass0 (pa_cons (pe_op op_add (pe_ix ix_tup (pv 3) pe_int (fun _ _ => rfl)) (pv 4)) pa_nil))) (pa_cons (pe_op op_mulA (pe_ix ix_tup (pv 3) pe_int (fun _ _ => rfl)) (pe_call (ok__law_ten T) (hr.mono (by decide)) rfl T.g__law_ten T.F__law_ten.kp T.b__law_ten .nil pass0 (pa_cons (pe_ix ix_tup (pv 2) pe_int (fun _ _ => rfl)) pa_nil))) pa_nil)) rfl)
      (pss_cons (ps_set (i := 9) sc__law_is_quotient_right.nd rfl (Or.inl rfl) (pe_ifExp (pt_cmpR op_gt (pv 8) pe_int (nomark _)) (pe_call (ok__law_near T) (hr.mono (by decide)) rfl T.g__law_near T.F__law_near.kp T.b__law_near .nil pass0 (pa_cons (pv 7) (pa_cons (pv 8) (pa_cons (pv 1) pa_nil)))) (pe_call (ok__law_near T) (hr.mono (by decide)) rfl T.g__law_near T.F__law_near.kp T.b__law_near .nil pass0 (pa_cons (pe_un un_neg (pv 7)) (pa_cons (pe_un un_neg (pv 8)) (pa_cons (pv 1) pa_nil))))))
      (pss_one (ps_ret (pe_call (ok__law_is_worth T) (hr.mono (by decide)) rfl T.g__law_is_worth T.F__law_is_worth.kp T.b__law_is_worth .nil pass0 (pa_cons (pe_call (ok_rounded_quotient T) (hr.mono (by decide)) rfl T.g_rounded_quotient T.F_rounded_quotient.kp T.b_rounded_quotient .nil passL (pa_cons (pv 5) (pa_cons (pv 6) (pa_cons (pv 4) (pa_cons (pv 1) pa_nil))))) (pa_cons (pv 9) (pa_cons (pv 4) pa_nil)))))))))))), ?_⟩
    walk_at "go"
    refine ⟨d, _, rfl, hp, by omega, fun u1 H1 hu1 p1 k1 => ?_⟩
    walk_at "go"
    refine ⟨d, _, rfl, p1, by omega, fun a1 H2 ha1 p2 k2 => ?_⟩
    walk_at "go"
    refine w_new (by assumption) (Nat.le_of_ble_eq_true rfl) (fun l1 H3 n3 s3 e3 => ?_)
    walk_at "go"
    refine ⟨d, _, rfl, p2.same s3, by omega, fun u2 H4 hu2 p4 k4 => ?_⟩
    walk_at "go"
    refine ⟨d, _, rfl, p4, by omega, fun a2 H5 ha2 p5 k5 => ?_⟩
    walk_at "go"
    refine w_new (by assumption) (Nat.le_of_ble_eq_true rfl) (fun l2 H6 n6 s6 e6 => ?_)
    walk_at "go"
    refine ⟨d, _, rfl, p5.same s6, by omega, fun to H7 hto p7 k7 => ?_⟩
    have K7 : Keep H H7 := ((((k1.trans k2).same s3).trans k4).trans k5).same s6 |>.trans k7
    have e3' : H7 l1 = some (.tup [.int u1, .int a1]) := k7 _ _ (s6 _ _ (k5 _ _ (k4 _ _ e3 rfl) rfl)) rfl
    have e6' : H7 l2 = some (.tup [.int u2, .int a2]) := k7 _ _ e6 rfl
    clear p1 p2 p4 p5 k1 k2 k4 k5 k7 s3 s6 e3 e6
    walk_at "go"
    refine w_ixT e3' rfl ?_
    walk_at "go"
    refine w_ixT e3' rfl ?_
    walk_at "go"
    refine make_worth (by assumption) (fun pw H8 n8 s8 hW => ?_)
    walk_at "go"
    refine w_ixT (s8 _ _ e6') rfl ?_
    walk_at "go"
    refine w_ixT (s8 _ _ e6') rfl ?_
    walk_at "go"
    refine make_worth (by assumption) (fun pv H9 n9 s9 hV => ?_)
    have S9 : Same H7 H9 := s8.trans s9
    have hW9 := hW.same s9
    clear hW s8 s9
    have e3'' := S9 _ _ e3'
    have e6'' := S9 _ _ e6'
    have p9 := p7.same S9
    walk_at "go"
    refine w_ixT e6'' rfl ?_
    walk_at "go"
    refine w_ite (fun h0 => ?_) (fun h0 => ?_)
    all_goals rw [V_int] at h0
    · walk_at "go"
      show tCons _ _ _ _ _
      walk_at "go"
      refine ⟨pw, pv, u1, u2, a1, a2, to, x, rfl, hW9, hV, hx, by omega, by omega, by omega, pow_wide hu1 (by decide), pow_wide hu2 (by decide), fun _ H10 s10 => ?_, fun hz => absurd (nrm_zero.mpr h0) hz⟩
      refine ⟨true, T.eND, fun _ a na => ?_, fun z => by cases z⟩
      walk_at "go"
      exact q H10 ((p9.same s10).mono (by omega)) ((K7.same S9).same s10)
    walk_at "go"
    refine w_ixT e3'' rfl ?_
    walk_at "go"
    refine w_ixT e6'' rfl ?_
    walk_at "go"
    refine ⟨a2 + to, by simp, by omega, fun H10 s10 => ?_⟩
    have c1 : CMulA u1 (10 ^ (a2 + to)) := CMulA.w hu1 (pow_wide (ten_lt _) (show 4 * (a2 + to) + 1 ≤ 801 by omega)) (by decide)
    have n1 : (u1 * 10 ^ (a2 + to)).natAbs < 2 ^ (300 + 801) := wide_lt hu1 (pow_wide (ten_lt _) (show 4 * (a2 + to) + 1 ≤ 801 by omega))
    have n1' := pow_wide n1 (show 300 + 801 ≤ 5000 by decide)
    walk_at "go"
    refine w_ixT (s10 _ _ e6'') rfl ?_
    walk_at "go"
    refine w_ixT (s10 _ _ e3'') rfl ?_
    walk_at "go"
    refine ⟨a1, rfl, by omega, fun H11 s11 => ?_⟩
    have c2 : CMulA u2 (10 ^ a1) := CMulA.w hu2 (pow_wide (ten_lt _) (show 4 * a1 + 1 ≤ 801 by omega)) (by decide)
    have n2 : (u2 * 10 ^ a1).natAbs < 2 ^ (300 + 801) := wide_lt hu2 (pow_wide (ten_lt _) (show 4 * a1 + 1 ≤ 801 by omega))
    have n2' := pow_wide n2 (show 300 + 801 ≤ 5000 by decide)
    have pa1 : (0 : Int) < 10 ^ a1 := Int.pow_pos (by decide)
    have hne : ¬ u2 * 10 ^ a1 = 0 := fun e => by
      rcases Int.mul_eq_zero.mp e with e | e
      · exact h0 e
      · omega
    have hq := quo_near (U := u1) (V := u2) (s := a1) (t := a2) (a := to) hx h0
    have S11 : Same H7 H11 := (S9.trans s10).trans s11
    have hW11 := (hW9.same s10).same s11
    have hV11 := (hV.same s10).same s11
    have b1 := pow_wide hu1 (show 300 ≤ 1000 by decide)
    have b2 := pow_wide hu2 (show 300 ≤ 1000 by decide)
    clear hu1 hu2 n1 n2 s10 s11
    walk_at "go"
    have tail : ∀ (due : Int) (H12 : Hp), due = quoF u1 u2 a1 a2 to x → Same H11 H12 → ∀ r H13, Same H12 H13 → WAt T.C_Worth H13 r (quoF u1 u2 a1 a2 to x) to → True := fun _ _ _ _ _ _ _ _ => trivial
    generalize hA : u1 * 10 ^ (a2 + to) = top at *
    generalize hB : u2 * 10 ^ a1 = low at *
    refine w_ite (fun h1 => ?_) (fun h1 => ?_)
    · rw [if_pos h1] at hq
      walk_at "go"
      refine ⟨top, low, x, rfl, hx, h1, n1', n2', fun H12 s12 => ?_⟩
      walk_at "go"
      refine ⟨pw, pv, u1, u2, a1, a2, to, x, rfl, hW11.same s12, hV11.same s12, hx, by omega, by omega, by omega, b1, b2, fun z => absurd (nrm_zero.mp z) h0, fun _ r H13 s13 hR => ?_⟩
      walk_at "go"
      refine ⟨r, _, _, to, to, rfl, hR, by rw [hq], by omega, fun H14 s14 => ?_⟩
      exact q H14 ((((p7.same S11).same s12).same s13).same s14 |>.mono (by omega)) ((((K7.same S11).same s12).same s13).same s14)
    · rw [if_neg h1] at hq
      walk_at "go"
      refine ⟨-top, -low, x, rfl, hx, by omega, by rw [Int.natAbs_neg]; exact n1', by rw [Int.natAbs_neg]; exact n2', fun H12 s12 => ?_⟩
      walk_at "go"
      refine ⟨pw, pv, u1, u2, a1, a2, to, x, rfl, hW11.same s12, hV11.same s12, hx, by omega, by omega, by omega, b1, b2, fun z => absurd (nrm_zero.mp z) h0, fun _ r H13 s13 hR => ?_⟩
      walk_at "go"
      refine ⟨r, _, _, to, to, rfl, hR, by rw [hq], by omega, fun H14 s14 => ?_⟩
      exact q H14 ((((p7.same S11).same s12).same s13).same s14 |>.mono (by omega)) ((((K7.same S11).same s12).same s13).same s14)
end
end K04
namespace K04
open PySem L2 DS
set_option pp.maxSteps 1200
local macro_rules | `(tactic| walk_at "c") => `(tactic| first
  | (dsimp only; omega)
  | omega
  | (show CMulA _ _; first | exact CMulA.s1 (by omega) (by omega) | exact CMulA.s2 (by omega) (by omega))
  | (show CDivW _ _; first | exact ⟨by omega, by assumption⟩ | exact ⟨by omega, by decide⟩)
  | (show CPow _ _; exact ⟨by decide, by decide, by decide⟩)
  | assumption)
local macro_rules | `(tactic| walk_at "get") => `(tactic| first
  | assumption
  | (refine (by assumption : Same _ _) _ _ ?_; walk_at "get")
  | (refine (by assumption : Keep _ _) _ _ ?_ rfl; walk_at "get"))
local macro_rules | `(tactic| walk_at "pen") => `(tactic| first
  | assumption
  | (refine Pen.same (by assumption) ?_; walk_at "pen")
  | (refine Pen.mono ?_ (by omega); assumption))
local macro_rules | `(tactic| walk_at "keep") => `(tactic| first
  | assumption
  | exact Keep.refl _
  | exact Keep.of (by assumption)
  | (refine Keep.trans ?_ (by assumption); walk_at "keep")
  | (refine Keep.same ?_ (by assumption); walk_at "keep"))
local macro_rules | `(tactic| walk_at "same") => `(tactic| first
  | assumption
  | exact Same.refl _
  | (refine Same.trans ?_ (by assumption); walk_at "same"))
local macro_rules | `(tactic| walk_at "s") => `(tactic| first
  | with_reducible refine w_seq ?_
  | with_reducible refine w_asg ?_
  | with_reducible refine w_name ?_
  | ((with_reducible apply w_var); exact rfl)
  | with_reducible refine w_c ?_
  | with_reducible refine w_op ?_
  | with_reducible refine w_I0 ?_
  | ((with_reducible apply w_I); (walk_at "c"))
  | with_reducible refine w_cons ?_
  | with_reducible refine w_nil ?_
  | with_reducible refine w_cb ?_
  | with_reducible refine w_int1 ?_
  | with_reducible refine w_int1b ?_
  | with_reducible refine w_call ?_
  | with_reducible refine w_ifs ?_
  | with_reducible refine w_test ?_
  | with_reducible refine w_k ?_
  | with_reducible refine w_ret ?_
  | with_reducible refine w_drop ?_
  | with_reducible refine w_not ?_
  | with_reducible refine w_and ?_
  | with_reducible refine w_or ?_
  | with_reducible refine w_andV ?_
  | with_reducible refine w_orV ?_
  | with_reducible refine w_notV ?_
  | with_reducible refine w_if ?_
  | with_reducible refine w_B ?_
  | with_reducible refine w_un ?_
  | with_reducible refine w_U ?_
  | (with_reducible refine w_tup ?_; intro _ _)
  | (with_reducible refine w_lst ?_; intro _ _)
  | with_reducible refine w_dget ?_
  | with_reducible refine w_dput ?_
  | with_reducible refine w_fld ?_
  | with_reducible refine w_meth ?_
  | (with_reducible refine w_make ?_; intro _ _)
  | with_reducible refine w_par ?_
  | with_reducible refine w_par3 ?_
  | with_reducible refine w_two ?_
  | with_reducible refine w_three ?_
  | with_reducible refine w_one ?_
  | with_reducible refine w_chain ?_
  | with_reducible refine w_next ?_
  | with_reducible refine w_brk ?_
  | with_reducible refine w_cont ?_
  | with_reducible refine w_retN ?_
  | with_reducible refine w_gcons ?_
  | with_reducible refine w_gnil ?_
  | ((with_reducible refine w_eq ?_ ?_); exact rfl)
  | ((with_reducible refine w_ne ?_ ?_); exact rfl)
  | with_reducible refine w_part ?_
  | with_reducible refine w_lc ?_
  | with_reducible refine w_yes ?_
  | with_reducible refine w_iTup ?_
  | with_reducible refine w_iList ?_
  | with_reducible refine w_unT ?_
  | with_reducible refine w_unT0 ?_
  | with_reducible refine w_unL ?_
  | with_reducible refine w_unL0 ?_
  | ((with_reducible apply w_gtup); (walk_at "get"); (exact rfl))
  | with_reducible refine w_gfld ?_
  | with_reducible refine w_sfld ?_
  | with_reducible refine w_risi ?_
  | with_reducible refine w_i ?_
  | with_reducible refine w_pnil ?_
  | with_reducible refine w_pcons ?_
  | with_reducible refine w_sl ?_
  | with_reducible refine w_nopart ?_
  | with_reducible refine w_for ?_
  | with_reducible refine w_while ?_
  | with_reducible refine w_irng1 ?_
  | with_reducible refine w_irng2 ?_
  | with_reducible refine And.intro (rfl : V.non = V.non) ?_)
local macro_rules | `(tactic| walk_at "go") => `(tactic| repeat (walk_at "s"))

local macro_rules | `(tactic| walk_at "s2") => `(tactic| first
  | with_reducible refine w_seq ?_
  | with_reducible refine w_asg ?_
  | with_reducible refine w_name ?_
  | ((with_reducible apply w_var); exact rfl)
  | with_reducible refine w_c ?_
  | with_reducible refine w_op ?_
  | with_reducible refine w_I0 ?_
  | ((with_reducible apply w_I); (walk_at "c"))
  | with_reducible refine w_cons ?_
  | with_reducible refine w_nil ?_
  | with_reducible refine w_cb ?_
  | with_reducible refine w_int1 ?_
  | with_reducible refine w_int1b ?_
  | with_reducible refine w_call ?_
  | with_reducible refine w_test ?_
  | with_reducible refine w_k ?_
  | with_reducible refine w_ret ?_
  | with_reducible refine w_drop ?_
  | with_reducible refine w_not ?_
  | with_reducible refine w_and ?_
  | with_reducible refine w_or ?_
  | with_reducible refine w_andV ?_
  | with_reducible refine w_orV ?_
  | with_reducible refine w_notV ?_
  | with_reducible refine w_if ?_
  | with_reducible refine w_B ?_
  | with_reducible refine w_un ?_
  | with_reducible refine w_U ?_
  | (with_reducible refine w_tup ?_; intro _ _)
  | (with_reducible refine w_lst ?_; intro _ _)
  | with_reducible refine w_dget ?_
  | with_reducible refine w_dput ?_
  | with_reducible refine w_fld ?_
  | with_reducible refine w_meth ?_
  | (with_reducible refine w_make ?_; intro _ _)
  | with_reducible refine w_par ?_
  | with_reducible refine w_par3 ?_
  | with_reducible refine w_two ?_
  | with_reducible refine w_three ?_
  | with_reducible refine w_one ?_
  | with_reducible refine w_chain ?_
  | with_reducible refine w_next ?_
  | with_reducible refine w_brk ?_
  | with_reducible refine w_cont ?_
  | with_reducible refine w_retN ?_
  | with_reducible refine w_gcons ?_
  | with_reducible refine w_gnil ?_
  | ((with_reducible refine w_eq ?_ ?_); exact rfl)
  | ((with_reducible refine w_ne ?_ ?_); exact rfl)
  | with_reducible refine w_part ?_
  | with_reducible refine w_lc ?_
  | with_reducible refine w_yes ?_
  | with_reducible refine w_iTup ?_
  | with_reducible refine w_iList ?_
  | with_reducible refine w_unT ?_
  | with_reducible refine w_unT0 ?_
  | with_reducible refine w_unL ?_
  | with_reducible refine w_unL0 ?_
  | ((with_reducible apply w_gtup); (walk_at "get"); (exact rfl))
  | with_reducible refine w_gfld ?_
  | with_reducible refine w_sfld ?_
  | with_reducible refine w_risi ?_
  | with_reducible refine w_i ?_
  | with_reducible refine w_pnil ?_
  | with_reducible refine w_pcons ?_
  | with_reducible refine w_sl ?_
  | with_reducible refine w_nopart ?_
  | with_reducible refine w_for ?_
  | with_reducible refine w_while ?_
  | with_reducible refine w_irng1 ?_
  | with_reducible refine w_irng2 ?_
  | with_reducible refine And.intro (rfl : V.non = V.non) ?_)
local macro_rules | `(tactic| walk_at "gi") => `(tactic| repeat (walk_at "s2"))
section
variable {P : Program} {w : World} {K : PySem.W.Frag} {mg : Str → Option Value} {base : Heap}
theorem w_ifF {c : TT} {t u : TS} {D : Ends} {σ : St} {H : Hp} (N : Hp → Prop) (h1 : ∀ R : Bool → Hp → Prop, (∀ H', N H' → R false H') → c σ H R) (h2 : ∀ H', N H' → u D σ H') : tIfS c t u D σ H := h1 _ (fun H' n => iteF (h2 H' n))
theorem R_ne {x : V} {H : Hp} {R : Bool → Hp → Prop} (h : R false H) : R (!decide (x = x)) H := by
  rw [decide_eq_true rfl]
  exact h
theorem R_no {p : Prop} [Decidable p] {H : Hp} {R : Bool → Hp → Prop} (hp : ¬ p) (h : R false H) : R (decide p) H := by
  rw [decide_eq_false hp]
  exact h
/-- a width, hidden from omega -/
def Wd (u : Int) (b : Nat) : Prop := u.natAbs < 2 ^ b
theorem near_or (n d : Int) (x : Str) : nearF n d x = n / d ∨ nearF n d x = n / d + 1 := by
  unfold nearF pick4 pick5 innF outF
  (repeat' split) <;> first | exact .inl rfl | exact .inr rfl
theorem rnd_abs {U : Int} {s a b : Nat} {x : Str} (h : U.natAbs < 2 ^ b) : (rndF U s a x).natAbs < 2 ^ (b + (4 * a + 1)) := by
  unfold rndF
  split
  · exact wide_lt h (pow_wide (ten_lt _) (by omega))
  · have z := Nat.lt_of_le_of_lt (ediv_abs U (10 ^ (s - a))) h
    have e : (2 : Nat) ^ (b + 1) = 2 * 2 ^ b := by rw [Nat.pow_succ, Nat.mul_comm]
    refine Nat.lt_of_lt_of_le ?_ (Nat.pow_le_pow_right (by decide) (show b + 1 ≤ b + (4 * a + 1) by omega))
    rw [e]
    clear h
    have := near_or U (10 ^ (s - a)) x
    generalize (2 : Nat) ^ b = B at *
    generalize nearF U (10 ^ (s - a)) x = N at *
    generalize U / 10 ^ (s - a) = q at *
    omega
theorem sg_nonneg {a b : Int} {t : Nat} (h : b ≤ a) : ¬ sgF (a * 10 ^ (max t t - t) + -1 * (b * 10 ^ (max t t - t))) < 0 := by
  rw [Nat.max_self, Nat.sub_self, Int.pow_zero, Int.mul_one, Int.mul_one]
  unfold sgF
  (repeat' split) <;> omega
theorem dp_strs {K : PySem.W.Frag} {H : Hp} : ∀ ns : List Str, DpAll K H (ns.map V.str) (ns.map PyData.str)
  | [] => .nil
  | n :: r => .cons (.str n) (dp_strs r)
theorem w_neWays {H : Hp} {Q : VK} {p q : Addr} (hp : SqT K H p (waysL.map V.str)) (hq : SqT K H q (waysL.map V.str)) (h : Q (.bl false) H) : rNeD K (.ref p) (.ref q) H Q :=
  ⟨.tuple (waysL.map PyData.str), .tuple (waysL.map PyData.str), .tup hp (dp_strs _), .tup hq (dp_strs _), by decide +kernel, by decide +kernel, by
    have e : PyData.eqv (.tuple (waysL.map PyData.str)) (.tuple (waysL.map PyData.str)) = true := by decide +kernel
    rw [e]
    exact h⟩
def spLaw (K : PySem.W.Frag) : Sp := fun vs H Q _ => ∃ (a : Addr) (ns : List Int), vs = [.ref a] ∧ SqL K H a (ns.map V.int) ∧ ns.length ≤ 63 ∧ ∀ H', Q (.bl true) H'
set_option maxHeartbeats 0 in
theorem ok_law (T : Tx w K mg) : FnOk P w K mg base CX0 8 T.f_law T.fd_law ["_law_script"] (spLaw K) := by
  refine T.F_law.ok sc_law (fun vs H Q E h => ?_) (fun cdv A outer s H vs Q E hr h => ?_)
  · obtain ⟨a, ns, rfl, _⟩ := h
    rfl
  · obtain ⟨a, ns, rfl, hS, hl, q⟩ := h
    have hu := hu_of hr
    have hu64 := hu64_of hr
    refine ⟨_, (pss_cons (ps_set (i := 1) sc_law.nd rfl (Or.inl rfl) (pe_call (ok__law_pen T) (hr.mono (by decide)) rfl T.g__law_pen T.F__law_pen.kp T.b__law_pen .nil pass0 (pa_cons (pv 0) pa_nil)))
      (pss_cons (ps_if (pt_cmpR (op_neD hu64) (pe_glob (v := .ref T.a_WAYS) rfl T.gv_WAYS rfl) (pe_callTy call_tuple_of (by rfl) T.z_tuple (by decide +kernel) (pa_cons (pe_call0 (ok__law_ways T) (hr.mono (by decide)) rfl T.g__law_ways T.F__law_ways.kp T.b__law_ways .nil pass0) pa_nil)) (nomark _)) (pss_one (ps_ret pe_bl)) pss_nil)
      (pss_cons (ps_for PassesOwn.never rfl (pi_range1 (by rfl) T.z_range (pa_cons (pe_op op_add pe_int (pe_callB (call_min2 rfl) (by rfl) T.z_min (by decide +kernel) (pa_cons pe_int (pa_cons (pe_callB call_len_seq (by rfl) T.z_len PySem.boot_len (pa_cons (pv 0) pa_nil)) pa_nil)))) pa_nil)) (pg_name (i := 2) sc_law.nd rfl (Or.inl rfl))
      (pss_cons (ps_par (i := 3) (j := 4) rfl sc_law.nd rfl rfl (by decide) rfl rfl (pa_cons (pe_call (ok__law_pick T) (hr.mono (by decide)) rfl T.g__law_pick T.F__law_pick.kp T.b__law_pick .nil pass0 (pa_cons (pv 1) (pa_cons (pe_call0 (ok__law_ways T) (hr.mono (by decide)) rfl T.g__law_ways T.F__law_ways.kp T.b__law_ways .nil pass0) pa_nil))) (pa_cons (pe_call (ok__law_some_units T) (hr.mono (by decide)) rfl T.g__law_some_units T.F__law_some_units.kp T.b__law_some_units .nil pass0 (pa_cons (pv 1) pa_nil)) pa_nil)) rfl)
      (pss_cons (ps_set (i := 5) sc_law.nd rfl (Or.inl rfl) (pe_op op_add pe_int (pe_call (ok__law_pick T) (hr.mono (by decide)) rfl T.g__law_pick T.F__law_pick.kp T.b__law_pick .nil pass0 (pa_cons (pv 1) (pa_cons (pe_lst (pa_cons pe_int (pa_cons pe_int (pa_cons pe_int (pa_cons (pe_call (ok__law_draw T) (hr.mono (by decide)) rfl T.g__law_draw T.F__law_draw.kp T.b__law_draw .nil pass0 (pa_cons (pv 1) (pa_cons pe_int pa_nil))) (pa_cons (pe_call (ok__law_draw T) (hr.mono (by decide)) rfl T.g__law_draw T.F__law_draw.kp T.b__law_draw .nil pass0 (pa_cons (pv 1) (pa_cons (pe_op op_pow pe_int pe_int) pa_nil))) pa_nil)))))) pa_nil)))))
      (pss_cons (ps_set (i := 4) sc_law.nd rfl (Or.inl rfl) (pe_call (ok__law_pick T) (hr.mono (by decide)) rfl T.g__law_pick T.F__law_pick.kp T.b__law_pick .nil pass0 (pa_cons (pv 1) (pa_cons (pe_lst (pa_cons (pv 4) (pa_cons (pe_op op_fdivW (pe_op op_mulA (pe_op op_add (pe_op op_mulA pe_int (pe_call (ok__law_draw T) (hr.mono (by decide)) rfl T.g__law_draw T.F__law_draw.kp T.b__law_draw .nil pass0 (pa_cons (pv 1) (pa_cons pe_int pa_nil)))) pe_int) (pv 5)) pe_int) pa_nil))) pa_nil))))
      (pss_cons (ps_set (i := 6) sc_law.nd rfl (Or.inl rfl) (pe_call (ok__law_near T) (hr.mono (by decide)) rfl T.g__law_near T.F__law_near.kp T.b__law_near .nil pass0 (pa_cons (pv 4) (pa_cons (pv 5) (pa_cons (pv 3) pa_nil)))))
      (pss_cons (ps_if (PW.pt (pw_or (pt_cmpR op_ne (pe_call (ok_divided T) (hr.mono (by decide)) rfl T.g_divided T.F_divided.kp T.b_divided .nil pass0 (pa_cons (pv 4) (pa_cons (pv 5) (pa_cons (pv 3) pa_nil)))) (pv 6) (nomark _)) (pw_or1 (pt_cmpR op_ne (pe_call (ok_divided T) (hr.mono (by decide)) rfl T.g_divided T.F_divided.kp T.b_divided .nil pass0 (pa_cons (pe_un un_neg (pv 4)) (pa_cons (pv 5) (pa_cons (pe_call (ok_mirrored T) (hr.mono (by decide)) rfl T.g_mirrored T.F_mirrored.kp T.b_mirrored .nil pass0 (pa_cons (pv 3) pa_nil)) pa_nil)))) (pe_un un_neg (pv 6)) (nomark _))))) (pss_one (ps_ret pe_bl)) pss_nil)
      (pss_cons (ps_if (PW.pt (pw_or (pt_cmpR op_ne (pe_call (ok_mirrored T) (hr.mono (by decide)) rfl T.g_mirrored T.F_mirrored.kp T.b_mirrored .nil pass0 (pa_cons (pv 3) pa_nil)) (pe_call (ok__law_mirror T) (hr.mono (by decide)) rfl T.g__law_mirror T.F__law_mirror.kp T.b__law_mirror .nil pass0 (pa_cons (pv 3) pa_nil)) (nomark _)) (pw_or1 (pt_cmpR op_lt (pe_call (ok_divided T) (hr.mono (by decide)) rfl T.g_divided T.F_divided.kp T.b_divided .nil pass0 (pa_cons (pe_op op_add (pv 4) (pe_call (ok__law_draw T) (hr.mono (by decide)) rfl T.g__law_draw T.F__law_draw.kp T.b__law_draw .nil pass0 (pa_cons (pv 1) (pa_cons pe_int pa_nil)))) (pa_cons (pv 5) (pa_cons (pv 3) pa_nil)))) (pv 6) (nomark _))))) (pss_one (ps_ret pe_bl)) pss_nil)
      (pss_cons (ps_par (i := 7) (j := 8) rfl sc_law.nd rfl rfl (by decide) rfl rfl (pa_cons (pe_call (ok__law_some_units T) (hr.mono (by decide)) rfl T.g__law_some_units T.F__law_some_units.kp T.b__law_some_units .nil pass0 (pa_cons (pv 1) pa_nil)) (pa_cons (pe_call (ok__law_some_scale T) (hr.mono (by decide)) rfl T.g__law_some_scale T.F__law_some_scale.kp T.b__law_some_scale .nil pass0 (pa_cons (pv 1) pa_nil)) pa_nil)) rfl)
      (pss_cons (ps_set (i := 9) sc_law.nd rfl (Or.inl rfl) (pe_call (ok__law_some_scale T) (hr.mono (by decide)) rfl T.g__law_some_scale T.F__law_some_scale.kp T.b__law_some_scale .nil pass0 (pa_cons (pv 1) pa_nil)))
      (pss_cons (ps_set (i := 10) sc_law.nd rfl (Or.inl rfl) (pe_make T.M_Worth (ok_Worth___init__ T) (hr.mono (by decide)) rfl T.gC_Worth T.b_Worth___init__ .nil pass0 (pa_cons (pv 7) (pa_cons (pv 8) pa_nil))))
      (pss_cons (ps_par (i := 11) (j := 12) rfl sc_law.nd rfl rfl (by decide) rfl rfl (pa_cons (pe_call (ok__law_rounded T) (hr.mono (by decide)) rfl T.g__law_rounded T.F__law_rounded.kp T.b__law_rounded .nil pass0 (pa_cons (pv 7) (pa_cons (pv 8) (pa_cons (pv 9) (pa_cons (pv 3) pa_nil))))) (pa_cons (pe_call (ok_rounded2 T) (hr.mono (by decide)) rfl T.g_rounded T.F_rounded.kp T.b_rounded .nil pass0 (pa_cons (pv 10) (pa_cons (pv 9) (pa_cons (pv 3) pa_nil)))) pa_nil)) rfl)
      (pss_cons (ps_if (PW.pt (pw_or (pt_not (pt_val (pe_call (ok__law_is_worth T) (hr.mono (by decide)) rfl T.g__law_is_worth T.F__law_is_worth.kp T.b__law_is_worth .nil pass0 (pa_cons (pv 12) (pa_cons (pv 11) (pa_cons (pv 9) pa_nil)))))) (pw_or1 (pt_cmpR op_lt (pe_call (ok_compare T) (hr.mono (by decide)) rfl T.g_compare T.F_compare.kp T.b_compare .nil pass0 (pa_cons (pe_call (ok_rounded2 T) (hr.mono (by decide)) rfl T.g_rounded T.F_rounded.kp T.b_rounded .nil pass0 (pa_cons (pe_op (op_binII T.m_Worth___add__ rfl T.sfW (ok_Worth___add__ T) (hr.mono (by decide)) T.b_Worth___add__ pass0) (pv 10) (pe_make T.M_Worth (ok_Worth___init__ T) (hr.mono (by decide)) rfl T.gC_Worth T.b_Worth___init__ .nil pass0 (pa_cons pe_int (pa_cons pe_int pa_nil)))) (pa_cons (pv 9) (pa_cons (pv 3) pa_nil)))) (pa_cons (pv 12) pa_nil))) pe_int (nomark _))))) (pss_one (ps_ret pe_bl)) pss_nil)
      (pss_cons (ps_par (i := 13) (j := 14) rfl sc_law.nd rfl rfl (by decide) rfl rfl (pa_cons (pe_call (ok__law_ten T) (hr.mono (by decide)) rfl T.g__law_ten T.F__law_ten.kp T.b__law_ten .nil pass0 (pa_cons (pe_callB (call_max2 rfl) (by rfl) T.z_max (by decide +kernel) (pa_cons pe_int (pa_cons (pe_op op_sub (pv 8) (pv 9)) pa_nil))) pa_nil)) (pa_cons (pe_op op_sub (pe_call (ok__law_draw T) (hr.mono (by decide)) rfl T.g__law_draw T.F__law_draw.kp T.b__law_draw .nil pass0 (pa_cons (pv 1) (pa_cons pe_int pa_nil))) pe_int) pa_nil)) rfl)
      (pss_cons (ps_set (i := 15) sc_law.nd rfl (Or.inl rfl) (pe_call (ok_rounded2 T) (hr.mono (by decide)) rfl T.g_rounded T.F_rounded.kp T.b_rounded .nil pass0 (pa_cons (pe_op (op_binII T.m_Worth___add__ rfl T.sfW (ok_Worth___add__ T) (hr.mono (by decide)) T.b_Worth___add__ pass0) (pv 10) (pe_make T.M_Worth (ok_Worth___init__ T) (hr.mono (by decide)) rfl T.gC_Worth T.b_Worth___init__ .nil pass0 (pa_cons (pv 14) (pa_cons (pv 9) pa_nil)))) (pa_cons (pv 9) (pa_cons (pv 3) pa_nil)))))
      (pss_cons (ps_if (PW.pt (pw_and (pt_cmpR op_gt (pv 8) (pv 9) (nomark _)) (pw_and (pt_val (pe_call (ok__law_moves T) (hr.mono (by decide)) rfl T.g__law_moves T.F__law_moves.kp T.b__law_moves .nil pass0 (pa_cons (pv 3) (pa_cons (pv 7) (pa_cons (pv 14) (pa_cons (pv 13) pa_nil)))))) (pw_and1 (pt_cmpR (op_neII T.m_Worth___eq__ T.neW T.moW (ok_Worth___eq__ T) (hr.mono (by decide)) T.b_Worth___eq__ pass0) (pv 15) (pe_op (op_binII T.m_Worth___add__ rfl T.sfW (ok_Worth___add__ T) (hr.mono (by decide)) T.b_Worth___add__ pass0) (pv 12) (pe_make T.M_Worth (ok_Worth___init__ T) (hr.mono (by decide)) rfl T.gC_Worth T.b_Worth___init__ .nil pass0 (pa_cons (pv 14) (pa_cons (pv 9) pa_nil)))) (nomark _)))))) (pss_one (ps_ret pe_bl)) pss_nil)
      (pss_cons (ps_set (i := 16) sc_law.nd rfl (Or.inl rfl) (pe_call (ok__law_draw T) (hr.mono (by decide)) rfl T.g__law_draw T.F__law_draw.kp T.b__law_draw .nil pass0 (pa_cons (pv 1) (pa_cons (pe_op op_add (pv 9) pe_int) pa_nil))))
      (pss_cons (ps_if (PW.pt (pw_and (pt_cmpR op_in_seq (pv 3) (pe_lst (pa_cons pe_str (pa_cons pe_str (pa_cons pe_str (pa_cons pe_str pa_nil))))) rfl) (pw_and1 (pt_cmpR (op_neII T.m_Worth___eq__ T.neW T.moW (ok_Worth___eq__ T) (hr.mono (by decide)) T.b_Worth___eq__ pass0) (pe_call (ok_rounded2 T) (hr.mono (by decide)) rfl T.g_rounded T.F_rounded.kp T.b_rounded .nil pass0 (pa_cons (pv 12) (pa_cons (pv 16) (pa_cons (pv 3) pa_nil)))) (pe_call (ok_rounded2 T) (hr.mono (by decide)) rfl T.g_rounded T.F_rounded.kp T.b_rounded .nil pass0 (pa_cons (pv 10) (pa_cons (pv 16) (pa_cons (pv 3) pa_nil)))) (nomark _))))) (pss_one (ps_ret pe_bl)) pss_nil)
      (pss_one (ps_if (pt_not (pt_val (pe_call (ok__law_is_quotient_right T) (hr.mono (by decide)) rfl T.g__law_is_quotient_right T.F__law_is_quotient_right.kp T.b__law_is_quotient_right .nil pass0 (pa_cons (pv 1) (pa_cons (pv 3) pa_nil))))) (pss_one (ps_ret pe_bl)) pss_nil)))))))))))))))))))
      (pss_one (ps_ret pe_bl))))), ?_⟩
    walk_at "go"
    refine ⟨a, ns, rfl, hS, hl, fun d H1 hP s1 => ?_⟩
    walk_at "go"
    refine ⟨rfl, fun l2 H2 n2 s2 e2 => ?_⟩
    walk_at "go"
    refine ⟨l2, _, rfl, .inl ⟨.inl (.inl e2), fun l3 n3 => ?_⟩⟩
    obtain ⟨H3, hH3⟩ : ∃ H3, H3 = upd H2 l3 (.tup (waysL.map V.str)) := ⟨_, rfl⟩
    rw [← hH3]
    have s3 : Same H2 H3 := by rw [hH3]; exact same_upd n3
    have e3 : H3 l3 = some (.tup (waysL.map V.str)) := by rw [hH3]; exact upd_same
    clear hH3
    refine w_neWays (T.sq_WAYS H3) (.inl (.inl e3)) ?_
    walk_at "go"
    refine iteF ?_
    walk_at "go"
    refine ⟨a, _, rfl, .inl (((s1.trans s2).trans s3).seq hS), ?_⟩
    walk_at "go"
    refine ⟨8, _, rfl, ?_⟩
    rw [List.length_map]
    obtain ⟨k, hk, hk2⟩ : ∃ k : Nat, (8 + if (ns.length : Int) < 8 then (ns.length : Int) else 8) = (k : Int) ∧ k ≤ 16 := by
      refine ⟨8 + min ns.length 8, ?_, by omega⟩
      split <;> omega
    walk_at "go"
    rw [hk]
    refine ⟨by omega, by omega, ?_⟩
    have hP3 := (hP.same s2).same s3
    clear hP s1 s2 s3 e2 e3 n2 n3
    refine for_range (fun i σ H' => i ≤ k ∧ Pen H' d (200 * i) ∧ ∃ z2 z3 z4 z5 z6 z7 z8 z9 z10 z11 z12 z13 z14 z15 z16, σ = [some (.ref a), some (.ref d), z2, z3, z4, z5, z6, z7, z8, z9, z10, z11, z12, z13, z14, z15, z16]) ⟨Nat.zero_le _, hP3.mono (by omega), none, none, none, none, none, none, none, none, none, none, none, none, none, none, none, rfl⟩ (fun i σ H2 hi hI => ?_) (fun σ H2 hI => ?_)
    · obtain ⟨hik, hP2, z2, z3, z4, z5, z6, z7, z8, z9, z10, z11, z12, z13, z14, z15, z16, rfl⟩ := hI
      walk_at "gi"
      refine ⟨rfl, fun p3 H3 n3 s3 e3 => ?_⟩
      walk_at "gi"
      refine ⟨d, p3, _, 200 * i, rfl, hP2.same s3, by omega, e3, by decide, by decide, fun v4 H4 m4 p4 k4 => ?_⟩
      obtain ⟨x, hx, rfl⟩ := List.mem_map.mp m4
      walk_at "gi"
      refine ⟨d, _, rfl, p4, by omega, fun N0 H5 hN0 p5 k5 => ?_⟩
      replace hN0 : Wd N0 300 := hN0
      clear k4 k5 p4 s3 e3 m4 hP2 hP3
      walk_at "gi"
      refine ⟨d, 50, _, rfl, p5, by omega, by omega, by decide, fun r6 H6 a6 b6 p6 k6 => ?_⟩
      walk_at "gi"
      refine ⟨d, _, _, rfl, p6, by omega, by decide, by decide, fun r7 H7 a7 b7 p7 k7 => ?_⟩
      walk_at "gi"
      refine w_new (by assumption) (Nat.le_of_ble_eq_true rfl) (fun l8 H8 n8 s8 e8 => ?_)
      walk_at "gi"
      refine ⟨d, l8, _, _, rfl, p7.same s8, by omega, e8, Nat.le_of_ble_eq_true rfl, Nat.le_of_ble_eq_true rfl, fun v9 H9 m9 p9 k9 => ?_⟩
      obtain ⟨D, rfl, hD0, hD⟩ : ∃ D : Int, v9 = .int D ∧ 0 ≤ D ∧ D < 10 ^ (30 : Int).toNat := by
        simp only [List.mem_cons, List.not_mem_nil, or_false] at m9
        rcases m9 with h | h | h | h | h
        · exact ⟨_, h, by decide, by decide⟩
        · exact ⟨_, h, by decide, by decide⟩
        · exact ⟨_, h, by decide, by decide⟩
        · exact ⟨_, h, a6, Int.lt_trans b6 (by decide)⟩
        · exact ⟨_, h, a7, b7⟩
      have hD2 : D + 1 < 2 ^ 100 := by
        have e : (10 : Int) ^ (30 : Int).toNat < 2 ^ 100 := by decide
        generalize (10 : Int) ^ (30 : Int).toNat = B at *
        omega
      clear hD a7 b7 m9 k6 k7 k9 s8 e8 p5 p6 p7
      walk_at "gi"
      refine ⟨d, 9, _, rfl, p9, by omega, by omega, by decide, fun r10 H10 a10 b10 p10 k10 => ?_⟩
      walk_at "gi"
      refine w_new (by assumption) (Nat.le_of_ble_eq_true rfl) (fun l11 H11 n11 s11 e11 => ?_)
      walk_at "gi"
      refine ⟨d, l11, _, _, rfl, p10.same s11, by omega, e11, Nat.le_of_ble_eq_true rfl, Nat.le_of_ble_eq_true rfl, fun v12 H12 m12 p12 k12 => ?_⟩
      have hD1b : (1 + D).natAbs < 2 ^ 101 := by
        have e : (2 : Int) ^ 100 < ((2 ^ 101 : Nat) : Int) := by decide
        generalize (2 : Nat) ^ 101 = B at *
        generalize (2 : Int) ^ 100 = B' at *
        omega
      obtain ⟨N, rfl, hN⟩ : ∃ N : Int, v12 = .int N ∧ N.natAbs < 2 ^ 300 := by
        simp only [List.mem_cons, List.not_mem_nil, or_false] at m12
        rcases m12 with h | h
        · exact ⟨_, h, hN0⟩
        · refine ⟨_, h, ?_⟩
          have g1 : (2 * r10 + 1).natAbs < 2 ^ 5 := by omega
          exact pow_wide (Nat.lt_of_le_of_lt (ediv_abs _ _) (wide_lt g1 hD1b)) (by decide)
      have hD1p : 0 < (1 + D) := by omega
      replace hN : Wd N 300 := hN
      replace hD1b : Wd (1 + D) 101 := hD1b
      clear hN0 m12 k10 k12 s11 e11 p9 p10 hD2
      walk_at "gi"
      refine ⟨N, (1 + D), x, rfl, hx, hD1p, pow_wide hN (by decide), pow_wide hD1b (by decide), fun H13 s13 => ?_⟩
      have p13 := p12.same s13
      walk_at "gi"
      refine w_ifF (fun H' => Pen H' d (200 * i + 60)) (fun R hR => ?_) (fun H15 p15 => ?_)
      · walk_at "gi"
        refine ⟨N, (1 + D), x, rfl, hx, hD1p, pow_wide hN (by decide), fun H14 s14 => ?_⟩
        rw [div_near N (1 + D) hD1p x hx]
        have p14 := p13.same s14
        walk_at "gi"
        refine w_iteN (fun hc => absurd rfl hc) (fun _ => ?_)
        walk_at "gi"
        refine ⟨x, rfl, hx, ?_⟩
        walk_at "gi"
        refine ⟨-N, (1 + D), mirF x, rfl, mir_in x hx, hD1p, by rw [Int.natAbs_neg]; exact pow_wide hN (by decide), fun H15 s15 => ?_⟩
        rw [div_near (-N) (1 + D) hD1p _ (mir_in x hx), near_neg N (1 + D) hD1p x hx]
        walk_at "gi"
        exact R_ne (hR _ ((p14.same s15).mono (by omega)))
      walk_at "gi"
      refine w_ifF (fun H' => Pen H' d (200 * i + 61)) (fun R hR => ?_) (fun H18 p18 => ?_)
      · walk_at "gi"
        refine ⟨x, rfl, hx, ?_⟩
        walk_at "gi"
        refine ⟨x, rfl, hx, fun H16 s16 => ?_⟩
        have p16 := p15.same s16
        walk_at "gi"
        refine w_iteN (fun hc => absurd rfl hc) (fun _ => ?_)
        walk_at "gi"
        refine ⟨d, 100, _, rfl, p16, by omega, by omega, by decide, fun r17 H17 a17 b17 p17 k17 => ?_⟩
        walk_at "gi"
        have hNr : (N + r17).natAbs < 2 ^ 301 := by
          have e2 : (2 : Nat) ^ 301 = 2 ^ 300 * 2 := by rw [← Nat.pow_add 2 300 1]
          have e3 : 128 ≤ (2 : Nat) ^ 300 := Nat.le_trans (show 128 ≤ 2 ^ 7 by decide) (Nat.pow_le_pow_right (by decide) (by decide))
          rw [e2]
          clear hD1b
          have hN' : N.natAbs < 2 ^ 300 := hN
          clear hN
          generalize (2 : Nat) ^ 300 = B at *
          omega
        replace hNr : Wd (N + r17) 301 := hNr
        refine ⟨N + r17, (1 + D), x, rfl, hx, hD1p, pow_wide hNr (by decide), fun H18 s18 => ?_⟩
        rw [div_near _ (1 + D) hD1p x hx]
        have hm := near_mono N (N + r17) (1 + D) hD1p (by omega) x hx
        walk_at "gi"
        exact R_no (by omega) (hR _ ((p17.same s18).mono (by omega)))
      clear hN hD1b p12 p13 p15 s13
      walk_at "gi"
      refine ⟨d, _, rfl, p18, by omega, fun U H19 hU p19 k19 => ?_⟩
      replace hU : Wd U 300 := hU
      walk_at "gi"
      refine ⟨d, _, rfl, p19, by omega, fun b H20 hb p20 k20 => ?_⟩
      walk_at "gi"
      refine ⟨d, _, rfl, p20, by omega, fun t H21 ht p21 k21 => ?_⟩
      walk_at "gi"
      refine make_worth (by assumption) (fun pw H22 n22 s22 hW => ?_)
      have p22 := p21.same s22
      clear p18 p19 p20 p21 k19 k20 k21 s22
      walk_at "gi"
      refine ⟨U, b, t, x, rfl, hx, by omega, by omega, pow_wide hU (by decide), fun H23 s23 => ?_⟩
      walk_at "gi"
      refine ⟨pw, U, b, t, x, rfl, hW.same s23, hx, by omega, pow_wide hU (by decide), fun pr H24 s24 hR => ?_⟩
      have hW24 := (hW.same s23).same s24
      have p24 := (p22.same s23).same s24
      clear p22 hW s23 s24
      have hRb : Wd (rndF U b t x) 1000 := pow_wide (rnd_abs hU) (by omega)
      walk_at "gi"
      refine w_ifF (fun H' => WAt T.C_Worth H' pw U b ∧ WAt T.C_Worth H' pr (rndF U b t x) t ∧ Pen H' d (200 * i + 110)) (fun R h9 => ?_) (fun H29 ⟨hW29, hR29, p29⟩ => ?_)
      · walk_at "gi"
        refine ⟨pr, _, _, t, t, rfl, hR, rfl, by omega, fun H25 s25 => ?_⟩
        walk_at "gi"
        refine iteF ?_
        walk_at "gi"
        refine make_worth (s := 3) (by assumption) (fun pa H26 n26 s26 hA => ?_)
        have hW26 := (hW24.same s25).same s26
        have hR26 := (hR.same s25).same s26
        have p26 := (p24.same s25).same s26
        clear hW24 hR p24 s25 s26
        obtain ⟨dw, hw⟩ := id hW26
        obtain ⟨da, ha⟩ := id hA
        refine ⟨pw, pa, dw, da, _, _, rfl, rfl, hw, ha, pw, pa, U, 1, b, 3, rfl, hW26, hA, by omega, by omega, pow_wide hU (by decide), Nat.lt_of_lt_of_le (show (1 : Int).natAbs < 2 ^ 1 by decide) (Nat.pow_le_pow_right (by decide) (by decide)), fun px H27 s27 hX => ?_⟩
        have up := rnd_up U (max b 3 - b) b t hx
        rw [show b + (max b 3 - b) = max b 3 by omega] at up
        have p103 : (0 : Int) < 1 * 10 ^ (max b 3 - 3) := by rw [Int.one_mul]; exact Int.pow_pos (by decide)
        have mono : rndF U b t x ≤ rndF (U * 10 ^ (max b 3 - b) + 1 * 10 ^ (max b 3 - 3)) (max b 3) t x := by
          rw [← up]
          exact rnd_mono hx (by omega)
        have hS1 : (U * 10 ^ (max b 3 - b) + 1 * 10 ^ (max b 3 - 3)).natAbs < 2 ^ 600 := by
          have g1 : (U * 10 ^ (max b 3 - b)).natAbs < 2 ^ (300 + 200) := wide_lt hU (pow_wide (ten_lt _) (by omega))
          have g2 : (1 * (10 : Int) ^ (max b 3 - 3)).natAbs < 2 ^ (300 + 200) := by rw [Int.one_mul]; exact pow_wide (ten_lt _) (by omega)
          have e2 : (2 : Nat) ^ 600 = 2 ^ (300 + 200) * 2 ^ 100 := by rw [← Nat.pow_add]
          have e3 : 2 ≤ (2 : Nat) ^ 100 := by decide
          have e4 : (2 : Nat) ^ (300 + 200) * 2 ≤ 2 ^ (300 + 200) * 2 ^ 100 := Nat.mul_le_mul_left _ e3
          rw [e2]
          clear hU hRb hX up mono
          generalize (2 : Nat) ^ (300 + 200) = B at *
          generalize (2 : Nat) ^ 100 = B' at *
          generalize B * B' = B'' at *
          generalize (1 : Int) * 10 ^ (max b 3 - 3) = y at *
          generalize U * 10 ^ (max b 3 - b) = z at *
          omega
        generalize U * 10 ^ (max b 3 - b) + 1 * 10 ^ (max b 3 - 3) = S1 at *
        replace hS1 : Wd S1 600 := hS1
        have hW27 := hW26.same s27
        have hR27 := hR26.same s27
        have p27 := p26.same s27
        clear hW26 hR26 p26 s27 hw ha up p103
        walk_at "gi"
        refine ⟨px, S1, max b 3, t, x, rfl, hX, hx, by omega, pow_wide hS1 (by decide), fun py H28 s28 hY => ?_⟩
        have hYb : Wd (rndF S1 (max b 3) t x) 1000 := pow_wide (rnd_abs hS1) (by omega)
        walk_at "gi"
        refine ⟨py, pr, _, _, t, t, rfl, hY, hR27.same s28, by omega, by omega, hYb, hRb, fun H29 s29 => ?_⟩
        have Z : WAt T.C_Worth H29 pw U b ∧ WAt T.C_Worth H29 pr (rndF U b t x) t ∧ Pen H29 d (200 * i + 110) := ⟨(hW27.same s28).same s29, (hR27.same s28).same s29, ((p27.same s28).same s29).mono (by omega)⟩
        walk_at "gi"
        exact R_no (sg_nonneg mono) (h9 _ Z)
      clear hW24 hR p24
      walk_at "gi"
      refine ⟨0, _, rfl, ?_⟩
      walk_at "gi"
      refine ⟨b - t, by simp; split <;> omega, by omega, fun H30 s30 => ?_⟩
      walk_at "gi"
      refine ⟨d, 2000, _, rfl, p29.same s30, by omega, by omega, by decide, fun r31 H31 a31 b31 p31 k31 => ?_⟩
      have hW31 := (hW29.same s30).keep k31
      have hR31 := (hR29.same s30).keep k31
      clear hW29 hR29 p29 s30 k31
      have hmb : (r31 - 1000).natAbs < 2 ^ 10 := by omega
      walk_at "gi"
      refine make_worth (by assumption) (fun pm H32 n32 s32 hM => ?_)
      have hW32 := hW31.same s32
      have hR32 := hR31.same s32
      have p32 := p31.same s32
      clear hW31 hR31 p31 s32
      obtain ⟨dw, hw⟩ := id hW32
      obtain ⟨da, ha⟩ := id hM
      refine ⟨pw, pm, dw, da, _, _, rfl, rfl, hw, ha, pw, pm, U, (r31 - 1000), b, t, rfl, hW32, hM, by omega, by omega, pow_wide hU (by decide), pow_wide hmb (by decide), fun px H33 s33 hX => ?_⟩
      have hS2 : (U * 10 ^ (max b t - b) + (r31 - 1000) * 10 ^ (max b t - t)).natAbs < 2 ^ 600 := by
        have g1 : (U * 10 ^ (max b t - b)).natAbs < 2 ^ (300 + 200) := wide_lt hU (pow_wide (ten_lt _) (by omega))
        have g2 : ((r31 - 1000) * (10 : Int) ^ (max b t - t)).natAbs < 2 ^ (10 + 490) := wide_lt hmb (pow_wide (ten_lt _) (by omega))
        have e2 : (2 : Nat) ^ 600 = 2 ^ (300 + 200) * 2 ^ 100 := by rw [← Nat.pow_add]
        have e3 : 2 ≤ (2 : Nat) ^ 100 := by decide
        have e4 : (2 : Nat) ^ (300 + 200) * 2 ≤ 2 ^ (300 + 200) * 2 ^ 100 := Nat.mul_le_mul_left _ e3
        rw [e2]
        clear hU hRb hX hmb
        change _ < 2 ^ (300 + 200) at g2
        generalize (2 : Nat) ^ (300 + 200) = B at *
        generalize (2 : Nat) ^ 100 = B' at *
        generalize B * B' = B'' at *
        generalize (r31 - 1000) * 10 ^ (max b t - t) = y at *
        generalize U * 10 ^ (max b t - b) = z at *
        omega
      replace hS2 : Wd (U * 10 ^ (max b t - b) + (r31 - 1000) * 10 ^ (max b t - t)) 600 := hS2
      have hW33 := hW32.same s33
      have hR33 := hR32.same s33
      have p33 := p32.same s33
      clear hW32 hR32 p32 s33 hw ha hM
      walk_at "gi"
      refine ⟨px, _, max b t, t, x, rfl, hX, hx, by omega, pow_wide hS2 (by decide), fun pv H34 s34 hV => ?_⟩
      have hW34 := hW33.same s34
      have hR34 := hR33.same s34
      have p34 := p33.same s34
      clear hW33 hR33 p33 s34 hX hS2
      walk_at "gi"
      have pos : (0 : Int) < 10 ^ (b - t) := Int.pow_pos (by decide)
      refine w_ifF (fun H' => WAt T.C_Worth H' pw U b ∧ WAt T.C_Worth H' pr (rndF U b t x) t ∧ Pen H' d (200 * i + 112)) (fun R h9 => ?_) (fun H39 ⟨We, Re, Pe⟩ => ?_)
      · walk_at "gi"
        refine w_ite (fun hc => ?_) (fun hc => ?_)
        · walk_at "gi"
          refine ⟨x, U, _, _, rfl, hx, pos, pow_wide hU (by decide), pow_wide (ten_lt _) (by omega), by omega, fun bb H35 hb s35 => ?_⟩
          walk_at "gi"
          refine w_iteB (fun h1 => ?_) (fun h1 => ?_)
          · subst h1
            walk_at "gi"
            refine make_worth (by assumption) (fun pm2 H36 n36 s36 hM => ?_)
            have hR36 := (hR34.same s35).same s36
            obtain ⟨dw, hw⟩ := id hR36
            obtain ⟨da, ha⟩ := id hM
            refine ⟨pr, pm2, dw, da, _, _, rfl, rfl, hw, ha, pr, pm2, _, _, t, t, rfl, hR36, hM, by omega, by omega, hRb, pow_wide hmb (by decide), fun px2 H37 s37 hX => ?_⟩
            have hV37 := ((hV.same s35).same s36).same s37
            obtain ⟨dv, hv⟩ := id hV37
            obtain ⟨dx, hx2⟩ := id hX
            have key : rndF (U * 10 ^ (max b t - b) + (r31 - 1000) * 10 ^ (max b t - t)) (max b t) t x = rndF U b t x + (r31 - 1000) := by
              rw [show max b t = b by omega, Nat.sub_self, Int.pow_zero, Int.mul_one]
              unfold rndF
              rw [if_neg (by omega), if_neg (by omega)]
              exact hb rfl
            refine ⟨pv, px2, dv, dx, _, _, rfl, rfl, hv, hx2, pv, px2, rfl, ⟨_, _, _, _, hV37, hX, by rw [key, Nat.max_self, Nat.sub_self, Int.pow_zero, Int.mul_one, Int.mul_one]⟩, fun H38 s38 => ?_⟩
            walk_at "gi"
            exact h9 _ ⟨(((hW34.same s35).same s36).same s37).same s38, (hR36.same s37).same s38, ((((p34.same s35).same s36).same s37).same s38).mono (by omega)⟩
          · exact h9 _ ⟨hW34.same s35, hR34.same s35, (p34.same s35).mono (by omega)⟩
        · exact h9 _ ⟨hW34, hR34, p34.mono (by omega)⟩
      clear hV hW34 hR34 p34
      walk_at "gi"
      refine ⟨d, _, _, rfl, Pe, by omega, by omega, Int.lt_trans (show (t : Int) + 1 < 50 by omega) (by decide), fun r40 H40 a40 b40 p40 k40 => ?_⟩
      obtain ⟨c, rfl⟩ := Int.eq_ofNat_of_zero_le a40
      have We0 := We.keep k40
      have Re0 := Re.keep k40
      clear We Re Pe k40
      walk_at "gi"
      refine w_ifF (fun H' => Pen H' d (200 * i + 115)) (fun R h9 => ?_) (fun H44 p44 => ?_)
      · walk_at "gi"
        refine w_new (by assumption) (Nat.le_of_ble_eq_true rfl) (fun l41 H41 n41 s41 e41 => ?_)
        walk_at "gi"
        refine w_inL (l := four) e41 ?_
        walk_at "gi"
        refine w_ite (fun h4 => ?_) (fun h4 => ?_)
        · walk_at "gi"
          refine ⟨pr, _, t, c, x, rfl, Re0.same s41, hx, by omega, pow_wide hRb (by decide), fun p42 H42 s42 h42 => ?_⟩
          walk_at "gi"
          refine ⟨pw, U, b, c, x, rfl, (We0.same s41).same s42, hx, by omega, pow_wide hU (by decide), fun p43 H43 s43 h43 => ?_⟩
          walk_at "gi"
          obtain ⟨d42, g42⟩ := id (h42.same s43)
          obtain ⟨d43, g43⟩ := id h43
          refine ⟨p42, p43, d42, d43, _, _, rfl, rfl, g42, g43, p42, p43, rfl, ⟨_, _, _, _, h42.same s43, h43, by rw [rnd2 U h4 (by omega)]⟩, fun H44 s44 => ?_⟩
          walk_at "gi"
          exact h9 _ ((((p40.same s41).same s42).same s43).same s44 |>.mono (by omega))
        · exact h9 _ ((p40.same s41).mono (by omega))
      walk_at "gi"
      first
      | (show tIfS _ _ _ _ _ _
         refine w_ifF (fun H' => Pen H' d (200 * i + 180)) (fun R h9 => ?_) (fun H46 p46 => ?_)
         · walk_at "gi"
           refine ⟨d, _, x, rfl, p44, by omega, hx, fun H45 p45 k45 => ?_⟩
           walk_at "gi"
           exact h9 _ (p45.mono (by omega))
         walk_at "gi"
         exact ⟨by omega, p46.mono (by omega), _, _, _, _, _, _, _, _, _, _, _, _, _, _, _, rfl⟩)
      | (walk_at "go"
         refine ⟨d, _, x, rfl, p44, by omega, hx, fun H45 p45 k45 => ?_⟩
         walk_at "go"
         refine iteF ?_
         walk_at "go"
         exact ⟨by omega, p45.mono (by omega), _, _, _, _, _, _, _, _, _, _, _, _, _, _, _, rfl⟩)
    · walk_at "go"
      exact q H2
end
end K04
namespace K04
open PySem L2 DS
/-- an error of the class at S is what «except S» names -/
theorem exm_self {K : PySem.W.Frag} {S : Addr} (h1 : PySem.W.subIn K (.ref S) (.type "BaseException") = some true) (h2 : PySem.W.isClsIn K S = true) (h3 : PySem.W.typeIn K (.ref S) = some (.type "type")) (h4 : PySem.W.subIn K (.ref S) (.ref S) = some true) :
    PySem.W.exmOne K (.ref S) (.ref S) = some true := by
  have e1 : (PySem.W.subIn K (.ref S) (.type "BaseException") == some true) = true := by rw [h1] <;> rfl
  have e2 : ((PySem.W.clsIn K S).isSome && PySem.W.typeIn K (.ref S) == some (.type "type")) = true := by
    have h2' : (PySem.W.clsIn K S).isSome = true := h2
    rw [h2', h3] <;> rfl
  show (if (PySem.W.subIn K (.ref S) (.type "BaseException") == some true) = true then (if ((PySem.W.clsIn K S).isSome && PySem.W.typeIn K (.ref S) == some (.type "type")) = true then PySem.W.subIn K (.ref S) (.ref S) else none) else none) = some true
  rw [if_pos e1, if_pos e2]
  exact h4
theorem mir_all {K : PySem.W.Frag} {a : Addr} {tm_floor tm_ceiling tm_halfup tm_halfdown : Tok} (h_floor : PySem.W.nsIn K a "floor" = some (some (.str "ceiling" tm_floor))) (h_ceiling : PySem.W.nsIn K a "ceiling" = some (some (.str "floor" tm_ceiling))) (h_cut : PySem.W.nsIn K a "cut" = some none) (h_away : PySem.W.nsIn K a "away" = some none) (h_halfup : PySem.W.nsIn K a "halfup" = some (some (.str "halfdown" tm_halfup))) (h_halfdown : PySem.W.nsIn K a "halfdown" = some (some (.str "halfup" tm_halfdown))) (h_halfeven : PySem.W.nsIn K a "halfeven" = some none) (h_halfaway : PySem.W.nsIn K a "halfaway" = some none) (h_halfcut : PySem.W.nsIn K a "halfcut" = some none) : ∀ x ∈ waysL, ∃ r, PySem.W.nsIn K a x = some r ∧ ((r = none ∧ mirF x = x) ∨ ∃ t, r = some (.str (mirF x) t)) :=
  ways_cases ⟨⟨_, h_floor, by rw [mir_floor]; exact .inr ⟨_, rfl⟩⟩, ⟨_, h_ceiling, by rw [mir_ceiling]; exact .inr ⟨_, rfl⟩⟩, ⟨_, h_cut, by rw [mir_cut]; exact .inl ⟨rfl, rfl⟩⟩, ⟨_, h_away, by rw [mir_away]; exact .inl ⟨rfl, rfl⟩⟩, ⟨_, h_halfup, by rw [mir_halfup]; exact .inr ⟨_, rfl⟩⟩, ⟨_, h_halfdown, by rw [mir_halfdown]; exact .inr ⟨_, rfl⟩⟩, ⟨_, h_halfeven, by rw [mir_halfeven]; exact .inl ⟨rfl, rfl⟩⟩, ⟨_, h_halfaway, by rw [mir_halfaway]; exact .inl ⟨rfl, rfl⟩⟩, ⟨_, h_halfcut, by rw [mir_halfcut]; exact .inl ⟨rfl, rfl⟩⟩⟩
theorem all_mk {l : PySem.W.OpenLaw} {w : World} {K : PySem.W.Frag} {h : Heap} {mg : Str → Option Value} {fa : Addr} (X : K.In h) (G : h.Ns mainGlobals mg) (hfa : mg "law" = some (.ref fa))
    {C_Worth : Addr}
    {f_is_integer : Addr} {od0 an0 : Option Addr} {sl0 : Array (Option Value)} {oc0 kV0 dc0 pm0 cd0 ct0 : Value}
    {f_is_whole : Addr} {od1 an1 : Option Addr} {sl1 : Array (Option Value)} {oc1 kV1 dc1 pm1 cd1 ct1 : Value}
    {f_need_integer : Addr} {od2 an2 : Option Addr} {sl2 : Array (Option Value)} {oc2 kV2 dc2 pm2 cd2 ct2 : Value}
    {f_need_whole : Addr} {od3 an3 : Option Addr} {sl3 : Array (Option Value)} {oc3 kV3 dc3 pm3 cd3 ct3 : Value}
    {f_need_positive : Addr} {od4 an4 : Option Addr} {sl4 : Array (Option Value)} {oc4 kV4 dc4 pm4 cd4 ct4 : Value}
    {f_ten_to : Addr} {od5 an5 : Option Addr} {sl5 : Array (Option Value)} {oc5 kV5 dc5 pm5 cd5 ct5 : Value}
    {f_lowered : Addr} {od6 an6 : Option Addr} {sl6 : Array (Option Value)} {oc6 kV6 dc6 pm6 cd6 ct6 : Value}
    {f_Worth___init__ : Addr} {od7 an7 : Option Addr} {sl7 : Array (Option Value)} {oc7 kV7 dc7 pm7 cd7 ct7 : Value}
    {dT7 : Addr} {do7 : Option Addr} {dn7 : Nat} {ds7 : Array (Option Value)} {dt7_0 : Tok}
    {f_Worth___eq__ : Addr} {od8 an8 : Option Addr} {sl8 : Array (Option Value)} {oc8 kV8 dc8 pm8 cd8 ct8 : Value}
    {f_Worth___add__ : Addr} {od9 an9 : Option Addr} {sl9 : Array (Option Value)} {oc9 kV9 dc9 pm9 cd9 ct9 : Value}
    {f_Worth_sign : Addr} {od10 an10 : Option Addr} {sl10 : Array (Option Value)} {oc10 kV10 dc10 pm10 cd10 ct10 : Value}
    {f_need_worth : Addr} {od11 an11 : Option Addr} {sl11 : Array (Option Value)} {oc11 kV11 dc11 pm11 cd11 ct11 : Value}
    {f_worth_of : Addr} {od12 an12 : Option Addr} {sl12 : Array (Option Value)} {oc12 kV12 dc12 pm12 cd12 ct12 : Value}
    {f_worth_sum : Addr} {od13 an13 : Option Addr} {sl13 : Array (Option Value)} {oc13 kV13 dc13 pm13 cd13 ct13 : Value}
    {f_compare : Addr} {od14 an14 : Option Addr} {sl14 : Array (Option Value)} {oc14 kV14 dc14 pm14 cd14 ct14 : Value}
    {f_need_way : Addr} {od15 an15 : Option Addr} {sl15 : Array (Option Value)} {oc15 kV15 dc15 pm15 cd15 ct15 : Value}
    {f_mirrored : Addr} {od16 an16 : Option Addr} {sl16 : Array (Option Value)} {oc16 kV16 dc16 pm16 cd16 ct16 : Value}
    {f_lift : Addr} {od17 an17 : Option Addr} {sl17 : Array (Option Value)} {oc17 kV17 dc17 pm17 cd17 ct17 : Value}
    {f_part_of : Addr} {od18 an18 : Option Addr} {sl18 : Array (Option Value)} {oc18 kV18 dc18 pm18 cd18 ct18 : Value}
    {f_divided_by : Addr} {od19 an19 : Option Addr} {sl19 : Array (Option Value)} {oc19 kV19 dc19 pm19 cd19 ct19 : Value}
    {f_divided : Addr} {od20 an20 : Option Addr} {sl20 : Array (Option Value)} {oc20 kV20 dc20 pm20 cd20 ct20 : Value}
    {f_rounded : Addr} {od21 an21 : Option Addr} {sl21 : Array (Option Value)} {oc21 kV21 dc21 pm21 cd21 ct21 : Value}
    {f_rounded_quotient : Addr} {od22 an22 : Option Addr} {sl22 : Array (Option Value)} {oc22 kV22 dc22 pm22 cd22 ct22 : Value}
    {f__law_pen : Addr} {od23 an23 : Option Addr} {sl23 : Array (Option Value)} {oc23 kV23 dc23 pm23 cd23 ct23 : Value}
    {f__law_draw : Addr} {od24 an24 : Option Addr} {sl24 : Array (Option Value)} {oc24 kV24 dc24 pm24 cd24 ct24 : Value}
    {f__law_pick : Addr} {od25 an25 : Option Addr} {sl25 : Array (Option Value)} {oc25 kV25 dc25 pm25 cd25 ct25 : Value}
    {f__law_ten : Addr} {od26 an26 : Option Addr} {sl26 : Array (Option Value)} {oc26 kV26 dc26 pm26 cd26 ct26 : Value}
    {f__law_ways : Addr} {od27 an27 : Option Addr} {sl27 : Array (Option Value)} {oc27 kV27 dc27 pm27 cd27 ct27 : Value}
    {f__law_mirror : Addr} {od28 an28 : Option Addr} {sl28 : Array (Option Value)} {oc28 kV28 dc28 pm28 cd28 ct28 : Value}
    {f__law_near : Addr} {od29 an29 : Option Addr} {sl29 : Array (Option Value)} {oc29 kV29 dc29 pm29 cd29 ct29 : Value}
    {f__law_some_units : Addr} {od30 an30 : Option Addr} {sl30 : Array (Option Value)} {oc30 kV30 dc30 pm30 cd30 ct30 : Value}
    {f__law_some_scale : Addr} {od31 an31 : Option Addr} {sl31 : Array (Option Value)} {oc31 kV31 dc31 pm31 cd31 ct31 : Value}
    {f__law_own : Addr} {od32 an32 : Option Addr} {sl32 : Array (Option Value)} {oc32 kV32 dc32 pm32 cd32 ct32 : Value}
    {f__law_is_worth : Addr} {od33 an33 : Option Addr} {sl33 : Array (Option Value)} {oc33 kV33 dc33 pm33 cd33 ct33 : Value}
    {f__law_rounded : Addr} {od34 an34 : Option Addr} {sl34 : Array (Option Value)} {oc34 kV34 dc34 pm34 cd34 ct34 : Value}
    {f__law_moves : Addr} {od35 an35 : Option Addr} {sl35 : Array (Option Value)} {oc35 kV35 dc35 pm35 cd35 ct35 : Value}
    {f__law_is_quotient_right : Addr} {od36 an36 : Option Addr} {sl36 : Array (Option Value)} {oc36 kV36 dc36 pm36 cd36 ct36 : Value}
    {f_law : Addr} {od37 an37 : Option Addr} {sl37 : Array (Option Value)} {oc37 kV37 dc37 pm37 cd37 ct37 : Value}
    {C_NoDivisor : Addr}
    {a_WAYS : Addr} {odW : Option Addr} {nW : Nat} {slW : Array (Option Value)} {tw0 tw1 tw2 tw3 tw4 tw5 tw6 tw7 tw8 : Tok}
    {a_MIRRORS : Addr} {es_M : Array DictEntry} {n_M : Nat} {tm_floor tm_ceiling tm_halfup tm_halfdown : Tok}
    (aC_Worth : PySem.W.nsIn K mainGlobals "Worth" = some (some (.ref C_Worth)))
    (pg_Worth : PySem.W.plainGet K C_Worth Str.empty = true)
    (hd_Worth : PySem.W.hasDictIn K C_Worth = true)
    (po_Worth : PySem.W.plainOver K C_Worth = true)
    (sa_Worth : PySem.W.findIn K (.ref C_Worth) "__setattr__" = some (some (.builtin "object.__setattr__")))
    (mk_Worth : PySem.W.makesIn K C_Worth = true)
    (kc_Worth : PySem.W.keepIn K (.ref C_Worth) = true)
    (tya_Worth : PySem.W.findIn K (.ref C_Worth) "__class__" = some (some (.builtin "object.__class__")))
    (tyb_Worth : PySem.W.specialIn K (.builtin "object.__class__") "__get__" = some (some (.builtin "getset_descriptor.__get__")))
    (tyc_Worth : PySem.W.takesIn K (.builtin "object.__class__") = some true)
    (tyd_Worth : PySem.W.mroIn K C_Worth (.type "object") = some true)
    (n_Worth_units : PySem.W.findIn K (.ref C_Worth) "units" = some none)
    (n_Worth_scale : PySem.W.findIn K (.ref C_Worth) "scale" = some none)
    (a0 : PySem.W.nsIn K mainGlobals "is_integer" = some (some (.ref f_is_integer)))
    (l0 : K.lookup f_is_integer = some ⟨oc0, od0, .func (PySem.W.fnOf "is_integer" "is_integer" (defArgs s_is_integer) (defBody s_is_integer) (defScope s_is_integer) .none kV0 dc0 pm0 an0 cd0 ct0), sl0⟩)
    (c0 : PySem.W.codeIn K cd0 "is_integer" = true)
    (k0 : PySem.W.keepIn K (.ref f_is_integer) = true)
    (a1 : PySem.W.nsIn K mainGlobals "is_whole" = some (some (.ref f_is_whole)))
    (l1 : K.lookup f_is_whole = some ⟨oc1, od1, .func (PySem.W.fnOf "is_whole" "is_whole" (defArgs s_is_whole) (defBody s_is_whole) (defScope s_is_whole) .none kV1 dc1 pm1 an1 cd1 ct1), sl1⟩)
    (c1 : PySem.W.codeIn K cd1 "is_whole" = true)
    (k1 : PySem.W.keepIn K (.ref f_is_whole) = true)
    (a2 : PySem.W.nsIn K mainGlobals "need_integer" = some (some (.ref f_need_integer)))
    (l2 : K.lookup f_need_integer = some ⟨oc2, od2, .func (PySem.W.fnOf "need_integer" "need_integer" (defArgs s_need_integer) (defBody s_need_integer) (defScope s_need_integer) .none kV2 dc2 pm2 an2 cd2 ct2), sl2⟩)
    (c2 : PySem.W.codeIn K cd2 "need_integer" = true)
    (k2 : PySem.W.keepIn K (.ref f_need_integer) = true)
    (a3 : PySem.W.nsIn K mainGlobals "need_whole" = some (some (.ref f_need_whole)))
    (l3 : K.lookup f_need_whole = some ⟨oc3, od3, .func (PySem.W.fnOf "need_whole" "need_whole" (defArgs s_need_whole) (defBody s_need_whole) (defScope s_need_whole) .none kV3 dc3 pm3 an3 cd3 ct3), sl3⟩)
    (c3 : PySem.W.codeIn K cd3 "need_whole" = true)
    (k3 : PySem.W.keepIn K (.ref f_need_whole) = true)
    (a4 : PySem.W.nsIn K mainGlobals "need_positive" = some (some (.ref f_need_positive)))
    (l4 : K.lookup f_need_positive = some ⟨oc4, od4, .func (PySem.W.fnOf "need_positive" "need_positive" (defArgs s_need_positive) (defBody s_need_positive) (defScope s_need_positive) .none kV4 dc4 pm4 an4 cd4 ct4), sl4⟩)
    (c4 : PySem.W.codeIn K cd4 "need_positive" = true)
    (k4 : PySem.W.keepIn K (.ref f_need_positive) = true)
    (a5 : PySem.W.nsIn K mainGlobals "ten_to" = some (some (.ref f_ten_to)))
    (l5 : K.lookup f_ten_to = some ⟨oc5, od5, .func (PySem.W.fnOf "ten_to" "ten_to" (defArgs s_ten_to) (defBody s_ten_to) (defScope s_ten_to) .none kV5 dc5 pm5 an5 cd5 ct5), sl5⟩)
    (c5 : PySem.W.codeIn K cd5 "ten_to" = true)
    (k5 : PySem.W.keepIn K (.ref f_ten_to) = true)
    (a6 : PySem.W.nsIn K mainGlobals "lowered" = some (some (.ref f_lowered)))
    (l6 : K.lookup f_lowered = some ⟨oc6, od6, .func (PySem.W.fnOf "lowered" "lowered" (defArgs s_lowered) (defBody s_lowered) (defScope s_lowered) .none kV6 dc6 pm6 an6 cd6 ct6), sl6⟩)
    (c6 : PySem.W.codeIn K cd6 "lowered" = true)
    (k6 : PySem.W.keepIn K (.ref f_lowered) = true)
    (a7 : PySem.W.findIn K (.ref C_Worth) "__init__" = some (some (.ref f_Worth___init__)))
    (i7 : PySem.W.isFn K (.ref f_Worth___init__) = true)
    (l7 : K.lookup f_Worth___init__ = some ⟨oc7, od7, .func (PySem.W.fnOf "__init__" "Worth.__init__" (defArgs s_Worth___init__) (defBody s_Worth___init__) (defScope s_Worth___init__) (.ref dT7) kV7 dc7 pm7 an7 cd7 ct7), sl7⟩)
    (c7 : PySem.W.codeIn K cd7 "Worth.__init__" = true)
    (k7 : PySem.W.keepIn K (.ref f_Worth___init__) = true)
    (e7 : K.lookup dT7 = some ⟨.type "tuple", do7, .seq #[.int 0 dt7_0] dn7, ds7⟩)
    (a8 : PySem.W.findIn K (.ref C_Worth) "__eq__" = some (some (.ref f_Worth___eq__)))
    (i8 : PySem.W.isFn K (.ref f_Worth___eq__) = true)
    (l8 : K.lookup f_Worth___eq__ = some ⟨oc8, od8, .func (PySem.W.fnOf "__eq__" "Worth.__eq__" (defArgs s_Worth___eq__) (defBody s_Worth___eq__) (defScope s_Worth___eq__) .none kV8 dc8 pm8 an8 cd8 ct8), sl8⟩)
    (c8 : PySem.W.codeIn K cd8 "Worth.__eq__" = true)
    (k8 : PySem.W.keepIn K (.ref f_Worth___eq__) = true)
    (a9 : PySem.W.findIn K (.ref C_Worth) "__add__" = some (some (.ref f_Worth___add__)))
    (i9 : PySem.W.isFn K (.ref f_Worth___add__) = true)
    (l9 : K.lookup f_Worth___add__ = some ⟨oc9, od9, .func (PySem.W.fnOf "__add__" "Worth.__add__" (defArgs s_Worth___add__) (defBody s_Worth___add__) (defScope s_Worth___add__) .none kV9 dc9 pm9 an9 cd9 ct9), sl9⟩)
    (c9 : PySem.W.codeIn K cd9 "Worth.__add__" = true)
    (k9 : PySem.W.keepIn K (.ref f_Worth___add__) = true)
    (a10 : PySem.W.findIn K (.ref C_Worth) "sign" = some (some (.ref f_Worth_sign)))
    (i10 : PySem.W.isFn K (.ref f_Worth_sign) = true)
    (l10 : K.lookup f_Worth_sign = some ⟨oc10, od10, .func (PySem.W.fnOf "sign" "Worth.sign" (defArgs s_Worth_sign) (defBody s_Worth_sign) (defScope s_Worth_sign) .none kV10 dc10 pm10 an10 cd10 ct10), sl10⟩)
    (c10 : PySem.W.codeIn K cd10 "Worth.sign" = true)
    (k10 : PySem.W.keepIn K (.ref f_Worth_sign) = true)
    (a11 : PySem.W.nsIn K mainGlobals "need_worth" = some (some (.ref f_need_worth)))
    (l11 : K.lookup f_need_worth = some ⟨oc11, od11, .func (PySem.W.fnOf "need_worth" "need_worth" (defArgs s_need_worth) (defBody s_need_worth) (defScope s_need_worth) .none kV11 dc11 pm11 an11 cd11 ct11), sl11⟩)
    (c11 : PySem.W.codeIn K cd11 "need_worth" = true)
    (k11 : PySem.W.keepIn K (.ref f_need_worth) = true)
    (a12 : PySem.W.nsIn K mainGlobals "worth_of" = some (some (.ref f_worth_of)))
    (l12 : K.lookup f_worth_of = some ⟨oc12, od12, .func (PySem.W.fnOf "worth_of" "worth_of" (defArgs s_worth_of) (defBody s_worth_of) (defScope s_worth_of) .none kV12 dc12 pm12 an12 cd12 ct12), sl12⟩)
    (c12 : PySem.W.codeIn K cd12 "worth_of" = true)
    (k12 : PySem.W.keepIn K (.ref f_worth_of) = true)
    (a13 : PySem.W.nsIn K mainGlobals "worth_sum" = some (some (.ref f_worth_sum)))
    (l13 : K.lookup f_worth_sum = some ⟨oc13, od13, .func (PySem.W.fnOf "worth_sum" "worth_sum" (defArgs s_worth_sum) (defBody s_worth_sum) (defScope s_worth_sum) .none kV13 dc13 pm13 an13 cd13 ct13), sl13⟩)
    (c13 : PySem.W.codeIn K cd13 "worth_sum" = true)
    (k13 : PySem.W.keepIn K (.ref f_worth_sum) = true)
    (a14 : PySem.W.nsIn K mainGlobals "compare" = some (some (.ref f_compare)))
    (l14 : K.lookup f_compare = some ⟨oc14, od14, .func (PySem.W.fnOf "compare" "compare" (defArgs s_compare) (defBody s_compare) (defScope s_compare) .none kV14 dc14 pm14 an14 cd14 ct14), sl14⟩)
    (c14 : PySem.W.codeIn K cd14 "compare" = true)
    (k14 : PySem.W.keepIn K (.ref f_compare) = true)
    (a15 : PySem.W.nsIn K mainGlobals "need_way" = some (some (.ref f_need_way)))
    (l15 : K.lookup f_need_way = some ⟨oc15, od15, .func (PySem.W.fnOf "need_way" "need_way" (defArgs s_need_way) (defBody s_need_way) (defScope s_need_way) .none kV15 dc15 pm15 an15 cd15 ct15), sl15⟩)
    (c15 : PySem.W.codeIn K cd15 "need_way" = true)
    (k15 : PySem.W.keepIn K (.ref f_need_way) = true)
    (a16 : PySem.W.nsIn K mainGlobals "mirrored" = some (some (.ref f_mirrored)))
    (l16 : K.lookup f_mirrored = some ⟨oc16, od16, .func (PySem.W.fnOf "mirrored" "mirrored" (defArgs s_mirrored) (defBody s_mirrored) (defScope s_mirrored) .none kV16 dc16 pm16 an16 cd16 ct16), sl16⟩)
    (c16 : PySem.W.codeIn K cd16 "mirrored" = true)
    (k16 : PySem.W.keepIn K (.ref f_mirrored) = true)
    (a17 : PySem.W.nsIn K mainGlobals "lift" = some (some (.ref f_lift)))
    (l17 : K.lookup f_lift = some ⟨oc17, od17, .func (PySem.W.fnOf "lift" "lift" (defArgs s_lift) (defBody s_lift) (defScope s_lift) .none kV17 dc17 pm17 an17 cd17 ct17), sl17⟩)
    (c17 : PySem.W.codeIn K cd17 "lift" = true)
    (k17 : PySem.W.keepIn K (.ref f_lift) = true)
    (a18 : PySem.W.nsIn K mainGlobals "part_of" = some (some (.ref f_part_of)))
    (l18 : K.lookup f_part_of = some ⟨oc18, od18, .func (PySem.W.fnOf "part_of" "part_of" (defArgs s_part_of) (defBody s_part_of) (defScope s_part_of) .none kV18 dc18 pm18 an18 cd18 ct18), sl18⟩)
    (c18 : PySem.W.codeIn K cd18 "part_of" = true)
    (k18 : PySem.W.keepIn K (.ref f_part_of) = true)
    (a19 : PySem.W.nsIn K mainGlobals "divided_by" = some (some (.ref f_divided_by)))
    (l19 : K.lookup f_divided_by = some ⟨oc19, od19, .func (PySem.W.fnOf "divided_by" "divided_by" (defArgs s_divided_by) (defBody s_divided_by) (defScope s_divided_by) .none kV19 dc19 pm19 an19 cd19 ct19), sl19⟩)
    (c19 : PySem.W.codeIn K cd19 "divided_by" = true)
    (k19 : PySem.W.keepIn K (.ref f_divided_by) = true)
    (a20 : PySem.W.nsIn K mainGlobals "divided" = some (some (.ref f_divided)))
    (l20 : K.lookup f_divided = some ⟨oc20, od20, .func (PySem.W.fnOf "divided" "divided" (defArgs s_divided) (defBody s_divided) (defScope s_divided) .none kV20 dc20 pm20 an20 cd20 ct20), sl20⟩)
    (c20 : PySem.W.codeIn K cd20 "divided" = true)
    (k20 : PySem.W.keepIn K (.ref f_divided) = true)
    (a21 : PySem.W.nsIn K mainGlobals "rounded" = some (some (.ref f_rounded)))
    (l21 : K.lookup f_rounded = some ⟨oc21, od21, .func (PySem.W.fnOf "rounded" "rounded" (defArgs s_rounded) (defBody s_rounded) (defScope s_rounded) .none kV21 dc21 pm21 an21 cd21 ct21), sl21⟩)
    (c21 : PySem.W.codeIn K cd21 "rounded" = true)
    (k21 : PySem.W.keepIn K (.ref f_rounded) = true)
    (a22 : PySem.W.nsIn K mainGlobals "rounded_quotient" = some (some (.ref f_rounded_quotient)))
    (l22 : K.lookup f_rounded_quotient = some ⟨oc22, od22, .func (PySem.W.fnOf "rounded_quotient" "rounded_quotient" (defArgs s_rounded_quotient) (defBody s_rounded_quotient) (defScope s_rounded_quotient) .none kV22 dc22 pm22 an22 cd22 ct22), sl22⟩)
    (c22 : PySem.W.codeIn K cd22 "rounded_quotient" = true)
    (k22 : PySem.W.keepIn K (.ref f_rounded_quotient) = true)
    (a23 : PySem.W.nsIn K mainGlobals "_law_pen" = some (some (.ref f__law_pen)))
    (l23 : K.lookup f__law_pen = some ⟨oc23, od23, .func (PySem.W.fnOf "_law_pen" "_law_pen" (defArgs s__law_pen) (defBody s__law_pen) (defScope s__law_pen) .none kV23 dc23 pm23 an23 cd23 ct23), sl23⟩)
    (c23 : PySem.W.codeIn K cd23 "_law_pen" = true)
    (k23 : PySem.W.keepIn K (.ref f__law_pen) = true)
    (a24 : PySem.W.nsIn K mainGlobals "_law_draw" = some (some (.ref f__law_draw)))
    (l24 : K.lookup f__law_draw = some ⟨oc24, od24, .func (PySem.W.fnOf "_law_draw" "_law_draw" (defArgs s__law_draw) (defBody s__law_draw) (defScope s__law_draw) .none kV24 dc24 pm24 an24 cd24 ct24), sl24⟩)
    (c24 : PySem.W.codeIn K cd24 "_law_draw" = true)
    (k24 : PySem.W.keepIn K (.ref f__law_draw) = true)
    (a25 : PySem.W.nsIn K mainGlobals "_law_pick" = some (some (.ref f__law_pick)))
    (l25 : K.lookup f__law_pick = some ⟨oc25, od25, .func (PySem.W.fnOf "_law_pick" "_law_pick" (defArgs s__law_pick) (defBody s__law_pick) (defScope s__law_pick) .none kV25 dc25 pm25 an25 cd25 ct25), sl25⟩)
    (c25 : PySem.W.codeIn K cd25 "_law_pick" = true)
    (k25 : PySem.W.keepIn K (.ref f__law_pick) = true)
    (a26 : PySem.W.nsIn K mainGlobals "_law_ten" = some (some (.ref f__law_ten)))
    (l26 : K.lookup f__law_ten = some ⟨oc26, od26, .func (PySem.W.fnOf "_law_ten" "_law_ten" (defArgs s__law_ten) (defBody s__law_ten) (defScope s__law_ten) .none kV26 dc26 pm26 an26 cd26 ct26), sl26⟩)
    (c26 : PySem.W.codeIn K cd26 "_law_ten" = true)
    (k26 : PySem.W.keepIn K (.ref f__law_ten) = true)
    (a27 : PySem.W.nsIn K mainGlobals "_law_ways" = some (some (.ref f__law_ways)))
    (l27 : K.lookup f__law_ways = some ⟨oc27, od27, .func (PySem.W.fnOf "_law_ways" "_law_ways" (defArgs s__law_ways) (defBody s__law_ways) (defScope s__law_ways) .none kV27 dc27 pm27 an27 cd27 ct27), sl27⟩)
    (c27 : PySem.W.codeIn K cd27 "_law_ways" = true)
    (k27 : PySem.W.keepIn K (.ref f__law_ways) = true)
    (a28 : PySem.W.nsIn K mainGlobals "_law_mirror" = some (some (.ref f__law_mirror)))
    (l28 : K.lookup f__law_mirror = some ⟨oc28, od28, .func (PySem.W.fnOf "_law_mirror" "_law_mirror" (defArgs s__law_mirror) (defBody s__law_mirror) (defScope s__law_mirror) .none kV28 dc28 pm28 an28 cd28 ct28), sl28⟩)
    (c28 : PySem.W.codeIn K cd28 "_law_mirror" = true)
    (k28 : PySem.W.keepIn K (.ref f__law_mirror) = true)
    (a29 : PySem.W.nsIn K mainGlobals "_law_near" = some (some (.ref f__law_near)))
    (l29 : K.lookup f__law_near = some ⟨oc29, od29, .func (PySem.W.fnOf "_law_near" "_law_near" (defArgs s__law_near) (defBody s__law_near) (defScope s__law_near) .none kV29 dc29 pm29 an29 cd29 ct29), sl29⟩)
    (c29 : PySem.W.codeIn K cd29 "_law_near" = true)
    (k29 : PySem.W.keepIn K (.ref f__law_near) = true)
    (a30 : PySem.W.nsIn K mainGlobals "_law_some_units" = some (some (.ref f__law_some_units)))
    (l30 : K.lookup f__law_some_units = some ⟨oc30, od30, .func (PySem.W.fnOf "_law_some_units" "_law_some_units" (defArgs s__law_some_units) (defBody s__law_some_units) (defScope s__law_some_units) .none kV30 dc30 pm30 an30 cd30 ct30), sl30⟩)
    (c30 : PySem.W.codeIn K cd30 "_law_some_units" = true)
    (k30 : PySem.W.keepIn K (.ref f__law_some_units) = true)
    (a31 : PySem.W.nsIn K mainGlobals "_law_some_scale" = some (some (.ref f__law_some_scale)))
    (l31 : K.lookup f__law_some_scale = some ⟨oc31, od31, .func (PySem.W.fnOf "_law_some_scale" "_law_some_scale" (defArgs s__law_some_scale) (defBody s__law_some_scale) (defScope s__law_some_scale) .none kV31 dc31 pm31 an31 cd31 ct31), sl31⟩)
    (c31 : PySem.W.codeIn K cd31 "_law_some_scale" = true)
    (k31 : PySem.W.keepIn K (.ref f__law_some_scale) = true)
    (a32 : PySem.W.nsIn K mainGlobals "_law_own" = some (some (.ref f__law_own)))
    (l32 : K.lookup f__law_own = some ⟨oc32, od32, .func (PySem.W.fnOf "_law_own" "_law_own" (defArgs s__law_own) (defBody s__law_own) (defScope s__law_own) .none kV32 dc32 pm32 an32 cd32 ct32), sl32⟩)
    (c32 : PySem.W.codeIn K cd32 "_law_own" = true)
    (k32 : PySem.W.keepIn K (.ref f__law_own) = true)
    (a33 : PySem.W.nsIn K mainGlobals "_law_is_worth" = some (some (.ref f__law_is_worth)))
    (l33 : K.lookup f__law_is_worth = some ⟨oc33, od33, .func (PySem.W.fnOf "_law_is_worth" "_law_is_worth" (defArgs s__law_is_worth) (defBody s__law_is_worth) (defScope s__law_is_worth) .none kV33 dc33 pm33 an33 cd33 ct33), sl33⟩)
    (c33 : PySem.W.codeIn K cd33 "_law_is_worth" = true)
    (k33 : PySem.W.keepIn K (.ref f__law_is_worth) = true)
    (a34 : PySem.W.nsIn K mainGlobals "_law_rounded" = some (some (.ref f__law_rounded)))
    (l34 : K.lookup f__law_rounded = some ⟨oc34, od34, .func (PySem.W.fnOf "_law_rounded" "_law_rounded" (defArgs s__law_rounded) (defBody s__law_rounded) (defScope s__law_rounded) .none kV34 dc34 pm34 an34 cd34 ct34), sl34⟩)
    (c34 : PySem.W.codeIn K cd34 "_law_rounded" = true)
    (k34 : PySem.W.keepIn K (.ref f__law_rounded) = true)
    (a35 : PySem.W.nsIn K mainGlobals "_law_moves" = some (some (.ref f__law_moves)))
    (l35 : K.lookup f__law_moves = some ⟨oc35, od35, .func (PySem.W.fnOf "_law_moves" "_law_moves" (defArgs s__law_moves) (defBody s__law_moves) (defScope s__law_moves) .none kV35 dc35 pm35 an35 cd35 ct35), sl35⟩)
    (c35 : PySem.W.codeIn K cd35 "_law_moves" = true)
    (k35 : PySem.W.keepIn K (.ref f__law_moves) = true)
    (a36 : PySem.W.nsIn K mainGlobals "_law_is_quotient_right" = some (some (.ref f__law_is_quotient_right)))
    (l36 : K.lookup f__law_is_quotient_right = some ⟨oc36, od36, .func (PySem.W.fnOf "_law_is_quotient_right" "_law_is_quotient_right" (defArgs s__law_is_quotient_right) (defBody s__law_is_quotient_right) (defScope s__law_is_quotient_right) .none kV36 dc36 pm36 an36 cd36 ct36), sl36⟩)
    (c36 : PySem.W.codeIn K cd36 "_law_is_quotient_right" = true)
    (k36 : PySem.W.keepIn K (.ref f__law_is_quotient_right) = true)
    (a37 : PySem.W.nsIn K mainGlobals "law" = some (some (.ref f_law)))
    (l37 : K.lookup f_law = some ⟨oc37, od37, .func (PySem.W.fnOf "law" "law" (defArgs s_law) (defBody s_law) (defScope s_law) .none kV37 dc37 pm37 an37 cd37 ct37), sl37⟩)
    (c37 : PySem.W.codeIn K cd37 "law" = true)
    (k37 : PySem.W.keepIn K (.ref f_law) = true)
    (z_abs : PySem.W.nsIn K mainGlobals "abs" = some none)
    (z_bool : PySem.W.nsIn K mainGlobals "bool" = some none)
    (z_divmod : PySem.W.nsIn K mainGlobals "divmod" = some none)
    (z_int : PySem.W.nsIn K mainGlobals "int" = some none)
    (z_isinstance : PySem.W.nsIn K mainGlobals "isinstance" = some none)
    (z_len : PySem.W.nsIn K mainGlobals "len" = some none)
    (z_list : PySem.W.nsIn K mainGlobals "list" = some none)
    (z_max : PySem.W.nsIn K mainGlobals "max" = some none)
    (z_min : PySem.W.nsIn K mainGlobals "min" = some none)
    (z_range : PySem.W.nsIn K mainGlobals "range" = some none)
    (z_str : PySem.W.nsIn K mainGlobals "str" = some none)
    (z_tuple : PySem.W.nsIn K mainGlobals "tuple" = some none)
    (sfW : PySem.W.selfFirst K C_Worth = true)
    (neW : PySem.W.findIn K (.ref C_Worth) "__ne__" = some (some (.builtin "object.__ne__")))
    (aND : PySem.W.nsIn K mainGlobals "NoDivisor" = some (some (.ref C_NoDivisor)))
    (xND : PySem.W.excIn K C_NoDivisor [.type "ValueError", .type "Exception", .type "BaseException", .type "object"] "ValueError.__new__" = true)
    (kND : PySem.W.keepIn K (.ref C_NoDivisor) = true)
    (bND : PySem.W.subIn K (.ref C_NoDivisor) (.type "BaseException") = some true)
    (tND : PySem.W.typeIn K (.ref C_NoDivisor) = some (.type "type"))
    (iND : PySem.W.isClsIn K C_NoDivisor = true)
    (sND : PySem.W.subIn K (.ref C_NoDivisor) (.ref C_NoDivisor) = some true)
    (aW : PySem.W.nsIn K mainGlobals "WAYS" = some (some (.ref a_WAYS)))
    (lW : K.lookup a_WAYS = some ⟨.type "tuple", odW, .seq #[.str "floor" tw0, .str "ceiling" tw1, .str "cut" tw2, .str "away" tw3, .str "halfup" tw4, .str "halfdown" tw5, .str "halfeven" tw6, .str "halfaway" tw7, .str "halfcut" tw8] nW, slW⟩)
    (aM : PySem.W.nsIn K mainGlobals "MIRRORS" = some (some (.ref a_MIRRORS)))
    (lM : K.lookup a_MIRRORS = some ⟨.type "dict", none, .dict es_M n_M, #[]⟩)
    (kM : PySem.W.KeysLit w.params es_M.toList)
    (sM : (a_MIRRORS == sysModules) = false)
    (m_floor : PySem.W.nsIn K a_MIRRORS "floor" = some (some (.str "ceiling" tm_floor)))
    (m_ceiling : PySem.W.nsIn K a_MIRRORS "ceiling" = some (some (.str "floor" tm_ceiling)))
    (m_cut : PySem.W.nsIn K a_MIRRORS "cut" = some none)
    (m_away : PySem.W.nsIn K a_MIRRORS "away" = some none)
    (m_halfup : PySem.W.nsIn K a_MIRRORS "halfup" = some (some (.str "halfdown" tm_halfup)))
    (m_halfdown : PySem.W.nsIn K a_MIRRORS "halfdown" = some (some (.str "halfup" tm_halfdown)))
    (m_halfeven : PySem.W.nsIn K a_MIRRORS "halfeven" = some none)
    (m_halfaway : PySem.W.nsIn K a_MIRRORS "halfaway" = some none)
    (m_halfcut : PySem.W.nsIn K a_MIRRORS "halfcut" = some none) :
    ∃ fd : FuncData, (∀ (s : Shared) (v : Value), BindsTo s fd ⟨[v], []⟩ [("_law_script", v)]) ∧ ∀ base : Heap, K.In base → base.Ns mainGlobals mg → FnOk l.prog w K mg base CX0 8 fa fd ["_law_script"] (spLaw K) := by
  have e := hfa.symm.trans (PySem.W.mg_of X G a37)
  cases e
  have F0 := fun_mk (st := s_is_integer) l0 c0 k0
  have b0 := F0.binds (ps := ["value"]) fun _ _ _ _ _ _ us hl => match us, hl with | [_], _ => rfl
  have F1 := fun_mk (st := s_is_whole) l1 c1 k1
  have b1 := F1.binds (ps := ["value"]) fun _ _ _ _ _ _ us hl => match us, hl with | [_], _ => rfl
  have F2 := fun_mk (st := s_need_integer) l2 c2 k2
  have b2 := F2.binds (ps := ["value"]) fun _ _ _ _ _ _ us hl => match us, hl with | [_], _ => rfl
  have F3 := fun_mk (st := s_need_whole) l3 c3 k3
  have b3 := F3.binds (ps := ["value"]) fun _ _ _ _ _ _ us hl => match us, hl with | [_], _ => rfl
  have F4 := fun_mk (st := s_need_positive) l4 c4 k4
  have b4 := F4.binds (ps := ["value"]) fun _ _ _ _ _ _ us hl => match us, hl with | [_], _ => rfl
  have F5 := fun_mk (st := s_ten_to) l5 c5 k5
  have b5 := F5.binds (ps := ["number"]) fun _ _ _ _ _ _ us hl => match us, hl with | [_], _ => rfl
  have F6 := fun_mk (st := s_lowered) l6 c6 k6
  have b6 := F6.binds (ps := ["units", "scale"]) fun _ _ _ _ _ _ us hl => match us, hl with | [_, _], _ => rfl
  have F7 : FunD K "__init__" "Worth.__init__" (defArgs s_Worth___init__) (defBody s_Worth___init__) (defScope s_Worth___init__) [.int 0] [] f_Worth___init__ (PySem.W.fnOf "__init__" "Worth.__init__" (defArgs s_Worth___init__) (defBody s_Worth___init__) (defScope s_Worth___init__) (.ref dT7) kV7 dc7 pm7 an7 cd7 ct7) := ⟨⟨oc7, od7, .ref dT7, kV7, dc7, pm7, an7, cd7, ct7, sl7, rfl, l7, c7, .inr ⟨by simp, dT7, _, [.int 0 dt7_0], dn7, rfl, e7, rfl, .cons ⟨_, rfl⟩ (.nil)⟩, .inl rfl⟩, k7⟩
  obtain ⟨z7, hz7, b7⟩ := F7.binds1 (ps := ["self", "units", "scale"]) 3 1 (by simp) rfl fun _ _ _ _ _ _ _ us its h1 h2 => match us, h1, its, h2 with | [_, _, _], _, [_], _ => ⟨_, rfl, rfl⟩
  cases hz7
  have F8 := fun_mk (st := s_Worth___eq__) l8 c8 k8
  have b8 := F8.binds (ps := ["self", "other"]) fun _ _ _ _ _ _ us hl => match us, hl with | [_, _], _ => rfl
  have F9 := fun_mk (st := s_Worth___add__) l9 c9 k9
  have b9 := F9.binds (ps := ["self", "other"]) fun _ _ _ _ _ _ us hl => match us, hl with | [_, _], _ => rfl
  have F10 := fun_mk (st := s_Worth_sign) l10 c10 k10
  have b10 := F10.binds (ps := ["self"]) fun _ _ _ _ _ _ us hl => match us, hl with | [_], _ => rfl
  have F11 := fun_mk (st := s_need_worth) l11 c11 k11
  have b11 := F11.binds (ps := ["value"]) fun _ _ _ _ _ _ us hl => match us, hl with | [_], _ => rfl
  have F12 := fun_mk (st := s_worth_of) l12 c12 k12
  have b12 := F12.binds (ps := ["value"]) fun _ _ _ _ _ _ us hl => match us, hl with | [_], _ => rfl
  have F13 := fun_mk (st := s_worth_sum) l13 c13 k13
  have b13 := F13.binds (ps := ["one", "other", "sign"]) fun _ _ _ _ _ _ us hl => match us, hl with | [_, _, _], _ => rfl
  have F14 := fun_mk (st := s_compare) l14 c14 k14
  have b14 := F14.binds (ps := ["one", "other"]) fun _ _ _ _ _ _ us hl => match us, hl with | [_, _], _ => rfl
  have F15 := fun_mk (st := s_need_way) l15 c15 k15
  have b15 := F15.binds (ps := ["value"]) fun _ _ _ _ _ _ us hl => match us, hl with | [_], _ => rfl
  have F16 := fun_mk (st := s_mirrored) l16 c16 k16
  have b16 := F16.binds (ps := ["way"]) fun _ _ _ _ _ _ us hl => match us, hl with | [_], _ => rfl
  have F17 := fun_mk (st := s_lift) l17 c17 k17
  have b17 := F17.binds (ps := ["way", "part", "negative", "odd"]) fun _ _ _ _ _ _ us hl => match us, hl with | [_, _, _, _], _ => rfl
  have F18 := fun_mk (st := s_part_of) l18 c18 k18
  have b18 := F18.binds (ps := ["left", "divisor"]) fun _ _ _ _ _ _ us hl => match us, hl with | [_, _], _ => rfl
  have F19 := fun_mk (st := s_divided_by) l19 c19 k19
  have b19 := F19.binds (ps := ["number", "divisor", "way"]) fun _ _ _ _ _ _ us hl => match us, hl with | [_, _, _], _ => rfl
  have F20 := fun_mk (st := s_divided) l20 c20 k20
  have b20 := F20.binds (ps := ["number", "divisor", "way"]) fun _ _ _ _ _ _ us hl => match us, hl with | [_, _, _], _ => rfl
  have F21 := fun_mk (st := s_rounded) l21 c21 k21
  have b21 := F21.binds (ps := ["worth", "scale", "way"]) fun _ _ _ _ _ _ us hl => match us, hl with | [_, _, _], _ => rfl
  have F22 := fun_mk (st := s_rounded_quotient) l22 c22 k22
  have b22 := F22.binds (ps := ["one", "other", "scale", "way"]) fun _ _ _ _ _ _ us hl => match us, hl with | [_, _, _, _], _ => rfl
  have F23 := fun_mk (st := s__law_pen) l23 c23 k23
  have b23 := F23.binds (ps := ["_law_script"]) fun _ _ _ _ _ _ us hl => match us, hl with | [_], _ => rfl
  have F24 := fun_mk (st := s__law_draw) l24 c24 k24
  have b24 := F24.binds (ps := ["_law_pen_here", "_law_many"]) fun _ _ _ _ _ _ us hl => match us, hl with | [_, _], _ => rfl
  have F25 := fun_mk (st := s__law_pick) l25 c25 k25
  have b25 := F25.binds (ps := ["_law_pen_here", "_law_items"]) fun _ _ _ _ _ _ us hl => match us, hl with | [_, _], _ => rfl
  have F26 := fun_mk (st := s__law_ten) l26 c26 k26
  have b26 := F26.binds (ps := ["_law_count"]) fun _ _ _ _ _ _ us hl => match us, hl with | [_], _ => rfl
  have F27 := fun_mk (st := s__law_ways) l27 c27 k27
  have b27 := F27.binds (ps := []) fun _ _ _ _ _ _ us hl => match us, hl with | [], _ => rfl
  have F28 := fun_mk (st := s__law_mirror) l28 c28 k28
  have b28 := F28.binds (ps := ["_law_manner"]) fun _ _ _ _ _ _ us hl => match us, hl with | [_], _ => rfl
  have F29 := fun_mk (st := s__law_near) l29 c29 k29
  have b29 := F29.binds (ps := ["_law_number", "_law_divisor", "_law_manner"]) fun _ _ _ _ _ _ us hl => match us, hl with | [_, _, _], _ => rfl
  have F30 := fun_mk (st := s__law_some_units) l30 c30 k30
  have b30 := F30.binds (ps := ["_law_pen_here"]) fun _ _ _ _ _ _ us hl => match us, hl with | [_], _ => rfl
  have F31 := fun_mk (st := s__law_some_scale) l31 c31 k31
  have b31 := F31.binds (ps := ["_law_pen_here"]) fun _ _ _ _ _ _ us hl => match us, hl with | [_], _ => rfl
  have F32 := fun_mk (st := s__law_own) l32 c32 k32
  have b32 := F32.binds (ps := ["_law_units", "_law_scale"]) fun _ _ _ _ _ _ us hl => match us, hl with | [_, _], _ => rfl
  have F33 := fun_mk (st := s__law_is_worth) l33 c33 k33
  have b33 := F33.binds (ps := ["_law_told", "_law_units", "_law_scale"]) fun _ _ _ _ _ _ us hl => match us, hl with | [_, _, _], _ => rfl
  have F34 := fun_mk (st := s__law_rounded) l34 c34 k34
  have b34 := F34.binds (ps := ["_law_units", "_law_scale", "_law_to", "_law_way"]) fun _ _ _ _ _ _ us hl => match us, hl with | [_, _, _, _], _ => rfl
  have F35 := fun_mk (st := s__law_moves) l35 c35 k35
  have b35 := F35.binds (ps := ["_law_way", "_law_units", "_law_more", "_law_wide"]) fun _ _ _ _ _ _ us hl => match us, hl with | [_, _, _, _], _ => rfl
  have F36 := fun_mk (st := s__law_is_quotient_right) l36 c36 k36
  have b36 := F36.binds (ps := ["_law_pen_here", "_law_way"]) fun _ _ _ _ _ _ us hl => match us, hl with | [_, _], _ => rfl
  have F37 := fun_mk (st := s_law) l37 c37 k37
  have b37 := F37.binds (ps := ["_law_script"]) fun _ _ _ _ _ _ us hl => match us, hl with | [_], _ => rfl
  let T : Tx w K mg := {
    C_Worth := C_Worth,
    cl_Worth := ⟨pg_Worth, hd_Worth, po_Worth, sa_Worth⟩,
    gC_Worth := PySem.W.mg_of X G aC_Worth,
    n_Worth_units := n_Worth_units,
    n_Worth_scale := n_Worth_scale,
    f_is_integer := f_is_integer,
    fd_is_integer := PySem.W.fnOf "is_integer" "is_integer" (defArgs s_is_integer) (defBody s_is_integer) (defScope s_is_integer) .none kV0 dc0 pm0 an0 cd0 ct0,
    F_is_integer := F0,
    b_is_integer := b0,
    g_is_integer := PySem.W.mg_of X G a0,
    f_is_whole := f_is_whole,
    fd_is_whole := PySem.W.fnOf "is_whole" "is_whole" (defArgs s_is_whole) (defBody s_is_whole) (defScope s_is_whole) .none kV1 dc1 pm1 an1 cd1 ct1,
    F_is_whole := F1,
    b_is_whole := b1,
    g_is_whole := PySem.W.mg_of X G a1,
    f_need_integer := f_need_integer,
    fd_need_integer := PySem.W.fnOf "need_integer" "need_integer" (defArgs s_need_integer) (defBody s_need_integer) (defScope s_need_integer) .none kV2 dc2 pm2 an2 cd2 ct2,
    F_need_integer := F2,
    b_need_integer := b2,
    g_need_integer := PySem.W.mg_of X G a2,
    f_need_whole := f_need_whole,
    fd_need_whole := PySem.W.fnOf "need_whole" "need_whole" (defArgs s_need_whole) (defBody s_need_whole) (defScope s_need_whole) .none kV3 dc3 pm3 an3 cd3 ct3,
    F_need_whole := F3,
    b_need_whole := b3,
    g_need_whole := PySem.W.mg_of X G a3,
    f_need_positive := f_need_positive,
    fd_need_positive := PySem.W.fnOf "need_positive" "need_positive" (defArgs s_need_positive) (defBody s_need_positive) (defScope s_need_positive) .none kV4 dc4 pm4 an4 cd4 ct4,
    F_need_positive := F4,
    b_need_positive := b4,
    g_need_positive := PySem.W.mg_of X G a4,
    f_ten_to := f_ten_to,
    fd_ten_to := PySem.W.fnOf "ten_to" "ten_to" (defArgs s_ten_to) (defBody s_ten_to) (defScope s_ten_to) .none kV5 dc5 pm5 an5 cd5 ct5,
    F_ten_to := F5,
    b_ten_to := b5,
    g_ten_to := PySem.W.mg_of X G a5,
    f_lowered := f_lowered,
    fd_lowered := PySem.W.fnOf "lowered" "lowered" (defArgs s_lowered) (defBody s_lowered) (defScope s_lowered) .none kV6 dc6 pm6 an6 cd6 ct6,
    F_lowered := F6,
    b_lowered := b6,
    g_lowered := PySem.W.mg_of X G a6,
    f_Worth___init__ := f_Worth___init__,
    fd_Worth___init__ := PySem.W.fnOf "__init__" "Worth.__init__" (defArgs s_Worth___init__) (defBody s_Worth___init__) (defScope s_Worth___init__) (.ref dT7) kV7 dc7 pm7 an7 cd7 ct7,
    F_Worth___init__ := F7,
    b_Worth___init__ := b7,
    M_Worth := ⟨mk_Worth, a7, i7, kc_Worth⟩,
    f_Worth___eq__ := f_Worth___eq__,
    fd_Worth___eq__ := PySem.W.fnOf "__eq__" "Worth.__eq__" (defArgs s_Worth___eq__) (defBody s_Worth___eq__) (defScope s_Worth___eq__) .none kV8 dc8 pm8 an8 cd8 ct8,
    F_Worth___eq__ := F8,
    b_Worth___eq__ := b8,
    m_Worth___eq__ := ⟨a8, i8, k8⟩,
    f_Worth___add__ := f_Worth___add__,
    fd_Worth___add__ := PySem.W.fnOf "__add__" "Worth.__add__" (defArgs s_Worth___add__) (defBody s_Worth___add__) (defScope s_Worth___add__) .none kV9 dc9 pm9 an9 cd9 ct9,
    F_Worth___add__ := F9,
    b_Worth___add__ := b9,
    m_Worth___add__ := ⟨a9, i9, k9⟩,
    f_Worth_sign := f_Worth_sign,
    fd_Worth_sign := PySem.W.fnOf "sign" "Worth.sign" (defArgs s_Worth_sign) (defBody s_Worth_sign) (defScope s_Worth_sign) .none kV10 dc10 pm10 an10 cd10 ct10,
    F_Worth_sign := F10,
    b_Worth_sign := b10,
    m_Worth_sign := ⟨a10, i10, k10⟩,
    f_need_worth := f_need_worth,
    fd_need_worth := PySem.W.fnOf "need_worth" "need_worth" (defArgs s_need_worth) (defBody s_need_worth) (defScope s_need_worth) .none kV11 dc11 pm11 an11 cd11 ct11,
    F_need_worth := F11,
    b_need_worth := b11,
    g_need_worth := PySem.W.mg_of X G a11,
    f_worth_of := f_worth_of,
    fd_worth_of := PySem.W.fnOf "worth_of" "worth_of" (defArgs s_worth_of) (defBody s_worth_of) (defScope s_worth_of) .none kV12 dc12 pm12 an12 cd12 ct12,
    F_worth_of := F12,
    b_worth_of := b12,
    g_worth_of := PySem.W.mg_of X G a12,
    f_worth_sum := f_worth_sum,
    fd_worth_sum := PySem.W.fnOf "worth_sum" "worth_sum" (defArgs s_worth_sum) (defBody s_worth_sum) (defScope s_worth_sum) .none kV13 dc13 pm13 an13 cd13 ct13,
    F_worth_sum := F13,
    b_worth_sum := b13,
    g_worth_sum := PySem.W.mg_of X G a13,
    f_compare := f_compare,
    fd_compare := PySem.W.fnOf "compare" "compare" (defArgs s_compare) (defBody s_compare) (defScope s_compare) .none kV14 dc14 pm14 an14 cd14 ct14,
    F_compare := F14,
    b_compare := b14,
    g_compare := PySem.W.mg_of X G a14,
    f_need_way := f_need_way,
    fd_need_way := PySem.W.fnOf "need_way" "need_way" (defArgs s_need_way) (defBody s_need_way) (defScope s_need_way) .none kV15 dc15 pm15 an15 cd15 ct15,
    F_need_way := F15,
    b_need_way := b15,
    g_need_way := PySem.W.mg_of X G a15,
    f_mirrored := f_mirrored,
    fd_mirrored := PySem.W.fnOf "mirrored" "mirrored" (defArgs s_mirrored) (defBody s_mirrored) (defScope s_mirrored) .none kV16 dc16 pm16 an16 cd16 ct16,
    F_mirrored := F16,
    b_mirrored := b16,
    g_mirrored := PySem.W.mg_of X G a16,
    f_lift := f_lift,
    fd_lift := PySem.W.fnOf "lift" "lift" (defArgs s_lift) (defBody s_lift) (defScope s_lift) .none kV17 dc17 pm17 an17 cd17 ct17,
    F_lift := F17,
    b_lift := b17,
    g_lift := PySem.W.mg_of X G a17,
    f_part_of := f_part_of,
    fd_part_of := PySem.W.fnOf "part_of" "part_of" (defArgs s_part_of) (defBody s_part_of) (defScope s_part_of) .none kV18 dc18 pm18 an18 cd18 ct18,
    F_part_of := F18,
    b_part_of := b18,
    g_part_of := PySem.W.mg_of X G a18,
    f_divided_by := f_divided_by,
    fd_divided_by := PySem.W.fnOf "divided_by" "divided_by" (defArgs s_divided_by) (defBody s_divided_by) (defScope s_divided_by) .none kV19 dc19 pm19 an19 cd19 ct19,
    F_divided_by := F19,
    b_divided_by := b19,
    g_divided_by := PySem.W.mg_of X G a19,
    f_divided := f_divided,
    fd_divided := PySem.W.fnOf "divided" "divided" (defArgs s_divided) (defBody s_divided) (defScope s_divided) .none kV20 dc20 pm20 an20 cd20 ct20,
    F_divided := F20,
    b_divided := b20,
    g_divided := PySem.W.mg_of X G a20,
    f_rounded := f_rounded,
    fd_rounded := PySem.W.fnOf "rounded" "rounded" (defArgs s_rounded) (defBody s_rounded) (defScope s_rounded) .none kV21 dc21 pm21 an21 cd21 ct21,
    F_rounded := F21,
    b_rounded := b21,
    g_rounded := PySem.W.mg_of X G a21,
    f_rounded_quotient := f_rounded_quotient,
    fd_rounded_quotient := PySem.W.fnOf "rounded_quotient" "rounded_quotient" (defArgs s_rounded_quotient) (defBody s_rounded_quotient) (defScope s_rounded_quotient) .none kV22 dc22 pm22 an22 cd22 ct22,
    F_rounded_quotient := F22,
    b_rounded_quotient := b22,
    g_rounded_quotient := PySem.W.mg_of X G a22,
    f__law_pen := f__law_pen,
    fd__law_pen := PySem.W.fnOf "_law_pen" "_law_pen" (defArgs s__law_pen) (defBody s__law_pen) (defScope s__law_pen) .none kV23 dc23 pm23 an23 cd23 ct23,
    F__law_pen := F23,
    b__law_pen := b23,
    g__law_pen := PySem.W.mg_of X G a23,
    f__law_draw := f__law_draw,
    fd__law_draw := PySem.W.fnOf "_law_draw" "_law_draw" (defArgs s__law_draw) (defBody s__law_draw) (defScope s__law_draw) .none kV24 dc24 pm24 an24 cd24 ct24,
    F__law_draw := F24,
    b__law_draw := b24,
    g__law_draw := PySem.W.mg_of X G a24,
    f__law_pick := f__law_pick,
    fd__law_pick := PySem.W.fnOf "_law_pick" "_law_pick" (defArgs s__law_pick) (defBody s__law_pick) (defScope s__law_pick) .none kV25 dc25 pm25 an25 cd25 ct25,
    F__law_pick := F25,
    b__law_pick := b25,
    g__law_pick := PySem.W.mg_of X G a25,
    f__law_ten := f__law_ten,
    fd__law_ten := PySem.W.fnOf "_law_ten" "_law_ten" (defArgs s__law_ten) (defBody s__law_ten) (defScope s__law_ten) .none kV26 dc26 pm26 an26 cd26 ct26,
    F__law_ten := F26,
    b__law_ten := b26,
    g__law_ten := PySem.W.mg_of X G a26,
    f__law_ways := f__law_ways,
    fd__law_ways := PySem.W.fnOf "_law_ways" "_law_ways" (defArgs s__law_ways) (defBody s__law_ways) (defScope s__law_ways) .none kV27 dc27 pm27 an27 cd27 ct27,
    F__law_ways := F27,
    b__law_ways := b27,
    g__law_ways := PySem.W.mg_of X G a27,
    f__law_mirror := f__law_mirror,
    fd__law_mirror := PySem.W.fnOf "_law_mirror" "_law_mirror" (defArgs s__law_mirror) (defBody s__law_mirror) (defScope s__law_mirror) .none kV28 dc28 pm28 an28 cd28 ct28,
    F__law_mirror := F28,
    b__law_mirror := b28,
    g__law_mirror := PySem.W.mg_of X G a28,
    f__law_near := f__law_near,
    fd__law_near := PySem.W.fnOf "_law_near" "_law_near" (defArgs s__law_near) (defBody s__law_near) (defScope s__law_near) .none kV29 dc29 pm29 an29 cd29 ct29,
    F__law_near := F29,
    b__law_near := b29,
    g__law_near := PySem.W.mg_of X G a29,
    f__law_some_units := f__law_some_units,
    fd__law_some_units := PySem.W.fnOf "_law_some_units" "_law_some_units" (defArgs s__law_some_units) (defBody s__law_some_units) (defScope s__law_some_units) .none kV30 dc30 pm30 an30 cd30 ct30,
    F__law_some_units := F30,
    b__law_some_units := b30,
    g__law_some_units := PySem.W.mg_of X G a30,
    f__law_some_scale := f__law_some_scale,
    fd__law_some_scale := PySem.W.fnOf "_law_some_scale" "_law_some_scale" (defArgs s__law_some_scale) (defBody s__law_some_scale) (defScope s__law_some_scale) .none kV31 dc31 pm31 an31 cd31 ct31,
    F__law_some_scale := F31,
    b__law_some_scale := b31,
    g__law_some_scale := PySem.W.mg_of X G a31,
    f__law_own := f__law_own,
    fd__law_own := PySem.W.fnOf "_law_own" "_law_own" (defArgs s__law_own) (defBody s__law_own) (defScope s__law_own) .none kV32 dc32 pm32 an32 cd32 ct32,
    F__law_own := F32,
    b__law_own := b32,
    g__law_own := PySem.W.mg_of X G a32,
    f__law_is_worth := f__law_is_worth,
    fd__law_is_worth := PySem.W.fnOf "_law_is_worth" "_law_is_worth" (defArgs s__law_is_worth) (defBody s__law_is_worth) (defScope s__law_is_worth) .none kV33 dc33 pm33 an33 cd33 ct33,
    F__law_is_worth := F33,
    b__law_is_worth := b33,
    g__law_is_worth := PySem.W.mg_of X G a33,
    f__law_rounded := f__law_rounded,
    fd__law_rounded := PySem.W.fnOf "_law_rounded" "_law_rounded" (defArgs s__law_rounded) (defBody s__law_rounded) (defScope s__law_rounded) .none kV34 dc34 pm34 an34 cd34 ct34,
    F__law_rounded := F34,
    b__law_rounded := b34,
    g__law_rounded := PySem.W.mg_of X G a34,
    f__law_moves := f__law_moves,
    fd__law_moves := PySem.W.fnOf "_law_moves" "_law_moves" (defArgs s__law_moves) (defBody s__law_moves) (defScope s__law_moves) .none kV35 dc35 pm35 an35 cd35 ct35,
    F__law_moves := F35,
    b__law_moves := b35,
    g__law_moves := PySem.W.mg_of X G a35,
    f__law_is_quotient_right := f__law_is_quotient_right,
    fd__law_is_quotient_right := PySem.W.fnOf "_law_is_quotient_right" "_law_is_quotient_right" (defArgs s__law_is_quotient_right) (defBody s__law_is_quotient_right) (defScope s__law_is_quotient_right) .none kV36 dc36 pm36 an36 cd36 ct36,
    F__law_is_quotient_right := F36,
    b__law_is_quotient_right := b36,
    g__law_is_quotient_right := PySem.W.mg_of X G a36,
    f_law := fa,
    fd_law := PySem.W.fnOf "law" "law" (defArgs s_law) (defBody s_law) (defScope s_law) .none kV37 dc37 pm37 an37 cd37 ct37,
    F_law := F37,
    b_law := b37,
    g_law := PySem.W.mg_of X G a37,
    z_abs := PySem.W.mg_none_of X G z_abs,
    z_bool := PySem.W.mg_none_of X G z_bool,
    z_divmod := PySem.W.mg_none_of X G z_divmod,
    z_int := PySem.W.mg_none_of X G z_int,
    z_isinstance := PySem.W.mg_none_of X G z_isinstance,
    z_len := PySem.W.mg_none_of X G z_len,
    z_list := PySem.W.mg_none_of X G z_list,
    z_max := PySem.W.mg_none_of X G z_max,
    z_min := PySem.W.mg_none_of X G z_min,
    z_range := PySem.W.mg_none_of X G z_range,
    z_str := PySem.W.mg_none_of X G z_str,
    z_tuple := PySem.W.mg_none_of X G z_tuple,
    sfW := sfW,
    neW := neW,
    moW := tyd_Worth,
    C_NoDivisor := C_NoDivisor,
    gC_NoDivisor := PySem.W.mg_of X G aND,
    xND := xND,
    kND := kND,
    bND := bND,
    tND := tND,
    eND := exm_self bND iND tND sND,
    tyW := fun H a dx fs e => .ins e ⟨pg_Worth, hd_Worth, po_Worth, sa_Worth⟩ tya_Worth tyb_Worth tyc_Worth tyd_Worth,
    kiW := by unfold PySem.W.kitOne; rw [if_pos (by simp)],
    a_WAYS := a_WAYS,
    gv_WAYS := PySem.W.mg_of X G aW,
    sq_WAYS := fun H => .inr ⟨_, _, nW, lW, rfl, rfl, Nat.le_of_ble_eq_true rfl, .cons ⟨_, rfl⟩ (.cons ⟨_, rfl⟩ (.cons ⟨_, rfl⟩ (.cons ⟨_, rfl⟩ (.cons ⟨_, rfl⟩ (.cons ⟨_, rfl⟩ (.cons ⟨_, rfl⟩ (.cons ⟨_, rfl⟩ (.cons ⟨_, rfl⟩ (.nil)))))))))⟩,
    a_MIRRORS := a_MIRRORS,
    es_M := es_M,
    n_M := n_M,
    gv_MIRRORS := PySem.W.mg_of X G aM,
    D_M := ⟨lM, kM, sM⟩,
    mir := mir_all m_floor m_ceiling m_cut m_away m_halfup m_halfdown m_halfeven m_halfaway m_halfcut }
  exact ⟨T.fd_law, fun s v => .of_eq rfl, fun base _ _ => ok_law T⟩
end K04
open PySem PySem.W PyProof.Rows
set_option maxHeartbeats 0 in
theorem PySem.Challenge.cw_dealtsums_k04_whole_rounding_by_each_way_holds : PySem.Challenge.rw_dealtsums_k04_whole_rounding_by_each_way.Holds := by
  w_on; o_law; k_head; (case hw => w_witness2)
  k_fill
  refine L2.walk_of (l := PySem.Challenge.rw_dealtsums_k04_whole_rounding_by_each_way) (n := 63) (k := 8) (x := "_law_script") (CX := fun _ => L2.CX0) (sp := fun w => K04.spLaw _) rfl (by decide) rfl ⟨rfl, by decide, by decide⟩ (fun w h Y => PySem.W.kIn_of Y) ?F (fun _ _ a ns hl _ hS => ⟨a, ns, rfl, hS, hl, fun _ => rfl⟩) (fun _ _ _ _ _ h => h)
  case F =>
    intro w mg fa h KX G hmg
    refine' K04.all_mk KX G hmg ?aC_Worth ?pg_Worth ?hd_Worth ?po_Worth ?sa_Worth ?mk_Worth ?kc_Worth ?tya_Worth ?tyb_Worth ?tyc_Worth ?tyd_Worth ?n_Worth_units ?n_Worth_scale ?a0 ?l0 ?c0 ?k0 ?a1 ?l1 ?c1 ?k1 ?a2 ?l2 ?c2 ?k2 ?a3 ?l3 ?c3 ?k3 ?a4 ?l4 ?c4 ?k4 ?a5 ?l5 ?c5 ?k5 ?a6 ?l6 ?c6 ?k6 ?a7 ?i7 ?l7 ?c7 ?k7 ?e7 ?a8 ?i8 ?l8 ?c8 ?k8 ?a9 ?i9 ?l9 ?c9 ?k9 ?a10 ?i10 ?l10 ?c10 ?k10 ?a11 ?l11 ?c11 ?k11 ?a12 ?l12 ?c12 ?k12 ?a13 ?l13 ?c13 ?k13 ?a14 ?l14 ?c14 ?k14 ?a15 ?l15 ?c15 ?k15 ?a16 ?l16 ?c16 ?k16 ?a17 ?l17 ?c17 ?k17 ?a18 ?l18 ?c18 ?k18 ?a19 ?l19 ?c19 ?k19 ?a20 ?l20 ?c20 ?k20 ?a21 ?l21 ?c21 ?k21 ?a22 ?l22 ?c22 ?k22 ?a23 ?l23 ?c23 ?k23 ?a24 ?l24 ?c24 ?k24 ?a25 ?l25 ?c25 ?k25 ?a26 ?l26 ?c26 ?k26 ?a27 ?l27 ?c27 ?k27 ?a28 ?l28 ?c28 ?k28 ?a29 ?l29 ?c29 ?k29 ?a30 ?l30 ?c30 ?k30 ?a31 ?l31 ?c31 ?k31 ?a32 ?l32 ?c32 ?k32 ?a33 ?l33 ?c33 ?k33 ?a34 ?l34 ?c34 ?k34 ?a35 ?l35 ?c35 ?k35 ?a36 ?l36 ?c36 ?k36 ?a37 ?l37 ?c37 ?k37 ?z_abs ?z_bool ?z_divmod ?z_int ?z_isinstance ?z_len ?z_list ?z_max ?z_min ?z_range ?z_str ?z_tuple ?sfW ?neW ?aND ?xND ?kND ?bND ?tND ?iND ?sND ?aW ?lW ?aM ?lM ?kM ?sM ?m_floor ?m_ceiling ?m_cut ?m_away ?m_halfup ?m_halfdown ?m_halfeven ?m_halfaway ?m_halfcut
    (case aC_Worth => k_is)
    (case pg_Worth => k_is)
    (case hd_Worth => k_is)
    (case po_Worth => k_is)
    (case sa_Worth => k_is)
    (case mk_Worth => k_is)
    (case kc_Worth => k_is)
    (case tya_Worth => k_is)
    (case tyb_Worth => k_is)
    (case tyc_Worth => k_is)
    (case tyd_Worth => k_is)
    (case n_Worth_units => k_is)
    (case n_Worth_scale => k_is)
    (case a0 => k_is)
    (case l0 => k_is)
    (case c0 => k_is)
    (case k0 => k_is)
    (case a1 => k_is)
    (case l1 => k_is)
    (case c1 => k_is)
    (case k1 => k_is)
    (case a2 => k_is)
    (case l2 => k_is)
    (case c2 => k_is)
    (case k2 => k_is)
    (case a3 => k_is)
    (case l3 => k_is)
    (case c3 => k_is)
    (case k3 => k_is)
    (case a4 => k_is)
    (case l4 => k_is)
    (case c4 => k_is)
    (case k4 => k_is)
    (case a5 => k_is)
    (case l5 => k_is)
    (case c5 => k_is)
    (case k5 => k_is)
    (case a6 => k_is)
    (case l6 => k_is)
    (case c6 => k_is)
    (case k6 => k_is)
    (case a7 => k_is)
    (case i7 => k_is)
    (case l7 => k_is)
    (case c7 => k_is)
    (case k7 => k_is)
    (case e7 => k_is)
    (case a8 => k_is)
    (case i8 => k_is)
    (case l8 => k_is)
    (case c8 => k_is)
    (case k8 => k_is)
    (case a9 => k_is)
    (case i9 => k_is)
    (case l9 => k_is)
    (case c9 => k_is)
    (case k9 => k_is)
    (case a10 => k_is)
    (case i10 => k_is)
    (case l10 => k_is)
    (case c10 => k_is)
    (case k10 => k_is)
    (case a11 => k_is)
    (case l11 => k_is)
    (case c11 => k_is)
    (case k11 => k_is)
    (case a12 => k_is)
    (case l12 => k_is)
    (case c12 => k_is)
    (case k12 => k_is)
    (case a13 => k_is)
    (case l13 => k_is)
    (case c13 => k_is)
    (case k13 => k_is)
    (case a14 => k_is)
    (case l14 => k_is)
    (case c14 => k_is)
    (case k14 => k_is)
    (case a15 => k_is)
    (case l15 => k_is)
    (case c15 => k_is)
    (case k15 => k_is)
    (case a16 => k_is)
    (case l16 => k_is)
    (case c16 => k_is)
    (case k16 => k_is)
    (case a17 => k_is)
    (case l17 => k_is)
    (case c17 => k_is)
    (case k17 => k_is)
    (case a18 => k_is)
    (case l18 => k_is)
    (case c18 => k_is)
    (case k18 => k_is)
    (case a19 => k_is)
    (case l19 => k_is)
    (case c19 => k_is)
    (case k19 => k_is)
    (case a20 => k_is)
    (case l20 => k_is)
    (case c20 => k_is)
    (case k20 => k_is)
    (case a21 => k_is)
    (case l21 => k_is)
    (case c21 => k_is)
    (case k21 => k_is)
    (case a22 => k_is)
    (case l22 => k_is)
    (case c22 => k_is)
    (case k22 => k_is)
    (case a23 => k_is)
    (case l23 => k_is)
    (case c23 => k_is)
    (case k23 => k_is)
    (case a24 => k_is)
    (case l24 => k_is)
    (case c24 => k_is)
    (case k24 => k_is)
    (case a25 => k_is)
    (case l25 => k_is)
    (case c25 => k_is)
    (case k25 => k_is)
    (case a26 => k_is)
    (case l26 => k_is)
    (case c26 => k_is)
    (case k26 => k_is)
    (case a27 => k_is)
    (case l27 => k_is)
    (case c27 => k_is)
    (case k27 => k_is)
    (case a28 => k_is)
    (case l28 => k_is)
    (case c28 => k_is)
    (case k28 => k_is)
    (case a29 => k_is)
    (case l29 => k_is)
    (case c29 => k_is)
    (case k29 => k_is)
    (case a30 => k_is)
    (case l30 => k_is)
    (case c30 => k_is)
    (case k30 => k_is)
    (case a31 => k_is)
    (case l31 => k_is)
    (case c31 => k_is)
    (case k31 => k_is)
    (case a32 => k_is)
    (case l32 => k_is)
    (case c32 => k_is)
    (case k32 => k_is)
    (case a33 => k_is)
    (case l33 => k_is)
    (case c33 => k_is)
    (case k33 => k_is)
    (case a34 => k_is)
    (case l34 => k_is)
    (case c34 => k_is)
    (case k34 => k_is)
    (case a35 => k_is)
    (case l35 => k_is)
    (case c35 => k_is)
    (case k35 => k_is)
    (case a36 => k_is)
    (case l36 => k_is)
    (case c36 => k_is)
    (case k36 => k_is)
    (case a37 => k_is)
    (case l37 => k_is)
    (case c37 => k_is)
    (case k37 => k_is)
    (case z_abs => k_is)
    (case z_bool => k_is)
    (case z_divmod => k_is)
    (case z_int => k_is)
    (case z_isinstance => k_is)
    (case z_len => k_is)
    (case z_list => k_is)
    (case z_max => k_is)
    (case z_min => k_is)
    (case z_range => k_is)
    (case z_str => k_is)
    (case z_tuple => k_is)
    (case sfW => first | k_is | rfl | decide +kernel)
    (case neW => k_is)
    (case aND => k_is)
    (case xND => k_exc)
    (case kND => k_is)
    (case bND => k_is)
    (case tND => k_is)
    (case iND => k_is)
    (case sND => first | rfl | k_is)
    (case aW => k_is)
    (case lW => k_is)
    (case aM => k_is)
    (case lM => k_is)
    (case kM => k_keys)
    (case sM => decide)
    (case m_floor => k_is)
    (case m_ceiling => k_is)
    (case m_cut => k_is)
    (case m_away => k_is)
    (case m_halfup => k_is)
    (case m_halfdown => k_is)
    (case m_halfeven => k_is)
    (case m_halfaway => k_is)
    (case m_halfcut => k_is)
