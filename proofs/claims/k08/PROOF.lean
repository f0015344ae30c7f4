import PyProof.Rows.All
import Wide.All
import OpenK.AllK
import Wide.FinOn
import HandS.ForMost
import HandS.IsInst
import HandS.Conv
import HandS.More
import HandS.Walk
import HandS.RevRange
import PySem.Challenge.RW_onestep_k08_whole_sets_once
set_option Elab.async false
set_option linter.all false
set_option maxRecDepth 100000
set_option maxHeartbeats 4000000
/-! ### one step of a reading at a time -/
namespace One
open PySem L2
section
variable {σ : L2.St} {H : Hp} {Q : VK} {D : Ends} {ta tb te : TE} {tt tu : TT} {t u : TS} {tr : TA} {g : TG}
theorem rd_var {i : Nat} (k : ∃ v, σ[i]? = some (some v) ∧ Q v H) : tVar i σ H Q := k
theorem rd_c {v : V} (k : Q v H) : tC v σ H Q := k
theorem rd_op {r : R2} (k : ta σ H fun x H1 => tb σ H1 fun y H2 => r x y H2 Q) : tOp r ta tb σ H Q := k
theorem rd_un {r : V → Hp → VK → Prop} (k : ta σ H fun x H1 => r x H1 Q) : tUn r ta σ H Q := k
theorem rd_neg {i : Int} (k : Q (.int (-i)) H) : rU (fun i => .int (-i)) (.int i) H Q := ⟨i, rfl, k⟩
theorem rd_i0 {f : Int → Int → V} {i j : Int} (k : Q (f i j) H) : rI0 f (.int i) (.int j) H Q := ⟨i, j, rfl, rfl, k⟩
theorem rd_i {C : Int → Int → Prop} {f : Int → Int → V} {i j : Int} (c : C i j) (k : Q (f i j) H) : rI C f (.int i) (.int j) H Q := ⟨i, j, rfl, rfl, c, k⟩
theorem rd_mul1 {f : Int → Int → V} {i j : Int} (c : -(2 ^ 64) < i ∧ i < 2 ^ 64) (k : Q (f i j) H) : rI CMul f (.int i) (.int j) H Q := ⟨i, j, rfl, rfl, .inl c, k⟩
theorem rd_mul2 {f : Int → Int → V} {i j : Int} (c : -(2 ^ 64) < j ∧ j < 2 ^ 64) (k : Q (f i j) H) : rI CMul f (.int i) (.int j) H Q := ⟨i, j, rfl, rfl, .inr c, k⟩
theorem rd_div {f : Int → Int → V} {i j : Int} (c : 0 < j ∧ j < 1073741824) (k : Q (f i j) H) : rI CDiv f (.int i) (.int j) H Q := ⟨i, j, rfl, rfl, c, k⟩
theorem rd_mod {f : Int → Int → V} {i j : Int} (c : 0 < j) (k : Q (f i j) H) : rI (fun _ j => 0 < j) f (.int i) (.int j) H Q := ⟨i, j, rfl, rfl, c, k⟩
theorem int_eq {i j : Int} : decide (V.int i = V.int j) = decide (i = j) := by
  by_cases h : i = j
  · rw [decide_eq_true h, decide_eq_true (by rw [h])]
  · rw [decide_eq_false h, decide_eq_false fun e => h (V.int.inj e)]
theorem bl_eq {i j : Bool} : decide (V.bl i = V.bl j) = (i == j) := by
  cases i <;> cases j <;> rfl
theorem rd_eq {i j : Int} (k : Q (.bl (decide (i = j))) H) : rEq (.int i) (.int j) H Q := ⟨rfl, by rw [int_eq]; exact k⟩
theorem rd_ne {i j : Int} (k : Q (.bl (!decide (i = j))) H) : rNe (.int i) (.int j) H Q := ⟨rfl, by rw [int_eq]; exact k⟩
theorem rd_eqB {i j : Bool} (k : Q (.bl (i == j)) H) : rEq (.bl i) (.bl j) H Q := ⟨rfl, by rw [bl_eq]; exact k⟩
theorem rd_neB {i j : Bool} (k : Q (.bl (!(i == j))) H) : rNe (.bl i) (.bl j) H Q := ⟨rfl, by rw [bl_eq]; exact k⟩
theorem rd_test {Q : Bool → Hp → Prop} (k : te σ H fun x H1 => ∃ k, x = .bl k ∧ Q k H1) : tTest te σ H Q := k
theorem rd_tB {Q : Bool → Hp → Prop} (k : te σ H fun x H1 => ∃ k, x = .bl k ∧ Q k H1) : tB te σ H Q := k
theorem rd_bl {b : Bool} {P : Bool → Prop} (k : P b) : ∃ k, V.bl b = .bl k ∧ P k := ⟨b, rfl, k⟩
theorem rd_and {Q : Bool → Hp → Prop} (k : tt σ H fun c H1 => if c = true then tu σ H1 Q else Q false H1) : tAnd tt tu σ H Q := k
theorem rd_or {Q : Bool → Hp → Prop} (k : tt σ H fun c H1 => if c = true then Q true H1 else tu σ H1 Q) : tOr tt tu σ H Q := k
theorem rd_not {Q : Bool → Hp → Prop} (k : tt σ H fun c H1 => Q (!c) H1) : tNot tt σ H Q := k
theorem rd_andV (k : ta σ H fun x H1 => ∃ c, x = .bl c ∧ if c = true then tb σ H1 Q else Q (.bl false) H1) : tAndV ta tb σ H Q := k
theorem rd_orV (k : ta σ H fun x H1 => ∃ c, x = .bl c ∧ if c = true then Q (.bl true) H1 else tb σ H1 Q) : tOrV ta tb σ H Q := k
theorem rd_notV (k : ta σ H fun x H1 => ∃ c, x = .bl c ∧ Q (.bl (!c)) H1) : tNotV ta σ H Q := k
theorem rd_ifx (k : tt σ H fun c H1 => if c = true then ta σ H1 Q else tb σ H1 Q) : tIf tt ta tb σ H Q := k
theorem rd_seq (k : t { D with nx := u D } σ H) : tSeq t u D σ H := k
theorem rd_next (k : D.nx σ H) : tNext D σ H := k
theorem rd_asg (k : te σ H fun x H1 => g x σ H1 D.nx) : tAsg te g D σ H := k
theorem rd_name {i : Nat} {v : V} {N : L2.St → Hp → Prop} (k : N (σ.set i (some v)) H) : gName i v σ H N := k
theorem rd_par {i j : Nat} {ta : TA} (k : ta σ H fun vs H1 => ∃ v w, vs = [v, w] ∧ D.nx ((σ.set i (some v)).set j (some w)) H1) : tPar i j ta D σ H := k
theorem rd_two {v w : V} {P : V → V → Prop} (k : P v w) : ∃ v' w', [v, w] = [v', w'] ∧ P v' w' := ⟨v, w, rfl, k⟩
theorem rd_drop (k : te σ H fun _ H1 => D.nx σ H1) : tDrop te D σ H := k
theorem rd_ret (k : te σ H D.rt) : tRet te D σ H := k
theorem rd_if (k : tt σ H fun b H1 => if b = true then t D σ H1 else u D σ H1) : tIfS tt t u D σ H := k
theorem rd_nil {Q : List V → Hp → Prop} (k : Q [] H) : tNil σ H Q := k
theorem rd_cons {Q : List V → Hp → Prop} (k : ta σ H fun x H1 => tr σ H1 fun xs H2 => Q (x :: xs) H2) : tCons ta tr σ H Q := k
theorem rd_cb {r : List V → Hp → VK → Prop} (k : tr σ H fun vs H1 => r vs H1 Q) : tCB r tr σ H Q := k
theorem rd_call {sp : Sp} {dvs : List V} {E : XK} (k : tr σ H fun vs H1 => sp (vs ++ dvs) H1 Q E) : tCall sp dvs E tr σ H Q := k
theorem rd_tup (k : tr σ H fun xs H1 => xs.length ≤ sizeLine ∧ ∀ p, H1 p = none → Q (.ref p) (upd H1 p (.tup xs))) : tTup tr σ H Q := k
theorem rd_lst (k : tr σ H fun xs H1 => xs.length ≤ sizeLine ∧ ∀ p, H1 p = none → Q (.ref p) (upd H1 p (.lst xs))) : tLst tr σ H Q := k
/-- the new thing's size is seen by its form; the new address is then for an intro -/
theorem rd_new {xs : List V} {P : Prop} (h : xs.length ≤ sizeLine) (k : P) : xs.length ≤ sizeLine ∧ P := ⟨h, k⟩
theorem rd_bm {K : PySem.W.Frag} {T : String} {r : V → List V → Hp → VK → Prop} (k : ta σ H fun x H1 => tyV K T x H1 ∧ tr σ H1 fun xs H2 => r x xs H2 Q) : tBM K T r ta tr σ H Q := k
theorem rd_sl {r : V → Option Int → Option Int → Hp → VK → Prop} {tl th : TO} (k : te σ H fun x H1 => tl σ H1 fun l H2 => th σ H2 fun u H3 => r x l u H3 Q) : tSl r te tl th σ H Q := k
theorem rd_nopart {Q : Option Int → Hp → Prop} (k : Q none H) : tNoPart σ H Q := k
theorem rd_part {Q : Option Int → Hp → Prop} (k : te σ H fun x H1 => ∃ i, x = .int i ∧ Q (some i) H1) : tPart te σ H Q := k
theorem rd_ni {i : Int} {P : Int → Prop} (k : P i) : ∃ j, V.int i = .int j ∧ P j := ⟨i, rfl, k⟩
/-- loops: the source's values first -/
def R1 (g : TG) (tb : TS) (D : Ends) (σ : L2.St) (vs : List V) (H : Hp) : Prop := ∃ j : Int, vs = [.int j] ∧ -(2 ^ 62) ≤ j ∧ j < 2 ^ 62 ∧ ∃ W : Nat → Nat → L2.St → Hp → Prop, (∃ m, W 0 m σ H) ∧ ∀ i m σ H, W i m σ H →
  ((Itr 0 j.toNat).stop i H ∧ D.nx σ H) ∨ ((Itr 0 j.toNat).go i H ∧ ∃ N : L2.St → Hp → Prop, (∀ σ' H', N σ' H' → ∃ m', m' < m ∧ W (i + 1) m' σ' H') ∧ ∀ x H', (Itr 0 j.toNat).yld i H x H' → g x σ H' fun σ2 H2 => tb { D with nx := N, ct := N, bk := D.nx } σ2 H2)
theorem rd_for1 {tb : TS} (k : tr σ H fun vs H1 => R1 g tb D σ vs H1) : tFor (iRng1 tr) g tb D σ H := k
/-- for i in range(n) -/
theorem for1 {tb : TS} {i n : Nat} (hn : n < 2 ^ 62) (Pv : Nat → L2.St → Hp → Prop) (h0 : Pv 0 σ H)
    (hs : ∀ k σ H, k < n → Pv k σ H → tb { D with nx := Pv (k + 1), ct := Pv (k + 1), bk := D.nx } (σ.set i (some (.int (k : Int)))) H) (hd : ∀ σ H, Pv n σ H → D.nx σ H) : R1 (gName i) tb D σ [.int (n : Int)] H :=
  ⟨n, rfl, by omega, by omega, for_range (lo := 0) (n := (n : Int).toNat) Pv h0 (fun k σ H hk p => by
    have e0 : (0 : Int) + (k : Int) = (k : Int) := Int.zero_add _
    show tb { D with nx := Pv (k + 1), ct := Pv (k + 1), bk := D.nx } (σ.set i (some (.int ((0 : Int) + (k : Int))))) H
    rw [e0]
    exact hs k σ H (by omega) p) hd⟩
def RL (K : PySem.W.Frag) (g : TG) (tb : TS) (D : Ends) (σ : L2.St) (x : V) (H : Hp) : Prop := ∃ a, x = .ref a ∧ (∃ xs, SqL K H a xs) ∧ ∃ W : Nat → Nat → L2.St → Hp → Prop, (∃ m, W 0 m σ H) ∧ ∀ i m σ H, W i m σ H →
  ((Itl K a).stop i H ∧ D.nx σ H) ∨ ((Itl K a).go i H ∧ ∃ N : L2.St → Hp → Prop, (∀ σ' H', N σ' H' → ∃ m', m' < m ∧ W (i + 1) m' σ' H') ∧ ∀ x H', (Itl K a).yld i H x H' → g x σ H' fun σ2 H2 => tb { D with nx := N, ct := N, bk := D.nx } σ2 H2)
theorem rd_forL {K : PySem.W.Frag} {tb : TS} (k : te σ H fun x H1 => RL K g tb D σ x H1) : tFor (iList K te) g tb D σ H := k
/-- for x in xs, a list that stands still -/
theorem forL {K : PySem.W.Frag} {tb : TS} {a : Addr} {xs : List V} (Pv : Nat → L2.St → Hp → Prop) (h0 : Pv 0 σ H) (hl : ∀ i σ H, i ≤ xs.length → Pv i σ H → SqL K H a xs)
    (hs : ∀ i x σ H, xs[i]? = some x → Pv i σ H → g x σ H fun σ2 H2 => tb { D with nx := Pv (i + 1), ct := Pv (i + 1), bk := D.nx } σ2 H2) (hd : ∀ σ H, Pv xs.length σ H → D.nx σ H) : RL K g tb D σ (.ref a) H :=
  ⟨a, rfl, ⟨xs, hl 0 σ H (Nat.zero_le _) h0⟩, for_list Pv h0 hl hs hd⟩
/-- while: the body's wish -/
def RW (W : Nat → L2.St → Hp → Prop) (m : Nat) (tb : TS) (D : Ends) (σ : L2.St) (H1 : Hp) : Prop := ∃ N : L2.St → Hp → Prop, (∀ σ' H', N σ' H' → ∃ m', m' < m ∧ W m' σ' H') ∧ tb { D with nx := N, ct := N, bk := D.nx } σ H1
theorem whil {tb : TS} (W : Nat → L2.St → Hp → Prop) (m0 : Nat) (h0 : W m0 σ H) (hs : ∀ m σ H, W m σ H → tt σ H fun b H1 => if b = true then RW W m tb D σ H1 else D.nx σ H1) : tWhile tt tb D σ H := ⟨W, ⟨m0, h0⟩, hs⟩
theorem whil_in {W : Nat → L2.St → Hp → Prop} {m : Nat} {tb : TS} (k : tb { D with nx := fun σ' H' => ∃ m', m' < m ∧ W m' σ' H', ct := fun σ' H' => ∃ m', m' < m ∧ W m' σ' H', bk := D.nx } σ H) : RW W m tb D σ H := ⟨_, fun _ _ h => h, k⟩
/-- for x in reversed(xs) -/
def RV (K : PySem.W.Frag) (g : TG) (tb : TS) (D : Ends) (σ : L2.St) (vs : List V) (H : Hp) : Prop := ∃ (a : Addr) (xs : List V), vs = [.ref a] ∧ SqL K H a xs ∧ ∃ W : Nat → Nat → L2.St → Hp → Prop, (∃ m, W 0 m σ H) ∧ ∀ i m σ H, W i m σ H →
  ((Itv K a xs.length).stop i H ∧ D.nx σ H) ∨ ((Itv K a xs.length).go i H ∧ ∃ N : L2.St → Hp → Prop, (∀ σ' H', N σ' H' → ∃ m', m' < m ∧ W (i + 1) m' σ' H') ∧ ∀ x H', (Itv K a xs.length).yld i H x H' → g x σ H' fun σ2 H2 => tb { D with nx := N, ct := N, bk := D.nx } σ2 H2)
theorem rd_forV {K : PySem.W.Frag} {tb : TS} (k : tr σ H fun vs H1 => RV K g tb D σ vs H1) : tFor (iRev K tr) g tb D σ H := k
theorem forV {K : PySem.W.Frag} {tb : TS} {a : Addr} {xs : List V} (Pv : Nat → L2.St → Hp → Prop) (h0 : Pv 0 σ H) (hl : ∀ i σ H, i ≤ xs.length → Pv i σ H → SqL K H a xs)
    (hs : ∀ i x σ H, i < xs.length → xs[xs.length - 1 - i]? = some x → Pv i σ H → g x σ H fun σ2 H2 => tb { D with nx := Pv (i + 1), ct := Pv (i + 1), bk := D.nx } σ2 H2) (hd : ∀ σ H, Pv xs.length σ H → D.nx σ H) : RV K g tb D σ [.ref a] H := by
  refine ⟨a, xs, rfl, hl 0 σ H (Nat.zero_le _) h0, fun i m σ H => m = xs.length - i ∧ i ≤ xs.length ∧ Pv i σ H, ⟨xs.length, by simp, Nat.zero_le _, h0⟩, ?_⟩
  rintro i m σ H ⟨rfl, hi, p⟩
  have q := hl i σ H hi p
  by_cases hlt : i < xs.length
  · have e : xs[xs.length - 1 - i]? = some (xs[xs.length - 1 - i]'(by omega)) := List.getElem?_eq_getElem (by omega)
    refine .inr ⟨⟨hlt, xs, _, q, e⟩, Pv (i + 1), fun σ' H' p' => ⟨xs.length - (i + 1), by omega, rfl, hlt, p'⟩, fun x H' y => ?_⟩
    obtain ⟨rfl, y⟩ := y
    exact hs i x _ _ hlt (y xs q) p
  · have e : i = xs.length := by omega
    subst e
    exact .inl ⟨Nat.le_refl _, hd σ H p⟩
end
/-! ### known branches -/
section
variable {A B : Prop}
theorem if_t (a : A) : if true = true then A else B := a
theorem if_f (b : B) : if false = true then A else B := by
  rw [if_neg Bool.false_ne_true]
  exact b
theorem if_ft (b : B) : if (!true) = true then A else B := if_f b
theorem if_tf (a : A) : if (!false) = true then A else B := a
theorem if_dt {p : Prop} [Decidable p] (h : p) (a : A) : if decide p = true then A else B := by
  rw [if_pos (decide_eq_true h)]
  exact a
theorem if_df {p : Prop} [Decidable p] (h : ¬ p) (b : B) : if decide p = true then A else B := by
  rw [if_neg (by simpa using h)]
  exact b
theorem if_nt {p : Prop} [Decidable p] (h : ¬ p) (a : A) : if (!decide p) = true then A else B := by
  rw [if_pos (by simpa using h)]
  exact a
theorem if_nf {p : Prop} [Decidable p] (h : p) (b : B) : if (!decide p) = true then A else B := by
  rw [if_neg (by simpa using h)]
  exact b
theorem if_d2 {p : Prop} [Decidable p] (a : p → A) (b : ¬ p → B) : if decide p = true then A else B := by
  by_cases h : p
  · exact if_dt h (a h)
  · exact if_df h (b h)
theorem if_n2 {p : Prop} [Decidable p] (a : ¬ p → A) (b : p → B) : if (!decide p) = true then A else B := by
  by_cases h : p
  · exact if_nf h (b h)
  · exact if_nt h (a h)
theorem if_b2 {c : Bool} (a : c = true → A) (b : c = false → B) : if c = true then A else B := by
  cases c with
  | true => exact a rfl
  | false => exact if_f (b rfl)
end
/-! ### heaps -/
theorem same_upd {H : Hp} {p : Addr} {o : HO} (h : H p = none) : Same H (upd H p o) := fun b x e => by
  rw [upd_ne (ne_of_none e h)]
  exact e
/-- a thing that H does not know may change -/
theorem same_mut {H H' : Hp} {p : Addr} {o : HO} (e : Same H H') (h : H p = none) : Same H (upd H' p o) := fun a u ha => by
  rw [upd_ne (ne_of_none ha h)]
  exact e a u ha
theorem same_list {K : PySem.W.Frag} {H H' : Hp} {a : Addr} {xs : List V} (e : Same H H') (h : SqL K H a xs) : SqL K H' a xs := e.seq h
theorem at_int {ns : List Int} {i : Nat} {x : V} (h : (ns.map V.int)[i]? = some x) : ∃ z, ns[i]? = some z ∧ x = V.int z := by
  rw [List.getElem?_map] at h
  cases e : ns[i]? with
  | none =>
    rw [e] at h
    cases h
  | some z =>
    rw [e] at h
    exact ⟨z, rfl, (Option.some.inj h).symm⟩
end One
/-! ### isinstance, lists, cells -/
namespace One
open PySem L2
section
variable {K : PySem.W.Frag} {σ : L2.St} {H : Hp} {Q : VK} {D : Ends}
theorem kit_ii : PySem.W.kitOne K (.type "int") (.type "int") = some true := kit_ty (by decide +kernel)
theorem kit_ib : PySem.W.kitOne K (.type "int") (.type "bool") = some false := kit_ty (by decide +kernel)
theorem kit_bb : PySem.W.kitOne K (.type "bool") (.type "bool") = some true := kit_ty (by decide +kernel)
theorem kit_ll : PySem.W.kitOne K (.type "list") (.type "list") = some true := kit_ty (by decide +kernel)
theorem kit_tt : PySem.W.kitOne K (.type "tuple") (.type "tuple") = some true := kit_ty (by decide +kernel)
theorem isi_ii {i : Int} (k : Q (.bl true) H) : rIsi K [.int i, .ty "int"] H Q := ⟨_, _, _, _, _, rfl, .ty _, .base (.int i), kit_ii, k⟩
theorem isi_ib {i : Int} (k : Q (.bl false) H) : rIsi K [.int i, .ty "bool"] H Q := ⟨_, _, _, _, _, rfl, .ty _, .base (.int i), kit_ib, k⟩
theorem isi_bb {i : Bool} (k : Q (.bl true) H) : rIsi K [.bl i, .ty "bool"] H Q := ⟨_, _, _, _, _, rfl, .ty _, .base (.bl i), kit_bb, k⟩
theorem isi_ll {a : Addr} {xs : List V} (h : H a = some (.lst xs)) (k : Q (.bl true) H) : rIsi K [.ref a, .ty "list"] H Q := ⟨_, _, _, _, _, rfl, .ty _, .base (.lst h), kit_ll, k⟩
theorem isi_tt {a : Addr} {xs : List V} (h : H a = some (.tup xs)) (k : Q (.bl true) H) : rIsi K [.ref a, .ty "tuple"] H Q := ⟨_, _, _, _, _, rfl, .ty _, .base (.tup h), kit_tt, k⟩
/-- len(xs) -/
theorem rd_len {a : Addr} {xs : List V} {P : List V → Prop} (h : SqL K H a xs) (k : P xs) : ∃ p ys, [V.ref a] = [.ref p] ∧ (SqL K H p ys ∨ SqT K H p ys) ∧ P ys := ⟨a, xs, rfl, .inl h, k⟩
theorem rd_lenT {a : Addr} {xs : List V} {P : List V → Prop} (h : SqT K H a xs) (k : P xs) : ∃ p ys, [V.ref a] = [.ref p] ∧ (SqL K H p ys ∨ SqT K H p ys) ∧ P ys := ⟨a, xs, rfl, .inr h, k⟩
/-- xs[i] -/
theorem rd_at {a : Addr} {xs : List V} {i : Nat} {v : V} (h : SqL K H a xs) (e : xs[i]? = some v) (k : Q v H) : rIxL K (.ref a) (.int (i : Int)) H Q := ⟨a, xs, i, v, rfl, rfl, h, atI_nat e, k⟩
theorem rd_atT {a : Addr} {xs : List V} {i : Nat} {v : V} (h : SqT K H a xs) (e : xs[i]? = some v) (k : Q v H) : rIxT K (.ref a) (.int (i : Int)) H Q := ⟨a, xs, i, v, rfl, rfl, h, atI_nat e, k⟩
theorem tyL {a : Addr} {xs : List V} (h : H a = some (.lst xs)) : tyV K "list" (.ref a) H := .inl ⟨rfl, _, .inl (.inl h)⟩
/-- xs.append(y) -/
theorem rd_app {a : Addr} {xs : List V} {y : V} (h : H a = some (.lst xs)) (hs : xs.length < 100000) (k : Q .non (upd H a (.lst (xs ++ [y])))) : rAppend (.ref a) [y] H Q := ⟨a, xs, y, rfl, rfl, h, Nat.lt_of_lt_of_le hs (by decide), k⟩
/-- xs + ys -/
theorem rd_cat {a b : Addr} {xs ys : List V} (h : H a = some (.lst xs)) (h2 : H b = some (.lst ys)) (hs : xs.length + ys.length ≤ 100000) (k : ∀ p, H p = none → Q (.ref p) (upd H p (.lst (xs ++ ys)))) : rCat (.ref a) (.ref b) H Q := ⟨a, b, xs, ys, rfl, rfl, h, h2, Nat.le_trans hs (by decide), k⟩
theorem rd_newL {n : Nat} {P : Prop} (hs : n ≤ 100000) (k : P) : n ≤ sizeLine ∧ P := ⟨Nat.le_trans hs (by decide), k⟩
theorem bls_at {bs : List Bool} {i : Nat} {b : Bool} (h : bs[i]? = some b) : (bs.map V.bl)[i]? = some (.bl b) := by
  rw [List.getElem?_map, h]
  rfl
theorem ints_at {bs : List Int} {i : Nat} {b : Int} (h : bs[i]? = some b) : (bs.map V.int)[i]? = some (.int b) := by
  rw [List.getElem?_map, h]
  rfl
end
end One
namespace One
open PySem L2
theorem vi1 {a b : Int} (h : a = b) : [V.int a] = [V.int b] := by rw [h]
theorem vi2 {a b c d : Int} (h : a = b) (h2 : c = d) : [V.int a, V.int c] = [V.int b, V.int d] := by rw [h, h2]
theorem vi3 {a b c d e f : Int} (h : a = b) (h2 : c = d) (h3 : e = f) : [V.int a, V.int c, V.int e] = [V.int b, V.int d, V.int f] := by rw [h, h2, h3]
theorem vr1 {p : Addr} {a b : Int} (h : a = b) : [V.ref p, V.int a] = [V.ref p, V.int b] := by rw [h]
/-- law's: a list of at most 63 ints is handed in, True comes out -/
def spLaw (K : PySem.W.Frag) : Sp := fun vs H Q _ => ∃ (a : Addr) (ns : List Int), vs = [.ref a] ∧ SqL K H a (ns.map V.int) ∧ ns.length ≤ 63 ∧ ∀ H', Q (.bl true) H'
end One
/-! ### two lists compared: ints, truths -/
namespace One
open PySem L2
section
variable {K : PySem.W.Frag} {H : Hp} {Q : VK}
def dInts (ns : List Int) : PyData := .list (ns.map PyData.int)
def dBls (ns : List Bool) : PyData := .list (ns.map PyData.bool)
theorem dpA_int : ∀ ns : List Int, DpAll K H (ns.map V.int) (ns.map PyData.int)
  | [] => .nil
  | n :: r => .cons (.int n) (dpA_int r)
theorem dpA_bl : ∀ ns : List Bool, DpAll K H (ns.map V.bl) (ns.map PyData.bool)
  | [] => .nil
  | n :: r => .cons (.bl n) (dpA_bl r)
theorem dp_ints {a : Addr} {ns : List Int} (h : SqL K H a (ns.map V.int)) : Dp K H (.ref a) (dInts ns) := .lst h (dpA_int ns)
theorem dp_bls {a : Addr} {ns : List Bool} (h : SqL K H a (ns.map V.bl)) : Dp K H (.ref a) (dBls ns) := .lst h (dpA_bl ns)
end
end One
namespace One
open PySem L2
theorem cl_ints : ∀ ns : List Int, PyData.canLayAll0 (ns.map PyData.int) = true
  | [] => rfl
  | n :: r => by
    show (PyData.canLay0 (.int n) && PyData.canLayAll0 (r.map PyData.int)) = true
    rw [cl_ints r]
    rfl
theorem cl_bls : ∀ ns : List Bool, PyData.canLayAll0 (ns.map PyData.bool) = true
  | [] => rfl
  | n :: r => by
    show (PyData.canLay0 (.bool n) && PyData.canLayAll0 (r.map PyData.bool)) = true
    rw [cl_bls r]
    rfl
theorem dep_ints : ∀ ns : List Int, PyData.depthAll (ns.map PyData.int) = 0
  | [] => rfl
  | n :: r => by
    show max (PyData.depth (.int n)) (PyData.depthAll (r.map PyData.int)) = 0
    rw [dep_ints r]
    rfl
theorem dep_bls : ∀ ns : List Bool, PyData.depthAll (ns.map PyData.bool) = 0
  | [] => rfl
  | n :: r => by
    show max (PyData.depth (.bool n)) (PyData.depthAll (r.map PyData.bool)) = 0
    rw [dep_bls r]
    rfl
theorem lay_ints (ns : List Int) : (dInts ns).canLay0 = true := cl_ints ns
theorem lay_bls (ns : List Bool) : (dBls ns).canLay0 = true := cl_bls ns
theorem shp_ints (ns : List Int) : SeqAt.shaped (dInts ns) = true := by
  have e : (dInts ns).depth = 1 := by
    show PyData.depthAll (ns.map PyData.int) + 1 = 1
    rw [dep_ints]
  unfold SeqAt.shaped
  rw [lay_ints, e]
  rfl
theorem shp_bls (ns : List Bool) : SeqAt.shaped (dBls ns) = true := by
  have e : (dBls ns).depth = 1 := by
    show PyData.depthAll (ns.map PyData.bool) + 1 = 1
    rw [dep_bls]
  unfold SeqAt.shaped
  rw [lay_bls, e]
  rfl
section
variable {K : PySem.W.Frag} {H : Hp} {Q : VK} {a b : Addr}
/-- equal lists: != gives False, == True -/
theorem rd_neI {ns : List Int} (ha : SqL K H a (ns.map V.int)) (hb : SqL K H b (ns.map V.int)) (k : Q (.bl false) H) : rNeD K (.ref a) (.ref b) H Q :=
  ⟨dInts ns, dInts ns, dp_ints ha, dp_ints hb, shp_ints ns, shp_ints ns, by rw [SeqAt.eqv_refl _ (lay_ints ns)]; exact k⟩
theorem rd_neBs {ns : List Bool} (ha : SqL K H a (ns.map V.bl)) (hb : SqL K H b (ns.map V.bl)) (k : Q (.bl false) H) : rNeD K (.ref a) (.ref b) H Q :=
  ⟨dBls ns, dBls ns, dp_bls ha, dp_bls hb, shp_bls ns, shp_bls ns, by rw [SeqAt.eqv_refl _ (lay_bls ns)]; exact k⟩
theorem rd_eqI {ns : List Int} (ha : SqL K H a (ns.map V.int)) (hb : SqL K H b (ns.map V.int)) (k : Q (.bl true) H) : rEqD K (.ref a) (.ref b) H Q :=
  ⟨dInts ns, dInts ns, dp_ints ha, dp_ints hb, shp_ints ns, shp_ints ns, by rw [SeqAt.eqv_refl _ (lay_ints ns)]; exact k⟩
theorem rd_eqBs {ns : List Bool} (ha : SqL K H a (ns.map V.bl)) (hb : SqL K H b (ns.map V.bl)) (k : Q (.bl true) H) : rEqD K (.ref a) (.ref b) H Q :=
  ⟨dBls ns, dBls ns, dp_bls ha, dp_bls hb, shp_bls ns, shp_bls ns, by rw [SeqAt.eqv_refl _ (lay_bls ns)]; exact k⟩
theorem rd_intB {b : Bool} {P : Int → Prop} (k : P (if b = true then 1 else 0)) : (∃ i, [V.bl b] = [.int i] ∧ P i) ∨ ∃ k, [V.bl b] = [.bl k] ∧ P (if k = true then 1 else 0) := .inr ⟨b, rfl, k⟩
theorem rd_listOf {xs : List V} {P : Addr → List V → Prop} (h : SqL K H a xs) (k : ∀ l, H l = none → P l xs) : ∃ p ys, [V.ref a] = [.ref p] ∧ (SqL K H p ys ∨ SqT K H p ys) ∧ ∀ l, H l = none → P l ys := ⟨a, xs, rfl, .inl h, k⟩
end
end One
namespace One
open PySem L2
/-- a list of natural numbers, as whole numbers -/
def zs (l : List Nat) : List Int := l.map fun (x : Nat) => (x : Int)
theorem zs_len (l : List Nat) : (zs l).length = l.length := List.length_map _
theorem zsV_len (l : List Nat) : ((zs l).map V.int).length = l.length := by rw [List.length_map, zs_len]
theorem zs_at {l : List Nat} {i x : Nat} (h : l[i]? = some x) : ((zs l).map V.int)[i]? = some (.int (x : Int)) := by
  rw [List.getElem?_map]
  unfold zs
  rw [List.getElem?_map, h]
  rfl
theorem zs_snoc (l : List Nat) (n : Nat) : (zs (l ++ [n])).map V.int = (zs l).map V.int ++ [.int (n : Int)] := by
  unfold zs
  rw [List.map_append, List.map_append]
  rfl
theorem zs_cons (l : List Nat) (n : Nat) : (zs (n :: l)).map V.int = .int (n : Int) :: (zs l).map V.int := rfl
section
variable {K : PySem.W.Frag} {H : Hp} {Q : VK}
/-- xs.insert(i, y) -/
theorem rd_ins {a : Addr} {xs : List V} {y : V} {z : Int} {i : Nat} {P : Addr → List V → Int → V → Prop} (hz : z = (i : Int)) (h : H a = some (.lst xs)) (hs : xs.length < 100000) (hi : i ≤ 100000) (k : P a xs (i : Int) y) :
    ∃ (l : Addr) (xs : List V) (i : Int) (y' : V), V.ref a = .ref l ∧ [V.int z, y] = [.int i, y'] ∧ H l = some (.lst xs) ∧ xs.length < sizeLine ∧ 0 ≤ i ∧ i < 2 ^ 63 ∧ P l xs i y' := by
  subst hz
  exact ⟨a, xs, i, y, rfl, rfl, h, Nat.lt_of_lt_of_le hs (by decide), by omega, by omega, k⟩
end
end One
/-! ### comprehensions -/
namespace One
open PySem L2
section
variable {K : PySem.W.Frag} {J : It} {n : Nat} {G : Hp → Prop} {Y : Nat → Hp → V → Hp → Prop} {σ : L2.St} {H H1 H' H4 : Hp} {Q : VK} {g : TG} {tt : TT} {te el : TE} {tr : TA} {vs : List Nat} {ws : Nat → List V} {D : Addr} {f : Nat → Bool} {v : Nat → V} {i : Nat} {y : V}
/-- the loop of a comprehension whose iterator has come -/
def Lc (J : It) (g : TG) (tt : TT) (el : TE) (vs : List Nat) (σ : L2.St) (Q : VK) (H1 : Hp) : Prop := ∀ D, H1 D = none → ∃ W : Nat → Nat → Hp → Prop, (∃ m, W 0 m (upd H1 D (.lst []))) ∧ ∀ i m H, W i m H →
  (J.stop i H ∧ Q (.ref D) H) ∨ (J.go i H ∧ ∃ Nx : Hp → Prop, (∀ H', Nx H' → ∃ m', m' < m ∧ W (i + 1) m' H') ∧ ∀ x H', J.yld i H x H' → g x (wipe σ vs) H' fun σ2 H2 => wipe σ2 vs = wipe σ vs ∧ tt σ2 H2 fun b H3 =>
    if b = true then el σ2 H3 fun y H4 => ∃ acc, H4 D = some (.lst acc) ∧ acc.length < sizeLine ∧ Nx (upd H4 D (.lst (acc ++ [y]))) else Nx H3)
theorem rd_lcL (k : te σ H fun x H1 => ∃ a, x = .ref a ∧ (∃ xs, SqL K H1 a xs) ∧ Lc (Itl K a) g tt el vs σ Q H1) : tLc (iList K te) g tt el vs σ H Q := k
theorem rd_lcV (k : tr σ H fun ws H1 => ∃ (a : Addr) (xs : List V), ws = [.ref a] ∧ SqL K H1 a xs ∧ Lc (Itv K a xs.length) g tt el vs σ Q H1) : tLc (iRev K tr) g tt el vs σ H Q := k
theorem rd_lcR (k : tr σ H fun ws H1 => ∃ j : Int, ws = [.int j] ∧ -(2 ^ 62) ≤ j ∧ j < 2 ^ 62 ∧ Lc (Itr 0 j.toNat) g tt el vs σ Q H1) : tLc (iRng1 tr) g tt el vs σ H Q := k
theorem lc_a {a : Addr} {xs : List V} {P : Addr → Prop} (h : SqL K H a xs) (k : P a) : ∃ b, V.ref a = .ref b ∧ (∃ xs, SqL K H b xs) ∧ P b := ⟨a, rfl, ⟨xs, h⟩, k⟩
theorem lc_v {a : Addr} {xs : List V} {P : Addr → List V → Prop} (h : SqL K H a xs) (k : P a xs) : ∃ (b : Addr) (ys : List V), [V.ref a] = [.ref b] ∧ SqL K H b ys ∧ P b ys := ⟨a, xs, rfl, h, k⟩
theorem lc_r {n : Nat} {P : Int → Prop} (hn : n < 2 ^ 62) (k : P (n : Int)) : ∃ j : Int, [V.int (n : Int)] = [.int j] ∧ -(2 ^ 62) ≤ j ∧ j < 2 ^ 62 ∧ P j := ⟨n, rfl, by omega, by omega, k⟩
/-- which turns give, and what -/
def given (n : Nat) (f : Nat → Bool) (v : Nat → V) : List V := ((List.range n).filter f).map v
theorem given_yes (h : f n = true) : given (n + 1) f v = given n f v ++ [v n] := by
  unfold given
  rw [List.range_succ, List.filter_append, List.map_append, List.filter_cons, if_pos h] <;> rfl
theorem given_no (h : f n = false) : given (n + 1) f v = given n f v := by
  unfold given
  rw [List.range_succ, List.filter_append, List.map_append, List.filter_cons, if_neg (by rw [h]; decide)]
  show _ ++ [] = _
  rw [List.append_nil]
theorem given_len (n : Nat) (f : Nat → Bool) (v : Nat → V) : (given n f v).length ≤ n := by
  unfold given
  rw [List.length_map]
  have h := List.length_filter_le f (List.range n)
  rw [List.length_range] at h
  exact h
def Cp (H1 : Hp) (D : Addr) (f : Nat → Bool) (v : Nat → V) (i : Nat) (H' : Hp) : Prop := H1 D = none ∧ Same H1 H' ∧ H' D = some (.lst (given i f v))
theorem cp_yes (p : Cp H1 D f v i H') (sm : Same H' H4) (hi : i < 100000) (hf : f i = true) (hy : y = v i) : ∃ acc, H4 D = some (.lst acc) ∧ acc.length < sizeLine ∧ Cp H1 D f v (i + 1) (upd H4 D (.lst (acc ++ [y]))) := by
  obtain ⟨p1, p2, p3⟩ := p
  refine ⟨given i f v, sm _ _ p3, Nat.lt_of_le_of_lt (given_len i f v) (Nat.lt_of_lt_of_le hi (by decide)), p1, same_mut (p2.trans sm) p1, ?_⟩
  rw [given_yes hf, hy]
  exact upd_same
theorem cp_no (p : Cp H1 D f v i H') (sm : Same H' H4) (hf : f i = false) : Cp H1 D f v (i + 1) H4 := by
  obtain ⟨p1, p2, p3⟩ := p
  refine ⟨p1, p2.trans sm, ?_⟩
  rw [given_no hf]
  exact sm _ _ p3
theorem walk_rg {n : Nat} : Walk (Itr 0 n) n (fun _ => True) (fun i H x H' => H' = H ∧ x = .int (i : Int)) :=
  ⟨fun _ _ hi _ => hi, fun _ _ => Nat.le_refl _, fun i _ _ _ _ _ y => ⟨y.1, y.2.trans (by rw [Int.zero_add])⟩⟩
/-- a comprehension of plain values -/
theorem lc_pure (w : Walk J n G Y) (f : Nat → Bool) (v : Nat → V) (hG : ∀ H', Same H1 H' → G H')
    (hs : ∀ D i x H H', i < n → Cp H1 D f v i H → Y i H x H' → g x (wipe σ vs) H' fun σ2 H2 => wipe σ2 vs = wipe σ vs ∧ tt σ2 H2 fun b H3 =>
      if b = true then el σ2 H3 fun y H4 => ∃ acc, H4 D = some (.lst acc) ∧ acc.length < sizeLine ∧ Cp H1 D f v (i + 1) (upd H4 D (.lst (acc ++ [y]))) else Cp H1 D f v (i + 1) H3)
    (hd : ∀ D H', H1 D = none → Same H1 H' → H' D = some (.lst (given n f v)) → Q (.ref D) H') : Lc J g tt el vs σ Q H1 := fun D hD =>
  lc_it w (Cp H1 D f v) ⟨hD, same_upd hD, upd_same⟩ (fun i H _ p => hG H p.2.1) (fun i x H H' hi p y => hs D i x H H' hi p y) fun H p => hd D H p.1 p.2.1 p.2.2
/-- a list of lists at a -/
def LL (H : Hp) (a : Addr) (ws : List (List V)) : Prop := ∃ ps : List Addr, H a = some (.lst (ps.map V.ref)) ∧ ps.length = ws.length ∧ ∀ (j : Nat) (p : Addr) (w : List V), ps[j]? = some p → ws[j]? = some w → H p = some (.lst w)
theorem LL.same {a : Addr} {ws : List (List V)} (h : LL H a ws) (sm : Same H H') : LL H' a ws := by
  obtain ⟨ps, h1, h2, h3⟩ := h
  exact ⟨ps, sm _ _ h1, h2, fun j p w a b => sm _ _ (h3 j p w a b)⟩
theorem LL.at {a : Addr} {ws : List (List V)} {j : Nat} {w : List V} (h : LL H a ws) (e : ws[j]? = some w) : ∃ (xs : List V) (p : Addr), H a = some (.lst xs) ∧ xs.length = ws.length ∧ xs[j]? = some (.ref p) ∧ H p = some (.lst w) := by
  obtain ⟨ps, h1, h2, h3⟩ := h
  obtain ⟨hj, _⟩ := List.getElem?_eq_some_iff.mp e
  have hp : ps[j]? = some (ps[j]'(by omega)) := List.getElem?_eq_getElem (by omega)
  exact ⟨_, _, h1, by rw [List.length_map, h2], by rw [List.getElem?_map, hp]; rfl, h3 j _ w hp e⟩
theorem LL.len {a : Addr} {ws : List (List V)} (h : LL H a ws) : ∃ xs : List V, H a = some (.lst xs) ∧ xs.length = ws.length := by
  obtain ⟨ps, h1, h2, h3⟩ := h
  exact ⟨_, h1, by rw [List.length_map, h2]⟩
theorem LL.cat {a b c : Addr} {ws us : List (List V)} {xs ys : List V} (h : LL H a ws) (h' : LL H b us) (e : H a = some (.lst xs)) (e' : H b = some (.lst ys)) (hc : H c = none) : LL (upd H c (.lst (xs ++ ys))) c (ws ++ us) := by
  obtain ⟨ps, h1, h2, h3⟩ := h
  obtain ⟨qs, k1, k2, k3⟩ := h'
  rw [h1] at e
  rw [k1] at e'
  cases e
  cases e'
  refine ⟨ps ++ qs, by rw [upd_same, List.map_append], by rw [List.length_append, List.length_append, h2, k2], fun j p w ej ew => ?_⟩
  have hp : H p = some (.lst w) := by
    by_cases hj : j < ps.length
    · rw [List.getElem?_append_left hj] at ej
      rw [List.getElem?_append_left (by omega)] at ew
      exact h3 j p w ej ew
    · rw [List.getElem?_append_right (by omega)] at ej
      rw [List.getElem?_append_right (by omega), ← h2] at ew
      exact k3 _ p w ej ew
  rw [upd_ne (ne_of_none hp hc)]
  exact hp
/-- behind i turns: i lists, each of its own, none of them the new list itself -/
def Cl (H1 : Hp) (D : Addr) (ws : Nat → List V) (i : Nat) (H' : Hp) : Prop := H1 D = none ∧ Same H1 H' ∧ ∃ ps : List Addr, H' D = some (.lst (ps.map V.ref)) ∧ ps.length = i ∧ ∀ (j : Nat) (p : Addr), ps[j]? = some p → p ≠ D ∧ H' p = some (.lst (ws j))
theorem cl_new {ws : Nat → List V} {p : Addr} (c : Cl H1 D ws i H') (sm : Same H' H4) (hi : i < 100000) (hp : H4 p = some (.lst (ws i))) (hpD : p ≠ D) :
    ∃ acc, H4 D = some (.lst acc) ∧ acc.length < sizeLine ∧ Cl H1 D ws (i + 1) (upd H4 D (.lst (acc ++ [.ref p]))) := by
  obtain ⟨c1, c2, ps, h1, h2, h3⟩ := c
  refine ⟨ps.map V.ref, sm _ _ h1, Nat.lt_of_le_of_lt (by rw [List.length_map, h2]; exact Nat.le_refl _) (Nat.lt_of_lt_of_le hi (by decide)), c1, same_mut (c2.trans sm) c1, ps ++ [p], by rw [upd_same, List.map_append]; rfl, by rw [List.length_append, h2]; rfl, fun j q e => ?_⟩
  by_cases hj : j < ps.length
  · rw [List.getElem?_append_left hj] at e
    obtain ⟨k1, k2⟩ := h3 j q e
    exact ⟨k1, by rw [upd_ne k1]; exact sm _ _ k2⟩
  · rw [List.getElem?_append_right (by omega)] at e
    have hj2 : j - ps.length = 0 := by
      have := (List.getElem?_eq_some_iff.mp e).1
      rw [List.length_singleton] at this
      omega
    rw [hj2] at e
    cases e
    have : j = i := by omega
    subst this
    exact ⟨hpD, by rw [upd_ne hpD]; exact hp⟩
/-- a comprehension whose every turn gives a new list -/
theorem lc_lists (w : Walk J n G Y) (ws : Nat → List V) (hG : ∀ H', Same H1 H' → G H')
    (hs : ∀ D i x H H', i < n → Cl H1 D ws i H → Y i H x H' → g x (wipe σ vs) H' fun σ2 H2 => wipe σ2 vs = wipe σ vs ∧ tt σ2 H2 fun b H3 =>
      if b = true then el σ2 H3 fun y H4 => ∃ acc, H4 D = some (.lst acc) ∧ acc.length < sizeLine ∧ Cl H1 D ws (i + 1) (upd H4 D (.lst (acc ++ [y]))) else Cl H1 D ws (i + 1) H3)
    (hd : ∀ D H', H1 D = none → Same H1 H' → LL H' D ((List.range n).map ws) → Q (.ref D) H') : Lc J g tt el vs σ Q H1 := fun D hD =>
  lc_it w (Cl H1 D ws) ⟨hD, same_upd hD, [], by rw [upd_same]; rfl, rfl, fun j p e => by simp at e⟩ (fun i H _ p => hG H p.2.1) (fun i x H H' hi p y => hs D i x H H' hi p y) fun H p => by
    obtain ⟨c1, c2, ps, h1, h2, h3⟩ := p
    refine hd D H c1 c2 ⟨ps, h1, by rw [List.length_map, List.length_range, h2], fun j q u e e2 => ?_⟩
    have hj : j < n := by
      have := (List.getElem?_eq_some_iff.mp e).1
      omega
    rw [List.getElem?_map, List.getElem?_range hj] at e2
    cases e2
    exact (h3 j q e).2
theorem Cl.same (c : Cl H1 D ws i H') : Same H1 H' := c.2.1
theorem Cl.new (c : Cl H1 D ws i H') : ∃ xs, H' D = some (.lst xs) := by
  obtain ⟨c1, c2, ps, h1, h2, h3⟩ := c
  exact ⟨_, h1⟩
theorem tt_yes {Q : Bool → Hp → Prop} (k : Q true H) : tYes σ H Q := k
/-- what the turns of a comprehension over a list of naturals give -/
theorem given_filter (l : List Nat) (p : Nat → Bool) : given l.length (fun i => p (l.getD i 0)) (fun i => V.int ((l.getD i 0 : Nat) : Int)) = (zs (l.filter p)).map V.int := by
  have e : l = (List.range l.length).map (fun i => l.getD i 0) := by
    apply List.ext_getElem?
    intro j
    by_cases h : j < l.length
    · rw [List.getElem?_map, List.getElem?_range h, List.getElem?_eq_getElem h]
      show some l[j] = some (l.getD j 0)
      rw [List.getD_eq_getElem?_getD, List.getElem?_eq_getElem h]
      rfl
    · rw [List.getElem?_eq_none (by omega), List.getElem?_eq_none (by rw [List.length_map, List.length_range]; omega)]
  have e2 : l.filter p = ((List.range l.length).filter (p ∘ fun i => l.getD i 0)).map (fun i => l.getD i 0) := by
    have h : ((List.range l.length).map (fun i => l.getD i 0)).filter p = ((List.range l.length).filter (p ∘ fun i => l.getD i 0)).map (fun i => l.getD i 0) := List.filter_map
    rw [← e] at h
    exact h
  rw [e2]
  unfold given zs
  rw [List.map_map, List.map_map]
  rfl
theorem given_out (A B : List Nat) : given A.length (fun i => !B.contains (A.getD i 0)) (fun i => V.int ((A.getD i 0 : Nat) : Int)) = (zs (A.filter (fun x => !B.contains x))).map V.int := given_filter A fun x => !B.contains x
theorem dec_beq (x g : Nat) : decide ((x : Int) = (g : Int)) = (x == g) := by
  by_cases h : x = g
  · rw [decide_eq_true (by omega), beq_iff_eq.mpr h]
  · rw [decide_eq_false (by omega), beq_eq_false_iff_ne.mpr h]
theorem given_but (A : List Nat) (g : Nat) : given A.length (fun i => !(A.getD i 0 == g)) (fun i => V.int ((A.getD i 0 : Nat) : Int)) = (zs (A.filter (fun x => !(x == g)))).map V.int := given_filter A fun x => !(x == g)
theorem getD_at {l : List Nat} {i x : Nat} (h : l[i]? = some x) : l.getD i 0 = x := by
  rw [List.getD_eq_getElem?_getD, h]
  rfl
theorem zs_get {l : List Nat} {i : Nat} {v : V} (h : ((zs l).map V.int)[i]? = some v) : v = .int ((l.getD i 0 : Nat) : Int) := by
  rw [List.getElem?_map] at h
  unfold zs at h
  rw [List.getElem?_map] at h
  cases e : l[i]? with
  | none =>
    rw [e] at h
    cases h
  | some x =>
    rw [e] at h
    cases h
    rw [getD_at e]
theorem zs_got {l : List Nat} {i : Nat} {v : V} (h : ((zs l).map V.int)[i]? = some v) : ∃ x, l[i]? = some x ∧ v = .int (x : Int) := by
  rw [List.getElem?_map] at h
  unfold zs at h
  rw [List.getElem?_map] at h
  cases e : l[i]? with
  | none =>
    rw [e] at h
    cases h
  | some x =>
    rw [e] at h
    cases h
    exact ⟨x, rfl, rfl⟩
theorem flat_zs : ∀ l : List Nat, ((zs l).map V.int).all flatV = true
  | [] => rfl
  | x :: l => by
    rw [zs_cons, List.all_cons, flat_zs l]
    rfl
theorem inV_zs (x : Nat) : ∀ l : List Nat, inV (.int (x : Int)) ((zs l).map V.int) = l.contains x
  | [] => rfl
  | y :: l => by
    have ih := inV_zs x l
    have e : inV (.int (x : Int)) ((zs (y :: l)).map V.int) = (eqV (.int (y : Int)) (.int (x : Int)) || inV (.int (x : Int)) ((zs l).map V.int)) := rfl
    rw [e, ih, List.contains_cons]
    congr 1
    show (((y : Int)) == ((x : Int))) = (x == y)
    by_cases h : x = y
    · subst h
      simp
    · rw [beq_eq_false_iff_ne.mpr h, beq_eq_false_iff_ne.mpr (by omega)]
theorem rd_notin {b : Addr} {l : List Nat} {x : Nat} (h : SqL K H b ((zs l).map V.int)) (k : Q (.bl (!l.contains x)) H) : rIn K true (.int (x : Int)) (.ref b) H Q :=
  ⟨b, _, rfl, .inl h, rfl, flat_zs l, by rw [inV_zs]; exact k⟩
theorem rd_isin {b : Addr} {l : List Nat} {x : Nat} (h : SqL K H b ((zs l).map V.int)) (k : Q (.bl (l.contains x)) H) : rIn K false (.int (x : Int)) (.ref b) H Q :=
  ⟨b, _, rfl, .inl h, rfl, flat_zs l, by rw [inV_zs]; exact k⟩
end
end One
/-! ### ranges backwards, lists of tuples, slices -/
namespace One
open PySem L2
section
variable {K : PySem.W.Frag} {σ : L2.St} {H H' : Hp} {Q : VK} {D : Ends} {ta tb : TE} {g : TG} {tb' : TS}
def RRR (g : TG) (tb : TS) (D : Ends) (σ : L2.St) (a b : Int) (H : Hp) : Prop := -(2 ^ 62) ≤ a ∧ a < 2 ^ 62 ∧ -(2 ^ 62) ≤ b ∧ b < 2 ^ 62 ∧ ∃ W : Nat → Nat → L2.St → Hp → Prop, (∃ m, W 0 m σ H) ∧ ∀ i m σ H, W i m σ H →
  ((Itc (a + (((b - a).toNat : Nat) : Int) - 1) (-1) (b - a).toNat).stop i H ∧ D.nx σ H) ∨ ((Itc (a + (((b - a).toNat : Nat) : Int) - 1) (-1) (b - a).toNat).go i H ∧ ∃ N : L2.St → Hp → Prop, (∀ σ' H', N σ' H' → ∃ m', m' < m ∧ W (i + 1) m' σ' H') ∧
    ∀ x H', (Itc (a + (((b - a).toNat : Nat) : Int) - 1) (-1) (b - a).toNat).yld i H x H' → g x σ H' fun σ2 H2 => tb { D with nx := N, ct := N, bk := D.nx } σ2 H2)
theorem rd_forRR {tr : L2.St → Hp → (Int → Int → Hp → Prop) → Prop} {tb : TS} (k : tr σ H fun a b H1 => RRR g tb D σ a b H1) : tFor (iRevR tr) g tb D σ H := k
theorem rd_rg2 {Q : Int → Int → Hp → Prop} (k : ta σ H fun x H1 => tb σ H1 fun y H2 => ∃ i j, x = .int i ∧ y = .int j ∧ Q i j H2) : tRg2 ta tb σ H Q := k
theorem rd_rg1 {Q : Int → Int → Hp → Prop} (k : ta σ H fun x H1 => ∃ n, x = .int n ∧ Q 0 n H1) : tRg1 ta σ H Q := k
theorem rd_ij {a b : Int} {P : Int → Int → Prop} (k : P a b) : ∃ i j, V.int a = .int i ∧ V.int b = .int j ∧ P i j := ⟨a, b, rfl, rfl, k⟩
theorem rd_lstRg {te : L2.St → Hp → (Int → Int → Hp → Prop) → Prop} (k : te σ H fun a b H1 => RgOk a b ∧ ∀ q, H1 q = none → Q (.ref q) (upd H1 q (.lst (rgV a b)))) : tLstRg te σ H Q := k
/-- for i in reversed(range(1, n + 1)) -/
theorem forRR {tb : TS} {j n : Nat} (hn : n ≤ 1000) (Pv : Nat → L2.St → Hp → Prop) (h0 : Pv 0 σ H)
    (hs : ∀ i σ H, i < n → Pv i σ H → tb { D with nx := Pv (i + 1), ct := Pv (i + 1), bk := D.nx } (σ.set j (some (.int ((n - i : Nat) : Int)))) H) (hd : ∀ σ H, Pv n σ H → D.nx σ H) : RRR (gName j) tb D σ 1 ((n : Int) + 1) H := by
  have e : ((n : Int) + 1 - 1).toNat = n := by omega
  refine ⟨by omega, by omega, by omega, by omega, ?_⟩
  rw [e]
  refine for_it walk_rangeC Pv h0 (fun _ _ _ _ _ => True.intro) (fun i x σ H H' hi p y => ?_) hd
  obtain ⟨rfl, rfl⟩ := y
  have e2 : (1 : Int) + (n : Int) - 1 + (i : Int) * (-1) = ((n - i : Nat) : Int) := by omega
  show tb { D with nx := Pv (i + 1), ct := Pv (i + 1), bk := D.nx } (σ.set j (some (.int (1 + (n : Int) - 1 + (i : Int) * (-1))))) _
  rw [e2]
  exact hs i σ _ hi p
/-- a list of tuples at a -/
def TL (H : Hp) (a : Addr) (ws : List (List V)) : Prop := ∃ ps : List Addr, H a = some (.lst (ps.map V.ref)) ∧ ps.length = ws.length ∧ ∀ (j : Nat) (p : Addr) (w : List V), ps[j]? = some p → ws[j]? = some w → H p = some (.tup w)
theorem TL.same {a : Addr} {ws : List (List V)} (h : TL H a ws) (sm : Same H H') : TL H' a ws := by
  obtain ⟨ps, h1, h2, h3⟩ := h
  exact ⟨ps, sm _ _ h1, h2, fun j p w a b => sm _ _ (h3 j p w a b)⟩
theorem TL.len {a : Addr} {ws : List (List V)} (h : TL H a ws) : ∃ xs : List V, H a = some (.lst xs) ∧ xs.length = ws.length := by
  obtain ⟨ps, h1, h2, h3⟩ := h
  exact ⟨_, h1, by rw [List.length_map, h2]⟩
theorem TL.at {a : Addr} {ws : List (List V)} {xs : List V} {j : Nat} {x : V} {w : List V} (h : TL H a ws) (hx : H a = some (.lst xs)) (ex : xs[j]? = some x) (e : ws[j]? = some w) : ∃ p : Addr, x = .ref p ∧ H p = some (.tup w) := by
  obtain ⟨ps, h1, h2, h3⟩ := h
  rw [h1] at hx
  cases hx
  rw [List.getElem?_map] at ex
  cases hp : ps[j]? with
  | none =>
    rw [hp] at ex
    cases ex
  | some p =>
    rw [hp] at ex
    cases ex
    exact ⟨p, rfl, h3 j p w hp e⟩
theorem TL.app {a p : Addr} {ws : List (List V)} {xs w : List V} (h : TL H a ws) (hx : H a = some (.lst xs)) (hp : H p = some (.tup w)) : TL (upd H a (.lst (xs ++ [.ref p]))) a (ws ++ [w]) := by
  obtain ⟨ps, h1, h2, h3⟩ := h
  rw [h1] at hx
  cases hx
  refine ⟨ps ++ [p], by rw [upd_same, List.map_append]; rfl, by rw [List.length_append, List.length_append, h2]; rfl, fun j q u e e2 => ?_⟩
  have hq : H q = some (.tup u) := by
    by_cases hj : j < ps.length
    · rw [List.getElem?_append_left hj] at e
      rw [List.getElem?_append_left (by omega)] at e2
      exact h3 j q u e e2
    · rw [List.getElem?_append_right (by omega)] at e
      rw [List.getElem?_append_right (by omega), ← h2] at e2
      have hj2 : j - ps.length = 0 := by
        have := (List.getElem?_eq_some_iff.mp e).1
        rw [List.length_singleton] at this
        omega
      rw [hj2] at e e2
      cases e
      cases e2
      exact hp
  rw [upd_ne (ne_of hq h1 (by intro z; cases z))]
  exact hq
theorem tup3 {i j l : Nat} {q : Addr} {x y z : V} {N : L2.St → Hp → Prop} (h : SqT K H q [x, y, z]) (k : N (((σ.set i (some x)).set j (some y)).set l (some z)) H) : gTup K 3 (gCons (gName i) (gCons (gName j) (gCons (gName l) gNil))) (.ref q) σ H N :=
  ⟨q, _, rfl, h, rfl, x, _, rfl, y, _, rfl, z, _, rfl, rfl, k⟩
theorem tup2 {i j : Nat} {q : Addr} {x y : V} {N : L2.St → Hp → Prop} (h : SqT K H q [x, y]) (k : N ((σ.set i (some x)).set j (some y)) H) : gTup K 2 (gCons (gName i) (gCons (gName j) gNil)) (.ref q) σ H N :=
  ⟨q, _, rfl, h, rfl, x, _, rfl, y, _, rfl, rfl, k⟩
/-- xs[:k], xs[k:] -/
theorem cut_to (xs : List V) (k : Nat) : cutV xs none (some (k : Int)) = xs.take k := by
  unfold cutV
  rw [HT.sIx_nat, HT.sIx_none, List.drop_zero, Nat.sub_zero]
  by_cases h : k ≤ xs.length
  · rw [Nat.min_eq_left h]
  · rw [Nat.min_eq_right (by omega), List.take_length, List.take_of_length_le (by omega)]
theorem cut_from (xs : List V) (k : Nat) : cutV xs (some (k : Int)) none = xs.drop k := by
  unfold cutV
  rw [HT.sIx_nat, HT.sIx_none]
  by_cases h : k ≤ xs.length
  · rw [Nat.min_eq_left h, List.take_of_length_le (by rw [List.length_drop]; exact Nat.le_refl _)]
  · rw [Nat.min_eq_right (by omega), List.drop_length, List.drop_of_length_le (by omega), List.take_nil]
theorem rd_slice {a : Addr} {xs : List V} {P : Addr → List V → Prop} (h : SqL K H a xs) (k : P a xs) : ∃ b ys, V.ref a = .ref b ∧ SqL K H b ys ∧ P b ys := ⟨a, xs, rfl, h, k⟩
theorem rgV_zs (n : Nat) : rgV 0 (n : Int) = (zs (List.range n)).map V.int := by
  unfold rgV zs
  rw [List.map_map, show ((n : Int) - 0).toNat = n by omega]
  apply List.map_congr_left
  intro x _
  show V.int (0 + (x : Int)) = V.int (x : Int)
  rw [Int.zero_add]
theorem zs_append (A B : List Nat) : (zs (A ++ B)).map V.int = (zs A).map V.int ++ (zs B).map V.int := by
  unfold zs
  rw [List.map_append, List.map_append]
theorem zs_take (A : List Nat) (i : Nat) : (zs (A.take i)).map V.int = ((zs A).map V.int).take i := by
  unfold zs
  rw [List.map_take, List.map_take]
theorem zs_drop (A : List Nat) (i : Nat) : (zs (A.drop i)).map V.int = ((zs A).map V.int).drop i := by
  unfold zs
  rw [List.map_drop, List.map_drop]
end
/-- two sorted lists of the same things are one -/
theorem sorted_one : ∀ {A B : List Int}, A.Perm B → A.Pairwise (· ≤ ·) → B.Pairwise (· ≤ ·) → A = B
  | [], B, p, _, _ => by
    have := p.length_eq
    cases B with
    | nil => rfl
    | cons b B => simp at this
  | a :: A, [], p, _, _ => by
    have := p.length_eq
    simp at this
  | a :: A, b :: B, p, hA, hB => by
    obtain ⟨a1, a2⟩ := List.pairwise_cons.mp hA
    obtain ⟨b1, b2⟩ := List.pairwise_cons.mp hB
    have e : a = b := by
      have h1 : a ∈ b :: B := p.mem_iff.mp (by simp)
      have h2 : b ∈ a :: A := p.mem_iff.mpr (by simp)
      rcases List.mem_cons.mp h1 with q | q
      · exact q
      · rcases List.mem_cons.mp h2 with r | r
        · exact r.symm
        · have := a1 b r
          have := b1 a q
          omega
    subst e
    rw [sorted_one (List.Perm.cons_inv p) a2 b2]
theorem sorted_range {o : List Nat} {n : Nat} {S : List Int} (pm : S.Perm (zs o)) (h : o.Perm (List.range n)) (st : S.Pairwise (· ≤ ·)) : S = zs (List.range n) := by
  refine sorted_one (pm.trans (h.map _)) st ?_
  unfold zs
  refine List.pairwise_map.mpr ?_
  exact List.pairwise_lt_range.imp fun h => by omega
end One
namespace One
open PySem L2
section
variable {K : PySem.W.Frag} {J : It} {n : Nat} {G : Hp → Prop} {Y : Nat → Hp → V → Hp → Prop} {σ : L2.St} {H H1 H' H4 : Hp} {Q : VK} {g : TG} {tt : TT} {te el : TE} {vs : List Nat} {ws : Nat → List V} {D : Addr} {i : Nat}
/-- behind i turns: i tuples -/
def Ct (H1 : Hp) (D : Addr) (ws : Nat → List V) (i : Nat) (H' : Hp) : Prop := H1 D = none ∧ Same H1 H' ∧ TL H' D ((List.range i).map ws)
theorem ct_new {p : Addr} (c : Ct H1 D ws i H') (sm : Same H' H4) (hi : i < 100000) (hp : H4 p = some (.tup (ws i))) :
    ∃ acc, H4 D = some (.lst acc) ∧ acc.length < sizeLine ∧ Ct H1 D ws (i + 1) (upd H4 D (.lst (acc ++ [.ref p]))) := by
  obtain ⟨c1, c2, c3⟩ := c
  obtain ⟨xs, hx, hl⟩ := (c3.same sm).len
  rw [List.length_map, List.length_range] at hl
  refine ⟨xs, hx, Nat.lt_of_le_of_lt (Nat.le_of_eq hl) (Nat.lt_of_lt_of_le hi (by decide)), c1, same_mut (c2.trans sm) c1, ?_⟩
  rw [List.range_succ, List.map_append]
  exact (c3.same sm).app hx hp
/-- a comprehension whose every turn gives a new tuple -/
theorem lc_tups (w : Walk J n G Y) (ws : Nat → List V) (hG : ∀ H', Same H1 H' → G H')
    (hs : ∀ D i x H H', i < n → Ct H1 D ws i H → Y i H x H' → g x (wipe σ vs) H' fun σ2 H2 => wipe σ2 vs = wipe σ vs ∧ tt σ2 H2 fun b H3 =>
      if b = true then el σ2 H3 fun y H4 => ∃ acc, H4 D = some (.lst acc) ∧ acc.length < sizeLine ∧ Ct H1 D ws (i + 1) (upd H4 D (.lst (acc ++ [y]))) else Ct H1 D ws (i + 1) H3)
    (hd : ∀ D H', H1 D = none → Same H1 H' → TL H' D ((List.range n).map ws) → Q (.ref D) H') : Lc J g tt el vs σ Q H1 := fun D hD =>
  lc_it w (Ct H1 D ws) ⟨hD, same_upd hD, [], by rw [upd_same]; rfl, rfl, fun j p w e => by simp at e⟩ (fun i H _ p => hG H p.2.1) (fun i x H H' hi p y => hs D i x H H' hi p y) fun H p => hd D H p.1 p.2.1 p.2.2
/-- the second part of a pair -/
def keyOf (H : Hp) : V → Nat
  | .ref t => match H t with
    | some (.tup [_, .int k]) => k.toNat
    | _ => 0
  | _ => 0
theorem keyOf_at {t : Addr} {x : V} {k : Nat} (h : H t = some (.tup [x, .int (k : Int)])) : keyOf H (.ref t) = k := by
  show (match H t with
    | some (.tup [_, .int k]) => k.toNat
    | _ => 0) = k
  rw [h]
  exact Int.toNat_natCast k
theorem TL.keys {a : Addr} {xs : List V} {w : Nat → V} (h : TL H a ((List.range n).map fun j => [w j, V.int (j : Int)])) (hx : H a = some (.lst xs)) : xs.map (keyOf H) = List.range n ∧ ∀ x ∈ xs, ∃ (t : Addr) (k j : Nat), x = .ref t ∧ j < n ∧ k = j ∧ H t = some (.tup [w j, .int (k : Int)]) := by
  obtain ⟨ps, h1, h2, h3⟩ := h
  rw [List.length_map, List.length_range] at h2
  rw [h1] at hx
  cases hx
  have at_ : ∀ j p, ps[j]? = some p → j < n ∧ H p = some (.tup [w j, .int (j : Int)]) := fun j p e => by
    have hj : j < n := by
      have := (List.getElem?_eq_some_iff.mp e).1
      omega
    exact ⟨hj, h3 j p _ e (by rw [List.getElem?_map, List.getElem?_range hj]; rfl)⟩
  constructor
  · apply List.ext_getElem?
    intro j
    rw [List.getElem?_map, List.getElem?_map]
    cases e : ps[j]? with
    | none =>
      rw [List.getElem?_eq_none (by rw [List.length_range]; have := List.getElem?_eq_none_iff.mp e; omega)]
      rfl
    | some p =>
      obtain ⟨hj, hp⟩ := at_ j p e
      rw [List.getElem?_range hj]
      show some (keyOf H (.ref p)) = some j
      rw [keyOf_at hp]
  · intro x hx
    rw [List.mem_map] at hx
    obtain ⟨p, hp, rfl⟩ := hx
    obtain ⟨j, hj, e⟩ := List.getElem_of_mem hp
    obtain ⟨hjn, hq⟩ := at_ j p (by rw [List.getElem?_eq_getElem hj, e])
    exact ⟨p, j, j, rfl, hjn, rfl, hq⟩
theorem given_all {α : Type} (ys : List α) (d : α) (w : α → V) : given ys.length (fun _ => true) (fun i => w (ys.getD i d)) = ys.map w := by
  unfold given
  rw [List.filter_eq_self.mpr (fun _ _ => rfl)]
  apply List.ext_getElem?
  intro j
  by_cases h : j < ys.length
  · rw [List.getElem?_map, List.getElem?_range h, List.getElem?_map, List.getElem?_eq_getElem h]
    show some (w (ys.getD j d)) = some (w ys[j])
    rw [List.getD_eq_getElem?_getD, List.getElem?_eq_getElem h]
    rfl
  · rw [List.getElem?_eq_none (by rw [List.length_map, List.length_range]; omega), List.getElem?_eq_none (by rw [List.length_map]; omega)]
end
end One
/-! ### a dict whose keys are tuples of numbers -/
namespace One
open PySem L2
section
variable {K : PySem.W.Frag} {σ : L2.St} {H H' : Hp} {Q : VK} {D : Ends} {ty td tv : TE}
def keyI (l : List Nat) : List L2.Key := (zs l).map Sum.inl
theorem keyI_V (l : List Nat) : (keyI l).map kV = (zs l).map V.int := by
  unfold keyI
  rw [List.map_map]
  rfl
theorem keyI_inj : ∀ {a b : List Nat}, keyI a = keyI b → a = b
  | [], [], _ => rfl
  | [], _ :: _, h => by cases h
  | _ :: _, [], h => by cases h
  | x :: a, y :: b, h => by
    have h1 : (Sum.inl (x : Int) : L2.Key) = Sum.inl (y : Int) := (List.cons.inj h).1
    have h2 : keyI a = keyI b := (List.cons.inj h).2
    have h3 : (x : Int) = (y : Int) := Sum.inl.inj h1
    rw [keyI_inj h2, show x = y by omega]
theorem rd_newT (k : ∀ p, H p = none → Q (.ref p) (upd H p (.dT []))) : tDNewT σ H Q := k
theorem rd_din (k : ty σ H fun y H1 => td σ H1 fun x H2 => ∃ a o, x = .ref a ∧ DGet H2 a y o ∧ Q (.bl o.isSome) H2) : tDIn ty td σ H Q := k
theorem rd_dput (k : tv σ H fun v H1 => td σ H1 fun x H2 => ty σ H2 fun y H3 => ∃ a H4, x = .ref a ∧ DPut H3 a y v H4 ∧ D.nx σ H4) : sDPut td ty tv D σ H := k
theorem din_at {a b : Addr} {kvs : List (List L2.Key × V)} {l : List Nat} {P : Option V → Prop} (h : H a = some (.dT kvs)) (hb : H b = some (.tup ((zs l).map V.int))) (k : P (valV kvs (keyI l))) : ∃ a' o, V.ref a = .ref a' ∧ DGet H a' (.ref b) o ∧ P o :=
  ⟨a, _, rfl, DGet.t h (by rw [keyI_V]; exact hb), k⟩
theorem dput_at {a b : Addr} {kvs : List (List L2.Key × V)} {l : List Nat} {v : V} {N : L2.St → Hp → Prop} (h : H a = some (.dT kvs)) (hb : H b = some (.tup ((zs l).map V.int))) (hl : kvs.length < 100000) (k : N σ (upd H a (.dT (putK kvs (keyI l) v)))) : ∃ a' H4, V.ref a = .ref a' ∧ DPut H a' (.ref b) v H4 ∧ N σ H4 :=
  ⟨a, _, rfl, DPut.t h (by rw [keyI_V]; exact hb) (Nat.lt_of_lt_of_le hl (by decide)), k⟩
theorem rd_tupOf {a : Addr} {xs : List V} {P : Addr → List V → Prop} {R : Addr → List V → Prop} (h : SqL K H a xs) (k : ∀ l, H l = none → P l xs) : ∃ p ys, [V.ref a] = [.ref p] ∧ ((SqL K H p ys ∧ ∀ l, H l = none → P l ys) ∨ R p ys) := ⟨a, xs, rfl, .inl ⟨h, k⟩⟩
/-- equal pairs -/
def dTup (ns : List Int) : PyData := .tuple (ns.map PyData.int)
theorem shp_tup (ns : List Int) : SeqAt.shaped (dTup ns) = true := by
  have e : (dTup ns).depth = 1 := by
    show PyData.depthAll (ns.map PyData.int) + 1 = 1
    rw [dep_ints]
  have e2 : (dTup ns).canLay0 = true := cl_ints ns
  unfold SeqAt.shaped
  rw [e2, e]
  rfl
theorem rd_neT {a b : Addr} {ns : List Int} (ha : SqT K H a (ns.map V.int)) (hb : SqT K H b (ns.map V.int)) (k : Q (.bl false) H) : rNeD K (.ref a) (.ref b) H Q :=
  ⟨dTup ns, dTup ns, .tup ha (dpA_int ns), .tup hb (dpA_int ns), shp_tup ns, shp_tup ns, by rw [SeqAt.eqv_refl (dTup ns) (cl_ints ns)]; exact k⟩
end
end One
/-! ### the mathematics of sets -/
namespace One
/-- in how many ways k are picked out of n -/
def C : Nat → Nat → Nat
  | _, 0 => 1
  | 0, _ + 1 => 0
  | n + 1, k + 1 => C n k + C n (k + 1)
theorem C_zero (n : Nat) : C n 0 = 1 := by cases n <;> rfl
theorem C_succ (n k : Nat) : C (n + 1) (k + 1) = C n k + C n (k + 1) := rfl
theorem C_gt : ∀ n k, n < k → C n k = 0
  | 0, 0, h => absurd h (by decide)
  | 0, k + 1, _ => rfl
  | n + 1, 0, h => absurd h (by omega)
  | n + 1, k + 1, h => by
    rw [C_succ, C_gt n k (by omega), C_gt n (k + 1) (by omega)]
theorem C_pos : ∀ n k, k ≤ n → 0 < C n k
  | n, 0, _ => by rw [C_zero]; decide
  | 0, k + 1, h => absurd h (by omega)
  | n + 1, k + 1, h => by
    have := C_pos n k (by omega)
    rw [C_succ]
    omega
theorem C_self : ∀ n, C n n = 1
  | 0 => rfl
  | n + 1 => by rw [C_succ, C_self n, C_gt n (n + 1) (by omega)]
theorem C_one : ∀ n, C n 1 = n
  | 0 => rfl
  | n + 1 => by
    rw [C_succ, C_zero, C_one n]
    omega
theorem C_le : ∀ n k, C n k ≤ 2 ^ n
  | n, 0 => by
    rw [C_zero]
    exact Nat.pow_pos (by decide)
  | 0, k + 1 => Nat.zero_le _
  | n + 1, k + 1 => by
    have h1 := C_le n k
    have h2 := C_le n (k + 1)
    have e : 2 ^ (n + 1) = 2 * 2 ^ n := by rw [Nat.pow_succ, Nat.mul_comm]
    rw [C_succ]
    omega
theorem C_mul : ∀ n k, C n (k + 1) * (k + 1) = C n k * (n - k)
  | 0, 0 => rfl
  | 0, k + 1 => by
    show 0 * _ = 0 * _
    rw [Nat.zero_mul, Nat.zero_mul]
  | n + 1, 0 => by
    rw [C_zero, C_one, Nat.sub_zero, Nat.one_mul, Nat.zero_add, Nat.mul_one]
  | n + 1, j + 1 => by
    by_cases h : j < n
    · have h1 := C_mul n j
      have h2 := C_mul n (j + 1)
      obtain ⟨d, hd⟩ : ∃ d, n = j + 1 + d := ⟨n - (j + 1), by omega⟩
      subst hd
      have e1 : j + 1 + d - j = d + 1 := by omega
      have e2 : j + 1 + d - (j + 1) = d := by omega
      have e3 : j + 1 + d + 1 - (j + 1) = d + 1 := by omega
      rw [e1] at h1
      rw [e2] at h2
      rw [C_succ, C_succ, e3]
      generalize C (j + 1 + d) j = x at h1 h2 ⊢
      generalize C (j + 1 + d) (j + 1) = y at h1 h2 ⊢
      generalize C (j + 1 + d) (j + 1 + 1) = z at h1 h2 ⊢
      rw [Nat.add_mul, Nat.add_mul, ← h1, h2]
      have : y * (j + 1 + 1) + y * d = y * (j + 1) + y * (d + 1) := by
        rw [← Nat.mul_add, ← Nat.mul_add]
        congr 1
        omega
      exact this
    · by_cases h2 : j = n
      · subst h2
        rw [C_self, C_gt _ _ (show j + 1 < j + 1 + 1 by omega)]
        simp
      · rw [C_gt _ _ (show n + 1 < j + 1 + 1 by omega), C_gt _ _ (show n + 1 < j + 1 by omega)]
        simp
/-- the next one of the product, by floor division -/
theorem C_next (n k : Nat) : C n k * (n - k) / (k + 1) = C n (k + 1) := by
  rw [← C_mul]
  exact Nat.mul_div_cancel _ (by omega)
/-- the set on a place -/
def setAt : Nat → Nat → Nat → List Nat
  | _, 0, _ => []
  | 0, _ + 1, _ => []
  | n + 1, k + 1, p => if p < C n (k + 1) then setAt n (k + 1) p else setAt n k (C n k - 1 - (p - C n (k + 1))) ++ [n]
theorem setAt_zero (n p : Nat) : setAt n 0 p = [] := by cases n <;> rfl
theorem setAt_lo {n k p : Nat} (h : p < C n (k + 1)) : setAt (n + 1) (k + 1) p = setAt n (k + 1) p := by
  show (if p < C n (k + 1) then _ else _) = _
  rw [if_pos h]
theorem setAt_hi {n k p : Nat} (h : ¬ p < C n (k + 1)) : setAt (n + 1) (k + 1) p = setAt n k (C n k - 1 - (p - C n (k + 1))) ++ [n] := by
  show (if p < C n (k + 1) then _ else _) = _
  rw [if_neg h]
theorem setAt_len : ∀ n k p, k ≤ n → p < C n k → (setAt n k p).length = k
  | n, 0, p, _, _ => by rw [setAt_zero]; rfl
  | 0, k + 1, p, h, _ => absurd h (by omega)
  | n + 1, k + 1, p, h, hp => by
    rw [C_succ] at hp
    by_cases c : p < C n (k + 1)
    · rw [setAt_lo c]
      by_cases d : k + 1 ≤ n
      · exact setAt_len n (k + 1) p d c
      · rw [C_gt _ _ (by omega)] at c
        exact absurd c (by omega)
    · rw [setAt_hi c, List.length_append, setAt_len n k _ (by omega) (by omega)]
      rfl
/-- a rising list -/
def Up : List Nat → Prop := List.Pairwise (· < ·)
theorem up_snoc {l : List Nat} {n : Nat} (h : Up l) (hl : ∀ x ∈ l, x < n) : Up (l ++ [n]) := by
  refine List.pairwise_append.mpr ⟨h, List.pairwise_singleton _ _, fun a ha b hb => ?_⟩
  rw [List.mem_singleton] at hb
  subst hb
  exact hl a ha
theorem setAt_up : ∀ n k p, k ≤ n → p < C n k → Up (setAt n k p) ∧ ∀ x ∈ setAt n k p, x < n
  | n, 0, p, _, _ => by
    rw [setAt_zero]
    exact ⟨List.Pairwise.nil, fun x h => by simp at h⟩
  | 0, k + 1, p, h, _ => absurd h (by omega)
  | n + 1, k + 1, p, h, hp => by
    rw [C_succ] at hp
    by_cases c : p < C n (k + 1)
    · rw [setAt_lo c]
      by_cases d : k + 1 ≤ n
      · obtain ⟨h1, h2⟩ := setAt_up n (k + 1) p d c
        exact ⟨h1, fun x hx => Nat.lt_succ_of_lt (h2 x hx)⟩
      · rw [C_gt _ _ (by omega)] at c
        exact absurd c (by omega)
    · obtain ⟨h1, h2⟩ := setAt_up n k (C n k - 1 - (p - C n (k + 1))) (by omega) (by omega)
      rw [setAt_hi c]
      refine ⟨up_snoc h1 h2, fun x hx => ?_⟩
      rcases List.mem_append.mp hx with q | q
      · exact Nat.lt_succ_of_lt (h2 x q)
      · rw [List.mem_singleton] at q
        omega
/-- the first one -/
theorem setAt_first : ∀ n k, k ≤ n → setAt n k 0 = List.range k
  | n, 0, _ => by rw [setAt_zero]; rfl
  | 0, k + 1, h => absurd h (by omega)
  | n + 1, k + 1, h => by
    by_cases d : k + 1 ≤ n
    · rw [setAt_lo (C_pos n (k + 1) d)]
      exact setAt_first n (k + 1) d
    · have e : k = n := by omega
      subst e
      have z : C k (k + 1) = 0 := C_gt _ _ (by omega)
      rw [setAt_hi (by rw [z]; omega), z, C_self]
      show setAt k k 0 ++ [k] = List.range (k + 1)
      rw [setAt_first k k (Nat.le_refl _), List.range_succ]
/-- the last one -/
theorem setAt_last (m j : Nat) (h : j ≤ m) : setAt (m + 1) (j + 1) (C (m + 1) (j + 1) - 1) = List.range j ++ [m] := by
  have p := C_pos m j h
  rw [setAt_hi (by rw [C_succ]; omega), C_succ, show C m j - 1 - (C m j + C m (j + 1) - 1 - C m (j + 1)) = 0 by omega, setAt_first m j h]
/-- the place of a set: the members from the last one -/
def psr : List Nat → Nat
  | [] => 0
  | t :: r => C t (r.length + 1) + C t r.length - 1 - psr r
def pset (l : List Nat) : Nat := psr l.reverse
theorem pset_nil : pset [] = 0 := rfl
theorem pset_snoc (l : List Nat) (t : Nat) : pset (l ++ [t]) = C t (l.length + 1) + C t l.length - 1 - pset l := by
  unfold pset
  rw [List.reverse_append]
  show C t (l.reverse.length + 1) + C t l.reverse.length - 1 - psr l.reverse = _
  rw [List.length_reverse]
theorem up_last {l : List Nat} {n : Nat} (h : Up l) (hl : ∀ x ∈ l, x < n + 1) : (∀ x ∈ l, x < n) ∨ ∃ r, l = r ++ [n] ∧ Up r ∧ ∀ x ∈ r, x < n := by
  rcases List.eq_nil_or_concat l with e | ⟨r, t, e⟩
  · subst e
    exact .inl fun x hx => by simp at hx
  · rw [List.concat_eq_append] at e
    subst e
    obtain ⟨h1, _, h3⟩ := List.pairwise_append.mp h
    have ht := hl t (by simp)
    have hr : ∀ x ∈ r, x < t := fun x hx => h3 x hx t (by simp)
    by_cases c : t = n
    · subst c
      exact .inr ⟨r, rfl, h1, hr⟩
    · refine .inl fun x hx => ?_
      rcases List.mem_append.mp hx with q | q
      · have := hr x q
        omega
      · rw [List.mem_singleton] at q
        omega
theorem pset_ok : ∀ n (l : List Nat), Up l → (∀ x ∈ l, x < n) → pset l < C n l.length ∧ setAt n l.length (pset l) = l
  | 0, l, _, hl => by
    cases l with
    | nil => exact ⟨by decide, rfl⟩
    | cons a r => exact absurd (hl a (by simp)) (by omega)
  | n + 1, l, h, hl => by
    rcases up_last h hl with q | ⟨r, e, hr, hrn⟩
    · obtain ⟨h1, h2⟩ := pset_ok n l h q
      cases hk : l.length with
      | zero =>
        have : l = [] := List.eq_nil_of_length_eq_zero hk
        subst this
        exact ⟨by rw [C_zero]; decide, rfl⟩
      | succ k =>
        rw [hk] at h1 h2
        rw [C_succ]
        exact ⟨by omega, by rw [setAt_lo h1, h2]⟩
    · subst e
      obtain ⟨h1, h2⟩ := pset_ok n r hr hrn
      have e1 : (r ++ [n]).length = r.length + 1 := by rw [List.length_append]; rfl
      rw [e1, pset_snoc, C_succ]
      refine ⟨by omega, ?_⟩
      rw [setAt_hi (by omega), show C n r.length - 1 - (C n (r.length + 1) + C n r.length - 1 - pset r - C n (r.length + 1)) = pset r by omega, h2]
theorem pset_setAt : ∀ n k p, k ≤ n → p < C n k → pset (setAt n k p) = p
  | n, 0, p, _, hp => by
    rw [C_zero] at hp
    rw [setAt_zero, pset_nil]
    omega
  | 0, k + 1, p, h, _ => absurd h (by omega)
  | n + 1, k + 1, p, h, hp => by
    rw [C_succ] at hp
    by_cases c : p < C n (k + 1)
    · rw [setAt_lo c]
      by_cases d : k + 1 ≤ n
      · exact pset_setAt n (k + 1) p d c
      · rw [C_gt _ _ (by omega)] at c
        exact absurd c (by omega)
    · rw [setAt_hi c, pset_snoc, setAt_len n k _ (by omega) (by omega), pset_setAt n k _ (by omega) (by omega)]
      omega
/-- one goes, another comes -/
def Near (A B : List Nat) (g c : Nat) : Prop := A.filter (fun x => !B.contains x) = [g] ∧ B.filter (fun x => !A.contains x) = [c]
theorem Near.symm {A B : List Nat} {g c : Nat} (h : Near A B g c) : Near B A c g := ⟨h.2, h.1⟩
theorem near_snoc {A B : List Nat} {g c n : Nat} (h : Near A B g c) (hA : ∀ x ∈ A, x < n) (hB : ∀ x ∈ B, x < n) : Near (A ++ [n]) (B ++ [n]) g c := by
  have key : ∀ (A B : List Nat) (g : Nat), (∀ x ∈ A, x < n) → A.filter (fun x => !B.contains x) = [g] → (A ++ [n]).filter (fun x => !(B ++ [n]).contains x) = [g] := by
    intro A B g hA h
    have e1 : A.filter (fun x => !(B ++ [n]).contains x) = A.filter (fun x => !B.contains x) := by
      apply List.filter_congr
      intro x hx
      have := hA x hx
      have hne : x ≠ n := by omega
      simp [hne]
    rw [List.filter_append, e1, h]
    simp
  exact ⟨key A B g hA h.1, key B A c hB h.2⟩
theorem range_filter {j : Nat} {p : Nat → Bool} (h : ∀ x, x < j → p x = false) : (List.range j).filter p = [] := by
  rw [List.filter_eq_nil_iff]
  intro x hx
  rw [List.mem_range] at hx
  rw [h x hx]
  decide
theorem near_ends {m j : Nat} (h : j + 1 ≤ m) : Near (List.range j ++ [m]) (List.range (j + 1)) m j := by
  constructor
  · rw [List.filter_append, range_filter (fun x hx => by simp; omega)]
    simp
    omega
  · rw [List.range_succ, List.filter_append, range_filter (fun x hx => by simp; omega)]
    simp
    omega
theorem near_mid {m j : Nat} (h : j + 1 ≤ m) : Near (List.range (j + 1) ++ [m]) (List.range j ++ [m] ++ [m + 1]) j (m + 1) := by
  constructor
  · rw [List.range_succ, List.filter_append, List.filter_append, range_filter (fun x hx => by simp; omega)]
    simp
    omega
  · rw [List.filter_append, List.filter_append, range_filter (fun x hx => by simp; omega)]
    simp
    omega
theorem near_one (m : Nat) : Near [m] [m + 1] m (m + 1) := by
  constructor <;> simp
theorem set_turn : ∀ n k p, 0 < k → k < n → p + 1 < C n k → ∃ g c, Near (setAt n k p) (setAt n k (p + 1)) g c
  | 0, _, _, _, h, _ => absurd h (by omega)
  | _, 0, _, h, _, _ => absurd h (by omega)
  | n + 1, k + 1, p, _, hk, hp => by
    rw [C_succ] at hp
    by_cases c1 : p + 1 < C n (k + 1)
    · rw [setAt_lo c1, setAt_lo (show p < C n (k + 1) by omega)]
      by_cases d : k + 1 < n
      · exact set_turn n (k + 1) p (by omega) d c1
      · have e : k + 1 = n := by omega
        rw [e, C_self] at c1
        exact absurd c1 (by omega)
    · by_cases c2 : p + 1 = C n (k + 1)
      · obtain ⟨m, rfl⟩ : ∃ m, n = m + 1 := ⟨n - 1, by omega⟩
        have e1 : p = C (m + 1) (k + 1) - 1 := by omega
        rw [setAt_lo (show p < C (m + 1) (k + 1) by omega), setAt_hi (show ¬ p + 1 < C (m + 1) (k + 1) by omega), show C (m + 1) k - 1 - (p + 1 - C (m + 1) (k + 1)) = C (m + 1) k - 1 by omega, e1, setAt_last m k (by omega)]
        cases k with
        | zero =>
          rw [setAt_zero]
          exact ⟨m, m + 1, near_one m⟩
        | succ j =>
          rw [setAt_last m j (by omega)]
          exact ⟨j, m + 1, near_mid (by omega)⟩
      · have hk0 : 0 < k := by
          cases k with
          | zero =>
            rw [C_zero] at hp
            omega
          | succ k => omega
        rw [setAt_hi (show ¬ p < C n (k + 1) by omega), setAt_hi (show ¬ p + 1 < C n (k + 1) by omega)]
        obtain ⟨q, hq⟩ : ∃ q, q = C n k - 1 - (p + 1 - C n (k + 1)) := ⟨_, rfl⟩
        have e2 : C n k - 1 - (p - C n (k + 1)) = q + 1 := by omega
        rw [← hq, e2]
        obtain ⟨g, c, nr⟩ := set_turn n k q hk0 (by omega) (by omega)
        exact ⟨c, g, near_snoc nr.symm (setAt_up n k (q + 1) (by omega) (by omega)).2 (setAt_up n k q (by omega) (by omega)).2⟩
/-- round too -/
theorem set_round (n k p : Nat) (h0 : 0 < k) (hk : k < n) (hp : p < C n k) : ∃ g c, Near (setAt n k p) (setAt n k ((p + 1) % C n k)) g c := by
  by_cases h : p + 1 < C n k
  · rw [Nat.mod_eq_of_lt h]
    exact set_turn n k p h0 hk h
  · have e : p + 1 = C n k := by omega
    rw [e, Nat.mod_self, show p = C n k - 1 by omega]
    obtain ⟨m, rfl⟩ : ∃ m, n = m + 1 := ⟨n - 1, by omega⟩
    obtain ⟨j, rfl⟩ : ∃ j, k = j + 1 := ⟨k - 1, by omega⟩
    rw [setAt_last m j (by omega), setAt_first _ _ (by omega)]
    exact ⟨m, j, near_ends (by omega)⟩
theorem C_big (n k : Nat) (h0 : 0 < k) (hk : k < n) : 1 < C n k := by
  obtain ⟨m, rfl⟩ : ∃ m, n = m + 1 := ⟨n - 1, by omega⟩
  obtain ⟨j, rfl⟩ : ∃ j, k = j + 1 := ⟨k - 1, by omega⟩
  have h1 := C_pos m j (by omega)
  have h2 := C_pos m (j + 1) (by omega)
  rw [C_succ]
  omega
theorem up_drop {l : List Nat} {i x : Nat} (h : Up l) (e : l[i]? = some x) : ∀ y ∈ l.drop (i + 1), x < y := by
  obtain ⟨hi, e2⟩ := List.getElem?_eq_some_iff.mp e
  have d := List.drop_eq_getElem_cons hi
  have hd : Up (l.drop i) := List.Pairwise.sublist (List.drop_sublist i l) h
  rw [d, e2] at hd
  exact (List.pairwise_cons.mp hd).1
theorem up_take {l : List Nat} {i x : Nat} (h : Up l) (e : l[i]? = some x) : ∀ y ∈ l.take i, y < x := by
  obtain ⟨hi, e2⟩ := List.getElem?_eq_some_iff.mp e
  have ht : l.take (i + 1) = l.take i ++ [x] := by rw [List.take_add_one, e]; rfl
  have hd : Up (l.take (i + 1)) := List.Pairwise.sublist (List.take_sublist _ l) h
  rw [ht] at hd
  exact fun y hy => (List.pairwise_append.mp hd).2.2 y hy x (by simp)
/-- a rising list of numbers below n has at most n of them -/
theorem up_le : ∀ {l : List Nat} (n : Nat), Up l → (∀ x ∈ l, x < n) → l.length ≤ n
  | l, 0, _, hl => by
    cases l with
    | nil => exact Nat.le_refl _
    | cons a r => exact absurd (hl a (by simp)) (by omega)
  | l, n + 1, h, hl => by
    rcases up_last h hl with q | ⟨r, e, hr, hrn⟩
    · exact Nat.le_succ_of_le (up_le n h q)
    · rw [e, List.length_append]
      exact Nat.succ_le_succ (up_le n hr hrn)
theorem up_at {l : List Nat} {i x : Nat} (h : Up l) (e : l[i]? = some x) : i ≤ x := by
  have h1 := up_le x (List.Pairwise.sublist (List.take_sublist i l) h) (up_take h e)
  have h2 := (List.getElem?_eq_some_iff.mp e).1
  rw [List.length_take] at h1
  omega
theorem up_nodup {l : List Nat} (h : Up l) : l.Nodup := h.imp fun h => Nat.ne_of_lt h
/-- two rising lists of the same members are one -/
theorem up_ext : ∀ {A B : List Nat}, Up A → Up B → (∀ x, x ∈ A ↔ x ∈ B) → A = B
  | [], [], _, _, _ => rfl
  | [], b :: B, _, _, h => absurd ((h b).mpr (by simp)) (by simp)
  | a :: A, [], _, _, h => absurd ((h a).mp (by simp)) (by simp)
  | a :: A, b :: B, hA, hB, h => by
    obtain ⟨a1, a2⟩ := List.pairwise_cons.mp hA
    obtain ⟨b1, b2⟩ := List.pairwise_cons.mp hB
    have e : a = b := by
      have h1 : a ∈ b :: B := (h a).mp (by simp)
      have h2 : b ∈ a :: A := (h b).mpr (by simp)
      rcases List.mem_cons.mp h1 with q | q
      · exact q
      · rcases List.mem_cons.mp h2 with r | r
        · exact r.symm
        · have := a1 b r
          have := b1 a q
          omega
    subst e
    congr 1
    refine up_ext a2 b2 fun x => ?_
    constructor
    · intro hx
      have := a1 x hx
      rcases List.mem_cons.mp ((h x).mp (List.mem_cons_of_mem _ hx)) with q | q
      · omega
      · exact q
    · intro hx
      have := b1 x hx
      rcases List.mem_cons.mp ((h x).mpr (List.mem_cons_of_mem _ hx)) with q | q
      · omega
      · exact q
/-- what stays, with what comes, sorted, is the next one -/
theorem near_sort {A B : List Nat} {g c : Nat} (hA : Up A) (hB : Up B) (h : Near A B g c) {S : List Int} (pm : S.Perm ((A.filter (fun x => !(x == g)) ++ [c]).map fun (x : Nat) => (x : Int))) (st : S.Pairwise (· ≤ ·)) : S = B.map fun (x : Nat) => (x : Int) := by
  have hgA : ∀ x, (x ∈ A ∧ x ∉ B) ↔ x = g := fun x => by
    have e : x ∈ A.filter (fun x => !B.contains x) ↔ x ∈ [g] := by rw [h.1]
    simpa using e
  have hcB : ∀ x, (x ∈ B ∧ x ∉ A) ↔ x = c := fun x => by
    have e : x ∈ B.filter (fun x => !A.contains x) ↔ x ∈ [c] := by rw [h.2]
    simpa using e
  have c1 := (hcB c).mpr rfl
  have g1 := (hgA g).mpr rfl
  -- S's members are whole numbers from nought
  obtain ⟨T, hT⟩ : ∃ T : List Nat, S = T.map fun (x : Nat) => (x : Int) := by
    refine ⟨S.map Int.toNat, ?_⟩
    rw [List.map_map]
    refine (List.map_id _).symm.trans (List.map_congr_left fun x hx => ?_)
    have := pm.mem_iff.mp hx
    rw [List.mem_map] at this
    obtain ⟨y, _, rfl⟩ := this
    rfl
  subst hT
  congr 1
  have pmN : T.Perm (A.filter (fun x => !(x == g)) ++ [c]) := by
    have := pm.map Int.toNat
    rw [List.map_map, List.map_map] at this
    have idm : ∀ l : List Nat, l.map (Int.toNat ∘ fun (x : Nat) => (x : Int)) = l := fun l => by
      refine (List.map_congr_left (g := id) fun x _ => rfl).trans (List.map_id l)
    rw [idm, idm] at this
    exact this
  have nd : (A.filter (fun x => !(x == g)) ++ [c]).Nodup := by
    refine List.nodup_append.mpr ⟨(up_nodup hA).filter _, by simp, fun a ha b hb => ?_⟩
    rw [List.mem_singleton] at hb
    subst hb
    intro e
    subst e
    exact c1.2 (List.mem_filter.mp ha).1
  have ndT : T.Nodup := pmN.nodup_iff.mpr nd
  have upT : Up T := by
    have le : T.Pairwise (· ≤ ·) := by
      have := List.pairwise_map.mp st
      exact this.imp fun h => by omega
    exact (List.pairwise_and_iff.mpr ⟨le, ndT⟩).imp fun ⟨h1, h2⟩ => by omega
  refine up_ext upT hB fun x => ?_
  rw [pmN.mem_iff, List.mem_append, List.mem_filter, List.mem_singleton]
  constructor
  · rintro (⟨hx, hg⟩ | e)
    · by_cases hb : x ∈ B
      · exact hb
      · have := (hgA x).mp ⟨hx, hb⟩
        subst this
        simp at hg
    · subst e
      exact c1.1
  · intro hx
    by_cases ha : x ∈ A
    · refine .inl ⟨ha, ?_⟩
      have : x ≠ g := fun e => by
        subst e
        exact g1.2 hx
      simpa using this
    · exact .inr ((hcB x).mp ⟨hx, ha⟩)
theorem near_mem {A B : List Nat} {g c : Nat} (h : Near A B g c) : g ∈ A ∧ g ∉ B ∧ c ∈ B ∧ c ∉ A := by
  have e1 : g ∈ A.filter (fun x => !B.contains x) := by rw [h.1]; simp
  have e2 : c ∈ B.filter (fun x => !A.contains x) := by rw [h.2]; simp
  rw [List.mem_filter] at e1 e2
  exact ⟨e1.1, by simpa using e1.2, e2.1, by simpa using e2.2⟩
end One
namespace One
open PySem L2
/-! ### the text by places -/
def top (i : Nat) : Stmt := PySem.Challenge.pw_onestep_k08_whole_sets_once.main.body.getD i (.Pass ⟨0, 0, 0, 0⟩)
abbrev s_picks : Stmt := top 7
abbrev N_picks : List Str := ["total", "some", "ways", "k"]
theorem sc_picks : FnScope N_picks ["total", "some"] (defScope s_picks) := ⟨rfl, rfl, rfl, by decide +kernel, rfl, by decide +kernel, by decide +kernel⟩
abbrev s_sets : Stmt := top 8
abbrev N_sets : List Str := ["things", "some"]
theorem sc_sets : FnScope N_sets ["things", "some"] (defScope s_sets) := ⟨rfl, rfl, rfl, by decide +kernel, rfl, by decide +kernel, by decide +kernel⟩
abbrev s_asked : Stmt := top 9
abbrev N_asked : List Str := ["things", "some", "place", "total"]
theorem sc_asked : FnScope N_asked ["things", "some", "place"] (defScope s_asked) := ⟨rfl, rfl, rfl, by decide +kernel, rfl, by decide +kernel, by decide +kernel⟩
abbrev s_set_at : Stmt := top 10
abbrev N_set_at : List Str := ["things", "some", "place", "found", "without"]
theorem sc_set_at : FnScope N_set_at ["things", "some", "place"] (defScope s_set_at) := ⟨rfl, rfl, rfl, by decide +kernel, rfl, by decide +kernel, by decide +kernel⟩
abbrev s_set_step : Stmt := top 11
abbrev N_set_step : List Str := ["things", "some", "place", "total", "one", "other", "gone", "come", "thing"]
theorem sc_set_step : FnScope N_set_step ["things", "some", "place"] (defScope s_set_step) := ⟨rfl, rfl, rfl, by decide +kernel, rfl, by decide +kernel, by decide +kernel⟩
abbrev s__law_cell_at : Stmt := top 13
abbrev N__law_cell_at : List Str := ["script", "k"]
theorem sc__law_cell_at : FnScope N__law_cell_at ["script", "k"] (defScope s__law_cell_at) := ⟨rfl, rfl, rfl, by decide +kernel, rfl, by decide +kernel, by decide +kernel⟩
abbrev s__law_whole : Stmt := top 14
abbrev N__law_whole : List Str := ["found"]
theorem sc__law_whole : FnScope N__law_whole ["found"] (defScope s__law_whole) := ⟨rfl, rfl, rfl, by decide +kernel, rfl, by decide +kernel, by decide +kernel⟩
abbrev s__law_many_sets : Stmt := top 15
abbrev N__law_many_sets : List Str := ["things", "some", "line", "k", "j"]
theorem sc__law_many_sets : FnScope N__law_many_sets ["things", "some"] (defScope s__law_many_sets) := ⟨rfl, rfl, rfl, by decide +kernel, rfl, by decide +kernel, by decide +kernel⟩
abbrev s__law_good : Stmt := top 16
abbrev N__law_good : List Str := ["members", "things", "some", "k"]
theorem sc__law_good : FnScope N__law_good ["members", "things", "some"] (defScope s__law_good) := ⟨rfl, rfl, rfl, by decide +kernel, rfl, by decide +kernel, by decide +kernel⟩
abbrev s_law : Stmt := top 17
abbrev N_law : List Str := ["script", "things", "some", "total", "seen", "before", "place", "members", "gone", "come", "thing"]
theorem sc_law : FnScope N_law ["script"] (defScope s_law) := ⟨rfl, rfl, rfl, by decide +kernel, rfl, by decide +kernel, by decide +kernel⟩
/-- what the top has laid, as far as the walk asks -/
structure Txt (K : PySem.W.Frag) (mg : Str → Option Value) where
  f_picks : Addr
  fd_picks : FuncData
  F_picks : Fun K "picks" "picks" s_picks f_picks fd_picks
  b_picks : Binds K fd_picks ["total", "some"] []
  f_sets : Addr
  fd_sets : FuncData
  F_sets : Fun K "sets" "sets" s_sets f_sets fd_sets
  b_sets : Binds K fd_sets ["things", "some"] []
  f_asked : Addr
  fd_asked : FuncData
  F_asked : Fun K "asked" "asked" s_asked f_asked fd_asked
  b_asked : Binds K fd_asked ["things", "some", "place"] []
  f_set_at : Addr
  fd_set_at : FuncData
  F_set_at : Fun K "set_at" "set_at" s_set_at f_set_at fd_set_at
  b_set_at : Binds K fd_set_at ["things", "some", "place"] []
  f_set_step : Addr
  fd_set_step : FuncData
  F_set_step : Fun K "set_step" "set_step" s_set_step f_set_step fd_set_step
  b_set_step : Binds K fd_set_step ["things", "some", "place"] []
  f__law_cell_at : Addr
  fd__law_cell_at : FuncData
  F__law_cell_at : Fun K "_law_cell_at" "_law_cell_at" s__law_cell_at f__law_cell_at fd__law_cell_at
  b__law_cell_at : Binds K fd__law_cell_at ["script", "k"] []
  f__law_whole : Addr
  fd__law_whole : FuncData
  F__law_whole : Fun K "_law_whole" "_law_whole" s__law_whole f__law_whole fd__law_whole
  b__law_whole : Binds K fd__law_whole ["found"] []
  f__law_many_sets : Addr
  fd__law_many_sets : FuncData
  F__law_many_sets : Fun K "_law_many_sets" "_law_many_sets" s__law_many_sets f__law_many_sets fd__law_many_sets
  b__law_many_sets : Binds K fd__law_many_sets ["things", "some"] []
  f__law_good : Addr
  fd__law_good : FuncData
  F__law_good : Fun K "_law_good" "_law_good" s__law_good f__law_good fd__law_good
  b__law_good : Binds K fd__law_good ["members", "things", "some"] []
  f_law : Addr
  fd_law : FuncData
  F_law : Fun K "law" "law" s_law f_law fd_law
  b_law : Binds K fd_law ["script"] []
  g_picks : mg "picks" = some (.ref f_picks)
  g_sets : mg "sets" = some (.ref f_sets)
  g_asked : mg "asked" = some (.ref f_asked)
  g_set_at : mg "set_at" = some (.ref f_set_at)
  g_set_step : mg "set_step" = some (.ref f_set_step)
  g__law_cell_at : mg "_law_cell_at" = some (.ref f__law_cell_at)
  g__law_whole : mg "_law_whole" = some (.ref f__law_whole)
  g__law_many_sets : mg "_law_many_sets" = some (.ref f__law_many_sets)
  g__law_good : mg "_law_good" = some (.ref f__law_good)
  g_law : mg "law" = some (.ref f_law)
  t_MOST : Tok
  g_MOST : mg "MOST" = some (.int 40 t_MOST)
  m_bool : mg "bool" = none
  m_int : mg "int" = none
  m_isinstance : mg "isinstance" = none
  m_len : mg "len" = none
  m_list : mg "list" = none
  m_range : mg "range" = none
  m_tuple : mg "tuple" = none
end One
local macro_rules | `(tactic| walk_at "rd1") => `(tactic| first
  | (with_reducible refine One.rd_var ?_; refine ⟨_, rfl, ?_⟩)
  | with_reducible refine One.rd_c ?_
  | with_reducible refine One.rd_seq ?_
  | with_reducible refine One.rd_asg ?_
  | with_reducible refine One.rd_name ?_
  | with_reducible refine One.rd_op ?_
  | with_reducible refine One.rd_i0 ?_
  | with_reducible refine One.rd_mul1 ⟨(by omega), (by omega)⟩ ?_
  | with_reducible refine One.rd_mul2 ⟨(by omega), (by omega)⟩ ?_
  | with_reducible refine One.rd_div ⟨(by omega), (by omega)⟩ ?_
  | with_reducible refine One.rd_mod (by omega) ?_
  | with_reducible refine One.rd_i ?_ ?_
  | with_reducible refine One.rd_eq ?_
  | with_reducible refine One.rd_ne ?_
  | with_reducible refine One.rd_eqB ?_
  | with_reducible refine One.rd_neB ?_
  | with_reducible refine One.rd_test ?_
  | with_reducible refine One.rd_tB ?_
  | with_reducible refine One.rd_bl ?_
  | with_reducible refine One.rd_and ?_
  | with_reducible refine One.rd_or ?_
  | with_reducible refine One.rd_not ?_
  | with_reducible refine One.rd_andV ?_
  | with_reducible refine One.rd_orV ?_
  | with_reducible refine One.rd_notV ?_
  | with_reducible refine One.rd_ifx ?_
  | with_reducible refine One.rd_if ?_
  | with_reducible refine One.rd_ret ?_
  | with_reducible refine One.rd_drop ?_
  | with_reducible refine One.rd_next ?_
  | with_reducible refine One.rd_par ?_
  | with_reducible refine One.rd_two ?_
  | with_reducible refine One.rd_un ?_
  | with_reducible refine One.rd_neg ?_
  | with_reducible refine One.rd_nil ?_
  | with_reducible refine One.rd_cons ?_
  | with_reducible refine One.rd_cb ?_
  | with_reducible refine One.rd_call ?_
  | with_reducible refine One.rd_tup ?_
  | with_reducible refine One.rd_lst ?_
  | with_reducible refine One.rd_bm ?_
  | with_reducible refine One.rd_sl ?_
  | with_reducible refine One.rd_nopart ?_
  | with_reducible refine One.rd_part ?_
  | with_reducible refine One.rd_ni ?_
  | with_reducible refine One.rd_for1 ?_
  | with_reducible refine One.rd_forL ?_
  | with_reducible refine One.rd_lcL ?_
  | with_reducible refine One.rd_lcV ?_
  | with_reducible refine One.rd_lcR ?_
  | with_reducible refine One.tt_yes ?_
  | with_reducible refine One.rd_forV ?_
  | with_reducible refine One.rd_forRR ?_
  | with_reducible refine One.rd_rg2 ?_
  | with_reducible refine One.rd_rg1 ?_
  | with_reducible refine One.rd_ij ?_
  | with_reducible refine One.rd_lstRg ?_
  | with_reducible refine One.rd_din ?_
  | with_reducible refine One.rd_dput ?_
  | with_reducible refine One.rd_newT ?_
  | with_reducible refine One.whil_in ?_
  | with_reducible refine One.if_t ?_
  | with_reducible refine One.if_f ?_
  | with_reducible refine One.if_ft ?_
  | with_reducible refine One.if_tf ?_
  | with_reducible refine One.if_df (by omega) ?_
  | with_reducible refine One.if_dt (by omega) ?_
  | with_reducible refine One.if_nf (by omega) ?_
  | with_reducible refine One.if_nt (by omega) ?_)
local macro_rules | `(tactic| walk_at "rd") => `(tactic| repeat (walk_at "rd1"))
namespace One
open PySem L2
section
variable {P : Program} {w : World} {K : PySem.W.Frag} {mg : Str → Option Value} {base : Heap}

def sp_picks : Sp := fun vs H Q _ => ∃ n k : Nat, vs = [.int (n : Int), .int (k : Int)] ∧ n ≤ 40 ∧ k ≤ n + 1 ∧ Q (.int ((C n k : Nat) : Int)) H
theorem picks_turn {n k : Nat} (h : k ≤ n) : ((C n k : Nat) : Int) * ((n : Int) - (k : Int)) / ((k : Int) + 1) = ((C n (k + 1) : Nat) : Int) := by
  rw [← C_next n k, Int.natCast_ediv, Int.natCast_mul, Int.ofNat_sub h]
  rfl
theorem ok_picks (T : Txt K mg) : FnOk P w K mg base CX0 1 T.f_picks T.fd_picks ["total", "some"] (sp_picks) := by
  refine T.F_picks.ok sc_picks (fun vs H Q E h => ?_) (fun cdv A outer s H vs Q E hr h => ?_)
  · obtain ⟨_, _, rfl, _⟩ := h
    rfl
  · refine ⟨_, (pss_cons (ps_set (i := 2) sc_picks.nd rfl (Or.inl rfl) pe_int)
      (pss_cons (ps_for PassesOwn.never rfl (pi_range1 rfl T.m_range (pa_cons (pv 1) pa_nil)) (pg_name (i := 3) sc_picks.nd rfl (Or.inl rfl)) (pss_one (ps_set (i := 2) sc_picks.nd rfl (Or.inl rfl) (pe_op op_fdiv (pe_op op_mul (pv 2) (pe_op op_sub (pv 0) (pv 3))) (pe_op op_add (pv 3) pe_int)))))
      (pss_one (ps_ret (pv 2))))), ?_⟩
    obtain ⟨n, k, rfl, hn, hk, q⟩ := h
    have bd : ∀ j, C n j ≤ 2 ^ 40 := fun j => Nat.le_trans (C_le n j) (Nat.pow_le_pow_right (by decide) hn)
    walk_at "rd"
    refine for1 (n := k) (by omega) (fun j σ' H' => ∃ y, σ' = [some (.int (n : Int)), some (.int (k : Int)), some (.int ((C n j : Nat) : Int)), y] ∧ H' = H) ?_ ?_ ?_
    · rw [C_zero]
      exact ⟨_, rfl, rfl⟩
    · rintro j σ' H' hj ⟨y, rfl, rfl⟩
      have := bd j
      walk_at "rd"
      rw [picks_turn (by omega)]
      exact ⟨_, rfl, rfl⟩
    · rintro σ' H' ⟨y, rfl, rfl⟩
      walk_at "rd"
      exact q

def sp_sets : Sp := fun vs H Q _ => ∃ n k : Nat, vs = [.int (n : Int), .int (k : Int)] ∧ n ≤ 40 ∧ k ≤ n ∧ Q (.int ((C n k : Nat) : Int)) H
theorem ok_sets (T : Txt K mg) : FnOk P w K mg base CX0 2 T.f_sets T.fd_sets ["things", "some"] (sp_sets) := by
  have G_picks := ok_picks (P := P) (w := w) (base := base) T
  refine T.F_sets.ok sc_sets (fun vs H Q E h => ?_) (fun cdv A outer s H vs Q E hr h => ?_)
  · obtain ⟨_, _, rfl, _⟩ := h
    rfl
  · refine ⟨_, (pss_cons (ps_if (PW.pt (pw_or (pt_cmpR op_lt (pv 0) pe_int (nomark _)) (pw_or (pt_cmpR op_gt (pv 0) (pe_glob (v := .int 40) rfl T.g_MOST ⟨_, rfl⟩) (nomark _)) (pw_or (pt_cmpR op_lt (pv 1) pe_int (nomark _)) (pw_or1 (pt_cmpR op_gt (pv 1) (pv 0) (nomark _))))))) (pss_one ps_never) pss_nil)
      (pss_one (ps_ret (pe_call G_picks (hr.mono (by decide)) (by rfl) T.g_picks T.F_picks.kp T.b_picks .nil pass0 (pa_cons (pv 0) (pa_cons (pv 1) pa_nil)))))), ?_⟩
    obtain ⟨n, k, rfl, hn, hk, q⟩ := h
    walk_at "rd"
    exact ⟨n, k, rfl, hn, by omega, q⟩

def sp_asked_sets : Sp := fun vs H Q _ => ∃ n k p : Nat, vs = [.int (n : Int), .int (k : Int), .int (p : Int)] ∧ n ≤ 40 ∧ k ≤ n ∧ p < C n k ∧ Q .non H
theorem ok_asked (T : Txt K mg) : FnOk P w K mg base CX0 3 T.f_asked T.fd_asked ["things", "some", "place"] (sp_asked_sets) := by
  have G_sets := ok_sets (P := P) (w := w) (base := base) T
  refine T.F_asked.ok sc_asked (fun vs H Q E h => ?_) (fun cdv A outer s H vs Q E hr h => ?_)
  · obtain ⟨_, _, _, rfl, _⟩ := h
    rfl
  · refine ⟨_, (pss_cons (ps_set (i := 3) sc_asked.nd rfl (Or.inl rfl) (pe_call G_sets (hr.mono (by decide)) (by rfl) T.g_sets T.F_sets.kp T.b_sets .nil pass0 (pa_cons (pv 0) (pa_cons (pv 1) pa_nil))))
      (pss_one (ps_if (PW.pt (pw_or (pt_cmpR op_lt (pv 2) pe_int (nomark _)) (pw_or1 (pt_cmpR op_ge (pv 2) (pv 3) (nomark _))))) (pss_one ps_never) pss_nil))), ?_⟩
    obtain ⟨n, k, p, rfl, hn, hk, hp, q⟩ := h
    walk_at "rd"
    refine ⟨n, k, rfl, hn, hk, ?_⟩
    walk_at "rd"
    exact q

def sp_set_at : Sp := fun vs H Q _ => ∃ n k p : Nat, vs = [.int (n : Int), .int (k : Int), .int (p : Int)] ∧ n ≤ 40 ∧ k ≤ n ∧ p < C n k ∧
  ∀ H' a, Same H H' → H a = none → H' a = some (.lst ((zs (setAt n k p)).map V.int)) → Q (.ref a) H'
theorem ok_set_at (T : Txt K mg) : FnOk P w K mg base CX0 4 T.f_set_at T.fd_set_at ["things", "some", "place"] (sp_set_at) := by
  have G_asked := ok_asked (P := P) (w := w) (base := base) T
  have G_picks := ok_picks (P := P) (w := w) (base := base) T
  refine T.F_set_at.ok sc_set_at (fun vs H Q E h => ?_) (fun cdv A outer s H vs Q E hr h => ?_)
  · obtain ⟨_, _, _, rfl, _⟩ := h
    rfl
  · refine ⟨_, (pss_cons (ps_expr (pe_call G_asked (hr.mono (by decide)) (by rfl) T.g_asked T.F_asked.kp T.b_asked .nil pass0 (pa_cons (pv 0) (pa_cons (pv 1) (pa_cons (pv 2) pa_nil)))))
      (pss_cons (ps_set (i := 3) sc_set_at.nd rfl (Or.inl rfl) (pe_lst pa_nil))
      (pss_cons (ps_while PassesOwn.never (pt_cmpR op_gt (pv 1) pe_int (nomark _)) (pss_cons (ps_set (i := 4) sc_set_at.nd rfl (Or.inl rfl) (pe_call G_picks (hr.mono (by decide)) (by rfl) T.g_picks T.F_picks.kp T.b_picks .nil pass0 (pa_cons (pe_op op_sub (pv 0) pe_int) (pa_cons (pv 1) pa_nil))))
      (pss_one (ps_if (PW.pt (pw_and (pt_cmpR op_lt (pv 1) (pv 0) (nomark _)) (pw_and1 (pt_cmpR op_lt (pv 2) (pv 4) (nomark _))))) (pss_one (ps_set (i := 0) sc_set_at.nd rfl (Or.inl rfl) (pe_op op_sub (pv 0) pe_int))) (pss_cons (ps_if (pt_cmpR op_eq (pv 1) (pv 0) (nomark _)) (pss_one (ps_set (i := 4) sc_set_at.nd rfl (Or.inl rfl) pe_int)) pss_nil)
      (pss_cons (ps_set (i := 0) sc_set_at.nd rfl (Or.inl rfl) (pe_op op_sub (pv 0) pe_int))
      (pss_cons (ps_set (i := 1) sc_set_at.nd rfl (Or.inl rfl) (pe_op op_sub (pv 1) pe_int))
      (pss_cons (ps_expr (pe_bm PySem.F.plainAttrs_list PySem.F.slot_list_insert PySem.F.type_list_insert mt_insert (pv 3) (pa_cons pe_int (pa_cons (pv 0) pa_nil))))
      (pss_one (ps_set (i := 2) sc_set_at.nd rfl (Or.inl rfl) (pe_op op_sub (pe_op op_sub (pe_call G_picks (hr.mono (by decide)) (by rfl) T.g_picks T.F_picks.kp T.b_picks .nil pass0 (pa_cons (pv 0) (pa_cons (pv 1) pa_nil))) pe_int) (pe_op op_sub (pv 2) (pv 4)))))))))))))
      (pss_one (ps_ret (pv 3)))))), ?_⟩
    obtain ⟨n, k, p, rfl, hn, hk, hp, q⟩ := h
    walk_at "rd"
    refine ⟨n, k, p, rfl, hn, hk, hp, ?_⟩
    walk_at "rd"
    refine rd_newL (by decide) fun o no => ?_
    walk_at "rd"
    refine whil (fun m σ' H' => ∃ (n' k' p' : Nat) (suf : List Nat) (y : Option V), σ' = [some (.int (n' : Int)), some (.int (k' : Int)), some (.int (p' : Int)), some (.ref o), y] ∧ m = n' ∧ n' ≤ 40 ∧ k' ≤ n' ∧ p' < C n' k' ∧ setAt n' k' p' ++ suf = setAt n k p ∧ Same H H' ∧ H' o = some (.lst ((zs suf).map V.int))) n
      ⟨n, k, p, [], _, rfl, rfl, hn, hk, hp, List.append_nil _, same_upd no, upd_same⟩ ?_
    rintro m σ' H' ⟨n', k', p', suf, y, rfl, rfl, hn', hk', hp', e, sm, ho⟩
    have hsl : suf.length ≤ 40 := by
      have := congrArg List.length e
      rw [List.length_append, setAt_len n k p hk hp] at this
      omega
    walk_at "rd"
    refine if_d2 (fun c => ?_) (fun c => ?_)
    · obtain ⟨j, rfl⟩ : ∃ j, k' = j + 1 := ⟨k' - 1, by omega⟩
      obtain ⟨i, rfl⟩ : ∃ i, m = i + 1 := ⟨m - 1, by omega⟩
      have hpc := hp'
      rw [C_succ] at hpc
      walk_at "rd"
      refine ⟨i, j + 1, vi2 (by omega) rfl, by omega, by omega, ?_⟩
      walk_at "rd"
      refine if_d2 (fun c1 => ?_) (fun c1 => ?_)
      · walk_at "rd"
        refine if_d2 (fun c2 => ?_) (fun c2 => ?_)
        · walk_at "rd"
          rw [show ((i + 1 : Nat) : Int) - 1 = (i : Int) by omega]
          refine ⟨i, by omega, i, j + 1, p', suf, _, rfl, rfl, by omega, by omega, by omega, ?_, sm, ho⟩
          rw [← e, setAt_lo (by omega)]
        · walk_at "rd"
          refine ⟨tyL ho, ?_⟩
          walk_at "rd"
          refine rd_ins (i := 0) rfl ho (by rw [zsV_len]; omega) (by omega) ?_
          walk_at "rd"
          refine ⟨i, j, vi2 (by omega) (by omega), by omega, by omega, ?_⟩
          walk_at "rd"
          rw [show ((i + 1 : Nat) : Int) - 1 = (i : Int) by omega, show ((j + 1 : Nat) : Int) - 1 = (j : Int) by omega, show ((C i j : Nat) : Int) - 1 - ((p' : Int) - ((C i (j + 1) : Nat) : Int)) = ((C i j - 1 - (p' - C i (j + 1)) : Nat) : Int) by omega]
          refine ⟨i, by omega, i, j, C i j - 1 - (p' - C i (j + 1)), i :: suf, _, rfl, rfl, by omega, by omega, by omega, ?_, same_mut sm no, ?_⟩
          · rw [← e, setAt_hi (by omega), List.append_assoc]
            rfl
          · rw [upd_same, zs_cons]
            rfl
      · have ej : j = i := by omega
        subst ej
        have z : C j (j + 1) = 0 := C_gt _ _ (by omega)
        walk_at "rd"
        refine ⟨tyL ho, ?_⟩
        walk_at "rd"
        refine rd_ins (i := 0) rfl ho (by rw [zsV_len]; omega) (by omega) ?_
        walk_at "rd"
        refine ⟨j, j, vi2 (by omega) (by omega), by omega, by omega, ?_⟩
        walk_at "rd"
        rw [show ((j + 1 : Nat) : Int) - 1 = (j : Int) by omega, show ((C j j : Nat) : Int) - 1 - ((p' : Int) - 0) = ((C j j - 1 - (p' - C j (j + 1)) : Nat) : Int) by omega]
        refine ⟨j, by omega, j, j, C j j - 1 - (p' - C j (j + 1)), j :: suf, _, rfl, rfl, by omega, by omega, by omega, ?_, same_mut sm no, ?_⟩
        · rw [← e, setAt_hi (by omega), List.append_assoc]
          rfl
        · rw [upd_same, zs_cons]
          rfl
    · have e0 : k' = 0 := by omega
      subst e0
      rw [setAt_zero] at e
      walk_at "rd"
      rw [show suf = setAt n k p from e] at ho
      exact q H' o sm no ho

def sp_set_step : Sp := fun vs H Q _ => ∃ n k p : Nat, vs = [.int (n : Int), .int (k : Int), .int (p : Int)] ∧ n ≤ 40 ∧ 0 < k ∧ k < n ∧ p < C n k ∧
  ∀ g c, Near (setAt n k p) (setAt n k ((p + 1) % C n k)) g c → ∀ H' a, Same H H' → H a = none → H' a = some (.tup [.int (g : Int), .int (c : Int)]) → Q (.ref a) H'
theorem one_at (z : Nat) : ((zs [z]).map V.int)[0]? = some (.int (z : Int)) := rfl
theorem ok_set_step (T : Txt K mg) : FnOk P w K mg base CX0 5 T.f_set_step T.fd_set_step ["things", "some", "place"] (sp_set_step) := by
  have G_asked := ok_asked (P := P) (w := w) (base := base) T
  have G_picks := ok_picks (P := P) (w := w) (base := base) T
  have G_set_at := ok_set_at (P := P) (w := w) (base := base) T
  refine T.F_set_step.ok sc_set_step (fun vs H Q E h => ?_) (fun cdv A outer s H vs Q E hr h => ?_)
  · obtain ⟨_, _, _, rfl, _⟩ := h
    rfl
  · refine ⟨_, (pss_cons (ps_expr (pe_call G_asked (hr.mono (by decide)) (by rfl) T.g_asked T.F_asked.kp T.b_asked .nil pass0 (pa_cons (pv 0) (pa_cons (pv 1) (pa_cons (pv 2) pa_nil)))))
      (pss_cons (ps_set (i := 3) sc_set_step.nd rfl (Or.inl rfl) (pe_call G_picks (hr.mono (by decide)) (by rfl) T.g_picks T.F_picks.kp T.b_picks .nil pass0 (pa_cons (pv 0) (pa_cons (pv 1) pa_nil))))
      (pss_cons (ps_if (pt_cmpR op_eq (pv 3) pe_int (nomark _)) (pss_one ps_never) pss_nil)
      (pss_cons (ps_set (i := 4) sc_set_step.nd rfl (Or.inr rfl) (pe_call G_set_at (hr.mono (by decide)) (by rfl) T.g_set_at T.F_set_at.kp T.b_set_at .nil pass0 (pa_cons (pv 0) (pa_cons (pv 1) (pa_cons (pv 2) pa_nil)))))
      (pss_cons (ps_set (i := 5) sc_set_step.nd rfl (Or.inr rfl) (pe_call G_set_at (hr.mono (by decide)) (by rfl) T.g_set_at T.F_set_at.kp T.b_set_at .nil pass0 (pa_cons (pv 0) (pa_cons (pv 1) (pa_cons (pe_op op_mod (pe_op op_add (pv 2) pe_int) (pv 3)) pa_nil)))))
      (pss_cons (ps_setLc (i := 6) (own := [("thing", 8)]) rfl sc_set_step.nd rfl rfl (sw_true rfl rfl rfl (by decide +kernel)) (pi_list (pv 4)) (blkOk_by (own := [("thing", 8)]) (N := N_set_step) (sc := defScope s_set_step) (by decide +kernel)) (fun _ _ _ _ _ => (pg_name (i := 8) sc_set_step.nd rfl (Or.inl rfl))) (fun _ _ _ _ _ => (pts_one (pt_cmpR (show OpR _ _ (rIn K true) from op_notIn_seq) (pv 8) (pv 5) (by rfl)))) (fun _ _ _ _ _ => (pv 8)))
      (pss_cons (ps_setLc (i := 7) (own := [("thing", 8)]) rfl sc_set_step.nd rfl rfl (sw_true rfl rfl rfl (by decide +kernel)) (pi_list (pv 5)) (blkOk_by (own := [("thing", 8)]) (N := N_set_step) (sc := defScope s_set_step) (by decide +kernel)) (fun _ _ _ _ _ => (pg_name (i := 8) sc_set_step.nd rfl (Or.inl rfl))) (fun _ _ _ _ _ => (pts_one (pt_cmpR (show OpR _ _ (rIn K true) from op_notIn_seq) (pv 8) (pv 4) (by rfl)))) (fun _ _ _ _ _ => (pv 8)))
      (pss_one (ps_ret (pe_tup (pa_cons (pe_ix ix_list (pv 6) pe_int (fun _ _ => rfl)) (pa_cons (pe_ix ix_list (pv 7) pe_int (fun _ _ => rfl)) pa_nil)))))))))))), ?_⟩
    obtain ⟨n, k, p, rfl, hn, h0, hk, hp, q⟩ := h
    have big := C_big n k h0 hk
    have hp2 : (p + 1) % C n k < C n k := Nat.mod_lt _ (by omega)
    obtain ⟨g, c, nr⟩ := set_round n k p h0 hk hp
    have q := q g c nr
    have lA := setAt_len n k p (by omega) hp
    have lB := setAt_len n k _ (by omega) hp2
    walk_at "rd"
    refine ⟨n, k, p, rfl, hn, by omega, hp, ?_⟩
    walk_at "rd"
    refine ⟨n, k, rfl, hn, by omega, ?_⟩
    walk_at "rd"
    refine ⟨n, k, p, rfl, hn, by omega, hp, fun H1 a1 sm1 na1 ha1 => ?_⟩
    walk_at "rd"
    refine ⟨n, k, (p + 1) % C n k, rfl, hn, by omega, hp2, fun H2 a2 sm2 na2 ha2 => ?_⟩
    have ha1' := sm2 _ _ ha1
    generalize setAt n k p = A at nr lA ha1'
    generalize setAt n k ((p + 1) % C n k) = B at nr lB ha2
    walk_at "rd"
    refine lc_a (SqL.of ha1') ?_
    refine lc_pure (walk_list (xs := (zs A).map V.int)) (fun i => !B.contains (A.getD i 0)) (fun i => .int ((A.getD i 0 : Nat) : Int)) (fun H' s => SqL.of (s _ _ ha1')) ?_ ?_
    · rintro D i x H3 H4 hi cp ⟨rfl, hx⟩
      rw [zs_get hx]
      walk_at "rd"
      refine ⟨rfl, ?_⟩
      walk_at "rd"
      refine rd_notin (SqL.of (cp.2.1 _ _ ha2)) ?_
      walk_at "rd"
      rw [zsV_len] at hi
      refine if_b2 (fun e => ?_) (fun e => ?_)
      · walk_at "rd"
        exact cp_yes cp (Same.refl _) (by omega) e rfl
      · exact cp_no cp (Same.refl _) e
    · intro D1 H3 nD1 sm3 hD1
      rw [zsV_len, given_out, nr.1] at hD1
      walk_at "rd"
      refine lc_a (SqL.of (sm3 _ _ ha2)) ?_
      refine lc_pure (walk_list (xs := (zs B).map V.int)) (fun i => !A.contains (B.getD i 0)) (fun i => .int ((B.getD i 0 : Nat) : Int)) (fun H' s => SqL.of (s _ _ (sm3 _ _ ha2))) ?_ ?_
      · rintro D i x H4 H5 hi cp ⟨rfl, hx⟩
        rw [zs_get hx]
        walk_at "rd"
        refine ⟨rfl, ?_⟩
        walk_at "rd"
        refine rd_notin (SqL.of (cp.2.1 _ _ (sm3 _ _ ha1'))) ?_
        walk_at "rd"
        rw [zsV_len] at hi
        refine if_b2 (fun e => ?_) (fun e => ?_)
        · walk_at "rd"
          exact cp_yes cp (Same.refl _) (by omega) e rfl
        · exact cp_no cp (Same.refl _) e
      · intro D2 H4 nD2 sm4 hD2
        rw [zsV_len, given_out, nr.2] at hD2
        have hD1' := sm4 _ _ hD1
        walk_at "rd"
        refine rd_at (SqL.of hD1') (one_at g) ?_
        walk_at "rd"
        refine rd_at (SqL.of hD2) (one_at c) ?_
        walk_at "rd"
        refine rd_newL (by show 2 ≤ 100000; decide) fun t nt => ?_
        have sm14 := ((sm1.trans sm2).trans sm3).trans sm4
        exact q _ t (sm14.trans (same_upd nt)) (sm14.free nt) upd_same

/-- a cell of the script, nought behind its end -/
def sp_cell (K : PySem.W.Frag) : Sp := fun vs H Q _ => ∃ (a : Addr) (ns : List Int) (k : Nat), vs = [.ref a, .int (k : Int)] ∧ SqL K H a (ns.map V.int) ∧ Q (.int (ns.getD k 0)) H
theorem ok__law_cell_at (T : Txt K mg) : FnOk P w K mg base CX0 1 T.f__law_cell_at T.fd__law_cell_at ["script", "k"] (sp_cell K) := by
  refine T.F__law_cell_at.ok sc__law_cell_at (fun vs H Q E h => ?_) (fun cdv A outer s H vs Q E hr h => ?_)
  · obtain ⟨_, _, _, rfl, _⟩ := h
    rfl
  · refine ⟨_, (pss_cons (ps_if (pt_cmpR op_lt (pv 1) (pe_callB call_len_seq (by rfl) T.m_len PySem.boot_len (pa_cons (pv 0) pa_nil)) (nomark _)) (pss_one (ps_ret (pe_ix ix_list (pv 0) (pv 1) (fun _ _ => rfl)))) pss_nil)
      (pss_one (ps_ret pe_int))), ?_⟩
    obtain ⟨a, ns, k, rfl, hS, q⟩ := h
    walk_at "rd"
    refine rd_len hS ?_
    walk_at "rd"
    rw [List.length_map]
    refine if_d2 (fun hlt => ?_) (fun hge => ?_)
    · walk_at "rd"
      have e : ns[k]? = some (ns.getD k 0) := by
        rw [List.getD_eq_getElem?_getD, List.getElem?_eq_getElem (by omega)]
        rfl
      exact rd_at hS (ints_at e) q
    · walk_at "rd"
      rw [List.getD_eq_getElem?_getD, List.getElem?_eq_none (by omega)] at q
      exact q

def sp_whole : Sp := fun vs H Q _ => ∃ i : Int, vs = [.int i] ∧ Q (.bl true) H
theorem ok__law_whole (T : Txt K mg) : FnOk P w K mg base CX0 1 T.f__law_whole T.fd__law_whole ["found"] (sp_whole) := by
  refine T.F__law_whole.ok sc__law_whole (fun vs H Q E h => ?_) (fun cdv A outer s H vs Q E hr h => ?_)
  · obtain ⟨_, rfl, _⟩ := h
    rfl
  · refine ⟨_, (pss_one (ps_ret (pe_and (pe_callB (show CallR _ _ (rIsi K) from call_isi) (by rfl) T.m_isinstance (by decide +kernel) (pa_cons (pv 0) (pa_cons (pe_bltn (v := .ty "int") (by rfl) T.m_int (by decide +kernel) rfl) pa_nil))) (pe_one (pe_not (pe_callB (show CallR _ _ (rIsi K) from call_isi) (by rfl) T.m_isinstance (by decide +kernel) (pa_cons (pv 0) (pa_cons (pe_bltn (v := .ty "bool") (by rfl) T.m_bool (by decide +kernel) rfl) pa_nil)))))))), ?_⟩
    obtain ⟨i, rfl, q⟩ := h
    walk_at "rd"
    refine isi_ii ?_
    walk_at "rd"
    refine isi_ib ?_
    walk_at "rd"
    exact q

def sp_many_sets : Sp := fun vs H Q _ => ∃ n k : Nat, vs = [.int (n : Int), .int (k : Int)] ∧ n ≤ 40 ∧ k ≤ n ∧ ∀ H', Same H H' → Q (.int ((C n k : Nat) : Int)) H'
/-- a row of the triangle -/
def tri (k : Nat) : List V := (List.range (k + 1)).map fun j => V.int ((C k j : Nat) : Int)
theorem tri_len (k : Nat) : (tri k).length = k + 1 := by
  unfold tri
  rw [List.length_map, List.length_range]
theorem tri_at {k j : Nat} (h : j ≤ k) : (tri k)[j]? = some (V.int ((C k j : Nat) : Int)) := by
  unfold tri
  rw [List.getElem?_map, List.getElem?_range (by omega)]
  rfl
def sumT (k : Nat) : Nat → V := fun j => V.int (((C k j : Nat) : Int) + ((C k (j + 1) : Nat) : Int))
theorem tri_succ (k : Nat) : [V.int 1] ++ given k (fun _ => true) (sumT k) ++ [V.int 1] = tri (k + 1) := by
  have eg : given k (fun _ => true) (sumT k) = (List.range k).map (sumT k) := by
    unfold given
    rw [List.filter_eq_self.mpr (fun _ _ => rfl)]
  rw [eg]
  apply List.ext_getElem?
  intro j
  by_cases h : j ≤ k + 1
  · rw [tri_at h]
    cases j with
    | zero =>
      rw [C_zero]
      rfl
    | succ i =>
      show ((List.range k).map (sumT k) ++ [V.int 1])[i]? = _
      by_cases hi : i < k
      · rw [List.getElem?_append_left (by rw [List.length_map, List.length_range]; exact hi), List.getElem?_map, List.getElem?_range hi, C_succ]
        rfl
      · have e : i = k := by omega
        subst e
        rw [List.getElem?_append_right (by rw [List.length_map, List.length_range]; omega), List.length_map, List.length_range, Nat.sub_self, C_self]
        rfl
  · rw [List.getElem?_eq_none (by rw [List.length_append, List.length_append, List.length_map, List.length_range]; show 1 + k + 1 ≤ j; omega), List.getElem?_eq_none (by rw [tri_len]; omega)]
theorem ok__law_many_sets (T : Txt K mg) : FnOk P w K mg base CX0 1 T.f__law_many_sets T.fd__law_many_sets ["things", "some"] (sp_many_sets) := by
  refine T.F__law_many_sets.ok sc__law_many_sets (fun vs H Q E h => ?_) (fun cdv A outer s H vs Q E hr h => ?_)
  · obtain ⟨_, _, rfl, _⟩ := h
    rfl
  · refine ⟨_, (pss_cons (ps_set (i := 2) sc__law_many_sets.nd rfl (Or.inr rfl) (pe_lst (pa_cons pe_int pa_nil)))
      (pss_cons (ps_for PassesOwn.never rfl (pi_range1 rfl T.m_range (pa_cons (pv 0) pa_nil)) (pg_name (i := 3) sc__law_many_sets.nd rfl (Or.inl rfl)) (pss_one (ps_set (i := 2) sc__law_many_sets.nd rfl (Or.inr rfl) (pe_op op_cat (pe_op op_cat (pe_lst (pa_cons pe_int pa_nil)) (pe_lc (own := [("j", 4)]) (tt := tYes) rfl sc__law_many_sets.nd (pi_range1 rfl T.m_range (pa_cons (pv 3) pa_nil)) (blkOk_by (own := [("j", 4)]) (N := N__law_many_sets) (sc := defScope s__law_many_sets) (by decide +kernel)) (fun _ _ _ _ _ => (pg_name (i := 4) sc__law_many_sets.nd rfl (Or.inl rfl))) (fun _ _ _ _ _ => pts_nil) (fun _ _ _ _ _ => (pe_op op_add (pe_ix (show IxR _ (rIxL K) from ix_list) (pv 2) (pv 4) (fun _ _ => rfl)) (pe_ix (show IxR _ (rIxL K) from ix_list) (pv 2) (pe_op op_add (pv 4) pe_int) (fun _ _ => rfl)))))) (pe_lst (pa_cons pe_int pa_nil))))))
      (pss_one (ps_ret (pe_ix ix_list (pv 2) (pv 1) (fun _ _ => rfl)))))), ?_⟩
    obtain ⟨n, k, rfl, hn, hk, q⟩ := h
    walk_at "rd"
    refine rd_newL (by show 1 ≤ 100000; decide) fun o no => ?_
    walk_at "rd"
    refine for1 (n := n) (by omega) (fun i σ' H' => ∃ (l : Addr) (y z : Option V), σ' = [some (.int (n : Int)), some (.int (k : Int)), some (.ref l), y, z] ∧ Same H H' ∧ H' l = some (.lst (tri i))) ⟨o, _, _, rfl, same_upd no, upd_same⟩ ?_ ?_
    · rintro i σ' H' hi ⟨l, y, z, rfl, sm, hl⟩
      walk_at "rd"
      refine rd_newL (by show 1 ≤ 100000; decide) fun o1 no1 => ?_
      walk_at "rd"
      refine lc_r (n := i) (by omega) ?_
      rw [Int.toNat_natCast]
      refine lc_pure walk_rg (fun _ => true) (sumT i) (fun _ _ => True.intro) ?_ ?_
      · rintro D j x H1 H2 hj c ⟨rfl, rfl⟩
        have hl2 : SqL K H2 l (tri i) := SqL.of (c.2.1 _ _ ((same_upd no1) _ _ hl))
        walk_at "rd"
        refine ⟨rfl, ?_⟩
        walk_at "rd"
        refine rd_at hl2 (tri_at (by omega)) ?_
        walk_at "rd"
        rw [show (j : Int) + 1 = ((j + 1 : Nat) : Int) by omega]
        refine rd_at hl2 (tri_at (by omega)) ?_
        walk_at "rd"
        exact cp_yes c (Same.refl _) (by omega) rfl rfl
      · intro D H1 nD sm1 hD
        refine rd_cat (sm1 _ _ upd_same) hD ?_ fun d nd => ?_
        · have := given_len i (fun _ => true) (sumT i)
          show 1 + _ ≤ 100000
          omega
        walk_at "rd"
        refine rd_newL (by show 1 ≤ 100000; decide) fun o2 no2 => ?_
        walk_at "rd"
        refine rd_cat (by rw [upd_ne (ne_of_none upd_same no2)]; exact upd_same) upd_same ?_ fun d2 nd2 => ?_
        · have := given_len i (fun _ => true) (sumT i)
          rw [List.length_append]
          show 1 + _ + 1 ≤ 100000
          omega
        walk_at "rd"
        refine ⟨d2, _, _, rfl, ((((sm.trans (same_upd no1)).trans sm1).trans (same_upd nd)).trans (same_upd no2)).trans (same_upd nd2), ?_⟩
        rw [upd_same, tri_succ]
    · rintro σ' H' ⟨l, y, z, rfl, sm, hl⟩
      walk_at "rd"
      exact rd_at (SqL.of hl) (tri_at hk) (q H' sm)

def sp_good : Sp := fun vs H Q _ => ∃ (a : Addr) (n k : Nat) (l : List Nat), vs = [.ref a, .int (n : Int), .int (k : Int)] ∧ H a = some (.lst ((zs l).map V.int)) ∧ l.length = k ∧ k ≤ 100 ∧ Up l ∧ (∀ x ∈ l, x < n) ∧ Q (.bl true) H
theorem ok__law_good (T : Txt K mg) : FnOk P w K mg base CX0 2 T.f__law_good T.fd__law_good ["members", "things", "some"] (sp_good) := by
  have G__law_whole := ok__law_whole (P := P) (w := w) (base := base) T
  refine T.F__law_good.ok sc__law_good (fun vs H Q E h => ?_) (fun cdv A outer s H vs Q E hr h => ?_)
  · obtain ⟨_, _, _, _, rfl, _⟩ := h
    rfl
  · refine ⟨_, (pss_cons (ps_if (PW.pt (pw_or (pt_not (pt_val (pe_callB (show CallR _ _ (rIsi K) from call_isi) (by rfl) T.m_isinstance (by decide +kernel) (pa_cons (pv 0) (pa_cons (pe_bltn (v := .ty "list") (by rfl) T.m_list (by decide +kernel) rfl) pa_nil))))) (pw_or1 (pt_cmpR op_ne (pe_callB call_len_seq (by rfl) T.m_len PySem.boot_len (pa_cons (pv 0) pa_nil)) (pv 2) (nomark _))))) (pss_one (ps_ret pe_bl)) pss_nil)
      (pss_cons (ps_for PassesOwn.never rfl (pi_range1 rfl T.m_range (pa_cons (pv 2) pa_nil)) (pg_name (i := 3) sc__law_good.nd rfl (Or.inl rfl)) (pss_cons (ps_if (PW.pt (pw_or (pt_not (pt_val (pe_call G__law_whole (hr.mono (by decide)) (by rfl) T.g__law_whole T.F__law_whole.kp T.b__law_whole .nil pass0 (pa_cons (pe_ix ix_list (pv 0) (pv 3) (fun _ _ => rfl)) pa_nil)))) (pw_or (pt_cmpR op_lt (pe_ix ix_list (pv 0) (pv 3) (fun _ _ => rfl)) pe_int (nomark _)) (pw_or1 (pt_cmpR op_ge (pe_ix ix_list (pv 0) (pv 3) (fun _ _ => rfl)) (pv 1) (nomark _)))))) (pss_one (ps_ret pe_bl)) pss_nil)
      (pss_one (ps_if (PW.pt (pw_and (pt_cmpR op_gt (pv 3) pe_int (nomark _)) (pw_and1 (pt_cmpR op_le (pe_ix ix_list (pv 0) (pv 3) (fun _ _ => rfl)) (pe_ix ix_list (pv 0) (pe_op op_sub (pv 3) pe_int) (fun _ _ => rfl)) (nomark _))))) (pss_one (ps_ret pe_bl)) pss_nil))))
      (pss_one (ps_ret pe_bl)))), ?_⟩
    obtain ⟨a, n, k, l, rfl, ha, hl, hk, hU, hn, q⟩ := h
    have hA : SqL K H a ((zs l).map V.int) := SqL.of ha
    walk_at "rd"
    refine isi_ll ha ?_
    walk_at "rd"
    refine rd_len hA ?_
    rw [zsV_len, hl]
    walk_at "rd"
    refine for1 (n := k) (by omega) (fun i σ' H' => ∃ y, σ' = [some (.ref a), some (.int (n : Int)), some (.int (k : Int)), y] ∧ H' = H) ⟨_, rfl, rfl⟩ ?_ ?_
    · rintro i σ' H' hi ⟨y, rfl, rfl⟩
      have e := List.getElem?_eq_getElem (show i < l.length by omega)
      generalize l[i] = x at e
      have hx := hn x (List.mem_of_getElem? e)
      walk_at "rd"
      refine rd_at hA (zs_at e) ?_
      walk_at "rd"
      refine ⟨_, rfl, ?_⟩
      walk_at "rd"
      refine rd_at hA (zs_at e) ?_
      walk_at "rd"
      refine rd_at hA (zs_at e) ?_
      walk_at "rd"
      refine if_d2 (fun c => ?_) (fun c => ?_)
      · obtain ⟨j, rfl⟩ : ∃ j, i = j + 1 := ⟨i - 1, by omega⟩
        have e2 := List.getElem?_eq_getElem (show j < l.length by omega)
        generalize l[j] = z at e2
        have hz : z < x := up_take hU e z (by
          refine List.mem_of_getElem? (i := j) ?_
          rw [List.getElem?_take_of_lt (by omega)]
          exact e2)
        walk_at "rd"
        refine rd_at hA (zs_at e) ?_
        walk_at "rd"
        rw [show ((j + 1 : Nat) : Int) - 1 = (j : Int) by omega]
        refine rd_at hA (zs_at e2) ?_
        walk_at "rd"
        exact ⟨_, rfl, rfl⟩
      · walk_at "rd"
        exact ⟨_, rfl, rfl⟩
    · rintro σ' H' ⟨y, rfl, rfl⟩
      walk_at "rd"
      exact q
theorem ok_law (T : Txt K mg) : FnOk P w K mg base CX0 6 T.f_law T.fd_law ["script"] (spLaw K) := by
  have G_sets := ok_sets (P := P) (w := w) (base := base) T
  have G_set_at := ok_set_at (P := P) (w := w) (base := base) T
  have G__law_cell_at := ok__law_cell_at (P := P) (w := w) (base := base) T
  have G__law_whole := ok__law_whole (P := P) (w := w) (base := base) T
  have G__law_many_sets := ok__law_many_sets (P := P) (w := w) (base := base) T
  have G__law_good := ok__law_good (P := P) (w := w) (base := base) T
  have G_set_step := ok_set_step (P := P) (w := w) (base := base) T
  refine T.F_law.ok sc_law (fun vs H Q E h => ?_) (fun cdv A outer s H vs Q E hr h => ?_)
  · obtain ⟨_, _, rfl, _⟩ := h
    rfl
  · refine ⟨_, (pss_cons (ps_set (i := 1) sc_law.nd rfl (Or.inl rfl) (pe_op op_add pe_int (pe_op op_mod (pe_call G__law_cell_at (hr.mono (by decide)) (by rfl) T.g__law_cell_at T.F__law_cell_at.kp T.b__law_cell_at .nil pass0 (pa_cons (pv 0) (pa_cons pe_int pa_nil))) pe_int)))
      (pss_cons (ps_set (i := 2) sc_law.nd rfl (Or.inl rfl) (pe_op op_add pe_int (pe_op op_mod (pe_call G__law_cell_at (hr.mono (by decide)) (by rfl) T.g__law_cell_at T.F__law_cell_at.kp T.b__law_cell_at .nil pass0 (pa_cons (pv 0) (pa_cons pe_int pa_nil))) (pe_op op_sub (pv 1) pe_int))))
      (pss_cons (ps_set (i := 3) sc_law.nd rfl (Or.inl rfl) (pe_call G_sets (hr.mono (by decide)) (by rfl) T.g_sets T.F_sets.kp T.b_sets .nil pass0 (pa_cons (pv 1) (pa_cons (pv 2) pa_nil))))
      (pss_cons (ps_if (PW.pt (pw_or (pt_not (pt_val (pe_call G__law_whole (hr.mono (by decide)) (by rfl) T.g__law_whole T.F__law_whole.kp T.b__law_whole .nil pass0 (pa_cons (pv 3) pa_nil)))) (pw_or1 (pt_cmpR op_ne (pv 3) (pe_call G__law_many_sets (hr.mono (by decide)) (by rfl) T.g__law_many_sets T.F__law_many_sets.kp T.b__law_many_sets .nil pass0 (pa_cons (pv 1) (pa_cons (pv 2) pa_nil))) (nomark _))))) (pss_one (ps_ret pe_bl)) pss_nil)
      (pss_cons (ps_set (i := 4) sc_law.nd rfl (Or.inl rfl) pe_dnewT)
      (pss_cons (ps_set (i := 5) sc_law.nd rfl (Or.inr rfl) (pe_call G_set_at (hr.mono (by decide)) (by rfl) T.g_set_at T.F_set_at.kp T.b_set_at .nil pass0 (pa_cons (pv 1) (pa_cons (pv 2) (pa_cons (pe_op op_sub (pv 3) pe_int) pa_nil)))))
      (pss_cons (ps_for PassesOwn.never rfl (pi_range1 rfl T.m_range (pa_cons (pv 3) pa_nil)) (pg_name (i := 6) sc_law.nd rfl (Or.inl rfl)) (pss_cons (ps_set (i := 7) sc_law.nd rfl (Or.inr rfl) (pe_call G_set_at (hr.mono (by decide)) (by rfl) T.g_set_at T.F_set_at.kp T.b_set_at .nil pass0 (pa_cons (pv 1) (pa_cons (pv 2) (pa_cons (pv 6) pa_nil)))))
      (pss_cons (ps_if (PW.pt (pw_or (pt_not (pt_val (pe_call G__law_good (hr.mono (by decide)) (by rfl) T.g__law_good T.F__law_good.kp T.b__law_good .nil pass0 (pa_cons (pv 7) (pa_cons (pv 1) (pa_cons (pv 2) pa_nil)))))) (pw_or1 (pt_cmp (pc_din (hu_of hr) (pe_callTy call_tuple_of (by rfl) T.m_tuple (by decide +kernel) (pa_cons (pv 7) pa_nil)) (pv 4)) (by rfl))))) (pss_one (ps_ret pe_bl)) pss_nil)
      (pss_cons (ps_setLc (i := 8) (own := [("thing", 10)]) rfl sc_law.nd rfl rfl (sw_true rfl rfl rfl (by decide +kernel)) (pi_list (pv 5)) (blkOk_by (own := [("thing", 10)]) (N := N_law) (sc := defScope s_law) (by decide +kernel)) (fun _ _ _ _ _ => (pg_name (i := 10) sc_law.nd rfl (Or.inl rfl))) (fun _ _ _ _ _ => (pts_one (pt_cmpR (show OpR _ _ (rIn K true) from op_notIn_seq) (pv 10) (pv 7) (by rfl)))) (fun _ _ _ _ _ => (pv 10)))
      (pss_cons (ps_setLc (i := 9) (own := [("thing", 10)]) rfl sc_law.nd rfl rfl (sw_true rfl rfl rfl (by decide +kernel)) (pi_list (pv 7)) (blkOk_by (own := [("thing", 10)]) (N := N_law) (sc := defScope s_law) (by decide +kernel)) (fun _ _ _ _ _ => (pg_name (i := 10) sc_law.nd rfl (Or.inl rfl))) (fun _ _ _ _ _ => (pts_one (pt_cmpR (show OpR _ _ (rIn K true) from op_notIn_seq) (pv 10) (pv 5) (by rfl)))) (fun _ _ _ _ _ => (pv 10)))
      (pss_cons (ps_if (PW.pt (pw_or (pt_cmpR op_ne (pe_callB call_len_seq (by rfl) T.m_len PySem.boot_len (pa_cons (pv 8) pa_nil)) pe_int (nomark _)) (pw_or (pt_cmpR op_ne (pe_callB call_len_seq (by rfl) T.m_len PySem.boot_len (pa_cons (pv 9) pa_nil)) pe_int (nomark _)) (pw_or1 (pt_cmpR (op_neD hr.units) (pe_call G_set_step (hr.mono (by decide)) (by rfl) T.g_set_step T.F_set_step.kp T.b_set_step .nil pass0 (pa_cons (pv 1) (pa_cons (pv 2) (pa_cons (pe_op op_mod (pe_op op_sub (pv 6) pe_int) (pv 3)) pa_nil)))) (pe_tup (pa_cons (pe_ix ix_list (pv 8) pe_int (fun _ _ => rfl)) (pa_cons (pe_ix ix_list (pv 9) pe_int (fun _ _ => rfl)) pa_nil))) (nomark _)))))) (pss_one (ps_ret pe_bl)) pss_nil)
      (pss_cons (ps_dput (hu_of hr) (pv 4) (pe_callTy call_tuple_of (by rfl) T.m_tuple (by decide +kernel) (pa_cons (pv 7) pa_nil)) pe_bl rfl)
      (pss_one (ps_set (i := 5) sc_law.nd rfl (Or.inr rfl) (pv 7))))))))))
      (pss_one (ps_ret pe_bl))))))))), ?_⟩
    obtain ⟨a, ns, rfl, hS, hl, q⟩ := h
    walk_at "rd"
    refine ⟨a, ns, 0, rfl, hS, ?_⟩
    walk_at "rd"
    have s0 : 0 ≤ ns.getD 0 0 % 6 := Int.emod_nonneg _ (by decide)
    have s1 : ns.getD 0 0 % 6 < 6 := Int.emod_lt_of_pos _ (by decide)
    obtain ⟨n, hn⟩ := Int.eq_ofNat_of_zero_le (show 0 ≤ 2 + ns.getD 0 0 % 6 by omega)
    rw [hn]
    have hn2 : 2 ≤ n := by omega
    have hn7 : n ≤ 7 := by omega
    refine ⟨a, ns, 1, rfl, hS, ?_⟩
    walk_at "rd"
    have p0 : 0 ≤ ns.getD 1 0 % ((n : Int) - 1) := Int.emod_nonneg _ (by omega)
    have p1 : ns.getD 1 0 % ((n : Int) - 1) < (n : Int) - 1 := Int.emod_lt_of_pos _ (by omega)
    obtain ⟨k, hk⟩ := Int.eq_ofNat_of_zero_le (show 0 ≤ 1 + ns.getD 1 0 % ((n : Int) - 1) by omega)
    rw [hk]
    have hk0 : 0 < k := by omega
    have hkn : k < n := by omega
    clear hn hk s0 s1 p0 p1
    refine ⟨n, k, rfl, by omega, by omega, ?_⟩
    have big := C_big n k hk0 hkn
    have bd : C n k ≤ 2 ^ 7 := Nat.le_trans (C_le n k) (Nat.pow_le_pow_right (by decide) hn7)
    walk_at "rd"
    refine ⟨_, rfl, ?_⟩
    walk_at "rd"
    refine ⟨n, k, rfl, by omega, by omega, fun H1 sm1 => ?_⟩
    walk_at "rd"
    refine fun d nd => ?_
    walk_at "rd"
    refine ⟨n, k, C n k - 1, vi3 rfl rfl (by omega), by omega, by omega, by omega, fun H2 b2 sm2 nb2 hb2 => ?_⟩
    have hd2 := sm2 _ _ (upd_same (H := H1) (a := d) (o := .dT []))
    walk_at "rd"
    refine for1 (n := C n k) (by omega) (fun i σ' H' => ∃ (b : Addr) (kvs : List (List L2.Key × V)) (z1 z2 z3 z4 z5 z6 : Option V), σ' = [some (.ref a), some (.int (n : Int)), some (.int (k : Int)), some (.int ((C n k : Nat) : Int)), some (.ref d), some (.ref b), z1, z2, z3, z4, z5] ∧
        H' d = some (.dT kvs) ∧ kvs.length ≤ i ∧ (∀ p, i ≤ p → p < C n k → valV kvs (keyI (setAt n k p)) = none) ∧ H' b = some (.lst ((zs (setAt n k ((i + C n k - 1) % C n k))).map V.int))) ?_ ?_ ?_
    · rw [show (0 + C n k - 1) % C n k = C n k - 1 by rw [Nat.zero_add]; exact Nat.mod_eq_of_lt (by omega)]
      exact ⟨b2, [], _, _, _, _, _, none, rfl, hd2, Nat.zero_le _, fun p _ _ => rfl, hb2⟩
    · rintro i σ' H3 hi ⟨b, kvs, z1, z2, z3, z4, z5, z6, rfl, hd, hkl, hfr, hb⟩
      obtain ⟨j, hj⟩ : ∃ j, j = (i + C n k - 1) % C n k := ⟨_, rfl⟩
      have hjl : j < C n k := by
        rw [hj]
        exact Nat.mod_lt _ (by omega)
      have hji : (j + 1) % C n k = i := by
        rw [hj, Nat.mod_add_mod, show i + C n k - 1 + 1 = i + C n k by omega, Nat.add_mod_right, Nat.mod_eq_of_lt hi]
      rw [← hj] at hb
      obtain ⟨uI, lI⟩ := setAt_up n k i (by omega) hi
      have lenI := setAt_len n k i (by omega) hi
      have lenJ := setAt_len n k j (by omega) hjl
      obtain ⟨gg, cc, nr⟩ := set_round n k j hk0 hkn hjl
      rw [hji] at nr
      walk_at "rd"
      refine ⟨n, k, i, rfl, by omega, by omega, hi, fun H4 b4 sm4 nb4 hb4 => ?_⟩
      walk_at "rd"
      refine ⟨b4, n, k, setAt n k i, rfl, hb4, lenI, by omega, uI, lI, ?_⟩
      walk_at "rd"
      refine rd_tupOf (SqL.of hb4) fun t nt => ?_
      have hd4 := sm4 _ _ hd
      walk_at "rd"
      refine din_at ((same_upd nt) _ _ hd4) upd_same ?_
      rw [hfr i (Nat.le_refl _) hi]
      have smt : Same H4 (upd H4 t (.tup ((zs (setAt n k i)).map V.int))) := same_upd nt
      have hb4' := smt _ _ hb4
      have hbt := smt _ _ (sm4 _ _ hb)
      have hdt := smt _ _ hd4
      generalize upd H4 t (.tup ((zs (setAt n k i)).map V.int)) = H5 at smt hb4' hbt hdt ⊢
      generalize hA : setAt n k j = A at *
      generalize hB : setAt n k i = B at *
      rw [show (none : Option V).isSome = false from rfl]
      walk_at "rd"
      refine lc_a (SqL.of hbt) ?_
      refine lc_pure (walk_list (xs := (zs A).map V.int)) (fun i => !B.contains (A.getD i 0)) (fun i => .int ((A.getD i 0 : Nat) : Int)) (fun H' s => SqL.of (s _ _ hbt)) ?_ ?_
      · rintro D i' x H6 H7 hi' cp ⟨rfl, hx⟩
        rw [zs_get hx]
        walk_at "rd"
        refine ⟨rfl, ?_⟩
        walk_at "rd"
        refine rd_notin (SqL.of (cp.2.1 _ _ hb4')) ?_
        walk_at "rd"
        rw [zsV_len] at hi'
        refine if_b2 (fun e => ?_) (fun e => ?_)
        · walk_at "rd"
          exact cp_yes cp (Same.refl _) (by omega) e rfl
        · exact cp_no cp (Same.refl _) e
      · intro D1 H6 nD1 sm6 hD1
        rw [zsV_len, given_out, nr.1] at hD1
        walk_at "rd"
        refine lc_a (SqL.of (sm6 _ _ hb4')) ?_
        refine lc_pure (walk_list (xs := (zs B).map V.int)) (fun i => !A.contains (B.getD i 0)) (fun i => .int ((B.getD i 0 : Nat) : Int)) (fun H' s => SqL.of (s _ _ (sm6 _ _ hb4'))) ?_ ?_
        · rintro D i' x H7 H8 hi' cp ⟨rfl, hx⟩
          rw [zs_get hx]
          walk_at "rd"
          refine ⟨rfl, ?_⟩
          walk_at "rd"
          refine rd_notin (SqL.of (cp.2.1 _ _ (sm6 _ _ hbt))) ?_
          walk_at "rd"
          rw [zsV_len] at hi'
          refine if_b2 (fun e => ?_) (fun e => ?_)
          · walk_at "rd"
            exact cp_yes cp (Same.refl _) (by omega) e rfl
          · exact cp_no cp (Same.refl _) e
        · intro D2 H7 nD2 sm7 hD2
          rw [zsV_len, given_out, nr.2] at hD2
          have hD1' := sm7 _ _ hD1
          walk_at "rd"
          refine rd_len (SqL.of hD1') ?_
          rw [zsV_len, show ([gg] : List Nat).length = 1 from rfl]
          walk_at "rd"
          refine rd_len (SqL.of hD2) ?_
          rw [zsV_len, show ([cc] : List Nat).length = 1 from rfl]
          walk_at "rd"
          have em : ((i : Int) - 1) % ((C n k : Nat) : Int) = (j : Int) := by
            by_cases c0 : i = 0
            · subst c0
              rw [hj, show (0 + C n k - 1) % C n k = C n k - 1 by rw [Nat.zero_add]; exact Nat.mod_eq_of_lt (by omega)]
              have : (((0 : Nat) : Int) - 1) = ((C n k - 1 : Nat) : Int) + ((C n k : Nat) : Int) * (-1) := by omega
              rw [this, Int.add_mul_emod_self_left]
              exact Int.emod_eq_of_lt (by omega) (by omega)
            · have : j = i - 1 := by
                rw [hj, show i + C n k - 1 = (i - 1) + C n k by omega, Nat.add_mod_right, Nat.mod_eq_of_lt (by omega)]
              rw [Int.emod_eq_of_lt (by omega) (by omega)]
              omega
          rw [em]
          refine ⟨n, k, j, rfl, by omega, hk0, hkn, hjl, fun g2 c2 nr2 H8 b8 sm8 nb8 hb8 => ?_⟩
          rw [hji, hA, hB] at nr2
          have eg : g2 = gg := by
            have := nr2.1.symm.trans nr.1
            exact (List.cons.inj this).1
          have ec : c2 = cc := by
            have := nr2.2.symm.trans nr.2
            exact (List.cons.inj this).1
          subst eg ec
          walk_at "rd"
          refine rd_at (SqL.of (sm8 _ _ hD1')) (one_at g2) ?_
          walk_at "rd"
          refine rd_at (SqL.of (sm8 _ _ hD2)) (one_at c2) ?_
          walk_at "rd"
          refine rd_newL (by show 2 ≤ 100000; decide) fun t2 nt2 => ?_
          refine rd_neT (ns := [(g2 : Int), (c2 : Int)]) (SqT.of ((same_upd nt2) _ _ hb8)) (SqT.of upd_same) ?_
          have sm9 : Same H5 (upd H8 t2 (.tup [V.int (g2 : Int), V.int (c2 : Int)])) := ((sm6.trans sm7).trans sm8).trans (same_upd nt2)
          have hd9 := sm9 _ _ hdt
          have hb9 := sm9 _ _ hb4'
          generalize upd H8 t2 (.tup [V.int (g2 : Int), V.int (c2 : Int)]) = H9 at sm9 hd9 hb9 ⊢
          walk_at "rd"
          refine rd_tupOf (SqL.of hb9) fun t3 nt3 => ?_
          refine dput_at ((same_upd nt3) _ _ hd9) upd_same (by omega) ?_
          walk_at "rd"
          refine ⟨b4, putK kvs (keyI B) (V.bl true), _, _, _, _, _, none, rfl, upd_same, Nat.le_trans (length_putK _ _ _) (by omega), fun p hip hp => ?_, ?_⟩
          · rw [valV_put, if_neg]
            · exact hfr p (by omega) hp
            · intro z
              have e1 := keyI_inj z
              rw [← hB] at e1
              have e2 := congrArg pset e1
              rw [pset_setAt n k p (by omega) hp, pset_setAt n k i (by omega) hi] at e2
              omega
          · rw [show (i + 1 + C n k - 1) % C n k = i by rw [show i + 1 + C n k - 1 = i + C n k by omega, Nat.add_mod_right, Nat.mod_eq_of_lt hi], hB]
            have hne : b4 ≠ d := ne_of hb9 hd9 (by intro z; cases z)
            rw [upd_ne hne, upd_ne (ne_of_none hb9 nt3)]
            exact hb9
    · rintro σ' H3 ⟨b, kvs, z1, z2, z3, z4, z5, z6, rfl, hd, hkl, hfr, hb⟩
      walk_at "rd"
      exact q _
end
end One
namespace One
open PySem L2
/-! ### what the top has written; the head -/
theorem all_mk {l : PySem.W.OpenLaw} {w : World} {K : PySem.W.Frag} {h : Heap} {mg : Str → Option Value} {fa f0 f1 f2 f3 f4 f5 f6 f7 f8 f9 : Addr} (X : K.In h) (G : h.Ns mainGlobals mg) (hfa : mg "law" = some (.ref fa))
    {od0 an0 : Option Addr} {sl0 : Array (Option Value)} {oc0 kV0 dc0 pm0 cd0 ct0 : Value}
    {od1 an1 : Option Addr} {sl1 : Array (Option Value)} {oc1 kV1 dc1 pm1 cd1 ct1 : Value}
    {od2 an2 : Option Addr} {sl2 : Array (Option Value)} {oc2 kV2 dc2 pm2 cd2 ct2 : Value}
    {od3 an3 : Option Addr} {sl3 : Array (Option Value)} {oc3 kV3 dc3 pm3 cd3 ct3 : Value}
    {od4 an4 : Option Addr} {sl4 : Array (Option Value)} {oc4 kV4 dc4 pm4 cd4 ct4 : Value}
    {od5 an5 : Option Addr} {sl5 : Array (Option Value)} {oc5 kV5 dc5 pm5 cd5 ct5 : Value}
    {od6 an6 : Option Addr} {sl6 : Array (Option Value)} {oc6 kV6 dc6 pm6 cd6 ct6 : Value}
    {od7 an7 : Option Addr} {sl7 : Array (Option Value)} {oc7 kV7 dc7 pm7 cd7 ct7 : Value}
    {od8 an8 : Option Addr} {sl8 : Array (Option Value)} {oc8 kV8 dc8 pm8 cd8 ct8 : Value}
    {od9 an9 : Option Addr} {sl9 : Array (Option Value)} {oc9 kV9 dc9 pm9 cd9 ct9 : Value}
    {t_MOST : Tok}
    (a_picks : PySem.W.nsIn K mainGlobals "picks" = some (some (.ref f0)))
    (a_sets : PySem.W.nsIn K mainGlobals "sets" = some (some (.ref f1)))
    (a_asked : PySem.W.nsIn K mainGlobals "asked" = some (some (.ref f2)))
    (a_set_at : PySem.W.nsIn K mainGlobals "set_at" = some (some (.ref f3)))
    (a_set_step : PySem.W.nsIn K mainGlobals "set_step" = some (some (.ref f4)))
    (a__law_cell_at : PySem.W.nsIn K mainGlobals "_law_cell_at" = some (some (.ref f5)))
    (a__law_whole : PySem.W.nsIn K mainGlobals "_law_whole" = some (some (.ref f6)))
    (a__law_many_sets : PySem.W.nsIn K mainGlobals "_law_many_sets" = some (some (.ref f7)))
    (a__law_good : PySem.W.nsIn K mainGlobals "_law_good" = some (some (.ref f8)))
    (a_law : PySem.W.nsIn K mainGlobals "law" = some (some (.ref f9)))
    (a_MOST : PySem.W.nsIn K mainGlobals "MOST" = some (some (.int 40 t_MOST)))
    (z_bool : PySem.W.nsIn K mainGlobals "bool" = some none)
    (z_int : PySem.W.nsIn K mainGlobals "int" = some none)
    (z_isinstance : PySem.W.nsIn K mainGlobals "isinstance" = some none)
    (z_len : PySem.W.nsIn K mainGlobals "len" = some none)
    (z_list : PySem.W.nsIn K mainGlobals "list" = some none)
    (z_range : PySem.W.nsIn K mainGlobals "range" = some none)
    (z_tuple : PySem.W.nsIn K mainGlobals "tuple" = some none)
    (l0 : K.lookup f0 = some ⟨oc0, od0, .func (PySem.W.fnOf "picks" "picks" (defArgs s_picks) (defBody s_picks) (defScope s_picks) .none kV0 dc0 pm0 an0 cd0 ct0), sl0⟩)
    (c0 : PySem.W.codeIn K cd0 "picks" = true)
    (k0 : PySem.W.keepIn K (.ref f0) = true)
    (l1 : K.lookup f1 = some ⟨oc1, od1, .func (PySem.W.fnOf "sets" "sets" (defArgs s_sets) (defBody s_sets) (defScope s_sets) .none kV1 dc1 pm1 an1 cd1 ct1), sl1⟩)
    (c1 : PySem.W.codeIn K cd1 "sets" = true)
    (k1 : PySem.W.keepIn K (.ref f1) = true)
    (l2 : K.lookup f2 = some ⟨oc2, od2, .func (PySem.W.fnOf "asked" "asked" (defArgs s_asked) (defBody s_asked) (defScope s_asked) .none kV2 dc2 pm2 an2 cd2 ct2), sl2⟩)
    (c2 : PySem.W.codeIn K cd2 "asked" = true)
    (k2 : PySem.W.keepIn K (.ref f2) = true)
    (l3 : K.lookup f3 = some ⟨oc3, od3, .func (PySem.W.fnOf "set_at" "set_at" (defArgs s_set_at) (defBody s_set_at) (defScope s_set_at) .none kV3 dc3 pm3 an3 cd3 ct3), sl3⟩)
    (c3 : PySem.W.codeIn K cd3 "set_at" = true)
    (k3 : PySem.W.keepIn K (.ref f3) = true)
    (l4 : K.lookup f4 = some ⟨oc4, od4, .func (PySem.W.fnOf "set_step" "set_step" (defArgs s_set_step) (defBody s_set_step) (defScope s_set_step) .none kV4 dc4 pm4 an4 cd4 ct4), sl4⟩)
    (c4 : PySem.W.codeIn K cd4 "set_step" = true)
    (k4 : PySem.W.keepIn K (.ref f4) = true)
    (l5 : K.lookup f5 = some ⟨oc5, od5, .func (PySem.W.fnOf "_law_cell_at" "_law_cell_at" (defArgs s__law_cell_at) (defBody s__law_cell_at) (defScope s__law_cell_at) .none kV5 dc5 pm5 an5 cd5 ct5), sl5⟩)
    (c5 : PySem.W.codeIn K cd5 "_law_cell_at" = true)
    (k5 : PySem.W.keepIn K (.ref f5) = true)
    (l6 : K.lookup f6 = some ⟨oc6, od6, .func (PySem.W.fnOf "_law_whole" "_law_whole" (defArgs s__law_whole) (defBody s__law_whole) (defScope s__law_whole) .none kV6 dc6 pm6 an6 cd6 ct6), sl6⟩)
    (c6 : PySem.W.codeIn K cd6 "_law_whole" = true)
    (k6 : PySem.W.keepIn K (.ref f6) = true)
    (l7 : K.lookup f7 = some ⟨oc7, od7, .func (PySem.W.fnOf "_law_many_sets" "_law_many_sets" (defArgs s__law_many_sets) (defBody s__law_many_sets) (defScope s__law_many_sets) .none kV7 dc7 pm7 an7 cd7 ct7), sl7⟩)
    (c7 : PySem.W.codeIn K cd7 "_law_many_sets" = true)
    (k7 : PySem.W.keepIn K (.ref f7) = true)
    (l8 : K.lookup f8 = some ⟨oc8, od8, .func (PySem.W.fnOf "_law_good" "_law_good" (defArgs s__law_good) (defBody s__law_good) (defScope s__law_good) .none kV8 dc8 pm8 an8 cd8 ct8), sl8⟩)
    (c8 : PySem.W.codeIn K cd8 "_law_good" = true)
    (k8 : PySem.W.keepIn K (.ref f8) = true)
    (l9 : K.lookup f9 = some ⟨oc9, od9, .func (PySem.W.fnOf "law" "law" (defArgs s_law) (defBody s_law) (defScope s_law) .none kV9 dc9 pm9 an9 cd9 ct9), sl9⟩)
    (c9 : PySem.W.codeIn K cd9 "law" = true)
    (k9 : PySem.W.keepIn K (.ref f9) = true) :
    ∃ fd : FuncData, (∀ (s : Shared) (v : Value), BindsTo s fd ⟨[v], []⟩ [("script", v)]) ∧ ∀ base : Heap, K.In base → base.Ns mainGlobals mg → FnOk l.prog w K mg base CX0 6 fa fd ["script"] (spLaw K) := by
  have e := hfa.symm.trans (PySem.W.mg_of X G a_law)
  cases e
  have F0 := fun_mk (st := s_picks) l0 c0 k0
  have b0 := F0.binds (ps := ["total", "some"]) fun _ _ _ _ _ _ us hl => match us, hl with | [_, _], _ => rfl
  have F1 := fun_mk (st := s_sets) l1 c1 k1
  have b1 := F1.binds (ps := ["things", "some"]) fun _ _ _ _ _ _ us hl => match us, hl with | [_, _], _ => rfl
  have F2 := fun_mk (st := s_asked) l2 c2 k2
  have b2 := F2.binds (ps := ["things", "some", "place"]) fun _ _ _ _ _ _ us hl => match us, hl with | [_, _, _], _ => rfl
  have F3 := fun_mk (st := s_set_at) l3 c3 k3
  have b3 := F3.binds (ps := ["things", "some", "place"]) fun _ _ _ _ _ _ us hl => match us, hl with | [_, _, _], _ => rfl
  have F4 := fun_mk (st := s_set_step) l4 c4 k4
  have b4 := F4.binds (ps := ["things", "some", "place"]) fun _ _ _ _ _ _ us hl => match us, hl with | [_, _, _], _ => rfl
  have F5 := fun_mk (st := s__law_cell_at) l5 c5 k5
  have b5 := F5.binds (ps := ["script", "k"]) fun _ _ _ _ _ _ us hl => match us, hl with | [_, _], _ => rfl
  have F6 := fun_mk (st := s__law_whole) l6 c6 k6
  have b6 := F6.binds (ps := ["found"]) fun _ _ _ _ _ _ us hl => match us, hl with | [_], _ => rfl
  have F7 := fun_mk (st := s__law_many_sets) l7 c7 k7
  have b7 := F7.binds (ps := ["things", "some"]) fun _ _ _ _ _ _ us hl => match us, hl with | [_, _], _ => rfl
  have F8 := fun_mk (st := s__law_good) l8 c8 k8
  have b8 := F8.binds (ps := ["members", "things", "some"]) fun _ _ _ _ _ _ us hl => match us, hl with | [_, _, _], _ => rfl
  have F9 := fun_mk (st := s_law) l9 c9 k9
  have b9 := F9.binds (ps := ["script"]) fun _ _ _ _ _ _ us hl => match us, hl with | [_], _ => rfl
  let T : Txt K mg := {f_picks := f0, F_picks := F0, b_picks := b0, f_sets := f1, F_sets := F1, b_sets := b1, f_asked := f2, F_asked := F2, b_asked := b2, f_set_at := f3, F_set_at := F3, b_set_at := b3, f_set_step := f4, F_set_step := F4, b_set_step := b4, f__law_cell_at := f5, F__law_cell_at := F5, b__law_cell_at := b5, f__law_whole := f6, F__law_whole := F6, b__law_whole := b6, f__law_many_sets := f7, F__law_many_sets := F7, b__law_many_sets := b7, f__law_good := f8, F__law_good := F8, b__law_good := b8, f_law := fa, F_law := F9, b_law := b9, g_picks := PySem.W.mg_of X G a_picks, g_sets := PySem.W.mg_of X G a_sets, g_asked := PySem.W.mg_of X G a_asked, g_set_at := PySem.W.mg_of X G a_set_at, g_set_step := PySem.W.mg_of X G a_set_step, g__law_cell_at := PySem.W.mg_of X G a__law_cell_at, g__law_whole := PySem.W.mg_of X G a__law_whole, g__law_many_sets := PySem.W.mg_of X G a__law_many_sets, g__law_good := PySem.W.mg_of X G a__law_good, g_law := PySem.W.mg_of X G a_law, t_MOST := t_MOST, g_MOST := PySem.W.mg_of X G a_MOST, m_bool := PySem.W.mg_none_of X G z_bool, m_int := PySem.W.mg_none_of X G z_int, m_isinstance := PySem.W.mg_none_of X G z_isinstance, m_len := PySem.W.mg_none_of X G z_len, m_list := PySem.W.mg_none_of X G z_list, m_range := PySem.W.mg_none_of X G z_range, m_tuple := PySem.W.mg_none_of X G z_tuple, fd_picks := _, fd_sets := _, fd_asked := _, fd_set_at := _, fd_set_step := _, fd__law_cell_at := _, fd__law_whole := _, fd__law_many_sets := _, fd__law_good := _, fd_law := _}
  exact ⟨PySem.W.fnOf "law" "law" (defArgs s_law) (defBody s_law) (defScope s_law) .none kV9 dc9 pm9 an9 cd9 ct9, fun s v => .of_eq rfl, fun base _ _ => ok_law (P := l.prog) (w := w) (base := base) T⟩
end One
open PySem PySem.W PyProof.Rows
set_option maxRecDepth 100000 in
set_option maxHeartbeats 0 in
theorem PySem.Challenge.cw_onestep_k08_whole_sets_once_holds : PySem.Challenge.rw_onestep_k08_whole_sets_once.Holds := by
  w_on; o_law; k_head; (case hw => w_witness2)
  k_fill
  refine L2.walk_of (l := PySem.Challenge.rw_onestep_k08_whole_sets_once) (n := 63) (k := 6) (x := "script") (CX := fun _ => L2.CX0) (sp := fun w => One.spLaw _) rfl (by decide) rfl ⟨rfl, by decide, by decide⟩ (fun w h Y => PySem.W.kIn_of Y) ?F (fun _ _ a ns hl _ hS => ⟨a, ns, rfl, hS, hl, fun _ => rfl⟩) (fun _ _ _ _ _ h => h)
  case F =>
    intro w mg fa h KX G hmg
    refine' One.all_mk KX G hmg ?a_picks ?a_sets ?a_asked ?a_set_at ?a_set_step ?a__law_cell_at ?a__law_whole ?a__law_many_sets ?a__law_good ?a_law ?a_MOST ?z_bool ?z_int ?z_isinstance ?z_len ?z_list ?z_range ?z_tuple ?l0 ?c0 ?k0 ?l1 ?c1 ?k1 ?l2 ?c2 ?k2 ?l3 ?c3 ?k3 ?l4 ?c4 ?k4 ?l5 ?c5 ?k5 ?l6 ?c6 ?k6 ?l7 ?c7 ?k7 ?l8 ?c8 ?k8 ?l9 ?c9 ?k9
    (case a_picks => k_is)
    (case a_sets => k_is)
    (case a_asked => k_is)
    (case a_set_at => k_is)
    (case a_set_step => k_is)
    (case a__law_cell_at => k_is)
    (case a__law_whole => k_is)
    (case a__law_many_sets => k_is)
    (case a__law_good => k_is)
    (case a_law => k_is)
    (case a_MOST => k_is)
    (case z_bool => k_is)
    (case z_int => k_is)
    (case z_isinstance => k_is)
    (case z_len => k_is)
    (case z_list => k_is)
    (case z_range => k_is)
    (case z_tuple => k_is)
    (case l0 => k_is)
    (case c0 => k_is)
    (case k0 => k_is)
    (case l1 => k_is)
    (case c1 => k_is)
    (case k1 => k_is)
    (case l2 => k_is)
    (case c2 => k_is)
    (case k2 => k_is)
    (case l3 => k_is)
    (case c3 => k_is)
    (case k3 => k_is)
    (case l4 => k_is)
    (case c4 => k_is)
    (case k4 => k_is)
    (case l5 => k_is)
    (case c5 => k_is)
    (case k5 => k_is)
    (case l6 => k_is)
    (case c6 => k_is)
    (case k6 => k_is)
    (case l7 => k_is)
    (case c7 => k_is)
    (case k7 => k_is)
    (case l8 => k_is)
    (case c8 => k_is)
    (case k8 => k_is)
    (case l9 => k_is)
    (case c9 => k_is)
    (case k9 => k_is)
