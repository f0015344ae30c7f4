import PyProof.Rows.All
import Wide.All
import OpenK.AllK
import Wide.FinOn
import HandS.ForMost
import HandS.IsInst
import HandS.Conv
import HandS.More
import HandS.Walk
import HandS.RevRange
import HandS.Codes
import HandS.HotCalls
import HandS.ExcIs
import HandS.WordsExc
import HandS.Deep
import PySem.Challenge.RW_onestep_k15_refused_sizes
set_option Elab.async false
set_option linter.all false
set_option maxRecDepth 100000
set_option maxHeartbeats 4000000
/-! ### one step of a reading at a time -/
namespace One
open PySem L2
section
variable {σ : L2.St} {H : Hp} {Q : VK} {D : Ends} {ta tb te : TE} {tt tu : TT} {t u : TS} {tr : TA} {g : TG}
theorem rd_var {i : Nat} (k : ∃ v, σ[i]? = some (some v) ∧ Q v H) : tVar i σ H Q := k
theorem rd_c {v : V} (k : Q v H) : tC v σ H Q := k
theorem rd_op {r : R2} (k : ta σ H fun x H1 => tb σ H1 fun y H2 => r x y H2 Q) : tOp r ta tb σ H Q := k
theorem rd_un {r : V → Hp → VK → Prop} (k : ta σ H fun x H1 => r x H1 Q) : tUn r ta σ H Q := k
theorem rd_neg {i : Int} (k : Q (.int (-i)) H) : rU (fun i => .int (-i)) (.int i) H Q := ⟨i, rfl, k⟩
theorem rd_i0 {f : Int → Int → V} {i j : Int} (k : Q (f i j) H) : rI0 f (.int i) (.int j) H Q := ⟨i, j, rfl, rfl, k⟩
theorem rd_i {C : Int → Int → Prop} {f : Int → Int → V} {i j : Int} (c : C i j) (k : Q (f i j) H) : rI C f (.int i) (.int j) H Q := ⟨i, j, rfl, rfl, c, k⟩
theorem rd_mul1 {f : Int → Int → V} {i j : Int} (c : -(2 ^ 64) < i ∧ i < 2 ^ 64) (k : Q (f i j) H) : rI CMul f (.int i) (.int j) H Q := ⟨i, j, rfl, rfl, .inl c, k⟩
theorem rd_mul2 {f : Int → Int → V} {i j : Int} (c : -(2 ^ 64) < j ∧ j < 2 ^ 64) (k : Q (f i j) H) : rI CMul f (.int i) (.int j) H Q := ⟨i, j, rfl, rfl, .inr c, k⟩
theorem rd_div {f : Int → Int → V} {i j : Int} (c : 0 < j ∧ j < 1073741824) (k : Q (f i j) H) : rI CDiv f (.int i) (.int j) H Q := ⟨i, j, rfl, rfl, c, k⟩
theorem rd_mod {f : Int → Int → V} {i j : Int} (c : 0 < j) (k : Q (f i j) H) : rI (fun _ j => 0 < j) f (.int i) (.int j) H Q := ⟨i, j, rfl, rfl, c, k⟩
theorem int_eq {i j : Int} : decide (V.int i = V.int j) = decide (i = j) := by
  by_cases h : i = j
  · rw [decide_eq_true h, decide_eq_true (by rw [h])]
  · rw [decide_eq_false h, decide_eq_false fun e => h (V.int.inj e)]
theorem bl_eq {i j : Bool} : decide (V.bl i = V.bl j) = (i == j) := by
  cases i <;> cases j <;> rfl
theorem rd_eq {i j : Int} (k : Q (.bl (decide (i = j))) H) : rEq (.int i) (.int j) H Q := ⟨rfl, by rw [int_eq]; exact k⟩
theorem rd_ne {i j : Int} (k : Q (.bl (!decide (i = j))) H) : rNe (.int i) (.int j) H Q := ⟨rfl, by rw [int_eq]; exact k⟩
theorem rd_eqB {i j : Bool} (k : Q (.bl (i == j)) H) : rEq (.bl i) (.bl j) H Q := ⟨rfl, by rw [bl_eq]; exact k⟩
theorem rd_neB {i j : Bool} (k : Q (.bl (!(i == j))) H) : rNe (.bl i) (.bl j) H Q := ⟨rfl, by rw [bl_eq]; exact k⟩
theorem rd_test {Q : Bool → Hp → Prop} (k : te σ H fun x H1 => ∃ k, x = .bl k ∧ Q k H1) : tTest te σ H Q := k
theorem rd_tB {Q : Bool → Hp → Prop} (k : te σ H fun x H1 => ∃ k, x = .bl k ∧ Q k H1) : tB te σ H Q := k
theorem rd_bl {b : Bool} {P : Bool → Prop} (k : P b) : ∃ k, V.bl b = .bl k ∧ P k := ⟨b, rfl, k⟩
theorem rd_and {Q : Bool → Hp → Prop} (k : tt σ H fun c H1 => if c = true then tu σ H1 Q else Q false H1) : tAnd tt tu σ H Q := k
theorem rd_or {Q : Bool → Hp → Prop} (k : tt σ H fun c H1 => if c = true then Q true H1 else tu σ H1 Q) : tOr tt tu σ H Q := k
theorem rd_not {Q : Bool → Hp → Prop} (k : tt σ H fun c H1 => Q (!c) H1) : tNot tt σ H Q := k
theorem rd_andV (k : ta σ H fun x H1 => ∃ c, x = .bl c ∧ if c = true then tb σ H1 Q else Q (.bl false) H1) : tAndV ta tb σ H Q := k
theorem rd_orV (k : ta σ H fun x H1 => ∃ c, x = .bl c ∧ if c = true then Q (.bl true) H1 else tb σ H1 Q) : tOrV ta tb σ H Q := k
theorem rd_notV (k : ta σ H fun x H1 => ∃ c, x = .bl c ∧ Q (.bl (!c)) H1) : tNotV ta σ H Q := k
theorem rd_ifx (k : tt σ H fun c H1 => if c = true then ta σ H1 Q else tb σ H1 Q) : tIf tt ta tb σ H Q := k
theorem rd_seq (k : t { D with nx := u D } σ H) : tSeq t u D σ H := k
theorem rd_next (k : D.nx σ H) : tNext D σ H := k
theorem rd_asg (k : te σ H fun x H1 => g x σ H1 D.nx) : tAsg te g D σ H := k
theorem rd_name {i : Nat} {v : V} {N : L2.St → Hp → Prop} (k : N (σ.set i (some v)) H) : gName i v σ H N := k
theorem rd_par {i j : Nat} {ta : TA} (k : ta σ H fun vs H1 => ∃ v w, vs = [v, w] ∧ D.nx ((σ.set i (some v)).set j (some w)) H1) : tPar i j ta D σ H := k
theorem rd_two {v w : V} {P : V → V → Prop} (k : P v w) : ∃ v' w', [v, w] = [v', w'] ∧ P v' w' := ⟨v, w, rfl, k⟩
theorem rd_drop (k : te σ H fun _ H1 => D.nx σ H1) : tDrop te D σ H := k
theorem rd_ret (k : te σ H D.rt) : tRet te D σ H := k
theorem rd_if (k : tt σ H fun b H1 => if b = true then t D σ H1 else u D σ H1) : tIfS tt t u D σ H := k
theorem rd_nil {Q : List V → Hp → Prop} (k : Q [] H) : tNil σ H Q := k
theorem rd_cons {Q : List V → Hp → Prop} (k : ta σ H fun x H1 => tr σ H1 fun xs H2 => Q (x :: xs) H2) : tCons ta tr σ H Q := k
theorem rd_cb {r : List V → Hp → VK → Prop} (k : tr σ H fun vs H1 => r vs H1 Q) : tCB r tr σ H Q := k
theorem rd_call {sp : Sp} {dvs : List V} {E : XK} (k : tr σ H fun vs H1 => sp (vs ++ dvs) H1 Q E) : tCall sp dvs E tr σ H Q := k
theorem rd_tup (k : tr σ H fun xs H1 => xs.length ≤ sizeLine ∧ ∀ p, H1 p = none → Q (.ref p) (upd H1 p (.tup xs))) : tTup tr σ H Q := k
theorem rd_lst (k : tr σ H fun xs H1 => xs.length ≤ sizeLine ∧ ∀ p, H1 p = none → Q (.ref p) (upd H1 p (.lst xs))) : tLst tr σ H Q := k
/-- the new thing's size is seen by its form; the new address is then for an intro -/
theorem rd_new {xs : List V} {P : Prop} (h : xs.length ≤ sizeLine) (k : P) : xs.length ≤ sizeLine ∧ P := ⟨h, k⟩
theorem rd_bm {K : PySem.W.Frag} {T : String} {r : V → List V → Hp → VK → Prop} (k : ta σ H fun x H1 => tyV K T x H1 ∧ tr σ H1 fun xs H2 => r x xs H2 Q) : tBM K T r ta tr σ H Q := k
theorem rd_sl {r : V → Option Int → Option Int → Hp → VK → Prop} {tl th : TO} (k : te σ H fun x H1 => tl σ H1 fun l H2 => th σ H2 fun u H3 => r x l u H3 Q) : tSl r te tl th σ H Q := k
theorem rd_nopart {Q : Option Int → Hp → Prop} (k : Q none H) : tNoPart σ H Q := k
theorem rd_part {Q : Option Int → Hp → Prop} (k : te σ H fun x H1 => ∃ i, x = .int i ∧ Q (some i) H1) : tPart te σ H Q := k
theorem rd_ni {i : Int} {P : Int → Prop} (k : P i) : ∃ j, V.int i = .int j ∧ P j := ⟨i, rfl, k⟩
/-- loops: the source's values first -/
def R1 (g : TG) (tb : TS) (D : Ends) (σ : L2.St) (vs : List V) (H : Hp) : Prop := ∃ j : Int, vs = [.int j] ∧ -(2 ^ 62) ≤ j ∧ j < 2 ^ 62 ∧ ∃ W : Nat → Nat → L2.St → Hp → Prop, (∃ m, W 0 m σ H) ∧ ∀ i m σ H, W i m σ H →
  ((Itr 0 j.toNat).stop i H ∧ D.nx σ H) ∨ ((Itr 0 j.toNat).go i H ∧ ∃ N : L2.St → Hp → Prop, (∀ σ' H', N σ' H' → ∃ m', m' < m ∧ W (i + 1) m' σ' H') ∧ ∀ x H', (Itr 0 j.toNat).yld i H x H' → g x σ H' fun σ2 H2 => tb { D with nx := N, ct := N, bk := D.nx } σ2 H2)
theorem rd_for1 {tb : TS} (k : tr σ H fun vs H1 => R1 g tb D σ vs H1) : tFor (iRng1 tr) g tb D σ H := k
/-- for i in range(n) -/
theorem for1 {tb : TS} {i n : Nat} (hn : n < 2 ^ 62) (Pv : Nat → L2.St → Hp → Prop) (h0 : Pv 0 σ H)
    (hs : ∀ k σ H, k < n → Pv k σ H → tb { D with nx := Pv (k + 1), ct := Pv (k + 1), bk := D.nx } (σ.set i (some (.int (k : Int)))) H) (hd : ∀ σ H, Pv n σ H → D.nx σ H) : R1 (gName i) tb D σ [.int (n : Int)] H :=
  ⟨n, rfl, by omega, by omega, for_range (lo := 0) (n := (n : Int).toNat) Pv h0 (fun k σ H hk p => by
    have e0 : (0 : Int) + (k : Int) = (k : Int) := Int.zero_add _
    show tb { D with nx := Pv (k + 1), ct := Pv (k + 1), bk := D.nx } (σ.set i (some (.int ((0 : Int) + (k : Int))))) H
    rw [e0]
    exact hs k σ H (by omega) p) hd⟩
def RL (K : PySem.W.Frag) (g : TG) (tb : TS) (D : Ends) (σ : L2.St) (x : V) (H : Hp) : Prop := ∃ a, x = .ref a ∧ (∃ xs, SqL K H a xs) ∧ ∃ W : Nat → Nat → L2.St → Hp → Prop, (∃ m, W 0 m σ H) ∧ ∀ i m σ H, W i m σ H →
  ((Itl K a).stop i H ∧ D.nx σ H) ∨ ((Itl K a).go i H ∧ ∃ N : L2.St → Hp → Prop, (∀ σ' H', N σ' H' → ∃ m', m' < m ∧ W (i + 1) m' σ' H') ∧ ∀ x H', (Itl K a).yld i H x H' → g x σ H' fun σ2 H2 => tb { D with nx := N, ct := N, bk := D.nx } σ2 H2)
theorem rd_forL {K : PySem.W.Frag} {tb : TS} (k : te σ H fun x H1 => RL K g tb D σ x H1) : tFor (iList K te) g tb D σ H := k
/-- for x in xs, a list that stands still -/
theorem forL {K : PySem.W.Frag} {tb : TS} {a : Addr} {xs : List V} (Pv : Nat → L2.St → Hp → Prop) (h0 : Pv 0 σ H) (hl : ∀ i σ H, i ≤ xs.length → Pv i σ H → SqL K H a xs)
    (hs : ∀ i x σ H, xs[i]? = some x → Pv i σ H → g x σ H fun σ2 H2 => tb { D with nx := Pv (i + 1), ct := Pv (i + 1), bk := D.nx } σ2 H2) (hd : ∀ σ H, Pv xs.length σ H → D.nx σ H) : RL K g tb D σ (.ref a) H :=
  ⟨a, rfl, ⟨xs, hl 0 σ H (Nat.zero_le _) h0⟩, for_list Pv h0 hl hs hd⟩
/-- while: the body's wish -/
def RW (W : Nat → L2.St → Hp → Prop) (m : Nat) (tb : TS) (D : Ends) (σ : L2.St) (H1 : Hp) : Prop := ∃ N : L2.St → Hp → Prop, (∀ σ' H', N σ' H' → ∃ m', m' < m ∧ W m' σ' H') ∧ tb { D with nx := N, ct := N, bk := D.nx } σ H1
theorem whil {tb : TS} (W : Nat → L2.St → Hp → Prop) (m0 : Nat) (h0 : W m0 σ H) (hs : ∀ m σ H, W m σ H → tt σ H fun b H1 => if b = true then RW W m tb D σ H1 else D.nx σ H1) : tWhile tt tb D σ H := ⟨W, ⟨m0, h0⟩, hs⟩
theorem whil_in {W : Nat → L2.St → Hp → Prop} {m : Nat} {tb : TS} (k : tb { D with nx := fun σ' H' => ∃ m', m' < m ∧ W m' σ' H', ct := fun σ' H' => ∃ m', m' < m ∧ W m' σ' H', bk := D.nx } σ H) : RW W m tb D σ H := ⟨_, fun _ _ h => h, k⟩
/-- for x in reversed(xs) -/
def RV (K : PySem.W.Frag) (g : TG) (tb : TS) (D : Ends) (σ : L2.St) (vs : List V) (H : Hp) : Prop := ∃ (a : Addr) (xs : List V), vs = [.ref a] ∧ SqL K H a xs ∧ ∃ W : Nat → Nat → L2.St → Hp → Prop, (∃ m, W 0 m σ H) ∧ ∀ i m σ H, W i m σ H →
  ((Itv K a xs.length).stop i H ∧ D.nx σ H) ∨ ((Itv K a xs.length).go i H ∧ ∃ N : L2.St → Hp → Prop, (∀ σ' H', N σ' H' → ∃ m', m' < m ∧ W (i + 1) m' σ' H') ∧ ∀ x H', (Itv K a xs.length).yld i H x H' → g x σ H' fun σ2 H2 => tb { D with nx := N, ct := N, bk := D.nx } σ2 H2)
theorem rd_forV {K : PySem.W.Frag} {tb : TS} (k : tr σ H fun vs H1 => RV K g tb D σ vs H1) : tFor (iRev K tr) g tb D σ H := k
theorem forV {K : PySem.W.Frag} {tb : TS} {a : Addr} {xs : List V} (Pv : Nat → L2.St → Hp → Prop) (h0 : Pv 0 σ H) (hl : ∀ i σ H, i ≤ xs.length → Pv i σ H → SqL K H a xs)
    (hs : ∀ i x σ H, i < xs.length → xs[xs.length - 1 - i]? = some x → Pv i σ H → g x σ H fun σ2 H2 => tb { D with nx := Pv (i + 1), ct := Pv (i + 1), bk := D.nx } σ2 H2) (hd : ∀ σ H, Pv xs.length σ H → D.nx σ H) : RV K g tb D σ [.ref a] H := by
  refine ⟨a, xs, rfl, hl 0 σ H (Nat.zero_le _) h0, fun i m σ H => m = xs.length - i ∧ i ≤ xs.length ∧ Pv i σ H, ⟨xs.length, by simp, Nat.zero_le _, h0⟩, ?_⟩
  rintro i m σ H ⟨rfl, hi, p⟩
  have q := hl i σ H hi p
  by_cases hlt : i < xs.length
  · have e : xs[xs.length - 1 - i]? = some (xs[xs.length - 1 - i]'(by omega)) := List.getElem?_eq_getElem (by omega)
    refine .inr ⟨⟨hlt, xs, _, q, e⟩, Pv (i + 1), fun σ' H' p' => ⟨xs.length - (i + 1), by omega, rfl, hlt, p'⟩, fun x H' y => ?_⟩
    obtain ⟨rfl, y⟩ := y
    exact hs i x _ _ hlt (y xs q) p
  · have e : i = xs.length := by omega
    subst e
    exact .inl ⟨Nat.le_refl _, hd σ H p⟩
end
/-! ### known branches -/
section
variable {A B : Prop}
theorem if_t (a : A) : if true = true then A else B := a
theorem if_f (b : B) : if false = true then A else B := by
  rw [if_neg Bool.false_ne_true]
  exact b
theorem if_ft (b : B) : if (!true) = true then A else B := if_f b
theorem if_tf (a : A) : if (!false) = true then A else B := a
theorem if_dt {p : Prop} [Decidable p] (h : p) (a : A) : if decide p = true then A else B := by
  rw [if_pos (decide_eq_true h)]
  exact a
theorem if_df {p : Prop} [Decidable p] (h : ¬ p) (b : B) : if decide p = true then A else B := by
  rw [if_neg (by simpa using h)]
  exact b
theorem if_nt {p : Prop} [Decidable p] (h : ¬ p) (a : A) : if (!decide p) = true then A else B := by
  rw [if_pos (by simpa using h)]
  exact a
theorem if_nf {p : Prop} [Decidable p] (h : p) (b : B) : if (!decide p) = true then A else B := by
  rw [if_neg (by simpa using h)]
  exact b
theorem if_d2 {p : Prop} [Decidable p] (a : p → A) (b : ¬ p → B) : if decide p = true then A else B := by
  by_cases h : p
  · exact if_dt h (a h)
  · exact if_df h (b h)
theorem if_n2 {p : Prop} [Decidable p] (a : ¬ p → A) (b : p → B) : if (!decide p) = true then A else B := by
  by_cases h : p
  · exact if_nf h (b h)
  · exact if_nt h (a h)
theorem if_b2 {c : Bool} (a : c = true → A) (b : c = false → B) : if c = true then A else B := by
  cases c with
  | true => exact a rfl
  | false => exact if_f (b rfl)
end
/-! ### heaps -/
theorem same_upd {H : Hp} {p : Addr} {o : HO} (h : H p = none) : Same H (upd H p o) := fun b x e => by
  rw [upd_ne (ne_of_none e h)]
  exact e
/-- a thing that H does not know may change -/
theorem same_mut {H H' : Hp} {p : Addr} {o : HO} (e : Same H H') (h : H p = none) : Same H (upd H' p o) := fun a u ha => by
  rw [upd_ne (ne_of_none ha h)]
  exact e a u ha
theorem same_list {K : PySem.W.Frag} {H H' : Hp} {a : Addr} {xs : List V} (e : Same H H') (h : SqL K H a xs) : SqL K H' a xs := e.seq h
theorem at_int {ns : List Int} {i : Nat} {x : V} (h : (ns.map V.int)[i]? = some x) : ∃ z, ns[i]? = some z ∧ x = V.int z := by
  rw [List.getElem?_map] at h
  cases e : ns[i]? with
  | none =>
    rw [e] at h
    cases h
  | some z =>
    rw [e] at h
    exact ⟨z, rfl, (Option.some.inj h).symm⟩
end One
/-! ### isinstance, lists, cells -/
namespace One
open PySem L2
section
variable {K : PySem.W.Frag} {σ : L2.St} {H : Hp} {Q : VK} {D : Ends}
theorem kit_ii : PySem.W.kitOne K (.type "int") (.type "int") = some true := kit_ty (by decide +kernel)
theorem kit_ib : PySem.W.kitOne K (.type "int") (.type "bool") = some false := kit_ty (by decide +kernel)
theorem kit_bb : PySem.W.kitOne K (.type "bool") (.type "bool") = some true := kit_ty (by decide +kernel)
theorem kit_ll : PySem.W.kitOne K (.type "list") (.type "list") = some true := kit_ty (by decide +kernel)
theorem kit_tt : PySem.W.kitOne K (.type "tuple") (.type "tuple") = some true := kit_ty (by decide +kernel)
theorem isi_ii {i : Int} (k : Q (.bl true) H) : rIsi K [.int i, .ty "int"] H Q := ⟨_, _, _, _, _, rfl, .ty _, .base (.int i), kit_ii, k⟩
theorem isi_ib {i : Int} (k : Q (.bl false) H) : rIsi K [.int i, .ty "bool"] H Q := ⟨_, _, _, _, _, rfl, .ty _, .base (.int i), kit_ib, k⟩
theorem isi_bb {i : Bool} (k : Q (.bl true) H) : rIsi K [.bl i, .ty "bool"] H Q := ⟨_, _, _, _, _, rfl, .ty _, .base (.bl i), kit_bb, k⟩
theorem isi_ll {a : Addr} {xs : List V} (h : H a = some (.lst xs)) (k : Q (.bl true) H) : rIsi K [.ref a, .ty "list"] H Q := ⟨_, _, _, _, _, rfl, .ty _, .base (.lst h), kit_ll, k⟩
theorem isi_tt {a : Addr} {xs : List V} (h : H a = some (.tup xs)) (k : Q (.bl true) H) : rIsi K [.ref a, .ty "tuple"] H Q := ⟨_, _, _, _, _, rfl, .ty _, .base (.tup h), kit_tt, k⟩
/-- len(xs) -/
theorem rd_len {a : Addr} {xs : List V} {P : List V → Prop} (h : SqL K H a xs) (k : P xs) : ∃ p ys, [V.ref a] = [.ref p] ∧ (SqL K H p ys ∨ SqT K H p ys) ∧ P ys := ⟨a, xs, rfl, .inl h, k⟩
theorem rd_lenT {a : Addr} {xs : List V} {P : List V → Prop} (h : SqT K H a xs) (k : P xs) : ∃ p ys, [V.ref a] = [.ref p] ∧ (SqL K H p ys ∨ SqT K H p ys) ∧ P ys := ⟨a, xs, rfl, .inr h, k⟩
/-- xs[i] -/
theorem rd_at {a : Addr} {xs : List V} {i : Nat} {v : V} (h : SqL K H a xs) (e : xs[i]? = some v) (k : Q v H) : rIxL K (.ref a) (.int (i : Int)) H Q := ⟨a, xs, i, v, rfl, rfl, h, atI_nat e, k⟩
theorem rd_atT {a : Addr} {xs : List V} {i : Nat} {v : V} (h : SqT K H a xs) (e : xs[i]? = some v) (k : Q v H) : rIxT K (.ref a) (.int (i : Int)) H Q := ⟨a, xs, i, v, rfl, rfl, h, atI_nat e, k⟩
theorem tyL {a : Addr} {xs : List V} (h : H a = some (.lst xs)) : tyV K "list" (.ref a) H := .inl ⟨rfl, _, .inl (.inl h)⟩
/-- xs.append(y) -/
theorem rd_app {a : Addr} {xs : List V} {y : V} (h : H a = some (.lst xs)) (hs : xs.length < 100000) (k : Q .non (upd H a (.lst (xs ++ [y])))) : rAppend (.ref a) [y] H Q := ⟨a, xs, y, rfl, rfl, h, Nat.lt_of_lt_of_le hs (by decide), k⟩
/-- xs + ys -/
theorem rd_cat {a b : Addr} {xs ys : List V} (h : H a = some (.lst xs)) (h2 : H b = some (.lst ys)) (hs : xs.length + ys.length ≤ 100000) (k : ∀ p, H p = none → Q (.ref p) (upd H p (.lst (xs ++ ys)))) : rCat (.ref a) (.ref b) H Q := ⟨a, b, xs, ys, rfl, rfl, h, h2, Nat.le_trans hs (by decide), k⟩
theorem rd_newL {n : Nat} {P : Prop} (hs : n ≤ 100000) (k : P) : n ≤ sizeLine ∧ P := ⟨Nat.le_trans hs (by decide), k⟩
theorem bls_at {bs : List Bool} {i : Nat} {b : Bool} (h : bs[i]? = some b) : (bs.map V.bl)[i]? = some (.bl b) := by
  rw [List.getElem?_map, h]
  rfl
theorem ints_at {bs : List Int} {i : Nat} {b : Int} (h : bs[i]? = some b) : (bs.map V.int)[i]? = some (.int b) := by
  rw [List.getElem?_map, h]
  rfl
end
end One
namespace One
open PySem L2
theorem vi1 {a b : Int} (h : a = b) : [V.int a] = [V.int b] := by rw [h]
theorem vi2 {a b c d : Int} (h : a = b) (h2 : c = d) : [V.int a, V.int c] = [V.int b, V.int d] := by rw [h, h2]
theorem vi3 {a b c d e f : Int} (h : a = b) (h2 : c = d) (h3 : e = f) : [V.int a, V.int c, V.int e] = [V.int b, V.int d, V.int f] := by rw [h, h2, h3]
theorem vr1 {p : Addr} {a b : Int} (h : a = b) : [V.ref p, V.int a] = [V.ref p, V.int b] := by rw [h]
/-- law's: a list of at most 63 ints is handed in, True comes out -/
def spLaw (K : PySem.W.Frag) : Sp := fun vs H Q _ => ∃ (a : Addr) (ns : List Int), vs = [.ref a] ∧ SqL K H a (ns.map V.int) ∧ ns.length ≤ 63 ∧ ∀ H', Q (.bl true) H'
end One
/-! ### two lists compared: ints, truths -/
namespace One
open PySem L2
section
variable {K : PySem.W.Frag} {H : Hp} {Q : VK}
def dInts (ns : List Int) : PyData := .list (ns.map PyData.int)
def dBls (ns : List Bool) : PyData := .list (ns.map PyData.bool)
theorem dpA_int : ∀ ns : List Int, DpAll K H (ns.map V.int) (ns.map PyData.int)
  | [] => .nil
  | n :: r => .cons (.int n) (dpA_int r)
theorem dpA_bl : ∀ ns : List Bool, DpAll K H (ns.map V.bl) (ns.map PyData.bool)
  | [] => .nil
  | n :: r => .cons (.bl n) (dpA_bl r)
theorem dp_ints {a : Addr} {ns : List Int} (h : SqL K H a (ns.map V.int)) : Dp K H (.ref a) (dInts ns) := .lst h (dpA_int ns)
theorem dp_bls {a : Addr} {ns : List Bool} (h : SqL K H a (ns.map V.bl)) : Dp K H (.ref a) (dBls ns) := .lst h (dpA_bl ns)
end
end One
namespace One
open PySem L2
theorem cl_ints : ∀ ns : List Int, PyData.canLayAll0 (ns.map PyData.int) = true
  | [] => rfl
  | n :: r => by
    show (PyData.canLay0 (.int n) && PyData.canLayAll0 (r.map PyData.int)) = true
    rw [cl_ints r]
    rfl
theorem cl_bls : ∀ ns : List Bool, PyData.canLayAll0 (ns.map PyData.bool) = true
  | [] => rfl
  | n :: r => by
    show (PyData.canLay0 (.bool n) && PyData.canLayAll0 (r.map PyData.bool)) = true
    rw [cl_bls r]
    rfl
theorem dep_ints : ∀ ns : List Int, PyData.depthAll (ns.map PyData.int) = 0
  | [] => rfl
  | n :: r => by
    show max (PyData.depth (.int n)) (PyData.depthAll (r.map PyData.int)) = 0
    rw [dep_ints r]
    rfl
theorem dep_bls : ∀ ns : List Bool, PyData.depthAll (ns.map PyData.bool) = 0
  | [] => rfl
  | n :: r => by
    show max (PyData.depth (.bool n)) (PyData.depthAll (r.map PyData.bool)) = 0
    rw [dep_bls r]
    rfl
theorem lay_ints (ns : List Int) : (dInts ns).canLay0 = true := cl_ints ns
theorem lay_bls (ns : List Bool) : (dBls ns).canLay0 = true := cl_bls ns
theorem shp_ints (ns : List Int) : SeqAt.shaped (dInts ns) = true := by
  have e : (dInts ns).depth = 1 := by
    show PyData.depthAll (ns.map PyData.int) + 1 = 1
    rw [dep_ints]
  unfold SeqAt.shaped
  rw [lay_ints, e]
  rfl
theorem shp_bls (ns : List Bool) : SeqAt.shaped (dBls ns) = true := by
  have e : (dBls ns).depth = 1 := by
    show PyData.depthAll (ns.map PyData.bool) + 1 = 1
    rw [dep_bls]
  unfold SeqAt.shaped
  rw [lay_bls, e]
  rfl
section
variable {K : PySem.W.Frag} {H : Hp} {Q : VK} {a b : Addr}
/-- equal lists: != gives False, == True -/
theorem rd_neI {ns : List Int} (ha : SqL K H a (ns.map V.int)) (hb : SqL K H b (ns.map V.int)) (k : Q (.bl false) H) : rNeD K (.ref a) (.ref b) H Q :=
  ⟨dInts ns, dInts ns, dp_ints ha, dp_ints hb, shp_ints ns, shp_ints ns, by rw [SeqAt.eqv_refl _ (lay_ints ns)]; exact k⟩
theorem rd_neBs {ns : List Bool} (ha : SqL K H a (ns.map V.bl)) (hb : SqL K H b (ns.map V.bl)) (k : Q (.bl false) H) : rNeD K (.ref a) (.ref b) H Q :=
  ⟨dBls ns, dBls ns, dp_bls ha, dp_bls hb, shp_bls ns, shp_bls ns, by rw [SeqAt.eqv_refl _ (lay_bls ns)]; exact k⟩
theorem rd_eqI {ns : List Int} (ha : SqL K H a (ns.map V.int)) (hb : SqL K H b (ns.map V.int)) (k : Q (.bl true) H) : rEqD K (.ref a) (.ref b) H Q :=
  ⟨dInts ns, dInts ns, dp_ints ha, dp_ints hb, shp_ints ns, shp_ints ns, by rw [SeqAt.eqv_refl _ (lay_ints ns)]; exact k⟩
theorem rd_eqBs {ns : List Bool} (ha : SqL K H a (ns.map V.bl)) (hb : SqL K H b (ns.map V.bl)) (k : Q (.bl true) H) : rEqD K (.ref a) (.ref b) H Q :=
  ⟨dBls ns, dBls ns, dp_bls ha, dp_bls hb, shp_bls ns, shp_bls ns, by rw [SeqAt.eqv_refl _ (lay_bls ns)]; exact k⟩
theorem rd_intB {b : Bool} {P : Int → Prop} (k : P (if b = true then 1 else 0)) : (∃ i, [V.bl b] = [.int i] ∧ P i) ∨ ∃ k, [V.bl b] = [.bl k] ∧ P (if k = true then 1 else 0) := .inr ⟨b, rfl, k⟩
theorem rd_listOf {xs : List V} {P : Addr → List V → Prop} (h : SqL K H a xs) (k : ∀ l, H l = none → P l xs) : ∃ p ys, [V.ref a] = [.ref p] ∧ (SqL K H p ys ∨ SqT K H p ys) ∧ ∀ l, H l = none → P l ys := ⟨a, xs, rfl, .inl h, k⟩
end
end One
namespace One
open PySem L2
/-- a list of natural numbers, as whole numbers -/
def zs (l : List Nat) : List Int := l.map fun (x : Nat) => (x : Int)
theorem zs_len (l : List Nat) : (zs l).length = l.length := List.length_map _
theorem zsV_len (l : List Nat) : ((zs l).map V.int).length = l.length := by rw [List.length_map, zs_len]
theorem zs_at {l : List Nat} {i x : Nat} (h : l[i]? = some x) : ((zs l).map V.int)[i]? = some (.int (x : Int)) := by
  rw [List.getElem?_map]
  unfold zs
  rw [List.getElem?_map, h]
  rfl
theorem zs_snoc (l : List Nat) (n : Nat) : (zs (l ++ [n])).map V.int = (zs l).map V.int ++ [.int (n : Int)] := by
  unfold zs
  rw [List.map_append, List.map_append]
  rfl
theorem zs_cons (l : List Nat) (n : Nat) : (zs (n :: l)).map V.int = .int (n : Int) :: (zs l).map V.int := rfl
section
variable {K : PySem.W.Frag} {H : Hp} {Q : VK}
/-- xs.insert(i, y) -/
theorem rd_ins {a : Addr} {xs : List V} {y : V} {z : Int} {i : Nat} {P : Addr → List V → Int → V → Prop} (hz : z = (i : Int)) (h : H a = some (.lst xs)) (hs : xs.length < 100000) (hi : i ≤ 100000) (k : P a xs (i : Int) y) :
    ∃ (l : Addr) (xs : List V) (i : Int) (y' : V), V.ref a = .ref l ∧ [V.int z, y] = [.int i, y'] ∧ H l = some (.lst xs) ∧ xs.length < sizeLine ∧ 0 ≤ i ∧ i < 2 ^ 63 ∧ P l xs i y' := by
  subst hz
  exact ⟨a, xs, i, y, rfl, rfl, h, Nat.lt_of_lt_of_le hs (by decide), by omega, by omega, k⟩
end
end One
/-! ### comprehensions -/
namespace One
open PySem L2
section
variable {K : PySem.W.Frag} {J : It} {n : Nat} {G : Hp → Prop} {Y : Nat → Hp → V → Hp → Prop} {σ : L2.St} {H H1 H' H4 : Hp} {Q : VK} {g : TG} {tt : TT} {te el : TE} {tr : TA} {vs : List Nat} {ws : Nat → List V} {D : Addr} {f : Nat → Bool} {v : Nat → V} {i : Nat} {y : V}
/-- the loop of a comprehension whose iterator has come -/
def Lc (J : It) (g : TG) (tt : TT) (el : TE) (vs : List Nat) (σ : L2.St) (Q : VK) (H1 : Hp) : Prop := ∀ D, H1 D = none → ∃ W : Nat → Nat → Hp → Prop, (∃ m, W 0 m (upd H1 D (.lst []))) ∧ ∀ i m H, W i m H →
  (J.stop i H ∧ Q (.ref D) H) ∨ (J.go i H ∧ ∃ Nx : Hp → Prop, (∀ H', Nx H' → ∃ m', m' < m ∧ W (i + 1) m' H') ∧ ∀ x H', J.yld i H x H' → g x (wipe σ vs) H' fun σ2 H2 => wipe σ2 vs = wipe σ vs ∧ tt σ2 H2 fun b H3 =>
    if b = true then el σ2 H3 fun y H4 => ∃ acc, H4 D = some (.lst acc) ∧ acc.length < sizeLine ∧ Nx (upd H4 D (.lst (acc ++ [y]))) else Nx H3)
theorem rd_lcL (k : te σ H fun x H1 => ∃ a, x = .ref a ∧ (∃ xs, SqL K H1 a xs) ∧ Lc (Itl K a) g tt el vs σ Q H1) : tLc (iList K te) g tt el vs σ H Q := k
theorem rd_lcV (k : tr σ H fun ws H1 => ∃ (a : Addr) (xs : List V), ws = [.ref a] ∧ SqL K H1 a xs ∧ Lc (Itv K a xs.length) g tt el vs σ Q H1) : tLc (iRev K tr) g tt el vs σ H Q := k
theorem rd_lcR (k : tr σ H fun ws H1 => ∃ j : Int, ws = [.int j] ∧ -(2 ^ 62) ≤ j ∧ j < 2 ^ 62 ∧ Lc (Itr 0 j.toNat) g tt el vs σ Q H1) : tLc (iRng1 tr) g tt el vs σ H Q := k
theorem lc_a {a : Addr} {xs : List V} {P : Addr → Prop} (h : SqL K H a xs) (k : P a) : ∃ b, V.ref a = .ref b ∧ (∃ xs, SqL K H b xs) ∧ P b := ⟨a, rfl, ⟨xs, h⟩, k⟩
theorem lc_v {a : Addr} {xs : List V} {P : Addr → List V → Prop} (h : SqL K H a xs) (k : P a xs) : ∃ (b : Addr) (ys : List V), [V.ref a] = [.ref b] ∧ SqL K H b ys ∧ P b ys := ⟨a, xs, rfl, h, k⟩
theorem lc_r {n : Nat} {P : Int → Prop} (hn : n < 2 ^ 62) (k : P (n : Int)) : ∃ j : Int, [V.int (n : Int)] = [.int j] ∧ -(2 ^ 62) ≤ j ∧ j < 2 ^ 62 ∧ P j := ⟨n, rfl, by omega, by omega, k⟩
/-- which turns give, and what -/
def given (n : Nat) (f : Nat → Bool) (v : Nat → V) : List V := ((List.range n).filter f).map v
theorem given_yes (h : f n = true) : given (n + 1) f v = given n f v ++ [v n] := by
  unfold given
  rw [List.range_succ, List.filter_append, List.map_append, List.filter_cons, if_pos h] <;> rfl
theorem given_no (h : f n = false) : given (n + 1) f v = given n f v := by
  unfold given
  rw [List.range_succ, List.filter_append, List.map_append, List.filter_cons, if_neg (by rw [h]; decide)]
  show _ ++ [] = _
  rw [List.append_nil]
theorem given_len (n : Nat) (f : Nat → Bool) (v : Nat → V) : (given n f v).length ≤ n := by
  unfold given
  rw [List.length_map]
  have h := List.length_filter_le f (List.range n)
  rw [List.length_range] at h
  exact h
def Cp (H1 : Hp) (D : Addr) (f : Nat → Bool) (v : Nat → V) (i : Nat) (H' : Hp) : Prop := H1 D = none ∧ Same H1 H' ∧ H' D = some (.lst (given i f v))
theorem cp_yes (p : Cp H1 D f v i H') (sm : Same H' H4) (hi : i < 100000) (hf : f i = true) (hy : y = v i) : ∃ acc, H4 D = some (.lst acc) ∧ acc.length < sizeLine ∧ Cp H1 D f v (i + 1) (upd H4 D (.lst (acc ++ [y]))) := by
  obtain ⟨p1, p2, p3⟩ := p
  refine ⟨given i f v, sm _ _ p3, Nat.lt_of_le_of_lt (given_len i f v) (Nat.lt_of_lt_of_le hi (by decide)), p1, same_mut (p2.trans sm) p1, ?_⟩
  rw [given_yes hf, hy]
  exact upd_same
theorem cp_no (p : Cp H1 D f v i H') (sm : Same H' H4) (hf : f i = false) : Cp H1 D f v (i + 1) H4 := by
  obtain ⟨p1, p2, p3⟩ := p
  refine ⟨p1, p2.trans sm, ?_⟩
  rw [given_no hf]
  exact sm _ _ p3
theorem walk_rg {n : Nat} : Walk (Itr 0 n) n (fun _ => True) (fun i H x H' => H' = H ∧ x = .int (i : Int)) :=
  ⟨fun _ _ hi _ => hi, fun _ _ => Nat.le_refl _, fun i _ _ _ _ _ y => ⟨y.1, y.2.trans (by rw [Int.zero_add])⟩⟩
/-- a comprehension of plain values -/
theorem lc_pure (w : Walk J n G Y) (f : Nat → Bool) (v : Nat → V) (hG : ∀ H', Same H1 H' → G H')
    (hs : ∀ D i x H H', i < n → Cp H1 D f v i H → Y i H x H' → g x (wipe σ vs) H' fun σ2 H2 => wipe σ2 vs = wipe σ vs ∧ tt σ2 H2 fun b H3 =>
      if b = true then el σ2 H3 fun y H4 => ∃ acc, H4 D = some (.lst acc) ∧ acc.length < sizeLine ∧ Cp H1 D f v (i + 1) (upd H4 D (.lst (acc ++ [y]))) else Cp H1 D f v (i + 1) H3)
    (hd : ∀ D H', H1 D = none → Same H1 H' → H' D = some (.lst (given n f v)) → Q (.ref D) H') : Lc J g tt el vs σ Q H1 := fun D hD =>
  lc_it w (Cp H1 D f v) ⟨hD, same_upd hD, upd_same⟩ (fun i H _ p => hG H p.2.1) (fun i x H H' hi p y => hs D i x H H' hi p y) fun H p => hd D H p.1 p.2.1 p.2.2
/-- a list of lists at a -/
def LL (H : Hp) (a : Addr) (ws : List (List V)) : Prop := ∃ ps : List Addr, H a = some (.lst (ps.map V.ref)) ∧ ps.length = ws.length ∧ ∀ (j : Nat) (p : Addr) (w : List V), ps[j]? = some p → ws[j]? = some w → H p = some (.lst w)
theorem LL.same {a : Addr} {ws : List (List V)} (h : LL H a ws) (sm : Same H H') : LL H' a ws := by
  obtain ⟨ps, h1, h2, h3⟩ := h
  exact ⟨ps, sm _ _ h1, h2, fun j p w a b => sm _ _ (h3 j p w a b)⟩
theorem LL.at {a : Addr} {ws : List (List V)} {j : Nat} {w : List V} (h : LL H a ws) (e : ws[j]? = some w) : ∃ (xs : List V) (p : Addr), H a = some (.lst xs) ∧ xs.length = ws.length ∧ xs[j]? = some (.ref p) ∧ H p = some (.lst w) := by
  obtain ⟨ps, h1, h2, h3⟩ := h
  obtain ⟨hj, _⟩ := List.getElem?_eq_some_iff.mp e
  have hp : ps[j]? = some (ps[j]'(by omega)) := List.getElem?_eq_getElem (by omega)
  exact ⟨_, _, h1, by rw [List.length_map, h2], by rw [List.getElem?_map, hp]; rfl, h3 j _ w hp e⟩
theorem LL.len {a : Addr} {ws : List (List V)} (h : LL H a ws) : ∃ xs : List V, H a = some (.lst xs) ∧ xs.length = ws.length := by
  obtain ⟨ps, h1, h2, h3⟩ := h
  exact ⟨_, h1, by rw [List.length_map, h2]⟩
theorem LL.cat {a b c : Addr} {ws us : List (List V)} {xs ys : List V} (h : LL H a ws) (h' : LL H b us) (e : H a = some (.lst xs)) (e' : H b = some (.lst ys)) (hc : H c = none) : LL (upd H c (.lst (xs ++ ys))) c (ws ++ us) := by
  obtain ⟨ps, h1, h2, h3⟩ := h
  obtain ⟨qs, k1, k2, k3⟩ := h'
  rw [h1] at e
  rw [k1] at e'
  cases e
  cases e'
  refine ⟨ps ++ qs, by rw [upd_same, List.map_append], by rw [List.length_append, List.length_append, h2, k2], fun j p w ej ew => ?_⟩
  have hp : H p = some (.lst w) := by
    by_cases hj : j < ps.length
    · rw [List.getElem?_append_left hj] at ej
      rw [List.getElem?_append_left (by omega)] at ew
      exact h3 j p w ej ew
    · rw [List.getElem?_append_right (by omega)] at ej
      rw [List.getElem?_append_right (by omega), ← h2] at ew
      exact k3 _ p w ej ew
  rw [upd_ne (ne_of_none hp hc)]
  exact hp
theorem LL_one {H : Hp} {a p : Addr} {w : List V} (h : H a = some (.lst [.ref p])) (hp : H p = some (.lst w)) : LL H a [w] := by
  refine ⟨[p], h, rfl, fun j q u e e2 => ?_⟩
  have hj : j = 0 := by
    have := (List.getElem?_eq_some_iff.mp e).1
    rw [List.length_singleton] at this
    omega
  subst hj
  cases e
  cases e2
  exact hp
/-- behind i turns: i lists, each of its own, none of them the new list itself -/
def Cl (H1 : Hp) (D : Addr) (ws : Nat → List V) (i : Nat) (H' : Hp) : Prop := H1 D = none ∧ Same H1 H' ∧ ∃ ps : List Addr, H' D = some (.lst (ps.map V.ref)) ∧ ps.length = i ∧ ∀ (j : Nat) (p : Addr), ps[j]? = some p → p ≠ D ∧ H' p = some (.lst (ws j))
theorem cl_new {ws : Nat → List V} {p : Addr} (c : Cl H1 D ws i H') (sm : Same H' H4) (hi : i < 100000) (hp : H4 p = some (.lst (ws i))) (hpD : p ≠ D) :
    ∃ acc, H4 D = some (.lst acc) ∧ acc.length < sizeLine ∧ Cl H1 D ws (i + 1) (upd H4 D (.lst (acc ++ [.ref p]))) := by
  obtain ⟨c1, c2, ps, h1, h2, h3⟩ := c
  refine ⟨ps.map V.ref, sm _ _ h1, Nat.lt_of_le_of_lt (by rw [List.length_map, h2]; exact Nat.le_refl _) (Nat.lt_of_lt_of_le hi (by decide)), c1, same_mut (c2.trans sm) c1, ps ++ [p], by rw [upd_same, List.map_append]; rfl, by rw [List.length_append, h2]; rfl, fun j q e => ?_⟩
  by_cases hj : j < ps.length
  · rw [List.getElem?_append_left hj] at e
    obtain ⟨k1, k2⟩ := h3 j q e
    exact ⟨k1, by rw [upd_ne k1]; exact sm _ _ k2⟩
  · rw [List.getElem?_append_right (by omega)] at e
    have hj2 : j - ps.length = 0 := by
      have := (List.getElem?_eq_some_iff.mp e).1
      rw [List.length_singleton] at this
      omega
    rw [hj2] at e
    cases e
    have : j = i := by omega
    subst this
    exact ⟨hpD, by rw [upd_ne hpD]; exact hp⟩
/-- a comprehension whose every turn gives a new list -/
theorem lc_lists (w : Walk J n G Y) (ws : Nat → List V) (hG : ∀ H', Same H1 H' → G H')
    (hs : ∀ D i x H H', i < n → Cl H1 D ws i H → Y i H x H' → g x (wipe σ vs) H' fun σ2 H2 => wipe σ2 vs = wipe σ vs ∧ tt σ2 H2 fun b H3 =>
      if b = true then el σ2 H3 fun y H4 => ∃ acc, H4 D = some (.lst acc) ∧ acc.length < sizeLine ∧ Cl H1 D ws (i + 1) (upd H4 D (.lst (acc ++ [y]))) else Cl H1 D ws (i + 1) H3)
    (hd : ∀ D H', H1 D = none → Same H1 H' → LL H' D ((List.range n).map ws) → Q (.ref D) H') : Lc J g tt el vs σ Q H1 := fun D hD =>
  lc_it w (Cl H1 D ws) ⟨hD, same_upd hD, [], by rw [upd_same]; rfl, rfl, fun j p e => by simp at e⟩ (fun i H _ p => hG H p.2.1) (fun i x H H' hi p y => hs D i x H H' hi p y) fun H p => by
    obtain ⟨c1, c2, ps, h1, h2, h3⟩ := p
    refine hd D H c1 c2 ⟨ps, h1, by rw [List.length_map, List.length_range, h2], fun j q u e e2 => ?_⟩
    have hj : j < n := by
      have := (List.getElem?_eq_some_iff.mp e).1
      omega
    rw [List.getElem?_map, List.getElem?_range hj] at e2
    cases e2
    exact (h3 j q e).2
theorem Cl.same (c : Cl H1 D ws i H') : Same H1 H' := c.2.1
theorem Cl.new (c : Cl H1 D ws i H') : ∃ xs, H' D = some (.lst xs) := by
  obtain ⟨c1, c2, ps, h1, h2, h3⟩ := c
  exact ⟨_, h1⟩
theorem tt_yes {Q : Bool → Hp → Prop} (k : Q true H) : tYes σ H Q := k
/-- what the turns of a comprehension over a list of naturals give -/
theorem given_filter (l : List Nat) (p : Nat → Bool) : given l.length (fun i => p (l.getD i 0)) (fun i => V.int ((l.getD i 0 : Nat) : Int)) = (zs (l.filter p)).map V.int := by
  have e : l = (List.range l.length).map (fun i => l.getD i 0) := by
    apply List.ext_getElem?
    intro j
    by_cases h : j < l.length
    · rw [List.getElem?_map, List.getElem?_range h, List.getElem?_eq_getElem h]
      show some l[j] = some (l.getD j 0)
      rw [List.getD_eq_getElem?_getD, List.getElem?_eq_getElem h]
      rfl
    · rw [List.getElem?_eq_none (by omega), List.getElem?_eq_none (by rw [List.length_map, List.length_range]; omega)]
  have e2 : l.filter p = ((List.range l.length).filter (p ∘ fun i => l.getD i 0)).map (fun i => l.getD i 0) := by
    have h : ((List.range l.length).map (fun i => l.getD i 0)).filter p = ((List.range l.length).filter (p ∘ fun i => l.getD i 0)).map (fun i => l.getD i 0) := List.filter_map
    rw [← e] at h
    exact h
  rw [e2]
  unfold given zs
  rw [List.map_map, List.map_map]
  rfl
theorem given_out (A B : List Nat) : given A.length (fun i => !B.contains (A.getD i 0)) (fun i => V.int ((A.getD i 0 : Nat) : Int)) = (zs (A.filter (fun x => !B.contains x))).map V.int := given_filter A fun x => !B.contains x
theorem dec_beq (x g : Nat) : decide ((x : Int) = (g : Int)) = (x == g) := by
  by_cases h : x = g
  · rw [decide_eq_true (by omega), beq_iff_eq.mpr h]
  · rw [decide_eq_false (by omega), beq_eq_false_iff_ne.mpr h]
theorem given_but (A : List Nat) (g : Nat) : given A.length (fun i => !(A.getD i 0 == g)) (fun i => V.int ((A.getD i 0 : Nat) : Int)) = (zs (A.filter (fun x => !(x == g)))).map V.int := given_filter A fun x => !(x == g)
theorem getD_at {l : List Nat} {i x : Nat} (h : l[i]? = some x) : l.getD i 0 = x := by
  rw [List.getD_eq_getElem?_getD, h]
  rfl
theorem zs_get {l : List Nat} {i : Nat} {v : V} (h : ((zs l).map V.int)[i]? = some v) : v = .int ((l.getD i 0 : Nat) : Int) := by
  rw [List.getElem?_map] at h
  unfold zs at h
  rw [List.getElem?_map] at h
  cases e : l[i]? with
  | none =>
    rw [e] at h
    cases h
  | some x =>
    rw [e] at h
    cases h
    rw [getD_at e]
theorem zs_got {l : List Nat} {i : Nat} {v : V} (h : ((zs l).map V.int)[i]? = some v) : ∃ x, l[i]? = some x ∧ v = .int (x : Int) := by
  rw [List.getElem?_map] at h
  unfold zs at h
  rw [List.getElem?_map] at h
  cases e : l[i]? with
  | none =>
    rw [e] at h
    cases h
  | some x =>
    rw [e] at h
    cases h
    exact ⟨x, rfl, rfl⟩
theorem flat_zs : ∀ l : List Nat, ((zs l).map V.int).all flatV = true
  | [] => rfl
  | x :: l => by
    rw [zs_cons, List.all_cons, flat_zs l]
    rfl
theorem inV_zs (x : Nat) : ∀ l : List Nat, inV (.int (x : Int)) ((zs l).map V.int) = l.contains x
  | [] => rfl
  | y :: l => by
    have ih := inV_zs x l
    have e : inV (.int (x : Int)) ((zs (y :: l)).map V.int) = (eqV (.int (y : Int)) (.int (x : Int)) || inV (.int (x : Int)) ((zs l).map V.int)) := rfl
    rw [e, ih, List.contains_cons]
    congr 1
    show (((y : Int)) == ((x : Int))) = (x == y)
    by_cases h : x = y
    · subst h
      simp
    · rw [beq_eq_false_iff_ne.mpr h, beq_eq_false_iff_ne.mpr (by omega)]
theorem rd_notin {b : Addr} {l : List Nat} {x : Nat} (h : SqL K H b ((zs l).map V.int)) (k : Q (.bl (!l.contains x)) H) : rIn K true (.int (x : Int)) (.ref b) H Q :=
  ⟨b, _, rfl, .inl h, rfl, flat_zs l, by rw [inV_zs]; exact k⟩
theorem rd_isin {b : Addr} {l : List Nat} {x : Nat} (h : SqL K H b ((zs l).map V.int)) (k : Q (.bl (l.contains x)) H) : rIn K false (.int (x : Int)) (.ref b) H Q :=
  ⟨b, _, rfl, .inl h, rfl, flat_zs l, by rw [inV_zs]; exact k⟩
end
end One
/-! ### ranges backwards, lists of tuples, slices -/
namespace One
open PySem L2
section
variable {K : PySem.W.Frag} {σ : L2.St} {H H' : Hp} {Q : VK} {D : Ends} {ta tb : TE} {g : TG} {tb' : TS}
def RRR (g : TG) (tb : TS) (D : Ends) (σ : L2.St) (a b : Int) (H : Hp) : Prop := -(2 ^ 62) ≤ a ∧ a < 2 ^ 62 ∧ -(2 ^ 62) ≤ b ∧ b < 2 ^ 62 ∧ ∃ W : Nat → Nat → L2.St → Hp → Prop, (∃ m, W 0 m σ H) ∧ ∀ i m σ H, W i m σ H →
  ((Itc (a + (((b - a).toNat : Nat) : Int) - 1) (-1) (b - a).toNat).stop i H ∧ D.nx σ H) ∨ ((Itc (a + (((b - a).toNat : Nat) : Int) - 1) (-1) (b - a).toNat).go i H ∧ ∃ N : L2.St → Hp → Prop, (∀ σ' H', N σ' H' → ∃ m', m' < m ∧ W (i + 1) m' σ' H') ∧
    ∀ x H', (Itc (a + (((b - a).toNat : Nat) : Int) - 1) (-1) (b - a).toNat).yld i H x H' → g x σ H' fun σ2 H2 => tb { D with nx := N, ct := N, bk := D.nx } σ2 H2)
theorem rd_forRR {tr : L2.St → Hp → (Int → Int → Hp → Prop) → Prop} {tb : TS} (k : tr σ H fun a b H1 => RRR g tb D σ a b H1) : tFor (iRevR tr) g tb D σ H := k
theorem rd_rg2 {Q : Int → Int → Hp → Prop} (k : ta σ H fun x H1 => tb σ H1 fun y H2 => ∃ i j, x = .int i ∧ y = .int j ∧ Q i j H2) : tRg2 ta tb σ H Q := k
theorem rd_rg1 {Q : Int → Int → Hp → Prop} (k : ta σ H fun x H1 => ∃ n, x = .int n ∧ Q 0 n H1) : tRg1 ta σ H Q := k
theorem rd_ij {a b : Int} {P : Int → Int → Prop} (k : P a b) : ∃ i j, V.int a = .int i ∧ V.int b = .int j ∧ P i j := ⟨a, b, rfl, rfl, k⟩
theorem rd_lstRg {te : L2.St → Hp → (Int → Int → Hp → Prop) → Prop} (k : te σ H fun a b H1 => RgOk a b ∧ ∀ q, H1 q = none → Q (.ref q) (upd H1 q (.lst (rgV a b)))) : tLstRg te σ H Q := k
/-- for i in reversed(range(1, n + 1)) -/
theorem forRR {tb : TS} {j n : Nat} (hn : n ≤ 1000) (Pv : Nat → L2.St → Hp → Prop) (h0 : Pv 0 σ H)
    (hs : ∀ i σ H, i < n → Pv i σ H → tb { D with nx := Pv (i + 1), ct := Pv (i + 1), bk := D.nx } (σ.set j (some (.int ((n - i : Nat) : Int)))) H) (hd : ∀ σ H, Pv n σ H → D.nx σ H) : RRR (gName j) tb D σ 1 ((n : Int) + 1) H := by
  have e : ((n : Int) + 1 - 1).toNat = n := by omega
  refine ⟨by omega, by omega, by omega, by omega, ?_⟩
  rw [e]
  refine for_it walk_rangeC Pv h0 (fun _ _ _ _ _ => True.intro) (fun i x σ H H' hi p y => ?_) hd
  obtain ⟨rfl, rfl⟩ := y
  have e2 : (1 : Int) + (n : Int) - 1 + (i : Int) * (-1) = ((n - i : Nat) : Int) := by omega
  show tb { D with nx := Pv (i + 1), ct := Pv (i + 1), bk := D.nx } (σ.set j (some (.int (1 + (n : Int) - 1 + (i : Int) * (-1))))) _
  rw [e2]
  exact hs i σ _ hi p
/-- a list of tuples at a -/
def TL (H : Hp) (a : Addr) (ws : List (List V)) : Prop := ∃ ps : List Addr, H a = some (.lst (ps.map V.ref)) ∧ ps.length = ws.length ∧ ∀ (j : Nat) (p : Addr) (w : List V), ps[j]? = some p → ws[j]? = some w → H p = some (.tup w)
theorem TL.same {a : Addr} {ws : List (List V)} (h : TL H a ws) (sm : Same H H') : TL H' a ws := by
  obtain ⟨ps, h1, h2, h3⟩ := h
  exact ⟨ps, sm _ _ h1, h2, fun j p w a b => sm _ _ (h3 j p w a b)⟩
theorem TL.len {a : Addr} {ws : List (List V)} (h : TL H a ws) : ∃ xs : List V, H a = some (.lst xs) ∧ xs.length = ws.length := by
  obtain ⟨ps, h1, h2, h3⟩ := h
  exact ⟨_, h1, by rw [List.length_map, h2]⟩
theorem TL.at {a : Addr} {ws : List (List V)} {xs : List V} {j : Nat} {x : V} {w : List V} (h : TL H a ws) (hx : H a = some (.lst xs)) (ex : xs[j]? = some x) (e : ws[j]? = some w) : ∃ p : Addr, x = .ref p ∧ H p = some (.tup w) := by
  obtain ⟨ps, h1, h2, h3⟩ := h
  rw [h1] at hx
  cases hx
  rw [List.getElem?_map] at ex
  cases hp : ps[j]? with
  | none =>
    rw [hp] at ex
    cases ex
  | some p =>
    rw [hp] at ex
    cases ex
    exact ⟨p, rfl, h3 j p w hp e⟩
theorem TL.app {a p : Addr} {ws : List (List V)} {xs w : List V} (h : TL H a ws) (hx : H a = some (.lst xs)) (hp : H p = some (.tup w)) : TL (upd H a (.lst (xs ++ [.ref p]))) a (ws ++ [w]) := by
  obtain ⟨ps, h1, h2, h3⟩ := h
  rw [h1] at hx
  cases hx
  refine ⟨ps ++ [p], by rw [upd_same, List.map_append]; rfl, by rw [List.length_append, List.length_append, h2]; rfl, fun j q u e e2 => ?_⟩
  have hq : H q = some (.tup u) := by
    by_cases hj : j < ps.length
    · rw [List.getElem?_append_left hj] at e
      rw [List.getElem?_append_left (by omega)] at e2
      exact h3 j q u e e2
    · rw [List.getElem?_append_right (by omega)] at e
      rw [List.getElem?_append_right (by omega), ← h2] at e2
      have hj2 : j - ps.length = 0 := by
        have := (List.getElem?_eq_some_iff.mp e).1
        rw [List.length_singleton] at this
        omega
      rw [hj2] at e e2
      cases e
      cases e2
      exact hp
  rw [upd_ne (ne_of hq h1 (by intro z; cases z))]
  exact hq
theorem tup3 {i j l : Nat} {q : Addr} {x y z : V} {N : L2.St → Hp → Prop} (h : SqT K H q [x, y, z]) (k : N (((σ.set i (some x)).set j (some y)).set l (some z)) H) : gTup K 3 (gCons (gName i) (gCons (gName j) (gCons (gName l) gNil))) (.ref q) σ H N :=
  ⟨q, _, rfl, h, rfl, x, _, rfl, y, _, rfl, z, _, rfl, rfl, k⟩
theorem tup2 {i j : Nat} {q : Addr} {x y : V} {N : L2.St → Hp → Prop} (h : SqT K H q [x, y]) (k : N ((σ.set i (some x)).set j (some y)) H) : gTup K 2 (gCons (gName i) (gCons (gName j) gNil)) (.ref q) σ H N :=
  ⟨q, _, rfl, h, rfl, x, _, rfl, y, _, rfl, rfl, k⟩
/-- xs[:k], xs[k:] -/
theorem cut_to (xs : List V) (k : Nat) : cutV xs none (some (k : Int)) = xs.take k := by
  unfold cutV
  rw [HT.sIx_nat, HT.sIx_none, List.drop_zero, Nat.sub_zero]
  by_cases h : k ≤ xs.length
  · rw [Nat.min_eq_left h]
  · rw [Nat.min_eq_right (by omega), List.take_length, List.take_of_length_le (by omega)]
theorem cut_from (xs : List V) (k : Nat) : cutV xs (some (k : Int)) none = xs.drop k := by
  unfold cutV
  rw [HT.sIx_nat, HT.sIx_none]
  by_cases h : k ≤ xs.length
  · rw [Nat.min_eq_left h, List.take_of_length_le (by rw [List.length_drop]; exact Nat.le_refl _)]
  · rw [Nat.min_eq_right (by omega), List.drop_length, List.drop_of_length_le (by omega), List.take_nil]
theorem rd_slice {a : Addr} {xs : List V} {P : Addr → List V → Prop} (h : SqL K H a xs) (k : P a xs) : ∃ b ys, V.ref a = .ref b ∧ SqL K H b ys ∧ P b ys := ⟨a, xs, rfl, h, k⟩
theorem rgV_zs (n : Nat) : rgV 0 (n : Int) = (zs (List.range n)).map V.int := by
  unfold rgV zs
  rw [List.map_map, show ((n : Int) - 0).toNat = n by omega]
  apply List.map_congr_left
  intro x _
  show V.int (0 + (x : Int)) = V.int (x : Int)
  rw [Int.zero_add]
theorem zs_append (A B : List Nat) : (zs (A ++ B)).map V.int = (zs A).map V.int ++ (zs B).map V.int := by
  unfold zs
  rw [List.map_append, List.map_append]
theorem zs_take (A : List Nat) (i : Nat) : (zs (A.take i)).map V.int = ((zs A).map V.int).take i := by
  unfold zs
  rw [List.map_take, List.map_take]
theorem zs_drop (A : List Nat) (i : Nat) : (zs (A.drop i)).map V.int = ((zs A).map V.int).drop i := by
  unfold zs
  rw [List.map_drop, List.map_drop]
end
/-- two sorted lists of the same things are one -/
theorem sorted_one : ∀ {A B : List Int}, A.Perm B → A.Pairwise (· ≤ ·) → B.Pairwise (· ≤ ·) → A = B
  | [], B, p, _, _ => by
    have := p.length_eq
    cases B with
    | nil => rfl
    | cons b B => simp at this
  | a :: A, [], p, _, _ => by
    have := p.length_eq
    simp at this
  | a :: A, b :: B, p, hA, hB => by
    obtain ⟨a1, a2⟩ := List.pairwise_cons.mp hA
    obtain ⟨b1, b2⟩ := List.pairwise_cons.mp hB
    have e : a = b := by
      have h1 : a ∈ b :: B := p.mem_iff.mp (by simp)
      have h2 : b ∈ a :: A := p.mem_iff.mpr (by simp)
      rcases List.mem_cons.mp h1 with q | q
      · exact q
      · rcases List.mem_cons.mp h2 with r | r
        · exact r.symm
        · have := a1 b r
          have := b1 a q
          omega
    subst e
    rw [sorted_one (List.Perm.cons_inv p) a2 b2]
theorem sorted_range {o : List Nat} {n : Nat} {S : List Int} (pm : S.Perm (zs o)) (h : o.Perm (List.range n)) (st : S.Pairwise (· ≤ ·)) : S = zs (List.range n) := by
  refine sorted_one (pm.trans (h.map _)) st ?_
  unfold zs
  refine List.pairwise_map.mpr ?_
  exact List.pairwise_lt_range.imp fun h => by omega
end One
namespace One
open PySem L2
section
variable {K : PySem.W.Frag} {J : It} {n : Nat} {G : Hp → Prop} {Y : Nat → Hp → V → Hp → Prop} {σ : L2.St} {H H1 H' H4 : Hp} {Q : VK} {g : TG} {tt : TT} {te el : TE} {vs : List Nat} {ws : Nat → List V} {D : Addr} {i : Nat}
/-- behind i turns: i tuples -/
def Ct (H1 : Hp) (D : Addr) (ws : Nat → List V) (i : Nat) (H' : Hp) : Prop := H1 D = none ∧ Same H1 H' ∧ TL H' D ((List.range i).map ws)
theorem ct_new {p : Addr} (c : Ct H1 D ws i H') (sm : Same H' H4) (hi : i < 100000) (hp : H4 p = some (.tup (ws i))) :
    ∃ acc, H4 D = some (.lst acc) ∧ acc.length < sizeLine ∧ Ct H1 D ws (i + 1) (upd H4 D (.lst (acc ++ [.ref p]))) := by
  obtain ⟨c1, c2, c3⟩ := c
  obtain ⟨xs, hx, hl⟩ := (c3.same sm).len
  rw [List.length_map, List.length_range] at hl
  refine ⟨xs, hx, Nat.lt_of_le_of_lt (Nat.le_of_eq hl) (Nat.lt_of_lt_of_le hi (by decide)), c1, same_mut (c2.trans sm) c1, ?_⟩
  rw [List.range_succ, List.map_append]
  exact (c3.same sm).app hx hp
/-- a comprehension whose every turn gives a new tuple -/
theorem lc_tups (w : Walk J n G Y) (ws : Nat → List V) (hG : ∀ H', Same H1 H' → G H')
    (hs : ∀ D i x H H', i < n → Ct H1 D ws i H → Y i H x H' → g x (wipe σ vs) H' fun σ2 H2 => wipe σ2 vs = wipe σ vs ∧ tt σ2 H2 fun b H3 =>
      if b = true then el σ2 H3 fun y H4 => ∃ acc, H4 D = some (.lst acc) ∧ acc.length < sizeLine ∧ Ct H1 D ws (i + 1) (upd H4 D (.lst (acc ++ [y]))) else Ct H1 D ws (i + 1) H3)
    (hd : ∀ D H', H1 D = none → Same H1 H' → TL H' D ((List.range n).map ws) → Q (.ref D) H') : Lc J g tt el vs σ Q H1 := fun D hD =>
  lc_it w (Ct H1 D ws) ⟨hD, same_upd hD, [], by rw [upd_same]; rfl, rfl, fun j p w e => by simp at e⟩ (fun i H _ p => hG H p.2.1) (fun i x H H' hi p y => hs D i x H H' hi p y) fun H p => hd D H p.1 p.2.1 p.2.2
/-- the second part of a pair -/
def keyOf (H : Hp) : V → Nat
  | .ref t => match H t with
    | some (.tup [_, .int k]) => k.toNat
    | _ => 0
  | _ => 0
theorem keyOf_at {t : Addr} {x : V} {k : Nat} (h : H t = some (.tup [x, .int (k : Int)])) : keyOf H (.ref t) = k := by
  show (match H t with
    | some (.tup [_, .int k]) => k.toNat
    | _ => 0) = k
  rw [h]
  exact Int.toNat_natCast k
theorem TL.keys {a : Addr} {xs : List V} {w : Nat → V} (h : TL H a ((List.range n).map fun j => [w j, V.int (j : Int)])) (hx : H a = some (.lst xs)) : xs.map (keyOf H) = List.range n ∧ ∀ x ∈ xs, ∃ (t : Addr) (k j : Nat), x = .ref t ∧ j < n ∧ k = j ∧ H t = some (.tup [w j, .int (k : Int)]) := by
  obtain ⟨ps, h1, h2, h3⟩ := h
  rw [List.length_map, List.length_range] at h2
  rw [h1] at hx
  cases hx
  have at_ : ∀ j p, ps[j]? = some p → j < n ∧ H p = some (.tup [w j, .int (j : Int)]) := fun j p e => by
    have hj : j < n := by
      have := (List.getElem?_eq_some_iff.mp e).1
      omega
    exact ⟨hj, h3 j p _ e (by rw [List.getElem?_map, List.getElem?_range hj]; rfl)⟩
  constructor
  · apply List.ext_getElem?
    intro j
    rw [List.getElem?_map, List.getElem?_map]
    cases e : ps[j]? with
    | none =>
      rw [List.getElem?_eq_none (by rw [List.length_range]; have := List.getElem?_eq_none_iff.mp e; omega)]
      rfl
    | some p =>
      obtain ⟨hj, hp⟩ := at_ j p e
      rw [List.getElem?_range hj]
      show some (keyOf H (.ref p)) = some j
      rw [keyOf_at hp]
  · intro x hx
    rw [List.mem_map] at hx
    obtain ⟨p, hp, rfl⟩ := hx
    obtain ⟨j, hj, e⟩ := List.getElem_of_mem hp
    obtain ⟨hjn, hq⟩ := at_ j p (by rw [List.getElem?_eq_getElem hj, e])
    exact ⟨p, j, j, rfl, hjn, rfl, hq⟩
theorem given_all {α : Type} (ys : List α) (d : α) (w : α → V) : given ys.length (fun _ => true) (fun i => w (ys.getD i d)) = ys.map w := by
  unfold given
  rw [List.filter_eq_self.mpr (fun _ _ => rfl)]
  apply List.ext_getElem?
  intro j
  by_cases h : j < ys.length
  · rw [List.getElem?_map, List.getElem?_range h, List.getElem?_map, List.getElem?_eq_getElem h]
    show some (w (ys.getD j d)) = some (w ys[j])
    rw [List.getD_eq_getElem?_getD, List.getElem?_eq_getElem h]
    rfl
  · rw [List.getElem?_eq_none (by rw [List.length_map, List.length_range]; omega), List.getElem?_eq_none (by rw [List.length_map]; omega)]
end
end One
/-! ### a dict whose keys are tuples of numbers -/
namespace One
open PySem L2
section
variable {K : PySem.W.Frag} {σ : L2.St} {H H' : Hp} {Q : VK} {D : Ends} {ty td tv : TE}
def keyI (l : List Nat) : List L2.Key := (zs l).map Sum.inl
theorem keyI_V (l : List Nat) : (keyI l).map kV = (zs l).map V.int := by
  unfold keyI
  rw [List.map_map]
  rfl
theorem keyI_inj : ∀ {a b : List Nat}, keyI a = keyI b → a = b
  | [], [], _ => rfl
  | [], _ :: _, h => by cases h
  | _ :: _, [], h => by cases h
  | x :: a, y :: b, h => by
    have h1 : (Sum.inl (x : Int) : L2.Key) = Sum.inl (y : Int) := (List.cons.inj h).1
    have h2 : keyI a = keyI b := (List.cons.inj h).2
    have h3 : (x : Int) = (y : Int) := Sum.inl.inj h1
    rw [keyI_inj h2, show x = y by omega]
theorem rd_newT (k : ∀ p, H p = none → Q (.ref p) (upd H p (.dT []))) : tDNewT σ H Q := k
theorem rd_din (k : ty σ H fun y H1 => td σ H1 fun x H2 => ∃ a o, x = .ref a ∧ DGet H2 a y o ∧ Q (.bl o.isSome) H2) : tDIn ty td σ H Q := k
theorem rd_dput (k : tv σ H fun v H1 => td σ H1 fun x H2 => ty σ H2 fun y H3 => ∃ a H4, x = .ref a ∧ DPut H3 a y v H4 ∧ D.nx σ H4) : sDPut td ty tv D σ H := k
theorem din_at {a b : Addr} {kvs : List (List L2.Key × V)} {l : List Nat} {P : Option V → Prop} (h : H a = some (.dT kvs)) (hb : H b = some (.tup ((zs l).map V.int))) (k : P (valV kvs (keyI l))) : ∃ a' o, V.ref a = .ref a' ∧ DGet H a' (.ref b) o ∧ P o :=
  ⟨a, _, rfl, DGet.t h (by rw [keyI_V]; exact hb), k⟩
theorem dput_at {a b : Addr} {kvs : List (List L2.Key × V)} {l : List Nat} {v : V} {N : L2.St → Hp → Prop} (h : H a = some (.dT kvs)) (hb : H b = some (.tup ((zs l).map V.int))) (hl : kvs.length < 100000) (k : N σ (upd H a (.dT (putK kvs (keyI l) v)))) : ∃ a' H4, V.ref a = .ref a' ∧ DPut H a' (.ref b) v H4 ∧ N σ H4 :=
  ⟨a, _, rfl, DPut.t h (by rw [keyI_V]; exact hb) (Nat.lt_of_lt_of_le hl (by decide)), k⟩
theorem rd_tupOf {a : Addr} {xs : List V} {P : Addr → List V → Prop} {R : Addr → List V → Prop} (h : SqL K H a xs) (k : ∀ l, H l = none → P l xs) : ∃ p ys, [V.ref a] = [.ref p] ∧ ((SqL K H p ys ∧ ∀ l, H l = none → P l ys) ∨ R p ys) := ⟨a, xs, rfl, .inl ⟨h, k⟩⟩
/-- equal pairs -/
def dTup (ns : List Int) : PyData := .tuple (ns.map PyData.int)
theorem shp_tup (ns : List Int) : SeqAt.shaped (dTup ns) = true := by
  have e : (dTup ns).depth = 1 := by
    show PyData.depthAll (ns.map PyData.int) + 1 = 1
    rw [dep_ints]
  have e2 : (dTup ns).canLay0 = true := cl_ints ns
  unfold SeqAt.shaped
  rw [e2, e]
  rfl
theorem rd_neT {a b : Addr} {ns : List Int} (ha : SqT K H a (ns.map V.int)) (hb : SqT K H b (ns.map V.int)) (k : Q (.bl false) H) : rNeD K (.ref a) (.ref b) H Q :=
  ⟨dTup ns, dTup ns, .tup ha (dpA_int ns), .tup hb (dpA_int ns), shp_tup ns, shp_tup ns, by rw [SeqAt.eqv_refl (dTup ns) (cl_ints ns)]; exact k⟩
end
end One
/-! ### classes: a plain def called through its class; fields -/
namespace One
open PySem PySem.Spec PyProof.Rows L2
/-- C.m is a plain def -/
structure CFun (K : PySem.W.Frag) (C : Addr) (m : Str) (f : Addr) : Prop where
  rd : PySem.W.readsIn K C (.type "type") = true
  ga : PySem.W.specialIn K (.ref C) "__getattribute__" = some (some (.builtin "type.__getattribute__"))
  at_ : PySem.W.findCls K (.ref C) (.type "type") m = some (.val (.ref f))
  kp : PySem.W.keepIn K (.ref f) = true
/-- C.m(..), C a class, m a plain def of it -/
def tCFun (C : Addr) (sp : Sp) (E : XK) (ta : TE) (t : TA) : TE := fun σ H Q => ta σ H fun x H1 => x = .ref C ∧ t σ H1 fun vs H2 => sp vs H2 Q E
section
variable {X : Cx} {CX : CXT} {k : Nat} {C f : Addr} {fd : FuncData} {ps : List Str} {sp : Sp} {E : XK} {o e : Expr} {es : List Expr} {m : Str} {pos apos : Pos} {ta : TE} {t : TA} {pl : Sem Bool}
theorem pe_cfun (he : PE X o ta) (c : CFun X.K C m f) (F : FnOk X.prog X.w X.K X.mg X.base CX k f fd ps sp) (hr : Room k X.A) (hb : Binds X.K fd ps []) (hx : Passes CX X E) (ha : PA X (e :: es) t)
    (hst : starEach (e :: es) X.env = (false, eval e X.env) :: starEach es X.env := by rfl) (hpl : (backTo pos (starEach es X.env)).any (·.1) = false := by rfl)
    (ht : eval (.Call (.Attribute o m apos) (e :: es) [] pos) X.env = (do
      let ov ← eval o X.env
      standAt apos.atName
      let (f, first) ← holding [ov] (getMethod ov m pl)
      callWith pos f first (backTo pos (starEach (e :: es) X.env)) (backToKw pos (keywordEach [] X.env))) := by rfl) :
    PE X (.Call (.Attribute o m apos) (e :: es) [] pos) (tCFun C sp E ta t) := by
  refine ⟨fun pins s σ H Q I h => ?_⟩
  refine PySem.W.methodCall_KW (pl := pl) (thn (he.run pins s σ H _ I h) fun u s1 ⟨x, H1, I1, rx, ex, q⟩ => ?_) ht
  subst ex
  obtain rfl : u = Value.ref C := rx
  refine PySem.W.method_cls I1.kIn c.ga (PySem.W.cls_value I1.kIn c.rd c.at_ rfl ?_)
  refine PySem.W.callWith_K (first := []) (h₀ := X.base) I.ok.mod.kin c.kp (thn (ha.run pos pins _ σ H1 _ (I1.tok _) q) fun us s2 ⟨vs, H2, I3, r, q2⟩ => ⟨I3.kIn, ?_⟩) hst hpl
  exact run_fn (dvs := []) F hr hb .nil hx I3 r (by rw [List.append_nil]; exact q2)
end
section
variable {K : PySem.W.Frag} {σ : L2.St} {H : Hp} {Q : VK} {D : Ends} {ta tv : TE} {tr : TA} {C : Addr} {sp : Sp} {E : XK} {f m : Str} {dvs : List V}
theorem rd_fld (k : ta σ H fun x H1 => ∃ a C dx fs v, x = .ref a ∧ H1 a = some (.ins C dx fs) ∧ Cls K C ∧ NoAttr K C f ∧ fs.lookup f = some v ∧ Q v H1) : tFld K ta f σ H Q := k
theorem rd_sfld (k : tv σ H fun y H1 => ta σ H1 fun x H2 => ∃ a C dx fs, x = .ref a ∧ H2 a = some (.ins C dx fs) ∧ Cls K C ∧ NoAttr K C f ∧ fs.length < 1000 ∧ D.nx σ (upd H2 a (.ins C dx (putF f y fs)))) : sFld K ta tv f D σ H := k
theorem rd_cfun (k : ta σ H fun x H1 => x = .ref C ∧ tr σ H1 fun vs H2 => sp vs H2 Q E) : tCFun C sp E ta tr σ H Q := k
theorem rd_meth (k : ta σ H fun x H1 => ∃ a dx fs, x = .ref a ∧ H1 a = some (.ins C dx fs) ∧ fs.lookup m = none ∧ tr σ H1 fun vs H2 => sp (x :: (vs ++ dvs)) H2 Q E) : tMeth C m sp dvs E ta tr σ H Q := k
theorem rd_make (k : tr σ H fun vs H1 => ∀ x dx, H1 x = none → H1 dx = none → dx ≠ x → sp (.ref x :: (vs ++ dvs)) (upd (upd H1 dx (.own x)) x (.ins C dx [])) (fun v H2 => v = .non ∧ Q (.ref x) H2) E) : tMake C sp dvs E tr σ H Q := k
theorem rd_none {b : Bool} {v : V} (h : decide (v = .non) = b) (k : Q (.bl (!b)) H) : (fun x y H Q => y = V.non ∧ Q (.bl (!decide (x = V.non))) H : R2) v .non H Q := ⟨rfl, by rw [h]; exact k⟩
end
theorem rd_p30 {H : Hp} {Q : VK} (k : Q (.int 1000000000000000000000000000000) H) : rI CPow (fun i j => .int (i ^ j.toNat)) (.int 10) (.int 30) H Q := ⟨10, 30, rfl, rfl, ⟨by decide, by decide, by decide⟩, by
  show Q (.int ((10 : Int) ^ (30 : Int).toNat)) H
  rw [show (10 : Int) ^ (30 : Int).toNat = 1000000000000000000000000000000 by decide]
  exact k⟩
theorem rd_p6 {H : Hp} {Q : VK} (k : Q (.int 1000000) H) : rI CPow (fun i j => .int (i ^ j.toNat)) (.int 10) (.int 6) H Q := ⟨10, 6, rfl, rfl, ⟨by decide, by decide, by decide⟩, by
  show Q (.int ((10 : Int) ^ (6 : Int).toNat)) H
  rw [show (10 : Int) ^ (6 : Int).toNat = 1000000 by decide]
  exact k⟩
/-- a cut of a list of ints -/
theorem cut_ints (ns : List Int) (l u : Option Int) : ∃ ms : List Int, cutV (ns.map V.int) l u = ms.map V.int := by
  unfold cutV
  rw [← List.map_drop, ← List.map_take]
  exact ⟨_, rfl⟩
/-- all but one thing stand as ahead -/
def But (p : Addr) (H H' : Hp) : Prop := ∀ b o, H b = some o → b ≠ p → H' b = some o
theorem But.of {p : Addr} {H H' : Hp} (k : ∀ b, b ≠ p → H' b = H b) : But p H H' := fun b o e n => (k b n).trans e
theorem But.trans {p : Addr} {H H' H2 : Hp} (a : But p H H') (b : But p H' H2) : But p H H2 := fun c o e n => b c o (a c o e n) n
theorem But.seq {K : PySem.W.Frag} {p a C dx : Addr} {H H' : Hp} {xs : List V} {fs : List (Str × V)} (b : But p H H') (hp : H p = some (.ins C dx fs)) (h : SqL K H a xs) : SqL K H' a xs := by
  rcases h with (h | ⟨o, h⟩) | h
  · exact .inl (.inl (b _ _ h (ne_of h hp (by intro z; cases z))))
  · exact .inl (.inr ⟨o, b _ _ h (ne_of h hp (by intro z; cases z))⟩)
  · exact .inr h
theorem Same.but {p : Addr} {H H' : Hp} (a : Same H H') : But p H H' := fun c o e _ => a c o e
theorem lk_eq {a : Str} {v : V} {r : List (Str × V)} (h : (a == a) = true) : ((a, v) :: r).lookup a = some v := by
  rw [List.lookup_cons, h]
theorem lk_ne {a b : Str} {v : V} {r : List (Str × V)} (h : (a == b) = false) : ((b, v) :: r).lookup a = r.lookup a := by
  rw [List.lookup_cons, h]
theorem pf_nil {f : Str} {v : V} : putF f v [] = [(f, v)] := rfl
theorem pf_eq {f : Str} {v u : V} {r : List (Str × V)} : putF f v ((f, u) :: r) = (f, v) :: r := by
  show (if f = f then _ else _) = _
  rw [if_pos rfl]
theorem pf_ne {f g : Str} {v u : V} {r : List (Str × V)} (h : ¬ g = f) : putF f v ((g, u) :: r) = (g, u) :: putF f v r := by
  show (if g = f then _ else _) = _
  rw [if_neg h]
theorem n_ta : ¬ ("total" : Str) = "at" := by decide +kernel
theorem n_ts : ¬ ("total" : Str) = "size" := by decide +kernel
theorem n_as : ¬ ("at" : Str) = "size" := by decide +kernel
theorem n_tt : ¬ ("total" : Str) = "things" := by decide +kernel
theorem n_at : ¬ ("at" : Str) = "things" := by decide +kernel
theorem n_to : ¬ ("total" : Str) = "some" := by decide +kernel
theorem n_ao : ¬ ("at" : Str) = "some" := by decide +kernel
theorem n_ho : ¬ ("things" : Str) = "some" := by decide +kernel
/-- a walker's fields -/
def Wf (t a : Int) (r : List (Str × V)) : List (Str × V) := ("total", .int t) :: ("at", .int a) :: r
theorem Wf_total {t a : Int} {r : List (Str × V)} : (Wf t a r).lookup ("total" : Str) = some (.int t) := lk_eq (by decide +kernel)
theorem Wf_at {t a : Int} {r : List (Str × V)} : (Wf t a r).lookup ("at" : Str) = some (.int a) := (lk_ne (by decide +kernel)).trans (lk_eq (by decide +kernel))
theorem Wf_else {t a : Int} {r : List (Str × V)} {m : Str} (h1 : (m == ("total" : Str)) = false) (h2 : (m == ("at" : Str)) = false) : (Wf t a r).lookup m = r.lookup m := (lk_ne h1).trans (lk_ne h2)
theorem Wf_put {t a b : Int} {r : List (Str × V)} : putF "at" (.int b) (Wf t a r) = Wf t b r := by
  unfold Wf
  rw [pf_ne n_ta, pf_eq]
theorem Wf_add {t a : Int} {r : List (Str × V)} {f : Str} {v : V} (h1 : ¬ ("total" : Str) = f) (h2 : ¬ ("at" : Str) = f) : putF f v (Wf t a r) = Wf t a (putF f v r) := by
  unfold Wf
  rw [pf_ne h1, pf_ne h2]
theorem Wf_new {t : Int} : putF "at" (.int 0) (putF "total" (.int t) []) = Wf t 0 [] := by
  rw [pf_nil, pf_ne n_ta, pf_nil]
  rfl
theorem Wf_len {t a : Int} {r : List (Str × V)} : (Wf t a r).length = r.length + 2 := rfl
/-- what the walk asks of a walker's class -/
structure WCls (K : PySem.W.Frag) (C : Addr) : Prop where
  cl : Cls K C
  nT : NoAttr K C "total"
  nA : NoAttr K C "at"
end One
/-! ### exceptions: promises side by side; a def that is called with the exception, within the suite -/
namespace One
open PySem PySem.Spec PyProof.Rows L2
section
variable {P : Program} {w : World} {K : PySem.W.Frag} {mg : Str → Option Value} {base : Heap} {k : Nat} {f : Addr} {fd : FuncData} {ps : List Str}
/-- a def that lets nothing out, among those that may -/
theorem ok_up {sp : Sp} (F : FnOk P w K mg base CX0 k f fd ps sp) : FnOk P w K mg base (L2.CX P w) k f fd ps sp :=
  ⟨F.len, fun A outer s H args us vs Q E a b c d e => codeAny_mono (F.run A outer s H args us vs Q E a b c d e) fun r s' h => by
    cases r with
    | error x => exact False.elim h
    | ok fl => cases fl <;> exact h⟩
/-- two promises of one def -/
theorem ok_or {CX : CXT} {s1 s2 : Sp} (F : FnOk P w K mg base CX k f fd ps s1) (G : FnOk P w K mg base CX k f fd ps s2) : FnOk P w K mg base CX k f fd ps (fun vs H Q E => s1 vs H Q E ∨ s2 vs H Q E) :=
  ⟨fun vs H Q E h => h.elim (F.len vs H Q E) (G.len vs H Q E), fun A outer s H args us vs Q E a b c d h => h.elim (F.run A outer s H args us vs Q E a b c d) (G.run A outer s H args us vs Q E a b c d)⟩
/-- what a def promises that is called with the exception in hand -/
structure FnE (P : Program) (w : World) (K : PySem.W.Frag) (mg : Str → Option Value) (base : Heap) (k : Nat) (f : Addr) (fd : FuncData) (ps : List Str) (sp : Addr × Obj → Sp) : Prop where
  lenE : ∀ x vs H Q E, sp x vs H Q E → vs.length = ps.length
  runE : ∀ (A : Around) (outer : List Env) (s : Shared) (H : Hp) (us : List Value) (vs : List V) (Q : VK) (E : XK) (x : Addr × Obj),
    L2H.RoomH k A → L2H.PinOk outer H s x → Env0 P w K mg base A outer s H → BindsTo s fd ⟨us, []⟩ (ps.zip us) →
    Vals vs us → sp x vs H Q E → codeAny (model P w) A (.call (.ref f) ⟨us, []⟩) (CR CX0 outer P w H s Q E) s
theorem Fun.okE {x qual : Str} {st : Stmt} {N : List Str} {sp : Addr × Obj → Sp} (F : Fun K x qual st f fd) (S : FnScope N ps (defScope st)) (ln : ∀ x vs H Q E, sp x vs H Q E → vs.length = ps.length)
    (body : ∀ (cdv : Value) (A : Around) (outer : List Env) (s : Shared) (H : Hp) (vs : List V) (Q : VK) (E : XK) (x : Addr × Obj), L2H.RoomH k (A.deeper (envOfC qual (defScope st) s.heap.objs.size f cdv)) → sp x vs H Q E →
      ∃ t, PSs (L2H.cxH CX0 P w K mg base N qual (defScope st) f cdv A outer s H E x) (defBody st) t ∧ t { nx := fun _ H' => Q .non H', rt := Q } (L2.start N vs) H) : FnE P w K mg base (k + 1) f fd ps sp := by
  obtain ⟨oc, od, kV, doc, pm, an, cdv, ct, osl, rfl, lk, hcd⟩ := F.ex
  refine ⟨ln, fun A outer s H us vs Q E x room pin e0 bind rel h => ?_⟩
  have kin : K.In s.heap := e0.mod.kin.keeps (fun b o z => (e0.bs b o z).1)
  have nol : s.heap.NoLimit := e0.mod.nolimit.keeps (fun b o z => (e0.bs b o z).1)
  have kinds : ∀ y ∈ ps.zip us, (defScope st).names.lookup y.1 = some .local ∨ ((defScope st).names.lookup y.1 = some .cell ∧ ((cellsFrom (s.heap.objs.size + 1) (defScope st).names []).lookup y.1).isSome = true) := by
    rintro ⟨n, v⟩ hy
    rcases S.par n (List.of_mem_zip hy).1 with z | z
    · exact Or.inl z
    · exact Or.inr ⟨z, PySem.W.cellsFrom_some _ _ _ (Or.inl z)⟩
  have code := PySem.W.codeRec_of kin hcd
  refine codeAny_call_function (L2H.RoomH.depth room) (kin _ _ lk) rfl S.co S.gen rfl code (bind _ _ _ _ ?_)
  refine wpAny_newFunctionEnv_cells S.kind kinds (fun env he s1 i => ?_)
  cases he
  refine And.intro (nol.keeps i.toInCall.keep) (codeAny_func ?_)
  obtain ⟨t, ht, hq⟩ := body cdv A outer s H vs Q E x (room.deeper _) h
  have inv := L2H.inv_startH (CX := CX0) (E := E) S pin e0 (ln _ _ _ _ _ h) rel i
  refine wpAny_mono (ht.run [] s1 _ H _ inv hq) (fun fl s' z => ?_) (fun e s' z => z)
  have out : ∀ {σ' : L2.St} {H' : Hp} {v : V} {u : Value}, Inv (L2H.cxH CX0 P w K mg base N qual (defScope st) f cdv A outer s H E x) [] σ' H' s' → RelV v u → Q v H' → CE outer P w H s Q u s' := by
    intro σ' H' v u J rv q
    exact ⟨v, H', J.os, J.bare, J.base, J.hok, rv, q⟩
  match fl, z with
  | .ret u, ⟨v, σ', H', J, rv, q⟩ => exact out J rv q
  | .next, ⟨σ', H', J, q⟩ => exact out (v := V.non) (u := Value.none) J rfl q
  | .brk, ⟨_, _, _, q⟩ => exact q.elim
  | .cont, ⟨_, _, _, q⟩ => exact q.elim
end
/-- the promise: the word wd of the exception's class -/
def spW (wd : Addr → Str → Prop) : Addr × Obj → Sp := fun x vs H Q _ => ∃ (D : Addr) (t : Str), vs = [.ref x.1] ∧ Zc (.ref D) none x.2 ∧ (∃ fs, x.2.data = .fields fs) ∧ wd D t ∧ ∀ H', Same H H' → Q (.str t) H'
/-- word(e) within the suite that holds e -/
def tWord (wd : Addr → Str → Prop) (a : Addr) (cls : Value) (d : Option Addr) (tr : TA) : TE := fun σ H Q => tr σ H fun vs H1 => ∃ (D : Addr) (t : Str), vs = [.ref a] ∧ cls = .ref D ∧ d = none ∧ wd D t ∧ ∀ H', Same H1 H' → Q (.str t) H'
section
variable {X : Cx} {k : Nat} {f a : Addr} {oe : Obj} {cls : Value} {d : Option Addr} {pn : List (Addr × Obj)} {fd : FuncData} {ps : List Str} {wd : Addr → Str → Prop} {x : Str} {q pos : Pos} {e : Expr} {es : List Expr} {tr : TA}
theorem pe_word (F : FnE X.prog X.w X.K X.mg X.base k f fd ps (spW wd)) (hr : Room k X.A) (hg : Gl X x) (hm : X.mg x = some (.ref f)) (hk : PySem.W.keepIn X.K (.ref f) = true) (hb : Binds X.K fd ps []) (hz : Zc cls d oe) (hf : ∃ fs, oe.data = .fields fs)
    (ha : PA (X.suite a ((a, oe) :: pn)) (e :: es) tr) (hdb : (x == ("__debug__" : Str)) = false := by decide) (he : starEach (e :: es) X.env = (false, eval e X.env) :: starEach es X.env := by rfl) (hpl : (backTo pos (starEach es X.env)).any (·.1) = false := by rfl) :
    PE (X.suite a ((a, oe) :: pn)) (.Call (.Name x q) (e :: es) [] pos) (tWord wd a cls d tr) := by
  refine ⟨fun pins s σ H Q I h => wpAny_Call_Name_kw (ld_glob (X := X.suite a ((a, oe) :: pn)) I hg hm ?_ hdb)⟩
  refine PySem.W.callWith_K (h₀ := X.base) I.ok.mod.kin hk (thn (ha.run pos pins s σ H _ I h) ?_) he hpl
  rintro us s1 ⟨vs, H1, J, rel, D, t, rfl, rfl, rfl, hw, hq⟩
  refine ⟨J.kIn, ?_⟩
  have sp : spW wd (a, oe) [.ref a] H1 Q E0 := ⟨D, t, rfl, hz, hf, hw, hq⟩
  have hl : us.length = ps.length := rel.length.symm.trans (F.lenE _ _ _ _ _ sp)
  have b := hb s1 us J.kIn ((congrArg List.length (List.append_nil us)).trans hl)
  rw [List.append_nil] at b
  have at_ := J.pin (a, oe) (List.mem_append_left _ List.mem_cons_self)
  have pin : L2H.PinOk X.stack H1 s1 (a, oe) := ⟨at_.1, at_.2.1, fun z => (List.mem_cons.mp (J.stkSub a z)).elim at_.2.2.1 at_.2.2.2.1, at_.2.2.2.2⟩
  have run := F.runE (X.suite a ((a, oe) :: pn)).A X.stack s1 H1 us [.ref a] Q E0 (a, oe) ⟨hr.dp, hr.un⟩ pin J.env0 b rel sp
  refine wpAny_call (codeAny_mono run fun r s' z => ?_)
  match r, z with
  | .error _, z => exact False.elim z
  | .ok (.ret u), z => exact J.after z
  | .ok .next, z => exact False.elim z
  | .ok .brk, z => exact False.elim z
  | .ok .cont, z => exact False.elim z
/-- o.m(e, ..) of a method that may raise -/
def tMethX (C : Addr) (m : Str) (sp : Sp) (E : L2.St → XK) (ta : TE) (tr : TA) : TE := fun σ H Q => ta σ H fun x H1 => ∃ (b dx : Addr) (fs : List (Str × V)), x = .ref b ∧ H1 b = some (.ins C dx fs) ∧ fs.lookup m = none ∧ tr σ H1 fun vs H2 => sp (x :: vs) H2 Q (E σ)
theorem pe_methX {CX : CXT} {C : Addr} {m : Str} {sp : Sp} {E : L2.St → XK} {o : Expr} {ta : TE} {apos : Pos} {pl : Sem Bool} (ho : PE X o ta) (c : Cls X.K C) (hm : Meth X.K C m f) (F : FnOk X.prog X.w X.K X.mg X.base CX k f fd ps sp) (hr : Room k X.A) (hb : Binds X.K fd ps [])
    (hx : ∀ σ, PassesAt CX X σ (E σ)) (ha : PA X (e :: es) tr) (hst : starEach (e :: es) X.env = (false, eval e X.env) :: starEach es X.env := by rfl) (hpl : (backTo pos (starEach es X.env)).any (·.1) = false := by rfl)
    (ht : eval (.Call (.Attribute o m apos) (e :: es) [] pos) X.env = (do
      let ov ← eval o X.env
      standAt apos.atName
      let (f, first) ← holding [ov] (getMethod ov m pl)
      callWith pos f first (backTo pos (starEach (e :: es) X.env)) (backToKw pos (keywordEach [] X.env))) := by rfl) :
    PE X (.Call (.Attribute o m apos) (e :: es) [] pos) (tMethX C m sp E ta tr) := by
  refine ⟨fun pins s σ H Q I h => PySem.W.methodCall_KW (pl := pl) (thn (ho.run pins s σ H _ I h) ?_) ht⟩
  rintro u s1 ⟨x, H1, J, rx, b, dx, fs, rfl, hi, hn, hq⟩
  obtain rfl : u = Value.ref b := rx
  refine getmeth_ok J hi c hm hn (PySem.W.callWith_K (first := [.ref b]) (h₀ := X.base) I.ok.mod.kin hm.kp (thn (ha.run pos pins s1 σ H1 _ J hq) ?_) hst hpl)
  rintro us s2 ⟨vs, H2, J2, rel, hq2⟩
  exact ⟨J2.kIn, run_fnS (us := .ref b :: us) (vs := .ref b :: vs) F hr hb (hx σ) J2 (.cons rfl rel) hq2⟩
/-- isinstance of a pinned exception -/
theorem call_isP {y : Addr × Obj} {D : Addr} (hp : y ∈ X.pn) (c : ExcC X.K D) (hz : Zc (.ref D) none y.2) (hf : ∃ fs, y.2.data = .fields fs) : CallR X (.builtin "isinstance") (rIsE X.K D y.1) := by
  rintro pins s σ H xs us Q I rel ⟨c1, cv, b, rfl, hcv, hk, hq⟩
  match us, rel with
  | [u1, u2], .cons r1 (.cons r2 .nil) =>
    obtain rfl := hcv _ r2
    obtain rfl : u1 = Value.ref y.1 := r1
    obtain ⟨fs, hd⟩ := hf
    have get := (I.pin y (List.mem_append_left _ hp)).1
    have inst : PySem.W.InstAt s.heap y.1 y.2 D none := by
      refine ⟨get, hz.1, ?_, ?_⟩
      · unfold PySem.W.notCls
        rw [hd] <;> rfl
      · rw [hz.2]
        trivial
    exact PySem.W.kia_one (PySem.W.handS_kitx_exc c.hg c.hk c.hs c.hd c.ha c.hn c.ht c.hm) I.kIn inst hk (fun z => nomatch z) fun tk => ⟨.bl b, H, I.kept (t' := tk) (fun _ _ z => z), rfl, hq⟩
/-- xs.count(b), a list of truths -/
def rCntB (K : PySem.W.Frag) : V → List V → Hp → VK → Prop := fun x xs H Q => ∃ (p : Addr) (bs : List Bool) (b : Bool), x = .ref p ∧ xs = [.bl b] ∧ SqL K H p (bs.map V.bl) ∧ Q (.int ((bs.count b : Nat) : Int)) H
theorem eqv_bb (a b : Bool) : PyData.eqv (.bool a) (.bool b) = (a == b) := by
  cases a <;> cases b <;> decide
theorem cnt_bls (bs : List Bool) (b : Bool) : (bs.map PyData.bool).countP (fun y => PyData.eqv y (.bool b)) = bs.count b := by
  rw [List.countP_map]
  show bs.countP _ = bs.countP (· == b)
  congr 1
theorem mt_cntB (hu : X.A.units + 65 < cLine) : MtR X "list.count" (rCntB X.K) := by
  rintro pins s σ H x xs v us Q I rx rxs ⟨p, bs, b, rfl, rfl, hs, hq⟩
  obtain rfl : v = Value.ref p := rx
  obtain ⟨u, rfl, ru⟩ := rxs.one
  obtain ⟨bs', rd⟩ := Dp.reads I (.bool b) (.bl b) u (.bl b) ru
  obtain ⟨its, rv, ⟨⟨cls, dd, data, sl⟩, n, ho, hc, hdn, hd⟩, hlen⟩ := I.list hs
  simp only at hc hd
  subst hc hd
  obtain ⟨as, rs⟩ := Dp.readsAll I (bs.map PyData.bool) _ its (dpA_bl bs) rv
  have lay : PyData.canLayAll0 (bs.map PyData.bool) = true := cl_bls bs
  have each := SeqAt.items_eqAt (vs := its.toArray) (A := X.A) (s := s) (show ReadsAll s.heap its.toArray.toList _ as from rs) rd lay rfl (by rw [dep_bls]; show X.A.units + 1 + min 0 _ < cLine; omega)
  have same : its.map (SeqAt.readOf s.heap) = bs.map PyData.bool := SeqAt.readsAll_map _ its as lay rs
  have cnt : its.toArray.toList.countP (fun y => PyData.eqv (SeqAt.readOf s.heap y) (.bool b)) = bs.count b := by
    rw [← cnt_bls, ← same, List.countP_map]
    rfl
  refine call_meets PySem.F.slot_list_count ⟨_, ho, rfl⟩ PySem.F.entry_list_count (PySem.F.args_list_count_2 _ _) (SeqAt.list_countAt p its.toArray n dd sl u _) ⟨ho, each, ?_⟩
  rw [cnt]
  exact ⟨.int ((bs.count b : Nat) : Int), H, I.tok _, ⟨_, rfl⟩, hq⟩
end
theorem kit_own {K : PySem.W.Frag} {C D : Addr} {b : Bool} (hd : PySem.W.hasDictIn K C = true) (ht : PySem.W.typeIn K (.ref C) = some (.type "type")) (sC : PySem.W.subIn K (.ref C) (.ref C) = some true) (h : PySem.W.subIn K (.ref D) (.ref C) = some b) : PySem.W.kitOne K (.ref D) (.ref C) = some b := by
  obtain ⟨cd, hc, _⟩ := PySem.W.any_some hd
  by_cases e : (Value.ref D == Value.ref C) = true
  · have z := Value.ref.inj (beq_iff_eq.mp e)
    subst z
    unfold PySem.W.kitOne
    rw [if_pos e, ← h, sC]
  · unfold PySem.W.kitOne
    rw [if_neg e]
    show (if ((PySem.W.clsIn K C).isSome && PySem.W.typeIn K (.ref C) == some (.type "type")) = true then PySem.W.subIn K (.ref D) (.ref C) else none) = some b
    rw [if_pos (by rw [hc, ht]; rfl)]
    exact h
theorem kit_val {K : PySem.W.Frag} {D : Addr} (h : PySem.W.subIn K (.ref D) (.type "ValueError") = some true) : PySem.W.kitOne K (.ref D) (.type "ValueError") = some true := by
  unfold PySem.W.kitOne
  rw [if_neg (show ¬ (Value.ref D == Value.type "ValueError") = true from fun z => by cases z)]
  show (if PySem.W.kitMeta "ValueError" = true then PySem.W.subIn K (.ref D) (.type "ValueError") else none) = some true
  rw [if_pos (by decide +kernel)]
  exact h
section
variable {K : PySem.W.Frag} {σ : L2.St} {H : Hp} {Q : VK} {tr : TA}
/-- the clause takes it -/
theorem caught {c cls : Value} {i : Nat} {ts : Addr → Value → Option Addr → TS} {W : WX} {D : Ends} {d : Option Addr} (h : PySem.W.exmOne K cls c = some true)
    (k : ∀ a, H a = none → ts a cls d { nx := fun σ' H' => D.nx (σ'.set i none) H', rt := D.rt, bk := fun σ' H' => D.bk (σ'.set i none) H', ct := fun σ' H' => D.ct (σ'.set i none) H' } (σ.set i (some (.ref a))) H) :
    wAs K c i ts W D cls d σ H := ⟨true, h, fun _ => k, fun e => Bool.noConfusion e⟩
theorem rd_callS {sp : Sp} {E : L2.St → XK} (k : tr σ H fun vs H1 => sp vs H1 Q (E σ)) : tCallS sp E tr σ H Q := k
theorem rd_word {wd : Addr → Str → Prop} {a : Addr} {cls : Value} {d : Option Addr} (k : tr σ H fun vs H1 => ∃ (D : Addr) (t : Str), vs = [.ref a] ∧ cls = .ref D ∧ d = none ∧ wd D t ∧ ∀ H', Same H1 H' → Q (.str t) H') : tWord wd a cls d tr σ H Q := k
theorem rd_methX {C : Addr} {m : Str} {sp : Sp} {E : L2.St → XK} {ta : TE} (k : ta σ H fun x H1 => ∃ (b dx : Addr) (fs : List (Str × V)), x = .ref b ∧ H1 b = some (.ins C dx fs) ∧ fs.lookup m = none ∧ tr σ H1 fun vs H2 => sp (x :: vs) H2 Q (E σ)) : tMethX C m sp E ta tr σ H Q := k
theorem rd_chain {r r' : R2} {ta tb tc : TE} (k : ta σ H fun x H1 => tb σ H1 fun y H2 => r x y H2 fun z H3 => ∃ k, z = .bl k ∧ if k = true then tc σ H3 fun w H4 => r' y w H4 Q else Q (.bl false) H3) : tChain r r' ta tb tc σ H Q := k
/-- for i in range(lo, lo + n) -/
def RG2 (g : TG) (tb : TS) (D : Ends) (σ : L2.St) (vs : List V) (H : Hp) : Prop := ∃ i j : Int, vs = [.int i, .int j] ∧ (-(2 ^ 62) ≤ i ∧ i < 2 ^ 62 ∧ -(2 ^ 62) ≤ j ∧ j < 2 ^ 62) ∧ ∃ W : Nat → Nat → L2.St → Hp → Prop, (∃ m, W 0 m σ H) ∧ ∀ k m σ H, W k m σ H →
  ((Itr i (j - i).toNat).stop k H ∧ D.nx σ H) ∨ ((Itr i (j - i).toNat).go k H ∧ ∃ N : L2.St → Hp → Prop, (∀ σ' H', N σ' H' → ∃ m', m' < m ∧ W (k + 1) m' σ' H') ∧ ∀ x H', (Itr i (j - i).toNat).yld k H x H' → g x σ H' fun σ2 H2 => tb { D with nx := N, ct := N, bk := D.nx } σ2 H2)
theorem rd_for2 {g : TG} {tb : TS} {D : Ends} (k : tr σ H fun vs H1 => RG2 g tb D σ vs H1) : tFor (iRng2 tr) g tb D σ H := k
theorem for2 {tb : TS} {D : Ends} {j lo n : Nat} {z : Int} (hz : z = ((lo + n : Nat) : Int)) (h1 : lo ≤ 1000) (h2 : n ≤ 1000) (Pv : Nat → L2.St → Hp → Prop) (h0 : Pv 0 σ H)
    (hs : ∀ k σ H, k < n → Pv k σ H → tb { D with nx := Pv (k + 1), ct := Pv (k + 1), bk := D.nx } (σ.set j (some (.int ((lo + k : Nat) : Int)))) H) (hd : ∀ σ H, Pv n σ H → D.nx σ H) : RG2 (gName j) tb D σ [.int (lo : Int), .int z] H := by
  subst hz
  have e : (((lo + n : Nat) : Int) - (lo : Int)).toNat = n := by omega
  refine ⟨_, _, rfl, ⟨by omega, by omega, by omega, by omega⟩, ?_⟩
  rw [e]
  refine for_range Pv h0 (fun k σ H hk p => ?_) hd
  show tb _ (σ.set j (some (.int ((lo : Int) + (k : Int))))) H
  rw [← Int.natCast_add]
  exact hs k σ H hk p
theorem isE_own {a D C : Addr} {b : Bool} (h : PySem.W.kitOne K (.ref D) (.ref C) = some b) (k : Q (.bl b) H) : rIsE K D a [.ref a, .ref C] H Q := ⟨_, .ref C, b, rfl, fun _ r => r, h, k⟩
theorem isE_ty {a D : Addr} {T : String} {b : Bool} (h : PySem.W.kitOne K (.ref D) (.type T) = some b) (k : Q (.bl b) H) : rIsE K D a [.ref a, .ty T] H Q := ⟨_, .type T, b, rfl, fun _ r => r, h, k⟩
theorem rd_cntB {p : Addr} {bs : List Bool} {b : Bool} (h : SqL K H p (bs.map V.bl)) (k : Q (.int ((bs.count b : Nat) : Int)) H) : rCntB K (.ref p) [.bl b] H Q := ⟨p, bs, b, rfl, rfl, h, k⟩
theorem rd_idxB {p : Addr} {bs : List Bool} {b : Bool} {j : Nat} (h : SqL K H p (bs.map V.bl)) (e : bs[j]? = some b) (no : ∀ m, m < j → bs[m]? = some (!b)) (k : Q (.int (j : Int)) H) : rIndexD K (.ref p) [.bl b] H Q := by
  refine ⟨p, .bl b, .bool b, bs.map PyData.bool, j, .bool b, rfl, rfl, dp_bls h, .bl b, shp_bls bs, ?_, ?_, ?_, ?_, k⟩
  · cases b <;> decide
  · rw [List.getElem?_map, e]
    rfl
  · cases b <;> decide
  · intro m z hm hz
    rw [List.getElem?_map, no m hm] at hz
    cases hz
    cases b <;> decide
theorem rd_neS {s t : Str} (k : Q (.bl (!decide (s = t))) H) : rNe (.str s) (.str t) H Q := by
  refine ⟨rfl, ?_⟩
  have e : decide (V.str s = V.str t) = decide (s = t) := by
    by_cases h : s = t
    · rw [decide_eq_true h, decide_eq_true (by rw [h])]
    · rw [decide_eq_false h, decide_eq_false fun z => h (V.str.inj z)]
  rw [e]
  exact k
theorem rd_neS0 {s : Str} (k : Q (.bl false) H) : rNe (.str s) (.str s) H Q := rd_neS (by rw [decide_eq_true rfl]; exact k)
theorem rd_eqS0 {s : Str} (k : Q (.bl true) H) : rEq (.str s) (.str s) H Q := ⟨rfl, by rw [decide_eq_true rfl]; exact k⟩
end
end One
/-! ### the mathematics of rows -/
namespace One
/-- the row on a place -/
def row : Nat → Nat → List Bool
  | 0, _ => []
  | n + 1, p => (!decide (p % 2 = p / 2 % 2)) :: row n (p / 2)
theorem row_len : ∀ n p, (row n p).length = n
  | 0, _ => rfl
  | n + 1, p => by
    show (row n (p / 2)).length + 1 = n + 1
    rw [row_len n]
theorem row_snoc : ∀ n p, row (n + 1) p = row n p ++ [!decide (p / 2 ^ n % 2 = p / 2 ^ n / 2 % 2)]
  | 0, p => by
    simp [row]
  | n + 1, p => by
    have ih := row_snoc n (p / 2)
    have e : p / 2 / 2 ^ n = p / 2 ^ (n + 1) := by
      rw [Nat.div_div_eq_div_mul, Nat.pow_succ, Nat.mul_comm]
    rw [e] at ih
    show (!decide (p % 2 = p / 2 % 2)) :: row (n + 1) (p / 2) = (!decide (p % 2 = p / 2 % 2)) :: row n (p / 2) ++ _
    rw [ih]
    rfl
theorem two_succ (n : Nat) : 2 ^ (n + 1) = 2 * 2 ^ n := by
  rw [Nat.pow_succ, Nat.mul_comm]
theorem row_built : ∀ n p, p < 2 ^ (n + 1) → row (n + 1) p = if p < 2 ^ n then row n p ++ [false] else row n (2 ^ (n + 1) - 1 - p) ++ [true]
  | 0, p, h => by
    have h2 : p = 0 ∨ p = 1 := by
      have : p < 2 := h
      omega
    rcases h2 with rfl | rfl <;> rfl
  | n + 1, p, h => by
    have e1 := two_succ n
    have e2 := two_succ (n + 1)
    have ih := row_built n (p / 2) (by omega)
    by_cases c : p < 2 ^ (n + 1)
    · rw [if_pos c]
      rw [if_pos (show p / 2 < 2 ^ n by omega)] at ih
      show (!decide (p % 2 = p / 2 % 2)) :: row (n + 1) (p / 2) = (!decide (p % 2 = p / 2 % 2)) :: row n (p / 2) ++ [false]
      rw [ih]
      rfl
    · rw [if_neg c]
      rw [if_neg (show ¬ p / 2 < 2 ^ n by omega)] at ih
      have d1 : (2 ^ (n + 1 + 1) - 1 - p) / 2 = 2 ^ (n + 1) - 1 - p / 2 := by omega
      have d2 : (!decide ((2 ^ (n + 1 + 1) - 1 - p) % 2 = (2 ^ (n + 1 + 1) - 1 - p) / 2 % 2)) = !decide (p % 2 = p / 2 % 2) := by
        congr 1
        rw [decide_eq_decide]
        omega
      show (!decide (p % 2 = p / 2 % 2)) :: row (n + 1) (p / 2) = (!decide ((2 ^ (n + 1 + 1) - 1 - p) % 2 = (2 ^ (n + 1 + 1) - 1 - p) / 2 % 2)) :: row n ((2 ^ (n + 1 + 1) - 1 - p) / 2) ++ [true]
      rw [ih, d2, d1]
      rfl
/-- the switch that is turned -/
def stepR : Nat → Nat → Nat
  | 0, _ => 0
  | n + 1, p => if n ≠ 0 ∧ p % 2 = 1 then stepR n (p / 2) + 1 else 0
theorem stepR_lt : ∀ n p, 0 < n → stepR n p < n
  | 0, _, h => absurd h (by decide)
  | n + 1, p, _ => by
    unfold stepR
    by_cases c : n ≠ 0 ∧ p % 2 = 1
    · rw [if_pos c]
      have := stepR_lt n (p / 2) (by omega)
      omega
    · rw [if_neg c]
      omega
theorem row_turn : ∀ n p, p < 2 ^ n → ∀ j : Nat, j < n → (((row n p)[j]? = (row n ((p + 1) % 2 ^ n))[j]?) ↔ ¬ j = stepR n p)
  | 0, _, _, _, h => absurd h (by omega)
  | n + 1, p, hp, j, hj => by
    have e1 := two_succ n
    have pos : 0 < 2 ^ n := Nat.pow_pos (by decide)
    by_cases c : n ≠ 0 ∧ p % 2 = 1
    · obtain ⟨m, rfl⟩ : ∃ m, n = m + 1 := ⟨n - 1, by omega⟩
      have e2 := two_succ m
      have pos2 : 0 < 2 ^ m := Nat.pow_pos (by decide)
      have hq : (p + 1) % 2 ^ (m + 1 + 1) / 2 = (p / 2 + 1) % 2 ^ (m + 1) := by
        by_cases w : p + 1 = 2 ^ (m + 1 + 1)
        · rw [w, Nat.mod_self, show p / 2 + 1 = 2 ^ (m + 1) by omega, Nat.mod_self]
        · rw [Nat.mod_eq_of_lt (show p + 1 < 2 ^ (m + 1 + 1) by omega), Nat.mod_eq_of_lt (show p / 2 + 1 < 2 ^ (m + 1) by omega)]
          omega
      have ih := row_turn (m + 1) (p / 2) (by omega)
      have es : stepR (m + 1 + 1) p = stepR (m + 1) (p / 2) + 1 := by
        show (if m + 1 ≠ 0 ∧ p % 2 = 1 then stepR (m + 1) (p / 2) + 1 else 0) = _
        rw [if_pos c]
      rw [es]
      have er : row (m + 1 + 1) ((p + 1) % 2 ^ (m + 1 + 1)) = (!decide ((p + 1) % 2 ^ (m + 1 + 1) % 2 = (p + 1) % 2 ^ (m + 1 + 1) / 2 % 2)) :: row (m + 1) ((p / 2 + 1) % 2 ^ (m + 1)) := by
        show _ :: row (m + 1) ((p + 1) % 2 ^ (m + 1 + 1) / 2) = _
        rw [hq]
      have er0 : row (m + 1 + 1) p = (!decide (p % 2 = p / 2 % 2)) :: row (m + 1) (p / 2) := rfl
      rw [er, er0]
      cases j with
      | zero =>
        have hd : (!decide (p % 2 = p / 2 % 2)) = (!decide ((p + 1) % 2 ^ (m + 1 + 1) % 2 = (p + 1) % 2 ^ (m + 1 + 1) / 2 % 2)) := by
          congr 1
          rw [decide_eq_decide, hq]
          by_cases w : p + 1 = 2 ^ (m + 1 + 1)
          · rw [w, Nat.mod_self, show p / 2 + 1 = 2 ^ (m + 1) by omega, Nat.mod_self]
            omega
          · rw [Nat.mod_eq_of_lt (show p + 1 < 2 ^ (m + 1 + 1) by omega), Nat.mod_eq_of_lt (show p / 2 + 1 < 2 ^ (m + 1) by omega)]
            omega
        simp only [List.getElem?_cons_zero, hd]
        simp
      | succ j =>
        simp only [List.getElem?_cons_succ]
        rw [ih j (by omega)]
        omega
    · have es : stepR (n + 1) p = 0 := by
        show (if n ≠ 0 ∧ p % 2 = 1 then stepR n (p / 2) + 1 else 0) = _
        rw [if_neg c]
      rw [es]
      by_cases hn : n = 0
      · subst hn
        have : p = 0 ∨ p = 1 := by omega
        have hj0 : j = 0 := by omega
        subst hj0
        rcases this with rfl | rfl <;> simp [row]
      · have hev : p % 2 = 0 := by omega
        have hm : (p + 1) % 2 ^ (n + 1) = p + 1 := Nat.mod_eq_of_lt (by omega)
        have h2 : (p + 1) / 2 = p / 2 := by omega
        have er : row (n + 1) ((p + 1) % 2 ^ (n + 1)) = (!decide ((p + 1) % 2 = p / 2 % 2)) :: row n (p / 2) := by
          rw [hm]
          show (!decide ((p + 1) % 2 = (p + 1) / 2 % 2)) :: row n ((p + 1) / 2) = _
          rw [h2]
        have er0 : row (n + 1) p = (!decide (p % 2 = p / 2 % 2)) :: row n (p / 2) := rfl
        rw [er, er0]
        cases j with
        | zero =>
          simp only [List.getElem?_cons_zero]
          have : p / 2 % 2 = 0 ∨ p / 2 % 2 = 1 := by omega
          rcases this with q | q
          · rw [q, hev, show (p + 1) % 2 = 1 by omega]
            decide
          · rw [q, hev, show (p + 1) % 2 = 1 by omega]
            decide
        | succ j => simp
/-- the place of a row -/
def prow : List Bool → Nat
  | [] => 0
  | b :: r => 2 * prow r + if (!(b == decide (prow r % 2 = 1))) = true then 1 else 0
theorem prow_lt : ∀ r : List Bool, prow r < 2 ^ r.length
  | [] => by decide
  | b :: r => by
    have ih := prow_lt r
    have e := two_succ r.length
    show 2 * prow r + (if (!(b == decide (prow r % 2 = 1))) = true then 1 else 0) < 2 ^ (r.length + 1)
    split <;> omega
theorem prow_half (b : Bool) (r : List Bool) : prow (b :: r) / 2 = prow r := by
  show (2 * prow r + if (!(b == decide (prow r % 2 = 1))) = true then 1 else 0) / 2 = prow r
  split <;> omega
theorem prow_odd (b : Bool) (r : List Bool) : decide (prow (b :: r) % 2 = 1) = !(b == decide (prow r % 2 = 1)) := by
  have e : prow (b :: r) = 2 * prow r + if (!(b == decide (prow r % 2 = 1))) = true then 1 else 0 := rfl
  rw [e]
  cases h : (!(b == decide (prow r % 2 = 1)))
  · rw [if_neg Bool.false_ne_true]
    simp
  · rw [if_pos rfl]
    simp
theorem row_prow : ∀ r : List Bool, row r.length (prow r) = r
  | [] => rfl
  | b :: r => by
    show (!decide (prow (b :: r) % 2 = prow (b :: r) / 2 % 2)) :: row r.length (prow (b :: r) / 2) = b :: r
    rw [prow_half, row_prow r]
    congr 1
    have h := prow_odd b r
    have m1 : prow (b :: r) % 2 = 0 ∨ prow (b :: r) % 2 = 1 := by omega
    have m2 : prow r % 2 = 0 ∨ prow r % 2 = 1 := by omega
    rcases m1 with m1 | m1 <;> rcases m2 with m2 | m2 <;> rw [m1, m2] at h <;> rw [m1, m2] <;> cases b <;> simp_all
theorem prow_row : ∀ n p, p < 2 ^ n → prow (row n p) = p
  | 0, p, h => by
    have : p < 1 := h
    show 0 = p
    omega
  | n + 1, p, h => by
    have e := two_succ n
    have ih := prow_row n (p / 2) (by omega)
    show 2 * prow (row n (p / 2)) + (if (!((!decide (p % 2 = p / 2 % 2)) == decide (prow (row n (p / 2)) % 2 = 1))) = true then 1 else 0) = p
    rw [ih]
    have m1 : p % 2 = 0 ∨ p % 2 = 1 := by omega
    have m2 : p / 2 % 2 = 0 ∨ p / 2 % 2 = 1 := by omega
    rcases m1 with m1 | m1 <;> rcases m2 with m2 | m2 <;> rw [m1, m2] <;> simp <;> omega
/-- the list of all rows -/
def allRows : Nat → List (List Bool)
  | 0 => [[]]
  | n + 1 => (allRows n).map (fun r => r ++ [false]) ++ (allRows n).reverse.map (fun r => r ++ [true])
theorem allRows_len : ∀ n, (allRows n).length = 2 ^ n
  | 0 => rfl
  | n + 1 => by
    show ((allRows n).map (fun r => r ++ [false]) ++ (allRows n).reverse.map (fun r => r ++ [true])).length = 2 ^ (n + 1)
    rw [List.length_append, List.length_map, List.length_map, List.length_reverse, allRows_len n, two_succ]
    omega
theorem allRows_at : ∀ n p, p < 2 ^ n → (allRows n)[p]? = some (row n p)
  | 0, p, h => by
    have : p = 0 := by
      have : p < 1 := h
      omega
    subst this
    rfl
  | n + 1, p, h => by
    have e := two_succ n
    rw [row_built n p h]
    show ((allRows n).map (fun r => r ++ [false]) ++ (allRows n).reverse.map (fun r => r ++ [true]))[p]? = _
    by_cases c : p < 2 ^ n
    · rw [if_pos c, List.getElem?_append_left (by rw [List.length_map, allRows_len]; exact c), List.getElem?_map, allRows_at n p c]
      rfl
    · rw [if_neg c, List.getElem?_append_right (by rw [List.length_map, allRows_len]; omega), List.length_map, allRows_len, List.getElem?_map,
        List.getElem?_reverse (by rw [allRows_len]; omega), allRows_len, allRows_at n _ (by omega)]
      rw [show 2 ^ n - 1 - (p - 2 ^ n) = 2 ^ (n + 1) - 1 - p by omega]
      rfl
end One
/-! ### the mathematics of sets -/
namespace One
/-- in how many ways k are picked out of n -/
def C : Nat → Nat → Nat
  | _, 0 => 1
  | 0, _ + 1 => 0
  | n + 1, k + 1 => C n k + C n (k + 1)
theorem C_zero (n : Nat) : C n 0 = 1 := by cases n <;> rfl
theorem C_succ (n k : Nat) : C (n + 1) (k + 1) = C n k + C n (k + 1) := rfl
theorem C_gt : ∀ n k, n < k → C n k = 0
  | 0, 0, h => absurd h (by decide)
  | 0, k + 1, _ => rfl
  | n + 1, 0, h => absurd h (by omega)
  | n + 1, k + 1, h => by
    rw [C_succ, C_gt n k (by omega), C_gt n (k + 1) (by omega)]
theorem C_pos : ∀ n k, k ≤ n → 0 < C n k
  | n, 0, _ => by rw [C_zero]; decide
  | 0, k + 1, h => absurd h (by omega)
  | n + 1, k + 1, h => by
    have := C_pos n k (by omega)
    rw [C_succ]
    omega
theorem C_self : ∀ n, C n n = 1
  | 0 => rfl
  | n + 1 => by rw [C_succ, C_self n, C_gt n (n + 1) (by omega)]
theorem C_one : ∀ n, C n 1 = n
  | 0 => rfl
  | n + 1 => by
    rw [C_succ, C_zero, C_one n]
    omega
theorem C_le : ∀ n k, C n k ≤ 2 ^ n
  | n, 0 => by
    rw [C_zero]
    exact Nat.pow_pos (by decide)
  | 0, k + 1 => Nat.zero_le _
  | n + 1, k + 1 => by
    have h1 := C_le n k
    have h2 := C_le n (k + 1)
    have e : 2 ^ (n + 1) = 2 * 2 ^ n := by rw [Nat.pow_succ, Nat.mul_comm]
    rw [C_succ]
    omega
theorem C_mul : ∀ n k, C n (k + 1) * (k + 1) = C n k * (n - k)
  | 0, 0 => rfl
  | 0, k + 1 => by
    show 0 * _ = 0 * _
    rw [Nat.zero_mul, Nat.zero_mul]
  | n + 1, 0 => by
    rw [C_zero, C_one, Nat.sub_zero, Nat.one_mul, Nat.zero_add, Nat.mul_one]
  | n + 1, j + 1 => by
    by_cases h : j < n
    · have h1 := C_mul n j
      have h2 := C_mul n (j + 1)
      obtain ⟨d, hd⟩ : ∃ d, n = j + 1 + d := ⟨n - (j + 1), by omega⟩
      subst hd
      have e1 : j + 1 + d - j = d + 1 := by omega
      have e2 : j + 1 + d - (j + 1) = d := by omega
      have e3 : j + 1 + d + 1 - (j + 1) = d + 1 := by omega
      rw [e1] at h1
      rw [e2] at h2
      rw [C_succ, C_succ, e3]
      generalize C (j + 1 + d) j = x at h1 h2 ⊢
      generalize C (j + 1 + d) (j + 1) = y at h1 h2 ⊢
      generalize C (j + 1 + d) (j + 1 + 1) = z at h1 h2 ⊢
      rw [Nat.add_mul, Nat.add_mul, ← h1, h2]
      have : y * (j + 1 + 1) + y * d = y * (j + 1) + y * (d + 1) := by
        rw [← Nat.mul_add, ← Nat.mul_add]
        congr 1
        omega
      exact this
    · by_cases h2 : j = n
      · subst h2
        rw [C_self, C_gt _ _ (show j + 1 < j + 1 + 1 by omega)]
        simp
      · rw [C_gt _ _ (show n + 1 < j + 1 + 1 by omega), C_gt _ _ (show n + 1 < j + 1 by omega)]
        simp
/-- the next one of the product, by floor division -/
theorem C_next (n k : Nat) : C n k * (n - k) / (k + 1) = C n (k + 1) := by
  rw [← C_mul]
  exact Nat.mul_div_cancel _ (by omega)
/-- the set on a place -/
def setAt : Nat → Nat → Nat → List Nat
  | _, 0, _ => []
  | 0, _ + 1, _ => []
  | n + 1, k + 1, p => if p < C n (k + 1) then setAt n (k + 1) p else setAt n k (C n k - 1 - (p - C n (k + 1))) ++ [n]
theorem setAt_zero (n p : Nat) : setAt n 0 p = [] := by cases n <;> rfl
theorem setAt_lo {n k p : Nat} (h : p < C n (k + 1)) : setAt (n + 1) (k + 1) p = setAt n (k + 1) p := by
  show (if p < C n (k + 1) then _ else _) = _
  rw [if_pos h]
theorem setAt_hi {n k p : Nat} (h : ¬ p < C n (k + 1)) : setAt (n + 1) (k + 1) p = setAt n k (C n k - 1 - (p - C n (k + 1))) ++ [n] := by
  show (if p < C n (k + 1) then _ else _) = _
  rw [if_neg h]
theorem setAt_len : ∀ n k p, k ≤ n → p < C n k → (setAt n k p).length = k
  | n, 0, p, _, _ => by rw [setAt_zero]; rfl
  | 0, k + 1, p, h, _ => absurd h (by omega)
  | n + 1, k + 1, p, h, hp => by
    rw [C_succ] at hp
    by_cases c : p < C n (k + 1)
    · rw [setAt_lo c]
      by_cases d : k + 1 ≤ n
      · exact setAt_len n (k + 1) p d c
      · rw [C_gt _ _ (by omega)] at c
        exact absurd c (by omega)
    · rw [setAt_hi c, List.length_append, setAt_len n k _ (by omega) (by omega)]
      rfl
/-- a rising list -/
def Up : List Nat → Prop := List.Pairwise (· < ·)
theorem up_snoc {l : List Nat} {n : Nat} (h : Up l) (hl : ∀ x ∈ l, x < n) : Up (l ++ [n]) := by
  refine List.pairwise_append.mpr ⟨h, List.pairwise_singleton _ _, fun a ha b hb => ?_⟩
  rw [List.mem_singleton] at hb
  subst hb
  exact hl a ha
theorem setAt_up : ∀ n k p, k ≤ n → p < C n k → Up (setAt n k p) ∧ ∀ x ∈ setAt n k p, x < n
  | n, 0, p, _, _ => by
    rw [setAt_zero]
    exact ⟨List.Pairwise.nil, fun x h => by simp at h⟩
  | 0, k + 1, p, h, _ => absurd h (by omega)
  | n + 1, k + 1, p, h, hp => by
    rw [C_succ] at hp
    by_cases c : p < C n (k + 1)
    · rw [setAt_lo c]
      by_cases d : k + 1 ≤ n
      · obtain ⟨h1, h2⟩ := setAt_up n (k + 1) p d c
        exact ⟨h1, fun x hx => Nat.lt_succ_of_lt (h2 x hx)⟩
      · rw [C_gt _ _ (by omega)] at c
        exact absurd c (by omega)
    · obtain ⟨h1, h2⟩ := setAt_up n k (C n k - 1 - (p - C n (k + 1))) (by omega) (by omega)
      rw [setAt_hi c]
      refine ⟨up_snoc h1 h2, fun x hx => ?_⟩
      rcases List.mem_append.mp hx with q | q
      · exact Nat.lt_succ_of_lt (h2 x q)
      · rw [List.mem_singleton] at q
        omega
/-- the first one -/
theorem setAt_first : ∀ n k, k ≤ n → setAt n k 0 = List.range k
  | n, 0, _ => by rw [setAt_zero]; rfl
  | 0, k + 1, h => absurd h (by omega)
  | n + 1, k + 1, h => by
    by_cases d : k + 1 ≤ n
    · rw [setAt_lo (C_pos n (k + 1) d)]
      exact setAt_first n (k + 1) d
    · have e : k = n := by omega
      subst e
      have z : C k (k + 1) = 0 := C_gt _ _ (by omega)
      rw [setAt_hi (by rw [z]; omega), z, C_self]
      show setAt k k 0 ++ [k] = List.range (k + 1)
      rw [setAt_first k k (Nat.le_refl _), List.range_succ]
/-- the last one -/
theorem setAt_last (m j : Nat) (h : j ≤ m) : setAt (m + 1) (j + 1) (C (m + 1) (j + 1) - 1) = List.range j ++ [m] := by
  have p := C_pos m j h
  rw [setAt_hi (by rw [C_succ]; omega), C_succ, show C m j - 1 - (C m j + C m (j + 1) - 1 - C m (j + 1)) = 0 by omega, setAt_first m j h]
/-- the place of a set: the members from the last one -/
def psr : List Nat → Nat
  | [] => 0
  | t :: r => C t (r.length + 1) + C t r.length - 1 - psr r
def pset (l : List Nat) : Nat := psr l.reverse
theorem pset_nil : pset [] = 0 := rfl
theorem pset_snoc (l : List Nat) (t : Nat) : pset (l ++ [t]) = C t (l.length + 1) + C t l.length - 1 - pset l := by
  unfold pset
  rw [List.reverse_append]
  show C t (l.reverse.length + 1) + C t l.reverse.length - 1 - psr l.reverse = _
  rw [List.length_reverse]
theorem up_last {l : List Nat} {n : Nat} (h : Up l) (hl : ∀ x ∈ l, x < n + 1) : (∀ x ∈ l, x < n) ∨ ∃ r, l = r ++ [n] ∧ Up r ∧ ∀ x ∈ r, x < n := by
  rcases List.eq_nil_or_concat l with e | ⟨r, t, e⟩
  · subst e
    exact .inl fun x hx => by simp at hx
  · rw [List.concat_eq_append] at e
    subst e
    obtain ⟨h1, _, h3⟩ := List.pairwise_append.mp h
    have ht := hl t (by simp)
    have hr : ∀ x ∈ r, x < t := fun x hx => h3 x hx t (by simp)
    by_cases c : t = n
    · subst c
      exact .inr ⟨r, rfl, h1, hr⟩
    · refine .inl fun x hx => ?_
      rcases List.mem_append.mp hx with q | q
      · have := hr x q
        omega
      · rw [List.mem_singleton] at q
        omega
theorem pset_ok : ∀ n (l : List Nat), Up l → (∀ x ∈ l, x < n) → pset l < C n l.length ∧ setAt n l.length (pset l) = l
  | 0, l, _, hl => by
    cases l with
    | nil => exact ⟨by decide, rfl⟩
    | cons a r => exact absurd (hl a (by simp)) (by omega)
  | n + 1, l, h, hl => by
    rcases up_last h hl with q | ⟨r, e, hr, hrn⟩
    · obtain ⟨h1, h2⟩ := pset_ok n l h q
      cases hk : l.length with
      | zero =>
        have : l = [] := List.eq_nil_of_length_eq_zero hk
        subst this
        exact ⟨by rw [C_zero]; decide, rfl⟩
      | succ k =>
        rw [hk] at h1 h2
        rw [C_succ]
        exact ⟨by omega, by rw [setAt_lo h1, h2]⟩
    · subst e
      obtain ⟨h1, h2⟩ := pset_ok n r hr hrn
      have e1 : (r ++ [n]).length = r.length + 1 := by rw [List.length_append]; rfl
      rw [e1, pset_snoc, C_succ]
      refine ⟨by omega, ?_⟩
      rw [setAt_hi (by omega), show C n r.length - 1 - (C n (r.length + 1) + C n r.length - 1 - pset r - C n (r.length + 1)) = pset r by omega, h2]
theorem pset_setAt : ∀ n k p, k ≤ n → p < C n k → pset (setAt n k p) = p
  | n, 0, p, _, hp => by
    rw [C_zero] at hp
    rw [setAt_zero, pset_nil]
    omega
  | 0, k + 1, p, h, _ => absurd h (by omega)
  | n + 1, k + 1, p, h, hp => by
    rw [C_succ] at hp
    by_cases c : p < C n (k + 1)
    · rw [setAt_lo c]
      by_cases d : k + 1 ≤ n
      · exact pset_setAt n (k + 1) p d c
      · rw [C_gt _ _ (by omega)] at c
        exact absurd c (by omega)
    · rw [setAt_hi c, pset_snoc, setAt_len n k _ (by omega) (by omega), pset_setAt n k _ (by omega) (by omega)]
      omega
/-- one goes, another comes -/
def Near (A B : List Nat) (g c : Nat) : Prop := A.filter (fun x => !B.contains x) = [g] ∧ B.filter (fun x => !A.contains x) = [c]
theorem Near.symm {A B : List Nat} {g c : Nat} (h : Near A B g c) : Near B A c g := ⟨h.2, h.1⟩
theorem near_snoc {A B : List Nat} {g c n : Nat} (h : Near A B g c) (hA : ∀ x ∈ A, x < n) (hB : ∀ x ∈ B, x < n) : Near (A ++ [n]) (B ++ [n]) g c := by
  have key : ∀ (A B : List Nat) (g : Nat), (∀ x ∈ A, x < n) → A.filter (fun x => !B.contains x) = [g] → (A ++ [n]).filter (fun x => !(B ++ [n]).contains x) = [g] := by
    intro A B g hA h
    have e1 : A.filter (fun x => !(B ++ [n]).contains x) = A.filter (fun x => !B.contains x) := by
      apply List.filter_congr
      intro x hx
      have := hA x hx
      have hne : x ≠ n := by omega
      simp [hne]
    rw [List.filter_append, e1, h]
    simp
  exact ⟨key A B g hA h.1, key B A c hB h.2⟩
theorem range_filter {j : Nat} {p : Nat → Bool} (h : ∀ x, x < j → p x = false) : (List.range j).filter p = [] := by
  rw [List.filter_eq_nil_iff]
  intro x hx
  rw [List.mem_range] at hx
  rw [h x hx]
  decide
theorem near_ends {m j : Nat} (h : j + 1 ≤ m) : Near (List.range j ++ [m]) (List.range (j + 1)) m j := by
  constructor
  · rw [List.filter_append, range_filter (fun x hx => by simp; omega)]
    simp
    omega
  · rw [List.range_succ, List.filter_append, range_filter (fun x hx => by simp; omega)]
    simp
    omega
theorem near_mid {m j : Nat} (h : j + 1 ≤ m) : Near (List.range (j + 1) ++ [m]) (List.range j ++ [m] ++ [m + 1]) j (m + 1) := by
  constructor
  · rw [List.range_succ, List.filter_append, List.filter_append, range_filter (fun x hx => by simp; omega)]
    simp
    omega
  · rw [List.filter_append, List.filter_append, range_filter (fun x hx => by simp; omega)]
    simp
    omega
theorem near_one (m : Nat) : Near [m] [m + 1] m (m + 1) := by
  constructor <;> simp
theorem set_turn : ∀ n k p, 0 < k → k < n → p + 1 < C n k → ∃ g c, Near (setAt n k p) (setAt n k (p + 1)) g c
  | 0, _, _, _, h, _ => absurd h (by omega)
  | _, 0, _, h, _, _ => absurd h (by omega)
  | n + 1, k + 1, p, _, hk, hp => by
    rw [C_succ] at hp
    by_cases c1 : p + 1 < C n (k + 1)
    · rw [setAt_lo c1, setAt_lo (show p < C n (k + 1) by omega)]
      by_cases d : k + 1 < n
      · exact set_turn n (k + 1) p (by omega) d c1
      · have e : k + 1 = n := by omega
        rw [e, C_self] at c1
        exact absurd c1 (by omega)
    · by_cases c2 : p + 1 = C n (k + 1)
      · obtain ⟨m, rfl⟩ : ∃ m, n = m + 1 := ⟨n - 1, by omega⟩
        have e1 : p = C (m + 1) (k + 1) - 1 := by omega
        rw [setAt_lo (show p < C (m + 1) (k + 1) by omega), setAt_hi (show ¬ p + 1 < C (m + 1) (k + 1) by omega), show C (m + 1) k - 1 - (p + 1 - C (m + 1) (k + 1)) = C (m + 1) k - 1 by omega, e1, setAt_last m k (by omega)]
        cases k with
        | zero =>
          rw [setAt_zero]
          exact ⟨m, m + 1, near_one m⟩
        | succ j =>
          rw [setAt_last m j (by omega)]
          exact ⟨j, m + 1, near_mid (by omega)⟩
      · have hk0 : 0 < k := by
          cases k with
          | zero =>
            rw [C_zero] at hp
            omega
          | succ k => omega
        rw [setAt_hi (show ¬ p < C n (k + 1) by omega), setAt_hi (show ¬ p + 1 < C n (k + 1) by omega)]
        obtain ⟨q, hq⟩ : ∃ q, q = C n k - 1 - (p + 1 - C n (k + 1)) := ⟨_, rfl⟩
        have e2 : C n k - 1 - (p - C n (k + 1)) = q + 1 := by omega
        rw [← hq, e2]
        obtain ⟨g, c, nr⟩ := set_turn n k q hk0 (by omega) (by omega)
        exact ⟨c, g, near_snoc nr.symm (setAt_up n k (q + 1) (by omega) (by omega)).2 (setAt_up n k q (by omega) (by omega)).2⟩
/-- round too -/
theorem set_round (n k p : Nat) (h0 : 0 < k) (hk : k < n) (hp : p < C n k) : ∃ g c, Near (setAt n k p) (setAt n k ((p + 1) % C n k)) g c := by
  by_cases h : p + 1 < C n k
  · rw [Nat.mod_eq_of_lt h]
    exact set_turn n k p h0 hk h
  · have e : p + 1 = C n k := by omega
    rw [e, Nat.mod_self, show p = C n k - 1 by omega]
    obtain ⟨m, rfl⟩ : ∃ m, n = m + 1 := ⟨n - 1, by omega⟩
    obtain ⟨j, rfl⟩ : ∃ j, k = j + 1 := ⟨k - 1, by omega⟩
    rw [setAt_last m j (by omega), setAt_first _ _ (by omega)]
    exact ⟨m, j, near_ends (by omega)⟩
theorem C_big (n k : Nat) (h0 : 0 < k) (hk : k < n) : 1 < C n k := by
  obtain ⟨m, rfl⟩ : ∃ m, n = m + 1 := ⟨n - 1, by omega⟩
  obtain ⟨j, rfl⟩ : ∃ j, k = j + 1 := ⟨k - 1, by omega⟩
  have h1 := C_pos m j (by omega)
  have h2 := C_pos m (j + 1) (by omega)
  rw [C_succ]
  omega
theorem up_drop {l : List Nat} {i x : Nat} (h : Up l) (e : l[i]? = some x) : ∀ y ∈ l.drop (i + 1), x < y := by
  obtain ⟨hi, e2⟩ := List.getElem?_eq_some_iff.mp e
  have d := List.drop_eq_getElem_cons hi
  have hd : Up (l.drop i) := List.Pairwise.sublist (List.drop_sublist i l) h
  rw [d, e2] at hd
  exact (List.pairwise_cons.mp hd).1
theorem up_take {l : List Nat} {i x : Nat} (h : Up l) (e : l[i]? = some x) : ∀ y ∈ l.take i, y < x := by
  obtain ⟨hi, e2⟩ := List.getElem?_eq_some_iff.mp e
  have ht : l.take (i + 1) = l.take i ++ [x] := by rw [List.take_add_one, e]; rfl
  have hd : Up (l.take (i + 1)) := List.Pairwise.sublist (List.take_sublist _ l) h
  rw [ht] at hd
  exact fun y hy => (List.pairwise_append.mp hd).2.2 y hy x (by simp)
/-- a rising list of numbers below n has at most n of them -/
theorem up_le : ∀ {l : List Nat} (n : Nat), Up l → (∀ x ∈ l, x < n) → l.length ≤ n
  | l, 0, _, hl => by
    cases l with
    | nil => exact Nat.le_refl _
    | cons a r => exact absurd (hl a (by simp)) (by omega)
  | l, n + 1, h, hl => by
    rcases up_last h hl with q | ⟨r, e, hr, hrn⟩
    · exact Nat.le_succ_of_le (up_le n h q)
    · rw [e, List.length_append]
      exact Nat.succ_le_succ (up_le n hr hrn)
theorem up_at {l : List Nat} {i x : Nat} (h : Up l) (e : l[i]? = some x) : i ≤ x := by
  have h1 := up_le x (List.Pairwise.sublist (List.take_sublist i l) h) (up_take h e)
  have h2 := (List.getElem?_eq_some_iff.mp e).1
  rw [List.length_take] at h1
  omega
theorem up_nodup {l : List Nat} (h : Up l) : l.Nodup := h.imp fun h => Nat.ne_of_lt h
/-- two rising lists of the same members are one -/
theorem up_ext : ∀ {A B : List Nat}, Up A → Up B → (∀ x, x ∈ A ↔ x ∈ B) → A = B
  | [], [], _, _, _ => rfl
  | [], b :: B, _, _, h => absurd ((h b).mpr (by simp)) (by simp)
  | a :: A, [], _, _, h => absurd ((h a).mp (by simp)) (by simp)
  | a :: A, b :: B, hA, hB, h => by
    obtain ⟨a1, a2⟩ := List.pairwise_cons.mp hA
    obtain ⟨b1, b2⟩ := List.pairwise_cons.mp hB
    have e : a = b := by
      have h1 : a ∈ b :: B := (h a).mp (by simp)
      have h2 : b ∈ a :: A := (h b).mpr (by simp)
      rcases List.mem_cons.mp h1 with q | q
      · exact q
      · rcases List.mem_cons.mp h2 with r | r
        · exact r.symm
        · have := a1 b r
          have := b1 a q
          omega
    subst e
    congr 1
    refine up_ext a2 b2 fun x => ?_
    constructor
    · intro hx
      have := a1 x hx
      rcases List.mem_cons.mp ((h x).mp (List.mem_cons_of_mem _ hx)) with q | q
      · omega
      · exact q
    · intro hx
      have := b1 x hx
      rcases List.mem_cons.mp ((h x).mpr (List.mem_cons_of_mem _ hx)) with q | q
      · omega
      · exact q
/-- what stays, with what comes, sorted, is the next one -/
theorem near_sort {A B : List Nat} {g c : Nat} (hA : Up A) (hB : Up B) (h : Near A B g c) {S : List Int} (pm : S.Perm ((A.filter (fun x => !(x == g)) ++ [c]).map fun (x : Nat) => (x : Int))) (st : S.Pairwise (· ≤ ·)) : S = B.map fun (x : Nat) => (x : Int) := by
  have hgA : ∀ x, (x ∈ A ∧ x ∉ B) ↔ x = g := fun x => by
    have e : x ∈ A.filter (fun x => !B.contains x) ↔ x ∈ [g] := by rw [h.1]
    simpa using e
  have hcB : ∀ x, (x ∈ B ∧ x ∉ A) ↔ x = c := fun x => by
    have e : x ∈ B.filter (fun x => !A.contains x) ↔ x ∈ [c] := by rw [h.2]
    simpa using e
  have c1 := (hcB c).mpr rfl
  have g1 := (hgA g).mpr rfl
  -- S's members are whole numbers from nought
  obtain ⟨T, hT⟩ : ∃ T : List Nat, S = T.map fun (x : Nat) => (x : Int) := by
    refine ⟨S.map Int.toNat, ?_⟩
    rw [List.map_map]
    refine (List.map_id _).symm.trans (List.map_congr_left fun x hx => ?_)
    have := pm.mem_iff.mp hx
    rw [List.mem_map] at this
    obtain ⟨y, _, rfl⟩ := this
    rfl
  subst hT
  congr 1
  have pmN : T.Perm (A.filter (fun x => !(x == g)) ++ [c]) := by
    have := pm.map Int.toNat
    rw [List.map_map, List.map_map] at this
    have idm : ∀ l : List Nat, l.map (Int.toNat ∘ fun (x : Nat) => (x : Int)) = l := fun l => by
      refine (List.map_congr_left (g := id) fun x _ => rfl).trans (List.map_id l)
    rw [idm, idm] at this
    exact this
  have nd : (A.filter (fun x => !(x == g)) ++ [c]).Nodup := by
    refine List.nodup_append.mpr ⟨(up_nodup hA).filter _, by simp, fun a ha b hb => ?_⟩
    rw [List.mem_singleton] at hb
    subst hb
    intro e
    subst e
    exact c1.2 (List.mem_filter.mp ha).1
  have ndT : T.Nodup := pmN.nodup_iff.mpr nd
  have upT : Up T := by
    have le : T.Pairwise (· ≤ ·) := by
      have := List.pairwise_map.mp st
      exact this.imp fun h => by omega
    exact (List.pairwise_and_iff.mpr ⟨le, ndT⟩).imp fun ⟨h1, h2⟩ => by omega
  refine up_ext upT hB fun x => ?_
  rw [pmN.mem_iff, List.mem_append, List.mem_filter, List.mem_singleton]
  constructor
  · rintro (⟨hx, hg⟩ | e)
    · by_cases hb : x ∈ B
      · exact hb
      · have := (hgA x).mp ⟨hx, hb⟩
        subst this
        simp at hg
    · subst e
      exact c1.1
  · intro hx
    by_cases ha : x ∈ A
    · refine .inl ⟨ha, ?_⟩
      have : x ≠ g := fun e => by
        subst e
        exact g1.2 hx
      simpa using this
    · exact .inr ((hcB x).mp ⟨hx, ha⟩)
theorem near_mem {A B : List Nat} {g c : Nat} (h : Near A B g c) : g ∈ A ∧ g ∉ B ∧ c ∈ B ∧ c ∉ A := by
  have e1 : g ∈ A.filter (fun x => !B.contains x) := by rw [h.1]; simp
  have e2 : c ∈ B.filter (fun x => !A.contains x) := by rw [h.2]; simp
  rw [List.mem_filter] at e1 e2
  exact ⟨e1.1, by simpa using e1.2, e2.1, by simpa using e2.2⟩
end One
/-! ### the mathematics of orders -/
namespace One
def fact : Nat → Nat
  | 0 => 1
  | n + 1 => fact n * (n + 1)
theorem fact_pos : ∀ n, 0 < fact n
  | 0 => by decide
  | n + 1 => Nat.mul_pos (fact_pos n) (by omega)
theorem fact_le : ∀ {m n : Nat}, m ≤ n → fact m ≤ fact n
  | m, 0, h => by
    have : m = 0 := by omega
    subst this
    exact Nat.le_refl _
  | m, n + 1, h => by
    by_cases c : m = n + 1
    · subst c
      exact Nat.le_refl _
    · have := fact_le (show m ≤ n by omega)
      have h2 : fact n * 1 ≤ fact n * (n + 1) := Nat.mul_le_mul_left _ (by omega)
      rw [Nat.mul_one] at h2
      exact Nat.le_trans this h2
/-- x put in behind i of l -/
def ins (x i : Nat) (l : List Nat) : List Nat := l.take i ++ [x] ++ l.drop i
theorem ins_len {x i : Nat} {l : List Nat} (h : i ≤ l.length) : (ins x i l).length = l.length + 1 := by
  unfold ins
  rw [List.length_append, List.length_append, List.length_take, List.length_drop]
  show min i l.length + 1 + (l.length - i) = l.length + 1
  omega
/-- where the thing n goes: t, from the end at an even elder place -/
def slot (n e t : Nat) : Nat := if e % 2 = 0 then n - t else t
/-- the order on a place -/
def ordAt : Nat → Nat → List Nat
  | 0, _ => []
  | n + 1, p => ins n (slot n (p / (n + 1)) (p % (n + 1))) (ordAt n (p / (n + 1)))
theorem slot_le {n e t : Nat} (h : t ≤ n) : slot n e t ≤ n := by
  unfold slot
  split <;> omega
theorem ordAt_len : ∀ n p, (ordAt n p).length = n
  | 0, _ => rfl
  | n + 1, p => by
    have h := ordAt_len n (p / (n + 1))
    have ht : p % (n + 1) ≤ n := by
      have := Nat.mod_lt p (show n + 1 > 0 by omega)
      omega
    show (ins n (slot n (p / (n + 1)) (p % (n + 1))) (ordAt n (p / (n + 1)))).length = n + 1
    rw [ins_len (by rw [h]; exact slot_le ht), h]
theorem ins_mem {x i y : Nat} {l : List Nat} : y ∈ ins x i l ↔ y = x ∨ y ∈ l := by
  unfold ins
  rw [List.mem_append, List.mem_append, List.mem_singleton]
  constructor
  · rintro ((h | h) | h)
    · exact .inr (List.mem_of_mem_take h)
    · exact .inl h
    · exact .inr (List.mem_of_mem_drop h)
  · rintro (h | h)
    · exact .inl (.inr h)
    · rw [← List.take_append_drop i l] at h
      rcases List.mem_append.mp h with h | h
      · exact .inl (.inl h)
      · exact .inr h
theorem ordAt_mem : ∀ n p y, y ∈ ordAt n p ↔ y < n
  | 0, p, y => by
    constructor
    · intro h
      cases h
    · intro h
      omega
  | n + 1, p, y => by
    show y ∈ ins _ _ _ ↔ _
    rw [ins_mem, ordAt_mem n _ y]
    omega
theorem ins_perm (x i : Nat) (l : List Nat) : (ins x i l).Perm (x :: l) := by
  unfold ins
  rw [List.append_assoc]
  have h : (l.take i ++ ([x] ++ l.drop i)).Perm (x :: (l.take i ++ l.drop i)) := List.perm_middle
  rw [List.take_append_drop] at h
  exact h
theorem ordAt_perm : ∀ n p, (ordAt n p).Perm (List.range n)
  | 0, _ => List.Perm.refl _
  | n + 1, p => by
    have h1 : (ordAt (n + 1) p).Perm (n :: ordAt n (p / (n + 1))) := ins_perm _ _ _
    have h2 := h1.trans ((ordAt_perm n (p / (n + 1))).cons n)
    rw [List.range_succ]
    exact h2.trans (List.perm_append_singleton n (List.range n)).symm
theorem ordAt_nodup (n p : Nat) : (ordAt n p).Nodup := (ordAt_perm n p).nodup_iff.mpr List.nodup_range
/-! the step: two neighbours behind s change places -/
def Swap (A B : List Nat) (s : Nat) : Prop := ∃ X u v Y, A = X ++ u :: v :: Y ∧ B = X ++ v :: u :: Y ∧ X.length = s ∧ u ≠ v
theorem Swap.symm {A B : List Nat} {s : Nat} (h : Swap A B s) : Swap B A s := by
  obtain ⟨X, u, v, Y, h1, h2, h3, h4⟩ := h
  exact ⟨X, v, u, Y, h2, h1, h3, h4.symm⟩
theorem swap_front {A B : List Nat} {s : Nat} (n : Nat) (h : Swap A B s) : Swap (n :: A) (n :: B) (s + 1) := by
  obtain ⟨X, u, v, Y, h1, h2, h3, h4⟩ := h
  exact ⟨n :: X, u, v, Y, by rw [h1]; rfl, by rw [h2]; rfl, by rw [List.length_cons, h3], h4⟩
theorem swap_back {A B : List Nat} {s : Nat} (n : Nat) (h : Swap A B s) : Swap (A ++ [n]) (B ++ [n]) s := by
  obtain ⟨X, u, v, Y, h1, h2, h3, h4⟩ := h
  exact ⟨X, u, v, Y ++ [n], by rw [h1, List.append_assoc]; rfl, by rw [h2, List.append_assoc]; rfl, h3, h4⟩
theorem ins_zero (x : Nat) (l : List Nat) : ins x 0 l = x :: l := rfl
theorem ins_end {x n : Nat} {l : List Nat} (h : l.length = n) : ins x n l = l ++ [x] := by
  unfold ins
  rw [List.take_of_length_le (by omega), List.drop_of_length_le (by omega), List.append_nil]
theorem ins_swap {x i : Nat} {l : List Nat} (h : i < l.length) (hx : x ∉ l) : Swap (ins x i l) (ins x (i + 1) l) i := by
  have d := List.drop_eq_getElem_cons h
  have t : l.take (i + 1) = l.take i ++ [l[i]] := by
    rw [List.take_add_one, List.getElem?_eq_getElem h]
    rfl
  refine ⟨l.take i, x, l[i], l.drop (i + 1), ?_, ?_, by rw [List.length_take]; omega, fun e => hx (by rw [e]; exact List.getElem_mem h)⟩
  · unfold ins
    rw [d, List.append_assoc]
    rfl
  · unfold ins
    rw [t, List.append_assoc, List.append_assoc]
    rfl
theorem fact_even : ∀ n, 2 ≤ n → fact n % 2 = 0
  | 0, h => absurd h (by decide)
  | 1, h => absurd h (by decide)
  | 2, _ => rfl
  | n + 3, _ => by
    have ih := fact_even (n + 2) (by omega)
    show fact (n + 2) * (n + 2 + 1) % 2 = 0
    rw [Nat.mul_mod, ih, Nat.zero_mul]
/-- the next place, round too, by elder and turn -/
theorem next_in {n p : Nat} (hp : p < fact (n + 1)) (ht : p % (n + 1) < n) : (p + 1) % fact (n + 1) / (n + 1) = p / (n + 1) ∧ (p + 1) % fact (n + 1) % (n + 1) = p % (n + 1) + 1 := by
  have hd := Nat.div_add_mod p (n + 1)
  have hf : fact (n + 1) = fact n * (n + 1) := rfl
  have hlt : p + 1 < fact (n + 1) := by
    have he : p / (n + 1) < fact n := Nat.div_lt_of_lt_mul (by rw [Nat.mul_comm, ← hf]; exact hp)
    have h2 : (n + 1) * (p / (n + 1) + 1) ≤ (n + 1) * fact n := Nat.mul_le_mul_left _ he
    rw [Nat.mul_add, Nat.mul_one, Nat.mul_comm (n + 1) (fact n), ← hf] at h2
    omega
  rw [Nat.mod_eq_of_lt hlt]
  have e : p + 1 = (p % (n + 1) + 1) + (n + 1) * (p / (n + 1)) := by omega
  constructor
  · rw [e, Nat.add_mul_div_left _ _ (show 0 < n + 1 by omega), Nat.div_eq_of_lt (show p % (n + 1) + 1 < n + 1 by omega), Nat.zero_add]
  · rw [e, Nat.add_mul_mod_self_left, Nat.mod_eq_of_lt (show p % (n + 1) + 1 < n + 1 by omega)]
theorem next_out {n p : Nat} (hp : p < fact (n + 1)) (ht : p % (n + 1) = n) : (p + 1) % fact (n + 1) / (n + 1) = (p / (n + 1) + 1) % fact n ∧ (p + 1) % fact (n + 1) % (n + 1) = 0 := by
  have hd := Nat.div_add_mod p (n + 1)
  have hf : fact (n + 1) = fact n * (n + 1) := rfl
  have e : p + 1 = (n + 1) * (p / (n + 1) + 1) := by
    rw [Nat.mul_add, Nat.mul_one]
    omega
  rw [e, hf, Nat.mul_comm (fact n) (n + 1), Nat.mul_mod_mul_left]
  exact ⟨Nat.mul_div_cancel_left _ (by omega), Nat.mul_mod_right _ _⟩
theorem ordAt_succ (n p : Nat) : ordAt (n + 1) p = ins n (slot n (p / (n + 1)) (p % (n + 1))) (ordAt n (p / (n + 1))) := rfl
theorem ord_turn : ∀ n p, 2 ≤ n → p < fact n → ∃ s, Swap (ordAt n p) (ordAt n ((p + 1) % fact n)) s
  | 0, _, h, _ => absurd h (by decide)
  | n + 1, p, h, hp => by
    have hm : p % (n + 1) < n + 1 := Nat.mod_lt _ (by omega)
    have hl := ordAt_len n (p / (n + 1))
    have hx : n ∉ ordAt n (p / (n + 1)) := fun m => by
      have := (ordAt_mem n _ n).mp m
      omega
    by_cases c : p % (n + 1) < n
    · obtain ⟨e1, e2⟩ := next_in hp c
      rw [ordAt_succ, ordAt_succ n ((p + 1) % fact (n + 1)), e1, e2]
      by_cases ev : p / (n + 1) % 2 = 0
      · have s1 : slot n (p / (n + 1)) (p % (n + 1)) = (n - (p % (n + 1) + 1)) + 1 := by
          unfold slot
          rw [if_pos ev]
          omega
        have s2 : slot n (p / (n + 1)) (p % (n + 1) + 1) = n - (p % (n + 1) + 1) := by
          unfold slot
          rw [if_pos ev]
        rw [s1, s2]
        exact ⟨_, (ins_swap (by rw [hl]; omega) hx).symm⟩
      · have s1 : slot n (p / (n + 1)) (p % (n + 1)) = p % (n + 1) := by
          unfold slot
          rw [if_neg ev]
        have s2 : slot n (p / (n + 1)) (p % (n + 1) + 1) = p % (n + 1) + 1 := by
          unfold slot
          rw [if_neg ev]
        rw [s1, s2]
        exact ⟨_, ins_swap (by rw [hl]; exact c) hx⟩
    · have ht : p % (n + 1) = n := by omega
      obtain ⟨e1, e2⟩ := next_out hp ht
      have he : p / (n + 1) < fact n := Nat.div_lt_of_lt_mul (by rw [Nat.mul_comm]; exact hp)
      rw [ordAt_succ, ordAt_succ n ((p + 1) % fact (n + 1)), e1, e2, ht]
      by_cases n2 : 2 ≤ n
      · obtain ⟨s, sw⟩ := ord_turn n (p / (n + 1)) n2 he
        have hl2 := ordAt_len n ((p / (n + 1) + 1) % fact n)
        have par : (p / (n + 1) + 1) % fact n % 2 = (p / (n + 1) + 1) % 2 := by
          have fe := fact_even n n2
          by_cases w : p / (n + 1) + 1 = fact n
          · rw [w, Nat.mod_self, fe]
          · rw [Nat.mod_eq_of_lt (show p / (n + 1) + 1 < fact n by omega)]
        by_cases ev : p / (n + 1) % 2 = 0
        · have s1 : slot n (p / (n + 1)) n = 0 := by
            unfold slot
            rw [if_pos ev, Nat.sub_self]
          have s2 : slot n ((p / (n + 1) + 1) % fact n) 0 = 0 := by
            unfold slot
            rw [if_neg (by rw [par]; omega)]
          rw [s1, s2, ins_zero, ins_zero]
          exact ⟨_, swap_front n sw⟩
        · have s1 : slot n (p / (n + 1)) n = n := by
            unfold slot
            rw [if_neg ev]
          have s2 : slot n ((p / (n + 1) + 1) % fact n) 0 = n := by
            unfold slot
            rw [if_pos (by rw [par]; omega), Nat.sub_zero]
          rw [s1, s2, ins_end hl, ins_end hl2]
          exact ⟨_, swap_back n sw⟩
      · have n1 : n = 1 := by omega
        subst n1
        have he0 : p / (1 + 1) = 0 := by
          have : p < 2 := hp
          omega
        rw [he0]
        exact ⟨0, [], 1, 0, [], rfl, rfl, rfl, by decide⟩
/-! the place of an order -/
/-- how many below m stand ahead of it -/
def ahead (o : List Nat) (m : Nat) : Nat := ((o.take (o.idxOf m)).filter (fun x => decide (x < m))).length
def pord (o : List Nat) : Nat → Nat
  | 0 => 0
  | m + 1 => pord o m * (m + 1) + slot m (pord o m) (ahead o m)
theorem slot_slot {n e t : Nat} (h : t ≤ n) : slot n e (slot n e t) = t := by
  unfold slot
  split <;> omega
theorem split_at {o : List Nat} {m : Nat} (h : m ∈ o) (nd : o.Nodup) : ∃ A B, o = A ++ m :: B ∧ o.idxOf m = A.length ∧ m ∉ A ∧ m ∉ B := by
  obtain ⟨A, B, e⟩ := List.append_of_mem h
  subst e
  have h1 := List.nodup_append.mp nd
  have hA : m ∉ A := fun z => h1.2.2 m z m (by simp) rfl
  have hB : m ∉ B := (List.nodup_cons.mp h1.2.1).1
  refine ⟨A, B, rfl, ?_, hA, hB⟩
  rw [List.idxOf_append, if_neg hA, List.idxOf_cons_self, Nat.zero_add]
/-- those below m + 1: those below m with m put in -/
theorem low_succ {o : List Nat} {m : Nat} (h : m ∈ o) (nd : o.Nodup) : o.filter (fun x => decide (x < m + 1)) = ins m (ahead o m) (o.filter (fun x => decide (x < m))) := by
  obtain ⟨A, B, e, hi, hA, hB⟩ := split_at h nd
  have low : ∀ L : List Nat, m ∉ L → L.filter (fun x => decide (x < m + 1)) = L.filter (fun x => decide (x < m)) := fun L hL => by
    apply List.filter_congr
    intro x hx
    have : x ≠ m := fun z => hL (by rw [← z]; exact hx)
    rw [decide_eq_decide]
    omega
  have ha : ahead o m = (A.filter (fun x => decide (x < m))).length := by
    unfold ahead
    rw [hi, e, List.take_left']
    rfl
  rw [ha, e, List.filter_append, List.filter_append, List.filter_cons, List.filter_cons, if_pos (by simp), if_neg (by simp), low A hA, low B hB]
  unfold ins
  rw [List.take_left' rfl, List.drop_left' rfl, List.append_assoc]
  rfl
theorem low_len {o : List Nat} {n m : Nat} (h : o.Perm (List.range n)) (hm : m ≤ n) : (o.filter (fun x => decide (x < m))).length = m := by
  have h1 := (h.filter (fun x => decide (x < m))).length_eq
  rw [h1]
  have : (List.range n).filter (fun x => decide (x < m)) = List.range m := by
    obtain ⟨d, rfl⟩ : ∃ d, n = m + d := ⟨n - m, by omega⟩
    rw [List.range_add, List.filter_append, List.filter_eq_self.mpr (fun x hx => by rw [List.mem_range] at hx; exact decide_eq_true hx)]
    have z : ((List.range d).map (m + ·)).filter (fun x => decide (x < m)) = [] := by
      rw [List.filter_eq_nil_iff]
      intro x hx
      rw [List.mem_map] at hx
      obtain ⟨y, _, rfl⟩ := hx
      simp
    rw [z, List.append_nil]
  rw [this, List.length_range]
theorem ahead_le {o : List Nat} {n m : Nat} (h : o.Perm (List.range n)) (hm : m < n) : ahead o m ≤ m := by
  have h1 := low_len h (Nat.le_of_lt hm)
  have h2 : ((o.take (o.idxOf m)).filter (fun x => decide (x < m))).length ≤ (o.filter (fun x => decide (x < m))).length := ((List.take_sublist _ _).filter _).length_le
  unfold ahead
  omega
theorem pord_lt {o : List Nat} {n : Nat} (h : o.Perm (List.range n)) : ∀ m, m ≤ n → pord o m < fact m
  | 0, _ => by
    show 0 < 1
    decide
  | m + 1, hm => by
    have ih := pord_lt h m (by omega)
    have sl := slot_le (n := m) (e := pord o m) (ahead_le h (show m < n by omega))
    have h2 : (pord o m + 1) * (m + 1) ≤ fact m * (m + 1) := Nat.mul_le_mul_right _ ih
    rw [Nat.add_mul, Nat.one_mul] at h2
    show pord o m * (m + 1) + slot m (pord o m) (ahead o m) < fact m * (m + 1)
    omega
theorem pord_div {o : List Nat} {n m : Nat} (h : o.Perm (List.range n)) (hm : m < n) : pord o (m + 1) / (m + 1) = pord o m ∧ pord o (m + 1) % (m + 1) = slot m (pord o m) (ahead o m) := by
  have sl := slot_le (n := m) (e := pord o m) (ahead_le h hm)
  have e : pord o (m + 1) = slot m (pord o m) (ahead o m) + (m + 1) * pord o m := by
    show pord o m * (m + 1) + slot m (pord o m) (ahead o m) = _
    rw [Nat.mul_comm, Nat.add_comm]
  constructor
  · rw [e, Nat.add_mul_div_left _ _ (show 0 < m + 1 by omega), Nat.div_eq_of_lt (by omega), Nat.zero_add]
  · rw [e, Nat.add_mul_mod_self_left, Nat.mod_eq_of_lt (by omega)]
theorem ord_pord {o : List Nat} {n : Nat} (h : o.Perm (List.range n)) : ∀ m, m ≤ n → ordAt m (pord o m) = o.filter (fun x => decide (x < m))
  | 0, _ => by
    have : o.filter (fun x => decide (x < 0)) = [] := by
      rw [List.filter_eq_nil_iff]
      intro x _
      simp
    rw [this]
    rfl
  | m + 1, hm => by
    have ih := ord_pord h m (by omega)
    obtain ⟨e1, e2⟩ := pord_div h (show m < n by omega)
    have nd : o.Nodup := h.nodup_iff.mpr List.nodup_range
    have hmem : m ∈ o := h.mem_iff.mpr (List.mem_range.mpr (by omega))
    rw [ordAt_succ, e1, e2, slot_slot (ahead_le h (by omega)), ih, low_succ hmem nd]
theorem ord_back {o : List Nat} {n : Nat} (h : o.Perm (List.range n)) : ordAt n (pord o n) = o := by
  rw [ord_pord h n (Nat.le_refl _), List.filter_eq_self.mpr]
  intro x hx
  exact decide_eq_true (List.mem_range.mp (h.mem_iff.mp hx))
theorem ins_low {n i : Nat} {l : List Nat} (h : ∀ x ∈ l, x < n) : (ins n i l).filter (fun x => decide (x < n)) = l := by
  unfold ins
  have h1 : (l.take i).filter (fun x => decide (x < n)) = l.take i := List.filter_eq_self.mpr fun x hx => decide_eq_true (h x (List.mem_of_mem_take hx))
  have h2 : (l.drop i).filter (fun x => decide (x < n)) = l.drop i := List.filter_eq_self.mpr fun x hx => decide_eq_true (h x (List.mem_of_mem_drop hx))
  rw [List.filter_append, List.filter_append, h1, h2, List.filter_cons, if_neg (by simp)]
  show l.take i ++ [] ++ l.drop i = l
  rw [List.append_nil, List.take_append_drop]
theorem ins_idx {n i : Nat} {l : List Nat} (h : ∀ x ∈ l, x < n) (hi : i ≤ l.length) : (ins n i l).idxOf n = i := by
  have hA : n ∉ l.take i := fun m => by
    have := h n (List.mem_of_mem_take m)
    omega
  unfold ins
  rw [List.append_assoc, List.idxOf_append, if_neg hA]
  show List.idxOf n (n :: (l.drop i)) + (l.take i).length = i
  rw [List.idxOf_cons_self, List.length_take]
  omega
/-- places of the same orders are the same -/
theorem ordAt_inj : ∀ n p q, p < fact n → q < fact n → ordAt n p = ordAt n q → p = q
  | 0, p, q, hp, hq, _ => by
    have : p < 1 := hp
    have : q < 1 := hq
    omega
  | n + 1, p, q, hp, hq, e => by
    have mem := fun r x (hx : x ∈ ordAt n (r / (n + 1))) => (ordAt_mem n _ x).mp hx
    have ml : ∀ r, r % (n + 1) ≤ n := fun r => by
      have := Nat.mod_lt r (show n + 1 > 0 by omega)
      omega
    have sl := fun r => slot_le (n := n) (e := r / (n + 1)) (ml r)
    rw [ordAt_succ, ordAt_succ n q] at e
    have e1 : ordAt n (p / (n + 1)) = ordAt n (q / (n + 1)) := by
      have := congrArg (List.filter (fun x => decide (x < n))) e
      rw [ins_low (mem p), ins_low (mem q)] at this
      exact this
    have e2 : slot n (p / (n + 1)) (p % (n + 1)) = slot n (q / (n + 1)) (q % (n + 1)) := by
      have := congrArg (List.idxOf n) e
      rw [ins_idx (mem p) (by rw [ordAt_len]; exact sl p), ins_idx (mem q) (by rw [ordAt_len]; exact sl q)] at this
      exact this
    have e3 : p / (n + 1) = q / (n + 1) := ordAt_inj n _ _ (Nat.div_lt_of_lt_mul (by rw [Nat.mul_comm]; exact hp)) (Nat.div_lt_of_lt_mul (by rw [Nat.mul_comm]; exact hq)) e1
    have e4 : p % (n + 1) = q % (n + 1) := by
      have := congrArg (slot n (p / (n + 1))) e2
      rw [slot_slot (ml p), e3, slot_slot (ml q)] at this
      exact this
    rw [← Nat.div_add_mod p (n + 1), ← Nat.div_add_mod q (n + 1), e3, e4]
theorem pord_ordAt {n p : Nat} (hp : p < fact n) : pord (ordAt n p) n = p :=
  ordAt_inj n _ _ (pord_lt (ordAt_perm n p) n (Nat.le_refl _)) hp (ord_back (ordAt_perm n p))
/-- the ways, from the last thing to the first -/
def ways : Nat → Nat → List (Nat × Nat × Nat)
  | 0, _ => []
  | n + 1, p => (n, p % (n + 1), p / (n + 1)) :: ways n (p / (n + 1))
def ordW : List (Nat × Nat × Nat) → List Nat
  | [] => []
  | (x, t, e) :: w => ins x (slot x e t) (ordW w)
theorem ways_len : ∀ n p, (ways n p).length = n
  | 0, _ => rfl
  | n + 1, p => by
    show (ways n (p / (n + 1))).length + 1 = n + 1
    rw [ways_len n]
theorem ordW_ways : ∀ n p, ordW (ways n p) = ordAt n p
  | 0, _ => rfl
  | n + 1, p => by
    show ins n (slot n (p / (n + 1)) (p % (n + 1))) (ordW (ways n (p / (n + 1)))) = _
    rw [ordW_ways n]
    rfl
/-- the last m ways are those of m things on the elder place -/
def elder : Nat → Nat → Nat → Nat
  | 0, _, p => p
  | n + 1, i, p => if i = 0 then p else elder n (i - 1) (p / (n + 1))
theorem ways_drop : ∀ n i p, i ≤ n → (ways n p).drop i = ways (n - i) (elder n i p)
  | 0, i, p, h => by
    have : i = 0 := by omega
    subst this
    rfl
  | n + 1, 0, p, _ => rfl
  | n + 1, i + 1, p, h => by
    show (ways n (p / (n + 1))).drop i = _
    rw [ways_drop n i _ (by omega), show n + 1 - (i + 1) = n - i by omega]
    show _ = ways (n - i) (if i + 1 = 0 then p else elder n (i + 1 - 1) (p / (n + 1)))
    rw [if_neg (by omega), Nat.add_sub_cancel]
theorem elder_zero (n p : Nat) : elder n 0 p = p := by cases n <;> rfl
theorem ways_get {n i p : Nat} (h : i < n) : (ways n p)[i]? = some (n - 1 - i, elder n i p % (n - i), elder n i p / (n - i)) ∧ elder n (i + 1) p = elder n i p / (n - i) := by
  have d := ways_drop n i p (by omega)
  obtain ⟨m, hm⟩ : ∃ m, n - i = m + 1 := ⟨n - i - 1, by omega⟩
  have e1 : (ways n p)[i]? = some (m, elder n i p % (m + 1), elder n i p / (m + 1)) := by
    have := congrArg (fun l => l[0]?) d
    simp only [List.getElem?_drop, Nat.add_zero] at this
    rw [this, hm]
    rfl
  refine ⟨by rw [e1, show n - 1 - i = m by omega, hm], ?_⟩
  exact elder_step n i p h
where
  elder_step : ∀ n i p, i < n → elder n (i + 1) p = elder n i p / (n - i)
    | 0, _, _, h => absurd h (by omega)
    | n + 1, 0, p, _ => by
      show elder n 0 (p / (n + 1)) = p / (n + 1)
      rw [elder_zero]
    | n + 1, i + 1, p, h => by
      show elder n (i + 1) (p / (n + 1)) = elder n i (p / (n + 1)) / (n + 1 - (i + 1))
      rw [elder_step n i _ (by omega), show n + 1 - (i + 1) = n - i by omega]
theorem elder_le : ∀ n i p, elder n i p ≤ p
  | 0, _, p => Nat.le_refl _
  | n + 1, i, p => by
    show (if i = 0 then p else elder n (i - 1) (p / (n + 1))) ≤ p
    split
    · exact Nat.le_refl _
    · exact Nat.le_trans (elder_le n _ _) (Nat.div_le_self _ _)
end One
namespace One
open PySem L2

/-- which list a walker walks on -/
inductive WDat where
  | wr (n : Nat)
  | ws (n k : Nat)
  | wo (n : Nat)
def WDat.Good : WDat → Prop
  | .wr n => n ≤ 40
  | .ws n k => n ≤ 40 ∧ k ≤ n
  | .wo n => n ≤ 20
def WDat.tot : WDat → Nat
  | .wr n => 2 ^ n
  | .ws n k => C n k
  | .wo n => fact n
def WDat.here : WDat → Nat → List V
  | .wr n, p => (One.row n p).map V.bl
  | .ws n k, p => (zs (setAt n k p)).map V.int
  | .wo n, p => (zs (ordAt n p)).map V.int
def WDat.sizes : WDat → List V
  | .wr n => [.int (n : Int)]
  | .ws n k => [.int (n : Int), .int (k : Int)]
  | .wo n => [.int (n : Int)]
def WDat.rest : WDat → List (Str × V)
  | .wr n => [("size", .int (n : Int))]
  | .ws n k => [("things", .int (n : Int)), ("some", .int (k : Int))]
  | .wo n => [("things", .int (n : Int))]
def WDat.way : WDat → Int
  | .wr _ => 0
  | .ws _ _ => 1
  | .wo _ => 2
theorem WDat.rest_len : ∀ d : WDat, d.rest.length ≤ 5
  | .wr _ => by show 1 ≤ 5; decide
  | .ws _ _ => by show 2 ≤ 5; decide
  | .wo _ => by show 1 ≤ 5; decide
theorem WDat.rest_no {m : Str} (h1 : (m == ("size" : Str)) = false) (h2 : (m == ("things" : Str)) = false) (h3 : (m == ("some" : Str)) = false) : ∀ d : WDat, d.rest.lookup m = none
  | .wr _ => (lk_ne h1).trans rfl
  | .ws _ _ => (lk_ne h2).trans ((lk_ne h3).trans rfl)
  | .wo _ => (lk_ne h2).trans rfl
theorem WDat.tot_pos : ∀ d : WDat, d.Good → 0 < d.tot
  | .wr n, _ => Nat.pow_pos (by decide)
  | .ws n k, h => C_pos n k h.2
  | .wo n, _ => fact_pos n
theorem WDat.here_len : ∀ (d : WDat) (p : Nat), d.Good → p < d.tot → (d.here p).length ≤ 40
  | .wr n, p, h, hp => by
    show ((One.row n p).map V.bl).length ≤ 40
    rw [List.length_map, row_len]
    exact h
  | .ws n k, p, h, hp => by
    show ((zs (setAt n k p)).map V.int).length ≤ 40
    rw [zsV_len, setAt_len n k p h.2 hp]
    exact Nat.le_trans h.2 h.1
  | .wo n, p, h, hp => by
    show ((zs (ordAt n p)).map V.int).length ≤ 40
    rw [zsV_len, ordAt_len]
    exact Nat.le_trans h (by decide)
section
variable {K : PySem.W.Frag} {H : Hp} {Q : VK}
/-- what stands there, twice told -/
theorem rd_neW {d : WDat} {j : Nat} {a b : Addr} (ha : H a = some (.lst (d.here j))) (hb : H b = some (.lst (d.here j))) (k : Q (.bl false) H) : rNeD K (.ref a) (.ref b) H Q := by
  cases d with
  | wr n => exact rd_neBs (SqL.of ha) (SqL.of hb) k
  | ws n m => exact rd_neI (SqL.of ha) (SqL.of hb) k
  | wo n => exact rd_neI (SqL.of ha) (SqL.of hb) k
theorem rd_eqW {d : WDat} {j : Nat} {a b : Addr} (ha : H a = some (.lst (d.here j))) (hb : H b = some (.lst (d.here j))) (k : Q (.bl true) H) : rEqD K (.ref a) (.ref b) H Q := by
  cases d with
  | wr n => exact rd_eqBs (SqL.of ha) (SqL.of hb) k
  | ws n m => exact rd_eqI (SqL.of ha) (SqL.of hb) k
  | wo n => exact rd_eqI (SqL.of ha) (SqL.of hb) k
end
end One
namespace One
open PySem L2
/-! ### the text by places -/
def top (i : Nat) : Stmt := PySem.Challenge.pw_onestep_k15_refused_sizes.main.body.getD i (.Pass ⟨0, 0, 0, 0⟩)
abbrev s_picks : Stmt := top 9
abbrev N_picks : List Str := ["total", "some", "ways", "k"]
theorem sc_picks : FnScope N_picks ["total", "some"] (defScope s_picks) := ⟨rfl, rfl, rfl, by decide +kernel, rfl, by decide +kernel, by decide +kernel⟩
abbrev s_sets : Stmt := top 10
abbrev N_sets : List Str := ["things", "some"]
theorem sc_sets : FnScope N_sets ["things", "some"] (defScope s_sets) := ⟨rfl, rfl, rfl, by decide +kernel, rfl, by decide +kernel, by decide +kernel⟩
abbrev s_asked_sets : Stmt := top 11
abbrev N_asked_sets : List Str := ["things", "some", "place", "total"]
theorem sc_asked_sets : FnScope N_asked_sets ["things", "some", "place"] (defScope s_asked_sets) := ⟨rfl, rfl, rfl, by decide +kernel, rfl, by decide +kernel, by decide +kernel⟩
abbrev s_set_at : Stmt := top 13
abbrev N_set_at : List Str := ["things", "some", "place", "found", "without"]
theorem sc_set_at : FnScope N_set_at ["things", "some", "place"] (defScope s_set_at) := ⟨rfl, rfl, rfl, by decide +kernel, rfl, by decide +kernel, by decide +kernel⟩
abbrev s_set_step : Stmt := top 14
abbrev N_set_step : List Str := ["things", "some", "place", "total", "one", "other", "gone", "come", "thing"]
theorem sc_set_step : FnScope N_set_step ["things", "some", "place"] (defScope s_set_step) := ⟨rfl, rfl, rfl, by decide +kernel, rfl, by decide +kernel, by decide +kernel⟩
abbrev s_asked_set : Stmt := top 15
abbrev N_asked_set : List Str := ["things", "members", "before", "thing"]
theorem sc_asked_set : FnScope N_asked_set ["things", "members"] (defScope s_asked_set) := ⟨rfl, rfl, rfl, by decide +kernel, rfl, by decide +kernel, by decide +kernel⟩
abbrev s_place_of_set : Stmt := top 16
abbrev N_place_of_set : List Str := ["things", "members", "place", "k", "thing"]
theorem sc_place_of_set : FnScope N_place_of_set ["things", "members"] (defScope s_place_of_set) := ⟨rfl, rfl, rfl, by decide +kernel, rfl, by decide +kernel, by decide +kernel⟩
abbrev s_orders : Stmt := top 19
abbrev N_orders : List Str := ["things", "total", "k"]
theorem sc_orders : FnScope N_orders ["things"] (defScope s_orders) := ⟨rfl, rfl, rfl, by decide +kernel, rfl, by decide +kernel, by decide +kernel⟩
abbrev s_asked_orders : Stmt := top 20
abbrev N_asked_orders : List Str := ["things", "place", "total"]
theorem sc_asked_orders : FnScope N_asked_orders ["things", "place"] (defScope s_asked_orders) := ⟨rfl, rfl, rfl, by decide +kernel, rfl, by decide +kernel, by decide +kernel⟩
abbrev s_order_at : Stmt := top 22
abbrev N_order_at : List Str := ["things", "place", "ways", "many", "found", "thing", "turn", "elder"]
theorem sc_order_at : FnScope N_order_at ["things", "place"] (defScope s_order_at) := ⟨rfl, rfl, rfl, by decide +kernel, rfl, by decide +kernel, by decide +kernel⟩
abbrev s_order_step : Stmt := top 23
abbrev N_order_step : List Str := ["things", "place", "one", "other", "ahead"]
theorem sc_order_step : FnScope N_order_step ["things", "place"] (defScope s_order_step) := ⟨rfl, rfl, rfl, by decide +kernel, rfl, by decide +kernel, by decide +kernel⟩
abbrev s_rows : Stmt := top 26
abbrev N_rows : List Str := ["size", "total", "k"]
theorem sc_rows : FnScope N_rows ["size"] (defScope s_rows) := ⟨rfl, rfl, rfl, by decide +kernel, rfl, by decide +kernel, by decide +kernel⟩
abbrev s_asked_rows : Stmt := top 27
abbrev N_asked_rows : List Str := ["size", "place", "total"]
theorem sc_asked_rows : FnScope N_asked_rows ["size", "place"] (defScope s_asked_rows) := ⟨rfl, rfl, rfl, by decide +kernel, rfl, by decide +kernel, by decide +kernel⟩
abbrev s_row_at : Stmt := top 29
abbrev N_row_at : List Str := ["size", "place", "found", "k"]
theorem sc_row_at : FnScope N_row_at ["size", "place"] (defScope s_row_at) := ⟨rfl, rfl, rfl, by decide +kernel, rfl, by decide +kernel, by decide +kernel⟩
abbrev s_row_step : Stmt := top 30
abbrev N_row_step : List Str := ["size", "place", "switch"]
theorem sc_row_step : FnScope N_row_step ["size", "place"] (defScope s_row_step) := ⟨rfl, rfl, rfl, by decide +kernel, rfl, by decide +kernel, by decide +kernel⟩
abbrev s_Walker_init : Stmt := inClass (top 32) 0
abbrev N_Walker_init : List Str := ["self", "total"]
theorem sc_Walker_init : FnScope N_Walker_init ["self", "total"] (defScope s_Walker_init) := ⟨rfl, rfl, rfl, by decide +kernel, rfl, by decide +kernel, by decide +kernel⟩
abbrev s_RowWalker_init : Stmt := inClass (top 33) 0
abbrev N_RowWalker_init : List Str := ["self", "size"]
theorem sc_RowWalker_init : FnScope N_RowWalker_init ["self", "size"] (defScope s_RowWalker_init) := ⟨rfl, rfl, rfl, by decide +kernel, rfl, by decide +kernel, by decide +kernel⟩
abbrev s_SetWalker_init : Stmt := inClass (top 34) 0
abbrev N_SetWalker_init : List Str := ["self", "things", "some"]
theorem sc_SetWalker_init : FnScope N_SetWalker_init ["self", "things", "some"] (defScope s_SetWalker_init) := ⟨rfl, rfl, rfl, by decide +kernel, rfl, by decide +kernel, by decide +kernel⟩
abbrev s_OrderWalker_init : Stmt := inClass (top 35) 0
abbrev N_OrderWalker_init : List Str := ["self", "things"]
theorem sc_OrderWalker_init : FnScope N_OrderWalker_init ["self", "things"] (defScope s_OrderWalker_init) := ⟨rfl, rfl, rfl, by decide +kernel, rfl, by decide +kernel, by decide +kernel⟩
abbrev s__law_cell_at : Stmt := top 37
abbrev N__law_cell_at : List Str := ["script", "k"]
theorem sc__law_cell_at : FnScope N__law_cell_at ["script", "k"] (defScope s__law_cell_at) := ⟨rfl, rfl, rfl, by decide +kernel, rfl, by decide +kernel, by decide +kernel⟩
abbrev s__law_word_of : Stmt := top 38
abbrev N__law_word_of : List Str := ["e", "kinds"]
theorem sc__law_word_of : FnScope N__law_word_of ["e"] (defScope s__law_word_of) := ⟨rfl, rfl, rfl, by decide +kernel, rfl, by decide +kernel, by decide +kernel⟩
abbrev s__law_rows_asked : Stmt := top 39
abbrev N__law_rows_asked : List Str := ["which", "size", "place"]
theorem sc__law_rows_asked : FnScope N__law_rows_asked ["which", "size", "place"] (defScope s__law_rows_asked) := ⟨rfl, rfl, rfl, by decide +kernel, rfl, by decide +kernel, by decide +kernel⟩
abbrev s__law_sets_asked : Stmt := top 40
abbrev N__law_sets_asked : List Str := ["which", "things", "some", "place"]
theorem sc__law_sets_asked : FnScope N__law_sets_asked ["which", "things", "some", "place"] (defScope s__law_sets_asked) := ⟨rfl, rfl, rfl, by decide +kernel, rfl, by decide +kernel, by decide +kernel⟩
abbrev s__law_tried : Stmt := top 41
abbrev N__law_tried : List Str := ["which", "size", "some", "place", "e"]
theorem sc__law_tried : FnScope N__law_tried ["which", "size", "some", "place"] (defScope s__law_tried) := ⟨rfl, rfl, rfl, by decide +kernel, rfl, by decide +kernel, by decide +kernel⟩
abbrev s_law : Stmt := top 42
abbrev N_law : List Str := ["script", "far", "place", "way", "which", "most", "bad", "things"]
theorem sc_law : FnScope N_law ["script"] (defScope s_law) := ⟨rfl, rfl, rfl, by decide +kernel, rfl, by decide +kernel, by decide +kernel⟩
/-- what the top has laid, as far as the walk asks -/
structure Txt (K : PySem.W.Frag) (mg : Str → Option Value) where
  c_RowWalker : Addr
  c_SetWalker : Addr
  c_OrderWalker : Addr
  c_Walker : Addr
  f_picks : Addr
  fd_picks : FuncData
  F_picks : Fun K "picks" "picks" s_picks f_picks fd_picks
  b_picks : Binds K fd_picks ["total", "some"] []
  f_sets : Addr
  fd_sets : FuncData
  F_sets : Fun K "sets" "sets" s_sets f_sets fd_sets
  b_sets : Binds K fd_sets ["things", "some"] []
  f_asked_sets : Addr
  fd_asked_sets : FuncData
  F_asked_sets : Fun K "asked" "asked" s_asked_sets f_asked_sets fd_asked_sets
  b_asked_sets : Binds K fd_asked_sets ["things", "some", "place"] []
  f_set_at : Addr
  fd_set_at : FuncData
  F_set_at : Fun K "set_at" "set_at" s_set_at f_set_at fd_set_at
  b_set_at : Binds K fd_set_at ["things", "some", "place"] []
  f_set_step : Addr
  fd_set_step : FuncData
  F_set_step : Fun K "set_step" "set_step" s_set_step f_set_step fd_set_step
  b_set_step : Binds K fd_set_step ["things", "some", "place"] []
  f_asked_set : Addr
  fd_asked_set : FuncData
  F_asked_set : Fun K "asked_set" "asked_set" s_asked_set f_asked_set fd_asked_set
  b_asked_set : Binds K fd_asked_set ["things", "members"] []
  f_place_of_set : Addr
  fd_place_of_set : FuncData
  F_place_of_set : Fun K "place_of_set" "place_of_set" s_place_of_set f_place_of_set fd_place_of_set
  b_place_of_set : Binds K fd_place_of_set ["things", "members"] []
  f_orders : Addr
  fd_orders : FuncData
  F_orders : Fun K "orders" "orders" s_orders f_orders fd_orders
  b_orders : Binds K fd_orders ["things"] []
  f_asked_orders : Addr
  fd_asked_orders : FuncData
  F_asked_orders : Fun K "asked" "asked" s_asked_orders f_asked_orders fd_asked_orders
  b_asked_orders : Binds K fd_asked_orders ["things", "place"] []
  f_order_at : Addr
  fd_order_at : FuncData
  F_order_at : Fun K "order_at" "order_at" s_order_at f_order_at fd_order_at
  b_order_at : Binds K fd_order_at ["things", "place"] []
  f_order_step : Addr
  fd_order_step : FuncData
  F_order_step : Fun K "order_step" "order_step" s_order_step f_order_step fd_order_step
  b_order_step : Binds K fd_order_step ["things", "place"] []
  f_rows : Addr
  fd_rows : FuncData
  F_rows : Fun K "rows" "rows" s_rows f_rows fd_rows
  b_rows : Binds K fd_rows ["size"] []
  f_asked_rows : Addr
  fd_asked_rows : FuncData
  F_asked_rows : Fun K "asked" "asked" s_asked_rows f_asked_rows fd_asked_rows
  b_asked_rows : Binds K fd_asked_rows ["size", "place"] []
  f_row_at : Addr
  fd_row_at : FuncData
  F_row_at : Fun K "row_at" "row_at" s_row_at f_row_at fd_row_at
  b_row_at : Binds K fd_row_at ["size", "place"] []
  f_row_step : Addr
  fd_row_step : FuncData
  F_row_step : Fun K "row_step" "row_step" s_row_step f_row_step fd_row_step
  b_row_step : Binds K fd_row_step ["size", "place"] []
  f_Walker_init : Addr
  fd_Walker_init : FuncData
  F_Walker_init : Fun K "__init__" "Walker.__init__" s_Walker_init f_Walker_init fd_Walker_init
  b_Walker_init : Binds K fd_Walker_init ["self", "total"] []
  f_RowWalker_init : Addr
  fd_RowWalker_init : FuncData
  F_RowWalker_init : Fun K "__init__" "RowWalker.__init__" s_RowWalker_init f_RowWalker_init fd_RowWalker_init
  b_RowWalker_init : Binds K fd_RowWalker_init ["self", "size"] []
  f_SetWalker_init : Addr
  fd_SetWalker_init : FuncData
  F_SetWalker_init : Fun K "__init__" "SetWalker.__init__" s_SetWalker_init f_SetWalker_init fd_SetWalker_init
  b_SetWalker_init : Binds K fd_SetWalker_init ["self", "things", "some"] []
  f_OrderWalker_init : Addr
  fd_OrderWalker_init : FuncData
  F_OrderWalker_init : Fun K "__init__" "OrderWalker.__init__" s_OrderWalker_init f_OrderWalker_init fd_OrderWalker_init
  b_OrderWalker_init : Binds K fd_OrderWalker_init ["self", "things"] []
  f__law_cell_at : Addr
  fd__law_cell_at : FuncData
  F__law_cell_at : Fun K "_law_cell_at" "_law_cell_at" s__law_cell_at f__law_cell_at fd__law_cell_at
  b__law_cell_at : Binds K fd__law_cell_at ["script", "k"] []
  f__law_word_of : Addr
  fd__law_word_of : FuncData
  F__law_word_of : Fun K "_law_word_of" "_law_word_of" s__law_word_of f__law_word_of fd__law_word_of
  b__law_word_of : Binds K fd__law_word_of ["e"] []
  f__law_rows_asked : Addr
  fd__law_rows_asked : FuncData
  F__law_rows_asked : Fun K "_law_rows_asked" "_law_rows_asked" s__law_rows_asked f__law_rows_asked fd__law_rows_asked
  b__law_rows_asked : Binds K fd__law_rows_asked ["which", "size", "place"] []
  f__law_sets_asked : Addr
  fd__law_sets_asked : FuncData
  F__law_sets_asked : Fun K "_law_sets_asked" "_law_sets_asked" s__law_sets_asked f__law_sets_asked fd__law_sets_asked
  b__law_sets_asked : Binds K fd__law_sets_asked ["which", "things", "some", "place"] []
  f__law_tried : Addr
  fd__law_tried : FuncData
  F__law_tried : Fun K "_law_tried" "_law_tried" s__law_tried f__law_tried fd__law_tried
  b__law_tried : Binds K fd__law_tried ["which", "size", "some", "place"] []
  f_law : Addr
  fd_law : FuncData
  F_law : Fun K "law" "law" s_law f_law fd_law
  b_law : Binds K fd_law ["script"] []
  c_NoSize : Addr
  c_NoPlace : Addr
  c_NoStep : Addr
  c_NoThing : Addr
  c_StepError : Addr
  g_NoSize : mg "NoSize" = some (.ref c_NoSize)
  g_NoPlace : mg "NoPlace" = some (.ref c_NoPlace)
  g_NoStep : mg "NoStep" = some (.ref c_NoStep)
  g_NoThing : mg "NoThing" = some (.ref c_NoThing)
  g_StepError : mg "StepError" = some (.ref c_StepError)
  x_NoSize : PySem.W.excIn K c_NoSize [.type "ValueError", .type "Exception", .type "BaseException", .type "object"] "ValueError.__new__" = true
  k_NoSize : PySem.W.keepIn K (.ref c_NoSize) = true
  sb_NoSize : PySem.W.subIn K (.ref c_NoSize) (.type "BaseException") = some true
  ty_NoSize : PySem.W.typeIn K (.ref c_NoSize) = some (.type "type")
  ec_NoSize : ExcC K c_NoSize
  em_NoSize : PySem.W.exmOne K (.ref c_NoSize) (.ref c_StepError) = some true
  kv_NoSize : PySem.W.kitOne K (.ref c_NoSize) (.type "ValueError") = some true
  ki_NoSize_NoSize : PySem.W.kitOne K (.ref c_NoSize) (.ref c_NoSize) = some true
  ki_NoSize_NoPlace : PySem.W.kitOne K (.ref c_NoSize) (.ref c_NoPlace) = some false
  ki_NoSize_NoStep : PySem.W.kitOne K (.ref c_NoSize) (.ref c_NoStep) = some false
  ki_NoSize_NoThing : PySem.W.kitOne K (.ref c_NoSize) (.ref c_NoThing) = some false
  g_RowWalker : mg "RowWalker" = some (.ref c_RowWalker)
  g_SetWalker : mg "SetWalker" = some (.ref c_SetWalker)
  g_OrderWalker : mg "OrderWalker" = some (.ref c_OrderWalker)
  g_Walker : mg "Walker" = some (.ref c_Walker)
  mk_RowWalker : Mk K c_RowWalker f_RowWalker_init
  cl_RowWalker : Cls K c_RowWalker
  na_RowWalker_size : NoAttr K c_RowWalker "size"
  na_RowWalker_total : NoAttr K c_RowWalker "total"
  na_RowWalker_at : NoAttr K c_RowWalker "at"
  mk_SetWalker : Mk K c_SetWalker f_SetWalker_init
  cl_SetWalker : Cls K c_SetWalker
  na_SetWalker_things : NoAttr K c_SetWalker "things"
  na_SetWalker_some : NoAttr K c_SetWalker "some"
  na_SetWalker_total : NoAttr K c_SetWalker "total"
  na_SetWalker_at : NoAttr K c_SetWalker "at"
  mk_OrderWalker : Mk K c_OrderWalker f_OrderWalker_init
  cl_OrderWalker : Cls K c_OrderWalker
  na_OrderWalker_things : NoAttr K c_OrderWalker "things"
  na_OrderWalker_total : NoAttr K c_OrderWalker "total"
  na_OrderWalker_at : NoAttr K c_OrderWalker "at"
  cf_Walker : CFun K c_Walker "__init__" f_Walker_init
  g_picks : mg "picks" = some (.ref f_picks)
  g_sets : mg "sets" = some (.ref f_sets)
  g_asked : mg "asked" = some (.ref f_asked_rows)
  g_asked_sets : mg "asked_sets" = some (.ref f_asked_sets)
  g_set_at : mg "set_at" = some (.ref f_set_at)
  g_set_step : mg "set_step" = some (.ref f_set_step)
  g_asked_set : mg "asked_set" = some (.ref f_asked_set)
  g_place_of_set : mg "place_of_set" = some (.ref f_place_of_set)
  g_orders : mg "orders" = some (.ref f_orders)
  g_asked_orders : mg "asked_orders" = some (.ref f_asked_orders)
  g_order_at : mg "order_at" = some (.ref f_order_at)
  g_order_step : mg "order_step" = some (.ref f_order_step)
  g_rows : mg "rows" = some (.ref f_rows)
  g_asked_rows : mg "asked_rows" = some (.ref f_asked_rows)
  g_row_at : mg "row_at" = some (.ref f_row_at)
  g_row_step : mg "row_step" = some (.ref f_row_step)
  g__law_cell_at : mg "_law_cell_at" = some (.ref f__law_cell_at)
  g__law_word_of : mg "_law_word_of" = some (.ref f__law_word_of)
  g__law_rows_asked : mg "_law_rows_asked" = some (.ref f__law_rows_asked)
  g__law_sets_asked : mg "_law_sets_asked" = some (.ref f__law_sets_asked)
  g__law_tried : mg "_law_tried" = some (.ref f__law_tried)
  g_law : mg "law" = some (.ref f_law)
  t_MOST_sets : Tok
  g_MOST_sets : mg "MOST_sets" = some (.int 40 t_MOST_sets)
  t_MOST_orders : Tok
  g_MOST_orders : mg "MOST_orders" = some (.int 20 t_MOST_orders)
  t_MOST_rows : Tok
  g_MOST_rows : mg "MOST_rows" = some (.int 40 t_MOST_rows)
  m_ValueError : mg "ValueError" = none
  m_isinstance : mg "isinstance" = none
  m_len : mg "len" = none
  m_range : mg "range" = none
  m_reversed : mg "reversed" = none
end One
local macro_rules | `(tactic| walk_at "rd1") => `(tactic| first
  | (with_reducible refine One.rd_var ?_; refine ⟨_, rfl, ?_⟩)
  | with_reducible refine One.rd_c ?_
  | with_reducible refine One.rd_seq ?_
  | with_reducible refine One.rd_asg ?_
  | with_reducible refine One.rd_name ?_
  | with_reducible refine One.rd_op ?_
  | with_reducible refine One.rd_i0 ?_
  | with_reducible refine One.rd_mul1 ⟨(by omega), (by omega)⟩ ?_
  | with_reducible refine One.rd_mul2 ⟨(by omega), (by omega)⟩ ?_
  | with_reducible refine One.rd_div ⟨(by omega), (by omega)⟩ ?_
  | with_reducible refine One.rd_mod (by omega) ?_
  | with_reducible refine One.rd_i ?_ ?_
  | with_reducible refine One.rd_eq ?_
  | with_reducible refine One.rd_ne ?_
  | with_reducible refine One.rd_eqB ?_
  | with_reducible refine One.rd_neB ?_
  | with_reducible refine One.rd_test ?_
  | with_reducible refine One.rd_tB ?_
  | with_reducible refine One.rd_bl ?_
  | with_reducible refine One.rd_and ?_
  | with_reducible refine One.rd_or ?_
  | with_reducible refine One.rd_not ?_
  | with_reducible refine One.rd_andV ?_
  | with_reducible refine One.rd_orV ?_
  | with_reducible refine One.rd_notV ?_
  | with_reducible refine One.rd_ifx ?_
  | with_reducible refine One.rd_if ?_
  | with_reducible refine One.rd_ret ?_
  | with_reducible refine One.rd_drop ?_
  | with_reducible refine One.rd_next ?_
  | with_reducible refine One.rd_par ?_
  | with_reducible refine One.rd_two ?_
  | with_reducible refine One.rd_un ?_
  | with_reducible refine One.rd_neg ?_
  | with_reducible refine One.rd_nil ?_
  | with_reducible refine One.rd_cons ?_
  | with_reducible refine One.rd_cb ?_
  | with_reducible refine One.rd_call ?_
  | with_reducible refine One.rd_tup ?_
  | with_reducible refine One.rd_lst ?_
  | with_reducible refine One.rd_bm ?_
  | with_reducible refine One.rd_sl ?_
  | with_reducible refine One.rd_nopart ?_
  | with_reducible refine One.rd_part ?_
  | with_reducible refine One.rd_ni ?_
  | with_reducible refine One.rd_for1 ?_
  | with_reducible refine One.rd_forL ?_
  | with_reducible refine One.rd_lcL ?_
  | with_reducible refine One.rd_lcV ?_
  | with_reducible refine One.rd_lcR ?_
  | with_reducible refine One.tt_yes ?_
  | with_reducible refine One.rd_forV ?_
  | with_reducible refine One.rd_forRR ?_
  | with_reducible refine One.rd_rg2 ?_
  | with_reducible refine One.rd_rg1 ?_
  | with_reducible refine One.rd_ij ?_
  | with_reducible refine One.rd_lstRg ?_
  | with_reducible refine One.rd_din ?_
  | with_reducible refine One.rd_dput ?_
  | with_reducible refine One.rd_newT ?_
  | with_reducible refine One.whil_in ?_
  | with_reducible refine One.if_t ?_
  | with_reducible refine One.if_f ?_
  | with_reducible refine One.if_ft ?_
  | with_reducible refine One.if_tf ?_
  | with_reducible refine One.if_df (by omega) ?_
  | with_reducible refine One.if_dt (by omega) ?_
  | with_reducible refine One.if_nf (by omega) ?_
  | with_reducible refine One.if_nt (by omega) ?_)
local macro_rules | `(tactic| walk_at "rd") => `(tactic| repeat (walk_at "rd1"))
local macro_rules | `(tactic| walk_at "rd1") => `(tactic| first
  | with_reducible refine One.rd_fld ?_
  | with_reducible refine One.rd_sfld ?_
  | with_reducible refine One.rd_cfun ?_
  | with_reducible refine One.rd_meth ?_
  | with_reducible refine One.rd_make ?_
  | with_reducible refine One.rd_p30 ?_
  | with_reducible refine One.rd_p6 ?_)
local macro_rules | `(tactic| walk_at "rd1") => `(tactic| first
  | with_reducible refine One.rd_callS ?_
  | with_reducible refine One.rd_word ?_
  | with_reducible refine One.rd_methX ?_
  | with_reducible refine One.rd_chain ?_
  | with_reducible refine One.rd_for2 ?_)
namespace One
open PySem L2
section
variable {K : PySem.W.Frag} {mg : Str → Option Value}
/-- the words of the classes -/
def word (T : Txt K mg) (D : Addr) (t : Str) : Prop := (D = T.c_NoSize ∧ t = "size")
theorem word_facts (T : Txt K mg) {D : Addr} {t : Str} (h : word T D t) : ∃ (b1 b2 b3 b4 : Bool) (j : Nat), ExcC K D ∧ PySem.W.kitOne K (.ref D) (.ref T.c_NoSize) = some b1 ∧ PySem.W.kitOne K (.ref D) (.ref T.c_NoPlace) = some b2 ∧ PySem.W.kitOne K (.ref D) (.ref T.c_NoStep) = some b3 ∧ PySem.W.kitOne K (.ref D) (.ref T.c_NoThing) = some b4 ∧
    PySem.W.kitOne K (.ref D) (.type "ValueError") = some true ∧ [b1, b2, b3, b4].count true = 1 ∧ [b1, b2, b3, b4][j]? = some true ∧ (∀ m, m < j → [b1, b2, b3, b4][m]? = some (!true)) ∧ ([.str "size", .str "place", .str "step", .str "thing"] : List V)[j]? = some (.str t) := by
  obtain ⟨rfl, rfl⟩ := h
  · exact ⟨true, false, false, false, 0, T.ec_NoSize, T.ki_NoSize_NoSize, T.ki_NoSize_NoPlace, T.ki_NoSize_NoStep, T.ki_NoSize_NoThing, T.kv_NoSize, by decide, rfl, by decide, rfl⟩
end
theorem word_NoSize {K : PySem.W.Frag} {mg : Str → Option Value} (T : Txt K mg) : word T T.c_NoSize "size" := ⟨rfl, rfl⟩

def WDat.cls {K : PySem.W.Frag} {mg : Str → Option Value} (T : Txt K mg) : WDat → Addr
  | .wr _ => T.c_RowWalker
  | .ws _ _ => T.c_SetWalker
  | .wo _ => T.c_OrderWalker
theorem wcls {K : PySem.W.Frag} {mg : Str → Option Value} (T : Txt K mg) : ∀ d : WDat, WCls K (d.cls T)
  | .wr _ => ⟨T.cl_RowWalker, T.na_RowWalker_total, T.na_RowWalker_at⟩
  | .ws _ _ => ⟨T.cl_SetWalker, T.na_SetWalker_total, T.na_SetWalker_at⟩
  | .wo _ => ⟨T.cl_OrderWalker, T.na_OrderWalker_total, T.na_OrderWalker_at⟩
/-- a walker of the list d stands on place j -/
def On {K : PySem.W.Frag} {mg : Str → Option Value} (T : Txt K mg) (d : WDat) (H : Hp) (p : Addr) (j : Nat) : Prop := ∃ dx : Addr, H p = some (.ins (d.cls T) dx (Wf (d.tot : Int) (j : Int) d.rest))
theorem On.same {K : PySem.W.Frag} {mg : Str → Option Value} {T : Txt K mg} {d : WDat} {H H' : Hp} {p : Addr} {j : Nat} (h : On T d H p j) (sm : Same H H') : On T d H' p j := by
  obtain ⟨dx, h⟩ := h
  exact ⟨dx, sm _ _ h⟩
theorem On.but {K : PySem.W.Frag} {mg : Str → Option Value} {T : Txt K mg} {d : WDat} {H H' : Hp} {o p : Addr} {j : Nat} (h : On T d H o j) (bt : But p H H') (n : o ≠ p) : On T d H' o j := by
  obtain ⟨dx, h⟩ := h
  exact ⟨dx, bt _ _ h n⟩
/-- walker.m(..): the class has m, the fields have not -/
theorem on_meth {K : PySem.W.Frag} {mg : Str → Option Value} {T : Txt K mg} {d : WDat} {H : Hp} {p : Addr} {j : Nat} {m : Str} {P : Prop} (on : On T d H p j) (k : P) (h1 : (m == ("total" : Str)) = false := by decide +kernel) (h2 : (m == ("at" : Str)) = false := by decide +kernel)
    (h3 : (m == ("size" : Str)) = false := by decide +kernel) (h4 : (m == ("things" : Str)) = false := by decide +kernel) (h5 : (m == ("some" : Str)) = false := by decide +kernel) :
    ∃ a dx fs, V.ref p = .ref a ∧ H a = some (.ins (d.cls T) dx fs) ∧ fs.lookup m = none ∧ P := by
  obtain ⟨dx, e⟩ := on
  exact ⟨p, dx, _, rfl, e, (Wf_else h1 h2).trans (WDat.rest_no h3 h4 h5 d), k⟩
section
variable {P : Program} {w : World} {K : PySem.W.Frag} {mg : Str → Option Value} {base : Heap}
theorem okE__law_word_of (T : Txt K mg) : FnE P w K mg base 1 T.f__law_word_of T.fd__law_word_of ["e"] (spW (word T)) := by
  refine Fun.okE T.F__law_word_of sc__law_word_of (fun x vs H Q E h => ?_) (fun cdv A outer s H vs Q E x hr h => ?_)
  · obtain ⟨D, t, rfl, _⟩ := h
    rfl
  · obtain ⟨D, t, rfl, hz, hf, hw, q⟩ := h
    obtain ⟨b1, b2, b3, b4, j, ec, h1, h2, h3, h4, h5, hc, hj, hn, ht⟩ := word_facts T hw
    have hu : (A.deeper (PyProof.Rows.envOfC "_law_word_of" (defScope s__law_word_of) s.heap.objs.size T.f__law_word_of cdv)).units + 65 < cLine := by
      have := hr.un
      omega
    refine ⟨_, (pss_cons (ps_set (i := 1) sc__law_word_of.nd rfl (Or.inl rfl) (pe_lst (pa_cons (pe_callB (call_isP List.mem_cons_self ec hz hf) (by rfl) T.m_isinstance (by decide +kernel) (pa_cons (pv 0) (pa_cons (pe_glob (v := .ref T.c_NoSize) (by rfl) T.g_NoSize rfl) pa_nil))) (pa_cons (pe_callB (call_isP List.mem_cons_self ec hz hf) (by rfl) T.m_isinstance (by decide +kernel) (pa_cons (pv 0) (pa_cons (pe_glob (v := .ref T.c_NoPlace) (by rfl) T.g_NoPlace rfl) pa_nil))) (pa_cons (pe_callB (call_isP List.mem_cons_self ec hz hf) (by rfl) T.m_isinstance (by decide +kernel) (pa_cons (pv 0) (pa_cons (pe_glob (v := .ref T.c_NoStep) (by rfl) T.g_NoStep rfl) pa_nil))) (pa_cons (pe_callB (call_isP List.mem_cons_self ec hz hf) (by rfl) T.m_isinstance (by decide +kernel) (pa_cons (pv 0) (pa_cons (pe_glob (v := .ref T.c_NoThing) (by rfl) T.g_NoThing rfl) pa_nil))) pa_nil))))))
      (pss_cons (ps_if (PW.pt (pw_or (pt_cmpR op_ne (pe_bm PySem.F.plainAttrs_list PySem.F.slot_list_count PySem.F.type_list_count (mt_cntB hu) (pv 1) (pa_cons pe_bl pa_nil)) pe_int (nomark _)) (pw_or1 (pt_not (pt_val (pe_callB (call_isP List.mem_cons_self ec hz hf) (by rfl) T.m_isinstance (by decide +kernel) (pa_cons (pv 0) (pa_cons (pe_bltn (v := .ty "ValueError") (by rfl) T.m_ValueError (by decide +kernel) rfl) pa_nil)))))))) (pss_one (ps_ret pe_str)) pss_nil)
      (pss_one (ps_ret (pe_ix ix_list (pe_lst (pa_cons pe_str (pa_cons pe_str (pa_cons pe_str (pa_cons pe_str pa_nil))))) (pe_bm PySem.F.plainAttrs_list PySem.F.slot_list_index PySem.F.type_list_index (mt_indexD hu) (pv 1) (pa_cons pe_bl pa_nil)) (fun _ _ => rfl)))))), ?_⟩
    walk_at "rd"
    refine isE_own h1 ?_
    walk_at "rd"
    refine isE_own h2 ?_
    walk_at "rd"
    refine isE_own h3 ?_
    walk_at "rd"
    refine isE_own h4 ?_
    walk_at "rd"
    refine rd_newL (Nat.le_of_ble_eq_true rfl) fun l nl => ?_
    have hl : upd H l (.lst [.bl b1, .bl b2, .bl b3, .bl b4]) l = some (.lst (([b1, b2, b3, b4] : List Bool).map V.bl)) := upd_same
    walk_at "rd"
    refine ⟨tyL hl, ?_⟩
    walk_at "rd"
    refine rd_cntB (SqL.of hl) ?_
    rw [hc]
    walk_at "rd"
    refine isE_ty h5 ?_
    walk_at "rd"
    refine rd_newL (Nat.le_of_ble_eq_true rfl) fun l2 nl2 => ?_
    walk_at "rd"
    have hl2 := same_upd (o := .lst [.str "size", .str "place", .str "step", .str "thing"]) nl2 _ _ hl
    refine ⟨tyL hl2, ?_⟩
    walk_at "rd"
    refine rd_idxB (SqL.of hl2) hj hn ?_
    refine rd_at (SqL.of upd_same) ht ?_
    exact q _ ((same_upd nl).trans (same_upd nl2))

/-- rows(n): 2 ^ n -/
def sp_rows : Sp := fun vs H Q _ => ∃ n : Nat, vs = [.int (n : Int)] ∧ n ≤ 40 ∧ Q (.int ((2 ^ n : Nat) : Int)) H
theorem two_turn (k : Nat) : ((2 ^ k : Nat) : Int) * 2 = ((2 ^ (k + 1) : Nat) : Int) := by
  rw [Nat.pow_succ, Int.natCast_mul]
  rfl
theorem two_turn2 (k : Nat) : 2 * ((2 ^ k : Nat) : Int) = ((2 ^ (k + 1) : Nat) : Int) := by
  rw [Int.mul_comm, two_turn]
theorem ok_rows (T : Txt K mg) : FnOk P w K mg base CX0 1 T.f_rows T.fd_rows ["size"] (sp_rows) := by
  refine T.F_rows.ok sc_rows (fun vs H Q E h => ?_) (fun cdv A outer s H vs Q E hr h => ?_)
  · obtain ⟨_, rfl, _⟩ := h
    all_goals rfl
  · refine ⟨_, (pss_cons (ps_if (PW.pt (pw_or (pt_cmpR op_lt (pv 0) pe_int (nomark _)) (pw_or1 (pt_cmpR op_gt (pv 0) (pe_glob (v := .int 40) rfl T.g_MOST_rows ⟨_, rfl⟩) (nomark _))))) (pss_one ps_never) pss_nil)
      (pss_cons (ps_set (i := 1) sc_rows.nd rfl (Or.inl rfl) pe_int)
      (pss_cons (ps_for PassesOwn.never rfl (pi_range1 rfl T.m_range (pa_cons (pv 0) pa_nil)) (pg_name (i := 2) sc_rows.nd rfl (Or.inl rfl)) (pss_one (ps_set (i := 1) sc_rows.nd rfl (Or.inl rfl) (pe_op op_mul (pv 1) pe_int))))
      (pss_one (ps_ret (pv 1)))))), ?_⟩
    obtain ⟨n, rfl, hn, q⟩ := h
    have pw : ∀ k, k ≤ n → (2 ^ k : Nat) ≤ 2 ^ 40 := fun k hk => Nat.pow_le_pow_right (by decide) (by omega)
    walk_at "rd"
    refine for1 (n := n) (by omega) (fun k σ' H' => ∃ y, σ' = [some (.int (n : Int)), some (.int ((2 ^ k : Nat) : Int)), y] ∧ H' = H) ⟨_, rfl, rfl⟩ ?_ ?_
    · rintro k σ' H' hk ⟨y, rfl, rfl⟩
      have := pw k (by omega)
      walk_at "rd"
      rw [two_turn]
      exact ⟨_, rfl, rfl⟩
    · rintro σ' H' ⟨y, rfl, rfl⟩
      walk_at "rd"
      exact q

def sp_asked_rows : Sp := fun vs H Q _ => ∃ n p : Nat, vs = [.int (n : Int), .int (p : Int)] ∧ n ≤ 40 ∧ p < 2 ^ n ∧ Q .non H
theorem ok_asked_rows (T : Txt K mg) : FnOk P w K mg base CX0 2 T.f_asked_rows T.fd_asked_rows ["size", "place"] (sp_asked_rows) := by
  have G_rows := ok_rows (P := P) (w := w) (base := base) T
  refine T.F_asked_rows.ok sc_asked_rows (fun vs H Q E h => ?_) (fun cdv A outer s H vs Q E hr h => ?_)
  · obtain ⟨_, _, rfl, _⟩ := h
    all_goals rfl
  · refine ⟨_, (pss_cons (ps_set (i := 2) sc_asked_rows.nd rfl (Or.inl rfl) (pe_call G_rows (hr.mono (by decide)) (by rfl) T.g_rows T.F_rows.kp T.b_rows .nil pass0 (pa_cons (pv 0) pa_nil)))
      (pss_one (ps_if (PW.pt (pw_or (pt_cmpR op_lt (pv 1) pe_int (nomark _)) (pw_or1 (pt_cmpR op_ge (pv 1) (pv 2) (nomark _))))) (pss_one ps_never) pss_nil))), ?_⟩
    obtain ⟨n, p, rfl, hn, hp, q⟩ := h
    walk_at "rd"
    refine ⟨n, rfl, hn, ?_⟩
    walk_at "rd"
    exact q

def sp_row_at : Sp := fun vs H Q _ => ∃ n p : Nat, vs = [.int (n : Int), .int (p : Int)] ∧ n ≤ 40 ∧ p < 2 ^ n ∧
  ∀ H' a, Same H H' → H a = none → H' a = some (.lst ((row n p).map V.bl)) → Q (.ref a) H'
theorem halved (p k : Nat) : ((p / 2 ^ k : Nat) : Int) / 2 = ((p / 2 ^ (k + 1) : Nat) : Int) := by
  rw [Nat.pow_succ, ← Nat.div_div_eq_div_mul]
  rfl
theorem bit_int (p : Nat) : decide ((p : Int) % 2 = (p : Int) / 2 % 2) = decide (p % 2 = p / 2 % 2) := by
  rw [decide_eq_decide]
  omega
theorem ok_row_at (T : Txt K mg) : FnOk P w K mg base CX0 3 T.f_row_at T.fd_row_at ["size", "place"] (sp_row_at) := by
  have G_asked_rows := ok_asked_rows (P := P) (w := w) (base := base) T
  refine T.F_row_at.ok sc_row_at (fun vs H Q E h => ?_) (fun cdv A outer s H vs Q E hr h => ?_)
  · obtain ⟨_, _, rfl, _⟩ := h
    all_goals rfl
  · refine ⟨_, (pss_cons (ps_expr (pe_call G_asked_rows (hr.mono (by decide)) (by rfl) T.g_asked_rows T.F_asked_rows.kp T.b_asked_rows .nil pass0 (pa_cons (pv 0) (pa_cons (pv 1) pa_nil))))
      (pss_cons (ps_set (i := 2) sc_row_at.nd rfl (Or.inl rfl) (pe_lst pa_nil))
      (pss_cons (ps_for PassesOwn.never rfl (pi_range1 rfl T.m_range (pa_cons (pv 0) pa_nil)) (pg_name (i := 3) sc_row_at.nd rfl (Or.inl rfl)) (pss_cons (ps_expr (pe_bm PySem.F.plainAttrs_list PySem.F.slot_list_append PySem.F.type_list_append mt_append (pv 2) (pa_cons (pe_cmpR op_ne (pe_op op_mod (pv 1) pe_int) (pe_op op_mod (pe_op op_fdiv (pv 1) pe_int) pe_int) (nomark _)) pa_nil)))
      (pss_one (ps_set (i := 1) sc_row_at.nd rfl (Or.inl rfl) (pe_op op_fdiv (pv 1) pe_int)))))
      (pss_one (ps_ret (pv 2)))))), ?_⟩
    obtain ⟨n, p, rfl, hn, hp, q⟩ := h
    walk_at "rd"
    refine ⟨n, p, rfl, hn, hp, ?_⟩
    walk_at "rd"
    refine rd_newL (by decide) fun o no => ?_
    walk_at "rd"
    refine for1 (n := n) (by omega) (fun k σ' H' => ∃ y, σ' = [some (.int (n : Int)), some (.int ((p / 2 ^ k : Nat) : Int)), some (.ref o), y] ∧ Same H H' ∧ H' o = some (.lst ((row k p).map V.bl))) ?_ ?_ ?_
    · rw [Nat.pow_zero, Nat.div_one]
      exact ⟨_, rfl, same_upd no, upd_same⟩
    · rintro k σ' H' hk ⟨y, rfl, sm, ho⟩
      walk_at "rd"
      refine ⟨tyL ho, ?_⟩
      walk_at "rd"
      refine rd_app ho (by rw [List.length_map, row_len]; omega) ?_
      walk_at "rd"
      rw [bit_int, halved]
      refine ⟨_, rfl, same_mut sm no, ?_⟩
      rw [upd_same, row_snoc, List.map_append]
      rfl
    · rintro σ' H' ⟨y, rfl, sm, ho⟩
      walk_at "rd"
      exact q H' o sm no ho

def sp_row_step : Sp := fun vs H Q _ => ∃ n p : Nat, vs = [.int (n : Int), .int (p : Int)] ∧ n ≤ 40 ∧ 0 < n ∧ p < 2 ^ n ∧ Q (.int ((stepR n p : Nat) : Int)) H
theorem ok_row_step (T : Txt K mg) : FnOk P w K mg base CX0 3 T.f_row_step T.fd_row_step ["size", "place"] (sp_row_step) := by
  have G_asked_rows := ok_asked_rows (P := P) (w := w) (base := base) T
  refine T.F_row_step.ok sc_row_step (fun vs H Q E h => ?_) (fun cdv A outer s H vs Q E hr h => ?_)
  · obtain ⟨_, _, rfl, _⟩ := h
    all_goals rfl
  · refine ⟨_, (pss_cons (ps_expr (pe_call G_asked_rows (hr.mono (by decide)) (by rfl) T.g_asked_rows T.F_asked_rows.kp T.b_asked_rows .nil pass0 (pa_cons (pv 0) (pa_cons (pv 1) pa_nil))))
      (pss_cons (ps_if (pt_cmpR op_eq (pv 0) pe_int (nomark _)) (pss_one ps_never) pss_nil)
      (pss_cons (ps_set (i := 2) sc_row_step.nd rfl (Or.inl rfl) pe_int)
      (pss_cons (ps_while PassesOwn.never (PW.pt (pw_and (pt_cmpR op_lt (pv 2) (pe_op op_sub (pv 0) pe_int) (nomark _)) (pw_and1 (pt_cmpR op_eq (pe_op op_mod (pv 1) pe_int) pe_int (nomark _))))) (pss_cons (ps_set (i := 2) sc_row_step.nd rfl (Or.inl rfl) (pe_op op_add (pv 2) pe_int))
      (pss_one (ps_set (i := 1) sc_row_step.nd rfl (Or.inl rfl) (pe_op op_fdiv (pv 1) pe_int)))))
      (pss_one (ps_ret (pv 2))))))), ?_⟩
    obtain ⟨n, p, rfl, hn, h0, hp, q⟩ := h
    walk_at "rd"
    refine ⟨n, p, rfl, hn, hp, ?_⟩
    walk_at "rd"
    refine whil (fun m σ' H' => ∃ s p' : Nat, σ' = [some (.int (n : Int)), some (.int (p' : Int)), some (.int (s : Int))] ∧ H' = H ∧ s < n ∧ m = n - s ∧ s + stepR (n - s) p' = stepR n p) n ⟨0, p, rfl, rfl, h0, rfl, by rw [Nat.sub_zero, Nat.zero_add]⟩ ?_
    rintro m σ' H' ⟨s, p', rfl, rfl, hs, rfl, e⟩
    obtain ⟨d, hd⟩ : ∃ d, n - s = d + 1 := ⟨n - s - 1, by omega⟩
    rw [hd] at e ⊢
    have es : stepR (d + 1) p' = if d ≠ 0 ∧ p' % 2 = 1 then stepR d (p' / 2) + 1 else 0 := rfl
    walk_at "rd"
    refine if_d2 (fun c => ?_) (fun c => ?_)
    · walk_at "rd"
      refine if_d2 (fun c2 => ?_) (fun c2 => ?_)
      · rw [if_pos (by omega)] at es
        walk_at "rd"
        exact ⟨d, by omega, s + 1, p' / 2, rfl, rfl, by omega, by omega, by rw [show n - (s + 1) = d by omega]; omega⟩
      · rw [if_neg (by omega)] at es
        walk_at "rd"
        rw [show s = stepR n p by omega]
        exact q
    · rw [if_neg (by omega)] at es
      walk_at "rd"
      rw [show s = stepR n p by omega]
      exact q

def sp_picks : Sp := fun vs H Q _ => ∃ n k : Nat, vs = [.int (n : Int), .int (k : Int)] ∧ n ≤ 40 ∧ k ≤ n + 1 ∧ Q (.int ((C n k : Nat) : Int)) H
theorem picks_turn {n k : Nat} (h : k ≤ n) : ((C n k : Nat) : Int) * ((n : Int) - (k : Int)) / ((k : Int) + 1) = ((C n (k + 1) : Nat) : Int) := by
  rw [← C_next n k, Int.natCast_ediv, Int.natCast_mul, Int.ofNat_sub h]
  rfl
theorem ok_picks (T : Txt K mg) : FnOk P w K mg base CX0 1 T.f_picks T.fd_picks ["total", "some"] (sp_picks) := by
  refine T.F_picks.ok sc_picks (fun vs H Q E h => ?_) (fun cdv A outer s H vs Q E hr h => ?_)
  · obtain ⟨_, _, rfl, _⟩ := h
    all_goals rfl
  · refine ⟨_, (pss_cons (ps_set (i := 2) sc_picks.nd rfl (Or.inl rfl) pe_int)
      (pss_cons (ps_for PassesOwn.never rfl (pi_range1 rfl T.m_range (pa_cons (pv 1) pa_nil)) (pg_name (i := 3) sc_picks.nd rfl (Or.inl rfl)) (pss_one (ps_set (i := 2) sc_picks.nd rfl (Or.inl rfl) (pe_op op_fdiv (pe_op op_mul (pv 2) (pe_op op_sub (pv 0) (pv 3))) (pe_op op_add (pv 3) pe_int)))))
      (pss_one (ps_ret (pv 2))))), ?_⟩
    obtain ⟨n, k, rfl, hn, hk, q⟩ := h
    have bd : ∀ j, C n j ≤ 2 ^ 40 := fun j => Nat.le_trans (C_le n j) (Nat.pow_le_pow_right (by decide) hn)
    walk_at "rd"
    refine for1 (n := k) (by omega) (fun j σ' H' => ∃ y, σ' = [some (.int (n : Int)), some (.int (k : Int)), some (.int ((C n j : Nat) : Int)), y] ∧ H' = H) ?_ ?_ ?_
    · rw [C_zero]
      exact ⟨_, rfl, rfl⟩
    · rintro j σ' H' hj ⟨y, rfl, rfl⟩
      have := bd j
      walk_at "rd"
      rw [picks_turn (by omega)]
      exact ⟨_, rfl, rfl⟩
    · rintro σ' H' ⟨y, rfl, rfl⟩
      walk_at "rd"
      exact q

def sp_sets : Sp := fun vs H Q _ => ∃ n k : Nat, vs = [.int (n : Int), .int (k : Int)] ∧ n ≤ 40 ∧ k ≤ n ∧ Q (.int ((C n k : Nat) : Int)) H
theorem ok_sets (T : Txt K mg) : FnOk P w K mg base CX0 2 T.f_sets T.fd_sets ["things", "some"] (sp_sets) := by
  have G_picks := ok_picks (P := P) (w := w) (base := base) T
  refine T.F_sets.ok sc_sets (fun vs H Q E h => ?_) (fun cdv A outer s H vs Q E hr h => ?_)
  · obtain ⟨_, _, rfl, _⟩ := h
    all_goals rfl
  · refine ⟨_, (pss_cons (ps_if (PW.pt (pw_or (pt_cmpR op_lt (pv 0) pe_int (nomark _)) (pw_or (pt_cmpR op_gt (pv 0) (pe_glob (v := .int 40) rfl T.g_MOST_sets ⟨_, rfl⟩) (nomark _)) (pw_or (pt_cmpR op_lt (pv 1) pe_int (nomark _)) (pw_or1 (pt_cmpR op_gt (pv 1) (pv 0) (nomark _))))))) (pss_one ps_never) pss_nil)
      (pss_one (ps_ret (pe_call G_picks (hr.mono (by decide)) (by rfl) T.g_picks T.F_picks.kp T.b_picks .nil pass0 (pa_cons (pv 0) (pa_cons (pv 1) pa_nil)))))), ?_⟩
    obtain ⟨n, k, rfl, hn, hk, q⟩ := h
    walk_at "rd"
    exact ⟨n, k, rfl, hn, by omega, q⟩

def sp_asked_sets : Sp := fun vs H Q _ => ∃ n k p : Nat, vs = [.int (n : Int), .int (k : Int), .int (p : Int)] ∧ n ≤ 40 ∧ k ≤ n ∧ p < C n k ∧ Q .non H
theorem ok_asked_sets (T : Txt K mg) : FnOk P w K mg base CX0 3 T.f_asked_sets T.fd_asked_sets ["things", "some", "place"] (sp_asked_sets) := by
  have G_sets := ok_sets (P := P) (w := w) (base := base) T
  refine T.F_asked_sets.ok sc_asked_sets (fun vs H Q E h => ?_) (fun cdv A outer s H vs Q E hr h => ?_)
  · obtain ⟨_, _, _, rfl, _⟩ := h
    all_goals rfl
  · refine ⟨_, (pss_cons (ps_set (i := 3) sc_asked_sets.nd rfl (Or.inl rfl) (pe_call G_sets (hr.mono (by decide)) (by rfl) T.g_sets T.F_sets.kp T.b_sets .nil pass0 (pa_cons (pv 0) (pa_cons (pv 1) pa_nil))))
      (pss_one (ps_if (PW.pt (pw_or (pt_cmpR op_lt (pv 2) pe_int (nomark _)) (pw_or1 (pt_cmpR op_ge (pv 2) (pv 3) (nomark _))))) (pss_one ps_never) pss_nil))), ?_⟩
    obtain ⟨n, k, p, rfl, hn, hk, hp, q⟩ := h
    walk_at "rd"
    refine ⟨n, k, rfl, hn, hk, ?_⟩
    walk_at "rd"
    exact q

def sp_set_at : Sp := fun vs H Q _ => ∃ n k p : Nat, vs = [.int (n : Int), .int (k : Int), .int (p : Int)] ∧ n ≤ 40 ∧ k ≤ n ∧ p < C n k ∧
  ∀ H' a, Same H H' → H a = none → H' a = some (.lst ((zs (setAt n k p)).map V.int)) → Q (.ref a) H'
theorem ok_set_at (T : Txt K mg) : FnOk P w K mg base CX0 4 T.f_set_at T.fd_set_at ["things", "some", "place"] (sp_set_at) := by
  have G_asked_sets := ok_asked_sets (P := P) (w := w) (base := base) T
  have G_picks := ok_picks (P := P) (w := w) (base := base) T
  refine T.F_set_at.ok sc_set_at (fun vs H Q E h => ?_) (fun cdv A outer s H vs Q E hr h => ?_)
  · obtain ⟨_, _, _, rfl, _⟩ := h
    all_goals rfl
  · refine ⟨_, (pss_cons (ps_expr (pe_call G_asked_sets (hr.mono (by decide)) (by rfl) T.g_asked_sets T.F_asked_sets.kp T.b_asked_sets .nil pass0 (pa_cons (pv 0) (pa_cons (pv 1) (pa_cons (pv 2) pa_nil)))))
      (pss_cons (ps_set (i := 3) sc_set_at.nd rfl (Or.inl rfl) (pe_lst pa_nil))
      (pss_cons (ps_while PassesOwn.never (pt_cmpR op_gt (pv 1) pe_int (nomark _)) (pss_cons (ps_set (i := 4) sc_set_at.nd rfl (Or.inl rfl) (pe_call G_picks (hr.mono (by decide)) (by rfl) T.g_picks T.F_picks.kp T.b_picks .nil pass0 (pa_cons (pe_op op_sub (pv 0) pe_int) (pa_cons (pv 1) pa_nil))))
      (pss_one (ps_if (PW.pt (pw_and (pt_cmpR op_lt (pv 1) (pv 0) (nomark _)) (pw_and1 (pt_cmpR op_lt (pv 2) (pv 4) (nomark _))))) (pss_one (ps_set (i := 0) sc_set_at.nd rfl (Or.inl rfl) (pe_op op_sub (pv 0) pe_int))) (pss_cons (ps_if (pt_cmpR op_eq (pv 1) (pv 0) (nomark _)) (pss_one (ps_set (i := 4) sc_set_at.nd rfl (Or.inl rfl) pe_int)) pss_nil)
      (pss_cons (ps_set (i := 0) sc_set_at.nd rfl (Or.inl rfl) (pe_op op_sub (pv 0) pe_int))
      (pss_cons (ps_set (i := 1) sc_set_at.nd rfl (Or.inl rfl) (pe_op op_sub (pv 1) pe_int))
      (pss_cons (ps_expr (pe_bm PySem.F.plainAttrs_list PySem.F.slot_list_insert PySem.F.type_list_insert mt_insert (pv 3) (pa_cons pe_int (pa_cons (pv 0) pa_nil))))
      (pss_one (ps_set (i := 2) sc_set_at.nd rfl (Or.inl rfl) (pe_op op_sub (pe_op op_sub (pe_call G_picks (hr.mono (by decide)) (by rfl) T.g_picks T.F_picks.kp T.b_picks .nil pass0 (pa_cons (pv 0) (pa_cons (pv 1) pa_nil))) pe_int) (pe_op op_sub (pv 2) (pv 4)))))))))))))
      (pss_one (ps_ret (pv 3)))))), ?_⟩
    obtain ⟨n, k, p, rfl, hn, hk, hp, q⟩ := h
    walk_at "rd"
    refine ⟨n, k, p, rfl, hn, hk, hp, ?_⟩
    walk_at "rd"
    refine rd_newL (by decide) fun o no => ?_
    walk_at "rd"
    refine whil (fun m σ' H' => ∃ (n' k' p' : Nat) (suf : List Nat) (y : Option V), σ' = [some (.int (n' : Int)), some (.int (k' : Int)), some (.int (p' : Int)), some (.ref o), y] ∧ m = n' ∧ n' ≤ 40 ∧ k' ≤ n' ∧ p' < C n' k' ∧ setAt n' k' p' ++ suf = setAt n k p ∧ Same H H' ∧ H' o = some (.lst ((zs suf).map V.int))) n
      ⟨n, k, p, [], _, rfl, rfl, hn, hk, hp, List.append_nil _, same_upd no, upd_same⟩ ?_
    rintro m σ' H' ⟨n', k', p', suf, y, rfl, rfl, hn', hk', hp', e, sm, ho⟩
    have hsl : suf.length ≤ 40 := by
      have := congrArg List.length e
      rw [List.length_append, setAt_len n k p hk hp] at this
      omega
    walk_at "rd"
    refine if_d2 (fun c => ?_) (fun c => ?_)
    · obtain ⟨j, rfl⟩ : ∃ j, k' = j + 1 := ⟨k' - 1, by omega⟩
      obtain ⟨i, rfl⟩ : ∃ i, m = i + 1 := ⟨m - 1, by omega⟩
      have hpc := hp'
      rw [C_succ] at hpc
      walk_at "rd"
      refine ⟨i, j + 1, vi2 (by omega) rfl, by omega, by omega, ?_⟩
      walk_at "rd"
      refine if_d2 (fun c1 => ?_) (fun c1 => ?_)
      · walk_at "rd"
        refine if_d2 (fun c2 => ?_) (fun c2 => ?_)
        · walk_at "rd"
          rw [show ((i + 1 : Nat) : Int) - 1 = (i : Int) by omega]
          refine ⟨i, by omega, i, j + 1, p', suf, _, rfl, rfl, by omega, by omega, by omega, ?_, sm, ho⟩
          rw [← e, setAt_lo (by omega)]
        · walk_at "rd"
          refine ⟨tyL ho, ?_⟩
          walk_at "rd"
          refine rd_ins (i := 0) rfl ho (by rw [zsV_len]; omega) (by omega) ?_
          walk_at "rd"
          refine ⟨i, j, vi2 (by omega) (by omega), by omega, by omega, ?_⟩
          walk_at "rd"
          rw [show ((i + 1 : Nat) : Int) - 1 = (i : Int) by omega, show ((j + 1 : Nat) : Int) - 1 = (j : Int) by omega, show ((C i j : Nat) : Int) - 1 - ((p' : Int) - ((C i (j + 1) : Nat) : Int)) = ((C i j - 1 - (p' - C i (j + 1)) : Nat) : Int) by omega]
          refine ⟨i, by omega, i, j, C i j - 1 - (p' - C i (j + 1)), i :: suf, _, rfl, rfl, by omega, by omega, by omega, ?_, same_mut sm no, ?_⟩
          · rw [← e, setAt_hi (by omega), List.append_assoc]
            rfl
          · rw [upd_same, zs_cons]
            rfl
      · have ej : j = i := by omega
        subst ej
        have z : C j (j + 1) = 0 := C_gt _ _ (by omega)
        walk_at "rd"
        refine ⟨tyL ho, ?_⟩
        walk_at "rd"
        refine rd_ins (i := 0) rfl ho (by rw [zsV_len]; omega) (by omega) ?_
        walk_at "rd"
        refine ⟨j, j, vi2 (by omega) (by omega), by omega, by omega, ?_⟩
        walk_at "rd"
        rw [show ((j + 1 : Nat) : Int) - 1 = (j : Int) by omega, show ((C j j : Nat) : Int) - 1 - ((p' : Int) - 0) = ((C j j - 1 - (p' - C j (j + 1)) : Nat) : Int) by omega]
        refine ⟨j, by omega, j, j, C j j - 1 - (p' - C j (j + 1)), j :: suf, _, rfl, rfl, by omega, by omega, by omega, ?_, same_mut sm no, ?_⟩
        · rw [← e, setAt_hi (by omega), List.append_assoc]
          rfl
        · rw [upd_same, zs_cons]
          rfl
    · have e0 : k' = 0 := by omega
      subst e0
      rw [setAt_zero] at e
      walk_at "rd"
      rw [show suf = setAt n k p from e] at ho
      exact q H' o sm no ho

def sp_set_step : Sp := fun vs H Q _ => ∃ n k p : Nat, vs = [.int (n : Int), .int (k : Int), .int (p : Int)] ∧ n ≤ 40 ∧ 0 < k ∧ k < n ∧ p < C n k ∧
  ∀ g c, Near (setAt n k p) (setAt n k ((p + 1) % C n k)) g c → ∀ H' a, Same H H' → H a = none → H' a = some (.tup [.int (g : Int), .int (c : Int)]) → Q (.ref a) H'
theorem one_at (z : Nat) : ((zs [z]).map V.int)[0]? = some (.int (z : Int)) := rfl
theorem ok_set_step (T : Txt K mg) : FnOk P w K mg base CX0 5 T.f_set_step T.fd_set_step ["things", "some", "place"] (sp_set_step) := by
  have G_asked_sets := ok_asked_sets (P := P) (w := w) (base := base) T
  have G_picks := ok_picks (P := P) (w := w) (base := base) T
  have G_set_at := ok_set_at (P := P) (w := w) (base := base) T
  refine T.F_set_step.ok sc_set_step (fun vs H Q E h => ?_) (fun cdv A outer s H vs Q E hr h => ?_)
  · obtain ⟨_, _, _, rfl, _⟩ := h
    all_goals rfl
  · refine ⟨_, (pss_cons (ps_expr (pe_call G_asked_sets (hr.mono (by decide)) (by rfl) T.g_asked_sets T.F_asked_sets.kp T.b_asked_sets .nil pass0 (pa_cons (pv 0) (pa_cons (pv 1) (pa_cons (pv 2) pa_nil)))))
      (pss_cons (ps_set (i := 3) sc_set_step.nd rfl (Or.inl rfl) (pe_call G_picks (hr.mono (by decide)) (by rfl) T.g_picks T.F_picks.kp T.b_picks .nil pass0 (pa_cons (pv 0) (pa_cons (pv 1) pa_nil))))
      (pss_cons (ps_if (pt_cmpR op_eq (pv 3) pe_int (nomark _)) (pss_one ps_never) pss_nil)
      (pss_cons (ps_set (i := 4) sc_set_step.nd rfl (Or.inr rfl) (pe_call G_set_at (hr.mono (by decide)) (by rfl) T.g_set_at T.F_set_at.kp T.b_set_at .nil pass0 (pa_cons (pv 0) (pa_cons (pv 1) (pa_cons (pv 2) pa_nil)))))
      (pss_cons (ps_set (i := 5) sc_set_step.nd rfl (Or.inr rfl) (pe_call G_set_at (hr.mono (by decide)) (by rfl) T.g_set_at T.F_set_at.kp T.b_set_at .nil pass0 (pa_cons (pv 0) (pa_cons (pv 1) (pa_cons (pe_op op_mod (pe_op op_add (pv 2) pe_int) (pv 3)) pa_nil)))))
      (pss_cons (ps_setLc (i := 6) (own := [("thing", 8)]) rfl sc_set_step.nd rfl rfl (sw_true rfl rfl rfl (by decide +kernel)) (pi_list (pv 4)) (blkOk_by (own := [("thing", 8)]) (N := N_set_step) (sc := defScope s_set_step) (by decide +kernel)) (fun _ _ _ _ _ => (pg_name (i := 8) sc_set_step.nd rfl (Or.inl rfl))) (fun _ _ _ _ _ => (pts_one (pt_cmpR (show OpR _ _ (rIn K true) from op_notIn_seq) (pv 8) (pv 5) (by rfl)))) (fun _ _ _ _ _ => (pv 8)))
      (pss_cons (ps_setLc (i := 7) (own := [("thing", 8)]) rfl sc_set_step.nd rfl rfl (sw_true rfl rfl rfl (by decide +kernel)) (pi_list (pv 5)) (blkOk_by (own := [("thing", 8)]) (N := N_set_step) (sc := defScope s_set_step) (by decide +kernel)) (fun _ _ _ _ _ => (pg_name (i := 8) sc_set_step.nd rfl (Or.inl rfl))) (fun _ _ _ _ _ => (pts_one (pt_cmpR (show OpR _ _ (rIn K true) from op_notIn_seq) (pv 8) (pv 4) (by rfl)))) (fun _ _ _ _ _ => (pv 8)))
      (pss_one (ps_ret (pe_tup (pa_cons (pe_ix ix_list (pv 6) pe_int (fun _ _ => rfl)) (pa_cons (pe_ix ix_list (pv 7) pe_int (fun _ _ => rfl)) pa_nil)))))))))))), ?_⟩
    obtain ⟨n, k, p, rfl, hn, h0, hk, hp, q⟩ := h
    have big := C_big n k h0 hk
    have hp2 : (p + 1) % C n k < C n k := Nat.mod_lt _ (by omega)
    obtain ⟨g, c, nr⟩ := set_round n k p h0 hk hp
    have q := q g c nr
    have lA := setAt_len n k p (by omega) hp
    have lB := setAt_len n k _ (by omega) hp2
    walk_at "rd"
    refine ⟨n, k, p, rfl, hn, by omega, hp, ?_⟩
    walk_at "rd"
    refine ⟨n, k, rfl, hn, by omega, ?_⟩
    walk_at "rd"
    refine ⟨n, k, p, rfl, hn, by omega, hp, fun H1 a1 sm1 na1 ha1 => ?_⟩
    walk_at "rd"
    refine ⟨n, k, (p + 1) % C n k, rfl, hn, by omega, hp2, fun H2 a2 sm2 na2 ha2 => ?_⟩
    have ha1' := sm2 _ _ ha1
    generalize setAt n k p = A at nr lA ha1'
    generalize setAt n k ((p + 1) % C n k) = B at nr lB ha2
    walk_at "rd"
    refine lc_a (SqL.of ha1') ?_
    refine lc_pure (walk_list (xs := (zs A).map V.int)) (fun i => !B.contains (A.getD i 0)) (fun i => .int ((A.getD i 0 : Nat) : Int)) (fun H' s => SqL.of (s _ _ ha1')) ?_ ?_
    · rintro D i x H3 H4 hi cp ⟨rfl, hx⟩
      rw [zs_get hx]
      walk_at "rd"
      refine ⟨rfl, ?_⟩
      walk_at "rd"
      refine rd_notin (SqL.of (cp.2.1 _ _ ha2)) ?_
      walk_at "rd"
      rw [zsV_len] at hi
      refine if_b2 (fun e => ?_) (fun e => ?_)
      · walk_at "rd"
        exact cp_yes cp (Same.refl _) (by omega) e rfl
      · exact cp_no cp (Same.refl _) e
    · intro D1 H3 nD1 sm3 hD1
      rw [zsV_len, given_out, nr.1] at hD1
      walk_at "rd"
      refine lc_a (SqL.of (sm3 _ _ ha2)) ?_
      refine lc_pure (walk_list (xs := (zs B).map V.int)) (fun i => !A.contains (B.getD i 0)) (fun i => .int ((B.getD i 0 : Nat) : Int)) (fun H' s => SqL.of (s _ _ (sm3 _ _ ha2))) ?_ ?_
      · rintro D i x H4 H5 hi cp ⟨rfl, hx⟩
        rw [zs_get hx]
        walk_at "rd"
        refine ⟨rfl, ?_⟩
        walk_at "rd"
        refine rd_notin (SqL.of (cp.2.1 _ _ (sm3 _ _ ha1'))) ?_
        walk_at "rd"
        rw [zsV_len] at hi
        refine if_b2 (fun e => ?_) (fun e => ?_)
        · walk_at "rd"
          exact cp_yes cp (Same.refl _) (by omega) e rfl
        · exact cp_no cp (Same.refl _) e
      · intro D2 H4 nD2 sm4 hD2
        rw [zsV_len, given_out, nr.2] at hD2
        have hD1' := sm4 _ _ hD1
        walk_at "rd"
        refine rd_at (SqL.of hD1') (one_at g) ?_
        walk_at "rd"
        refine rd_at (SqL.of hD2) (one_at c) ?_
        walk_at "rd"
        refine rd_newL (by show 2 ≤ 100000; decide) fun t nt => ?_
        have sm14 := ((sm1.trans sm2).trans sm3).trans sm4
        exact q _ t (sm14.trans (same_upd nt)) (sm14.free nt) upd_same

def sp_asked_set (K : PySem.W.Frag) : Sp := fun vs H Q _ => ∃ (n : Nat) (a : Addr) (l : List Nat), vs = [.int (n : Int), .ref a] ∧ SqL K H a ((zs l).map V.int) ∧ Up l ∧ (∀ x ∈ l, x < n) ∧ Q .non H
theorem ok_asked_set (T : Txt K mg) : FnOk P w K mg base CX0 1 T.f_asked_set T.fd_asked_set ["things", "members"] (sp_asked_set K) := by
  refine T.F_asked_set.ok sc_asked_set (fun vs H Q E h => ?_) (fun cdv A outer s H vs Q E hr h => ?_)
  · obtain ⟨_, _, _, rfl, _⟩ := h
    all_goals rfl
  · refine ⟨_, (pss_cons (ps_set (i := 2) sc_asked_set.nd rfl (Or.inl rfl) (pe_un un_neg pe_int))
      (pss_one (ps_for PassesOwn.never rfl (pi_list (pv 1)) (pg_name (i := 3) sc_asked_set.nd rfl (Or.inl rfl)) (pss_cons (ps_if (PW.pt (pw_or (pt_cmpR op_le (pv 3) (pv 2) (nomark _)) (pw_or1 (pt_cmpR op_ge (pv 3) (pv 0) (nomark _))))) (pss_one ps_never) pss_nil)
      (pss_one (ps_set (i := 2) sc_asked_set.nd rfl (Or.inl rfl) (pv 3))))))), ?_⟩
    obtain ⟨n, a, l, rfl, hS, hU, hl, q⟩ := h
    walk_at "rd"
    refine forL (xs := (zs l).map V.int) (fun i σ' H' => ∃ (b : Int) (y : Option V), σ' = [some (.int (n : Int)), some (.ref a), some (.int b), y] ∧ H' = H ∧ ∀ x ∈ l.drop i, b < (x : Int)) ⟨-1, _, rfl, rfl, fun x _ => by omega⟩ ?_ ?_ ?_
    · rintro i σ' H' _ ⟨b, y, rfl, rfl, _⟩
      exact hS
    · rintro i x σ' H' hx ⟨b, y, rfl, rfl, hb⟩
      obtain ⟨t, ht, rfl⟩ := zs_got hx
      obtain ⟨hi, e⟩ := List.getElem?_eq_some_iff.mp ht
      have hbt : b < (t : Int) := hb t (by rw [List.drop_eq_getElem_cons hi, e]; simp)
      have htn : t < n := hl t (List.mem_of_getElem? ht)
      walk_at "rd"
      exact ⟨_, _, rfl, rfl, fun z hz => by have := up_drop hU ht z hz; omega⟩
    · rintro σ' H' ⟨b, y, rfl, rfl, _⟩
      exact q

def sp_place_of_set (K : PySem.W.Frag) : Sp := fun vs H Q _ => ∃ (n : Nat) (a : Addr) (l : List Nat), vs = [.int (n : Int), .ref a] ∧ n ≤ 40 ∧ SqL K H a ((zs l).map V.int) ∧ Up l ∧ (∀ x ∈ l, x < n) ∧ Q (.int ((pset l : Nat) : Int)) H
theorem ok_place_of_set (T : Txt K mg) : FnOk P w K mg base CX0 2 T.f_place_of_set T.fd_place_of_set ["things", "members"] (sp_place_of_set K) := by
  have G_asked_set := ok_asked_set (P := P) (w := w) (base := base) T
  have G_picks := ok_picks (P := P) (w := w) (base := base) T
  refine T.F_place_of_set.ok sc_place_of_set (fun vs H Q E h => ?_) (fun cdv A outer s H vs Q E hr h => ?_)
  · obtain ⟨_, _, _, rfl, _⟩ := h
    all_goals rfl
  · refine ⟨_, (pss_cons (ps_if (PW.pt (pw_or (pt_cmpR op_lt (pv 0) pe_int (nomark _)) (pw_or1 (pt_cmpR op_gt (pv 0) (pe_glob (v := .int 40) rfl T.g_MOST_sets ⟨_, rfl⟩) (nomark _))))) (pss_one ps_never) pss_nil)
      (pss_cons (ps_expr (pe_call G_asked_set (hr.mono (by decide)) (by rfl) T.g_asked_set T.F_asked_set.kp T.b_asked_set .nil pass0 (pa_cons (pv 0) (pa_cons (pv 1) pa_nil))))
      (pss_cons (ps_set (i := 2) sc_place_of_set.nd rfl (Or.inl rfl) pe_int)
      (pss_cons (ps_for PassesOwn.never rfl (pi_range1 rfl T.m_range (pa_cons (pe_callB call_len_seq (by rfl) T.m_len PySem.boot_len (pa_cons (pv 1) pa_nil)) pa_nil)) (pg_name (i := 3) sc_place_of_set.nd rfl (Or.inl rfl)) (pss_cons (ps_set (i := 4) sc_place_of_set.nd rfl (Or.inl rfl) (pe_ix ix_list (pv 1) (pv 3) (fun _ _ => rfl)))
      (pss_one (ps_set (i := 2) sc_place_of_set.nd rfl (Or.inl rfl) (pe_op op_sub (pe_op op_sub (pe_op op_add (pe_call G_picks (hr.mono (by decide)) (by rfl) T.g_picks T.F_picks.kp T.b_picks .nil pass0 (pa_cons (pv 4) (pa_cons (pe_op op_add (pv 3) pe_int) pa_nil))) (pe_call G_picks (hr.mono (by decide)) (by rfl) T.g_picks T.F_picks.kp T.b_picks .nil pass0 (pa_cons (pv 4) (pa_cons (pv 3) pa_nil)))) pe_int) (pv 2))))))
      (pss_one (ps_ret (pv 2))))))), ?_⟩
    obtain ⟨n, a, l, rfl, hn, hS, hU, hl, q⟩ := h
    have hle := up_le n hU hl
    walk_at "rd"
    refine ⟨n, a, l, rfl, hS, hU, hl, ?_⟩
    walk_at "rd"
    refine rd_len hS ?_
    rw [zsV_len]
    refine for1 (n := l.length) (by omega) (fun i σ' H' => ∃ y z : Option V, σ' = [some (.int (n : Int)), some (.ref a), some (.int ((pset (l.take i) : Nat) : Int)), y, z] ∧ H' = H) ⟨_, _, rfl, rfl⟩ ?_ ?_
    · rintro i σ' H' hi ⟨y, z, rfl, rfl⟩
      have e := List.getElem?_eq_getElem hi
      generalize l[i] = t at e
      have htn : t < n := hl t (List.mem_of_getElem? e)
      have hit := up_at hU e
      have lt := (pset_ok t (l.take i) (List.Pairwise.sublist (List.take_sublist i l) hU) (up_take hU e)).1
      have ltl : (l.take i).length = i := by rw [List.length_take]; omega
      rw [ltl] at lt
      walk_at "rd"
      refine rd_at hS (zs_at e) ?_
      walk_at "rd"
      refine ⟨t, i + 1, rfl, by omega, by omega, ?_⟩
      walk_at "rd"
      refine ⟨t, i, rfl, by omega, by omega, ?_⟩
      walk_at "rd"
      have en : pset (l.take (i + 1)) = C t (i + 1) + C t i - 1 - pset (l.take i) := by
        rw [show l.take (i + 1) = l.take i ++ [t] by rw [List.take_add_one, e]; rfl, pset_snoc, ltl]
      rw [show ((C t (i + 1) : Nat) : Int) + ((C t i : Nat) : Int) - 1 - ((pset (l.take i) : Nat) : Int) = ((pset (l.take (i + 1)) : Nat) : Int) by omega]
      exact ⟨_, _, rfl, rfl⟩
    · rintro σ' H' ⟨y, z, rfl, rfl⟩
      rw [List.take_length]
      walk_at "rd"
      exact q

theorem fact20 : fact 20 = 2432902008176640000 := by decide +kernel
def sp_orders : Sp := fun vs H Q _ => ∃ n : Nat, vs = [.int (n : Int)] ∧ n ≤ 20 ∧ Q (.int ((fact n : Nat) : Int)) H
theorem fact_turn (k : Nat) : ((fact k : Nat) : Int) * ((k : Int) + 1) = ((fact (k + 1) : Nat) : Int) := by
  show _ = ((fact k * (k + 1) : Nat) : Int)
  rw [Int.natCast_mul]
  rfl
theorem ok_orders (T : Txt K mg) : FnOk P w K mg base CX0 1 T.f_orders T.fd_orders ["things"] (sp_orders) := by
  refine T.F_orders.ok sc_orders (fun vs H Q E h => ?_) (fun cdv A outer s H vs Q E hr h => ?_)
  · obtain ⟨_, rfl, _⟩ := h
    all_goals rfl
  · refine ⟨_, (pss_cons (ps_if (PW.pt (pw_or (pt_cmpR op_lt (pv 0) pe_int (nomark _)) (pw_or1 (pt_cmpR op_gt (pv 0) (pe_glob (v := .int 20) rfl T.g_MOST_orders ⟨_, rfl⟩) (nomark _))))) (pss_one ps_never) pss_nil)
      (pss_cons (ps_set (i := 1) sc_orders.nd rfl (Or.inl rfl) pe_int)
      (pss_cons (ps_for PassesOwn.never rfl (pi_range1 rfl T.m_range (pa_cons (pv 0) pa_nil)) (pg_name (i := 2) sc_orders.nd rfl (Or.inl rfl)) (pss_one (ps_set (i := 1) sc_orders.nd rfl (Or.inl rfl) (pe_op op_mul (pv 1) (pe_op op_add (pv 2) pe_int)))))
      (pss_one (ps_ret (pv 1)))))), ?_⟩
    obtain ⟨n, rfl, hn, q⟩ := h
    walk_at "rd"
    refine for1 (n := n) (by omega) (fun k σ' H' => ∃ y, σ' = [some (.int (n : Int)), some (.int ((fact k : Nat) : Int)), y] ∧ H' = H) ⟨_, rfl, rfl⟩ ?_ ?_
    · rintro k σ' H' hk ⟨y, rfl, rfl⟩
      walk_at "rd"
      rw [fact_turn]
      exact ⟨_, rfl, rfl⟩
    · rintro σ' H' ⟨y, rfl, rfl⟩
      walk_at "rd"
      exact q

def sp_asked_orders : Sp := fun vs H Q _ => ∃ n p : Nat, vs = [.int (n : Int), .int (p : Int)] ∧ n ≤ 20 ∧ p < fact n ∧ Q .non H
theorem ok_asked_orders (T : Txt K mg) : FnOk P w K mg base CX0 2 T.f_asked_orders T.fd_asked_orders ["things", "place"] (sp_asked_orders) := by
  have G_orders := ok_orders (P := P) (w := w) (base := base) T
  refine T.F_asked_orders.ok sc_asked_orders (fun vs H Q E h => ?_) (fun cdv A outer s H vs Q E hr h => ?_)
  · obtain ⟨_, _, rfl, _⟩ := h
    all_goals rfl
  · refine ⟨_, (pss_cons (ps_set (i := 2) sc_asked_orders.nd rfl (Or.inl rfl) (pe_call G_orders (hr.mono (by decide)) (by rfl) T.g_orders T.F_orders.kp T.b_orders .nil pass0 (pa_cons (pv 0) pa_nil)))
      (pss_one (ps_if (PW.pt (pw_or (pt_cmpR op_lt (pv 1) pe_int (nomark _)) (pw_or1 (pt_cmpR op_ge (pv 1) (pv 2) (nomark _))))) (pss_one ps_never) pss_nil))), ?_⟩
    obtain ⟨n, p, rfl, hn, hp, q⟩ := h
    walk_at "rd"
    refine ⟨n, rfl, hn, ?_⟩
    walk_at "rd"
    exact q

def sp_order_at : Sp := fun vs H Q _ => ∃ n p : Nat, vs = [.int (n : Int), .int (p : Int)] ∧ n ≤ 20 ∧ p < fact n ∧
  ∀ H' a, Same H H' → H a = none → H' a = some (.lst ((zs (ordAt n p)).map V.int)) → Q (.ref a) H'
def wV (w : Nat × Nat × Nat) : List V := [.int (w.1 : Int), .int (w.2.1 : Int), .int (w.2.2 : Int)]
theorem zs_ins (x i : Nat) (l : List Nat) : (zs (ins x i l)).map V.int = ((zs l).map V.int).take i ++ [V.int (x : Int)] ++ ((zs l).map V.int).drop i := by
  unfold ins
  rw [zs_append, zs_snoc, zs_take, zs_drop]
theorem ok_order_at (T : Txt K mg) : FnOk P w K mg base CX0 3 T.f_order_at T.fd_order_at ["things", "place"] (sp_order_at) := by
  have G_asked_orders := ok_asked_orders (P := P) (w := w) (base := base) T
  refine T.F_order_at.ok sc_order_at (fun vs H Q E h => ?_) (fun cdv A outer s H vs Q E hr h => ?_)
  · obtain ⟨_, _, rfl, _⟩ := h
    all_goals rfl
  · refine ⟨_, (pss_cons (ps_expr (pe_call G_asked_orders (hr.mono (by decide)) (by rfl) T.g_asked_orders T.F_asked_orders.kp T.b_asked_orders .nil pass0 (pa_cons (pv 0) (pa_cons (pv 1) pa_nil))))
      (pss_cons (ps_set (i := 2) sc_order_at.nd rfl (Or.inl rfl) (pe_lst pa_nil))
      (pss_cons (ps_for PassesOwn.never rfl (pi_revR (by rfl) T.m_reversed (prg_2 (by rfl) T.m_range pe_int (pe_op op_add (pv 0) pe_int))) (pg_name (i := 3) sc_order_at.nd rfl (Or.inl rfl)) (pss_cons (ps_expr (pe_bm PySem.F.plainAttrs_list PySem.F.slot_list_append PySem.F.type_list_append mt_append (pv 2) (pa_cons (pe_tup (pa_cons (pe_op op_sub (pv 3) pe_int) (pa_cons (pe_op op_mod (pv 1) (pv 3)) (pa_cons (pe_op op_fdiv (pv 1) (pv 3)) pa_nil)))) pa_nil)))
      (pss_one (ps_set (i := 1) sc_order_at.nd rfl (Or.inl rfl) (pe_op op_fdiv (pv 1) (pv 3))))))
      (pss_cons (ps_set (i := 4) sc_order_at.nd rfl (Or.inl rfl) (pe_lst pa_nil))
      (pss_cons (ps_for PassesOwn.never rfl (pi_reversed (by rfl) T.m_reversed (pa_cons (pv 2) pa_nil)) (pg_tup rfl (pgs_cons (pg_name (i := 5) sc_order_at.nd rfl (Or.inl rfl)) (pgs_cons (pg_name (i := 6) sc_order_at.nd rfl (Or.inl rfl)) (pgs_cons (pg_name (i := 7) sc_order_at.nd rfl (Or.inl rfl)) pgs_nil)))) (pss_one (ps_if (pt_cmpR op_eq (pe_op op_mod (pv 7) pe_int) pe_int (nomark _)) (pss_one (ps_expr (pe_bm PySem.F.plainAttrs_list PySem.F.slot_list_insert PySem.F.type_list_insert mt_insert (pv 4) (pa_cons (pe_op op_sub (pv 5) (pv 6)) (pa_cons (pv 5) pa_nil))))) (pss_one (ps_expr (pe_bm PySem.F.plainAttrs_list PySem.F.slot_list_insert PySem.F.type_list_insert mt_insert (pv 4) (pa_cons (pv 6) (pa_cons (pv 5) pa_nil))))))))
      (pss_one (ps_ret (pv 4)))))))), ?_⟩
    obtain ⟨n, p, rfl, hn, hp, q⟩ := h
    have wl := ways_len n p
    walk_at "rd"
    refine ⟨n, p, rfl, hn, hp, ?_⟩
    walk_at "rd"
    refine rd_newL (by decide) fun o no => ?_
    walk_at "rd"
    refine forRR (n := n) (by omega) (fun i σ' H' => ∃ (y : Option V), σ' = [some (.int (n : Int)), some (.int ((elder n i p : Nat) : Int)), some (.ref o), y, none, none, none, none] ∧ Same H H' ∧ TL H' o (((ways n p).take i).map wV)) ?_ ?_ ?_
    · rw [elder_zero]
      exact ⟨_, rfl, same_upd no, [], upd_same, rfl, fun j p w e => by simp at e⟩
    · rintro i σ' H' hi ⟨y, rfl, sm, hT⟩
      obtain ⟨e1, e2⟩ := ways_get (p := p) hi
      obtain ⟨xs, hx, hxl⟩ := hT.len
      rw [List.length_map, List.length_take, wl] at hxl
      walk_at "rd"
      refine ⟨tyL hx, ?_⟩
      walk_at "rd"
      refine rd_newL (by show 3 ≤ 100000; decide) fun t nt => ?_
      have hT2 := hT.same (same_upd (o := .tup (wV (n - 1 - i, elder n i p % (n - i), elder n i p / (n - i)))) nt)
      have hx2 := same_upd (o := .tup (wV (n - 1 - i, elder n i p % (n - i), elder n i p / (n - i)))) nt _ _ hx
      have sm2 := sm.trans (same_upd (o := .tup (wV (n - 1 - i, elder n i p % (n - i), elder n i p / (n - i)))) nt)
      have ew : wV (n - 1 - i, elder n i p % (n - i), elder n i p / (n - i)) = [V.int (((n - i : Nat) : Int) - 1), V.int (((elder n i p : Nat) : Int) % ((n - i : Nat) : Int)), V.int (((elder n i p : Nat) : Int) / ((n - i : Nat) : Int))] := by
        rw [show ((n - i : Nat) : Int) - 1 = ((n - 1 - i : Nat) : Int) by omega]
        rfl
      rw [← ew]
      walk_at "rd"
      refine rd_app hx2 (by omega) ?_
      walk_at "rd"
      rw [show ((elder n i p : Nat) : Int) / ((n - i : Nat) : Int) = ((elder n (i + 1) p : Nat) : Int) by rw [e2]; rfl]
      refine ⟨_, rfl, same_mut sm2 no, ?_⟩
      rw [List.take_add_one, e1, List.map_append]
      exact hT2.app hx2 upd_same
    · rintro σ' H1 ⟨y, rfl, sm, hT⟩
      rw [List.take_of_length_le (by omega)] at hT
      obtain ⟨xs, hx, hxl⟩ := hT.len
      rw [List.length_map, wl] at hxl
      walk_at "rd"
      refine rd_newL (by decide) fun f nf => ?_
      have hof : o ≠ f := ne_of_none hx nf
      walk_at "rd"
      refine forV (xs := xs) (fun i σ' H' => ∃ (z0 z1 z2 z3 z4 z5 : Option V), σ' = [z0, z1, some (.ref o), z2, some (.ref f), z3, z4, z5] ∧ Same H1 H' ∧ H' f = some (.lst ((zs (ordW ((ways n p).drop (n - i)))).map V.int))) ?_ ?_ ?_ ?_
      · rw [Nat.sub_zero, List.drop_of_length_le (by omega)]
        exact ⟨_, _, _, _, _, _, rfl, same_upd nf, upd_same⟩
      · rintro i σ' H' _ ⟨z0, z1, z2, z3, z4, z5, _, sm1, _⟩
        exact SqL.of (sm1 _ _ hx)
      · rintro i x σ' H' hi hxi ⟨z0, z1, z2, z3, z4, z5, rfl, sm1, hf⟩
        rw [hxl] at hi hxi
        have hj : n - 1 - i < (ways n p).length := by omega
        have ej := List.getElem?_eq_getElem hj
        generalize hw : (ways n p)[n - 1 - i] = w at ej
        obtain ⟨x0, t0, el0⟩ := w
        obtain ⟨e1, e2⟩ := ways_get (n := n) (i := n - 1 - i) (p := p) (by omega)
        rw [ej] at e1
        have hx0 : x0 = i := by
          have := congrArg (fun o => (o.getD (0, 0, 0)).1) e1
          have h2 : x0 = n - 1 - (n - 1 - i) := this
          omega
        have ht0 : t0 ≤ i := by
          have := congrArg (fun o => (o.getD (0, 0, 0)).2.1) e1
          have h2 : t0 = elder n (n - 1 - i) p % (n - (n - 1 - i)) := this
          have h3 := Nat.mod_lt (elder n (n - 1 - i) p) (show n - (n - 1 - i) > 0 by omega)
          omega
        subst hx0
        obtain ⟨qa, rfl, hq⟩ := (hT.same sm1).at (sm1 _ _ hx) hxi (show ((ways n p).map wV)[n - 1 - x0]? = some (wV (x0, t0, el0)) by rw [List.getElem?_map, ej]; rfl)
        have ed : (ways n p).drop (n - (x0 + 1)) = (x0, t0, el0) :: (ways n p).drop (n - x0) := by
          rw [show n - (x0 + 1) = n - 1 - x0 by omega, List.drop_eq_getElem_cons hj, hw, show n - 1 - x0 + 1 = n - x0 by omega]
        have lo : (ordW ((ways n p).drop (n - x0))).length = x0 := by
          rw [ways_drop n (n - x0) p (by omega), ordW_ways, ordAt_len]
          omega
        have hq3 : H' qa = some (.tup [.int (x0 : Int), .int (t0 : Int), .int (el0 : Int)]) := hq
        refine tup3 (SqT.of hq3) ?_
        walk_at "rd"
        refine if_d2 (fun c => ?_) (fun c => ?_)
        · walk_at "rd"
          refine ⟨tyL hf, ?_⟩
          walk_at "rd"
          refine rd_ins (i := x0 - t0) (by omega) hf (by rw [zsV_len, lo]; omega) (by omega) ?_
          refine ⟨_, _, _, _, _, _, rfl, same_mut sm1 nf, ?_⟩
          rw [upd_same, ed]
          show _ = some (HO.lst ((zs (ins x0 (slot x0 el0 t0) _)).map V.int))
          rw [show slot x0 el0 t0 = x0 - t0 by unfold slot; rw [if_pos (by omega)], zs_ins, Int.toNat_natCast]
        · walk_at "rd"
          refine ⟨tyL hf, ?_⟩
          walk_at "rd"
          refine rd_ins (i := t0) rfl hf (by rw [zsV_len, lo]; omega) (by omega) ?_
          refine ⟨_, _, _, _, _, _, rfl, same_mut sm1 nf, ?_⟩
          rw [upd_same, ed]
          show _ = some (HO.lst ((zs (ins x0 (slot x0 el0 t0) _)).map V.int))
          rw [show slot x0 el0 t0 = t0 by unfold slot; rw [if_neg (by omega)], zs_ins, Int.toNat_natCast]
      · rintro σ' H' ⟨z0, z1, z2, z3, z4, z5, rfl, sm1, hf⟩
        rw [hxl, Nat.sub_self, List.drop_zero, ordW_ways] at hf
        walk_at "rd"
        exact q H' f (sm.trans sm1) (sm.free nf) hf

def sp_order_step : Sp := fun vs H Q _ => ∃ n p : Nat, vs = [.int (n : Int), .int (p : Int)] ∧ n ≤ 20 ∧ 2 ≤ n ∧ p < fact n ∧
  ∀ s, Swap (ordAt n p) (ordAt n ((p + 1) % fact n)) s → ∀ H', Same H H' → Q (.int (s : Int)) H'
theorem swap_at {A B : List Nat} {s : Nat} (h : Swap A B s) : (∀ j, j < s → ∃ x, A[j]? = some x ∧ B[j]? = some x) ∧ ∃ u v, A[s]? = some u ∧ B[s]? = some v ∧ A[s + 1]? = some v ∧ B[s + 1]? = some u ∧ u ≠ v := by
  obtain ⟨X, u, v, Y, h1, h2, h3, h4⟩ := h
  subst h1 h2 h3
  refine ⟨fun j hj => ⟨X[j], ?_, ?_⟩, u, v, ?_, ?_, ?_, ?_, h4⟩
  · rw [List.getElem?_append_left hj, List.getElem?_eq_getElem hj]
  · rw [List.getElem?_append_left hj, List.getElem?_eq_getElem hj]
  · rw [List.getElem?_append_right (Nat.le_refl _), Nat.sub_self]
    rfl
  · rw [List.getElem?_append_right (Nat.le_refl _), Nat.sub_self]
    rfl
  · rw [List.getElem?_append_right (by omega), show X.length + 1 - X.length = 1 by omega]
    rfl
  · rw [List.getElem?_append_right (by omega), show X.length + 1 - X.length = 1 by omega]
    rfl
theorem swap_len {A B : List Nat} {s : Nat} (h : Swap A B s) : s + 1 < A.length := by
  obtain ⟨_, u, v, _, _, e, _, _⟩ := swap_at h
  exact (List.getElem?_eq_some_iff.mp e).1
theorem ok_order_step (T : Txt K mg) : FnOk P w K mg base CX0 4 T.f_order_step T.fd_order_step ["things", "place"] (sp_order_step) := by
  have G_asked_orders := ok_asked_orders (P := P) (w := w) (base := base) T
  have G_order_at := ok_order_at (P := P) (w := w) (base := base) T
  have G_orders := ok_orders (P := P) (w := w) (base := base) T
  refine T.F_order_step.ok sc_order_step (fun vs H Q E h => ?_) (fun cdv A outer s H vs Q E hr h => ?_)
  · obtain ⟨_, _, rfl, _⟩ := h
    all_goals rfl
  · refine ⟨_, (pss_cons (ps_expr (pe_call G_asked_orders (hr.mono (by decide)) (by rfl) T.g_asked_orders T.F_asked_orders.kp T.b_asked_orders .nil pass0 (pa_cons (pv 0) (pa_cons (pv 1) pa_nil))))
      (pss_cons (ps_if (pt_cmpR op_lt (pv 0) pe_int (nomark _)) (pss_one ps_never) pss_nil)
      (pss_cons (ps_set (i := 2) sc_order_step.nd rfl (Or.inl rfl) (pe_call G_order_at (hr.mono (by decide)) (by rfl) T.g_order_at T.F_order_at.kp T.b_order_at .nil pass0 (pa_cons (pv 0) (pa_cons (pv 1) pa_nil))))
      (pss_cons (ps_set (i := 3) sc_order_step.nd rfl (Or.inl rfl) (pe_call G_order_at (hr.mono (by decide)) (by rfl) T.g_order_at T.F_order_at.kp T.b_order_at .nil pass0 (pa_cons (pv 0) (pa_cons (pe_op op_mod (pe_op op_add (pv 1) pe_int) (pe_call G_orders (hr.mono (by decide)) (by rfl) T.g_orders T.F_orders.kp T.b_orders .nil pass0 (pa_cons (pv 0) pa_nil))) pa_nil))))
      (pss_cons (ps_set (i := 4) sc_order_step.nd rfl (Or.inl rfl) pe_int)
      (pss_cons (ps_while PassesOwn.never (pt_cmpR op_eq (pe_ix ix_list (pv 2) (pv 4) (fun _ _ => rfl)) (pe_ix ix_list (pv 3) (pv 4) (fun _ _ => rfl)) (nomark _)) (pss_one (ps_set (i := 4) sc_order_step.nd rfl (Or.inl rfl) (pe_op op_add (pv 4) pe_int))))
      (pss_one (ps_ret (pv 4))))))))), ?_⟩
    obtain ⟨n, p, rfl, hn, hn2, hp, q⟩ := h
    have hp2 : (p + 1) % fact n < fact n := Nat.mod_lt _ (by omega)
    obtain ⟨s, sw⟩ := ord_turn n p hn2 hp
    have q := q s sw
    have sl := swap_len sw
    rw [ordAt_len] at sl
    obtain ⟨sw1, u, v, sA, sB, _, _, huv⟩ := swap_at sw
    walk_at "rd"
    refine ⟨n, p, rfl, hn, hp, ?_⟩
    walk_at "rd"
    refine ⟨n, p, rfl, hn, hp, fun H1 a1 sm1 na1 ha1 => ?_⟩
    walk_at "rd"
    refine ⟨n, rfl, hn, ?_⟩
    walk_at "rd"
    refine ⟨n, (p + 1) % fact n, rfl, hn, hp2, fun H2 a2 sm2 na2 ha2 => ?_⟩
    have hA := SqL.of (K := K) (sm2 _ _ ha1)
    have hB := SqL.of (K := K) ha2
    generalize ordAt n p = A at *
    generalize ordAt n ((p + 1) % fact n) = B at *
    walk_at "rd"
    refine whil (fun m σ' H' => ∃ j : Nat, σ' = [some (.int (n : Int)), some (.int (p : Int)), some (.ref a1), some (.ref a2), some (.int (j : Int))] ∧ H' = H2 ∧ j ≤ s ∧ m = s - j) s ⟨0, rfl, rfl, Nat.zero_le _, rfl⟩ ?_
    rintro m σ' H' ⟨j, rfl, rfl, hj, rfl⟩
    by_cases c : j < s
    · obtain ⟨x, xA, xB⟩ := sw1 j c
      walk_at "rd"
      refine rd_at hA (zs_at xA) ?_
      walk_at "rd"
      refine rd_at hB (zs_at xB) ?_
      walk_at "rd"
      exact ⟨s - (j + 1), by omega, j + 1, rfl, rfl, by omega, rfl⟩
    · have e : j = s := by omega
      subst e
      walk_at "rd"
      refine rd_at hA (zs_at sA) ?_
      walk_at "rd"
      refine rd_at hB (zs_at sB) ?_
      walk_at "rd"
      exact q _ (sm1.trans sm2)

def sp_Walker_init (K : PySem.W.Frag) : Sp := fun vs H Q _ => ∃ (p C dx : Addr) (t : Int), vs = [.ref p, .int t] ∧ WCls K C ∧ H p = some (.ins C dx []) ∧ ∀ H', (∀ b, b ≠ p → H' b = H b) → H' p = some (.ins C dx (Wf t 0 [])) → Q .non H'
theorem ok_Walker_init (T : Txt K mg) : FnOk P w K mg base CX0 1 T.f_Walker_init T.fd_Walker_init ["self", "total"] (sp_Walker_init K) := by
  refine T.F_Walker_init.ok sc_Walker_init (fun vs H Q E h => ?_) (fun cdv A outer s H vs Q E hr h => ?_)
  · obtain ⟨_, _, _, _, rfl, _⟩ := h
    all_goals rfl
  · refine ⟨_, (pss_cons (ps_fld (pv 0) (pv 1) rfl)
      (pss_one (ps_fld (pv 0) pe_int rfl))), ?_⟩
    obtain ⟨p, C, dx, t, rfl, W, hp, q⟩ := h
    walk_at "rd"
    refine ⟨p, C, dx, _, rfl, hp, W.cl, W.nT, (by show 0 < 1000; decide), ?_⟩
    walk_at "rd"
    refine ⟨p, C, dx, _, rfl, upd_same, W.cl, W.nA, (by show 1 < 1000; decide), ?_⟩
    rw [upd_upd, Wf_new]
    walk_at "rd"
    exact q _ (fun b hb => upd_ne hb) upd_same

def sp_make {K : PySem.W.Frag} {mg : Str → Option Value} (T : Txt K mg) (d : WDat) (args : List V) : Sp := fun vs H Q _ => ∃ (p dx : Addr), vs = .ref p :: args ∧ d.Good ∧ H p = some (.ins (d.cls T) dx []) ∧ ∀ H', (∀ b, b ≠ p → H' b = H b) → On T d H' p 0 → Q .non H'

def sp_RowWalker_init {K : PySem.W.Frag} {mg : Str → Option Value} (T : Txt K mg) : Sp := fun vs H Q E => ∃ n : Nat, sp_make T (.wr n) [.int (n : Int)] vs H Q E
theorem ok_RowWalker_init (T : Txt K mg) : FnOk P w K mg base CX0 2 T.f_RowWalker_init T.fd_RowWalker_init ["self", "size"] (sp_RowWalker_init T) := by
  have G_Walker_init := ok_Walker_init (P := P) (w := w) (base := base) T
  have G_rows := ok_rows (P := P) (w := w) (base := base) T
  refine T.F_RowWalker_init.ok sc_RowWalker_init (fun vs H Q E h => ?_) (fun cdv A outer s H vs Q E hr h => ?_)
  · obtain ⟨_, _, _, rfl, _⟩ := h
    all_goals rfl
  · refine ⟨_, (pss_cons (ps_expr (pe_cfun (pe_glob (v := .ref T.c_Walker) (by rfl) T.g_Walker rfl) T.cf_Walker G_Walker_init (hr.mono (by decide)) T.b_Walker_init pass0 (pa_cons (pv 0) (pa_cons (pe_call G_rows (hr.mono (by decide)) (by rfl) T.g_rows T.F_rows.kp T.b_rows .nil pass0 (pa_cons (pv 1) pa_nil)) pa_nil))))
      (pss_one (ps_fld (pv 0) (pv 1) rfl))), ?_⟩
    obtain ⟨n, p, dx, rfl, hn, hp, q⟩ := h
    have W := wcls T (.wr n)
    walk_at "rd"
    refine ⟨rfl, ?_⟩
    walk_at "rd"
    refine ⟨n, rfl, hn, ?_⟩
    walk_at "rd"
    refine ⟨p, _, dx, _, rfl, W, hp, fun H1 k1 h1 => ?_⟩
    walk_at "rd"
    refine ⟨p, _, dx, _, rfl, h1, W.cl, T.na_RowWalker_size, (by show 2 < 1000; decide), ?_⟩
    rw [Wf_add n_ts n_as, pf_nil]
    walk_at "rd"
    exact q _ (fun b hb => (upd_ne hb).trans (k1 b hb)) ⟨dx, upd_same⟩

def sp_SetWalker_init {K : PySem.W.Frag} {mg : Str → Option Value} (T : Txt K mg) : Sp := fun vs H Q E => ∃ n k : Nat, sp_make T (.ws n k) [.int (n : Int), .int (k : Int)] vs H Q E
theorem ok_SetWalker_init (T : Txt K mg) : FnOk P w K mg base CX0 3 T.f_SetWalker_init T.fd_SetWalker_init ["self", "things", "some"] (sp_SetWalker_init T) := by
  have G_Walker_init := ok_Walker_init (P := P) (w := w) (base := base) T
  have G_sets := ok_sets (P := P) (w := w) (base := base) T
  refine T.F_SetWalker_init.ok sc_SetWalker_init (fun vs H Q E h => ?_) (fun cdv A outer s H vs Q E hr h => ?_)
  · obtain ⟨_, _, _, _, rfl, _⟩ := h
    all_goals rfl
  · refine ⟨_, (pss_cons (ps_expr (pe_cfun (pe_glob (v := .ref T.c_Walker) (by rfl) T.g_Walker rfl) T.cf_Walker G_Walker_init (hr.mono (by decide)) T.b_Walker_init pass0 (pa_cons (pv 0) (pa_cons (pe_call G_sets (hr.mono (by decide)) (by rfl) T.g_sets T.F_sets.kp T.b_sets .nil pass0 (pa_cons (pv 1) (pa_cons (pv 2) pa_nil))) pa_nil))))
      (pss_cons (ps_fld (pv 0) (pv 1) rfl)
      (pss_one (ps_fld (pv 0) (pv 2) rfl)))), ?_⟩
    obtain ⟨n, k, p, dx, rfl, hn, hp, q⟩ := h
    have W := wcls T (.ws n k)
    walk_at "rd"
    refine ⟨rfl, ?_⟩
    walk_at "rd"
    refine ⟨n, k, rfl, hn.1, hn.2, ?_⟩
    walk_at "rd"
    refine ⟨p, _, dx, _, rfl, W, hp, fun H1 k1 h1 => ?_⟩
    walk_at "rd"
    refine ⟨p, _, dx, _, rfl, h1, W.cl, T.na_SetWalker_things, (by show 2 < 1000; decide), ?_⟩
    rw [Wf_add n_tt n_at, pf_nil]
    walk_at "rd"
    refine ⟨p, _, dx, _, rfl, upd_same, W.cl, T.na_SetWalker_some, (by show 3 < 1000; decide), ?_⟩
    rw [upd_upd, Wf_add n_to n_ao, pf_ne n_ho, pf_nil]
    walk_at "rd"
    exact q _ (fun b hb => (upd_ne hb).trans (k1 b hb)) ⟨dx, upd_same⟩

def sp_OrderWalker_init {K : PySem.W.Frag} {mg : Str → Option Value} (T : Txt K mg) : Sp := fun vs H Q E => ∃ n : Nat, sp_make T (.wo n) [.int (n : Int)] vs H Q E
theorem ok_OrderWalker_init (T : Txt K mg) : FnOk P w K mg base CX0 2 T.f_OrderWalker_init T.fd_OrderWalker_init ["self", "things"] (sp_OrderWalker_init T) := by
  have G_Walker_init := ok_Walker_init (P := P) (w := w) (base := base) T
  have G_orders := ok_orders (P := P) (w := w) (base := base) T
  refine T.F_OrderWalker_init.ok sc_OrderWalker_init (fun vs H Q E h => ?_) (fun cdv A outer s H vs Q E hr h => ?_)
  · obtain ⟨_, _, _, rfl, _⟩ := h
    all_goals rfl
  · refine ⟨_, (pss_cons (ps_expr (pe_cfun (pe_glob (v := .ref T.c_Walker) (by rfl) T.g_Walker rfl) T.cf_Walker G_Walker_init (hr.mono (by decide)) T.b_Walker_init pass0 (pa_cons (pv 0) (pa_cons (pe_call G_orders (hr.mono (by decide)) (by rfl) T.g_orders T.F_orders.kp T.b_orders .nil pass0 (pa_cons (pv 1) pa_nil)) pa_nil))))
      (pss_one (ps_fld (pv 0) (pv 1) rfl))), ?_⟩
    obtain ⟨n, p, dx, rfl, hn, hp, q⟩ := h
    have W := wcls T (.wo n)
    walk_at "rd"
    refine ⟨rfl, ?_⟩
    walk_at "rd"
    refine ⟨n, rfl, hn, ?_⟩
    walk_at "rd"
    refine ⟨p, _, dx, _, rfl, W, hp, fun H1 k1 h1 => ?_⟩
    walk_at "rd"
    refine ⟨p, _, dx, _, rfl, h1, W.cl, T.na_OrderWalker_things, (by show 2 < 1000; decide), ?_⟩
    rw [Wf_add n_tt n_at, pf_nil]
    walk_at "rd"
    exact q _ (fun b hb => (upd_ne hb).trans (k1 b hb)) ⟨dx, upd_same⟩

def sp_bad_rows {K : PySem.W.Frag} {mg : Str → Option Value} (T : Txt K mg) : Sp := fun vs H _ E => ∃ (z : Int), vs = [.int z] ∧ (z < 0 ∨ 40 < z) ∧ E (.ref T.c_NoSize) none H
theorem bad_rows (T : Txt K mg) : FnOk P w K mg base (L2.CX P w) 1 T.f_rows T.fd_rows ["size"] (sp_bad_rows T) := by
  refine T.F_rows.okX sc_rows (fun vs H Q E h => ?_) (fun cdv A outer s H vs Q E hr h => ?_)
  · obtain ⟨_, rfl, _⟩ := h
    all_goals rfl
  · refine ⟨_, (pss_cons (ps_if (PW.pt (pw_or (pt_cmpR op_lt (pv 0) pe_int (nomark _)) (pw_or1 (pt_cmpR op_gt (pv 0) (pe_glob (v := .int 40) rfl T.g_MOST_rows ⟨_, rfl⟩) (nomark _))))) (pss_one (ps_raise rfl (takes_of rfl rfl rfl rfl) (pmk_own PySem.F.excBase_ValueError T.x_NoSize T.g_NoSize T.k_NoSize (raises_own T.sb_NoSize T.ty_NoSize) (by rfl)))) pss_nil)
      (pss_cons ps_never (pss_cons ps_never (pss_one ps_never)))), ?_⟩
    obtain ⟨z, rfl, hz, q⟩ := h
    walk_at "rd"
    refine if_d2 (fun c => ?_) (fun c => ?_)
    · walk_at "rd"
      exact q
    · walk_at "rd"
      exact q

def sp_bad_asked_rows {K : PySem.W.Frag} {mg : Str → Option Value} (T : Txt K mg) : Sp := fun vs H _ E => ∃ (z p : Int), vs = [.int z, .int p] ∧ (z < 0 ∨ 40 < z) ∧ E (.ref T.c_NoSize) none H
theorem bad_asked_rows (T : Txt K mg) : FnOk P w K mg base (L2.CX P w) 2 T.f_asked_rows T.fd_asked_rows ["size", "place"] (sp_bad_asked_rows T) := by
  have X_rows := ok_or (ok_up (ok_rows (P := P) (w := w) (base := base) T)) (bad_rows (P := P) (w := w) (base := base) T)
  refine T.F_asked_rows.okX sc_asked_rows (fun vs H Q E h => ?_) (fun cdv A outer s H vs Q E hr h => ?_)
  · obtain ⟨_, _, rfl, _⟩ := h
    all_goals rfl
  · refine ⟨_, (pss_cons (ps_set (i := 2) sc_asked_rows.nd rfl (Or.inl rfl) (pe_callS X_rows (hr.mono (by decide)) (by rfl) T.g_rows T.F_rows.kp T.b_rows (fun σ => passAt (takes_of rfl rfl rfl rfl) σ) (pa_cons (pv 0) pa_nil)))
      (pss_one ps_never)), ?_⟩
    obtain ⟨z, p, rfl, r⟩ := h
    walk_at "rd"
    exact .inr ⟨z, rfl, r⟩

def sp_bad_row_at {K : PySem.W.Frag} {mg : Str → Option Value} (T : Txt K mg) : Sp := fun vs H _ E => ∃ (z p : Int), vs = [.int z, .int p] ∧ (z < 0 ∨ 40 < z) ∧ E (.ref T.c_NoSize) none H
theorem bad_row_at (T : Txt K mg) : FnOk P w K mg base (L2.CX P w) 3 T.f_row_at T.fd_row_at ["size", "place"] (sp_bad_row_at T) := by
  have X_asked_rows := ok_or (ok_up (ok_asked_rows (P := P) (w := w) (base := base) T)) (bad_asked_rows (P := P) (w := w) (base := base) T)
  refine T.F_row_at.okX sc_row_at (fun vs H Q E h => ?_) (fun cdv A outer s H vs Q E hr h => ?_)
  · obtain ⟨_, _, rfl, _⟩ := h
    all_goals rfl
  · refine ⟨_, (pss_cons (ps_expr (pe_callS X_asked_rows (hr.mono (by decide)) (by rfl) T.g_asked_rows T.F_asked_rows.kp T.b_asked_rows (fun σ => passAt (takes_of rfl rfl rfl rfl) σ) (pa_cons (pv 0) (pa_cons (pv 1) pa_nil))))
      (pss_cons ps_never (pss_cons ps_never (pss_one ps_never)))), ?_⟩
    obtain ⟨z, p, rfl, r⟩ := h
    walk_at "rd"
    exact .inr ⟨z, p, rfl, r⟩

def sp_bad_row_step {K : PySem.W.Frag} {mg : Str → Option Value} (T : Txt K mg) : Sp := fun vs H _ E => ∃ (z p : Int), vs = [.int z, .int p] ∧ (z < 0 ∨ 40 < z) ∧ E (.ref T.c_NoSize) none H
theorem bad_row_step (T : Txt K mg) : FnOk P w K mg base (L2.CX P w) 3 T.f_row_step T.fd_row_step ["size", "place"] (sp_bad_row_step T) := by
  have X_asked_rows := ok_or (ok_up (ok_asked_rows (P := P) (w := w) (base := base) T)) (bad_asked_rows (P := P) (w := w) (base := base) T)
  refine T.F_row_step.okX sc_row_step (fun vs H Q E h => ?_) (fun cdv A outer s H vs Q E hr h => ?_)
  · obtain ⟨_, _, rfl, _⟩ := h
    all_goals rfl
  · refine ⟨_, (pss_cons (ps_expr (pe_callS X_asked_rows (hr.mono (by decide)) (by rfl) T.g_asked_rows T.F_asked_rows.kp T.b_asked_rows (fun σ => passAt (takes_of rfl rfl rfl rfl) σ) (pa_cons (pv 0) (pa_cons (pv 1) pa_nil))))
      (pss_cons ps_never (pss_cons ps_never (pss_cons ps_never (pss_one ps_never))))), ?_⟩
    obtain ⟨z, p, rfl, r⟩ := h
    walk_at "rd"
    exact .inr ⟨z, p, rfl, r⟩

def sp_bad_orders {K : PySem.W.Frag} {mg : Str → Option Value} (T : Txt K mg) : Sp := fun vs H _ E => ∃ (z : Int), vs = [.int z] ∧ (z < 0 ∨ 20 < z) ∧ E (.ref T.c_NoSize) none H
theorem bad_orders (T : Txt K mg) : FnOk P w K mg base (L2.CX P w) 1 T.f_orders T.fd_orders ["things"] (sp_bad_orders T) := by
  refine T.F_orders.okX sc_orders (fun vs H Q E h => ?_) (fun cdv A outer s H vs Q E hr h => ?_)
  · obtain ⟨_, rfl, _⟩ := h
    all_goals rfl
  · refine ⟨_, (pss_cons (ps_if (PW.pt (pw_or (pt_cmpR op_lt (pv 0) pe_int (nomark _)) (pw_or1 (pt_cmpR op_gt (pv 0) (pe_glob (v := .int 20) rfl T.g_MOST_orders ⟨_, rfl⟩) (nomark _))))) (pss_one (ps_raise rfl (takes_of rfl rfl rfl rfl) (pmk_own PySem.F.excBase_ValueError T.x_NoSize T.g_NoSize T.k_NoSize (raises_own T.sb_NoSize T.ty_NoSize) (by rfl)))) pss_nil)
      (pss_cons ps_never (pss_cons ps_never (pss_one ps_never)))), ?_⟩
    obtain ⟨z, rfl, hz, q⟩ := h
    walk_at "rd"
    refine if_d2 (fun c => ?_) (fun c => ?_)
    · walk_at "rd"
      exact q
    · walk_at "rd"
      exact q

def sp_bad_asked_orders {K : PySem.W.Frag} {mg : Str → Option Value} (T : Txt K mg) : Sp := fun vs H _ E => ∃ (z p : Int), vs = [.int z, .int p] ∧ (z < 0 ∨ 20 < z) ∧ E (.ref T.c_NoSize) none H
theorem bad_asked_orders (T : Txt K mg) : FnOk P w K mg base (L2.CX P w) 2 T.f_asked_orders T.fd_asked_orders ["things", "place"] (sp_bad_asked_orders T) := by
  have X_orders := ok_or (ok_up (ok_orders (P := P) (w := w) (base := base) T)) (bad_orders (P := P) (w := w) (base := base) T)
  refine T.F_asked_orders.okX sc_asked_orders (fun vs H Q E h => ?_) (fun cdv A outer s H vs Q E hr h => ?_)
  · obtain ⟨_, _, rfl, _⟩ := h
    all_goals rfl
  · refine ⟨_, (pss_cons (ps_set (i := 2) sc_asked_orders.nd rfl (Or.inl rfl) (pe_callS X_orders (hr.mono (by decide)) (by rfl) T.g_orders T.F_orders.kp T.b_orders (fun σ => passAt (takes_of rfl rfl rfl rfl) σ) (pa_cons (pv 0) pa_nil)))
      (pss_one ps_never)), ?_⟩
    obtain ⟨z, p, rfl, r⟩ := h
    walk_at "rd"
    exact .inr ⟨z, rfl, r⟩

def sp_bad_order_at {K : PySem.W.Frag} {mg : Str → Option Value} (T : Txt K mg) : Sp := fun vs H _ E => ∃ (z p : Int), vs = [.int z, .int p] ∧ (z < 0 ∨ 20 < z) ∧ E (.ref T.c_NoSize) none H
theorem bad_order_at (T : Txt K mg) : FnOk P w K mg base (L2.CX P w) 3 T.f_order_at T.fd_order_at ["things", "place"] (sp_bad_order_at T) := by
  have X_asked_orders := ok_or (ok_up (ok_asked_orders (P := P) (w := w) (base := base) T)) (bad_asked_orders (P := P) (w := w) (base := base) T)
  refine T.F_order_at.okX sc_order_at (fun vs H Q E h => ?_) (fun cdv A outer s H vs Q E hr h => ?_)
  · obtain ⟨_, _, rfl, _⟩ := h
    all_goals rfl
  · refine ⟨_, (pss_cons (ps_expr (pe_callS X_asked_orders (hr.mono (by decide)) (by rfl) T.g_asked_orders T.F_asked_orders.kp T.b_asked_orders (fun σ => passAt (takes_of rfl rfl rfl rfl) σ) (pa_cons (pv 0) (pa_cons (pv 1) pa_nil))))
      (pss_cons ps_never (pss_cons ps_never (pss_cons ps_never (pss_cons ps_never (pss_one ps_never)))))), ?_⟩
    obtain ⟨z, p, rfl, r⟩ := h
    walk_at "rd"
    exact .inr ⟨z, p, rfl, r⟩

def sp_bad_order_step {K : PySem.W.Frag} {mg : Str → Option Value} (T : Txt K mg) : Sp := fun vs H _ E => ∃ (z p : Int), vs = [.int z, .int p] ∧ (z < 0 ∨ 20 < z) ∧ E (.ref T.c_NoSize) none H
theorem bad_order_step (T : Txt K mg) : FnOk P w K mg base (L2.CX P w) 4 T.f_order_step T.fd_order_step ["things", "place"] (sp_bad_order_step T) := by
  have X_asked_orders := ok_or (ok_up (ok_asked_orders (P := P) (w := w) (base := base) T)) (bad_asked_orders (P := P) (w := w) (base := base) T)
  have G_order_at := ok_order_at (P := P) (w := w) (base := base) T
  have G_orders := ok_orders (P := P) (w := w) (base := base) T
  refine T.F_order_step.okX sc_order_step (fun vs H Q E h => ?_) (fun cdv A outer s H vs Q E hr h => ?_)
  · obtain ⟨_, _, rfl, _⟩ := h
    all_goals rfl
  · refine ⟨_, (pss_cons (ps_expr (pe_callS X_asked_orders (hr.mono (by decide)) (by rfl) T.g_asked_orders T.F_asked_orders.kp T.b_asked_orders (fun σ => passAt (takes_of rfl rfl rfl rfl) σ) (pa_cons (pv 0) (pa_cons (pv 1) pa_nil))))
      (pss_cons ps_never (pss_cons ps_never (pss_cons ps_never (pss_cons ps_never (pss_cons ps_never (pss_one ps_never))))))), ?_⟩
    obtain ⟨z, p, rfl, r⟩ := h
    walk_at "rd"
    exact .inr ⟨z, p, rfl, r⟩

def sp_bad_sets {K : PySem.W.Frag} {mg : Str → Option Value} (T : Txt K mg) : Sp := fun vs H _ E => ∃ (z s : Int), vs = [.int z, .int s] ∧ (z < 0 ∨ 40 < z ∨ s < 0 ∨ z < s) ∧ E (.ref T.c_NoSize) none H
theorem bad_sets (T : Txt K mg) : FnOk P w K mg base (L2.CX P w) 2 T.f_sets T.fd_sets ["things", "some"] (sp_bad_sets T) := by
  have G_picks := ok_picks (P := P) (w := w) (base := base) T
  refine T.F_sets.okX sc_sets (fun vs H Q E h => ?_) (fun cdv A outer s H vs Q E hr h => ?_)
  · obtain ⟨_, _, rfl, _⟩ := h
    all_goals rfl
  · refine ⟨_, (pss_cons (ps_if (PW.pt (pw_or (pt_cmpR op_lt (pv 0) pe_int (nomark _)) (pw_or (pt_cmpR op_gt (pv 0) (pe_glob (v := .int 40) rfl T.g_MOST_sets ⟨_, rfl⟩) (nomark _)) (pw_or (pt_cmpR op_lt (pv 1) pe_int (nomark _)) (pw_or1 (pt_cmpR op_gt (pv 1) (pv 0) (nomark _))))))) (pss_one (ps_raise rfl (takes_of rfl rfl rfl rfl) (pmk_own PySem.F.excBase_ValueError T.x_NoSize T.g_NoSize T.k_NoSize (raises_own T.sb_NoSize T.ty_NoSize) (by rfl)))) pss_nil)
      (pss_one ps_never)), ?_⟩
    obtain ⟨z, s1, rfl, hz, q⟩ := h
    walk_at "rd"
    refine if_d2 (fun c => ?_) (fun c => ?_)
    · walk_at "rd"
      exact q
    walk_at "rd"
    refine if_d2 (fun c1 => ?_) (fun c1 => ?_)
    · walk_at "rd"
      exact q
    walk_at "rd"
    refine if_d2 (fun c2 => ?_) (fun c2 => ?_)
    · walk_at "rd"
      exact q
    walk_at "rd"
    exact q

def sp_bad_asked_sets {K : PySem.W.Frag} {mg : Str → Option Value} (T : Txt K mg) : Sp := fun vs H _ E => ∃ (z s p : Int), vs = [.int z, .int s, .int p] ∧ (z < 0 ∨ 40 < z ∨ s < 0 ∨ z < s) ∧ E (.ref T.c_NoSize) none H
theorem bad_asked_sets (T : Txt K mg) : FnOk P w K mg base (L2.CX P w) 3 T.f_asked_sets T.fd_asked_sets ["things", "some", "place"] (sp_bad_asked_sets T) := by
  have X_sets := ok_or (ok_up (ok_sets (P := P) (w := w) (base := base) T)) (bad_sets (P := P) (w := w) (base := base) T)
  refine T.F_asked_sets.okX sc_asked_sets (fun vs H Q E h => ?_) (fun cdv A outer s H vs Q E hr h => ?_)
  · obtain ⟨_, _, _, rfl, _⟩ := h
    all_goals rfl
  · refine ⟨_, (pss_cons (ps_set (i := 3) sc_asked_sets.nd rfl (Or.inl rfl) (pe_callS X_sets (hr.mono (by decide)) (by rfl) T.g_sets T.F_sets.kp T.b_sets (fun σ => passAt (takes_of rfl rfl rfl rfl) σ) (pa_cons (pv 0) (pa_cons (pv 1) pa_nil))))
      (pss_one ps_never)), ?_⟩
    obtain ⟨z, s1, p, rfl, r⟩ := h
    walk_at "rd"
    exact .inr ⟨z, s1, rfl, r⟩

def sp_bad_set_at {K : PySem.W.Frag} {mg : Str → Option Value} (T : Txt K mg) : Sp := fun vs H _ E => ∃ (z s p : Int), vs = [.int z, .int s, .int p] ∧ (z < 0 ∨ 40 < z ∨ s < 0 ∨ z < s) ∧ E (.ref T.c_NoSize) none H
theorem bad_set_at (T : Txt K mg) : FnOk P w K mg base (L2.CX P w) 4 T.f_set_at T.fd_set_at ["things", "some", "place"] (sp_bad_set_at T) := by
  have X_asked_sets := ok_or (ok_up (ok_asked_sets (P := P) (w := w) (base := base) T)) (bad_asked_sets (P := P) (w := w) (base := base) T)
  have G_picks := ok_picks (P := P) (w := w) (base := base) T
  refine T.F_set_at.okX sc_set_at (fun vs H Q E h => ?_) (fun cdv A outer s H vs Q E hr h => ?_)
  · obtain ⟨_, _, _, rfl, _⟩ := h
    all_goals rfl
  · refine ⟨_, (pss_cons (ps_expr (pe_callS X_asked_sets (hr.mono (by decide)) (by rfl) T.g_asked_sets T.F_asked_sets.kp T.b_asked_sets (fun σ => passAt (takes_of rfl rfl rfl rfl) σ) (pa_cons (pv 0) (pa_cons (pv 1) (pa_cons (pv 2) pa_nil)))))
      (pss_cons ps_never (pss_cons ps_never (pss_one ps_never)))), ?_⟩
    obtain ⟨z, s1, p, rfl, r⟩ := h
    walk_at "rd"
    exact .inr ⟨z, s1, p, rfl, r⟩

def sp_bad_set_step {K : PySem.W.Frag} {mg : Str → Option Value} (T : Txt K mg) : Sp := fun vs H _ E => ∃ (z s p : Int), vs = [.int z, .int s, .int p] ∧ (z < 0 ∨ 40 < z ∨ s < 0 ∨ z < s) ∧ E (.ref T.c_NoSize) none H
theorem bad_set_step (T : Txt K mg) : FnOk P w K mg base (L2.CX P w) 5 T.f_set_step T.fd_set_step ["things", "some", "place"] (sp_bad_set_step T) := by
  have X_asked_sets := ok_or (ok_up (ok_asked_sets (P := P) (w := w) (base := base) T)) (bad_asked_sets (P := P) (w := w) (base := base) T)
  have G_picks := ok_picks (P := P) (w := w) (base := base) T
  have G_set_at := ok_set_at (P := P) (w := w) (base := base) T
  refine T.F_set_step.okX sc_set_step (fun vs H Q E h => ?_) (fun cdv A outer s H vs Q E hr h => ?_)
  · obtain ⟨_, _, _, rfl, _⟩ := h
    all_goals rfl
  · refine ⟨_, (pss_cons (ps_expr (pe_callS X_asked_sets (hr.mono (by decide)) (by rfl) T.g_asked_sets T.F_asked_sets.kp T.b_asked_sets (fun σ => passAt (takes_of rfl rfl rfl rfl) σ) (pa_cons (pv 0) (pa_cons (pv 1) (pa_cons (pv 2) pa_nil)))))
      (pss_cons ps_never (pss_cons ps_never (pss_cons ps_never (pss_cons ps_never (pss_cons ps_never (pss_cons ps_never (pss_one ps_never)))))))), ?_⟩
    obtain ⟨z, s1, p, rfl, r⟩ := h
    walk_at "rd"
    exact .inr ⟨z, s1, p, rfl, r⟩

def sp_bad_place_of_set {K : PySem.W.Frag} {mg : Str → Option Value} (T : Txt K mg) : Sp := fun vs H _ E => ∃ (z : Int) (a : Addr), vs = [.int z, .ref a] ∧ (z < 0 ∨ 40 < z) ∧ E (.ref T.c_NoSize) none H
theorem bad_place_of_set (T : Txt K mg) : FnOk P w K mg base (L2.CX P w) 2 T.f_place_of_set T.fd_place_of_set ["things", "members"] (sp_bad_place_of_set T) := by
  have G_asked_set := ok_asked_set (P := P) (w := w) (base := base) T
  have G_picks := ok_picks (P := P) (w := w) (base := base) T
  refine T.F_place_of_set.okX sc_place_of_set (fun vs H Q E h => ?_) (fun cdv A outer s H vs Q E hr h => ?_)
  · obtain ⟨_, _, rfl, _⟩ := h
    all_goals rfl
  · refine ⟨_, (pss_cons (ps_if (PW.pt (pw_or (pt_cmpR op_lt (pv 0) pe_int (nomark _)) (pw_or1 (pt_cmpR op_gt (pv 0) (pe_glob (v := .int 40) rfl T.g_MOST_sets ⟨_, rfl⟩) (nomark _))))) (pss_one (ps_raise rfl (takes_of rfl rfl rfl rfl) (pmk_own PySem.F.excBase_ValueError T.x_NoSize T.g_NoSize T.k_NoSize (raises_own T.sb_NoSize T.ty_NoSize) (by rfl)))) pss_nil)
      (pss_cons ps_never (pss_cons ps_never (pss_cons ps_never (pss_one ps_never))))), ?_⟩
    obtain ⟨z, a, rfl, hz, q⟩ := h
    walk_at "rd"
    refine if_d2 (fun c => ?_) (fun c => ?_)
    · walk_at "rd"
      exact q
    · walk_at "rd"
      exact q

def sp_bad_RowWalker_init {K : PySem.W.Frag} {mg : Str → Option Value} (T : Txt K mg) : Sp := fun vs H _ E => ∃ (p : Addr) (z : Int), vs = [.ref p, .int z] ∧ (z < 0 ∨ 40 < z) ∧ E (.ref T.c_NoSize) none H
theorem bad_RowWalker_init (T : Txt K mg) : FnOk P w K mg base (L2.CX P w) 2 T.f_RowWalker_init T.fd_RowWalker_init ["self", "size"] (sp_bad_RowWalker_init T) := by
  have G_Walker_init := ok_Walker_init (P := P) (w := w) (base := base) T
  have X_rows := ok_or (ok_up (ok_rows (P := P) (w := w) (base := base) T)) (bad_rows (P := P) (w := w) (base := base) T)
  refine T.F_RowWalker_init.okX sc_RowWalker_init (fun vs H Q E h => ?_) (fun cdv A outer s H vs Q E hr h => ?_)
  · obtain ⟨_, _, rfl, _⟩ := h
    all_goals rfl
  · refine ⟨_, (pss_cons (ps_expr (pe_cfun (pe_glob (v := .ref T.c_Walker) (by rfl) T.g_Walker rfl) T.cf_Walker G_Walker_init (hr.mono (by decide)) T.b_Walker_init pass0 (pa_cons (pv 0) (pa_cons (pe_callS X_rows (hr.mono (by decide)) (by rfl) T.g_rows T.F_rows.kp T.b_rows (fun σ => passAt (takes_of rfl rfl rfl rfl) σ) (pa_cons (pv 1) pa_nil)) pa_nil))))
      (pss_one ps_never)), ?_⟩
    obtain ⟨p, z, rfl, r⟩ := h
    walk_at "rd"
    refine ⟨rfl, ?_⟩
    walk_at "rd"
    exact .inr ⟨z, rfl, r⟩

def sp_bad_OrderWalker_init {K : PySem.W.Frag} {mg : Str → Option Value} (T : Txt K mg) : Sp := fun vs H _ E => ∃ (p : Addr) (z : Int), vs = [.ref p, .int z] ∧ (z < 0 ∨ 20 < z) ∧ E (.ref T.c_NoSize) none H
theorem bad_OrderWalker_init (T : Txt K mg) : FnOk P w K mg base (L2.CX P w) 2 T.f_OrderWalker_init T.fd_OrderWalker_init ["self", "things"] (sp_bad_OrderWalker_init T) := by
  have G_Walker_init := ok_Walker_init (P := P) (w := w) (base := base) T
  have X_orders := ok_or (ok_up (ok_orders (P := P) (w := w) (base := base) T)) (bad_orders (P := P) (w := w) (base := base) T)
  refine T.F_OrderWalker_init.okX sc_OrderWalker_init (fun vs H Q E h => ?_) (fun cdv A outer s H vs Q E hr h => ?_)
  · obtain ⟨_, _, rfl, _⟩ := h
    all_goals rfl
  · refine ⟨_, (pss_cons (ps_expr (pe_cfun (pe_glob (v := .ref T.c_Walker) (by rfl) T.g_Walker rfl) T.cf_Walker G_Walker_init (hr.mono (by decide)) T.b_Walker_init pass0 (pa_cons (pv 0) (pa_cons (pe_callS X_orders (hr.mono (by decide)) (by rfl) T.g_orders T.F_orders.kp T.b_orders (fun σ => passAt (takes_of rfl rfl rfl rfl) σ) (pa_cons (pv 1) pa_nil)) pa_nil))))
      (pss_one ps_never)), ?_⟩
    obtain ⟨p, z, rfl, r⟩ := h
    walk_at "rd"
    refine ⟨rfl, ?_⟩
    walk_at "rd"
    exact .inr ⟨z, rfl, r⟩

def sp_bad_SetWalker_init {K : PySem.W.Frag} {mg : Str → Option Value} (T : Txt K mg) : Sp := fun vs H _ E => ∃ (p : Addr) (z s : Int), vs = [.ref p, .int z, .int s] ∧ (z < 0 ∨ 40 < z ∨ s < 0 ∨ z < s) ∧ E (.ref T.c_NoSize) none H
theorem bad_SetWalker_init (T : Txt K mg) : FnOk P w K mg base (L2.CX P w) 3 T.f_SetWalker_init T.fd_SetWalker_init ["self", "things", "some"] (sp_bad_SetWalker_init T) := by
  have G_Walker_init := ok_Walker_init (P := P) (w := w) (base := base) T
  have X_sets := ok_or (ok_up (ok_sets (P := P) (w := w) (base := base) T)) (bad_sets (P := P) (w := w) (base := base) T)
  refine T.F_SetWalker_init.okX sc_SetWalker_init (fun vs H Q E h => ?_) (fun cdv A outer s H vs Q E hr h => ?_)
  · obtain ⟨_, _, _, rfl, _⟩ := h
    all_goals rfl
  · refine ⟨_, (pss_cons (ps_expr (pe_cfun (pe_glob (v := .ref T.c_Walker) (by rfl) T.g_Walker rfl) T.cf_Walker G_Walker_init (hr.mono (by decide)) T.b_Walker_init pass0 (pa_cons (pv 0) (pa_cons (pe_callS X_sets (hr.mono (by decide)) (by rfl) T.g_sets T.F_sets.kp T.b_sets (fun σ => passAt (takes_of rfl rfl rfl rfl) σ) (pa_cons (pv 1) (pa_cons (pv 2) pa_nil))) pa_nil))))
      (pss_cons ps_never (pss_one ps_never))), ?_⟩
    obtain ⟨p, z, s1, rfl, r⟩ := h
    walk_at "rd"
    refine ⟨rfl, ?_⟩
    walk_at "rd"
    exact .inr ⟨z, s1, rfl, r⟩

theorem same_keep {H H' H2 : Hp} {p : Addr} (sm : Same H H') (hp : H p = none) (k : ∀ b, b ≠ p → H2 b = H' b) : Same H H2 := fun b o e => by
  rw [k b (ne_of_none e hp)]
  exact sm b o e
theorem same_made {H : Hp} {C x dx : Addr} (hx : H x = none) (hd : H dx = none) : Same H (upd (upd H dx (.own x)) x (.ins C dx [])) := fun b o e => by
  rw [upd_ne (ne_of_none e hx), upd_ne (ne_of_none e hd)]
  exact e
def sp_rows_asked : Sp := fun vs H Q _ => ∃ (wh : Nat) (z p : Int), vs = [.int (wh : Int), .int z, .int p] ∧ (((wh = 0 ∨ wh = 3) ∧ 0 ≤ z ∧ z ≤ 40) ∨ ((wh = 4 ∨ wh = 7) ∧ 0 ≤ z ∧ z ≤ 20) ∨ (8 ≤ wh ∧ wh < 14)) ∧ ∀ H', Same H H' → Q .non H'
theorem ok__law_rows_asked (T : Txt K mg) : FnOk P w K mg base CX0 5 T.f__law_rows_asked T.fd__law_rows_asked ["which", "size", "place"] (sp_rows_asked) := by
  have G_rows := ok_rows (P := P) (w := w) (base := base) T
  have G_row_at := ok_row_at (P := P) (w := w) (base := base) T
  have G_row_step := ok_row_step (P := P) (w := w) (base := base) T
  have G_RowWalker_init := ok_RowWalker_init (P := P) (w := w) (base := base) T
  have G_orders := ok_orders (P := P) (w := w) (base := base) T
  have G_order_at := ok_order_at (P := P) (w := w) (base := base) T
  have G_order_step := ok_order_step (P := P) (w := w) (base := base) T
  have G_OrderWalker_init := ok_OrderWalker_init (P := P) (w := w) (base := base) T
  refine T.F__law_rows_asked.ok sc__law_rows_asked (fun vs H Q E h => ?_) (fun cdv A outer s H vs Q E hr h => ?_)
  · obtain ⟨_, _, _, rfl, _⟩ := h
    all_goals rfl
  · refine ⟨_, (pss_cons (ps_if (pt_cmpR op_eq (pv 0) pe_int (nomark _)) (pss_one (ps_expr (pe_call G_rows (hr.mono (by decide)) (by rfl) T.g_rows T.F_rows.kp T.b_rows .nil pass0 (pa_cons (pv 1) pa_nil)))) pss_nil)
      (pss_cons (ps_if (pt_cmpR op_eq (pv 0) pe_int (nomark _)) (pss_one (ps_expr (pe_call G_row_at (hr.mono (by decide)) (by rfl) T.g_row_at T.F_row_at.kp T.b_row_at .nil pass0 (pa_cons (pv 1) (pa_cons (pv 2) pa_nil))))) pss_nil)
      (pss_cons (ps_if (pt_cmpR op_eq (pv 0) pe_int (nomark _)) (pss_one (ps_expr (pe_call G_row_step (hr.mono (by decide)) (by rfl) T.g_row_step T.F_row_step.kp T.b_row_step .nil pass0 (pa_cons (pv 1) (pa_cons (pv 2) pa_nil))))) pss_nil)
      (pss_cons (ps_if (pt_cmpR op_eq (pv 0) pe_int (nomark _)) (pss_one (ps_expr (pe_make T.mk_RowWalker G_RowWalker_init (hr.mono (by decide)) (by rfl) T.g_RowWalker T.b_RowWalker_init .nil pass0 (pa_cons (pv 1) pa_nil)))) pss_nil)
      (pss_cons (ps_if (pt_cmpR op_eq (pv 0) pe_int (nomark _)) (pss_one (ps_expr (pe_call G_orders (hr.mono (by decide)) (by rfl) T.g_orders T.F_orders.kp T.b_orders .nil pass0 (pa_cons (pv 1) pa_nil)))) pss_nil)
      (pss_cons (ps_if (pt_cmpR op_eq (pv 0) pe_int (nomark _)) (pss_one (ps_expr (pe_call G_order_at (hr.mono (by decide)) (by rfl) T.g_order_at T.F_order_at.kp T.b_order_at .nil pass0 (pa_cons (pv 1) (pa_cons (pv 2) pa_nil))))) pss_nil)
      (pss_cons (ps_if (pt_cmpR op_eq (pv 0) pe_int (nomark _)) (pss_one (ps_expr (pe_call G_order_step (hr.mono (by decide)) (by rfl) T.g_order_step T.F_order_step.kp T.b_order_step .nil pass0 (pa_cons (pv 1) (pa_cons (pv 2) pa_nil))))) pss_nil)
      (pss_one (ps_if (pt_cmpR op_eq (pv 0) pe_int (nomark _)) (pss_one (ps_expr (pe_make T.mk_OrderWalker G_OrderWalker_init (hr.mono (by decide)) (by rfl) T.g_OrderWalker T.b_OrderWalker_init .nil pass0 (pa_cons (pv 1) pa_nil)))) pss_nil))))))))), ?_⟩
    obtain ⟨wh, z, p, rfl, hw, q⟩ := h
    rcases hw with ⟨rfl | rfl, h0, h1⟩ | ⟨rfl | rfl, h0, h1⟩ | ⟨h0, h1⟩
    · obtain ⟨n, rfl⟩ := Int.eq_ofNat_of_zero_le h0
      walk_at "rd"
      refine ⟨n, rfl, by omega, ?_⟩
      walk_at "rd"
      exact q _ (Same.refl _)
    · obtain ⟨n, rfl⟩ := Int.eq_ofNat_of_zero_le h0
      walk_at "rd"
      intro x dx nx nd ne
      refine ⟨n, x, dx, rfl, by show n ≤ 40; omega, upd_same, fun H1 k1 on1 => ⟨rfl, ?_⟩⟩
      walk_at "rd"
      exact q _ (same_keep (same_made nx nd) nx k1)
    · obtain ⟨n, rfl⟩ := Int.eq_ofNat_of_zero_le h0
      walk_at "rd"
      refine ⟨n, rfl, by omega, ?_⟩
      walk_at "rd"
      exact q _ (Same.refl _)
    · obtain ⟨n, rfl⟩ := Int.eq_ofNat_of_zero_le h0
      walk_at "rd"
      intro x dx nx nd ne
      refine ⟨n, x, dx, rfl, by show n ≤ 20; omega, upd_same, fun H1 k1 on1 => ⟨rfl, ?_⟩⟩
      walk_at "rd"
      exact q _ (same_keep (same_made nx nd) nx k1)
    · walk_at "rd"
      exact q _ (Same.refl _)

def sp_bad_rows_asked {K : PySem.W.Frag} {mg : Str → Option Value} (T : Txt K mg) : Sp := fun vs H _ E => ∃ (wh : Nat) (z p : Int), vs = [.int (wh : Int), .int z, .int p] ∧ ((wh < 4 ∧ (z < 0 ∨ 40 < z)) ∨ (4 ≤ wh ∧ wh < 8 ∧ (z < 0 ∨ 20 < z))) ∧ ∀ H', Same H H' → E (.ref T.c_NoSize) none H'
theorem bad__law_rows_asked (T : Txt K mg) : FnOk P w K mg base (L2.CX P w) 5 T.f__law_rows_asked T.fd__law_rows_asked ["which", "size", "place"] (sp_bad_rows_asked T) := by
  have X_rows := ok_or (ok_up (ok_rows (P := P) (w := w) (base := base) T)) (bad_rows (P := P) (w := w) (base := base) T)
  have X_row_at := ok_or (ok_up (ok_row_at (P := P) (w := w) (base := base) T)) (bad_row_at (P := P) (w := w) (base := base) T)
  have X_row_step := ok_or (ok_up (ok_row_step (P := P) (w := w) (base := base) T)) (bad_row_step (P := P) (w := w) (base := base) T)
  have X_RowWalker_init := ok_or (ok_up (ok_RowWalker_init (P := P) (w := w) (base := base) T)) (bad_RowWalker_init (P := P) (w := w) (base := base) T)
  have X_orders := ok_or (ok_up (ok_orders (P := P) (w := w) (base := base) T)) (bad_orders (P := P) (w := w) (base := base) T)
  have X_order_at := ok_or (ok_up (ok_order_at (P := P) (w := w) (base := base) T)) (bad_order_at (P := P) (w := w) (base := base) T)
  have X_order_step := ok_or (ok_up (ok_order_step (P := P) (w := w) (base := base) T)) (bad_order_step (P := P) (w := w) (base := base) T)
  have X_OrderWalker_init := ok_or (ok_up (ok_OrderWalker_init (P := P) (w := w) (base := base) T)) (bad_OrderWalker_init (P := P) (w := w) (base := base) T)
  refine T.F__law_rows_asked.okX sc__law_rows_asked (fun vs H Q E h => ?_) (fun cdv A outer s H vs Q E hr h => ?_)
  · obtain ⟨_, _, _, rfl, _⟩ := h
    all_goals rfl
  · refine ⟨_, (pss_cons (ps_if (pt_cmpR op_eq (pv 0) pe_int (nomark _)) (pss_one (ps_expr (pe_callS X_rows (hr.mono (by decide)) (by rfl) T.g_rows T.F_rows.kp T.b_rows (fun σ => passAt (takes_of rfl rfl rfl rfl) σ) (pa_cons (pv 1) pa_nil)))) pss_nil)
      (pss_cons (ps_if (pt_cmpR op_eq (pv 0) pe_int (nomark _)) (pss_one (ps_expr (pe_callS X_row_at (hr.mono (by decide)) (by rfl) T.g_row_at T.F_row_at.kp T.b_row_at (fun σ => passAt (takes_of rfl rfl rfl rfl) σ) (pa_cons (pv 1) (pa_cons (pv 2) pa_nil))))) pss_nil)
      (pss_cons (ps_if (pt_cmpR op_eq (pv 0) pe_int (nomark _)) (pss_one (ps_expr (pe_callS X_row_step (hr.mono (by decide)) (by rfl) T.g_row_step T.F_row_step.kp T.b_row_step (fun σ => passAt (takes_of rfl rfl rfl rfl) σ) (pa_cons (pv 1) (pa_cons (pv 2) pa_nil))))) pss_nil)
      (pss_cons (ps_if (pt_cmpR op_eq (pv 0) pe_int (nomark _)) (pss_one (ps_expr (pe_make T.mk_RowWalker X_RowWalker_init (hr.mono (by decide)) (by rfl) T.g_RowWalker T.b_RowWalker_init .nil (passes_call (takes_of rfl rfl rfl rfl) fun _ _ _ _ h => h) (pa_cons (pv 1) pa_nil)))) pss_nil)
      (pss_cons (ps_if (pt_cmpR op_eq (pv 0) pe_int (nomark _)) (pss_one (ps_expr (pe_callS X_orders (hr.mono (by decide)) (by rfl) T.g_orders T.F_orders.kp T.b_orders (fun σ => passAt (takes_of rfl rfl rfl rfl) σ) (pa_cons (pv 1) pa_nil)))) pss_nil)
      (pss_cons (ps_if (pt_cmpR op_eq (pv 0) pe_int (nomark _)) (pss_one (ps_expr (pe_callS X_order_at (hr.mono (by decide)) (by rfl) T.g_order_at T.F_order_at.kp T.b_order_at (fun σ => passAt (takes_of rfl rfl rfl rfl) σ) (pa_cons (pv 1) (pa_cons (pv 2) pa_nil))))) pss_nil)
      (pss_cons (ps_if (pt_cmpR op_eq (pv 0) pe_int (nomark _)) (pss_one (ps_expr (pe_callS X_order_step (hr.mono (by decide)) (by rfl) T.g_order_step T.F_order_step.kp T.b_order_step (fun σ => passAt (takes_of rfl rfl rfl rfl) σ) (pa_cons (pv 1) (pa_cons (pv 2) pa_nil))))) pss_nil)
      (pss_one (ps_if (pt_cmpR op_eq (pv 0) pe_int (nomark _)) (pss_one (ps_expr (pe_make T.mk_OrderWalker X_OrderWalker_init (hr.mono (by decide)) (by rfl) T.g_OrderWalker T.b_OrderWalker_init .nil (passes_call (takes_of rfl rfl rfl rfl) fun _ _ _ _ h => h) (pa_cons (pv 1) pa_nil)))) pss_nil))))))))), ?_⟩
    obtain ⟨wh, z, p, rfl, hw, q⟩ := h
    have h8 : wh = 0 ∨ wh = 1 ∨ wh = 2 ∨ wh = 3 ∨ wh = 4 ∨ wh = 5 ∨ wh = 6 ∨ wh = 7 := by omega
    rcases h8 with rfl | rfl | rfl | rfl | rfl | rfl | rfl | rfl
    · walk_at "rd"
      exact .inr ⟨z, rfl, by omega, q _ (Same.refl _)⟩
    · walk_at "rd"
      exact .inr ⟨z, p, rfl, by omega, q _ (Same.refl _)⟩
    · walk_at "rd"
      exact .inr ⟨z, p, rfl, by omega, q _ (Same.refl _)⟩
    · walk_at "rd"
      intro x dx nx nd ne
      exact .inr ⟨x, z, rfl, by omega, q _ (same_made nx nd)⟩
    · walk_at "rd"
      exact .inr ⟨z, rfl, by omega, q _ (Same.refl _)⟩
    · walk_at "rd"
      exact .inr ⟨z, p, rfl, by omega, q _ (Same.refl _)⟩
    · walk_at "rd"
      exact .inr ⟨z, p, rfl, by omega, q _ (Same.refl _)⟩
    · walk_at "rd"
      intro x dx nx nd ne
      exact .inr ⟨x, z, rfl, by omega, q _ (same_made nx nd)⟩

def sp_sets_asked : Sp := fun vs H Q _ => ∃ (wh : Nat) (z s p : Int), vs = [.int (wh : Int), .int z, .int s, .int p] ∧ (((wh = 8 ∨ wh = 11) ∧ 0 ≤ z ∧ z ≤ 40 ∧ 0 ≤ s ∧ s ≤ z) ∨ (wh = 12 ∧ 0 ≤ z ∧ z ≤ 40) ∨ wh < 8) ∧ ∀ H', Same H H' → Q .non H'
theorem ok__law_sets_asked (T : Txt K mg) : FnOk P w K mg base CX0 6 T.f__law_sets_asked T.fd__law_sets_asked ["which", "things", "some", "place"] (sp_sets_asked) := by
  have G_sets := ok_sets (P := P) (w := w) (base := base) T
  have G_set_at := ok_set_at (P := P) (w := w) (base := base) T
  have G_set_step := ok_set_step (P := P) (w := w) (base := base) T
  have G_SetWalker_init := ok_SetWalker_init (P := P) (w := w) (base := base) T
  have G_place_of_set := ok_place_of_set (P := P) (w := w) (base := base) T
  refine T.F__law_sets_asked.ok sc__law_sets_asked (fun vs H Q E h => ?_) (fun cdv A outer s H vs Q E hr h => ?_)
  · obtain ⟨_, _, _, _, rfl, _⟩ := h
    all_goals rfl
  · refine ⟨_, (pss_cons (ps_if (pt_cmpR op_eq (pv 0) pe_int (nomark _)) (pss_one (ps_expr (pe_call G_sets (hr.mono (by decide)) (by rfl) T.g_sets T.F_sets.kp T.b_sets .nil pass0 (pa_cons (pv 1) (pa_cons (pv 2) pa_nil))))) pss_nil)
      (pss_cons (ps_if (pt_cmpR op_eq (pv 0) pe_int (nomark _)) (pss_one (ps_expr (pe_call G_set_at (hr.mono (by decide)) (by rfl) T.g_set_at T.F_set_at.kp T.b_set_at .nil pass0 (pa_cons (pv 1) (pa_cons (pv 2) (pa_cons (pv 3) pa_nil)))))) pss_nil)
      (pss_cons (ps_if (pt_cmpR op_eq (pv 0) pe_int (nomark _)) (pss_one (ps_expr (pe_call G_set_step (hr.mono (by decide)) (by rfl) T.g_set_step T.F_set_step.kp T.b_set_step .nil pass0 (pa_cons (pv 1) (pa_cons (pv 2) (pa_cons (pv 3) pa_nil)))))) pss_nil)
      (pss_cons (ps_if (pt_cmpR op_eq (pv 0) pe_int (nomark _)) (pss_one (ps_expr (pe_make T.mk_SetWalker G_SetWalker_init (hr.mono (by decide)) (by rfl) T.g_SetWalker T.b_SetWalker_init .nil pass0 (pa_cons (pv 1) (pa_cons (pv 2) pa_nil))))) pss_nil)
      (pss_cons (ps_if (pt_cmpR op_eq (pv 0) pe_int (nomark _)) (pss_one (ps_expr (pe_call G_place_of_set (hr.mono (by decide)) (by rfl) T.g_place_of_set T.F_place_of_set.kp T.b_place_of_set .nil pass0 (pa_cons (pv 1) (pa_cons (pe_lst pa_nil) pa_nil))))) pss_nil)
      (pss_one (ps_if (pt_cmpR op_eq (pv 0) pe_int (nomark _)) (pss_one (ps_expr (pe_call G_place_of_set (hr.mono (by decide)) (by rfl) T.g_place_of_set T.F_place_of_set.kp T.b_place_of_set .nil pass0 (pa_cons (pv 1) (pa_cons (pe_ix ix_list (pe_lst (pa_cons (pe_lst (pa_cons pe_int (pa_cons pe_int pa_nil))) (pa_cons (pe_lst (pa_cons (pe_un un_neg pe_int) pa_nil)) (pa_cons (pe_lst (pa_cons pe_int pa_nil)) pa_nil)))) (pe_op op_mod (pv 2) pe_int) (fun _ _ => rfl)) pa_nil))))) pss_nil))))))), ?_⟩
    obtain ⟨wh, z, s1, p, rfl, hw, q⟩ := h
    rcases hw with ⟨rfl | rfl, h0, h1, h2, h3⟩ | ⟨rfl, h0, h1⟩ | h0
    · obtain ⟨n, rfl⟩ := Int.eq_ofNat_of_zero_le h0
      obtain ⟨k, rfl⟩ := Int.eq_ofNat_of_zero_le h2
      walk_at "rd"
      refine ⟨n, k, rfl, by omega, by omega, ?_⟩
      walk_at "rd"
      exact q _ (Same.refl _)
    · obtain ⟨n, rfl⟩ := Int.eq_ofNat_of_zero_le h0
      obtain ⟨k, rfl⟩ := Int.eq_ofNat_of_zero_le h2
      walk_at "rd"
      intro x dx nx nd ne
      refine ⟨n, k, x, dx, rfl, by show n ≤ 40 ∧ k ≤ n; omega, upd_same, fun H1 k1 on1 => ⟨rfl, ?_⟩⟩
      walk_at "rd"
      exact q _ (same_keep (same_made nx nd) nx k1)
    · obtain ⟨n, rfl⟩ := Int.eq_ofNat_of_zero_le h0
      walk_at "rd"
      refine rd_newL (Nat.le_of_ble_eq_true rfl) fun l nl => ?_
      refine ⟨n, l, [], rfl, by omega, SqL.of upd_same, List.Pairwise.nil, fun x hx => by simp at hx, ?_⟩
      walk_at "rd"
      exact q _ (same_upd nl)
    · walk_at "rd"
      exact q _ (Same.refl _)

def sp_bad_sets_asked {K : PySem.W.Frag} {mg : Str → Option Value} (T : Txt K mg) : Sp := fun vs H _ E => ∃ (wh : Nat) (z s p : Int), vs = [.int (wh : Int), .int z, .int s, .int p] ∧ ((8 ≤ wh ∧ wh < 12 ∧ (z < 0 ∨ 40 < z ∨ s < 0 ∨ z < s)) ∨ (12 ≤ wh ∧ wh < 14 ∧ (z < 0 ∨ 40 < z))) ∧ ∀ H', Same H H' → E (.ref T.c_NoSize) none H'
theorem bad__law_sets_asked (T : Txt K mg) : FnOk P w K mg base (L2.CX P w) 6 T.f__law_sets_asked T.fd__law_sets_asked ["which", "things", "some", "place"] (sp_bad_sets_asked T) := by
  have X_sets := ok_or (ok_up (ok_sets (P := P) (w := w) (base := base) T)) (bad_sets (P := P) (w := w) (base := base) T)
  have X_set_at := ok_or (ok_up (ok_set_at (P := P) (w := w) (base := base) T)) (bad_set_at (P := P) (w := w) (base := base) T)
  have X_set_step := ok_or (ok_up (ok_set_step (P := P) (w := w) (base := base) T)) (bad_set_step (P := P) (w := w) (base := base) T)
  have X_SetWalker_init := ok_or (ok_up (ok_SetWalker_init (P := P) (w := w) (base := base) T)) (bad_SetWalker_init (P := P) (w := w) (base := base) T)
  have X_place_of_set := ok_or (ok_up (ok_place_of_set (P := P) (w := w) (base := base) T)) (bad_place_of_set (P := P) (w := w) (base := base) T)
  refine T.F__law_sets_asked.okX sc__law_sets_asked (fun vs H Q E h => ?_) (fun cdv A outer s H vs Q E hr h => ?_)
  · obtain ⟨_, _, _, _, rfl, _⟩ := h
    all_goals rfl
  · refine ⟨_, (pss_cons (ps_if (pt_cmpR op_eq (pv 0) pe_int (nomark _)) (pss_one (ps_expr (pe_callS X_sets (hr.mono (by decide)) (by rfl) T.g_sets T.F_sets.kp T.b_sets (fun σ => passAt (takes_of rfl rfl rfl rfl) σ) (pa_cons (pv 1) (pa_cons (pv 2) pa_nil))))) pss_nil)
      (pss_cons (ps_if (pt_cmpR op_eq (pv 0) pe_int (nomark _)) (pss_one (ps_expr (pe_callS X_set_at (hr.mono (by decide)) (by rfl) T.g_set_at T.F_set_at.kp T.b_set_at (fun σ => passAt (takes_of rfl rfl rfl rfl) σ) (pa_cons (pv 1) (pa_cons (pv 2) (pa_cons (pv 3) pa_nil)))))) pss_nil)
      (pss_cons (ps_if (pt_cmpR op_eq (pv 0) pe_int (nomark _)) (pss_one (ps_expr (pe_callS X_set_step (hr.mono (by decide)) (by rfl) T.g_set_step T.F_set_step.kp T.b_set_step (fun σ => passAt (takes_of rfl rfl rfl rfl) σ) (pa_cons (pv 1) (pa_cons (pv 2) (pa_cons (pv 3) pa_nil)))))) pss_nil)
      (pss_cons (ps_if (pt_cmpR op_eq (pv 0) pe_int (nomark _)) (pss_one (ps_expr (pe_make T.mk_SetWalker X_SetWalker_init (hr.mono (by decide)) (by rfl) T.g_SetWalker T.b_SetWalker_init .nil (passes_call (takes_of rfl rfl rfl rfl) fun _ _ _ _ h => h) (pa_cons (pv 1) (pa_cons (pv 2) pa_nil))))) pss_nil)
      (pss_cons (ps_if (pt_cmpR op_eq (pv 0) pe_int (nomark _)) (pss_one (ps_expr (pe_callS X_place_of_set (hr.mono (by decide)) (by rfl) T.g_place_of_set T.F_place_of_set.kp T.b_place_of_set (fun σ => passAt (takes_of rfl rfl rfl rfl) σ) (pa_cons (pv 1) (pa_cons (pe_lst pa_nil) pa_nil))))) pss_nil)
      (pss_one (ps_if (pt_cmpR op_eq (pv 0) pe_int (nomark _)) (pss_one (ps_expr (pe_callS X_place_of_set (hr.mono (by decide)) (by rfl) T.g_place_of_set T.F_place_of_set.kp T.b_place_of_set (fun σ => passAt (takes_of rfl rfl rfl rfl) σ) (pa_cons (pv 1) (pa_cons (pe_ix ix_list (pe_lst (pa_cons (pe_lst (pa_cons pe_int (pa_cons pe_int pa_nil))) (pa_cons (pe_lst (pa_cons (pe_un un_neg pe_int) pa_nil)) (pa_cons (pe_lst (pa_cons pe_int pa_nil)) pa_nil)))) (pe_op op_mod (pv 2) pe_int) (fun _ _ => rfl)) pa_nil))))) pss_nil))))))), ?_⟩
    obtain ⟨wh, z, s1, p, rfl, hw, q⟩ := h
    have h8 : wh = 8 ∨ wh = 9 ∨ wh = 10 ∨ wh = 11 ∨ wh = 12 ∨ wh = 13 := by omega
    rcases h8 with rfl | rfl | rfl | rfl | rfl | rfl
    · walk_at "rd"
      exact .inr ⟨z, s1, rfl, by omega, q _ (Same.refl _)⟩
    · walk_at "rd"
      exact .inr ⟨z, s1, p, rfl, by omega, q _ (Same.refl _)⟩
    · walk_at "rd"
      exact .inr ⟨z, s1, p, rfl, by omega, q _ (Same.refl _)⟩
    · walk_at "rd"
      intro x dx nx nd ne
      exact .inr ⟨x, z, s1, rfl, by omega, q _ (same_made nx nd)⟩
    · walk_at "rd"
      refine rd_newL (Nat.le_of_ble_eq_true rfl) fun l nl => ?_
      exact .inr ⟨z, l, rfl, by omega, q _ (same_upd nl)⟩
    · walk_at "rd"
      refine rd_newL (Nat.le_of_ble_eq_true rfl) fun l1 n1 => ?_
      walk_at "rd"
      refine rd_newL (Nat.le_of_ble_eq_true rfl) fun l2 n2 => ?_
      walk_at "rd"
      refine rd_newL (Nat.le_of_ble_eq_true rfl) fun l3 n3 => ?_
      walk_at "rd"
      refine rd_newL (Nat.le_of_ble_eq_true rfl) fun l n => ?_
      have sm := (((same_upd (o := .lst [V.int 5, V.int 5]) n1).trans (same_upd (o := .lst [V.int (-1)]) n2)).trans (same_upd (o := .lst [V.int 99]) n3)).trans (same_upd (o := .lst [V.ref l1, V.ref l2, V.ref l3]) n)
      walk_at "rd"
      have i0 := Int.emod_nonneg s1 (show (3 : Int) ≠ 0 by decide)
      have i1 := Int.emod_lt_of_pos s1 (show (0 : Int) < 3 by decide)
      obtain ⟨i, ei⟩ := Int.eq_ofNat_of_zero_le i0
      rw [ei] at i1 ⊢
      obtain ⟨b, hb⟩ : ∃ b : Addr, ([V.ref l1, V.ref l2, V.ref l3] : List V)[i]? = some (.ref b) := by
        obtain rfl | rfl | rfl : i = 0 ∨ i = 1 ∨ i = 2 := by omega
        · exact ⟨l1, rfl⟩
        · exact ⟨l2, rfl⟩
        · exact ⟨l3, rfl⟩
      refine rd_at (i := i) (SqL.of upd_same) hb ?_
      walk_at "rd"
      exact .inr ⟨z, b, rfl, by omega, q _ sm⟩

def sp_tried15 : Sp := fun vs H Q _ => ∃ (wh : Nat) (z s p : Int), vs = [.int (wh : Int), .int z, .int s, .int p] ∧
  ((((wh < 4 ∧ (z < 0 ∨ 40 < z)) ∨ (4 ≤ wh ∧ wh < 8 ∧ (z < 0 ∨ 20 < z)) ∨ (8 ≤ wh ∧ wh < 12 ∧ (z < 0 ∨ 40 < z ∨ s < 0 ∨ z < s)) ∨ (12 ≤ wh ∧ wh < 14 ∧ (z < 0 ∨ 40 < z))) ∧ ∀ H', Same H H' → Q (.str "size") H') ∨
  ((((wh = 0 ∨ wh = 3) ∧ 0 ≤ z ∧ z ≤ 40) ∨ ((wh = 4 ∨ wh = 7) ∧ 0 ≤ z ∧ z ≤ 20) ∨ ((wh = 8 ∨ wh = 11) ∧ 0 ≤ z ∧ z ≤ 40 ∧ 0 ≤ s ∧ s ≤ z) ∨ (wh = 12 ∧ 0 ≤ z ∧ z ≤ 40)) ∧ ∀ H', Same H H' → Q (.str "done") H'))
theorem ok__law_tried (T : Txt K mg) : FnOk P w K mg base CX0 7 T.f__law_tried T.fd__law_tried ["which", "size", "some", "place"] (sp_tried15) := by
  have X__law_rows_asked := ok_or (ok_up (ok__law_rows_asked (P := P) (w := w) (base := base) T)) (bad__law_rows_asked (P := P) (w := w) (base := base) T)
  have X__law_sets_asked := ok_or (ok_up (ok__law_sets_asked (P := P) (w := w) (base := base) T)) (bad__law_sets_asked (P := P) (w := w) (base := base) T)
  have G__law_word_of := okE__law_word_of (P := P) (w := w) (base := base) T
  refine T.F__law_tried.ok sc__law_tried (fun vs H Q E h => ?_) (fun cdv A outer s H vs Q E hr h => ?_)
  · obtain ⟨_, _, _, _, rfl, _⟩ := h
    all_goals rfl
  · refine ⟨_, (pss_cons (ps_try_as (i := 4) rfl rfl sc__law_tried.nd rfl (by rfl) ⟨by rfl, by decide, Or.inl T.g_StepError⟩ takes0 (fun _ _ _ tk hp => (pss_cons (ps_expr (pe_callS X__law_rows_asked (hr.mono (by decide)) (by rfl) T.g__law_rows_asked T.F__law_rows_asked.kp T.b__law_rows_asked (fun σ => passAt tk σ) (pa_cons (pv 0) (pa_cons (pv 1) (pa_cons (pv 3) pa_nil)))))
      (pss_one (ps_expr (pe_callS X__law_sets_asked (hr.mono (by decide)) (by rfl) T.g__law_sets_asked T.F__law_sets_asked.kp T.b__law_sets_asked (fun σ => passAt tk σ) (pa_cons (pv 0) (pa_cons (pv 1) (pa_cons (pv 2) (pa_cons (pv 3) pa_nil))))))))) (fun a oe cls d pn hz hf => (pss_one (ps_ret (pe_word (wd := word T) G__law_word_of (hr.mono (by decide)) (by rfl) T.g__law_word_of T.F__law_word_of.kp T.b__law_word_of hz hf (pa_cons (pv 4) pa_nil))))))
      (pss_one (ps_ret pe_str))), ?_⟩
    obtain ⟨wh, z, s1, p, rfl, r⟩ := h
    walk_at "rd"
    rcases r with ⟨hb, q⟩ | ⟨hg, q⟩
    · by_cases h8 : wh < 8
      · refine .inr ⟨wh, z, p, rfl, by omega, fun H1 sm => caught T.em_NoSize fun b nb => ?_⟩
        walk_at "rd"
        exact ⟨_, _, rfl, rfl, rfl, word_NoSize T, fun H' s => q H' (sm.trans s)⟩
      · refine .inl ⟨wh, z, p, rfl, by omega, fun H1 sm => ?_⟩
        walk_at "rd"
        refine .inr ⟨wh, z, s1, p, rfl, by omega, fun H2 sm2 => caught T.em_NoSize fun b nb => ?_⟩
        walk_at "rd"
        exact ⟨_, _, rfl, rfl, rfl, word_NoSize T, fun H' s => q H' ((sm.trans sm2).trans s)⟩
    · refine .inl ⟨wh, z, p, rfl, by omega, fun H1 sm => ?_⟩
      walk_at "rd"
      refine .inl ⟨wh, z, s1, p, rfl, by omega, fun H2 sm2 => ?_⟩
      walk_at "rd"
      exact q _ (sm.trans sm2)

/-- a cell of the script, nought behind its end -/
def sp_cell (K : PySem.W.Frag) : Sp := fun vs H Q _ => ∃ (a : Addr) (ns : List Int) (k : Nat), vs = [.ref a, .int (k : Int)] ∧ SqL K H a (ns.map V.int) ∧ Q (.int (ns.getD k 0)) H
theorem ok__law_cell_at (T : Txt K mg) : FnOk P w K mg base CX0 1 T.f__law_cell_at T.fd__law_cell_at ["script", "k"] (sp_cell K) := by
  refine T.F__law_cell_at.ok sc__law_cell_at (fun vs H Q E h => ?_) (fun cdv A outer s H vs Q E hr h => ?_)
  · obtain ⟨_, _, _, rfl, _⟩ := h
    all_goals rfl
  · refine ⟨_, (pss_cons (ps_if (pt_cmpR op_lt (pv 1) (pe_callB call_len_seq (by rfl) T.m_len PySem.boot_len (pa_cons (pv 0) pa_nil)) (nomark _)) (pss_one (ps_ret (pe_ix ix_list (pv 0) (pv 1) (fun _ _ => rfl)))) pss_nil)
      (pss_one (ps_ret pe_int))), ?_⟩
    obtain ⟨a, ns, k, rfl, hS, q⟩ := h
    walk_at "rd"
    refine rd_len hS ?_
    walk_at "rd"
    rw [List.length_map]
    refine if_d2 (fun hlt => ?_) (fun hge => ?_)
    · walk_at "rd"
      have e : ns[k]? = some (ns.getD k 0) := by
        rw [List.getD_eq_getElem?_getD, List.getElem?_eq_getElem (by omega)]
        rfl
      exact rd_at hS (ints_at e) q
    · walk_at "rd"
      rw [List.getD_eq_getElem?_getD, List.getElem?_eq_none (by omega)] at q
      exact q

/-- a number that is too small or too great -/
theorem beyond {m F : Int} {w : Nat} (hF : 0 ≤ F) (hm : 0 ≤ m) (h : w < 4) : ∃ B : Int, ([.int (-1), .int (m + 1), .int (-1 - F), .int (m + 1 + F)] : List V)[w]? = some (.int B) ∧ (B < 0 ∨ m < B) := by
  obtain rfl | rfl | rfl | rfl : w = 0 ∨ w = 1 ∨ w = 2 ∨ w = 3 := by omega
  · exact ⟨_, rfl, by omega⟩
  · exact ⟨_, rfl, by omega⟩
  · exact ⟨_, rfl, by omega⟩
  · exact ⟨_, rfl, by omega⟩
theorem some_place {F : Int} {w : Nat} (h : w < 4) : ∃ B : Int, ([.int 0, .int (-1), .int F, .int (-1 - F)] : List V)[w]? = some (.int B) := by
  obtain rfl | rfl | rfl | rfl : w = 0 ∨ w = 1 ∨ w = 2 ∨ w = 3 := by omega
  all_goals exact ⟨_, rfl⟩
theorem ok_law (T : Txt K mg) : FnOk P w K mg base CX0 8 T.f_law T.fd_law ["script"] (spLaw K) := by
  have G__law_cell_at := ok__law_cell_at (P := P) (w := w) (base := base) T
  have G__law_tried := ok__law_tried (P := P) (w := w) (base := base) T
  refine T.F_law.ok sc_law (fun vs H Q E h => ?_) (fun cdv A outer s H vs Q E hr h => ?_)
  · obtain ⟨_, _, rfl, _⟩ := h
    all_goals rfl
  · refine ⟨_, (pss_cons (ps_set (i := 1) sc_law.nd rfl (Or.inl rfl) (pe_op op_mod (pe_call G__law_cell_at (hr.mono (by decide)) (by rfl) T.g__law_cell_at T.F__law_cell_at.kp T.b__law_cell_at .nil pass0 (pa_cons (pv 0) (pa_cons pe_int pa_nil))) (pe_op op_pow pe_int pe_int)))
      (pss_cons (ps_set (i := 2) sc_law.nd rfl (Or.inl rfl) (pe_ix ix_list (pe_lst (pa_cons pe_int (pa_cons (pe_un un_neg pe_int) (pa_cons (pv 1) (pa_cons (pe_op op_sub (pe_un un_neg pe_int) (pv 1)) pa_nil))))) (pe_op op_mod (pe_call G__law_cell_at (hr.mono (by decide)) (by rfl) T.g__law_cell_at T.F__law_cell_at.kp T.b__law_cell_at .nil pass0 (pa_cons (pv 0) (pa_cons pe_int pa_nil))) pe_int) (fun _ _ => rfl)))
      (pss_cons (ps_set (i := 3) sc_law.nd rfl (Or.inl rfl) (pe_op op_mod (pe_call G__law_cell_at (hr.mono (by decide)) (by rfl) T.g__law_cell_at T.F__law_cell_at.kp T.b__law_cell_at .nil pass0 (pa_cons (pv 0) (pa_cons pe_int pa_nil))) pe_int))
      (pss_cons (ps_for PassesOwn.never rfl (pi_range1 rfl T.m_range (pa_cons pe_int pa_nil)) (pg_name (i := 4) sc_law.nd rfl (Or.inl rfl)) (C8.pss_cut (ps_set (i := 5) sc_law.nd rfl (Or.inl rfl) (pe_ifExp (pt_chain op_le op_le pe_int (pv 4) pe_int) pe_int pe_int))
      (pss_cons (ps_set (i := 6) sc_law.nd rfl (Or.inl rfl) (pe_ix ix_list (pe_lst (pa_cons (pe_un un_neg pe_int) (pa_cons (pe_op op_add (pv 5) pe_int) (pa_cons (pe_op op_sub (pe_un un_neg pe_int) (pv 1)) (pa_cons (pe_op op_add (pe_op op_add (pv 5) pe_int) (pv 1)) pa_nil))))) (pv 3) (fun _ _ => rfl)))
      (pss_one (ps_if (pt_cmpR op_ne (pe_call G__law_tried (hr.mono (by decide)) (by rfl) T.g__law_tried T.F__law_tried.kp T.b__law_tried .nil pass0 (pa_cons (pv 4) (pa_cons (pv 6) (pa_cons (pe_op op_mod (pe_call G__law_cell_at (hr.mono (by decide)) (by rfl) T.g__law_cell_at T.F__law_cell_at.kp T.b__law_cell_at .nil pass0 (pa_cons (pv 0) (pa_cons pe_int pa_nil))) pe_int) (pa_cons (pv 2) pa_nil))))) pe_str (nomark _)) (pss_one (ps_ret pe_bl)) pss_nil)))))
      (pss_cons (ps_set (i := 7) sc_law.nd rfl (Or.inl rfl) (pe_op op_mod (pe_call G__law_cell_at (hr.mono (by decide)) (by rfl) T.g__law_cell_at T.F__law_cell_at.kp T.b__law_cell_at .nil pass0 (pa_cons (pv 0) (pa_cons pe_int pa_nil))) pe_int))
      (pss_cons (ps_for PassesOwn.never rfl (pi_range2 rfl T.m_range (pa_cons pe_int (pa_cons pe_int pa_nil))) (pg_name (i := 4) sc_law.nd rfl (Or.inl rfl)) (pss_one (ps_if (pt_cmpR op_ne (pe_call G__law_tried (hr.mono (by decide)) (by rfl) T.g__law_tried T.F__law_tried.kp T.b__law_tried .nil pass0 (pa_cons (pv 4) (pa_cons (pv 7) (pa_cons (pe_ix ix_list (pe_lst (pa_cons (pe_un un_neg pe_int) (pa_cons (pe_op op_add (pv 7) pe_int) (pa_cons (pe_op op_sub (pe_un un_neg pe_int) (pv 1)) (pa_cons (pe_op op_add (pe_op op_add (pv 7) pe_int) (pv 1)) pa_nil))))) (pv 3) (fun _ _ => rfl)) (pa_cons (pv 2) pa_nil))))) pe_str (nomark _)) (pss_one (ps_ret pe_bl)) pss_nil)))
      (pss_cons (ps_for PassesOwn.never rfl (pi_list (pe_lst (pa_cons pe_int (pa_cons pe_int (pa_cons pe_int (pa_cons pe_int (pa_cons pe_int (pa_cons pe_int (pa_cons pe_int pa_nil))))))))) (pg_name (i := 4) sc_law.nd rfl (Or.inl rfl)) (pss_one (ps_if (pt_cmpR op_ne (pe_call G__law_tried (hr.mono (by decide)) (by rfl) T.g__law_tried T.F__law_tried.kp T.b__law_tried .nil pass0 (pa_cons (pv 4) (pa_cons (pe_ifExp (pt_chain op_le op_le pe_int (pv 4) pe_int) pe_int pe_int) (pa_cons pe_int (pa_cons pe_int pa_nil))))) pe_str (nomark _)) (pss_one (ps_ret pe_bl)) pss_nil)))
      (pss_one (ps_ret pe_bl))))))))), ?_⟩
    obtain ⟨a, ns, rfl, hS, hl, q⟩ := h
    walk_at "rd"
    refine ⟨a, ns, 0, rfl, hS, ?_⟩
    walk_at "rd"
    obtain ⟨F, eF⟩ : ∃ F, F = ns.getD 0 0 % 1000000000000000000000000000000 := ⟨_, rfl⟩
    have hF : 0 ≤ F := by
      rw [eF]
      exact Int.emod_nonneg _ (by decide)
    rw [← eF]
    refine rd_newL (Nat.le_of_ble_eq_true rfl) fun l1 n1 => ?_
    have s1 : Same H (upd H l1 (.lst [.int 0, .int (-1), .int F, .int (-1 - F)])) := same_upd n1
    walk_at "rd"
    refine ⟨a, ns, 1, rfl, s1.seq hS, ?_⟩
    walk_at "rd"
    have p0 := Int.emod_nonneg (ns.getD 1 0) (show (4 : Int) ≠ 0 by decide)
    have p1 := Int.emod_lt_of_pos (ns.getD 1 0) (show (0 : Int) < 4 by decide)
    obtain ⟨v, ev⟩ := Int.eq_ofNat_of_zero_le p0
    rw [ev] at p1 ⊢
    obtain ⟨P1, hP⟩ := some_place (F := F) (show v < 4 by omega)
    refine rd_at (i := v) (SqL.of upd_same) hP ?_
    generalize upd H l1 (.lst [.int 0, .int (-1), .int F, .int (-1 - F)]) = H1 at s1 ⊢
    have hS1 := s1.seq hS
    walk_at "rd"
    refine ⟨a, ns, 2, rfl, hS1, ?_⟩
    walk_at "rd"
    have w0 := Int.emod_nonneg (ns.getD 2 0) (show (4 : Int) ≠ 0 by decide)
    have w1 := Int.emod_lt_of_pos (ns.getD 2 0) (show (0 : Int) < 4 by decide)
    obtain ⟨w4, ew⟩ := Int.eq_ofNat_of_zero_le w0
    rw [ew] at w1 ⊢
    have hw4 : w4 < 4 := by omega
    refine for1 (n := 14) (by omega) (fun i σ' H' => ∃ (y1 y2 y3 : Option V), σ' = [some (.ref a), some (.int F), some (.int P1), some (.int (w4 : Int)), y1, y2, y3, none] ∧ Same H1 H') ⟨_, _, _, rfl, Same.refl _⟩ ?_ ?_
    · rintro i σ' H4 hi ⟨y1, y2, y3, rfl, s4⟩
      walk_at "rd"
      refine ⟨fun σ' H' => ∃ M : Nat, σ' = [some (.ref a), some (.int F), some (.int P1), some (.int (w4 : Int)), some (.int (i : Int)), some (.int (M : Int)), y3, none] ∧ H' = H4 ∧ ((4 ≤ i ∧ i ≤ 7 ∧ M = 20) ∨ (¬ (4 ≤ i ∧ i ≤ 7) ∧ M = 40)), ?_, ?_⟩
      · walk_at "rd"
        refine if_d2 (fun c => ?_) (fun c => ?_)
        · walk_at "rd"
          refine if_d2 (fun c2 => ?_) (fun c2 => ?_)
          · walk_at "rd"
            exact ⟨20, rfl, rfl, .inl ⟨by omega, by omega, rfl⟩⟩
          · walk_at "rd"
            exact ⟨40, rfl, rfl, .inr ⟨by omega, rfl⟩⟩
        · walk_at "rd"
          exact ⟨40, rfl, rfl, .inr ⟨by omega, rfl⟩⟩
      rintro σ5 H5 ⟨M, rfl, rfl, hM⟩
      walk_at "rd"
      refine rd_newL (Nat.le_of_ble_eq_true rfl) fun l nl => ?_
      have s5 : Same H5 (upd H5 l (.lst [.int (-1), .int ((M : Int) + 1), .int (-1 - F), .int ((M : Int) + 1 + F)])) := same_upd nl
      obtain ⟨B, hB, bB⟩ := beyond (m := (M : Int)) hF (by omega) hw4
      walk_at "rd"
      refine rd_at (i := w4) (SqL.of upd_same) hB ?_
      generalize upd H5 l (.lst [.int (-1), .int ((M : Int) + 1), .int (-1 - F), .int ((M : Int) + 1 + F)]) = H6 at s5 ⊢
      walk_at "rd"
      refine ⟨a, ns, 3, rfl, s5.seq (s4.seq hS1), ?_⟩
      walk_at "rd"
      refine ⟨i, B, _, P1, rfl, .inl ⟨by omega, fun H7 s7 => ?_⟩⟩
      walk_at "rd"
      refine rd_neS0 ?_
      walk_at "rd"
      exact ⟨_, _, _, rfl, (s4.trans s5).trans s7⟩
    rintro σ' H2 ⟨y1, y2, y3, rfl, s2⟩
    have hS2 := s2.seq hS1
    walk_at "rd"
    refine ⟨a, ns, 4, rfl, hS2, ?_⟩
    walk_at "rd"
    have m0 := Int.emod_nonneg (ns.getD 4 0) (show (41 : Int) ≠ 0 by decide)
    have m1 := Int.emod_lt_of_pos (ns.getD 4 0) (show (0 : Int) < 41 by decide)
    obtain ⟨m, em⟩ := Int.eq_ofNat_of_zero_le m0
    rw [em] at m1 ⊢
    refine for2 (lo := 8) (n := 4) rfl (by decide) (by decide) (fun i σ' H' => ∃ (y1 : Option V), σ' = [some (.ref a), some (.int F), some (.int P1), some (.int (w4 : Int)), y1, y2, y3, some (.int (m : Int))] ∧ Same H2 H') ⟨_, rfl, Same.refl _⟩ ?_ ?_
    · rintro i σ' H4 hi ⟨y1, rfl, s4⟩
      walk_at "rd"
      refine rd_newL (Nat.le_of_ble_eq_true rfl) fun l nl => ?_
      have s5 : Same H4 (upd H4 l (.lst [.int (-1), .int ((m : Int) + 1), .int (-1 - F), .int ((m : Int) + 1 + F)])) := same_upd nl
      obtain ⟨B, hB, bB⟩ := beyond (m := (m : Int)) hF (by omega) hw4
      walk_at "rd"
      refine rd_at (i := w4) (SqL.of upd_same) hB ?_
      generalize upd H4 l (.lst [.int (-1), .int ((m : Int) + 1), .int (-1 - F), .int ((m : Int) + 1 + F)]) = H6 at s5 ⊢
      walk_at "rd"
      refine ⟨8 + i, m, B, P1, rfl, .inl ⟨by omega, fun H7 s7 => ?_⟩⟩
      walk_at "rd"
      refine rd_neS0 ?_
      walk_at "rd"
      exact ⟨_, rfl, (s4.trans s5).trans s7⟩
    rintro σ' H3 ⟨y1, rfl, s3⟩
    walk_at "rd"
    refine rd_newL (Nat.le_of_ble_eq_true rfl) fun l nl => ?_
    have hL : (upd H3 l (.lst [.int 0, .int 3, .int 4, .int 7, .int 8, .int 11, .int 12])) l = some (.lst [.int 0, .int 3, .int 4, .int 7, .int 8, .int 11, .int 12]) := upd_same
    generalize upd H3 l (.lst [.int 0, .int 3, .int 4, .int 7, .int 8, .int 11, .int 12]) = H4 at hL ⊢
    refine forL (xs := [.int 0, .int 3, .int 4, .int 7, .int 8, .int 11, .int 12]) (fun i σ' H' => ∃ (z1 z2 z3 : Option V), σ' = [some (.ref a), some (.int F), some (.int P1), some (.int (w4 : Int)), z1, z2, z3, some (.int (m : Int))] ∧ Same H4 H') ⟨_, _, _, rfl, Same.refl _⟩ (fun i σ' H' _ ⟨_, _, _, _, s4⟩ => SqL.of (s4 _ _ hL)) ?_ ?_
    · rintro i x σ' H' hi ⟨z1, z2, z3, rfl, s4⟩
      have hi7 : i < 7 := (List.getElem?_eq_some_iff.mp hi).1
      obtain rfl | rfl | rfl | rfl | rfl | rfl | rfl : i = 0 ∨ i = 1 ∨ i = 2 ∨ i = 3 ∨ i = 4 ∨ i = 5 ∨ i = 6 := by omega
      · obtain rfl : V.int 0 = x := Option.some.inj hi
        walk_at "rd"
        refine ⟨0, 40, 20, 0, rfl, .inr ⟨by omega, fun H5 s5 => ?_⟩⟩
        walk_at "rd"
        refine rd_neS0 ?_
        walk_at "rd"
        exact ⟨_, _, _, rfl, s4.trans s5⟩
      · obtain rfl : V.int 3 = x := Option.some.inj hi
        walk_at "rd"
        refine ⟨3, 40, 20, 0, rfl, .inr ⟨by omega, fun H5 s5 => ?_⟩⟩
        walk_at "rd"
        refine rd_neS0 ?_
        walk_at "rd"
        exact ⟨_, _, _, rfl, s4.trans s5⟩
      · obtain rfl : V.int 4 = x := Option.some.inj hi
        walk_at "rd"
        refine ⟨4, 20, 20, 0, rfl, .inr ⟨by omega, fun H5 s5 => ?_⟩⟩
        walk_at "rd"
        refine rd_neS0 ?_
        walk_at "rd"
        exact ⟨_, _, _, rfl, s4.trans s5⟩
      · obtain rfl : V.int 7 = x := Option.some.inj hi
        walk_at "rd"
        refine ⟨7, 20, 20, 0, rfl, .inr ⟨by omega, fun H5 s5 => ?_⟩⟩
        walk_at "rd"
        refine rd_neS0 ?_
        walk_at "rd"
        exact ⟨_, _, _, rfl, s4.trans s5⟩
      · obtain rfl : V.int 8 = x := Option.some.inj hi
        walk_at "rd"
        refine ⟨8, 40, 20, 0, rfl, .inr ⟨by omega, fun H5 s5 => ?_⟩⟩
        walk_at "rd"
        refine rd_neS0 ?_
        walk_at "rd"
        exact ⟨_, _, _, rfl, s4.trans s5⟩
      · obtain rfl : V.int 11 = x := Option.some.inj hi
        walk_at "rd"
        refine ⟨11, 40, 20, 0, rfl, .inr ⟨by omega, fun H5 s5 => ?_⟩⟩
        walk_at "rd"
        refine rd_neS0 ?_
        walk_at "rd"
        exact ⟨_, _, _, rfl, s4.trans s5⟩
      · obtain rfl : V.int 12 = x := Option.some.inj hi
        walk_at "rd"
        refine ⟨12, 40, 20, 0, rfl, .inr ⟨by omega, fun H5 s5 => ?_⟩⟩
        walk_at "rd"
        refine rd_neS0 ?_
        walk_at "rd"
        exact ⟨_, _, _, rfl, s4.trans s5⟩
    · rintro σ' H' ⟨z1, z2, z3, rfl, s4⟩
      walk_at "rd"
      exact q _
end
end One
namespace One
open PySem L2
/-! ### what the top has written; the head -/
theorem all_mk {l : PySem.W.OpenLaw} {w : World} {K : PySem.W.Frag} {h : Heap} {mg : Str → Option Value} {fa f0 f1 f2 f3 f4 f5 f6 f7 f8 f9 f10 f11 f12 f13 f14 f15 f16 f17 f18 f19 f20 f21 f22 f23 f24 : Addr} (X : K.In h) (G : h.Ns mainGlobals mg) (hfa : mg "law" = some (.ref fa))
    {od0 an0 : Option Addr} {sl0 : Array (Option Value)} {oc0 kV0 dc0 pm0 cd0 ct0 : Value}
    {od1 an1 : Option Addr} {sl1 : Array (Option Value)} {oc1 kV1 dc1 pm1 cd1 ct1 : Value}
    {od2 an2 : Option Addr} {sl2 : Array (Option Value)} {oc2 kV2 dc2 pm2 cd2 ct2 : Value}
    {od3 an3 : Option Addr} {sl3 : Array (Option Value)} {oc3 kV3 dc3 pm3 cd3 ct3 : Value}
    {od4 an4 : Option Addr} {sl4 : Array (Option Value)} {oc4 kV4 dc4 pm4 cd4 ct4 : Value}
    {od5 an5 : Option Addr} {sl5 : Array (Option Value)} {oc5 kV5 dc5 pm5 cd5 ct5 : Value}
    {od6 an6 : Option Addr} {sl6 : Array (Option Value)} {oc6 kV6 dc6 pm6 cd6 ct6 : Value}
    {od7 an7 : Option Addr} {sl7 : Array (Option Value)} {oc7 kV7 dc7 pm7 cd7 ct7 : Value}
    {od8 an8 : Option Addr} {sl8 : Array (Option Value)} {oc8 kV8 dc8 pm8 cd8 ct8 : Value}
    {od9 an9 : Option Addr} {sl9 : Array (Option Value)} {oc9 kV9 dc9 pm9 cd9 ct9 : Value}
    {od10 an10 : Option Addr} {sl10 : Array (Option Value)} {oc10 kV10 dc10 pm10 cd10 ct10 : Value}
    {od11 an11 : Option Addr} {sl11 : Array (Option Value)} {oc11 kV11 dc11 pm11 cd11 ct11 : Value}
    {od12 an12 : Option Addr} {sl12 : Array (Option Value)} {oc12 kV12 dc12 pm12 cd12 ct12 : Value}
    {od13 an13 : Option Addr} {sl13 : Array (Option Value)} {oc13 kV13 dc13 pm13 cd13 ct13 : Value}
    {od14 an14 : Option Addr} {sl14 : Array (Option Value)} {oc14 kV14 dc14 pm14 cd14 ct14 : Value}
    {od15 an15 : Option Addr} {sl15 : Array (Option Value)} {oc15 kV15 dc15 pm15 cd15 ct15 : Value}
    {od16 an16 : Option Addr} {sl16 : Array (Option Value)} {oc16 kV16 dc16 pm16 cd16 ct16 : Value}
    {od17 an17 : Option Addr} {sl17 : Array (Option Value)} {oc17 kV17 dc17 pm17 cd17 ct17 : Value}
    {od18 an18 : Option Addr} {sl18 : Array (Option Value)} {oc18 kV18 dc18 pm18 cd18 ct18 : Value}
    {od19 an19 : Option Addr} {sl19 : Array (Option Value)} {oc19 kV19 dc19 pm19 cd19 ct19 : Value}
    {od20 an20 : Option Addr} {sl20 : Array (Option Value)} {oc20 kV20 dc20 pm20 cd20 ct20 : Value}
    {od21 an21 : Option Addr} {sl21 : Array (Option Value)} {oc21 kV21 dc21 pm21 cd21 ct21 : Value}
    {od22 an22 : Option Addr} {sl22 : Array (Option Value)} {oc22 kV22 dc22 pm22 cd22 ct22 : Value}
    {od23 an23 : Option Addr} {sl23 : Array (Option Value)} {oc23 kV23 dc23 pm23 cd23 ct23 : Value}
    {od24 an24 : Option Addr} {sl24 : Array (Option Value)} {oc24 kV24 dc24 pm24 cd24 ct24 : Value}
    {C_RowWalker : Addr}
    {C_SetWalker : Addr}
    {C_OrderWalker : Addr}
    {C_Walker : Addr}
    {C_NoSize : Addr}
    {C_NoPlace : Addr}
    {C_NoStep : Addr}
    {C_NoThing : Addr}
    {C_StepError : Addr}
    {t_MOST_sets : Tok}
    {t_MOST_orders : Tok}
    {t_MOST_rows : Tok}
    (aC_RowWalker : PySem.W.nsIn K mainGlobals "RowWalker" = some (some (.ref C_RowWalker)))
    (aC_SetWalker : PySem.W.nsIn K mainGlobals "SetWalker" = some (some (.ref C_SetWalker)))
    (aC_OrderWalker : PySem.W.nsIn K mainGlobals "OrderWalker" = some (some (.ref C_OrderWalker)))
    (aC_Walker : PySem.W.nsIn K mainGlobals "Walker" = some (some (.ref C_Walker)))
    (aC_NoSize : PySem.W.nsIn K mainGlobals "NoSize" = some (some (.ref C_NoSize)))
    (aC_NoPlace : PySem.W.nsIn K mainGlobals "NoPlace" = some (some (.ref C_NoPlace)))
    (aC_NoStep : PySem.W.nsIn K mainGlobals "NoStep" = some (some (.ref C_NoStep)))
    (aC_NoThing : PySem.W.nsIn K mainGlobals "NoThing" = some (some (.ref C_NoThing)))
    (aC_StepError : PySem.W.nsIn K mainGlobals "StepError" = some (some (.ref C_StepError)))
    (ty_NoSize : PySem.W.typeIn K (.ref C_NoSize) = some (.type "type"))
    (sb_NoSize : PySem.W.subIn K (.ref C_NoSize) (.type "BaseException") = some true)
    (hd_NoSize : PySem.W.hasDictIn K C_NoSize = true)
    (ss_NoSize : PySem.W.subIn K (.ref C_NoSize) (.ref C_NoSize) = some true)
    (ty_NoPlace : PySem.W.typeIn K (.ref C_NoPlace) = some (.type "type"))
    (sb_NoPlace : PySem.W.subIn K (.ref C_NoPlace) (.type "BaseException") = some true)
    (hd_NoPlace : PySem.W.hasDictIn K C_NoPlace = true)
    (ss_NoPlace : PySem.W.subIn K (.ref C_NoPlace) (.ref C_NoPlace) = some true)
    (ty_NoStep : PySem.W.typeIn K (.ref C_NoStep) = some (.type "type"))
    (sb_NoStep : PySem.W.subIn K (.ref C_NoStep) (.type "BaseException") = some true)
    (hd_NoStep : PySem.W.hasDictIn K C_NoStep = true)
    (ss_NoStep : PySem.W.subIn K (.ref C_NoStep) (.ref C_NoStep) = some true)
    (ty_NoThing : PySem.W.typeIn K (.ref C_NoThing) = some (.type "type"))
    (sb_NoThing : PySem.W.subIn K (.ref C_NoThing) (.type "BaseException") = some true)
    (hd_NoThing : PySem.W.hasDictIn K C_NoThing = true)
    (ss_NoThing : PySem.W.subIn K (.ref C_NoThing) (.ref C_NoThing) = some true)
    (ty_StepError : PySem.W.typeIn K (.ref C_StepError) = some (.type "type"))
    (sb_StepError : PySem.W.subIn K (.ref C_StepError) (.type "BaseException") = some true)
    (hd_StepError : PySem.W.hasDictIn K C_StepError = true)
    (ss_StepError : PySem.W.subIn K (.ref C_StepError) (.ref C_StepError) = some true)
    (x_NoSize : PySem.W.excIn K C_NoSize [.type "ValueError", .type "Exception", .type "BaseException", .type "object"] "ValueError.__new__" = true)
    (k_NoSize : PySem.W.keepIn K (.ref C_NoSize) = true)
    (y_n : PySem.W.specialIn K (.builtin "object.__class__") "__get__" = some (some (.builtin "getset_descriptor.__get__")))
    (y_t : PySem.W.takesIn K (.builtin "object.__class__") = some true)
    (y_ga_NoSize : PySem.W.findIn K (.ref C_NoSize) "__getattribute__" = some (some (.builtin "BaseException.__getattribute__")))
    (y_gt_NoSize : PySem.W.findIn K (.ref C_NoSize) "__getattr__" = some none)
    (y_cl_NoSize : PySem.W.findIn K (.ref C_NoSize) "__class__" = some (some (.builtin "object.__class__")))
    (y_mr_NoSize : PySem.W.mroIn K C_NoSize (.type "object") = some true)
    (se_NoSize : PySem.W.subIn K (.ref C_NoSize) (.ref C_StepError) = some true)
    (sv_NoSize : PySem.W.subIn K (.ref C_NoSize) (.type "ValueError") = some true)
    (su_NoSize_NoPlace : PySem.W.subIn K (.ref C_NoSize) (.ref C_NoPlace) = some false)
    (su_NoSize_NoStep : PySem.W.subIn K (.ref C_NoSize) (.ref C_NoStep) = some false)
    (su_NoSize_NoThing : PySem.W.subIn K (.ref C_NoSize) (.ref C_NoThing) = some false)
    (fi_Walker : PySem.W.findIn K (.ref C_Walker) "__init__" = some (some (.ref f15)))
    (rd_Walker : PySem.W.readsIn K C_Walker (.type "type") = true)
    (ga_Walker : PySem.W.specialIn K (.ref C_Walker) "__getattribute__" = some (some (.builtin "type.__getattribute__")))
    (fc_Walker : PySem.W.findCls K (.ref C_Walker) (.type "type") "__init__" = some (.val (.ref f15)))
    (in_RowWalker : PySem.W.findIn K (.ref C_RowWalker) "__init__" = some (some (.ref f16)))
    (pg_RowWalker : PySem.W.plainGet K C_RowWalker Str.empty = true)
    (hd_RowWalker : PySem.W.hasDictIn K C_RowWalker = true)
    (po_RowWalker : PySem.W.plainOver K C_RowWalker = true)
    (sa_RowWalker : PySem.W.findIn K (.ref C_RowWalker) "__setattr__" = some (some (.builtin "object.__setattr__")))
    (mk_RowWalker : PySem.W.makesIn K C_RowWalker = true)
    (kc_RowWalker : PySem.W.keepIn K (.ref C_RowWalker) = true)
    (q16 : PySem.W.isFn K (.ref f16) = true)
    (na_RowWalker_size : PySem.W.findIn K (.ref C_RowWalker) "size" = some none)
    (na_RowWalker_total : PySem.W.findIn K (.ref C_RowWalker) "total" = some none)
    (na_RowWalker_at : PySem.W.findIn K (.ref C_RowWalker) "at" = some none)
    (in_SetWalker : PySem.W.findIn K (.ref C_SetWalker) "__init__" = some (some (.ref f17)))
    (pg_SetWalker : PySem.W.plainGet K C_SetWalker Str.empty = true)
    (hd_SetWalker : PySem.W.hasDictIn K C_SetWalker = true)
    (po_SetWalker : PySem.W.plainOver K C_SetWalker = true)
    (sa_SetWalker : PySem.W.findIn K (.ref C_SetWalker) "__setattr__" = some (some (.builtin "object.__setattr__")))
    (mk_SetWalker : PySem.W.makesIn K C_SetWalker = true)
    (kc_SetWalker : PySem.W.keepIn K (.ref C_SetWalker) = true)
    (q17 : PySem.W.isFn K (.ref f17) = true)
    (na_SetWalker_things : PySem.W.findIn K (.ref C_SetWalker) "things" = some none)
    (na_SetWalker_some : PySem.W.findIn K (.ref C_SetWalker) "some" = some none)
    (na_SetWalker_total : PySem.W.findIn K (.ref C_SetWalker) "total" = some none)
    (na_SetWalker_at : PySem.W.findIn K (.ref C_SetWalker) "at" = some none)
    (in_OrderWalker : PySem.W.findIn K (.ref C_OrderWalker) "__init__" = some (some (.ref f18)))
    (pg_OrderWalker : PySem.W.plainGet K C_OrderWalker Str.empty = true)
    (hd_OrderWalker : PySem.W.hasDictIn K C_OrderWalker = true)
    (po_OrderWalker : PySem.W.plainOver K C_OrderWalker = true)
    (sa_OrderWalker : PySem.W.findIn K (.ref C_OrderWalker) "__setattr__" = some (some (.builtin "object.__setattr__")))
    (mk_OrderWalker : PySem.W.makesIn K C_OrderWalker = true)
    (kc_OrderWalker : PySem.W.keepIn K (.ref C_OrderWalker) = true)
    (q18 : PySem.W.isFn K (.ref f18) = true)
    (na_OrderWalker_things : PySem.W.findIn K (.ref C_OrderWalker) "things" = some none)
    (na_OrderWalker_total : PySem.W.findIn K (.ref C_OrderWalker) "total" = some none)
    (na_OrderWalker_at : PySem.W.findIn K (.ref C_OrderWalker) "at" = some none)
    (a_picks : PySem.W.nsIn K mainGlobals "picks" = some (some (.ref f0)))
    (a_sets : PySem.W.nsIn K mainGlobals "sets" = some (some (.ref f1)))
    (a_asked : PySem.W.nsIn K mainGlobals "asked" = some (some (.ref f12)))
    (a_asked_sets : PySem.W.nsIn K mainGlobals "asked_sets" = some (some (.ref f2)))
    (a_set_at : PySem.W.nsIn K mainGlobals "set_at" = some (some (.ref f3)))
    (a_set_step : PySem.W.nsIn K mainGlobals "set_step" = some (some (.ref f4)))
    (a_asked_set : PySem.W.nsIn K mainGlobals "asked_set" = some (some (.ref f5)))
    (a_place_of_set : PySem.W.nsIn K mainGlobals "place_of_set" = some (some (.ref f6)))
    (a_orders : PySem.W.nsIn K mainGlobals "orders" = some (some (.ref f7)))
    (a_asked_orders : PySem.W.nsIn K mainGlobals "asked_orders" = some (some (.ref f8)))
    (a_order_at : PySem.W.nsIn K mainGlobals "order_at" = some (some (.ref f9)))
    (a_order_step : PySem.W.nsIn K mainGlobals "order_step" = some (some (.ref f10)))
    (a_rows : PySem.W.nsIn K mainGlobals "rows" = some (some (.ref f11)))
    (a_asked_rows : PySem.W.nsIn K mainGlobals "asked_rows" = some (some (.ref f12)))
    (a_row_at : PySem.W.nsIn K mainGlobals "row_at" = some (some (.ref f13)))
    (a_row_step : PySem.W.nsIn K mainGlobals "row_step" = some (some (.ref f14)))
    (a__law_cell_at : PySem.W.nsIn K mainGlobals "_law_cell_at" = some (some (.ref f19)))
    (a__law_word_of : PySem.W.nsIn K mainGlobals "_law_word_of" = some (some (.ref f20)))
    (a__law_rows_asked : PySem.W.nsIn K mainGlobals "_law_rows_asked" = some (some (.ref f21)))
    (a__law_sets_asked : PySem.W.nsIn K mainGlobals "_law_sets_asked" = some (some (.ref f22)))
    (a__law_tried : PySem.W.nsIn K mainGlobals "_law_tried" = some (some (.ref f23)))
    (a_law : PySem.W.nsIn K mainGlobals "law" = some (some (.ref f24)))
    (a_MOST_sets : PySem.W.nsIn K mainGlobals "MOST_sets" = some (some (.int 40 t_MOST_sets)))
    (a_MOST_orders : PySem.W.nsIn K mainGlobals "MOST_orders" = some (some (.int 20 t_MOST_orders)))
    (a_MOST_rows : PySem.W.nsIn K mainGlobals "MOST_rows" = some (some (.int 40 t_MOST_rows)))
    (z_ValueError : PySem.W.nsIn K mainGlobals "ValueError" = some none)
    (z_isinstance : PySem.W.nsIn K mainGlobals "isinstance" = some none)
    (z_len : PySem.W.nsIn K mainGlobals "len" = some none)
    (z_range : PySem.W.nsIn K mainGlobals "range" = some none)
    (z_reversed : PySem.W.nsIn K mainGlobals "reversed" = some none)
    (l0 : K.lookup f0 = some ⟨oc0, od0, .func (PySem.W.fnOf "picks" "picks" (defArgs s_picks) (defBody s_picks) (defScope s_picks) .none kV0 dc0 pm0 an0 cd0 ct0), sl0⟩)
    (c0 : PySem.W.codeIn K cd0 "picks" = true)
    (k0 : PySem.W.keepIn K (.ref f0) = true)
    (l1 : K.lookup f1 = some ⟨oc1, od1, .func (PySem.W.fnOf "sets" "sets" (defArgs s_sets) (defBody s_sets) (defScope s_sets) .none kV1 dc1 pm1 an1 cd1 ct1), sl1⟩)
    (c1 : PySem.W.codeIn K cd1 "sets" = true)
    (k1 : PySem.W.keepIn K (.ref f1) = true)
    (l2 : K.lookup f2 = some ⟨oc2, od2, .func (PySem.W.fnOf "asked" "asked" (defArgs s_asked_sets) (defBody s_asked_sets) (defScope s_asked_sets) .none kV2 dc2 pm2 an2 cd2 ct2), sl2⟩)
    (c2 : PySem.W.codeIn K cd2 "asked" = true)
    (k2 : PySem.W.keepIn K (.ref f2) = true)
    (l3 : K.lookup f3 = some ⟨oc3, od3, .func (PySem.W.fnOf "set_at" "set_at" (defArgs s_set_at) (defBody s_set_at) (defScope s_set_at) .none kV3 dc3 pm3 an3 cd3 ct3), sl3⟩)
    (c3 : PySem.W.codeIn K cd3 "set_at" = true)
    (k3 : PySem.W.keepIn K (.ref f3) = true)
    (l4 : K.lookup f4 = some ⟨oc4, od4, .func (PySem.W.fnOf "set_step" "set_step" (defArgs s_set_step) (defBody s_set_step) (defScope s_set_step) .none kV4 dc4 pm4 an4 cd4 ct4), sl4⟩)
    (c4 : PySem.W.codeIn K cd4 "set_step" = true)
    (k4 : PySem.W.keepIn K (.ref f4) = true)
    (l5 : K.lookup f5 = some ⟨oc5, od5, .func (PySem.W.fnOf "asked_set" "asked_set" (defArgs s_asked_set) (defBody s_asked_set) (defScope s_asked_set) .none kV5 dc5 pm5 an5 cd5 ct5), sl5⟩)
    (c5 : PySem.W.codeIn K cd5 "asked_set" = true)
    (k5 : PySem.W.keepIn K (.ref f5) = true)
    (l6 : K.lookup f6 = some ⟨oc6, od6, .func (PySem.W.fnOf "place_of_set" "place_of_set" (defArgs s_place_of_set) (defBody s_place_of_set) (defScope s_place_of_set) .none kV6 dc6 pm6 an6 cd6 ct6), sl6⟩)
    (c6 : PySem.W.codeIn K cd6 "place_of_set" = true)
    (k6 : PySem.W.keepIn K (.ref f6) = true)
    (l7 : K.lookup f7 = some ⟨oc7, od7, .func (PySem.W.fnOf "orders" "orders" (defArgs s_orders) (defBody s_orders) (defScope s_orders) .none kV7 dc7 pm7 an7 cd7 ct7), sl7⟩)
    (c7 : PySem.W.codeIn K cd7 "orders" = true)
    (k7 : PySem.W.keepIn K (.ref f7) = true)
    (l8 : K.lookup f8 = some ⟨oc8, od8, .func (PySem.W.fnOf "asked" "asked" (defArgs s_asked_orders) (defBody s_asked_orders) (defScope s_asked_orders) .none kV8 dc8 pm8 an8 cd8 ct8), sl8⟩)
    (c8 : PySem.W.codeIn K cd8 "asked" = true)
    (k8 : PySem.W.keepIn K (.ref f8) = true)
    (l9 : K.lookup f9 = some ⟨oc9, od9, .func (PySem.W.fnOf "order_at" "order_at" (defArgs s_order_at) (defBody s_order_at) (defScope s_order_at) .none kV9 dc9 pm9 an9 cd9 ct9), sl9⟩)
    (c9 : PySem.W.codeIn K cd9 "order_at" = true)
    (k9 : PySem.W.keepIn K (.ref f9) = true)
    (l10 : K.lookup f10 = some ⟨oc10, od10, .func (PySem.W.fnOf "order_step" "order_step" (defArgs s_order_step) (defBody s_order_step) (defScope s_order_step) .none kV10 dc10 pm10 an10 cd10 ct10), sl10⟩)
    (c10 : PySem.W.codeIn K cd10 "order_step" = true)
    (k10 : PySem.W.keepIn K (.ref f10) = true)
    (l11 : K.lookup f11 = some ⟨oc11, od11, .func (PySem.W.fnOf "rows" "rows" (defArgs s_rows) (defBody s_rows) (defScope s_rows) .none kV11 dc11 pm11 an11 cd11 ct11), sl11⟩)
    (c11 : PySem.W.codeIn K cd11 "rows" = true)
    (k11 : PySem.W.keepIn K (.ref f11) = true)
    (l12 : K.lookup f12 = some ⟨oc12, od12, .func (PySem.W.fnOf "asked" "asked" (defArgs s_asked_rows) (defBody s_asked_rows) (defScope s_asked_rows) .none kV12 dc12 pm12 an12 cd12 ct12), sl12⟩)
    (c12 : PySem.W.codeIn K cd12 "asked" = true)
    (k12 : PySem.W.keepIn K (.ref f12) = true)
    (l13 : K.lookup f13 = some ⟨oc13, od13, .func (PySem.W.fnOf "row_at" "row_at" (defArgs s_row_at) (defBody s_row_at) (defScope s_row_at) .none kV13 dc13 pm13 an13 cd13 ct13), sl13⟩)
    (c13 : PySem.W.codeIn K cd13 "row_at" = true)
    (k13 : PySem.W.keepIn K (.ref f13) = true)
    (l14 : K.lookup f14 = some ⟨oc14, od14, .func (PySem.W.fnOf "row_step" "row_step" (defArgs s_row_step) (defBody s_row_step) (defScope s_row_step) .none kV14 dc14 pm14 an14 cd14 ct14), sl14⟩)
    (c14 : PySem.W.codeIn K cd14 "row_step" = true)
    (k14 : PySem.W.keepIn K (.ref f14) = true)
    (l15 : K.lookup f15 = some ⟨oc15, od15, .func (PySem.W.fnOf "__init__" "Walker.__init__" (defArgs s_Walker_init) (defBody s_Walker_init) (defScope s_Walker_init) .none kV15 dc15 pm15 an15 cd15 ct15), sl15⟩)
    (c15 : PySem.W.codeIn K cd15 "Walker.__init__" = true)
    (k15 : PySem.W.keepIn K (.ref f15) = true)
    (l16 : K.lookup f16 = some ⟨oc16, od16, .func (PySem.W.fnOf "__init__" "RowWalker.__init__" (defArgs s_RowWalker_init) (defBody s_RowWalker_init) (defScope s_RowWalker_init) .none kV16 dc16 pm16 an16 cd16 ct16), sl16⟩)
    (c16 : PySem.W.codeIn K cd16 "RowWalker.__init__" = true)
    (k16 : PySem.W.keepIn K (.ref f16) = true)
    (l17 : K.lookup f17 = some ⟨oc17, od17, .func (PySem.W.fnOf "__init__" "SetWalker.__init__" (defArgs s_SetWalker_init) (defBody s_SetWalker_init) (defScope s_SetWalker_init) .none kV17 dc17 pm17 an17 cd17 ct17), sl17⟩)
    (c17 : PySem.W.codeIn K cd17 "SetWalker.__init__" = true)
    (k17 : PySem.W.keepIn K (.ref f17) = true)
    (l18 : K.lookup f18 = some ⟨oc18, od18, .func (PySem.W.fnOf "__init__" "OrderWalker.__init__" (defArgs s_OrderWalker_init) (defBody s_OrderWalker_init) (defScope s_OrderWalker_init) .none kV18 dc18 pm18 an18 cd18 ct18), sl18⟩)
    (c18 : PySem.W.codeIn K cd18 "OrderWalker.__init__" = true)
    (k18 : PySem.W.keepIn K (.ref f18) = true)
    (l19 : K.lookup f19 = some ⟨oc19, od19, .func (PySem.W.fnOf "_law_cell_at" "_law_cell_at" (defArgs s__law_cell_at) (defBody s__law_cell_at) (defScope s__law_cell_at) .none kV19 dc19 pm19 an19 cd19 ct19), sl19⟩)
    (c19 : PySem.W.codeIn K cd19 "_law_cell_at" = true)
    (k19 : PySem.W.keepIn K (.ref f19) = true)
    (l20 : K.lookup f20 = some ⟨oc20, od20, .func (PySem.W.fnOf "_law_word_of" "_law_word_of" (defArgs s__law_word_of) (defBody s__law_word_of) (defScope s__law_word_of) .none kV20 dc20 pm20 an20 cd20 ct20), sl20⟩)
    (c20 : PySem.W.codeIn K cd20 "_law_word_of" = true)
    (k20 : PySem.W.keepIn K (.ref f20) = true)
    (l21 : K.lookup f21 = some ⟨oc21, od21, .func (PySem.W.fnOf "_law_rows_asked" "_law_rows_asked" (defArgs s__law_rows_asked) (defBody s__law_rows_asked) (defScope s__law_rows_asked) .none kV21 dc21 pm21 an21 cd21 ct21), sl21⟩)
    (c21 : PySem.W.codeIn K cd21 "_law_rows_asked" = true)
    (k21 : PySem.W.keepIn K (.ref f21) = true)
    (l22 : K.lookup f22 = some ⟨oc22, od22, .func (PySem.W.fnOf "_law_sets_asked" "_law_sets_asked" (defArgs s__law_sets_asked) (defBody s__law_sets_asked) (defScope s__law_sets_asked) .none kV22 dc22 pm22 an22 cd22 ct22), sl22⟩)
    (c22 : PySem.W.codeIn K cd22 "_law_sets_asked" = true)
    (k22 : PySem.W.keepIn K (.ref f22) = true)
    (l23 : K.lookup f23 = some ⟨oc23, od23, .func (PySem.W.fnOf "_law_tried" "_law_tried" (defArgs s__law_tried) (defBody s__law_tried) (defScope s__law_tried) .none kV23 dc23 pm23 an23 cd23 ct23), sl23⟩)
    (c23 : PySem.W.codeIn K cd23 "_law_tried" = true)
    (k23 : PySem.W.keepIn K (.ref f23) = true)
    (l24 : K.lookup f24 = some ⟨oc24, od24, .func (PySem.W.fnOf "law" "law" (defArgs s_law) (defBody s_law) (defScope s_law) .none kV24 dc24 pm24 an24 cd24 ct24), sl24⟩)
    (c24 : PySem.W.codeIn K cd24 "law" = true)
    (k24 : PySem.W.keepIn K (.ref f24) = true) :
    ∃ fd : FuncData, (∀ (s : Shared) (v : Value), BindsTo s fd ⟨[v], []⟩ [("script", v)]) ∧ ∀ base : Heap, K.In base → base.Ns mainGlobals mg → FnOk l.prog w K mg base CX0 8 fa fd ["script"] (spLaw K) := by
  have e := hfa.symm.trans (PySem.W.mg_of X G a_law)
  cases e
  have F0 := fun_mk (st := s_picks) l0 c0 k0
  have b0 := F0.binds (ps := ["total", "some"]) fun _ _ _ _ _ _ us hl => match us, hl with | [_, _], _ => rfl
  have F1 := fun_mk (st := s_sets) l1 c1 k1
  have b1 := F1.binds (ps := ["things", "some"]) fun _ _ _ _ _ _ us hl => match us, hl with | [_, _], _ => rfl
  have F2 := fun_mk (st := s_asked_sets) l2 c2 k2
  have b2 := F2.binds (ps := ["things", "some", "place"]) fun _ _ _ _ _ _ us hl => match us, hl with | [_, _, _], _ => rfl
  have F3 := fun_mk (st := s_set_at) l3 c3 k3
  have b3 := F3.binds (ps := ["things", "some", "place"]) fun _ _ _ _ _ _ us hl => match us, hl with | [_, _, _], _ => rfl
  have F4 := fun_mk (st := s_set_step) l4 c4 k4
  have b4 := F4.binds (ps := ["things", "some", "place"]) fun _ _ _ _ _ _ us hl => match us, hl with | [_, _, _], _ => rfl
  have F5 := fun_mk (st := s_asked_set) l5 c5 k5
  have b5 := F5.binds (ps := ["things", "members"]) fun _ _ _ _ _ _ us hl => match us, hl with | [_, _], _ => rfl
  have F6 := fun_mk (st := s_place_of_set) l6 c6 k6
  have b6 := F6.binds (ps := ["things", "members"]) fun _ _ _ _ _ _ us hl => match us, hl with | [_, _], _ => rfl
  have F7 := fun_mk (st := s_orders) l7 c7 k7
  have b7 := F7.binds (ps := ["things"]) fun _ _ _ _ _ _ us hl => match us, hl with | [_], _ => rfl
  have F8 := fun_mk (st := s_asked_orders) l8 c8 k8
  have b8 := F8.binds (ps := ["things", "place"]) fun _ _ _ _ _ _ us hl => match us, hl with | [_, _], _ => rfl
  have F9 := fun_mk (st := s_order_at) l9 c9 k9
  have b9 := F9.binds (ps := ["things", "place"]) fun _ _ _ _ _ _ us hl => match us, hl with | [_, _], _ => rfl
  have F10 := fun_mk (st := s_order_step) l10 c10 k10
  have b10 := F10.binds (ps := ["things", "place"]) fun _ _ _ _ _ _ us hl => match us, hl with | [_, _], _ => rfl
  have F11 := fun_mk (st := s_rows) l11 c11 k11
  have b11 := F11.binds (ps := ["size"]) fun _ _ _ _ _ _ us hl => match us, hl with | [_], _ => rfl
  have F12 := fun_mk (st := s_asked_rows) l12 c12 k12
  have b12 := F12.binds (ps := ["size", "place"]) fun _ _ _ _ _ _ us hl => match us, hl with | [_, _], _ => rfl
  have F13 := fun_mk (st := s_row_at) l13 c13 k13
  have b13 := F13.binds (ps := ["size", "place"]) fun _ _ _ _ _ _ us hl => match us, hl with | [_, _], _ => rfl
  have F14 := fun_mk (st := s_row_step) l14 c14 k14
  have b14 := F14.binds (ps := ["size", "place"]) fun _ _ _ _ _ _ us hl => match us, hl with | [_, _], _ => rfl
  have F15 := fun_mk (st := s_Walker_init) l15 c15 k15
  have b15 := F15.binds (ps := ["self", "total"]) fun _ _ _ _ _ _ us hl => match us, hl with | [_, _], _ => rfl
  have F16 := fun_mk (st := s_RowWalker_init) l16 c16 k16
  have b16 := F16.binds (ps := ["self", "size"]) fun _ _ _ _ _ _ us hl => match us, hl with | [_, _], _ => rfl
  have F17 := fun_mk (st := s_SetWalker_init) l17 c17 k17
  have b17 := F17.binds (ps := ["self", "things", "some"]) fun _ _ _ _ _ _ us hl => match us, hl with | [_, _, _], _ => rfl
  have F18 := fun_mk (st := s_OrderWalker_init) l18 c18 k18
  have b18 := F18.binds (ps := ["self", "things"]) fun _ _ _ _ _ _ us hl => match us, hl with | [_, _], _ => rfl
  have F19 := fun_mk (st := s__law_cell_at) l19 c19 k19
  have b19 := F19.binds (ps := ["script", "k"]) fun _ _ _ _ _ _ us hl => match us, hl with | [_, _], _ => rfl
  have F20 := fun_mk (st := s__law_word_of) l20 c20 k20
  have b20 := F20.binds (ps := ["e"]) fun _ _ _ _ _ _ us hl => match us, hl with | [_], _ => rfl
  have F21 := fun_mk (st := s__law_rows_asked) l21 c21 k21
  have b21 := F21.binds (ps := ["which", "size", "place"]) fun _ _ _ _ _ _ us hl => match us, hl with | [_, _, _], _ => rfl
  have F22 := fun_mk (st := s__law_sets_asked) l22 c22 k22
  have b22 := F22.binds (ps := ["which", "things", "some", "place"]) fun _ _ _ _ _ _ us hl => match us, hl with | [_, _, _, _], _ => rfl
  have F23 := fun_mk (st := s__law_tried) l23 c23 k23
  have b23 := F23.binds (ps := ["which", "size", "some", "place"]) fun _ _ _ _ _ _ us hl => match us, hl with | [_, _, _, _], _ => rfl
  have F24 := fun_mk (st := s_law) l24 c24 k24
  have b24 := F24.binds (ps := ["script"]) fun _ _ _ _ _ _ us hl => match us, hl with | [_], _ => rfl
  let T : Txt K mg := {c_RowWalker := C_RowWalker, c_SetWalker := C_SetWalker, c_OrderWalker := C_OrderWalker, c_Walker := C_Walker, f_picks := f0, F_picks := F0, b_picks := b0, f_sets := f1, F_sets := F1, b_sets := b1, f_asked_sets := f2, F_asked_sets := F2, b_asked_sets := b2, f_set_at := f3, F_set_at := F3, b_set_at := b3, f_set_step := f4, F_set_step := F4, b_set_step := b4, f_asked_set := f5, F_asked_set := F5, b_asked_set := b5, f_place_of_set := f6, F_place_of_set := F6, b_place_of_set := b6, f_orders := f7, F_orders := F7, b_orders := b7, f_asked_orders := f8, F_asked_orders := F8, b_asked_orders := b8, f_order_at := f9, F_order_at := F9, b_order_at := b9, f_order_step := f10, F_order_step := F10, b_order_step := b10, f_rows := f11, F_rows := F11, b_rows := b11, f_asked_rows := f12, F_asked_rows := F12, b_asked_rows := b12, f_row_at := f13, F_row_at := F13, b_row_at := b13, f_row_step := f14, F_row_step := F14, b_row_step := b14, f_Walker_init := f15, F_Walker_init := F15, b_Walker_init := b15, f_RowWalker_init := f16, F_RowWalker_init := F16, b_RowWalker_init := b16, f_SetWalker_init := f17, F_SetWalker_init := F17, b_SetWalker_init := b17, f_OrderWalker_init := f18, F_OrderWalker_init := F18, b_OrderWalker_init := b18, f__law_cell_at := f19, F__law_cell_at := F19, b__law_cell_at := b19, f__law_word_of := f20, F__law_word_of := F20, b__law_word_of := b20, f__law_rows_asked := f21, F__law_rows_asked := F21, b__law_rows_asked := b21, f__law_sets_asked := f22, F__law_sets_asked := F22, b__law_sets_asked := b22, f__law_tried := f23, F__law_tried := F23, b__law_tried := b23, f_law := fa, F_law := F24, b_law := b24, c_NoSize := C_NoSize, c_NoPlace := C_NoPlace, c_NoStep := C_NoStep, c_NoThing := C_NoThing, c_StepError := C_StepError, g_NoSize := PySem.W.mg_of X G aC_NoSize, g_NoPlace := PySem.W.mg_of X G aC_NoPlace, g_NoStep := PySem.W.mg_of X G aC_NoStep, g_NoThing := PySem.W.mg_of X G aC_NoThing, g_StepError := PySem.W.mg_of X G aC_StepError, x_NoSize := x_NoSize, k_NoSize := k_NoSize, sb_NoSize := sb_NoSize, ty_NoSize := ty_NoSize, ec_NoSize := ⟨y_ga_NoSize, y_gt_NoSize, sb_NoSize, hd_NoSize, y_cl_NoSize, y_n, y_t, y_mr_NoSize⟩, em_NoSize := PySem.W.exm_ref sb_StepError hd_StepError ty_StepError se_NoSize, kv_NoSize := kit_val sv_NoSize, ki_NoSize_NoSize := kit_own hd_NoSize ty_NoSize ss_NoSize ss_NoSize, ki_NoSize_NoPlace := kit_own hd_NoPlace ty_NoPlace ss_NoPlace su_NoSize_NoPlace, ki_NoSize_NoStep := kit_own hd_NoStep ty_NoStep ss_NoStep su_NoSize_NoStep, ki_NoSize_NoThing := kit_own hd_NoThing ty_NoThing ss_NoThing su_NoSize_NoThing, g_RowWalker := PySem.W.mg_of X G aC_RowWalker, g_SetWalker := PySem.W.mg_of X G aC_SetWalker, g_OrderWalker := PySem.W.mg_of X G aC_OrderWalker, g_Walker := PySem.W.mg_of X G aC_Walker, mk_RowWalker := ⟨mk_RowWalker, in_RowWalker, q16, kc_RowWalker⟩, cl_RowWalker := ⟨pg_RowWalker, hd_RowWalker, po_RowWalker, sa_RowWalker⟩, na_RowWalker_size := na_RowWalker_size, na_RowWalker_total := na_RowWalker_total, na_RowWalker_at := na_RowWalker_at, mk_SetWalker := ⟨mk_SetWalker, in_SetWalker, q17, kc_SetWalker⟩, cl_SetWalker := ⟨pg_SetWalker, hd_SetWalker, po_SetWalker, sa_SetWalker⟩, na_SetWalker_things := na_SetWalker_things, na_SetWalker_some := na_SetWalker_some, na_SetWalker_total := na_SetWalker_total, na_SetWalker_at := na_SetWalker_at, mk_OrderWalker := ⟨mk_OrderWalker, in_OrderWalker, q18, kc_OrderWalker⟩, cl_OrderWalker := ⟨pg_OrderWalker, hd_OrderWalker, po_OrderWalker, sa_OrderWalker⟩, na_OrderWalker_things := na_OrderWalker_things, na_OrderWalker_total := na_OrderWalker_total, na_OrderWalker_at := na_OrderWalker_at, cf_Walker := ⟨rd_Walker, ga_Walker, fc_Walker, k15⟩, g_picks := PySem.W.mg_of X G a_picks, g_sets := PySem.W.mg_of X G a_sets, g_asked := PySem.W.mg_of X G a_asked, g_asked_sets := PySem.W.mg_of X G a_asked_sets, g_set_at := PySem.W.mg_of X G a_set_at, g_set_step := PySem.W.mg_of X G a_set_step, g_asked_set := PySem.W.mg_of X G a_asked_set, g_place_of_set := PySem.W.mg_of X G a_place_of_set, g_orders := PySem.W.mg_of X G a_orders, g_asked_orders := PySem.W.mg_of X G a_asked_orders, g_order_at := PySem.W.mg_of X G a_order_at, g_order_step := PySem.W.mg_of X G a_order_step, g_rows := PySem.W.mg_of X G a_rows, g_asked_rows := PySem.W.mg_of X G a_asked_rows, g_row_at := PySem.W.mg_of X G a_row_at, g_row_step := PySem.W.mg_of X G a_row_step, g__law_cell_at := PySem.W.mg_of X G a__law_cell_at, g__law_word_of := PySem.W.mg_of X G a__law_word_of, g__law_rows_asked := PySem.W.mg_of X G a__law_rows_asked, g__law_sets_asked := PySem.W.mg_of X G a__law_sets_asked, g__law_tried := PySem.W.mg_of X G a__law_tried, g_law := PySem.W.mg_of X G a_law, t_MOST_sets := t_MOST_sets, g_MOST_sets := PySem.W.mg_of X G a_MOST_sets, t_MOST_orders := t_MOST_orders, g_MOST_orders := PySem.W.mg_of X G a_MOST_orders, t_MOST_rows := t_MOST_rows, g_MOST_rows := PySem.W.mg_of X G a_MOST_rows, m_ValueError := PySem.W.mg_none_of X G z_ValueError, m_isinstance := PySem.W.mg_none_of X G z_isinstance, m_len := PySem.W.mg_none_of X G z_len, m_range := PySem.W.mg_none_of X G z_range, m_reversed := PySem.W.mg_none_of X G z_reversed, fd_picks := _, fd_sets := _, fd_asked_sets := _, fd_set_at := _, fd_set_step := _, fd_asked_set := _, fd_place_of_set := _, fd_orders := _, fd_asked_orders := _, fd_order_at := _, fd_order_step := _, fd_rows := _, fd_asked_rows := _, fd_row_at := _, fd_row_step := _, fd_Walker_init := _, fd_RowWalker_init := _, fd_SetWalker_init := _, fd_OrderWalker_init := _, fd__law_cell_at := _, fd__law_word_of := _, fd__law_rows_asked := _, fd__law_sets_asked := _, fd__law_tried := _, fd_law := _}
  exact ⟨PySem.W.fnOf "law" "law" (defArgs s_law) (defBody s_law) (defScope s_law) .none kV24 dc24 pm24 an24 cd24 ct24, fun s v => .of_eq rfl, fun base _ _ => ok_law (P := l.prog) (w := w) (base := base) T⟩
end One
open PySem PySem.W PyProof.Rows
set_option maxRecDepth 100000 in
set_option maxHeartbeats 0 in
theorem PySem.Challenge.cw_onestep_k15_refused_sizes_holds : PySem.Challenge.rw_onestep_k15_refused_sizes.Holds := by
  w_on; o_law; k_head; (case hw => w_witness2)
  k_fill
  refine L2.walk_of (l := PySem.Challenge.rw_onestep_k15_refused_sizes) (n := 63) (k := 8) (x := "script") (CX := fun _ => L2.CX0) (sp := fun w => One.spLaw _) rfl (by decide) rfl ⟨rfl, by decide, by decide⟩ (fun w h Y => PySem.W.kIn_of Y) ?F (fun _ _ a ns hl _ hS => ⟨a, ns, rfl, hS, hl, fun _ => rfl⟩) (fun _ _ _ _ _ h => h)
  case F =>
    intro w mg fa h KX G hmg
    refine' One.all_mk KX G hmg ?aC_RowWalker ?aC_SetWalker ?aC_OrderWalker ?aC_Walker ?aC_NoSize ?aC_NoPlace ?aC_NoStep ?aC_NoThing ?aC_StepError ?ty_NoSize ?sb_NoSize ?hd_NoSize ?ss_NoSize ?ty_NoPlace ?sb_NoPlace ?hd_NoPlace ?ss_NoPlace ?ty_NoStep ?sb_NoStep ?hd_NoStep ?ss_NoStep ?ty_NoThing ?sb_NoThing ?hd_NoThing ?ss_NoThing ?ty_StepError ?sb_StepError ?hd_StepError ?ss_StepError ?x_NoSize ?k_NoSize ?y_n ?y_t ?y_ga_NoSize ?y_gt_NoSize ?y_cl_NoSize ?y_mr_NoSize ?se_NoSize ?sv_NoSize ?su_NoSize_NoPlace ?su_NoSize_NoStep ?su_NoSize_NoThing ?fi_Walker ?rd_Walker ?ga_Walker ?fc_Walker ?in_RowWalker ?pg_RowWalker ?hd_RowWalker ?po_RowWalker ?sa_RowWalker ?mk_RowWalker ?kc_RowWalker ?q16 ?na_RowWalker_size ?na_RowWalker_total ?na_RowWalker_at ?in_SetWalker ?pg_SetWalker ?hd_SetWalker ?po_SetWalker ?sa_SetWalker ?mk_SetWalker ?kc_SetWalker ?q17 ?na_SetWalker_things ?na_SetWalker_some ?na_SetWalker_total ?na_SetWalker_at ?in_OrderWalker ?pg_OrderWalker ?hd_OrderWalker ?po_OrderWalker ?sa_OrderWalker ?mk_OrderWalker ?kc_OrderWalker ?q18 ?na_OrderWalker_things ?na_OrderWalker_total ?na_OrderWalker_at ?a_picks ?a_sets ?a_asked ?a_asked_sets ?a_set_at ?a_set_step ?a_asked_set ?a_place_of_set ?a_orders ?a_asked_orders ?a_order_at ?a_order_step ?a_rows ?a_asked_rows ?a_row_at ?a_row_step ?a__law_cell_at ?a__law_word_of ?a__law_rows_asked ?a__law_sets_asked ?a__law_tried ?a_law ?a_MOST_sets ?a_MOST_orders ?a_MOST_rows ?z_ValueError ?z_isinstance ?z_len ?z_range ?z_reversed ?l0 ?c0 ?k0 ?l1 ?c1 ?k1 ?l2 ?c2 ?k2 ?l3 ?c3 ?k3 ?l4 ?c4 ?k4 ?l5 ?c5 ?k5 ?l6 ?c6 ?k6 ?l7 ?c7 ?k7 ?l8 ?c8 ?k8 ?l9 ?c9 ?k9 ?l10 ?c10 ?k10 ?l11 ?c11 ?k11 ?l12 ?c12 ?k12 ?l13 ?c13 ?k13 ?l14 ?c14 ?k14 ?l15 ?c15 ?k15 ?l16 ?c16 ?k16 ?l17 ?c17 ?k17 ?l18 ?c18 ?k18 ?l19 ?c19 ?k19 ?l20 ?c20 ?k20 ?l21 ?c21 ?k21 ?l22 ?c22 ?k22 ?l23 ?c23 ?k23 ?l24 ?c24 ?k24
    (case aC_RowWalker => k_is)
    (case aC_SetWalker => k_is)
    (case aC_OrderWalker => k_is)
    (case aC_Walker => k_is)
    (case aC_NoSize => k_is)
    (case aC_NoPlace => k_is)
    (case aC_NoStep => k_is)
    (case aC_NoThing => k_is)
    (case aC_StepError => k_is)
    (case ty_NoSize => k_is)
    (case sb_NoSize => k_is)
    (case hd_NoSize => k_is)
    (case ss_NoSize => k_is)
    (case ty_NoPlace => k_is)
    (case sb_NoPlace => k_is)
    (case hd_NoPlace => k_is)
    (case ss_NoPlace => k_is)
    (case ty_NoStep => k_is)
    (case sb_NoStep => k_is)
    (case hd_NoStep => k_is)
    (case ss_NoStep => k_is)
    (case ty_NoThing => k_is)
    (case sb_NoThing => k_is)
    (case hd_NoThing => k_is)
    (case ss_NoThing => k_is)
    (case ty_StepError => k_is)
    (case sb_StepError => k_is)
    (case hd_StepError => k_is)
    (case ss_StepError => k_is)
    (case x_NoSize => k_exc)
    (case k_NoSize => k_is)
    (case y_n => k_is)
    (case y_t => k_is)
    (case y_ga_NoSize => k_is)
    (case y_gt_NoSize => k_is)
    (case y_cl_NoSize => k_is)
    (case y_mr_NoSize => k_is)
    (case se_NoSize => k_is)
    (case sv_NoSize => k_is)
    (case su_NoSize_NoPlace => k_is)
    (case su_NoSize_NoStep => k_is)
    (case su_NoSize_NoThing => k_is)
    (case fi_Walker => k_is)
    (case rd_Walker => k_is)
    (case ga_Walker => k_is)
    (case fc_Walker => k_is)
    (case in_RowWalker => k_is)
    (case pg_RowWalker => k_is)
    (case hd_RowWalker => k_is)
    (case po_RowWalker => k_is)
    (case sa_RowWalker => k_is)
    (case mk_RowWalker => k_is)
    (case kc_RowWalker => k_is)
    (case q16 => k_is)
    (case na_RowWalker_size => k_is)
    (case na_RowWalker_total => k_is)
    (case na_RowWalker_at => k_is)
    (case in_SetWalker => k_is)
    (case pg_SetWalker => k_is)
    (case hd_SetWalker => k_is)
    (case po_SetWalker => k_is)
    (case sa_SetWalker => k_is)
    (case mk_SetWalker => k_is)
    (case kc_SetWalker => k_is)
    (case q17 => k_is)
    (case na_SetWalker_things => k_is)
    (case na_SetWalker_some => k_is)
    (case na_SetWalker_total => k_is)
    (case na_SetWalker_at => k_is)
    (case in_OrderWalker => k_is)
    (case pg_OrderWalker => k_is)
    (case hd_OrderWalker => k_is)
    (case po_OrderWalker => k_is)
    (case sa_OrderWalker => k_is)
    (case mk_OrderWalker => k_is)
    (case kc_OrderWalker => k_is)
    (case q18 => k_is)
    (case na_OrderWalker_things => k_is)
    (case na_OrderWalker_total => k_is)
    (case na_OrderWalker_at => k_is)
    (case a_picks => k_is)
    (case a_sets => k_is)
    (case a_asked => k_is)
    (case a_asked_sets => k_is)
    (case a_set_at => k_is)
    (case a_set_step => k_is)
    (case a_asked_set => k_is)
    (case a_place_of_set => k_is)
    (case a_orders => k_is)
    (case a_asked_orders => k_is)
    (case a_order_at => k_is)
    (case a_order_step => k_is)
    (case a_rows => k_is)
    (case a_asked_rows => k_is)
    (case a_row_at => k_is)
    (case a_row_step => k_is)
    (case a__law_cell_at => k_is)
    (case a__law_word_of => k_is)
    (case a__law_rows_asked => k_is)
    (case a__law_sets_asked => k_is)
    (case a__law_tried => k_is)
    (case a_law => k_is)
    (case a_MOST_sets => k_is)
    (case a_MOST_orders => k_is)
    (case a_MOST_rows => k_is)
    (case z_ValueError => k_is)
    (case z_isinstance => k_is)
    (case z_len => k_is)
    (case z_range => k_is)
    (case z_reversed => k_is)
    (case l0 => k_is)
    (case c0 => k_is)
    (case k0 => k_is)
    (case l1 => k_is)
    (case c1 => k_is)
    (case k1 => k_is)
    (case l2 => k_is)
    (case c2 => k_is)
    (case k2 => k_is)
    (case l3 => k_is)
    (case c3 => k_is)
    (case k3 => k_is)
    (case l4 => k_is)
    (case c4 => k_is)
    (case k4 => k_is)
    (case l5 => k_is)
    (case c5 => k_is)
    (case k5 => k_is)
    (case l6 => k_is)
    (case c6 => k_is)
    (case k6 => k_is)
    (case l7 => k_is)
    (case c7 => k_is)
    (case k7 => k_is)
    (case l8 => k_is)
    (case c8 => k_is)
    (case k8 => k_is)
    (case l9 => k_is)
    (case c9 => k_is)
    (case k9 => k_is)
    (case l10 => k_is)
    (case c10 => k_is)
    (case k10 => k_is)
    (case l11 => k_is)
    (case c11 => k_is)
    (case k11 => k_is)
    (case l12 => k_is)
    (case c12 => k_is)
    (case k12 => k_is)
    (case l13 => k_is)
    (case c13 => k_is)
    (case k13 => k_is)
    (case l14 => k_is)
    (case c14 => k_is)
    (case k14 => k_is)
    (case l15 => k_is)
    (case c15 => k_is)
    (case k15 => k_is)
    (case l16 => k_is)
    (case c16 => k_is)
    (case k16 => k_is)
    (case l17 => k_is)
    (case c17 => k_is)
    (case k17 => k_is)
    (case l18 => k_is)
    (case c18 => k_is)
    (case k18 => k_is)
    (case l19 => k_is)
    (case c19 => k_is)
    (case k19 => k_is)
    (case l20 => k_is)
    (case c20 => k_is)
    (case k20 => k_is)
    (case l21 => k_is)
    (case c21 => k_is)
    (case k21 => k_is)
    (case l22 => k_is)
    (case c22 => k_is)
    (case k22 => k_is)
    (case l23 => k_is)
    (case c23 => k_is)
    (case k23 => k_is)
    (case l24 => k_is)
    (case c24 => k_is)
    (case k24 => k_is)
