import PyProof.Rows.All
import Wide.All
import OpenK.AllK
import Wide.FinOn
import KE.KStateDown
import HandS.ForMost
import HandS.ForExc
import HandS.Codes
import HandS.Lambda
import HandS.EndTab
import HandS.HeadWalk
import HandS.HeadHook4
import HandS.Head0
import HandS.Head1
import HandS.Head2
import HandS.HeadEnd
import HandS.Star
import HandS.TupAny
import HandS.TupMul
import HandS.IsInst
import HandS.StrMore
import HandS.TryMany
import HandS.Property
import HandS.OwnEq
import HandS.Strs
import HandS.SetFor
import HandS.ExcInit
import HandS.ExcValue
import HandS.ExcIs
import HandS.ExcSuper
import HandS.Conv
import HandS.DictTup
import HandS.Steps
import HandS.Defaults
import PySem.Challenge.RW_maypole_k98_whole_floors_where_dancers_c
import HandS.HeadNt
import KE.KExcSuper
import KE.KSuper
import PyProof.ListStr
import PyProof.CollectStr
import KE.KExcIs
section
set_option Elab.async false
set_option linter.all false
set_option maxRecDepth 100000
set_option maxHeartbeats 4000000
/-! MA: short steps over readings, one lemma a construct; wrappers of calls. -/
namespace My
open PySem PySem.Spec PyProof.Rows L2
abbrev St := L2.St

/-! ### steps of readings (Ends are written out) -/
section
variable {nx : St → Hp → Prop} {rt : VK} {bk ct : St → Hp → Prop} {σ : St} {H : Hp} {Q : VK} {t u : TS} {te ta tb : TE} {c d : TT} {g : TG} {i : Nat} {v x y : V} {r r' : R2} {K : PySem.W.Frag}
theorem r_seq (h : t ⟨u ⟨nx, rt, bk, ct⟩, rt, bk, ct⟩ σ H) : tSeq t u ⟨nx, rt, bk, ct⟩ σ H := h
theorem r_next (h : nx σ H) : tNext ⟨nx, rt, bk, ct⟩ σ H := h
theorem r_asg (h : te σ H fun x H1 => g x σ H1 nx) : tAsg te g ⟨nx, rt, bk, ct⟩ σ H := h
theorem r_name {q : St → Hp → Prop} (h : q (σ.set i (some v)) H) : gName i v σ H q := h
theorem r_ret (h : te σ H rt) : tRet te ⟨nx, rt, bk, ct⟩ σ H := h
theorem r_retN (h : rt .non H) : tRetN ⟨nx, rt, bk, ct⟩ σ H := h
theorem r_drop (h : te σ H fun _ H1 => nx σ H1) : tDrop te ⟨nx, rt, bk, ct⟩ σ H := h
theorem r_if (h : c σ H fun b H1 => if b = true then t ⟨nx, rt, bk, ct⟩ σ H1 else u ⟨nx, rt, bk, ct⟩ σ H1) : tIfS c t u ⟨nx, rt, bk, ct⟩ σ H := h
theorem r_par {i j : Nat} {ta : TA} (h : ta σ H fun vs H1 => ∃ v w, vs = [v, w] ∧ nx ((σ.set i (some v)).set j (some w)) H1) : tPar i j ta ⟨nx, rt, bk, ct⟩ σ H := h
theorem r_var (e : σ[i]? = some (some v)) (h : Q v H) : tVar i σ H Q := ⟨v, e, h⟩
theorem r_c (h : Q v H) : tC v σ H Q := h
theorem r_op (h : ta σ H fun x H1 => tb σ H1 fun y H2 => r x y H2 Q) : tOp r ta tb σ H Q := h
theorem r_un {r : V → Hp → VK → Prop} (h : ta σ H fun x H1 => r x H1 Q) : tUn r ta σ H Q := h
theorem r_neg {k : Int} (h : Q (.int (-k)) H) : rU (fun i => .int (-i)) (.int k) H Q := ⟨k, rfl, h⟩
theorem r_I0 {f : Int → Int → V} {a b : Int} (h : Q (f a b) H) : rI0 f (.int a) (.int b) H Q := ⟨a, b, rfl, rfl, h⟩
theorem r_I {C : Int → Int → Prop} {f : Int → Int → V} {a b : Int} (hc : C a b) (h : Q (f a b) H) : rI C f (.int a) (.int b) H Q := ⟨a, b, rfl, rfl, hc, h⟩
theorem r_eq (e : scal x y = true) (h : Q (.bl (decide (x = y))) H) : rEq x y H Q := ⟨e, h⟩
theorem r_ne (e : scal x y = true) (h : Q (.bl (!decide (x = y))) H) : rNe x y H Q := ⟨e, h⟩
theorem r_eqI {a b : Int} (h : Q (.bl (decide (a = b))) H) : rEq (.int a) (.int b) H Q := ⟨rfl, by
  have e : decide (V.int a = V.int b) = decide (a = b) := decide_eq_decide.mpr ⟨fun h => V.int.inj h, fun h => by rw [h]⟩
  rw [e]; exact h⟩
theorem r_neI {a b : Int} (h : Q (.bl (!decide (a = b))) H) : rNe (.int a) (.int b) H Q := ⟨rfl, by
  have e : decide (V.int a = V.int b) = decide (a = b) := decide_eq_decide.mpr ⟨fun h => V.int.inj h, fun h => by rw [h]⟩
  rw [e]; exact h⟩
theorem r_eqS {a b : Str} (h : Q (.bl (decide (a = b))) H) : rEq (.str a) (.str b) H Q := ⟨rfl, by
  have e : decide (V.str a = V.str b) = decide (a = b) := decide_eq_decide.mpr ⟨fun h => V.str.inj h, fun h => by rw [h]⟩
  rw [e]; exact h⟩
theorem r_neS {a b : Str} (h : Q (.bl (!decide (a = b))) H) : rNe (.str a) (.str b) H Q := ⟨rfl, by
  have e : decide (V.str a = V.str b) = decide (a = b) := decide_eq_decide.mpr ⟨fun h => V.str.inj h, fun h => by rw [h]⟩
  rw [e]; exact h⟩
theorem r_isN (h : Q (.bl (decide (x = .non))) H) : rIsN x .non H Q := ⟨rfl, h⟩
theorem r_notN (h : Q (.bl (!decide (x = .non))) H) : rNotN x .non H Q := ⟨rfl, h⟩
theorem r_ifE (h : c σ H fun b H1 => if b = true then ta σ H1 Q else tb σ H1 Q) : tIf c ta tb σ H Q := h
theorem r_test {P : Bool → Hp → Prop} (h : te σ H fun x H' => ∃ k, x = .bl k ∧ P k H') : tTest te σ H P := h
theorem r_B {P : Bool → Hp → Prop} (h : te σ H fun x H' => ∃ k, x = .bl k ∧ P k H') : tB te σ H P := h
theorem r_and {P : Bool → Hp → Prop} (h : c σ H fun b H1 => if b = true then d σ H1 P else P false H1) : tAnd c d σ H P := h
theorem r_or {P : Bool → Hp → Prop} (h : c σ H fun b H1 => if b = true then P true H1 else d σ H1 P) : tOr c d σ H P := h
theorem r_not {P : Bool → Hp → Prop} (h : c σ H fun b H1 => P (!b) H1) : tNot c σ H P := h
theorem r_andV (h : ta σ H fun x H1 => ∃ c, x = .bl c ∧ if c = true then tb σ H1 Q else Q (.bl false) H1) : tAndV ta tb σ H Q := h
theorem r_orV (h : ta σ H fun x H1 => ∃ c, x = .bl c ∧ if c = true then Q (.bl true) H1 else tb σ H1 Q) : tOrV ta tb σ H Q := h
theorem r_notV (h : ta σ H fun x H1 => ∃ c, x = .bl c ∧ Q (.bl (!c)) H1) : tNotV ta σ H Q := h
theorem r_blV {b : Bool} {P : Bool → Prop} (h : P b) : ∃ c, V.bl b = .bl c ∧ P c := ⟨b, rfl, h⟩
theorem r_exi {n : Int} {P : Int → Prop} (h : P n) : ∃ i, V.int n = .int i ∧ P i := ⟨n, rfl, h⟩
theorem r_exi2 {n m : Int} {P : Int → Int → Prop} (h : P n m) : ∃ i j, V.int n = .int i ∧ V.int m = .int j ∧ P i j := ⟨n, m, rfl, rfl, h⟩
theorem r_exv2 {a b : V} {P : V → V → Prop} (h : P a b) : ∃ v w, [a, b] = [v, w] ∧ P v w := ⟨a, b, rfl, h⟩
theorem r_nil {P : List V → Hp → Prop} (h : P [] H) : tNil σ H P := h
theorem r_cons {tr : TA} {P : List V → Hp → Prop} (h : ta σ H fun x H1 => tr σ H1 fun xs H2 => P (x :: xs) H2) : tCons ta tr σ H P := h
theorem r_CB {rr : List V → Hp → VK → Prop} {tr : TA} (h : tr σ H fun vs H1 => rr vs H1 Q) : tCB rr tr σ H Q := h
theorem r_call {sp : Sp} {dvs : List V} {E : XK} {tr : TA} (h : tr σ H fun vs H1 => sp (vs ++ dvs) H1 Q E) : tCall sp dvs E tr σ H Q := h
theorem r_meth {C : Addr} {m : Str} {sp : Sp} {dvs : List V} {E : XK} {tr : TA} (h : ta σ H fun x H1 => ∃ a dx fs, x = .ref a ∧ H1 a = some (.ins C dx fs) ∧ fs.lookup m = none ∧ tr σ H1 fun vs H2 => sp (x :: (vs ++ dvs)) H2 Q E) : tMeth C m sp dvs E ta tr σ H Q := h
theorem r_make {C : Addr} {sp : Sp} {dvs : List V} {E : XK} {tr : TA} (h : tr σ H fun vs H1 => ∀ x dx, H1 x = none → H1 dx = none → dx ≠ x → sp (.ref x :: (vs ++ dvs)) (upd (upd H1 dx (.own x)) x (.ins C dx [])) (fun v H2 => v = .non ∧ Q (.ref x) H2) E) : tMake C sp dvs E tr σ H Q := h
theorem r_ixL {p : Addr} {xs : List V} {k : Int} (hx : SqL K H p xs) (e : atI xs k = some v) (h : Q v H) : rIxL K (.ref p) (.int k) H Q := ⟨p, xs, k, v, rfl, rfl, hx, e, h⟩
theorem r_ixLI {p : Addr} {ns : List Int} {k : Int} {j : Nat} (hx : SqL K H p (ns.map V.int)) (e : k = (j : Int)) (hj : j < ns.length) (h : Q (.int (ns.getD j 0)) H) : rIxL K (.ref p) (.int k) H Q :=
  ⟨p, _, k, _, rfl, rfl, hx, at_of (j := j) e (by rw [List.getElem?_map, List.getElem?_eq_getElem hj]; rfl), by rw [List.getD_eq_getElem?_getD, List.getElem?_eq_getElem hj] at h; exact h⟩
theorem r_ixTI {p : Addr} {ns : List Int} {k : Int} {j : Nat} (hx : SqT K H p (ns.map V.int)) (e : k = (j : Int)) (hj : j < ns.length) (h : Q (.int (ns.getD j 0)) H) : rIxT K (.ref p) (.int k) H Q :=
  ⟨p, _, k, _, rfl, rfl, hx, at_of (j := j) e (by rw [List.getElem?_map, List.getElem?_eq_getElem hj]; rfl), by rw [List.getD_eq_getElem?_getD, List.getElem?_eq_getElem hj] at h; exact h⟩
theorem r_ixT {p : Addr} {xs : List V} {k : Int} (hx : SqT K H p xs) (e : atI xs k = some v) (h : Q v H) : rIxT K (.ref p) (.int k) H Q := ⟨p, xs, k, v, rfl, rfl, hx, e, h⟩
theorem r_fld {f : Str} {tz : TE} (h : tz σ H fun x H1 => ∃ a C dx fs v, x = .ref a ∧ H1 a = some (.ins C dx fs) ∧ Cls K C ∧ NoAttr K C f ∧ fs.lookup f = some v ∧ Q v H1) : tFld K tz f σ H Q := h
theorem r_chain {tc : TE} (h : ta σ H fun x H1 => tb σ H1 fun y H2 => r x y H2 fun z H3 => ∃ k, z = .bl k ∧ (if k = true then tc σ H3 fun w' H4 => r' y w' H4 Q else Q (.bl false) H3)) : tChain r r' ta tb tc σ H Q := h
theorem r_tup {tr : TA} (h : tr σ H fun xs H1 => xs.length ≤ sizeLine ∧ ∀ p, H1 p = none → Q (.ref p) (upd H1 p (.tup xs))) : tTup tr σ H Q := h
theorem r_lst {tr : TA} (h : tr σ H fun xs H1 => xs.length ≤ sizeLine ∧ ∀ p, H1 p = none → Q (.ref p) (upd H1 p (.lst xs))) : tLst tr σ H Q := h
theorem r_star {tr : TA} {P : List V → Hp → Prop} (h : te σ H fun x H1 => ∃ p xs, x = V.ref p ∧ (SqT K H1 p xs ∨ SqL K H1 p xs) ∧ tr σ H1 fun ys H2 => P (xs ++ ys) H2) : StX.tStar K te tr σ H P := h
theorem r_lstRg {tr : St → Hp → (Int → Int → Hp → Prop) → Prop} (h : tr σ H fun a b H1 => RgOk a b ∧ ∀ q, H1 q = none → Q (.ref q) (upd H1 q (.lst (rgV a b)))) : tLstRg tr σ H Q := h
theorem r_rg1 {P : Int → Int → Hp → Prop} (h : ta σ H fun x H1 => ∃ n, x = .int n ∧ P 0 n H1) : tRg1 ta σ H P := h
theorem r_rg2 {P : Int → Int → Hp → Prop} (h : ta σ H fun x H1 => tb σ H1 fun y H2 => ∃ i j, x = .int i ∧ y = .int j ∧ P i j H2) : tRg2 ta tb σ H P := h
theorem r_sl {r : V → Option Int → Option Int → Hp → VK → Prop} {tl th : TO} (h : te σ H fun x H1 => tl σ H1 fun lo H2 => th σ H2 fun hi H3 => r x lo hi H3 Q) : tSl r te tl th σ H Q := h
theorem r_noPart {P : Option Int → Hp → Prop} (h : P none H) : tNoPart σ H P := h
theorem r_part {P : Option Int → Hp → Prop} (h : te σ H fun x H1 => ∃ i, x = .int i ∧ P (some i) H1) : tPart te σ H P := h
theorem r_tupG {n : Nat} {tg : TGs} {q : St → Hp → Prop} {a : Addr} {xs : List V} (hx : SqT K H a xs) (hn : xs.length = n) (h : tg xs σ H q) : gTup K n tg (.ref a) σ H q := ⟨a, xs, rfl, hx, hn, h⟩
theorem r_gnil {q : St → Hp → Prop} (h : q σ H) : gNil [] σ H q := ⟨rfl, h⟩
theorem r_gcons {tg : TG} {ug : TGs} {q : St → Hp → Prop} {w : V} {ws : List V} (h : tg w σ H fun σ' H' => ug ws σ' H' q) : gCons tg ug (w :: ws) σ H q := ⟨w, ws, rfl, h⟩
theorem r_gsub {ti : TSet} {q : St → Hp → Prop} (h : ta σ H fun o H1 => tb σ H1 fun i H2 => ti o i v H2 fun H3 => q σ H3) : gSub ta tb ti v σ H q := h
theorem r_BM {T : String} {rr : V → List V → Hp → VK → Prop} {tr : TA} (h : ta σ H fun x H1 => tyV K T x H1 ∧ tr σ H1 fun xs H2 => rr x xs H2 Q) : tBM K T rr ta tr σ H Q := h
theorem r_M1 {rr : V → List V → Hp → VK → Prop} (h : ta σ H fun x H1 => (∃ a, x = .str a) ∧ tb σ H1 fun y H2 => rr x [y] H2 Q) : tM1 rr ta tb σ H Q := h
theorem r_isstr {a : Str} {P : Prop} (h : P) : (∃ b, V.str a = .str b) ∧ P := ⟨⟨a, rfl⟩, h⟩
theorem r_lc {wi : TI} {vs : List Nat} (h : wi σ H fun J H1 => ∀ D, H1 D = none → ∃ W : Nat → Nat → Hp → Prop, (∃ m, W 0 m (upd H1 D (.lst []))) ∧ ∀ i m H, W i m H →
  (J.stop i H ∧ Q (.ref D) H) ∨ (J.go i H ∧ ∃ Nx : Hp → Prop, (∀ H', Nx H' → ∃ m', m' < m ∧ W (i + 1) m' H') ∧ ∀ x H', J.yld i H x H' → g x (wipe σ vs) H' fun σ2 H2 => wipe σ2 vs = wipe σ vs ∧ c σ2 H2 fun b H3 =>
    if b = true then te σ2 H3 fun y H4 => ∃ acc, H4 D = some (.lst acc) ∧ acc.length < sizeLine ∧ Nx (upd H4 D (.lst (acc ++ [y]))) else Nx H3)) : tLc wi g c te vs σ H Q := h
theorem r_yes {P : Bool → Hp → Prop} (h : P true H) : tYes σ H P := h
theorem r_istr {R : It → Hp → Prop} (h : te σ H fun v H1 => ∃ x, v = .str x ∧ R (Its x) H1) : iStr te σ H R := h
theorem r_rng1 {ta : TA} {R : It → Hp → Prop} (h : ta σ H fun vs H1 => ∃ j : Int, vs = [.int j] ∧ -(2 ^ 62) ≤ j ∧ j < 2 ^ 62 ∧ R (Itr 0 j.toNat) H1) : iRng1 ta σ H R := h
theorem r_rng2 {ta : TA} {R : It → Hp → Prop} (h : ta σ H fun vs H1 => ∃ i j : Int, vs = [.int i, .int j] ∧ (-(2 ^ 62) ≤ i ∧ i < 2 ^ 62 ∧ -(2 ^ 62) ≤ j ∧ j < 2 ^ 62) ∧ R (Itr i (j - i).toNat) H1) : iRng2 ta σ H R := h
theorem r_for {wi : TI} (h : wi σ H fun J H1 => ∃ W : Nat → Nat → St → Hp → Prop, (∃ m, W 0 m σ H1) ∧ ∀ i m σ H, W i m σ H →
  (J.stop i H ∧ nx σ H) ∨ (J.go i H ∧ ∃ N : St → Hp → Prop, (∀ σ' H', N σ' H' → ∃ m', m' < m ∧ W (i + 1) m' σ' H') ∧ ∀ x H', J.yld i H x H' → g x σ H' fun σ2 H2 => t ⟨N, rt, nx, N⟩ σ2 H2)) : tFor wi g t ⟨nx, rt, bk, ct⟩ σ H := h
theorem r_itup {R : It → Hp → Prop} (h : te σ H fun x H1 => ∃ a, x = .ref a ∧ (∃ xs, SqT K H1 a xs) ∧ R (Itt K a) H1) : iTup K te σ H R := h
theorem r_ilist {R : It → Hp → Prop} (h : te σ H fun x H1 => ∃ a, x = .ref a ∧ (∃ xs, SqL K H1 a xs) ∧ R (Itl K a) H1) : iList K te σ H R := h
end

/-! ### heaps -/
structure New (H : Hp) (p : Addr) (o : HO) (H2 : Hp) : Prop where
  free : H p = none
  eq : H2 = upd H p o
section
variable {H H1 H2 : Hp} {p l : Addr} {o u : HO}
theorem New.same (n : New H p o H2) : Same H H2 := fun b u e => by rw [n.eq, upd_ne (ne_of_none e n.free)]; exact e
theorem New.get (n : New H p o H2) {b : Addr} {x : HO} (h : H b = some x) : H2 b = some x := n.same b x h
theorem New.at (n : New H p o H2) : H2 p = some o := by rw [n.eq, upd_same]
theorem New.ne (n : New H p o H2) {b : Addr} (h : b ≠ p) : H2 b = H b := by rw [n.eq, upd_ne h]
theorem New.back (n : New H p o H2) {b : Addr} (h : H2 b = none) : H b = none := n.same.free h
theorem New.after (n : New H p o H2) (s : Same H1 H) : Same H1 H2 := s.trans n.same
theorem new_of {Q : V → Hp → Prop} (h : ∀ p H2, New H p o H2 → Q (.ref p) H2) : ∀ p, H p = none → Q (.ref p) (upd H p o) := fun p hp => h p _ ⟨hp, rfl⟩
theorem new_sz {Q : V → Hp → Prop} {xs : List V} {f : List V → HO} (hl : xs.length ≤ sizeLine) (h : ∀ p H2, New H p (f xs) H2 → Q (.ref p) H2) : xs.length ≤ sizeLine ∧ ∀ p, H p = none → Q (.ref p) (upd H p (f xs)) := ⟨hl, new_of h⟩
theorem new_tup {Q : V → Hp → Prop} {xs : List V} (hl : xs.length ≤ sizeLine) (h : ∀ p H2, New H p (.tup xs) H2 → Q (.ref p) H2) : xs.length ≤ sizeLine ∧ ∀ p, H p = none → Q (.ref p) (upd H p (.tup xs)) := ⟨hl, new_of h⟩
theorem new_lst {Q : V → Hp → Prop} {xs : List V} (hl : xs.length ≤ sizeLine) (h : ∀ p H2, New H p (.lst xs) H2 → Q (.ref p) H2) : xs.length ≤ sizeLine ∧ ∀ p, H p = none → Q (.ref p) (upd H p (.lst xs)) := ⟨hl, new_of h⟩
/-- a change of an object that H1 does not know -/
theorem same_upd (s : Same H1 H) (h : H1 l = none) : Same H1 (upd H l o) := fun b u e => by rw [upd_ne (ne_of_none e h)]; exact s b u e
end

/-! ### tests -/
theorem ifD {p A B : Prop} [Decidable p] (h1 : p → A) (h2 : ¬ p → B) : if decide p = true then A else B := by
  by_cases h : p
  · rw [decide_eq_true h, if_pos rfl]; exact h1 h
  · rw [decide_eq_false h, if_neg Bool.false_ne_true]; exact h2 h
theorem ifN {p A B : Prop} [Decidable p] (h1 : ¬ p → A) (h2 : p → B) : if (!decide p) = true then A else B := by
  by_cases h : p
  · rw [decide_eq_true h]; exact (if_neg (by decide)).mpr (h2 h)
  · rw [decide_eq_false h]; exact (if_pos (by decide)).mpr (h1 h)
theorem ifB {b : Bool} {A B : Prop} (h1 : b = true → A) (h2 : b = false → B) : if b = true then A else B := by
  cases b with
  | true => exact iteT (h1 rfl)
  | false => exact iteF (h2 rfl)
theorem sz1000 {n : Nat} (h : n ≤ 1000) : n ≤ sizeLine := Nat.le_of_lt (small1000 h)
/-! ### rules with the written part named, and with named readings -/
section
variable {X : Cx} {K : PySem.W.Frag}
theorem ixL (hk : X.K = K := by rfl) : IxR X (rIxL K) := hk ▸ ix_list
theorem ixT (hk : X.K = K := by rfl) : IxR X (rIxT K) := hk ▸ ix_tup
theorem opCatA (hk : X.K = K := by rfl) : OpR X (binaryOp .Add) (rCatA K) := hk ▸ op_catA
theorem slL (hk : X.K = K := by rfl) : SlR X (rSlL K) := hk ▸ sl_list
theorem slT (hk : X.K = K := by rfl) : SlR X (rSlA K) := hk ▸ sl_tupA
theorem opIn (hk : X.K = K := by rfl) : OpR X (compareOp .In) (rIn K false) := hk ▸ op_in_seq
theorem opNotIn (hk : X.K = K := by rfl) : OpR X (compareOp .NotIn) (rIn K true) := hk ▸ op_notIn_seq
theorem opEqD (hu : X.A.units + 64 < cLine) (hk : X.K = K := by rfl) : OpR X (compareOp .Eq) (rEqD K) := hk ▸ op_eqD hu
theorem opNeD (hu : X.A.units + 64 < cLine) (hk : X.K = K := by rfl) : OpR X (compareOp .NotEq) (rNeD K) := hk ▸ op_neD hu
def rLen (K : PySem.W.Frag) : List V → Hp → VK → Prop := fun xs H Q => ∃ p ys, xs = [.ref p] ∧ (SqL K H p ys ∨ SqT K H p ys) ∧ Q (.int ys.length) H
theorem callLen (hk : X.K = K := by rfl) : CallR X (.builtin "len") (rLen K) := hk ▸ call_len_seq
def rLenStr : List V → Hp → VK → Prop := fun xs H Q => ∃ z, xs = [.str z] ∧ z.length ≤ sizeLine ∧ Q (.int z.length) H
theorem callLenStr : CallR X (.builtin "len") rLenStr := call_len_str
def rListOf (K : PySem.W.Frag) : List V → Hp → VK → Prop := fun xs H Q => ∃ p ys, xs = [.ref p] ∧ (SqL K H p ys ∨ SqT K H p ys) ∧ ∀ l, H l = none → Q (.ref l) (upd H l (.lst ys))
theorem callListOf (hk : X.K = K := by rfl) : CallR X (.type "list") (rListOf K) := hk ▸ call_list_of
def rTupOf (K : PySem.W.Frag) : List V → Hp → VK → Prop := fun xs H Q => ∃ p ys, xs = [.ref p] ∧ SqL K H p ys ∧ ∀ l, H l = none → Q (.ref l) (upd H l (.tup ys))
theorem callTupOf (hk : X.K = K := by rfl) : CallR X (.type "tuple") (rTupOf K) := by
  subst hk
  intro pins s σ H xs us Q I r h
  obtain ⟨p, ys, e, h1, h2⟩ := h
  exact call_tuple_of pins s σ H xs us Q I r ⟨p, ys, e, .inl ⟨h1, h2⟩⟩
def rAbs : List V → Hp → VK → Prop := fun xs H Q => ∃ i : Int, xs = [.int i] ∧ Q (.int (i.natAbs : Int)) H
theorem callAbs : CallR X (.builtin "abs") rAbs := by
  intro pins s σ H xs us Q I r h
  obtain ⟨i, e, q⟩ := h
  refine call_abs pins s σ H xs us Q I r ⟨i, e, ?_⟩
  have e2 : (if i < 0 then -i else i) = (i.natAbs : Int) := by split <;> omega
  rw [e2]; exact q
def rMin : List V → Hp → VK → Prop := fun xs H Q => ∃ i j : Int, xs = [.int i, .int j] ∧ Q (.int (min i j)) H
theorem callMin (hc : X.calm = true) : CallR X (.builtin "min") rMin := by
  intro pins s σ H xs us Q I r h
  obtain ⟨i, j, e, q⟩ := h
  refine call_min2 hc pins s σ H xs us Q I r ⟨i, j, e, ?_⟩
  have e2 : (if j < i then j else i) = min i j := by split <;> omega
  rw [e2]; exact q
def rMax : List V → Hp → VK → Prop := fun xs H Q => ∃ i j : Int, xs = [.int i, .int j] ∧ Q (.int (max i j)) H
theorem callMax (hc : X.calm = true) : CallR X (.builtin "max") rMax := by
  intro pins s σ H xs us Q I r h
  obtain ⟨i, j, e, q⟩ := h
  refine call_max2 hc pins s σ H xs us Q I r ⟨i, j, e, ?_⟩
  have e2 : (if j > i then j else i) = max i j := by split <;> omega
  rw [e2]; exact q
def rInt1 : List V → Hp → VK → Prop := fun xs H Q => (∃ i, xs = [.int i] ∧ Q (.int i) H) ∨ ∃ k, xs = [.bl k] ∧ Q (.int (if k then 1 else 0)) H
theorem callInt1 : CallR X (.type "int") rInt1 := call_int1
def rStrI : List V → Hp → VK → Prop := fun xs H Q => ∃ i : Int, xs = [.int i] ∧ i.natAbs.log2 < 1920 ∧ Q (.str (toString i)) H
theorem callStrI : CallR X (.type "str") rStrI := call_str_int
def rIntS : List V → Hp → VK → Prop := fun xs H Q => ∃ a n, xs = [.str a] ∧ PySem.intText? a = some n ∧ a.length ≤ 640 ∧ Q (.int n) H
theorem callIntS : CallR X (.type "int") rIntS := call_int_str
def rAll (K : PySem.W.Frag) : List V → Hp → VK → Prop := fun vs H Q => ∃ (a : Addr) (bs : List Bool), vs = [V.ref a] ∧ SqL K H a (bs.map V.bl) ∧ Q (.bl (bs.all id)) H
theorem callAll (hc : X.calm = true) (hk : X.K = K := by rfl) : CallR X (.builtin "all") (rAll K) := hk ▸ cr_all hc
def rAddS : R2 := fun x y H Q => ∃ i j, x = .str i ∧ y = .str j ∧ i.length + j.length ≤ sizeLine ∧ Q (.str (i ++ j)) H
theorem opAddS : OpR X (binaryOp .Add) My.rAddS := op_add_str
theorem ipAddS : PIp X .Add My.rAddS := iop_add_str
theorem callIsi (hk : X.K = K := by rfl) : CallR X (.builtin "isinstance") (rIsi K) := hk ▸ call_isi
theorem callIsiT (hk : X.K = K := by rfl) : CallR X (.builtin "isinstance") (rIsiT K) := hk ▸ call_isiT
variable {e o value : Expr} {es : List Expr} {te ta tv to : TE} {t : TA} {f : Str} {pos pos' p tpos : Pos} {tg : Expr}
theorem peFld (he : PE X e te) (hb : attributeBase e f X.env (eval e X.env) = eval e X.env := by rfl) (hk : X.K = K := by rfl) : PE X (.Attribute e f pos) (tFld K te f) := hk ▸ pe_fld he hb
theorem psFld (ha : PE X o ta) (hv : PE X value tv) (hs : swapsWith value (some (.Attribute o f pos')) pos.line X.env = pure false := by rfl) (hk : X.K = K := by rfl) : PS X (.Assign [.Attribute o f pos'] value pos) (sFld K ta tv f) := hk ▸ ps_fld ha hv hs
theorem piList {l : Expr} (hl : PE X l te) (hk : X.K = K := by rfl) : PI X tg l (iList K te) := hk ▸ pi_list hl
theorem piTup {l : Expr} (hl : PE X l te) (hk : X.K = K := by rfl) : PI X tg l (iTup K te) := hk ▸ pi_tup hl
theorem pgTup {tt : TGs} {n k : Nat} (hc : X.calm = true) (h : PGs X es tt) (hn : (assignEach es X.env).length = n := by rfl) (hst : (assignEach es X.env).findIdx? (·.1) = none := by rfl) (hk : X.K = K := by rfl) : PG X (.Tuple es k pos) (gTup K n tt) := hk ▸ pg_tup hc h hn hst
theorem pgLst {tt : TGs} {n k : Nat} (hc : X.calm = true) (h : PGs X es tt) (hn : (assignEach es X.env).length = n := by rfl) (hst : (assignEach es X.env).findIdx? (·.1) = none := by rfl) (hk : X.K = K := by rfl) : PG X (.Tuple es k pos) (gLst K n tt) := hk ▸ pg_lst hc h hn hst
theorem paStar (he : PE X e te) (hr : PA X es t) (hs : starEach (.Starred e p :: es) X.env = (true, eval e X.env) :: starEach es X.env := by rfl) (hk : X.K = K := by rfl) : PA X (.Starred e p :: es) (StX.tStar K te t) := hk ▸ StX.pa_star he hr hs
def rJoin (K : PySem.W.Frag) : V → List V → Hp → VK → Prop := fun x xs H Q => ∃ a p, ∃ ys : List Str, x = .str a ∧ xs = [.ref p] ∧ (SqL K H p (ys.map V.str) ∨ SqT K H p (ys.map V.str)) ∧ (ys.map (·.length)).sum + ys.length * a.length ≤ 16777216 ∧ Q (.str (Txt.join a ys)) H
theorem peJoin {apos : Pos} (ho : PE X o to) (he : PE X e te) (hs : starEach [e] X.env = [(false, eval e X.env)] := by rfl) (hbase : attributeBase o "join" X.env (eval o X.env) = eval o X.env := by rfl) (hline : (apos.endLine == pos.line) = true := by rfl) (hk : X.K = K := by rfl) :
    PE X (.Call (.Attribute o "join" apos) [e] [] pos) (tM1 (rJoin K) to te) := hk ▸ pe_join ho he hs hbase hline
/-- xs.append(e), as a statement's expression -/
theorem peApp {apos cpos : Pos} (ho : PE X o to) (ha : PA X (e :: es) t) (hbase : attributeBase o "append" X.env (eval o X.env) = eval o X.env := by rfl)
    (hfew : ((backTo cpos (starEach (e :: es) X.env)).all (fun x => !x.1) && (backToKw cpos (keywordEach [] X.env)).all (fun x => x.1.isSome)
      && decide ((e :: es).length + ([] : List Keyword).length + (if ([] : List Keyword).isEmpty then 0 else 1) < 30)) = true := by rfl)
    (hline : (apos.endLine == cpos.line) = true := by rfl) (hs : starEach (e :: es) X.env = (false, eval e X.env) :: starEach es X.env := by rfl) (hplain : (backTo cpos (starEach es X.env)).any (·.1) = false := by rfl) (hk : X.K = K := by rfl) :
    PE X (.Call (.Attribute o "append" apos) (e :: es) [] cpos) (tBM K "list" rAppend to t) := hk ▸ pe_bm PySem.F.plainAttrs_list PySem.F.slot_list_append PySem.F.type_list_append mt_append ho ha hbase hfew hline hs hplain
end

section
variable {nx : St → Hp → Prop} {rt : VK} {bk ct : St → Hp → Prop} {σ : St} {H H0 : Hp} {Q : VK} {v x y : V} {K : PySem.W.Frag} {p : Addr} {xs : List V}
theorem r_isi {c : V} {t u : Value} {b : Bool} (h1 : ClsV c u) (h2 : TyX K H x t) (h3 : PySem.W.kitOne K t u = some b) (h : Q (.bl b) H) : rIsi K [x, c] H Q := ⟨x, c, t, u, b, rfl, h1, h2, h3, h⟩
theorem r_isiIntInt {i : Int} (h : Q (.bl true) H) : rIsi K [.int i, .ty "int"] H Q := r_isi (.ty _) (.base (.int i)) (kit_ty (by decide +kernel)) h
theorem r_isiIntBool {i : Int} (h : Q (.bl false) H) : rIsi K [.int i, .ty "bool"] H Q := r_isi (.ty _) (.base (.int i)) (kit_ty (by decide +kernel)) h
theorem r_isiStr {z : Str} (h : Q (.bl true) H) : rIsi K [.str z, .ty "str"] H Q := r_isi (.ty _) (.base (.str z)) (kit_ty (by decide +kernel)) h
theorem r_isiTup (hx : H p = some (.tup xs)) (h : Q (.bl true) H) : rIsi K [.ref p, .ty "tuple"] H Q := r_isi (.ty _) (.base (.tup hx)) (kit_ty (by decide +kernel)) h
theorem r_abs {i : Int} (h : Q (.int (i.natAbs : Int)) H) : rAbs [.int i] H Q := ⟨i, rfl, h⟩
theorem r_min {i j : Int} (h : Q (.int (min i j)) H) : My.rMin [.int i, .int j] H Q := ⟨i, j, rfl, h⟩
theorem r_max {i j : Int} (h : Q (.int (max i j)) H) : My.rMax [.int i, .int j] H Q := ⟨i, j, rfl, h⟩
theorem r_int1 {i : Int} (h : Q (.int i) H) : rInt1 [.int i] H Q := .inl ⟨i, rfl, h⟩
theorem r_intb {b : Bool} (h : Q (.int (if b then 1 else 0)) H) : rInt1 [.bl b] H Q := .inr ⟨b, rfl, h⟩
theorem r_lenT (hx : SqT K H p xs) (h : Q (.int xs.length) H) : My.rLen K [.ref p] H Q := ⟨p, xs, rfl, .inr hx, h⟩
theorem r_lenL (hx : SqL K H p xs) (h : Q (.int xs.length) H) : My.rLen K [.ref p] H Q := ⟨p, xs, rfl, .inl hx, h⟩
theorem r_lenS {z : Str} (hz : z.length ≤ sizeLine) (h : Q (.int z.length) H) : rLenStr [.str z] H Q := ⟨z, rfl, hz, h⟩
theorem r_tupOf (hx : SqL K H p xs) (h : ∀ l H2, New H l (.tup xs) H2 → Q (.ref l) H2) : rTupOf K [.ref p] H Q := ⟨p, xs, rfl, hx, new_of h⟩
theorem r_listOfT (hx : SqT K H p xs) (h : ∀ l H2, New H l (.lst xs) H2 → Q (.ref l) H2) : rListOf K [.ref p] H Q := ⟨p, xs, rfl, .inr hx, new_of h⟩
theorem r_listOfL (hx : SqL K H p xs) (h : ∀ l H2, New H l (.lst xs) H2 → Q (.ref l) H2) : rListOf K [.ref p] H Q := ⟨p, xs, rfl, .inl hx, new_of h⟩
theorem r_adds {a b : Str} (hz : a.length + b.length ≤ sizeLine) (h : Q (.str (a ++ b)) H) : My.rAddS (.str a) (.str b) H Q := ⟨a, b, rfl, rfl, hz, h⟩
theorem r_app {l : Addr} (hx : H l = some (.lst xs)) (hz : xs.length < sizeLine) (h : Q .non (upd H l (.lst (xs ++ [v])))) : rAppend (.ref l) [v] H Q := ⟨l, xs, v, rfl, rfl, hx, hz, h⟩
theorem r_setL {l : Addr} {k : Int} {j : Nat} {R : Hp → Prop} (hx : H l = some (.lst xs)) (hj : ixN xs.length k = some j) (h : R (upd H l (.lst (xs.set j v)))) : rSetL (.ref l) (.int k) v H R := ⟨l, xs, k, j, rfl, rfl, hx, hj, h⟩
theorem Same.get {b : Addr} {o : HO} (s : Same H0 H) (h : H0 b = some o) : H b = some o := s b o h
theorem ixN_nat {n j : Nat} (h : j < n) : ixN n (j : Int) = some j := by unfold ixN; rw [if_pos (by omega), if_pos (by omega), Int.toNat_natCast]
theorem ixN_of {n j : Nat} {k : Int} (e : k = (j : Int)) (h : j < n) : ixN n k = some j := e ▸ ixN_nat h
theorem inV_int (a : Int) (l : List Int) : inV (.int a) (l.map V.int) = decide (a ∈ l) := by
  unfold inV
  induction l with
  | nil => rfl
  | cons b l ih =>
    rw [List.map_cons, List.any_cons, ih]
    show ((b == a) || decide (a ∈ l)) = decide (a ∈ b :: l)
    by_cases e : a = b
    · subst e; simp
    · have e2 : (b == a) = false := beq_eq_false_iff_ne.mpr fun q => e q.symm
      rw [e2, Bool.false_or]; simp [e]
theorem inV_str (a : Str) (l : List Str) : inV (.str a) (l.map V.str) = decide (a ∈ l) := by
  unfold inV
  induction l with
  | nil => rfl
  | cons b l ih =>
    rw [List.map_cons, List.any_cons, ih]
    show ((b == a) || decide (a ∈ l)) = decide (a ∈ b :: l)
    by_cases e : a = b
    · subst e; simp
    · have e2 : (b == a) = false := beq_eq_false_iff_ne.mpr fun q => e q.symm
      rw [e2, Bool.false_or]; simp [e]
theorem flat_ints (l : List Int) : (l.map V.int).all flatV = true := List.all_eq_true.mpr fun x hx => by obtain ⟨_, _, rfl⟩ := List.mem_map.mp hx; rfl
theorem flat_strs' (l : List Str) : (l.map V.str).all flatV = true := List.all_eq_true.mpr fun x hx => by obtain ⟨_, _, rfl⟩ := List.mem_map.mp hx; rfl
theorem r_inI {a : Int} {l : List Int} (hx : SqT K H p (l.map V.int)) (h : Q (.bl (decide (a ∈ l))) H) : rIn K false (.int a) (.ref p) H Q := ⟨p, _, rfl, .inr hx, rfl, flat_ints l, by rw [if_neg Bool.false_ne_true, inV_int]; exact h⟩
theorem r_inIL {a : Int} {l : List Int} (hx : SqL K H p (l.map V.int)) (h : Q (.bl (decide (a ∈ l))) H) : rIn K false (.int a) (.ref p) H Q := ⟨p, _, rfl, .inl hx, rfl, flat_ints l, by rw [if_neg Bool.false_ne_true, inV_int]; exact h⟩
theorem r_inSt {a : Str} {l : List Str} (hx : SqT K H p (l.map V.str)) (h : Q (.bl (decide (a ∈ l))) H) : rIn K false (.str a) (.ref p) H Q := ⟨p, _, rfl, .inr hx, rfl, flat_strs' l, by rw [if_neg Bool.false_ne_true, inV_str]; exact h⟩
theorem r_notInSt {a : Str} {l : List Str} (hx : SqT K H p (l.map V.str)) (h : Q (.bl (!decide (a ∈ l))) H) : rIn K true (.str a) (.ref p) H Q := ⟨p, _, rfl, .inr hx, rfl, flat_strs' l, by rw [if_pos rfl, inV_str]; exact h⟩
theorem r_notInI {a : Int} {l : List Int} (hx : SqT K H p (l.map V.int)) (h : Q (.bl (!decide (a ∈ l))) H) : rIn K true (.int a) (.ref p) H Q := ⟨p, _, rfl, .inr hx, rfl, flat_ints l, by rw [if_pos rfl, inV_int]; exact h⟩
end

/-! ### loops over a list of data: what holds of the part that was taken -/
section
variable {nx : St → Hp → Prop} {rt : VK} {bk ct : St → Hp → Prop} {σ : St} {H : Hp} {Q : VK} {K : PySem.W.Frag} {g : TG} {tb : TS} {α : Type}
theorem loop_gen {J : It} (l : List α) (Pv : List α → St → Hp → Prop) (h0 : Pv [] σ H)
    (go : ∀ pre x post σ H, l = pre ++ x :: post → Pv pre σ H → J.go pre.length H ∧ ∀ y H', J.yld pre.length H y H' → g y σ H' fun σ2 H2 => tb ⟨Pv (pre ++ [x]), rt, nx, Pv (pre ++ [x])⟩ σ2 H2)
    (stop : ∀ σ H, Pv l σ H → J.stop l.length H ∧ nx σ H) :
    ∃ W : Nat → Nat → St → Hp → Prop, (∃ m, W 0 m σ H) ∧ ∀ i m σ H, W i m σ H →
      (J.stop i H ∧ nx σ H) ∨ (J.go i H ∧ ∃ N : St → Hp → Prop, (∀ σ' H', N σ' H' → ∃ m', m' < m ∧ W (i + 1) m' σ' H') ∧ ∀ x H', J.yld i H x H' → g x σ H' fun σ2 H2 => tb ⟨N, rt, nx, N⟩ σ2 H2) := by
  refine ⟨fun i m σ H => ∃ pre post, l = pre ++ post ∧ i = pre.length ∧ m = post.length ∧ Pv pre σ H, ⟨l.length, [], l, rfl, rfl, rfl, h0⟩, ?_⟩
  rintro i m σ H ⟨pre, post, e, rfl, rfl, p⟩
  cases post with
  | nil =>
    rw [List.append_nil] at e
    subst e
    exact .inl (stop σ H p)
  | cons x post =>
    obtain ⟨h1, h2⟩ := go pre x post σ H e p
    refine .inr ⟨h1, Pv (pre ++ [x]), fun σ' H' p' => ⟨post.length, by simp, pre ++ [x], post, by rw [e]; simp, by simp, rfl, p'⟩, h2⟩
theorem at_mid {f : α → V} {l pre post : List α} {x : α} (e : l = pre ++ x :: post) : (l.map f)[pre.length]? = some (f x) := by
  subst e
  rw [List.map_append, List.getElem?_append_right (by rw [List.length_map]; exact Nat.le_refl _)]
  simp
theorem forT {a : Addr} (f : α → V) (l : List α) (hx : SqT K H a (l.map f)) (Pv : List α → St → Hp → Prop) (h0 : Pv [] σ H) (hl : ∀ pre σ H, Pv pre σ H → SqT K H a (l.map f))
    (hs : ∀ pre x post σ H, l = pre ++ x :: post → Pv pre σ H → g (f x) σ H fun σ2 H2 => tb ⟨Pv (pre ++ [x]), rt, nx, Pv (pre ++ [x])⟩ σ2 H2) (hd : ∀ σ H, Pv l σ H → nx σ H) :
    ∃ a', V.ref a = .ref a' ∧ (∃ xs, SqT K H a' xs) ∧ ∃ W : Nat → Nat → St → Hp → Prop, (∃ m, W 0 m σ H) ∧ ∀ i m σ H, W i m σ H →
      ((Itt K a').stop i H ∧ nx σ H) ∨ ((Itt K a').go i H ∧ ∃ N : St → Hp → Prop, (∀ σ' H', N σ' H' → ∃ m', m' < m ∧ W (i + 1) m' σ' H') ∧ ∀ x H', (Itt K a').yld i H x H' → g x σ H' fun σ2 H2 => tb ⟨N, rt, nx, N⟩ σ2 H2) := by
  refine ⟨a, rfl, ⟨_, hx⟩, loop_gen l Pv h0 (fun pre x post σ H e p => ⟨⟨_, f x, hl pre σ H p, at_mid e⟩, fun y H' hy => ?_⟩) fun σ H p => ⟨⟨_, hl l σ H p, by rw [List.length_map]; exact Nat.le_refl _⟩, hd σ H p⟩⟩
  obtain ⟨rfl, hy⟩ := hy
  have e2 := (hy _ (hl pre σ H' p)).symm.trans (at_mid (f := f) e)
  rw [Option.some.inj e2]
  exact hs pre x post σ H' e p
theorem forL {a : Addr} (f : α → V) (l : List α) (hx : SqL K H a (l.map f)) (Pv : List α → St → Hp → Prop) (h0 : Pv [] σ H) (hl : ∀ pre σ H, Pv pre σ H → SqL K H a (l.map f))
    (hs : ∀ pre x post σ H, l = pre ++ x :: post → Pv pre σ H → g (f x) σ H fun σ2 H2 => tb ⟨Pv (pre ++ [x]), rt, nx, Pv (pre ++ [x])⟩ σ2 H2) (hd : ∀ σ H, Pv l σ H → nx σ H) :
    ∃ a', V.ref a = .ref a' ∧ (∃ xs, SqL K H a' xs) ∧ ∃ W : Nat → Nat → St → Hp → Prop, (∃ m, W 0 m σ H) ∧ ∀ i m σ H, W i m σ H →
      ((Itl K a').stop i H ∧ nx σ H) ∨ ((Itl K a').go i H ∧ ∃ N : St → Hp → Prop, (∀ σ' H', N σ' H' → ∃ m', m' < m ∧ W (i + 1) m' σ' H') ∧ ∀ x H', (Itl K a').yld i H x H' → g x σ H' fun σ2 H2 => tb ⟨N, rt, nx, N⟩ σ2 H2) := by
  refine ⟨a, rfl, ⟨_, hx⟩, loop_gen l Pv h0 (fun pre x post σ H e p => ⟨⟨_, f x, hl pre σ H p, at_mid e⟩, fun y H' hy => ?_⟩) fun σ H p => ⟨⟨_, hl l σ H p, by rw [List.length_map]; exact Nat.le_refl _⟩, hd σ H p⟩⟩
  obtain ⟨rfl, hy⟩ := hy
  have e2 := (hy _ (hl pre σ H' p)).symm.trans (at_mid (f := f) e)
  rw [Option.some.inj e2]
  exact hs pre x post σ H' e p
theorem forR {lo : Int} {n : Nat} (Pv : Nat → St → Hp → Prop) (h0 : Pv 0 σ H)
    (hs : ∀ i σ H, i < n → Pv i σ H → g (.int (lo + i)) σ H fun σ2 H2 => tb ⟨Pv (i + 1), rt, nx, Pv (i + 1)⟩ σ2 H2) (hd : ∀ σ H, Pv n σ H → nx σ H) :
    ∃ W : Nat → Nat → St → Hp → Prop, (∃ m, W 0 m σ H) ∧ ∀ i m σ H, W i m σ H →
      ((Itr lo n).stop i H ∧ nx σ H) ∨ ((Itr lo n).go i H ∧ ∃ N : St → Hp → Prop, (∀ σ' H', N σ' H' → ∃ m', m' < m ∧ W (i + 1) m' σ' H') ∧ ∀ x H', (Itr lo n).yld i H x H' → g x σ H' fun σ2 H2 => tb ⟨N, rt, nx, N⟩ σ2 H2) :=
  for_range (D := ⟨nx, rt, fun _ _ => False, fun _ _ => False⟩) Pv h0 hs hd
end
/-! ### comprehensions whose items are read without a change -/
section
variable {σ : St} {H : Hp} {Qd : Addr → Hp → Prop} {K : PySem.W.Frag} {g : TG} {tt : TT} {te : TE} {vs : List Nat} {α : Type}
theorem lc_gen {J : It} (l : List α) (p : α → Bool) (r : α → V) (hz : l.length ≤ 1000)
    (go : ∀ pre x post H', l = pre ++ x :: post → Same H H' → J.go pre.length H' ∧ ∀ y H2, J.yld pre.length H' y H2 → H2 = H' ∧ ∀ (Y : VK) (N : Hp → Prop), (p x = true → ∀ H3, Same H' H3 → Y (r x) H3) → (p x = false → ∀ H3, Same H' H3 → N H3) →
      g y (wipe σ vs) H2 fun σ2 H3 => wipe σ2 vs = wipe σ vs ∧ tt σ2 H3 fun b H4 => if b = true then te σ2 H4 Y else N H4)
    (stop : ∀ H', Same H H' → J.stop l.length H') (k : ∀ D H', H D = none → Same H H' → H' D = some (.lst ((l.filter p).map r)) → Qd D H') :
    ∀ D, H D = none → ∃ W : Nat → Nat → Hp → Prop, (∃ m, W 0 m (upd H D (.lst []))) ∧ ∀ i m H, W i m H →
      (J.stop i H ∧ Qd D H) ∨ (J.go i H ∧ ∃ Nx : Hp → Prop, (∀ H', Nx H' → ∃ m', m' < m ∧ W (i + 1) m' H') ∧ ∀ x H', J.yld i H x H' → g x (wipe σ vs) H' fun σ2 H2 => wipe σ2 vs = wipe σ vs ∧ tt σ2 H2 fun b H3 =>
        if b = true then te σ2 H3 fun y H4 => ∃ acc, H4 D = some (.lst acc) ∧ acc.length < sizeLine ∧ Nx (upd H4 D (.lst (acc ++ [y]))) else Nx H3) := by
  intro D hD
  have keyz : ∀ l : List α, l.length ≤ 1000 → ((l.filter p).map r).length < sizeLine := fun l h => small1000 (by rw [List.length_map]; exact Nat.le_trans (List.length_filter_le _ _) h)
  refine ⟨fun i m H' => ∃ pre post, l = pre ++ post ∧ i = pre.length ∧ m = post.length ∧ Same H H' ∧ H' D = some (.lst ((pre.filter p).map r)), ⟨l.length, [], l, rfl, rfl, rfl, (New.mk hD rfl).same, upd_same⟩, ?_⟩
  rintro i m H1 ⟨pre, post, e, rfl, rfl, s1, e1⟩
  cases post with
  | nil =>
    rw [List.append_nil] at e
    subst e
    exact .inl ⟨stop H1 s1, k D H1 hD s1 e1⟩
  | cons x post =>
    obtain ⟨h1, h2⟩ := go pre x post H1 e s1
    refine .inr ⟨h1, fun H' => Same H H' ∧ H' D = some (.lst (((pre ++ [x]).filter p).map r)), fun H' p' => ⟨post.length, by simp, pre ++ [x], post, by rw [e]; simp, by simp, rfl, p'.1, p'.2⟩, fun y H2 hy => ?_⟩
    obtain ⟨rfl, h3⟩ := h2 y H2 hy
    refine h3 _ _ (fun hp H3 s3 => ?_) (fun hp H3 s3 => ?_)
    · refine ⟨_, s3 _ _ e1, keyz pre (by rw [e] at hz; simp at hz; omega), same_upd (s1.trans s3) hD, ?_⟩
      rw [upd_same, List.filter_append, List.filter_cons, if_pos hp, List.map_append]; rfl
    · refine ⟨s1.trans s3, ?_⟩
      rw [List.filter_append, List.filter_cons, hp, if_neg Bool.false_ne_true, List.filter_nil, List.append_nil]
      exact s3 _ _ e1
theorem lcT {a : Addr} (f : α → V) (l : List α) (p : α → Bool) (r : α → V) (hx : SqT K H a (l.map f)) (hz : l.length ≤ 1000)
    (go : ∀ x H', x ∈ l → Same H H' → ∀ (Y : VK) (N : Hp → Prop), (p x = true → ∀ H3, Same H' H3 → Y (r x) H3) → (p x = false → ∀ H3, Same H' H3 → N H3) →
      g (f x) (wipe σ vs) H' fun σ2 H3 => wipe σ2 vs = wipe σ vs ∧ tt σ2 H3 fun b H4 => if b = true then te σ2 H4 Y else N H4)
    (k : ∀ D H', H D = none → Same H H' → H' D = some (.lst ((l.filter p).map r)) → Qd D H') :
    ∃ a', V.ref a = .ref a' ∧ (∃ xs, SqT K H a' xs) ∧ ∀ D, H D = none → ∃ W : Nat → Nat → Hp → Prop, (∃ m, W 0 m (upd H D (.lst []))) ∧ ∀ i m H, W i m H →
      ((Itt K a').stop i H ∧ Qd D H) ∨ ((Itt K a').go i H ∧ ∃ Nx : Hp → Prop, (∀ H', Nx H' → ∃ m', m' < m ∧ W (i + 1) m' H') ∧ ∀ x H', (Itt K a').yld i H x H' → g x (wipe σ vs) H' fun σ2 H2 => wipe σ2 vs = wipe σ vs ∧ tt σ2 H2 fun b H3 =>
        if b = true then te σ2 H3 fun y H4 => ∃ acc, H4 D = some (.lst acc) ∧ acc.length < sizeLine ∧ Nx (upd H4 D (.lst (acc ++ [y]))) else Nx H3) := by
  have tm : ∀ H', Same H H' → SqT K H' a (l.map f) := fun H' s => hx.ext s
  refine ⟨a, rfl, ⟨_, hx⟩, lc_gen l p r hz (fun pre x post H' e s => ⟨⟨_, f x, tm H' s, at_mid e⟩, fun y H2 hy => ?_⟩) (fun H' s => ⟨_, tm H' s, by rw [List.length_map]; exact Nat.le_refl _⟩) k⟩
  obtain ⟨rfl, hy⟩ := hy
  have e2 := (hy _ (tm _ s)).symm.trans (at_mid (f := f) e)
  refine ⟨rfl, fun Y N h1 h2 => ?_⟩
  rw [Option.some.inj e2]
  exact go x _ (by rw [e]; simp) s Y N h1 h2
theorem lcL {a : Addr} (f : α → V) (l : List α) (p : α → Bool) (r : α → V) (hx : SqL K H a (l.map f)) (hz : l.length ≤ 1000)
    (go : ∀ x H', x ∈ l → Same H H' → ∀ (Y : VK) (N : Hp → Prop), (p x = true → ∀ H3, Same H' H3 → Y (r x) H3) → (p x = false → ∀ H3, Same H' H3 → N H3) →
      g (f x) (wipe σ vs) H' fun σ2 H3 => wipe σ2 vs = wipe σ vs ∧ tt σ2 H3 fun b H4 => if b = true then te σ2 H4 Y else N H4)
    (k : ∀ D H', H D = none → Same H H' → H' D = some (.lst ((l.filter p).map r)) → Qd D H') :
    ∃ a', V.ref a = .ref a' ∧ (∃ xs, SqL K H a' xs) ∧ ∀ D, H D = none → ∃ W : Nat → Nat → Hp → Prop, (∃ m, W 0 m (upd H D (.lst []))) ∧ ∀ i m H, W i m H →
      ((Itl K a').stop i H ∧ Qd D H) ∨ ((Itl K a').go i H ∧ ∃ Nx : Hp → Prop, (∀ H', Nx H' → ∃ m', m' < m ∧ W (i + 1) m' H') ∧ ∀ x H', (Itl K a').yld i H x H' → g x (wipe σ vs) H' fun σ2 H2 => wipe σ2 vs = wipe σ vs ∧ tt σ2 H2 fun b H3 =>
        if b = true then te σ2 H3 fun y H4 => ∃ acc, H4 D = some (.lst acc) ∧ acc.length < sizeLine ∧ Nx (upd H4 D (.lst (acc ++ [y]))) else Nx H3) := by
  have tm : ∀ H', Same H H' → SqL K H' a (l.map f) := fun H' s => s.seq hx
  refine ⟨a, rfl, ⟨_, hx⟩, lc_gen l p r hz (fun pre x post H' e s => ⟨⟨_, f x, tm H' s, at_mid e⟩, fun y H2 hy => ?_⟩) (fun H' s => ⟨_, tm H' s, by rw [List.length_map]; exact Nat.le_refl _⟩) k⟩
  obtain ⟨rfl, hy⟩ := hy
  have e2 := (hy _ (tm _ s)).symm.trans (at_mid (f := f) e)
  refine ⟨rfl, fun Y N h1 h2 => ?_⟩
  rw [Option.some.inj e2]
  exact go x _ (by rw [e]; simp) s Y N h1 h2
theorem lcR {lo : Int} {n : Nat} (p : Nat → Bool) (r : Nat → V) (hz : n ≤ 1000)
    (go : ∀ i H', i < n → Same H H' → ∀ (Y : VK) (N : Hp → Prop), (p i = true → ∀ H3, Same H' H3 → Y (r i) H3) → (p i = false → ∀ H3, Same H' H3 → N H3) →
      g (.int (lo + i)) (wipe σ vs) H' fun σ2 H3 => wipe σ2 vs = wipe σ vs ∧ tt σ2 H3 fun b H4 => if b = true then te σ2 H4 Y else N H4)
    (k : ∀ D H', H D = none → Same H H' → H' D = some (.lst (((List.range n).filter p).map r)) → Qd D H') :
    ∀ D, H D = none → ∃ W : Nat → Nat → Hp → Prop, (∃ m, W 0 m (upd H D (.lst []))) ∧ ∀ i m H, W i m H →
      ((Itr lo n).stop i H ∧ Qd D H) ∨ ((Itr lo n).go i H ∧ ∃ Nx : Hp → Prop, (∀ H', Nx H' → ∃ m', m' < m ∧ W (i + 1) m' H') ∧ ∀ x H', (Itr lo n).yld i H x H' → g x (wipe σ vs) H' fun σ2 H2 => wipe σ2 vs = wipe σ vs ∧ tt σ2 H2 fun b H3 =>
        if b = true then te σ2 H3 fun y H4 => ∃ acc, H4 D = some (.lst acc) ∧ acc.length < sizeLine ∧ Nx (upd H4 D (.lst (acc ++ [y]))) else Nx H3) := by
  have mid : ∀ {pre post : List Nat} {x : Nat}, List.range n = pre ++ x :: post → x = pre.length ∧ x < n := fun {pre post x} e => by
    have e1 : (List.range n)[pre.length]? = some x := by rw [e, List.getElem?_append_right (Nat.le_refl _)]; simp
    obtain ⟨h1, h2⟩ := List.getElem?_eq_some_iff.mp e1
    rw [List.length_range] at h1
    rw [List.getElem_range] at h2
    exact ⟨h2.symm, by omega⟩
  refine lc_gen (List.range n) p r (by rw [List.length_range]; exact hz) (fun pre x post H' e s => ?_) (fun H' s => by rw [List.length_range]; exact Nat.le_refl _) k
  obtain ⟨e1, e2⟩ := mid e
  refine ⟨by rw [← e1]; exact e2, fun y H2 hy => ?_⟩
  obtain ⟨rfl, rfl⟩ := hy
  rw [← e1]
  exact ⟨rfl, fun Y N h1 h2 => go x _ e2 s Y N h1 h2⟩
theorem lcS (z : Str) (p : Nat → Bool) (r : Nat → V) (hz : z.cps.toList.length ≤ 1000)
    (go : ∀ c H', c ∈ z.cps.toList → Same H H' → ∀ (Y : VK) (N : Hp → Prop), (p c = true → ∀ H3, Same H' H3 → Y (r c) H3) → (p c = false → ∀ H3, Same H' H3 → N H3) →
      g (.str ⟨#[c]⟩) (wipe σ vs) H' fun σ2 H3 => wipe σ2 vs = wipe σ vs ∧ tt σ2 H3 fun b H4 => if b = true then te σ2 H4 Y else N H4)
    (k : ∀ D H', H D = none → Same H H' → H' D = some (.lst ((z.cps.toList.filter p).map r)) → Qd D H') :
    ∃ z', V.str z = .str z' ∧ ∀ D, H D = none → ∃ W : Nat → Nat → Hp → Prop, (∃ m, W 0 m (upd H D (.lst []))) ∧ ∀ i m H, W i m H →
      ((Its z').stop i H ∧ Qd D H) ∨ ((Its z').go i H ∧ ∃ Nx : Hp → Prop, (∀ H', Nx H' → ∃ m', m' < m ∧ W (i + 1) m' H') ∧ ∀ x H', (Its z').yld i H x H' → g x (wipe σ vs) H' fun σ2 H2 => wipe σ2 vs = wipe σ vs ∧ tt σ2 H2 fun b H3 =>
        if b = true then te σ2 H3 fun y H4 => ∃ acc, H4 D = some (.lst acc) ∧ acc.length < sizeLine ∧ Nx (upd H4 D (.lst (acc ++ [y]))) else Nx H3) := by
  refine ⟨z, rfl, lc_gen z.cps.toList p r hz (fun pre x post H' e s => ?_) (fun H' s => by show z.cps.size ≤ z.cps.toList.length; simp) k⟩
  have hlt : pre.length < z.cps.toList.length := by rw [e]; simp
  have hat : z.cps[pre.length]? = some x := by
    rw [← Array.getElem?_toList, e, List.getElem?_append_right (Nat.le_refl _)]; simp
  refine ⟨by show pre.length < z.cps.size; simpa using hlt, fun y H2 hy => ?_⟩
  obtain ⟨rfl, c, hc, rfl⟩ := hy
  rw [hat] at hc
  cases hc
  exact ⟨rfl, fun Y N h1 h2 => go x _ (by rw [e]; simp) s Y N h1 h2⟩
theorem filt_true (l : List α) : l.filter (fun _ => true) = l := List.filter_eq_self.mpr fun _ _ => rfl
theorem go1 {y : V} {H' : Hp} {rr : V} (h : ∀ Y : VK, (∀ H3, Same H' H3 → Y rr H3) → g y (wipe σ vs) H' fun σ2 H3 => wipe σ2 vs = wipe σ vs ∧ te σ2 H3 Y) (Y : VK) (N : Hp → Prop) (h1 : true = true → ∀ H3, Same H' H3 → Y rr H3) (_ : true = false → ∀ H3, Same H' H3 → N H3) :
    g y (wipe σ vs) H' fun σ2 H3 => wipe σ2 vs = wipe σ vs ∧ tYes σ2 H3 fun b H4 => if b = true then te σ2 H4 Y else N H4 := by
  have e : (fun (σ2 : St) (H3 : Hp) => wipe σ2 vs = wipe σ vs ∧ tYes σ2 H3 fun b H4 => if b = true then te σ2 H4 Y else N H4) = fun σ2 H3 => wipe σ2 vs = wipe σ vs ∧ te σ2 H3 Y := by
    funext σ2 H3
    show (wipe σ2 vs = wipe σ vs ∧ (if true = true then te σ2 H3 Y else N H3)) = _
    rw [if_pos rfl]
  rw [e]; exact h Y (h1 rfl)
theorem lcT1 {a : Addr} (f : α → V) (l : List α) (r : α → V) (hx : SqT K H a (l.map f)) (hz : l.length ≤ 1000)
    (go : ∀ x H', x ∈ l → Same H H' → ∀ Y : VK, (∀ H3, Same H' H3 → Y (r x) H3) → g (f x) (wipe σ vs) H' fun σ2 H3 => wipe σ2 vs = wipe σ vs ∧ te σ2 H3 Y)
    (k : ∀ D H', H D = none → Same H H' → H' D = some (.lst (l.map r)) → Qd D H') :
    ∃ a', V.ref a = .ref a' ∧ (∃ xs, SqT K H a' xs) ∧ ∀ D, H D = none → ∃ W : Nat → Nat → Hp → Prop, (∃ m, W 0 m (upd H D (.lst []))) ∧ ∀ i m H, W i m H →
      ((Itt K a').stop i H ∧ Qd D H) ∨ ((Itt K a').go i H ∧ ∃ Nx : Hp → Prop, (∀ H', Nx H' → ∃ m', m' < m ∧ W (i + 1) m' H') ∧ ∀ x H', (Itt K a').yld i H x H' → g x (wipe σ vs) H' fun σ2 H2 => wipe σ2 vs = wipe σ vs ∧ tYes σ2 H2 fun b H3 =>
        if b = true then te σ2 H3 fun y H4 => ∃ acc, H4 D = some (.lst acc) ∧ acc.length < sizeLine ∧ Nx (upd H4 D (.lst (acc ++ [y]))) else Nx H3) :=
  lcT f l (fun _ => true) r hx hz (fun x H' hm s => go1 (go x H' hm s)) fun D H' h1 h2 h3 => k D H' h1 h2 (by rw [filt_true] at h3; exact h3)
theorem lcL1 {a : Addr} (f : α → V) (l : List α) (r : α → V) (hx : SqL K H a (l.map f)) (hz : l.length ≤ 1000)
    (go : ∀ x H', x ∈ l → Same H H' → ∀ Y : VK, (∀ H3, Same H' H3 → Y (r x) H3) → g (f x) (wipe σ vs) H' fun σ2 H3 => wipe σ2 vs = wipe σ vs ∧ te σ2 H3 Y)
    (k : ∀ D H', H D = none → Same H H' → H' D = some (.lst (l.map r)) → Qd D H') :
    ∃ a', V.ref a = .ref a' ∧ (∃ xs, SqL K H a' xs) ∧ ∀ D, H D = none → ∃ W : Nat → Nat → Hp → Prop, (∃ m, W 0 m (upd H D (.lst []))) ∧ ∀ i m H, W i m H →
      ((Itl K a').stop i H ∧ Qd D H) ∨ ((Itl K a').go i H ∧ ∃ Nx : Hp → Prop, (∀ H', Nx H' → ∃ m', m' < m ∧ W (i + 1) m' H') ∧ ∀ x H', (Itl K a').yld i H x H' → g x (wipe σ vs) H' fun σ2 H2 => wipe σ2 vs = wipe σ vs ∧ tYes σ2 H2 fun b H3 =>
        if b = true then te σ2 H3 fun y H4 => ∃ acc, H4 D = some (.lst acc) ∧ acc.length < sizeLine ∧ Nx (upd H4 D (.lst (acc ++ [y]))) else Nx H3) :=
  lcL f l (fun _ => true) r hx hz (fun x H' hm s => go1 (go x H' hm s)) fun D H' h1 h2 h3 => k D H' h1 h2 (by rw [filt_true] at h3; exact h3)
theorem lcS1 (z : Str) (r : Nat → V) (hz : z.cps.toList.length ≤ 1000)
    (go : ∀ c H', c ∈ z.cps.toList → Same H H' → ∀ Y : VK, (∀ H3, Same H' H3 → Y (r c) H3) → g (.str ⟨#[c]⟩) (wipe σ vs) H' fun σ2 H3 => wipe σ2 vs = wipe σ vs ∧ te σ2 H3 Y)
    (k : ∀ D H', H D = none → Same H H' → H' D = some (.lst (z.cps.toList.map r)) → Qd D H') :
    ∃ z', V.str z = .str z' ∧ ∀ D, H D = none → ∃ W : Nat → Nat → Hp → Prop, (∃ m, W 0 m (upd H D (.lst []))) ∧ ∀ i m H, W i m H →
      ((Its z').stop i H ∧ Qd D H) ∨ ((Its z').go i H ∧ ∃ Nx : Hp → Prop, (∀ H', Nx H' → ∃ m', m' < m ∧ W (i + 1) m' H') ∧ ∀ x H', (Its z').yld i H x H' → g x (wipe σ vs) H' fun σ2 H2 => wipe σ2 vs = wipe σ vs ∧ tYes σ2 H2 fun b H3 =>
        if b = true then te σ2 H3 fun y H4 => ∃ acc, H4 D = some (.lst acc) ∧ acc.length < sizeLine ∧ Nx (upd H4 D (.lst (acc ++ [y]))) else Nx H3) :=
  lcS z (fun _ => true) r hz (fun x H' hm s => go1 (go x H' hm s)) fun D H' h1 h2 h3 => k D H' h1 h2 (by rw [filt_true] at h3; exact h3)
end

/-! ### the loop of steps -/
local macro_rules | `(tactic| walk_at "rd") => `(tactic| repeat (with_reducible first
  | refine r_seq ?_ | refine r_asg ?_ | refine r_var (by with_unfolding_all rfl) ?_ | refine r_c ?_ | refine r_op ?_ | refine r_I0 ?_ | refine r_name ?_ | refine r_ret ?_ | refine r_if ?_ | refine r_cons ?_ | refine r_nil ?_
  | refine r_CB ?_ | refine r_call ?_ | refine r_test ?_ | refine r_eqI ?_ | refine r_eqS ?_ | refine r_neI ?_ | refine r_neS ?_ | refine r_drop ?_ | refine r_next ?_ | refine r_ifE ?_ | refine r_B ?_ | refine r_andV ?_ | refine r_orV ?_ | refine r_notV ?_ | refine r_blV ?_
  | refine r_and ?_ | refine r_or ?_ | refine r_not ?_ | refine r_tup ?_ | refine r_lst ?_ | refine r_par ?_ | refine r_exv2 ?_ | refine r_un ?_ | refine r_neg ?_ | refine r_isN ?_ | refine r_notN ?_ | refine r_retN ?_ | refine r_chain ?_
  | refine r_star ?_ | refine r_lstRg ?_ | refine r_rg1 ?_ | refine r_rg2 ?_ | refine r_exi ?_ | refine r_exi2 ?_ | refine r_sl ?_ | refine r_noPart ?_ | refine r_part ?_ | refine r_gnil ?_ | refine r_gcons ?_ | refine r_gsub ?_ | refine r_BM ?_ | refine r_M1 ?_ | refine r_isstr ?_ | refine r_meth ?_ | refine r_make ?_ | refine r_fld ?_ | refine r_abs ?_ | refine r_isiIntInt ?_ | refine r_isiIntBool ?_ | refine r_isiStr ?_ | refine r_min ?_ | refine r_max ?_ | refine r_int1 ?_ | refine r_intb ?_ | refine r_for ?_ | refine r_itup ?_ | refine r_ilist ?_ | refine r_lc ?_ | refine r_yes ?_ | refine r_istr ?_ | refine r_rng1 ?_ | refine r_rng2 ?_))

local macro_rules | `(tactic| walk_at "hp") => `(tactic| (with_reducible first
  | assumption | exact New.at (by assumption)
  | exact SqT.of (by walk_at "hp") | exact SqL.of (by walk_at "hp") | exact Or.inl (by walk_at "hp") | exact Or.inr (by walk_at "hp")
  | exact New.get (by assumption) (by walk_at "hp") | exact Same.get (by assumption) (by walk_at "hp")))

end My
end

section
set_option Elab.async false
set_option linter.all false
set_option maxRecDepth 100000
set_option maxHeartbeats 4000000
/-! MB: the text by places, what the head tells by names. -/
namespace My
open PySem PySem.Spec PyProof.Rows L2 He LamX
def top (i : Nat) : Stmt := PySem.Challenge.pw_maypole_k98_whole_floors_where_dancers_c.main.body.getD i (.Pass ⟨0, 0, 0, 0⟩)
abbrev s_is_number : Stmt := top 17
abbrev N_is_number : List Str := ["thing"]
theorem sc_is_number : FnScope N_is_number ["thing"] (defScope s_is_number) := ⟨rfl, rfl, rfl, by decide +kernel, rfl, by decide +kernel, by decide +kernel⟩
abbrev s_is_between : Stmt := top 18
abbrev N_is_between : List Str := ["thing", "least", "most"]
theorem sc_is_between : FnScope N_is_between ["thing", "least", "most"] (defScope s_is_between) := ⟨rfl, rfl, rfl, by decide +kernel, rfl, by decide +kernel, by decide +kernel⟩
abbrev s_is_list : Stmt := top 19
abbrev N_is_list : List Str := ["thing"]
theorem sc_is_list : FnScope N_is_list ["thing"] (defScope s_is_list) := ⟨rfl, rfl, rfl, by decide +kernel, rfl, by decide +kernel, by decide +kernel⟩
abbrev s_is_pair : Stmt := top 20
abbrev N_is_pair : List Str := ["thing"]
theorem sc_is_pair : FnScope N_is_pair ["thing"] (defScope s_is_pair) := ⟨rfl, rfl, rfl, by decide +kernel, rfl, by decide +kernel, by decide +kernel⟩
abbrev s_is_step : Stmt := top 21
abbrev N_is_step : List Str := ["many", "thing"]
theorem sc_is_step : FnScope N_is_step ["many", "thing"] (defScope s_is_step) := ⟨rfl, rfl, rfl, by decide +kernel, rfl, by decide +kernel, by decide +kernel⟩
abbrev s_is_dance : Stmt := top 22
abbrev N_is_dance : List Str := ["many", "thing", "step"]
theorem sc_is_dance : FnScope N_is_dance ["many", "thing"] (defScope s_is_dance) := ⟨rfl, rfl, rfl, by decide +kernel, rfl, by decide +kernel, by decide +kernel⟩
abbrev s_need_many : Stmt := top 23
abbrev N_need_many : List Str := ["many"]
theorem sc_need_many : FnScope N_need_many ["many"] (defScope s_need_many) := ⟨rfl, rfl, rfl, by decide +kernel, rfl, by decide +kernel, by decide +kernel⟩
abbrev s_need_dance : Stmt := top 24
abbrev N_need_dance : List Str := ["many", "dance", "part"]
theorem sc_need_dance : FnScope N_need_dance ["many", "dance", "part"] (defScope s_need_dance) := ⟨rfl, rfl, rfl, by decide +kernel, rfl, by decide +kernel, by decide +kernel⟩
abbrev s_need_one : Stmt := top 25
abbrev N_need_one : List Str := ["many", "dance"]
theorem sc_need_one : FnScope N_need_one ["many", "dance"] (defScope s_need_one) := ⟨rfl, rfl, rfl, by decide +kernel, rfl, by decide +kernel, by decide +kernel⟩
abbrev s_need_two : Stmt := top 26
abbrev N_need_two : List Str := ["many", "one", "other"]
theorem sc_need_two : FnScope N_need_two ["many", "one", "other"] (defScope s_need_two) := ⟨rfl, rfl, rfl, by decide +kernel, rfl, by decide +kernel, by decide +kernel⟩
abbrev s_order_of : Stmt := top 27
abbrev N_order_of : List Str := ["many", "dance", "found", "step", "at"]
theorem sc_order_of : FnScope N_order_of ["many", "dance"] (defScope s_order_of) := ⟨rfl, rfl, rfl, by decide +kernel, rfl, by decide +kernel, by decide +kernel⟩
abbrev s_undone_of : Stmt := top 28
abbrev N_undone_of : List Str := ["dance", "step"]
theorem sc_undone_of : FnScope N_undone_of ["dance"] (defScope s_undone_of) := ⟨rfl, rfl, rfl, by decide +kernel, rfl, by decide +kernel, by decide +kernel⟩
abbrev s_leads_of : Stmt := top 29
abbrev N_leads_of : List Str := ["many", "dance", "found", "low", "high", "line", "step", "at", "pair"]
theorem sc_leads_of : FnScope N_leads_of ["many", "dance"] (defScope s_leads_of) := ⟨rfl, rfl, rfl, by decide +kernel, rfl, by decide +kernel, by decide +kernel⟩
abbrev s_most_nought : Stmt := top 31
abbrev N_most_nought : List Str := ["number"]
theorem sc_most_nought : FnScope N_most_nought ["number"] (defScope s_most_nought) := ⟨rfl, rfl, rfl, by decide +kernel, rfl, by decide +kernel, by decide +kernel⟩
abbrev s_least_nought : Stmt := top 32
abbrev N_least_nought : List Str := ["number"]
theorem sc_least_nought : FnScope N_least_nought ["number"] (defScope s_least_nought) := ⟨rfl, rfl, rfl, by decide +kernel, rfl, by decide +kernel, by decide +kernel⟩
abbrev s_forward_four : Stmt := top 33
abbrev N_forward_four : List Str := ["p", "q", "r", "s", "high", "deep", "z", "left"]
theorem sc_forward_four : FnScope N_forward_four ["p", "q", "r", "s"] (defScope s_forward_four) := ⟨rfl, rfl, rfl, by decide +kernel, rfl, by decide +kernel, by decide +kernel⟩
abbrev s_backward_four : Stmt := top 34
abbrev N_backward_four : List Str := ["p", "q", "r", "s", "high", "deep", "z", "left"]
theorem sc_backward_four : FnScope N_backward_four ["p", "q", "r", "s"] (defScope s_backward_four) := ⟨rfl, rfl, rfl, by decide +kernel, rfl, by decide +kernel, by decide +kernel⟩
abbrev s_step_numbers : Stmt := top 35
abbrev N_step_numbers : List Str := ["numbers", "step", "begin", "p", "q", "r", "s", "four"]
theorem sc_step_numbers : FnScope N_step_numbers ["numbers", "step"] (defScope s_step_numbers) := ⟨rfl, rfl, rfl, by decide +kernel, rfl, by decide +kernel, by decide +kernel⟩
abbrev s_all_led : Stmt := top 36
abbrev N_all_led : List Str := ["numbers", "dance", "step"]
theorem sc_all_led : FnScope N_all_led ["numbers", "dance"] (defScope s_all_led) := ⟨rfl, rfl, rfl, by decide +kernel, rfl, by decide +kernel, by decide +kernel⟩
abbrev s_numbers_in : Stmt := top 37
abbrev N_numbers_in : List Str := ["many", "dance"]
theorem sc_numbers_in : FnScope N_numbers_in ["many", "dance"] (defScope s_numbers_in) := ⟨rfl, rfl, rfl, by decide +kernel, rfl, by decide +kernel, by decide +kernel⟩
abbrev s_is_alike : Stmt := top 38
abbrev N_is_alike : List Str := ["many", "one", "other"]
theorem sc_is_alike : FnScope N_is_alike ["many", "one", "other"] (defScope s_is_alike) := ⟨rfl, rfl, rfl, by decide +kernel, rfl, by decide +kernel, by decide +kernel⟩
abbrev s_numbers_of : Stmt := top 39
abbrev N_numbers_of : List Str := ["many", "dance"]
theorem sc_numbers_of : FnScope N_numbers_of ["many", "dance"] (defScope s_numbers_of) := ⟨rfl, rfl, rfl, by decide +kernel, rfl, by decide +kernel, by decide +kernel⟩
abbrev s_left_of : Stmt := top 41
abbrev N_left_of : List Str := ["many", "dance", "stay", "line", "found", "step", "at", "place", "dancer"]
theorem sc_left_of : FnScope N_left_of ["many", "dance", "stay"] (defScope s_left_of) := ⟨rfl, rfl, rfl, by decide +kernel, rfl, by decide +kernel, by decide +kernel⟩
abbrev s_is_lot : Stmt := top 42
abbrev N_is_lot : List Str := ["many", "thing", "least", "dancer"]
theorem sc_is_lot : FnScope N_is_lot ["many", "thing", "least"] (defScope s_is_lot) := ⟨rfl, rfl, rfl, by decide +kernel, rfl, by decide +kernel, by decide +kernel⟩
abbrev s_left_by : Stmt := top 43
abbrev N_left_by : List Str := ["many", "dance", "stay"]
theorem sc_left_by : FnScope N_left_by ["many", "dance", "stay"] (defScope s_left_by) := ⟨rfl, rfl, rfl, by decide +kernel, rfl, by decide +kernel, by decide +kernel⟩
abbrev s_is_letter : Stmt := top 48
abbrev N_is_letter : List Str := ["thing"]
theorem sc_is_letter : FnScope N_is_letter ["thing"] (defScope s_is_letter) := ⟨rfl, rfl, rfl, by decide +kernel, rfl, by decide +kernel, by decide +kernel⟩
abbrev s_side_of : Stmt := top 51
abbrev N_side_of : List Str := ["many", "dance", "some", "number"]
theorem sc_side_of : FnScope N_side_of ["many", "dance"] (defScope s_side_of) := ⟨rfl, rfl, rfl, by decide +kernel, rfl, by decide +kernel, by decide +kernel⟩
abbrev s_side : Stmt := top 52
abbrev N_side : List Str := ["many", "dance"]
theorem sc_side : FnScope N_side ["many", "dance"] (defScope s_side) := ⟨rfl, rfl, rfl, by decide +kernel, rfl, by decide +kernel, by decide +kernel⟩
abbrev s_compared : Stmt := top 53
abbrev N_compared : List Str := ["many", "one", "other"]
theorem sc_compared : FnScope N_compared ["many", "one", "other"] (defScope s_compared) := ⟨rfl, rfl, rfl, by decide +kernel, rfl, by decide +kernel, by decide +kernel⟩
abbrev s_compare : Stmt := top 54
abbrev N_compare : List Str := ["many", "one", "other"]
theorem sc_compare : FnScope N_compare ["many", "one", "other"] (defScope s_compare) := ⟨rfl, rfl, rfl, by decide +kernel, rfl, by decide +kernel, by decide +kernel⟩
abbrev s_letter_of : Stmt := top 64
abbrev N_letter_of : List Str := ["step"]
theorem sc_letter_of : FnScope N_letter_of ["step"] (defScope s_letter_of) := ⟨rfl, rfl, rfl, by decide +kernel, rfl, by decide +kernel, by decide +kernel⟩
abbrev s_step_of : Stmt := top 65
abbrev N_step_of : List Str := ["many", "letter"]
theorem sc_step_of : FnScope N_step_of ["many", "letter"] (defScope s_step_of) := ⟨rfl, rfl, rfl, by decide +kernel, rfl, by decide +kernel, by decide +kernel⟩
abbrev s_letters_of : Stmt := top 66
abbrev N_letters_of : List Str := ["dance", "step"]
theorem sc_letters_of : FnScope N_letters_of ["dance"] (defScope s_letters_of) := ⟨rfl, rfl, rfl, by decide +kernel, rfl, by decide +kernel, by decide +kernel⟩
abbrev s_dance_text : Stmt := top 67
abbrev N_dance_text : List Str := ["many", "dance"]
theorem sc_dance_text : FnScope N_dance_text ["many", "dance"] (defScope s_dance_text) := ⟨rfl, rfl, rfl, by decide +kernel, rfl, by decide +kernel, by decide +kernel⟩
abbrev s_powered : Stmt := top 68
abbrev N_powered : List Str := ["letter", "times", "found", "rest"]
theorem sc_powered : FnScope N_powered ["letter", "times"] (defScope s_powered) := ⟨rfl, rfl, rfl, by decide +kernel, rfl, by decide +kernel, by decide +kernel⟩
abbrev s_phrase_text : Stmt := top 69
abbrev N_phrase_text : List Str := ["many", "dance", "found", "rows", "step", "times"]
theorem sc_phrase_text : FnScope N_phrase_text ["many", "dance"] (defScope s_phrase_text) := ⟨rfl, rfl, rfl, by decide +kernel, rfl, by decide +kernel, by decide +kernel⟩
abbrev s_read_dance : Stmt := top 71
abbrev N_read_dance : List Str := ["text", "signs", "steps", "many", "step"]
theorem sc_read_dance : FnScope N_read_dance ["text"] (defScope s_read_dance) := ⟨rfl, rfl, rfl, by decide +kernel, rfl, by decide +kernel, by decide +kernel⟩
abbrev s_power_read : Stmt := top 72
abbrev N_power_read : List Str := ["signs", "is_back", "figures"]
theorem sc_power_read : FnScope N_power_read ["signs"] (defScope s_power_read) := ⟨rfl, rfl, rfl, by decide +kernel, rfl, by decide +kernel, by decide +kernel⟩
abbrev s_done_times : Stmt := top 73
abbrev N_done_times : List Str := ["steps", "times", "size"]
theorem sc_done_times : FnScope N_done_times ["steps", "times"] (defScope s_done_times) := ⟨rfl, rfl, rfl, by decide +kernel, rfl, by decide +kernel, by decide +kernel⟩
abbrev s_put_behind : Stmt := top 74
abbrev N_put_behind : List Str := ["one", "other", "size"]
theorem sc_put_behind : FnScope N_put_behind ["one", "other"] (defScope s_put_behind) := ⟨rfl, rfl, rfl, by decide +kernel, rfl, by decide +kernel, by decide +kernel⟩
abbrev s_item_read : Stmt := top 75
abbrev N_item_read : List Str := ["signs", "many", "deep", "found", "step"]
theorem sc_item_read : FnScope N_item_read ["signs", "many", "deep"] (defScope s_item_read) := ⟨rfl, rfl, rfl, by decide +kernel, rfl, by decide +kernel, by decide +kernel⟩
abbrev s_items_read : Stmt := top 76
abbrev N_items_read : List Str := ["signs", "many", "deep", "found"]
theorem sc_items_read : FnScope N_items_read ["signs", "many", "deep"] (defScope s_items_read) := ⟨rfl, rfl, rfl, by decide +kernel, rfl, by decide +kernel, by decide +kernel⟩
abbrev s_read_phrase : Stmt := top 77
abbrev N_read_phrase : List Str := ["text", "signs", "many", "size", "steps"]
theorem sc_read_phrase : FnScope N_read_phrase ["text"] (defScope s_read_phrase) := ⟨rfl, rfl, rfl, by decide +kernel, rfl, by decide +kernel, by decide +kernel⟩
abbrev s_is_name : Stmt := top 84
abbrev N_is_name : List Str := ["word"]
theorem sc_is_name : FnScope N_is_name ["word"] (defScope s_is_name) := ⟨rfl, rfl, rfl, by decide +kernel, rfl, by decide +kernel, by decide +kernel⟩
abbrev s_steps_in : Stmt := top 85
abbrev N_steps_in : List Str := ["word", "letter"]
theorem sc_steps_in : FnScope N_steps_in ["word"] (defScope s_steps_in) := ⟨rfl, rfl, rfl, by decide +kernel, rfl, by decide +kernel, by decide +kernel⟩
abbrev s_is_deed : Stmt := top 89
abbrev N_is_deed : List Str := ["thing"]
theorem sc_is_deed : FnScope N_is_deed ["thing"] (defScope s_is_deed) := ⟨rfl, rfl, rfl, by decide +kernel, rfl, by decide +kernel, by decide +kernel⟩
abbrev s_do : Stmt := top 90
abbrev N_do : List Str := ["floor", "deed"]
theorem sc_do : FnScope N_do ["floor", "deed"] (defScope s_do) := ⟨rfl, rfl, rfl, by decide +kernel, rfl, by decide +kernel, by decide +kernel⟩
abbrev s_journal_of : Stmt := top 91
abbrev N_journal_of : List Str := ["floor", "bench", "found", "deed"]
theorem sc_journal_of : FnScope N_journal_of ["floor"] (defScope s_journal_of) := ⟨rfl, rfl, rfl, by decide +kernel, rfl, by decide +kernel, by decide +kernel⟩
abbrev s_is_done : Stmt := top 92
abbrev N_is_done : List Str := ["floor", "item"]
theorem sc_is_done : FnScope N_is_done ["floor", "item"] (defScope s_is_done) := ⟨rfl, rfl, rfl, by decide +kernel, rfl, by decide +kernel, by decide +kernel⟩
abbrev s_first_wrong : Stmt := top 93
abbrev N_first_wrong : List Str := ["many", "journal", "floor", "at", "item"]
theorem sc_first_wrong : FnScope N_first_wrong ["many", "journal"] (defScope s_first_wrong) := ⟨rfl, rfl, rfl, by decide +kernel, rfl, by decide +kernel, by decide +kernel⟩
abbrev s_replayed : Stmt := top 94
abbrev N_replayed : List Str := ["many", "journal", "at", "floor", "deed", "shown"]
theorem sc_replayed : FnScope N_replayed ["many", "journal"] (defScope s_replayed) := ⟨rfl, rfl, rfl, by decide +kernel, rfl, by decide +kernel, by decide +kernel⟩
abbrev s_L_begun : Stmt := top 96
abbrev N_L_begun : List Str := ["_law_script", "_law_large", "_law_grain"]
theorem sc_L_begun : FnScope N_L_begun ["_law_script"] (defScope s_L_begun) := ⟨rfl, rfl, rfl, by decide +kernel, rfl, by decide +kernel, by decide +kernel⟩
abbrev s_L_mixed : Stmt := top 97
abbrev N_L_mixed : List Str := ["_law_draw", "_law_turn", "_law_found", "_law_great", "_law_blend", "_law_grain"]
theorem sc_L_mixed : FnScope N_L_mixed ["_law_draw"] (defScope s_L_mixed) := ⟨rfl, rfl, rfl, by decide +kernel, rfl, by decide +kernel, by decide +kernel⟩
abbrev s_L_take : Stmt := top 98
abbrev N_L_take : List Str := ["_law_draw", "_law_amount", "_law_found"]
theorem sc_L_take : FnScope N_L_take ["_law_draw", "_law_amount"] (defScope s_L_take) := ⟨rfl, rfl, rfl, by decide +kernel, rfl, by decide +kernel, by decide +kernel⟩
abbrev s_L_pick : Stmt := top 99
abbrev N_L_pick : List Str := ["_law_draw", "_law_some"]
theorem sc_L_pick : FnScope N_L_pick ["_law_draw", "_law_some"] (defScope s_L_pick) := ⟨rfl, rfl, rfl, by decide +kernel, rfl, by decide +kernel, by decide +kernel⟩
abbrev s_L_caught : Stmt := top 100
abbrev N_L_caught : List Str := ["_law_work", "_law_caught_here", "_law_error"]
theorem sc_L_caught : FnScope N_L_caught ["_law_work"] (defScope s_L_caught) := ⟨rfl, rfl, rfl, by decide +kernel, rfl, by decide +kernel, by decide +kernel⟩
abbrev s_L_order : Stmt := top 101
abbrev N_L_order : List Str := ["_law_many", "_law_dance_here", "_law_found", "_law_step_here", "_law_k"]
theorem sc_L_order : FnScope N_L_order ["_law_many", "_law_dance_here"] (defScope s_L_order) := ⟨rfl, rfl, rfl, by decide +kernel, rfl, by decide +kernel, by decide +kernel⟩
abbrev s_L_leads : Stmt := top 102
abbrev N_L_leads : List Str := ["_law_many", "_law_dance_here", "_law_found", "_law_line_here", "_law_low", "_law_high", "_law_step_here", "_law_k", "_law_pair"]
theorem sc_L_leads : FnScope N_L_leads ["_law_many", "_law_dance_here"] (defScope s_L_leads) := ⟨rfl, rfl, rfl, by decide +kernel, rfl, by decide +kernel, by decide +kernel⟩
abbrev s_L_four : Stmt := top 103
abbrev N_L_four : List Str := ["_law_p", "_law_q", "_law_r", "_law_s", "_law_sign", "_law_z", "_law_found"]
theorem sc_L_four : FnScope N_L_four ["_law_p", "_law_q", "_law_r", "_law_s", "_law_sign"] (defScope s_L_four) := ⟨rfl, rfl, rfl, by decide +kernel, rfl, by decide +kernel, by decide +kernel⟩
abbrev s_L_curves : Stmt := top 104
abbrev N_L_curves : List Str := ["_law_many", "_law_dance_here", "_law_found", "_law_step_here", "_law_k"]
theorem sc_L_curves : FnScope N_L_curves ["_law_many", "_law_dance_here"] (defScope s_L_curves) := ⟨rfl, rfl, rfl, by decide +kernel, rfl, by decide +kernel, by decide +kernel⟩
abbrev s_L_alike : Stmt := top 105
abbrev N_L_alike : List Str := ["_law_many", "_law_one", "_law_other"]
theorem sc_L_alike : FnScope N_L_alike ["_law_many", "_law_one", "_law_other"] (defScope s_L_alike) := ⟨rfl, rfl, rfl, by decide +kernel, rfl, by decide +kernel, by decide +kernel⟩
abbrev s_L_left : Stmt := top 106
abbrev N_L_left : List Str := ["_law_many", "_law_dance_here", "_law_stay_here", "_law_line_here", "_law_found", "_law_step_here", "_law_k", "_law_spot", "_law_each"]
theorem sc_L_left : FnScope N_L_left ["_law_many", "_law_dance_here", "_law_stay_here"] (defScope s_L_left) := ⟨rfl, rfl, rfl, by decide +kernel, rfl, by decide +kernel, by decide +kernel⟩
abbrev s_L_moved_up : Stmt := top 107
abbrev N_L_moved_up : List Str := ["_law_dance_here", "_law_places_here", "_law_step_here"]
theorem sc_L_moved_up : FnScope N_L_moved_up ["_law_dance_here", "_law_places_here"] (defScope s_L_moved_up) := ⟨rfl, rfl, rfl, by decide +kernel, rfl, by decide +kernel, by decide +kernel⟩
abbrev s_L_act : Stmt := top 108
abbrev N_L_act : List Str := ["_law_state", "_law_deed_here", "_law_names_here", "_law_dance_here", "_law_many", "_law_later", "_law_out", "_law_each"]
theorem sc_L_act : FnScope N_L_act ["_law_state", "_law_deed_here"] (defScope s_L_act) := ⟨rfl, rfl, rfl, by decide +kernel, rfl, by decide +kernel, by decide +kernel⟩
abbrev s_L_do : Stmt := top 109
abbrev N_L_do : List Str := ["_law_floor_here", "_law_deed_here"]
theorem sc_L_do : FnScope N_L_do ["_law_floor_here", "_law_deed_here"] (defScope s_L_do) := ⟨rfl, rfl, rfl, by decide +kernel, rfl, by decide +kernel, by decide +kernel⟩
abbrev s_L_call : Stmt := top 110
abbrev N_L_call : List Str := ["_law_floor_here", "_law_deed_here", "_law_error", "_law_kinds"]
theorem sc_L_call : FnScope N_L_call ["_law_floor_here", "_law_deed_here"] (defScope s_L_call) := ⟨rfl, rfl, rfl, by decide +kernel, rfl, by decide +kernel, by decide +kernel⟩
abbrev s_L_deed : Stmt := top 111
abbrev N_L_deed : List Str := ["_law_draw", "_law_state", "_law_many", "_law_way", "_law_spot"]
theorem sc_L_deed : FnScope N_L_deed ["_law_draw", "_law_state"] (defScope s_L_deed) := ⟨rfl, rfl, rfl, by decide +kernel, rfl, by decide +kernel, by decide +kernel⟩
abbrev s_L_line : Stmt := top 112
abbrev N_L_line : List Str := ["_law_deed_here", "_law_many", "_law_spot"]
theorem sc_L_line : FnScope N_L_line ["_law_deed_here", "_law_many"] (defScope s_L_line) := ⟨rfl, rfl, rfl, by decide +kernel, rfl, by decide +kernel, by decide +kernel⟩
abbrev s_L_stands : Stmt := top 113
abbrev N_L_stands : List Str := ["_law_state", "_law_floor_here", "_law_names_here", "_law_dance_here", "_law_many", "_law_line_here", "_law_far", "_law_first", "_law_second", "_law_each"]
theorem sc_L_stands : FnScope N_L_stands ["_law_state", "_law_floor_here"] (defScope s_L_stands) := ⟨rfl, rfl, rfl, by decide +kernel, rfl, by decide +kernel, by decide +kernel⟩
abbrev s_L_told_right : Stmt := top 114
abbrev N_L_told_right : List Str := ["_law_state", "_law_table_here", "_law_names_here", "_law_dance_here", "_law_many", "_law_text", "_law_word", "_law_told", "_law_part"]
theorem sc_L_told_right : FnScope N_L_told_right ["_law_state", "_law_table_here"] (defScope s_L_told_right) := ⟨rfl, rfl, rfl, by decide +kernel, rfl, by decide +kernel, by decide +kernel⟩
abbrev s_law : Stmt := top 115
abbrev N_law : List Str := ["_law_script", "_law_draw", "_law_turn", "_law_begun_here", "_law_names_here", "_law_state", "_law_floor_here", "_law_table_here", "_law_lap", "_law_deed_here", "_law_line_here", "_law_due", "_law_shown"]
theorem sc_law : FnScope N_law ["_law_script"] (defScope s_law) := ⟨rfl, rfl, rfl, by decide +kernel, rfl, by decide +kernel, by decide +kernel⟩
abbrev s_Stand_init : Stmt := inClass (top 46) 0
abbrev N_Stand_init : List Str := ["self", "names", "dance", "ever", "deeds", "before"]
theorem sc_Stand_init : FnScope N_Stand_init ["self", "names", "dance", "ever", "deeds", "before"] (defScope s_Stand_init) := ⟨rfl, rfl, rfl, by decide +kernel, rfl, by decide +kernel, by decide +kernel⟩
abbrev s_Floor_init : Stmt := inClass (top 49) 0
abbrev N_Floor_init : List Str := ["self", "many", "names"]
theorem sc_Floor_init : FnScope N_Floor_init ["self", "many"] (defScope s_Floor_init) := ⟨rfl, rfl, rfl, by decide +kernel, rfl, by decide +kernel, by decide +kernel⟩
abbrev s_Floor_many : Stmt := inClass (top 49) 1
abbrev N_Floor_many : List Str := ["self"]
theorem sc_Floor_many : FnScope N_Floor_many ["self"] (defScope s_Floor_many) := ⟨rfl, rfl, rfl, by decide +kernel, rfl, by decide +kernel, by decide +kernel⟩
abbrev s_Floor_names : Stmt := inClass (top 49) 2
abbrev N_Floor_names : List Str := ["self"]
theorem sc_Floor_names : FnScope N_Floor_names ["self"] (defScope s_Floor_names) := ⟨rfl, rfl, rfl, by decide +kernel, rfl, by decide +kernel, by decide +kernel⟩
abbrev s_Floor_standing : Stmt := inClass (top 49) 3
abbrev N_Floor_standing : List Str := ["self", "stand", "dancer"]
theorem sc_Floor_standing : FnScope N_Floor_standing ["self"] (defScope s_Floor_standing) := ⟨rfl, rfl, rfl, by decide +kernel, rfl, by decide +kernel, by decide +kernel⟩
abbrev s_Floor_dance : Stmt := inClass (top 49) 4
abbrev N_Floor_dance : List Str := ["self"]
theorem sc_Floor_dance : FnScope N_Floor_dance ["self"] (defScope s_Floor_dance) := ⟨rfl, rfl, rfl, by decide +kernel, rfl, by decide +kernel, by decide +kernel⟩
abbrev s_Floor_log : Stmt := inClass (top 49) 5
abbrev N_Floor_log : List Str := ["self"]
theorem sc_Floor_log : FnScope N_Floor_log ["self"] (defScope s_Floor_log) := ⟨rfl, rfl, rfl, by decide +kernel, rfl, by decide +kernel, by decide +kernel⟩
abbrev s_Floor_len : Stmt := inClass (top 49) 6
abbrev N_Floor_len : List Str := ["self"]
theorem sc_Floor_len : FnScope N_Floor_len ["self"] (defScope s_Floor_len) := ⟨rfl, rfl, rfl, by decide +kernel, rfl, by decide +kernel, by decide +kernel⟩
abbrev s_Floor_eq : Stmt := inClass (top 49) 8
abbrev N_Floor_eq : List Str := ["self", "other"]
theorem sc_Floor_eq : FnScope N_Floor_eq ["self", "other"] (defScope s_Floor_eq) := ⟨rfl, rfl, rfl, by decide +kernel, rfl, by decide +kernel, by decide +kernel⟩
abbrev s_Floor_become : Stmt := inClass (top 49) 11
abbrev N_Floor_become : List Str := ["self", "names", "dance", "ever", "deed", "stand"]
theorem sc_Floor_become : FnScope N_Floor_become ["self", "names", "dance", "ever", "deed"] (defScope s_Floor_become) := ⟨rfl, rfl, rfl, by decide +kernel, rfl, by decide +kernel, by decide +kernel⟩
abbrev s_Floor_place_of : Stmt := inClass (top 49) 12
abbrev N_Floor_place_of : List Str := ["self", "name", "names"]
theorem sc_Floor_place_of : FnScope N_Floor_place_of ["self", "name"] (defScope s_Floor_place_of) := ⟨rfl, rfl, rfl, by decide +kernel, rfl, by decide +kernel, by decide +kernel⟩
abbrev s_Floor_step : Stmt := inClass (top 49) 13
abbrev N_Floor_step : List Str := ["self", "i", "stand"]
theorem sc_Floor_step : FnScope N_Floor_step ["self", "i"] (defScope s_Floor_step) := ⟨rfl, rfl, rfl, by decide +kernel, rfl, by decide +kernel, by decide +kernel⟩
abbrev s_Floor_leave : Stmt := inClass (top 49) 14
abbrev N_Floor_leave : List Str := ["self", "name", "stand", "at", "many", "stay", "names", "dancer"]
theorem sc_Floor_leave : FnScope N_Floor_leave ["self", "name"] (defScope s_Floor_leave) := ⟨rfl, rfl, rfl, by decide +kernel, rfl, by decide +kernel, by decide +kernel⟩
abbrev s_Floor_join : Stmt := inClass (top 49) 15
abbrev N_Floor_join : List Str := ["self", "at", "name", "stand", "many", "names", "dance", "step"]
theorem sc_Floor_join : FnScope N_Floor_join ["self", "at", "name"] (defScope s_Floor_join) := ⟨rfl, rfl, rfl, by decide +kernel, rfl, by decide +kernel, by decide +kernel⟩
abbrev s_Floor_undo : Stmt := inClass (top 49) 16
abbrev N_Floor_undo : List Str := ["self"]
theorem sc_Floor_undo : FnScope N_Floor_undo ["self"] (defScope s_Floor_undo) := ⟨rfl, rfl, rfl, by decide +kernel, rfl, by decide +kernel, by decide +kernel⟩
abbrev s_Floor_lead : Stmt := inClass (top 49) 17
abbrev N_Floor_lead : List Str := ["self", "one", "other", "first", "second", "found"]
theorem sc_Floor_lead : FnScope N_Floor_lead ["self", "one", "other"] (defScope s_Floor_lead) := ⟨rfl, rfl, rfl, by decide +kernel, rfl, by decide +kernel, by decide +kernel⟩
abbrev s_Floor_is_straight : Stmt := inClass (top 49) 18
abbrev N_Floor_is_straight : List Str := ["self"]
theorem sc_Floor_is_straight : FnScope N_Floor_is_straight ["self"] (defScope s_Floor_is_straight) := ⟨rfl, rfl, rfl, by decide +kernel, rfl, by decide +kernel, by decide +kernel⟩
abbrev s_Signs_init : Stmt := inClass (top 70) 0
abbrev N_Signs_init : List Str := ["self", "text"]
theorem sc_Signs_init : FnScope N_Signs_init ["self", "text"] (defScope s_Signs_init) := ⟨rfl, rfl, rfl, by decide +kernel, rfl, by decide +kernel, by decide +kernel⟩
abbrev s_Signs_next_sign : Stmt := inClass (top 70) 1
abbrev N_Signs_next_sign : List Str := ["self"]
theorem sc_Signs_next_sign : FnScope N_Signs_next_sign ["self"] (defScope s_Signs_next_sign) := ⟨rfl, rfl, rfl, by decide +kernel, rfl, by decide +kernel, by decide +kernel⟩
abbrev s_Signs_take : Stmt := inClass (top 70) 2
abbrev N_Signs_take : List Str := ["self", "is_right"]
theorem sc_Signs_take : FnScope N_Signs_take ["self", "is_right"] (defScope s_Signs_take) := ⟨rfl, rfl, rfl, by decide +kernel, rfl, by decide +kernel, by decide +kernel⟩
abbrev s_Signs_take_one_of : Stmt := inClass (top 70) 3
abbrev N_Signs_take_one_of : List Str := ["self", "signs", "sign"]
theorem sc_Signs_take_one_of : FnScope N_Signs_take_one_of ["self", "signs"] (defScope s_Signs_take_one_of) := ⟨rfl, rfl, rfl, by decide +kernel, rfl, by decide +kernel, by decide +kernel⟩
abbrev s_Signs_begin : Stmt := inClass (top 70) 4
abbrev N_Signs_begin : List Str := ["self", "many"]
theorem sc_Signs_begin : FnScope N_Signs_begin ["self"] (defScope s_Signs_begin) := ⟨rfl, rfl, rfl, by decide +kernel, rfl, by decide +kernel, by decide +kernel⟩
abbrev s_Signs_end : Stmt := inClass (top 70) 5
abbrev N_Signs_end : List Str := ["self"]
theorem sc_Signs_end : FnScope N_Signs_end ["self"] (defScope s_Signs_end) := ⟨rfl, rfl, rfl, by decide +kernel, rfl, by decide +kernel, by decide +kernel⟩
abbrev s_Desk_init : Stmt := inClass (top 86) 0
abbrev N_Desk_init : List Str := ["self", "many"]
theorem sc_Desk_init : FnScope N_Desk_init ["self", "many"] (defScope s_Desk_init) := ⟨rfl, rfl, rfl, by decide +kernel, rfl, by decide +kernel, by decide +kernel⟩
abbrev s_Desk_say : Stmt := inClass (top 86) 1
abbrev N_Desk_say : List Str := ["self", "line", "words", "answer"]
theorem sc_Desk_say : FnScope N_Desk_say ["self", "line"] (defScope s_Desk_say) := ⟨rfl, rfl, rfl, by decide +kernel, rfl, by decide +kernel, by decide +kernel⟩
abbrev s_Desk_now : Stmt := inClass (top 86) 2
abbrev N_Desk_now : List Str := ["self"]
theorem sc_Desk_now : FnScope N_Desk_now ["self"] (defScope s_Desk_now) := ⟨rfl, rfl, rfl, by decide +kernel, rfl, by decide +kernel, by decide +kernel⟩
abbrev s_Desk_answer_to : Stmt := inClass (top 86) 3
abbrev N_Desk_answer_to : List Str := ["self", "head", "words"]
theorem sc_Desk_answer_to : FnScope N_Desk_answer_to ["self", "head", "words"] (defScope s_Desk_answer_to) := ⟨rfl, rfl, rfl, by decide +kernel, rfl, by decide +kernel, by decide +kernel⟩
abbrev s_Desk_answer_alone : Stmt := inClass (top 86) 4
abbrev N_Desk_answer_alone : List Str := ["self", "word", "floor", "number"]
theorem sc_Desk_answer_alone : FnScope N_Desk_answer_alone ["self", "word"] (defScope s_Desk_answer_alone) := ⟨rfl, rfl, rfl, by decide +kernel, rfl, by decide +kernel, by decide +kernel⟩
abbrev s_Desk_answer_to_one : Stmt := inClass (top 86) 5
abbrev N_Desk_answer_to_one : List Str := ["self", "head", "word", "floor", "steps"]
theorem sc_Desk_answer_to_one : FnScope N_Desk_answer_to_one ["self", "head", "word"] (defScope s_Desk_answer_to_one) := ⟨rfl, rfl, rfl, by decide +kernel, rfl, by decide +kernel, by decide +kernel⟩
abbrev s_BadNumber_init : Stmt := inClass (top 5) 0
abbrev s_NotNow_init : Stmt := inClass (top 9) 0
def gt (K : PySem.W.Frag) (C : Addr) (m : Str) : Addr := match PySem.W.recIn K (ma K C m) "property" with
  | some (.ref g :: _) => g
  | _ => 0
def fa0 : List Fa := [.glo "is_number", .glo "is_between", .glo "is_list", .glo "is_pair", .glo "is_step", .glo "is_dance", .glo "need_many", .glo "need_dance", .glo "need_one", .glo "need_two", .glo "order_of", .glo "undone_of", .glo "leads_of", .glo "most_nought", .glo "least_nought", .glo "forward_four", .glo "backward_four", .glo "step_numbers", .glo "all_led", .glo "numbers_in", .glo "is_alike", .glo "numbers_of", .glo "left_of", .glo "is_lot", .glo "left_by"]
def fa1 : List Fa := [.glo "is_letter", .glo "side_of", .glo "side", .glo "compared", .glo "compare", .glo "letter_of", .glo "step_of", .glo "letters_of", .glo "dance_text", .glo "powered", .glo "phrase_text", .glo "read_dance", .glo "power_read", .glo "done_times", .glo "put_behind", .glo "item_read", .glo "items_read", .glo "read_phrase", .glo "is_name", .glo "steps_in", .glo "is_deed", .glo "do", .glo "journal_of", .glo "is_done", .glo "first_wrong"]
def fa2 : List Fa := [.glo "replayed", .glo "_law_begun", .glo "_law_mixed", .glo "_law_take", .glo "_law_pick", .glo "_law_caught", .glo "_law_order", .glo "_law_leads", .glo "_law_four", .glo "_law_curves", .glo "_law_alike", .glo "_law_left", .glo "_law_moved_up", .glo "_law_act", .glo "_law_do", .glo "_law_call", .glo "_law_deed", .glo "_law_line", .glo "_law_stands", .glo "_law_told_right", .glo "law", .glo "MaypoleError", .glo "BadMany", .glo "BadDance", .glo "BadNumber"]
def fa3 : List Fa := [.glo "BadDancers", .glo "BadStep", .glo "BadName", .glo "NotNow", .glo "TooMany", .glo "NothingDone", .glo "BadJournal", .glo "BadText", .glo "Stand", .glo "Floor", .glo "Signs", .glo "Desk", .int "LEAST" 2, .int "MOST_dances" 5, .str "LETTERS" "abcdefghijklmnopqrstuvwxyz", .str "SMALL" "abcd", .str "GREAT" "ABCD", .str "FIGURES" "0123456789", .str "COUNTS" "2345", .str "NONE" "-", .int "MOST_STEPS" 4000, .int "MOST_POWER" 99, .int "DEEPEST" 4, .str "WHAT" "what", .str "NAMES" "abcdefghijklmnopqrstuvwxyz"]
def fa4 : List Fa := [.int "MOST_desk" 5, .glo "SIDES", .glo "PLACES", .glo "PARTS", .free "len", .free "abs", .free "min", .free "max", .free "isinstance", .free "range", .free "list", .free "tuple", .free "sorted", .free "set", .free "str", .free "int", .free "bool", .free "all", .free "enumerate", .free "ValueError", .free "super", .cls "Stand", .mkr "Stand", .noat "Stand" "own_names", .noat "Stand" "own_dance"]
def fa5 : List Fa := [.noat "Stand" "own_ever", .noat "Stand" "own_deeds", .noat "Stand" "own_before", .cls "Floor", .mkr "Floor", .noat "Floor" "own_first", .noat "Floor" "own_stand", .noat "Floor" "own_block", .meth "Floor" "__len__", .meth "Floor" "__eq__", .meth "Floor" "become", .meth "Floor" "place_of", .meth "Floor" "step", .meth "Floor" "leave", .meth "Floor" "join", .meth "Floor" "undo", .meth "Floor" "lead", .meth "Floor" "is_straight", .cls "Signs", .mkr "Signs", .noat "Signs" "own_text", .noat "Signs" "own_at", .meth "Signs" "next_sign", .meth "Signs" "take", .meth "Signs" "take_one_of"]
def fa6 : List Fa := [.meth "Signs" "begin", .meth "Signs" "end", .cls "Desk", .mkr "Desk", .noat "Desk" "desk_floor", .meth "Desk" "say", .meth "Desk" "now", .meth "Desk" "answer_to", .meth "Desk" "answer_alone", .meth "Desk" "answer_to_one", .exc "BadStep", .exc "BadName", .exc "NothingDone", .exm "BadStep" "MaypoleError" true, .exm "BadStep" "BadDance" false, .exm "BadStep" "BadName" false, .exm "BadStep" "BadStep" true, .exm "BadStep" "NothingDone" false, .exm "BadStep" "NotNow" false, .exm "BadName" "MaypoleError" true, .exm "BadName" "BadDance" false, .exm "BadName" "BadName" true, .exm "BadName" "BadStep" false, .exm "BadName" "NothingDone" false, .exm "BadName" "NotNow" false]
def fa7 : List Fa := [.exm "NothingDone" "MaypoleError" true, .exm "NothingDone" "BadDance" false, .exm "NothingDone" "BadName" false, .exm "NothingDone" "BadStep" false, .exm "NothingDone" "NothingDone" true, .exm "NothingDone" "NotNow" false, .exm "BadNumber" "MaypoleError" true, .exm "BadNumber" "BadDance" false, .exm "BadNumber" "BadName" false, .exm "BadNumber" "BadStep" false, .exm "BadNumber" "NothingDone" false, .exm "BadNumber" "NotNow" false, .exm "NotNow" "MaypoleError" true, .exm "NotNow" "BadDance" false, .exm "NotNow" "BadName" false, .exm "NotNow" "BadStep" false, .exm "NotNow" "NothingDone" false, .exm "NotNow" "NotNow" true]
def faL : List Fa := fa0 ++ fa1 ++ fa2 ++ fa3 ++ fa4 ++ fa5 ++ fa6 ++ fa7
def dd_is_number : He5.DefA := ⟨(fun K => ga K "is_number"), "is_number", "is_number", defArgs s_is_number, defBody s_is_number, defScope s_is_number, [], []⟩
def dd_is_between : He5.DefA := ⟨(fun K => ga K "is_between"), "is_between", "is_between", defArgs s_is_between, defBody s_is_between, defScope s_is_between, [], []⟩
def dd_is_list : He5.DefA := ⟨(fun K => ga K "is_list"), "is_list", "is_list", defArgs s_is_list, defBody s_is_list, defScope s_is_list, [], []⟩
def dd_is_pair : He5.DefA := ⟨(fun K => ga K "is_pair"), "is_pair", "is_pair", defArgs s_is_pair, defBody s_is_pair, defScope s_is_pair, [], []⟩
def dd_is_step : He5.DefA := ⟨(fun K => ga K "is_step"), "is_step", "is_step", defArgs s_is_step, defBody s_is_step, defScope s_is_step, [], []⟩
def dd_is_dance : He5.DefA := ⟨(fun K => ga K "is_dance"), "is_dance", "is_dance", defArgs s_is_dance, defBody s_is_dance, defScope s_is_dance, [], []⟩
def dd_need_many : He5.DefA := ⟨(fun K => ga K "need_many"), "need_many", "need_many", defArgs s_need_many, defBody s_need_many, defScope s_need_many, [], []⟩
def dd_need_dance : He5.DefA := ⟨(fun K => ga K "need_dance"), "need_dance", "need_dance", defArgs s_need_dance, defBody s_need_dance, defScope s_need_dance, [], []⟩
def dd_need_one : He5.DefA := ⟨(fun K => ga K "need_one"), "need_one", "need_one", defArgs s_need_one, defBody s_need_one, defScope s_need_one, [], []⟩
def dd_need_two : He5.DefA := ⟨(fun K => ga K "need_two"), "need_two", "need_two", defArgs s_need_two, defBody s_need_two, defScope s_need_two, [], []⟩
def dd_order_of : He5.DefA := ⟨(fun K => ga K "order_of"), "order_of", "order_of", defArgs s_order_of, defBody s_order_of, defScope s_order_of, [], []⟩
def dd_undone_of : He5.DefA := ⟨(fun K => ga K "undone_of"), "undone_of", "undone_of", defArgs s_undone_of, defBody s_undone_of, defScope s_undone_of, [], []⟩
def dd_leads_of : He5.DefA := ⟨(fun K => ga K "leads_of"), "leads_of", "leads_of", defArgs s_leads_of, defBody s_leads_of, defScope s_leads_of, [], []⟩
def dd_most_nought : He5.DefA := ⟨(fun K => ga K "most_nought"), "most_nought", "most_nought", defArgs s_most_nought, defBody s_most_nought, defScope s_most_nought, [], []⟩
def dd_least_nought : He5.DefA := ⟨(fun K => ga K "least_nought"), "least_nought", "least_nought", defArgs s_least_nought, defBody s_least_nought, defScope s_least_nought, [], []⟩
def dd_forward_four : He5.DefA := ⟨(fun K => ga K "forward_four"), "forward_four", "forward_four", defArgs s_forward_four, defBody s_forward_four, defScope s_forward_four, [], []⟩
def dd_backward_four : He5.DefA := ⟨(fun K => ga K "backward_four"), "backward_four", "backward_four", defArgs s_backward_four, defBody s_backward_four, defScope s_backward_four, [], []⟩
def dd_step_numbers : He5.DefA := ⟨(fun K => ga K "step_numbers"), "step_numbers", "step_numbers", defArgs s_step_numbers, defBody s_step_numbers, defScope s_step_numbers, [], []⟩
def dd_all_led : He5.DefA := ⟨(fun K => ga K "all_led"), "all_led", "all_led", defArgs s_all_led, defBody s_all_led, defScope s_all_led, [], []⟩
def dd_numbers_in : He5.DefA := ⟨(fun K => ga K "numbers_in"), "numbers_in", "numbers_in", defArgs s_numbers_in, defBody s_numbers_in, defScope s_numbers_in, [], []⟩
def dd_is_alike : He5.DefA := ⟨(fun K => ga K "is_alike"), "is_alike", "is_alike", defArgs s_is_alike, defBody s_is_alike, defScope s_is_alike, [], []⟩
def dd_numbers_of : He5.DefA := ⟨(fun K => ga K "numbers_of"), "numbers_of", "numbers_of", defArgs s_numbers_of, defBody s_numbers_of, defScope s_numbers_of, [], []⟩
def dd_left_of : He5.DefA := ⟨(fun K => ga K "left_of"), "left_of", "left_of", defArgs s_left_of, defBody s_left_of, defScope s_left_of, [], []⟩
def dd_is_lot : He5.DefA := ⟨(fun K => ga K "is_lot"), "is_lot", "is_lot", defArgs s_is_lot, defBody s_is_lot, defScope s_is_lot, [], []⟩
def dd_left_by : He5.DefA := ⟨(fun K => ga K "left_by"), "left_by", "left_by", defArgs s_left_by, defBody s_left_by, defScope s_left_by, [], []⟩
def dd_is_letter : He5.DefA := ⟨(fun K => ga K "is_letter"), "is_letter", "is_letter", defArgs s_is_letter, defBody s_is_letter, defScope s_is_letter, [], []⟩
def dd_side_of : He5.DefA := ⟨(fun K => ga K "side_of"), "side_of", "side_of", defArgs s_side_of, defBody s_side_of, defScope s_side_of, [], []⟩
def dd_side : He5.DefA := ⟨(fun K => ga K "side"), "side", "side", defArgs s_side, defBody s_side, defScope s_side, [], []⟩
def dd_compared : He5.DefA := ⟨(fun K => ga K "compared"), "compared", "compared", defArgs s_compared, defBody s_compared, defScope s_compared, [], []⟩
def dd_compare : He5.DefA := ⟨(fun K => ga K "compare"), "compare", "compare", defArgs s_compare, defBody s_compare, defScope s_compare, [], []⟩
def dd_letter_of : He5.DefA := ⟨(fun K => ga K "letter_of"), "letter_of", "letter_of", defArgs s_letter_of, defBody s_letter_of, defScope s_letter_of, [], []⟩
def dd_step_of : He5.DefA := ⟨(fun K => ga K "step_of"), "step_of", "step_of", defArgs s_step_of, defBody s_step_of, defScope s_step_of, [], []⟩
def dd_letters_of : He5.DefA := ⟨(fun K => ga K "letters_of"), "letters_of", "letters_of", defArgs s_letters_of, defBody s_letters_of, defScope s_letters_of, [], []⟩
def dd_dance_text : He5.DefA := ⟨(fun K => ga K "dance_text"), "dance_text", "dance_text", defArgs s_dance_text, defBody s_dance_text, defScope s_dance_text, [], []⟩
def dd_powered : He5.DefA := ⟨(fun K => ga K "powered"), "powered", "powered", defArgs s_powered, defBody s_powered, defScope s_powered, [], []⟩
def dd_phrase_text : He5.DefA := ⟨(fun K => ga K "phrase_text"), "phrase_text", "phrase_text", defArgs s_phrase_text, defBody s_phrase_text, defScope s_phrase_text, [], []⟩
def dd_read_dance : He5.DefA := ⟨(fun K => ga K "read_dance"), "read_dance", "read_dance", defArgs s_read_dance, defBody s_read_dance, defScope s_read_dance, [], []⟩
def dd_power_read : He5.DefA := ⟨(fun K => ga K "power_read"), "power_read", "power_read", defArgs s_power_read, defBody s_power_read, defScope s_power_read, [], []⟩
def dd_done_times : He5.DefA := ⟨(fun K => ga K "done_times"), "done_times", "done_times", defArgs s_done_times, defBody s_done_times, defScope s_done_times, [], []⟩
def dd_put_behind : He5.DefA := ⟨(fun K => ga K "put_behind"), "put_behind", "put_behind", defArgs s_put_behind, defBody s_put_behind, defScope s_put_behind, [], []⟩
def dd_item_read : He5.DefA := ⟨(fun K => ga K "item_read"), "item_read", "item_read", defArgs s_item_read, defBody s_item_read, defScope s_item_read, [], []⟩
def dd_items_read : He5.DefA := ⟨(fun K => ga K "items_read"), "items_read", "items_read", defArgs s_items_read, defBody s_items_read, defScope s_items_read, [], []⟩
def dd_read_phrase : He5.DefA := ⟨(fun K => ga K "read_phrase"), "read_phrase", "read_phrase", defArgs s_read_phrase, defBody s_read_phrase, defScope s_read_phrase, [], []⟩
def dd_is_name : He5.DefA := ⟨(fun K => ga K "is_name"), "is_name", "is_name", defArgs s_is_name, defBody s_is_name, defScope s_is_name, [], []⟩
def dd_steps_in : He5.DefA := ⟨(fun K => ga K "steps_in"), "steps_in", "steps_in", defArgs s_steps_in, defBody s_steps_in, defScope s_steps_in, [], []⟩
def dd_is_deed : He5.DefA := ⟨(fun K => ga K "is_deed"), "is_deed", "is_deed", defArgs s_is_deed, defBody s_is_deed, defScope s_is_deed, [], []⟩
def dd_do : He5.DefA := ⟨(fun K => ga K "do"), "do", "do", defArgs s_do, defBody s_do, defScope s_do, [], []⟩
def dd_journal_of : He5.DefA := ⟨(fun K => ga K "journal_of"), "journal_of", "journal_of", defArgs s_journal_of, defBody s_journal_of, defScope s_journal_of, [], []⟩
def dd_is_done : He5.DefA := ⟨(fun K => ga K "is_done"), "is_done", "is_done", defArgs s_is_done, defBody s_is_done, defScope s_is_done, [], []⟩
def dd_first_wrong : He5.DefA := ⟨(fun K => ga K "first_wrong"), "first_wrong", "first_wrong", defArgs s_first_wrong, defBody s_first_wrong, defScope s_first_wrong, [], []⟩
def dd_replayed : He5.DefA := ⟨(fun K => ga K "replayed"), "replayed", "replayed", defArgs s_replayed, defBody s_replayed, defScope s_replayed, [], []⟩
def dd_L_begun : He5.DefA := ⟨(fun K => ga K "_law_begun"), "_law_begun", "_law_begun", defArgs s_L_begun, defBody s_L_begun, defScope s_L_begun, [], []⟩
def dd_L_mixed : He5.DefA := ⟨(fun K => ga K "_law_mixed"), "_law_mixed", "_law_mixed", defArgs s_L_mixed, defBody s_L_mixed, defScope s_L_mixed, [], []⟩
def dd_L_take : He5.DefA := ⟨(fun K => ga K "_law_take"), "_law_take", "_law_take", defArgs s_L_take, defBody s_L_take, defScope s_L_take, [], []⟩
def dd_L_pick : He5.DefA := ⟨(fun K => ga K "_law_pick"), "_law_pick", "_law_pick", defArgs s_L_pick, defBody s_L_pick, defScope s_L_pick, [], []⟩
def dd_L_caught : He5.DefA := ⟨(fun K => ga K "_law_caught"), "_law_caught", "_law_caught", defArgs s_L_caught, defBody s_L_caught, defScope s_L_caught, [], []⟩
def dd_L_order : He5.DefA := ⟨(fun K => ga K "_law_order"), "_law_order", "_law_order", defArgs s_L_order, defBody s_L_order, defScope s_L_order, [], []⟩
def dd_L_leads : He5.DefA := ⟨(fun K => ga K "_law_leads"), "_law_leads", "_law_leads", defArgs s_L_leads, defBody s_L_leads, defScope s_L_leads, [], []⟩
def dd_L_four : He5.DefA := ⟨(fun K => ga K "_law_four"), "_law_four", "_law_four", defArgs s_L_four, defBody s_L_four, defScope s_L_four, [], []⟩
def dd_L_curves : He5.DefA := ⟨(fun K => ga K "_law_curves"), "_law_curves", "_law_curves", defArgs s_L_curves, defBody s_L_curves, defScope s_L_curves, [], []⟩
def dd_L_alike : He5.DefA := ⟨(fun K => ga K "_law_alike"), "_law_alike", "_law_alike", defArgs s_L_alike, defBody s_L_alike, defScope s_L_alike, [], []⟩
def dd_L_left : He5.DefA := ⟨(fun K => ga K "_law_left"), "_law_left", "_law_left", defArgs s_L_left, defBody s_L_left, defScope s_L_left, [], []⟩
def dd_L_moved_up : He5.DefA := ⟨(fun K => ga K "_law_moved_up"), "_law_moved_up", "_law_moved_up", defArgs s_L_moved_up, defBody s_L_moved_up, defScope s_L_moved_up, [], []⟩
def dd_L_act : He5.DefA := ⟨(fun K => ga K "_law_act"), "_law_act", "_law_act", defArgs s_L_act, defBody s_L_act, defScope s_L_act, [], []⟩
def dd_L_do : He5.DefA := ⟨(fun K => ga K "_law_do"), "_law_do", "_law_do", defArgs s_L_do, defBody s_L_do, defScope s_L_do, [], []⟩
def dd_L_call : He5.DefA := ⟨(fun K => ga K "_law_call"), "_law_call", "_law_call", defArgs s_L_call, defBody s_L_call, defScope s_L_call, [], []⟩
def dd_L_deed : He5.DefA := ⟨(fun K => ga K "_law_deed"), "_law_deed", "_law_deed", defArgs s_L_deed, defBody s_L_deed, defScope s_L_deed, [], []⟩
def dd_L_line : He5.DefA := ⟨(fun K => ga K "_law_line"), "_law_line", "_law_line", defArgs s_L_line, defBody s_L_line, defScope s_L_line, [], []⟩
def dd_L_stands : He5.DefA := ⟨(fun K => ga K "_law_stands"), "_law_stands", "_law_stands", defArgs s_L_stands, defBody s_L_stands, defScope s_L_stands, [], []⟩
def dd_L_told_right : He5.DefA := ⟨(fun K => ga K "_law_told_right"), "_law_told_right", "_law_told_right", defArgs s_L_told_right, defBody s_L_told_right, defScope s_L_told_right, [], []⟩
def dd_law : He5.DefA := ⟨(fun K => ga K "law"), "law", "law", defArgs s_law, defBody s_law, defScope s_law, [], []⟩
def dd_Stand_init : He5.DefA := ⟨(fun K => ma K (ga K "Stand") "__init__"), "__init__", "Stand.__init__", defArgs s_Stand_init, defBody s_Stand_init, defScope s_Stand_init, [], []⟩
def dd_Floor_init : He5.DefA := ⟨(fun K => ma K (ga K "Floor") "__init__"), "__init__", "Floor.__init__", defArgs s_Floor_init, defBody s_Floor_init, defScope s_Floor_init, [], []⟩
def dd_Floor_many : He5.DefA := ⟨(fun K => gt K (ga K "Floor") "many"), "many", "Floor.many", defArgs s_Floor_many, defBody s_Floor_many, defScope s_Floor_many, [], []⟩
def dd_Floor_names : He5.DefA := ⟨(fun K => gt K (ga K "Floor") "names"), "names", "Floor.names", defArgs s_Floor_names, defBody s_Floor_names, defScope s_Floor_names, [], []⟩
def dd_Floor_standing : He5.DefA := ⟨(fun K => gt K (ga K "Floor") "standing"), "standing", "Floor.standing", defArgs s_Floor_standing, defBody s_Floor_standing, defScope s_Floor_standing, [], []⟩
def dd_Floor_dance : He5.DefA := ⟨(fun K => gt K (ga K "Floor") "dance"), "dance", "Floor.dance", defArgs s_Floor_dance, defBody s_Floor_dance, defScope s_Floor_dance, [], []⟩
def dd_Floor_log : He5.DefA := ⟨(fun K => gt K (ga K "Floor") "log"), "log", "Floor.log", defArgs s_Floor_log, defBody s_Floor_log, defScope s_Floor_log, [], []⟩
def dd_Floor_len : He5.DefA := ⟨(fun K => ma K (ga K "Floor") "__len__"), "__len__", "Floor.__len__", defArgs s_Floor_len, defBody s_Floor_len, defScope s_Floor_len, [], []⟩
def dd_Floor_eq : He5.DefA := ⟨(fun K => ma K (ga K "Floor") "__eq__"), "__eq__", "Floor.__eq__", defArgs s_Floor_eq, defBody s_Floor_eq, defScope s_Floor_eq, [], []⟩
def dd_Floor_become : He5.DefA := ⟨(fun K => ma K (ga K "Floor") "become"), "become", "Floor.become", defArgs s_Floor_become, defBody s_Floor_become, defScope s_Floor_become, [], []⟩
def dd_Floor_place_of : He5.DefA := ⟨(fun K => ma K (ga K "Floor") "place_of"), "place_of", "Floor.place_of", defArgs s_Floor_place_of, defBody s_Floor_place_of, defScope s_Floor_place_of, [], []⟩
def dd_Floor_step : He5.DefA := ⟨(fun K => ma K (ga K "Floor") "step"), "step", "Floor.step", defArgs s_Floor_step, defBody s_Floor_step, defScope s_Floor_step, [], []⟩
def dd_Floor_leave : He5.DefA := ⟨(fun K => ma K (ga K "Floor") "leave"), "leave", "Floor.leave", defArgs s_Floor_leave, defBody s_Floor_leave, defScope s_Floor_leave, [], []⟩
def dd_Floor_join : He5.DefA := ⟨(fun K => ma K (ga K "Floor") "join"), "join", "Floor.join", defArgs s_Floor_join, defBody s_Floor_join, defScope s_Floor_join, [], []⟩
def dd_Floor_undo : He5.DefA := ⟨(fun K => ma K (ga K "Floor") "undo"), "undo", "Floor.undo", defArgs s_Floor_undo, defBody s_Floor_undo, defScope s_Floor_undo, [], []⟩
def dd_Floor_lead : He5.DefA := ⟨(fun K => ma K (ga K "Floor") "lead"), "lead", "Floor.lead", defArgs s_Floor_lead, defBody s_Floor_lead, defScope s_Floor_lead, [], []⟩
def dd_Floor_is_straight : He5.DefA := ⟨(fun K => ma K (ga K "Floor") "is_straight"), "is_straight", "Floor.is_straight", defArgs s_Floor_is_straight, defBody s_Floor_is_straight, defScope s_Floor_is_straight, [], []⟩
def dd_Signs_init : He5.DefA := ⟨(fun K => ma K (ga K "Signs") "__init__"), "__init__", "Signs.__init__", defArgs s_Signs_init, defBody s_Signs_init, defScope s_Signs_init, [], []⟩
def dd_Signs_next_sign : He5.DefA := ⟨(fun K => ma K (ga K "Signs") "next_sign"), "next_sign", "Signs.next_sign", defArgs s_Signs_next_sign, defBody s_Signs_next_sign, defScope s_Signs_next_sign, [], []⟩
def dd_Signs_take : He5.DefA := ⟨(fun K => ma K (ga K "Signs") "take"), "take", "Signs.take", defArgs s_Signs_take, defBody s_Signs_take, defScope s_Signs_take, [], []⟩
def dd_Signs_take_one_of : He5.DefA := ⟨(fun K => ma K (ga K "Signs") "take_one_of"), "take_one_of", "Signs.take_one_of", defArgs s_Signs_take_one_of, defBody s_Signs_take_one_of, defScope s_Signs_take_one_of, [], []⟩
def dd_Signs_begin : He5.DefA := ⟨(fun K => ma K (ga K "Signs") "begin"), "begin", "Signs.begin", defArgs s_Signs_begin, defBody s_Signs_begin, defScope s_Signs_begin, [], []⟩
def dd_Signs_end : He5.DefA := ⟨(fun K => ma K (ga K "Signs") "end"), "end", "Signs.end", defArgs s_Signs_end, defBody s_Signs_end, defScope s_Signs_end, [], []⟩
def dd_Desk_init : He5.DefA := ⟨(fun K => ma K (ga K "Desk") "__init__"), "__init__", "Desk.__init__", defArgs s_Desk_init, defBody s_Desk_init, defScope s_Desk_init, [], []⟩
def dd_Desk_say : He5.DefA := ⟨(fun K => ma K (ga K "Desk") "say"), "say", "Desk.say", defArgs s_Desk_say, defBody s_Desk_say, defScope s_Desk_say, [], []⟩
def dd_Desk_now : He5.DefA := ⟨(fun K => ma K (ga K "Desk") "now"), "now", "Desk.now", defArgs s_Desk_now, defBody s_Desk_now, defScope s_Desk_now, [], []⟩
def dd_Desk_answer_to : He5.DefA := ⟨(fun K => ma K (ga K "Desk") "answer_to"), "answer_to", "Desk.answer_to", defArgs s_Desk_answer_to, defBody s_Desk_answer_to, defScope s_Desk_answer_to, [], []⟩
def dd_Desk_answer_alone : He5.DefA := ⟨(fun K => ma K (ga K "Desk") "answer_alone"), "answer_alone", "Desk.answer_alone", defArgs s_Desk_answer_alone, defBody s_Desk_answer_alone, defScope s_Desk_answer_alone, [], []⟩
def dd_Desk_answer_to_one : He5.DefA := ⟨(fun K => ma K (ga K "Desk") "answer_to_one"), "answer_to_one", "Desk.answer_to_one", defArgs s_Desk_answer_to_one, defBody s_Desk_answer_to_one, defScope s_Desk_answer_to_one, [], []⟩
def fn0 : List He5.DefA := [dd_is_number, dd_is_between, dd_is_list, dd_is_pair, dd_is_step, dd_is_dance, dd_need_many, dd_need_dance, dd_need_one, dd_need_two, dd_order_of, dd_undone_of, dd_leads_of, dd_most_nought, dd_least_nought, dd_forward_four, dd_backward_four, dd_step_numbers, dd_all_led, dd_numbers_in, dd_is_alike, dd_numbers_of, dd_left_of, dd_is_lot, dd_left_by]
def fn1 : List He5.DefA := [dd_is_letter, dd_side_of, dd_side, dd_compared, dd_compare, dd_letter_of, dd_step_of, dd_letters_of, dd_dance_text, dd_powered, dd_phrase_text, dd_read_dance, dd_power_read, dd_done_times, dd_put_behind, dd_item_read, dd_items_read, dd_read_phrase, dd_is_name, dd_steps_in, dd_is_deed, dd_do, dd_journal_of, dd_is_done, dd_first_wrong]
def fn2 : List He5.DefA := [dd_replayed, dd_L_begun, dd_L_mixed, dd_L_take, dd_L_pick, dd_L_caught, dd_L_order, dd_L_leads, dd_L_four, dd_L_curves, dd_L_alike, dd_L_left, dd_L_moved_up, dd_L_act, dd_L_do, dd_L_call, dd_L_deed, dd_L_line, dd_L_stands, dd_L_told_right, dd_law, dd_Stand_init, dd_Floor_init, dd_Floor_many, dd_Floor_names]
def fn3 : List He5.DefA := [dd_Floor_standing, dd_Floor_dance, dd_Floor_log, dd_Floor_len, dd_Floor_eq, dd_Floor_become, dd_Floor_place_of, dd_Floor_step, dd_Floor_leave, dd_Floor_join, dd_Floor_undo, dd_Floor_lead, dd_Floor_is_straight, dd_Signs_init, dd_Signs_next_sign, dd_Signs_take, dd_Signs_take_one_of, dd_Signs_begin, dd_Signs_end, dd_Desk_init, dd_Desk_say, dd_Desk_now, dd_Desk_answer_to, dd_Desk_answer_alone, dd_Desk_answer_to_one]
def fnL : List He5.DefA := fn0 ++ fn1 ++ fn2 ++ fn3
/-- the getter of a property -/
def prB (K : PySem.W.Frag) (p : Addr) : Option (List Value) := PySem.W.recIn K p "property"
def propB (c m : Str) (K : PySem.W.Frag) : Bool :=
  eqO (PySem.W.findIn K (.ref (ga K c)) m) (some (some (.ref (ma K (ga K c) m)))) && (eqO (PySem.W.specialIn K (.ref (ma K (ga K c) m)) "__get__") (some (some (.builtin "property.__get__"))) && (decide (PySem.W.takesIn K (.ref (ma K (ga K c) m)) = some true) &&
    (match PySem.W.recIn K (ma K (ga K c) m) "property" with
    | some (.ref g :: _) => decide (g = gt K (ga K c) m)
    | _ => false)))
theorem prop_ok {K : PySem.W.Frag} {c m : Str} (h : propB c m K = true) : PropOf K (ga K c) m (ma K (ga K c) m) (gt K (ga K c) m) := by
  obtain ⟨h1, h2⟩ := ba h
  obtain ⟨h2, h3⟩ := ba h2
  obtain ⟨h3, h4⟩ := ba h3
  refine ⟨eqO_ok h1, eqO_ok h2, of_decide_eq_true h3, ?_⟩
  cases e : PySem.W.recIn K (ma K (ga K c) m) "property" with
  | none => rw [e] at h4; cases h4
  | some l =>
    rw [e] at h4
    cases l with
    | nil => cases h4
    | cons v r =>
      cases v with
      | ref g => exact ⟨r, by rw [show g = gt K (ga K c) m from of_decide_eq_true h4]⟩
      | _ => cases h4
/-- an own class that isinstance is asked of -/
def insB (c : Str) (K : PySem.W.Frag) : Bool :=
  eqO (PySem.W.findIn K (.ref (ga K c)) "__class__") (some (some (.builtin "object.__class__"))) && (eqO (PySem.W.specialIn K (.builtin "object.__class__") "__get__") (some (some (.builtin "getset_descriptor.__get__"))) && (decide (PySem.W.takesIn K (.builtin "object.__class__") = some true) &&
    (decide (PySem.W.mroIn K (ga K c) (.type "object") = some true) && decide (PySem.W.kitOne K (.ref (ga K c)) (.ref (ga K c)) = some true))))
theorem ins_ok {K : PySem.W.Frag} {c : Str} (hc : Cls K (ga K c)) (h : insB c K = true) : C8.InsC K (ga K c) := by
  obtain ⟨h1, h2⟩ := ba h
  obtain ⟨h2, h3⟩ := ba h2
  obtain ⟨h3, h4⟩ := ba h3
  obtain ⟨h4, h5⟩ := ba h4
  exact ⟨hc, eqO_ok h1, eqO_ok h2, of_decide_eq_true h3, of_decide_eq_true h4, of_decide_eq_true h5⟩
/-- != by object.__ne__ -/
def neB (c : Str) (K : PySem.W.Frag) : Bool := eqO (PySem.W.findIn K (.ref (ga K c)) "__ne__") (some (some (.builtin "object.__ne__")))
/-- an own exception that isinstance is asked of -/
def isxB (c : Str) (K : PySem.W.Frag) : Bool :=
  eqO (PySem.W.findIn K (.ref (ga K c)) "__getattribute__") (some (some (.builtin "BaseException.__getattribute__"))) && (eqO (PySem.W.findIn K (.ref (ga K c)) "__getattr__") (some none) && (decide (PySem.W.subIn K (.ref (ga K c)) (.type "BaseException") = some true) && (PySem.W.hasDictIn K (ga K c) &&
    (eqO (PySem.W.findIn K (.ref (ga K c)) "__class__") (some (some (.builtin "object.__class__"))) && (eqO (PySem.W.specialIn K (.builtin "object.__class__") "__get__") (some (some (.builtin "getset_descriptor.__get__"))) && (decide (PySem.W.takesIn K (.builtin "object.__class__") = some true) &&
    decide (PySem.W.mroIn K (ga K c) (.type "object") = some true)))))))
def ktB (c d : Str) (b : Bool) (K : PySem.W.Frag) : Bool := decide (PySem.W.kitOne K (.ref (ga K c)) (.ref (ga K d)) = some b)
/-- the written dict with int keys -/
def intE (e : DictEntry) : Bool := match e.key with
  | .int i _ => decide (e.hash = hashInt i)
  | _ => false
def sidO (K : PySem.W.Frag) (n : Str) (i : Int) (z : Str) : Bool := match K.lookup (ga K n) with
  | some ⟨.type c, none, .dict es _, sl⟩ => decide (c = "dict") && (sl.isEmpty && (es.toList.all intE && (match findBy Value.isInt es i with
    | some (.str y _) => decide (y = z)
    | _ => false)))
  | _ => false
def sidB (n : Str) (i : Int) (z : Str) (K : PySem.W.Frag) : Bool := sidO K n i z
theorem sid_ok {K : PySem.W.Frag} {n : Str} {i : Int} {z : Str} (h : sidB n i z K = true) : ∃ es k t, K.lookup (ga K n) = some ⟨.type "dict", none, .dict es k, #[]⟩ ∧ (∀ e ∈ es, ∃ j u, e.key = .int j u ∧ e.hash = hashInt j) ∧ findBy Value.isInt es i = some (.str z t) := by
  have h' : sidO K n i z = true := h
  unfold sidO at h'
  split at h'
  · rename_i c es k sl ho
    obtain ⟨g1, g2⟩ := ba h'
    obtain ⟨g3, g4⟩ := ba g2
    obtain ⟨g5, g6⟩ := ba (a := es.toList.all intE) g4
    have e1 : c = "dict" := of_decide_eq_true g1
    have e2 : sl = #[] := Array.isEmpty_iff.mp g3
    subst e1 e2
    clear g1 g2 g3 g4 h'
    split at g6
    · rename_i y t hf
      have e3 : y = z := of_decide_eq_true g6
      subst e3
      refine ⟨es, k, t, ho, fun e he => ?_, hf⟩
      have h5 := List.all_eq_true.mp g5 e (Array.mem_toList_iff.mpr he)
      unfold intE at h5
      split at h5
      · rename_i j u hk
        exact ⟨j, u, hk, of_decide_eq_true h5⟩
      · cases h5
    · cases g6
  · cases h'
/-- a text-keyed table's int values -/
def prtB (n k : Str) (i : Int) (K : PySem.W.Frag) : Bool := match PySem.W.nsIn K (ga K n) k with
  | some (some (.int j _)) => decide (j = i)
  | _ => false
theorem prt_ok {K : PySem.W.Frag} {n k : Str} {i : Int} (h : prtB n k i K = true) : ∃ t, PySem.W.nsIn K (ga K n) k = some (some (.int i t)) := by
  unfold prtB at h
  split at h
  · rename_i j t e
    have : j = i := of_decide_eq_true h
    subst this
    exact ⟨t, e⟩
  · cases h
def exL : List (PySem.W.Frag → Bool) := [propB "Floor" "many", propB "Floor" "names", propB "Floor" "standing", propB "Floor" "dance", propB "Floor" "log", insB "Floor", neB "Floor", isxB "BadStep", isxB "BadName", isxB "NothingDone", isxB "BadNumber", isxB "NotNow", ktB "BadStep" "BadStep" true, ktB "BadStep" "BadName" false, ktB "BadStep" "NothingDone" false, ktB "BadStep" "BadNumber" false, ktB "BadStep" "NotNow" false, ktB "BadName" "BadStep" false, ktB "BadName" "BadName" true, ktB "BadName" "NothingDone" false, ktB "BadName" "BadNumber" false, ktB "BadName" "NotNow" false, ktB "NothingDone" "BadStep" false, ktB "NothingDone" "BadName" false, ktB "NothingDone" "NothingDone" true, ktB "NothingDone" "BadNumber" false, ktB "NothingDone" "NotNow" false, ktB "BadNumber" "BadStep" false, ktB "BadNumber" "BadName" false, ktB "BadNumber" "NothingDone" false, ktB "BadNumber" "BadNumber" true, ktB "BadNumber" "NotNow" false, ktB "NotNow" "BadStep" false, ktB "NotNow" "BadName" false, ktB "NotNow" "NothingDone" false, ktB "NotNow" "BadNumber" false, ktB "NotNow" "NotNow" true, sidB "SIDES" (1) "right", sidB "SIDES" (0) "none", sidB "SIDES" (-1) "left", prtB "PARTS" "step" 2, prtB "PARTS" "leave" 2, prtB "PARTS" "join" 3, prtB "PARTS" "undo" 1]
abbrev P0 : Program := PySem.Challenge.pw_maypole_k98_whole_floors_where_dancers_c
section
open PySem.W PySem.HandSPX
structure SupTxt (K : Frag) (C fI : Addr) (qual a : PySem.Str) (st : Stmt) : Prop where
  cls : ∃ nm q N bs bm sn sub ab col dd k0 k1 k2 k3 k5, K.lookup C = some (excClassObj nm q C N bs bm true sn sub ab col dd k0 k1 k2 k3 k5 "ValueError.__new__") ∧ refsVE bm = true
  sa : findIn K (.ref C) "__setattr__" = some (some (.builtin "object.__setattr__"))
  noN : findIn K (.ref C) a = some none
  iC : findIn K (.ref C) "__init__" = some (some (.ref fI))
  tI : typeIn K (.ref fI) = some (.type "function")
  kC : keepIn K (.ref C) = true
  exC : subIn K (.ref C) (.type "BaseException") = some true
  tyC : typeIn K (.ref C) = some (.type "type")
  vE : subIn K (.ref C) (.type "ValueError") = some true
  sup : ks_superIn K C C "__init__" = some (some (.builtin "ValueError.__init__"))
  sta : nsIn K cStatics "thirdparty.any" = some none
  mr : mroIn K C (.ref C) = some true
  fn : ∃ (oc : Value) (od : Option Addr) (kV doc pm : Value) (an : Option Addr) (cda : Addr) (ct : Value) (osl : Array (Option Value)) (cc : Addr) (ccl : Value) (cdd : Option Addr) (vs : Array Value) (ccs : Array (Option Value)) (tf : Tok) (cl : Value) (cld : Option Addr) (csl : Array (Option Value)),
    K.lookup fI = some ⟨oc, od, .func (ksFn "__init__" qual (L2.defArgs st) (L2.defBody st) (L2.defScope st) .none kV doc pm an (.ref cda) ct cc), osl⟩ ∧ codeIn K (.ref cda) qual = true ∧
    K.lookup cda = some ⟨ccl, cdd, .fields vs, ccs⟩ ∧ vs[2]? = some (.str P0.main.file tf) ∧ K.lookup cc = some ⟨cl, cld, .cell (some (.ref C)), csl⟩
end
/-- what the head tells of the top -/
structure Tx (w : World) (K : PySem.W.Frag) (mg : Str → Option Value) (base : Heap) : Prop where
  kin : K.In base
  ns : base.Ns mainGlobals mg
  fal : ∀ f ∈ faL, f.ok K = true
  fnl : ∀ (i : Nat) (d : He5.DefA), fnL[i]? = some d → ∃ fd, FunD K d.name d.qual d.params d.body d.scope (d.dvs K) (d.kws K) (d.at_ K) fd
  exl : ∀ f ∈ exL, f K = true
  bn : SupTxt K (ga K "BadNumber") (ma K (ga K "BadNumber") "__init__") "BadNumber.__init__" "part" s_BadNumber_init
  nn : SupTxt K (ga K "NotNow") (ma K (ga K "NotNow") "__init__") "NotNow.__init__" "word" s_NotNow_init
  prt : ∃ es n, KDict K w (ga K "PARTS") es n
  tab : TabB base mg (cT K ("_law_call", none)).1 (cT K ("_law_call", none)).2
section
variable {w : World} {K : PySem.W.Frag} {mg : Str → Option Value} {base : Heap}
theorem Tx.fa (T : Tx w K mg base) (i : Nat) {f : Fa} (h : faL[i]? = some f := by rfl) : f.ok K = true := T.fal f (List.mem_of_getElem? h)
theorem Tx.fn (T : Tx w K mg base) (i : Nat) {d : He5.DefA} (h : fnL[i]? = some d := by rfl) : ∃ fd, FunD K d.name d.qual d.params d.body d.scope (d.dvs K) (d.kws K) (d.at_ K) fd := T.fnl i d h
theorem Tx.ex (T : Tx w K mg base) (i : Nat) {f : PySem.W.Frag → Bool} (h : exL[i]? = some f := by rfl) : f K = true := T.exl f (List.mem_of_getElem? h)
theorem str_val {x z : Str} (h : ∃ t, mg x = some (.str z t)) : ∃ u, mg x = some u ∧ RelV (.str z) u := let ⟨t, e⟩ := h; ⟨_, e, t, rfl⟩
theorem int_val {x : Str} {i : Int} (h : ∃ t, mg x = some (.int i t)) : ∃ u, mg x = some u ∧ RelV (.int i) u := let ⟨t, e⟩ := h; ⟨_, e, t, rfl⟩

theorem g_is_number (T : Tx w K mg base) : mg "is_number" = some (.ref (ga K "is_number")) := glo_ok T.kin T.ns (T.fa 0)
theorem g_is_between (T : Tx w K mg base) : mg "is_between" = some (.ref (ga K "is_between")) := glo_ok T.kin T.ns (T.fa 1)
theorem g_is_list (T : Tx w K mg base) : mg "is_list" = some (.ref (ga K "is_list")) := glo_ok T.kin T.ns (T.fa 2)
theorem g_is_pair (T : Tx w K mg base) : mg "is_pair" = some (.ref (ga K "is_pair")) := glo_ok T.kin T.ns (T.fa 3)
theorem g_is_step (T : Tx w K mg base) : mg "is_step" = some (.ref (ga K "is_step")) := glo_ok T.kin T.ns (T.fa 4)
theorem g_is_dance (T : Tx w K mg base) : mg "is_dance" = some (.ref (ga K "is_dance")) := glo_ok T.kin T.ns (T.fa 5)
theorem g_need_many (T : Tx w K mg base) : mg "need_many" = some (.ref (ga K "need_many")) := glo_ok T.kin T.ns (T.fa 6)
theorem g_need_dance (T : Tx w K mg base) : mg "need_dance" = some (.ref (ga K "need_dance")) := glo_ok T.kin T.ns (T.fa 7)
theorem g_need_one (T : Tx w K mg base) : mg "need_one" = some (.ref (ga K "need_one")) := glo_ok T.kin T.ns (T.fa 8)
theorem g_need_two (T : Tx w K mg base) : mg "need_two" = some (.ref (ga K "need_two")) := glo_ok T.kin T.ns (T.fa 9)
theorem g_order_of (T : Tx w K mg base) : mg "order_of" = some (.ref (ga K "order_of")) := glo_ok T.kin T.ns (T.fa 10)
theorem g_undone_of (T : Tx w K mg base) : mg "undone_of" = some (.ref (ga K "undone_of")) := glo_ok T.kin T.ns (T.fa 11)
theorem g_leads_of (T : Tx w K mg base) : mg "leads_of" = some (.ref (ga K "leads_of")) := glo_ok T.kin T.ns (T.fa 12)
theorem g_most_nought (T : Tx w K mg base) : mg "most_nought" = some (.ref (ga K "most_nought")) := glo_ok T.kin T.ns (T.fa 13)
theorem g_least_nought (T : Tx w K mg base) : mg "least_nought" = some (.ref (ga K "least_nought")) := glo_ok T.kin T.ns (T.fa 14)
theorem g_forward_four (T : Tx w K mg base) : mg "forward_four" = some (.ref (ga K "forward_four")) := glo_ok T.kin T.ns (T.fa 15)
theorem g_backward_four (T : Tx w K mg base) : mg "backward_four" = some (.ref (ga K "backward_four")) := glo_ok T.kin T.ns (T.fa 16)
theorem g_step_numbers (T : Tx w K mg base) : mg "step_numbers" = some (.ref (ga K "step_numbers")) := glo_ok T.kin T.ns (T.fa 17)
theorem g_all_led (T : Tx w K mg base) : mg "all_led" = some (.ref (ga K "all_led")) := glo_ok T.kin T.ns (T.fa 18)
theorem g_numbers_in (T : Tx w K mg base) : mg "numbers_in" = some (.ref (ga K "numbers_in")) := glo_ok T.kin T.ns (T.fa 19)
theorem g_is_alike (T : Tx w K mg base) : mg "is_alike" = some (.ref (ga K "is_alike")) := glo_ok T.kin T.ns (T.fa 20)
theorem g_numbers_of (T : Tx w K mg base) : mg "numbers_of" = some (.ref (ga K "numbers_of")) := glo_ok T.kin T.ns (T.fa 21)
theorem g_left_of (T : Tx w K mg base) : mg "left_of" = some (.ref (ga K "left_of")) := glo_ok T.kin T.ns (T.fa 22)
theorem g_is_lot (T : Tx w K mg base) : mg "is_lot" = some (.ref (ga K "is_lot")) := glo_ok T.kin T.ns (T.fa 23)
theorem g_left_by (T : Tx w K mg base) : mg "left_by" = some (.ref (ga K "left_by")) := glo_ok T.kin T.ns (T.fa 24)
theorem g_is_letter (T : Tx w K mg base) : mg "is_letter" = some (.ref (ga K "is_letter")) := glo_ok T.kin T.ns (T.fa 25)
theorem g_side_of (T : Tx w K mg base) : mg "side_of" = some (.ref (ga K "side_of")) := glo_ok T.kin T.ns (T.fa 26)
theorem g_side (T : Tx w K mg base) : mg "side" = some (.ref (ga K "side")) := glo_ok T.kin T.ns (T.fa 27)
theorem g_compared (T : Tx w K mg base) : mg "compared" = some (.ref (ga K "compared")) := glo_ok T.kin T.ns (T.fa 28)
theorem g_compare (T : Tx w K mg base) : mg "compare" = some (.ref (ga K "compare")) := glo_ok T.kin T.ns (T.fa 29)
theorem g_letter_of (T : Tx w K mg base) : mg "letter_of" = some (.ref (ga K "letter_of")) := glo_ok T.kin T.ns (T.fa 30)
theorem g_step_of (T : Tx w K mg base) : mg "step_of" = some (.ref (ga K "step_of")) := glo_ok T.kin T.ns (T.fa 31)
theorem g_letters_of (T : Tx w K mg base) : mg "letters_of" = some (.ref (ga K "letters_of")) := glo_ok T.kin T.ns (T.fa 32)
theorem g_dance_text (T : Tx w K mg base) : mg "dance_text" = some (.ref (ga K "dance_text")) := glo_ok T.kin T.ns (T.fa 33)
theorem g_powered (T : Tx w K mg base) : mg "powered" = some (.ref (ga K "powered")) := glo_ok T.kin T.ns (T.fa 34)
theorem g_phrase_text (T : Tx w K mg base) : mg "phrase_text" = some (.ref (ga K "phrase_text")) := glo_ok T.kin T.ns (T.fa 35)
theorem g_read_dance (T : Tx w K mg base) : mg "read_dance" = some (.ref (ga K "read_dance")) := glo_ok T.kin T.ns (T.fa 36)
theorem g_power_read (T : Tx w K mg base) : mg "power_read" = some (.ref (ga K "power_read")) := glo_ok T.kin T.ns (T.fa 37)
theorem g_done_times (T : Tx w K mg base) : mg "done_times" = some (.ref (ga K "done_times")) := glo_ok T.kin T.ns (T.fa 38)
theorem g_put_behind (T : Tx w K mg base) : mg "put_behind" = some (.ref (ga K "put_behind")) := glo_ok T.kin T.ns (T.fa 39)
theorem g_item_read (T : Tx w K mg base) : mg "item_read" = some (.ref (ga K "item_read")) := glo_ok T.kin T.ns (T.fa 40)
theorem g_items_read (T : Tx w K mg base) : mg "items_read" = some (.ref (ga K "items_read")) := glo_ok T.kin T.ns (T.fa 41)
theorem g_read_phrase (T : Tx w K mg base) : mg "read_phrase" = some (.ref (ga K "read_phrase")) := glo_ok T.kin T.ns (T.fa 42)
theorem g_is_name (T : Tx w K mg base) : mg "is_name" = some (.ref (ga K "is_name")) := glo_ok T.kin T.ns (T.fa 43)
theorem g_steps_in (T : Tx w K mg base) : mg "steps_in" = some (.ref (ga K "steps_in")) := glo_ok T.kin T.ns (T.fa 44)
theorem g_is_deed (T : Tx w K mg base) : mg "is_deed" = some (.ref (ga K "is_deed")) := glo_ok T.kin T.ns (T.fa 45)
theorem g_do (T : Tx w K mg base) : mg "do" = some (.ref (ga K "do")) := glo_ok T.kin T.ns (T.fa 46)
theorem g_journal_of (T : Tx w K mg base) : mg "journal_of" = some (.ref (ga K "journal_of")) := glo_ok T.kin T.ns (T.fa 47)
theorem g_is_done (T : Tx w K mg base) : mg "is_done" = some (.ref (ga K "is_done")) := glo_ok T.kin T.ns (T.fa 48)
theorem g_first_wrong (T : Tx w K mg base) : mg "first_wrong" = some (.ref (ga K "first_wrong")) := glo_ok T.kin T.ns (T.fa 49)
theorem g_replayed (T : Tx w K mg base) : mg "replayed" = some (.ref (ga K "replayed")) := glo_ok T.kin T.ns (T.fa 50)
theorem g_L_begun (T : Tx w K mg base) : mg "_law_begun" = some (.ref (ga K "_law_begun")) := glo_ok T.kin T.ns (T.fa 51)
theorem g_L_mixed (T : Tx w K mg base) : mg "_law_mixed" = some (.ref (ga K "_law_mixed")) := glo_ok T.kin T.ns (T.fa 52)
theorem g_L_take (T : Tx w K mg base) : mg "_law_take" = some (.ref (ga K "_law_take")) := glo_ok T.kin T.ns (T.fa 53)
theorem g_L_pick (T : Tx w K mg base) : mg "_law_pick" = some (.ref (ga K "_law_pick")) := glo_ok T.kin T.ns (T.fa 54)
theorem g_L_caught (T : Tx w K mg base) : mg "_law_caught" = some (.ref (ga K "_law_caught")) := glo_ok T.kin T.ns (T.fa 55)
theorem g_L_order (T : Tx w K mg base) : mg "_law_order" = some (.ref (ga K "_law_order")) := glo_ok T.kin T.ns (T.fa 56)
theorem g_L_leads (T : Tx w K mg base) : mg "_law_leads" = some (.ref (ga K "_law_leads")) := glo_ok T.kin T.ns (T.fa 57)
theorem g_L_four (T : Tx w K mg base) : mg "_law_four" = some (.ref (ga K "_law_four")) := glo_ok T.kin T.ns (T.fa 58)
theorem g_L_curves (T : Tx w K mg base) : mg "_law_curves" = some (.ref (ga K "_law_curves")) := glo_ok T.kin T.ns (T.fa 59)
theorem g_L_alike (T : Tx w K mg base) : mg "_law_alike" = some (.ref (ga K "_law_alike")) := glo_ok T.kin T.ns (T.fa 60)
theorem g_L_left (T : Tx w K mg base) : mg "_law_left" = some (.ref (ga K "_law_left")) := glo_ok T.kin T.ns (T.fa 61)
theorem g_L_moved_up (T : Tx w K mg base) : mg "_law_moved_up" = some (.ref (ga K "_law_moved_up")) := glo_ok T.kin T.ns (T.fa 62)
theorem g_L_act (T : Tx w K mg base) : mg "_law_act" = some (.ref (ga K "_law_act")) := glo_ok T.kin T.ns (T.fa 63)
theorem g_L_do (T : Tx w K mg base) : mg "_law_do" = some (.ref (ga K "_law_do")) := glo_ok T.kin T.ns (T.fa 64)
theorem g_L_call (T : Tx w K mg base) : mg "_law_call" = some (.ref (ga K "_law_call")) := glo_ok T.kin T.ns (T.fa 65)
theorem g_L_deed (T : Tx w K mg base) : mg "_law_deed" = some (.ref (ga K "_law_deed")) := glo_ok T.kin T.ns (T.fa 66)
theorem g_L_line (T : Tx w K mg base) : mg "_law_line" = some (.ref (ga K "_law_line")) := glo_ok T.kin T.ns (T.fa 67)
theorem g_L_stands (T : Tx w K mg base) : mg "_law_stands" = some (.ref (ga K "_law_stands")) := glo_ok T.kin T.ns (T.fa 68)
theorem g_L_told_right (T : Tx w K mg base) : mg "_law_told_right" = some (.ref (ga K "_law_told_right")) := glo_ok T.kin T.ns (T.fa 69)
theorem g_law (T : Tx w K mg base) : mg "law" = some (.ref (ga K "law")) := glo_ok T.kin T.ns (T.fa 70)
theorem g_MaypoleError (T : Tx w K mg base) : mg "MaypoleError" = some (.ref (ga K "MaypoleError")) := glo_ok T.kin T.ns (T.fa 71)
theorem g_BadMany (T : Tx w K mg base) : mg "BadMany" = some (.ref (ga K "BadMany")) := glo_ok T.kin T.ns (T.fa 72)
theorem g_BadDance (T : Tx w K mg base) : mg "BadDance" = some (.ref (ga K "BadDance")) := glo_ok T.kin T.ns (T.fa 73)
theorem g_BadNumber (T : Tx w K mg base) : mg "BadNumber" = some (.ref (ga K "BadNumber")) := glo_ok T.kin T.ns (T.fa 74)
theorem g_BadDancers (T : Tx w K mg base) : mg "BadDancers" = some (.ref (ga K "BadDancers")) := glo_ok T.kin T.ns (T.fa 75)
theorem g_BadStep (T : Tx w K mg base) : mg "BadStep" = some (.ref (ga K "BadStep")) := glo_ok T.kin T.ns (T.fa 76)
theorem g_BadName (T : Tx w K mg base) : mg "BadName" = some (.ref (ga K "BadName")) := glo_ok T.kin T.ns (T.fa 77)
theorem g_NotNow (T : Tx w K mg base) : mg "NotNow" = some (.ref (ga K "NotNow")) := glo_ok T.kin T.ns (T.fa 78)
theorem g_TooMany (T : Tx w K mg base) : mg "TooMany" = some (.ref (ga K "TooMany")) := glo_ok T.kin T.ns (T.fa 79)
theorem g_NothingDone (T : Tx w K mg base) : mg "NothingDone" = some (.ref (ga K "NothingDone")) := glo_ok T.kin T.ns (T.fa 80)
theorem g_BadJournal (T : Tx w K mg base) : mg "BadJournal" = some (.ref (ga K "BadJournal")) := glo_ok T.kin T.ns (T.fa 81)
theorem g_BadText (T : Tx w K mg base) : mg "BadText" = some (.ref (ga K "BadText")) := glo_ok T.kin T.ns (T.fa 82)
theorem g_Stand (T : Tx w K mg base) : mg "Stand" = some (.ref (ga K "Stand")) := glo_ok T.kin T.ns (T.fa 83)
theorem g_Floor (T : Tx w K mg base) : mg "Floor" = some (.ref (ga K "Floor")) := glo_ok T.kin T.ns (T.fa 84)
theorem g_Signs (T : Tx w K mg base) : mg "Signs" = some (.ref (ga K "Signs")) := glo_ok T.kin T.ns (T.fa 85)
theorem g_Desk (T : Tx w K mg base) : mg "Desk" = some (.ref (ga K "Desk")) := glo_ok T.kin T.ns (T.fa 86)
theorem v_LEAST (T : Tx w K mg base) : ∃ u, mg "LEAST" = some u ∧ RelV (.int 2) u := int_val (int_ok T.kin T.ns (T.fa 87))
theorem v_MOST_dances (T : Tx w K mg base) : ∃ u, mg "MOST_dances" = some u ∧ RelV (.int 5) u := int_val (int_ok T.kin T.ns (T.fa 88))
theorem v_LETTERS (T : Tx w K mg base) : ∃ u, mg "LETTERS" = some u ∧ RelV (.str "abcdefghijklmnopqrstuvwxyz") u := str_val (str_ok T.kin T.ns (T.fa 89))
theorem v_SMALL (T : Tx w K mg base) : ∃ u, mg "SMALL" = some u ∧ RelV (.str "abcd") u := str_val (str_ok T.kin T.ns (T.fa 90))
theorem v_GREAT (T : Tx w K mg base) : ∃ u, mg "GREAT" = some u ∧ RelV (.str "ABCD") u := str_val (str_ok T.kin T.ns (T.fa 91))
theorem v_FIGURES (T : Tx w K mg base) : ∃ u, mg "FIGURES" = some u ∧ RelV (.str "0123456789") u := str_val (str_ok T.kin T.ns (T.fa 92))
theorem v_COUNTS (T : Tx w K mg base) : ∃ u, mg "COUNTS" = some u ∧ RelV (.str "2345") u := str_val (str_ok T.kin T.ns (T.fa 93))
theorem v_NONE (T : Tx w K mg base) : ∃ u, mg "NONE" = some u ∧ RelV (.str "-") u := str_val (str_ok T.kin T.ns (T.fa 94))
theorem v_MOST_STEPS (T : Tx w K mg base) : ∃ u, mg "MOST_STEPS" = some u ∧ RelV (.int 4000) u := int_val (int_ok T.kin T.ns (T.fa 95))
theorem v_MOST_POWER (T : Tx w K mg base) : ∃ u, mg "MOST_POWER" = some u ∧ RelV (.int 99) u := int_val (int_ok T.kin T.ns (T.fa 96))
theorem v_DEEPEST (T : Tx w K mg base) : ∃ u, mg "DEEPEST" = some u ∧ RelV (.int 4) u := int_val (int_ok T.kin T.ns (T.fa 97))
theorem v_WHAT (T : Tx w K mg base) : ∃ u, mg "WHAT" = some u ∧ RelV (.str "what") u := str_val (str_ok T.kin T.ns (T.fa 98))
theorem v_NAMES (T : Tx w K mg base) : ∃ u, mg "NAMES" = some u ∧ RelV (.str "abcdefghijklmnopqrstuvwxyz") u := str_val (str_ok T.kin T.ns (T.fa 99))
theorem v_MOST_desk (T : Tx w K mg base) : ∃ u, mg "MOST_desk" = some u ∧ RelV (.int 5) u := int_val (int_ok T.kin T.ns (T.fa 100))
theorem g_SIDES (T : Tx w K mg base) : mg "SIDES" = some (.ref (ga K "SIDES")) := glo_ok T.kin T.ns (T.fa 101)
theorem g_PLACES (T : Tx w K mg base) : mg "PLACES" = some (.ref (ga K "PLACES")) := glo_ok T.kin T.ns (T.fa 102)
theorem g_PARTS (T : Tx w K mg base) : mg "PARTS" = some (.ref (ga K "PARTS")) := glo_ok T.kin T.ns (T.fa 103)
theorem b_len (T : Tx w K mg base) : mg "len" = none := free_ok T.kin T.ns (T.fa 104)
theorem b_abs (T : Tx w K mg base) : mg "abs" = none := free_ok T.kin T.ns (T.fa 105)
theorem b_min (T : Tx w K mg base) : mg "min" = none := free_ok T.kin T.ns (T.fa 106)
theorem b_max (T : Tx w K mg base) : mg "max" = none := free_ok T.kin T.ns (T.fa 107)
theorem b_isinstance (T : Tx w K mg base) : mg "isinstance" = none := free_ok T.kin T.ns (T.fa 108)
theorem b_range (T : Tx w K mg base) : mg "range" = none := free_ok T.kin T.ns (T.fa 109)
theorem b_list (T : Tx w K mg base) : mg "list" = none := free_ok T.kin T.ns (T.fa 110)
theorem b_tuple (T : Tx w K mg base) : mg "tuple" = none := free_ok T.kin T.ns (T.fa 111)
theorem b_sorted (T : Tx w K mg base) : mg "sorted" = none := free_ok T.kin T.ns (T.fa 112)
theorem b_set (T : Tx w K mg base) : mg "set" = none := free_ok T.kin T.ns (T.fa 113)
theorem b_str (T : Tx w K mg base) : mg "str" = none := free_ok T.kin T.ns (T.fa 114)
theorem b_int (T : Tx w K mg base) : mg "int" = none := free_ok T.kin T.ns (T.fa 115)
theorem b_bool (T : Tx w K mg base) : mg "bool" = none := free_ok T.kin T.ns (T.fa 116)
theorem b_all (T : Tx w K mg base) : mg "all" = none := free_ok T.kin T.ns (T.fa 117)
theorem b_enumerate (T : Tx w K mg base) : mg "enumerate" = none := free_ok T.kin T.ns (T.fa 118)
theorem b_ValueError (T : Tx w K mg base) : mg "ValueError" = none := free_ok T.kin T.ns (T.fa 119)
theorem b_super (T : Tx w K mg base) : mg "super" = none := free_ok T.kin T.ns (T.fa 120)
theorem cl_Stand (T : Tx w K mg base) : Cls K (ga K "Stand") := cls_ok (T.fa 121)
theorem mk_Stand (T : Tx w K mg base) : Mk K (ga K "Stand") (ma K (ga K "Stand") "__init__") := mkr_ok (T.fa 122)
theorem na_Stand_own_names (T : Tx w K mg base) : NoAttr K (ga K "Stand") "own_names" := noat_ok (T.fa 123)
theorem na_Stand_own_dance (T : Tx w K mg base) : NoAttr K (ga K "Stand") "own_dance" := noat_ok (T.fa 124)
theorem na_Stand_own_ever (T : Tx w K mg base) : NoAttr K (ga K "Stand") "own_ever" := noat_ok (T.fa 125)
theorem na_Stand_own_deeds (T : Tx w K mg base) : NoAttr K (ga K "Stand") "own_deeds" := noat_ok (T.fa 126)
theorem na_Stand_own_before (T : Tx w K mg base) : NoAttr K (ga K "Stand") "own_before" := noat_ok (T.fa 127)
theorem cl_Floor (T : Tx w K mg base) : Cls K (ga K "Floor") := cls_ok (T.fa 128)
theorem mk_Floor (T : Tx w K mg base) : Mk K (ga K "Floor") (ma K (ga K "Floor") "__init__") := mkr_ok (T.fa 129)
theorem na_Floor_own_first (T : Tx w K mg base) : NoAttr K (ga K "Floor") "own_first" := noat_ok (T.fa 130)
theorem na_Floor_own_stand (T : Tx w K mg base) : NoAttr K (ga K "Floor") "own_stand" := noat_ok (T.fa 131)
theorem na_Floor_own_block (T : Tx w K mg base) : NoAttr K (ga K "Floor") "own_block" := noat_ok (T.fa 132)
theorem me_Floor_len (T : Tx w K mg base) : Meth K (ga K "Floor") "__len__" (ma K (ga K "Floor") "__len__") := meth_ok (T.fa 133)
theorem me_Floor_eq (T : Tx w K mg base) : Meth K (ga K "Floor") "__eq__" (ma K (ga K "Floor") "__eq__") := meth_ok (T.fa 134)
theorem me_Floor_become (T : Tx w K mg base) : Meth K (ga K "Floor") "become" (ma K (ga K "Floor") "become") := meth_ok (T.fa 135)
theorem me_Floor_place_of (T : Tx w K mg base) : Meth K (ga K "Floor") "place_of" (ma K (ga K "Floor") "place_of") := meth_ok (T.fa 136)
theorem me_Floor_step (T : Tx w K mg base) : Meth K (ga K "Floor") "step" (ma K (ga K "Floor") "step") := meth_ok (T.fa 137)
theorem me_Floor_leave (T : Tx w K mg base) : Meth K (ga K "Floor") "leave" (ma K (ga K "Floor") "leave") := meth_ok (T.fa 138)
theorem me_Floor_join (T : Tx w K mg base) : Meth K (ga K "Floor") "join" (ma K (ga K "Floor") "join") := meth_ok (T.fa 139)
theorem me_Floor_undo (T : Tx w K mg base) : Meth K (ga K "Floor") "undo" (ma K (ga K "Floor") "undo") := meth_ok (T.fa 140)
theorem me_Floor_lead (T : Tx w K mg base) : Meth K (ga K "Floor") "lead" (ma K (ga K "Floor") "lead") := meth_ok (T.fa 141)
theorem me_Floor_is_straight (T : Tx w K mg base) : Meth K (ga K "Floor") "is_straight" (ma K (ga K "Floor") "is_straight") := meth_ok (T.fa 142)
theorem cl_Signs (T : Tx w K mg base) : Cls K (ga K "Signs") := cls_ok (T.fa 143)
theorem mk_Signs (T : Tx w K mg base) : Mk K (ga K "Signs") (ma K (ga K "Signs") "__init__") := mkr_ok (T.fa 144)
theorem na_Signs_own_text (T : Tx w K mg base) : NoAttr K (ga K "Signs") "own_text" := noat_ok (T.fa 145)
theorem na_Signs_own_at (T : Tx w K mg base) : NoAttr K (ga K "Signs") "own_at" := noat_ok (T.fa 146)
theorem me_Signs_next_sign (T : Tx w K mg base) : Meth K (ga K "Signs") "next_sign" (ma K (ga K "Signs") "next_sign") := meth_ok (T.fa 147)
theorem me_Signs_take (T : Tx w K mg base) : Meth K (ga K "Signs") "take" (ma K (ga K "Signs") "take") := meth_ok (T.fa 148)
theorem me_Signs_take_one_of (T : Tx w K mg base) : Meth K (ga K "Signs") "take_one_of" (ma K (ga K "Signs") "take_one_of") := meth_ok (T.fa 149)
theorem me_Signs_begin (T : Tx w K mg base) : Meth K (ga K "Signs") "begin" (ma K (ga K "Signs") "begin") := meth_ok (T.fa 150)
theorem me_Signs_end (T : Tx w K mg base) : Meth K (ga K "Signs") "end" (ma K (ga K "Signs") "end") := meth_ok (T.fa 151)
theorem cl_Desk (T : Tx w K mg base) : Cls K (ga K "Desk") := cls_ok (T.fa 152)
theorem mk_Desk (T : Tx w K mg base) : Mk K (ga K "Desk") (ma K (ga K "Desk") "__init__") := mkr_ok (T.fa 153)
theorem na_Desk_desk_floor (T : Tx w K mg base) : NoAttr K (ga K "Desk") "desk_floor" := noat_ok (T.fa 154)
theorem me_Desk_say (T : Tx w K mg base) : Meth K (ga K "Desk") "say" (ma K (ga K "Desk") "say") := meth_ok (T.fa 155)
theorem me_Desk_now (T : Tx w K mg base) : Meth K (ga K "Desk") "now" (ma K (ga K "Desk") "now") := meth_ok (T.fa 156)
theorem me_Desk_answer_to (T : Tx w K mg base) : Meth K (ga K "Desk") "answer_to" (ma K (ga K "Desk") "answer_to") := meth_ok (T.fa 157)
theorem me_Desk_answer_alone (T : Tx w K mg base) : Meth K (ga K "Desk") "answer_alone" (ma K (ga K "Desk") "answer_alone") := meth_ok (T.fa 158)
theorem me_Desk_answer_to_one (T : Tx w K mg base) : Meth K (ga K "Desk") "answer_to_one" (ma K (ga K "Desk") "answer_to_one") := meth_ok (T.fa 159)
theorem ex_BadStep (T : Tx w K mg base) : PySem.W.excIn K (ga K "BadStep") veBase "ValueError.__new__" = true ∧ PySem.W.keepIn K (.ref (ga K "BadStep")) = true ∧ PySem.W.subIn K (.ref (ga K "BadStep")) (.type "BaseException") = some true ∧ PySem.W.typeIn K (.ref (ga K "BadStep")) = some (.type "type") := exc_ok (T.fa 160)
theorem ex_BadName (T : Tx w K mg base) : PySem.W.excIn K (ga K "BadName") veBase "ValueError.__new__" = true ∧ PySem.W.keepIn K (.ref (ga K "BadName")) = true ∧ PySem.W.subIn K (.ref (ga K "BadName")) (.type "BaseException") = some true ∧ PySem.W.typeIn K (.ref (ga K "BadName")) = some (.type "type") := exc_ok (T.fa 161)
theorem ex_NothingDone (T : Tx w K mg base) : PySem.W.excIn K (ga K "NothingDone") veBase "ValueError.__new__" = true ∧ PySem.W.keepIn K (.ref (ga K "NothingDone")) = true ∧ PySem.W.subIn K (.ref (ga K "NothingDone")) (.type "BaseException") = some true ∧ PySem.W.typeIn K (.ref (ga K "NothingDone")) = some (.type "type") := exc_ok (T.fa 162)
theorem xm_BadStep_MaypoleError (T : Tx w K mg base) : PySem.W.exmOne K (.ref (ga K "BadStep")) (.ref (ga K "MaypoleError")) = some true := exm_ok (T.fa 163)
theorem xm_BadStep_BadDance (T : Tx w K mg base) : PySem.W.exmOne K (.ref (ga K "BadStep")) (.ref (ga K "BadDance")) = some false := exm_ok (T.fa 164)
theorem xm_BadStep_BadName (T : Tx w K mg base) : PySem.W.exmOne K (.ref (ga K "BadStep")) (.ref (ga K "BadName")) = some false := exm_ok (T.fa 165)
theorem xm_BadStep_BadStep (T : Tx w K mg base) : PySem.W.exmOne K (.ref (ga K "BadStep")) (.ref (ga K "BadStep")) = some true := exm_ok (T.fa 166)
theorem xm_BadStep_NothingDone (T : Tx w K mg base) : PySem.W.exmOne K (.ref (ga K "BadStep")) (.ref (ga K "NothingDone")) = some false := exm_ok (T.fa 167)
theorem xm_BadStep_NotNow (T : Tx w K mg base) : PySem.W.exmOne K (.ref (ga K "BadStep")) (.ref (ga K "NotNow")) = some false := exm_ok (T.fa 168)
theorem xm_BadName_MaypoleError (T : Tx w K mg base) : PySem.W.exmOne K (.ref (ga K "BadName")) (.ref (ga K "MaypoleError")) = some true := exm_ok (T.fa 169)
theorem xm_BadName_BadDance (T : Tx w K mg base) : PySem.W.exmOne K (.ref (ga K "BadName")) (.ref (ga K "BadDance")) = some false := exm_ok (T.fa 170)
theorem xm_BadName_BadName (T : Tx w K mg base) : PySem.W.exmOne K (.ref (ga K "BadName")) (.ref (ga K "BadName")) = some true := exm_ok (T.fa 171)
theorem xm_BadName_BadStep (T : Tx w K mg base) : PySem.W.exmOne K (.ref (ga K "BadName")) (.ref (ga K "BadStep")) = some false := exm_ok (T.fa 172)
theorem xm_BadName_NothingDone (T : Tx w K mg base) : PySem.W.exmOne K (.ref (ga K "BadName")) (.ref (ga K "NothingDone")) = some false := exm_ok (T.fa 173)
theorem xm_BadName_NotNow (T : Tx w K mg base) : PySem.W.exmOne K (.ref (ga K "BadName")) (.ref (ga K "NotNow")) = some false := exm_ok (T.fa 174)
theorem xm_NothingDone_MaypoleError (T : Tx w K mg base) : PySem.W.exmOne K (.ref (ga K "NothingDone")) (.ref (ga K "MaypoleError")) = some true := exm_ok (T.fa 175)
theorem xm_NothingDone_BadDance (T : Tx w K mg base) : PySem.W.exmOne K (.ref (ga K "NothingDone")) (.ref (ga K "BadDance")) = some false := exm_ok (T.fa 176)
theorem xm_NothingDone_BadName (T : Tx w K mg base) : PySem.W.exmOne K (.ref (ga K "NothingDone")) (.ref (ga K "BadName")) = some false := exm_ok (T.fa 177)
theorem xm_NothingDone_BadStep (T : Tx w K mg base) : PySem.W.exmOne K (.ref (ga K "NothingDone")) (.ref (ga K "BadStep")) = some false := exm_ok (T.fa 178)
theorem xm_NothingDone_NothingDone (T : Tx w K mg base) : PySem.W.exmOne K (.ref (ga K "NothingDone")) (.ref (ga K "NothingDone")) = some true := exm_ok (T.fa 179)
theorem xm_NothingDone_NotNow (T : Tx w K mg base) : PySem.W.exmOne K (.ref (ga K "NothingDone")) (.ref (ga K "NotNow")) = some false := exm_ok (T.fa 180)
theorem xm_BadNumber_MaypoleError (T : Tx w K mg base) : PySem.W.exmOne K (.ref (ga K "BadNumber")) (.ref (ga K "MaypoleError")) = some true := exm_ok (T.fa 181)
theorem xm_BadNumber_BadDance (T : Tx w K mg base) : PySem.W.exmOne K (.ref (ga K "BadNumber")) (.ref (ga K "BadDance")) = some false := exm_ok (T.fa 182)
theorem xm_BadNumber_BadName (T : Tx w K mg base) : PySem.W.exmOne K (.ref (ga K "BadNumber")) (.ref (ga K "BadName")) = some false := exm_ok (T.fa 183)
theorem xm_BadNumber_BadStep (T : Tx w K mg base) : PySem.W.exmOne K (.ref (ga K "BadNumber")) (.ref (ga K "BadStep")) = some false := exm_ok (T.fa 184)
theorem xm_BadNumber_NothingDone (T : Tx w K mg base) : PySem.W.exmOne K (.ref (ga K "BadNumber")) (.ref (ga K "NothingDone")) = some false := exm_ok (T.fa 185)
theorem xm_BadNumber_NotNow (T : Tx w K mg base) : PySem.W.exmOne K (.ref (ga K "BadNumber")) (.ref (ga K "NotNow")) = some false := exm_ok (T.fa 186)
theorem xm_NotNow_MaypoleError (T : Tx w K mg base) : PySem.W.exmOne K (.ref (ga K "NotNow")) (.ref (ga K "MaypoleError")) = some true := exm_ok (T.fa 187)
theorem xm_NotNow_BadDance (T : Tx w K mg base) : PySem.W.exmOne K (.ref (ga K "NotNow")) (.ref (ga K "BadDance")) = some false := exm_ok (T.fa 188)
theorem xm_NotNow_BadName (T : Tx w K mg base) : PySem.W.exmOne K (.ref (ga K "NotNow")) (.ref (ga K "BadName")) = some false := exm_ok (T.fa 189)
theorem xm_NotNow_BadStep (T : Tx w K mg base) : PySem.W.exmOne K (.ref (ga K "NotNow")) (.ref (ga K "BadStep")) = some false := exm_ok (T.fa 190)
theorem xm_NotNow_NothingDone (T : Tx w K mg base) : PySem.W.exmOne K (.ref (ga K "NotNow")) (.ref (ga K "NothingDone")) = some false := exm_ok (T.fa 191)
theorem xm_NotNow_NotNow (T : Tx w K mg base) : PySem.W.exmOne K (.ref (ga K "NotNow")) (.ref (ga K "NotNow")) = some true := exm_ok (T.fa 192)
theorem f_is_number (T : Tx w K mg base) : ∃ fd, FunD K "is_number" "is_number" (defArgs s_is_number) (defBody s_is_number) (defScope s_is_number) [] [] (ga K "is_number") fd := T.fn 0 (d := dd_is_number)
theorem f_is_between (T : Tx w K mg base) : ∃ fd, FunD K "is_between" "is_between" (defArgs s_is_between) (defBody s_is_between) (defScope s_is_between) [] [] (ga K "is_between") fd := T.fn 1 (d := dd_is_between)
theorem f_is_list (T : Tx w K mg base) : ∃ fd, FunD K "is_list" "is_list" (defArgs s_is_list) (defBody s_is_list) (defScope s_is_list) [] [] (ga K "is_list") fd := T.fn 2 (d := dd_is_list)
theorem f_is_pair (T : Tx w K mg base) : ∃ fd, FunD K "is_pair" "is_pair" (defArgs s_is_pair) (defBody s_is_pair) (defScope s_is_pair) [] [] (ga K "is_pair") fd := T.fn 3 (d := dd_is_pair)
theorem f_is_step (T : Tx w K mg base) : ∃ fd, FunD K "is_step" "is_step" (defArgs s_is_step) (defBody s_is_step) (defScope s_is_step) [] [] (ga K "is_step") fd := T.fn 4 (d := dd_is_step)
theorem f_is_dance (T : Tx w K mg base) : ∃ fd, FunD K "is_dance" "is_dance" (defArgs s_is_dance) (defBody s_is_dance) (defScope s_is_dance) [] [] (ga K "is_dance") fd := T.fn 5 (d := dd_is_dance)
theorem f_need_many (T : Tx w K mg base) : ∃ fd, FunD K "need_many" "need_many" (defArgs s_need_many) (defBody s_need_many) (defScope s_need_many) [] [] (ga K "need_many") fd := T.fn 6 (d := dd_need_many)
theorem f_need_dance (T : Tx w K mg base) : ∃ fd, FunD K "need_dance" "need_dance" (defArgs s_need_dance) (defBody s_need_dance) (defScope s_need_dance) [] [] (ga K "need_dance") fd := T.fn 7 (d := dd_need_dance)
theorem f_need_one (T : Tx w K mg base) : ∃ fd, FunD K "need_one" "need_one" (defArgs s_need_one) (defBody s_need_one) (defScope s_need_one) [] [] (ga K "need_one") fd := T.fn 8 (d := dd_need_one)
theorem f_need_two (T : Tx w K mg base) : ∃ fd, FunD K "need_two" "need_two" (defArgs s_need_two) (defBody s_need_two) (defScope s_need_two) [] [] (ga K "need_two") fd := T.fn 9 (d := dd_need_two)
theorem f_order_of (T : Tx w K mg base) : ∃ fd, FunD K "order_of" "order_of" (defArgs s_order_of) (defBody s_order_of) (defScope s_order_of) [] [] (ga K "order_of") fd := T.fn 10 (d := dd_order_of)
theorem f_undone_of (T : Tx w K mg base) : ∃ fd, FunD K "undone_of" "undone_of" (defArgs s_undone_of) (defBody s_undone_of) (defScope s_undone_of) [] [] (ga K "undone_of") fd := T.fn 11 (d := dd_undone_of)
theorem f_leads_of (T : Tx w K mg base) : ∃ fd, FunD K "leads_of" "leads_of" (defArgs s_leads_of) (defBody s_leads_of) (defScope s_leads_of) [] [] (ga K "leads_of") fd := T.fn 12 (d := dd_leads_of)
theorem f_most_nought (T : Tx w K mg base) : ∃ fd, FunD K "most_nought" "most_nought" (defArgs s_most_nought) (defBody s_most_nought) (defScope s_most_nought) [] [] (ga K "most_nought") fd := T.fn 13 (d := dd_most_nought)
theorem f_least_nought (T : Tx w K mg base) : ∃ fd, FunD K "least_nought" "least_nought" (defArgs s_least_nought) (defBody s_least_nought) (defScope s_least_nought) [] [] (ga K "least_nought") fd := T.fn 14 (d := dd_least_nought)
theorem f_forward_four (T : Tx w K mg base) : ∃ fd, FunD K "forward_four" "forward_four" (defArgs s_forward_four) (defBody s_forward_four) (defScope s_forward_four) [] [] (ga K "forward_four") fd := T.fn 15 (d := dd_forward_four)
theorem f_backward_four (T : Tx w K mg base) : ∃ fd, FunD K "backward_four" "backward_four" (defArgs s_backward_four) (defBody s_backward_four) (defScope s_backward_four) [] [] (ga K "backward_four") fd := T.fn 16 (d := dd_backward_four)
theorem f_step_numbers (T : Tx w K mg base) : ∃ fd, FunD K "step_numbers" "step_numbers" (defArgs s_step_numbers) (defBody s_step_numbers) (defScope s_step_numbers) [] [] (ga K "step_numbers") fd := T.fn 17 (d := dd_step_numbers)
theorem f_all_led (T : Tx w K mg base) : ∃ fd, FunD K "all_led" "all_led" (defArgs s_all_led) (defBody s_all_led) (defScope s_all_led) [] [] (ga K "all_led") fd := T.fn 18 (d := dd_all_led)
theorem f_numbers_in (T : Tx w K mg base) : ∃ fd, FunD K "numbers_in" "numbers_in" (defArgs s_numbers_in) (defBody s_numbers_in) (defScope s_numbers_in) [] [] (ga K "numbers_in") fd := T.fn 19 (d := dd_numbers_in)
theorem f_is_alike (T : Tx w K mg base) : ∃ fd, FunD K "is_alike" "is_alike" (defArgs s_is_alike) (defBody s_is_alike) (defScope s_is_alike) [] [] (ga K "is_alike") fd := T.fn 20 (d := dd_is_alike)
theorem f_numbers_of (T : Tx w K mg base) : ∃ fd, FunD K "numbers_of" "numbers_of" (defArgs s_numbers_of) (defBody s_numbers_of) (defScope s_numbers_of) [] [] (ga K "numbers_of") fd := T.fn 21 (d := dd_numbers_of)
theorem f_left_of (T : Tx w K mg base) : ∃ fd, FunD K "left_of" "left_of" (defArgs s_left_of) (defBody s_left_of) (defScope s_left_of) [] [] (ga K "left_of") fd := T.fn 22 (d := dd_left_of)
theorem f_is_lot (T : Tx w K mg base) : ∃ fd, FunD K "is_lot" "is_lot" (defArgs s_is_lot) (defBody s_is_lot) (defScope s_is_lot) [] [] (ga K "is_lot") fd := T.fn 23 (d := dd_is_lot)
theorem f_left_by (T : Tx w K mg base) : ∃ fd, FunD K "left_by" "left_by" (defArgs s_left_by) (defBody s_left_by) (defScope s_left_by) [] [] (ga K "left_by") fd := T.fn 24 (d := dd_left_by)
theorem f_is_letter (T : Tx w K mg base) : ∃ fd, FunD K "is_letter" "is_letter" (defArgs s_is_letter) (defBody s_is_letter) (defScope s_is_letter) [] [] (ga K "is_letter") fd := T.fn 25 (d := dd_is_letter)
theorem f_side_of (T : Tx w K mg base) : ∃ fd, FunD K "side_of" "side_of" (defArgs s_side_of) (defBody s_side_of) (defScope s_side_of) [] [] (ga K "side_of") fd := T.fn 26 (d := dd_side_of)
theorem f_side (T : Tx w K mg base) : ∃ fd, FunD K "side" "side" (defArgs s_side) (defBody s_side) (defScope s_side) [] [] (ga K "side") fd := T.fn 27 (d := dd_side)
theorem f_compared (T : Tx w K mg base) : ∃ fd, FunD K "compared" "compared" (defArgs s_compared) (defBody s_compared) (defScope s_compared) [] [] (ga K "compared") fd := T.fn 28 (d := dd_compared)
theorem f_compare (T : Tx w K mg base) : ∃ fd, FunD K "compare" "compare" (defArgs s_compare) (defBody s_compare) (defScope s_compare) [] [] (ga K "compare") fd := T.fn 29 (d := dd_compare)
theorem f_letter_of (T : Tx w K mg base) : ∃ fd, FunD K "letter_of" "letter_of" (defArgs s_letter_of) (defBody s_letter_of) (defScope s_letter_of) [] [] (ga K "letter_of") fd := T.fn 30 (d := dd_letter_of)
theorem f_step_of (T : Tx w K mg base) : ∃ fd, FunD K "step_of" "step_of" (defArgs s_step_of) (defBody s_step_of) (defScope s_step_of) [] [] (ga K "step_of") fd := T.fn 31 (d := dd_step_of)
theorem f_letters_of (T : Tx w K mg base) : ∃ fd, FunD K "letters_of" "letters_of" (defArgs s_letters_of) (defBody s_letters_of) (defScope s_letters_of) [] [] (ga K "letters_of") fd := T.fn 32 (d := dd_letters_of)
theorem f_dance_text (T : Tx w K mg base) : ∃ fd, FunD K "dance_text" "dance_text" (defArgs s_dance_text) (defBody s_dance_text) (defScope s_dance_text) [] [] (ga K "dance_text") fd := T.fn 33 (d := dd_dance_text)
theorem f_powered (T : Tx w K mg base) : ∃ fd, FunD K "powered" "powered" (defArgs s_powered) (defBody s_powered) (defScope s_powered) [] [] (ga K "powered") fd := T.fn 34 (d := dd_powered)
theorem f_phrase_text (T : Tx w K mg base) : ∃ fd, FunD K "phrase_text" "phrase_text" (defArgs s_phrase_text) (defBody s_phrase_text) (defScope s_phrase_text) [] [] (ga K "phrase_text") fd := T.fn 35 (d := dd_phrase_text)
theorem f_read_dance (T : Tx w K mg base) : ∃ fd, FunD K "read_dance" "read_dance" (defArgs s_read_dance) (defBody s_read_dance) (defScope s_read_dance) [] [] (ga K "read_dance") fd := T.fn 36 (d := dd_read_dance)
theorem f_power_read (T : Tx w K mg base) : ∃ fd, FunD K "power_read" "power_read" (defArgs s_power_read) (defBody s_power_read) (defScope s_power_read) [] [] (ga K "power_read") fd := T.fn 37 (d := dd_power_read)
theorem f_done_times (T : Tx w K mg base) : ∃ fd, FunD K "done_times" "done_times" (defArgs s_done_times) (defBody s_done_times) (defScope s_done_times) [] [] (ga K "done_times") fd := T.fn 38 (d := dd_done_times)
theorem f_put_behind (T : Tx w K mg base) : ∃ fd, FunD K "put_behind" "put_behind" (defArgs s_put_behind) (defBody s_put_behind) (defScope s_put_behind) [] [] (ga K "put_behind") fd := T.fn 39 (d := dd_put_behind)
theorem f_item_read (T : Tx w K mg base) : ∃ fd, FunD K "item_read" "item_read" (defArgs s_item_read) (defBody s_item_read) (defScope s_item_read) [] [] (ga K "item_read") fd := T.fn 40 (d := dd_item_read)
theorem f_items_read (T : Tx w K mg base) : ∃ fd, FunD K "items_read" "items_read" (defArgs s_items_read) (defBody s_items_read) (defScope s_items_read) [] [] (ga K "items_read") fd := T.fn 41 (d := dd_items_read)
theorem f_read_phrase (T : Tx w K mg base) : ∃ fd, FunD K "read_phrase" "read_phrase" (defArgs s_read_phrase) (defBody s_read_phrase) (defScope s_read_phrase) [] [] (ga K "read_phrase") fd := T.fn 42 (d := dd_read_phrase)
theorem f_is_name (T : Tx w K mg base) : ∃ fd, FunD K "is_name" "is_name" (defArgs s_is_name) (defBody s_is_name) (defScope s_is_name) [] [] (ga K "is_name") fd := T.fn 43 (d := dd_is_name)
theorem f_steps_in (T : Tx w K mg base) : ∃ fd, FunD K "steps_in" "steps_in" (defArgs s_steps_in) (defBody s_steps_in) (defScope s_steps_in) [] [] (ga K "steps_in") fd := T.fn 44 (d := dd_steps_in)
theorem f_is_deed (T : Tx w K mg base) : ∃ fd, FunD K "is_deed" "is_deed" (defArgs s_is_deed) (defBody s_is_deed) (defScope s_is_deed) [] [] (ga K "is_deed") fd := T.fn 45 (d := dd_is_deed)
theorem f_do (T : Tx w K mg base) : ∃ fd, FunD K "do" "do" (defArgs s_do) (defBody s_do) (defScope s_do) [] [] (ga K "do") fd := T.fn 46 (d := dd_do)
theorem f_journal_of (T : Tx w K mg base) : ∃ fd, FunD K "journal_of" "journal_of" (defArgs s_journal_of) (defBody s_journal_of) (defScope s_journal_of) [] [] (ga K "journal_of") fd := T.fn 47 (d := dd_journal_of)
theorem f_is_done (T : Tx w K mg base) : ∃ fd, FunD K "is_done" "is_done" (defArgs s_is_done) (defBody s_is_done) (defScope s_is_done) [] [] (ga K "is_done") fd := T.fn 48 (d := dd_is_done)
theorem f_first_wrong (T : Tx w K mg base) : ∃ fd, FunD K "first_wrong" "first_wrong" (defArgs s_first_wrong) (defBody s_first_wrong) (defScope s_first_wrong) [] [] (ga K "first_wrong") fd := T.fn 49 (d := dd_first_wrong)
theorem f_replayed (T : Tx w K mg base) : ∃ fd, FunD K "replayed" "replayed" (defArgs s_replayed) (defBody s_replayed) (defScope s_replayed) [] [] (ga K "replayed") fd := T.fn 50 (d := dd_replayed)
theorem f_L_begun (T : Tx w K mg base) : ∃ fd, FunD K "_law_begun" "_law_begun" (defArgs s_L_begun) (defBody s_L_begun) (defScope s_L_begun) [] [] (ga K "_law_begun") fd := T.fn 51 (d := dd_L_begun)
theorem f_L_mixed (T : Tx w K mg base) : ∃ fd, FunD K "_law_mixed" "_law_mixed" (defArgs s_L_mixed) (defBody s_L_mixed) (defScope s_L_mixed) [] [] (ga K "_law_mixed") fd := T.fn 52 (d := dd_L_mixed)
theorem f_L_take (T : Tx w K mg base) : ∃ fd, FunD K "_law_take" "_law_take" (defArgs s_L_take) (defBody s_L_take) (defScope s_L_take) [] [] (ga K "_law_take") fd := T.fn 53 (d := dd_L_take)
theorem f_L_pick (T : Tx w K mg base) : ∃ fd, FunD K "_law_pick" "_law_pick" (defArgs s_L_pick) (defBody s_L_pick) (defScope s_L_pick) [] [] (ga K "_law_pick") fd := T.fn 54 (d := dd_L_pick)
theorem f_L_caught (T : Tx w K mg base) : ∃ fd, FunD K "_law_caught" "_law_caught" (defArgs s_L_caught) (defBody s_L_caught) (defScope s_L_caught) [] [] (ga K "_law_caught") fd := T.fn 55 (d := dd_L_caught)
theorem f_L_order (T : Tx w K mg base) : ∃ fd, FunD K "_law_order" "_law_order" (defArgs s_L_order) (defBody s_L_order) (defScope s_L_order) [] [] (ga K "_law_order") fd := T.fn 56 (d := dd_L_order)
theorem f_L_leads (T : Tx w K mg base) : ∃ fd, FunD K "_law_leads" "_law_leads" (defArgs s_L_leads) (defBody s_L_leads) (defScope s_L_leads) [] [] (ga K "_law_leads") fd := T.fn 57 (d := dd_L_leads)
theorem f_L_four (T : Tx w K mg base) : ∃ fd, FunD K "_law_four" "_law_four" (defArgs s_L_four) (defBody s_L_four) (defScope s_L_four) [] [] (ga K "_law_four") fd := T.fn 58 (d := dd_L_four)
theorem f_L_curves (T : Tx w K mg base) : ∃ fd, FunD K "_law_curves" "_law_curves" (defArgs s_L_curves) (defBody s_L_curves) (defScope s_L_curves) [] [] (ga K "_law_curves") fd := T.fn 59 (d := dd_L_curves)
theorem f_L_alike (T : Tx w K mg base) : ∃ fd, FunD K "_law_alike" "_law_alike" (defArgs s_L_alike) (defBody s_L_alike) (defScope s_L_alike) [] [] (ga K "_law_alike") fd := T.fn 60 (d := dd_L_alike)
theorem f_L_left (T : Tx w K mg base) : ∃ fd, FunD K "_law_left" "_law_left" (defArgs s_L_left) (defBody s_L_left) (defScope s_L_left) [] [] (ga K "_law_left") fd := T.fn 61 (d := dd_L_left)
theorem f_L_moved_up (T : Tx w K mg base) : ∃ fd, FunD K "_law_moved_up" "_law_moved_up" (defArgs s_L_moved_up) (defBody s_L_moved_up) (defScope s_L_moved_up) [] [] (ga K "_law_moved_up") fd := T.fn 62 (d := dd_L_moved_up)
theorem f_L_act (T : Tx w K mg base) : ∃ fd, FunD K "_law_act" "_law_act" (defArgs s_L_act) (defBody s_L_act) (defScope s_L_act) [] [] (ga K "_law_act") fd := T.fn 63 (d := dd_L_act)
theorem f_L_do (T : Tx w K mg base) : ∃ fd, FunD K "_law_do" "_law_do" (defArgs s_L_do) (defBody s_L_do) (defScope s_L_do) [] [] (ga K "_law_do") fd := T.fn 64 (d := dd_L_do)
theorem f_L_call (T : Tx w K mg base) : ∃ fd, FunD K "_law_call" "_law_call" (defArgs s_L_call) (defBody s_L_call) (defScope s_L_call) [] [] (ga K "_law_call") fd := T.fn 65 (d := dd_L_call)
theorem f_L_deed (T : Tx w K mg base) : ∃ fd, FunD K "_law_deed" "_law_deed" (defArgs s_L_deed) (defBody s_L_deed) (defScope s_L_deed) [] [] (ga K "_law_deed") fd := T.fn 66 (d := dd_L_deed)
theorem f_L_line (T : Tx w K mg base) : ∃ fd, FunD K "_law_line" "_law_line" (defArgs s_L_line) (defBody s_L_line) (defScope s_L_line) [] [] (ga K "_law_line") fd := T.fn 67 (d := dd_L_line)
theorem f_L_stands (T : Tx w K mg base) : ∃ fd, FunD K "_law_stands" "_law_stands" (defArgs s_L_stands) (defBody s_L_stands) (defScope s_L_stands) [] [] (ga K "_law_stands") fd := T.fn 68 (d := dd_L_stands)
theorem f_L_told_right (T : Tx w K mg base) : ∃ fd, FunD K "_law_told_right" "_law_told_right" (defArgs s_L_told_right) (defBody s_L_told_right) (defScope s_L_told_right) [] [] (ga K "_law_told_right") fd := T.fn 69 (d := dd_L_told_right)
theorem f_law (T : Tx w K mg base) : ∃ fd, FunD K "law" "law" (defArgs s_law) (defBody s_law) (defScope s_law) [] [] (ga K "law") fd := T.fn 70 (d := dd_law)
theorem f_Stand_init (T : Tx w K mg base) : ∃ fd, FunD K "__init__" "Stand.__init__" (defArgs s_Stand_init) (defBody s_Stand_init) (defScope s_Stand_init) [] [] (ma K (ga K "Stand") "__init__") fd := T.fn 71 (d := dd_Stand_init)
theorem f_Floor_init (T : Tx w K mg base) : ∃ fd, FunD K "__init__" "Floor.__init__" (defArgs s_Floor_init) (defBody s_Floor_init) (defScope s_Floor_init) [] [] (ma K (ga K "Floor") "__init__") fd := T.fn 72 (d := dd_Floor_init)
theorem f_Floor_many (T : Tx w K mg base) : ∃ fd, FunD K "many" "Floor.many" (defArgs s_Floor_many) (defBody s_Floor_many) (defScope s_Floor_many) [] [] (gt K (ga K "Floor") "many") fd := T.fn 73 (d := dd_Floor_many)
theorem f_Floor_names (T : Tx w K mg base) : ∃ fd, FunD K "names" "Floor.names" (defArgs s_Floor_names) (defBody s_Floor_names) (defScope s_Floor_names) [] [] (gt K (ga K "Floor") "names") fd := T.fn 74 (d := dd_Floor_names)
theorem f_Floor_standing (T : Tx w K mg base) : ∃ fd, FunD K "standing" "Floor.standing" (defArgs s_Floor_standing) (defBody s_Floor_standing) (defScope s_Floor_standing) [] [] (gt K (ga K "Floor") "standing") fd := T.fn 75 (d := dd_Floor_standing)
theorem f_Floor_dance (T : Tx w K mg base) : ∃ fd, FunD K "dance" "Floor.dance" (defArgs s_Floor_dance) (defBody s_Floor_dance) (defScope s_Floor_dance) [] [] (gt K (ga K "Floor") "dance") fd := T.fn 76 (d := dd_Floor_dance)
theorem f_Floor_log (T : Tx w K mg base) : ∃ fd, FunD K "log" "Floor.log" (defArgs s_Floor_log) (defBody s_Floor_log) (defScope s_Floor_log) [] [] (gt K (ga K "Floor") "log") fd := T.fn 77 (d := dd_Floor_log)
theorem f_Floor_len (T : Tx w K mg base) : ∃ fd, FunD K "__len__" "Floor.__len__" (defArgs s_Floor_len) (defBody s_Floor_len) (defScope s_Floor_len) [] [] (ma K (ga K "Floor") "__len__") fd := T.fn 78 (d := dd_Floor_len)
theorem f_Floor_eq (T : Tx w K mg base) : ∃ fd, FunD K "__eq__" "Floor.__eq__" (defArgs s_Floor_eq) (defBody s_Floor_eq) (defScope s_Floor_eq) [] [] (ma K (ga K "Floor") "__eq__") fd := T.fn 79 (d := dd_Floor_eq)
theorem f_Floor_become (T : Tx w K mg base) : ∃ fd, FunD K "become" "Floor.become" (defArgs s_Floor_become) (defBody s_Floor_become) (defScope s_Floor_become) [] [] (ma K (ga K "Floor") "become") fd := T.fn 80 (d := dd_Floor_become)
theorem f_Floor_place_of (T : Tx w K mg base) : ∃ fd, FunD K "place_of" "Floor.place_of" (defArgs s_Floor_place_of) (defBody s_Floor_place_of) (defScope s_Floor_place_of) [] [] (ma K (ga K "Floor") "place_of") fd := T.fn 81 (d := dd_Floor_place_of)
theorem f_Floor_step (T : Tx w K mg base) : ∃ fd, FunD K "step" "Floor.step" (defArgs s_Floor_step) (defBody s_Floor_step) (defScope s_Floor_step) [] [] (ma K (ga K "Floor") "step") fd := T.fn 82 (d := dd_Floor_step)
theorem f_Floor_leave (T : Tx w K mg base) : ∃ fd, FunD K "leave" "Floor.leave" (defArgs s_Floor_leave) (defBody s_Floor_leave) (defScope s_Floor_leave) [] [] (ma K (ga K "Floor") "leave") fd := T.fn 83 (d := dd_Floor_leave)
theorem f_Floor_join (T : Tx w K mg base) : ∃ fd, FunD K "join" "Floor.join" (defArgs s_Floor_join) (defBody s_Floor_join) (defScope s_Floor_join) [] [] (ma K (ga K "Floor") "join") fd := T.fn 84 (d := dd_Floor_join)
theorem f_Floor_undo (T : Tx w K mg base) : ∃ fd, FunD K "undo" "Floor.undo" (defArgs s_Floor_undo) (defBody s_Floor_undo) (defScope s_Floor_undo) [] [] (ma K (ga K "Floor") "undo") fd := T.fn 85 (d := dd_Floor_undo)
theorem f_Floor_lead (T : Tx w K mg base) : ∃ fd, FunD K "lead" "Floor.lead" (defArgs s_Floor_lead) (defBody s_Floor_lead) (defScope s_Floor_lead) [] [] (ma K (ga K "Floor") "lead") fd := T.fn 86 (d := dd_Floor_lead)
theorem f_Floor_is_straight (T : Tx w K mg base) : ∃ fd, FunD K "is_straight" "Floor.is_straight" (defArgs s_Floor_is_straight) (defBody s_Floor_is_straight) (defScope s_Floor_is_straight) [] [] (ma K (ga K "Floor") "is_straight") fd := T.fn 87 (d := dd_Floor_is_straight)
theorem f_Signs_init (T : Tx w K mg base) : ∃ fd, FunD K "__init__" "Signs.__init__" (defArgs s_Signs_init) (defBody s_Signs_init) (defScope s_Signs_init) [] [] (ma K (ga K "Signs") "__init__") fd := T.fn 88 (d := dd_Signs_init)
theorem f_Signs_next_sign (T : Tx w K mg base) : ∃ fd, FunD K "next_sign" "Signs.next_sign" (defArgs s_Signs_next_sign) (defBody s_Signs_next_sign) (defScope s_Signs_next_sign) [] [] (ma K (ga K "Signs") "next_sign") fd := T.fn 89 (d := dd_Signs_next_sign)
theorem f_Signs_take (T : Tx w K mg base) : ∃ fd, FunD K "take" "Signs.take" (defArgs s_Signs_take) (defBody s_Signs_take) (defScope s_Signs_take) [] [] (ma K (ga K "Signs") "take") fd := T.fn 90 (d := dd_Signs_take)
theorem f_Signs_take_one_of (T : Tx w K mg base) : ∃ fd, FunD K "take_one_of" "Signs.take_one_of" (defArgs s_Signs_take_one_of) (defBody s_Signs_take_one_of) (defScope s_Signs_take_one_of) [] [] (ma K (ga K "Signs") "take_one_of") fd := T.fn 91 (d := dd_Signs_take_one_of)
theorem f_Signs_begin (T : Tx w K mg base) : ∃ fd, FunD K "begin" "Signs.begin" (defArgs s_Signs_begin) (defBody s_Signs_begin) (defScope s_Signs_begin) [] [] (ma K (ga K "Signs") "begin") fd := T.fn 92 (d := dd_Signs_begin)
theorem f_Signs_end (T : Tx w K mg base) : ∃ fd, FunD K "end" "Signs.end" (defArgs s_Signs_end) (defBody s_Signs_end) (defScope s_Signs_end) [] [] (ma K (ga K "Signs") "end") fd := T.fn 93 (d := dd_Signs_end)
theorem f_Desk_init (T : Tx w K mg base) : ∃ fd, FunD K "__init__" "Desk.__init__" (defArgs s_Desk_init) (defBody s_Desk_init) (defScope s_Desk_init) [] [] (ma K (ga K "Desk") "__init__") fd := T.fn 94 (d := dd_Desk_init)
theorem f_Desk_say (T : Tx w K mg base) : ∃ fd, FunD K "say" "Desk.say" (defArgs s_Desk_say) (defBody s_Desk_say) (defScope s_Desk_say) [] [] (ma K (ga K "Desk") "say") fd := T.fn 95 (d := dd_Desk_say)
theorem f_Desk_now (T : Tx w K mg base) : ∃ fd, FunD K "now" "Desk.now" (defArgs s_Desk_now) (defBody s_Desk_now) (defScope s_Desk_now) [] [] (ma K (ga K "Desk") "now") fd := T.fn 96 (d := dd_Desk_now)
theorem f_Desk_answer_to (T : Tx w K mg base) : ∃ fd, FunD K "answer_to" "Desk.answer_to" (defArgs s_Desk_answer_to) (defBody s_Desk_answer_to) (defScope s_Desk_answer_to) [] [] (ma K (ga K "Desk") "answer_to") fd := T.fn 97 (d := dd_Desk_answer_to)
theorem f_Desk_answer_alone (T : Tx w K mg base) : ∃ fd, FunD K "answer_alone" "Desk.answer_alone" (defArgs s_Desk_answer_alone) (defBody s_Desk_answer_alone) (defScope s_Desk_answer_alone) [] [] (ma K (ga K "Desk") "answer_alone") fd := T.fn 98 (d := dd_Desk_answer_alone)
theorem f_Desk_answer_to_one (T : Tx w K mg base) : ∃ fd, FunD K "answer_to_one" "Desk.answer_to_one" (defArgs s_Desk_answer_to_one) (defBody s_Desk_answer_to_one) (defScope s_Desk_answer_to_one) [] [] (ma K (ga K "Desk") "answer_to_one") fd := T.fn 99 (d := dd_Desk_answer_to_one)
theorem pp_Floor_many (T : Tx w K mg base) : PropOf K (ga K "Floor") "many" (ma K (ga K "Floor") "many") (gt K (ga K "Floor") "many") := prop_ok (T.ex 0 (f := propB "Floor" "many"))
theorem pp_Floor_names (T : Tx w K mg base) : PropOf K (ga K "Floor") "names" (ma K (ga K "Floor") "names") (gt K (ga K "Floor") "names") := prop_ok (T.ex 1 (f := propB "Floor" "names"))
theorem pp_Floor_standing (T : Tx w K mg base) : PropOf K (ga K "Floor") "standing" (ma K (ga K "Floor") "standing") (gt K (ga K "Floor") "standing") := prop_ok (T.ex 2 (f := propB "Floor" "standing"))
theorem pp_Floor_dance (T : Tx w K mg base) : PropOf K (ga K "Floor") "dance" (ma K (ga K "Floor") "dance") (gt K (ga K "Floor") "dance") := prop_ok (T.ex 3 (f := propB "Floor" "dance"))
theorem pp_Floor_log (T : Tx w K mg base) : PropOf K (ga K "Floor") "log" (ma K (ga K "Floor") "log") (gt K (ga K "Floor") "log") := prop_ok (T.ex 4 (f := propB "Floor" "log"))
theorem in_Floor (T : Tx w K mg base) : C8.InsC K (ga K "Floor") := ins_ok (cl_Floor T) (T.ex 5 (f := insB "Floor"))
theorem ne_Floor (T : Tx w K mg base) : PySem.W.findIn K (.ref (ga K "Floor")) "__ne__" = some (some (.builtin "object.__ne__")) := eqO_ok (T.ex 6 (f := neB "Floor"))
theorem ix_BadStep (T : Tx w K mg base) : isxB "BadStep" K = true := T.ex 7 (f := isxB "BadStep")
theorem kt_BadStep_BadStep (T : Tx w K mg base) : PySem.W.kitOne K (.ref (ga K "BadStep")) (.ref (ga K "BadStep")) = some true := of_decide_eq_true (T.ex 12 (f := ktB "BadStep" "BadStep" true))
theorem kt_BadStep_BadName (T : Tx w K mg base) : PySem.W.kitOne K (.ref (ga K "BadStep")) (.ref (ga K "BadName")) = some false := of_decide_eq_true (T.ex 13 (f := ktB "BadStep" "BadName" false))
theorem kt_BadStep_NothingDone (T : Tx w K mg base) : PySem.W.kitOne K (.ref (ga K "BadStep")) (.ref (ga K "NothingDone")) = some false := of_decide_eq_true (T.ex 14 (f := ktB "BadStep" "NothingDone" false))
theorem kt_BadStep_BadNumber (T : Tx w K mg base) : PySem.W.kitOne K (.ref (ga K "BadStep")) (.ref (ga K "BadNumber")) = some false := of_decide_eq_true (T.ex 15 (f := ktB "BadStep" "BadNumber" false))
theorem kt_BadStep_NotNow (T : Tx w K mg base) : PySem.W.kitOne K (.ref (ga K "BadStep")) (.ref (ga K "NotNow")) = some false := of_decide_eq_true (T.ex 16 (f := ktB "BadStep" "NotNow" false))
theorem ix_BadName (T : Tx w K mg base) : isxB "BadName" K = true := T.ex 8 (f := isxB "BadName")
theorem kt_BadName_BadStep (T : Tx w K mg base) : PySem.W.kitOne K (.ref (ga K "BadName")) (.ref (ga K "BadStep")) = some false := of_decide_eq_true (T.ex 17 (f := ktB "BadName" "BadStep" false))
theorem kt_BadName_BadName (T : Tx w K mg base) : PySem.W.kitOne K (.ref (ga K "BadName")) (.ref (ga K "BadName")) = some true := of_decide_eq_true (T.ex 18 (f := ktB "BadName" "BadName" true))
theorem kt_BadName_NothingDone (T : Tx w K mg base) : PySem.W.kitOne K (.ref (ga K "BadName")) (.ref (ga K "NothingDone")) = some false := of_decide_eq_true (T.ex 19 (f := ktB "BadName" "NothingDone" false))
theorem kt_BadName_BadNumber (T : Tx w K mg base) : PySem.W.kitOne K (.ref (ga K "BadName")) (.ref (ga K "BadNumber")) = some false := of_decide_eq_true (T.ex 20 (f := ktB "BadName" "BadNumber" false))
theorem kt_BadName_NotNow (T : Tx w K mg base) : PySem.W.kitOne K (.ref (ga K "BadName")) (.ref (ga K "NotNow")) = some false := of_decide_eq_true (T.ex 21 (f := ktB "BadName" "NotNow" false))
theorem ix_NothingDone (T : Tx w K mg base) : isxB "NothingDone" K = true := T.ex 9 (f := isxB "NothingDone")
theorem kt_NothingDone_BadStep (T : Tx w K mg base) : PySem.W.kitOne K (.ref (ga K "NothingDone")) (.ref (ga K "BadStep")) = some false := of_decide_eq_true (T.ex 22 (f := ktB "NothingDone" "BadStep" false))
theorem kt_NothingDone_BadName (T : Tx w K mg base) : PySem.W.kitOne K (.ref (ga K "NothingDone")) (.ref (ga K "BadName")) = some false := of_decide_eq_true (T.ex 23 (f := ktB "NothingDone" "BadName" false))
theorem kt_NothingDone_NothingDone (T : Tx w K mg base) : PySem.W.kitOne K (.ref (ga K "NothingDone")) (.ref (ga K "NothingDone")) = some true := of_decide_eq_true (T.ex 24 (f := ktB "NothingDone" "NothingDone" true))
theorem kt_NothingDone_BadNumber (T : Tx w K mg base) : PySem.W.kitOne K (.ref (ga K "NothingDone")) (.ref (ga K "BadNumber")) = some false := of_decide_eq_true (T.ex 25 (f := ktB "NothingDone" "BadNumber" false))
theorem kt_NothingDone_NotNow (T : Tx w K mg base) : PySem.W.kitOne K (.ref (ga K "NothingDone")) (.ref (ga K "NotNow")) = some false := of_decide_eq_true (T.ex 26 (f := ktB "NothingDone" "NotNow" false))
theorem ix_BadNumber (T : Tx w K mg base) : isxB "BadNumber" K = true := T.ex 10 (f := isxB "BadNumber")
theorem kt_BadNumber_BadStep (T : Tx w K mg base) : PySem.W.kitOne K (.ref (ga K "BadNumber")) (.ref (ga K "BadStep")) = some false := of_decide_eq_true (T.ex 27 (f := ktB "BadNumber" "BadStep" false))
theorem kt_BadNumber_BadName (T : Tx w K mg base) : PySem.W.kitOne K (.ref (ga K "BadNumber")) (.ref (ga K "BadName")) = some false := of_decide_eq_true (T.ex 28 (f := ktB "BadNumber" "BadName" false))
theorem kt_BadNumber_NothingDone (T : Tx w K mg base) : PySem.W.kitOne K (.ref (ga K "BadNumber")) (.ref (ga K "NothingDone")) = some false := of_decide_eq_true (T.ex 29 (f := ktB "BadNumber" "NothingDone" false))
theorem kt_BadNumber_BadNumber (T : Tx w K mg base) : PySem.W.kitOne K (.ref (ga K "BadNumber")) (.ref (ga K "BadNumber")) = some true := of_decide_eq_true (T.ex 30 (f := ktB "BadNumber" "BadNumber" true))
theorem kt_BadNumber_NotNow (T : Tx w K mg base) : PySem.W.kitOne K (.ref (ga K "BadNumber")) (.ref (ga K "NotNow")) = some false := of_decide_eq_true (T.ex 31 (f := ktB "BadNumber" "NotNow" false))
theorem ix_NotNow (T : Tx w K mg base) : isxB "NotNow" K = true := T.ex 11 (f := isxB "NotNow")
theorem kt_NotNow_BadStep (T : Tx w K mg base) : PySem.W.kitOne K (.ref (ga K "NotNow")) (.ref (ga K "BadStep")) = some false := of_decide_eq_true (T.ex 32 (f := ktB "NotNow" "BadStep" false))
theorem kt_NotNow_BadName (T : Tx w K mg base) : PySem.W.kitOne K (.ref (ga K "NotNow")) (.ref (ga K "BadName")) = some false := of_decide_eq_true (T.ex 33 (f := ktB "NotNow" "BadName" false))
theorem kt_NotNow_NothingDone (T : Tx w K mg base) : PySem.W.kitOne K (.ref (ga K "NotNow")) (.ref (ga K "NothingDone")) = some false := of_decide_eq_true (T.ex 34 (f := ktB "NotNow" "NothingDone" false))
theorem kt_NotNow_BadNumber (T : Tx w K mg base) : PySem.W.kitOne K (.ref (ga K "NotNow")) (.ref (ga K "BadNumber")) = some false := of_decide_eq_true (T.ex 35 (f := ktB "NotNow" "BadNumber" false))
theorem kt_NotNow_NotNow (T : Tx w K mg base) : PySem.W.kitOne K (.ref (ga K "NotNow")) (.ref (ga K "NotNow")) = some true := of_decide_eq_true (T.ex 36 (f := ktB "NotNow" "NotNow" true))
theorem sd_right (T : Tx w K mg base) : ∃ es k t, K.lookup (ga K "SIDES") = some ⟨.type "dict", none, .dict es k, #[]⟩ ∧ (∀ e ∈ es, ∃ j u, e.key = .int j u ∧ e.hash = hashInt j) ∧ findBy Value.isInt es (1) = some (.str "right" t) := sid_ok (T.ex 37 (f := sidB "SIDES" (1) "right"))
theorem sd_none (T : Tx w K mg base) : ∃ es k t, K.lookup (ga K "SIDES") = some ⟨.type "dict", none, .dict es k, #[]⟩ ∧ (∀ e ∈ es, ∃ j u, e.key = .int j u ∧ e.hash = hashInt j) ∧ findBy Value.isInt es (0) = some (.str "none" t) := sid_ok (T.ex 38 (f := sidB "SIDES" (0) "none"))
theorem sd_left (T : Tx w K mg base) : ∃ es k t, K.lookup (ga K "SIDES") = some ⟨.type "dict", none, .dict es k, #[]⟩ ∧ (∀ e ∈ es, ∃ j u, e.key = .int j u ∧ e.hash = hashInt j) ∧ findBy Value.isInt es (-1) = some (.str "left" t) := sid_ok (T.ex 39 (f := sidB "SIDES" (-1) "left"))
theorem pt_step (T : Tx w K mg base) : ∃ t, PySem.W.nsIn K (ga K "PARTS") "step" = some (some (.int 2 t)) := prt_ok (T.ex 40 (f := prtB "PARTS" "step" 2))
theorem pt_leave (T : Tx w K mg base) : ∃ t, PySem.W.nsIn K (ga K "PARTS") "leave" = some (some (.int 2 t)) := prt_ok (T.ex 41 (f := prtB "PARTS" "leave" 2))
theorem pt_join (T : Tx w K mg base) : ∃ t, PySem.W.nsIn K (ga K "PARTS") "join" = some (some (.int 3 t)) := prt_ok (T.ex 42 (f := prtB "PARTS" "join" 3))
theorem pt_undo (T : Tx w K mg base) : ∃ t, PySem.W.nsIn K (ga K "PARTS") "undo" = some (some (.int 1 t)) := prt_ok (T.ex 43 (f := prtB "PARTS" "undo" 1))
end
/-! ### the built-ins -/
theorem bb_len : bootBuiltins "len" = some (.builtin "len") := by decide +kernel
theorem bb_abs : bootBuiltins "abs" = some (.builtin "abs") := by decide +kernel
theorem bb_min : bootBuiltins "min" = some (.builtin "min") := by decide +kernel
theorem bb_max : bootBuiltins "max" = some (.builtin "max") := by decide +kernel
theorem bb_isinstance : bootBuiltins "isinstance" = some (.builtin "isinstance") := by decide +kernel
theorem bb_sorted : bootBuiltins "sorted" = some (.builtin "sorted") := by decide +kernel
theorem bb_all : bootBuiltins "all" = some (.builtin "all") := by decide +kernel
theorem bb_list : bootBuiltins "list" = some (.type "list") := by decide +kernel
theorem bb_tuple : bootBuiltins "tuple" = some (.type "tuple") := by decide +kernel
theorem bb_str : bootBuiltins "str" = some (.type "str") := by decide +kernel
theorem bb_int : bootBuiltins "int" = some (.type "int") := by decide +kernel
theorem bb_bool : bootBuiltins "bool" = some (.type "bool") := by decide +kernel
theorem bb_set : bootBuiltins "set" = some (.type "set") := by decide +kernel
end My
end

section
set_option Elab.async false
set_option linter.all false
set_option maxRecDepth 100000
set_option maxHeartbeats 4000000
/-! FA: what is looked at when the top has run. -/
namespace My
open PySem PySem.Spec PyProof.Rows L2 He PySem.HandSPX
/-! ### which objects -/
def kidsM (o : Obj) : List Addr := match o.data with
  | .func fd => refV fd.code ++ (refV fd.defaults ++ fd.closure.map (·.2))
  | .cls cd => [cd.ns]
  | .dict es _ => es.toList.flatMap fun e => refV e.val
  | .cell (some v) => refV v
  | _ => []
/-- properties, too: records of fields, but not code objects -/
def kidsP (o : Obj) : List Addr := match o.cls, o.data with
  | .type "property", .fields vs => vs.toList.flatMap refV
  | _, _ => kidsM o
def stepM (g : Addr → Option Obj) (as : List Addr) : List Addr := as.flatMap fun a => match g a with
  | some o => kidsP o
  | none => []
def asM (g : Addr → Option Obj) : List Addr :=
  let l1 := stepM g [mainGlobals]
  let l2 := stepM g l1
  let l3 := stepM g l2
  let l4 := stepM g l3
  let l5 := stepM g l4
  mainGlobals :: cStatics :: (l1 ++ (l2 ++ (l3 ++ (l4 ++ l5))))
/-! ### exceptions with an own __init__ -/
def supClsB (K : PySem.W.Frag) (C : Addr) : Bool := match K.lookup C with
  | some ⟨.type t, _, .cls cd, sl⟩ => (match cd.mro, sl.toList with
    | .ref C' :: bm, [_, _, _, _, some (.builtin n), _] => decide (t = "type") && (decide (C' = C) && (decide (n = "ValueError.__new__") && (!cd.hasDel && (cd.hasDict && refsVE bm))))
    | _, _ => false)
  | _ => false
theorem supCls_ok {K : PySem.W.Frag} {C : Addr} (h : supClsB K C = true) : ∃ nm q N bs bm sn sub ab col dd k0 k1 k2 k3 k5, K.lookup C = some (excClassObj nm q C N bs bm true sn sub ab col dd k0 k1 k2 k3 k5 "ValueError.__new__") ∧ refsVE bm = true := by
  unfold supClsB at h
  split at h
  · rename_i tt dd cd sl ho
    split at h
    · rename_i C' bm k0 k1 k2 k3 n k5 hm hs
      obtain ⟨h0, h⟩ := ba h
      obtain ⟨h1, h⟩ := ba h
      obtain ⟨h2, h⟩ := ba h
      obtain ⟨h3, h⟩ := ba h
      obtain ⟨h4, h5⟩ := ba h
      have e0 := of_decide_eq_true h0
      have e1 := of_decide_eq_true h1
      have e2 := of_decide_eq_true h2
      have e3 : cd.hasDel = false := by simpa using h3
      clear h0 h1 h2 h3
      obtain ⟨nm, bs, mro, ns, qn, hd, sn, sub, ab, col, del⟩ := cd
      dsimp only at hm e3 h4
      subst hm e3 h4 e0 e1 e2
      have hsl : sl = #[k0, k1, k2, k3, some (.builtin "ValueError.__new__"), k5] := by
        obtain ⟨l⟩ := sl
        simp only at hs
        rw [hs]
      subst hsl
      exact ⟨_, _, _, _, _, _, _, _, _, _, _, _, _, _, _, ho, h5⟩
    · cases h
  · cases h
def supFnB (K : PySem.W.Frag) (C fI : Addr) (qual : Str) : Bool := match K.lookup fI with
  | some ⟨_, _, .func fd, _⟩ => PySem.W.codeIn K fd.code qual && ((match fd.code with
      | .ref cda => (match K.lookup cda with
        | some ⟨_, _, .fields vs, _⟩ => (match (vs[2]? : Option Value) with
          | some (.str z _) => decide (z = P0.main.file)
          | _ => false)
        | _ => false)
      | _ => false) && (match fd.closure with
      | [(n, cc)] => decide (n = "__class__") && (match K.lookup cc with
        | some ⟨_, _, .cell (some (.ref C')), _⟩ => decide (C' = C)
        | _ => false)
      | _ => false))
  | _ => false
abbrev FnI : Type := Option (Str × Str × Arguments × FuncBody × Scope × Addr × Value × Addr)
def fnI (K : PySem.W.Frag) (f : Addr) : FnI := match K.lookup f with
  | some ⟨_, _, .func fd, _⟩ => some (fd.name, fd.qualname, fd.params, fd.body, fd.scope, fd.globals, fd.defaults, fd.builtins)
  | _ => none
def fnIv (qual : Str) (st : Stmt) : FnI := some ("__init__", qual, L2.defArgs st, .stmts (L2.defBody st), L2.defScope st, mainGlobals, .none, builtinsNs)
def supB (K : PySem.W.Frag) (x qual a : Str) : Bool :=
  supClsB K (ga K x) && (eqO (PySem.W.findIn K (.ref (ga K x)) "__setattr__") (some (some (.builtin "object.__setattr__"))) && (eqO (PySem.W.findIn K (.ref (ga K x)) a) (some none) && (eqO (PySem.W.findIn K (.ref (ga K x)) "__init__") (some (some (.ref (ma K (ga K x) "__init__")))) &&
  (decide (PySem.W.typeIn K (.ref (ma K (ga K x) "__init__")) = some (.type "function")) && (PySem.W.keepIn K (.ref (ga K x)) && (decide (PySem.W.subIn K (.ref (ga K x)) (.type "BaseException") = some true) && (decide (PySem.W.typeIn K (.ref (ga K x)) = some (.type "type")) &&
  (decide (PySem.W.subIn K (.ref (ga K x)) (.type "ValueError") = some true) && (eqO (PySem.W.ks_superIn K (ga K x) (ga K x) "__init__") (some (some (.builtin "ValueError.__init__"))) && (eqO (PySem.W.nsIn K cStatics "thirdparty.any") (some none) && (decide (PySem.W.mroIn K (ga K x) (.ref (ga K x)) = some true) &&
  supFnB K (ga K x) (ma K (ga K x) "__init__") qual)))))))))))
theorem sup_ok {K : PySem.W.Frag} {x qual a : Str} {st : Stmt} (h : supB K x qual a = true) (e : fnI K (ma K (ga K x) "__init__") = fnIv qual st) : SupTxt K (ga K x) (ma K (ga K x) "__init__") qual a st := by
  obtain ⟨h1, h⟩ := ba h
  obtain ⟨h2, h⟩ := ba h
  obtain ⟨h3, h⟩ := ba h
  obtain ⟨h4, h⟩ := ba h
  obtain ⟨h5, h⟩ := ba h
  obtain ⟨h6, h⟩ := ba h
  obtain ⟨h7, h⟩ := ba h
  obtain ⟨h8, h⟩ := ba h
  obtain ⟨h9, h⟩ := ba h
  obtain ⟨h10, h⟩ := ba h
  obtain ⟨h11, h⟩ := ba h
  obtain ⟨h12, h13⟩ := ba h
  refine ⟨supCls_ok h1, eqO_ok h2, eqO_ok h3, eqO_ok h4, of_decide_eq_true h5, h6, of_decide_eq_true h7, of_decide_eq_true h8, of_decide_eq_true h9, eqO_ok h10, eqO_ok h11, of_decide_eq_true h12, ?_⟩
  clear h1 h2 h3 h4 h5 h6 h7 h8 h9 h10 h11 h12 h
  generalize ma K (ga K x) "__init__" = fI at *
  generalize ga K x = C at *
  unfold fnI fnIv at e
  unfold supFnB at h13
  split at h13
  · rename_i oc od fd osl ho
    rw [ho] at e
    obtain ⟨n1, n2, n3, n4, n5, n6, n7, n8, n9, n10, n11, n12, n13, n14, n15⟩ := fd
    simp only [Option.some.injEq, Prod.mk.injEq] at e
    obtain ⟨e1, e2, e3, e4, e5, e6, e7, e8⟩ := e
    subst e1 e2 e3 e4 e5 e6 e7 e8
    obtain ⟨k1, k⟩ := ba h13
    obtain ⟨k2, k3⟩ := ba k
    dsimp only at k1 k2 k3
    split at k2
    · rename_i cda
      split at k2
      · rename_i ccl cdd vs ccs hc
        split at k2
        · rename_i z tf hv
          have ez := of_decide_eq_true k2
          subst ez
          split at k3
          · rename_i n cc
            obtain ⟨k4, k5⟩ := ba k3
            have en := of_decide_eq_true k4
            subst en
            split at k5
            · rename_i cl cld C' csl hcc
              have eC := of_decide_eq_true k5
              subst eC
              exact ⟨_, _, _, _, _, _, _, _, _, _, _, _, _, _, _, _, _, _, ho, k1, hc, hv, hcc⟩
            · cases k5
          · cases k3
        · cases k2
      · cases k2
    · cases k2
  · cases h13
/-! ### the Hook -/
abbrev AlM : Type := (He.AlD × (Option (List (Option (Str × Int))) × (List FnI × Bool))) × Bool
abbrev tfM : List Defn := [("_law_call", none)]
abbrev partK : List Str := ["step", "leave", "join", "undo"]
def obsK (K : PySem.W.Frag) : He.AlD × (Option (List (Option (Str × Int))) × (List FnI × Bool)) :=
  (He5.obsA faL fnL K, (dicW K (ga K "PARTS"), ([fnI K (ma K (ga K "BadNumber") "__init__"), fnI K (ma K (ga K "NotNow") "__init__")], (exL.all fun f => f K) && (supB K "BadNumber" "BadNumber.__init__" "part" && supB K "NotNow" "NotNow.__init__" "word"))))
def valK (w : World) : He.AlD × (Option (List (Option (Str × Int))) × (List FnI × Bool)) :=
  (He5.valA fnL, (some (keysIn w.params partK), ([fnIv "BadNumber.__init__" s_BadNumber_init, fnIv "NotNow.__init__" s_NotNow_init], true)))
def obsM (g : Addr → Option Obj) : AlM := (obsK (frT g (asM g)), tabsB g tfM (frT g (asM g)))
structure SaysM (w : World) (h : Heap) (K : PySem.W.Frag) : Prop where
  k : obsK K = valK w
  hd : ∀ p ∈ tfM, PySem.W.codeHdIn K (cT K p).1 (cT K p).2 = true
  out : ∀ p ∈ tfM, K.lookup (cT K p).2 = none
  empty : ∀ p ∈ tfM, h.get? (cT K p).2 = some { cls := .none, data := .fields #[] }
theorem saysM_of {w : World} {h : Heap} (e : obsM h.get? = (valK w, true)) : SaysM w h (frT h.get? (asM h.get?)) := by
  have e1 : obsK (frT h.get? (asM h.get?)) = valK w := congrArg (fun z : AlM => z.1) e
  have e2 : tabsB h.get? tfM (frT h.get? (asM h.get?)) = true := congrArg (fun z : AlM => z.2) e
  have key : ∀ p ∈ tfM, PySem.W.codeHdIn (frT h.get? (asM h.get?)) (cT (frT h.get? (asM h.get?)) p).1 (cT (frT h.get? (asM h.get?)) p).2 = true ∧ ∃ o, h.get? (cT (frT h.get? (asM h.get?)) p).2 = some o ∧ emptyTab o = true := fun p hp => by
    obtain ⟨h3, h4⟩ := ba (List.all_eq_true.mp e2 p hp)
    refine ⟨h3, ?_⟩
    cases q : h.get? (cT (frT h.get? (asM h.get?)) p).2 with
    | none => rw [q] at h4; cases h4
    | some o => rw [q] at h4; exact ⟨o, rfl, h4⟩
  refine ⟨e1, fun p hp => (key p hp).1, fun p hp => ?_, fun p hp => ?_⟩
  · obtain ⟨_, o, q, z⟩ := key p hp
    exact frT_none q z
  · obtain ⟨_, o, q, z⟩ := key p hp
    rw [q, emptyTab_eq z]
def hookM : PySem.W.Hook where
  α := AlM
  obs := fun s => obsM s.heap.get?
  val := fun w => (valK w, true)
  says := fun w h => ∃ K : PySem.W.Frag, K.In h ∧ SaysM w h K
  of := fun _ _ e => ⟨_, frT_in, saysM_of e⟩
  keeps := fun _ _ _ ⟨K, hK, c⟩ k => ⟨K, PySem.W.Frag.In.keeps hK k, ⟨c.k, c.hd, c.out, fun p hp => k _ _ (c.empty p hp)⟩⟩
def obM (s : PySem.W.SharedT) : AlM := obsM (HandSHeadRun.getT s)
theorem obM_eq (s : PySem.W.SharedT) : obM s = hookM.obs s.abs := by
  have e : HandSHeadRun.getT s = s.abs.heap.get? := funext (HandSHeadRun.getT_eq s)
  show obsM (HandSHeadRun.getT s) = obsM s.abs.heap.get?
  rw [e]
abbrev R : PySem.W.OpenRow := PySem.W.OpenLaw.row PySem.Challenge.rw_maypole_k98_whole_floors_where_dancers_c
abbrev qv : Program := PySem.W.view R.prog [115]
def lo0 : List PySem.Str := ["_wall", "__name__", "MaypoleError", "BadMany", "BadDance", "BadNumber", "BadDancers", "BadStep", "BadName", "NotNow", "TooMany", "NothingDone", "BadJournal", "BadText", "LEAST", "MOST_dances", "is_number", "is_between", "is_list", "is_pair", "is_step", "is_dance", "need_many", "need_dance", "need_one", "need_two", "order_of", "undone_of", "leads_of", "most_nought"]
def lo1 : List PySem.Str := ["least_nought", "forward_four", "backward_four", "step_numbers", "all_led", "numbers_in", "is_alike", "numbers_of", "left_of", "is_lot", "left_by", "LETTERS", "Stand", "Block", "is_letter", "Floor", "side_of", "side", "compared", "compare", "SMALL", "GREAT", "FIGURES", "COUNTS", "NONE", "MOST_STEPS", "MOST_POWER", "DEEPEST", "letter_of", "step_of"]
def lo2 : List PySem.Str := ["letters_of", "dance_text", "powered", "phrase_text", "Signs", "read_dance", "power_read", "done_times", "put_behind", "item_read", "items_read", "read_phrase", "WHAT", "NAMES", "MOST_desk", "SIDES", "PLACES", "is_name", "steps_in", "Desk", "PARTS", "is_deed", "do", "journal_of", "is_done", "first_wrong", "replayed", "_law_begun", "_law_mixed", "_law_take"]
def lo3 : List PySem.Str := ["_law_pick", "_law_caught", "_law_order", "_law_leads", "_law_four", "_law_curves", "_law_alike", "_law_left", "_law_moved_up", "_law_act", "_law_do", "_law_call", "_law_deed", "_law_line", "_law_stands", "_law_told_right"]
def loose : List PySem.Str := lo0 ++ lo1 ++ lo2 ++ lo3
end My
end

section
set_option Elab.async false
set_option linter.all false
set_option maxRecDepth 100000
set_option maxHeartbeats 0
/-! FZ: the run of the top. -/
namespace My
open PySem PySem.Spec PyProof.Rows L2 He LamX
noncomputable abbrev endM (w : World) (os : OsState) := HandSHeadRun.endF (HandSHeadRun.stepQ (HandSHeadRun.denQ HandSHeadRun.tabQ) R.prog w) 15000 R.prog w os
theorem run0F (w : World) : HandSHeadRun.RunEq R qv PySem.W.Hook.none (fun _ => ()) 15000 loose (w.withFollow "special-get-raises" false) := by
  intro os
  kernel_rfl
theorem run0T (w : World) : HandSHeadRun.RunEq R qv PySem.W.Hook.none (fun _ => ()) 15000 loose (w.withFollow "special-get-raises" true) := by
  intro os
  kernel_rfl
theorem obF (w : World) (os : OsState) : (endM (w.withFollow "special-get-raises" false) os).map obM = some (hookM.val (w.withFollow "special-get-raises" false)) := by
  kernel_rfl
theorem obT (w : World) (os : OsState) : (endM (w.withFollow "special-get-raises" true) os).map obM = some (hookM.val (w.withFollow "special-get-raises" true)) := by
  kernel_rfl
theorem run_join {w : World} (h1 : HandSHeadRun.RunEq R qv PySem.W.Hook.none (fun _ => ()) 15000 loose w) (h2 : ∀ os : OsState, (endM w os).map obM = some (hookM.val w)) : HandSHeadRun.RunEq R qv hookM obM 15000 loose w := by
  intro os
  have a := h1 os
  have b := h2 os
  unfold endM at b
  generalize HandSHeadRun.endF (HandSHeadRun.stepQ (HandSHeadRun.denQ HandSHeadRun.tabQ) R.prog w) 15000 R.prog w os = e at a b ⊢
  cases e with
  | none => cases b
  | some s =>
    injection a with a
    injection a with a1 a2
    injection a2 with a2 a3
    injection b with b
    exact congrArg some (Prod.ext a1 (Prod.ext a2 b))
theorem runM (w : World) : HandSHeadRun.RunEq R qv hookM obM 15000 loose w :=
  PySem.W.byRow2 (P := fun w => HandSHeadRun.RunEq R qv hookM obM 15000 loose w) "special-get-raises" (fun w => run_join (run0F w) (obF w)) (fun w => run_join (run0T w) (obT w)) w
abbrev dLaw : PySem.DefRec := HandSHeadRun.topDef R.prog 115
theorem promised0 : R.toRowW.promised := by
  show (PySem.W.OpenLaw.row PySem.Challenge.rw_maypole_k98_whole_floors_where_dancers_c).toRowW.promised
  w_witness2
theorem law_name : dLaw.name = ("law" : Str) := by kernel_rfl
theorem law_dflt : dLaw.params.defaults = [] := by kernel_rfl
theorem holds_of (k1 : R.wellSaid = true) (call : PySem.W.WalkO qv loose (PySem.W.XL qv []) hookM.says R.toRowW dLaw [] fun f vs => PySem.call f vs) : R.Holds :=
  HandSHeadRun.head_any (r := R) (q := qv) (H := hookM) (ob := obM) (M := 15000) (loose := loose) (d := dLaw) (kwd := []) obM_eq
    (by kernel_rfl) (fun s => by kernel_rfl) runM (by kernel_rfl) (by kernel_rfl) (by kernel_rfl) (by rfl) k1 (by decide +kernel) ⟨rfl, rfl, rfl, rfl, rfl, by decide +kernel⟩ promised0 call
open PySem.W in
theorem fin (call : PySem.W.WalkO qv loose (PySem.W.XL qv []) hookM.says R.toRowW dLaw [] fun f vs => PySem.call f vs) : PySem.Challenge.rw_maypole_k98_whole_floors_where_dancers_c.Holds := by
  w_on; o_law
  exact holds_of (by assumption) call
end My
end

section
set_option Elab.async false
set_option linter.all false
set_option maxRecDepth 100000
set_option maxHeartbeats 4000000
/-! XE: own exceptions whose __init__ says super().__init__(text) and keeps one field. -/
namespace My
open PySem PySem.W PySem.Calls PyProof.Rows PySem.HandSPX
/-- what __init__ leaves of a fresh exception at x -/
structure InitEnd (h h' : Heap) (x C dx t1 : Addr) (a : PySem.Str) (v : Value) : Prop where
  keep : ∀ b o, b ≠ x → h.get? b = some o → h'.get? b = some o
  obj : h'.get? x = some { cls := .ref C, dict := some dx, data := .fields #[.ref t1, .none, .none, .none, .bool false, .none] }
  dbig : h.objs.size ≤ dx
  dne : dx ≠ x
  ns : h'.Ns1 dx (fun y => if y = a then some v else none)
structure OwnMade (h h' : Heap) (e C d : Addr) (a : PySem.Str) (v : Value) : Prop where
  keep : ∀ b o, h.get? b = some o → h'.get? b = some o
  new : h.objs.size ≤ e
  obj : ∃ oe vs, h'.get? e = some oe ∧ oe.cls = .ref C ∧ oe.dict = some d ∧ oe.data = .fields vs ∧ vs[1]? = some .none
  dbig : h.objs.size ≤ d
  dne : d ≠ e
  ns : h'.Ns1 d (fun y => if y = a then some v else none)
theorem one_size (v : Value) : [v].length ≤ sizeLine := by
  rw [sizeLine_eq]
  exact (by decide : 1 ≤ 16777216)
section
open PySem.Spec L2
theorem relO_one {a : PySem.Str} {v : V} {v' : Value} (r : RelV v v') (f : PySem.Str) : RelO (List.lookup f [(a, v)]) (if f = a then some v' else none) := by
  by_cases hw : f = a
  · subst hw
    rw [if_pos rfl]
    have q : List.lookup f [(f, v)] = some v := by simp [List.lookup]
    rw [q]
    exact r
  · rw [if_neg hw]
    have qw : (f == a) = false := by simpa using hw
    have q2 : List.lookup f [(a, v)] = none := by simp [List.lookup, qw]
    rw [q2]
    trivial
/-- C(e): for every new d the way out -/
def tMkX (C : Addr) (a : PySem.Str) (ta : TA) : St → Hp → XK → Prop := fun σ H Q => ta σ H fun vs H1 => ∃ v, vs = [v] ∧ ∀ d, H1 d = none → Q (.ref C) (some d) (upd H1 d (.xd [(a, v)]))
end
section
variable {prog : Program} {w : World} {A : Around} {E : Value → Shared → Prop} {R : Result → Shared → Prop} {s : Shared} {K : Frag} {mg mb : PySem.Str → Option Value} {C fI : Addr}
theorem init_BadNumber (T : SupTxt K C fI "BadNumber.__init__" "part" s_BadNumber_init) {x t0 : Addr} {v : Value} (X : K.In s.heap) (hlim : s.heap.NoLimit) (hg : s.heap.Ns mainGlobals mg) (hm : mg "super" = none) (hb : s.heap.Ns builtinsNs mb) (hmb : mb "super" = some (.type "super"))
    (hfile : (prog.main.file == P0.main.file) = true) (htop : (prog.main.scope.names.lookup ("super" : PySem.Str)).isSome = false) (hx : s.heap.get? x = some (excO C t0)) (hnx : K.lookup x = none) (hroom : A.depth < recursionLimit)
    (hq : ∀ h' tk dx t1, InitEnd s.heap h' x C dx t1 "part" v → R (.ok (.ret .none)) { s with heap := h', toks := tk }) :
    codeAny (model prog w) A (.call (.ref fI) ⟨[.ref x, v], []⟩) R s := by
  obtain ⟨oc, od, kV, doc, pm, an, cda, ct, osl, cc, ccl, cdd, vs, ccs, tf, cl, cld, csl, ho, hcd, hcode, hvs, hcell⟩ := T.fn
  obtain ⟨nm, q, N, bs, bm, sn, sub, ab, col, dd, k0, k1, k2, k3, k5, hC, hbm⟩ := T.cls
  have hcl : clsIn K C = some { name := nm, bases := bs, mro := .ref C :: bm, ns := N, qualname := q, hasDict := true, slotNames := sn, subclasses := sub, abstract := ab, collection := col, hasDel := false } := by unfold clsIn; rw [hC] <;> rfl
  refine ks_codeAny_call_defAt (fd := ksFn "__init__" "BadNumber.__init__" (L2.defArgs s_BadNumber_init) (L2.defBody s_BadNumber_init) (L2.defScope s_BadNumber_init) .none kV doc pm an (.ref cda) ct cc) (body := L2.defBody s_BadNumber_init) (binds := [("self", .ref x), ("part", v)]) hroom (X _ _ ho) rfl hlim (codeRec_of X hcd) rfl (BindsTo.of_eq (by first | rfl | with_unfolding_all rfl)) (by show ∀ x ∈ (L2.defScope s_BadNumber_init).names, x.2 ≠ .cell; decide +kernel) (fun y hy => by rcases List.mem_cons.mp hy with e | hy; (subst e; with_unfolding_all rfl); rcases List.mem_singleton.mp hy with rfl; with_unfolding_all rfl) (fun h₁ hn k => ?_) rfl rfl rfl
  have X₁ : K.In h₁ := X.keeps k
  have hx₁ := k _ _ hx
  have hC₁ := X₁ _ _ hC
  have hxC : x ≠ C := fun e => by rw [e] at hnx; rw [hC] at hnx; cases hnx
  refine ks_wpAt_execs_cons (ks_wpAt_Expr_any (ks_wpAt_MethodCall ?_))
  have nxt : ∀ (h₂ : Heap) (tk₂ : Nat) (t1 : Addr), (∀ b o, b ≠ x → h₁.get? b = some o → h₂.get? b = some o) → h₂.get? x = some (excO C t1) → s.heap.objs.size < h₂.objs.size →
      _root_.PySem.wpAt (model prog w) (A.deeper (ksEnv "BadNumber.__init__" (L2.defScope s_BadNumber_init) s.heap.objs.size fI (.ref cda) cc)) (.func (L2.defBody s_BadNumber_init) (ksEnv "BadNumber.__init__" (L2.defScope s_BadNumber_init) s.heap.objs.size fI (.ref cda) cc))
        (execs (L2.defBody s_BadNumber_init).tail (ksEnv "BadNumber.__init__" (L2.defScope s_BadNumber_init) s.heap.objs.size fI (.ref cda) cc)) (fun f s' => R (.ok (.ret (match f with | .ret v => v | _ => .none))) s')
        (fun e s' => wpAny (model prog w) (A.deeper (ksEnv "BadNumber.__init__" (L2.defScope s_BadNumber_init) s.heap.objs.size fI (.ref cda) cc)) (leaving (ksEnv "BadNumber.__init__" (L2.defScope s_BadNumber_init) s.heap.objs.size fI (.ref cda) cc) e) (fun _ s'' => R (.error e) s'') (fun e' s'' => R (.error e') s'') s')
        { s with heap := h₂, toks := tk₂ } := by
    intro h₂ tk₂ t1 k₂ hx₂ hsz
    have xL : s.heap.objs.size ≠ x := Nat.ne_of_gt (Heap.lt_size hx)
    obtain ⟨oL, es, ep, hL, rr⟩ := hn
    have hn₂ : h₂.Ns s.heap.objs.size (fun y => List.lookup y [("part", v), ("self", Value.ref x)]) := ⟨oL, es, ep, k₂ _ _ xL hL, rr⟩
    have X₂ : K.In h₂ := fun a o e => k₂ a o (fun z => by rw [z, hnx] at e; cases e) (X₁ a o e)
    refine wpAt_of_wpAny (wpAny_execs_cons (plainObj_wpAny_Assign_Attribute ?_))
    refine wpAny_Name (wpAny_loadName_local rfl (by with_unfolding_all rfl) hn₂ (v := v) (by with_unfolding_all rfl) ?_) (by decide)
    refine wpAny_Name (wpAny_loadName_local rfl (by with_unfolding_all rfl) hn₂ (v := .ref x) (by with_unfolding_all rfl) ?_) (by decide)
    refine set_plain X₂ (ox := excO C t1) (od := none) ⟨hx₂, rfl, rfl, trivial⟩ T.sa ?_
    refine exc_osa X₂ hx₂ hcl (show refsVE (.ref C :: bm) = true from hbm) rfl T.noN (fun h₃ tk₃ dx k₃ dn dne hx₃ hn₃ => ?_)
    refine wpAny_execs_nil (hq h₃ tk₃ dx t1 ⟨fun b o hb e => k₃ b o hb (k₂ b o hb (k b o e)), hx₃, Nat.le_of_lt (Nat.lt_of_lt_of_le hsz dn), dne, hn₃⟩)
  refine ks_wpAt_super_base (env := ksEnv "BadNumber.__init__" (L2.defScope s_BadNumber_init) s.heap.objs.size fI (.ref cda) cc) (by with_unfolding_all rfl) (by with_unfolding_all rfl) (by decide) rfl (X₁ _ _ ho) rfl (by with_unfolding_all rfl) rfl (X₁ _ _ hcode) rfl hvs hfile htop ?_
  refine ks_loadName_global rfl (by with_unfolding_all rfl) (loadGlobal_builtin (env := ksEnv "BadNumber.__init__" (L2.defScope s_BadNumber_init) s.heap.objs.size fI (.ref cda) cc) (hg.keeps k) hm (hb.keeps k) hmb ⟨rfl, ?_⟩)
  refine wpAny_loadName_free rfl (by with_unfolding_all rfl) rfl ⟨_, X₁ _ _ hcell, rfl⟩ ?_
  refine wpAny_loadName_local rfl (by with_unfolding_all rfl) hn (v := .ref x) (by with_unfolding_all rfl) ?_
  refine ks_wpAny_isType_cls hC₁ rfl ⟨rfl, ?_⟩
  refine ks_wpAny_call_super hC₁ rfl hx₁ rfl (fun c e => by cases e) (looks_mroIn X₁ T.mr) (fun h₂ hso k₂ => ?_)
  have X₂ : K.In h₂ := X₁.keeps k₂
  have I₂ : InstAt h₂ x (excO C t0) C none := ⟨k₂ _ _ hx₁, rfl, rfl, trivial⟩
  have hsup := T.sup
  unfold ks_superIn at hsup
  rw [hcl] at hsup
  refine kxs_getMethod kxs_ValueError hso (looks_opaque X₂ T.sta) (l₀ := .ref C :: bm) (fun A Q E s k q => wpAny_bind ((looks_clsIn X₂ hcl) A _ E s k (wpAny_pure q))) rfl X₂ hsup (I₂.type.andThen (looks_subIn X₂ T.vE)) hxC (by decide) ?_
  refine kxs_callWith (i := "ValueError.__init__") (x := x) rfl ?_
  refine evalArgs_plain ?_
  refine PyProof.Rows.spliced_more (Calls.Constant_str (PyProof.Rows.spliced_none ?_))
  have hu : (h₂.push (kxs_mw "ValueError.__init__" x)).get? h₂.objs.size = some (kxs_mw "ValueError.__init__" x) := Heap.get?_push_at rfl rfl
  have he : (h₂.push (kxs_mw "ValueError.__init__" x)).get? x = some (excO C t0) := Heap.get?_push_of_some _ (k₂ _ _ hx₁)
  refine ⟨hu, ?_⟩
  refine wpAny_call (codeAny_of_tree ?_)
  show wpAny _ _ (callAny (.ref h₂.objs.size) ⟨_, []⟩) _ _ _
  simp only [callAny]
  refine wpAny_bind (wpAny_load hu ?_)
  simp only [kxs_mw, show (Value.type "method-wrapper" == Value.type "method" || Value.type "method-wrapper" == Value.type "builtin_function_or_method" || Value.type "method-wrapper" == Value.type "method-wrapper") = true by decide, if_true]
  refine KFB.if_so (by decide) ?_
  refine wpAny_bind (check_bound_init F.excBase_ValueError.toExcCallFacts (Heap.get?_push_of_some _ (k₂ _ _ hC₁)) he rfl ?_)
  refine wpAny_bind (wpAny_pure (wpAny_pure ?_))
  refine ⟨plainId_quiet F.excBase_ValueError.init.plain _, codeAny_builtin F.excBase_ValueError.initEntry ?_⟩
  refine exc_init_tree (cls := .ref C) (t0 := t0) (dv := none) (c2 := .none) (c3 := .none) (b4 := .bool false) he (one_size _) fun h' kk e' t' => ?_
  have hlt : s.heap.objs.size < h'.objs.size := by
    obtain ⟨oL, es, ep, hL, rr⟩ := hn
    exact Heap.lt_size (kk _ _ (Nat.ne_of_gt (Heap.lt_size hx)) (Heap.get?_push_of_some _ (k₂ _ _ hL)))
  exact nxt h' _ _ (fun b o hb e => kk b o hb (Heap.get?_push_of_some _ (k₂ b o e))) e' hlt
end
section
variable {prog : Program} {w : World} {A : Around} {E : Value → Shared → Prop} {R : Result → Shared → Prop} {s : Shared} {K : Frag} {mg mb : PySem.Str → Option Value} {C fI : Addr}
theorem made_BadNumber (T : SupTxt K C fI "BadNumber.__init__" "part" s_BadNumber_init) {v : Value} (X : K.In s.heap) (hlim : s.heap.NoLimit) (hg : s.heap.Ns mainGlobals mg) (hm : mg "super" = none) (hb : s.heap.Ns builtinsNs mb) (hmb : mb "super" = some (.type "super"))
    (hfile : (prog.main.file == P0.main.file) = true) (htop : (prog.main.scope.names.lookup ("super" : PySem.Str)).isSome = false) (hroom : A.depth + 1 < recursionLimit)
    (hq : ∀ h' tk e d, OwnMade s.heap h' e C d "part" v → R (.ok (.ret (.ref e))) { s with heap := h', toks := tk }) :
    codeAny (model prog w) A (.call (.ref C) ⟨[v], []⟩) R s := by
  obtain ⟨nm, q, N, bs, bm, sn, sub, ab, col, dd, k0, k1, k2, k3, k5, hC, hbm⟩ := T.cls
  obtain ⟨hp, g, dr, tk, os⟩ := s
  have k : ∀ b o, hp.get? b = some o → ((hp.push (kdv_tup [v])).push (excO C hp.objs.size)).get? b = some o := fun b o e => Heap.get?_push_of_some _ (Heap.get?_push_of_some _ e)
  have hget : ((hp.push (kdv_tup [v])).push (excO C hp.objs.size)).get? (hp.objs.size + 1) = some (excO C hp.objs.size) := by heap_get
  have hnx : K.lookup (hp.objs.size + 1) = none := by
    cases e : K.lookup (hp.objs.size + 1) with
    | none => rfl
    | some o =>
      have z : hp.get? (hp.objs.size + 1) = some o := X _ _ e
      exact absurd (Nat.lt_of_succ_lt (Heap.lt_size z)) (Nat.lt_irrefl _)
  refine call_own F.excBase_ValueError (fun X => refsVE_contains X bm hbm) (X _ _ hC) (looks_findIn X T.iC) (fun self => bind_fn X self T.tI) (one_size v) ?_
  refine init_BadNumber (s := ⟨(hp.push (kdv_tup [v])).push (excO C hp.objs.size), g, dr, tk, os⟩) T (X.keeps k) (hlim.keeps k) (hg.keeps k) hm (hb.keeps k) hmb hfile htop hget hnx ?_ fun h' tk' dx t1 ⟨k', hx, dn, dne, hns⟩ => ?_
  · show A.depth + 1 < recursionLimit
    exact hroom
  · have old : ∀ b o, hp.get? b = some o → h'.get? b = some o := fun b o e => k' b o (Nat.ne_of_lt (Nat.lt_succ_of_lt (Heap.lt_size e))) (k b o e)
    have z : hp.objs.size + 1 + 1 ≤ dx := by
      first
        | (simpa only [Heap.size_push] using dn)
        | exact dn
        | (have q := dn; rw [Heap.size_push, Heap.size_push] at q; exact q)
    exact ⟨rfl, hq h' tk' (hp.objs.size + 1) dx ⟨old, Nat.le_succ _, ⟨_, _, hx, rfl, rfl, rfl, rfl⟩, Nat.le_trans (Nat.le_trans (Nat.le_succ _) (Nat.le_succ _)) z, dne, hns⟩⟩
end
section
open PySem.Spec L2
variable {X : Cx} {C fI : Addr}
theorem pmk_BadNumber {a : Expr} {ta : TA} {p pos : Pos} {k : Nat} (T : SupTxt X.K C fI "BadNumber.__init__" "part" s_BadNumber_init) (gC : X.mg "BadNumber" = some (.ref C)) (hm : X.mg "super" = none) (hfile : (X.prog.main.file == P0.main.file) = true) (htop : (X.prog.main.scope.names.lookup ("super" : PySem.Str)).isSome = false)
    (hr : Room k X.A) (ha : PA X [a] ta) (hg : Gl X "BadNumber" := by rfl)
    (he : starEach (a :: []) X.env = (false, eval a X.env) :: starEach [] X.env := by rfl) (hpl : (backTo pos (starEach [] X.env)).any (·.1) = false := by rfl) :
    PMk X (.Call (.Name "BadNumber" p) [a] [] pos) (tMkX C "part" ta) := by
  intro pins s σ H Q I h
  refine wpAny_Call_Name_kw (ld_glob I hg gC ?_)
  refine PySem.W.callWith_K (h₀ := X.base) I.ok.mod.kin T.kC (thn (ha.run pos pins s σ H _ I h) fun us s1 hh => ?_) he hpl
  obtain ⟨vs, H1, I1, r1, v, ev, q1⟩ := hh
  subst ev
  refine ⟨I1.kIn, ?_⟩
  cases r1 with
  | cons rv rn =>
    rename_i v' us'
    cases rn
    show wpAny _ _ (call (.ref C) [v']) _ _ _
    have hlim := I1.nolimit
    obtain ⟨mb, hb1, hb2⟩ := I1.mod.blt
    have hg1 := I1.mod.glob.keeps I1.bk
    have hb1' := hb1.keeps I1.bk
    have kin1 := I1.kIn
    obtain ⟨hp, g, dr, tk, os⟩ := s1
    refine wpAny_call (made_BadNumber T kin1 hlim hg1 hm hb1' ((hb2 "super" (by decide)).trans (by decide +kernel)) hfile htop (by have := hr.dp; omega) fun h' tk' e d M => ?_)
    show MkP X pins σ Q (.ref e) ⟨h', g, dr, tk', os⟩
    obtain ⟨oe, fv, hoe, hc, hd, hdat, h1⟩ := M.obj
    have hns := M.ns
    obtain ⟨G', g1, g2⟩ := restrict h' fun b => decide (b ≠ e)
    have gk : ∀ b, b ≠ e → G'.get? b = h'.get? b := fun b hb => g1 b (decide_eq_true hb)
    have ge : G'.get? e = none := g2 e (by simp)
    have old : ∀ b o, hp.get? b = some o → G'.get? b = some o := fun b o q => (gk b (Nat.ne_of_lt (Nat.lt_of_lt_of_le (Heap.lt_size q) M.new))).trans (M.keep b o q)
    have ob : ObjOk X.prog X.w (upd H1 d (.xd [("part", v)])) G' d (.xd [("part", v)]) :=
      ⟨_, hns.at (fun o q => (gk d M.dne).trans q), fun f => relO_one rv f⟩
    have J : Inv X pins σ (upd H1 d (.xd [("part", v)])) ⟨G', g, dr, tk', os⟩ := I1.laid (t' := tk') old M.dbig ob
    refine ⟨e, oe, fv, ⟨G', g, dr, tk', os⟩, _, .ref C, some d, rfl, J, fun b o q => ?_, ge, hoe, ⟨hc, hd⟩, hdat, h1, ?_, rfl, I1.bare, raises_own T.exC T.tyC, q1 d (I1.hok.fresh M.dbig)⟩
    · by_cases hb : b = e
      · have q' : G'.get? b = some o := q
        rw [hb, ge] at q'; cases q'
      · exact (gk b hb).symm.trans q
    · rw [upd_ne (Ne.symm M.dne)]
      exact I1.hok.fresh M.new
end

section
variable {prog : Program} {w : World} {A : Around} {E : Value → Shared → Prop} {R : Result → Shared → Prop} {s : Shared} {K : Frag} {mg mb : PySem.Str → Option Value} {C fI : Addr}
theorem init_NotNow (T : SupTxt K C fI "NotNow.__init__" "word" s_NotNow_init) {x t0 : Addr} {v : Value} (X : K.In s.heap) (hlim : s.heap.NoLimit) (hg : s.heap.Ns mainGlobals mg) (hm : mg "super" = none) (hb : s.heap.Ns builtinsNs mb) (hmb : mb "super" = some (.type "super"))
    (hfile : (prog.main.file == P0.main.file) = true) (htop : (prog.main.scope.names.lookup ("super" : PySem.Str)).isSome = false) (hx : s.heap.get? x = some (excO C t0)) (hnx : K.lookup x = none) (hroom : A.depth < recursionLimit)
    (hq : ∀ h' tk dx t1, InitEnd s.heap h' x C dx t1 "word" v → R (.ok (.ret .none)) { s with heap := h', toks := tk }) :
    codeAny (model prog w) A (.call (.ref fI) ⟨[.ref x, v], []⟩) R s := by
  obtain ⟨oc, od, kV, doc, pm, an, cda, ct, osl, cc, ccl, cdd, vs, ccs, tf, cl, cld, csl, ho, hcd, hcode, hvs, hcell⟩ := T.fn
  obtain ⟨nm, q, N, bs, bm, sn, sub, ab, col, dd, k0, k1, k2, k3, k5, hC, hbm⟩ := T.cls
  have hcl : clsIn K C = some { name := nm, bases := bs, mro := .ref C :: bm, ns := N, qualname := q, hasDict := true, slotNames := sn, subclasses := sub, abstract := ab, collection := col, hasDel := false } := by unfold clsIn; rw [hC] <;> rfl
  refine ks_codeAny_call_defAt (fd := ksFn "__init__" "NotNow.__init__" (L2.defArgs s_NotNow_init) (L2.defBody s_NotNow_init) (L2.defScope s_NotNow_init) .none kV doc pm an (.ref cda) ct cc) (body := L2.defBody s_NotNow_init) (binds := [("self", .ref x), ("word", v)]) hroom (X _ _ ho) rfl hlim (codeRec_of X hcd) rfl (BindsTo.of_eq (by first | rfl | with_unfolding_all rfl)) (by show ∀ x ∈ (L2.defScope s_NotNow_init).names, x.2 ≠ .cell; decide +kernel) (fun y hy => by rcases List.mem_cons.mp hy with e | hy; (subst e; with_unfolding_all rfl); rcases List.mem_singleton.mp hy with rfl; with_unfolding_all rfl) (fun h₁ hn k => ?_) rfl rfl rfl
  have X₁ : K.In h₁ := X.keeps k
  have hx₁ := k _ _ hx
  have hC₁ := X₁ _ _ hC
  have hxC : x ≠ C := fun e => by rw [e] at hnx; rw [hC] at hnx; cases hnx
  refine ks_wpAt_execs_cons (ks_wpAt_Expr_any (ks_wpAt_MethodCall ?_))
  have nxt : ∀ (h₂ : Heap) (tk₂ : Nat) (t1 : Addr), (∀ b o, b ≠ x → h₁.get? b = some o → h₂.get? b = some o) → h₂.get? x = some (excO C t1) → s.heap.objs.size < h₂.objs.size →
      _root_.PySem.wpAt (model prog w) (A.deeper (ksEnv "NotNow.__init__" (L2.defScope s_NotNow_init) s.heap.objs.size fI (.ref cda) cc)) (.func (L2.defBody s_NotNow_init) (ksEnv "NotNow.__init__" (L2.defScope s_NotNow_init) s.heap.objs.size fI (.ref cda) cc))
        (execs (L2.defBody s_NotNow_init).tail (ksEnv "NotNow.__init__" (L2.defScope s_NotNow_init) s.heap.objs.size fI (.ref cda) cc)) (fun f s' => R (.ok (.ret (match f with | .ret v => v | _ => .none))) s')
        (fun e s' => wpAny (model prog w) (A.deeper (ksEnv "NotNow.__init__" (L2.defScope s_NotNow_init) s.heap.objs.size fI (.ref cda) cc)) (leaving (ksEnv "NotNow.__init__" (L2.defScope s_NotNow_init) s.heap.objs.size fI (.ref cda) cc) e) (fun _ s'' => R (.error e) s'') (fun e' s'' => R (.error e') s'') s')
        { s with heap := h₂, toks := tk₂ } := by
    intro h₂ tk₂ t1 k₂ hx₂ hsz
    have xL : s.heap.objs.size ≠ x := Nat.ne_of_gt (Heap.lt_size hx)
    obtain ⟨oL, es, ep, hL, rr⟩ := hn
    have hn₂ : h₂.Ns s.heap.objs.size (fun y => List.lookup y [("word", v), ("self", Value.ref x)]) := ⟨oL, es, ep, k₂ _ _ xL hL, rr⟩
    have X₂ : K.In h₂ := fun a o e => k₂ a o (fun z => by rw [z, hnx] at e; cases e) (X₁ a o e)
    refine wpAt_of_wpAny (wpAny_execs_cons (plainObj_wpAny_Assign_Attribute ?_))
    refine wpAny_Name (wpAny_loadName_local rfl (by with_unfolding_all rfl) hn₂ (v := v) (by with_unfolding_all rfl) ?_) (by decide)
    refine wpAny_Name (wpAny_loadName_local rfl (by with_unfolding_all rfl) hn₂ (v := .ref x) (by with_unfolding_all rfl) ?_) (by decide)
    refine set_plain X₂ (ox := excO C t1) (od := none) ⟨hx₂, rfl, rfl, trivial⟩ T.sa ?_
    refine exc_osa X₂ hx₂ hcl (show refsVE (.ref C :: bm) = true from hbm) rfl T.noN (fun h₃ tk₃ dx k₃ dn dne hx₃ hn₃ => ?_)
    refine wpAny_execs_nil (hq h₃ tk₃ dx t1 ⟨fun b o hb e => k₃ b o hb (k₂ b o hb (k b o e)), hx₃, Nat.le_of_lt (Nat.lt_of_lt_of_le hsz dn), dne, hn₃⟩)
  refine ks_wpAt_super_base (env := ksEnv "NotNow.__init__" (L2.defScope s_NotNow_init) s.heap.objs.size fI (.ref cda) cc) (by with_unfolding_all rfl) (by with_unfolding_all rfl) (by decide) rfl (X₁ _ _ ho) rfl (by with_unfolding_all rfl) rfl (X₁ _ _ hcode) rfl hvs hfile htop ?_
  refine ks_loadName_global rfl (by with_unfolding_all rfl) (loadGlobal_builtin (env := ksEnv "NotNow.__init__" (L2.defScope s_NotNow_init) s.heap.objs.size fI (.ref cda) cc) (hg.keeps k) hm (hb.keeps k) hmb ⟨rfl, ?_⟩)
  refine wpAny_loadName_free rfl (by with_unfolding_all rfl) rfl ⟨_, X₁ _ _ hcell, rfl⟩ ?_
  refine wpAny_loadName_local rfl (by with_unfolding_all rfl) hn (v := .ref x) (by with_unfolding_all rfl) ?_
  refine ks_wpAny_isType_cls hC₁ rfl ⟨rfl, ?_⟩
  refine ks_wpAny_call_super hC₁ rfl hx₁ rfl (fun c e => by cases e) (looks_mroIn X₁ T.mr) (fun h₂ hso k₂ => ?_)
  have X₂ : K.In h₂ := X₁.keeps k₂
  have I₂ : InstAt h₂ x (excO C t0) C none := ⟨k₂ _ _ hx₁, rfl, rfl, trivial⟩
  have hsup := T.sup
  unfold ks_superIn at hsup
  rw [hcl] at hsup
  refine kxs_getMethod kxs_ValueError hso (looks_opaque X₂ T.sta) (l₀ := .ref C :: bm) (fun A Q E s k q => wpAny_bind ((looks_clsIn X₂ hcl) A _ E s k (wpAny_pure q))) rfl X₂ hsup (I₂.type.andThen (looks_subIn X₂ T.vE)) hxC (by decide) ?_
  refine kxs_callWith (i := "ValueError.__init__") (x := x) rfl ?_
  refine evalArgs_plain ?_
  refine PyProof.Rows.spliced_more (Calls.Constant_str (PyProof.Rows.spliced_none ?_))
  have hu : (h₂.push (kxs_mw "ValueError.__init__" x)).get? h₂.objs.size = some (kxs_mw "ValueError.__init__" x) := Heap.get?_push_at rfl rfl
  have he : (h₂.push (kxs_mw "ValueError.__init__" x)).get? x = some (excO C t0) := Heap.get?_push_of_some _ (k₂ _ _ hx₁)
  refine ⟨hu, ?_⟩
  refine wpAny_call (codeAny_of_tree ?_)
  show wpAny _ _ (callAny (.ref h₂.objs.size) ⟨_, []⟩) _ _ _
  simp only [callAny]
  refine wpAny_bind (wpAny_load hu ?_)
  simp only [kxs_mw, show (Value.type "method-wrapper" == Value.type "method" || Value.type "method-wrapper" == Value.type "builtin_function_or_method" || Value.type "method-wrapper" == Value.type "method-wrapper") = true by decide, if_true]
  refine KFB.if_so (by decide) ?_
  refine wpAny_bind (check_bound_init F.excBase_ValueError.toExcCallFacts (Heap.get?_push_of_some _ (k₂ _ _ hC₁)) he rfl ?_)
  refine wpAny_bind (wpAny_pure (wpAny_pure ?_))
  refine ⟨plainId_quiet F.excBase_ValueError.init.plain _, codeAny_builtin F.excBase_ValueError.initEntry ?_⟩
  refine exc_init_tree (cls := .ref C) (t0 := t0) (dv := none) (c2 := .none) (c3 := .none) (b4 := .bool false) he (one_size _) fun h' kk e' t' => ?_
  have hlt : s.heap.objs.size < h'.objs.size := by
    obtain ⟨oL, es, ep, hL, rr⟩ := hn
    exact Heap.lt_size (kk _ _ (Nat.ne_of_gt (Heap.lt_size hx)) (Heap.get?_push_of_some _ (k₂ _ _ hL)))
  exact nxt h' _ _ (fun b o hb e => kk b o hb (Heap.get?_push_of_some _ (k₂ b o e))) e' hlt
end
section
variable {prog : Program} {w : World} {A : Around} {E : Value → Shared → Prop} {R : Result → Shared → Prop} {s : Shared} {K : Frag} {mg mb : PySem.Str → Option Value} {C fI : Addr}
theorem made_NotNow (T : SupTxt K C fI "NotNow.__init__" "word" s_NotNow_init) {v : Value} (X : K.In s.heap) (hlim : s.heap.NoLimit) (hg : s.heap.Ns mainGlobals mg) (hm : mg "super" = none) (hb : s.heap.Ns builtinsNs mb) (hmb : mb "super" = some (.type "super"))
    (hfile : (prog.main.file == P0.main.file) = true) (htop : (prog.main.scope.names.lookup ("super" : PySem.Str)).isSome = false) (hroom : A.depth + 1 < recursionLimit)
    (hq : ∀ h' tk e d, OwnMade s.heap h' e C d "word" v → R (.ok (.ret (.ref e))) { s with heap := h', toks := tk }) :
    codeAny (model prog w) A (.call (.ref C) ⟨[v], []⟩) R s := by
  obtain ⟨nm, q, N, bs, bm, sn, sub, ab, col, dd, k0, k1, k2, k3, k5, hC, hbm⟩ := T.cls
  obtain ⟨hp, g, dr, tk, os⟩ := s
  have k : ∀ b o, hp.get? b = some o → ((hp.push (kdv_tup [v])).push (excO C hp.objs.size)).get? b = some o := fun b o e => Heap.get?_push_of_some _ (Heap.get?_push_of_some _ e)
  have hget : ((hp.push (kdv_tup [v])).push (excO C hp.objs.size)).get? (hp.objs.size + 1) = some (excO C hp.objs.size) := by heap_get
  have hnx : K.lookup (hp.objs.size + 1) = none := by
    cases e : K.lookup (hp.objs.size + 1) with
    | none => rfl
    | some o =>
      have z : hp.get? (hp.objs.size + 1) = some o := X _ _ e
      exact absurd (Nat.lt_of_succ_lt (Heap.lt_size z)) (Nat.lt_irrefl _)
  refine call_own F.excBase_ValueError (fun X => refsVE_contains X bm hbm) (X _ _ hC) (looks_findIn X T.iC) (fun self => bind_fn X self T.tI) (one_size v) ?_
  refine init_NotNow (s := ⟨(hp.push (kdv_tup [v])).push (excO C hp.objs.size), g, dr, tk, os⟩) T (X.keeps k) (hlim.keeps k) (hg.keeps k) hm (hb.keeps k) hmb hfile htop hget hnx ?_ fun h' tk' dx t1 ⟨k', hx, dn, dne, hns⟩ => ?_
  · show A.depth + 1 < recursionLimit
    exact hroom
  · have old : ∀ b o, hp.get? b = some o → h'.get? b = some o := fun b o e => k' b o (Nat.ne_of_lt (Nat.lt_succ_of_lt (Heap.lt_size e))) (k b o e)
    have z : hp.objs.size + 1 + 1 ≤ dx := by
      first
        | (simpa only [Heap.size_push] using dn)
        | exact dn
        | (have q := dn; rw [Heap.size_push, Heap.size_push] at q; exact q)
    exact ⟨rfl, hq h' tk' (hp.objs.size + 1) dx ⟨old, Nat.le_succ _, ⟨_, _, hx, rfl, rfl, rfl, rfl⟩, Nat.le_trans (Nat.le_trans (Nat.le_succ _) (Nat.le_succ _)) z, dne, hns⟩⟩
end
section
open PySem.Spec L2
variable {X : Cx} {C fI : Addr}
theorem pmk_NotNow {a : Expr} {ta : TA} {p pos : Pos} {k : Nat} (T : SupTxt X.K C fI "NotNow.__init__" "word" s_NotNow_init) (gC : X.mg "NotNow" = some (.ref C)) (hm : X.mg "super" = none) (hfile : (X.prog.main.file == P0.main.file) = true) (htop : (X.prog.main.scope.names.lookup ("super" : PySem.Str)).isSome = false)
    (hr : Room k X.A) (ha : PA X [a] ta) (hg : Gl X "NotNow" := by rfl)
    (he : starEach (a :: []) X.env = (false, eval a X.env) :: starEach [] X.env := by rfl) (hpl : (backTo pos (starEach [] X.env)).any (·.1) = false := by rfl) :
    PMk X (.Call (.Name "NotNow" p) [a] [] pos) (tMkX C "word" ta) := by
  intro pins s σ H Q I h
  refine wpAny_Call_Name_kw (ld_glob I hg gC ?_)
  refine PySem.W.callWith_K (h₀ := X.base) I.ok.mod.kin T.kC (thn (ha.run pos pins s σ H _ I h) fun us s1 hh => ?_) he hpl
  obtain ⟨vs, H1, I1, r1, v, ev, q1⟩ := hh
  subst ev
  refine ⟨I1.kIn, ?_⟩
  cases r1 with
  | cons rv rn =>
    rename_i v' us'
    cases rn
    show wpAny _ _ (call (.ref C) [v']) _ _ _
    have hlim := I1.nolimit
    obtain ⟨mb, hb1, hb2⟩ := I1.mod.blt
    have hg1 := I1.mod.glob.keeps I1.bk
    have hb1' := hb1.keeps I1.bk
    have kin1 := I1.kIn
    obtain ⟨hp, g, dr, tk, os⟩ := s1
    refine wpAny_call (made_NotNow T kin1 hlim hg1 hm hb1' ((hb2 "super" (by decide)).trans (by decide +kernel)) hfile htop (by have := hr.dp; omega) fun h' tk' e d M => ?_)
    show MkP X pins σ Q (.ref e) ⟨h', g, dr, tk', os⟩
    obtain ⟨oe, fv, hoe, hc, hd, hdat, h1⟩ := M.obj
    have hns := M.ns
    obtain ⟨G', g1, g2⟩ := restrict h' fun b => decide (b ≠ e)
    have gk : ∀ b, b ≠ e → G'.get? b = h'.get? b := fun b hb => g1 b (decide_eq_true hb)
    have ge : G'.get? e = none := g2 e (by simp)
    have old : ∀ b o, hp.get? b = some o → G'.get? b = some o := fun b o q => (gk b (Nat.ne_of_lt (Nat.lt_of_lt_of_le (Heap.lt_size q) M.new))).trans (M.keep b o q)
    have ob : ObjOk X.prog X.w (upd H1 d (.xd [("word", v)])) G' d (.xd [("word", v)]) :=
      ⟨_, hns.at (fun o q => (gk d M.dne).trans q), fun f => relO_one rv f⟩
    have J : Inv X pins σ (upd H1 d (.xd [("word", v)])) ⟨G', g, dr, tk', os⟩ := I1.laid (t' := tk') old M.dbig ob
    refine ⟨e, oe, fv, ⟨G', g, dr, tk', os⟩, _, .ref C, some d, rfl, J, fun b o q => ?_, ge, hoe, ⟨hc, hd⟩, hdat, h1, ?_, rfl, I1.bare, raises_own T.exC T.tyC, q1 d (I1.hok.fresh M.dbig)⟩
    · by_cases hb : b = e
      · have q' : G'.get? b = some o := q
        rw [hb, ge] at q'; cases q'
      · exact (gk b hb).symm.trans q
    · rw [upd_ne (Ne.symm M.dne)]
      exact I1.hok.fresh M.new
end

end My
end

section
set_option Elab.async false
set_option linter.all false
set_option maxRecDepth 100000
set_option maxHeartbeats 4000000
/-! MC: wrappers; the defs of dances. -/
namespace My
open PySem PySem.Spec PyProof.Rows L2 He LamX
local macro_rules | `(tactic| walk_at "rd") => `(tactic| repeat (with_reducible first
  | refine r_seq ?_ | refine r_asg ?_ | refine r_var (by with_unfolding_all rfl) ?_ | refine r_c ?_ | refine r_op ?_ | refine r_I0 ?_ | refine r_name ?_ | refine r_ret ?_ | refine r_if ?_ | refine r_cons ?_ | refine r_nil ?_
  | refine r_CB ?_ | refine r_call ?_ | refine r_test ?_ | refine r_eqI ?_ | refine r_eqS ?_ | refine r_neI ?_ | refine r_neS ?_ | refine r_drop ?_ | refine r_next ?_ | refine r_ifE ?_ | refine r_B ?_ | refine r_andV ?_ | refine r_orV ?_ | refine r_notV ?_ | refine r_blV ?_
  | refine r_and ?_ | refine r_or ?_ | refine r_not ?_ | refine r_tup ?_ | refine r_lst ?_ | refine r_par ?_ | refine r_exv2 ?_ | refine r_un ?_ | refine r_neg ?_ | refine r_isN ?_ | refine r_notN ?_ | refine r_retN ?_ | refine r_chain ?_
  | refine r_star ?_ | refine r_lstRg ?_ | refine r_rg1 ?_ | refine r_rg2 ?_ | refine r_exi ?_ | refine r_exi2 ?_ | refine r_sl ?_ | refine r_noPart ?_ | refine r_part ?_ | refine r_gnil ?_ | refine r_gcons ?_ | refine r_gsub ?_ | refine r_BM ?_ | refine r_M1 ?_ | refine r_isstr ?_ | refine r_meth ?_ | refine r_make ?_ | refine r_fld ?_ | refine r_abs ?_ | refine r_isiIntInt ?_ | refine r_isiIntBool ?_ | refine r_isiStr ?_ | refine r_min ?_ | refine r_max ?_ | refine r_int1 ?_ | refine r_intb ?_ | refine r_for ?_ | refine r_itup ?_ | refine r_ilist ?_ | refine r_lc ?_ | refine r_yes ?_ | refine r_istr ?_ | refine r_rng1 ?_ | refine r_rng2 ?_))

local macro_rules | `(tactic| walk_at "hp") => `(tactic| (with_reducible first
  | assumption | exact New.at (by assumption)
  | exact SqT.of (by walk_at "hp") | exact SqL.of (by walk_at "hp") | exact Or.inl (by walk_at "hp") | exact Or.inr (by walk_at "hp")
  | exact New.get (by assumption) (by walk_at "hp") | exact Same.get (by assumption) (by walk_at "hp")))

section
variable {P : Program} {w : World} {K : PySem.W.Frag} {mg : Str → Option Value} {base : Heap}
theorem cal_of {k : Nat} {x : Str} {params : Arguments} {body : List Stmt} {scope : Scope} {f : Addr} {fd : FuncData} {N ps : List Str} {sp : Sp} (F : FunD K x x params body scope [] [] f fd) (gm : mg x = some (.ref f))
    (b : ∀ (kV doc pm : Value) (an : Option Addr) (cdv ct : Value) (us : List Value), us.length = ps.length → bindArgs (PySem.W.fnOf x x params body scope Value.none kV doc pm an cdv ct) { pos := us } = pure (ps.zip us))
    (S : FnScope N ps scope) (len : ∀ vs H Q E, sp vs H Q E → vs.length = ps.length)
    (hbody : ∀ (cdv : Value) (A : Around) (outer : List Env) (s : Shared) (H : Hp) (vs : List V) (Q : VK) (E : XK), Room k (A.deeper (envOfC x scope s.heap.objs.size f cdv)) → sp vs H Q E →
      ∃ t, PSs (cxOf C8.CX0 P w K mg base N x scope f cdv A outer s H E).nox body t ∧ t { nx := fun _ H' => Q .non H', rt := Q } (L2.start N vs) H) : C8.Cal P w K mg base (k + 1) x sp [] := by
  refine ⟨f, fd, ps, [], F.ok S len fun cdv A outer s H vs Q E hr h => ?_, gm, F.kp, F.bindsN b, .nil⟩
  obtain ⟨t, h1, h2⟩ := hbody cdv A outer s H vs Q E hr h
  exact ⟨t, h1.nox, h2⟩
def Dv (m : Nat) (d : List Int) : Prop := ∀ s ∈ d, 1 ≤ s.natAbs ∧ s.natAbs < m
def swpN (l : List Int) (k : Nat) : List Int := (l.set (k - 1) (l.getD k 0)).set k (l.getD (k - 1) 0)
def line0 (m : Nat) : List Int := (List.range m).map fun (i : Nat) => (i : Int)
def order (m : Nat) (d : List Int) : List Int := d.foldl (fun l s => swpN l s.natAbs) (line0 m)
theorem swpN_len (l : List Int) (k : Nat) : (swpN l k).length = l.length := by unfold swpN; rw [List.length_set, List.length_set]
theorem line0_len (m : Nat) : (line0 m).length = m := by unfold line0; rw [List.length_map, List.length_range]
theorem order_nil (m : Nat) : order m [] = line0 m := rfl
theorem order_snoc (m : Nat) (d : List Int) (s : Int) : order m (d ++ [s]) = swpN (order m d) s.natAbs := by unfold order; rw [List.foldl_append]; rfl
theorem order_len (m : Nat) (d : List Int) : (order m d).length = m := by
  have key : ∀ (d : List Int) (l : List Int), (d.foldl (fun l s => swpN l s.natAbs) l).length = l.length := fun d => by
    induction d with
    | nil => intro l; rfl
    | cons s d ih => intro l; rw [List.foldl_cons, ih, swpN_len]
  exact (key d _).trans (line0_len m)
theorem rgV_line0 (m : Nat) : rgV 0 (m : Int) = (line0 m).map V.int := by
  unfold rgV line0
  rw [List.map_map]
  have e : ((m : Int) - 0).toNat = m := by omega
  rw [e]
  exact List.map_congr_left fun i _ => by show V.int (0 + (i : Int)) = V.int (i : Int); rw [Int.zero_add]
theorem Dv.mid {m : Nat} {d pre post : List Int} {x : Int} (h : Dv m d) (e : d = pre ++ x :: post) : 1 ≤ x.natAbs ∧ x.natAbs < m := h x (by rw [e]; simp)
def sp_order : Sp := fun vs H Q _ => ∃ (m : Nat) (d : List Int) (a : Addr), vs = [.int m, .ref a] ∧ H a = some (.tup (d.map V.int)) ∧ Dv m d ∧ m ≤ 5 ∧ ∀ p H', Same H H' → H' p = some (.tup ((order m d).map V.int)) → Q (.ref p) H'
theorem c_order_of (T : Tx w K mg base) : C8.Cal P w K mg base 1 "order_of" sp_order [] := by
  obtain ⟨fd, F⟩ := f_order_of T
  refine cal_of F (g_order_of T) (fun _ _ _ _ _ _ us hl => match us, hl with | [_, _], _ => rfl) sc_order_of (fun vs H Q E h => by obtain ⟨_, _, _, rfl, _⟩ := h; rfl) (fun cdv A outer s H vs Q E hr h => ?_)
  obtain ⟨m, d, a, rfl, ha, hd, hm, k⟩ := h
  refine ⟨_, (pss_cons (ps_set (i := 2) sc_order_of.nd rfl (Or.inl rfl) (pe_listRg rfl rfl (b_list T) (prg_1 rfl (b_range T) (pv 0))))
  (pss_cons (ps_for PassesOwn.never rfl (piTup (K := K) (pv 1)) (pg_name (i := 3) sc_order_of.nd rfl (Or.inl rfl))
  (pss_cons (ps_set (i := 4) sc_order_of.nd rfl (Or.inl rfl) (pe_callB callAbs rfl (b_abs T) bb_abs (pa_cons (pv 3) pa_nil)))
  (pss_one (ps_asg (pe_tup (pa_cons (pe_ix (ixL (K := K)) (pv 2) (pv 4) (fun _ _ => rfl)) (pa_cons (pe_ix (ixL (K := K)) (pv 2) (pe_op op_sub (pv 4) pe_int) (fun _ _ => rfl)) pa_nil))) (pgTup (K := K) (n := 2) rfl (pgs_cons (pg_sub (pv 2) (pe_op op_sub (pv 4) pe_int) set_list) (pgs_cons (pg_sub (pv 2) (pv 4) set_list) pgs_nil)))))))
  (pss_one (ps_ret (pe_callTy (callTupOf (K := K)) rfl (b_tuple T) bb_tuple (pa_cons (pv 2) pa_nil)))))), ?_⟩
  walk_at "rd"
  refine ⟨RgOk.of_le (by omega) (by omega) (by omega) (by omega), ?_⟩
  (intro l hl_; generalize he_ : upd _ l _ = H1; have n1 := New.mk hl_ he_.symm; clear hl_ he_)
  walk_at "rd"
  refine forT V.int d (by walk_at "hp") (fun pre σ H' => ∃ v3 v4 : Option V, σ = [some (.int m), some (.ref a), some (.ref l), v3, v4] ∧ Same H H' ∧ H' l = some (.lst ((order m pre).map V.int)))
    ⟨none, none, rfl, n1.same, ?_⟩ (fun pre σ H' ⟨_, _, _, s, _⟩ => (by walk_at "hp")) ?_ ?_
  · rw [n1.at, rgV_line0]; rfl
  · rintro pre x post σ H' e ⟨v3, v4, rfl, s, hl⟩
    obtain ⟨hx1, hx2⟩ := hd.mid e
    have hlen := order_len m pre
    walk_at "rd"
    refine r_ixLI (by walk_at "hp") rfl (by omega) ?_
    walk_at "rd"
    refine r_ixLI (j := x.natAbs - 1) (by walk_at "hp") (by omega) (by omega) ?_
    walk_at "rd"
    refine ⟨(sz1000 (Nat.le_of_ble_eq_true rfl)), ?_⟩
    (intro p hl_; generalize he_ : upd _ p _ = H2; have n2 := New.mk hl_ he_.symm; clear hl_ he_)
    refine r_tupG (by walk_at "hp") rfl ?_
    walk_at "rd"
    refine r_setL (j := x.natAbs - 1) (n2.get hl) (by rw [List.length_map]; exact ixN_of (by omega) (by omega)) ?_
    walk_at "rd"
    refine r_setL (j := x.natAbs) upd_same (by rw [List.length_set, List.length_map]; exact ixN_of rfl (by omega)) ?_
    walk_at "rd"
    refine ⟨_, _, rfl, same_upd (same_upd (s.trans n2.same) n1.free) n1.free, ?_⟩
    rw [upd_same, order_snoc]
    unfold swpN
    rw [List.map_set, List.map_set]
  · rintro σ H' ⟨v3, v4, rfl, s, hl⟩
    walk_at "rd"
    refine r_tupOf (by walk_at "hp") fun p H2 n2 => ?_
    exact k p H2 (s.trans n2.same) n2.at
def sp_num : Sp := fun vs H Q _ => ∃ i : Int, vs = [.int i] ∧ Q (.bl true) H
theorem c_is_number (T : Tx w K mg base) : C8.Cal P w K mg base 1 "is_number" sp_num [] := by
  obtain ⟨fd, F⟩ := f_is_number T
  refine cal_of F (g_is_number T) (fun _ _ _ _ _ _ us hl => match us, hl with | [_], _ => rfl) sc_is_number (fun vs H Q E h => by obtain ⟨_, rfl, _⟩ := h; rfl) (fun cdv A outer s H vs Q E hr h => ?_)
  obtain ⟨i, rfl, k⟩ := h
  refine ⟨_, (pss_one (ps_ret (pe_and (pe_callB (callIsi (K := K)) rfl (b_isinstance T) bb_isinstance (pa_cons (pv 0) (pa_cons (pe_bltn (v := .ty "int") (by rfl) (b_int T) bb_int rfl) pa_nil))) (pe_one (pe_not (pe_callB (callIsi (K := K)) rfl (b_isinstance T) bb_isinstance (pa_cons (pv 0) (pa_cons (pe_bltn (v := .ty "bool") (by rfl) (b_bool T) bb_bool rfl) pa_nil)))))))), ?_⟩
  walk_at "rd"
  refine iteT ?_
  walk_at "rd"
  exact k
def sp_between : Sp := fun vs H Q _ => ∃ i l m : Int, vs = [.int i, .int l, .int m] ∧ Q (.bl (decide (l ≤ i ∧ i ≤ m))) H
theorem c_is_between (T : Tx w K mg base) : C8.Cal P w K mg base 2 "is_between" sp_between [] := by
  obtain ⟨fd, F⟩ := f_is_between T
  refine cal_of F (g_is_between T) (fun _ _ _ _ _ _ us hl => match us, hl with | [_, _, _], _ => rfl) sc_is_between (fun vs H Q E h => by obtain ⟨_, _, _, rfl, _⟩ := h; rfl) (fun cdv A outer s H vs Q E hr h => ?_)
  obtain ⟨i, l, m, rfl, k⟩ := h
  refine ⟨_, (pss_one (ps_ret (pe_and (C8.pe_c (c_is_number (K := K) T) hr (by decide) rfl (pa_cons (pv 0) pa_nil)) (pe_one (pe_chain op_le op_le (pv 1) (pv 0) (pv 2)))))), ?_⟩
  walk_at "rd"
  refine ⟨i, rfl, ?_⟩
  walk_at "rd"
  refine iteT ?_
  walk_at "rd"
  refine ifD (fun h1 => ?_) (fun h1 => ?_)
  · walk_at "rd"
    have e : decide (l ≤ i ∧ i ≤ m) = decide (i ≤ m) := by simp [h1]
    rw [← e]; exact k
  · have e : decide (l ≤ i ∧ i ≤ m) = false := by simp [h1]
    rw [← e]; exact k
def sp_step : Sp := fun vs H Q _ => ∃ (m : Nat) (i : Int), vs = [.int m, .int i] ∧ Q (.bl (decide (1 ≤ i.natAbs ∧ i.natAbs < m))) H
theorem c_is_step (T : Tx w K mg base) : C8.Cal P w K mg base 2 "is_step" sp_step [] := by
  obtain ⟨fd, F⟩ := f_is_step T
  refine cal_of F (g_is_step T) (fun _ _ _ _ _ _ us hl => match us, hl with | [_, _], _ => rfl) sc_is_step (fun vs H Q E h => by obtain ⟨_, _, rfl, _⟩ := h; rfl) (fun cdv A outer s H vs Q E hr h => ?_)
  obtain ⟨m, i, rfl, k⟩ := h
  refine ⟨_, (pss_one (ps_ret (pe_and (C8.pe_c (c_is_number (K := K) T) hr (by decide) rfl (pa_cons (pv 1) pa_nil)) (pe_one (pe_chain op_le op_lt pe_int (pe_callB callAbs rfl (b_abs T) bb_abs (pa_cons (pv 1) pa_nil)) (pv 0)))))), ?_⟩
  walk_at "rd"
  refine ⟨i, rfl, ?_⟩
  walk_at "rd"
  refine iteT ?_
  walk_at "rd"
  refine ifD (fun h1 => ?_) (fun h1 => ?_)
  · walk_at "rd"
    have e : decide (1 ≤ i.natAbs ∧ i.natAbs < m) = decide ((i.natAbs : Int) < (m : Int)) := decide_eq_decide.mpr (by omega)
    rw [← e]; exact k
  · have e : decide (1 ≤ i.natAbs ∧ i.natAbs < m) = false := decide_eq_false (by omega)
    rw [← e]; exact k
def sp_isList : Sp := fun vs H Q _ => ∃ (a : Addr) (xs : List V), vs = [.ref a] ∧ H a = some (.lst xs) ∧ ∀ H', Same H H' → Q (.bl true) H'
theorem c_is_list (T : Tx w K mg base) : C8.Cal P w K mg base 1 "is_list" sp_isList [] := by
  obtain ⟨fd, F⟩ := f_is_list T
  refine cal_of F (g_is_list T) (fun _ _ _ _ _ _ us hl => match us, hl with | [_], _ => rfl) sc_is_list (fun vs H Q E h => by obtain ⟨_, _, rfl, _⟩ := h; rfl) (fun cdv A outer s H vs Q E hr h => ?_)
  obtain ⟨a, xs, rfl, ha, k⟩ := h
  refine ⟨_, (pss_one (ps_ret (pe_callB (callIsiT (K := K)) rfl (b_isinstance T) bb_isinstance (pa_cons (pv 0) (pa_cons (pe_tup (pa_cons (pe_bltn (v := .ty "list") (by rfl) (b_list T) bb_list rfl) (pa_cons (pe_bltn (v := .ty "tuple") (by rfl) (b_tuple T) bb_tuple rfl) pa_nil))) pa_nil))))), ?_⟩
  walk_at "rd"
  refine ⟨(sz1000 (Nat.le_of_ble_eq_true rfl)), ?_⟩
  (intro p hl_; generalize he_ : upd _ p _ = H2; have n2 := New.mk hl_ he_.symm; clear hl_ he_)
  refine ⟨_, p, _, _, _, true, rfl, n2.at, .cons (.ty _) (.cons (.ty _) .nil), .base (.lst (n2.get ha)), kitAny_cons (kit_ty (b := "list") (by decide +kernel : kitB "list" "list" = some true)) (fun z => nomatch z) (fun _ => rfl), ?_⟩
  exact k H2 n2.same
def sp_isPair : Sp := fun vs H Q _ => ∃ (a : Addr) (xs : List V), vs = [.ref a] ∧ H a = some (.tup xs) ∧ Q (.bl (decide (xs.length = 2))) H
theorem c_is_pair (T : Tx w K mg base) : C8.Cal P w K mg base 1 "is_pair" sp_isPair [] := by
  obtain ⟨fd, F⟩ := f_is_pair T
  refine cal_of F (g_is_pair T) (fun _ _ _ _ _ _ us hl => match us, hl with | [_], _ => rfl) sc_is_pair (fun vs H Q E h => by obtain ⟨_, _, rfl, _⟩ := h; rfl) (fun cdv A outer s H vs Q E hr h => ?_)
  obtain ⟨a, xs, rfl, ha, k⟩ := h
  refine ⟨_, (pss_one (ps_ret (pe_and (pe_callB (callIsi (K := K)) rfl (b_isinstance T) bb_isinstance (pa_cons (pv 0) (pa_cons (pe_bltn (v := .ty "tuple") (by rfl) (b_tuple T) bb_tuple rfl) pa_nil))) (pe_one (pe_cmpR op_eq (pe_callB (callLen (K := K)) rfl (b_len T) bb_len (pa_cons (pv 0) pa_nil)) pe_int (nomark _)))))), ?_⟩
  walk_at "rd"
  refine r_isiTup ha ?_
  walk_at "rd"
  refine iteT ?_
  walk_at "rd"
  refine r_lenT (by walk_at "hp") ?_
  walk_at "rd"
  have e : decide ((xs.length : Int) = 2) = decide (xs.length = 2) := decide_eq_decide.mpr (by omega)
  rw [e]; exact k
def sp_isDance : Sp := fun vs H Q _ => ∃ (m : Nat) (d : List Int) (a : Addr), vs = [.int m, .ref a] ∧ H a = some (.tup (d.map V.int)) ∧ Dv m d ∧ d.length ≤ 1000 ∧ ∀ H', Same H H' → Q (.bl true) H'
theorem c_is_dance (T : Tx w K mg base) : C8.Cal P w K mg base 3 "is_dance" sp_isDance [] := by
  obtain ⟨fd, F⟩ := f_is_dance T
  refine cal_of F (g_is_dance T) (fun _ _ _ _ _ _ us hl => match us, hl with | [_, _], _ => rfl) sc_is_dance (fun vs H Q E h => by obtain ⟨_, _, _, rfl, _⟩ := h; rfl) (fun cdv A outer s H vs Q E hr h => ?_)
  obtain ⟨m, d, a, rfl, ha, hd, hz, k⟩ := h
  refine ⟨_, (pss_one (ps_ret (pe_and (pe_callB (callIsi (K := K)) rfl (b_isinstance T) bb_isinstance (pa_cons (pv 1) (pa_cons (pe_bltn (v := .ty "tuple") (by rfl) (b_tuple T) bb_tuple rfl) pa_nil))) (pe_one (pe_callB (callAll (K := K) rfl) rfl (b_all T) bb_all (pa_cons (pe_lc (own := [("step", 2)]) rfl sc_is_dance.nd (piTup (K := K) (pv 1)) (blkOk_by (N := N_is_dance) (sc := defScope s_is_dance) (by decide +kernel)) (fun _ _ _ _ _ => pg_name (i := 2) sc_is_dance.nd rfl (Or.inl rfl)) (fun _ _ _ _ _ => pts_nil) (fun _ _ _ _ _ => (C8.pe_c (c_is_step (K := K) T) hr (by decide) rfl (pa_cons (pv 0) (pa_cons (pv 2) pa_nil))))) pa_nil)))))), ?_⟩
  walk_at "rd"
  refine r_isiTup ha ?_
  walk_at "rd"
  refine iteT ?_
  walk_at "rd"
  refine lcT1 V.int d (fun _ => .bl true) (by walk_at "hp") hz (fun x H' hx s Y hy => ?_) fun D H' hD s hl => ?_
  · walk_at "rd"
    refine ⟨rfl, ?_⟩
    walk_at "rd"
    refine ⟨m, x, rfl, ?_⟩
    rw [decide_eq_true (hd x hx)]
    exact hy _ (Same.refl _)
  · walk_at "rd"
    refine ⟨D, d.map (fun _ => true), rfl, SqL.of (by rw [List.map_map]; exact hl), ?_⟩
    have e : (d.map fun _ => true).all id = true := by simp
    rw [e]
    exact k H' s
def sp_needMany : Sp := fun vs H Q _ => ∃ (m : Nat), vs = [.int m] ∧ 2 ≤ m ∧ m ≤ 5 ∧ Q .non H
theorem c_need_many (T : Tx w K mg base) : C8.Cal P w K mg base 3 "need_many" sp_needMany [] := by
  obtain ⟨fd, F⟩ := f_need_many T
  refine cal_of F (g_need_many T) (fun _ _ _ _ _ _ us hl => match us, hl with | [_], _ => rfl) sc_need_many (fun vs H Q E h => by obtain ⟨_, rfl, _⟩ := h; rfl) (fun cdv A outer s H vs Q E hr h => ?_)
  obtain ⟨m, rfl, h1, h2, k⟩ := h
  refine ⟨_, (pss_one (ps_if (pt_not (pt_val (C8.pe_c (c_is_between (K := K) T) hr (by decide) rfl (pa_cons (pv 0) (pa_cons (C8.pe_gc rfl (v_LEAST T)) (pa_cons (C8.pe_gc rfl (v_MOST_dances T)) pa_nil)))))) (pss_one ps_never) pss_nil)), ?_⟩
  walk_at "rd"
  refine ⟨m, 2, 5, rfl, ?_⟩
  walk_at "rd"
  rw [decide_eq_true (show (2 : Int) ≤ (m : Int) ∧ (m : Int) ≤ 5 by omega)]
  refine iteF ?_
  walk_at "rd"
  exact k
def sp_needDance : Sp := fun vs H Q _ => ∃ (m : Nat) (d : List Int) (a : Addr) (z : Str), vs = [.int m, .ref a, .str z] ∧ H a = some (.tup (d.map V.int)) ∧ Dv m d ∧ d.length ≤ 1000 ∧ ∀ H', Same H H' → Q .non H'
theorem c_need_dance (T : Tx w K mg base) : C8.Cal P w K mg base 4 "need_dance" sp_needDance [] := by
  obtain ⟨fd, F⟩ := f_need_dance T
  refine cal_of F (g_need_dance T) (fun _ _ _ _ _ _ us hl => match us, hl with | [_, _, _], _ => rfl) sc_need_dance (fun vs H Q E h => by obtain ⟨_, _, _, _, rfl, _⟩ := h; rfl) (fun cdv A outer s H vs Q E hr h => ?_)
  obtain ⟨m, d, a, z, rfl, ha, hd, hz, k⟩ := h
  refine ⟨_, (pss_one (ps_if (pt_not (pt_val (C8.pe_c (c_is_dance (K := K) T) hr (by decide) rfl (pa_cons (pv 0) (pa_cons (pv 1) pa_nil))))) (pss_one ps_never) pss_nil)), ?_⟩
  walk_at "rd"
  refine ⟨m, d, a, rfl, ha, hd, hz, fun H' s => ?_⟩
  walk_at "rd"
  refine iteF ?_
  walk_at "rd"
  exact k H' s
def sp_needOne : Sp := fun vs H Q _ => ∃ (m : Nat) (d : List Int) (a : Addr), vs = [.int m, .ref a] ∧ H a = some (.tup (d.map V.int)) ∧ Dv m d ∧ d.length ≤ 1000 ∧ 2 ≤ m ∧ m ≤ 5 ∧ ∀ H', Same H H' → Q .non H'
theorem c_need_one (T : Tx w K mg base) : C8.Cal P w K mg base 5 "need_one" sp_needOne [] := by
  obtain ⟨fd, F⟩ := f_need_one T
  refine cal_of F (g_need_one T) (fun _ _ _ _ _ _ us hl => match us, hl with | [_, _], _ => rfl) sc_need_one (fun vs H Q E h => by obtain ⟨_, _, _, rfl, _⟩ := h; rfl) (fun cdv A outer s H vs Q E hr h => ?_)
  obtain ⟨m, d, a, rfl, ha, hd, hz, h1, h2, k⟩ := h
  refine ⟨_, (pss_cons (ps_expr (C8.pe_c (c_need_many (K := K) T) hr (by decide) rfl (pa_cons (pv 0) pa_nil)))
  (pss_one (ps_expr (C8.pe_c (c_need_dance (K := K) T) hr (by decide) rfl (pa_cons (pv 0) (pa_cons (pv 1) (pa_cons pe_str pa_nil))))))), ?_⟩
  walk_at "rd"
  refine ⟨m, rfl, h1, h2, ?_⟩
  walk_at "rd"
  refine ⟨m, d, a, _, rfl, ha, hd, hz, fun H' s => ?_⟩
  walk_at "rd"
  exact k H' s
end
end My
end

section
set_option Elab.async false
set_option linter.all false
set_option maxRecDepth 100000
set_option maxHeartbeats 4000000
/-! MS: t[::2], and more own rules. -/
namespace My
open PySem PySem.Spec PyProof.Rows L2
local macro_rules | `(tactic| walk_at "rd") => `(tactic| repeat (with_reducible first
  | refine r_seq ?_ | refine r_asg ?_ | refine r_var (by with_unfolding_all rfl) ?_ | refine r_c ?_ | refine r_op ?_ | refine r_I0 ?_ | refine r_name ?_ | refine r_ret ?_ | refine r_if ?_ | refine r_cons ?_ | refine r_nil ?_
  | refine r_CB ?_ | refine r_call ?_ | refine r_test ?_ | refine r_eqI ?_ | refine r_eqS ?_ | refine r_neI ?_ | refine r_neS ?_ | refine r_drop ?_ | refine r_next ?_ | refine r_ifE ?_ | refine r_B ?_ | refine r_andV ?_ | refine r_orV ?_ | refine r_notV ?_ | refine r_blV ?_
  | refine r_and ?_ | refine r_or ?_ | refine r_not ?_ | refine r_tup ?_ | refine r_lst ?_ | refine r_par ?_ | refine r_exv2 ?_ | refine r_un ?_ | refine r_neg ?_ | refine r_isN ?_ | refine r_notN ?_ | refine r_retN ?_ | refine r_chain ?_
  | refine r_star ?_ | refine r_lstRg ?_ | refine r_rg1 ?_ | refine r_rg2 ?_ | refine r_exi ?_ | refine r_exi2 ?_ | refine r_sl ?_ | refine r_noPart ?_ | refine r_part ?_ | refine r_gnil ?_ | refine r_gcons ?_ | refine r_gsub ?_ | refine r_BM ?_ | refine r_M1 ?_ | refine r_isstr ?_ | refine r_meth ?_ | refine r_make ?_ | refine r_fld ?_ | refine r_abs ?_ | refine r_isiIntInt ?_ | refine r_isiIntBool ?_ | refine r_isiStr ?_ | refine r_min ?_ | refine r_max ?_ | refine r_int1 ?_ | refine r_intb ?_ | refine r_for ?_ | refine r_itup ?_ | refine r_ilist ?_ | refine r_lc ?_ | refine r_yes ?_ | refine r_istr ?_ | refine r_rng1 ?_ | refine r_rng2 ?_))

local macro_rules | `(tactic| walk_at "hp") => `(tactic| (with_reducible first
  | assumption | exact New.at (by assumption)
  | exact SqT.of (by walk_at "hp") | exact SqL.of (by walk_at "hp") | exact Or.inl (by walk_at "hp") | exact Or.inr (by walk_at "hp")
  | exact New.get (by assumption) (by walk_at "hp") | exact Same.get (by assumption) (by walk_at "hp")))

def evens {α : Type} : List α → List α
  | [] => []
  | [a] => [a]
  | a :: _ :: r => a :: evens r
theorem evens_get {α : Type} : ∀ (xs : List α) (i : Nat), (evens xs)[i]? = xs[2 * i]?
  | [], i => by simp [evens]
  | [a], 0 => rfl
  | [a], i + 1 => by simp [evens, Nat.mul_add]
  | a :: b :: r, 0 => rfl
  | a :: b :: r, i + 1 => by
    show (evens r)[i]? = (a :: b :: r)[2 * (i + 1)]?
    rw [evens_get r i, show 2 * (i + 1) = 2 * i + 1 + 1 by omega]; rfl
theorem evens_len {α : Type} : ∀ (xs : List α), (evens xs).length = (xs.length + 1) / 2
  | [] => by simp [evens]
  | [a] => by simp [evens]
  | a :: b :: r => by show (evens r).length + 1 = _; rw [evens_len r]; simp; omega
theorem evens_map {α β : Type} (f : α → β) : ∀ (xs : List α), evens (xs.map f) = (evens xs).map f
  | [] => rfl
  | [a] => rfl
  | a :: b :: r => by show f a :: evens (r.map f) = f a :: (evens r).map f; rw [evens_map f r]
theorem evens_vals {xs : List V} {us : List Value} (r : Vals xs us) : Vals (evens xs) (evens us) := by
  have key : ∀ (n : Nat) (xs : List V) (us : List Value), xs.length ≤ n → Vals xs us → Vals (evens xs) (evens us) := by
    intro n
    induction n with
    | zero => intro xs us h r; cases r with | nil => exact .nil | cons _ _ => simp at h
    | succ n ih =>
      intro xs us h r
      cases r with
      | nil => exact .nil
      | cons r1 r2 =>
        cases r2 with
        | nil => exact .cons r1 .nil
        | cons _ r3 => exact .cons r1 (ih _ _ (by simp at h; omega) r3)
  exact key _ xs us (Nat.le_refl _) r
theorem filt_range {α : Type} (f : Nat → Option α) (l : List α) (h : ∀ i, l[i]? = f i) (n : Nat) (hn : l.length = n) : (List.range n).filterMap f = l := by
  have key : ∀ (n : Nat) (l : List α), l.length = n → (List.range n).filterMap (fun i => l[i]?) = l := by
    intro n
    induction n with
    | zero => intro l h; rw [List.eq_nil_of_length_eq_zero h]; rfl
    | succ n ih =>
      intro l h
      cases l with
      | nil => simp at h
      | cons a l =>
        rw [List.range_succ_eq_map, List.filterMap_cons, List.filterMap_map]
        show a :: (List.range n).filterMap (fun i => l[i]?) = a :: l
        rw [ih l (by simpa using h)]
  rw [← key n l hn]
  exact congrArg (fun g => List.filterMap g (List.range n)) (funext fun i => (h i).symm)
section
variable {prog : Program} {w : World} {A : Around} {E : Value → Shared → Prop} {s : Shared}
theorem places2 (n : Nat) : Builtin.Slice.slicePlaces (0 : Int) (n : Int) 2 = (n + 1) / 2 := by
  unfold Builtin.Slice.slicePlaces
  have h1 : (2 : Int) > 0 := by omega
  simp only [h1, if_true]
  split <;> omega
theorem sliceApplied2 {sl : Addr} {u : Tok} {n : Nat} {Q : Int × Int × Nat → Shared → Prop} (hs : s.heap.IsSliceOf sl .none .none (.int 2 u))
    (h : Q ((0 : Int), 2, (n + 1) / 2) s) : wpAny (model prog w) A (Builtin.Slice.sliceApplied (.ref sl) (pure (n : Int))) Q E s := by
  obtain ⟨os, hos, hcs, hds⟩ := id hs
  unfold Builtin.Slice.sliceApplied Builtin.Slice.sliceFields
  refine wpAny_bind (wpAny_bind (wpAny_field hos hds (x := .none) rfl (wpAny_bind (wpAny_field hos hds (x := .none) rfl (wpAny_bind (wpAny_field hos hds (x := .int 2 u) rfl (wpAny_pure ?_)))))))
  refine wpAny_bind (slicePart_int ?_)
  show wpAny _ _ (if ((2 : Int) == 0) = true then _ else _) _ _ s
  rw [if_neg (by decide)]
  refine wpAny_bind (slicePart_none (wpAny_bind (slicePart_none (wpAny_bind (wpAny_pure ?_)))))
  show wpAny _ _ (pure ((0 : Int), (2 : Int), Builtin.Slice.slicePlaces 0 (n : Int) 2)) _ _ s
  rw [places2]
  exact wpAny_pure h
theorem getItem_tuple2 {t sl : Addr} {items : Array Value} {u : Tok} {Q : Value → Shared → Prop} (ht : IsTup s.heap t items) (hs : s.heap.IsSliceOf sl .none .none (.int 2 u))
    (h : Q (.ref s.heap.objs.size) { s with heap := s.heap.push { cls := .type "tuple", data := .seq (evens items.toList).toArray } })
    (hsz : items.size ≤ sizeLine) : wpAny (model prog w) A (getItem (.ref t) (.ref sl)) Q E s := by
  have htake : sizeOk (.seq (evens items.toList).toArray) := by
    show (evens items.toList).toArray.size ≤ sizeLine
    rw [List.size_toArray, evens_len, Array.length_toList]
    omega
  obtain ⟨os, hos, hcs, hds⟩ := id hs
  have hTs : s.TypeIs (.ref sl) "slice" := ⟨os, hos, hcs⟩
  unfold getItem
  try with_reducible refine wpAny_holding ?_
  first | refine wpAny_bind (wpAny_pure ?_) | skip
  refine wpAny_bind (wpAny_sequenceKey ht.typeIs (by decide) ?_)
  refine wpAny_bind (wpAny_callSpecial?_slot (name := Str.ofString "__getitem__") ht.typeIs PyProof.Rows.slot_tuple_getitem
    (wpAny_call_entry PyProof.Rows.slot_tuple_getitem ht.typeIs entry_tuple_getitem ?_ (args_tuple_getitem _ _)))
  show wpAny _ _ (Builtin.Tuple.tupleItemsOf (.ref t) >>= _) _ _ s
  refine wpAny_bind (tupleItemsOf_ ht ?_)
  refine wpAny_bind (wpAny_typeOf hTs ?_)
  rw [if_pos (by decide)]
  refine wpAny_bind (sliceApplied2 hs ?_)
  have hno : ¬ (((0 : Int) == 0 && (2 : Int) == 1 && ((items.size + 1) / 2) == items.size) = true) := by
    intro q
    rw [Bool.and_eq_true, Bool.and_eq_true] at q
    exact absurd q.1.2 (by decide)
  show wpAny _ _ (if ((0 : Int) == 0 && (2 : Int) == 1 && ((items.size + 1) / 2) == items.size) = true then _ else _) _ _ s
  have pick2 : ((List.range ((items.size + 1) / 2)).filterMap fun (k : Nat) => items[((0 : Int) + (k : Int) * 2).toNat]?) = evens items.toList := by
    refine filt_range _ _ (fun i => ?_) _ (by rw [evens_len, Array.length_toList])
    rw [evens_get, Array.getElem?_toList, show ((0 : Int) + (i : Int) * 2).toNat = 2 * i by omega]
  rw [if_neg hno, pick2]
  first
    | exact wpAny_bind (m := Builtin.Tuple.tupleExact _) (wpAny_newObj_type (wpAny_pure ⟨_, rfl, wpAny_pure h⟩) htake)
    | exact wpAny_bind (m := Builtin.Tuple.tupleExact _) (wpAny_newObj_type (wpAny_bind (wpAny_pure (wpAny_pure ⟨_, rfl, wpAny_pure h⟩))) htake)
    | exact wpAny_bind (wpAny_bind (m := Builtin.Tuple.tupleExact _) (wpAny_newObj_type (wpAny_pure (wpAny_pure ⟨_, rfl, wpAny_pure h⟩)) htake))
    | exact wpAny_bind (wpAny_bind (m := Builtin.Tuple.tupleExact _) (wpAny_newObj_type (wpAny_pure ⟨_, rfl, wpAny_pure h⟩) htake))
end
section
variable {X : Cx} {e : Expr} {te : TE} {pos p2 : Pos} {se : Expr}
def tEv (K : PySem.W.Frag) (te : TE) : TE := fun σ H Q => te σ H fun x H1 => ∃ a xs, x = .ref a ∧ SqT K H1 a xs ∧ ∀ p, H1 p = none → Q (.ref p) (upd H1 p (.tup (evens xs)))
theorem pe_ev2 (he : PE X e te) (hc : PO X (some se) (tPart (tC (.int 2)))) : PE X (.Subscript e (.Slice none none (some se) p2) pos) (tEv X.K te) := by
  refine ⟨fun pins s σ H Q I h => ?_⟩
  refine Subscript_ (thn (he.run pins s σ H _ I h) fun v s1 ⟨x, H1, I1, r1, q1⟩ => ?_)
  obtain ⟨a, xs, rfl, hx, q⟩ := q1
  refine wpAny_Slice ?_
  rw [evalPart_none]
  refine wpAny_pure (wpAny_pure ?_)
  refine thn (hc.run pins s1 σ H1 (fun o H' => o = some 2 ∧ H' = H1) I1 ⟨2, rfl, rfl, rfl⟩) fun vst s3 ⟨o, H3, I3, p3, q3⟩ => ?_
  obtain ⟨rfl, rfl⟩ := q3
  cases p3 with
  | int i t =>
    have I4 : Inv X pins σ H3 { s3 with heap := s3.heap.push { cls := .type "slice", data := .fields #[.none, .none, .int 2 t] } } := I3.kept (t' := s3.toks) fun b ob q => Heap.get?_push_of_some _ q
    cases r1
    obtain ⟨its, r, ht, hz⟩ := I4.tuple hx
    show wpAny (model X.prog X.w) X.A (subscriptTail e (.Slice none none (some se) p2) (.ref a) (.ref s3.heap.objs.size)) (EP X pins σ Q) X.xe { s3 with heap := s3.heap.push { cls := .type "slice", data := .fields #[.none, .none, .int 2 t] } }
    refine tail_any (ops := [.ref a, .ref s3.heap.objs.size]) ht.typeIs PyProof.Rows.slot_tuple_getitem.lookup ?_ (by with_unfolding_all rfl)
    have hlen : its.toArray.size = xs.length := by rw [List.size_toArray]; exact r.length.symm
    refine getItem_tuple2 ht (Heap.IsSliceOf.new ..) ?_ (by rw [hlen]; exact hz)
    refine ⟨.ref _, _, I4.laid (t' := s3.toks) (o := .tup (evens xs)) (fun b ob q => Heap.get?_push_of_some _ q) (Nat.le_refl _) ?_, rfl, q _ (I4.hok.fresh (Nat.le_refl _))⟩
    exact ⟨by rw [evens_len]; omega, _, evens_vals r, IsTup.new _ _⟩
end

/-! ### sorted(set(t)), a tuple of ints -/
section
variable {X : Cx} {K : PySem.W.Frag} {w : World}
def rSetOfI (K : PySem.W.Frag) (w : World) : List V → Hp → VK → Prop := fun vs H Q => ∃ (a : Addr) (ns : List Int), vs = [V.ref a] ∧ SqT K H a (ns.map V.int) ∧ ns.length ≤ 60 ∧
  ∀ (p : Addr) (c : Nat), c ≤ ns.length → H p = none → Q (.ref p) (upd H p (SetO w p (fun j => decide (j ∈ ns)) c))
theorem cr_setOfI (hc : X.calm = true) : CallR X (.type "set") (rSetOfI X.K X.w) := by
  intro pins s σ H vs us Q I r h
  obtain ⟨a, ns, rfl, ha, hz, q⟩ := h
  rw [Vals.ref1 r]
  obtain ⟨its, r, ht, _⟩ := I.tuple ha
  refine call_set_tupI ns (I.ok.hd hc) ht (intsAre_of r) (by show ns.length + 1 < scanBound; unfold scanBound; omega) fun h' tk c R hc' hext => ?_
  exact ⟨.ref s.heap.objs.size, upd H s.heap.objs.size (SetO X.w s.heap.objs.size (fun j => decide (j ∈ ns)) c), I.laid (t' := tk) (fun b u e => hext b u e) (Nat.le_refl _) (setO_new R), rfl, q _ c hc' (I.hok.fresh (Nat.le_refl _))⟩
theorem callSetI (hc : X.calm = true) (hk : X.K = K := by rfl) (hw : X.w = w := by rfl) : CallR X (.type "set") (rSetOfI K w) := by subst hk hw; exact cr_setOfI hc
theorem callSortedSet (hc : X.calm = true) (hw : X.w = w := by rfl) : CallR X (.builtin "sorted") (rSortedSet w) := hw ▸ cr_sortedSet hc
end
theorem sorted_unique : ∀ (a b : List Int), a.Pairwise (· < ·) → b.Pairwise (· < ·) → (∀ k : Int, k ∈ a ↔ k ∈ b) → a = b
  | [], [], _, _, _ => rfl
  | [], y :: b, _, _, h => absurd ((h y).mpr List.mem_cons_self) (by simp)
  | x :: a, [], _, _, h => absurd ((h x).mp List.mem_cons_self) (by simp)
  | x :: a, y :: b, ha, hb, h => by
    rw [List.pairwise_cons] at ha hb
    have hxy : x = y := by
      have h1 := (h x).mp List.mem_cons_self
      have h2 := (h y).mpr List.mem_cons_self
      rcases List.mem_cons.mp h1 with e | e
      · exact e
      · rcases List.mem_cons.mp h2 with e2 | e2
        · exact e2.symm
        · have := ha.1 y e2; have := hb.1 x e; omega
    subst hxy
    rw [sorted_unique a b ha.2 hb.2 fun k => ⟨fun hk => ?_, fun hk => ?_⟩]
    · rcases List.mem_cons.mp ((h k).mp (List.mem_cons_of_mem _ hk)) with e | e
      · have := ha.1 k hk; omega
      · exact e
    · rcases List.mem_cons.mp ((h k).mpr (List.mem_cons_of_mem _ hk)) with e | e
      · have := hb.1 k hk; omega
      · exact e

/-! ### readings of dicts, slices and sums of tuples -/
section
variable {nx : St → Hp → Prop} {rt : VK} {bk ct : St → Hp → Prop} {σ : St} {H H' : Hp} {Q : VK} {v x y : V} {K : PySem.W.Frag} {a b d p : Addr} {xs ys : List V} {td ty tv te : TE} {rd : V → V → Hp → VK → Prop}
theorem r_dput (h : tv σ H fun v H1 => td σ H1 fun x H2 => ty σ H2 fun y H3 => ∃ a H4, x = .ref a ∧ DPut H3 a y v H4 ∧ nx σ H4) : sDPut td ty tv ⟨nx, rt, bk, ct⟩ σ H := h
theorem r_daug (h : td σ H fun x H1 => ty σ H1 fun y H2 => ∃ a v, x = .ref a ∧ DGet H2 a y (some v) ∧ tv σ H2 fun y2 H3 => rd v y2 H3 fun z H4 => ∃ H5, DPut H4 a y z H5 ∧ nx σ H5) : sDAug td ty tv rd ⟨nx, rt, bk, ct⟩ σ H := h
theorem r_dget (h : td σ H fun x H1 => ty σ H1 fun y H2 => ∃ a v, x = .ref a ∧ DGet H2 a y (some v) ∧ Q v H2) : tDGet td ty σ H Q := h
theorem r_dnewT (h : ∀ p, H p = none → Q (.ref p) (upd H p (.dT []))) : tDNewT σ H Q := h
theorem r_putT {kvs : List (List Key × V)} {k : List Key} {R : Hp → Prop} (hd : H d = some (.dT kvs)) (hb : H b = some (.tup (k.map kV))) (hl : kvs.length ≤ 1000) (h : R (upd H d (.dT (putK kvs k v)))) : ∃ a H4, V.ref d = .ref a ∧ DPut H a (.ref b) v H4 ∧ R H4 :=
  ⟨d, _, rfl, DPut.t hd hb (small1000 hl), h⟩
theorem r_putT' {kvs : List (List Key × V)} {k : List Key} {R : Hp → Prop} (hd : H d = some (.dT kvs)) (hb : H b = some (.tup (k.map kV))) (hl : kvs.length ≤ 1000) (h : R (upd H d (.dT (putK kvs k v)))) : ∃ H4, DPut H d (.ref b) v H4 ∧ R H4 :=
  ⟨_, DPut.t hd hb (small1000 hl), h⟩
theorem r_putK {kvs : List (Key × V)} {k : Key} {R : Hp → Prop} (hd : H d = some (.dK kvs)) (hl : kvs.length ≤ 1000) (h : R (upd H d (.dK (putK kvs k v)))) : ∃ a H4, V.ref d = .ref a ∧ DPut H a (kV k) v H4 ∧ R H4 :=
  ⟨d, _, rfl, DPut.k hd (small1000 hl), h⟩
theorem r_getT {kvs : List (List Key × V)} {k : List Key} {R : Addr → V → Prop} (hd : H d = some (.dT kvs)) (hb : H b = some (.tup (k.map kV))) (e : valV kvs k = some x) (h : R d x) : ∃ a v, V.ref d = .ref a ∧ DGet H a (.ref b) (some v) ∧ R a v :=
  ⟨d, x, rfl, e ▸ DGet.t hd hb, h⟩
theorem r_getK {kvs : List (Key × V)} {k : Key} {R : Addr → V → Prop} (hd : H d = some (.dK kvs)) (e : valV kvs k = some x) (h : R d x) : ∃ a v, V.ref d = .ref a ∧ DGet H a (kV k) (some v) ∧ R a v :=
  ⟨d, x, rfl, e ▸ DGet.k hd, h⟩
theorem r_addI {i j : Int} (h : Q (.int (i + j)) H) : L2.rAdd (.int i) (.int j) H Q := ⟨i, j, rfl, rfl, h⟩
theorem r_slT {lo hi : Option Int} (ys : List V) (hx : H a = some (.tup xs)) (e : cutV xs lo hi = ys) (h : ∀ p H2, Same H H2 → H2 p = some (.tup ys) → Q (.ref p) H2) : rSlA K (.ref a) lo hi H Q := by
  subst e
  refine ⟨a, xs, rfl, SqT.of hx, fun hw => ?_, fun _ p hp => h p _ (New.mk hp rfl).same upd_same⟩
  refine h a H (Same.refl _) ?_
  rw [hx]
  unfold cutV
  rw [hw.1, hw.2, List.drop_zero, Nat.sub_zero, List.take_of_length_le (Nat.le_refl _)]
theorem r_slL {lo hi : Option Int} (ys : List V) (hx : H a = some (.lst xs)) (e : cutV xs lo hi = ys) (h : ∀ p H2, New H p (.lst ys) H2 → Q (.ref p) H2) : rSlL K (.ref a) lo hi H Q := by
  subst e
  exact ⟨a, xs, rfl, SqL.of hx, new_of h⟩
theorem r_catT (ha : H a = some (.tup xs)) (hb : H b = some (.tup ys)) (hz : xs.length + ys.length ≤ 1000) (h : ∀ p H2, Same H H2 → H2 p = some (.tup (xs ++ ys)) → Q (.ref p) H2) : rCatA K (.ref a) (.ref b) H Q := by
  refine ⟨a, b, xs, ys, rfl, rfl, SqT.of ha, SqT.of hb, sz1000 hz, fun e => ?_, fun _ e => ?_, fun _ _ p hp => h p _ (New.mk hp rfl).same upd_same⟩
  · subst e; exact h b H (Same.refl _) hb
  · subst e; exact h a H (Same.refl _) (by rw [List.append_nil]; exact ha)
theorem r_catL (ha : H a = some (.lst xs)) (hb : H b = some (.lst ys)) (hz : xs.length + ys.length ≤ 1000) (h : ∀ p H2, New H p (.lst (xs ++ ys)) H2 → Q (.ref p) H2) : rCat (.ref a) (.ref b) H Q :=
  ⟨a, b, xs, ys, rfl, rfl, ha, hb, sz1000 hz, new_of h⟩
theorem r_ev (h : te σ H fun x H1 => ∃ a xs, x = .ref a ∧ SqT K H1 a xs ∧ ∀ p, H1 p = none → Q (.ref p) (upd H1 p (.tup (evens xs)))) : tEv K te σ H Q := h
theorem cut_take {α : Type} {f : α → V} {l : List α} {j : Nat} {k : Int} (e : k = (j : Int)) : cutV (l.map f) none (some k) = (l.take j).map f := by
  subst e
  unfold cutV
  rw [HT.sIx_none, HT.sIx_nat, List.drop_zero, Nat.sub_zero, ← List.map_take, List.length_map]
  congr 1
  rcases Nat.le_total j l.length with h | h
  · rw [Nat.min_eq_left h]
  · rw [Nat.min_eq_right h, List.take_of_length_le (Nat.le_refl _), List.take_of_length_le h]
theorem cut_drop {α : Type} {f : α → V} {l : List α} {j : Nat} {k : Int} (e : k = (j : Int)) : cutV (l.map f) (some k) none = (l.drop j).map f := by
  subst e
  unfold cutV
  rw [HT.sIx_none, HT.sIx_nat, ← List.map_drop, ← List.map_take, List.length_map]
  congr 1
  rcases Nat.le_total j l.length with h | h
  · rw [Nat.min_eq_left h, List.take_of_length_le (by rw [List.length_drop]; exact Nat.le_refl _)]
  · rw [Nat.min_eq_right h, Nat.sub_self, List.take_zero, List.drop_eq_nil_of_le h]
theorem cut_mid {α : Type} {f : α → V} {l : List α} {i j : Nat} {k m : Int} (e : k = (i : Int)) (e2 : m = (j : Int)) (h : j ≤ l.length) : cutV (l.map f) (some k) (some m) = ((l.drop i).take (j - i)).map f := by
  subst e e2
  unfold cutV
  rw [HT.sIx_nat, HT.sIx_nat, ← List.map_drop, ← List.map_take, List.length_map, Nat.min_eq_left h]
  congr 1
  rcases Nat.le_total i l.length with h2 | h2
  · rw [Nat.min_eq_left h2]
  · rw [Nat.min_eq_right h2, show j - l.length = 0 by omega, show j - i = 0 by omega, List.take_zero, List.take_zero]
end

section
variable {X : Cx} {K : PySem.W.Frag} {Q : VK} {H : Hp} {a : Addr} {xs : List V}
theorem opRepT (hk : X.K = K := by rfl) : OpR X (binaryOp .Mult) (rRepT K) := hk ▸ op_repT
theorem r_repT {k : Int} (hx : SqT K H a xs) (h0 : xs ≠ []) (h1 : 2 ≤ k) (h2 : k ≤ 1000) (h3 : xs.length ≤ 1000) (h : ∀ p H2, New H p (.tup (List.replicate k.toNat xs).flatten) H2 → Q (.ref p) H2) : rRepT K (.ref a) (.int k) H Q :=
  ⟨a, k, xs, rfl, rfl, hx, h0, h1, h2, h3, new_of h⟩
theorem r_repL {k : Int} (hx : H a = some (.lst xs)) (h1 : 0 ≤ k) (h2 : xs.length * k.toNat ≤ 1000) (h : ∀ p H2, New H p (.lst (List.replicate k.toNat xs).flatten) H2 → Q (.ref p) H2) (h3 : k ≤ 1000 := by omega) : rRep (.ref a) (.int k) H Q :=
  ⟨a, k, xs, rfl, rfl, hx, by omega, by omega, sz1000 h2, new_of h⟩
end

/-- a conditional value: what both ways give is read once -/
theorem ifV {p : Prop} [Decidable p] {σ : St} {H : Hp} {ta tb : TE} {Q : VK} (Φ : V → Hp → Prop) (h1 : p → ∀ Q' : VK, (∀ v H2, Φ v H2 → Q' v H2) → ta σ H Q') (h2 : ¬ p → ∀ Q' : VK, (∀ v H2, Φ v H2 → Q' v H2) → tb σ H Q')
    (h : ∀ v H2, Φ v H2 → Q v H2) : if decide p = true then ta σ H Q else tb σ H Q := ifD (fun hp => h1 hp Q h) fun hp => h2 hp Q h
theorem ifW {b : Bool} {σ : St} {H : Hp} {ta tb : TE} {Q : VK} (Φ : V → Hp → Prop) (h1 : b = true → ∀ Q' : VK, (∀ v H2, Φ v H2 → Q' v H2) → ta σ H Q') (h2 : b = false → ∀ Q' : VK, (∀ v H2, Φ v H2 → Q' v H2) → tb σ H Q')
    (h : ∀ v H2, Φ v H2 → Q v H2) : if b = true then ta σ H Q else tb σ H Q := ifB (fun hp => h1 hp Q h) fun hp => h2 hp Q h

theorem r_ifJ {nx : St → Hp → Prop} {rt : VK} {bk ct : St → Hp → Prop} {σ : St} {H : Hp} {c : TT} {t u : TS} (J : St → Hp → Prop) (h : ∀ N : St → Hp → Prop, (∀ σ' H', J σ' H' → N σ' H') → tIfS c t u ⟨N, rt, bk, ct⟩ σ H) (k : ∀ σ' H', J σ' H' → nx σ' H') : tIfS c t u ⟨nx, rt, bk, ct⟩ σ H := h nx k
/-- a test, what it gives told first -/
theorem r_testJ {tc : TT} {σ : St} {H : Hp} {P : Bool → Hp → Prop} (Φ : Bool → Hp → Prop) (h : ∀ P' : Bool → Hp → Prop, (∀ b H1, Φ b H1 → P' b H1) → tc σ H P') (k : ∀ b H1, Φ b H1 → P b H1) : tc σ H P := h P k
/-- a value, what it gives told first -/
theorem r_valJ {te : TE} {σ : St} {H : Hp} {Q : VK} (Φ : V → Hp → Prop) (h : ∀ Q' : VK, (∀ v H1, Φ v H1 → Q' v H1) → te σ H Q') (k : ∀ v H1, Φ v H1 → Q v H1) : te σ H Q := h Q k
end My
end

section
set_option Elab.async false
set_option linter.all false
set_option autoImplicit false
set_option maxRecDepth 100000
set_option maxHeartbeats 4000000
/-! MT: plain data and its equality. -/
namespace My
open PySem PySem.Spec PyProof.Rows L2
mutual
def plB : PyData → Bool
  | .none | .int _ => true
  | .str x => PyData.strOk x
  | .list xs | .tuple xs => plAll xs
  | .bool _ | .dict _ => false
def plAll : List PyData → Bool
  | [] => true
  | x :: xs => plB x && plAll xs
end
mutual
theorem pl_lay : ∀ d : PyData, plB d = true → d.canLay0 = true
  | .none, _ => by simp only [PyData.canLay0]
  | .int _, _ => by simp only [PyData.canLay0]
  | .str x, h => by simpa [plB, PyData.canLay0] using h
  | .list xs, h => by simp only [PyData.canLay0]; exact pl_layAll xs (by simpa [plB] using h)
  | .tuple xs, h => by simp only [PyData.canLay0]; exact pl_layAll xs (by simpa [plB] using h)
  | .bool _, h => by simp [plB] at h
  | .dict _, h => by simp [plB] at h
theorem pl_layAll : ∀ xs : List PyData, plAll xs = true → PyData.canLayAll0 xs = true
  | [], _ => by simp only [PyData.canLayAll0]
  | x :: xs, h => by
    have h' : plB x = true ∧ plAll xs = true := by simpa [plAll] using h
    simp only [PyData.canLayAll0, pl_lay x h'.1, pl_layAll xs h'.2, Bool.and_self]
end
mutual
theorem pl_eqv : ∀ d e : PyData, plB d = true → plB e = true → (PyData.eqv d e = true ↔ d = e)
  | .none, .none, _, _ => by simp [PyData.eqv]
  | .int i, .int j, _, _ => by simp [PyData.eqv]
  | .str x, .str y, _, _ => by simp [PyData.eqv]
  | .list xs, .list ys, h, h' => by
    simp only [PyData.eqv]
    rw [pl_eqvAll xs ys (by simpa [plB] using h) (by simpa [plB] using h')]
    simp
  | .tuple xs, .tuple ys, h, h' => by
    simp only [PyData.eqv]
    rw [pl_eqvAll xs ys (by simpa [plB] using h) (by simpa [plB] using h')]
    simp
  | .bool _, _, h, _ => by simp [plB] at h
  | .dict _, _, h, _ => by simp [plB] at h
  | .none, .bool _, _, h | .int _, .bool _, _, h | .str _, .bool _, _, h | .list _, .bool _, _, h | .tuple _, .bool _, _, h => by simp [plB] at h
  | .none, .dict _, _, h | .int _, .dict _, _, h | .str _, .dict _, _, h | .list _, .dict _, _, h | .tuple _, .dict _, _, h => by simp [plB] at h
  | .none, .int _, _, _ | .none, .str _, _, _ | .none, .list _, _, _ | .none, .tuple _, _, _ => by simp [PyData.eqv]
  | .int _, .none, _, _ | .int _, .str _, _, _ | .int _, .list _, _, _ | .int _, .tuple _, _, _ => by simp [PyData.eqv]
  | .str _, .none, _, _ | .str _, .int _, _, _ | .str _, .list _, _, _ | .str _, .tuple _, _, _ => by simp [PyData.eqv]
  | .list _, .none, _, _ | .list _, .int _, _, _ | .list _, .str _, _, _ | .list _, .tuple _, _, _ => by simp [PyData.eqv]
  | .tuple _, .none, _, _ | .tuple _, .int _, _, _ | .tuple _, .str _, _, _ | .tuple _, .list _, _, _ => by simp [PyData.eqv]
theorem pl_eqvAll : ∀ xs ys : List PyData, plAll xs = true → plAll ys = true → (PyData.eqvAll xs ys = true ↔ xs = ys)
  | [], [], _, _ => by simp [PyData.eqvAll]
  | x :: xs, y :: ys, h, h' => by
    have h1 : plB x = true ∧ plAll xs = true := by simpa [plAll] using h
    have h2 : plB y = true ∧ plAll ys = true := by simpa [plAll] using h'
    simp only [PyData.eqvAll, Bool.and_eq_true]
    rw [pl_eqv x y h1.1 h2.1, pl_eqvAll xs ys h1.2 h2.2]
    simp
  | [], _ :: _, _, _ => by simp [PyData.eqvAll]
  | _ :: _, [], _, _ => by simp [PyData.eqvAll]
end
/-- data at hand: plain, not deep -/
def PlD (n : Nat) (d : PyData) : Prop := plB d = true ∧ d.depth ≤ n
def PlDs (n : Nat) (ds : List PyData) : Prop := plAll ds = true ∧ PyData.depthAll ds ≤ n
theorem PlDs.nil {n : Nat} : PlDs n [] := ⟨by simp [plAll], by simp [PyData.depthAll]⟩
theorem PlDs.cons {n : Nat} {d : PyData} {ds : List PyData} (h : PlD n d) (h' : PlDs n ds) : PlDs n (d :: ds) :=
  ⟨by simp [plAll, h.1, h'.1], by have := h.2; have := h'.2; simp only [PyData.depthAll]; omega⟩
theorem PlD.tuple {n : Nat} {ds : List PyData} (h : PlDs n ds) : PlD (n + 1) (.tuple ds) := ⟨by simpa [plB] using h.1, by have := h.2; simp only [PyData.depth]; omega⟩
theorem PlD.list {n : Nat} {ds : List PyData} (h : PlDs n ds) : PlD (n + 1) (.list ds) := ⟨by simpa [plB] using h.1, by have := h.2; simp only [PyData.depth]; omega⟩
theorem PlD.int {n : Nat} {i : Int} : PlD n (.int i) := ⟨by simp [plB], by simp [PyData.depth]⟩
theorem PlD.none {n : Nat} : PlD n .none := ⟨by simp [plB], by simp [PyData.depth]⟩
theorem PlD.str {n : Nat} {x : Str} (h : PyData.strOk x = true) : PlD n (.str x) := ⟨by simpa [plB] using h, by simp [PyData.depth]⟩
theorem PlDs.of {n : Nat} : ∀ {ds : List PyData}, (∀ d ∈ ds, PlD n d) → PlDs n ds
  | [], _ => .nil
  | _ :: _, h => .cons (h _ List.mem_cons_self) (PlDs.of fun d hd => h d (List.mem_cons_of_mem _ hd))
theorem PlDs.ints {n : Nat} (l : List Int) : PlDs n (l.map .int) := PlDs.of fun d hd => by obtain ⟨i, _, rfl⟩ := List.mem_map.mp hd; exact .int
theorem PlDs.strs {n : Nat} {l : List Str} (h : ∀ x ∈ l, PyData.strOk x = true) : PlDs n (l.map .str) := PlDs.of fun d hd => by obtain ⟨i, hi, rfl⟩ := List.mem_map.mp hd; exact .str (h i hi)
theorem PlD.shaped {d : PyData} (h : PlD 64 d) : SeqAt.shaped d = true := by
  show (d.canLay0 && decide (d.depth ≤ 64)) = true
  rw [Bool.and_eq_true]
  exact ⟨pl_lay d h.1, decide_eq_true h.2⟩
section
variable {K : PySem.W.Frag} {H H' : Hp}
theorem dp_ints (l : List Int) : DpAll K H (l.map V.int) (l.map .int) := by
  induction l with
  | nil => exact .nil
  | cons a l ih => exact .cons (.int a) ih
theorem dp_strs (l : List Str) : DpAll K H (l.map V.str) (l.map .str) := by
  induction l with
  | nil => exact .nil
  | cons a l ih => exact .cons (.str a) ih
theorem Dp.tupI {a : Addr} {l : List Int} (h : H a = some (.tup (l.map V.int))) : Dp K H (.ref a) (.tuple (l.map .int)) := .tup (SqT.of h) (dp_ints l)
theorem Dp.tupS {a : Addr} {l : List Str} (h : H a = some (.tup (l.map V.str))) : Dp K H (.ref a) (.tuple (l.map .str)) := .tup (SqT.of h) (dp_strs l)
theorem Dp.lstI {a : Addr} {l : List Int} (h : H a = some (.lst (l.map V.int))) : Dp K H (.ref a) (.list (l.map .int)) := .lst (SqL.of h) (dp_ints l)
theorem Dp.lstS {a : Addr} {l : List Str} (h : H a = some (.lst (l.map V.str))) : Dp K H (.ref a) (.list (l.map .str)) := .lst (SqL.of h) (dp_strs l)
mutual
theorem Dp.same (s : Same H H') : ∀ (d : PyData) (v : V), Dp K H v d → Dp K H' v d
  | .none, _, h => by cases h; exact .non
  | .bool _, _, h => by cases h; exact .bl _
  | .int _, _, h => by cases h; exact .int _
  | .str _, _, h => by cases h; exact .str _
  | .list ds, _, h => by cases h with | lst hs ha => exact .lst (s.seq hs) (Dp.sameAll s ds _ ha)
  | .tuple ds, _, h => by cases h with | tup hs ha => exact .tup (hs.ext s) (Dp.sameAll s ds _ ha)
  | .dict _, _, h => by cases h
theorem Dp.sameAll (s : Same H H') : ∀ (ds : List PyData) (vs : List V), DpAll K H vs ds → DpAll K H' vs ds
  | [], _, h => by cases h; exact .nil
  | d :: ds, _, h => by cases h with | cons h1 h2 => exact .cons (Dp.same s d _ h1) (Dp.sameAll s ds _ h2)
end
variable {Q : VK} {x y : V} {a b : Addr}
theorem r_eqG {p : Prop} [Decidable p] {d e : PyData} (hx : Dp K H x d) (hy : Dp K H y e) (pd : PlD 64 d) (pe : PlD 64 e) (hp : p ↔ d = e) (h : Q (.bl (decide p)) H) : rEqD K x y H Q := by
  refine ⟨d, e, hx, hy, pd.shaped, pe.shaped, ?_⟩
  have e1 : PyData.eqv d e = decide p := by
    rw [Bool.eq_iff_iff, pl_eqv d e pd.1 pe.1, decide_eq_true_iff]; exact hp.symm
  rw [e1]; exact h
theorem r_neG {p : Prop} [Decidable p] {d e : PyData} (hx : Dp K H x d) (hy : Dp K H y e) (pd : PlD 64 d) (pe : PlD 64 e) (hp : p ↔ d = e) (h : Q (.bl (!decide p)) H) : rNeD K x y H Q := by
  refine ⟨d, e, hx, hy, pd.shaped, pe.shaped, ?_⟩
  have e1 : PyData.eqv d e = decide p := by
    rw [Bool.eq_iff_iff, pl_eqv d e pd.1 pe.1, decide_eq_true_iff]; exact hp.symm
  rw [e1]; exact h
theorem ints_inj {l m : List Int} : l.map PyData.int = m.map PyData.int ↔ l = m := ⟨fun h => (List.map_inj_right (fun _ _ e => PyData.int.inj e)).mp h, fun h => by rw [h]⟩
theorem strs_inj {l m : List Str} : l.map PyData.str = m.map PyData.str ↔ l = m := ⟨fun h => (List.map_inj_right (fun _ _ e => PyData.str.inj e)).mp h, fun h => by rw [h]⟩
theorem tupI_iff {l m : List Int} : l = m ↔ PyData.tuple (l.map .int) = PyData.tuple (m.map .int) := ⟨fun h => by rw [h], fun h => ints_inj.mp (PyData.tuple.inj h)⟩
theorem lstI_iff {l m : List Int} : l = m ↔ PyData.list (l.map .int) = PyData.list (m.map .int) := ⟨fun h => by rw [h], fun h => ints_inj.mp (PyData.list.inj h)⟩
theorem tupS_iff {l m : List Str} : l = m ↔ PyData.tuple (l.map .str) = PyData.tuple (m.map .str) := ⟨fun h => by rw [h], fun h => strs_inj.mp (PyData.tuple.inj h)⟩
theorem lstS_iff {l m : List Str} : l = m ↔ PyData.list (l.map .str) = PyData.list (m.map .str) := ⟨fun h => by rw [h], fun h => strs_inj.mp (PyData.list.inj h)⟩
theorem PlD.low {n m : Nat} {d : PyData} (h : PlD n d) (e : n ≤ m := by omega) : PlD m d := ⟨h.1, Nat.le_trans h.2 e⟩
theorem r_eqTI {l m : List Int} (ha : H a = some (.tup (l.map V.int))) (hb : H b = some (.tup (m.map V.int))) (h : Q (.bl (decide (l = m))) H) : rEqD K (.ref a) (.ref b) H Q :=
  r_eqG (Dp.tupI ha) (Dp.tupI hb) (PlD.tuple (n := 63) (.ints _)) (PlD.tuple (n := 63) (.ints _)) tupI_iff h
theorem r_neTI {l m : List Int} (ha : H a = some (.tup (l.map V.int))) (hb : H b = some (.tup (m.map V.int))) (h : Q (.bl (!decide (l = m))) H) : rNeD K (.ref a) (.ref b) H Q :=
  r_neG (Dp.tupI ha) (Dp.tupI hb) (PlD.tuple (n := 63) (.ints _)) (PlD.tuple (n := 63) (.ints _)) tupI_iff h
theorem r_eqLI {l m : List Int} (ha : H a = some (.lst (l.map V.int))) (hb : H b = some (.lst (m.map V.int))) (h : Q (.bl (decide (l = m))) H) : rEqD K (.ref a) (.ref b) H Q :=
  r_eqG (Dp.lstI ha) (Dp.lstI hb) (PlD.list (n := 63) (.ints _)) (PlD.list (n := 63) (.ints _)) lstI_iff h
theorem r_neLI {l m : List Int} (ha : H a = some (.lst (l.map V.int))) (hb : H b = some (.lst (m.map V.int))) (h : Q (.bl (!decide (l = m))) H) : rNeD K (.ref a) (.ref b) H Q :=
  r_neG (Dp.lstI ha) (Dp.lstI hb) (PlD.list (n := 63) (.ints _)) (PlD.list (n := 63) (.ints _)) lstI_iff h
end
end My
end

section
set_option Elab.async false
set_option linter.all false
set_option maxRecDepth 100000
set_option maxHeartbeats 4000000
/-! MU: t * k for any k from 1, text * 0. -/
namespace My
open PySem PySem.Spec PyProof.Rows L2
theorem tuple_mul1 (l : Addr) (items : Array Value) (n : Nat) (dd : Option Addr) (sl : Array (Option Value)) (u : Tok) :
    Meets (Builtin.«tuple.__mul__» ⟨[.ref l, .int 1 u], []⟩) (fun _ R s => s.heap.get? l = some { cls := .type "tuple", dict := dd, data := .seq items n, slots := sl } ∧ R (.ok (.ret (Value.ref l))) s) :=
  .of_wp fun prog w A R s h => by
    obtain ⟨hp, g, d, tk, os⟩ := s
    obtain ⟨hl, h⟩ := h
    wp_walk using wpAny_loadPart' hl
    repeat (first
      | (refine wpAny_ite_false (decide_eq_false (by decide)) ?_; wp_walk using wpAny_loadPart' hl)
      | (refine wpAny_ite_true (decide_eq_true (by simp)) ?_; wp_walk using wpAny_loadPart' hl))
    exact ⟨_, rfl, h⟩
def rRepT1 (K : PySem.W.Frag) : R2 := fun x y H Q => ∃ l k xs, x = .ref l ∧ y = .int k ∧ SqT K H l xs ∧ xs ≠ [] ∧ 1 ≤ k ∧ k ≤ 1000 ∧ xs.length ≤ 1000 ∧ (k = 1 → Q (.ref l) H) ∧ (k ≠ 1 → ∀ p, H p = none → Q (.ref p) (upd H p (.tup (List.replicate k.toNat xs).flatten)))
section
variable {X : Cx} {K : PySem.W.Frag}
theorem op_repT1 : OpR X (binaryOp .Mult) (rRepT1 X.K) := by
  intro pins s σ H x y v u Q I rx ry h
  obtain ⟨l, k, xs, rfl, rfl, hT, hne, h1, h2, hz, q1, q2⟩ := h
  by_cases hk : k = 1
  · subst hk
    cases rx
    obtain ⟨t, rfl⟩ := ry
    obtain ⟨its, r, ⟨⟨cls, dd, data, sl⟩, ho, hc, n, hd⟩, hs⟩ := I.tuple hT
    simp only at hc hd
    subst hc hd
    exact wpAny_binaryOp_repeat_ref (T := "tuple") (U := "int") (by decide) ⟨_, ho, rfl⟩ (fun s' => typeIs_int s' 1 t) noFill_tuple_mul F.fills_int_mul F.slot_int_rmul repeat_tuple F.slot_int_index.lookup
      (call_meets F.slot_int_rmul (typeIs_int s 1 t) F.entry_int_rmul (F.args_int_rmul_2 _ _) (int_rmul_tuple 1 t l its.toArray n dd sl)
        ⟨ho, rfl, ⟨_, ho, rfl⟩, call_meets F.slot_tuple_mul ⟨_, ho, rfl⟩ F.entry_tuple_mul (F.args_tuple_mul_2 _ _) (tuple_mul1 l its.toArray n dd sl t) ⟨ho, ⟨.ref l, H, I, rfl, q1 rfl⟩⟩⟩)
  · exact op_repT pins s σ H _ _ v u Q I rx ry ⟨l, k, xs, rfl, rfl, hT, hne, by omega, h2, hz, q2 hk⟩
theorem opRepT1 (hk : X.K = K := by rfl) : OpR X (binaryOp .Mult) (rRepT1 K) := hk ▸ op_repT1
def rRepS0 : R2 := fun x y H Q => ∃ z, x = .str z ∧ y = .int 0 ∧ Q (.str "") H
theorem op_repS0 : OpR X (binaryOp .Mult) rRepS0 := by
  intro pins s σ H x y v u Q I rx ry h
  obtain ⟨z, rfl, rfl, q⟩ := h
  obtain ⟨t, rfl⟩ := rx
  obtain ⟨t2, rfl⟩ := ry
  exact PySem.P.mul_str_none (by decide) (by decide) ⟨.str "", H, I.tok _, ⟨_, rfl⟩, q⟩
theorem r_repT1 {Q : VK} {H : Hp} {a : Addr} {α : Type} {f : α → V} {x : α} {k : Nat} (hx : H a = some (.tup [f x])) (h1 : 1 ≤ k) (h2 : k ≤ 1000) (h : ∀ p H2, Same H H2 → H2 p = some (.tup ((List.replicate k x).map f)) → Q (.ref p) H2) : rRepT1 K (.ref a) (.int k) H Q := by
  refine ⟨a, k, _, rfl, rfl, SqT.of hx, by simp, by omega, by omega, by simp, fun e => ?_, fun e p hp => ?_⟩
  · have e2 : k = 1 := by omega
    subst e2
    exact h a H (Same.refl _) hx
  · refine h p _ (New.mk hp rfl).same ?_
    rw [upd_same, Int.toNat_natCast]
    congr 2
    clear h1 h2 h e
    induction k with
    | zero => rfl
    | succ k ih => rw [List.replicate_succ, List.replicate_succ, List.flatten_cons, List.map_cons, ih]; rfl
end

section
variable {X : Cx} {K : PySem.W.Frag}
/-- l[k], k not negative, ahead of an augmented assignment -/
def rGetL (K : PySem.W.Frag) : V → V → Hp → VK → Prop := fun x y H Q => ∃ p xs j v, x = .ref p ∧ y = .int ((j : Nat) : Int) ∧ SqL K H p xs ∧ xs[j]? = some v ∧ Q v H
theorem get_list0 : PGet X (rGetL X.K) := by
  intro pins s σ H o i ov iv Q I ro ri h
  obtain ⟨p, xs, j, v, rfl, rfl, hq, he, q⟩ := h
  cases ro
  obtain ⟨t, rfl⟩ := ri
  obtain ⟨its, r, pl, hz⟩ := I.list hq
  obtain ⟨w, ew, rw'⟩ := r.get he
  have hl := r.length
  have hn := line63
  have hj : j < xs.length := (List.getElem?_eq_some_iff.mp he).1
  exact wpAny_getItem_list pl.isList (by omega) (by omega) (by rw [Int.toNat_natCast]; simpa using ew) ⟨v, H, I, rw', q⟩
theorem getList (hk : X.K = K := by rfl) : PGet X (rGetL K) := hk ▸ get_list0
variable {nx : St → Hp → Prop} {rt : VK} {bk ct : St → Hp → Prop} {σ : St} {H : Hp} {to ti te : TE} {tget : V → V → Hp → VK → Prop} {tip : TIp} {tset : TSet}
theorem r_augS (h : to σ H fun o H1 => ti σ H1 fun i H2 => tget o i H2 fun x H3 => te σ H3 fun y H4 => tip x y H4 fun z H5 => tset o i z H5 fun H6 => nx σ H6) : tAugS to ti te tget tip tset ⟨nx, rt, bk, ct⟩ σ H := h
end
end My
end

section
set_option Elab.async false
set_option linter.all false
set_option maxRecDepth 100000
set_option maxHeartbeats 4000000
/-! MV: list(text), tuple(text). -/
namespace My
open PySem PySem.Spec PyProof.Rows L2
section
variable {prog : Program} {w : World} {A : Around} {E : Value → Shared → Prop} {s : Shared}
theorem code_tuple_new_str {x : Str} {t : Tok} {Q₁ : Value → Shared → Prop} (hh : A.handled = none) (hn : x.cps.size ≤ sizeLine)
    (h : ∀ (s' : Shared) (acc : Array Value), (∀ b o, s.heap.get? b = some o → s'.heap.get? b = some o) → s'.gens = s.gens → s'.drawn = s.drawn → s'.os = s.os → ItemsOf (SignAt x) acc x.cps.size →
      Q₁ (.ref s'.heap.objs.size) { s' with heap := s'.heap.push { cls := .type "tuple", data := .seq acc } }) :
    codeAny (model prog w) A (.call (.builtin "tuple.__new__") ⟨[.type "tuple", .str x t], []⟩) (wants Q₁ E) s := by
  refine codeAny_of_tree ?_
  show wpAny _ A.in1 (do checkBuiltinCall "tuple.__new__" ⟨[.type "tuple", .str x t], []⟩; again (.builtin "tuple.__new__" ⟨[.type "tuple", .str x t], []⟩)) _ _ s
  refine wpAny_bind (wpAny_of_eq (F.newCall_tuple_1 _) (wpAny_pure ⟨plainId_quiet F.plain_tuple_new _, codeAny_builtin F.entry_tuple_new ?_⟩))
  rw [Around.under_plainId F.plain_tuple_new _]
  have hsub := sub_tuple_self
  have hinit := init_tuple_lookup
  have hmh := madeHere_tuple
  have hh1 : A.in1.handled = none := hh
  wp_walk using wpAny_collect_str (A := A.in1) hh1 x t (hn := hn)
  intro s' acc hk h1 h2 h3 hacc
  show wpAny _ _ (Builtin.Tuple.tupleExact acc.toList.toArray >>= fun v => ret v) _ _ _
  unfold Builtin.Tuple.tupleExact
  refine wpAny_bind (wpAny_newObj_type ?_ (by show acc.toList.toArray.size ≤ sizeLine; simp only [Array.toArray_toList]; rw [hacc.1]; exact hn))
  refine wpAny_pure ?_
  have e : acc.toList.toArray = acc := by simp
  rw [e]
  exact h s' acc hk h1 h2 h3 hacc
theorem call_tuple_str' {x : Str} {t : Tok} {Q : Value → Shared → Prop} (hh : A.handled = none) (hn : x.cps.size ≤ sizeLine)
    (hQ : ∀ (s' : Shared) (acc : Array Value), (∀ b o, s.heap.get? b = some o → s'.heap.get? b = some o) → s'.gens = s.gens → s'.drawn = s.drawn → s'.os = s.os → ItemsOf (SignAt x) acc x.cps.size →
      Q (.ref s'.heap.objs.size) { s' with heap := s'.heap.push { cls := .type "tuple", data := .seq acc } }) :
    wpAny (model prog w) A (call (.type "tuple") [.str x t]) Q E s := by
  refine callType_codes (Q₁ := fun obj s₁ => s₁.TypeIs obj "tuple" ∧ Q obj s₁) F.called_tuple (F.typeCall_tuple_1 _) F.entry_object_init
    (code_tuple_new_str (A := A.in1) hh hn fun s' acc hk h1 h2 h3 hacc => ⟨⟨_, Heap.get?_push_size _ rfl, rfl⟩, hQ s' acc hk h1 h2 h3 hacc⟩) fun obj s₁ h₁ => ?_
  exact ⟨h₁.1, F.args_object_init_2 obj _, object_init_meets F.called_tuple.init.lookup F.called_tuple.made (by decide) prog w A.in1 _ s₁ ⟨h₁.1, rfl, h₁.2⟩⟩
end
theorem signs_vals {x : Str} {acc : Array Value} (h : ItemsOf (SignAt x) acc x.cps.size) : Vals (x.cps.toList.map fun c => V.str ⟨#[c]⟩) acc.toList := by
  refine vals_of_at (by rw [List.length_map, Array.length_toList, Array.length_toList]; exact h.1.symm) fun j y u h1 h2 => ?_
  rw [Array.getElem?_toList] at h2
  obtain ⟨c, t, hc, rfl⟩ := h.2 j u h2
  rw [List.getElem?_map, Array.getElem?_toList, hc] at h1
  cases h1
  exact ⟨t, rfl⟩
section
variable {X : Cx}
def rListStr : List V → Hp → VK → Prop := fun vs H Q => ∃ z : Str, vs = [.str z] ∧ z.cps.toList.length ≤ 1000 ∧ ∀ p, H p = none → Q (.ref p) (upd H p (.lst (z.cps.toList.map fun c => V.str ⟨#[c]⟩)))
def rTupStr : List V → Hp → VK → Prop := fun vs H Q => ∃ z : Str, vs = [.str z] ∧ z.cps.toList.length ≤ 1000 ∧ ∀ p, H p = none → Q (.ref p) (upd H p (.tup (z.cps.toList.map fun c => V.str ⟨#[c]⟩)))
theorem callListStr (hc : X.calm = true) : CallR X (.type "list") rListStr := by
  intro pins s σ H vs us Q I r h
  obtain ⟨z, rfl, hz, q⟩ := h
  obtain ⟨u, rfl, t, rfl⟩ := vals1 r
  have hz2 : z.cps.size ≤ sizeLine := by rw [Array.length_toList] at hz; rw [sizeLine_eq]; omega
  refine call_list_str (I.ok.hd hc) z t (fun h' tk acc c' hk hS hacc => ?_) hz2
  refine ⟨.ref s.heap.objs.size, upd H s.heap.objs.size (.lst (z.cps.toList.map fun c => V.str ⟨#[c]⟩)), I.laid (t' := tk) hk (Nat.le_refl _) (show ObjOk X.prog X.w _ _ _ (.lst (z.cps.toList.map fun c => V.str ⟨#[c]⟩)) from ⟨?_, acc.toList, c', signs_vals hacc, ?_⟩), rfl, q _ (I.hok.fresh (Nat.le_refl _))⟩
  · rw [List.length_map]; exact sz1000 hz
  · rw [Array.toArray_toList]; exact hS
theorem callTupStr (hc : X.calm = true) : CallR X (.type "tuple") rTupStr := by
  intro pins s σ H vs us Q I r h
  obtain ⟨z, rfl, hz, q⟩ := h
  obtain ⟨u, rfl, t, rfl⟩ := vals1 r
  have hz2 : z.cps.size ≤ sizeLine := by rw [Array.length_toList] at hz; rw [sizeLine_eq]; omega
  refine call_tuple_str' (I.ok.hd hc) hz2 (fun s' acc hk h1 h2 h3 hacc => ?_)
  obtain ⟨h', g', d', tk', os'⟩ := s'
  simp only at h1 h2 h3 hk
  subst h1 h2 h3
  have I1 : Inv X pins σ H { s with heap := h', toks := tk' } := I.kept (t' := tk') hk
  refine ⟨.ref h'.objs.size, upd H h'.objs.size (.tup (z.cps.toList.map fun c => V.str ⟨#[c]⟩)), I1.laid (t' := tk') (fun b o e => Heap.get?_push_of_some _ e) (Nat.le_refl _) (show ObjOk X.prog X.w _ _ _ (.tup (z.cps.toList.map fun c => V.str ⟨#[c]⟩)) from ⟨?_, acc.toList, signs_vals hacc, ?_⟩), rfl, q _ (I1.hok.fresh (Nat.le_refl _))⟩
  · rw [List.length_map]; exact sz1000 hz
  · rw [Array.toArray_toList]; exact IsTup.new _ _
end
end My
end

section
set_option Elab.async false
set_option linter.all false
set_option maxRecDepth 100000
set_option maxHeartbeats 4000000
/-! MW: tuples of names: the one object is known (no dict), so that t.index may be called. -/
namespace My
open PySem PySem.Spec PyProof.Rows L2
def NT (H : Hp) (a : Addr) (xs : List V) : Prop := ∃ o : Obj, H a = some (.frz o (.tup xs)) ∧ o.cls = .type "tuple" ∧ o.dict = none
theorem NT.sq {K : PySem.W.Frag} {H : Hp} {a : Addr} {xs : List V} (h : NT H a xs) : SqT K H a xs := let ⟨_, e, _, _⟩ := h; .inl (.inr ⟨_, e⟩)
theorem NT.same {H H' : Hp} {a : Addr} {xs : List V} (h : NT H a xs) (s : Same H H') : NT H' a xs := let ⟨o, e, r⟩ := h; ⟨o, s _ _ e, r⟩
theorem NT.upd {H : Hp} {a b : Addr} {xs : List V} {u : HO} (h : NT H a xs) (hb : b ≠ a) : NT (L2.upd H b u) a xs := let ⟨o, e, r⟩ := h; ⟨o, by rw [upd_ne (Ne.symm hb)]; exact e, r⟩
section
variable {X : Cx} {K : PySem.W.Frag} {es : List Expr} {pos : Pos} {t : TA} {Q : VK} {H : Hp} {a b : Addr} {xs ys : List V}
theorem made_frz {pins : List (Addr × Obj)} {σ : St} {s : Shared} {its : List Value} (I : Inv X pins σ H s) (r : Vals xs its) (hz : xs.length ≤ sizeLine) (h' : Heap) (tk : Nat) (hk : ∀ b u, s.heap.get? b = some u → h'.get? b = some u)
    (q : ∀ p H2, H p = none → Same H H2 → NT H2 p xs → Q (.ref p) H2) : EP X pins σ Q (.ref h'.objs.size) { s with heap := h'.push { cls := .type "tuple", data := .seq its.toArray }, toks := tk } := by
  have I1 : Inv X pins σ H { s with heap := h', toks := tk } := I.kept (t' := tk) hk
  have hf := I1.hok.fresh (Nat.le_refl _)
  refine ⟨.ref h'.objs.size, L2.upd H h'.objs.size (.frz { cls := .type "tuple", data := .seq its.toArray } (.tup xs)), I1.laid (t' := tk) (fun b u e => Heap.get?_push_of_some _ e) (Nat.le_refl _) ?_, rfl, q _ _ hf (New.mk hf rfl).same ⟨_, upd_same, rfl, rfl⟩⟩
  exact ⟨Heap.get?_push_size _ rfl, hz, its, r, IsTup.new _ _⟩
def tTupF (t : TA) : TE := fun σ H Q => t σ H fun xs H1 => xs.length ≤ sizeLine ∧ ∀ p H2, H1 p = none → Same H1 H2 → NT H2 p xs → Q (.ref p) H2
theorem pe_tupF {x1} (h : PA X es t) : PE X (.Tuple es x1 pos) (tTupF t) := by
  refine ⟨fun pins s σ H Q I hq => ?_⟩
  refine wpAny_Tuple_spliced (thn (h.run pos pins s σ H _ I hq) fun us s1 ⟨xs, H1, I1, r, z, q⟩ => ⟨by rw [← r.length]; exact z, ?_⟩)
  exact made_frz I1 r z s1.heap s1.toks (fun _ _ e => e) q
theorem r_tupF {tr : TA} {σ : St} (h : tr σ H fun xs H1 => xs.length ≤ sizeLine ∧ ∀ p H2, H1 p = none → Same H1 H2 → NT H2 p xs → Q (.ref p) H2) : tTupF tr σ H Q := h
/-- t + u of such tuples -/
def rCatF : R2 := fun x y H Q => ∃ a b xs ys, x = .ref a ∧ y = .ref b ∧ NT H a xs ∧ NT H b ys ∧ xs.length + ys.length ≤ sizeLine ∧ ∀ p H2, Same H H2 → NT H2 p (xs ++ ys) → Q (.ref p) H2
theorem opCatF : OpR X (binaryOp .Add) rCatF := by
  intro pins s σ H x y v u Q I rx ry h
  obtain ⟨a, b, xs, ys, rfl, rfl, ha, hb, hz, q⟩ := h
  cases rx
  cases ry
  obtain ⟨its, r1, p1, _⟩ := I.tuple (NT.sq ha)
  obtain ⟨its2, r2, p2, _⟩ := I.tuple (NT.sq hb)
  by_cases hx : xs = []
  · subst hx
    cases r1
    exact cat_tup0 p1 p2 ⟨.ref b, H, I, rfl, q _ _ (Same.refl _) hb⟩
  · refine HT.cat_tup p1 p2 (fun z => hx (r1.nil_iff.mp z)) (fun z => ?_) (fun z => ?_) (by rw [← r1.length, ← r2.length]; exact hz)
    · have hy : ys = [] := r2.nil_iff.mp z
      subst hy
      refine ⟨.ref a, H, I, rfl, q _ _ (Same.refl _) (by rw [List.append_nil]; exact ha)⟩
    · exact made_frz I (r1.append r2) (by rw [List.length_append]; exact hz) s.heap s.toks (fun _ _ e => e) fun p H2 _ s2 n2 => q p H2 s2 n2
theorem r_catF (ha : NT H a xs) (hb : NT H b ys) (hz : xs.length + ys.length ≤ 1000) (h : ∀ p H2, Same H H2 → NT H2 p (xs ++ ys) → Q (.ref p) H2) : rCatF (.ref a) (.ref b) H Q := ⟨a, b, xs, ys, rfl, rfl, ha, hb, sz1000 hz, h⟩
def rSlF : V → Option Int → Option Int → Hp → VK → Prop := fun x lo hi H Q => ∃ a xs, x = .ref a ∧ NT H a xs ∧ ∀ p H2, Same H H2 → NT H2 p (cutV xs lo hi) → Q (.ref p) H2
theorem slTF : SlR X rSlF := by
  intro pins s σ H x v vl vu lo hi sl Q I rx hs pl pu h
  obtain ⟨a, xs, rfl, hx, q⟩ := h
  cases rx
  obtain ⟨its, r, ht, hz⟩ := I.tuple (NT.sq hx)
  have hlen : its.toArray.size = xs.length := by rw [List.size_toArray]; exact r.length.symm
  refine ⟨"tuple", _, PyProof.Rows.slot_tuple_getitem.lookup, ht.typeIs, ?_⟩
  by_cases hw : HT.sIx xs.length 0 lo = 0 ∧ HT.sIx xs.length xs.length hi = xs.length
  · refine getItem_tuple_whole ht hs pl pu (by rw [hlen]; exact hw) ⟨.ref a, H, I, rfl, q a H (Same.refl _) ?_⟩
    unfold cutV
    rw [hw.1, hw.2, List.drop_zero, Nat.sub_zero, List.take_of_length_le (Nat.le_refl _)]
    exact hx
  · refine HT.getItem_tuple_cut ht hs pl pu (by rw [hlen]; exact hw) ?_ (by rw [hlen]; exact hz)
    rw [hlen]
    exact made_frz I ((r.drop (HT.sIx xs.length 0 lo)).take (HT.sIx xs.length xs.length hi - HT.sIx xs.length 0 lo)) (Nat.le_trans (cutV_length xs lo hi) hz) s.heap s.toks (fun _ _ e => e) fun p H2 _ s2 n2 => q p H2 s2 n2
theorem r_slF {lo hi : Option Int} (ys : List V) (hx : NT H a xs) (e : cutV xs lo hi = ys) (h : ∀ p H2, Same H H2 → NT H2 p ys → Q (.ref p) H2) : rSlF (.ref a) lo hi H Q := by
  subst e
  exact ⟨a, xs, rfl, hx, h⟩
def rTupOfF (K : PySem.W.Frag) : List V → Hp → VK → Prop := fun xs H Q => ∃ p ys, xs = [.ref p] ∧ SqL K H p ys ∧ ∀ l H2, Same H H2 → NT H2 l ys → Q (.ref l) H2
theorem callTupOfF (hk : X.K = K := by rfl) : CallR X (.type "tuple") (rTupOfF K) := by
  subst hk
  intro pins s σ H xs us Q I r h
  obtain ⟨p, ys, rfl, hq, q⟩ := h
  obtain ⟨u, rfl, rx⟩ := vals1 r
  cases rx
  obtain ⟨its, r', pl, hz⟩ := I.list hq
  have hlen := r'.length
  refine call_tuple_list pl.isList (fun h' kp => ?_) (by simp only [List.size_toArray] <;> omega)
  exact made_frz I r' hz h' s.toks kp fun p H2 _ s2 n2 => q p H2 s2 n2
def rTupStrF : List V → Hp → VK → Prop := fun vs H Q => ∃ z : Str, vs = [.str z] ∧ z.cps.toList.length ≤ 1000 ∧ ∀ p H2, Same H H2 → NT H2 p (z.cps.toList.map fun c => V.str ⟨#[c]⟩) → Q (.ref p) H2
theorem callTupStrF (hc : X.calm = true) : CallR X (.type "tuple") rTupStrF := by
  intro pins s σ H vs us Q I r h
  obtain ⟨z, rfl, hz, q⟩ := h
  obtain ⟨u, rfl, t, rfl⟩ := vals1 r
  have hz2 : z.cps.size ≤ sizeLine := by rw [Array.length_toList] at hz; rw [sizeLine_eq]; omega
  refine call_tuple_str' (I.ok.hd hc) hz2 (fun s' acc hk h1 h2 h3 hacc => ?_)
  obtain ⟨h', g', d', tk', os'⟩ := s'
  simp only at h1 h2 h3 hk
  subst h1 h2 h3
  have e := made_frz (Q := Q) (its := acc.toList) I (signs_vals hacc) (by rw [List.length_map]; exact sz1000 hz) h' tk' hk fun p H2 _ s2 n2 => q p H2 s2 n2
  rw [Array.toArray_toList] at e
  exact e
/-- t.index(text) of such a tuple -/
def tIdxT (K : PySem.W.Frag) (to : TE) (t : TA) : TE := fun σ H Q => to σ H fun x H1 => ∃ a xs, x = .ref a ∧ NT H1 a xs ∧ t σ H1 fun vs H2 => ∃ (ys : List Str) (z : Str) (j : Nat), vs = [.str z] ∧ SqT K H2 a (ys.map V.str) ∧ ys[j]? = some z ∧ (∀ m, m < j → ys[m]? ≠ some z) ∧ Q (.int (j : Nat)) H2
theorem peIdxT {o e : Expr} {es : List Expr} {to : TE} {t : TA} {apos cpos : Pos} (ho : PE X o to) (ha : PA X (e :: es) t)
    (hbase : attributeBase o "index" X.env (eval o X.env) = eval o X.env := by rfl)
    (hfew : ((backTo cpos (starEach (e :: es) X.env)).all (fun x => !x.1) && (backToKw cpos (keywordEach [] X.env)).all (fun x => x.1.isSome)
      && decide ((e :: es).length + ([] : List Keyword).length + (if ([] : List Keyword).isEmpty then 0 else 1) < 30)) = true := by rfl)
    (hline : (apos.endLine == cpos.line) = true := by rfl) (hs : starEach (e :: es) X.env = (false, eval e X.env) :: starEach es X.env := by rfl) (hplain : (backTo cpos (starEach es X.env)).any (·.1) = false := by rfl) (hk : X.K = K := by rfl) :
    PE X (.Call (.Attribute o "index" apos) (e :: es) [] cpos) (tIdxT K to t) := by
  subst hk
  refine ⟨fun pins s σ H Q I h => ?_⟩
  refine wpAny_Call_method_late hbase hfew hline rfl (thn (ho.run pins s σ H _ I h) fun v s1 ⟨x, H1, I1, r1, q1⟩ => ?_)
  obtain ⟨a, xs, rfl, ⟨ob, hob, hcl, hdi⟩, q1⟩ := q1
  cases r1
  have hget : s1.heap.get? a = some ob := (show ObjOk X.prog X.w H1 s1.heap a (.frz ob (.tup xs)) from I1.hok a _ hob).1
  refine ⟨"tuple", "tuple.index", PySem.F.plainAttrs_tuple, PySem.F.slot_tuple_index, PySem.F.type_tuple_index, ⟨ob, hget, hcl⟩, fun a' e => by cases e; exact ⟨ob, hget, hdi⟩, ?_⟩
  have hA := ha.run cpos pins s1 σ H1 _ I1 q1
  rw [hs] at hA ⊢
  refine Calls.callWith_builtin (by show (false || (backTo cpos (starEach es X.env)).any (·.1)) = false; rw [hplain] <;> rfl) (Calls.evalArgs_plain ?_)
  refine thn hA fun us s2 ⟨vs, H2, I2, r2, ys, z, j, ev, hq, hy, hn, q⟩ => ?_
  subst ev
  exact mt_tup_index pins s2 σ H2 (.ref a) [.str z] (.ref a) us Q I2 rfl r2 ⟨a, ys, z, j, rfl, rfl, hq, hy, hn, q⟩
theorem r_idxT {to : TE} {tr : TA} {σ : St} (h : to σ H fun x H1 => ∃ a xs, x = .ref a ∧ NT H1 a xs ∧ tr σ H1 fun vs H2 => ∃ (ys : List Str) (z : Str) (j : Nat), vs = [.str z] ∧ SqT K H2 a (ys.map V.str) ∧ ys[j]? = some z ∧ (∀ m, m < j → ys[m]? ≠ some z) ∧ Q (.int (j : Nat)) H2) : tIdxT K to tr σ H Q := h
end
end My
end

section
set_option Elab.async false
set_option linter.all false
set_option maxRecDepth 100000
set_option maxHeartbeats 4000000
/-! MD: lines and leads. -/
namespace My
open PySem PySem.Spec PyProof.Rows L2 He LamX
local macro_rules | `(tactic| walk_at "rd") => `(tactic| repeat (with_reducible first
  | refine r_seq ?_ | refine r_asg ?_ | refine r_var (by with_unfolding_all rfl) ?_ | refine r_c ?_ | refine r_op ?_ | refine r_I0 ?_ | refine r_name ?_ | refine r_ret ?_ | refine r_if ?_ | refine r_cons ?_ | refine r_nil ?_
  | refine r_CB ?_ | refine r_call ?_ | refine r_test ?_ | refine r_eqI ?_ | refine r_eqS ?_ | refine r_neI ?_ | refine r_neS ?_ | refine r_drop ?_ | refine r_next ?_ | refine r_ifE ?_ | refine r_B ?_ | refine r_andV ?_ | refine r_orV ?_ | refine r_notV ?_ | refine r_blV ?_
  | refine r_and ?_ | refine r_or ?_ | refine r_not ?_ | refine r_tup ?_ | refine r_lst ?_ | refine r_par ?_ | refine r_exv2 ?_ | refine r_un ?_ | refine r_neg ?_ | refine r_isN ?_ | refine r_notN ?_ | refine r_retN ?_ | refine r_chain ?_
  | refine r_star ?_ | refine r_lstRg ?_ | refine r_rg1 ?_ | refine r_rg2 ?_ | refine r_exi ?_ | refine r_exi2 ?_ | refine r_sl ?_ | refine r_noPart ?_ | refine r_part ?_ | refine r_gnil ?_ | refine r_gcons ?_ | refine r_gsub ?_ | refine r_BM ?_ | refine r_M1 ?_ | refine r_isstr ?_ | refine r_meth ?_ | refine r_make ?_ | refine r_fld ?_ | refine r_abs ?_ | refine r_isiIntInt ?_ | refine r_isiIntBool ?_ | refine r_isiStr ?_ | refine r_min ?_ | refine r_max ?_ | refine r_int1 ?_ | refine r_intb ?_ | refine r_for ?_ | refine r_itup ?_ | refine r_ilist ?_ | refine r_lc ?_ | refine r_yes ?_ | refine r_istr ?_ | refine r_rng1 ?_ | refine r_rng2 ?_ | refine r_dput ?_ | refine r_daug ?_ | refine r_dget ?_ | refine r_dnewT ?_ | refine r_addI ?_ | refine r_ev ?_ | refine r_sfld ?_ | refine r_faug ?_ | refine r_prop ?_ | refine r_while ?_ | refine r_augS ?_ | refine r_tupF ?_ | refine r_idxT ?_ | refine r_kd ?_ | refine r_ki ?_ | refine r_enum ?_))

local macro_rules | `(tactic| walk_at "rn") => `(tactic| repeat (with_reducible first
  | refine r_seq ?_ | refine r_asg ?_ | refine r_var (by with_unfolding_all rfl) ?_ | refine r_c ?_ | refine r_op ?_ | refine r_I0 ?_ | refine r_name ?_ | refine r_ret ?_ | refine r_cons ?_ | refine r_nil ?_
  | refine r_CB ?_ | refine r_call ?_ | refine r_test ?_ | refine r_eqI ?_ | refine r_eqS ?_ | refine r_neI ?_ | refine r_neS ?_ | refine r_drop ?_ | refine r_next ?_ | refine r_B ?_ | refine r_andV ?_ | refine r_orV ?_ | refine r_notV ?_ | refine r_blV ?_
  | refine r_and ?_ | refine r_or ?_ | refine r_not ?_ | refine r_tup ?_ | refine r_lst ?_ | refine r_par ?_ | refine r_exv2 ?_ | refine r_un ?_ | refine r_neg ?_ | refine r_isN ?_ | refine r_notN ?_ | refine r_retN ?_ | refine r_chain ?_
  | refine r_star ?_ | refine r_lstRg ?_ | refine r_rg1 ?_ | refine r_rg2 ?_ | refine r_exi ?_ | refine r_exi2 ?_ | refine r_sl ?_ | refine r_noPart ?_ | refine r_part ?_ | refine r_gnil ?_ | refine r_gcons ?_ | refine r_gsub ?_ | refine r_BM ?_ | refine r_M1 ?_ | refine r_isstr ?_ | refine r_meth ?_ | refine r_make ?_ | refine r_fld ?_ | refine r_abs ?_ | refine r_isiIntInt ?_ | refine r_isiIntBool ?_ | refine r_isiStr ?_ | refine r_min ?_ | refine r_max ?_ | refine r_int1 ?_ | refine r_intb ?_ | refine r_for ?_ | refine r_itup ?_ | refine r_ilist ?_ | refine r_lc ?_ | refine r_yes ?_ | refine r_istr ?_ | refine r_rng1 ?_ | refine r_rng2 ?_ | refine r_dput ?_ | refine r_daug ?_ | refine r_dget ?_ | refine r_dnewT ?_ | refine r_addI ?_ | refine r_ev ?_ | refine r_sfld ?_ | refine r_faug ?_ | refine r_prop ?_ | refine r_while ?_ | refine r_augS ?_ | refine r_tupF ?_ | refine r_idxT ?_ | refine r_kd ?_ | refine r_ki ?_ | refine r_enum ?_))

local macro_rules | `(tactic| walk_at "hp") => `(tactic| (with_reducible first
  | assumption | exact New.at (by assumption)
  | exact SqT.of (by walk_at "hp") | exact SqL.of (by walk_at "hp") | exact Or.inl (by walk_at "hp") | exact Or.inr (by walk_at "hp")
  | exact New.get (by assumption) (by walk_at "hp") | exact Same.get (by assumption) (by walk_at "hp")))

theorem cut2 (l : List Int) (k : Nat) (h1 : 1 ≤ k) (h2 : k < l.length) : ∃ A a b B, l = A ++ a :: b :: B ∧ A.length + 1 = k := by
  refine ⟨l.take (k - 1), l[k - 1], l[k], l.drop (k + 1), ?_, by rw [List.length_take]; omega⟩
  have e1 : l.drop (k - 1) = l[k - 1] :: l.drop (k - 1 + 1) := List.drop_eq_getElem_cons (by omega)
  have e2 : l.drop k = l[k] :: l.drop (k + 1) := List.drop_eq_getElem_cons h2
  rw [← e2]
  have e3 : k - 1 + 1 = k := by omega
  rw [e3] at e1
  rw [← e1, List.take_append_drop]
theorem swpN_app (A : List Int) (a b : Int) (B : List Int) : swpN (A ++ a :: b :: B) (A.length + 1) = A ++ b :: a :: B := by
  unfold swpN
  simp [List.getD]
theorem swpN_law (l : List Int) (k : Nat) (h1 : 1 ≤ k) (h2 : k < l.length) : swpN l k = l.take (k - 1) ++ [l.getD k 0, l.getD (k - 1) 0] ++ l.drop (k + 1) := by
  obtain ⟨A, a, b, B, rfl, rfl⟩ := cut2 l k h1 h2
  rw [swpN_app]
  have e : List.drop (A.length + 1 + 1) (A ++ a :: b :: B) = B := by
    rw [show A.length + 1 + 1 = A.length + 2 by omega, List.drop_append]
    simp
  rw [e]
  simp [List.getD]
theorem swpN_perm (l : List Int) (k : Nat) (h1 : 1 ≤ k) (h2 : k < l.length) : (swpN l k).Perm l := by
  obtain ⟨A, a, b, B, rfl, rfl⟩ := cut2 l k h1 h2
  rw [swpN_app]
  exact List.Perm.append_left A (List.Perm.swap a b B)
theorem Dv.tail {m : Nat} {d : List Int} {s : Int} (h : Dv m (d ++ [s])) : Dv m d := fun x hx => h x (List.mem_append_left _ hx)
theorem order_perm (m : Nat) (d : List Int) (h : Dv m d) : (order m d).Perm (line0 m) := by
  have key : ∀ (n : Nat) (d : List Int), d.length = n → Dv m d → (order m d).Perm (line0 m) := by
    intro n
    induction n with
    | zero => intro d hl _; rw [List.eq_nil_of_length_eq_zero hl]; exact List.Perm.refl _
    | succ n ih =>
      intro d hl hd
      have hne : d ≠ [] := fun e => by rw [e] at hl; simp at hl
      rw [← List.dropLast_concat_getLast hne] at hd ⊢
      rw [order_snoc]
      obtain ⟨h1, h2⟩ := hd.mid (pre := d.dropLast) (post := []) rfl
      exact (swpN_perm _ _ h1 (by rw [order_len]; exact h2)).trans (ih _ (by rw [List.length_dropLast, hl]; rfl) hd.tail)
  exact key _ d rfl h
theorem line0_nodup (m : Nat) : (line0 m).Nodup := by
  unfold line0
  exact List.Pairwise.map _ (fun a b h e => h (by omega)) List.nodup_range
theorem order_nodup {m : Nat} {d : List Int} (h : Dv m d) : (order m d).Nodup := (order_perm m d h).nodup_iff.mpr (line0_nodup m)
theorem order_mem {m : Nat} {d : List Int} (h : Dv m d) {x : Int} (hx : x ∈ order m d) : 0 ≤ x ∧ x < m := by
  have h2 := (order_perm m d h).mem_iff.mp hx
  unfold line0 at h2
  obtain ⟨i, hi, rfl⟩ := List.mem_map.mp h2
  have := List.mem_range.mp hi
  omega
theorem order_at {m : Nat} {d : List Int} (h : Dv m d) {k : Nat} (hk : k < m) : 0 ≤ (order m d).getD k 0 ∧ (order m d).getD k 0 < m := by
  rw [List.getD_eq_getElem?_getD, List.getElem?_eq_getElem (by rw [order_len]; exact hk)]
  exact order_mem h (List.getElem_mem _)
theorem order_ne {m : Nat} {d : List Int} (h : Dv m d) {j k : Nat} (hj : j < m) (hk : k < m) (hjk : j ≠ k) : (order m d).getD j 0 ≠ (order m d).getD k 0 := by
  have lj : j < (order m d).length := by rw [order_len]; exact hj
  have lk : k < (order m d).length := by rw [order_len]; exact hk
  rw [List.getD_eq_getElem?_getD, List.getElem?_eq_getElem lj, List.getD_eq_getElem?_getD, List.getElem?_eq_getElem lk]
  exact fun e => hjk ((List.getElem_inj (order_nodup h)).mp e)
/-! ### leads: what the dict holds -/
def prsU (m i : Nat) : List (Int × Int) := (List.range i).flatMap fun a => (List.range (m - (a + 1))).map fun (b : Nat) => ((a : Int), (a : Int) + 1 + (b : Int))
def prsJ (i j : Nat) : List (Int × Int) := (List.range j).map fun (b : Nat) => ((i : Int), (i : Int) + 1 + (b : Int))
abbrev prs (m : Nat) : List (Int × Int) := prsU m m
theorem prsU_succ (m i : Nat) : prsU m (i + 1) = prsU m i ++ prsJ i (m - (i + 1)) := by
  unfold prsU prsJ
  rw [List.range_succ, List.flatMap_append]
  simp
theorem prsJ_succ (i j : Nat) : prsJ i (j + 1) = prsJ i j ++ [((i : Int), (i : Int) + 1 + (j : Int))] := by
  unfold prsJ
  rw [List.range_succ, List.map_append]; rfl
theorem prsU_mem {m i : Nat} {p : Int × Int} : p ∈ prsU m i ↔ 0 ≤ p.1 ∧ p.1 < i ∧ p.1 < p.2 ∧ p.2 < m := by
  unfold prsU
  rw [List.mem_flatMap]
  constructor
  · rintro ⟨a, ha, h⟩
    obtain ⟨b, hb, rfl⟩ := List.mem_map.mp h
    have := List.mem_range.mp ha
    have := List.mem_range.mp hb
    dsimp only
    omega
  · rintro ⟨h1, h2, h3, h4⟩
    refine ⟨p.1.toNat, List.mem_range.mpr (by omega), List.mem_map.mpr ⟨(p.2 - p.1 - 1).toNat, List.mem_range.mpr (by omega), ?_⟩⟩
    refine Prod.ext ?_ ?_
    · dsimp only; omega
    · dsimp only; omega
theorem prsU_len (m i : Nat) (hm : m ≤ 5) (hi : i ≤ m) : (prsU m i).length ≤ 10 := by
  have : ∀ m ∈ List.range 6, ∀ i ∈ List.range (m + 1), (prsU m i).length ≤ 10 := by decide
  exact this m (List.mem_range.mpr (by omega)) i (List.mem_range.mpr (by omega))
abbrev lk (p : Int × Int) : List Key := [.inl p.1, .inl p.2]
def kvp (f : Int × Int → Int) (p : Int × Int) : List Key × V := (lk p, .int (f p))
theorem lk_inj {p q : Int × Int} (h : lk p = lk q) : p = q := by
  injection h with h1 h2
  injection h2 with h2 h3
  injection h1 with h1
  injection h2 with h2
  exact Prod.ext h1 h2
theorem kvp_put_new {f : Int × Int → Int} {l : List (Int × Int)} {q : Int × Int} (h : q ∉ l) (v : V) : putK (l.map (kvp f)) (lk q) v = l.map (kvp f) ++ [(lk q, v)] := by
  refine putK_new v ?_
  unfold valV
  rw [Option.map_eq_none_iff, List.find?_eq_none]
  intro kv hkv
  obtain ⟨p, hp, rfl⟩ := List.mem_map.mp hkv
  have : ¬ lk p = lk q := fun e => h (lk_inj e ▸ hp)
  show ¬ decide (lk p = lk q) = true
  rw [decide_eq_false this]; exact Bool.false_ne_true
theorem kvp_any {f : Int × Int → Int} {l : List (Int × Int)} {q : Int × Int} (h : q ∈ l) : ((l.map (kvp f)).any fun kv => decide (kv.1 = lk q)) = true :=
  List.any_eq_true.mpr ⟨kvp f q, List.mem_map.mpr ⟨q, h, rfl⟩, decide_eq_true rfl⟩
theorem kvp_put {f : Int × Int → Int} {l : List (Int × Int)} {q : Int × Int} (h : q ∈ l) (z : Int) : putK (l.map (kvp f)) (lk q) (.int z) = l.map (kvp fun p => if p = q then z else f p) := by
  unfold putK
  rw [if_pos (kvp_any h), List.map_map]
  refine List.map_congr_left fun p _ => ?_
  show (if (kvp f p).1 = lk q then ((kvp f p).1, V.int z) else kvp f p) = kvp (fun p => if p = q then z else f p) p
  by_cases e : p = q
  · have e1 : (kvp f p).1 = lk q := by rw [e]; rfl
    rw [if_pos e1]
    show (lk p, V.int z) = (lk p, V.int (if p = q then z else f p))
    rw [if_pos e]
  · have e1 : ¬ (kvp f p).1 = lk q := fun e2 => e (lk_inj e2)
    rw [if_neg e1]
    show (lk p, V.int (f p)) = (lk p, V.int (if p = q then z else f p))
    rw [if_neg e]
theorem kvp_get {f : Int × Int → Int} {l : List (Int × Int)} {q : Int × Int} (h : q ∈ l) : valV (l.map (kvp f)) (lk q) = some (.int (f q)) := by
  induction l with
  | nil => cases h
  | cons p l ih =>
    rw [List.map_cons]
    by_cases e : p = q
    · subst e; exact valV_pos rfl
    · rw [valV_neg (fun e2 => e (lk_inj e2))]
      rcases List.mem_cons.mp h with e2 | e2
      · exact absurd e2.symm e
      · exact ih e2
def ldP (l : List Int) (k : Nat) : Int × Int := (min (l.getD (k - 1) 0) (l.getD k 0), max (l.getD (k - 1) 0) (l.getD k 0))
def ldStep (s : List Int × (Int × Int → Int)) (x : Int) : List Int × (Int × Int → Int) :=
  (swpN s.1 x.natAbs, fun p => if p = ldP s.1 x.natAbs then s.2 (ldP s.1 x.natAbs) + (if x > 0 then 1 else -1) else s.2 p)
def ldS (m : Nat) (d : List Int) : List Int × (Int × Int → Int) := d.foldl ldStep (line0 m, fun _ => 0)
theorem ldS_fst (m : Nat) (d : List Int) : (ldS m d).1 = order m d := by
  have key : ∀ (d : List Int) (s : List Int × (Int × Int → Int)), (d.foldl ldStep s).1 = d.foldl (fun l s => swpN l s.natAbs) s.1 := by
    intro d
    induction d with
    | nil => intro s; rfl
    | cons x d ih => intro s; rw [List.foldl_cons, List.foldl_cons, ih]; rfl
  exact key d _
theorem ldS_snoc (m : Nat) (d : List Int) (x : Int) : (ldS m (d ++ [x])).2 = fun p => if p = ldP (order m d) x.natAbs then (ldS m d).2 (ldP (order m d) x.natAbs) + (if x > 0 then 1 else -1) else (ldS m d).2 p := by
  unfold ldS
  rw [List.foldl_append]
  show (ldStep (ldS m d) x).2 = _
  unfold ldStep
  rw [ldS_fst]; rfl
def leads (m : Nat) (d : List Int) : List (List Key × V) := (prs m).map (kvp (ldS m d).2)
theorem ldP_mem {m : Nat} {d : List Int} (h : Dv m d) {k : Nat} (h1 : 1 ≤ k) (h2 : k < m) : ldP (order m d) k ∈ prs m := by
  have a1 := order_at h (k := k - 1) (by omega)
  have a2 := order_at h h2
  have a3 := order_ne h (j := k - 1) (k := k) (by omega) h2 (by omega)
  refine prsU_mem.mpr ?_
  unfold ldP
  dsimp only
  omega
theorem leads_snoc {m : Nat} {d : List Int} (h : Dv m d) {x : Int} (h1 : 1 ≤ x.natAbs) (h2 : x.natAbs < m) :
    putK (leads m d) (lk (ldP (order m d) x.natAbs)) (.int ((ldS m d).2 (ldP (order m d) x.natAbs) + (if x > 0 then 1 else -1))) = leads m (d ++ [x]) := by
  unfold leads
  rw [kvp_put (ldP_mem h h1 h2), ldS_snoc]
theorem leads_len {m : Nat} (hm : m ≤ 5) (d : List Int) : (leads m d).length ≤ 10 := by unfold leads; rw [List.length_map]; exact prsU_len m m hm (Nat.le_refl _)
theorem leads_get {m : Nat} {d : List Int} (h : Dv m d) {k : Nat} (h1 : 1 ≤ k) (h2 : k < m) : valV (leads m d) (lk (ldP (order m d) k)) = some (.int ((ldS m d).2 (ldP (order m d) k))) := kvp_get (ldP_mem h h1 h2)
section
variable {P : Program} {w : World} {K : PySem.W.Frag} {mg : Str → Option Value} {base : Heap}
def sp_leads : Sp := fun vs H Q _ => ∃ (m : Nat) (d : List Int) (a : Addr), vs = [.int m, .ref a] ∧ H a = some (.tup (d.map V.int)) ∧ Dv m d ∧ m ≤ 5 ∧ ∀ p H', Same H H' → H p = none → H' p = some (.dT (leads m d)) → Q (.ref p) H'
theorem c_leads_of (T : Tx w K mg base) : C8.Cal P w K mg base 1 "leads_of" sp_leads [] := by
  obtain ⟨fd, F⟩ := f_leads_of T
  refine cal_of F (g_leads_of T) (fun _ _ _ _ _ _ us hl => match us, hl with | [_, _], _ => rfl) sc_leads_of (fun vs H Q E h => by obtain ⟨_, _, _, rfl, _⟩ := h; rfl) (fun cdv A outer s H vs Q E hr h => ?_)
  obtain ⟨m, d, a, rfl, ha, hd, hm, k⟩ := h
  refine ⟨_, (pss_cons (ps_set (i := 2) sc_leads_of.nd rfl (Or.inl rfl) pe_dnewT)
  (pss_cons (ps_for PassesOwn.never rfl (pi_range1 rfl (b_range T) (pa_cons (pv 0) pa_nil)) (pg_name (i := 3) sc_leads_of.nd rfl (Or.inl rfl))
  (pss_one (ps_for PassesOwn.never rfl (pi_range2 rfl (b_range T) (pa_cons (pe_op op_add (pv 3) pe_int) (pa_cons (pv 0) pa_nil))) (pg_name (i := 4) sc_leads_of.nd rfl (Or.inl rfl))
  (pss_one (ps_dput (hu_of hr) (pv 2) (pe_tup (pa_cons (pv 3) (pa_cons (pv 4) pa_nil))) pe_int rfl)))))
  (pss_cons (ps_set (i := 5) sc_leads_of.nd rfl (Or.inl rfl) (pe_listRg rfl rfl (b_list T) (prg_1 rfl (b_range T) (pv 0))))
  (pss_cons (ps_for PassesOwn.never rfl (piTup (K := K) (pv 1)) (pg_name (i := 6) sc_leads_of.nd rfl (Or.inl rfl))
  (pss_cons (ps_set (i := 7) sc_leads_of.nd rfl (Or.inl rfl) (pe_callB callAbs rfl (b_abs T) bb_abs (pa_cons (pv 6) pa_nil)))
  (pss_cons (ps_set (i := 8) sc_leads_of.nd rfl (Or.inl rfl) (pe_tup (pa_cons (pe_callB (callMin rfl) rfl (b_min T) bb_min (pa_cons (pe_ix (ixL (K := K)) (pv 5) (pe_op op_sub (pv 7) pe_int) (fun _ _ => rfl)) (pa_cons (pe_ix (ixL (K := K)) (pv 5) (pv 7) (fun _ _ => rfl)) pa_nil))) (pa_cons (pe_callB (callMax rfl) rfl (b_max T) bb_max (pa_cons (pe_ix (ixL (K := K)) (pv 5) (pe_op op_sub (pv 7) pe_int) (fun _ _ => rfl)) (pa_cons (pe_ix (ixL (K := K)) (pv 5) (pv 7) (fun _ _ => rfl)) pa_nil))) pa_nil))))
  (pss_cons (ps_daug (hu_of hr) (pv 2) (pv 8) (pe_ifExp (pt_cmpR op_gt (pv 6) pe_int (nomark _)) pe_int (pe_un un_neg pe_int)) in_add (fun _ _ _ => rfl))
  (pss_one (ps_asg (pe_tup (pa_cons (pe_ix (ixL (K := K)) (pv 5) (pv 7) (fun _ _ => rfl)) (pa_cons (pe_ix (ixL (K := K)) (pv 5) (pe_op op_sub (pv 7) pe_int) (fun _ _ => rfl)) pa_nil))) (pgTup (K := K) (n := 2) rfl (pgs_cons (pg_sub (pv 5) (pe_op op_sub (pv 7) pe_int) set_list) (pgs_cons (pg_sub (pv 5) (pv 7) set_list) pgs_nil)))))))))
  (pss_one (ps_ret (pv 2))))))), ?_⟩
  walk_at "rd"
  (intro D hl_; generalize he_ : upd _ D _ = H1; have n1 := New.mk hl_ he_.symm; clear hl_ he_)
  walk_at "rd"
  refine ⟨m, rfl, by omega, by omega, ?_⟩
  walk_at "rd"
  refine forR (fun i σ H' => i ≤ m ∧ ∃ v3 v4 : Option V, σ = [some (.int m), some (.ref a), some (.ref D), v3, v4, none, none, none, none] ∧ Same H H' ∧ H' D = some (.dT ((prsU m i).map (kvp fun _ => 0))))
    ⟨Nat.zero_le _, none, none, rfl, n1.same, n1.at⟩ ?_ ?_
  · rintro i σ H' hi ⟨_, v3, v4, rfl, s, hD⟩
    rw [Int.zero_add]
    walk_at "rd"
    refine ⟨(i : Int) + 1, m, rfl, by omega, ?_⟩
    walk_at "rd"
    refine forR (fun j σ H' => ∃ v4 : Option V, σ = [some (.int m), some (.ref a), some (.ref D), some (.int i), v4, none, none, none, none] ∧ Same H H' ∧ H' D = some (.dT ((prsU m i ++ prsJ i j).map (kvp fun _ => 0))))
      ⟨v4, rfl, s, by show H' D = some (.dT ((prsU m i ++ []).map _)); rw [List.append_nil]; exact hD⟩ ?_ ?_
    · rintro j σ H' hj ⟨v4, rfl, s, hD⟩
      walk_at "rd"
      refine ⟨(sz1000 (Nat.le_of_ble_eq_true rfl)), ?_⟩
      (intro p hl_; generalize he_ : upd _ p _ = H2; have n2 := New.mk hl_ he_.symm; clear hl_ he_)
      have hlen : (prsU m i ++ prsJ i j).length ≤ 1000 := by
        have := prsU_len m i hm (by omega)
        have : (prsJ i j).length = j := by unfold prsJ; rw [List.length_map, List.length_range]
        rw [List.length_append]; omega
      refine r_putT (k := lk ((i : Int), (i : Int) + 1 + (j : Int))) (n2.get hD) n2.at (by rw [List.length_map]; exact hlen) ?_
      walk_at "rd"
      refine ⟨_, rfl, same_upd (s.trans n2.same) n1.free, ?_⟩
      rw [upd_same, kvp_put_new, prsJ_succ, ← List.append_assoc, List.map_append (l₂ := [_])]
      · rfl
      · rw [List.mem_append]
        rintro (h | h)
        · have := prsU_mem.mp h; dsimp only at this; omega
        · unfold prsJ at h
          obtain ⟨b, hb, e⟩ := List.mem_map.mp h
          injection e with _ e
          have := List.mem_range.mp hb
          omega
    · rintro σ H' ⟨v4, rfl, s, hD⟩
      have e : ((m : Int) - ((i : Int) + 1)).toNat = m - (i + 1) := by omega
      rw [e] at hD
      walk_at "rd"
      exact ⟨by omega, _, _, rfl, s, by rw [prsU_succ]; exact hD⟩
  · rintro σ H' ⟨_, v3, v4, rfl, s, hD⟩
    walk_at "rd"
    refine ⟨RgOk.of_le (by omega) (by omega) (by omega) (by omega), ?_⟩
    (intro l hl_; generalize he_ : upd _ l _ = H2; have n2 := New.mk hl_ he_.symm; clear hl_ he_)
    walk_at "rd"
    have s0 := s
    have n2l := n2
    have hlD : l ≠ D := fun e => by subst e; rw [n2.free] at hD; cases hD
    refine forT V.int d (by walk_at "hp") (fun pre σ H' => Dv m pre ∧ ∃ v6 v7 v8 : Option V, σ = [some (.int m), some (.ref a), some (.ref D), v3, v4, some (.ref l), v6, v7, v8] ∧ Same H H' ∧ H' D = some (.dT (leads m pre)) ∧ H' l = some (.lst ((order m pre).map V.int)))
      ⟨(fun _ h => nomatch h), none, none, none, rfl, s.trans n2.same, n2.get hD, by rw [n2.at, rgV_line0]; rfl⟩ (fun pre σ H' ⟨_, _, _, _, _, s, _⟩ => (by walk_at "hp")) ?_ ?_
    · rintro pre x post σ H' e ⟨hp, v6, v7, v8, rfl, s, hD, hl⟩
      obtain ⟨hx1, hx2⟩ := hd.mid e
      have hlen := order_len m pre
      have hp2 : Dv m (pre ++ [x]) := fun y hy => hd y (by rw [e]; rcases List.mem_append.mp hy with h | h; exact List.mem_append_left _ h; rw [List.mem_singleton.mp h]; simp)
      walk_at "rd"
      refine r_ixLI (j := x.natAbs - 1) (by walk_at "hp") (by omega) (by omega) ?_
      walk_at "rd"
      refine r_ixLI (by walk_at "hp") rfl (by omega) ?_
      walk_at "rd"
      refine r_ixLI (j := x.natAbs - 1) (by walk_at "hp") (by omega) (by omega) ?_
      walk_at "rd"
      refine r_ixLI (by walk_at "hp") rfl (by omega) ?_
      walk_at "rd"
      refine ⟨(sz1000 (Nat.le_of_ble_eq_true rfl)), ?_⟩
      (intro p hl_; generalize he_ : upd _ p _ = H2; have n2 := New.mk hl_ he_.symm; clear hl_ he_)
      have key : H2 p = some (.tup ((lk (ldP (order m pre) x.natAbs)).map kV)) := n2.at
      walk_at "rd"
      refine r_getT (n2.get hD) key (leads_get hp hx1 hx2) ?_
      walk_at "rd"
      have fin : ∀ z : Int, z = (ldS m pre).2 (ldP (order m pre) x.natAbs) + (if x > 0 then 1 else -1) → ∀ H3, H3 = upd H2 D (.dT (putK (leads m pre) (lk (ldP (order m pre) x.natAbs)) (.int z))) → Same H H3 ∧ H3 D = some (.dT (leads m (pre ++ [x]))) ∧ H3 l = some (.lst ((order m pre).map V.int)) := by
        rintro z rfl H3 rfl
        rw [leads_snoc hp hx1 hx2]
        exact ⟨same_upd (s.trans n2.same) n1.free, upd_same, by rw [upd_ne hlD]; exact n2.get hl⟩
      refine ifD (fun hx => ?_) (fun hx => ?_)
      · walk_at "rd"
        refine r_putT' (n2.get hD) key (by have := leads_len hm pre; omega) ?_
        obtain ⟨f1, f2, f3⟩ := fin _ (by rw [if_pos hx]) _ rfl
        generalize upd H2 D _ = H3 at f1 f2 f3 ⊢
        walk_at "rd"
        refine r_ixLI (by walk_at "hp") rfl (by omega) ?_
        walk_at "rd"
        refine r_ixLI (j := x.natAbs - 1) (by walk_at "hp") (by omega) (by omega) ?_
        walk_at "rd"
        refine ⟨(sz1000 (Nat.le_of_ble_eq_true rfl)), ?_⟩
        (intro p3 hl_; generalize he_ : upd _ p3 _ = H4; have n4 := New.mk hl_ he_.symm; clear hl_ he_)
        refine r_tupG (by walk_at "hp") rfl ?_
        walk_at "rd"
        refine r_setL (j := x.natAbs - 1) (n4.get f3) (by rw [List.length_map]; exact ixN_of (by omega) (by omega)) ?_
        walk_at "rd"
        refine r_setL (j := x.natAbs) upd_same (by rw [List.length_set, List.length_map]; exact ixN_of rfl (by omega)) ?_
        walk_at "rd"
        refine ⟨hp2, _, _, _, rfl, same_upd (same_upd (f1.trans n4.same) ?_) ?_, ?_, ?_⟩
        · exact s0.free n2l.free
        · exact s0.free n2l.free
        · rw [upd_ne (Ne.symm hlD), upd_ne (Ne.symm hlD)]; exact n4.get f2
        · rw [upd_same, order_snoc]
          unfold swpN
          rw [List.map_set, List.map_set]
      · walk_at "rd"
        refine r_putT' (n2.get hD) key (by have := leads_len hm pre; omega) ?_
        obtain ⟨f1, f2, f3⟩ := fin _ (by rw [if_neg hx]) _ rfl
        generalize upd H2 D _ = H3 at f1 f2 f3 ⊢
        walk_at "rd"
        refine r_ixLI (by walk_at "hp") rfl (by omega) ?_
        walk_at "rd"
        refine r_ixLI (j := x.natAbs - 1) (by walk_at "hp") (by omega) (by omega) ?_
        walk_at "rd"
        refine ⟨(sz1000 (Nat.le_of_ble_eq_true rfl)), ?_⟩
        (intro p3 hl_; generalize he_ : upd _ p3 _ = H4; have n4 := New.mk hl_ he_.symm; clear hl_ he_)
        refine r_tupG (by walk_at "hp") rfl ?_
        walk_at "rd"
        refine r_setL (j := x.natAbs - 1) (n4.get f3) (by rw [List.length_map]; exact ixN_of (by omega) (by omega)) ?_
        walk_at "rd"
        refine r_setL (j := x.natAbs) upd_same (by rw [List.length_set, List.length_map]; exact ixN_of rfl (by omega)) ?_
        walk_at "rd"
        refine ⟨hp2, _, _, _, rfl, same_upd (same_upd (f1.trans n4.same) ?_) ?_, ?_, ?_⟩
        · exact s0.free n2l.free
        · exact s0.free n2l.free
        · rw [upd_ne (Ne.symm hlD), upd_ne (Ne.symm hlD)]; exact n4.get f2
        · rw [upd_same, order_snoc]
          unfold swpN
          rw [List.map_set, List.map_set]
    · rintro σ H' ⟨_, v6, v7, v8, rfl, s, hD, hl⟩
      walk_at "rd"
      exact k D H' s n1.free hD
end
end My
end

section
set_option Elab.async false
set_option linter.all false
set_option maxRecDepth 100000
set_option maxHeartbeats 4000000
/-! ME: the law's own lines and leads, curves. -/
namespace My
open PySem PySem.Spec PyProof.Rows L2 He LamX
local macro_rules | `(tactic| walk_at "rd") => `(tactic| repeat (with_reducible first
  | refine r_seq ?_ | refine r_asg ?_ | refine r_var (by with_unfolding_all rfl) ?_ | refine r_c ?_ | refine r_op ?_ | refine r_I0 ?_ | refine r_name ?_ | refine r_ret ?_ | refine r_if ?_ | refine r_cons ?_ | refine r_nil ?_
  | refine r_CB ?_ | refine r_call ?_ | refine r_test ?_ | refine r_eqI ?_ | refine r_eqS ?_ | refine r_neI ?_ | refine r_neS ?_ | refine r_drop ?_ | refine r_next ?_ | refine r_ifE ?_ | refine r_B ?_ | refine r_andV ?_ | refine r_orV ?_ | refine r_notV ?_ | refine r_blV ?_
  | refine r_and ?_ | refine r_or ?_ | refine r_not ?_ | refine r_tup ?_ | refine r_lst ?_ | refine r_par ?_ | refine r_exv2 ?_ | refine r_un ?_ | refine r_neg ?_ | refine r_isN ?_ | refine r_notN ?_ | refine r_retN ?_ | refine r_chain ?_
  | refine r_star ?_ | refine r_lstRg ?_ | refine r_rg1 ?_ | refine r_rg2 ?_ | refine r_exi ?_ | refine r_exi2 ?_ | refine r_sl ?_ | refine r_noPart ?_ | refine r_part ?_ | refine r_gnil ?_ | refine r_gcons ?_ | refine r_gsub ?_ | refine r_BM ?_ | refine r_M1 ?_ | refine r_isstr ?_ | refine r_meth ?_ | refine r_make ?_ | refine r_fld ?_ | refine r_abs ?_ | refine r_isiIntInt ?_ | refine r_isiIntBool ?_ | refine r_isiStr ?_ | refine r_min ?_ | refine r_max ?_ | refine r_int1 ?_ | refine r_intb ?_ | refine r_for ?_ | refine r_itup ?_ | refine r_ilist ?_ | refine r_lc ?_ | refine r_yes ?_ | refine r_istr ?_ | refine r_rng1 ?_ | refine r_rng2 ?_ | refine r_dput ?_ | refine r_daug ?_ | refine r_dget ?_ | refine r_dnewT ?_ | refine r_addI ?_ | refine r_ev ?_ | refine r_sfld ?_ | refine r_faug ?_ | refine r_prop ?_ | refine r_while ?_ | refine r_augS ?_ | refine r_tupF ?_ | refine r_idxT ?_ | refine r_kd ?_ | refine r_ki ?_ | refine r_enum ?_))

local macro_rules | `(tactic| walk_at "rn") => `(tactic| repeat (with_reducible first
  | refine r_seq ?_ | refine r_asg ?_ | refine r_var (by with_unfolding_all rfl) ?_ | refine r_c ?_ | refine r_op ?_ | refine r_I0 ?_ | refine r_name ?_ | refine r_ret ?_ | refine r_cons ?_ | refine r_nil ?_
  | refine r_CB ?_ | refine r_call ?_ | refine r_test ?_ | refine r_eqI ?_ | refine r_eqS ?_ | refine r_neI ?_ | refine r_neS ?_ | refine r_drop ?_ | refine r_next ?_ | refine r_B ?_ | refine r_andV ?_ | refine r_orV ?_ | refine r_notV ?_ | refine r_blV ?_
  | refine r_and ?_ | refine r_or ?_ | refine r_not ?_ | refine r_tup ?_ | refine r_lst ?_ | refine r_par ?_ | refine r_exv2 ?_ | refine r_un ?_ | refine r_neg ?_ | refine r_isN ?_ | refine r_notN ?_ | refine r_retN ?_ | refine r_chain ?_
  | refine r_star ?_ | refine r_lstRg ?_ | refine r_rg1 ?_ | refine r_rg2 ?_ | refine r_exi ?_ | refine r_exi2 ?_ | refine r_sl ?_ | refine r_noPart ?_ | refine r_part ?_ | refine r_gnil ?_ | refine r_gcons ?_ | refine r_gsub ?_ | refine r_BM ?_ | refine r_M1 ?_ | refine r_isstr ?_ | refine r_meth ?_ | refine r_make ?_ | refine r_fld ?_ | refine r_abs ?_ | refine r_isiIntInt ?_ | refine r_isiIntBool ?_ | refine r_isiStr ?_ | refine r_min ?_ | refine r_max ?_ | refine r_int1 ?_ | refine r_intb ?_ | refine r_for ?_ | refine r_itup ?_ | refine r_ilist ?_ | refine r_lc ?_ | refine r_yes ?_ | refine r_istr ?_ | refine r_rng1 ?_ | refine r_rng2 ?_ | refine r_dput ?_ | refine r_daug ?_ | refine r_dget ?_ | refine r_dnewT ?_ | refine r_addI ?_ | refine r_ev ?_ | refine r_sfld ?_ | refine r_faug ?_ | refine r_prop ?_ | refine r_while ?_ | refine r_augS ?_ | refine r_tupF ?_ | refine r_idxT ?_ | refine r_kd ?_ | refine r_ki ?_ | refine r_enum ?_))

local macro_rules | `(tactic| walk_at "hp") => `(tactic| (with_reducible first
  | assumption | exact New.at (by assumption)
  | exact SqT.of (by walk_at "hp") | exact SqL.of (by walk_at "hp") | exact Or.inl (by walk_at "hp") | exact Or.inr (by walk_at "hp")
  | exact New.get (by assumption) (by walk_at "hp") | exact Same.get (by assumption) (by walk_at "hp")))

theorem pre_snoc {m : Nat} {d pre post : List Int} {x : Int} (hd : Dv m d) (e : d = pre ++ x :: post) : Dv m (pre ++ [x]) := fun y hy => hd y (by rw [e]; rcases List.mem_append.mp hy with h | h; exact List.mem_append_left _ h; rw [List.mem_singleton.mp h]; simp)
def fwd (p q r s : Int) : List Int := [p + max q 0 + max (max s 0 - (p - min q 0 - r + max s 0)) 0, s - max (p - min q 0 - r + max s 0) 0, r + min s 0 + min (min q 0 + (p - min q 0 - r + max s 0)) 0, q + max (p - min q 0 - r + max s 0) 0]
def bwd (p q r s : Int) : List Int := [p - max q 0 - max (max s 0 + (p + min q 0 - r - max s 0)) 0, s + min (p + min q 0 - r - max s 0) 0, r - min s 0 - min (min q 0 - (p + min q 0 - r - max s 0)) 0, q - min (p + min q 0 - r - max s 0) 0]
def four (p q r s x : Int) : List Int := if x > 0 then fwd p q r s else bwd p q r s
theorem four_len (p q r s x : Int) : (four p q r s x).length = 4 := by unfold four; split <;> rfl
def stepN (l : List Int) (x : Int) : List Int := l.take (2 * x.natAbs - 2) ++ four (l.getD (2 * x.natAbs - 2) 0) (l.getD (2 * x.natAbs - 2 + 1) 0) (l.getD (2 * x.natAbs - 2 + 2) 0) (l.getD (2 * x.natAbs - 2 + 3) 0) x ++ l.drop (2 * x.natAbs - 2 + 4)
def nums0 (m : Nat) : List Int := (List.replicate m [0, 1]).flatten
def curves (m : Nat) (d : List Int) : List Int := d.foldl stepN (nums0 m)
theorem curves_snoc (m : Nat) (d : List Int) (x : Int) : curves m (d ++ [x]) = stepN (curves m d) x := by unfold curves; rw [List.foldl_append]; rfl
theorem nums0_len (m : Nat) : (nums0 m).length = 2 * m := by
  unfold nums0
  induction m with
  | zero => rfl
  | succ m ih => rw [List.replicate_succ, List.flatten_cons, List.length_append, ih]; simp; omega
theorem stepN_len {l : List Int} {m : Nat} {x : Int} (h : l.length = 2 * m) (h1 : 1 ≤ x.natAbs) (h2 : x.natAbs < m) : (stepN l x).length = 2 * m := by
  unfold stepN
  rw [List.length_append, List.length_append, four_len, List.length_take, List.length_drop]
  omega
theorem curves_len (m : Nat) (d : List Int) (h : Dv m d) : (curves m d).length = 2 * m := by
  have key : ∀ (d : List Int) (l : List Int), Dv m d → l.length = 2 * m → (d.foldl stepN l).length = 2 * m := by
    intro d
    induction d with
    | nil => intro l _ h; exact h
    | cons x d ih =>
      intro l hd hl
      rw [List.foldl_cons]
      obtain ⟨h1, h2⟩ := hd x List.mem_cons_self
      exact ih _ (fun y hy => hd y (List.mem_cons_of_mem _ hy)) (stepN_len hl h1 h2)
  exact key d _ h (nums0_len m)
theorem take4 (l : List Int) (b : Nat) (h : b + 4 ≤ l.length) : (l.drop b).take 4 = [l.getD b 0, l.getD (b + 1) 0, l.getD (b + 2) 0, l.getD (b + 3) 0] := by
  refine List.ext_getElem (by rw [List.length_take, List.length_drop]; simp; omega) fun i h1 h2 => ?_
  rw [List.getElem_take, List.getElem_drop]
  have h3 : i < 4 := by simpa using h2
  rcases i with _ | _ | _ | _ | i
  all_goals first | omega | (simp only [List.getElem_cons_zero, List.getElem_cons_succ, List.getD_eq_getElem?_getD]; rw [List.getElem?_eq_getElem (by omega)]; rfl)
section
variable {P : Program} {w : World} {K : PySem.W.Frag} {mg : Str → Option Value} {base : Heap}
theorem c_L_order (T : Tx w K mg base) : C8.Cal P w K mg base 1 "_law_order" sp_order [] := by
  obtain ⟨fd, F⟩ := f_L_order T
  refine cal_of F (g_L_order T) (fun _ _ _ _ _ _ us hl => match us, hl with | [_, _], _ => rfl) sc_L_order (fun vs H Q E h => by obtain ⟨_, _, _, rfl, _⟩ := h; rfl) (fun cdv A outer s H vs Q E hr h => ?_)
  obtain ⟨m, d, a, rfl, ha, hd, hm, k⟩ := h
  refine ⟨_, (pss_cons (ps_set (i := 2) sc_L_order.nd rfl (Or.inl rfl) (pe_listRg rfl rfl (b_list T) (prg_1 rfl (b_range T) (pv 0))))
  (pss_cons (ps_for PassesOwn.never rfl (piTup (K := K) (pv 1)) (pg_name (i := 3) sc_L_order.nd rfl (Or.inl rfl))
  (pss_cons (ps_set (i := 4) sc_L_order.nd rfl (Or.inl rfl) (pe_callB callAbs rfl (b_abs T) bb_abs (pa_cons (pv 3) pa_nil)))
  (pss_one (ps_set (i := 2) sc_L_order.nd rfl (Or.inl rfl) (pe_op op_cat (pe_op op_cat (pe_slice (slL (K := K)) (pv 2) po_none (po_some (pe_op op_sub (pv 4) pe_int))) (pe_lst (pa_cons (pe_ix (ixL (K := K)) (pv 2) (pv 4) (fun _ _ => rfl)) (pa_cons (pe_ix (ixL (K := K)) (pv 2) (pe_op op_sub (pv 4) pe_int) (fun _ _ => rfl)) pa_nil)))) (pe_slice (slL (K := K)) (pv 2) (po_some (pe_op op_add (pv 4) pe_int)) po_none))))))
  (pss_one (ps_ret (pe_callTy (callTupOf (K := K)) rfl (b_tuple T) bb_tuple (pa_cons (pv 2) pa_nil)))))), ?_⟩
  walk_at "rd"
  refine ⟨RgOk.of_le (by omega) (by omega) (by omega) (by omega), ?_⟩
  (intro l hl_; generalize he_ : upd _ l _ = H1; have n1 := New.mk hl_ he_.symm; clear hl_ he_)
  walk_at "rd"
  refine forT V.int d (by walk_at "hp") (fun pre σ H' => ∃ (l : Addr) (v3 v4 : Option V), σ = [some (.int m), some (.ref a), some (.ref l), v3, v4] ∧ Same H H' ∧ H' l = some (.lst ((order m pre).map V.int)))
    ⟨l, none, none, rfl, n1.same, ?_⟩ (fun pre σ H' ⟨_, _, _, _, s, _⟩ => (by walk_at "hp")) ?_ ?_
  · rw [n1.at, rgV_line0]; rfl
  · rintro pre x post σ H' e ⟨l, v3, v4, rfl, s, hl⟩
    obtain ⟨hx1, hx2⟩ := hd.mid e
    have hlen := order_len m pre
    walk_at "rd"
    refine r_slL _ (by walk_at "hp") (cut_take (j := x.natAbs - 1) (by omega)) ?_
    intro p2 H2 n2
    walk_at "rd"
    refine r_ixLI (by walk_at "hp") rfl (by omega) ?_
    walk_at "rd"
    refine r_ixLI (j := x.natAbs - 1) (by walk_at "hp") (by omega) (by omega) ?_
    walk_at "rd"
    refine ⟨(sz1000 (Nat.le_of_ble_eq_true rfl)), ?_⟩
    (intro p3 hl_; generalize he_ : upd _ p3 _ = H3; have n3 := New.mk hl_ he_.symm; clear hl_ he_)
    refine r_catL (by walk_at "hp") n3.at (by rw [List.length_map, List.length_take]; simp; omega) ?_
    intro p4 H4 n4
    walk_at "rd"
    refine r_slL _ (by walk_at "hp") (cut_drop (j := x.natAbs + 1) (by omega)) ?_
    intro p5 H5 n5
    refine r_catL (by walk_at "hp") n5.at (by rw [List.length_append, List.length_map, List.length_map, List.length_take, List.length_drop]; simp; omega) ?_
    intro p6 H6 n6
    walk_at "rd"
    refine ⟨p6, _, _, rfl, s.trans (n2.same.trans (n3.same.trans (n4.same.trans (n5.same.trans n6.same)))), ?_⟩
    rw [n6.at, order_snoc, swpN_law _ _ hx1 (by omega), List.map_append, List.map_append]
    rfl
  · rintro σ H' ⟨l, v3, v4, rfl, s, hl⟩
    walk_at "rd"
    refine r_tupOf (by walk_at "hp") fun p H2 n2 => ?_
    exact k p H2 (s.trans n2.same) n2.at
def sp_mx : Sp := fun vs H Q _ => ∃ n : Int, vs = [.int n] ∧ Q (.int (max n 0)) H
def sp_mn : Sp := fun vs H Q _ => ∃ n : Int, vs = [.int n] ∧ Q (.int (min n 0)) H
theorem c_most_nought (T : Tx w K mg base) : C8.Cal P w K mg base 1 "most_nought" sp_mx [] := by
  obtain ⟨fd, F⟩ := f_most_nought T
  refine cal_of F (g_most_nought T) (fun _ _ _ _ _ _ us hl => match us, hl with | [_], _ => rfl) sc_most_nought (fun vs H Q E h => by obtain ⟨_, rfl, _⟩ := h; rfl) (fun cdv A outer s H vs Q E hr h => ?_)
  obtain ⟨n, rfl, k⟩ := h
  refine ⟨_, (pss_one (ps_ret (pe_ifExp (pt_cmpR op_gt (pv 0) pe_int (nomark _)) (pv 0) pe_int))), ?_⟩
  walk_at "rd"
  refine ifD (fun h1 => ?_) (fun h1 => ?_)
  · walk_at "rd"
    rw [show max n 0 = n by omega] at k; exact k
  · walk_at "rd"
    rw [show max n 0 = 0 by omega] at k; exact k
theorem c_least_nought (T : Tx w K mg base) : C8.Cal P w K mg base 1 "least_nought" sp_mn [] := by
  obtain ⟨fd, F⟩ := f_least_nought T
  refine cal_of F (g_least_nought T) (fun _ _ _ _ _ _ us hl => match us, hl with | [_], _ => rfl) sc_least_nought (fun vs H Q E h => by obtain ⟨_, rfl, _⟩ := h; rfl) (fun cdv A outer s H vs Q E hr h => ?_)
  obtain ⟨n, rfl, k⟩ := h
  refine ⟨_, (pss_one (ps_ret (pe_ifExp (pt_cmpR op_lt (pv 0) pe_int (nomark _)) (pv 0) pe_int))), ?_⟩
  walk_at "rd"
  refine ifD (fun h1 => ?_) (fun h1 => ?_)
  · walk_at "rd"
    rw [show min n 0 = n by omega] at k; exact k
  · walk_at "rd"
    rw [show min n 0 = 0 by omega] at k; exact k
def sp_ff (g : Int → Int → Int → Int → List Int) : Sp := fun vs H Q _ => ∃ p q r s : Int, vs = [.int p, .int q, .int r, .int s] ∧ ∀ l H', Same H H' → H' l = some (.tup ((g p q r s).map V.int)) → Q (.ref l) H'
theorem c_forward_four (T : Tx w K mg base) : C8.Cal P w K mg base 2 "forward_four" (sp_ff fwd) [] := by
  obtain ⟨fd, F⟩ := f_forward_four T
  refine cal_of F (g_forward_four T) (fun _ _ _ _ _ _ us hl => match us, hl with | [_, _, _, _], _ => rfl) sc_forward_four (fun vs H Q E h => by obtain ⟨_, _, _, _, rfl, _⟩ := h; rfl) (fun cdv A outer s H vs Q E hr h => ?_)
  obtain ⟨p, q, r, s, rfl, k⟩ := h
  refine ⟨_, (pss_cons (ps_par rfl sc_forward_four.nd (i := 4) (j := 5) rfl rfl (by decide) rfl rfl (pa_cons (C8.pe_c (c_most_nought (K := K) T) hr (by decide) rfl (pa_cons (pv 3) pa_nil)) (pa_cons (C8.pe_c (c_least_nought (K := K) T) hr (by decide) rfl (pa_cons (pv 1) pa_nil)) pa_nil)) rfl)
  (pss_cons (ps_set (i := 6) sc_forward_four.nd rfl (Or.inl rfl) (pe_op op_add (pe_op op_sub (pe_op op_sub (pv 0) (pv 5)) (pv 2)) (pv 4)))
  (pss_cons (ps_set (i := 7) sc_forward_four.nd rfl (Or.inl rfl) (pe_tup (pa_cons (pe_op op_add (pe_op op_add (pv 0) (C8.pe_c (c_most_nought (K := K) T) hr (by decide) rfl (pa_cons (pv 1) pa_nil))) (C8.pe_c (c_most_nought (K := K) T) hr (by decide) rfl (pa_cons (pe_op op_sub (pv 4) (pv 6)) pa_nil))) (pa_cons (pe_op op_sub (pv 3) (C8.pe_c (c_most_nought (K := K) T) hr (by decide) rfl (pa_cons (pv 6) pa_nil))) pa_nil))))
  (pss_one (ps_ret (pe_op (opCatA (K := K)) (pv 7) (pe_tup (pa_cons (pe_op op_add (pe_op op_add (pv 2) (C8.pe_c (c_least_nought (K := K) T) hr (by decide) rfl (pa_cons (pv 3) pa_nil))) (C8.pe_c (c_least_nought (K := K) T) hr (by decide) rfl (pa_cons (pe_op op_add (pv 5) (pv 6)) pa_nil))) (pa_cons (pe_op op_add (pv 1) (C8.pe_c (c_most_nought (K := K) T) hr (by decide) rfl (pa_cons (pv 6) pa_nil))) pa_nil))))))))), ?_⟩
  repeat (walk_at "rd"; refine ⟨_, rfl, ?_⟩)
  walk_at "rd"
  refine ⟨(sz1000 (Nat.le_of_ble_eq_true rfl)), ?_⟩
  (intro l hl_; generalize he_ : upd _ l _ = H1; have n1 := New.mk hl_ he_.symm; clear hl_ he_)
  repeat (walk_at "rd"; refine ⟨_, rfl, ?_⟩)
  walk_at "rd"
  refine ⟨(sz1000 (Nat.le_of_ble_eq_true rfl)), ?_⟩
  (intro l2 hl_; generalize he_ : upd _ l2 _ = H2; have n2 := New.mk hl_ he_.symm; clear hl_ he_)
  refine r_catT (n2.get n1.at) n2.at (Nat.le_of_ble_eq_true rfl) fun l3 H3 s3 e3 => ?_
  walk_at "rd"
  exact k l3 H3 (n1.same.trans (n2.same.trans s3)) e3
theorem c_backward_four (T : Tx w K mg base) : C8.Cal P w K mg base 2 "backward_four" (sp_ff bwd) [] := by
  obtain ⟨fd, F⟩ := f_backward_four T
  refine cal_of F (g_backward_four T) (fun _ _ _ _ _ _ us hl => match us, hl with | [_, _, _, _], _ => rfl) sc_backward_four (fun vs H Q E h => by obtain ⟨_, _, _, _, rfl, _⟩ := h; rfl) (fun cdv A outer s H vs Q E hr h => ?_)
  obtain ⟨p, q, r, s, rfl, k⟩ := h
  refine ⟨_, (pss_cons (ps_par rfl sc_backward_four.nd (i := 4) (j := 5) rfl rfl (by decide) rfl rfl (pa_cons (C8.pe_c (c_most_nought (K := K) T) hr (by decide) rfl (pa_cons (pv 3) pa_nil)) (pa_cons (C8.pe_c (c_least_nought (K := K) T) hr (by decide) rfl (pa_cons (pv 1) pa_nil)) pa_nil)) rfl)
  (pss_cons (ps_set (i := 6) sc_backward_four.nd rfl (Or.inl rfl) (pe_op op_sub (pe_op op_sub (pe_op op_add (pv 0) (pv 5)) (pv 2)) (pv 4)))
  (pss_cons (ps_set (i := 7) sc_backward_four.nd rfl (Or.inl rfl) (pe_tup (pa_cons (pe_op op_sub (pe_op op_sub (pv 0) (C8.pe_c (c_most_nought (K := K) T) hr (by decide) rfl (pa_cons (pv 1) pa_nil))) (C8.pe_c (c_most_nought (K := K) T) hr (by decide) rfl (pa_cons (pe_op op_add (pv 4) (pv 6)) pa_nil))) (pa_cons (pe_op op_add (pv 3) (C8.pe_c (c_least_nought (K := K) T) hr (by decide) rfl (pa_cons (pv 6) pa_nil))) pa_nil))))
  (pss_one (ps_ret (pe_op (opCatA (K := K)) (pv 7) (pe_tup (pa_cons (pe_op op_sub (pe_op op_sub (pv 2) (C8.pe_c (c_least_nought (K := K) T) hr (by decide) rfl (pa_cons (pv 3) pa_nil))) (C8.pe_c (c_least_nought (K := K) T) hr (by decide) rfl (pa_cons (pe_op op_sub (pv 5) (pv 6)) pa_nil))) (pa_cons (pe_op op_sub (pv 1) (C8.pe_c (c_least_nought (K := K) T) hr (by decide) rfl (pa_cons (pv 6) pa_nil))) pa_nil))))))))), ?_⟩
  repeat (walk_at "rd"; refine ⟨_, rfl, ?_⟩)
  walk_at "rd"
  refine ⟨(sz1000 (Nat.le_of_ble_eq_true rfl)), ?_⟩
  (intro l hl_; generalize he_ : upd _ l _ = H1; have n1 := New.mk hl_ he_.symm; clear hl_ he_)
  repeat (walk_at "rd"; refine ⟨_, rfl, ?_⟩)
  walk_at "rd"
  refine ⟨(sz1000 (Nat.le_of_ble_eq_true rfl)), ?_⟩
  (intro l2 hl_; generalize he_ : upd _ l2 _ = H2; have n2 := New.mk hl_ he_.symm; clear hl_ he_)
  refine r_catT (n2.get n1.at) n2.at (Nat.le_of_ble_eq_true rfl) fun l3 H3 s3 e3 => ?_
  walk_at "rd"
  exact k l3 H3 (n1.same.trans (n2.same.trans s3)) e3
def sp_stepN : Sp := fun vs H Q _ => ∃ (m : Nat) (l : List Int) (x : Int) (a : Addr), vs = [.ref a, .int x] ∧ H a = some (.tup (l.map V.int)) ∧ l.length = 2 * m ∧ m ≤ 5 ∧ 1 ≤ x.natAbs ∧ x.natAbs < m ∧ ∀ p H', Same H H' → H' p = some (.tup ((stepN l x).map V.int)) → Q (.ref p) H'
theorem c_step_numbers (T : Tx w K mg base) : C8.Cal P w K mg base 3 "step_numbers" sp_stepN [] := by
  obtain ⟨fd, F⟩ := f_step_numbers T
  refine cal_of F (g_step_numbers T) (fun _ _ _ _ _ _ us hl => match us, hl with | [_, _], _ => rfl) sc_step_numbers (fun vs H Q E h => by obtain ⟨_, _, _, _, rfl, _⟩ := h; rfl) (fun cdv A outer s H vs Q E hr h => ?_)
  obtain ⟨m, l, x, a, rfl, ha, hl, hm, hx1, hx2, k⟩ := h
  refine ⟨_, (pss_cons (ps_set (i := 2) sc_step_numbers.nd rfl (Or.inl rfl) (pe_op op_sub (pe_op op_mul pe_int (pe_callB callAbs rfl (b_abs T) bb_abs (pa_cons (pv 1) pa_nil))) pe_int))
  (pss_cons (ps_asg (pe_slice (slT (K := K)) (pv 0) (po_some (pv 2)) (po_some (pe_op op_add (pv 2) pe_int))) (pgTup (K := K) (n := 4) rfl (pgs_cons (pg_name (i := 3) sc_step_numbers.nd rfl (Or.inl rfl)) (pgs_cons (pg_name (i := 4) sc_step_numbers.nd rfl (Or.inl rfl)) (pgs_cons (pg_name (i := 5) sc_step_numbers.nd rfl (Or.inl rfl)) (pgs_cons (pg_name (i := 6) sc_step_numbers.nd rfl (Or.inl rfl)) pgs_nil))))))
  (pss_cons (ps_set (i := 7) sc_step_numbers.nd rfl (Or.inl rfl) (pe_ifExp (pt_cmpR op_gt (pv 1) pe_int (nomark _)) (C8.pe_c (c_forward_four (K := K) T) hr (by decide) rfl (pa_cons (pv 3) (pa_cons (pv 4) (pa_cons (pv 5) (pa_cons (pv 6) pa_nil))))) (C8.pe_c (c_backward_four (K := K) T) hr (by decide) rfl (pa_cons (pv 3) (pa_cons (pv 4) (pa_cons (pv 5) (pa_cons (pv 6) pa_nil)))))))
  (pss_one (ps_ret (pe_op (opCatA (K := K)) (pe_op (opCatA (K := K)) (pe_slice (slT (K := K)) (pv 0) po_none (po_some (pv 2))) (pv 7)) (pe_slice (slT (K := K)) (pv 0) (po_some (pe_op op_add (pv 2) pe_int)) po_none))))))), ?_⟩
  walk_at "rd"
  refine r_I (Or.inl (by decide)) ?_
  walk_at "rd"
  have ec : cutV (l.map V.int) (some (2 * (x.natAbs : Int) - 2)) (some (2 * (x.natAbs : Int) - 2 + 4)) = [.int (l.getD (2 * x.natAbs - 2) 0), .int (l.getD (2 * x.natAbs - 2 + 1) 0), .int (l.getD (2 * x.natAbs - 2 + 2) 0), .int (l.getD (2 * x.natAbs - 2 + 3) 0)] := by
    rw [cut_mid (f := V.int) (i := 2 * x.natAbs - 2) (j := 2 * x.natAbs - 2 + 4) (by omega) (by omega) (by omega), show 2 * x.natAbs - 2 + 4 - (2 * x.natAbs - 2) = 4 by omega, take4 _ _ (by omega)]
    rfl
  refine r_slT _ ha ec fun p1 H1 s1 e1 => ?_
  refine r_tupG (by walk_at "hp") rfl ?_
  walk_at "rd"
  refine ifV (fun v H2 => ∃ f, v = .ref f ∧ Same H1 H2 ∧ H2 f = some (.tup ((four (l.getD (2 * x.natAbs - 2) 0) (l.getD (2 * x.natAbs - 2 + 1) 0) (l.getD (2 * x.natAbs - 2 + 2) 0) (l.getD (2 * x.natAbs - 2 + 3) 0) x).map V.int))) (fun h1 Q' q => ?_) (fun h1 Q' q => ?_) ?_
  · walk_at "rd"
    exact ⟨_, _, _, _, rfl, fun f H2 s2 e2 => q _ _ ⟨f, rfl, s2, by unfold four; rw [if_pos h1]; exact e2⟩⟩
  · walk_at "rd"
    exact ⟨_, _, _, _, rfl, fun f H2 s2 e2 => q _ _ ⟨f, rfl, s2, by unfold four; rw [if_neg h1]; exact e2⟩⟩
  · rintro v H2 ⟨f, rfl, s2, e2⟩
    have ha2 : H2 a = some (.tup (l.map V.int)) := s2 _ _ (s1 _ _ ha)
    walk_at "rd"
    refine r_slT _ (by walk_at "hp") (cut_take (j := 2 * x.natAbs - 2) (by omega)) fun p3 H3 s3 e3 => ?_
    walk_at "rd"
    refine r_catT e3 (s3 _ _ e2) (by rw [List.length_map, List.length_map, four_len, List.length_take]; omega) fun p4 H4 s4 e4 => ?_
    walk_at "rd"
    refine r_slT _ (s4 _ _ (s3 _ _ ha2)) (cut_drop (j := 2 * x.natAbs - 2 + 4) (by omega)) fun p5 H5 s5 e5 => ?_
    refine r_catT (s5 _ _ e4) e5 (by rw [List.length_append, List.length_map, List.length_map, List.length_map, four_len, List.length_take, List.length_drop]; omega) fun p6 H6 s6 e6 => ?_
    refine k p6 H6 (s1.trans (s2.trans (s3.trans (s4.trans (s5.trans s6))))) ?_
    rw [e6]; unfold stepN; rw [List.map_append, List.map_append]
end
end My
end

section
set_option Elab.async false
set_option linter.all false
set_option maxRecDepth 100000
set_option maxHeartbeats 4000000
/-! MF: the law's leads; curves, leaving, sides. -/
namespace My
open PySem PySem.Spec PyProof.Rows L2 He LamX
local macro_rules | `(tactic| walk_at "rd") => `(tactic| repeat (with_reducible first
  | refine r_seq ?_ | refine r_asg ?_ | refine r_var (by with_unfolding_all rfl) ?_ | refine r_c ?_ | refine r_op ?_ | refine r_I0 ?_ | refine r_name ?_ | refine r_ret ?_ | refine r_if ?_ | refine r_cons ?_ | refine r_nil ?_
  | refine r_CB ?_ | refine r_call ?_ | refine r_test ?_ | refine r_eqI ?_ | refine r_eqS ?_ | refine r_neI ?_ | refine r_neS ?_ | refine r_drop ?_ | refine r_next ?_ | refine r_ifE ?_ | refine r_B ?_ | refine r_andV ?_ | refine r_orV ?_ | refine r_notV ?_ | refine r_blV ?_
  | refine r_and ?_ | refine r_or ?_ | refine r_not ?_ | refine r_tup ?_ | refine r_lst ?_ | refine r_par ?_ | refine r_exv2 ?_ | refine r_un ?_ | refine r_neg ?_ | refine r_isN ?_ | refine r_notN ?_ | refine r_retN ?_ | refine r_chain ?_
  | refine r_star ?_ | refine r_lstRg ?_ | refine r_rg1 ?_ | refine r_rg2 ?_ | refine r_exi ?_ | refine r_exi2 ?_ | refine r_sl ?_ | refine r_noPart ?_ | refine r_part ?_ | refine r_gnil ?_ | refine r_gcons ?_ | refine r_gsub ?_ | refine r_BM ?_ | refine r_M1 ?_ | refine r_isstr ?_ | refine r_meth ?_ | refine r_make ?_ | refine r_fld ?_ | refine r_abs ?_ | refine r_isiIntInt ?_ | refine r_isiIntBool ?_ | refine r_isiStr ?_ | refine r_min ?_ | refine r_max ?_ | refine r_int1 ?_ | refine r_intb ?_ | refine r_for ?_ | refine r_itup ?_ | refine r_ilist ?_ | refine r_lc ?_ | refine r_yes ?_ | refine r_istr ?_ | refine r_rng1 ?_ | refine r_rng2 ?_ | refine r_dput ?_ | refine r_daug ?_ | refine r_dget ?_ | refine r_dnewT ?_ | refine r_addI ?_ | refine r_ev ?_ | refine r_sfld ?_ | refine r_faug ?_ | refine r_prop ?_ | refine r_while ?_ | refine r_augS ?_ | refine r_tupF ?_ | refine r_idxT ?_ | refine r_kd ?_ | refine r_ki ?_ | refine r_enum ?_))

local macro_rules | `(tactic| walk_at "rn") => `(tactic| repeat (with_reducible first
  | refine r_seq ?_ | refine r_asg ?_ | refine r_var (by with_unfolding_all rfl) ?_ | refine r_c ?_ | refine r_op ?_ | refine r_I0 ?_ | refine r_name ?_ | refine r_ret ?_ | refine r_cons ?_ | refine r_nil ?_
  | refine r_CB ?_ | refine r_call ?_ | refine r_test ?_ | refine r_eqI ?_ | refine r_eqS ?_ | refine r_neI ?_ | refine r_neS ?_ | refine r_drop ?_ | refine r_next ?_ | refine r_B ?_ | refine r_andV ?_ | refine r_orV ?_ | refine r_notV ?_ | refine r_blV ?_
  | refine r_and ?_ | refine r_or ?_ | refine r_not ?_ | refine r_tup ?_ | refine r_lst ?_ | refine r_par ?_ | refine r_exv2 ?_ | refine r_un ?_ | refine r_neg ?_ | refine r_isN ?_ | refine r_notN ?_ | refine r_retN ?_ | refine r_chain ?_
  | refine r_star ?_ | refine r_lstRg ?_ | refine r_rg1 ?_ | refine r_rg2 ?_ | refine r_exi ?_ | refine r_exi2 ?_ | refine r_sl ?_ | refine r_noPart ?_ | refine r_part ?_ | refine r_gnil ?_ | refine r_gcons ?_ | refine r_gsub ?_ | refine r_BM ?_ | refine r_M1 ?_ | refine r_isstr ?_ | refine r_meth ?_ | refine r_make ?_ | refine r_fld ?_ | refine r_abs ?_ | refine r_isiIntInt ?_ | refine r_isiIntBool ?_ | refine r_isiStr ?_ | refine r_min ?_ | refine r_max ?_ | refine r_int1 ?_ | refine r_intb ?_ | refine r_for ?_ | refine r_itup ?_ | refine r_ilist ?_ | refine r_lc ?_ | refine r_yes ?_ | refine r_istr ?_ | refine r_rng1 ?_ | refine r_rng2 ?_ | refine r_dput ?_ | refine r_daug ?_ | refine r_dget ?_ | refine r_dnewT ?_ | refine r_addI ?_ | refine r_ev ?_ | refine r_sfld ?_ | refine r_faug ?_ | refine r_prop ?_ | refine r_while ?_ | refine r_augS ?_ | refine r_tupF ?_ | refine r_idxT ?_ | refine r_kd ?_ | refine r_ki ?_ | refine r_enum ?_))

local macro_rules | `(tactic| walk_at "hp") => `(tactic| (with_reducible first
  | assumption | exact New.at (by assumption)
  | exact SqT.of (by walk_at "hp") | exact SqL.of (by walk_at "hp") | exact Or.inl (by walk_at "hp") | exact Or.inr (by walk_at "hp")
  | exact New.get (by assumption) (by walk_at "hp") | exact Same.get (by assumption) (by walk_at "hp")))

theorem rep_map (m : Nat) : (List.replicate m [V.int 0, V.int 1]).flatten = (nums0 m).map V.int := by
  unfold nums0
  rw [List.map_flatten, List.map_replicate]; rfl
section
variable {P : Program} {w : World} {K : PySem.W.Frag} {mg : Str → Option Value} {base : Heap}
theorem c_L_leads (T : Tx w K mg base) : C8.Cal P w K mg base 1 "_law_leads" sp_leads [] := by
  obtain ⟨fd, F⟩ := f_L_leads T
  refine cal_of F (g_L_leads T) (fun _ _ _ _ _ _ us hl => match us, hl with | [_, _], _ => rfl) sc_L_leads (fun vs H Q E h => by obtain ⟨_, _, _, rfl, _⟩ := h; rfl) (fun cdv A outer s H vs Q E hr h => ?_)
  obtain ⟨m, d, a, rfl, ha, hd, hm, k⟩ := h
  refine ⟨_, (pss_cons (ps_par rfl sc_L_leads.nd (i := 2) (j := 3) rfl rfl (by decide) rfl rfl (pa_cons pe_dnewT (pa_cons (pe_listRg rfl rfl (b_list T) (prg_1 rfl (b_range T) (pv 0))) pa_nil)) rfl)
  (pss_cons (ps_for PassesOwn.never rfl (pi_range1 rfl (b_range T) (pa_cons (pv 0) pa_nil)) (pg_name (i := 4) sc_L_leads.nd rfl (Or.inl rfl))
  (pss_one (ps_for PassesOwn.never rfl (pi_range2 rfl (b_range T) (pa_cons (pe_op op_add (pv 4) pe_int) (pa_cons (pv 0) pa_nil))) (pg_name (i := 5) sc_L_leads.nd rfl (Or.inl rfl))
  (pss_one (ps_dput (hu_of hr) (pv 2) (pe_tup (pa_cons (pv 4) (pa_cons (pv 5) pa_nil))) pe_int rfl)))))
  (pss_cons (ps_for PassesOwn.never rfl (piTup (K := K) (pv 1)) (pg_name (i := 6) sc_L_leads.nd rfl (Or.inl rfl))
  (pss_cons (ps_set (i := 7) sc_L_leads.nd rfl (Or.inl rfl) (pe_callB callAbs rfl (b_abs T) bb_abs (pa_cons (pv 6) pa_nil)))
  (pss_cons (ps_set (i := 8) sc_L_leads.nd rfl (Or.inl rfl) (pe_tup (pa_cons (pe_callB (callMin rfl) rfl (b_min T) bb_min (pa_cons (pe_ix (ixL (K := K)) (pv 3) (pe_op op_sub (pv 7) pe_int) (fun _ _ => rfl)) (pa_cons (pe_ix (ixL (K := K)) (pv 3) (pv 7) (fun _ _ => rfl)) pa_nil))) (pa_cons (pe_callB (callMax rfl) rfl (b_max T) bb_max (pa_cons (pe_ix (ixL (K := K)) (pv 3) (pe_op op_sub (pv 7) pe_int) (fun _ _ => rfl)) (pa_cons (pe_ix (ixL (K := K)) (pv 3) (pv 7) (fun _ _ => rfl)) pa_nil))) pa_nil))))
  (pss_cons (ps_dput (hu_of hr) (pv 2) (pv 8) (pe_op op_add (pe_dget (hu_of hr) (pv 2) (pv 8) (fun _ _ => rfl)) (pe_ifExp (pt_cmpR op_gt (pv 6) pe_int (nomark _)) pe_int (pe_un un_neg pe_int))) rfl)
  (pss_one (ps_set (i := 3) sc_L_leads.nd rfl (Or.inl rfl) (pe_op op_cat (pe_op op_cat (pe_slice (slL (K := K)) (pv 3) po_none (po_some (pe_op op_sub (pv 7) pe_int))) (pe_lst (pa_cons (pe_ix (ixL (K := K)) (pv 3) (pv 7) (fun _ _ => rfl)) (pa_cons (pe_ix (ixL (K := K)) (pv 3) (pe_op op_sub (pv 7) pe_int) (fun _ _ => rfl)) pa_nil)))) (pe_slice (slL (K := K)) (pv 3) (po_some (pe_op op_add (pv 7) pe_int)) po_none))))))))
  (pss_one (ps_ret (pv 2)))))), ?_⟩
  walk_at "rd"
  (intro D hl_; generalize he_ : upd _ D _ = H1; have n1 := New.mk hl_ he_.symm; clear hl_ he_)
  walk_at "rd"
  refine ⟨RgOk.of_le (by omega) (by omega) (by omega) (by omega), ?_⟩
  (intro l0 hl_; generalize he_ : upd _ l0 _ = H1b; have n1b := New.mk hl_ he_.symm; clear hl_ he_)
  walk_at "rd"
  refine ⟨m, rfl, by omega, by omega, ?_⟩
  have sD : H1b D = some (.dT []) := n1b.get n1.at
  have sl0 : H1b l0 = some (.lst ((line0 m).map V.int)) := by rw [n1b.at, rgV_line0]
  have s1 : Same H H1b := n1.same.trans n1b.same
  have hl0 : H l0 = none := n1.back n1b.free
  have hl0D : l0 ≠ D := fun e => by subst e; rw [sD] at sl0; cases sl0
  walk_at "rd"
  refine forR (fun i σ H' => i ≤ m ∧ ∃ v3 v4 : Option V, σ = [some (.int m), some (.ref a), some (.ref D), some (.ref l0), v3, v4, none, none, none] ∧ Same H H' ∧ H' l0 = some (.lst ((line0 m).map V.int)) ∧ H' D = some (.dT ((prsU m i).map (kvp fun _ => 0))))
    ⟨Nat.zero_le _, none, none, rfl, s1, sl0, sD⟩ ?_ ?_
  · rintro i σ H' hi ⟨_, v3, v4, rfl, s, hl, hD⟩
    rw [Int.zero_add]
    walk_at "rd"
    refine ⟨(i : Int) + 1, m, rfl, by omega, ?_⟩
    walk_at "rd"
    refine forR (fun j σ H' => ∃ v4 : Option V, σ = [some (.int m), some (.ref a), some (.ref D), some (.ref l0), some (.int i), v4, none, none, none] ∧ Same H H' ∧ H' l0 = some (.lst ((line0 m).map V.int)) ∧ H' D = some (.dT ((prsU m i ++ prsJ i j).map (kvp fun _ => 0))))
      ⟨v4, rfl, s, hl, by show H' D = some (.dT ((prsU m i ++ []).map _)); rw [List.append_nil]; exact hD⟩ ?_ ?_
    · rintro j σ H' hj ⟨v4, rfl, s, hl, hD⟩
      walk_at "rd"
      refine ⟨(sz1000 (Nat.le_of_ble_eq_true rfl)), ?_⟩
      (intro p hl_; generalize he_ : upd _ p _ = H2; have n2 := New.mk hl_ he_.symm; clear hl_ he_)
      have hlen : (prsU m i ++ prsJ i j).length ≤ 1000 := by
        have := prsU_len m i hm (by omega)
        have : (prsJ i j).length = j := by unfold prsJ; rw [List.length_map, List.length_range]
        rw [List.length_append]; omega
      refine r_putT (k := lk ((i : Int), (i : Int) + 1 + (j : Int))) (n2.get hD) n2.at (by rw [List.length_map]; exact hlen) ?_
      walk_at "rd"
      refine ⟨_, rfl, same_upd (s.trans n2.same) n1.free, (upd_ne hl0D).trans (n2.get hl), ?_⟩
      rw [upd_same, kvp_put_new, prsJ_succ, ← List.append_assoc, List.map_append (l₂ := [_])]
      · rfl
      · rw [List.mem_append]
        rintro (h | h)
        · have := prsU_mem.mp h; dsimp only at this; omega
        · unfold prsJ at h
          obtain ⟨b, hb, e⟩ := List.mem_map.mp h
          injection e with _ e
          have := List.mem_range.mp hb
          omega
    · rintro σ H' ⟨v4, rfl, s, hl, hD⟩
      have e : ((m : Int) - ((i : Int) + 1)).toNat = m - (i + 1) := by omega
      rw [e] at hD
      walk_at "rd"
      exact ⟨by omega, _, _, rfl, s, hl, by rw [prsU_succ]; exact hD⟩
  · rintro σ H' ⟨_, v3, v4, rfl, s, hl, hD⟩
    walk_at "rd"
    refine forT V.int d (by walk_at "hp") (fun pre σ H' => Dv m pre ∧ ∃ (l : Addr) (v6 v7 v8 : Option V), σ = [some (.int m), some (.ref a), some (.ref D), some (.ref l), v3, v4, v6, v7, v8] ∧ Same H H' ∧ H' D = some (.dT (leads m pre)) ∧ H' l = some (.lst ((order m pre).map V.int)))
      ⟨(fun _ h => nomatch h), l0, none, none, none, rfl, s, hD, hl⟩ (fun pre σ H' ⟨_, _, _, _, _, _, s, _⟩ => (by walk_at "hp")) ?_ ?_
    · rintro pre x post σ H' e ⟨hp, l, v6, v7, v8, rfl, s, hD, hl⟩
      obtain ⟨hx1, hx2⟩ := hd.mid e
      have hlen := order_len m pre
      have hp2 := pre_snoc hd e
      have hlD : l ≠ D := fun e => by subst e; rw [hl] at hD; cases hD
      walk_at "rd"
      refine r_ixLI (j := x.natAbs - 1) (by walk_at "hp") (by omega) (by omega) ?_
      walk_at "rd"
      refine r_ixLI (by walk_at "hp") rfl (by omega) ?_
      walk_at "rd"
      refine r_ixLI (j := x.natAbs - 1) (by walk_at "hp") (by omega) (by omega) ?_
      walk_at "rd"
      refine r_ixLI (by walk_at "hp") rfl (by omega) ?_
      walk_at "rd"
      refine ⟨(sz1000 (Nat.le_of_ble_eq_true rfl)), ?_⟩
      (intro p hl_; generalize he_ : upd _ p _ = H2; have n2 := New.mk hl_ he_.symm; clear hl_ he_)
      have key : H2 p = some (.tup ((lk (ldP (order m pre) x.natAbs)).map kV)) := n2.at
      walk_at "rd"
      refine r_getT (n2.get hD) key (leads_get hp hx1 hx2) ?_
      walk_at "rd"
      refine ifV (fun v H3 => H2 = H3 ∧ v = .int (if x > 0 then 1 else -1)) (fun hx Q' q => ?_) (fun hx Q' q => ?_) ?_
      · walk_at "rd"
        exact q _ _ ⟨rfl, by rw [if_pos hx]⟩
      · walk_at "rd"
        exact q _ _ ⟨rfl, by rw [if_neg hx]⟩
      rintro _ _ ⟨rfl, rfl⟩
      walk_at "rd"
      refine r_putT (n2.get hD) key (by have := leads_len hm pre; omega) ?_
      have f1 : Same H (upd H2 D (.dT (putK (leads m pre) (lk (ldP (order m pre) x.natAbs)) (.int ((ldS m pre).2 (ldP (order m pre) x.natAbs) + (if x > 0 then 1 else -1)))))) := same_upd (s.trans n2.same) n1.free
      have f2 : (upd H2 D (.dT (putK (leads m pre) (lk (ldP (order m pre) x.natAbs)) (.int ((ldS m pre).2 (ldP (order m pre) x.natAbs) + (if x > 0 then 1 else -1)))))) D = some (.dT (leads m (pre ++ [x]))) := by rw [upd_same, leads_snoc hp hx1 hx2]
      have f3 : (upd H2 D (.dT (putK (leads m pre) (lk (ldP (order m pre) x.natAbs)) (.int ((ldS m pre).2 (ldP (order m pre) x.natAbs) + (if x > 0 then 1 else -1)))))) l = some (.lst ((order m pre).map V.int)) := by rw [upd_ne hlD]; exact n2.get hl
      generalize upd H2 D _ = H3 at f1 f2 f3 ⊢
      walk_at "rd"
      refine r_slL _ f3 (cut_take (j := x.natAbs - 1) (by omega)) ?_
      intro p4 H4 n4
      walk_at "rd"
      refine r_ixLI (by walk_at "hp") rfl (by omega) ?_
      walk_at "rd"
      refine r_ixLI (j := x.natAbs - 1) (by walk_at "hp") (by omega) (by omega) ?_
      walk_at "rd"
      refine ⟨(sz1000 (Nat.le_of_ble_eq_true rfl)), ?_⟩
      (intro p5 hl_; generalize he_ : upd _ p5 _ = H5; have n5 := New.mk hl_ he_.symm; clear hl_ he_)
      refine r_catL (n5.get n4.at) n5.at (by rw [List.length_map, List.length_take]; simp; omega) ?_
      intro p6 H6 n6
      walk_at "rd"
      refine r_slL _ (n6.get (n5.get (n4.get f3))) (cut_drop (j := x.natAbs + 1) (by omega)) ?_
      intro p7 H7 n7
      refine r_catL (n7.get n6.at) n7.at (by rw [List.length_append, List.length_map, List.length_map, List.length_take, List.length_drop]; simp; omega) ?_
      intro p8 H8 n8
      walk_at "rd"
      refine ⟨hp2, p8, _, _, _, rfl, f1.trans (n4.same.trans (n5.same.trans (n6.same.trans (n7.same.trans n8.same)))), n8.get (n7.get (n6.get (n5.get (n4.get f2)))), ?_⟩
      rw [n8.at, order_snoc, swpN_law _ _ hx1 (by omega), List.map_append, List.map_append]
      rfl
    · rintro σ H' ⟨_, l, v6, v7, v8, rfl, s, hD, hl⟩
      walk_at "rd"
      exact k D H' s n1.free hD
def sp_L4 : Sp := fun vs H Q _ => ∃ p q r s x : Int, vs = [.int p, .int q, .int r, .int s, .int x] ∧ ∀ l H', Same H H' → H' l = some (.lst ((four p q r s x).map V.int)) → Q (.ref l) H'
theorem c_L_four (T : Tx w K mg base) : C8.Cal P w K mg base 1 "_law_four" sp_L4 [] := by
  obtain ⟨fd, F⟩ := f_L_four T
  refine cal_of F (g_L_four T) (fun _ _ _ _ _ _ us hl => match us, hl with | [_, _, _, _, _], _ => rfl) sc_L_four (fun vs H Q E h => by obtain ⟨_, _, _, _, _, rfl, _⟩ := h; rfl) (fun cdv A outer s H vs Q E hr h => ?_)
  obtain ⟨p, q, r, s, x, rfl, k⟩ := h
  refine ⟨_, (pss_cons (ps_if (pt_cmpR op_gt (pv 4) pe_int (nomark _)) (pss_cons (ps_set (i := 5) sc_L_four.nd rfl (Or.inl rfl) (pe_op op_add (pe_op op_sub (pe_op op_sub (pv 0) (pe_callB (callMin rfl) rfl (b_min T) bb_min (pa_cons (pv 1) (pa_cons pe_int pa_nil)))) (pv 2)) (pe_callB (callMax rfl) rfl (b_max T) bb_max (pa_cons (pv 3) (pa_cons pe_int pa_nil)))))
  (pss_cons (ps_set (i := 6) sc_L_four.nd rfl (Or.inl rfl) (pe_lst (pa_cons (pe_op op_add (pe_op op_add (pv 0) (pe_callB (callMax rfl) rfl (b_max T) bb_max (pa_cons (pv 1) (pa_cons pe_int pa_nil)))) (pe_callB (callMax rfl) rfl (b_max T) bb_max (pa_cons (pe_op op_sub (pe_callB (callMax rfl) rfl (b_max T) bb_max (pa_cons (pv 3) (pa_cons pe_int pa_nil))) (pv 5)) (pa_cons pe_int pa_nil)))) (pa_cons (pe_op op_sub (pv 3) (pe_callB (callMax rfl) rfl (b_max T) bb_max (pa_cons (pv 5) (pa_cons pe_int pa_nil)))) pa_nil))))
  (pss_one (ps_ret (pe_op op_cat (pv 6) (pe_lst (pa_cons (pe_op op_add (pe_op op_add (pv 2) (pe_callB (callMin rfl) rfl (b_min T) bb_min (pa_cons (pv 3) (pa_cons pe_int pa_nil)))) (pe_callB (callMin rfl) rfl (b_min T) bb_min (pa_cons (pe_op op_add (pe_callB (callMin rfl) rfl (b_min T) bb_min (pa_cons (pv 1) (pa_cons pe_int pa_nil))) (pv 5)) (pa_cons pe_int pa_nil)))) (pa_cons (pe_op op_add (pv 1) (pe_callB (callMax rfl) rfl (b_max T) bb_max (pa_cons (pv 5) (pa_cons pe_int pa_nil)))) pa_nil)))))))) pss_nil)
  (pss_cons (ps_set (i := 5) sc_L_four.nd rfl (Or.inl rfl) (pe_op op_sub (pe_op op_sub (pe_op op_add (pv 0) (pe_callB (callMin rfl) rfl (b_min T) bb_min (pa_cons (pv 1) (pa_cons pe_int pa_nil)))) (pv 2)) (pe_callB (callMax rfl) rfl (b_max T) bb_max (pa_cons (pv 3) (pa_cons pe_int pa_nil)))))
  (pss_cons (ps_set (i := 6) sc_L_four.nd rfl (Or.inl rfl) (pe_lst (pa_cons (pe_op op_sub (pe_op op_sub (pv 0) (pe_callB (callMax rfl) rfl (b_max T) bb_max (pa_cons (pv 1) (pa_cons pe_int pa_nil)))) (pe_callB (callMax rfl) rfl (b_max T) bb_max (pa_cons (pe_op op_add (pe_callB (callMax rfl) rfl (b_max T) bb_max (pa_cons (pv 3) (pa_cons pe_int pa_nil))) (pv 5)) (pa_cons pe_int pa_nil)))) (pa_cons (pe_op op_add (pv 3) (pe_callB (callMin rfl) rfl (b_min T) bb_min (pa_cons (pv 5) (pa_cons pe_int pa_nil)))) pa_nil))))
  (pss_one (ps_ret (pe_op op_cat (pv 6) (pe_lst (pa_cons (pe_op op_sub (pe_op op_sub (pv 2) (pe_callB (callMin rfl) rfl (b_min T) bb_min (pa_cons (pv 3) (pa_cons pe_int pa_nil)))) (pe_callB (callMin rfl) rfl (b_min T) bb_min (pa_cons (pe_op op_sub (pe_callB (callMin rfl) rfl (b_min T) bb_min (pa_cons (pv 1) (pa_cons pe_int pa_nil))) (pv 5)) (pa_cons pe_int pa_nil)))) (pa_cons (pe_op op_sub (pv 1) (pe_callB (callMin rfl) rfl (b_min T) bb_min (pa_cons (pv 5) (pa_cons pe_int pa_nil)))) pa_nil))))))))), ?_⟩
  walk_at "rd"
  refine ifD (fun hx => ?_) (fun hx => ?_)
  · walk_at "rd"
    refine ⟨(sz1000 (Nat.le_of_ble_eq_true rfl)), ?_⟩
    (intro l hl_; generalize he_ : upd _ l _ = H1; have n1 := New.mk hl_ he_.symm; clear hl_ he_)
    walk_at "rd"
    refine ⟨(sz1000 (Nat.le_of_ble_eq_true rfl)), ?_⟩
    (intro l2 hl_; generalize he_ : upd _ l2 _ = H2; have n2 := New.mk hl_ he_.symm; clear hl_ he_)
    refine r_catL (n2.get n1.at) n2.at (Nat.le_of_ble_eq_true rfl) fun l3 H3 n3 => ?_
    walk_at "rd"
    refine k l3 H3 (n1.same.trans (n2.same.trans n3.same)) ?_
    rw [n3.at]; unfold four; rw [if_pos hx]; rfl
  · walk_at "rd"
    refine ⟨(sz1000 (Nat.le_of_ble_eq_true rfl)), ?_⟩
    (intro l hl_; generalize he_ : upd _ l _ = H1; have n1 := New.mk hl_ he_.symm; clear hl_ he_)
    walk_at "rd"
    refine ⟨(sz1000 (Nat.le_of_ble_eq_true rfl)), ?_⟩
    (intro l2 hl_; generalize he_ : upd _ l2 _ = H2; have n2 := New.mk hl_ he_.symm; clear hl_ he_)
    refine r_catL (n2.get n1.at) n2.at (Nat.le_of_ble_eq_true rfl) fun l3 H3 n3 => ?_
    walk_at "rd"
    refine k l3 H3 (n1.same.trans (n2.same.trans n3.same)) ?_
    rw [n3.at]; unfold four; rw [if_neg hx]; rfl
def sp_curves : Sp := fun vs H Q _ => ∃ (m : Nat) (d : List Int) (a : Addr), vs = [.int m, .ref a] ∧ H a = some (.tup (d.map V.int)) ∧ Dv m d ∧ 2 ≤ m ∧ m ≤ 5 ∧ ∀ p H', Same H H' → H' p = some (.tup ((curves m d).map V.int)) → Q (.ref p) H'
theorem c_L_curves (T : Tx w K mg base) : C8.Cal P w K mg base 2 "_law_curves" sp_curves [] := by
  obtain ⟨fd, F⟩ := f_L_curves T
  refine cal_of F (g_L_curves T) (fun _ _ _ _ _ _ us hl => match us, hl with | [_, _], _ => rfl) sc_L_curves (fun vs H Q E h => by obtain ⟨_, _, _, rfl, _⟩ := h; rfl) (fun cdv A outer s H vs Q E hr h => ?_)
  obtain ⟨m, d, a, rfl, ha, hd, hm1, hm, k⟩ := h
  refine ⟨_, (pss_cons (ps_set (i := 2) sc_L_curves.nd rfl (Or.inl rfl) (pe_op op_rep (pe_lst (pa_cons pe_int (pa_cons pe_int pa_nil))) (pv 0)))
  (pss_cons (ps_for PassesOwn.never rfl (piTup (K := K) (pv 1)) (pg_name (i := 3) sc_L_curves.nd rfl (Or.inl rfl))
  (pss_cons (ps_set (i := 4) sc_L_curves.nd rfl (Or.inl rfl) (pe_op op_sub (pe_op op_mul pe_int (pe_callB callAbs rfl (b_abs T) bb_abs (pa_cons (pv 3) pa_nil))) pe_int))
  (pss_one (ps_set (i := 2) sc_L_curves.nd rfl (Or.inl rfl) (pe_op op_cat (pe_op op_cat (pe_slice (slL (K := K)) (pv 2) po_none (po_some (pv 4))) (C8.pe_c (c_L_four (K := K) T) hr (by decide) rfl (pa_cons (pe_ix (ixL (K := K)) (pv 2) (pv 4) (fun _ _ => rfl)) (pa_cons (pe_ix (ixL (K := K)) (pv 2) (pe_op op_add (pv 4) pe_int) (fun _ _ => rfl)) (pa_cons (pe_ix (ixL (K := K)) (pv 2) (pe_op op_add (pv 4) pe_int) (fun _ _ => rfl)) (pa_cons (pe_ix (ixL (K := K)) (pv 2) (pe_op op_add (pv 4) pe_int) (fun _ _ => rfl)) (pa_cons (pv 3) pa_nil))))))) (pe_slice (slL (K := K)) (pv 2) (po_some (pe_op op_add (pv 4) pe_int)) po_none))))))
  (pss_one (ps_ret (pe_callTy (callTupOf (K := K)) rfl (b_tuple T) bb_tuple (pa_cons (pv 2) pa_nil)))))), ?_⟩
  walk_at "rd"
  refine ⟨(sz1000 (Nat.le_of_ble_eq_true rfl)), ?_⟩
  (intro l1 hl_; generalize he_ : upd _ l1 _ = H1; have n1 := New.mk hl_ he_.symm; clear hl_ he_)
  walk_at "rd"
  refine r_repL n1.at (by omega) (by simp; omega) ?_
  intro l2 H2 n2
  walk_at "rd"
  refine forT V.int d (by walk_at "hp") (fun pre σ H' => Dv m pre ∧ ∃ (l : Addr) (v3 v4 : Option V), σ = [some (.int m), some (.ref a), some (.ref l), v3, v4] ∧ Same H H' ∧ H' l = some (.lst ((curves m pre).map V.int)))
    ⟨(fun _ h => nomatch h), l2, none, none, rfl, n1.same.trans n2.same, ?_⟩ (fun pre σ H' ⟨_, _, _, _, _, s, _⟩ => (by walk_at "hp")) ?_ ?_
  · rw [n2.at, Int.toNat_natCast, rep_map]; rfl
  · rintro pre x post σ H' e ⟨hp, l, v3, v4, rfl, s, hl⟩
    obtain ⟨hx1, hx2⟩ := hd.mid e
    have hlen := curves_len m pre hp
    have hp2 := pre_snoc hd e
    walk_at "rd"
    refine r_I (Or.inl (by decide)) ?_
    walk_at "rd"
    refine r_slL _ hl (cut_take (j := 2 * x.natAbs - 2) (by omega)) ?_
    intro p1 H1 n1
    walk_at "rd"
    refine r_ixLI (j := 2 * x.natAbs - 2) (by walk_at "hp") (by omega) (by omega) ?_
    walk_at "rd"
    refine r_ixLI (j := 2 * x.natAbs - 2 + 1) (by walk_at "hp") (by omega) (by omega) ?_
    walk_at "rd"
    refine r_ixLI (j := 2 * x.natAbs - 2 + 2) (by walk_at "hp") (by omega) (by omega) ?_
    walk_at "rd"
    refine r_ixLI (j := 2 * x.natAbs - 2 + 3) (by walk_at "hp") (by omega) (by omega) ?_
    walk_at "rd"
    refine ⟨_, _, _, _, _, rfl, fun f H2 s2 e2 => ?_⟩
    refine r_catL (s2 _ _ n1.at) e2 (by rw [List.length_map, List.length_map, four_len, List.length_take]; omega) ?_
    intro p3 H3 n3
    walk_at "rd"
    refine r_slL _ (n3.get (s2 _ _ (n1.get hl))) (cut_drop (j := 2 * x.natAbs - 2 + 4) (by omega)) ?_
    intro p4 H4 n4
    refine r_catL (n4.get n3.at) n4.at (by rw [List.length_append, List.length_map, List.length_map, List.length_map, four_len, List.length_take, List.length_drop]; omega) ?_
    intro p5 H5 n5
    walk_at "rd"
    refine ⟨hp2, p5, _, _, rfl, s.trans (n1.same.trans (s2.trans (n3.same.trans (n4.same.trans n5.same)))), ?_⟩
    rw [n5.at, curves_snoc]; unfold stepN; rw [List.map_append, List.map_append]
  · rintro σ H' ⟨_, l, v3, v4, rfl, s, hl⟩
    walk_at "rd"
    refine r_tupOf (by walk_at "hp") fun p H2 n2 => ?_
    exact k p H2 (s.trans n2.same) n2.at
def sp_alike : Sp := fun vs H Q _ => ∃ (m : Nat) (d e : List Int) (a b : Addr), vs = [.int m, .ref a, .ref b] ∧ H a = some (.tup (d.map V.int)) ∧ H b = some (.tup (e.map V.int)) ∧ Dv m d ∧ Dv m e ∧ 2 ≤ m ∧ m ≤ 5 ∧ ∀ H', Same H H' → Q (.bl (decide (curves m d = curves m e))) H'
theorem c_L_alike (T : Tx w K mg base) : C8.Cal P w K mg base 3 "_law_alike" sp_alike [] := by
  obtain ⟨fd, F⟩ := f_L_alike T
  refine cal_of F (g_L_alike T) (fun _ _ _ _ _ _ us hl => match us, hl with | [_, _, _], _ => rfl) sc_L_alike (fun vs H Q E h => by obtain ⟨_, _, _, _, _, rfl, _⟩ := h; rfl) (fun cdv A outer s H vs Q E hr h => ?_)
  obtain ⟨m, d, e, a, b, rfl, ha, hb, hd, he, hm1, hm, k⟩ := h
  refine ⟨_, (pss_one (ps_ret (pe_cmpR (opEqD (K := K) hr.units) (C8.pe_c (c_L_curves (K := K) T) hr (by decide) rfl (pa_cons (pv 0) (pa_cons (pv 1) pa_nil))) (C8.pe_c (c_L_curves (K := K) T) hr (by decide) rfl (pa_cons (pv 0) (pa_cons (pv 2) pa_nil))) (nomark _)))), ?_⟩
  walk_at "rd"
  refine ⟨m, d, a, rfl, ha, hd, hm1, hm, fun p H1 s1 e1 => ?_⟩
  walk_at "rd"
  refine ⟨m, e, b, rfl, s1 _ _ hb, he, hm1, hm, fun p2 H2 s2 e2 => ?_⟩
  refine r_eqTI (s2 _ _ e1) e2 ?_
  exact k H2 (s1.trans s2)
def sp_allLed : Sp := fun vs H Q _ => ∃ (m : Nat) (l : List Int) (d : List Int) (a b : Addr), vs = [.ref a, .ref b] ∧ H a = some (.tup (l.map V.int)) ∧ H b = some (.tup (d.map V.int)) ∧ l = nums0 m ∧ Dv m d ∧ m ≤ 5 ∧ ∀ p H', Same H H' → H' p = some (.tup ((curves m d).map V.int)) → Q (.ref p) H'
theorem c_all_led (T : Tx w K mg base) : C8.Cal P w K mg base 4 "all_led" sp_allLed [] := by
  obtain ⟨fd, F⟩ := f_all_led T
  refine cal_of F (g_all_led T) (fun _ _ _ _ _ _ us hl => match us, hl with | [_, _], _ => rfl) sc_all_led (fun vs H Q E h => by obtain ⟨_, _, _, _, _, rfl, _⟩ := h; rfl) (fun cdv A outer s H vs Q E hr h => ?_)
  obtain ⟨m, l, d, a, b, rfl, ha, hb, rfl, hd, hm, k⟩ := h
  refine ⟨_, (pss_cons (ps_for PassesOwn.never rfl (piTup (K := K) (pv 1)) (pg_name (i := 2) sc_all_led.nd rfl (Or.inl rfl))
  (pss_one (ps_set (i := 0) sc_all_led.nd rfl (Or.inl rfl) (C8.pe_c (c_step_numbers (K := K) T) hr (by decide) rfl (pa_cons (pv 0) (pa_cons (pv 2) pa_nil))))))
  (pss_one (ps_ret (pv 0)))), ?_⟩
  walk_at "rd"
  refine forT V.int d (by walk_at "hp") (fun pre σ H' => Dv m pre ∧ ∃ (l : Addr) (v3 : Option V), σ = [some (.ref l), some (.ref b), v3] ∧ Same H H' ∧ H' l = some (.tup ((curves m pre).map V.int)))
    ⟨(fun _ h => nomatch h), a, none, rfl, Same.refl _, ha⟩ (fun pre σ H' ⟨_, _, _, _, s, _⟩ => SqT.of (s _ _ hb)) ?_ ?_
  · rintro pre x post σ H' e ⟨hp, l, v3, rfl, s, hl⟩
    obtain ⟨hx1, hx2⟩ := hd.mid e
    walk_at "rd"
    refine ⟨m, curves m pre, x, l, rfl, hl, curves_len m pre hp, hm, hx1, hx2, fun p H2 s2 e2 => ?_⟩
    walk_at "rd"
    exact ⟨pre_snoc hd e, p, _, rfl, s.trans s2, by rw [e2, curves_snoc]⟩
  · rintro σ H' ⟨_, l, v3, rfl, s, hl⟩
    walk_at "rd"
    exact k l H' s hl
theorem c_numbers_in (T : Tx w K mg base) : C8.Cal P w K mg base 5 "numbers_in" sp_curves [] := by
  obtain ⟨fd, F⟩ := f_numbers_in T
  refine cal_of F (g_numbers_in T) (fun _ _ _ _ _ _ us hl => match us, hl with | [_, _], _ => rfl) sc_numbers_in (fun vs H Q E h => by obtain ⟨_, _, _, rfl, _⟩ := h; rfl) (fun cdv A outer s H vs Q E hr h => ?_)
  obtain ⟨m, d, a, rfl, ha, hd, hm1, hm, k⟩ := h
  refine ⟨_, (pss_one (ps_ret (C8.pe_c (c_all_led (K := K) T) hr (by decide) rfl (pa_cons (pe_op (opRepT (K := K)) (pe_tup (pa_cons pe_int (pa_cons pe_int pa_nil))) (pv 0)) (pa_cons (pv 1) pa_nil))))), ?_⟩
  walk_at "rd"
  refine ⟨(sz1000 (Nat.le_of_ble_eq_true rfl)), ?_⟩
  (intro l1 hl_; generalize he_ : upd _ l1 _ = H1; have n1 := New.mk hl_ he_.symm; clear hl_ he_)
  walk_at "rd"
  refine r_repT (SqT.of n1.at) (by simp) (by omega) (by omega) (by simp) ?_
  intro l2 H2 n2
  walk_at "rd"
  have e2 : H2 l2 = some (.tup ((nums0 m).map V.int)) := by rw [n2.at, Int.toNat_natCast, rep_map]
  have ha2 := n2.get (n1.get ha)
  refine ⟨m, nums0 m, d, l2, a, rfl, e2, ha2, rfl, hd, hm, fun p H3 s3 e3 => ?_⟩
  exact k p H3 (n1.same.trans (n2.same.trans s3)) e3
theorem c_is_alike (T : Tx w K mg base) : C8.Cal P w K mg base 6 "is_alike" sp_alike [] := by
  obtain ⟨fd, F⟩ := f_is_alike T
  refine cal_of F (g_is_alike T) (fun _ _ _ _ _ _ us hl => match us, hl with | [_, _, _], _ => rfl) sc_is_alike (fun vs H Q E h => by obtain ⟨_, _, _, _, _, rfl, _⟩ := h; rfl) (fun cdv A outer s H vs Q E hr h => ?_)
  obtain ⟨m, d, e, a, b, rfl, ha, hb, hd, he, hm1, hm, k⟩ := h
  refine ⟨_, (pss_one (ps_ret (pe_cmpR (opEqD (K := K) hr.units) (C8.pe_c (c_numbers_in (K := K) T) hr (by decide) rfl (pa_cons (pv 0) (pa_cons (pv 1) pa_nil))) (C8.pe_c (c_numbers_in (K := K) T) hr (by decide) rfl (pa_cons (pv 0) (pa_cons (pv 2) pa_nil))) (nomark _)))), ?_⟩
  walk_at "rd"
  refine ⟨m, d, a, rfl, ha, hd, hm1, hm, fun p H1 s1 e1 => ?_⟩
  walk_at "rd"
  refine ⟨m, e, b, rfl, s1 _ _ hb, he, hm1, hm, fun p2 H2 s2 e2 => ?_⟩
  refine r_eqTI (s2 _ _ e1) e2 ?_
  exact k H2 (s1.trans s2)
def sp_curvesZ : Sp := fun vs H Q E => ∃ (m : Nat) (d : List Int) (a : Addr), vs = [.int m, .ref a] ∧ H a = some (.tup (d.map V.int)) ∧ Dv m d ∧ 2 ≤ m ∧ m ≤ 5 ∧ d.length ≤ 1000 ∧ ∀ p H', Same H H' → H' p = some (.tup ((curves m d).map V.int)) → Q (.ref p) H'
theorem c_numbers_of (T : Tx w K mg base) : C8.Cal P w K mg base 6 "numbers_of" sp_curvesZ [] := by
  obtain ⟨fd, F⟩ := f_numbers_of T
  refine cal_of F (g_numbers_of T) (fun _ _ _ _ _ _ us hl => match us, hl with | [_, _], _ => rfl) sc_numbers_of (fun vs H Q E h => by obtain ⟨_, _, _, rfl, _⟩ := h; rfl) (fun cdv A outer s H vs Q E hr h => ?_)
  obtain ⟨m, d, a, rfl, ha, hd, hm1, hm, hz, k⟩ := h
  refine ⟨_, (pss_cons (ps_expr (C8.pe_c (c_need_one (K := K) T) hr (by decide) rfl (pa_cons (pv 0) (pa_cons (pv 1) pa_nil))))
  (pss_one (ps_ret (C8.pe_c (c_numbers_in (K := K) T) hr (by decide) rfl (pa_cons (pv 0) (pa_cons (pv 1) pa_nil)))))), ?_⟩
  walk_at "rd"
  refine ⟨m, d, a, rfl, ha, hd, hz, hm1, hm, fun H1 s1 => ?_⟩
  walk_at "rd"
  refine ⟨m, d, a, rfl, s1 _ _ ha, hd, hm1, hm, fun p H2 s2 e2 => ?_⟩
  exact k p H2 (s1.trans s2) e2
end
end My
end

section
set_option Elab.async false
set_option linter.all false
set_option maxRecDepth 100000
set_option maxHeartbeats 4000000
/-! MG: leaving, sides. -/
namespace My
open PySem PySem.Spec PyProof.Rows L2 He LamX
local macro_rules | `(tactic| walk_at "rd") => `(tactic| repeat (with_reducible first
  | refine r_seq ?_ | refine r_asg ?_ | refine r_var (by with_unfolding_all rfl) ?_ | refine r_c ?_ | refine r_op ?_ | refine r_I0 ?_ | refine r_name ?_ | refine r_ret ?_ | refine r_if ?_ | refine r_cons ?_ | refine r_nil ?_
  | refine r_CB ?_ | refine r_call ?_ | refine r_test ?_ | refine r_eqI ?_ | refine r_eqS ?_ | refine r_neI ?_ | refine r_neS ?_ | refine r_drop ?_ | refine r_next ?_ | refine r_ifE ?_ | refine r_B ?_ | refine r_andV ?_ | refine r_orV ?_ | refine r_notV ?_ | refine r_blV ?_
  | refine r_and ?_ | refine r_or ?_ | refine r_not ?_ | refine r_tup ?_ | refine r_lst ?_ | refine r_par ?_ | refine r_exv2 ?_ | refine r_un ?_ | refine r_neg ?_ | refine r_isN ?_ | refine r_notN ?_ | refine r_retN ?_ | refine r_chain ?_
  | refine r_star ?_ | refine r_lstRg ?_ | refine r_rg1 ?_ | refine r_rg2 ?_ | refine r_exi ?_ | refine r_exi2 ?_ | refine r_sl ?_ | refine r_noPart ?_ | refine r_part ?_ | refine r_gnil ?_ | refine r_gcons ?_ | refine r_gsub ?_ | refine r_BM ?_ | refine r_M1 ?_ | refine r_isstr ?_ | refine r_meth ?_ | refine r_make ?_ | refine r_fld ?_ | refine r_abs ?_ | refine r_isiIntInt ?_ | refine r_isiIntBool ?_ | refine r_isiStr ?_ | refine r_min ?_ | refine r_max ?_ | refine r_int1 ?_ | refine r_intb ?_ | refine r_for ?_ | refine r_itup ?_ | refine r_ilist ?_ | refine r_lc ?_ | refine r_yes ?_ | refine r_istr ?_ | refine r_rng1 ?_ | refine r_rng2 ?_ | refine r_dput ?_ | refine r_daug ?_ | refine r_dget ?_ | refine r_dnewT ?_ | refine r_addI ?_ | refine r_ev ?_ | refine r_sfld ?_ | refine r_faug ?_ | refine r_prop ?_ | refine r_while ?_ | refine r_augS ?_ | refine r_tupF ?_ | refine r_idxT ?_ | refine r_kd ?_ | refine r_ki ?_ | refine r_enum ?_))

local macro_rules | `(tactic| walk_at "rn") => `(tactic| repeat (with_reducible first
  | refine r_seq ?_ | refine r_asg ?_ | refine r_var (by with_unfolding_all rfl) ?_ | refine r_c ?_ | refine r_op ?_ | refine r_I0 ?_ | refine r_name ?_ | refine r_ret ?_ | refine r_cons ?_ | refine r_nil ?_
  | refine r_CB ?_ | refine r_call ?_ | refine r_test ?_ | refine r_eqI ?_ | refine r_eqS ?_ | refine r_neI ?_ | refine r_neS ?_ | refine r_drop ?_ | refine r_next ?_ | refine r_B ?_ | refine r_andV ?_ | refine r_orV ?_ | refine r_notV ?_ | refine r_blV ?_
  | refine r_and ?_ | refine r_or ?_ | refine r_not ?_ | refine r_tup ?_ | refine r_lst ?_ | refine r_par ?_ | refine r_exv2 ?_ | refine r_un ?_ | refine r_neg ?_ | refine r_isN ?_ | refine r_notN ?_ | refine r_retN ?_ | refine r_chain ?_
  | refine r_star ?_ | refine r_lstRg ?_ | refine r_rg1 ?_ | refine r_rg2 ?_ | refine r_exi ?_ | refine r_exi2 ?_ | refine r_sl ?_ | refine r_noPart ?_ | refine r_part ?_ | refine r_gnil ?_ | refine r_gcons ?_ | refine r_gsub ?_ | refine r_BM ?_ | refine r_M1 ?_ | refine r_isstr ?_ | refine r_meth ?_ | refine r_make ?_ | refine r_fld ?_ | refine r_abs ?_ | refine r_isiIntInt ?_ | refine r_isiIntBool ?_ | refine r_isiStr ?_ | refine r_min ?_ | refine r_max ?_ | refine r_int1 ?_ | refine r_intb ?_ | refine r_for ?_ | refine r_itup ?_ | refine r_ilist ?_ | refine r_lc ?_ | refine r_yes ?_ | refine r_istr ?_ | refine r_rng1 ?_ | refine r_rng2 ?_ | refine r_dput ?_ | refine r_daug ?_ | refine r_dget ?_ | refine r_dnewT ?_ | refine r_addI ?_ | refine r_ev ?_ | refine r_sfld ?_ | refine r_faug ?_ | refine r_prop ?_ | refine r_while ?_ | refine r_augS ?_ | refine r_tupF ?_ | refine r_idxT ?_ | refine r_kd ?_ | refine r_ki ?_ | refine r_enum ?_))

local macro_rules | `(tactic| walk_at "hp") => `(tactic| (with_reducible first
  | assumption | exact New.at (by assumption)
  | exact SqT.of (by walk_at "hp") | exact SqL.of (by walk_at "hp") | exact Or.inl (by walk_at "hp") | exact Or.inr (by walk_at "hp")
  | exact New.get (by assumption) (by walk_at "hp") | exact Same.get (by assumption) (by walk_at "hp")))

def lfPlace (l stay : List Int) (k : Nat) : Nat := ((l.take k).filter fun i => decide (i ∈ stay)).length
def lfStep (stay : List Int) (s : List Int × List Int) (x : Int) : List Int × List Int :=
  (swpN s.1 x.natAbs, if s.1.getD (x.natAbs - 1) 0 ∈ stay ∧ s.1.getD x.natAbs 0 ∈ stay then s.2 ++ [if x > 0 then (lfPlace s.1 stay x.natAbs : Int) else 0 - (lfPlace s.1 stay x.natAbs : Int)] else s.2)
def lfS (m : Nat) (d stay : List Int) : List Int × List Int := d.foldl (lfStep stay) (line0 m, [])
def left (m : Nat) (d stay : List Int) : List Int := (lfS m d stay).2
theorem lfS_fst (m : Nat) (d stay : List Int) : (lfS m d stay).1 = order m d := by
  have key : ∀ (d : List Int) (s : List Int × List Int), (d.foldl (lfStep stay) s).1 = d.foldl (fun l s => swpN l s.natAbs) s.1 := by
    intro d
    induction d with
    | nil => intro s; rfl
    | cons x d ih => intro s; rw [List.foldl_cons, List.foldl_cons, ih]; rfl
  exact key d _
theorem left_nil (m : Nat) (stay : List Int) : left m [] stay = [] := rfl
theorem left_snoc (m : Nat) (d : List Int) (x : Int) (stay : List Int) : left m (d ++ [x]) stay = if (order m d).getD (x.natAbs - 1) 0 ∈ stay ∧ (order m d).getD x.natAbs 0 ∈ stay then left m d stay ++ [if x > 0 then (lfPlace (order m d) stay x.natAbs : Int) else 0 - (lfPlace (order m d) stay x.natAbs : Int)] else left m d stay := by
  unfold left lfS
  rw [List.foldl_append]
  show (lfStep stay (lfS m d stay) x).2 = _
  unfold lfStep
  rw [lfS_fst]; rfl
theorem left_in {m : Nat} {d : List Int} {x : Int} {stay : List Int} (h1 : (order m d).getD (x.natAbs - 1) 0 ∈ stay) (h2 : (order m d).getD x.natAbs 0 ∈ stay) : left m (d ++ [x]) stay = left m d stay ++ [if x > 0 then (lfPlace (order m d) stay x.natAbs : Int) else 0 - (lfPlace (order m d) stay x.natAbs : Int)] := (left_snoc m d x stay).trans (if_pos ⟨h1, h2⟩)
theorem left_out {m : Nat} {d : List Int} {x : Int} {stay : List Int} (h : ¬ ((order m d).getD (x.natAbs - 1) 0 ∈ stay ∧ (order m d).getD x.natAbs 0 ∈ stay)) : left m (d ++ [x]) stay = left m d stay := (left_snoc m d x stay).trans (if_neg h)
theorem left_len (m : Nat) (d stay : List Int) : (left m d stay).length ≤ d.length := by
  have key : ∀ (n : Nat) (d : List Int), d.length = n → (left m d stay).length ≤ d.length := by
    intro n
    induction n with
    | zero => intro d h; rw [List.eq_nil_of_length_eq_zero h]; exact Nat.le_refl _
    | succ n ih =>
      intro d hl
      have hne : d ≠ [] := fun e => by rw [e] at hl; simp at hl
      rw [← List.dropLast_concat_getLast hne, left_snoc]
      have := ih d.dropLast (by rw [List.length_dropLast, hl]; rfl)
      rw [List.length_append]
      rw [List.length_singleton]
      split
      · rw [List.length_append, List.length_singleton]; omega
      · omega
  exact key _ d rfl
section
variable {P : Program} {w : World} {K : PySem.W.Frag} {mg : Str → Option Value} {base : Heap}
def sp_left : Sp := fun vs H Q _ => ∃ (m : Nat) (d st : List Int) (a b : Addr), vs = [.int m, .ref a, .ref b] ∧ H a = some (.tup (d.map V.int)) ∧ H b = some (.tup (st.map V.int)) ∧ Dv m d ∧ m ≤ 5 ∧ d.length ≤ 500 ∧ ∀ p H', Same H H' → H' p = some (.tup ((left m d st).map V.int)) → Q (.ref p) H'
theorem c_left_of (T : Tx w K mg base) : C8.Cal P w K mg base 1 "left_of" sp_left [] := by
  obtain ⟨fd, F⟩ := f_left_of T
  refine cal_of F (g_left_of T) (fun _ _ _ _ _ _ us hl => match us, hl with | [_, _, _], _ => rfl) sc_left_of (fun vs H Q E h => by obtain ⟨_, _, _, _, _, rfl, _⟩ := h; rfl) (fun cdv A outer s H vs Q E hr h => ?_)
  obtain ⟨m, d, st, a, b, rfl, ha, hb, hd, hm, hz, k⟩ := h
  refine ⟨_, (pss_cons (ps_par rfl sc_left_of.nd (i := 3) (j := 4) rfl rfl (by decide) rfl rfl (pa_cons (pe_listRg rfl rfl (b_list T) (prg_1 rfl (b_range T) (pv 0))) (pa_cons (pe_lst pa_nil) pa_nil)) rfl)
  (pss_cons (ps_for PassesOwn.never rfl (piTup (K := K) (pv 1)) (pg_name (i := 5) sc_left_of.nd rfl (Or.inl rfl))
  (pss_cons (ps_set (i := 6) sc_left_of.nd rfl (Or.inl rfl) (pe_callB callAbs rfl (b_abs T) bb_abs (pa_cons (pv 5) pa_nil)))
  (pss_cons (ps_if (PW.pt (pw_and (pt_cmpR (opIn (K := K)) (pe_ix (ixL (K := K)) (pv 3) (pe_op op_sub (pv 6) pe_int) (fun _ _ => rfl)) (pv 2) (by rfl)) (pw_and1 (pt_cmpR (opIn (K := K)) (pe_ix (ixL (K := K)) (pv 3) (pv 6) (fun _ _ => rfl)) (pv 2) (by rfl))))) (pss_cons (ps_set (i := 7) sc_left_of.nd rfl (Or.inl rfl) (pe_callB (callLen (K := K)) rfl (b_len T) bb_len (pa_cons (pe_lc (own := [("dancer", 8)]) rfl sc_left_of.nd (piList (K := K) (pe_slice (slL (K := K)) (pv 3) po_none (po_some (pv 6)))) (blkOk_by (N := N_left_of) (sc := defScope s_left_of) (by decide +kernel)) (fun _ _ _ _ _ => pg_name (i := 8) sc_left_of.nd rfl (Or.inl rfl)) (fun _ _ _ _ _ => (pts_one (pt_cmpR (opIn (K := K)) (pv 8) (pv 2) (by rfl)))) (fun _ _ _ _ _ => (pv 8))) pa_nil)))
  (pss_one (ps_expr (peApp (K := K) (pv 4) (pa_cons (pe_ifExp (pt_cmpR op_gt (pv 5) pe_int (nomark _)) (pv 7) (pe_op op_sub pe_int (pv 7))) pa_nil))))) pss_nil)
  (pss_one (ps_asg (pe_tup (pa_cons (pe_ix (ixL (K := K)) (pv 3) (pv 6) (fun _ _ => rfl)) (pa_cons (pe_ix (ixL (K := K)) (pv 3) (pe_op op_sub (pv 6) pe_int) (fun _ _ => rfl)) pa_nil))) (pgTup (K := K) (n := 2) rfl (pgs_cons (pg_sub (pv 3) (pe_op op_sub (pv 6) pe_int) set_list) (pgs_cons (pg_sub (pv 3) (pv 6) set_list) pgs_nil))))))))
  (pss_one (ps_ret (pe_callTy (callTupOf (K := K)) rfl (b_tuple T) bb_tuple (pa_cons (pv 4) pa_nil)))))), ?_⟩
  walk_at "rd"
  refine ⟨RgOk.of_le (by omega) (by omega) (by omega) (by omega), ?_⟩
  (intro l hl_; generalize he_ : upd _ l _ = H1; have n1 := New.mk hl_ he_.symm; clear hl_ he_)
  walk_at "rd"
  refine ⟨(sz1000 (Nat.le_of_ble_eq_true rfl)), ?_⟩
  (intro F hl_; generalize he_ : upd _ F _ = H2; have n2 := New.mk hl_ he_.symm; clear hl_ he_)
  walk_at "rd"
  have hl0 : H2 l = some (.lst ((line0 m).map V.int)) := by rw [n2.get n1.at, rgV_line0]
  have hlF : l ≠ F := fun e => by subst e; have := n2.free; rw [n1.at] at this; cases this
  have s0 : Same H H2 := n1.same.trans n2.same
  have hF : H F = none := n1.back n2.free
  refine forT V.int d (by walk_at "hp") (fun pre σ H' => Dv m pre ∧ pre.length ≤ 500 ∧ ∃ v5 v6 v7 : Option V, σ = [some (.int m), some (.ref a), some (.ref b), some (.ref l), some (.ref F), v5, v6, v7, none] ∧ Same H H' ∧ H' l = some (.lst ((order m pre).map V.int)) ∧ H' F = some (.lst ((left m pre st).map V.int)))
    ⟨(fun _ h => nomatch h), Nat.zero_le _, none, none, none, rfl, s0, hl0, n2.at⟩ (fun pre σ H' ⟨_, _, _, _, _, _, s, _⟩ => SqT.of (s _ _ ha)) ?_ ?_
  · rintro pre x post σ H' e ⟨hp, hpz, v5, v6, v7, rfl, s, hl, hF'⟩
    obtain ⟨hx1, hx2⟩ := hd.mid e
    have hlen := order_len m pre
    have hp2 := pre_snoc hd e
    have hpz2 : (pre ++ [x]).length ≤ 500 := by rw [e] at hz; simp at hz ⊢; omega
    have hbs : SqT K H' b (st.map V.int) := SqT.of (s _ _ hb)
    have hls : SqL K H' l ((order m pre).map V.int) := SqL.of hl
    have swap : ∀ (v7 : Option V) H3, Same H H3 → H3 l = some (.lst ((order m pre).map V.int)) → H3 F = some (.lst ((left m (pre ++ [x]) st).map V.int)) →
      ∀ H4 p, New H3 p (.tup [.int ((order m pre).getD x.natAbs 0), .int ((order m pre).getD (x.natAbs - 1) 0)]) H4 →
        Same H (upd (upd H4 l (.lst (((order m pre).map V.int).set (x.natAbs - 1) (.int ((order m pre).getD x.natAbs 0))))) l (.lst ((((order m pre).map V.int).set (x.natAbs - 1) (.int ((order m pre).getD x.natAbs 0))).set x.natAbs (.int ((order m pre).getD (x.natAbs - 1) 0))))) ∧
        (upd (upd H4 l (.lst (((order m pre).map V.int).set (x.natAbs - 1) (.int ((order m pre).getD x.natAbs 0))))) l (.lst ((((order m pre).map V.int).set (x.natAbs - 1) (.int ((order m pre).getD x.natAbs 0))).set x.natAbs (.int ((order m pre).getD (x.natAbs - 1) 0))))) l = some (.lst ((order m (pre ++ [x])).map V.int)) ∧
        (upd (upd H4 l (.lst (((order m pre).map V.int).set (x.natAbs - 1) (.int ((order m pre).getD x.natAbs 0))))) l (.lst ((((order m pre).map V.int).set (x.natAbs - 1) (.int ((order m pre).getD x.natAbs 0))).set x.natAbs (.int ((order m pre).getD (x.natAbs - 1) 0))))) F = some (.lst ((left m (pre ++ [x]) st).map V.int)) := by
      intro v7 H3 s3 h3 f3 H4 p n4
      refine ⟨same_upd (same_upd (s3.trans n4.same) n1.free) n1.free, ?_, ?_⟩
      · rw [upd_same, order_snoc]; unfold swpN; rw [List.map_set, List.map_set]
      · rw [upd_ne (Ne.symm hlF), upd_ne (Ne.symm hlF)]; exact n4.get f3
    walk_at "rd"
    refine r_ixLI (j := x.natAbs - 1) (by walk_at "hp") (by omega) (by omega) ?_
    walk_at "rd"
    refine r_inI hbs ?_
    walk_at "rd"
    refine ifD (fun i1 => ?_) (fun i1 => ?_)
    · walk_at "rd"
      refine r_ixLI (by walk_at "hp") rfl (by omega) ?_
      walk_at "rd"
      refine r_inI hbs ?_
      walk_at "rd"
      refine ifD (fun i2 => ?_) (fun i2 => ?_)
      · walk_at "rd"
        refine r_slL _ hl (cut_take (j := x.natAbs) rfl) ?_
        intro p1 H3 n3
        walk_at "rd"
        refine lcL V.int ((order m pre).take x.natAbs) (fun i => decide (i ∈ st)) V.int (SqL.of n3.at) (by rw [List.length_take]; omega) (fun y H4 hy s4 Y N q1 q2 => ?_) fun D H4 hD4 s4 e4 => ?_
        · walk_at "rd"
          refine ⟨rfl, ?_⟩
          walk_at "rd"
          refine r_inI (SqT.of (s4 _ _ (n3.get (s _ _ hb)))) ?_
          walk_at "rd"
          refine ifD (fun i3 => ?_) (fun i3 => ?_)
          · walk_at "rd"
            exact q1 (decide_eq_true i3) _ (Same.refl _)
          · exact q2 (decide_eq_false i3) _ (Same.refl _)
        walk_at "rd"
        refine r_lenL (SqL.of e4) ?_
        walk_at "rd"
        have hF4 := s4 _ _ (n3.get hF')
        refine ⟨.inl ⟨rfl, _, SqL.of hF4⟩, ?_⟩
        have hfilt : ((((order m pre).take x.natAbs).filter fun i => decide (i ∈ st)).map V.int).length = lfPlace (order m pre) st x.natAbs := by rw [List.length_map]; rfl
        rw [hfilt]
        walk_at "rd"
        refine ifV (fun v H5 => H4 = H5 ∧ v = .int (if x > 0 then (lfPlace (order m pre) st x.natAbs : Int) else 0 - (lfPlace (order m pre) st x.natAbs : Int))) (fun hx Q' q => ?_) (fun hx Q' q => ?_) ?_
        · walk_at "rd"
          exact q _ _ ⟨rfl, by rw [if_pos hx]⟩
        · walk_at "rd"
          exact q _ _ ⟨rfl, by rw [if_neg hx]⟩
        rintro v H5 ⟨rfl, rfl⟩
        walk_at "rd"
        refine r_app hF4 (small1000 (by have := left_len m pre st; rw [List.length_map]; omega)) ?_
        walk_at "rd"
        have hl5 : (upd H4 F (.lst ((left m pre st).map V.int ++ [.int (if x > 0 then (lfPlace (order m pre) st x.natAbs : Int) else 0 - (lfPlace (order m pre) st x.natAbs : Int))]))) l = some (.lst ((order m pre).map V.int)) := (upd_ne hlF).trans (s4 _ _ (n3.get hl))
        have hF5 : (upd H4 F (.lst ((left m pre st).map V.int ++ [.int (if x > 0 then (lfPlace (order m pre) st x.natAbs : Int) else 0 - (lfPlace (order m pre) st x.natAbs : Int))]))) F = some (.lst ((left m (pre ++ [x]) st).map V.int)) := by rw [upd_same, left_in i1 i2, List.map_append]; rfl
        have s5 : Same H (upd H4 F (.lst ((left m pre st).map V.int ++ [.int (if x > 0 then (lfPlace (order m pre) st x.natAbs : Int) else 0 - (lfPlace (order m pre) st x.natAbs : Int))]))) := same_upd (s.trans (n3.same.trans s4)) hF
        generalize upd H4 F _ = H5 at hl5 hF5 s5 ⊢
        have hls5 : SqL K H5 l ((order m pre).map V.int) := SqL.of hl5
        refine r_ixLI (j := x.natAbs) hls5 rfl (by omega) ?_
        walk_at "rd"
        refine r_ixLI (j := x.natAbs - 1) hls5 (by omega) (by omega) ?_
        walk_at "rd"
        refine ⟨(sz1000 (Nat.le_of_ble_eq_true rfl)), ?_⟩
        (intro p6 hl_; generalize he_ : upd _ p6 _ = H6; have n6 := New.mk hl_ he_.symm; clear hl_ he_)
        obtain ⟨z1, z2, z3⟩ := swap none H5 s5 hl5 hF5 H6 p6 n6
        refine r_tupG (SqT.of n6.at) rfl ?_
        walk_at "rd"
        refine r_setL (j := x.natAbs - 1) (n6.get hl5) (by rw [List.length_map]; exact ixN_of (by omega) (by omega)) ?_
        walk_at "rd"
        refine r_setL (j := x.natAbs) upd_same (by rw [List.length_set, List.length_map]; exact ixN_of rfl (by omega)) ?_
        walk_at "rd"
        exact ⟨hp2, hpz2, _, _, _, rfl, z1, z2, z3⟩
      · have hF5 : H' F = some (.lst ((left m (pre ++ [x]) st).map V.int)) := by rw [left_out (fun h => i2 h.2)]; exact hF'
        walk_at "rd"
        refine r_ixLI (j := x.natAbs) hls rfl (by omega) ?_
        walk_at "rd"
        refine r_ixLI (j := x.natAbs - 1) hls (by omega) (by omega) ?_
        walk_at "rd"
        refine ⟨(sz1000 (Nat.le_of_ble_eq_true rfl)), ?_⟩
        (intro p6 hl_; generalize he_ : upd _ p6 _ = H6; have n6 := New.mk hl_ he_.symm; clear hl_ he_)
        obtain ⟨z1, z2, z3⟩ := swap none H' s hl hF5 H6 p6 n6
        refine r_tupG (SqT.of n6.at) rfl ?_
        walk_at "rd"
        refine r_setL (j := x.natAbs - 1) (n6.get hl) (by rw [List.length_map]; exact ixN_of (by omega) (by omega)) ?_
        walk_at "rd"
        refine r_setL (j := x.natAbs) upd_same (by rw [List.length_set, List.length_map]; exact ixN_of rfl (by omega)) ?_
        walk_at "rd"
        exact ⟨hp2, hpz2, _, _, _, rfl, z1, z2, z3⟩
    · have hF5 : H' F = some (.lst ((left m (pre ++ [x]) st).map V.int)) := by rw [left_out (fun h => i1 h.1)]; exact hF'
      refine iteF ?_
      walk_at "rd"
      refine r_ixLI (j := x.natAbs) hls rfl (by omega) ?_
      walk_at "rd"
      refine r_ixLI (j := x.natAbs - 1) hls (by omega) (by omega) ?_
      walk_at "rd"
      refine ⟨(sz1000 (Nat.le_of_ble_eq_true rfl)), ?_⟩
      (intro p6 hl_; generalize he_ : upd _ p6 _ = H6; have n6 := New.mk hl_ he_.symm; clear hl_ he_)
      obtain ⟨z1, z2, z3⟩ := swap none H' s hl hF5 H6 p6 n6
      refine r_tupG (SqT.of n6.at) rfl ?_
      walk_at "rd"
      refine r_setL (j := x.natAbs - 1) (n6.get hl) (by rw [List.length_map]; exact ixN_of (by omega) (by omega)) ?_
      walk_at "rd"
      refine r_setL (j := x.natAbs) upd_same (by rw [List.length_set, List.length_map]; exact ixN_of rfl (by omega)) ?_
      walk_at "rd"
      exact ⟨hp2, hpz2, _, _, _, rfl, z1, z2, z3⟩
  · rintro σ H' ⟨_, _, v5, v6, v7, rfl, s, hl, hF'⟩
    walk_at "rd"
    refine r_tupOf (SqL.of hF') fun p H2 n2 => ?_
    exact k p H2 (s.trans n2.same) n2.at
end
end My
end

section
set_option Elab.async false
set_option linter.all false
set_option maxRecDepth 100000
set_option maxHeartbeats 4000000
/-! MH: the law's leaving; lots; sides. -/
namespace My
open PySem PySem.Spec PyProof.Rows L2 He LamX
local macro_rules | `(tactic| walk_at "rd") => `(tactic| repeat (with_reducible first
  | refine r_seq ?_ | refine r_asg ?_ | refine r_var (by with_unfolding_all rfl) ?_ | refine r_c ?_ | refine r_op ?_ | refine r_I0 ?_ | refine r_name ?_ | refine r_ret ?_ | refine r_if ?_ | refine r_cons ?_ | refine r_nil ?_
  | refine r_CB ?_ | refine r_call ?_ | refine r_test ?_ | refine r_eqI ?_ | refine r_eqS ?_ | refine r_neI ?_ | refine r_neS ?_ | refine r_drop ?_ | refine r_next ?_ | refine r_ifE ?_ | refine r_B ?_ | refine r_andV ?_ | refine r_orV ?_ | refine r_notV ?_ | refine r_blV ?_
  | refine r_and ?_ | refine r_or ?_ | refine r_not ?_ | refine r_tup ?_ | refine r_lst ?_ | refine r_par ?_ | refine r_exv2 ?_ | refine r_un ?_ | refine r_neg ?_ | refine r_isN ?_ | refine r_notN ?_ | refine r_retN ?_ | refine r_chain ?_
  | refine r_star ?_ | refine r_lstRg ?_ | refine r_rg1 ?_ | refine r_rg2 ?_ | refine r_exi ?_ | refine r_exi2 ?_ | refine r_sl ?_ | refine r_noPart ?_ | refine r_part ?_ | refine r_gnil ?_ | refine r_gcons ?_ | refine r_gsub ?_ | refine r_BM ?_ | refine r_M1 ?_ | refine r_isstr ?_ | refine r_meth ?_ | refine r_make ?_ | refine r_fld ?_ | refine r_abs ?_ | refine r_isiIntInt ?_ | refine r_isiIntBool ?_ | refine r_isiStr ?_ | refine r_min ?_ | refine r_max ?_ | refine r_int1 ?_ | refine r_intb ?_ | refine r_for ?_ | refine r_itup ?_ | refine r_ilist ?_ | refine r_lc ?_ | refine r_yes ?_ | refine r_istr ?_ | refine r_rng1 ?_ | refine r_rng2 ?_ | refine r_dput ?_ | refine r_daug ?_ | refine r_dget ?_ | refine r_dnewT ?_ | refine r_addI ?_ | refine r_ev ?_ | refine r_sfld ?_ | refine r_faug ?_ | refine r_prop ?_ | refine r_while ?_ | refine r_augS ?_ | refine r_tupF ?_ | refine r_idxT ?_ | refine r_kd ?_ | refine r_ki ?_ | refine r_enum ?_))

local macro_rules | `(tactic| walk_at "rn") => `(tactic| repeat (with_reducible first
  | refine r_seq ?_ | refine r_asg ?_ | refine r_var (by with_unfolding_all rfl) ?_ | refine r_c ?_ | refine r_op ?_ | refine r_I0 ?_ | refine r_name ?_ | refine r_ret ?_ | refine r_cons ?_ | refine r_nil ?_
  | refine r_CB ?_ | refine r_call ?_ | refine r_test ?_ | refine r_eqI ?_ | refine r_eqS ?_ | refine r_neI ?_ | refine r_neS ?_ | refine r_drop ?_ | refine r_next ?_ | refine r_B ?_ | refine r_andV ?_ | refine r_orV ?_ | refine r_notV ?_ | refine r_blV ?_
  | refine r_and ?_ | refine r_or ?_ | refine r_not ?_ | refine r_tup ?_ | refine r_lst ?_ | refine r_par ?_ | refine r_exv2 ?_ | refine r_un ?_ | refine r_neg ?_ | refine r_isN ?_ | refine r_notN ?_ | refine r_retN ?_ | refine r_chain ?_
  | refine r_star ?_ | refine r_lstRg ?_ | refine r_rg1 ?_ | refine r_rg2 ?_ | refine r_exi ?_ | refine r_exi2 ?_ | refine r_sl ?_ | refine r_noPart ?_ | refine r_part ?_ | refine r_gnil ?_ | refine r_gcons ?_ | refine r_gsub ?_ | refine r_BM ?_ | refine r_M1 ?_ | refine r_isstr ?_ | refine r_meth ?_ | refine r_make ?_ | refine r_fld ?_ | refine r_abs ?_ | refine r_isiIntInt ?_ | refine r_isiIntBool ?_ | refine r_isiStr ?_ | refine r_min ?_ | refine r_max ?_ | refine r_int1 ?_ | refine r_intb ?_ | refine r_for ?_ | refine r_itup ?_ | refine r_ilist ?_ | refine r_lc ?_ | refine r_yes ?_ | refine r_istr ?_ | refine r_rng1 ?_ | refine r_rng2 ?_ | refine r_dput ?_ | refine r_daug ?_ | refine r_dget ?_ | refine r_dnewT ?_ | refine r_addI ?_ | refine r_ev ?_ | refine r_sfld ?_ | refine r_faug ?_ | refine r_prop ?_ | refine r_while ?_ | refine r_augS ?_ | refine r_tupF ?_ | refine r_idxT ?_ | refine r_kd ?_ | refine r_ki ?_ | refine r_enum ?_))

local macro_rules | `(tactic| walk_at "hp") => `(tactic| (with_reducible first
  | assumption | exact New.at (by assumption)
  | exact SqT.of (by walk_at "hp") | exact SqL.of (by walk_at "hp") | exact Or.inl (by walk_at "hp") | exact Or.inr (by walk_at "hp")
  | exact New.get (by assumption) (by walk_at "hp") | exact Same.get (by assumption) (by walk_at "hp")))

section
variable {P : Program} {w : World} {K : PySem.W.Frag} {mg : Str → Option Value} {base : Heap}
def sp_Lleft : Sp := fun vs H Q _ => ∃ (m : Nat) (d st : List Int) (a b : Addr), vs = [.int m, .ref a, .ref b] ∧ H a = some (.tup (d.map V.int)) ∧ H b = some (.lst (st.map V.int)) ∧ Dv m d ∧ m ≤ 5 ∧ d.length ≤ 500 ∧ ∀ p H', Same H H' → H' p = some (.tup ((left m d st).map V.int)) → Q (.ref p) H'
theorem c_L_left (T : Tx w K mg base) : C8.Cal P w K mg base 1 "_law_left" sp_Lleft [] := by
  obtain ⟨fd, F⟩ := f_L_left T
  refine cal_of F (g_L_left T) (fun _ _ _ _ _ _ us hl => match us, hl with | [_, _, _], _ => rfl) sc_L_left (fun vs H Q E h => by obtain ⟨_, _, _, _, _, rfl, _⟩ := h; rfl) (fun cdv A outer s H vs Q E hr h => ?_)
  obtain ⟨m, d, st, a, b, rfl, ha, hb, hd, hm, hz, k⟩ := h
  refine ⟨_, (pss_cons (ps_par rfl sc_L_left.nd (i := 3) (j := 4) rfl rfl (by decide) rfl rfl (pa_cons (pe_listRg rfl rfl (b_list T) (prg_1 rfl (b_range T) (pv 0))) (pa_cons (pe_lst pa_nil) pa_nil)) rfl)
  (pss_cons (ps_for PassesOwn.never rfl (piTup (K := K) (pv 1)) (pg_name (i := 5) sc_L_left.nd rfl (Or.inl rfl))
  (pss_cons (ps_set (i := 6) sc_L_left.nd rfl (Or.inl rfl) (pe_callB callAbs rfl (b_abs T) bb_abs (pa_cons (pv 5) pa_nil)))
  (pss_cons (ps_if (PW.pt (pw_and (pt_cmpR (opIn (K := K)) (pe_ix (ixL (K := K)) (pv 3) (pe_op op_sub (pv 6) pe_int) (fun _ _ => rfl)) (pv 2) (by rfl)) (pw_and1 (pt_cmpR (opIn (K := K)) (pe_ix (ixL (K := K)) (pv 3) (pv 6) (fun _ _ => rfl)) (pv 2) (by rfl))))) (pss_cons (ps_set (i := 7) sc_L_left.nd rfl (Or.inl rfl) (pe_callB (callLen (K := K)) rfl (b_len T) bb_len (pa_cons (pe_lc (own := [("_law_each", 8)]) rfl sc_L_left.nd (piList (K := K) (pe_slice (slL (K := K)) (pv 3) po_none (po_some (pv 6)))) (blkOk_by (N := N_L_left) (sc := defScope s_L_left) (by decide +kernel)) (fun _ _ _ _ _ => pg_name (i := 8) sc_L_left.nd rfl (Or.inl rfl)) (fun _ _ _ _ _ => (pts_one (pt_cmpR (opIn (K := K)) (pv 8) (pv 2) (by rfl)))) (fun _ _ _ _ _ => (pv 8))) pa_nil)))
  (pss_one (ps_expr (peApp (K := K) (pv 4) (pa_cons (pe_ifExp (pt_cmpR op_gt (pv 5) pe_int (nomark _)) (pv 7) (pe_op op_sub pe_int (pv 7))) pa_nil))))) pss_nil)
  (pss_one (ps_set (i := 3) sc_L_left.nd rfl (Or.inl rfl) (pe_op op_cat (pe_op op_cat (pe_slice (slL (K := K)) (pv 3) po_none (po_some (pe_op op_sub (pv 6) pe_int))) (pe_lst (pa_cons (pe_ix (ixL (K := K)) (pv 3) (pv 6) (fun _ _ => rfl)) (pa_cons (pe_ix (ixL (K := K)) (pv 3) (pe_op op_sub (pv 6) pe_int) (fun _ _ => rfl)) pa_nil)))) (pe_slice (slL (K := K)) (pv 3) (po_some (pe_op op_add (pv 6) pe_int)) po_none)))))))
  (pss_one (ps_ret (pe_callTy (callTupOf (K := K)) rfl (b_tuple T) bb_tuple (pa_cons (pv 4) pa_nil)))))), ?_⟩
  walk_at "rd"
  refine ⟨RgOk.of_le (by omega) (by omega) (by omega) (by omega), ?_⟩
  (intro l hl_; generalize he_ : upd _ l _ = H1; have n1 := New.mk hl_ he_.symm; clear hl_ he_)
  walk_at "rd"
  refine ⟨(sz1000 (Nat.le_of_ble_eq_true rfl)), ?_⟩
  (intro F hl_; generalize he_ : upd _ F _ = H2; have n2 := New.mk hl_ he_.symm; clear hl_ he_)
  walk_at "rd"
  have hl0 : H2 l = some (.lst ((line0 m).map V.int)) := by rw [n2.get n1.at, rgV_line0]
  have s0 : Same H H2 := n1.same.trans n2.same
  have hF : H F = none := n1.back n2.free
  have hlF0 : l ≠ F := fun e => by subst e; have := n2.free; rw [n1.at] at this; cases this
  refine forT V.int d (by walk_at "hp") (fun pre σ H' => Dv m pre ∧ pre.length ≤ 500 ∧ ∃ (l : Addr) (v5 v6 v7 : Option V), l ≠ F ∧ σ = [some (.int m), some (.ref a), some (.ref b), some (.ref l), some (.ref F), v5, v6, v7, none] ∧ Same H H' ∧ H' l = some (.lst ((order m pre).map V.int)) ∧ H' F = some (.lst ((left m pre st).map V.int)))
    ⟨(fun _ h => nomatch h), Nat.zero_le _, l, none, none, none, hlF0, rfl, s0, hl0, n2.at⟩ (fun pre σ H' ⟨_, _, _, _, _, _, _, _, s, _⟩ => SqT.of (s _ _ ha)) ?_ ?_
  · rintro pre x post σ H' e ⟨hp, hpz, l, v5, v6, v7, hlF, rfl, s, hl, hF'⟩
    obtain ⟨hx1, hx2⟩ := hd.mid e
    have hlen := order_len m pre
    have hp2 := pre_snoc hd e
    have hpz2 : (pre ++ [x]).length ≤ 500 := by rw [e] at hz; simp at hz ⊢; omega
    have hls : SqL K H' l ((order m pre).map V.int) := SqL.of hl
    have hbs : SqL K H' b (st.map V.int) := SqL.of (s _ _ hb)
    walk_at "rn"
    refine r_ifJ (fun σ2 H2 => ∃ v7, σ2 = [some (.int m), some (.ref a), some (.ref b), some (.ref l), some (.ref F), some (.int x), some (.int (x.natAbs : Int)), v7, none] ∧ Same H H2 ∧ H2 l = some (.lst ((order m pre).map V.int)) ∧ H2 F = some (.lst ((left m (pre ++ [x]) st).map V.int))) (fun N hN => ?_) ?_
    · walk_at "rd"
      refine r_ixLI (j := x.natAbs - 1) hls (by omega) (by omega) ?_
      walk_at "rd"
      refine r_inIL hbs ?_
      walk_at "rd"
      refine ifD (fun i1 => ?_) (fun i1 => ?_)
      · walk_at "rd"
        refine r_ixLI (j := x.natAbs) hls rfl (by omega) ?_
        walk_at "rd"
        refine r_inIL hbs ?_
        walk_at "rd"
        refine ifD (fun i2 => ?_) (fun i2 => ?_)
        · walk_at "rd"
          refine r_slL _ hl (cut_take (j := x.natAbs) rfl) ?_
          intro p1 H3 n3
          walk_at "rd"
          refine lcL V.int ((order m pre).take x.natAbs) (fun i => decide (i ∈ st)) V.int (SqL.of n3.at) (by rw [List.length_take]; omega) (fun y H4 hy s4 Y N q1 q2 => ?_) fun D H4 hD4 s4 e4 => ?_
          · walk_at "rd"
            refine ⟨rfl, ?_⟩
            walk_at "rd"
            refine r_inIL (SqL.of (s4 _ _ (n3.get (s _ _ hb)))) ?_
            walk_at "rd"
            refine ifD (fun i3 => ?_) (fun i3 => ?_)
            · walk_at "rd"
              exact q1 (decide_eq_true i3) _ (Same.refl _)
            · exact q2 (decide_eq_false i3) _ (Same.refl _)
          walk_at "rd"
          refine r_lenL (SqL.of e4) ?_
          walk_at "rd"
          have hF4 := s4 _ _ (n3.get hF')
          refine ⟨.inl ⟨rfl, _, SqL.of hF4⟩, ?_⟩
          have hfilt : ((((order m pre).take x.natAbs).filter fun i => decide (i ∈ st)).map V.int).length = lfPlace (order m pre) st x.natAbs := by rw [List.length_map]; rfl
          rw [hfilt]
          walk_at "rd"
          refine ifV (fun v H5 => H4 = H5 ∧ v = .int (if x > 0 then (lfPlace (order m pre) st x.natAbs : Int) else 0 - (lfPlace (order m pre) st x.natAbs : Int))) (fun hx Q' q => ?_) (fun hx Q' q => ?_) ?_
          · walk_at "rd"
            exact q _ _ ⟨rfl, by rw [if_pos hx]⟩
          · walk_at "rd"
            exact q _ _ ⟨rfl, by rw [if_neg hx]⟩
          rintro v H5 ⟨rfl, rfl⟩
          walk_at "rd"
          refine r_app hF4 (small1000 (by have := left_len m pre st; rw [List.length_map]; omega)) ?_
          walk_at "rd"
          refine hN _ _ ⟨_, rfl, same_upd (s.trans (n3.same.trans s4)) hF, (upd_ne hlF).trans (s4 _ _ (n3.get hl)), ?_⟩
          rw [upd_same, left_in i1 i2, List.map_append]; rfl
        · walk_at "rd"
          exact hN _ _ ⟨_, rfl, s, hl, by rw [left_out (fun h => i2 h.2)]; exact hF'⟩
      · refine iteF ?_
        walk_at "rd"
        exact hN _ _ ⟨_, rfl, s, hl, by rw [left_out (fun h => i1 h.1)]; exact hF'⟩
    · rintro σ2 H2 ⟨v7, rfl, s2, hl2, hF2⟩
      have hls2 : SqL K H2 l ((order m pre).map V.int) := SqL.of hl2
      walk_at "rd"
      refine r_slL _ hl2 (cut_take (j := x.natAbs - 1) (by omega)) ?_
      intro p4 H4 n4
      walk_at "rd"
      refine r_ixLI (j := x.natAbs) (SqL.of (n4.get hl2)) rfl (by omega) ?_
      walk_at "rd"
      refine r_ixLI (j := x.natAbs - 1) (SqL.of (n4.get hl2)) (by omega) (by omega) ?_
      walk_at "rd"
      refine ⟨(sz1000 (Nat.le_of_ble_eq_true rfl)), ?_⟩
      (intro p5 hl_; generalize he_ : upd _ p5 _ = H5; have n5 := New.mk hl_ he_.symm; clear hl_ he_)
      refine r_catL (n5.get n4.at) n5.at (by rw [List.length_map, List.length_take]; simp; omega) ?_
      intro p6 H6 n6
      walk_at "rd"
      refine r_slL _ (n6.get (n5.get (n4.get hl2))) (cut_drop (j := x.natAbs + 1) (by omega)) ?_
      intro p7 H7 n7
      refine r_catL (n7.get n6.at) n7.at (by rw [List.length_append, List.length_map, List.length_map, List.length_take, List.length_drop]; simp; omega) ?_
      intro p8 H8 n8
      walk_at "rd"
      have hF8 := n8.get (n7.get (n6.get (n5.get (n4.get hF2))))
      refine ⟨hp2, hpz2, p8, _, _, _, fun e => ?_, rfl, s2.trans (n4.same.trans (n5.same.trans (n6.same.trans (n7.same.trans n8.same)))), ?_, hF8⟩
      · subst e
        have := n8.free
        rw [n7.get (n6.get (n5.get (n4.get hF2)))] at this
        cases this
      · rw [n8.at, order_snoc, swpN_law _ _ hx1 (by omega), List.map_append, List.map_append]
        rfl
  · rintro σ H' ⟨_, _, l, v5, v6, v7, _, rfl, s, hl, hF'⟩
    walk_at "rd"
    refine r_tupOf (SqL.of hF') fun p H2 n2 => ?_
    exact k p H2 (s.trans n2.same) n2.at
def moved (d : List Int) (b : Int) : List Int := d.map fun x => if x > 0 then x + b else x - b
def sp_moved : Sp := fun vs H Q _ => ∃ (b : Int) (d : List Int) (a : Addr), vs = [.ref a, .int b] ∧ H a = some (.tup (d.map V.int)) ∧ d.length ≤ 500 ∧ ∀ p H', Same H H' → H' p = some (.tup ((moved d b).map V.int)) → Q (.ref p) H'
theorem c_L_moved_up (T : Tx w K mg base) : C8.Cal P w K mg base 1 "_law_moved_up" sp_moved [] := by
  obtain ⟨fd, F⟩ := f_L_moved_up T
  refine cal_of F (g_L_moved_up T) (fun _ _ _ _ _ _ us hl => match us, hl with | [_, _], _ => rfl) sc_L_moved_up (fun vs H Q E h => by obtain ⟨_, _, _, rfl, _⟩ := h; rfl) (fun cdv A outer s H vs Q E hr h => ?_)
  obtain ⟨b, d, a, rfl, ha, hz, k⟩ := h
  refine ⟨_, (pss_one (ps_ret (pe_callTy (callTupOf (K := K)) rfl (b_tuple T) bb_tuple (pa_cons (pe_lc (own := [("_law_step_here", 2)]) rfl sc_L_moved_up.nd (piTup (K := K) (pv 0)) (blkOk_by (N := N_L_moved_up) (sc := defScope s_L_moved_up) (by decide +kernel)) (fun _ _ _ _ _ => pg_name (i := 2) sc_L_moved_up.nd rfl (Or.inl rfl)) (fun _ _ _ _ _ => pts_nil) (fun _ _ _ _ _ => (pe_ifExp (pt_cmpR op_gt (pv 2) pe_int (nomark _)) (pe_op op_add (pv 2) (pv 1)) (pe_op op_sub (pv 2) (pv 1))))) pa_nil)))), ?_⟩
  walk_at "rd"
  refine lcT1 V.int d (fun x => .int (if x > 0 then x + b else x - b)) (SqT.of ha) (by omega) (fun y H4 hy s4 Y q => ?_) fun D H4 hD4 s4 e4 => ?_
  · walk_at "rd"
    refine ⟨rfl, ?_⟩
    walk_at "rd"
    refine ifD (fun i3 => ?_) (fun i3 => ?_)
    · walk_at "rd"
      have := q _ (Same.refl _)
      rw [if_pos i3] at this; exact this
    · walk_at "rd"
      have := q _ (Same.refl _)
      rw [if_neg i3] at this; exact this
  · walk_at "rd"
    refine r_tupOf (SqL.of e4) fun p H2 n2 => ?_
    refine k p H2 (s4.trans n2.same) ?_
    rw [n2.at]; unfold moved; rw [List.map_map]; rfl
def sp_lot : Sp := fun vs H Q _ => ∃ (m n : Nat) (st : List Int) (a : Addr), vs = [.int m, .ref a, .int n] ∧ H a = some (.tup (st.map V.int)) ∧ st.Pairwise (· < ·) ∧ (∀ x ∈ st, 0 ≤ x ∧ x < m) ∧ n ≤ st.length ∧ st.length ≤ 60 ∧ ∀ H', Same H H' → Q (.bl true) H'
theorem c_is_lot (T : Tx w K mg base) : C8.Cal P w K mg base 3 "is_lot" sp_lot [] := by
  obtain ⟨fd, F⟩ := f_is_lot T
  refine cal_of F (g_is_lot T) (fun _ _ _ _ _ _ us hl => match us, hl with | [_, _, _], _ => rfl) sc_is_lot (fun vs H Q E h => by obtain ⟨_, _, _, _, rfl, _⟩ := h; rfl) (fun cdv A outer s H vs Q E hr h => ?_)
  obtain ⟨m, n, st, a, rfl, ha, hp, hm, hn, hz, k⟩ := h
  refine ⟨_, (pss_cons (ps_if (PW.pt (pw_or (pt_not (pt_val (pe_callB (callIsi (K := K)) rfl (b_isinstance T) bb_isinstance (pa_cons (pv 1) (pa_cons (pe_bltn (v := .ty "tuple") (by rfl) (b_tuple T) bb_tuple rfl) pa_nil))))) (pw_or1 (pt_cmpR op_lt (pe_callB (callLen (K := K)) rfl (b_len T) bb_len (pa_cons (pv 1) pa_nil)) (pv 2) (nomark _))))) (pss_one (ps_ret pe_bl)) pss_nil)
  (pss_cons (ps_if (pt_not (pt_val (pe_callB (callAll (K := K) rfl) rfl (b_all T) bb_all (pa_cons (pe_lc (own := [("dancer", 3)]) rfl sc_is_lot.nd (piTup (K := K) (pv 1)) (blkOk_by (N := N_is_lot) (sc := defScope s_is_lot) (by decide +kernel)) (fun _ _ _ _ _ => pg_name (i := 3) sc_is_lot.nd rfl (Or.inl rfl)) (fun _ _ _ _ _ => pts_nil) (fun _ _ _ _ _ => (C8.pe_c (c_is_between (K := K) T) hr (by decide) rfl (pa_cons (pv 3) (pa_cons pe_int (pa_cons (pe_op op_sub (pv 0) pe_int) pa_nil)))))) pa_nil)))) (pss_one (ps_ret pe_bl)) pss_nil)
  (pss_one (ps_ret (pe_cmpR (opEqD (K := K) hr.units) (pe_callTy (callListOf (K := K)) rfl (b_list T) bb_list (pa_cons (pv 1) pa_nil)) (pe_callB (callSortedSet (w := w) rfl) rfl (b_sorted T) bb_sorted (pa_cons (pe_callTy (callSetI (K := K) (w := w) rfl) rfl (b_set T) bb_set (pa_cons (pv 1) pa_nil)) pa_nil)) (nomark _)))))), ?_⟩
  walk_at "rd"
  refine r_isiTup ha ?_
  walk_at "rd"
  refine iteF ?_
  walk_at "rd"
  refine r_lenT (SqT.of ha) ?_
  walk_at "rd"
  rw [List.length_map]
  refine ifD (fun h => absurd h (by omega)) (fun _ => ?_)
  walk_at "rd"
  refine lcT1 V.int st (fun _ => .bl true) (SqT.of ha) (by omega) (fun y H4 hy s4 Y q => ?_) fun D H4 hD4 s4 e4 => ?_
  · walk_at "rd"
    refine ⟨rfl, ?_⟩
    walk_at "rd"
    refine ⟨y, 0, _, rfl, ?_⟩
    have := hm y hy
    rw [decide_eq_true (show 0 ≤ y ∧ y ≤ (m : Int) - 1 by omega)]
    exact q _ (Same.refl _)
  walk_at "rd"
  refine ⟨D, st.map (fun _ => true), rfl, SqL.of (by rw [List.map_map]; exact e4), ?_⟩
  have e : (st.map fun _ => true).all id = true := by simp
  rw [e]
  walk_at "rd"
  refine iteF ?_
  walk_at "rd"
  refine r_listOfT (SqT.of (s4 _ _ ha)) ?_
  intro l5 H5 n5
  walk_at "rd"
  refine ⟨a, st, rfl, SqT.of (n5.get (s4 _ _ ha)), hz, ?_⟩
  intro p c hc hpn
  generalize he : upd H5 p _ = H6
  have n6 := New.mk hpn he.symm
  clear he
  walk_at "rd"
  refine ⟨p, _, c, rfl, n6.at, by omega, ?_⟩
  intro ns l7 h1 h2 h3 h4
  have ens : ns = st := sorted_unique ns st h1 hp fun k => by rw [h2 k]; simp
  subst ens
  generalize he : upd H6 l7 _ = H7
  have n7 := New.mk h4 he.symm
  clear he
  refine r_eqLI (l := ns) (m := ns) (n7.get (n6.get n5.at)) n7.at ?_
  rw [decide_eq_true rfl]
  exact k _ (s4.trans (n5.same.trans (n6.same.trans n7.same)))
def sp_leftBy : Sp := fun vs H Q _ => ∃ (m : Nat) (d st : List Int) (a b : Addr), vs = [.int m, .ref a, .ref b] ∧ H a = some (.tup (d.map V.int)) ∧ H b = some (.tup (st.map V.int)) ∧ Dv m d ∧ 2 ≤ m ∧ m ≤ 5 ∧ d.length ≤ 500 ∧
  st.Pairwise (· < ·) ∧ (∀ x ∈ st, 0 ≤ x ∧ x < m) ∧ 2 ≤ st.length ∧ st.length ≤ 60 ∧ ∀ p H', Same H H' → H' p = some (.tup ((left m d st).map V.int)) → Q (.ref p) H'
theorem c_left_by (T : Tx w K mg base) : C8.Cal P w K mg base 6 "left_by" sp_leftBy [] := by
  obtain ⟨fd, F⟩ := f_left_by T
  refine cal_of F (g_left_by T) (fun _ _ _ _ _ _ us hl => match us, hl with | [_, _, _], _ => rfl) sc_left_by (fun vs H Q E h => by obtain ⟨_, _, _, _, _, rfl, _⟩ := h; rfl) (fun cdv A outer s H vs Q E hr h => ?_)
  obtain ⟨m, d, st, a, b, rfl, ha, hb, hd, hm1, hm, hz, h1, h2, h3, h4, k⟩ := h
  refine ⟨_, (pss_cons (ps_expr (C8.pe_c (c_need_one (K := K) T) hr (by decide) rfl (pa_cons (pv 0) (pa_cons (pv 1) pa_nil))))
  (pss_cons (ps_if (pt_not (pt_val (C8.pe_c (c_is_lot (K := K) T) hr (by decide) rfl (pa_cons (pv 0) (pa_cons (pv 2) (pa_cons pe_int pa_nil)))))) (pss_one ps_never) pss_nil)
  (pss_one (ps_ret (C8.pe_c (c_left_of (K := K) T) hr (by decide) rfl (pa_cons (pv 0) (pa_cons (pv 1) (pa_cons (pv 2) pa_nil)))))))), ?_⟩
  walk_at "rd"
  refine ⟨m, d, a, rfl, ha, hd, by omega, hm1, hm, fun H1 s1 => ?_⟩
  walk_at "rd"
  refine ⟨m, 2, st, b, rfl, s1 _ _ hb, h1, h2, h3, h4, fun H2 s2 => ?_⟩
  walk_at "rd"
  refine iteF ?_
  walk_at "rd"
  refine ⟨m, d, st, a, b, rfl, s2 _ _ (s1 _ _ ha), s2 _ _ (s1 _ _ hb), hd, hm, hz, fun p H3 s3 e3 => ?_⟩
  exact k p H3 (s1.trans (s2.trans s3)) e3
def sideV (l : List Int) : Int := match (evens l).filter (fun x => decide (x ≠ 0)) with | [] => 0 | x :: _ => if x > 0 then 1 else -1
def sp_side : Sp := fun vs H Q _ => ∃ (m : Nat) (d : List Int) (a : Addr), vs = [.int m, .ref a] ∧ H a = some (.tup (d.map V.int)) ∧ Dv m d ∧ 2 ≤ m ∧ m ≤ 5 ∧ d.length ≤ 1000 ∧ ∀ H', Same H H' → Q (.int (sideV (curves m d))) H'
theorem c_side_of (T : Tx w K mg base) : C8.Cal P w K mg base 6 "side_of" sp_side [] := by
  obtain ⟨fd, F⟩ := f_side_of T
  refine cal_of F (g_side_of T) (fun _ _ _ _ _ _ us hl => match us, hl with | [_, _], _ => rfl) sc_side_of (fun vs H Q E h => by obtain ⟨_, _, _, rfl, _⟩ := h; rfl) (fun cdv A outer s H vs Q E hr h => ?_)
  obtain ⟨m, d, a, rfl, ha, hd, hm1, hm, hz, k⟩ := h
  refine ⟨_, (pss_cons (ps_setLc (i := 2) (own := [("number", 3)]) rfl sc_side_of.nd rfl rfl (sw_true rfl rfl rfl (by decide +kernel)) (piTup (K := K) (pe_ev2 (C8.pe_c (c_numbers_in (K := K) T) hr (by decide) rfl (pa_cons (pv 0) (pa_cons (pv 1) pa_nil))) (po_some pe_int))) (blkOk_by (N := N_side_of) (sc := defScope s_side_of) (by decide +kernel)) (fun _ _ _ _ _ => pg_name (i := 3) sc_side_of.nd rfl (Or.inl rfl)) (fun _ _ _ _ _ => (pts_one (pt_cmpR op_ne (pv 3) pe_int (nomark _)))) (fun _ _ _ _ _ => (pv 3)))
  (pss_cons (ps_if (pt_cmpR (opEqD (K := K) hr.units) (pv 2) (pe_lst pa_nil) (nomark _)) (pss_one (ps_ret pe_int)) pss_nil)
  (pss_one (ps_ret (pe_ifExp (pt_cmpR op_gt (pe_ix (ixL (K := K)) (pv 2) pe_int (fun _ _ => rfl)) pe_int (nomark _)) pe_int (pe_un un_neg pe_int)))))), ?_⟩
  walk_at "rd"
  refine ⟨m, d, a, rfl, ha, hd, hm1, hm, fun p H1 s1 e1 => ?_⟩
  refine ⟨p, _, rfl, SqT.of e1, ?_⟩
  (intro l2 hl_; generalize he_ : upd _ l2 _ = H2; have n2 := New.mk hl_ he_.symm; clear hl_ he_)
  have hl2 : H2 l2 = some (.tup ((evens (curves m d)).map V.int)) := by rw [n2.at, evens_map]
  have hlen : (evens (curves m d)).length ≤ 10 := by rw [evens_len, curves_len m d hd]; omega
  walk_at "rd"
  refine lcT V.int (evens (curves m d)) (fun x => decide (x ≠ 0)) V.int (SqT.of hl2) (by omega) (fun y H4 hy s4 Y N q1 q2 => ?_) fun D H4 hD4 s4 e4 => ?_
  · walk_at "rd"
    refine ⟨rfl, ?_⟩
    walk_at "rd"
    refine ifN (fun i3 => ?_) (fun i3 => ?_)
    · walk_at "rd"
      exact q1 (decide_eq_true i3) _ (Same.refl _)
    · exact q2 (by rw [i3]; rfl) _ (Same.refl _)
  walk_at "rd"
  refine ⟨(sz1000 (Nat.le_of_ble_eq_true rfl)), ?_⟩
  (intro l5 hl_; generalize he_ : upd _ l5 _ = H5; have n5 := New.mk hl_ he_.symm; clear hl_ he_)
  have s5 := s1.trans (n2.same.trans (s4.trans n5.same))
  unfold sideV at k
  refine r_eqLI (m := []) (n5.get e4) n5.at ?_
  walk_at "rd"
  refine ifD (fun i3 => ?_) (fun i3 => ?_)
  · walk_at "rd"
    rw [i3] at k
    exact k _ s5
  · walk_at "rd"
    generalize hf : (evens (curves m d)).filter (fun x => decide (x ≠ 0)) = f at *
    cases f with
    | nil => exact absurd rfl i3
    | cons x f =>
      refine r_ixLI (j := 0) (SqL.of (n5.get e4)) rfl (by simp) ?_
      walk_at "rd"
      refine ifD (fun i4 => ?_) (fun i4 => ?_)
      · walk_at "rd"
        have k2 := k _ s5
        dsimp only at k2
        rw [if_pos (show x > 0 from i4)] at k2; exact k2
      · walk_at "rd"
        have k2 := k _ s5
        dsimp only at k2
        rw [if_neg (show ¬ x > 0 from i4)] at k2; exact k2
theorem c_side (T : Tx w K mg base) : C8.Cal P w K mg base 7 "side" sp_side [] := by
  obtain ⟨fd, F⟩ := f_side T
  refine cal_of F (g_side T) (fun _ _ _ _ _ _ us hl => match us, hl with | [_, _], _ => rfl) sc_side (fun vs H Q E h => by obtain ⟨_, _, _, rfl, _⟩ := h; rfl) (fun cdv A outer s H vs Q E hr h => ?_)
  obtain ⟨m, d, a, rfl, ha, hd, hm1, hm, hz, k⟩ := h
  refine ⟨_, (pss_cons (ps_expr (C8.pe_c (c_need_one (K := K) T) hr (by decide) rfl (pa_cons (pv 0) (pa_cons (pv 1) pa_nil))))
  (pss_one (ps_ret (C8.pe_c (c_side_of (K := K) T) hr (by decide) rfl (pa_cons (pv 0) (pa_cons (pv 1) pa_nil)))))), ?_⟩
  walk_at "rd"
  refine ⟨m, d, a, rfl, ha, hd, hz, hm1, hm, fun H1 s1 => ?_⟩
  walk_at "rd"
  refine ⟨m, d, a, rfl, s1 _ _ ha, hd, hm1, hm, hz, fun H2 s2 => ?_⟩
  exact k _ (s1.trans s2)
end
end My
end

section
set_option Elab.async false
set_option linter.all false
set_option maxRecDepth 100000
set_option maxHeartbeats 4000000
/-! MI: methods and classes; letters, signs. -/
namespace My
open PySem PySem.Spec PyProof.Rows L2 He LamX SX
section
variable {P : Program} {w : World} {K : PySem.W.Frag} {mg : Str → Option Value} {base : Heap}
theorem met_of {k : Nat} {C : Addr} {x q : Str} {params : Arguments} {body : List Stmt} {scope : Scope} {f : Addr} {fd : FuncData} {N ps : List Str} {sp : Sp} (c : Cls K C) (me : Meth K C x f) (F : FunD K x q params body scope [] [] f fd)
    (b : ∀ (kV doc pm : Value) (an : Option Addr) (cdv ct : Value) (us : List Value), us.length = ps.length → bindArgs (PySem.W.fnOf x q params body scope Value.none kV doc pm an cdv ct) { pos := us } = pure (ps.zip us))
    (S : FnScope N ps scope) (len : ∀ vs H Q E, sp vs H Q E → vs.length = ps.length)
    (hbody : ∀ (cdv : Value) (A : Around) (outer : List Env) (s : Shared) (H : Hp) (vs : List V) (Q : VK) (E : XK), Room k (A.deeper (envOfC q scope s.heap.objs.size f cdv)) → sp vs H Q E →
      ∃ t, PSs (cxOf C8.CX0 P w K mg base N q scope f cdv A outer s H E).nox body t ∧ t { nx := fun _ H' => Q .non H', rt := Q } (L2.start N vs) H) : C8.Met P w K mg base (k + 1) C x sp [] := by
  refine ⟨f, fd, ps, [], c, me, F.ok S len fun cdv A outer s H vs Q E hr h => ?_, F.bindsN b, .nil⟩
  obtain ⟨t, h1, h2⟩ := hbody cdv A outer s H vs Q E hr h
  exact ⟨t, h1.nox, h2⟩
theorem mak_of {k : Nat} {C : Addr} {x q n : Str} {params : Arguments} {body : List Stmt} {scope : Scope} {f : Addr} {fd : FuncData} {N ps : List Str} {sp : Sp} (M : Mk K C f) (gm : mg n = some (.ref C)) (F : FunD K x q params body scope [] [] f fd)
    (b : ∀ (kV doc pm : Value) (an : Option Addr) (cdv ct : Value) (us : List Value), us.length = ps.length → bindArgs (PySem.W.fnOf x q params body scope Value.none kV doc pm an cdv ct) { pos := us } = pure (ps.zip us))
    (S : FnScope N ps scope) (len : ∀ vs H Q E, sp vs H Q E → vs.length = ps.length)
    (hbody : ∀ (cdv : Value) (A : Around) (outer : List Env) (s : Shared) (H : Hp) (vs : List V) (Q : VK) (E : XK), Room k (A.deeper (envOfC q scope s.heap.objs.size f cdv)) → sp vs H Q E →
      ∃ t, PSs (cxOf C8.CX0 P w K mg base N q scope f cdv A outer s H E).nox body t ∧ t { nx := fun _ H' => Q .non H', rt := Q } (L2.start N vs) H) : C8.Mak P w K mg base (k + 1) n C sp [] := by
  refine ⟨f, fd, ps, [], M, F.ok S len fun cdv A outer s H vs Q E hr h => ?_, gm, F.bindsN b, .nil⟩
  obtain ⟨t, h1, h2⟩ := hbody cdv A outer s H vs Q E hr h
  exact ⟨t, h1.nox, h2⟩
structure Prp (P : Program) (w : World) (K : PySem.W.Frag) (mg : Str → Option Value) (base : Heap) (k : Nat) (C : Addr) (m : Str) (sp : Sp) : Prop where
  ex : ∃ (p g : Addr) (fd : FuncData) (ps : List Str), Cls K C ∧ PropOf K C m p g ∧ FnOk P w K mg base C8.CX0 k g fd ps sp ∧ Binds K fd ps []
theorem prp_of {k : Nat} {C : Addr} {x q : Str} {params : Arguments} {body : List Stmt} {scope : Scope} {p f : Addr} {fd : FuncData} {N ps : List Str} {sp : Sp} (c : Cls K C) (me : PropOf K C x p f) (F : FunD K x q params body scope [] [] f fd)
    (b : ∀ (kV doc pm : Value) (an : Option Addr) (cdv ct : Value) (us : List Value), us.length = ps.length → bindArgs (PySem.W.fnOf x q params body scope Value.none kV doc pm an cdv ct) { pos := us } = pure (ps.zip us))
    (S : FnScope N ps scope) (len : ∀ vs H Q E, sp vs H Q E → vs.length = ps.length)
    (hbody : ∀ (cdv : Value) (A : Around) (outer : List Env) (s : Shared) (H : Hp) (vs : List V) (Q : VK) (E : XK), Room k (A.deeper (envOfC q scope s.heap.objs.size f cdv)) → sp vs H Q E →
      ∃ t, PSs (cxOf C8.CX0 P w K mg base N q scope f cdv A outer s H E).nox body t ∧ t { nx := fun _ H' => Q .non H', rt := Q } (L2.start N vs) H) : Prp P w K mg base (k + 1) C x sp := by
  refine ⟨p, f, fd, ps, c, me, F.ok S len fun cdv A outer s H vs Q E hr h => ?_, F.bindsN b⟩
  obtain ⟨t, h1, h2⟩ := hbody cdv A outer s H vs Q E hr h
  exact ⟨t, h1.nox, h2⟩
end
section
variable {X : Cx} {e : Expr} {ta tv to tb : TE} {f m : Str} {C : Addr} {sp : Sp} {k j : Nat} {pos : Pos}
theorem pe_pr (c : Prp X.prog X.w X.K X.mg X.base k C f sp) (hr : Room j X.A) (hk : k + 1 ≤ j) (he : PE X e ta) (hab : attributeBase e f X.env (eval e X.env) = eval e X.env) : PE X (.Attribute e f pos) (tProp C sp [] C8.E0 ta) := by
  obtain ⟨p, g, fd, ps, hc, hp, F, hb⟩ := c.ex
  exact pe_prop he hc hp F (hr.mono hk) hb .nil C8.pass0 hab
theorem psFaug {o value : Expr} {op : Operator} {tpos : Pos} {K : PySem.W.Frag} {rd : V → V → Hp → VK → Prop} (ha : PE X o ta) (hv : PE X value tv) (hop : InOp X op rd) (hk : X.K = K := by rfl) : PS X (.AugAssign (.Attribute o f tpos) op value pos) (sFldAug K ta tv rd f) := hk ▸ ps_fldaug ha hv hop
variable {nx : St → Hp → Prop} {rt : VK} {bk ct : St → Hp → Prop} {σ : St} {H : Hp} {Q : VK} {K : PySem.W.Frag} {a dx : Addr} {fs : List (Str × V)} {v x y : V}
theorem r_prop {dvs : List V} {E : XK} (h : ta σ H fun x H1 => ∃ a dx fs, x = .ref a ∧ H1 a = some (.ins C dx fs) ∧ sp (.ref a :: dvs) H1 Q E) : tProp C sp dvs E ta σ H Q := h
theorem r_sfld (h : tv σ H fun y H1 => ta σ H1 fun x H2 => ∃ a C dx fs, x = .ref a ∧ H2 a = some (.ins C dx fs) ∧ Cls K C ∧ NoAttr K C f ∧ fs.length < 1000 ∧ nx σ (upd H2 a (.ins C dx (putF f y fs)))) : sFld K ta tv f ⟨nx, rt, bk, ct⟩ σ H := h
theorem r_faug {rd : V → V → Hp → VK → Prop} (h : ta σ H fun x H1 => ∃ a C dx fs v, x = .ref a ∧ H1 a = some (.ins C dx fs) ∧ Cls K C ∧ NoAttr K C f ∧ fs.lookup f = some v ∧
  tv σ H1 fun y H2 => rd v y H2 fun z H3 => ∃ dx' fs', H3 a = some (.ins C dx' fs') ∧ fs'.length < 1000 ∧ nx σ (upd H3 a (.ins C dx' (putF f z fs')))) : sFldAug K ta tv rd f ⟨nx, rt, bk, ct⟩ σ H := h
theorem r_sf {R : Hp → Prop} (hx : H a = some (.ins C dx fs)) (c : Cls K C) (na : NoAttr K C f) (h : R (upd H a (.ins C dx (putF f v fs)))) (hz : fs.length < 1000 := by exact Nat.le_of_ble_eq_true rfl) : ∃ a' C dx fs, V.ref a = .ref a' ∧ H a' = some (.ins C dx fs) ∧ Cls K C ∧ NoAttr K C f ∧ fs.length < 1000 ∧ R (upd H a' (.ins C dx (putF f v fs))) :=
  ⟨a, C, dx, fs, rfl, hx, c, na, hz, h⟩
theorem r_fl {R : Addr → Addr → V → Prop} (hx : H a = some (.ins C dx fs)) (c : Cls K C) (na : NoAttr K C f) (h : R a C v) (e : fs.lookup f = some v := by rfl) : ∃ a' C dx fs v, V.ref a = .ref a' ∧ H a' = some (.ins C dx fs) ∧ Cls K C ∧ NoAttr K C f ∧ fs.lookup f = some v ∧ R a' C v :=
  ⟨a, C, dx, fs, v, rfl, hx, c, na, e, h⟩
theorem r_me {R : Addr → Prop} (hx : H a = some (.ins C dx fs)) (h : R a) (e : fs.lookup m = none := by rfl) : ∃ a' dx fs, V.ref a = .ref a' ∧ H a' = some (.ins C dx fs) ∧ fs.lookup m = none ∧ R a' := ⟨a, dx, fs, rfl, hx, e, h⟩
theorem r_pr {R : Addr → Prop} (hx : H a = some (.ins C dx fs)) (h : R a) : ∃ a' dx fs, V.ref a = .ref a' ∧ H a' = some (.ins C dx fs) ∧ R a' := ⟨a, dx, fs, rfl, hx, h⟩
theorem r_while {tc : TT} {ts : TS} (h : ∃ W : Nat → St → Hp → Prop, (∃ m, W m σ H) ∧ ∀ m σ H, W m σ H → tc σ H fun b H1 => if b = true then
    ∃ N : St → Hp → Prop, (∀ σ' H', N σ' H' → ∃ m', m' < m ∧ W m' σ' H') ∧ ts ⟨N, rt, nx, N⟩ σ H1 else nx σ H1) : tWhile tc ts ⟨nx, rt, bk, ct⟩ σ H := h
/-! ### texts -/
def rIdxS : V → List V → Hp → VK → Prop := fun x xs H Q => ∃ (a b : Str) (k : Nat) (rest : List Nat), x = .str a ∧ xs = [.str b] ∧ Builtin.Str.occurrences a b 0 a.length 1 = k :: rest ∧ Q (.int (k : Nat)) H
theorem mt_idx : MtR X "str.index" rIdxS := by
  intro pins s σ H x xs v us Q I rx rs h
  obtain ⟨a, b, k, rest, rfl, rfl, q, w⟩ := h
  obtain ⟨t, rfl⟩ := rx
  cases rs with
  | cons r1 rs =>
    cases rs
    obtain ⟨u, rfl⟩ := r1
    exact PySem.SC.index q ⟨.int (k : Nat), H, I.tok _, ⟨_, rfl⟩, w⟩
theorem r_bmStr {T : String} {z : Str} {P : Prop} (e : T = "str") (h : P) : tyV K T (.str z) H ∧ P := ⟨e, h⟩
theorem slice_at (t : List Nat) (n : Nat) {i j : Int} (hi : i = (n : Int)) (hj : j = (n : Int) + 1) : Txt.slice (S t) (some i) (some j) = S ((t.drop n).take 1) := by
  subst hi hj
  rw [← C8.cutS_slice]
  unfold cutS
  rw [S_len, show ((n : Int) + 1) = ((n + 1 : Nat) : Int) by omega, HT.sIx_nat, HT.sIx_nat]
  show S ((t.drop (min n t.length)).take (min (n + 1) t.length - min n t.length)) = _
  congr 1
  rcases Nat.lt_or_ge n t.length with h | h
  · rw [Nat.min_eq_left (Nat.le_of_lt h), Nat.min_eq_left (by omega), Nat.add_sub_cancel_left]
  · rw [Nat.min_eq_right h, Nat.min_eq_right (by omega), Nat.sub_self, List.take_zero, List.drop_eq_nil_of_le h]; rfl
theorem r_sltx {z z2 : Str} {lo hi : Option Int} (hz : z.length ≤ 100000) (e : Txt.slice z lo hi = z2) (h : Q (.str z2) H) : C8.rSlX (.str z) lo hi H Q := ⟨z, rfl, by rw [sizeLine_eq]; omega, by rw [e]; exact h⟩
theorem r_ixs {t : List Nat} {i : Int} {j c : Nat} (hz : t.length ≤ 100000) (e : i = (j : Int)) (hc : t[j]? = some c) (h : Q (.str (S [c])) H) : rIxS (.str (S t)) (.int i) H Q :=
  ⟨S t, i, c, rfl, rfl, by rw [S_len, sizeLine_eq]; omega, by rw [e]; exact atI_nat hc, h⟩
theorem r_inS1 {c : Nat} {t : List Nat} (h : Q (.bl (decide (c ∈ t))) H) : rInS (.str (S [c])) (.str (S t)) H Q := ⟨c, S t, rfl, rfl, h⟩
theorem r_eqX {a b : List Nat} (h : Q (.bl (decide (a = b))) H) : rEq (.str (S a)) (.str (S b)) H Q := ⟨rfl, by
  have e : decide (V.str (S a) = V.str (S b)) = decide (a = b) := decide_eq_decide.mpr ⟨fun h => S_inj (V.str.inj h), fun h => by rw [h]⟩
  rw [e]; exact h⟩
theorem r_neX {a b : List Nat} (h : Q (.bl (!decide (a = b))) H) : rNe (.str (S a)) (.str (S b)) H Q := ⟨rfl, by
  have e : decide (V.str (S a) = V.str (S b)) = decide (a = b) := decide_eq_decide.mpr ⟨fun h => S_inj (V.str.inj h), fun h => by rw [h]⟩
  rw [e]; exact h⟩
theorem r_catX {a b : List Nat} (hz : a.length + b.length ≤ 100000) (h : Q (.str (S (a ++ b))) H) : My.rAddS (.str (S a)) (.str (S b)) H Q :=
  ⟨S a, S b, rfl, rfl, by rw [S_len, S_len, sizeLine_eq]; omega, by rw [S_cat]; exact h⟩
theorem r_strN {n : Nat} (h : Q (.str (S (TL.numL n))) H) (hz : n < 2 ^ 1000 := by omega) : rStrI [.int (n : Int)] H Q := ⟨_, rfl, by
  rw [Int.natAbs_natCast]
  by_cases h0 : n = 0
  · subst h0; decide
  · exact Nat.lt_of_lt_of_le ((Nat.log2_lt h0).mpr hz) (by decide), by
  rw [← num_S]at h; exact h⟩
theorem r_joinL {a : List Nat} {p : Addr} {ys : List (List Nat)} (hx : SqL K H p (ys.map fun y => V.str (S y)) ∨ SqT K H p (ys.map fun y => V.str (S y))) (hz : (ys.map (·.length)).sum + ys.length * a.length ≤ 100000) (h : Q (.str (S (TL.joinL a ys))) H) : rJoin K (.str (S a)) [.ref p] H Q := by
  refine ⟨S a, p, ys.map S, rfl, rfl, by rw [List.map_map]; exact hx, ?_, by rw [join_S]; exact h⟩
  rw [lens, List.length_map, S_len]
  omega
end
end My
end

section
set_option Elab.async false
set_option linter.all false
set_option maxRecDepth 100000
set_option maxHeartbeats 4000000
/-! MJ: letters, signs, the text of a dance read. -/
namespace My
open PySem PySem.Spec PyProof.Rows L2 He LamX SX
local macro_rules | `(tactic| walk_at "rd") => `(tactic| repeat (with_reducible first
  | refine r_seq ?_ | refine r_asg ?_ | refine r_var (by with_unfolding_all rfl) ?_ | refine r_c ?_ | refine r_op ?_ | refine r_I0 ?_ | refine r_name ?_ | refine r_ret ?_ | refine r_if ?_ | refine r_cons ?_ | refine r_nil ?_
  | refine r_CB ?_ | refine r_call ?_ | refine r_test ?_ | refine r_eqI ?_ | refine r_eqS ?_ | refine r_neI ?_ | refine r_neS ?_ | refine r_drop ?_ | refine r_next ?_ | refine r_ifE ?_ | refine r_B ?_ | refine r_andV ?_ | refine r_orV ?_ | refine r_notV ?_ | refine r_blV ?_
  | refine r_and ?_ | refine r_or ?_ | refine r_not ?_ | refine r_tup ?_ | refine r_lst ?_ | refine r_par ?_ | refine r_exv2 ?_ | refine r_un ?_ | refine r_neg ?_ | refine r_isN ?_ | refine r_notN ?_ | refine r_retN ?_ | refine r_chain ?_
  | refine r_star ?_ | refine r_lstRg ?_ | refine r_rg1 ?_ | refine r_rg2 ?_ | refine r_exi ?_ | refine r_exi2 ?_ | refine r_sl ?_ | refine r_noPart ?_ | refine r_part ?_ | refine r_gnil ?_ | refine r_gcons ?_ | refine r_gsub ?_ | refine r_BM ?_ | refine r_M1 ?_ | refine r_isstr ?_ | refine r_meth ?_ | refine r_make ?_ | refine r_fld ?_ | refine r_abs ?_ | refine r_isiIntInt ?_ | refine r_isiIntBool ?_ | refine r_isiStr ?_ | refine r_min ?_ | refine r_max ?_ | refine r_int1 ?_ | refine r_intb ?_ | refine r_for ?_ | refine r_itup ?_ | refine r_ilist ?_ | refine r_lc ?_ | refine r_yes ?_ | refine r_istr ?_ | refine r_rng1 ?_ | refine r_rng2 ?_ | refine r_dput ?_ | refine r_daug ?_ | refine r_dget ?_ | refine r_dnewT ?_ | refine r_addI ?_ | refine r_ev ?_ | refine r_sfld ?_ | refine r_faug ?_ | refine r_prop ?_ | refine r_while ?_ | refine r_augS ?_ | refine r_tupF ?_ | refine r_idxT ?_ | refine r_kd ?_ | refine r_ki ?_ | refine r_enum ?_))

local macro_rules | `(tactic| walk_at "rn") => `(tactic| repeat (with_reducible first
  | refine r_seq ?_ | refine r_asg ?_ | refine r_var (by with_unfolding_all rfl) ?_ | refine r_c ?_ | refine r_op ?_ | refine r_I0 ?_ | refine r_name ?_ | refine r_ret ?_ | refine r_cons ?_ | refine r_nil ?_
  | refine r_CB ?_ | refine r_call ?_ | refine r_test ?_ | refine r_eqI ?_ | refine r_eqS ?_ | refine r_neI ?_ | refine r_neS ?_ | refine r_drop ?_ | refine r_next ?_ | refine r_B ?_ | refine r_andV ?_ | refine r_orV ?_ | refine r_notV ?_ | refine r_blV ?_
  | refine r_and ?_ | refine r_or ?_ | refine r_not ?_ | refine r_tup ?_ | refine r_lst ?_ | refine r_par ?_ | refine r_exv2 ?_ | refine r_un ?_ | refine r_neg ?_ | refine r_isN ?_ | refine r_notN ?_ | refine r_retN ?_ | refine r_chain ?_
  | refine r_star ?_ | refine r_lstRg ?_ | refine r_rg1 ?_ | refine r_rg2 ?_ | refine r_exi ?_ | refine r_exi2 ?_ | refine r_sl ?_ | refine r_noPart ?_ | refine r_part ?_ | refine r_gnil ?_ | refine r_gcons ?_ | refine r_gsub ?_ | refine r_BM ?_ | refine r_M1 ?_ | refine r_isstr ?_ | refine r_meth ?_ | refine r_make ?_ | refine r_fld ?_ | refine r_abs ?_ | refine r_isiIntInt ?_ | refine r_isiIntBool ?_ | refine r_isiStr ?_ | refine r_min ?_ | refine r_max ?_ | refine r_int1 ?_ | refine r_intb ?_ | refine r_for ?_ | refine r_itup ?_ | refine r_ilist ?_ | refine r_lc ?_ | refine r_yes ?_ | refine r_istr ?_ | refine r_rng1 ?_ | refine r_rng2 ?_ | refine r_dput ?_ | refine r_daug ?_ | refine r_dget ?_ | refine r_dnewT ?_ | refine r_addI ?_ | refine r_ev ?_ | refine r_sfld ?_ | refine r_faug ?_ | refine r_prop ?_ | refine r_while ?_ | refine r_augS ?_ | refine r_tupF ?_ | refine r_idxT ?_ | refine r_kd ?_ | refine r_ki ?_ | refine r_enum ?_))

local macro_rules | `(tactic| walk_at "hp") => `(tactic| (with_reducible first
  | assumption | exact New.at (by assumption)
  | exact SqT.of (by walk_at "hp") | exact SqL.of (by walk_at "hp") | exact Or.inl (by walk_at "hp") | exact Or.inr (by walk_at "hp")
  | exact New.get (by assumption) (by walk_at "hp") | exact Same.get (by assumption) (by walk_at "hp")))

def letC (x : Int) : Nat := if x > 0 then 96 + x.natAbs else 64 + x.natAbs
def letsC (d : List Int) : List Nat := if d = [] then [45] else d.map letC
def dtext (m : Nat) (d : List Int) : List Nat := (48 + m) :: 32 :: (letsC d ++ [10])
theorem c8 {x : Int} (h1 : 1 ≤ x.natAbs) (h2 : x.natAbs < 5) : x = 1 ∨ x = 2 ∨ x = 3 ∨ x = 4 ∨ x = -1 ∨ x = -2 ∨ x = -3 ∨ x = -4 := by omega
theorem m4 {m : Nat} (h1 : 2 ≤ m) (h2 : m ≤ 5) : m = 2 ∨ m = 3 ∨ m = 4 ∨ m = 5 := by omega
section
variable {P : Program} {w : World} {K : PySem.W.Frag} {mg : Str → Option Value} {base : Heap}
def sp_let : Sp := fun vs H Q _ => ∃ x : Int, vs = [.int x] ∧ 1 ≤ x.natAbs ∧ x.natAbs < 5 ∧ Q (.str (S [letC x])) H
theorem c_letter_of (T : Tx w K mg base) : C8.Cal P w K mg base 1 "letter_of" sp_let [] := by
  obtain ⟨fd, F⟩ := f_letter_of T
  refine cal_of F (g_letter_of T) (fun _ _ _ _ _ _ us hl => match us, hl with | [_], _ => rfl) sc_letter_of (fun vs H Q E h => by obtain ⟨_, rfl, _⟩ := h; rfl) (fun cdv A outer s H vs Q E hr h => ?_)
  obtain ⟨x, rfl, h1, h2, k⟩ := h
  refine ⟨_, (pss_one (ps_ret (pe_ifExp (pt_cmpR op_gt (pv 0) pe_int (nomark _)) (pe_ix ix_str (C8.pe_gc rfl (v_SMALL T)) (pe_op op_sub (pv 0) pe_int) (fun _ _ => rfl)) (pe_ix ix_str (C8.pe_gc rfl (v_GREAT T)) (pe_op op_sub (pe_op op_sub pe_int (pv 0)) pe_int) (fun _ _ => rfl))))), ?_⟩
  walk_at "rd"
  refine ifD (fun hx => ?_) (fun hx => ?_)
  · walk_at "rd"
    refine r_ixs (t := [97, 98, 99, 100]) (j := x.natAbs - 1) (by decide) (by omega) ?_ k
    unfold letC
    rcases c8 h1 h2 with rfl | rfl | rfl | rfl | rfl | rfl | rfl | rfl <;> first | rfl | exact absurd hx (by decide)
  · walk_at "rd"
    refine r_ixs (t := [65, 66, 67, 68]) (j := x.natAbs - 1) (by decide) (by omega) ?_ k
    unfold letC
    rcases c8 h1 h2 with rfl | rfl | rfl | rfl | rfl | rfl | rfl | rfl <;> first | rfl | exact absurd (by decide) hx
theorem in_small {m : Nat} {x : Int} (h1 : 1 ≤ x.natAbs) (h2 : x.natAbs < m) (hm : m ≤ 5) (hx : x > 0) : letC x ∈ ([97, 98, 99, 100] : List Nat).take (m - 1) := by
  rcases m4 (by omega) hm with rfl | rfl | rfl | rfl <;> rcases c8 h1 (by omega) with rfl | rfl | rfl | rfl | rfl | rfl | rfl | rfl <;> first | decide | (exfalso; revert h1 h2 hx; decide)
theorem not_small {m : Nat} {x : Int} (h1 : 1 ≤ x.natAbs) (h2 : x.natAbs < m) (hm : m ≤ 5) (hx : ¬ x > 0) : letC x ∉ ([97, 98, 99, 100] : List Nat).take (m - 1) := by
  rcases m4 (by omega) hm with rfl | rfl | rfl | rfl <;> rcases c8 h1 (by omega) with rfl | rfl | rfl | rfl | rfl | rfl | rfl | rfl <;> first | decide | (exfalso; revert h1 h2 hx; decide)
theorem in_great {m : Nat} {x : Int} (h1 : 1 ≤ x.natAbs) (h2 : x.natAbs < m) (hm : m ≤ 5) (hx : ¬ x > 0) : letC x ∈ ([65, 66, 67, 68] : List Nat).take (m - 1) := by
  rcases m4 (by omega) hm with rfl | rfl | rfl | rfl <;> rcases c8 h1 (by omega) with rfl | rfl | rfl | rfl | rfl | rfl | rfl | rfl <;> first | decide | (exfalso; revert h1 h2 hx; decide)
theorem occ_small {x : Int} (h1 : 1 ≤ x.natAbs) (h2 : x.natAbs < 5) (hx : x > 0) : Builtin.Str.occurrences "abcd" (S [letC x]) 0 (Str.length "abcd") 1 = (x.natAbs - 1) :: [] := by
  rcases c8 h1 h2 with rfl | rfl | rfl | rfl | rfl | rfl | rfl | rfl <;> first | decide +kernel | (exfalso; revert hx; decide)
theorem occ_great {x : Int} (h1 : 1 ≤ x.natAbs) (h2 : x.natAbs < 5) (hx : ¬ x > 0) : Builtin.Str.occurrences "ABCD" (S [letC x]) 0 (Str.length "ABCD") 1 = (x.natAbs - 1) :: [] := by
  rcases c8 h1 h2 with rfl | rfl | rfl | rfl | rfl | rfl | rfl | rfl <;> first | decide +kernel | (exfalso; revert hx; decide)
theorem sl_small (m : Nat) : Txt.slice "abcd" none (some ((m : Int) - 1)) = S (([97, 98, 99, 100] : List Nat).take (m - 1)) ∨ m = 0 := by
  rcases Nat.eq_zero_or_pos m with h | h
  · exact .inr h
  · left
    have e := slice_to (a := [97, 98, 99, 100]) (i := (m : Int) - 1) (by omega)
    rw [show ((m : Int) - 1).toNat = m - 1 by omega] at e
    exact e
theorem sl_great (m : Nat) : Txt.slice "ABCD" none (some ((m : Int) - 1)) = S (([65, 66, 67, 68] : List Nat).take (m - 1)) ∨ m = 0 := by
  rcases Nat.eq_zero_or_pos m with h | h
  · exact .inr h
  · left
    have e := slice_to (a := [65, 66, 67, 68]) (i := (m : Int) - 1) (by omega)
    rw [show ((m : Int) - 1).toNat = m - 1 by omega] at e
    exact e
theorem ne_nil_S {Q : VK} {H : Hp} {c : Nat} (h : Q (.bl true) H) : rNe (.str (S [c])) (.str "") H Q := r_neX (a := [c]) (b := []) h
def sp_stepOf : Sp := fun vs H Q _ => ∃ (m : Nat) (x : Int), vs = [.int m, .str (S [letC x])] ∧ 1 ≤ x.natAbs ∧ x.natAbs < m ∧ m ≤ 5 ∧ Q (.int x) H
theorem c_step_of (T : Tx w K mg base) : C8.Cal P w K mg base 1 "step_of" sp_stepOf [] := by
  obtain ⟨fd, F⟩ := f_step_of T
  refine cal_of F (g_step_of T) (fun _ _ _ _ _ _ us hl => match us, hl with | [_, _], _ => rfl) sc_step_of (fun vs H Q E h => by obtain ⟨_, _, rfl, _⟩ := h; rfl) (fun cdv A outer s H vs Q E hr h => ?_)
  obtain ⟨m, x, rfl, h1, h2, hm, k⟩ := h
  refine ⟨_, (pss_cons (ps_if (PW.pt (pw_and (pt_cmpR op_ne (pv 1) pe_str (nomark _)) (pw_and1 (pt_cmpR op_inS (pv 1) (pe_slice C8.sl_txt (C8.pe_gc rfl (v_SMALL T)) po_none (po_some (pe_op op_sub (pv 0) pe_int))) (by rfl))))) (pss_one (ps_ret (pe_op op_add (pe_bm PySem.F.plainAttrs_str PySem.F.slot_str_index PySem.F.type_str_index mt_idx (C8.pe_gc rfl (v_SMALL T)) (pa_cons (pv 1) pa_nil)) pe_int))) pss_nil)
  (pss_one (ps_ret (pe_ifExp (PW.pt (pw_and (pt_cmpR op_ne (pv 1) pe_str (nomark _)) (pw_and1 (pt_cmpR op_inS (pv 1) (pe_slice C8.sl_txt (C8.pe_gc rfl (v_GREAT T)) po_none (po_some (pe_op op_sub (pv 0) pe_int))) (by rfl))))) (pe_op op_sub (pe_op op_sub pe_int (pe_bm PySem.F.plainAttrs_str PySem.F.slot_str_index PySem.F.type_str_index mt_idx (C8.pe_gc rfl (v_GREAT T)) (pa_cons (pv 1) pa_nil))) pe_int) pe_non)))), ?_⟩
  refine r_seq ?_
  refine r_if ?_
  refine r_and ?_
  refine r_test ?_
  refine r_op ?_
  refine r_var (by with_unfolding_all rfl) ?_
  refine r_c ?_
  refine ne_nil_S ?_
  walk_at "rd"
  refine iteT ?_
  walk_at "rd"
  refine r_sltx (by decide) ((sl_small m).resolve_right (by omega)) ?_
  refine r_inS1 ?_
  walk_at "rd"
  refine ifD (fun hc => ?_) (fun hc => ?_)
  · have hx : x > 0 := Classical.byContradiction fun hn => not_small h1 h2 hm hn hc
    walk_at "rd"
    refine r_bmStr rfl ?_
    walk_at "rd"
    refine ⟨_, _, _, _, rfl, rfl, occ_small h1 (by omega) hx, ?_⟩
    walk_at "rd"
    rw [show ((x.natAbs - 1 : Nat) : Int) + 1 = x by omega]
    exact k
  · have hx : ¬ x > 0 := fun hn => hc (in_small h1 h2 hm hn)
    refine r_next ?_
    refine r_ret ?_
    refine r_ifE ?_
    refine r_and ?_
    refine r_test ?_
    refine r_op ?_
    refine r_var (by with_unfolding_all rfl) ?_
    refine r_c ?_
    refine ne_nil_S ?_
    walk_at "rd"
    refine iteT ?_
    walk_at "rd"
    refine r_sltx (by decide) ((sl_great m).resolve_right (by omega)) ?_
    refine r_inS1 ?_
    walk_at "rd"
    refine ifD (fun _ => ?_) (fun hc => absurd (in_great h1 h2 hm hx) hc)
    walk_at "rd"
    refine r_bmStr rfl ?_
    walk_at "rd"
    refine ⟨_, _, _, _, rfl, rfl, occ_great h1 (by omega) hx, ?_⟩
    walk_at "rd"
    rw [show (0 : Int) - ((x.natAbs - 1 : Nat) : Int) - 1 = x by omega]
    exact k
theorem joinL_nil (l : List (List Nat)) : TL.joinL [] l = l.flatten := by
  induction l with
  | nil => rfl
  | cons a l ih => cases l with
    | nil => simp [TL.joinL]
    | cons b l => simp [TL.joinL] at ih ⊢; exact ih
theorem sum_ones : ∀ d : List Int, (d.map (List.length ∘ fun x => [letC x])).sum = d.length
  | [] => rfl
  | a :: d => by rw [List.map_cons, List.sum_cons, sum_ones d]; simp; omega
def sp_lets : Sp := fun vs H Q _ => ∃ (d : List Int) (a : Addr), vs = [.ref a] ∧ H a = some (.tup (d.map V.int)) ∧ Dv 5 d ∧ d.length ≤ 1000 ∧ ∀ H', Same H H' → Q (.str (S (letsC d))) H'
theorem c_letters_of (T : Tx w K mg base) : C8.Cal P w K mg base 2 "letters_of" sp_lets [] := by
  obtain ⟨fd, F⟩ := f_letters_of T
  refine cal_of F (g_letters_of T) (fun _ _ _ _ _ _ us hl => match us, hl with | [_], _ => rfl) sc_letters_of (fun vs H Q E h => by obtain ⟨_, _, rfl, _⟩ := h; rfl) (fun cdv A outer s H vs Q E hr h => ?_)
  obtain ⟨d, a, rfl, ha, hd, hz, k⟩ := h
  refine ⟨_, (pss_one (ps_ret (pe_ifExp (pt_cmpR (opNeD (K := K) hr.units) (pv 0) (pe_tup pa_nil) (nomark _)) (peJoin (K := K) pe_str (pe_lc (own := [("step", 1)]) rfl sc_letters_of.nd (piTup (K := K) (pv 0)) (blkOk_by (N := N_letters_of) (sc := defScope s_letters_of) (by decide +kernel)) (fun _ _ _ _ _ => pg_name (i := 1) sc_letters_of.nd rfl (Or.inl rfl)) (fun _ _ _ _ _ => pts_nil) (fun _ _ _ _ _ => (C8.pe_c (c_letter_of (K := K) T) hr (by decide) rfl (pa_cons (pv 1) pa_nil))))) (C8.pe_gc rfl (v_NONE T))))), ?_⟩
  walk_at "rd"
  refine ⟨(sz1000 (Nat.le_of_ble_eq_true rfl)), ?_⟩
  (intro p hl_; generalize he_ : upd _ p _ = H1; have n1 := New.mk hl_ he_.symm; clear hl_ he_)
  refine r_neTI (l := d) (m := []) (n1.get ha) n1.at ?_
  walk_at "rd"
  refine ifN (fun hne => ?_) (fun hne => ?_)
  · walk_at "rd"
    refine lcT1 V.int d (fun x => .str (S [letC x])) (SqT.of (n1.get ha)) hz (fun x H' hx s Y hy => ?_) fun D H' hD s hl => ?_
    · walk_at "rd"
      refine ⟨rfl, ?_⟩
      walk_at "rd"
      obtain ⟨h1, h2⟩ := hd x hx
      exact ⟨x, rfl, h1, h2, hy _ (Same.refl _)⟩
    · refine r_joinL (a := []) (ys := d.map fun x => [letC x]) (.inl (SqL.of (by rw [List.map_map]; exact hl))) ?_ ?_
      · rw [List.map_map, List.length_map]
        rw [sum_ones]; simp; omega
      · rw [joinL_nil]
        have e : (d.map fun x => [letC x]).flatten = letsC d := by
          unfold letsC; rw [if_neg hne]
          clear k hd hz ha hne hl
          induction d with
          | nil => rfl
          | cons a d ih => simp [ih]
        rw [e]
        exact k H' (n1.same.trans s)
  · walk_at "rd"
    have k2 := k H1 n1.same
    unfold letsC at k2
    rw [if_pos hne] at k2
    exact k2
theorem numL1 {n : Nat} (h : n < 10) : TL.numL n = [48 + n] := by
  have : ∀ n ∈ List.range 10, TL.numL n = [48 + n] := by decide +kernel
  exact this n (List.mem_range.mpr h)
theorem letsC_len (d : List Int) : (letsC d).length ≤ d.length + 1 := by unfold letsC; split <;> simp
def sp_dtext : Sp := fun vs H Q _ => ∃ (m : Nat) (d : List Int) (a : Addr), vs = [.int m, .ref a] ∧ H a = some (.tup (d.map V.int)) ∧ Dv m d ∧ 2 ≤ m ∧ m ≤ 5 ∧ d.length ≤ 1000 ∧ ∀ H', Same H H' → Q (.str (S (dtext m d))) H'
theorem Dv.five {m : Nat} {d : List Int} (h : Dv m d) (hm : m ≤ 5) : Dv 5 d := fun x hx => ⟨(h x hx).1, Nat.lt_of_lt_of_le (h x hx).2 hm⟩
theorem c_dance_text (T : Tx w K mg base) : C8.Cal P w K mg base 6 "dance_text" sp_dtext [] := by
  obtain ⟨fd, F⟩ := f_dance_text T
  refine cal_of F (g_dance_text T) (fun _ _ _ _ _ _ us hl => match us, hl with | [_, _], _ => rfl) sc_dance_text (fun vs H Q E h => by obtain ⟨_, _, _, rfl, _⟩ := h; rfl) (fun cdv A outer s H vs Q E hr h => ?_)
  obtain ⟨m, d, a, rfl, ha, hd, hm1, hm, hz, k⟩ := h
  refine ⟨_, (pss_cons (ps_expr (C8.pe_c (c_need_one (K := K) T) hr (by decide) rfl (pa_cons (pv 0) (pa_cons (pv 1) pa_nil))))
  (pss_one (ps_ret (pe_op opAddS (pe_op opAddS (pe_op opAddS (pe_callTy callStrI rfl (b_str T) bb_str (pa_cons (pv 0) pa_nil)) pe_str) (C8.pe_c (c_letters_of (K := K) T) hr (by decide) rfl (pa_cons (pv 1) pa_nil))) pe_str)))), ?_⟩
  walk_at "rd"
  refine ⟨m, d, a, rfl, ha, hd, hz, hm1, hm, fun H1 s1 => ?_⟩
  walk_at "rd"
  refine r_strN ?_
  rw [numL1 (by omega)]
  walk_at "rd"
  refine r_catX (a := [48 + m]) (b := [32]) (by simp) ?_
  walk_at "rd"
  refine ⟨d, a, rfl, s1 _ _ ha, hd.five hm, hz, fun H2 s2 => ?_⟩
  have hl := letsC_len d
  refine r_catX (a := [48 + m] ++ [32]) (b := letsC d) (by simp; omega) ?_
  walk_at "rd"
  refine r_catX (a := [48 + m] ++ [32] ++ letsC d) (b := [10]) (by simp; omega) ?_
  exact k H2 (s1.trans s2)
/-! ### signs -/
abbrev sgO (K : PySem.W.Frag) (dx : Addr) (t : List Nat) (n : Nat) : HO := .ins (ga K "Signs") dx [("own_text", .str (S t)), ("own_at", .int n)]
def sp_sgInit (K : PySem.W.Frag) : Sp := fun vs H Q _ => ∃ (a dx : Addr) (t : List Nat), vs = [.ref a, .str (S t)] ∧ H a = some (.ins (ga K "Signs") dx []) ∧ Q .non (upd (upd H a (.ins (ga K "Signs") dx [("own_text", .str (S t))])) a (sgO K dx t 0))
theorem m_Signs (T : Tx w K mg base) : C8.Mak P w K mg base 1 "Signs" (ga K "Signs") (sp_sgInit K) [] := by
  obtain ⟨fd, F⟩ := f_Signs_init T
  refine mak_of (mk_Signs T) (g_Signs T) F (fun _ _ _ _ _ _ us hl => match us, hl with | [_, _], _ => rfl) sc_Signs_init (fun vs H Q E h => by obtain ⟨_, _, _, rfl, _⟩ := h; rfl) (fun cdv A outer s H vs Q E hr h => ?_)
  obtain ⟨a, dx, t, rfl, ha, k⟩ := h
  refine ⟨_, (pss_cons (ps_if (pt_not (pt_val (pe_callB (callIsi (K := K)) rfl (b_isinstance T) bb_isinstance (pa_cons (pv 1) (pa_cons (pe_bltn (v := .ty "str") (by rfl) (b_str T) bb_str rfl) pa_nil))))) (pss_one ps_never) pss_nil)
  (pss_cons (psFld (K := K) (pv 0) (pv 1))
  (pss_one (psFld (K := K) (pv 0) pe_int)))), ?_⟩
  walk_at "rd"
  refine iteF ?_
  walk_at "rd"
  refine r_sf ha (cl_Signs T) (na_Signs_own_text T) ?_
  walk_at "rd"
  refine r_sf upd_same (cl_Signs T) (na_Signs_own_at T) ?_
  walk_at "rd"
  exact k
def sp_sgNext (K : PySem.W.Frag) : Sp := fun vs H Q _ => ∃ (a dx : Addr) (t : List Nat) (n : Nat), vs = [.ref a] ∧ H a = some (sgO K dx t n) ∧ t.length ≤ 100000 ∧ Q (.str (S ((t.drop n).take 1))) H
theorem c_Signs_next_sign (T : Tx w K mg base) : C8.Met P w K mg base 1 (ga K "Signs") "next_sign" (sp_sgNext K) [] := by
  obtain ⟨fd, F⟩ := f_Signs_next_sign T
  refine met_of (cl_Signs T) (me_Signs_next_sign T) F (fun _ _ _ _ _ _ us hl => match us, hl with | [_], _ => rfl) sc_Signs_next_sign (fun vs H Q E h => by obtain ⟨_, _, _, _, rfl, _⟩ := h; rfl) (fun cdv A outer s H vs Q E hr h => ?_)
  obtain ⟨a, dx, t, n, rfl, ha, hz, k⟩ := h
  refine ⟨_, (pss_one (ps_ret (pe_slice C8.sl_txt (peFld (K := K) (pv 0)) (po_some (peFld (K := K) (pv 0))) (po_some (pe_op op_add (peFld (K := K) (pv 0)) pe_int))))), ?_⟩
  walk_at "rd"
  refine r_fl ha (cl_Signs T) (na_Signs_own_text T) ?_
  walk_at "rd"
  refine r_fl ha (cl_Signs T) (na_Signs_own_at T) ?_
  walk_at "rd"
  refine r_fl ha (cl_Signs T) (na_Signs_own_at T) ?_
  walk_at "rd"
  exact r_sltx (by rw [S_len]; exact hz) (slice_at t n rfl rfl) k
def sp_sgTake (K : PySem.W.Frag) : Sp := fun vs H Q _ => ∃ (a dx : Addr) (t : List Nat) (n c : Nat), vs = [.ref a, .bl true] ∧ H a = some (sgO K dx t n) ∧ t.length ≤ 100000 ∧ t[n]? = some c ∧ Q (.str (S [c])) (upd H a (sgO K dx t (n + 1)))
theorem c_Signs_take (T : Tx w K mg base) : C8.Met P w K mg base 1 (ga K "Signs") "take" (sp_sgTake K) [] := by
  obtain ⟨fd, F⟩ := f_Signs_take T
  refine met_of (cl_Signs T) (me_Signs_take T) F (fun _ _ _ _ _ _ us hl => match us, hl with | [_, _], _ => rfl) sc_Signs_take (fun vs H Q E h => by obtain ⟨_, _, _, _, _, rfl, _⟩ := h; rfl) (fun cdv A outer s H vs Q E hr h => ?_)
  obtain ⟨a, dx, t, n, c, rfl, ha, hz, hc, k⟩ := h
  refine ⟨_, (pss_cons (ps_if (pt_not (pt_val (pv 1))) (pss_one ps_never) pss_nil)
  (pss_cons (psFaug (K := K) (pv 0) pe_int in_add)
  (pss_one (ps_ret (pe_ix ix_str (peFld (K := K) (pv 0)) (pe_op op_sub (peFld (K := K) (pv 0)) pe_int) (fun _ _ => rfl)))))), ?_⟩
  walk_at "rd"
  refine iteF ?_
  walk_at "rd"
  refine r_fl ha (cl_Signs T) (na_Signs_own_at T) ?_
  walk_at "rd"
  refine ⟨dx, _, ha, Nat.le_of_ble_eq_true rfl, ?_⟩
  walk_at "rd"
  have ha2 : (upd H a (sgO K dx t (n + 1))) a = some (sgO K dx t (n + 1)) := upd_same
  refine r_fl ha2 (cl_Signs T) (na_Signs_own_text T) ?_
  walk_at "rd"
  refine r_fl ha2 (cl_Signs T) (na_Signs_own_at T) ?_
  walk_at "rd"
  exact r_ixs hz (by omega) hc k
def sp_sgOne (K : PySem.W.Frag) : Sp := fun vs H Q _ => ∃ (a dx : Addr) (t z : List Nat) (n c : Nat), vs = [.ref a, .str (S z)] ∧ H a = some (sgO K dx t n) ∧ t.length ≤ 100000 ∧ t[n]? = some c ∧ c ∈ z ∧ Q (.str (S [c])) (upd H a (sgO K dx t (n + 1)))
theorem drop_one {t : List Nat} {n c : Nat} (h : t[n]? = some c) : (t.drop n).take 1 = [c] := by
  obtain ⟨h1, h2⟩ := List.getElem?_eq_some_iff.mp h
  rw [List.drop_eq_getElem_cons h1, h2]; rfl
theorem c_Signs_take_one_of (T : Tx w K mg base) : C8.Met P w K mg base 3 (ga K "Signs") "take_one_of" (sp_sgOne K) [] := by
  obtain ⟨fd, F⟩ := f_Signs_take_one_of T
  refine met_of (cl_Signs T) (me_Signs_take_one_of T) F (fun _ _ _ _ _ _ us hl => match us, hl with | [_, _], _ => rfl) sc_Signs_take_one_of (fun vs H Q E h => by obtain ⟨_, _, _, _, _, _, rfl, _⟩ := h; rfl) (fun cdv A outer s H vs Q E hr h => ?_)
  obtain ⟨a, dx, t, z, n, c, rfl, ha, hz, hc, hm, k⟩ := h
  refine ⟨_, (pss_cons (ps_set (i := 2) sc_Signs_take_one_of.nd rfl (Or.inl rfl) (C8.pe_mt0 (c_Signs_next_sign (K := K) T) hr (by decide) (pv 0)))
  (pss_one (ps_ret (C8.pe_mt (c_Signs_take (K := K) T) hr (by decide) (pv 0) (pa_cons (pe_and (pe_cmpR op_ne (pv 2) pe_str (nomark _)) (pe_one (pe_cmpR op_inS (pv 2) (pv 1) (by rfl)))) pa_nil))))), ?_⟩
  walk_at "rd"
  refine r_me ha ?_
  walk_at "rd"
  refine ⟨a, dx, t, n, rfl, ha, hz, ?_⟩
  rw [drop_one hc]
  walk_at "rd"
  refine r_me ha ?_
  refine r_cons ?_
  refine r_andV ?_
  refine r_op ?_
  refine r_var (by with_unfolding_all rfl) ?_
  refine r_c ?_
  refine ne_nil_S ?_
  walk_at "rd"
  refine iteT ?_
  walk_at "rd"
  refine r_inS1 ?_
  walk_at "rd"
  rw [decide_eq_true hm]
  exact ⟨a, dx, t, n, c, rfl, ha, hz, hc, k⟩
end
end My
end

section
set_option Elab.async false
set_option linter.all false
set_option maxRecDepth 100000
set_option maxHeartbeats 4000000
/-! MK: the text of a dance read. -/
namespace My
open PySem PySem.Spec PyProof.Rows L2 He LamX SX
local macro_rules | `(tactic| walk_at "rd") => `(tactic| repeat (with_reducible first
  | refine r_seq ?_ | refine r_asg ?_ | refine r_var (by with_unfolding_all rfl) ?_ | refine r_c ?_ | refine r_op ?_ | refine r_I0 ?_ | refine r_name ?_ | refine r_ret ?_ | refine r_if ?_ | refine r_cons ?_ | refine r_nil ?_
  | refine r_CB ?_ | refine r_call ?_ | refine r_test ?_ | refine r_eqI ?_ | refine r_eqS ?_ | refine r_neI ?_ | refine r_neS ?_ | refine r_drop ?_ | refine r_next ?_ | refine r_ifE ?_ | refine r_B ?_ | refine r_andV ?_ | refine r_orV ?_ | refine r_notV ?_ | refine r_blV ?_
  | refine r_and ?_ | refine r_or ?_ | refine r_not ?_ | refine r_tup ?_ | refine r_lst ?_ | refine r_par ?_ | refine r_exv2 ?_ | refine r_un ?_ | refine r_neg ?_ | refine r_isN ?_ | refine r_notN ?_ | refine r_retN ?_ | refine r_chain ?_
  | refine r_star ?_ | refine r_lstRg ?_ | refine r_rg1 ?_ | refine r_rg2 ?_ | refine r_exi ?_ | refine r_exi2 ?_ | refine r_sl ?_ | refine r_noPart ?_ | refine r_part ?_ | refine r_gnil ?_ | refine r_gcons ?_ | refine r_gsub ?_ | refine r_BM ?_ | refine r_M1 ?_ | refine r_isstr ?_ | refine r_meth ?_ | refine r_make ?_ | refine r_fld ?_ | refine r_abs ?_ | refine r_isiIntInt ?_ | refine r_isiIntBool ?_ | refine r_isiStr ?_ | refine r_min ?_ | refine r_max ?_ | refine r_int1 ?_ | refine r_intb ?_ | refine r_for ?_ | refine r_itup ?_ | refine r_ilist ?_ | refine r_lc ?_ | refine r_yes ?_ | refine r_istr ?_ | refine r_rng1 ?_ | refine r_rng2 ?_ | refine r_dput ?_ | refine r_daug ?_ | refine r_dget ?_ | refine r_dnewT ?_ | refine r_addI ?_ | refine r_ev ?_ | refine r_sfld ?_ | refine r_faug ?_ | refine r_prop ?_ | refine r_while ?_ | refine r_augS ?_ | refine r_tupF ?_ | refine r_idxT ?_ | refine r_kd ?_ | refine r_ki ?_ | refine r_enum ?_))

local macro_rules | `(tactic| walk_at "rn") => `(tactic| repeat (with_reducible first
  | refine r_seq ?_ | refine r_asg ?_ | refine r_var (by with_unfolding_all rfl) ?_ | refine r_c ?_ | refine r_op ?_ | refine r_I0 ?_ | refine r_name ?_ | refine r_ret ?_ | refine r_cons ?_ | refine r_nil ?_
  | refine r_CB ?_ | refine r_call ?_ | refine r_test ?_ | refine r_eqI ?_ | refine r_eqS ?_ | refine r_neI ?_ | refine r_neS ?_ | refine r_drop ?_ | refine r_next ?_ | refine r_B ?_ | refine r_andV ?_ | refine r_orV ?_ | refine r_notV ?_ | refine r_blV ?_
  | refine r_and ?_ | refine r_or ?_ | refine r_not ?_ | refine r_tup ?_ | refine r_lst ?_ | refine r_par ?_ | refine r_exv2 ?_ | refine r_un ?_ | refine r_neg ?_ | refine r_isN ?_ | refine r_notN ?_ | refine r_retN ?_ | refine r_chain ?_
  | refine r_star ?_ | refine r_lstRg ?_ | refine r_rg1 ?_ | refine r_rg2 ?_ | refine r_exi ?_ | refine r_exi2 ?_ | refine r_sl ?_ | refine r_noPart ?_ | refine r_part ?_ | refine r_gnil ?_ | refine r_gcons ?_ | refine r_gsub ?_ | refine r_BM ?_ | refine r_M1 ?_ | refine r_isstr ?_ | refine r_meth ?_ | refine r_make ?_ | refine r_fld ?_ | refine r_abs ?_ | refine r_isiIntInt ?_ | refine r_isiIntBool ?_ | refine r_isiStr ?_ | refine r_min ?_ | refine r_max ?_ | refine r_int1 ?_ | refine r_intb ?_ | refine r_for ?_ | refine r_itup ?_ | refine r_ilist ?_ | refine r_lc ?_ | refine r_yes ?_ | refine r_istr ?_ | refine r_rng1 ?_ | refine r_rng2 ?_ | refine r_dput ?_ | refine r_daug ?_ | refine r_dget ?_ | refine r_dnewT ?_ | refine r_addI ?_ | refine r_ev ?_ | refine r_sfld ?_ | refine r_faug ?_ | refine r_prop ?_ | refine r_while ?_ | refine r_augS ?_ | refine r_tupF ?_ | refine r_idxT ?_ | refine r_kd ?_ | refine r_ki ?_ | refine r_enum ?_))

local macro_rules | `(tactic| walk_at "hp") => `(tactic| (with_reducible first
  | assumption | exact New.at (by assumption)
  | exact SqT.of (by walk_at "hp") | exact SqL.of (by walk_at "hp") | exact Or.inl (by walk_at "hp") | exact Or.inr (by walk_at "hp")
  | exact New.get (by assumption) (by walk_at "hp") | exact Same.get (by assumption) (by walk_at "hp")))

section
variable {P : Program} {w : World} {K : PySem.W.Frag} {mg : Str → Option Value} {base : Heap}
def sp_sgBegin (K : PySem.W.Frag) : Sp := fun vs H Q _ => ∃ (a dx : Addr) (r : List Nat) (m : Nat), vs = [.ref a] ∧ H a = some (sgO K dx ((48 + m) :: 32 :: r) 0) ∧ r.length ≤ 90000 ∧ 2 ≤ m ∧ m ≤ 5 ∧ Q (.int m) (upd (upd H a (sgO K dx ((48 + m) :: 32 :: r) 1)) a (sgO K dx ((48 + m) :: 32 :: r) 2))
theorem int_one {m : Nat} (h1 : 2 ≤ m) (h2 : m ≤ 5) : intText? (S [48 + m]) = some (m : Int) := by
  rcases m4 h1 h2 with rfl | rfl | rfl | rfl <;> decide +kernel
theorem c_Signs_begin (T : Tx w K mg base) : C8.Met P w K mg base 4 (ga K "Signs") "begin" (sp_sgBegin K) [] := by
  obtain ⟨fd, F⟩ := f_Signs_begin T
  refine met_of (cl_Signs T) (me_Signs_begin T) F (fun _ _ _ _ _ _ us hl => match us, hl with | [_], _ => rfl) sc_Signs_begin (fun vs H Q E h => by obtain ⟨_, _, _, _, rfl, _⟩ := h; rfl) (fun cdv A outer s H vs Q E hr h => ?_)
  obtain ⟨a, dx, r, m, rfl, ha, hz, h1, h2, k⟩ := h
  refine ⟨_, (pss_cons (ps_set (i := 1) sc_Signs_begin.nd rfl (Or.inl rfl) (pe_callTy callIntS rfl (b_int T) bb_int (pa_cons (C8.pe_mt (c_Signs_take_one_of (K := K) T) hr (by decide) (pv 0) (pa_cons (C8.pe_gc rfl (v_COUNTS T)) pa_nil)) pa_nil)))
  (pss_cons (ps_expr (C8.pe_mt (c_Signs_take_one_of (K := K) T) hr (by decide) (pv 0) (pa_cons pe_str pa_nil)))
  (pss_one (ps_ret (pv 1))))), ?_⟩
  walk_at "rd"
  refine r_me ha ?_
  walk_at "rd"
  refine ⟨a, dx, _, [50, 51, 52, 53], 0, 48 + m, rfl, ha, by simp; omega, rfl, by rcases m4 h1 h2 with rfl | rfl | rfl | rfl <;> decide, ?_⟩
  walk_at "rd"
  refine ⟨_, (m : Int), rfl, int_one h1 h2, by simp [S_len], ?_⟩
  walk_at "rd"
  refine r_me upd_same ?_
  walk_at "rd"
  refine ⟨a, dx, _, [32], 1, 32, rfl, upd_same, by simp; omega, rfl, by decide, ?_⟩
  walk_at "rd"
  exact k
def sp_sgEnd (K : PySem.W.Frag) : Sp := fun vs H Q _ => ∃ (a dx : Addr) (t : List Nat), vs = [.ref a] ∧ H a = some (sgO K dx (t ++ [10]) t.length) ∧ t.length ≤ 90000 ∧ Q .non (upd H a (sgO K dx (t ++ [10]) (t.length + 1)))
theorem c_Signs_end (T : Tx w K mg base) : C8.Met P w K mg base 4 (ga K "Signs") "end" (sp_sgEnd K) [] := by
  obtain ⟨fd, F⟩ := f_Signs_end T
  refine met_of (cl_Signs T) (me_Signs_end T) F (fun _ _ _ _ _ _ us hl => match us, hl with | [_], _ => rfl) sc_Signs_end (fun vs H Q E h => by obtain ⟨_, _, _, rfl, _⟩ := h; rfl) (fun cdv A outer s H vs Q E hr h => ?_)
  obtain ⟨a, dx, t, rfl, ha, hz, k⟩ := h
  refine ⟨_, (pss_cons (ps_expr (C8.pe_mt (c_Signs_take_one_of (K := K) T) hr (by decide) (pv 0) (pa_cons pe_str pa_nil)))
  (pss_one (ps_if (pt_cmpR op_lt (peFld (K := K) (pv 0)) (pe_callB callLenStr rfl (b_len T) bb_len (pa_cons (peFld (K := K) (pv 0)) pa_nil)) (nomark _)) (pss_one ps_never) pss_nil))), ?_⟩
  walk_at "rd"
  refine r_me ha ?_
  walk_at "rd"
  refine ⟨a, dx, t ++ [10], [10], t.length, 10, rfl, ha, by simp; omega, by simp, by decide, ?_⟩
  walk_at "rd"
  refine r_fl upd_same (cl_Signs T) (na_Signs_own_at T) ?_
  walk_at "rd"
  refine r_fl upd_same (cl_Signs T) (na_Signs_own_text T) ?_
  walk_at "rd"
  refine r_lenS (by rw [S_len, sizeLine_eq]; simp; omega) ?_
  walk_at "rd"
  have e : (Str.length (S (t ++ [10])) : Int) = (t.length : Int) + 1 := by rw [S_len]; simp
  rw [e]
  refine ifD (fun h => absurd h (by omega)) (fun _ => ?_)
  walk_at "rd"
  exact k
theorem letC_rng {x : Int} (h1 : 1 ≤ x.natAbs) (h2 : x.natAbs < 5) : letC x ≠ 45 ∧ letC x ≠ 10 := by
  rcases c8 h1 h2 with rfl | rfl | rfl | rfl | rfl | rfl | rfl | rfl <;> decide
def sp_rdDance : Sp := fun vs H Q _ => ∃ (m : Nat) (d : List Int), vs = [.str (S (dtext m d))] ∧ Dv m d ∧ 2 ≤ m ∧ m ≤ 5 ∧ d.length ≤ 1000 ∧ ∀ p q H', Same H H' → H' q = some (.tup (d.map V.int)) → H' p = some (.tup [.int m, .ref q]) → Q (.ref p) H'
theorem c_read_dance (T : Tx w K mg base) : C8.Cal P w K mg base 6 "read_dance" sp_rdDance [] := by
  obtain ⟨fd, F⟩ := f_read_dance T
  refine cal_of F (g_read_dance T) (fun _ _ _ _ _ _ us hl => match us, hl with | [_], _ => rfl) sc_read_dance (fun vs H Q E h => by obtain ⟨_, _, rfl, _⟩ := h; rfl) (fun cdv A outer s H vs Q E hr h => ?_)
  obtain ⟨m, d, rfl, hd, hm1, hm, hz, k⟩ := h
  refine ⟨_, (pss_cons (ps_par rfl sc_read_dance.nd (i := 1) (j := 2) rfl rfl (by decide) rfl rfl (pa_cons (C8.pe_mk (m_Signs (K := K) T) hr (by decide) rfl (pa_cons (pv 0) pa_nil)) (pa_cons (pe_lst pa_nil) pa_nil)) rfl)
  (pss_cons (ps_set (i := 3) sc_read_dance.nd rfl (Or.inl rfl) (C8.pe_mt0 (c_Signs_begin (K := K) T) hr (by decide) (pv 1)))
  (pss_cons (ps_if (pt_cmpR op_eq (C8.pe_mt0 (c_Signs_next_sign (K := K) T) hr (by decide) (pv 1)) (C8.pe_gc rfl (v_NONE T)) (nomark _)) (pss_one (ps_expr (C8.pe_mt (c_Signs_take (K := K) T) hr (by decide) (pv 1) (pa_cons pe_bl pa_nil)))) (pss_one (ps_while PassesOwn.never (PW.pt (pw_or (pt_cmpR (opEqD (K := K) hr.units) (pv 2) (pe_lst pa_nil) (nomark _)) (pw_or1 (pt_cmpR op_ne (C8.pe_mt0 (c_Signs_next_sign (K := K) T) hr (by decide) (pv 1)) pe_str (nomark _)))))
  (pss_cons (ps_set (i := 4) sc_read_dance.nd rfl (Or.inl rfl) (C8.pe_c (c_step_of (K := K) T) hr (by decide) rfl (pa_cons (pv 3) (pa_cons (C8.pe_mt0 (c_Signs_next_sign (K := K) T) hr (by decide) (pv 1)) pa_nil))))
  (pss_cons (ps_expr (C8.pe_mt (c_Signs_take (K := K) T) hr (by decide) (pv 1) (pa_cons (pe_and (pe_cmpR op_notN1 (pv 4) pe_non (nomark _)) (pe_one (pe_cmpR op_lt (pe_callB (callLen (K := K)) rfl (b_len T) bb_len (pa_cons (pv 2) pa_nil)) (C8.pe_gc rfl (v_MOST_STEPS T)) (nomark _)))) pa_nil)))
  (pss_one (ps_expr (peApp (K := K) (pv 2) (pa_cons (pv 4) pa_nil)))))))))
  (pss_cons (ps_expr (C8.pe_mt0 (c_Signs_end (K := K) T) hr (by decide) (pv 1)))
  (pss_one (ps_ret (pe_tup (pa_cons (pv 3) (pa_cons (pe_callTy (callTupOf (K := K)) rfl (b_tuple T) bb_tuple (pa_cons (pv 2) pa_nil)) pa_nil))))))))), ?_⟩
  have hl := letsC_len d
  walk_at "rd"
  intro a dx ha hdx hda
  refine ⟨a, dx, dtext m d, rfl, upd_same, ?_⟩
  refine ⟨rfl, ?_⟩
  have s1 : ∀ o o' o'' o3, Same H (upd (upd (upd (upd H dx o) a o') a o'') a o3) := fun o o' o'' o3 b u hb => by
    have e1 : b ≠ a := ne_of_none hb ha
    have e2 : b ≠ dx := ne_of_none hb hdx
    rw [upd_ne e1, upd_ne e1, upd_ne e1, upd_ne e2]; exact hb
  have hs1 : ∀ o o' o'', (upd (upd (upd (upd H dx o) a o') a o'') a (sgO K dx (dtext m d) 0)) a = some (sgO K dx (dtext m d) 0) := fun _ _ _ => upd_same
  have s1' := s1 (.own a) (.ins (ga K "Signs") dx []) (.ins (ga K "Signs") dx [("own_text", .str (S (dtext m d)))]) (sgO K dx (dtext m d) 0)
  have hs1' := hs1 (.own a) (.ins (ga K "Signs") dx []) (.ins (ga K "Signs") dx [("own_text", .str (S (dtext m d)))])
  generalize upd (upd (upd (upd H dx _) a _) a _) a _ = H1 at s1' hs1' ⊢
  clear s1 hs1
  walk_at "rd"
  refine ⟨(sz1000 (Nat.le_of_ble_eq_true rfl)), ?_⟩
  (intro L hl_; generalize he_ : upd _ L _ = H2; have n2 := New.mk hl_ he_.symm; clear hl_ he_)
  walk_at "rd"
  refine r_me (n2.get hs1') ?_
  walk_at "rd"
  refine ⟨a, dx, letsC d ++ [10], m, rfl, n2.get hs1', by rw [List.length_append]; simp; omega, hm1, hm, ?_⟩
  have hLa : L ≠ a := fun e => by subst e; have := n2.free; rw [hs1'] at this; cases this
  have s3 : Same H (upd (upd H2 a (sgO K dx ((48 + m) :: 32 :: (letsC d ++ [10])) 1)) a (sgO K dx ((48 + m) :: 32 :: (letsC d ++ [10])) 2)) := same_upd (same_upd (s1'.trans n2.same) ha) ha
  have hs3 : (upd (upd H2 a (sgO K dx ((48 + m) :: 32 :: (letsC d ++ [10])) 1)) a (sgO K dx ((48 + m) :: 32 :: (letsC d ++ [10])) 2)) a = some (sgO K dx (dtext m d) 2) := upd_same
  have hL3 : (upd (upd H2 a (sgO K dx ((48 + m) :: 32 :: (letsC d ++ [10])) 1)) a (sgO K dx ((48 + m) :: 32 :: (letsC d ++ [10])) 2)) L = some (.lst []) := by rw [upd_ne hLa, upd_ne hLa]; exact n2.at
  generalize upd (upd H2 a _) a _ = H3 at s3 hs3 hL3 ⊢
  have hLf : H L = none := (s1'.free n2.free)
  have htz : (dtext m d).length ≤ 100000 := by unfold dtext; simp; omega
  have hget : ∀ j, (dtext m d)[2 + j]? = (letsC d ++ [10])[j]? := fun j => by
    unfold dtext; rw [show 2 + j = j + 1 + 1 by omega, List.getElem?_cons_succ, List.getElem?_cons_succ]
  -- the end is shown once
  have fin : ∀ (v3 : Option V) H4, Same H H4 → H4 a = some (sgO K dx (dtext m d) (2 + (letsC d).length)) → H4 L = some (.lst (d.map V.int)) →
      tSeq (tDrop (tMeth (ga K "Signs") "end" (sp_sgEnd K) [] C8.E0 (tVar 1) tNil)) (tRet (tTup (tCons (tVar 3) (tCons (tCB (rTupOf K) (tCons (tVar 2) tNil)) tNil)))) { nx := fun _ H' => Q .non H', rt := Q } [some (.str (S (dtext m d))), some (.ref a), some (.ref L), some (.int m), v3] H4 := by
    intro v3 H4 s4 h4 hL4
    walk_at "rd"
    refine r_me h4 ?_
    walk_at "rd"
    have e : dtext m d = ((48 + m) :: 32 :: letsC d) ++ [10] := rfl
    refine ⟨a, dx, (48 + m) :: 32 :: letsC d, rfl, ?_, by simp; omega, ?_⟩
    · rw [h4, e]; simp; omega
    · walk_at "rd"
      refine r_tupOf (SqL.of (by rw [upd_ne hLa]; exact hL4)) fun q H5 n5 => ?_
      walk_at "rd"
      refine ⟨(sz1000 (Nat.le_of_ble_eq_true rfl)), ?_⟩
      (intro p hl_; generalize he_ : upd _ p _ = H6; have n6 := New.mk hl_ he_.symm; clear hl_ he_)
      exact k p q H6 ((same_upd s4 ha).trans (n5.same.trans n6.same)) (n6.get n5.at) n6.at
  walk_at "rn"
  refine r_ifJ (fun σ' H4 => ∃ v3, σ' = [some (.str (S (dtext m d))), some (.ref a), some (.ref L), some (.int m), v3] ∧ Same H H4 ∧ H4 a = some (sgO K dx (dtext m d) (2 + (letsC d).length)) ∧ H4 L = some (.lst (d.map V.int))) (fun N hN => ?_) (fun σ' H4 ⟨v3, e, s4, h4, hL4⟩ => by subst e; exact fin v3 H4 s4 h4 hL4)
  walk_at "rd"
  refine r_me hs3 ?_
  walk_at "rd"
  refine ⟨a, dx, dtext m d, 2, rfl, hs3, htz, ?_⟩
  by_cases hne : d = []
  · subst hne
    walk_at "rd"
    refine ifD (fun _ => ?_) (fun h => absurd rfl h)
    walk_at "rd"
    refine r_me hs3 ?_
    walk_at "rd"
    refine ⟨a, dx, dtext m [], 2, 45, rfl, hs3, htz, rfl, ?_⟩
    walk_at "rd"
    exact hN _ _ ⟨_, rfl, same_upd s3 ha, upd_same, by rw [upd_ne hLa]; exact hL3⟩
  · have elet : letsC d = d.map letC := if_neg hne
    have hsg : ∀ j (hj : j < d.length), (dtext m d)[2 + j]? = some (letC d[j]) := fun j hj => by
      rw [hget, elet, List.getElem?_append_left (by rw [List.length_map]; exact hj), List.getElem?_map, List.getElem?_eq_getElem hj]; rfl
    have h0 : 0 < d.length := List.length_pos_iff.mpr hne
    have hb : ∀ j (hj : j < d.length), 1 ≤ d[j].natAbs ∧ d[j].natAbs < m := fun j hj => hd _ (List.getElem_mem hj)
    rw [drop_one (hsg 0 h0)]
    walk_at "rd"
    refine ifD (fun h => absurd (List.cons.inj (S_inj (b := [45]) h)).1 (letC_rng (hb 0 h0).1 (by have := (hb 0 h0).2; omega)).1) (fun _ => ?_)
    walk_at "rd"
    refine ⟨fun j σ H' => ∃ (n : Nat) (v4 : Option V), j = d.length - n ∧ n ≤ d.length ∧ σ = [some (.str (S (dtext m d))), some (.ref a), some (.ref L), some (.int m), v4] ∧ Same H H' ∧ H' a = some (sgO K dx (dtext m d) (2 + n)) ∧ H' L = some (.lst ((d.take n).map V.int)),
      ⟨_, 0, none, rfl, Nat.zero_le _, rfl, s3, hs3, hL3⟩, ?_⟩
    rintro j σ H' ⟨n, v4, rfl, hn, rfl, s4, h4, hL4⟩
    refine r_testJ (fun b H1 => b = decide (n < d.length) ∧ Same H H1 ∧ H1 a = some (sgO K dx (dtext m d) (2 + n)) ∧ H1 L = some (.lst ((d.take n).map V.int))) (fun P' hP => ?_) ?_
    · walk_at "rd"
      refine ⟨(sz1000 (Nat.le_of_ble_eq_true rfl)), ?_⟩
      (intro p5 hl_; generalize he_ : upd _ p5 _ = H5; have n5 := New.mk hl_ he_.symm; clear hl_ he_)
      refine r_eqLI (m := []) (n5.get hL4) n5.at ?_
      walk_at "rd"
      have s5 := s4.trans n5.same
      have h5 := n5.get h4
      have hL5 := n5.get hL4
      refine ifD (fun hd0 => ?_) (fun hd0 => ?_)
      · have hn0 : n = 0 := by
          have := congrArg List.length hd0
          rw [List.length_take, List.length_nil] at this; omega
        exact hP _ _ ⟨by subst hn0; rw [decide_eq_true h0], s5, h5, hL5⟩
      · walk_at "rd"
        refine r_me h5 ?_
        walk_at "rd"
        refine ⟨a, dx, dtext m d, 2 + n, rfl, h5, htz, ?_⟩
        rcases Nat.lt_or_ge n d.length with hlt | hge
        · rw [drop_one (hsg n hlt)]
          walk_at "rd"
          have hb2 : (!decide (S [letC d[n]] = "\n")) = decide (n < d.length) := by
            rw [decide_eq_true hlt, decide_eq_false]; rfl
            exact fun h => absurd (List.cons.inj (S_inj (b := [10]) h)).1 (letC_rng (hb n hlt).1 (by have := (hb n hlt).2; omega)).2
          rw [hb2]
          exact hP _ _ ⟨rfl, s5, h5, hL5⟩
        · have en : n = d.length := by omega
          have hend : (dtext m d)[2 + n]? = some 10 := by rw [hget, elet, en]; simp
          rw [drop_one hend]
          walk_at "rd"
          have hb2 : (!decide (S [10] = ("\n" : Str))) = decide (n < d.length) := by
            rw [decide_eq_false (show ¬ n < d.length by omega)]; rfl
          rw [hb2]
          exact hP _ _ ⟨rfl, s5, h5, hL5⟩
    · rintro b H1 ⟨rfl, s5, h5, hL5⟩
      refine ifD (fun hlt => ?_) (fun hge => ?_)
      · refine ⟨fun σ' H' => ∃ v4 : Option V, σ' = [some (.str (S (dtext m d))), some (.ref a), some (.ref L), some (.int m), v4] ∧ Same H H' ∧ H' a = some (sgO K dx (dtext m d) (2 + (n + 1))) ∧ H' L = some (.lst ((d.take (n + 1)).map V.int)),
          fun σ' H' ⟨v4, h⟩ => ⟨d.length - (n + 1), by omega, n + 1, v4, rfl, hlt, h⟩, ?_⟩
        walk_at "rd"
        refine r_me h5 ?_
        walk_at "rd"
        refine ⟨a, dx, dtext m d, 2 + n, rfl, h5, htz, ?_⟩
        rw [drop_one (hsg n hlt)]
        walk_at "rd"
        refine ⟨m, d[n], rfl, (hb n hlt).1, (hb n hlt).2, hm, ?_⟩
        walk_at "rd"
        refine r_me h5 ?_
        walk_at "rd"
        refine ifN (fun _ => ?_) (fun h => nomatch h)
        walk_at "rd"
        refine r_lenL (SqL.of hL5) ?_
        walk_at "rd"
        rw [decide_eq_true (show (((d.take n).map V.int).length : Int) < 4000 by rw [List.length_map, List.length_take]; omega)]
        refine ⟨a, dx, dtext m d, 2 + n, letC d[n], rfl, h5, htz, hsg n hlt, ?_⟩
        walk_at "rd"
        have hL6 : (upd H1 a (sgO K dx (dtext m d) (2 + n + 1))) L = some (.lst ((d.take n).map V.int)) := by rw [upd_ne hLa]; exact hL5
        refine ⟨.inl ⟨rfl, _, SqL.of hL6⟩, ?_⟩
        walk_at "rd"
        refine r_app hL6 (small1000 (by rw [List.length_map, List.length_take]; omega)) ?_
        walk_at "rd"
        refine ⟨_, rfl, same_upd (same_upd s5 ha) hLf, ?_, ?_⟩
        · rw [upd_ne (Ne.symm hLa), upd_same]; rfl
        · rw [upd_same, List.take_add_one, List.getElem?_eq_getElem hlt, List.map_append]; rfl
      · have en : n = d.length := by omega
        subst en
        refine hN _ _ ⟨_, rfl, s5, by rw [h5, elet, List.length_map], by rw [hL5, List.take_length]⟩
end
end My
end

section
set_option Elab.async false
set_option linter.all false
set_option maxRecDepth 100000
set_option maxHeartbeats 4000000
/-! ML: the phrase written. -/
namespace My
open PySem PySem.Spec PyProof.Rows L2 He LamX SX
local macro_rules | `(tactic| walk_at "rd") => `(tactic| repeat (with_reducible first
  | refine r_seq ?_ | refine r_asg ?_ | refine r_var (by with_unfolding_all rfl) ?_ | refine r_c ?_ | refine r_op ?_ | refine r_I0 ?_ | refine r_name ?_ | refine r_ret ?_ | refine r_if ?_ | refine r_cons ?_ | refine r_nil ?_
  | refine r_CB ?_ | refine r_call ?_ | refine r_test ?_ | refine r_eqI ?_ | refine r_eqS ?_ | refine r_neI ?_ | refine r_neS ?_ | refine r_drop ?_ | refine r_next ?_ | refine r_ifE ?_ | refine r_B ?_ | refine r_andV ?_ | refine r_orV ?_ | refine r_notV ?_ | refine r_blV ?_
  | refine r_and ?_ | refine r_or ?_ | refine r_not ?_ | refine r_tup ?_ | refine r_lst ?_ | refine r_par ?_ | refine r_exv2 ?_ | refine r_un ?_ | refine r_neg ?_ | refine r_isN ?_ | refine r_notN ?_ | refine r_retN ?_ | refine r_chain ?_
  | refine r_star ?_ | refine r_lstRg ?_ | refine r_rg1 ?_ | refine r_rg2 ?_ | refine r_exi ?_ | refine r_exi2 ?_ | refine r_sl ?_ | refine r_noPart ?_ | refine r_part ?_ | refine r_gnil ?_ | refine r_gcons ?_ | refine r_gsub ?_ | refine r_BM ?_ | refine r_M1 ?_ | refine r_isstr ?_ | refine r_meth ?_ | refine r_make ?_ | refine r_fld ?_ | refine r_abs ?_ | refine r_isiIntInt ?_ | refine r_isiIntBool ?_ | refine r_isiStr ?_ | refine r_min ?_ | refine r_max ?_ | refine r_int1 ?_ | refine r_intb ?_ | refine r_for ?_ | refine r_itup ?_ | refine r_ilist ?_ | refine r_lc ?_ | refine r_yes ?_ | refine r_istr ?_ | refine r_rng1 ?_ | refine r_rng2 ?_ | refine r_dput ?_ | refine r_daug ?_ | refine r_dget ?_ | refine r_dnewT ?_ | refine r_addI ?_ | refine r_ev ?_ | refine r_sfld ?_ | refine r_faug ?_ | refine r_prop ?_ | refine r_while ?_ | refine r_augS ?_ | refine r_tupF ?_ | refine r_idxT ?_ | refine r_kd ?_ | refine r_ki ?_ | refine r_enum ?_))

local macro_rules | `(tactic| walk_at "rn") => `(tactic| repeat (with_reducible first
  | refine r_seq ?_ | refine r_asg ?_ | refine r_var (by with_unfolding_all rfl) ?_ | refine r_c ?_ | refine r_op ?_ | refine r_I0 ?_ | refine r_name ?_ | refine r_ret ?_ | refine r_cons ?_ | refine r_nil ?_
  | refine r_CB ?_ | refine r_call ?_ | refine r_test ?_ | refine r_eqI ?_ | refine r_eqS ?_ | refine r_neI ?_ | refine r_neS ?_ | refine r_drop ?_ | refine r_next ?_ | refine r_B ?_ | refine r_andV ?_ | refine r_orV ?_ | refine r_notV ?_ | refine r_blV ?_
  | refine r_and ?_ | refine r_or ?_ | refine r_not ?_ | refine r_tup ?_ | refine r_lst ?_ | refine r_par ?_ | refine r_exv2 ?_ | refine r_un ?_ | refine r_neg ?_ | refine r_isN ?_ | refine r_notN ?_ | refine r_retN ?_ | refine r_chain ?_
  | refine r_star ?_ | refine r_lstRg ?_ | refine r_rg1 ?_ | refine r_rg2 ?_ | refine r_exi ?_ | refine r_exi2 ?_ | refine r_sl ?_ | refine r_noPart ?_ | refine r_part ?_ | refine r_gnil ?_ | refine r_gcons ?_ | refine r_gsub ?_ | refine r_BM ?_ | refine r_M1 ?_ | refine r_isstr ?_ | refine r_meth ?_ | refine r_make ?_ | refine r_fld ?_ | refine r_abs ?_ | refine r_isiIntInt ?_ | refine r_isiIntBool ?_ | refine r_isiStr ?_ | refine r_min ?_ | refine r_max ?_ | refine r_int1 ?_ | refine r_intb ?_ | refine r_for ?_ | refine r_itup ?_ | refine r_ilist ?_ | refine r_lc ?_ | refine r_yes ?_ | refine r_istr ?_ | refine r_rng1 ?_ | refine r_rng2 ?_ | refine r_dput ?_ | refine r_daug ?_ | refine r_dget ?_ | refine r_dnewT ?_ | refine r_addI ?_ | refine r_ev ?_ | refine r_sfld ?_ | refine r_faug ?_ | refine r_prop ?_ | refine r_while ?_ | refine r_augS ?_ | refine r_tupF ?_ | refine r_idxT ?_ | refine r_kd ?_ | refine r_ki ?_ | refine r_enum ?_))

local macro_rules | `(tactic| walk_at "hp") => `(tactic| (with_reducible first
  | assumption | exact New.at (by assumption)
  | exact SqT.of (by walk_at "hp") | exact SqL.of (by walk_at "hp") | exact Or.inl (by walk_at "hp") | exact Or.inr (by walk_at "hp")
  | exact New.get (by assumption) (by walk_at "hp") | exact Same.get (by assumption) (by walk_at "hp")))

def addRun (rs : List (Int × Nat)) (x : Int) : List (Int × Nat) := match rs.getLast? with
  | some (y, t) => if y = x then rs.dropLast ++ [(x, t + 1)] else rs ++ [(x, 1)]
  | none => rs ++ [(x, 1)]
def runs (d : List Int) : List (Int × Nat) := d.foldl addRun []
theorem runs_snoc (d : List Int) (x : Int) : runs (d ++ [x]) = addRun (runs d) x := by unfold runs; rw [List.foldl_append]; rfl
theorem addRun_nil (x : Int) : addRun [] x = [(x, 1)] := rfl
theorem addRun_eq (rs : List (Int × Nat)) (x : Int) (t : Nat) : addRun (rs ++ [(x, t)]) x = rs ++ [(x, t + 1)] := by
  unfold addRun; rw [List.getLast?_concat]; simp
theorem addRun_ne (rs : List (Int × Nat)) (y x : Int) (t : Nat) (h : y ≠ x) : addRun (rs ++ [(y, t)]) x = rs ++ [(y, t)] ++ [(x, 1)] := by
  unfold addRun; rw [List.getLast?_concat]; simp [h]
def powT (c t : Nat) : List Nat := c :: (if t > 1 then TL.numL t else [])
def rtext (z : Int × Nat) : List Nat := powT (letC z.1) z.2
def ptext (m : Nat) (d : List Int) : List Nat := (48 + m) :: 32 :: (((runs d).map rtext).flatten ++ [10])
theorem numL2 {t : Nat} (h : t < 100) : (TL.numL t).length ≤ 2 := by
  have : ∀ n ∈ List.range 100, (TL.numL n).length ≤ 2 := by decide +kernel
  exact this t (List.mem_range.mpr h)
/-- what the runs of a dance are: its steps, each at least once -/
theorem runs_ok (d : List Int) : (∀ z ∈ runs d, 1 ≤ z.2 ∧ z.1 ∈ d ∧ z.2 ≤ d.length) ∧ (runs d).length ≤ d.length ∧ ((runs d).map fun z => List.replicate z.2 z.1).flatten = d ∧ (d ≠ [] → runs d ≠ []) := by
  have key : ∀ (n : Nat) (d : List Int), d.length = n → (∀ z ∈ runs d, 1 ≤ z.2 ∧ z.1 ∈ d ∧ z.2 ≤ d.length) ∧ (runs d).length ≤ d.length ∧ ((runs d).map fun z => List.replicate z.2 z.1).flatten = d ∧ (d ≠ [] → runs d ≠ []) := by
    intro n
    induction n with
    | zero => intro d h; rw [List.eq_nil_of_length_eq_zero h]; exact ⟨(fun _ h => nomatch h), Nat.le_refl _, rfl, fun h => absurd rfl h⟩
    | succ n ih =>
      intro d hl
      have hne : d ≠ [] := fun e => by rw [e] at hl; simp at hl
      rw [← List.dropLast_concat_getLast hne]
      generalize d.getLast hne = x
      have hl2 : d.dropLast.length = n := by rw [List.length_dropLast, hl]; rfl
      obtain ⟨h1, h2, h3, h4⟩ := ih d.dropLast hl2
      generalize d.dropLast = e at *
      rw [runs_snoc]
      rcases List.eq_nil_or_concat (runs e) with h | ⟨rs, ⟨y, t⟩, h⟩
      · rw [h] at h1 h2 h3 ⊢
        rw [addRun_nil]
        have he : e = [] := by rw [← h3]; rfl
        subst he
        refine ⟨fun z hz => ?_, by simp, by simp, by simp⟩
        rw [List.mem_singleton.mp hz]; simp
      · rw [List.concat_eq_append] at h
        rw [h] at h1 h2 h3 ⊢
        by_cases hyx : y = x
        · subst hyx
          rw [addRun_eq]
          refine ⟨fun z hz => ?_, by simp at h2 ⊢; omega, ?_, by simp⟩
          · rcases List.mem_append.mp hz with hz | hz
            · obtain ⟨a1, a2, a3⟩ := h1 z (List.mem_append_left _ hz)
              exact ⟨a1, List.mem_append_left _ a2, by simp; omega⟩
            · obtain ⟨a1, a2, a3⟩ := h1 (y, t) (by simp)
              rw [List.mem_singleton.mp hz]
              simp only at a3 ⊢
              exact ⟨by omega, by simp, by simp; omega⟩
          · rw [← h3]
            simp [List.replicate_succ']
        · rw [addRun_ne _ _ _ _ hyx]
          refine ⟨fun z hz => ?_, by simp at h2 ⊢; omega, ?_, by simp⟩
          · rcases List.mem_append.mp hz with hz | hz
            · obtain ⟨a1, a2, a3⟩ := h1 z hz
              exact ⟨a1, List.mem_append_left _ a2, by simp; omega⟩
            · rw [List.mem_singleton.mp hz]
              exact ⟨Nat.le_refl _, by simp, by simp⟩
          · rw [List.map_append, List.flatten_append, h3]; simp
  exact key _ d rfl
section
variable {P : Program} {w : World} {K : PySem.W.Frag} {mg : Str → Option Value} {base : Heap}
def sp_pow : Sp := fun vs H Q _ => ∃ c t : Nat, vs = [.str (S [c]), .int t] ∧ 1 ≤ t ∧ t ≤ 98 ∧ Q (.str (S (powT c t))) H
theorem c_powered (T : Tx w K mg base) : C8.Cal P w K mg base 1 "powered" sp_pow [] := by
  obtain ⟨fd, F⟩ := f_powered T
  refine cal_of F (g_powered T) (fun _ _ _ _ _ _ us hl => match us, hl with | [_, _], _ => rfl) sc_powered (fun vs H Q E h => by obtain ⟨_, _, rfl, _⟩ := h; rfl) (fun cdv A outer s H vs Q E hr h => ?_)
  obtain ⟨c, t, rfl, h1, h2, k⟩ := h
  refine ⟨_, (pss_cons (ps_set (i := 2) sc_powered.nd rfl (Or.inl rfl) (pe_op op_repS0 (pe_op opAddS (pv 0) (pe_callTy callStrI rfl (b_str T) bb_str (pa_cons (C8.pe_gc rfl (v_MOST_POWER T)) pa_nil))) (pe_op op_fdiv (pv 1) (C8.pe_gc rfl (v_MOST_POWER T)))))
  (pss_cons (ps_set (i := 3) sc_powered.nd rfl (Or.inl rfl) (pe_op op_mod (pv 1) (C8.pe_gc rfl (v_MOST_POWER T))))
  (pss_one (ps_ret (pe_op opAddS (pe_op opAddS (pv 2) (pe_ifExp (pt_cmpR op_gt (pv 3) pe_int (nomark _)) (pv 0) pe_str)) (pe_ifExp (pt_cmpR op_gt (pv 3) pe_int (nomark _)) (pe_callTy callStrI rfl (b_str T) bb_str (pa_cons (pv 3) pa_nil)) pe_str)))))), ?_⟩
  have hn := numL2 (t := t) (by omega)
  have hn9 := numL2 (t := 99) (by omega)
  walk_at "rd"
  refine r_strN (n := 99) ?_
  refine r_catX (a := [c]) (b := TL.numL 99) (by simp; omega) ?_
  walk_at "rd"
  refine r_I ⟨by decide, by decide⟩ ?_
  refine ⟨_, rfl, by rw [show (t : Int) / 99 = 0 by omega], ?_⟩
  walk_at "rd"
  refine r_I (by decide) ?_
  rw [show (t : Int) % 99 = (t : Int) by omega]
  walk_at "rd"
  refine ifD (fun _ => ?_) (fun h => absurd (show (0 : Int) < t by omega) h)
  walk_at "rd"
  refine r_catX (a := []) (b := [c]) (by simp) ?_
  walk_at "rd"
  unfold powT at k
  refine ifD (fun hg => ?_) (fun hg => ?_)
  · rw [if_pos (show t > 1 by omega)] at k
    walk_at "rd"
    refine r_strN ?_
    exact r_catX (a := [] ++ [c]) (b := TL.numL t) (by simp; omega) k
  · rw [if_neg (show ¬ t > 1 by omega)] at k
    walk_at "rd"
    exact r_catX (a := [] ++ [c]) (b := []) (by simp) k
structure Rw (H H' : Hp) (R : Addr) (zs : List (Addr × Int × Nat)) : Prop where
  same : Same H H'
  at_ : H' R = some (.lst (zs.map fun z => .ref z.1))
  free : H R = none
  rows : ∀ z ∈ zs, H' z.1 = some (.lst [.int z.2.1, .int (z.2.2 : Nat)]) ∧ H z.1 = none
  nd : (zs.map (·.1)).Nodup
  no : R ∉ zs.map (·.1)
theorem Rw.ext {H H' H2 : Hp} {R : Addr} {zs : List (Addr × Int × Nat)} (r : Rw H H' R zs) (s : Same H' H2) : Rw H H2 R zs :=
  ⟨r.same.trans s, s _ _ r.at_, r.free, fun z hz => ⟨s _ _ (r.rows z hz).1, (r.rows z hz).2⟩, r.nd, r.no⟩
theorem Rw.dp {H H' : Hp} {R : Addr} {zs : List (Addr × Int × Nat)} (r : Rw H H' R zs) : Dp K H' (.ref R) (.list (zs.map fun z => .list [.int z.2.1, .int (z.2.2 : Nat)])) := by
  refine .lst (SqL.of r.at_) ?_
  have key : ∀ zs : List (Addr × Int × Nat), (∀ z ∈ zs, H' z.1 = some (.lst [.int z.2.1, .int (z.2.2 : Nat)])) → DpAll K H' (zs.map fun z => V.ref z.1) (zs.map fun z => .list [.int z.2.1, .int (z.2.2 : Nat)]) := by
    intro zs
    induction zs with
    | nil => intro _; exact .nil
    | cons z zs ih => intro h; exact .cons (.lst (SqL.of (h z List.mem_cons_self)) (.cons (.int _) (.cons (.int _) .nil))) (ih fun y hy => h y (List.mem_cons_of_mem _ hy))
  exact key zs fun z hz => (r.rows z hz).1
theorem Rw.upd {H H' : Hp} {R : Addr} {zs : List (Addr × Int × Nat)} {z : Addr × Int × Nat} (r : Rw H H' R (zs ++ [z])) (x : Int) (t : Nat) : Rw H (upd H' z.1 (.lst [.int x, .int (t : Nat)])) R (zs ++ [(z.1, x, t)]) := by
  have hnd := r.nd
  have hno := r.no
  rw [List.map_append] at hnd hno
  have hRz : R ≠ z.1 := fun e => hno (by rw [e]; simp)
  refine ⟨same_upd r.same (r.rows z (by simp)).2, ?_, r.free, fun y hy => ?_, ?_, ?_⟩
  · rw [upd_ne hRz, r.at_, List.map_append, List.map_append]; rfl
  · rcases List.mem_append.mp hy with hy | hy
    · have hne : y.1 ≠ z.1 := fun e => by
        have := (List.nodup_append.mp hnd).2.2 y.1 (List.mem_map.mpr ⟨y, hy, rfl⟩) z.1 (by simp)
        exact this e
      rw [upd_ne hne]
      exact r.rows y (List.mem_append_left _ hy)
    · rw [List.mem_singleton.mp hy]
      exact ⟨upd_same, (r.rows z (by simp)).2⟩
  · rw [List.map_append]; exact hnd
  · rw [List.map_append]; exact hno
theorem Rw.add {H H' : Hp} {R p : Addr} {zs : List (Addr × Int × Nat)} {H2 : Hp} {x : Int} {t : Nat} (r : Rw H H' R zs) (n : New H' p (.lst [.int x, .int (t : Nat)]) H2) : Rw H (L2.upd H2 R (.lst ((zs.map fun z => .ref z.1) ++ [.ref p]))) R (zs ++ [(p, x, t)]) := by
  have hpR : p ≠ R := fun e => by have := n.free; rw [e, r.at_] at this; cases this
  have hpz : ∀ z ∈ zs, p ≠ z.1 := fun z hz e => by have := n.free; rw [e, (r.rows z hz).1] at this; cases this
  refine ⟨same_upd (r.same.trans n.same) r.free, by rw [upd_same, List.map_append]; rfl, r.free, fun y hy => ?_, ?_, ?_⟩
  · rcases List.mem_append.mp hy with hy | hy
    · have hne : y.1 ≠ R := fun e => r.no (List.mem_map.mpr ⟨y, hy, e⟩)
      rw [upd_ne hne]
      exact ⟨n.get (r.rows y hy).1, (r.rows y hy).2⟩
    · rw [List.mem_singleton.mp hy]
      refine ⟨by rw [upd_ne hpR]; exact n.at, r.same.free n.free⟩
  · rw [List.map_append]
    refine List.nodup_append.mpr ⟨r.nd, by simp, ?_⟩
    intro a ha b hb e
    obtain ⟨y, hy, rfl⟩ := List.mem_map.mp ha
    simp at hb
    exact hpz y hy (by rw [← hb, e])
  · rw [List.map_append]
    intro h
    rcases List.mem_append.mp h with h | h
    · exact r.no h
    · simp at h; exact hpR h.symm
theorem rows_inj {zs : List (Addr × Int × Nat)} : zs = [] ↔ PyData.list (zs.map fun z => .list [.int z.2.1, .int (z.2.2 : Nat)]) = PyData.list [] := by
  constructor
  · intro h; rw [h]; rfl
  · intro h; exact List.map_eq_nil_iff.mp (PyData.list.inj h)
def sp_ptext : Sp := fun vs H Q _ => ∃ (m : Nat) (d : List Int) (a : Addr), vs = [.int m, .ref a] ∧ H a = some (.tup (d.map V.int)) ∧ Dv m d ∧ 2 ≤ m ∧ m ≤ 5 ∧ d.length ≤ 98 ∧ d ≠ [] ∧ ∀ H', Same H H' → Q (.str (S (ptext m d))) H'
theorem r_lstG {n : Nat} {tg : TGs} {σ : St} {H : Hp} {q : St → Hp → Prop} {a : Addr} {xs : List V} (hx : SqL K H a xs) (hn : xs.length = n) (h : tg xs σ H q) : gLst K n tg (.ref a) σ H q := ⟨a, xs, rfl, hx, hn, h⟩
theorem flat_len {zs : List (Int × Nat)} (h : ∀ z ∈ zs, z.2 ≤ 98) : ((zs.map rtext).flatten).length ≤ 3 * zs.length := by
  induction zs with
  | nil => exact Nat.le_refl _
  | cons z zs ih =>
    rw [List.map_cons, List.flatten_cons, List.length_append, List.length_cons]
    have h1 := ih fun y hy => h y (List.mem_cons_of_mem _ hy)
    have h2 := numL2 (t := z.2) (by have := h z List.mem_cons_self; omega)
    have h3 : (rtext z).length ≤ 3 := by unfold rtext powT; split <;> simp <;> omega
    omega
theorem c_phrase_text (T : Tx w K mg base) : C8.Cal P w K mg base 6 "phrase_text" sp_ptext [] := by
  obtain ⟨fd, F⟩ := f_phrase_text T
  refine cal_of F (g_phrase_text T) (fun _ _ _ _ _ _ us hl => match us, hl with | [_, _], _ => rfl) sc_phrase_text (fun vs H Q E h => by obtain ⟨_, _, _, rfl, _⟩ := h; rfl) (fun cdv A outer s H vs Q E hr h => ?_)
  obtain ⟨m, d, a, rfl, ha, hd, hm1, hm, hz, hne, k⟩ := h
  refine ⟨_, (pss_cons (ps_expr (C8.pe_c (c_need_one (K := K) T) hr (by decide) rfl (pa_cons (pv 0) (pa_cons (pv 1) pa_nil))))
  (pss_cons (ps_par rfl sc_phrase_text.nd (i := 2) (j := 3) rfl rfl (by decide) rfl rfl (pa_cons pe_str (pa_cons (pe_lst pa_nil) pa_nil)) rfl)
  (pss_cons (ps_for PassesOwn.never rfl (piTup (K := K) (pv 1)) (pg_name (i := 4) sc_phrase_text.nd rfl (Or.inl rfl))
  (pss_one (ps_if (PW.pt (pw_and (pt_cmpR (opNeD (K := K) hr.units) (pv 3) (pe_lst pa_nil) (nomark _)) (pw_and1 (pt_cmpR op_eq (pe_ix (ixL (K := K)) (pe_ix (ixL (K := K)) (pv 3) (pe_un un_neg pe_int) (fun _ _ => rfl)) pe_int (fun _ _ => rfl)) (pv 4) (nomark _))))) (pss_one (ps_augS (pe_ix (ixL (K := K)) (pv 3) (pe_un un_neg pe_int) (fun _ _ => rfl)) pe_int (getList (K := K)) pe_int ip_add set_list)) (pss_one (ps_expr (peApp (K := K) (pv 3) (pa_cons (pe_lst (pa_cons (pv 4) (pa_cons pe_int pa_nil))) pa_nil)))))))
  (pss_cons (ps_for PassesOwn.never rfl (piList (K := K) (pv 3)) (pgLst (K := K) (n := 2) rfl (pgs_cons (pg_name (i := 4) sc_phrase_text.nd rfl (Or.inl rfl)) (pgs_cons (pg_name (i := 5) sc_phrase_text.nd rfl (Or.inl rfl)) pgs_nil)))
  (pss_one (ps_aug (i := 2) sc_phrase_text.nd rfl (Or.inl rfl) (C8.pe_c (c_powered (K := K) T) hr (by decide) rfl (pa_cons (C8.pe_c (c_letter_of (K := K) T) hr (by decide) rfl (pa_cons (pv 4) pa_nil)) (pa_cons (pv 5) pa_nil))) ipAddS)))
  (pss_one (ps_ret (pe_op opAddS (pe_op opAddS (pe_op opAddS (pe_callTy callStrI rfl (b_str T) bb_str (pa_cons (pv 0) pa_nil)) pe_str) (pe_ifExp (pt_cmpR op_ne (pv 2) pe_str (nomark _)) (pv 2) (C8.pe_gc rfl (v_NONE T)))) pe_str))))))), ?_⟩
  walk_at "rd"
  refine ⟨m, d, a, rfl, ha, hd, by omega, hm1, hm, fun H1 s1 => ?_⟩
  walk_at "rd"
  refine ⟨(sz1000 (Nat.le_of_ble_eq_true rfl)), ?_⟩
  (intro R hl_; generalize he_ : upd _ R _ = H2; have n2 := New.mk hl_ he_.symm; clear hl_ he_)
  walk_at "rd"
  refine forT V.int d (SqT.of (n2.get (s1 _ _ ha))) (fun pre σ H' => ∃ (v4 : Option V) (zs : List (Addr × Int × Nat)), σ = [some (.int m), some (.ref a), some (.str ""), some (.ref R), v4, none] ∧ zs.map (·.2) = runs pre ∧ Rw H H' R zs)
    ⟨none, [], rfl, rfl, s1.trans n2.same, n2.at, s1.free n2.free, (fun _ h => nomatch h), by simp, by simp⟩ (fun pre σ H' ⟨_, _, _, _, r⟩ => SqT.of (r.same _ _ ha)) ?_ ?_
  · rintro pre x post σ H' e ⟨v4, zs, rfl, hzs, r⟩
    have hzl : zs.length ≤ 98 := by
      have h1 := (runs_ok pre).2.1
      rw [← hzs, List.length_map] at h1
      rw [e] at hz; simp at hz; omega
    walk_at "rn"
    refine r_if ?_
    refine r_testJ (fun b H1 => (b = true ∧ (∃ zs' p t, zs = zs' ++ [(p, x, t)]) ∧ Rw H H1 R zs) ∨ (b = false ∧ addRun (runs pre) x = runs pre ++ [(x, 1)] ∧ Rw H H1 R zs)) (fun P' hP => ?_) ?_
    · walk_at "rd"
      refine ⟨(sz1000 (Nat.le_of_ble_eq_true rfl)), ?_⟩
      (intro p5 hl_; generalize he_ : upd _ p5 _ = H5; have n5 := New.mk hl_ he_.symm; clear hl_ he_)
      have r5 := r.ext n5.same
      refine r_neG (p := zs = []) (d := .list (zs.map fun z => .list [.int z.2.1, .int (z.2.2 : Nat)])) (e := .list []) r5.dp (.lst (SqL.of n5.at) .nil) (PlD.list (n := 63) (PlDs.of fun d hd => by obtain ⟨z, _, rfl⟩ := List.mem_map.mp hd; exact PlD.list (n := 62) (.cons .int (.cons .int .nil)))) (PlD.list (n := 63) .nil) rows_inj ?_
      walk_at "rd"
      refine ifN (fun h0 => ?_) (fun h0 => ?_)
      · rcases List.eq_nil_or_concat zs with h | ⟨zs', ⟨p, y, t⟩, h⟩
        · exact absurd h h0
        · rw [List.concat_eq_append] at h
          walk_at "rd"
          refine r_ixL (v := .ref p) (SqL.of r5.at_) (by rw [h, List.map_append]; exact atI_last _ _) ?_
          walk_at "rd"
          refine r_ixL (v := .int y) (SqL.of (r5.rows (p, y, t) (by rw [h]; simp)).1) rfl ?_
          walk_at "rd"
          by_cases hyx : y = x
          · subst hyx
            rw [decide_eq_true rfl]
            exact hP _ _ (.inl ⟨rfl, ⟨zs', p, t, h⟩, r5⟩)
          · rw [decide_eq_false hyx]
            refine hP _ _ (.inr ⟨rfl, ?_, r5⟩)
            rw [← hzs, h, List.map_append]
            exact addRun_ne _ _ _ _ hyx
      · refine hP _ _ (.inr ⟨rfl, ?_, r5⟩)
        rw [← hzs, h0]; rfl
    · rintro b H5 (⟨rfl, ⟨zs', p, t, h⟩, r5⟩ | ⟨rfl, hadd, r5⟩)
      · refine iteT ?_
        subst h
        have hrow := (r5.rows (p, x, t) (by simp)).1
        walk_at "rd"
        refine r_ixL (v := .ref p) (SqL.of r5.at_) (by rw [List.map_append]; exact atI_last _ _) ?_
        walk_at "rd"
        refine ⟨p, _, 1, .int (t : Nat), rfl, rfl, SqL.of hrow, rfl, ?_⟩
        walk_at "rd"
        refine ⟨_, _, rfl, rfl, ?_⟩
        refine ⟨p, _, 1, 1, rfl, rfl, hrow, rfl, ?_⟩
        refine ⟨_, zs' ++ [(p, x, t + 1)], rfl, ?_, ?_⟩
        · rw [runs_snoc, ← hzs, List.map_append, List.map_append]
          exact (addRun_eq _ x t).symm
        · exact Rw.upd (z := (p, x, t)) r5 x (t + 1)
      · refine iteF ?_
        walk_at "rd"
        refine ⟨.inl ⟨rfl, _, SqL.of r5.at_⟩, ?_⟩
        walk_at "rd"
        refine ⟨(sz1000 (Nat.le_of_ble_eq_true rfl)), ?_⟩
        (intro p6 hl_; generalize he_ : upd _ p6 _ = H6; have n6 := New.mk hl_ he_.symm; clear hl_ he_)
        walk_at "rd"
        refine r_app (n6.get r5.at_) (small1000 (by rw [List.length_map]; omega)) ?_
        walk_at "rd"
        refine ⟨_, zs ++ [(p6, x, 1)], rfl, ?_, r5.add n6⟩
        rw [runs_snoc, hadd, List.map_append, hzs]; rfl
  · rintro σ H' ⟨v4, zs, rfl, hzs, r⟩
    obtain ⟨ro1, ro2, ro3, ro4⟩ := runs_ok d
    have hzl : zs.length ≤ 98 := by rw [← hzs, List.length_map] at ro2; omega
    have hz98 : ∀ z ∈ runs d, z.2 ≤ 98 := fun z hz' => by have := (ro1 z hz').2.2; omega
    walk_at "rd"
    refine forL (fun z : Addr × Int × Nat => V.ref z.1) zs (SqL.of r.at_) (fun pre σ H' => ∃ (v4 v5 : Option V), σ = [some (.int m), some (.ref a), some (.str (S ((pre.map fun z => rtext z.2).flatten))), some (.ref R), v4, v5] ∧ Rw H H' R zs)
      ⟨_, _, rfl, r⟩ (fun pre σ H' ⟨_, _, _, r⟩ => SqL.of r.at_) ?_ ?_
    · rintro pre ⟨p, x, t⟩ post σ H' e ⟨v4, v5, rfl, r⟩
      have hmem : (p, x, t) ∈ zs := by rw [e]; simp
      obtain ⟨a1, a2, a3⟩ := ro1 (x, t) (by rw [← hzs]; exact List.mem_map.mpr ⟨_, hmem, rfl⟩)
      have hb := hd x a2
      refine r_lstG (SqL.of (r.rows _ hmem).1) rfl ?_
      walk_at "rd"
      refine ⟨_, by with_unfolding_all rfl, ?_⟩
      walk_at "rd"
      refine ⟨x, rfl, hb.1, by omega, ?_⟩
      walk_at "rd"
      refine ⟨letC x, t, rfl, a1, by simp only at a3; omega, ?_⟩
      have hlen : ((pre.map fun z => rtext z.2).flatten).length ≤ 300 := by
        have := flat_len (zs := pre.map (·.2)) (fun z hz' => hz98 z (by rw [← hzs, e, List.map_append]; exact List.mem_append_left _ hz'))
        rw [List.map_map] at this
        have h2 : pre.length ≤ zs.length := by rw [e]; simp
        rw [List.length_map] at this
        exact Nat.le_trans this (by omega)
      have hpw : (powT (letC x) t).length ≤ 3 := by unfold powT; have := numL2 (t := t) (by simp only at a3; omega); split <;> simp <;> omega
      refine ⟨_, _, rfl, rfl, by rw [S_len, S_len, sizeLine_eq]; omega, ?_⟩
      have ef : S ((pre.map fun z => rtext z.2).flatten) ++ S (powT (letC x) t) = S (((pre ++ [(p, x, t)]).map fun z => rtext z.2).flatten) := by
        rw [S_cat, List.map_append, List.flatten_append]; congr 1; simp [rtext]
      rw [ef]
      exact ⟨_, _, rfl, r⟩
    · rintro σ H' ⟨v4, v5, rfl, r⟩
      have eq : (zs.map fun z => rtext z.2).flatten = ((runs d).map rtext).flatten := by rw [← hzs, List.map_map]; rfl
      rw [eq]
      have hfl : ((runs d).map rtext).flatten ≠ [] := by
        have := ro4 hne
        intro h
        cases hr : runs d with
        | nil => exact this hr
        | cons z zs => rw [hr, List.map_cons, List.flatten_cons] at h; simp [rtext, powT] at h
      have hlen := flat_len hz98
      walk_at "rd"
      refine r_strN ?_
      rw [numL1 (by omega)]
      walk_at "rd"
      refine r_catX (a := [48 + m]) (b := [32]) (by simp) ?_
      refine r_ifE ?_
      refine r_test ?_
      refine r_op ?_
      refine r_var (by with_unfolding_all rfl) ?_
      refine r_c ?_
      refine r_neX (b := []) ?_
      walk_at "rd"
      refine ifN (fun _ => ?_) (fun h => absurd h hfl)
      walk_at "rd"
      refine r_catX (a := [48 + m] ++ [32]) (by rw [List.length_append]; simp only [List.length_singleton]; omega) ?_
      walk_at "rd"
      refine r_catX (b := [10]) (by rw [List.length_append, List.length_append]; simp only [List.length_singleton]; omega) ?_
      exact k H' r.same
end
end My
end

section
set_option Elab.async false
set_option linter.all false
set_option maxRecDepth 100000
set_option maxHeartbeats 4000000
/-! MM: the phrase read. -/
namespace My
open PySem PySem.Spec PyProof.Rows L2 He LamX SX
local macro_rules | `(tactic| walk_at "rd") => `(tactic| repeat (with_reducible first
  | refine r_seq ?_ | refine r_asg ?_ | refine r_var (by with_unfolding_all rfl) ?_ | refine r_c ?_ | refine r_op ?_ | refine r_I0 ?_ | refine r_name ?_ | refine r_ret ?_ | refine r_if ?_ | refine r_cons ?_ | refine r_nil ?_
  | refine r_CB ?_ | refine r_call ?_ | refine r_test ?_ | refine r_eqI ?_ | refine r_eqS ?_ | refine r_neI ?_ | refine r_neS ?_ | refine r_drop ?_ | refine r_next ?_ | refine r_ifE ?_ | refine r_B ?_ | refine r_andV ?_ | refine r_orV ?_ | refine r_notV ?_ | refine r_blV ?_
  | refine r_and ?_ | refine r_or ?_ | refine r_not ?_ | refine r_tup ?_ | refine r_lst ?_ | refine r_par ?_ | refine r_exv2 ?_ | refine r_un ?_ | refine r_neg ?_ | refine r_isN ?_ | refine r_notN ?_ | refine r_retN ?_ | refine r_chain ?_
  | refine r_star ?_ | refine r_lstRg ?_ | refine r_rg1 ?_ | refine r_rg2 ?_ | refine r_exi ?_ | refine r_exi2 ?_ | refine r_sl ?_ | refine r_noPart ?_ | refine r_part ?_ | refine r_gnil ?_ | refine r_gcons ?_ | refine r_gsub ?_ | refine r_BM ?_ | refine r_M1 ?_ | refine r_isstr ?_ | refine r_meth ?_ | refine r_make ?_ | refine r_fld ?_ | refine r_abs ?_ | refine r_isiIntInt ?_ | refine r_isiIntBool ?_ | refine r_isiStr ?_ | refine r_min ?_ | refine r_max ?_ | refine r_int1 ?_ | refine r_intb ?_ | refine r_for ?_ | refine r_itup ?_ | refine r_ilist ?_ | refine r_lc ?_ | refine r_yes ?_ | refine r_istr ?_ | refine r_rng1 ?_ | refine r_rng2 ?_ | refine r_dput ?_ | refine r_daug ?_ | refine r_dget ?_ | refine r_dnewT ?_ | refine r_addI ?_ | refine r_ev ?_ | refine r_sfld ?_ | refine r_faug ?_ | refine r_prop ?_ | refine r_while ?_ | refine r_augS ?_ | refine r_tupF ?_ | refine r_idxT ?_ | refine r_kd ?_ | refine r_ki ?_ | refine r_enum ?_))

local macro_rules | `(tactic| walk_at "rn") => `(tactic| repeat (with_reducible first
  | refine r_seq ?_ | refine r_asg ?_ | refine r_var (by with_unfolding_all rfl) ?_ | refine r_c ?_ | refine r_op ?_ | refine r_I0 ?_ | refine r_name ?_ | refine r_ret ?_ | refine r_cons ?_ | refine r_nil ?_
  | refine r_CB ?_ | refine r_call ?_ | refine r_test ?_ | refine r_eqI ?_ | refine r_eqS ?_ | refine r_neI ?_ | refine r_neS ?_ | refine r_drop ?_ | refine r_next ?_ | refine r_B ?_ | refine r_andV ?_ | refine r_orV ?_ | refine r_notV ?_ | refine r_blV ?_
  | refine r_and ?_ | refine r_or ?_ | refine r_not ?_ | refine r_tup ?_ | refine r_lst ?_ | refine r_par ?_ | refine r_exv2 ?_ | refine r_un ?_ | refine r_neg ?_ | refine r_isN ?_ | refine r_notN ?_ | refine r_retN ?_ | refine r_chain ?_
  | refine r_star ?_ | refine r_lstRg ?_ | refine r_rg1 ?_ | refine r_rg2 ?_ | refine r_exi ?_ | refine r_exi2 ?_ | refine r_sl ?_ | refine r_noPart ?_ | refine r_part ?_ | refine r_gnil ?_ | refine r_gcons ?_ | refine r_gsub ?_ | refine r_BM ?_ | refine r_M1 ?_ | refine r_isstr ?_ | refine r_meth ?_ | refine r_make ?_ | refine r_fld ?_ | refine r_abs ?_ | refine r_isiIntInt ?_ | refine r_isiIntBool ?_ | refine r_isiStr ?_ | refine r_min ?_ | refine r_max ?_ | refine r_int1 ?_ | refine r_intb ?_ | refine r_for ?_ | refine r_itup ?_ | refine r_ilist ?_ | refine r_lc ?_ | refine r_yes ?_ | refine r_istr ?_ | refine r_rng1 ?_ | refine r_rng2 ?_ | refine r_dput ?_ | refine r_daug ?_ | refine r_dget ?_ | refine r_dnewT ?_ | refine r_addI ?_ | refine r_ev ?_ | refine r_sfld ?_ | refine r_faug ?_ | refine r_prop ?_ | refine r_while ?_ | refine r_augS ?_ | refine r_tupF ?_ | refine r_idxT ?_ | refine r_kd ?_ | refine r_ki ?_ | refine r_enum ?_))

local macro_rules | `(tactic| walk_at "hp") => `(tactic| (with_reducible first
  | assumption | exact New.at (by assumption)
  | exact SqT.of (by walk_at "hp") | exact SqL.of (by walk_at "hp") | exact Or.inl (by walk_at "hp") | exact Or.inr (by walk_at "hp")
  | exact New.get (by assumption) (by walk_at "hp") | exact Same.get (by assumption) (by walk_at "hp")))

def SameBut (a : Addr) (H H' : Hp) : Prop := ∀ b u, b ≠ a → H b = some u → H' b = some u
theorem SameBut.refl {a : Addr} {H : Hp} : SameBut a H H := fun _ _ _ h => h
theorem SameBut.trans {a : Addr} {H H' H2 : Hp} (s : SameBut a H H') (s2 : SameBut a H' H2) : SameBut a H H2 := fun b u hb h => s2 b u hb (s b u hb h)
theorem SameBut.same {a : Addr} {H H' H2 : Hp} (s : SameBut a H H') (s2 : Same H' H2) : SameBut a H H2 := fun b u hb h => s2 b u (s b u hb h)
theorem SameBut.of {a : Addr} {H H' : Hp} (s : Same H H') : SameBut a H H' := fun b u _ h => s b u h
theorem SameBut.upd {a : Addr} {H H' : Hp} {o : HO} (s : SameBut a H H') : SameBut a H (L2.upd H' a o) := fun b u hb h => by rw [upd_ne hb]; exact s b u hb h
theorem SameBut.fresh {a : Addr} {H0 H H' : Hp} (s0 : Same H0 H) (s : SameBut a H H') (h : H0 a = none) : Same H0 H' := fun b u hb => s b u (ne_of_none hb h) (s0 b u hb)
def endC : List Nat := [97, 98, 99, 100, 65, 66, 67, 68, 10]
theorem letC_end {x : Int} (h1 : 1 ≤ x.natAbs) (h2 : x.natAbs < 5) : letC x ∈ endC := by
  rcases c8 h1 h2 with rfl | rfl | rfl | rfl | rfl | rfl | rfl | rfl <;> decide
theorem end_facts {c : Nat} (h : c ∈ endC) : c ≠ 45 ∧ c ≠ 40 ∧ c ≠ 41 ∧ c ∉ ([48, 49, 50, 51, 52, 53, 54, 55, 56, 57] : List Nat) ∧ Txt.find "0123456789" (S [c]) = -1 := by
  have key : ∀ c ∈ endC, c ≠ 45 ∧ c ≠ 40 ∧ c ≠ 41 ∧ c ∉ ([48, 49, 50, 51, 52, 53, 54, 55, 56, 57] : List Nat) ∧ Txt.find "0123456789" (S [c]) = -1 := by decide +kernel
  exact key c h
theorem fig_facts {t : Nat} (h1 : 2 ≤ t) (h2 : t ≤ 9) : Txt.find "0123456789" (S [48 + t]) = t ∧ intText? (S [48 + t]) = some (t : Int) ∧ 48 + t ≠ 45 ∧ 48 + t ≠ 49 := by
  have key : ∀ t ∈ ([2, 3, 4, 5, 6, 7, 8, 9] : List Nat), Txt.find "0123456789" (S [48 + t]) = (t : Int) ∧ intText? (S [48 + t]) = some (t : Int) ∧ 48 + t ≠ 45 ∧ 48 + t ≠ 49 := by decide +kernel
  exact key t (by simp only [List.mem_cons, List.not_mem_nil, or_false]; omega)
theorem numL10 : TL.numL 10 = [49, 48] := by decide +kernel
def powD (t : Nat) : List Nat := if t > 1 then TL.numL t else []
theorem at_app {α : Type} (pre : List α) (c : α) (r : List α) : (pre ++ c :: r)[pre.length]? = some c := by rw [List.getElem?_append_right (Nat.le_refl _), Nat.sub_self]; rfl
theorem decS_nil {c : Nat} : (!decide (S [c] = ("" : Str))) = true := by
  rw [show decide (S [c] = ("" : Str)) = false from decide_eq_false fun e => absurd (S_inj (b := []) e) (by simp)]; rfl
theorem decS_ne {c d : Nat} (h : c ≠ d) : decide (S [c] = S [d]) = false := decide_eq_false fun e => h (List.cons.inj (S_inj e)).1
section
variable {P : Program} {w : World} {K : PySem.W.Frag} {mg : Str → Option Value} {base : Heap}
def sp_power (K : PySem.W.Frag) : Sp := fun vs H Q _ => ∃ (a dx : Addr) (pre rest : List Nat) (t c : Nat), vs = [.ref a] ∧ H a = some (sgO K dx (pre ++ (powD t ++ c :: rest)) pre.length) ∧ (pre ++ (powD t ++ c :: rest)).length ≤ 90000 ∧ c ∈ endC ∧ 1 ≤ t ∧ t ≤ 10 ∧
  ∀ H', SameBut a H H' → H' a = some (sgO K dx (pre ++ (powD t ++ c :: rest)) (pre.length + (powD t).length)) → Q (.int t) H'
theorem c_power_read (T : Tx w K mg base) : C8.Cal P w K mg base 4 "power_read" (sp_power K) [] := by
  obtain ⟨fd, F⟩ := f_power_read T
  refine cal_of F (g_power_read T) (fun _ _ _ _ _ _ us hl => match us, hl with | [_], _ => rfl) sc_power_read (fun vs H Q E h => by obtain ⟨_, _, _, _, _, _, rfl, _⟩ := h; rfl) (fun cdv A outer s H vs Q E hr h => ?_)
  obtain ⟨a, dx, pre, rest, t, c, rfl, ha, hz, hc, h1, h2, k⟩ := h
  refine ⟨_, (pss_cons (ps_set (i := 1) sc_power_read.nd rfl (Or.inl rfl) (pe_cmpR op_eq (C8.pe_mt0 (c_Signs_next_sign (K := K) T) hr (by decide) (pv 0)) pe_str (nomark _)))
  (pss_cons (ps_if (pt_val (pv 1)) (pss_cons (ps_expr (C8.pe_mt (c_Signs_take (K := K) T) hr (by decide) (pv 0) (pa_cons pe_bl pa_nil)))
  (pss_one (ps_set (i := 2) sc_power_read.nd rfl (Or.inl rfl) (C8.pe_mt (c_Signs_take_one_of (K := K) T) hr (by decide) (pv 0) (pa_cons (pe_slice C8.sl_txt (C8.pe_gc rfl (v_FIGURES T)) (po_some pe_int) po_none) pa_nil))))) (pss_one (ps_if (PW.pt (pw_and (pt_val (C8.pe_c (c_is_between (K := K) T) hr (by decide) rfl (pa_cons (pe_bm PySem.F.plainAttrs_str PySem.F.slot_str_find PySem.F.type_str_find mt_find (C8.pe_gc rfl (v_FIGURES T)) (pa_cons (C8.pe_mt0 (c_Signs_next_sign (K := K) T) hr (by decide) (pv 0)) pa_nil)) (pa_cons pe_int (pa_cons pe_int pa_nil))))) (pw_and1 (pt_cmpR op_ne (C8.pe_mt0 (c_Signs_next_sign (K := K) T) hr (by decide) (pv 0)) pe_str (nomark _))))) (pss_one (ps_set (i := 2) sc_power_read.nd rfl (Or.inl rfl) (C8.pe_mt (c_Signs_take (K := K) T) hr (by decide) (pv 0) (pa_cons pe_bl pa_nil)))) (pss_one (ps_ret pe_int)))))
  (pss_cons (ps_if (PW.pt (pw_and (pt_cmpR op_ne (C8.pe_mt0 (c_Signs_next_sign (K := K) T) hr (by decide) (pv 0)) pe_str (nomark _)) (pw_and1 (pt_cmpR op_inS (C8.pe_mt0 (c_Signs_next_sign (K := K) T) hr (by decide) (pv 0)) (C8.pe_gc rfl (v_FIGURES T)) (by rfl))))) (pss_one (ps_aug (i := 2) sc_power_read.nd rfl (Or.inl rfl) (C8.pe_mt (c_Signs_take (K := K) T) hr (by decide) (pv 0) (pa_cons pe_bl pa_nil)) ipAddS)) pss_nil)
  (pss_cons (ps_if (PW.pt (pw_and (pt_cmpR op_eq (pv 2) pe_str (nomark _)) (pw_and1 (pt_not (pt_val (pv 1)))))) (pss_one (ps_expr (C8.pe_mt (c_Signs_take (K := K) T) hr (by decide) (pv 0) (pa_cons pe_bl pa_nil)))) pss_nil)
  (pss_one (ps_ret (pe_ifExp (pt_val (pv 1)) (pe_op op_sub pe_int (pe_callTy callIntS rfl (b_int T) bb_int (pa_cons (pv 2) pa_nil))) (pe_callTy callIntS rfl (b_int T) bb_int (pa_cons (pv 2) pa_nil))))))))), ?_⟩
  obtain ⟨f1, f2, f3, f4, f5⟩ := end_facts hc
  have hz' : (pre ++ (powD t ++ c :: rest)).length ≤ 100000 := by omega
  by_cases ht1 : t = 1
  · subst ht1
    have e0 : pre ++ (powD 1 ++ c :: rest) = pre ++ c :: rest := rfl
    rw [e0] at ha hz' k
    have hget := at_app pre c rest
    walk_at "rd"
    refine r_me ha ?_
    walk_at "rd"
    refine ⟨a, dx, _, _, rfl, ha, hz', ?_⟩
    rw [drop_one hget]
    walk_at "rd"
    rw [show decide (S [c] = ("-" : Str)) = false from decS_ne f1]
    refine iteF ?_
    walk_at "rd"
    refine r_bmStr rfl ?_
    walk_at "rd"
    refine r_me ha ?_
    walk_at "rd"
    refine ⟨a, dx, _, _, rfl, ha, hz', ?_⟩
    rw [drop_one hget]
    walk_at "rd"
    refine ⟨_, _, rfl, rfl, ?_⟩
    rw [f5]
    walk_at "rd"
    refine ⟨-1, 1, 9, rfl, ?_⟩
    walk_at "rd"
    rw [show decide ((1 : Int) ≤ -1 ∧ (-1 : Int) ≤ 9) = false by decide]
    refine iteF ?_
    refine iteF ?_
    walk_at "rd"
    exact k H SameBut.refl ha
  have hD : powD t = TL.numL t := by unfold powD; rw [if_pos (by omega)]
  by_cases ht10 : t = 10
  · subst ht10
    have e0 : pre ++ (powD 10 ++ c :: rest) = pre ++ 49 :: 48 :: c :: rest := by rw [hD, numL10]; rfl
    have el : (powD 10).length = 2 := by rw [hD, numL10]; rfl
    rw [e0] at ha hz' k
    rw [el] at k
    have hget := at_app pre 49 (48 :: c :: rest)
    have hget2 : (pre ++ 49 :: 48 :: c :: rest)[pre.length + 1]? = some 48 := by rw [List.getElem?_append_right (by omega), Nat.add_sub_cancel_left]; rfl
    have hget3 : (pre ++ 49 :: 48 :: c :: rest)[pre.length + 2]? = some c := by rw [List.getElem?_append_right (by omega), Nat.add_sub_cancel_left]; rfl
    walk_at "rd"
    refine r_me ha ?_
    walk_at "rd"
    refine ⟨a, dx, _, _, rfl, ha, hz', ?_⟩
    rw [drop_one hget]
    walk_at "rd"
    rw [show decide (S [49] = ("-" : Str)) = false from decS_ne (by decide)]
    refine iteF ?_
    walk_at "rd"
    refine r_bmStr rfl ?_
    walk_at "rd"
    refine r_me ha ?_
    walk_at "rd"
    refine ⟨a, dx, _, _, rfl, ha, hz', ?_⟩
    rw [drop_one hget]
    walk_at "rd"
    refine ⟨_, _, rfl, rfl, ?_⟩
    rw [show Txt.find "0123456789" (S [49]) = 1 by decide +kernel]
    walk_at "rd"
    refine ⟨1, 1, 9, rfl, ?_⟩
    walk_at "rd"
    rw [show decide ((1 : Int) ≤ 1 ∧ (1 : Int) ≤ 9) = true by decide]
    refine iteT ?_
    walk_at "rd"
    refine r_me ha ?_
    walk_at "rd"
    refine ⟨a, dx, _, _, rfl, ha, hz', ?_⟩
    rw [drop_one hget]
    walk_at "rd"
    rw [decS_nil]
    refine iteT ?_
    walk_at "rd"
    refine r_me ha ?_
    walk_at "rd"
    refine ⟨a, dx, _, _, _, rfl, ha, hz', hget, ?_⟩
    walk_at "rd"
    refine r_me upd_same ?_
    walk_at "rd"
    refine ⟨a, dx, _, _, rfl, upd_same, hz', ?_⟩
    rw [drop_one hget2]
    walk_at "rd"
    rw [decS_nil]
    refine iteT ?_
    walk_at "rd"
    refine r_me upd_same ?_
    walk_at "rd"
    refine ⟨a, dx, _, _, rfl, upd_same, hz', ?_⟩
    rw [drop_one hget2]
    walk_at "rd"
    refine r_inS1 (t := [48, 49, 50, 51, 52, 53, 54, 55, 56, 57]) ?_
    walk_at "rd"
    refine ifD (fun _ => ?_) (fun h => absurd (by decide) h)
    walk_at "rd"
    refine ⟨_, by with_unfolding_all rfl, ?_⟩
    walk_at "rd"
    refine r_me upd_same ?_
    walk_at "rd"
    refine ⟨a, dx, _, _, _, rfl, upd_same, hz', hget2, ?_⟩
    walk_at "rd"
    refine ⟨_, _, rfl, rfl, by decide, ?_⟩
    rw [S_cat]
    walk_at "rd"
    rw [show decide (S ([49] ++ [48]) = ("1" : Str)) = false by decide]
    refine iteF ?_
    refine iteF ?_
    walk_at "rd"
    refine iteF ?_
    walk_at "rd"
    refine ⟨_, 10, rfl, by decide +kernel, by decide, ?_⟩
    exact k _ (SameBut.upd (SameBut.upd SameBut.refl)) upd_same
  · have e0 : pre ++ (powD t ++ c :: rest) = pre ++ (48 + t) :: c :: rest := by rw [hD, numL1 (by omega)]; rfl
    have el : (powD t).length = 1 := by rw [hD, numL1 (by omega)]; rfl
    obtain ⟨g1, g2, g3, g4⟩ := fig_facts (t := t) (by omega) (by omega)
    rw [e0] at ha hz' k
    rw [el] at k
    have hget := at_app pre (48 + t) (c :: rest)
    have hget2 : (pre ++ (48 + t) :: c :: rest)[pre.length + 1]? = some c := by rw [List.getElem?_append_right (by omega), Nat.add_sub_cancel_left]; rfl
    walk_at "rd"
    refine r_me ha ?_
    walk_at "rd"
    refine ⟨a, dx, _, _, rfl, ha, hz', ?_⟩
    rw [drop_one hget]
    walk_at "rd"
    rw [show decide (S [48 + t] = ("-" : Str)) = false from decS_ne g3]
    refine iteF ?_
    walk_at "rd"
    refine r_bmStr rfl ?_
    walk_at "rd"
    refine r_me ha ?_
    walk_at "rd"
    refine ⟨a, dx, _, _, rfl, ha, hz', ?_⟩
    rw [drop_one hget]
    walk_at "rd"
    refine ⟨_, _, rfl, rfl, ?_⟩
    rw [g1]
    walk_at "rd"
    refine ⟨t, 1, 9, rfl, ?_⟩
    walk_at "rd"
    rw [decide_eq_true (show (1 : Int) ≤ t ∧ (t : Int) ≤ 9 by omega)]
    refine iteT ?_
    walk_at "rd"
    refine r_me ha ?_
    walk_at "rd"
    refine ⟨a, dx, _, _, rfl, ha, hz', ?_⟩
    rw [drop_one hget]
    walk_at "rd"
    rw [decS_nil]
    refine iteT ?_
    walk_at "rd"
    refine r_me ha ?_
    walk_at "rd"
    refine ⟨a, dx, _, _, _, rfl, ha, hz', hget, ?_⟩
    walk_at "rd"
    refine r_me upd_same ?_
    walk_at "rd"
    refine ⟨a, dx, _, _, rfl, upd_same, hz', ?_⟩
    rw [drop_one hget2]
    walk_at "rd"
    rw [decS_nil]
    refine iteT ?_
    walk_at "rd"
    refine r_me upd_same ?_
    walk_at "rd"
    refine ⟨a, dx, _, _, rfl, upd_same, hz', ?_⟩
    rw [drop_one hget2]
    walk_at "rd"
    refine r_inS1 (t := [48, 49, 50, 51, 52, 53, 54, 55, 56, 57]) ?_
    walk_at "rd"
    refine ifD (fun h => absurd h f4) (fun _ => ?_)
    walk_at "rd"
    rw [show decide (S [48 + t] = ("1" : Str)) = false from decS_ne g4]
    refine iteF ?_
    refine iteF ?_
    walk_at "rd"
    refine iteF ?_
    walk_at "rd"
    refine ⟨_, t, rfl, g2, by rw [S_len]; simp, ?_⟩
    exact k _ (SameBut.upd SameBut.refl) upd_same
end
end My
end

section
set_option Elab.async false
set_option linter.all false
set_option maxRecDepth 100000
set_option maxHeartbeats 4000000
/-! MN: the phrase read: items. -/
namespace My
open PySem PySem.Spec PyProof.Rows L2 He LamX SX
local macro_rules | `(tactic| walk_at "rd") => `(tactic| repeat (with_reducible first
  | refine r_seq ?_ | refine r_asg ?_ | refine r_var (by with_unfolding_all rfl) ?_ | refine r_c ?_ | refine r_op ?_ | refine r_I0 ?_ | refine r_name ?_ | refine r_ret ?_ | refine r_if ?_ | refine r_cons ?_ | refine r_nil ?_
  | refine r_CB ?_ | refine r_call ?_ | refine r_test ?_ | refine r_eqI ?_ | refine r_eqS ?_ | refine r_neI ?_ | refine r_neS ?_ | refine r_drop ?_ | refine r_next ?_ | refine r_ifE ?_ | refine r_B ?_ | refine r_andV ?_ | refine r_orV ?_ | refine r_notV ?_ | refine r_blV ?_
  | refine r_and ?_ | refine r_or ?_ | refine r_not ?_ | refine r_tup ?_ | refine r_lst ?_ | refine r_par ?_ | refine r_exv2 ?_ | refine r_un ?_ | refine r_neg ?_ | refine r_isN ?_ | refine r_notN ?_ | refine r_retN ?_ | refine r_chain ?_
  | refine r_star ?_ | refine r_lstRg ?_ | refine r_rg1 ?_ | refine r_rg2 ?_ | refine r_exi ?_ | refine r_exi2 ?_ | refine r_sl ?_ | refine r_noPart ?_ | refine r_part ?_ | refine r_gnil ?_ | refine r_gcons ?_ | refine r_gsub ?_ | refine r_BM ?_ | refine r_M1 ?_ | refine r_isstr ?_ | refine r_meth ?_ | refine r_make ?_ | refine r_fld ?_ | refine r_abs ?_ | refine r_isiIntInt ?_ | refine r_isiIntBool ?_ | refine r_isiStr ?_ | refine r_min ?_ | refine r_max ?_ | refine r_int1 ?_ | refine r_intb ?_ | refine r_for ?_ | refine r_itup ?_ | refine r_ilist ?_ | refine r_lc ?_ | refine r_yes ?_ | refine r_istr ?_ | refine r_rng1 ?_ | refine r_rng2 ?_ | refine r_dput ?_ | refine r_daug ?_ | refine r_dget ?_ | refine r_dnewT ?_ | refine r_addI ?_ | refine r_ev ?_ | refine r_sfld ?_ | refine r_faug ?_ | refine r_prop ?_ | refine r_while ?_ | refine r_augS ?_ | refine r_tupF ?_ | refine r_idxT ?_ | refine r_kd ?_ | refine r_ki ?_ | refine r_enum ?_))

local macro_rules | `(tactic| walk_at "rn") => `(tactic| repeat (with_reducible first
  | refine r_seq ?_ | refine r_asg ?_ | refine r_var (by with_unfolding_all rfl) ?_ | refine r_c ?_ | refine r_op ?_ | refine r_I0 ?_ | refine r_name ?_ | refine r_ret ?_ | refine r_cons ?_ | refine r_nil ?_
  | refine r_CB ?_ | refine r_call ?_ | refine r_test ?_ | refine r_eqI ?_ | refine r_eqS ?_ | refine r_neI ?_ | refine r_neS ?_ | refine r_drop ?_ | refine r_next ?_ | refine r_B ?_ | refine r_andV ?_ | refine r_orV ?_ | refine r_notV ?_ | refine r_blV ?_
  | refine r_and ?_ | refine r_or ?_ | refine r_not ?_ | refine r_tup ?_ | refine r_lst ?_ | refine r_par ?_ | refine r_exv2 ?_ | refine r_un ?_ | refine r_neg ?_ | refine r_isN ?_ | refine r_notN ?_ | refine r_retN ?_ | refine r_chain ?_
  | refine r_star ?_ | refine r_lstRg ?_ | refine r_rg1 ?_ | refine r_rg2 ?_ | refine r_exi ?_ | refine r_exi2 ?_ | refine r_sl ?_ | refine r_noPart ?_ | refine r_part ?_ | refine r_gnil ?_ | refine r_gcons ?_ | refine r_gsub ?_ | refine r_BM ?_ | refine r_M1 ?_ | refine r_isstr ?_ | refine r_meth ?_ | refine r_make ?_ | refine r_fld ?_ | refine r_abs ?_ | refine r_isiIntInt ?_ | refine r_isiIntBool ?_ | refine r_isiStr ?_ | refine r_min ?_ | refine r_max ?_ | refine r_int1 ?_ | refine r_intb ?_ | refine r_for ?_ | refine r_itup ?_ | refine r_ilist ?_ | refine r_lc ?_ | refine r_yes ?_ | refine r_istr ?_ | refine r_rng1 ?_ | refine r_rng2 ?_ | refine r_dput ?_ | refine r_daug ?_ | refine r_dget ?_ | refine r_dnewT ?_ | refine r_addI ?_ | refine r_ev ?_ | refine r_sfld ?_ | refine r_faug ?_ | refine r_prop ?_ | refine r_while ?_ | refine r_augS ?_ | refine r_tupF ?_ | refine r_idxT ?_ | refine r_kd ?_ | refine r_ki ?_ | refine r_enum ?_))

local macro_rules | `(tactic| walk_at "hp") => `(tactic| (with_reducible first
  | assumption | exact New.at (by assumption)
  | exact SqT.of (by walk_at "hp") | exact SqL.of (by walk_at "hp") | exact Or.inl (by walk_at "hp") | exact Or.inr (by walk_at "hp")
  | exact New.get (by assumption) (by walk_at "hp") | exact Same.get (by assumption) (by walk_at "hp")))

theorem peNever {X : Cx} {e : Expr} : PE X e (fun _ _ _ => False) := ⟨fun _ _ _ _ _ _ h => h.elim⟩
section
variable {P : Program} {w : World} {K : PySem.W.Frag} {mg : Str → Option Value} {base : Heap}
def sp_done : Sp := fun vs H Q _ => ∃ (p q : Addr) (x : Int) (t : Nat), vs = [.ref p, .int t] ∧ H p = some (.tup [.int 1, .ref q]) ∧ H q = some (.tup [.int x]) ∧ 1 ≤ t ∧ t ≤ 100 ∧
  ∀ p' q' H', Same H H' → H' p' = some (.tup [.int t, .ref q']) → H' q' = some (.tup ((List.replicate t x).map V.int)) → Q (.ref p') H'
theorem c_done_times (T : Tx w K mg base) : C8.Cal P w K mg base 1 "done_times" sp_done [] := by
  obtain ⟨fd, F⟩ := f_done_times T
  refine cal_of F (g_done_times T) (fun _ _ _ _ _ _ us hl => match us, hl with | [_, _], _ => rfl) sc_done_times (fun vs H Q E h => by obtain ⟨_, _, _, _, rfl, _⟩ := h; rfl) (fun cdv A outer s H vs Q E hr h => ?_)
  obtain ⟨p, q, x, t, rfl, hp, hq, h1, h2, k⟩ := h
  refine ⟨_, (pss_cons (ps_set (i := 2) sc_done_times.nd rfl (Or.inl rfl) (pe_op op_mul (pe_ix (ixT (K := K)) (pv 0) pe_int (fun _ _ => rfl)) (pe_callB callAbs rfl (b_abs T) bb_abs (pa_cons (pv 1) pa_nil))))
  (pss_cons (ps_if (PW.pt (pw_or (pt_cmpR op_isN1 (pe_ix (ixT (K := K)) (pv 0) pe_int (fun _ _ => rfl)) pe_non (nomark _)) (pw_or1 (pt_cmpR op_gt (pv 2) (C8.pe_gc rfl (v_MOST_STEPS T)) (nomark _))))) (pss_one (ps_ret (pe_tup (pa_cons (pv 2) (pa_cons pe_non pa_nil))))) pss_nil)
  (pss_one (ps_ret (pe_tup (pa_cons (pv 2) (pa_cons (pe_ifExp (pt_cmpR op_ge (pv 1) pe_int (nomark _)) (pe_op (opRepT1 (K := K)) (pe_ix (ixT (K := K)) (pv 0) pe_int (fun _ _ => rfl)) (pv 1)) peNever) pa_nil))))))), ?_⟩
  walk_at "rd"
  refine r_ixT (SqT.of hp) rfl ?_
  walk_at "rd"
  refine r_I (Or.inl (by decide)) ?_
  rw [show (1 : Int) * ((t : Int).natAbs : Int) = (t : Int) by omega]
  walk_at "rd"
  refine r_ixT (SqT.of hp) rfl ?_
  walk_at "rd"
  refine ifD (fun h => nomatch h) (fun _ => ?_)
  walk_at "rd"
  refine ifD (fun h => absurd h (by omega)) (fun _ => ?_)
  walk_at "rd"
  refine ifD (fun _ => ?_) (fun h => absurd (show (0 : Int) ≤ t by omega) h)
  walk_at "rd"
  refine r_ixT (SqT.of hp) rfl ?_
  walk_at "rd"
  refine r_repT1 (f := V.int) (x := x) hq h1 (by omega) fun q' H2 s2 e2 => ?_
  walk_at "rd"
  refine ⟨(sz1000 (Nat.le_of_ble_eq_true rfl)), ?_⟩
  (intro p9 hl_; generalize he_ : upd _ p9 _ = H3; have n3 := New.mk hl_ he_.symm; clear hl_ he_)
  exact k p9 q' H3 (s2.trans n3.same) n3.at (n3.get e2)
def sp_put : Sp := fun vs H Q _ => ∃ (p q p2 q2 : Addr) (s s2 : Nat) (l l2 : List Int), vs = [.ref p, .ref p2] ∧ H p = some (.tup [.int s, .ref q]) ∧ H q = some (.tup (l.map V.int)) ∧ H p2 = some (.tup [.int s2, .ref q2]) ∧ H q2 = some (.tup (l2.map V.int)) ∧ s + s2 ≤ 4000 ∧ l.length + l2.length ≤ 1000 ∧
  ∀ p' q' H', Same H H' → H' p' = some (.tup [.int (s + s2 : Nat), .ref q']) → H' q' = some (.tup ((l ++ l2).map V.int)) → Q (.ref p') H'
theorem c_put_behind (T : Tx w K mg base) : C8.Cal P w K mg base 1 "put_behind" sp_put [] := by
  obtain ⟨fd, F⟩ := f_put_behind T
  refine cal_of F (g_put_behind T) (fun _ _ _ _ _ _ us hl => match us, hl with | [_, _], _ => rfl) sc_put_behind (fun vs H Q E h => by obtain ⟨_, _, _, _, _, _, _, _, rfl, _⟩ := h; rfl) (fun cdv A outer s H vs Q E hr h => ?_)
  obtain ⟨p, q, p2, q2, s, s2, l, l2, rfl, hp, hq, hp2, hq2, h1, h2, k⟩ := h
  refine ⟨_, (pss_cons (ps_set (i := 2) sc_put_behind.nd rfl (Or.inl rfl) (pe_op op_add (pe_ix (ixT (K := K)) (pv 0) pe_int (fun _ _ => rfl)) (pe_ix (ixT (K := K)) (pv 1) pe_int (fun _ _ => rfl))))
  (pss_one (ps_ret (pe_tup (pa_cons (pv 2) (pa_cons (pe_ifExp (PW.pt (pw_or (pt_cmpR op_isN1 (pe_ix (ixT (K := K)) (pv 0) pe_int (fun _ _ => rfl)) pe_non (nomark _)) (pw_or (pt_cmpR op_isN1 (pe_ix (ixT (K := K)) (pv 1) pe_int (fun _ _ => rfl)) pe_non (nomark _)) (pw_or1 (pt_cmpR op_gt (pv 2) (C8.pe_gc rfl (v_MOST_STEPS T)) (nomark _)))))) pe_non (pe_op (opCatA (K := K)) (pe_ix (ixT (K := K)) (pv 0) pe_int (fun _ _ => rfl)) (pe_ix (ixT (K := K)) (pv 1) pe_int (fun _ _ => rfl)))) pa_nil)))))), ?_⟩
  walk_at "rd"
  refine r_ixT (SqT.of hp) rfl ?_
  walk_at "rd"
  refine r_ixT (SqT.of hp2) rfl ?_
  walk_at "rd"
  refine r_ixT (SqT.of hp) rfl ?_
  walk_at "rd"
  refine ifD (fun h => nomatch h) (fun _ => ?_)
  walk_at "rd"
  refine r_ixT (SqT.of hp2) rfl ?_
  walk_at "rd"
  refine ifD (fun h => nomatch h) (fun _ => ?_)
  walk_at "rd"
  refine ifD (fun h => absurd h (by omega)) (fun _ => ?_)
  walk_at "rd"
  refine r_ixT (SqT.of hp) rfl ?_
  walk_at "rd"
  refine r_ixT (SqT.of hp2) rfl ?_
  refine r_catT hq hq2 (by rw [List.length_map, List.length_map]; exact h2) fun q' H2 s3 e3 => ?_
  walk_at "rd"
  refine ⟨(sz1000 (Nat.le_of_ble_eq_true rfl)), ?_⟩
  (intro p9 hl_; generalize he_ : upd _ p9 _ = H3; have n3 := New.mk hl_ he_.symm; clear hl_ he_)
  refine k p9 q' H3 (s3.trans n3.same) ?_ (by rw [n3.get e3, List.map_append])
  rw [n3.at]; rfl
def sp_item (K : PySem.W.Frag) : Sp := fun vs H Q _ => ∃ (a dx : Addr) (pre rest : List Nat) (x : Int) (t c m : Nat), vs = [.ref a, .int m, .int 0] ∧ H a = some (sgO K dx (pre ++ (rtext (x, t) ++ c :: rest)) pre.length) ∧ (pre ++ (rtext (x, t) ++ c :: rest)).length ≤ 90000 ∧ c ∈ endC ∧ 1 ≤ t ∧ t ≤ 10 ∧ 1 ≤ x.natAbs ∧ x.natAbs < m ∧ m ≤ 5 ∧
  ∀ p q H', SameBut a H H' → H' a = some (sgO K dx (pre ++ (rtext (x, t) ++ c :: rest)) (pre.length + (rtext (x, t)).length)) → H' p = some (.tup [.int t, .ref q]) → H' q = some (.tup ((List.replicate t x).map V.int)) → Q (.ref p) H'
theorem c_item_read (T : Tx w K mg base) : C8.Cal P w K mg base 5 "item_read" (sp_item K) [] := by
  obtain ⟨fd, F⟩ := f_item_read T
  refine cal_of F (g_item_read T) (fun _ _ _ _ _ _ us hl => match us, hl with | [_, _, _], _ => rfl) sc_item_read (fun vs H Q E h => by obtain ⟨_, _, _, _, _, _, _, _, rfl, _⟩ := h; rfl) (fun cdv A outer s H vs Q E hr h => ?_)
  obtain ⟨a, dx, pre, rest, x, t, c, m, rfl, ha, hz, hc, h1, h2, hx1, hx2, hm, k⟩ := h
  have hz' : (pre ++ (rtext (x, t) ++ c :: rest)).length ≤ 100000 := by omega
  have hget : (pre ++ (rtext (x, t) ++ c :: rest))[pre.length]? = some (letC x) := at_app pre (letC x) _
  obtain ⟨f1, f2, f3, f4, f5⟩ := end_facts (letC_end hx1 (by omega))
  refine ⟨_, pss_cons (ps_if (PW.pt (pw_and (pt_cmpR op_eq (C8.pe_mt0 (c_Signs_next_sign (K := K) T) hr (by decide) (pv 0)) pe_str (nomark _)) (pw_and1 (pt_cmpR op_lt (pv 2) (C8.pe_gc rfl (v_DEEPEST T)) (nomark _))))) pss_never (pss_cons (ps_set (i := 4) sc_item_read.nd rfl (Or.inl rfl) (C8.pe_c (c_step_of (K := K) T) hr (by decide) rfl (pa_cons (pv 1) (pa_cons (C8.pe_mt0 (c_Signs_next_sign (K := K) T) hr (by decide) (pv 0)) pa_nil))))
  (pss_cons (ps_expr (C8.pe_mt (c_Signs_take (K := K) T) hr (by decide) (pv 0) (pa_cons (pe_cmpR op_notN1 (pv 4) pe_non (nomark _)) pa_nil)))
  (pss_one (ps_set (i := 3) sc_item_read.nd rfl (Or.inl rfl) (pe_tup (pa_cons pe_int (pa_cons (pe_tup (pa_cons (pv 4) pa_nil)) pa_nil))))))))
    (pss_one (ps_ret (C8.pe_c (c_done_times (K := K) T) hr (by decide) rfl (pa_cons (pv 3) (pa_cons (C8.pe_c (c_power_read (K := K) T) hr (by decide) rfl (pa_cons (pv 0) pa_nil)) pa_nil))))), ?_⟩
  walk_at "rd"
  refine r_me ha ?_
  walk_at "rd"
  refine ⟨a, dx, _, _, rfl, ha, hz', ?_⟩
  rw [drop_one hget]
  walk_at "rd"
  rw [show decide (S [letC x] = ("(" : Str)) = false from decS_ne f2]
  refine iteF ?_
  refine iteF ?_
  walk_at "rd"
  refine r_me ha ?_
  walk_at "rd"
  refine ⟨a, dx, _, _, rfl, ha, hz', ?_⟩
  rw [drop_one hget]
  walk_at "rd"
  refine ⟨m, x, rfl, hx1, hx2, hm, ?_⟩
  walk_at "rd"
  refine r_me ha ?_
  walk_at "rd"
  rw [show (!decide (V.int x = V.non)) = true from rfl]
  refine ⟨a, dx, _, _, _, rfl, ha, hz', hget, ?_⟩
  walk_at "rd"
  refine ⟨(sz1000 (Nat.le_of_ble_eq_true rfl)), ?_⟩
  have e1 : pre ++ (rtext (x, t) ++ c :: rest) = (pre ++ [letC x]) ++ (powD t ++ c :: rest) := by
    unfold rtext powT powD; simp
  have el : pre.length + 1 = (pre ++ [letC x]).length := by simp
  have el2 : pre.length + (rtext (x, t)).length = (pre ++ [letC x]).length + (powD t).length := by unfold rtext powT powD; simp; omega
  have s1 : SameBut a H (upd H a (sgO K dx (pre ++ (rtext (x, t) ++ c :: rest)) (pre.length + 1))) := SameBut.upd SameBut.refl
  have h1' : (upd H a (sgO K dx (pre ++ (rtext (x, t) ++ c :: rest)) (pre.length + 1))) a = some (sgO K dx ((pre ++ [letC x]) ++ (powD t ++ c :: rest)) (pre ++ [letC x]).length) := by rw [upd_same, ← e1, ← el]
  generalize upd H a _ = H1 at s1 h1' ⊢
  (intro q hl_; generalize he_ : upd _ q _ = H2; have n2 := New.mk hl_ he_.symm; clear hl_ he_)
  walk_at "rd"
  refine ⟨(sz1000 (Nat.le_of_ble_eq_true rfl)), ?_⟩
  (intro p hl_; generalize he_ : upd _ p _ = H3; have n3 := New.mk hl_ he_.symm; clear hl_ he_)
  walk_at "rd"
  refine ⟨a, dx, pre ++ [letC x], rest, t, c, rfl, n3.get (n2.get h1'), by rw [← e1]; exact hz, hc, h1, h2, fun H4 s4 h4 => ?_⟩
  walk_at "rd"
  have hpa : p ≠ a := fun e => by subst e; have := n3.free; rw [n2.get h1'] at this; cases this
  have hqa : q ≠ a := fun e => by subst e; have := n2.free; rw [h1'] at this; cases this
  refine ⟨p, q, x, t, rfl, s4 _ _ hpa n3.at, s4 _ _ hqa (n3.get n2.at), h1, by omega, fun p' q' H5 s5 e5 e6 => ?_⟩
  walk_at "rd"
  refine k p' q' H5 (((s1.same n2.same).same n3.same).trans s4 |>.same s5) ?_ e5 e6
  rw [s5 _ _ h4, e1, el2]
def expand (rs : List (Int × Nat)) : List Int := (rs.map fun z => List.replicate z.2 z.1).flatten
def sumR (rs : List (Int × Nat)) : Nat := (rs.map (·.2)).sum
def txtR (rs : List (Int × Nat)) : List Nat := (rs.map rtext).flatten
theorem expand_len (rs : List (Int × Nat)) : (expand rs).length = sumR rs := by
  unfold expand sumR
  induction rs with
  | nil => rfl
  | cons z rs ih => rw [List.map_cons, List.flatten_cons, List.length_append, ih, List.length_replicate, List.map_cons, List.sum_cons]
theorem txtR_head {rs : List (Int × Nat)} {m : Nat} (h : ∀ z ∈ rs, 1 ≤ z.1.natAbs ∧ z.1.natAbs < m) (hm : m ≤ 5) : ∃ c rest, txtR rs ++ [10] = c :: rest ∧ c ∈ endC ∧ (rs ≠ [] → c ≠ 10) := by
  cases rs with
  | nil => exact ⟨10, [], rfl, by decide, fun h => absurd rfl h⟩
  | cons z rs =>
    obtain ⟨h1, h2⟩ := h z List.mem_cons_self
    exact ⟨letC z.1, powD z.2 ++ (txtR rs ++ [10]), by unfold txtR; simp [rtext, powT, powD], letC_end h1 (by omega), fun _ => (letC_rng h1 (by omega)).2⟩
def sp_items (K : PySem.W.Frag) : Sp := fun vs H Q _ => ∃ (a dx : Addr) (pre : List Nat) (rs : List (Int × Nat)) (m : Nat), vs = [.ref a, .int m, .int 0] ∧ H a = some (sgO K dx (pre ++ (txtR rs ++ [10])) pre.length) ∧ (pre ++ (txtR rs ++ [10])).length ≤ 90000 ∧ rs ≠ [] ∧ (∀ z ∈ rs, 1 ≤ z.2 ∧ z.2 ≤ 10 ∧ 1 ≤ z.1.natAbs ∧ z.1.natAbs < m) ∧ m ≤ 5 ∧ sumR rs ≤ 1000 ∧
  ∀ p q H', SameBut a H H' → H' a = some (sgO K dx (pre ++ (txtR rs ++ [10])) (pre.length + (txtR rs).length)) → H' p = some (.tup [.int (sumR rs), .ref q]) → H' q = some (.tup ((expand rs).map V.int)) → Q (.ref p) H'
theorem c_items_read (T : Tx w K mg base) : C8.Cal P w K mg base 6 "items_read" (sp_items K) [] := by
  obtain ⟨fd, F⟩ := f_items_read T
  refine cal_of F (g_items_read T) (fun _ _ _ _ _ _ us hl => match us, hl with | [_, _, _], _ => rfl) sc_items_read (fun vs H Q E h => by obtain ⟨_, _, _, _, _, rfl, _⟩ := h; rfl) (fun cdv A outer s H vs Q E hr h => ?_)
  obtain ⟨a, dx, pre, rs, m, rfl, ha, hz, hne, hrs, hm, hsum, k⟩ := h
  refine ⟨_, (pss_cons (ps_set (i := 3) sc_items_read.nd rfl (Or.inl rfl) (C8.pe_c (c_item_read (K := K) T) hr (by decide) rfl (pa_cons (pv 0) (pa_cons (pv 1) (pa_cons (pv 2) pa_nil)))))
  (pss_cons (ps_while PassesOwn.never (PW.pt (pw_or (pt_cmpR (opNotIn (K := K)) (C8.pe_mt0 (c_Signs_next_sign (K := K) T) hr (by decide) (pv 0)) (pe_tup (pa_cons pe_str (pa_cons pe_str pa_nil))) (by rfl)) (pw_or1 (PW.pt (pw_and (pt_cmpR op_eq (pv 2) pe_int (nomark _)) (pw_and1 (pt_cmpR op_eq (C8.pe_mt0 (c_Signs_next_sign (K := K) T) hr (by decide) (pv 0)) pe_str (nomark _))))))))
  (pss_one (ps_set (i := 3) sc_items_read.nd rfl (Or.inl rfl) (C8.pe_c (c_put_behind (K := K) T) hr (by decide) rfl (pa_cons (pv 3) (pa_cons (C8.pe_c (c_item_read (K := K) T) hr (by decide) rfl (pa_cons (pv 0) (pa_cons (pv 1) (pa_cons (pv 2) pa_nil)))) pa_nil))))))
  (pss_one (ps_ret (pv 3))))), ?_⟩
  cases rs with
  | nil => exact absurd rfl hne
  | cons z rs =>
  obtain ⟨x, t⟩ := z
  obtain ⟨b1, b2, b3, b4⟩ := hrs (x, t) List.mem_cons_self
  have hrs' : ∀ z ∈ rs, 1 ≤ z.1.natAbs ∧ z.1.natAbs < m := fun z hz' => ⟨(hrs z (List.mem_cons_of_mem _ hz')).2.2.1, (hrs z (List.mem_cons_of_mem _ hz')).2.2.2⟩
  obtain ⟨c, rest, ec, hc, _⟩ := txtR_head hrs' hm
  have etx : pre ++ (txtR ((x, t) :: rs) ++ [10]) = pre ++ (rtext (x, t) ++ c :: rest) := by rw [← ec]; unfold txtR; simp
  walk_at "rd"
  refine ⟨a, dx, pre, rest, x, t, c, m, rfl, by rw [ha, etx], by rw [← etx]; exact hz, hc, b1, b2, b3, b4, hm, fun p q H1 s1 h1 e1 e2 => ?_⟩
  walk_at "rd"
  rw [← etx] at h1
  refine ⟨fun j σ H' => ∃ (r1 r2 : List (Int × Nat)) (p q : Addr), j = r2.length ∧ (x, t) :: rs = r1 ++ r2 ∧ σ = [some (.ref a), some (.int m), some (.int 0), some (.ref p)] ∧ SameBut a H H' ∧ H' a = some (sgO K dx (pre ++ (txtR ((x, t) :: rs) ++ [10])) (pre.length + (txtR r1).length)) ∧ H' p = some (.tup [.int (sumR r1), .ref q]) ∧ H' q = some (.tup ((expand r1).map V.int)),
    ⟨_, [(x, t)], rs, p, q, rfl, rfl, rfl, s1, by rw [h1]; unfold txtR; simp, by rw [e1]; unfold sumR; simp, by rw [e2]; unfold expand; simp⟩, ?_⟩
  rintro j σ H' ⟨r1, r2, p, q, rfl, er, rfl, s, h', ep, eq⟩
  have hr2 : ∀ z ∈ r2, 1 ≤ z.1.natAbs ∧ z.1.natAbs < m := fun z hz' => by
    have := hrs z (by rw [er]; exact List.mem_append_right _ hz')
    exact ⟨this.2.2.1, this.2.2.2⟩
  obtain ⟨c2, rest2, ec2, hc2, hc10⟩ := txtR_head hr2 hm
  have etx2 : pre ++ (txtR ((x, t) :: rs) ++ [10]) = (pre ++ txtR r1) ++ (c2 :: rest2) := by rw [← ec2, er]; unfold txtR; simp
  have epos : pre.length + (txtR r1).length = (pre ++ txtR r1).length := by simp
  have hz' : (pre ++ (txtR ((x, t) :: rs) ++ [10])).length ≤ 100000 := by omega
  have hget : (pre ++ (txtR ((x, t) :: rs) ++ [10]))[pre.length + (txtR r1).length]? = some c2 := by rw [etx2, epos]; exact at_app _ _ _
  obtain ⟨f1, f2, f3, f4, f5⟩ := end_facts hc2
  refine r_testJ (fun b H1 => b = decide (r2 ≠ []) ∧ Same H' H1) (fun P' hP => ?_) ?_
  · walk_at "rd"
    refine r_me h' ?_
    walk_at "rd"
    refine ⟨a, dx, _, _, rfl, h', hz', ?_⟩
    rw [drop_one hget]
    walk_at "rd"
    refine ⟨(sz1000 (Nat.le_of_ble_eq_true rfl)), ?_⟩
    (intro p5 hl_; generalize he_ : upd _ p5 _ = H5; have n5 := New.mk hl_ he_.symm; clear hl_ he_)
    refine r_notInSt (l := [S [41], S [10]]) (SqT.of n5.at) ?_
    walk_at "rd"
    refine ifN (fun hn => ?_) (fun hn => ?_)
    · have hr : r2 ≠ [] := fun e => by
        subst e
        have e3 : c2 = 10 := (List.cons.inj ec2).1.symm
        exact hn (by rw [e3]; simp)
      exact hP _ _ ⟨(decide_eq_true hr).symm, n5.same⟩
    · have e10 : c2 = 10 := by
        rcases List.mem_cons.mp hn with h | h
        · exact absurd (List.cons.inj (S_inj h)).1 f3
        · exact (List.cons.inj (S_inj (List.mem_singleton.mp h))).1
      have hr : ¬ r2 ≠ [] := fun h => hc10 h e10
      walk_at "rd"
      refine ifD (fun _ => ?_) (fun h => absurd rfl h)
      walk_at "rd"
      refine r_me (n5.get h') ?_
      walk_at "rd"
      refine ⟨a, dx, _, _, rfl, n5.get h', hz', ?_⟩
      rw [drop_one hget]
      walk_at "rd"
      rw [show decide (S [c2] = (")" : Str)) = false from decS_ne f3]
      exact hP _ _ ⟨(decide_eq_false hr).symm, n5.same⟩
  · rintro b H5 ⟨rfl, s5⟩
    refine ifD (fun hr => ?_) (fun hr => ?_)
    · cases r2 with
      | nil => exact absurd rfl hr
      | cons z r2 =>
      obtain ⟨y, u⟩ := z
      obtain ⟨d1, d2, d3, d4⟩ := hrs (y, u) (by rw [er]; simp)
      obtain ⟨c3, rest3, ec3, hc3, _⟩ := txtR_head (rs := r2) (fun z hz' => hr2 z (List.mem_cons_of_mem _ hz')) hm
      have etx3 : pre ++ (txtR ((x, t) :: rs) ++ [10]) = (pre ++ txtR r1) ++ (rtext (y, u) ++ c3 :: rest3) := by rw [← ec3, er]; unfold txtR; simp
      refine ⟨fun σ H' => ∃ (p q : Addr), σ = [some (.ref a), some (.int m), some (.int 0), some (.ref p)] ∧ SameBut a H H' ∧ H' a = some (sgO K dx (pre ++ (txtR ((x, t) :: rs) ++ [10])) (pre.length + (txtR (r1 ++ [(y, u)])).length)) ∧ H' p = some (.tup [.int (sumR (r1 ++ [(y, u)])), .ref q]) ∧ H' q = some (.tup ((expand (r1 ++ [(y, u)])).map V.int)),
        fun σ' H' ⟨p, q, h⟩ => ⟨r2.length, by simp, r1 ++ [(y, u)], r2, p, q, rfl, by rw [er]; simp, h⟩, ?_⟩
      walk_at "rd"
      have h5 := s5 _ _ h'
      rw [etx3, epos] at h5
      refine ⟨a, dx, pre ++ txtR r1, rest3, y, u, c3, m, rfl, h5, by rw [← etx3]; exact hz, hc3, d1, d2, d3, d4, hm, fun p6 q6 H6 s6 h6 e6 e7 => ?_⟩
      walk_at "rd"
      have hpa : p ≠ a := fun e => by subst e; rw [h'] at ep; cases ep
      have hqa : q ≠ a := fun e => by subst e; rw [h'] at eq; cases eq
      have hsum2 : sumR r1 + u ≤ 1000 := by
        have : sumR ((x, t) :: rs) = sumR r1 + sumR ((y, u) :: r2) := by rw [er]; unfold sumR; simp
        have h2 : sumR ((y, u) :: r2) = u + sumR r2 := by unfold sumR; simp
        omega
      refine ⟨p, q, p6, q6, sumR r1, u, expand r1, List.replicate u y, rfl, s6 _ _ hpa (s5 _ _ ep), s6 _ _ hqa (s5 _ _ eq), e6, e7, by omega, by rw [expand_len, List.length_replicate]; exact hsum2, fun p7 q7 H7 s7 e8 e9 => ?_⟩
      walk_at "rd"
      refine ⟨p7, q7, rfl, ((s.same s5).trans s6).same s7, ?_, ?_, ?_⟩
      · rw [s7 _ _ h6, ← etx3, ← epos]
        have : (txtR (r1 ++ [(y, u)])).length = (txtR r1).length + (rtext (y, u)).length := by unfold txtR; simp
        rw [this, Nat.add_assoc]
      · rw [e8]; unfold sumR; simp
      · rw [e9]; unfold expand; simp
    · have hr2' : r2 = [] := Classical.byContradiction hr
      subst hr2'
      rw [List.append_nil] at er
      subst er
      walk_at "rd"
      exact k p q H5 (s.same s5) (s5 _ _ h') (s5 _ _ ep) (s5 _ _ eq)
def sp_rdPhrase : Sp := fun vs H Q _ => ∃ (m : Nat) (d : List Int), vs = [.str (S (ptext m d))] ∧ Dv m d ∧ 2 ≤ m ∧ m ≤ 5 ∧ d.length ≤ 10 ∧ d ≠ [] ∧ ∀ p q H', Same H H' → H' q = some (.tup (d.map V.int)) → H' p = some (.tup [.int m, .ref q]) → Q (.ref p) H'
theorem c_read_phrase (T : Tx w K mg base) : C8.Cal P w K mg base 7 "read_phrase" sp_rdPhrase [] := by
  obtain ⟨fd, F⟩ := f_read_phrase T
  refine cal_of F (g_read_phrase T) (fun _ _ _ _ _ _ us hl => match us, hl with | [_], _ => rfl) sc_read_phrase (fun vs H Q E h => by obtain ⟨_, _, rfl, _⟩ := h; rfl) (fun cdv A outer s H vs Q E hr h => ?_)
  obtain ⟨m, d, rfl, hd, hm1, hm, hz, hne, k⟩ := h
  refine ⟨_, (pss_cons (ps_set (i := 1) sc_read_phrase.nd rfl (Or.inl rfl) (C8.pe_mk (m_Signs (K := K) T) hr (by decide) rfl (pa_cons (pv 0) pa_nil)))
  (pss_cons (ps_set (i := 2) sc_read_phrase.nd rfl (Or.inl rfl) (C8.pe_mt0 (c_Signs_begin (K := K) T) hr (by decide) (pv 1)))
  (pss_cons (ps_asg (C8.pe_c (c_items_read (K := K) T) hr (by decide) rfl (pa_cons (pv 1) (pa_cons (pv 2) (pa_cons pe_int pa_nil)))) (pgTup (K := K) (n := 2) rfl (pgs_cons (pg_name (i := 3) sc_read_phrase.nd rfl (Or.inl rfl)) (pgs_cons (pg_name (i := 4) sc_read_phrase.nd rfl (Or.inl rfl)) pgs_nil))))
  (pss_cons (ps_expr (C8.pe_mt0 (c_Signs_end (K := K) T) hr (by decide) (pv 1)))
  (pss_cons (ps_if (pt_cmpR op_isN1 (pv 4) pe_non (nomark _)) (pss_one ps_never) pss_nil)
  (pss_one (ps_ret (pe_tup (pa_cons (pv 2) (pa_cons (pv 4) pa_nil)))))))))), ?_⟩
  obtain ⟨ro1, ro2, ro3, ro4⟩ := runs_ok d
  have hfl : (txtR (runs d)).length ≤ 3 * (runs d).length := flat_len fun z hz' => by have := (ro1 z hz').2.2; omega
  have hsum : sumR (runs d) = d.length := by
    have := expand_len (runs d)
    unfold expand at this
    rw [ro3] at this; exact this.symm
  walk_at "rd"
  intro a dx ha hdx hda
  refine ⟨a, dx, ptext m d, rfl, upd_same, ?_⟩
  refine ⟨rfl, ?_⟩
  have s1 : Same H (upd (upd (upd (upd H dx (.own a)) a (.ins (ga K "Signs") dx [])) a (.ins (ga K "Signs") dx [("own_text", .str (S (ptext m d)))])) a (sgO K dx (ptext m d) 0)) := fun b u hb => by
    have e1 : b ≠ a := ne_of_none hb ha
    have e2 : b ≠ dx := ne_of_none hb hdx
    rw [upd_ne e1, upd_ne e1, upd_ne e1, upd_ne e2]; exact hb
  have hs1 : (upd (upd (upd (upd H dx (.own a)) a (.ins (ga K "Signs") dx [])) a (.ins (ga K "Signs") dx [("own_text", .str (S (ptext m d)))])) a (sgO K dx (ptext m d) 0)) a = some (sgO K dx (ptext m d) 0) := upd_same
  generalize upd (upd (upd (upd H dx _) a _) a _) a _ = H1 at s1 hs1 ⊢
  walk_at "rd"
  refine r_me hs1 ?_
  walk_at "rd"
  refine ⟨a, dx, txtR (runs d) ++ [10], m, rfl, hs1, by rw [List.length_append]; simp only [List.length_singleton]; omega, hm1, hm, ?_⟩
  have s2 : Same H (upd (upd H1 a (sgO K dx ((48 + m) :: 32 :: (txtR (runs d) ++ [10])) 1)) a (sgO K dx ((48 + m) :: 32 :: (txtR (runs d) ++ [10])) 2)) := same_upd (same_upd s1 ha) ha
  have hs2 : (upd (upd H1 a (sgO K dx ((48 + m) :: 32 :: (txtR (runs d) ++ [10])) 1)) a (sgO K dx ((48 + m) :: 32 :: (txtR (runs d) ++ [10])) 2)) a = some (sgO K dx ([48 + m, 32] ++ (txtR (runs d) ++ [10])) [48 + m, 32].length) := upd_same
  generalize upd (upd H1 a _) a _ = H2 at s2 hs2 ⊢
  walk_at "rd"
  refine ⟨a, dx, [48 + m, 32], runs d, m, rfl, hs2, by rw [List.length_append, List.length_append]; simp only [List.length_singleton, List.length_cons, List.length_nil]; omega, ro4 hne, fun z hz' => ?_, hm, by omega, fun p q H3 s3 h3 e3 e4 => ?_⟩
  · obtain ⟨a1, a2, a3⟩ := ro1 z hz'
    obtain ⟨b1, b2⟩ := hd z.1 a2
    exact ⟨a1, by omega, b1, b2⟩
  refine r_tupG (SqT.of e3) rfl ?_
  walk_at "rd"
  refine r_me h3 ?_
  walk_at "rd"
  refine ⟨a, dx, [48 + m, 32] ++ txtR (runs d), rfl, by rw [h3, List.length_append, List.append_assoc], by rw [List.length_append]; simp only [List.length_cons, List.length_nil]; omega, ?_⟩
  walk_at "rd"
  refine ifD (fun h => nomatch h) (fun _ => ?_)
  walk_at "rd"
  refine ⟨(sz1000 (Nat.le_of_ble_eq_true rfl)), ?_⟩
  have s5 : Same H (upd H3 a (sgO K dx ([48 + m, 32] ++ txtR (runs d) ++ [10]) (([48 + m, 32] ++ txtR (runs d)).length + 1))) := same_upd (s3.fresh s2 ha) ha
  have hqa : q ≠ a := fun e => by subst e; rw [h3] at e4; cases e4
  have e5 : (upd H3 a (sgO K dx ([48 + m, 32] ++ txtR (runs d) ++ [10]) (([48 + m, 32] ++ txtR (runs d)).length + 1))) q = some (.tup (d.map V.int)) := by
    rw [upd_ne hqa, e4]; unfold expand; rw [ro3]
  generalize upd H3 a _ = H5 at s5 e5 ⊢
  (intro p6 hl_; generalize he_ : upd _ p6 _ = H6; have n6 := New.mk hl_ he_.symm; clear hl_ he_)
  exact k p6 q H6 (s5.trans n6.same) (n6.get e5) n6.at
end
end My
end

section
set_option Elab.async false
set_option linter.all false
set_option maxRecDepth 100000
set_option maxHeartbeats 4000000
/-! MO: live floors: the mirror, the heap. -/
namespace My
open PySem PySem.Spec PyProof.Rows L2 He LamX SX
/-! ### the mirror -/
inductive Dd where
  | step (i : Int) | leave (n : Nat) | join (a : Int) (n : Nat) | undo
  deriving DecidableEq
inductive Kd where
  | step | name | number | now | nothing
  deriving DecidableEq
structure Fr where
  names : List Nat
  dance : List Int
  ever : List Nat
  deeds : List Dd
def stayL (m o : Nat) : List Int := (line0 m).filter fun i => decide (i ≠ (o : Int))
def drop1 (l : List Nat) (o : Nat) : List Nat := l.take o ++ l.drop (o + 1)
def actF : List Fr → Dd → Option Kd × List Fr
  | [], _ => (none, [])
  | fr :: fs, .undo => if fs = [] then (some .nothing, fr :: fs) else (none, fs)
  | fr :: fs, .step i => if 1 ≤ i.natAbs ∧ i.natAbs < fr.names.length then (none, ⟨fr.names, fr.dance ++ [i], fr.ever, fr.deeds ++ [.step i]⟩ :: fr :: fs) else (some .step, fr :: fs)
  | fr :: fs, .leave n => if n ∉ fr.names then (some .name, fr :: fs) else if fr.names.length = 2 then (some .now, fr :: fs)
    else (none, ⟨drop1 fr.names (fr.names.idxOf n), left fr.names.length fr.dance (stayL fr.names.length (fr.names.idxOf n)), fr.ever, fr.deeds ++ [.leave n]⟩ :: fr :: fs)
  | fr :: fs, .join a n => if ¬ (a = 0 ∨ a = fr.names.length) then (some .number, fr :: fs) else if n ∈ fr.ever then (some .name, fr :: fs) else if fr.names.length = 5 then (some .now, fr :: fs)
    else (none, ⟨if a = 0 then n :: fr.names else fr.names ++ [n], if a = 0 then moved fr.dance 1 else fr.dance, fr.ever ++ [n], fr.deeds ++ [.join a n]⟩ :: fr :: fs)
structure Wf (N : Nat) (fr : Fr) : Prop where
  lo : 2 ≤ fr.names.length
  hi : fr.names.length ≤ 5
  letN : ∀ n ∈ fr.names, 97 ≤ n ∧ n ≤ 122
  letE : ∀ n ∈ fr.ever, 97 ≤ n ∧ n ≤ 122
  nd : fr.names.Nodup
  sub : ∀ n ∈ fr.names, n ∈ fr.ever
  dv : Dv fr.names.length fr.dance
  dl : fr.dance.length ≤ N
  ql : fr.deeds.length ≤ N
  el : fr.ever.length ≤ 5 + N
  qs : ∀ q ∈ fr.deeds, match q with | .leave n => 97 ≤ n ∧ n ≤ 122 | .join _ n => 97 ≤ n ∧ n ≤ 122 | _ => True
def okD : Dd → Prop
  | .leave n => 97 ≤ n ∧ n ≤ 122
  | .join _ n => 97 ≤ n ∧ n ≤ 122
  | _ => True
theorem Wf.more {N M : Nat} {fr : Fr} (h : Wf N fr) (e : N ≤ M) : Wf M fr := ⟨h.lo, h.hi, h.letN, h.letE, h.nd, h.sub, h.dv, Nat.le_trans h.dl e, Nat.le_trans h.ql e, Nat.le_trans h.el (by omega), h.qs⟩
theorem line0_pair (m : Nat) : (line0 m).Pairwise (· < ·) := by
  unfold line0
  exact List.Pairwise.map _ (fun a b h => by omega) List.pairwise_lt_range
theorem stayL_pair (m o : Nat) : (stayL m o).Pairwise (· < ·) := (line0_pair m).filter _
theorem stayL_mem {m o : Nat} {x : Int} : x ∈ stayL m o ↔ 0 ≤ x ∧ x < m ∧ x ≠ o := by
  unfold stayL line0
  rw [List.mem_filter, List.mem_map]
  simp only [List.mem_range, decide_eq_true_eq]
  constructor
  · rintro ⟨⟨i, hi, rfl⟩, h⟩; omega
  · rintro ⟨h1, h2, h3⟩; exact ⟨⟨x.toNat, by omega, by omega⟩, h3⟩
theorem line0_succ (m : Nat) : line0 (m + 1) = line0 m ++ [(m : Int)] := by unfold line0; rw [List.range_succ, List.map_append]; rfl
theorem stayL_len : ∀ {m o : Nat}, o < m → (stayL m o).length + 1 = m
  | 0, _, h => absurd h (Nat.not_lt_zero _)
  | m + 1, o, h => by
    unfold stayL
    rw [line0_succ, List.filter_append, List.length_append]
    by_cases e : o = m
    · subst e
      have h1 : (line0 o).filter (fun i => decide (i ≠ (o : Int))) = line0 o := List.filter_eq_self.mpr fun x hx => by
        unfold line0 at hx
        obtain ⟨i, hi, rfl⟩ := List.mem_map.mp hx
        have := List.mem_range.mp hi
        exact decide_eq_true (by omega)
      rw [h1, line0_len]
      simp
    · have ih := stayL_len (m := m) (o := o) (by omega)
      unfold stayL at ih
      have h2 : ([(m : Int)].filter fun i => decide (i ≠ (o : Int))) = [(m : Int)] := List.filter_eq_self.mpr fun x hx => by
        rw [List.mem_singleton.mp hx]
        exact decide_eq_true (by omega)
      rw [h2, List.length_singleton]
      omega
theorem place_ok {m k : Nat} {d st : List Int} (h : Dv m d) (h1 : 1 ≤ k) (h2 : k < m) (i1 : (order m d).getD (k - 1) 0 ∈ st) (i2 : (order m d).getD k 0 ∈ st) (hst : st.Nodup) (hs : ∀ x ∈ st, 0 ≤ x ∧ x < m) :
    1 ≤ lfPlace (order m d) st k ∧ lfPlace (order m d) st k < st.length := by
  have hlen := order_len m d
  unfold lfPlace
  have ek : (order m d).getD k 0 = (order m d)[k]'(by omega) := by rw [List.getD_eq_getElem?_getD, List.getElem?_eq_getElem (by omega)]; rfl
  have ek1 : (order m d).getD (k - 1) 0 = (order m d)[k - 1]'(by omega) := by rw [List.getD_eq_getElem?_getD, List.getElem?_eq_getElem (by omega)]; rfl
  rw [ek] at i2
  rw [ek1] at i1
  constructor
  · refine List.length_pos_iff.mpr (List.ne_nil_of_mem (a := (order m d)[k - 1]'(by omega)) (List.mem_filter.mpr ⟨?_, decide_eq_true i1⟩))
    rw [List.mem_take_iff_getElem]
    exact ⟨k - 1, by omega, rfl⟩
  · have hp : ((order m d).filter fun i => decide (i ∈ st)).length = st.length := by
      have p1 : ((order m d).filter fun i => decide (i ∈ st)).Perm st := by
        refine (List.perm_ext_iff_of_nodup ((order_nodup h).filter _) hst).mpr fun x => ?_
        rw [List.mem_filter, decide_eq_true_iff]
        refine ⟨fun z => z.2, fun z => ⟨?_, z⟩⟩
        obtain ⟨h3, h4⟩ := hs x z
        refine (order_perm m d h).mem_iff.mpr ?_
        unfold line0
        exact List.mem_map.mpr ⟨x.toNat, List.mem_range.mpr (by omega), by omega⟩
      exact p1.length_eq
    rw [← hp]
    have e : (order m d) = (order m d).take k ++ (order m d).drop k := (List.take_append_drop k _).symm
    have e2 : ((order m d).filter fun i => decide (i ∈ st)).length = (((order m d).take k).filter fun i => decide (i ∈ st)).length + (((order m d).drop k).filter fun i => decide (i ∈ st)).length := by
      conv => lhs; rw [e, List.filter_append, List.length_append]
    rw [e2]
    have : 0 < (((order m d).drop k).filter fun i => decide (i ∈ st)).length := by
      refine List.length_pos_iff.mpr (List.ne_nil_of_mem (a := (order m d)[k]'(by omega)) (List.mem_filter.mpr ⟨?_, decide_eq_true i2⟩))
      rw [List.drop_eq_getElem_cons (by omega)]
      exact List.mem_cons_self
    omega
theorem left_dv {m : Nat} {d st : List Int} (h : Dv m d) (hst : st.Nodup) (hs : ∀ x ∈ st, 0 ≤ x ∧ x < m) : Dv st.length (left m d st) := by
  have key : ∀ (n : Nat) (d : List Int), d.length = n → Dv m d → Dv st.length (left m d st) := by
    intro n
    induction n with
    | zero => intro d hl _; rw [List.eq_nil_of_length_eq_zero hl]; exact fun _ h => nomatch h
    | succ n ih =>
      intro d hl hd
      have hne : d ≠ [] := fun e => by rw [e] at hl; simp at hl
      rw [← List.dropLast_concat_getLast hne] at hd ⊢
      have ih' := ih d.dropLast (by rw [List.length_dropLast, hl]; rfl) hd.tail
      obtain ⟨h1, h2⟩ := hd.mid (pre := d.dropLast) (post := []) rfl
      by_cases hc : (order m d.dropLast).getD ((d.getLast hne).natAbs - 1) 0 ∈ st ∧ (order m d.dropLast).getD (d.getLast hne).natAbs 0 ∈ st
      · rw [left_in hc.1 hc.2]
        intro s hs'
        rcases List.mem_append.mp hs' with hs' | hs'
        · exact ih' s hs'
        · obtain ⟨p1, p2⟩ := place_ok hd.tail h1 h2 hc.1 hc.2 hst hs
          rw [List.mem_singleton.mp hs']
          split <;> omega
      · rw [left_out hc]; exact ih'
  exact key _ d rfl h
theorem moved_dv {m : Nat} {d : List Int} (h : Dv m d) : Dv (m + 1) (moved d 1) := by
  intro s hs
  unfold moved at hs
  obtain ⟨x, hx, rfl⟩ := List.mem_map.mp hs
  have := h x hx
  split <;> omega
theorem moved_zero (d : List Int) : moved d 0 = d := by
  unfold moved
  conv => rhs; rw [← List.map_id d]
  exact List.map_congr_left fun x _ => by split <;> simp
theorem drop1_len {l : List Nat} {o : Nat} (h : o < l.length) : (drop1 l o).length + 1 = l.length := by unfold drop1; rw [List.length_append, List.length_take, List.length_drop]; omega
theorem drop1_sub {l : List Nat} {o : Nat} : (drop1 l o).Sublist l := by
  unfold drop1
  have h := List.Sublist.append (List.Sublist.refl (l.take o)) (List.drop_sublist_drop_left l (Nat.le_succ o))
  rw [List.take_append_drop] at h
  exact h
/-- the mirror keeps what is well formed -/
theorem act_wf {N : Nat} {fs : List Fr} {q : Dd} (h : ∀ fr ∈ fs, Wf N fr) (hq : okD q) : ∀ fr ∈ (actF fs q).2, Wf (N + 1) fr := by
  cases fs with
  | nil => exact fun fr hfr => nomatch hfr
  | cons fr fs =>
    have old : ∀ g ∈ fr :: fs, Wf (N + 1) g := fun g hg => (h g hg).more (Nat.le_succ _)
    have W := h fr List.mem_cons_self
    have add : ∀ g, Wf (N + 1) g → ∀ g' ∈ g :: fr :: fs, Wf (N + 1) g' := fun g hg g' hg' => by
      rcases List.mem_cons.mp hg' with e | e
      · rw [e]; exact hg
      · exact old g' e
    cases q with
    | undo =>
      simp only [actF]
      split
      · exact old
      · exact fun g hg => old g (List.mem_cons_of_mem _ hg)
    | step i =>
      simp only [actF]
      split
      · rename_i hi
        refine add _ ⟨W.lo, W.hi, W.letN, W.letE, W.nd, W.sub, fun s hs => ?_, ?_, ?_, Nat.le_trans W.el (by omega), fun q hq' => ?_⟩
        · rcases List.mem_append.mp hs with hs | hs
          · exact W.dv s hs
          · rw [List.mem_singleton.mp hs]; exact hi
        · have := W.dl; simp; exact this
        · have := W.ql; simp; exact this
        · rcases List.mem_append.mp hq' with hq' | hq'
          · exact W.qs q hq'
          · rw [List.mem_singleton.mp hq']; trivial
      · exact old
    | leave n =>
      simp only [actF]
      split
      · exact old
      · rename_i hn
        have hn : n ∈ fr.names := Classical.byContradiction hn
        split
        · exact old
        · rename_i h2
          have hix : fr.names.idxOf n < fr.names.length := List.idxOf_lt_length_of_mem hn
          have hl := drop1_len hix
          have hlo := W.lo
          have hhi := W.hi
          have hst := stayL_len hix
          refine add _ ⟨?_, ?_, fun k hk => W.letN k (drop1_sub.subset hk), W.letE, W.nd.sublist drop1_sub, fun k hk => W.sub k (drop1_sub.subset hk), ?_, Nat.le_trans (left_len _ _ _) (Nat.le_trans W.dl (by omega)), ?_, Nat.le_trans W.el (by omega), fun q hq' => ?_⟩
          · show 2 ≤ (drop1 _ _).length; omega
          · show (drop1 _ _).length ≤ 5; omega
          · have e : (drop1 fr.names (fr.names.idxOf n)).length = (stayL fr.names.length (fr.names.idxOf n)).length := by omega
            show Dv (drop1 fr.names (fr.names.idxOf n)).length _
            rw [e]
            exact left_dv W.dv ((stayL_pair _ _).imp fun h => by omega) fun x hx => ⟨(stayL_mem.mp hx).1, (stayL_mem.mp hx).2.1⟩
          · have := W.ql; simp; exact this
          · rcases List.mem_append.mp hq' with hq' | hq'
            · exact W.qs q hq'
            · rw [List.mem_singleton.mp hq']; exact hq
    | join a n =>
      simp only [actF]
      split
      · exact old
      · split
        · exact old
        · rename_i hev
          split
          · exact old
          · rename_i h5
            have hlo := W.lo
            have hhi := W.hi
            have hnn : n ∉ fr.names := fun hm => hev (W.sub n hm)
            have qs' : ∀ q ∈ fr.deeds ++ [Dd.join a n], match q with | .leave n => 97 ≤ n ∧ n ≤ 122 | .join _ n => 97 ≤ n ∧ n ≤ 122 | _ => True := fun q hq' => by
              rcases List.mem_append.mp hq' with hq' | hq'
              · exact W.qs q hq'
              · rw [List.mem_singleton.mp hq']; exact hq
            have ev' : ∀ k ∈ fr.ever ++ [n], 97 ≤ k ∧ k ≤ 122 := fun k hk => by
              rcases List.mem_append.mp hk with hk | hk
              · exact W.letE k hk
              · rw [List.mem_singleton.mp hk]; exact hq
            have el' : (fr.ever ++ [n]).length ≤ 5 + (N + 1) := by have := W.el; simp; omega
            have ql' : (fr.deeds ++ [Dd.join a n]).length ≤ N + 1 := by have := W.ql; simp; exact this
            by_cases ha : a = 0
            · subst ha
              refine add _ ⟨?_, ?_, ?_, ev', ?_, ?_, ?_, ?_, ql', el', qs'⟩
              · show 2 ≤ (n :: fr.names).length; rw [List.length_cons]; omega
              · show (n :: fr.names).length ≤ 5; rw [List.length_cons]; omega
              · intro k hk
                rcases List.mem_cons.mp (show k ∈ n :: fr.names from hk) with e | e
                · rw [e]; exact hq
                · exact W.letN k e
              · exact List.nodup_cons.mpr ⟨hnn, W.nd⟩
              · intro k hk
                rcases List.mem_cons.mp (show k ∈ n :: fr.names from hk) with e | e
                · rw [e]; simp
                · exact List.mem_append_left _ (W.sub k e)
              · exact moved_dv W.dv
              · show (moved fr.dance 1).length ≤ N + 1
                unfold moved; rw [List.length_map]; have := W.dl; omega
            · simp only [if_neg ha]
              refine add _ ⟨?_, ?_, ?_, ev', ?_, ?_, ?_, Nat.le_trans W.dl (by omega), ql', el', qs'⟩
              · show 2 ≤ (fr.names ++ [n]).length; rw [List.length_append]; omega
              · show (fr.names ++ [n]).length ≤ 5; rw [List.length_append]; simp; omega
              · intro k hk
                rcases List.mem_append.mp hk with e | e
                · exact W.letN k e
                · rw [List.mem_singleton.mp e]; exact hq
              · refine List.nodup_append.mpr ⟨W.nd, by simp, fun a ha b hb e => ?_⟩
                rw [List.mem_singleton.mp hb] at e
                exact hnn (e ▸ ha)
              · intro k hk
                rcases List.mem_append.mp hk with e | e
                · exact List.mem_append_left _ (W.sub k e)
                · exact List.mem_append_right _ e
              · intro s hs
                have := W.dv s hs
                show _ ∧ _ < (fr.names ++ [n]).length
                rw [List.length_append]; simp; omega
theorem act_ne {fs : List Fr} {q : Dd} (h : fs ≠ []) : (actF fs q).2 ≠ [] := by
  cases fs with
  | nil => exact absurd rfl h
  | cons fr fs =>
    cases q <;> simp only [actF] <;> repeat' split
    all_goals simp_all
end My
end

section
set_option Elab.async false
set_option linter.all false
set_option maxRecDepth 100000
set_option maxHeartbeats 4000000
/-! MP: live floors on the heap; what they show. -/
namespace My
open PySem PySem.Spec PyProof.Rows L2 He LamX SX
local macro_rules | `(tactic| walk_at "rd") => `(tactic| repeat (with_reducible first
  | refine r_seq ?_ | refine r_asg ?_ | refine r_var (by with_unfolding_all rfl) ?_ | refine r_c ?_ | refine r_op ?_ | refine r_I0 ?_ | refine r_name ?_ | refine r_ret ?_ | refine r_if ?_ | refine r_cons ?_ | refine r_nil ?_
  | refine r_CB ?_ | refine r_call ?_ | refine r_test ?_ | refine r_eqI ?_ | refine r_eqS ?_ | refine r_neI ?_ | refine r_neS ?_ | refine r_drop ?_ | refine r_next ?_ | refine r_ifE ?_ | refine r_B ?_ | refine r_andV ?_ | refine r_orV ?_ | refine r_notV ?_ | refine r_blV ?_
  | refine r_and ?_ | refine r_or ?_ | refine r_not ?_ | refine r_tup ?_ | refine r_lst ?_ | refine r_par ?_ | refine r_exv2 ?_ | refine r_un ?_ | refine r_neg ?_ | refine r_isN ?_ | refine r_notN ?_ | refine r_retN ?_ | refine r_chain ?_
  | refine r_star ?_ | refine r_lstRg ?_ | refine r_rg1 ?_ | refine r_rg2 ?_ | refine r_exi ?_ | refine r_exi2 ?_ | refine r_sl ?_ | refine r_noPart ?_ | refine r_part ?_ | refine r_gnil ?_ | refine r_gcons ?_ | refine r_gsub ?_ | refine r_BM ?_ | refine r_M1 ?_ | refine r_isstr ?_ | refine r_meth ?_ | refine r_make ?_ | refine r_fld ?_ | refine r_abs ?_ | refine r_isiIntInt ?_ | refine r_isiIntBool ?_ | refine r_isiStr ?_ | refine r_min ?_ | refine r_max ?_ | refine r_int1 ?_ | refine r_intb ?_ | refine r_for ?_ | refine r_itup ?_ | refine r_ilist ?_ | refine r_lc ?_ | refine r_yes ?_ | refine r_istr ?_ | refine r_rng1 ?_ | refine r_rng2 ?_ | refine r_dput ?_ | refine r_daug ?_ | refine r_dget ?_ | refine r_dnewT ?_ | refine r_addI ?_ | refine r_ev ?_ | refine r_sfld ?_ | refine r_faug ?_ | refine r_prop ?_ | refine r_while ?_ | refine r_augS ?_ | refine r_tupF ?_ | refine r_idxT ?_ | refine r_kd ?_ | refine r_ki ?_ | refine r_enum ?_))

local macro_rules | `(tactic| walk_at "rn") => `(tactic| repeat (with_reducible first
  | refine r_seq ?_ | refine r_asg ?_ | refine r_var (by with_unfolding_all rfl) ?_ | refine r_c ?_ | refine r_op ?_ | refine r_I0 ?_ | refine r_name ?_ | refine r_ret ?_ | refine r_cons ?_ | refine r_nil ?_
  | refine r_CB ?_ | refine r_call ?_ | refine r_test ?_ | refine r_eqI ?_ | refine r_eqS ?_ | refine r_neI ?_ | refine r_neS ?_ | refine r_drop ?_ | refine r_next ?_ | refine r_B ?_ | refine r_andV ?_ | refine r_orV ?_ | refine r_notV ?_ | refine r_blV ?_
  | refine r_and ?_ | refine r_or ?_ | refine r_not ?_ | refine r_tup ?_ | refine r_lst ?_ | refine r_par ?_ | refine r_exv2 ?_ | refine r_un ?_ | refine r_neg ?_ | refine r_isN ?_ | refine r_notN ?_ | refine r_retN ?_ | refine r_chain ?_
  | refine r_star ?_ | refine r_lstRg ?_ | refine r_rg1 ?_ | refine r_rg2 ?_ | refine r_exi ?_ | refine r_exi2 ?_ | refine r_sl ?_ | refine r_noPart ?_ | refine r_part ?_ | refine r_gnil ?_ | refine r_gcons ?_ | refine r_gsub ?_ | refine r_BM ?_ | refine r_M1 ?_ | refine r_isstr ?_ | refine r_meth ?_ | refine r_make ?_ | refine r_fld ?_ | refine r_abs ?_ | refine r_isiIntInt ?_ | refine r_isiIntBool ?_ | refine r_isiStr ?_ | refine r_min ?_ | refine r_max ?_ | refine r_int1 ?_ | refine r_intb ?_ | refine r_for ?_ | refine r_itup ?_ | refine r_ilist ?_ | refine r_lc ?_ | refine r_yes ?_ | refine r_istr ?_ | refine r_rng1 ?_ | refine r_rng2 ?_ | refine r_dput ?_ | refine r_daug ?_ | refine r_dget ?_ | refine r_dnewT ?_ | refine r_addI ?_ | refine r_ev ?_ | refine r_sfld ?_ | refine r_faug ?_ | refine r_prop ?_ | refine r_while ?_ | refine r_augS ?_ | refine r_tupF ?_ | refine r_idxT ?_ | refine r_kd ?_ | refine r_ki ?_ | refine r_enum ?_))

local macro_rules | `(tactic| walk_at "hp") => `(tactic| (with_reducible first
  | assumption | exact New.at (by assumption)
  | exact SqT.of (by walk_at "hp") | exact SqL.of (by walk_at "hp") | exact Or.inl (by walk_at "hp") | exact Or.inr (by walk_at "hp")
  | exact New.get (by assumption) (by walk_at "hp") | exact Same.get (by assumption) (by walk_at "hp")))

/-! ### the heap -/
def nmV (n : Nat) : V := .str (S [n])
def deedV : Dd → List V
  | .step i => [.str "step", .int i]
  | .leave n => [.str "leave", nmV n]
  | .join a n => [.str "join", .int a, nmV n]
  | .undo => [.str "undo"]
def DeedsAt (X : List Addr) (H : Hp) : List Addr → List Dd → Prop
  | [], [] => True
  | a :: as, q :: qs => (a ∉ X ∧ H a = some (.tup (deedV q))) ∧ DeedsAt X H as qs
  | [], _ :: _ => False
  | _ :: _, [] => False
structure FrAt (K : PySem.W.Frag) (X : List Addr) (H : Hp) (n d e l : Addr) (fr : Fr) : Prop where
  nX : n ∉ X
  nm : NT H n (fr.names.map nmV)
  dX : d ∉ X
  dn : H d = some (.tup (fr.dance.map V.int))
  eX : e ∉ X
  ev : Rd H e (.tup (fr.ever.map nmV))
  lX : l ∉ X
  dd : ∃ as, H l = some (.lst (as.map V.ref)) ∧ DeedsAt X H as fr.deeds
abbrev stO (K : PySem.W.Frag) (dx n d e l : Addr) (bf : V) : HO := .ins (ga K "Stand") dx [("own_names", .ref n), ("own_dance", .ref d), ("own_ever", .ref e), ("own_deeds", .ref l), ("own_before", bf)]
def IsSt (K : PySem.W.Frag) (X : List Addr) (H : Hp) : List Fr → V → Prop
  | [], v => v = .non
  | fr :: fs, v => ∃ (a dx n d e l : Addr) (bf : V), v = .ref a ∧ a ∉ X ∧ H a = some (stO K dx n d e l bf) ∧ FrAt K X H n d e l fr ∧ IsSt K X H fs bf
abbrev lwK (ah : V) (l o n d : Addr) : List (Key × V) := [(.inr "ahead", ah), (.inr "log", .ref l), (.inr "old", .ref o), (.inr "names", .ref n), (.inr "dance", .ref d)]
def IsLw (K : PySem.W.Frag) (X : List Addr) (H : Hp) : List Fr → V → Prop
  | [], v => v = .non
  | fr :: fs, v => ∃ (a l o n d : Addr) (ah : V), v = .ref a ∧ a ∉ X ∧ H a = some (.dK (lwK ah l o n d)) ∧ FrAt K X H n d o l fr ∧ IsLw K X H fs ah
/-- what may be changed holds no tuple -/
def OkX (X : List Addr) (H : Hp) : Prop := ∀ x ∈ X, (∃ C dx fs, H x = some (.ins C dx fs)) ∨ (∃ kvs, H x = some (.dK kvs)) ∨ ∃ xs, H x = some (.lst xs)
def SameX (X : List Addr) (H H' : Hp) : Prop := ∀ b u, b ∉ X → H b = some u → H' b = some u
section
variable {K : PySem.W.Frag} {X : List Addr} {H H' H2 : Hp} {a p f : Addr} {xs : List V}
theorem OkX.new (h : OkX X H) (hp : H p = none) : p ∉ X := fun m => by
  rcases h p m with ⟨_, _, _, e⟩ | ⟨_, e⟩ | ⟨_, e⟩ <;> rw [hp] at e <;> cases e
theorem OkX.tup (h : OkX X H) (hp : H p = some (.tup xs)) : p ∉ X := fun m => by
  rcases h p m with ⟨_, _, _, e⟩ | ⟨_, e⟩ | ⟨_, e⟩ <;> rw [hp] at e <;> cases e
theorem OkX.nt (h : OkX X H) (hp : NT H p xs) : p ∉ X := fun m => by
  obtain ⟨o, e0, _⟩ := hp
  rcases h p m with ⟨_, _, _, e⟩ | ⟨_, e⟩ | ⟨_, e⟩ <;> rw [e0] at e <;> cases e
theorem OkX.same (h : OkX X H) (s : Same H H') : OkX X H' := fun x m => by
  rcases h x m with ⟨C, dx, fs, e⟩ | ⟨kvs, e⟩ | ⟨xs, e⟩
  · exact .inl ⟨C, dx, fs, s _ _ e⟩
  · exact .inr (.inl ⟨kvs, s _ _ e⟩)
  · exact .inr (.inr ⟨xs, s _ _ e⟩)
theorem OkX.but {C dx : Addr} {fs : List (Str × V)} (h : OkX X H) (s : SameBut f H H') (e : H' f = some (.ins C dx fs)) : OkX X H' := fun x m => by
  by_cases hx : x = f
  · subst hx; exact .inl ⟨C, dx, fs, e⟩
  · rcases h x m with ⟨C, dx, fs, e⟩ | ⟨kvs, e⟩ | ⟨xs, e⟩
    · exact .inl ⟨C, dx, fs, s _ _ hx e⟩
    · exact .inr (.inl ⟨kvs, s _ _ hx e⟩)
    · exact .inr (.inr ⟨xs, s _ _ hx e⟩)
theorem SameX.of (s : Same H H') : SameX X H H' := fun b u _ h => s b u h
theorem SameX.but (hf : f ∈ X) (s : SameBut f H H') : SameX X H H' := fun b u hb h => s b u (fun e => hb (e ▸ hf)) h
theorem SameX.refl : SameX X H H := fun _ _ _ h => h
theorem SameX.trans (s : SameX X H H') (s2 : SameX X H' H2) : SameX X H H2 := fun b u hb h => s2 b u hb (s b u hb h)
theorem DeedsAt.mono (s : SameX X H H') : ∀ {as : List Addr} {qs : List Dd}, DeedsAt X H as qs → DeedsAt X H' as qs
  | [], [], _ => trivial
  | a :: as, q :: qs, h => ⟨⟨h.1.1, s _ _ h.1.1 h.1.2⟩, DeedsAt.mono s h.2⟩
  | [], _ :: _, h => h.elim
  | _ :: _, [], h => h.elim
theorem DeedsAt.len : ∀ {as : List Addr} {qs : List Dd}, DeedsAt X H as qs → as.length = qs.length
  | [], [], _ => rfl
  | a :: as, q :: qs, h => by rw [List.length_cons, List.length_cons, DeedsAt.len h.2]
  | [], _ :: _, h => h.elim
  | _ :: _, [], h => h.elim
theorem DeedsAt.snoc {q : Dd} (hp : p ∉ X) (e : H p = some (.tup (deedV q))) : ∀ {as : List Addr} {qs : List Dd}, DeedsAt X H as qs → DeedsAt X H (as ++ [p]) (qs ++ [q])
  | [], [], _ => ⟨⟨hp, e⟩, trivial⟩
  | a :: as, q' :: qs, h => ⟨h.1, DeedsAt.snoc hp e h.2⟩
  | [], _ :: _, h => h.elim
  | _ :: _, [], h => h.elim
theorem sqT_mono {e : Addr} (he : e ∉ X) (s : SameX X H H') (h : SqT K H e xs) : SqT K H' e xs := by
  rcases h with h | h
  · rcases h with h | ⟨o, h⟩
    · exact .inl (.inl (s _ _ he h))
    · exact .inl (.inr ⟨o, s _ _ he h⟩)
  · exact .inr h
theorem rd_mono {e : Addr} {u : HO} (he : e ∉ X) (s : SameX X H H') (h : Rd H e u) : Rd H' e u := by
  rcases h with h | ⟨o, h⟩
  · exact .inl (s _ _ he h)
  · exact .inr ⟨o, s _ _ he h⟩
theorem NT.rd (h : NT H a xs) : Rd H a (.tup xs) := let ⟨_, e, _, _⟩ := h; .inr ⟨_, e⟩
theorem nt_mono {e : Addr} (he : e ∉ X) (s : SameX X H H') (h : NT H e xs) : NT H' e xs := let ⟨o, q, r⟩ := h; ⟨o, s _ _ he q, r⟩
theorem FrAt.mono {n d e l : Addr} {fr : Fr} (h : FrAt K X H n d e l fr) (s : SameX X H H') : FrAt K X H' n d e l fr :=
  ⟨h.nX, nt_mono h.nX s h.nm, h.dX, s _ _ h.dX h.dn, h.eX, rd_mono h.eX s h.ev, h.lX, let ⟨as, q, r⟩ := h.dd; ⟨as, s _ _ h.lX q, r.mono s⟩⟩
theorem IsSt.mono (s : SameX X H H') : ∀ {fs : List Fr} {v : V}, IsSt K X H fs v → IsSt K X H' fs v
  | [], _, h => h
  | _ :: _, _, ⟨a, dx, n, d, e, l, bf, h1, h2, h3, h4, h5⟩ => ⟨a, dx, n, d, e, l, bf, h1, h2, s _ _ h2 h3, h4.mono s, IsSt.mono s h5⟩
theorem IsLw.mono (s : SameX X H H') : ∀ {fs : List Fr} {v : V}, IsLw K X H fs v → IsLw K X H' fs v
  | [], _, h => h
  | _ :: _, _, ⟨a, l, o, n, d, ah, h1, h2, h3, h4, h5⟩ => ⟨a, l, o, n, d, ah, h1, h2, s _ _ h2 h3, h4.mono s, IsLw.mono s h5⟩
end
abbrev flO (K : PySem.W.Frag) (dx : Addr) (m0 : Nat) (s : V) : HO := .ins (ga K "Floor") dx [("own_first", .int m0), ("own_stand", s), ("own_block", .non)]
/-- a floor at f whose stands are fs -/
structure FlAt (K : PySem.W.Frag) (X : List Addr) (H : Hp) (f dx : Addr) (m0 : Nat) (fs : List Fr) : Prop where
  ok : OkX X H
  fX : f ∈ X
  st : ∃ s, H f = some (flO K dx m0 s) ∧ IsSt K X H fs s
theorem FlAt.same {K : PySem.W.Frag} {X : List Addr} {H H' : Hp} {f dx : Addr} {m0 : Nat} {fs : List Fr} (h : FlAt K X H f dx m0 fs) (s : Same H H') : FlAt K X H' f dx m0 fs :=
  ⟨h.ok.same s, h.fX, let ⟨v, e, r⟩ := h.st; ⟨v, s _ _ e, r.mono (SameX.of s)⟩⟩
def standF (fr : Fr) : List Nat := (order fr.names.length fr.dance).map fun i => fr.names.getD i.toNat 0
section
variable {P : Program} {w : World} {K : PySem.W.Frag} {mg : Str → Option Value} {base : Heap}
def sp_stInit (K : PySem.W.Frag) : Sp := fun vs H Q _ => ∃ (a dx : Addr) (n d e l : V) (b : V), vs = [.ref a, n, d, e, l, b] ∧ H a = some (.ins (ga K "Stand") dx []) ∧
  ∀ H', (∀ c, c ≠ a → H' c = H c) → H' a = some (.ins (ga K "Stand") dx [("own_names", n), ("own_dance", d), ("own_ever", e), ("own_deeds", l), ("own_before", b)]) → Q .non H'
theorem m_Stand (T : Tx w K mg base) : C8.Mak P w K mg base 1 "Stand" (ga K "Stand") (sp_stInit K) [] := by
  obtain ⟨fd, F⟩ := f_Stand_init T
  refine mak_of (mk_Stand T) (g_Stand T) F (fun _ _ _ _ _ _ us hl => match us, hl with | [_, _, _, _, _, _], _ => rfl) sc_Stand_init (fun vs H Q E h => by obtain ⟨_, _, _, _, _, _, _, rfl, _⟩ := h; rfl) (fun cdv A outer s H vs Q E hr h => ?_)
  obtain ⟨a, dx, n, d, e, l, b, rfl, ha, k⟩ := h
  refine ⟨_, (pss_cons (psFld (K := K) (pv 0) (pv 1))
  (pss_cons (psFld (K := K) (pv 0) (pv 2))
  (pss_cons (psFld (K := K) (pv 0) (pv 3))
  (pss_cons (psFld (K := K) (pv 0) (pv 4))
  (pss_one (psFld (K := K) (pv 0) (pv 5))))))), ?_⟩
  walk_at "rd"
  refine r_sf ha (cl_Stand T) (na_Stand_own_names T) ?_
  walk_at "rd"
  refine r_sf upd_same (cl_Stand T) (na_Stand_own_dance T) ?_
  walk_at "rd"
  refine r_sf upd_same (cl_Stand T) (na_Stand_own_ever T) ?_
  walk_at "rd"
  refine r_sf upd_same (cl_Stand T) (na_Stand_own_deeds T) ?_
  walk_at "rd"
  refine r_sf upd_same (cl_Stand T) (na_Stand_own_before T) ?_
  walk_at "rd"
  exact k _ (fun c hc => by rw [upd_ne hc, upd_ne hc, upd_ne hc, upd_ne hc, upd_ne hc]) upd_same
/-- Stand(..) made: what it leaves -/
theorem r_stand {H : Hp} {Qd : Addr → Hp → Prop} {n d e l b : V} (k : ∀ a dx H', H a = none → Same H H' → H' a = some (.ins (ga K "Stand") dx [("own_names", n), ("own_dance", d), ("own_ever", e), ("own_deeds", l), ("own_before", b)]) → Qd a H') :
    ∀ x dx, H x = none → H dx = none → dx ≠ x → sp_stInit K (.ref x :: ([n, d, e, l, b] ++ [])) (upd (upd H dx (.own x)) x (.ins (ga K "Stand") dx [])) (fun v H2 => v = .non ∧ Qd x H2) C8.E0 := by
  intro x dx hx hdx hne
  refine ⟨x, dx, n, d, e, l, b, rfl, upd_same, fun H' h1 h2 => ⟨rfl, k x dx H' hx (fun c u hc => ?_) h2⟩⟩
  rw [h1 c (ne_of_none hc hx), upd_ne (ne_of_none hc hx), upd_ne (ne_of_none hc hdx)]
  exact hc
/-! ### what a floor shows -/
theorem r_stOf {H : Hp} {X : List Addr} {fr : Fr} {fs : List Fr} {f dx : Addr} {m0 : Nat} (h : FlAt K X H f dx m0 (fr :: fs)) : ∃ (a dx' n d e l : Addr) (bf : V), H f = some (flO K dx m0 (.ref a)) ∧ H a = some (stO K dx' n d e l bf) ∧ FrAt K X H n d e l fr ∧ IsSt K X H fs bf := by
  obtain ⟨s, e1, a, dx', n, d, e, l, bf, rfl, _, h1, h2, h3⟩ := h.st
  exact ⟨a, dx', n, d, e, l, bf, e1, h1, h2, h3⟩
def sp_fMany (K : PySem.W.Frag) : Sp := fun vs H Q _ => ∃ (X : List Addr) (f dx : Addr) (m0 : Nat) (fr : Fr) (fs : List Fr), vs = [.ref f] ∧ FlAt K X H f dx m0 (fr :: fs) ∧ Q (.int fr.names.length) H
theorem p_Floor_many (T : Tx w K mg base) : Prp P w K mg base 1 (ga K "Floor") "many" (sp_fMany K) := by
  obtain ⟨fd, F⟩ := f_Floor_many T
  refine prp_of (cl_Floor T) (pp_Floor_many T) F (fun _ _ _ _ _ _ us hl => match us, hl with | [_], _ => rfl) sc_Floor_many (fun vs H Q E h => by obtain ⟨_, _, _, _, _, _, rfl, _⟩ := h; rfl) (fun cdv A outer s H vs Q E hr h => ?_)
  obtain ⟨X, f, dx, m0, fr, fs, rfl, hf, k⟩ := h
  refine ⟨_, (pss_one (ps_ret (pe_callB (callLen (K := K)) rfl (b_len T) bb_len (pa_cons (peFld (K := K) (peFld (K := K) (pv 0))) pa_nil)))), ?_⟩
  obtain ⟨a, dx', n, d, e, l, bf, h1, h2, h3, h4⟩ := r_stOf hf
  walk_at "rd"
  refine r_fl h1 (cl_Floor T) (na_Floor_own_stand T) ?_
  refine r_fl h2 (cl_Stand T) (na_Stand_own_names T) ?_
  walk_at "rd"
  refine r_lenT (NT.sq h3.nm) ?_
  rw [List.length_map]; exact k
def sp_fNames (K : PySem.W.Frag) : Sp := fun vs H Q _ => ∃ (X : List Addr) (f dx : Addr) (m0 : Nat) (fr : Fr) (fs : List Fr), vs = [.ref f] ∧ FlAt K X H f dx m0 (fr :: fs) ∧ ∀ n, n ∉ X → NT H n (fr.names.map nmV) → Q (.ref n) H
theorem p_Floor_names (T : Tx w K mg base) : Prp P w K mg base 1 (ga K "Floor") "names" (sp_fNames K) := by
  obtain ⟨fd, F⟩ := f_Floor_names T
  refine prp_of (cl_Floor T) (pp_Floor_names T) F (fun _ _ _ _ _ _ us hl => match us, hl with | [_], _ => rfl) sc_Floor_names (fun vs H Q E h => by obtain ⟨_, _, _, _, _, _, rfl, _⟩ := h; rfl) (fun cdv A outer s H vs Q E hr h => ?_)
  obtain ⟨X, f, dx, m0, fr, fs, rfl, hf, k⟩ := h
  refine ⟨_, (pss_one (ps_ret (peFld (K := K) (peFld (K := K) (pv 0))))), ?_⟩
  obtain ⟨a, dx', n, d, e, l, bf, h1, h2, h3, h4⟩ := r_stOf hf
  walk_at "rd"
  refine r_fl h1 (cl_Floor T) (na_Floor_own_stand T) ?_
  refine r_fl h2 (cl_Stand T) (na_Stand_own_names T) ?_
  exact k n h3.nX h3.nm
def sp_fDance (K : PySem.W.Frag) : Sp := fun vs H Q _ => ∃ (X : List Addr) (f dx : Addr) (m0 : Nat) (fr : Fr) (fs : List Fr), vs = [.ref f] ∧ FlAt K X H f dx m0 (fr :: fs) ∧ ∀ d, d ∉ X → H d = some (.tup (fr.dance.map V.int)) → Q (.ref d) H
theorem p_Floor_dance (T : Tx w K mg base) : Prp P w K mg base 1 (ga K "Floor") "dance" (sp_fDance K) := by
  obtain ⟨fd, F⟩ := f_Floor_dance T
  refine prp_of (cl_Floor T) (pp_Floor_dance T) F (fun _ _ _ _ _ _ us hl => match us, hl with | [_], _ => rfl) sc_Floor_dance (fun vs H Q E h => by obtain ⟨_, _, _, _, _, _, rfl, _⟩ := h; rfl) (fun cdv A outer s H vs Q E hr h => ?_)
  obtain ⟨X, f, dx, m0, fr, fs, rfl, hf, k⟩ := h
  refine ⟨_, (pss_one (ps_ret (peFld (K := K) (peFld (K := K) (pv 0))))), ?_⟩
  obtain ⟨a, dx', n, d, e, l, bf, h1, h2, h3, h4⟩ := r_stOf hf
  walk_at "rd"
  refine r_fl h1 (cl_Floor T) (na_Floor_own_stand T) ?_
  refine r_fl h2 (cl_Stand T) (na_Stand_own_dance T) ?_
  exact k d h3.dX h3.dn
def sp_fLog (K : PySem.W.Frag) : Sp := fun vs H Q _ => ∃ (X : List Addr) (f dx : Addr) (m0 : Nat) (fr : Fr) (fs : List Fr), vs = [.ref f] ∧ FlAt K X H f dx m0 (fr :: fs) ∧
  ∀ p H' as, H p = none → Same H H' → H' p = some (.lst (as.map V.ref)) → DeedsAt X H' as fr.deeds → Q (.ref p) H'
theorem p_Floor_log (T : Tx w K mg base) : Prp P w K mg base 1 (ga K "Floor") "log" (sp_fLog K) := by
  obtain ⟨fd, F⟩ := f_Floor_log T
  refine prp_of (cl_Floor T) (pp_Floor_log T) F (fun _ _ _ _ _ _ us hl => match us, hl with | [_], _ => rfl) sc_Floor_log (fun vs H Q E h => by obtain ⟨_, _, _, _, _, _, rfl, _⟩ := h; rfl) (fun cdv A outer s H vs Q E hr h => ?_)
  obtain ⟨X, f, dx, m0, fr, fs, rfl, hf, k⟩ := h
  refine ⟨_, (pss_one (ps_ret (pe_callTy (callListOf (K := K)) rfl (b_list T) bb_list (pa_cons (peFld (K := K) (peFld (K := K) (pv 0))) pa_nil)))), ?_⟩
  obtain ⟨a, dx', n, d, e, l, bf, h1, h2, h3, h4⟩ := r_stOf hf
  obtain ⟨as, h5, h6⟩ := h3.dd
  walk_at "rd"
  refine r_fl h1 (cl_Floor T) (na_Floor_own_stand T) ?_
  refine r_fl h2 (cl_Stand T) (na_Stand_own_deeds T) ?_
  walk_at "rd"
  refine r_listOfL (SqL.of h5) fun p H2 n2 => ?_
  exact k p H2 as n2.free n2.same n2.at (h6.mono (SameX.of n2.same))
def sp_fLen (K : PySem.W.Frag) : Sp := fun vs H Q _ => ∃ (X : List Addr) (f dx : Addr) (m0 : Nat) (fr : Fr) (fs : List Fr), vs = [.ref f] ∧ FlAt K X H f dx m0 (fr :: fs) ∧ Q (.int fr.deeds.length) H
theorem c_Floor_len (T : Tx w K mg base) : C8.Met P w K mg base 1 (ga K "Floor") "__len__" (sp_fLen K) [] := by
  obtain ⟨fd, F⟩ := f_Floor_len T
  refine met_of (cl_Floor T) (me_Floor_len T) F (fun _ _ _ _ _ _ us hl => match us, hl with | [_], _ => rfl) sc_Floor_len (fun vs H Q E h => by obtain ⟨_, _, _, _, _, _, rfl, _⟩ := h; rfl) (fun cdv A outer s H vs Q E hr h => ?_)
  obtain ⟨X, f, dx, m0, fr, fs, rfl, hf, k⟩ := h
  refine ⟨_, (pss_one (ps_ret (pe_callB (callLen (K := K)) rfl (b_len T) bb_len (pa_cons (peFld (K := K) (peFld (K := K) (pv 0))) pa_nil)))), ?_⟩
  obtain ⟨a, dx', n, d, e, l, bf, h1, h2, h3, h4⟩ := r_stOf hf
  obtain ⟨as, h5, h6⟩ := h3.dd
  walk_at "rd"
  refine r_fl h1 (cl_Floor T) (na_Floor_own_stand T) ?_
  refine r_fl h2 (cl_Stand T) (na_Stand_own_deeds T) ?_
  walk_at "rd"
  refine r_lenL (SqL.of h5) ?_
  rw [List.length_map, h6.len]; exact k
def sp_fStraight (K : PySem.W.Frag) : Sp := fun vs H Q _ => ∃ (X : List Addr) (f dx : Addr) (m0 N : Nat) (fr : Fr) (fs : List Fr), vs = [.ref f] ∧ FlAt K X H f dx m0 (fr :: fs) ∧ Wf N fr ∧ ∀ H', Same H H' → Q (.bl (decide (curves fr.names.length fr.dance = curves fr.names.length []))) H'
theorem c_Floor_is_straight (T : Tx w K mg base) : C8.Met P w K mg base 7 (ga K "Floor") "is_straight" (sp_fStraight K) [] := by
  obtain ⟨fd, F⟩ := f_Floor_is_straight T
  refine met_of (cl_Floor T) (me_Floor_is_straight T) F (fun _ _ _ _ _ _ us hl => match us, hl with | [_], _ => rfl) sc_Floor_is_straight (fun vs H Q E h => by obtain ⟨_, _, _, _, _, _, _, rfl, _⟩ := h; rfl) (fun cdv A outer s H vs Q E hr h => ?_)
  obtain ⟨X, f, dx, m0, N, fr, fs, rfl, hf, W, k⟩ := h
  refine ⟨_, (pss_one (ps_ret (C8.pe_c (c_is_alike (K := K) T) hr (by decide) rfl (pa_cons (pe_callB (callLen (K := K)) rfl (b_len T) bb_len (pa_cons (peFld (K := K) (peFld (K := K) (pv 0))) pa_nil)) (pa_cons (peFld (K := K) (peFld (K := K) (pv 0))) (pa_cons (pe_tup pa_nil) pa_nil)))))), ?_⟩
  obtain ⟨a, dx', n, d, e, l, bf, h1, h2, h3, h4⟩ := r_stOf hf
  walk_at "rd"
  refine r_fl h1 (cl_Floor T) (na_Floor_own_stand T) ?_
  refine r_fl h2 (cl_Stand T) (na_Stand_own_names T) ?_
  walk_at "rd"
  refine r_lenT (NT.sq h3.nm) ?_
  rw [List.length_map]
  walk_at "rd"
  refine r_fl h1 (cl_Floor T) (na_Floor_own_stand T) ?_
  refine r_fl h2 (cl_Stand T) (na_Stand_own_dance T) ?_
  walk_at "rd"
  refine ⟨(sz1000 (Nat.le_of_ble_eq_true rfl)), ?_⟩
  (intro p hl_; generalize he_ : upd _ p _ = H2; have n2 := New.mk hl_ he_.symm; clear hl_ he_)
  walk_at "rd"
  refine ⟨_, fr.dance, [], d, p, rfl, n2.get h3.dn, n2.at, W.dv, (fun _ h => nomatch h), W.lo, W.hi, fun H3 s3 => ?_⟩
  exact k H3 (n2.same.trans s3)
def sp_fStanding (K : PySem.W.Frag) : Sp := fun vs H Q _ => ∃ (X : List Addr) (f dx : Addr) (m0 N : Nat) (fr : Fr) (fs : List Fr), vs = [.ref f] ∧ FlAt K X H f dx m0 (fr :: fs) ∧ Wf N fr ∧ ∀ p H', Same H H' → H' p = some (.tup ((standF fr).map nmV)) → Q (.ref p) H'
theorem p_Floor_standing (T : Tx w K mg base) : Prp P w K mg base 2 (ga K "Floor") "standing" (sp_fStanding K) := by
  obtain ⟨fd, F⟩ := f_Floor_standing T
  refine prp_of (cl_Floor T) (pp_Floor_standing T) F (fun _ _ _ _ _ _ us hl => match us, hl with | [_], _ => rfl) sc_Floor_standing (fun vs H Q E h => by obtain ⟨_, _, _, _, _, _, _, rfl, _⟩ := h; rfl) (fun cdv A outer s H vs Q E hr h => ?_)
  obtain ⟨X, f, dx, m0, N, fr, fs, rfl, hf, W, k⟩ := h
  refine ⟨_, (pss_cons (ps_set (i := 1) sc_Floor_standing.nd rfl (Or.inr rfl) (peFld (K := K) (pv 0)))
  (pss_one (ps_ret (pe_callTy (callTupOf (K := K)) rfl (b_tuple T) bb_tuple (pa_cons (pe_lc (own := [("dancer", 2)]) rfl sc_Floor_standing.nd (piTup (K := K) (C8.pe_c (c_order_of (K := K) T) hr (by decide) rfl (pa_cons (pe_callB (callLen (K := K)) rfl (b_len T) bb_len (pa_cons (peFld (K := K) (pv 1)) pa_nil)) (pa_cons (peFld (K := K) (pv 1)) pa_nil)))) (blkOk_by (N := N_Floor_standing) (sc := defScope s_Floor_standing) (by decide +kernel)) (fun _ _ _ _ _ => pg_name (i := 2) sc_Floor_standing.nd rfl (Or.inl rfl)) (fun _ _ _ _ _ => pts_nil) (fun _ _ _ _ _ => (pe_ix (ixT (K := K)) (peFld (K := K) (pv 1)) (pv 2) (fun _ _ => rfl)))) pa_nil))))), ?_⟩
  obtain ⟨a, dx', n, d, e, l, bf, h1, h2, h3, h4⟩ := r_stOf hf
  walk_at "rd"
  refine r_fl h1 (cl_Floor T) (na_Floor_own_stand T) ?_
  walk_at "rd"
  refine r_fl h2 (cl_Stand T) (na_Stand_own_names T) ?_
  walk_at "rd"
  refine r_lenT (NT.sq h3.nm) ?_
  rw [List.length_map]
  walk_at "rd"
  refine r_fl h2 (cl_Stand T) (na_Stand_own_dance T) ?_
  walk_at "rd"
  refine ⟨_, fr.dance, d, rfl, h3.dn, W.dv, W.hi, fun p H2 s2 e2 => ?_⟩
  refine lcT1 V.int (order fr.names.length fr.dance) (fun i => nmV (fr.names.getD i.toNat 0)) (SqT.of e2) (by rw [order_len]; have := W.hi; omega) (fun i H4 hi s4 Y q => ?_) fun D H4 hD4 s4 e4 => ?_
  · obtain ⟨i1, i2⟩ := order_mem W.dv hi
    walk_at "rd"
    refine ⟨rfl, ?_⟩
    walk_at "rd"
    refine r_fl (s4 _ _ (s2 _ _ h2)) (cl_Stand T) (na_Stand_own_names T) ?_
    walk_at "rd"
    refine r_ixT (v := nmV (fr.names.getD i.toNat 0)) (NT.sq ((h3.nm.same s2).same s4)) ?_ (q _ (Same.refl _))
    refine at_of (j := i.toNat) (by omega) ?_
    rw [List.getElem?_map, List.getElem?_eq_getElem (by omega), List.getD_eq_getElem?_getD, List.getElem?_eq_getElem (by omega)]; rfl
  · walk_at "rd"
    refine r_tupOf (SqL.of e4) fun p2 H5 n5 => ?_
    refine k p2 H5 (s2.trans (s4.trans n5.same)) ?_
    rw [n5.at]; unfold standF; rw [List.map_map]; rfl
end
end My
end

section
set_option Elab.async false
set_option linter.all false
set_option maxRecDepth 100000
set_option maxHeartbeats 4000000
/-! MQ: live floors: what changes them, what they refuse. -/
namespace My
open PySem PySem.Spec PyProof.Rows L2 He LamX SX
local macro_rules | `(tactic| walk_at "rd") => `(tactic| repeat (with_reducible first
  | refine r_seq ?_ | refine r_asg ?_ | refine r_var (by with_unfolding_all rfl) ?_ | refine r_c ?_ | refine r_op ?_ | refine r_I0 ?_ | refine r_name ?_ | refine r_ret ?_ | refine r_if ?_ | refine r_cons ?_ | refine r_nil ?_
  | refine r_CB ?_ | refine r_call ?_ | refine r_test ?_ | refine r_eqI ?_ | refine r_eqS ?_ | refine r_neI ?_ | refine r_neS ?_ | refine r_drop ?_ | refine r_next ?_ | refine r_ifE ?_ | refine r_B ?_ | refine r_andV ?_ | refine r_orV ?_ | refine r_notV ?_ | refine r_blV ?_
  | refine r_and ?_ | refine r_or ?_ | refine r_not ?_ | refine r_tup ?_ | refine r_lst ?_ | refine r_par ?_ | refine r_exv2 ?_ | refine r_un ?_ | refine r_neg ?_ | refine r_isN ?_ | refine r_notN ?_ | refine r_retN ?_ | refine r_chain ?_
  | refine r_star ?_ | refine r_lstRg ?_ | refine r_rg1 ?_ | refine r_rg2 ?_ | refine r_exi ?_ | refine r_exi2 ?_ | refine r_sl ?_ | refine r_noPart ?_ | refine r_part ?_ | refine r_gnil ?_ | refine r_gcons ?_ | refine r_gsub ?_ | refine r_BM ?_ | refine r_M1 ?_ | refine r_isstr ?_ | refine r_meth ?_ | refine r_make ?_ | refine r_fld ?_ | refine r_abs ?_ | refine r_isiIntInt ?_ | refine r_isiIntBool ?_ | refine r_isiStr ?_ | refine r_min ?_ | refine r_max ?_ | refine r_int1 ?_ | refine r_intb ?_ | refine r_for ?_ | refine r_itup ?_ | refine r_ilist ?_ | refine r_lc ?_ | refine r_yes ?_ | refine r_istr ?_ | refine r_rng1 ?_ | refine r_rng2 ?_ | refine r_dput ?_ | refine r_daug ?_ | refine r_dget ?_ | refine r_dnewT ?_ | refine r_addI ?_ | refine r_ev ?_ | refine r_sfld ?_ | refine r_faug ?_ | refine r_prop ?_ | refine r_while ?_ | refine r_augS ?_ | refine r_tupF ?_ | refine r_idxT ?_ | refine r_kd ?_ | refine r_ki ?_ | refine r_enum ?_))

local macro_rules | `(tactic| walk_at "rn") => `(tactic| repeat (with_reducible first
  | refine r_seq ?_ | refine r_asg ?_ | refine r_var (by with_unfolding_all rfl) ?_ | refine r_c ?_ | refine r_op ?_ | refine r_I0 ?_ | refine r_name ?_ | refine r_ret ?_ | refine r_cons ?_ | refine r_nil ?_
  | refine r_CB ?_ | refine r_call ?_ | refine r_test ?_ | refine r_eqI ?_ | refine r_eqS ?_ | refine r_neI ?_ | refine r_neS ?_ | refine r_drop ?_ | refine r_next ?_ | refine r_B ?_ | refine r_andV ?_ | refine r_orV ?_ | refine r_notV ?_ | refine r_blV ?_
  | refine r_and ?_ | refine r_or ?_ | refine r_not ?_ | refine r_tup ?_ | refine r_lst ?_ | refine r_par ?_ | refine r_exv2 ?_ | refine r_un ?_ | refine r_neg ?_ | refine r_isN ?_ | refine r_notN ?_ | refine r_retN ?_ | refine r_chain ?_
  | refine r_star ?_ | refine r_lstRg ?_ | refine r_rg1 ?_ | refine r_rg2 ?_ | refine r_exi ?_ | refine r_exi2 ?_ | refine r_sl ?_ | refine r_noPart ?_ | refine r_part ?_ | refine r_gnil ?_ | refine r_gcons ?_ | refine r_gsub ?_ | refine r_BM ?_ | refine r_M1 ?_ | refine r_isstr ?_ | refine r_meth ?_ | refine r_make ?_ | refine r_fld ?_ | refine r_abs ?_ | refine r_isiIntInt ?_ | refine r_isiIntBool ?_ | refine r_isiStr ?_ | refine r_min ?_ | refine r_max ?_ | refine r_int1 ?_ | refine r_intb ?_ | refine r_for ?_ | refine r_itup ?_ | refine r_ilist ?_ | refine r_lc ?_ | refine r_yes ?_ | refine r_istr ?_ | refine r_rng1 ?_ | refine r_rng2 ?_ | refine r_dput ?_ | refine r_daug ?_ | refine r_dget ?_ | refine r_dnewT ?_ | refine r_addI ?_ | refine r_ev ?_ | refine r_sfld ?_ | refine r_faug ?_ | refine r_prop ?_ | refine r_while ?_ | refine r_augS ?_ | refine r_tupF ?_ | refine r_idxT ?_ | refine r_kd ?_ | refine r_ki ?_ | refine r_enum ?_))

local macro_rules | `(tactic| walk_at "hp") => `(tactic| (with_reducible first
  | assumption | exact New.at (by assumption)
  | exact SqT.of (by walk_at "hp") | exact SqL.of (by walk_at "hp") | exact Or.inl (by walk_at "hp") | exact Or.inr (by walk_at "hp")
  | exact New.get (by assumption) (by walk_at "hp") | exact Same.get (by assumption) (by walk_at "hp")))

theorem file_ok : (P0.main.file == P0.main.file) = true := beq_self_eq_true _
theorem super_ok : (P0.main.scope.names.lookup ("super" : PySem.Str)).isSome = false := by decide +kernel
section
variable {P : Program} {w : World} {K : PySem.W.Frag} {mg : Str → Option Value} {base : Heap}
theorem passF {X : Cx} : Passes (L2.CX X.prog X.w) X (fun _ _ _ => False) := fun _ _ _ _ _ _ _ ⟨_, _, _, _, _, _, _, _, _, _, _, _, h⟩ => h.elim
structure MetE (P : Program) (w : World) (K : PySem.W.Frag) (mg : Str → Option Value) (base : Heap) (k : Nat) (C : Addr) (m : Str) (sp : Sp) : Prop where
  ex : ∃ (f : Addr) (fd : FuncData) (ps : List Str), Cls K C ∧ Meth K C m f ∧ FnOk P w K mg base (L2.CX P w) k f fd ps sp ∧ Binds K fd ps []
structure CalE (P : Program) (w : World) (K : PySem.W.Frag) (mg : Str → Option Value) (base : Heap) (k : Nat) (x : Str) (sp : Sp) : Prop where
  ex : ∃ (f : Addr) (fd : FuncData) (ps : List Str), FnOk P w K mg base (L2.CX P w) k f fd ps sp ∧ mg x = some (.ref f) ∧ PySem.W.keepIn K (.ref f) = true ∧ Binds K fd ps []
theorem metE_of {k : Nat} {C : Addr} {x q : Str} {params : Arguments} {body : List Stmt} {scope : Scope} {f : Addr} {fd : FuncData} {N ps : List Str} {sp : Sp} (c : Cls K C) (me : Meth K C x f) (F : FunD K x q params body scope [] [] f fd)
    (b : ∀ (kV doc pm : Value) (an : Option Addr) (cdv ct : Value) (us : List Value), us.length = ps.length → bindArgs (PySem.W.fnOf x q params body scope Value.none kV doc pm an cdv ct) { pos := us } = pure (ps.zip us))
    (S : FnScope N ps scope) (len : ∀ vs H Q E, sp vs H Q E → vs.length = ps.length)
    (hbody : ∀ (cdv : Value) (A : Around) (outer : List Env) (s : Shared) (H : Hp) (vs : List V) (Q : VK) (E : XK), Room k (A.deeper (envOfC q scope s.heap.objs.size f cdv)) → sp vs H Q E →
      ∃ t, PSs (cxOf (L2.CX P w) P w K mg base N q scope f cdv A outer s H E) body t ∧ t { nx := fun _ H' => Q .non H', rt := Q } (L2.start N vs) H) : MetE P w K mg base (k + 1) C x sp :=
  ⟨f, fd, ps, c, me, F.ok S len hbody, F.bindsN b⟩
theorem calE_of {k : Nat} {x : Str} {params : Arguments} {body : List Stmt} {scope : Scope} {f : Addr} {fd : FuncData} {N ps : List Str} {sp : Sp} (F : FunD K x x params body scope [] [] f fd) (gm : mg x = some (.ref f))
    (b : ∀ (kV doc pm : Value) (an : Option Addr) (cdv ct : Value) (us : List Value), us.length = ps.length → bindArgs (PySem.W.fnOf x x params body scope Value.none kV doc pm an cdv ct) { pos := us } = pure (ps.zip us))
    (S : FnScope N ps scope) (len : ∀ vs H Q E, sp vs H Q E → vs.length = ps.length)
    (hbody : ∀ (cdv : Value) (A : Around) (outer : List Env) (s : Shared) (H : Hp) (vs : List V) (Q : VK) (E : XK), Room k (A.deeper (envOfC x scope s.heap.objs.size f cdv)) → sp vs H Q E →
      ∃ t, PSs (cxOf (L2.CX P w) P w K mg base N x scope f cdv A outer s H E) body t ∧ t { nx := fun _ H' => Q .non H', rt := Q } (L2.start N vs) H) : CalE P w K mg base (k + 1) x sp :=
  ⟨f, fd, ps, F.ok S len hbody, gm, F.kp, F.bindsN b⟩
end
section
variable {X : Cx} {k j : Nat} {C : Addr} {x m : Str} {sp : Sp} {E : XK} {p pos apos : Pos} {e o : Expr} {es : List Expr} {ta : TE} {t : TA}
theorem pe_cE (c : CalE X.prog X.w X.K X.mg X.base k x sp) (hr : Room j X.A) (hk : k ≤ j) (hg : Gl X x) (hx : Passes (L2.CX X.prog X.w) X E) (ha : PA X (e :: es) t)
    (hdb : (x == ("__debug__" : Str)) = false := by decide) (he : starEach (e :: es) X.env = (false, eval e X.env) :: starEach es X.env := by rfl) (hpl : (backTo pos (starEach es X.env)).any (·.1) = false := by rfl) :
    PE X (.Call (.Name x p) (e :: es) [] pos) (tCall sp [] E t) := by
  obtain ⟨f, fd, ps, F, hm, kp, b⟩ := c.ex
  exact pe_call F (hr.mono hk) hg hm kp b .nil hx ha hdb he hpl
theorem pe_mtE {pl : Sem Bool} (c : MetE X.prog X.w X.K X.mg X.base k C m sp) (hr : Room j X.A) (hk : k ≤ j) (hx : Passes (L2.CX X.prog X.w) X E) (he : PE X o ta) (ha : PA X (e :: es) t)
    (hst : starEach (e :: es) X.env = (false, eval e X.env) :: starEach es X.env := by rfl) (hpl : (backTo pos (starEach es X.env)).any (·.1) = false := by rfl)
    (ht : eval (.Call (.Attribute o m apos) (e :: es) [] pos) X.env = (do
      let ov ← eval o X.env
      standAt apos.atName
      let (f, first) ← holding [ov] (getMethod ov m pl)
      callWith pos f first (backTo pos (starEach (e :: es) X.env)) (backToKw pos (keywordEach [] X.env))) := by rfl) :
    PE X (.Call (.Attribute o m apos) (e :: es) [] pos) (tMeth C m sp [] E ta t) := by
  obtain ⟨f, fd, ps, hc, hm, F, b⟩ := c.ex
  exact pe_meth (pl := pl) he hc hm F (hr.mono hk) b .nil hx ha hst hpl ht
theorem pe_mtE0 {pl : Sem Bool} (c : MetE X.prog X.w X.K X.mg X.base k C m sp) (hr : Room j X.A) (hk : k ≤ j) (hx : Passes (L2.CX X.prog X.w) X E) (he : PE X o ta)
    (ht : eval (.Call (.Attribute o m apos) [] [] pos) X.env = (do
      let ov ← eval o X.env
      standAt apos.atName
      let (f, first) ← holding [ov] (getMethod ov m pl)
      callWith pos f first (backTo pos (starEach [] X.env)) (backToKw pos (keywordEach [] X.env))) := by rfl) :
    PE X (.Call (.Attribute o m apos) [] [] pos) (tMeth C m sp [] E ta tNil) := by
  obtain ⟨f, fd, ps, hc, hm, F, b⟩ := c.ex
  exact pe_meth0 (pl := pl) he hc hm F (hr.mono hk) b .nil hx ht
end
section
variable {P : Program} {w : World} {K : PySem.W.Frag} {mg : Str → Option Value} {base : Heap}
def exV (K : PySem.W.Frag) : Kd → Value
  | .step => .ref (ga K "BadStep")
  | .name => .ref (ga K "BadName")
  | .number => .ref (ga K "BadNumber")
  | .now => .ref (ga K "NotNow")
  | .nothing => .ref (ga K "NothingDone")
/-- the attributes of an exception, if it has some, are known -/
def DOk (d : Option Addr) (H : Hp) : Prop := ∀ dd, d = some dd → ∃ fs, H dd = some (.xd fs)
theorem dok0 {H : Hp} : DOk none H := fun _ h => nomatch h
theorem dok1 {H : Hp} {dd : Addr} {fs : List (Str × V)} (h : H dd = some (.xd fs)) : DOk (some dd) H := fun _ e => by cases e; exact ⟨fs, h⟩
/-- what is behind a deed at the floor -/
def PostD (K : PySem.W.Frag) (X : List Addr) (f dx : Addr) (m0 : Nat) (r : Option Kd × List Fr) (H : Hp) (Q : VK) (E : XK) : Prop := match r with
  | (none, fs') => ∀ H', SameBut f H H' → FlAt K X H' f dx m0 fs' → Q .non H'
  | (some k, _) => ∀ d H', Same H H' → DOk d H' → E (exV K k) d H'
def sp_place (K : PySem.W.Frag) : Sp := fun vs H Q E => ∃ (X : List Addr) (f dx : Addr) (m0 : Nat) (fr : Fr) (fs : List Fr) (c : Nat), vs = [.ref f, .str (S [c])] ∧ FlAt K X H f dx m0 (fr :: fs) ∧
  (c ∈ fr.names → Q (.int (fr.names.idxOf c : Nat)) H) ∧ (c ∉ fr.names → E (exV K .name) none H)
theorem nm_mem {c : Nat} {l : List Nat} : S [c] ∈ l.map (fun n => S [n]) ↔ c ∈ l := by
  rw [List.mem_map]
  exact ⟨fun ⟨n, h, e⟩ => by rw [← (List.cons.inj (S_inj e)).1]; exact h, fun h => ⟨c, h, rfl⟩⟩
theorem nm_map (l : List Nat) : l.map nmV = (l.map fun n => S [n]).map V.str := by rw [List.map_map]; rfl
theorem e_Floor_place_of (T : Tx w K mg base) : MetE P0 w K mg base 1 (ga K "Floor") "place_of" (sp_place K) := by
  obtain ⟨fd, F⟩ := f_Floor_place_of T
  refine metE_of (cl_Floor T) (me_Floor_place_of T) F (fun _ _ _ _ _ _ us hl => match us, hl with | [_, _], _ => rfl) sc_Floor_place_of (fun vs H Q E h => by obtain ⟨_, _, _, _, _, _, _, rfl, _⟩ := h; rfl) (fun cdv A outer s H vs Q E hr h => ?_)
  obtain ⟨X, f, dx, m0, fr, fs, c, rfl, hf, k1, k2⟩ := h
  refine ⟨_, (pss_cons (ps_set (i := 2) sc_Floor_place_of.nd rfl (Or.inl rfl) (peFld (K := K) (peFld (K := K) (pv 0))))
  (pss_cons (ps_if (PW.pt (pw_or (pt_not (pt_val (pe_callB (callIsi (K := K)) rfl (b_isinstance T) bb_isinstance (pa_cons (pv 1) (pa_cons (pe_bltn (v := .ty "str") (by rfl) (b_str T) bb_str rfl) pa_nil))))) (pw_or1 (pt_cmpR (opNotIn (K := K)) (pv 1) (pv 2) (by rfl))))) (pss_one (ps_raise rfl (takes_of rfl rfl rfl rfl) (pmk_own PySem.F.excBase_ValueError (ex_BadName T).1 (g_BadName T) (ex_BadName T).2.1 (raises_own (ex_BadName T).2.2.1 (ex_BadName T).2.2.2) rfl))) pss_nil)
  (pss_one (ps_ret (peIdxT (K := K) (pv 2) (pa_cons (pv 1) pa_nil)))))), ?_⟩
  obtain ⟨a, dx', n, d, e, l, bf, h1, h2, h3, h4⟩ := r_stOf hf
  have hsq : SqT K H n ((fr.names.map fun n => S [n]).map V.str) := by rw [← nm_map]; exact NT.sq h3.nm
  walk_at "rd"
  refine r_fl h1 (cl_Floor T) (na_Floor_own_stand T) ?_
  refine r_fl h2 (cl_Stand T) (na_Stand_own_names T) ?_
  walk_at "rd"
  refine iteF ?_
  walk_at "rd"
  refine r_notInSt hsq ?_
  walk_at "rd"
  refine ifN (fun hn => ?_) (fun hn => ?_)
  · exact k2 (fun hm => hn (nm_mem.mpr hm))
  · have hc : c ∈ fr.names := nm_mem.mp hn
    walk_at "rd"
    refine ⟨n, _, rfl, h3.nm, ?_⟩
    walk_at "rd"
    refine ⟨fr.names.map fun n => S [n], S [c], fr.names.idxOf c, rfl, hsq, ?_, fun m hm e => ?_, k1 hc⟩
    · rw [List.getElem?_map, List.getElem?_eq_getElem (List.idxOf_lt_length_of_mem hc), List.getElem_idxOf]; rfl
    · have hl : m < fr.names.length := Nat.lt_of_lt_of_le hm (List.idxOf_le_length)
      rw [List.getElem?_map, List.getElem?_eq_getElem hl] at e
      have e2 : fr.names[m] = c := (List.cons.inj (S_inj (Option.some.inj e))).1
      exact absurd (beq_iff_eq.mpr e2) (by have := List.not_of_lt_findIdx (xs := fr.names) (p := (· == c)) hm; simpa using this)
def sp_become (K : PySem.W.Frag) : Sp := fun vs H Q _ => ∃ (X : List Addr) (f dx : Addr) (m0 : Nat) (fr : Fr) (fs : List Fr) (n d e q : Addr) (ns : List Nat) (ds : List Int) (es : List Nat) (dd : Dd), vs = [.ref f, .ref n, .ref d, .ref e, .ref q] ∧ FlAt K X H f dx m0 (fr :: fs) ∧
  (n ∉ X ∧ NT H n (ns.map nmV)) ∧ H d = some (.tup (ds.map V.int)) ∧ (e ∉ X ∧ Rd H e (.tup (es.map nmV))) ∧ H q = some (.tup (deedV dd)) ∧ fr.deeds.length ≤ 500 ∧
  ∀ H', SameBut f H H' → FlAt K X H' f dx m0 (⟨ns, ds, es, fr.deeds ++ [dd]⟩ :: fr :: fs) → Q .non H'
theorem c_Floor_become (T : Tx w K mg base) : C8.Met P w K mg base 3 (ga K "Floor") "become" (sp_become K) [] := by
  obtain ⟨fd, F⟩ := f_Floor_become T
  refine met_of (cl_Floor T) (me_Floor_become T) F (fun _ _ _ _ _ _ us hl => match us, hl with | [_, _, _, _, _], _ => rfl) sc_Floor_become (fun vs H Q E h => by obtain ⟨_, _, _, _, _, _, _, _, _, _, _, _, _, _, rfl, _⟩ := h; rfl) (fun cdv A outer s H vs Q E hr h => ?_)
  obtain ⟨X, f, dx, m0, fr, fs, n, d, e, q, ns, ds, es, dd, rfl, hf, ⟨hn1, hn2⟩, hd, ⟨he1, he2⟩, hq, hz, k⟩ := h
  refine ⟨_, (pss_cons (ps_set (i := 5) sc_Floor_become.nd rfl (Or.inl rfl) (peFld (K := K) (pv 0)))
  (pss_one (psFld (K := K) (pv 0) (C8.pe_mk (m_Stand (K := K) T) hr (by decide) rfl (pa_cons (pv 1) (pa_cons (pv 2) (pa_cons (pv 3) (pa_cons (pe_lst (paStar (K := K) (peFld (K := K) (pv 5)) (pa_cons (pv 4) pa_nil))) (pa_cons (pv 5) pa_nil))))))))), ?_⟩
  obtain ⟨s, hs1, hs2⟩ := hf.st
  obtain ⟨a, dx', n0, d0, e0, l0, bf, es0, ha0, h2, h3, h4⟩ := id hs2
  obtain ⟨as, h5, h6⟩ := h3.dd
  have hlen := h6.len
  subst es0
  walk_at "rd"
  refine r_fl hs1 (cl_Floor T) (na_Floor_own_stand T) ?_
  walk_at "rd"
  refine r_fl h2 (cl_Stand T) (na_Stand_own_deeds T) ?_
  refine ⟨l0, _, rfl, .inr (SqL.of h5), ?_⟩
  walk_at "rd"
  refine ⟨sz1000 (by rw [List.length_append, List.length_map]; simp; omega), ?_⟩
  (intro l2 hl_; generalize he_ : upd _ l2 _ = H2; have n2 := New.mk hl_ he_.symm; clear hl_ he_)
  walk_at "rd"
  refine r_stand fun a2 dx2 H3 ha2 s3 h3' => ?_
  walk_at "rd"
  have hs3 := s3 _ _ (n2.get hs1)
  have s03 : Same H H3 := n2.same.trans s3
  have ok3 := hf.ok.same s03
  have sX : SameX X H H3 := SameX.of s03
  refine r_sf hs3 (cl_Floor T) (na_Floor_own_stand T) ?_
  walk_at "rd"
  have hfa : a2 ≠ f := fun e => by subst e; rw [n2.get hs1] at ha2; cases ha2
  have sb : SameBut f H (upd H3 f (.ins (ga K "Floor") dx (putF "own_stand" (.ref a2) [("own_first", .int m0), ("own_stand", .ref a), ("own_block", .non)]))) := (SameBut.of s03).upd
  have sX2 : SameX X H3 (upd H3 f (.ins (ga K "Floor") dx (putF "own_stand" (.ref a2) [("own_first", .int m0), ("own_stand", .ref a), ("own_block", .non)]))) := SameX.but hf.fX SameBut.refl.upd
  refine k _ sb ⟨(ok3.but SameBut.refl.upd upd_same), hf.fX, .ref a2, upd_same, ?_⟩
  have hl2 : l2 ∉ X := hf.ok.new n2.free
  have fr' : FrAt K X H3 n d e l2 ⟨ns, ds, es, fr.deeds ++ [dd]⟩ := by
    refine ⟨hn1, nt_mono hn1 sX hn2, hf.ok.tup hd, s03 _ _ hd, he1, rd_mono he1 sX he2, hl2, as ++ [q], ?_, (h6.mono sX).snoc (hf.ok.tup hq) (s03 _ _ hq)⟩
    rw [s3 _ _ n2.at, List.map_append]; rfl
  exact ⟨a2, dx2, n, d, e, l2, .ref a, rfl, (hf.ok.same n2.same).new ha2, by rw [upd_ne hfa]; exact h3', fr'.mono sX2, (hs2.mono sX).mono sX2⟩
def sp_deed (K : PySem.W.Frag) (args : Dd → List V) : Sp := fun vs H Q E => ∃ (X : List Addr) (f dx : Addr) (m0 N : Nat) (fr : Fr) (fs : List Fr) (q : Dd), vs = .ref f :: args q ∧ okD q ∧ FlAt K X H f dx m0 (fr :: fs) ∧ Wf N fr ∧ N ≤ 100 ∧
  PostD K X f dx m0 (actF (fr :: fs) q) H Q E
def sp_fStep (K : PySem.W.Frag) : Sp := fun vs H Q E => ∃ (X : List Addr) (f dx : Addr) (m0 N : Nat) (fr : Fr) (fs : List Fr) (i : Int), vs = [.ref f, .int i] ∧ FlAt K X H f dx m0 (fr :: fs) ∧ Wf N fr ∧ N ≤ 100 ∧ PostD K X f dx m0 (actF (fr :: fs) (.step i)) H Q E
theorem e_Floor_step (T : Tx w K mg base) : MetE P0 w K mg base 4 (ga K "Floor") "step" (sp_fStep K) := by
  obtain ⟨fd, F⟩ := f_Floor_step T
  refine metE_of (cl_Floor T) (me_Floor_step T) F (fun _ _ _ _ _ _ us hl => match us, hl with | [_, _], _ => rfl) sc_Floor_step (fun vs H Q E h => by obtain ⟨_, _, _, _, _, _, _, _, rfl, _⟩ := h; rfl) (fun cdv A outer s H vs Q E hr h => ?_)
  obtain ⟨X, f, dx, m0, N, fr, fs, i, rfl, hf, W, hN, k⟩ := h
  refine ⟨_, (pss_cons (ps_set (i := 2) sc_Floor_step.nd rfl (Or.inl rfl) (peFld (K := K) (pv 0)))
  (pss_cons (ps_if (pt_not (pt_val (C8.pe_c (c_is_step (K := K) T) hr (by decide) rfl (pa_cons (pe_callB (callLen (K := K)) rfl (b_len T) bb_len (pa_cons (peFld (K := K) (pv 2)) pa_nil)) (pa_cons (pv 1) pa_nil))))) (pss_one (ps_raise rfl (takes_of rfl rfl rfl rfl) (pmk_own PySem.F.excBase_ValueError (ex_BadStep T).1 (g_BadStep T) (ex_BadStep T).2.1 (raises_own (ex_BadStep T).2.2.1 (ex_BadStep T).2.2.2) rfl))) pss_nil)
  (pss_one (ps_expr (C8.pe_mt (c_Floor_become (K := K) T) hr (by decide) (pv 0) (pa_cons (peFld (K := K) (pv 2)) (pa_cons (pe_tup (paStar (K := K) (peFld (K := K) (pv 2)) (pa_cons (pv 1) pa_nil))) (pa_cons (peFld (K := K) (pv 2)) (pa_cons (pe_tup (pa_cons pe_str (pa_cons (pv 1) pa_nil))) pa_nil))))))))), ?_⟩
  obtain ⟨a, dx', n, d, e, l, bf, h1, h2, h3, h4⟩ := r_stOf hf
  simp only [actF] at k
  walk_at "rd"
  refine r_fl h1 (cl_Floor T) (na_Floor_own_stand T) ?_
  walk_at "rd"
  refine r_fl h2 (cl_Stand T) (na_Stand_own_names T) ?_
  walk_at "rd"
  refine r_lenT (NT.sq h3.nm) ?_
  rw [List.length_map]
  walk_at "rd"
  refine ⟨fr.names.length, i, rfl, ?_⟩
  walk_at "rd"
  by_cases hi : 1 ≤ i.natAbs ∧ i.natAbs < fr.names.length
  · rw [if_pos hi] at k
    rw [decide_eq_true hi]
    refine iteF ?_
    walk_at "rd"
    refine r_me h1 ?_
    walk_at "rd"
    refine r_fl h2 (cl_Stand T) (na_Stand_own_names T) ?_
    walk_at "rd"
    refine r_fl h2 (cl_Stand T) (na_Stand_own_dance T) ?_
    refine ⟨d, _, rfl, .inl (SqT.of h3.dn), ?_⟩
    walk_at "rd"
    refine ⟨sz1000 (by have := W.dl; rw [List.length_append, List.length_map]; simp; omega), ?_⟩
    (intro d2 hl_; generalize he_ : upd _ d2 _ = H2; have n2 := New.mk hl_ he_.symm; clear hl_ he_)
    walk_at "rd"
    refine r_fl (n2.get h2) (cl_Stand T) (na_Stand_own_ever T) ?_
    walk_at "rd"
    refine ⟨(sz1000 (Nat.le_of_ble_eq_true rfl)), ?_⟩
    (intro q hl_; generalize he_ : upd _ q _ = H3; have n3 := New.mk hl_ he_.symm; clear hl_ he_)
    have s3 : Same H H3 := n2.same.trans n3.same
    refine ⟨X, f, dx, m0, fr, fs, n, d2, e, q, fr.names, fr.dance ++ [i], fr.ever, .step i, rfl, hf.same s3, ⟨h3.nX, h3.nm.same s3⟩, ?_, ⟨h3.eX, rd_mono h3.eX (SameX.of s3) h3.ev⟩, n3.at, by have := W.ql; omega, fun H4 sb hf4 => ?_⟩
    · rw [n3.get n2.at, List.map_append]; rfl
    · walk_at "rd"
      exact k H4 (fun b u hb hu => sb b u hb (s3 b u hu)) hf4
  · rw [if_neg hi] at k
    rw [decide_eq_false hi]
    refine iteT ?_
    exact k none H (Same.refl _) dok0
def sp_fUndo (K : PySem.W.Frag) : Sp := fun vs H Q E => ∃ (X : List Addr) (f dx : Addr) (m0 : Nat) (fr : Fr) (fs : List Fr), vs = [.ref f] ∧ FlAt K X H f dx m0 (fr :: fs) ∧ PostD K X f dx m0 (actF (fr :: fs) .undo) H Q E
theorem e_Floor_undo (T : Tx w K mg base) : MetE P0 w K mg base 1 (ga K "Floor") "undo" (sp_fUndo K) := by
  obtain ⟨fd, F⟩ := f_Floor_undo T
  refine metE_of (cl_Floor T) (me_Floor_undo T) F (fun _ _ _ _ _ _ us hl => match us, hl with | [_], _ => rfl) sc_Floor_undo (fun vs H Q E h => by obtain ⟨_, _, _, _, _, _, rfl, _⟩ := h; rfl) (fun cdv A outer s H vs Q E hr h => ?_)
  obtain ⟨X, f, dx, m0, fr, fs, rfl, hf, k⟩ := h
  refine ⟨_, (pss_cons (ps_if (pt_cmpR op_isN1 (peFld (K := K) (peFld (K := K) (pv 0))) pe_non (nomark _)) (pss_one (ps_raise rfl (takes_of rfl rfl rfl rfl) (pmk_own PySem.F.excBase_ValueError (ex_NothingDone T).1 (g_NothingDone T) (ex_NothingDone T).2.1 (raises_own (ex_NothingDone T).2.2.1 (ex_NothingDone T).2.2.2) rfl))) pss_nil)
  (pss_one (psFld (K := K) (pv 0) (peFld (K := K) (peFld (K := K) (pv 0)))))), ?_⟩
  obtain ⟨s, hs1, hs2⟩ := hf.st
  obtain ⟨a, dx', n, d, e, l, bf, es0, ha0, h2, h3, h4⟩ := id hs2
  subst es0
  simp only [actF] at k
  walk_at "rd"
  refine r_fl hs1 (cl_Floor T) (na_Floor_own_stand T) ?_
  refine r_fl h2 (cl_Stand T) (na_Stand_own_before T) ?_
  walk_at "rd"
  cases fs with
  | nil =>
    have hb : bf = .non := h4
    subst hb
    rw [if_pos rfl] at k
    refine ifD (fun _ => ?_) (fun h => absurd rfl h)
    exact k none H (Same.refl _) dok0
  | cons fr2 fs =>
    rw [if_neg (List.cons_ne_nil _ _)] at k
    have h4' := h4
    obtain ⟨a2, dx2, n2, d2, e2, l2, bf2, eb, _⟩ := h4
    subst eb
    refine ifD (fun h => nomatch h) (fun _ => ?_)
    walk_at "rd"
    refine r_fl hs1 (cl_Floor T) (na_Floor_own_stand T) ?_
    refine r_fl h2 (cl_Stand T) (na_Stand_own_before T) ?_
    walk_at "rd"
    refine r_sf hs1 (cl_Floor T) (na_Floor_own_stand T) ?_
    walk_at "rd"
    have sb : SameBut f H (upd H f (.ins (ga K "Floor") dx (putF "own_stand" (.ref a2) [("own_first", .int m0), ("own_stand", .ref a), ("own_block", .non)]))) := SameBut.refl.upd
    exact k _ sb ⟨hf.ok.but sb upd_same, hf.fX, .ref a2, upd_same, h4'.mono (SameX.but hf.fX sb)⟩
end
end My
end

section
set_option Elab.async false
set_option linter.all false
set_option maxRecDepth 100000
set_option maxHeartbeats 4000000
/-! XF: a caught exception that is kept in a name behind its suite; isinstance of it. -/
namespace My
open PySem PySem.Spec PyProof.Rows L2
/-- the exception of the class cls that was caught -/
def ExC (cls : Value) (d : Option Addr) (a : Addr) : HO := .ext fun h => ∃ (oe : Obj) (vs : Array Value), h.get? a = some oe ∧ Zc cls d oe ∧ oe.data = .fields vs
theorem exC_ok {P : Program} {w : World} {H : Hp} {h : Heap} {a : Addr} {cls : Value} {d : Option Addr} {oe : Obj} {vs : Array Value} (e : h.get? a = some oe) (z : Zc cls d oe) (f : oe.data = .fields vs) : ObjOk P w H h a (ExC cls d a) :=
  ⟨⟨oe, vs, e, z, f⟩, ⟨oe, e⟩, fun _ _ ⟨o, v, q, r⟩ st => ⟨o, v, st o q, r⟩⟩
section
variable {X : Cx} {pins : List (Addr × Obj)} {σ : St} {H : Hp} {s : Shared}
/-- an object that was not there at the entry is known from now on -/
theorem inv_track {a : Addr} {cls : Value} {d : Option Addr} {oe : Obj} {vs : Array Value} (I : Inv X pins σ H s) (ha : s.heap.get? a = some oe) (hz : Zc cls d oe) (hv : oe.data = .fields vs) (hn : H a = none) (n0 : X.s_0.heap.get? a = none)
    (nL : a ≠ X.env.locals) (np : ∀ p ∈ X.pn ++ pins, p.1 ≠ a) : Inv X pins σ (upd H a (ExC cls d a)) s := by
  have apart : ∀ {b : Addr} {u : HO}, H b = some u → b ≠ a := fun q z => by rw [z, hn] at q; cases q
  have old : ∀ {b : Addr} {o : Obj}, X.s_0.heap.get? b = some o → b ≠ a := fun q z => by rw [z, n0] at q; cases q
  have J := I.hok.laidN (h' := s.heap) (fun _ _ q => q) hn (exC_ok (P := X.prog) (w := X.w) (H := upd H a (ExC cls d a)) ha hz hv)
  refine ⟨I.ok, I.os, I.bare, ⟨I.base.keep, I.base.slot, fun b o e n hx => ?_, I.base.there, fun b xs e => ?_, fun b o u e => ?_, fun b ps e => ?_⟩, I.loc, I.cell, ?_, fun x c e => ?_, fun p hp => ?_, J, I.len⟩
  · rw [upd_ne (old e)]; exact I.base.free b o e n hx
  · have q := I.base.tups b xs e
    rw [upd_ne (apart q)]; exact q
  · have q := I.base.frzs b o u e
    rw [upd_ne (apart q)]; exact q
  · obtain ⟨m, q⟩ := I.base.tbls b ps e
    exact ⟨m, by rw [upd_ne (apart q)]; exact q⟩
  · rw [upd_ne (Ne.symm nL)]; exact I.free
  · have hca : c ≠ a := fun z => by
      obtain ⟨v, o, q1, q2⟩ := I.cell x c e
      rw [z, ha] at q1
      cases q1
      rw [hv] at q2
      cases q2
    rw [upd_ne hca]; exact I.freeC x c e
  · obtain ⟨q1, q2, q3⟩ := I.pin p hp
    exact ⟨q1, by rw [upd_ne (np p hp)]; exact q2, q3⟩
end
/-- what the clause wishes of an exception that it keeps -/
def wHold (K : PySem.W.Frag) (c : Value) (i : Nat) (ts : Addr → Value → Option Addr → TS) (D : Ends) : WX := fun cls d σ H => PySem.W.exmOne K cls c = some true ∧
  ∀ a, H a = none → ts a cls d ⟨fun σ' H' => H' a = none → D.nx (σ'.set i none) (upd H' a (ExC cls d a)), fun _ _ => False, fun _ _ => False, fun _ _ => False⟩ (σ.set i (some (.ref a))) H
section
variable {X : Cx} {x n : Str} {c : Value} {i : Nat} {body suite : List Stmt} {b₀ : Stmt} {np pos pos' : Pos} {tb : WX → TS} {ts : Addr → Value → Option Addr → TS}
theorem ps_tryHold (hs : X.stack = X.env :: X.outer) (hf : X.env.frame = some X.env.locals) (hN : X.N.Nodup) (hi : X.N[i]? = some n) (hln : X.env.kindOf n = some .local) (hc : Names X x c) (hx : X.ex = [])
    (hb : ∀ (W : WX) (pn : List (Addr × Obj)) (xe : Value → Shared → Prop), Takes (X.tr pn xe) W → PassesOwn (model X.prog X.w) X.A X.env xe → PSs (X.tr pn xe) body (tb W))
    (hsu : ∀ (a : Addr) (oe : Obj) (cls : Value) (d : Option Addr) (pn : List (Addr × Obj)), PSs (X.suite a ((a, oe) :: pn)) (b₀ :: suite) (ts a cls d)) :
    PS X (.Try body [.ExceptHandler (some (.Name x np)) (some n) (b₀ :: suite) pos'] [] [] pos) (fun D σ H => tb (wHold X.K c i ts D) D σ H) := by
  refine ⟨fun pins s σ H D I h => wpAny_Try_except ?_⟩
  have okX := I.ok
  have frX : X.A.frames = some (X.env :: X.outer) := okX.frames.trans (congrArg some hs)
  have lcX : Loc X.env.scope n := .inl hln
  refine wpAny_mono ((hb (wHold X.K c i ts D) (X.pn ++ pins) _ (fun u s' air => ?_) PassesOwn.looking).run [] s σ H D (I.toTry _) h) (fun f s1 done => ?_) (fun _ _ z => z)
  rotate_left
  · cases f with
    | next =>
      obtain ⟨σ', H', J, q⟩ := done
      exact wpAny_execs_nil ⟨σ', H', J.ofTry okX, q⟩
    | brk =>
      obtain ⟨σ', H', J, q⟩ := done
      exact ⟨σ', H', J.ofTry okX, q⟩
    | cont =>
      obtain ⟨σ', H', J, q⟩ := done
      exact ⟨σ', H', J.ofTry okX, q⟩
    | ret u =>
      obtain ⟨v, σ', H', J, r, q⟩ := done
      exact ⟨v, σ', H', J.ofTry okX, r, q⟩
  obtain ⟨a, G, sG, pinsG, σG, HG, cls, d, rfl, JG, inG, upG, skyG, freshA, osG, bareG, isM, wish⟩ := air
  have J0 : Inv X pins σG HG sG := JG.ofTry okX
  have skyA : Sky G (X.env :: X.outer) a (Zc cls d) X.env.locals s'.heap := hs ▸ skyG
  refine Sky.land Zc.steady frX hf skyA fun hA flA upA => ?_
  have JA : Inv X pins σG HG { s' with heap := hA } := J0.landed inG flA.1 (upG.trans upA) osG bareG
  obtain ⟨oA, vA, gA, zA, dA⟩ := flA.there
  have offFr : a ∉ frs (X.env :: X.outer) := fun hm => by
    obtain ⟨_, o', q, noF⟩ := flA.2.2.1.mem hm
    rw [gA] at q
    cases q
    exact noF _ dA
  have offL : a ≠ X.env.locals := fun z => offFr (List.mem_filterMap.mpr ⟨X.env, .head _, by rw [hf, z]⟩)
  have offF : a ∉ X.fs := fun hm => let ⟨e, he, q⟩ := List.mem_filterMap.mp hm; offFr (List.mem_filterMap.mpr ⟨e, .tail _ he, q⟩)
  have notG : sG.heap.get? a = none := by
    cases q : sG.heap.get? a with
    | none => rfl
    | some o =>
      have z := inG a o q (by rw [hs]; exact offFr)
      rw [flA.2.1] at z
      cases z
  have not0 : X.s_0.heap.get? a = none := by
    cases q : X.s_0.heap.get? a with
    | none => rfl
    | some o =>
      obtain ⟨o', z⟩ := J0.base.there a o q (by rw [hx]; exact fun z => nomatch z)
      rw [notG] at z
      cases z
  have notP : ∀ p ∈ X.pn ++ pins, p.1 ≠ a := fun p hp z => by
    have q := (J0.pin p hp).1
    rw [z, notG] at q
    cases q
  refine wpAny_handleBy_cons (codeAny_handlers_test ?_) (by intro q; cases q)
  have LT : PySem.W.Looks (model X.prog X.w) hA (typeOf (.ref a)) cls := fun _ _ _ _ k q => wpAny_typeOf_ref (k _ _ gA) (by rw [zA.1]; exact q)
  have SA := JA.suite gA dA freshA offL offF
  have name : ∀ {Q E : Value → Shared → Prop}, Q c { s' with heap := hA } → wpAny (model X.prog X.w) (X.A.mark (some (.ref a))) (eval (.Name x np) X.env) Q E { s' with heap := hA } := fun q => by
    obtain ⟨hg, hdb, h1 | ⟨h1, h2, h3⟩⟩ := hc
    · exact ld_glob (X := X.suite a ((a, oA) :: (X.pn ++ pins))) SA hg h1 q hdb
    · exact ld_blt (X := X.suite a ((a, oA) :: (X.pn ++ pins))) SA hg h1 h2 q h3 hdb
  refine name ((PySem.W.exm_one (M := model X.prog X.w) JA.kIn LT isM).here (codeAny_handlers_suite_as (HandSPX.lands_againZ flA fun hB flB upB => ?_)))
  have JB : Inv X pins σG HG { s' with heap := hB } := J0.landed inG flB.1 ((upG.trans upA).trans upB) osG bareG
  obtain ⟨oB, vB, gB, zB, dB⟩ := flB.there
  have SB := JB.suite gB dB freshA offL offF
  refine store_ok (X := X.suite a ((a, oB) :: (X.pn ++ pins))) (v := .ref a) SB hN hi lcX rfl (fun s5 S5 => ?_) (.inr hln)
  refine wpAny_mono ((hsu a oB cls d (X.pn ++ pins)).run [] s5 _ HG _ S5 (wish a freshA)) (fun f s6 done => ?_) (fun _ _ z => False.elim z)
  cases f with
  | next =>
    obtain ⟨σ6, H6, S6, q6⟩ := done
    obtain ⟨g6, n6, _⟩ := S6.pin (a, oB) (List.mem_append.mpr (.inl (.head _)))
    exact gone_ok (inv_track (S6.unsuite okX) g6 zB dB n6 not0 offL notP) hN hi hln fun s7 J7 => ⟨_, _, J7, q6 n6⟩
  | brk => obtain ⟨_, _, _, z⟩ := done; exact z.elim
  | cont => obtain ⟨_, _, _, z⟩ := done; exact z.elim
  | ret u => obtain ⟨_, _, _, _, _, z⟩ := done; exact z.elim
/-- isinstance(e, c), e such an exception -/
def rIsX (K : PySem.W.Frag) : List V → Hp → VK → Prop := fun xs H Q => ∃ (D a : Addr) (d : Option Addr) (c : V) (cv : Value) (b : Bool), xs = [.ref a, c] ∧ H a = some (ExC (.ref D) d a) ∧ DOk d H ∧ ExcC K D ∧ (∀ u, RelV c u → u = cv) ∧ PySem.W.kitOne K (.ref D) cv = some b ∧ Q (.bl b) H
theorem call_isX {X : Cx} {K : PySem.W.Frag} (hk : X.K = K := by rfl) : CallR X (.builtin "isinstance") (rIsX K) := by
  subst hk
  intro pins s σ H xs us Q I r h
  obtain ⟨D, a, d, c, cv, b, rfl, ha, hd, C, hcv, e, q⟩ := h
  cases r with
  | cons rx rr =>
    cases rr with
    | cons rt rr =>
      cases rr
      cases rx
      have ec := hcv _ rt
      subst ec
      obtain ⟨⟨oe, vs, g1, ⟨z1, z2⟩, g2⟩, _, _⟩ := I.hok a _ ha
      have fin : ∀ od : Option Obj, PySem.W.InstAt s.heap a oe D od → wpAny (model X.prog X.w) X.A (call (.builtin "isinstance") [.ref a, _]) (EP X pins σ Q) X.xe s := fun od J => by
        have hcl : (PySem.W.clsIn X.K D).isSome = true := by
          obtain ⟨cd, hc, _⟩ := PySem.W.any_some C.hd
          rw [hc]; rfl
        exact PySem.W.kia_one (PySem.W.kitx_exc (od := od) hcl C.hg C.hk C.hs C.ha C.hn C.ht C.hm) I.kIn J e (fun z => nomatch z) fun tk => ⟨.bl b, H, I.kept (t' := tk) fun _ _ z => z, rfl, q⟩
      obtain ⟨oc, od, oda, osl⟩ := oe
      dsimp only at z1 z2 g2
      subst z1 z2 g2
      cases od with
      | none => exact fin none ⟨g1, rfl, rfl, trivial⟩
      | some dd =>
        obtain ⟨fs, hx⟩ := hd dd rfl
        obtain ⟨_, ⟨o, _, _, e2, _⟩, _⟩ := I.hok dd _ hx
        exact fin (some o) ⟨g1, rfl, rfl, e2⟩
end
end My
end

section
set_option Elab.async false
set_option linter.all false
set_option maxRecDepth 100000
set_option maxHeartbeats 4000000
/-! MR: leave, join, a floor made, lead, ==. -/
namespace My
open PySem PySem.Spec PyProof.Rows L2 He LamX SX
local macro_rules | `(tactic| walk_at "rd") => `(tactic| repeat (with_reducible first
  | refine r_seq ?_ | refine r_asg ?_ | refine r_var (by with_unfolding_all rfl) ?_ | refine r_c ?_ | refine r_op ?_ | refine r_I0 ?_ | refine r_name ?_ | refine r_ret ?_ | refine r_if ?_ | refine r_cons ?_ | refine r_nil ?_
  | refine r_CB ?_ | refine r_call ?_ | refine r_test ?_ | refine r_eqI ?_ | refine r_eqS ?_ | refine r_neI ?_ | refine r_neS ?_ | refine r_drop ?_ | refine r_next ?_ | refine r_ifE ?_ | refine r_B ?_ | refine r_andV ?_ | refine r_orV ?_ | refine r_notV ?_ | refine r_blV ?_
  | refine r_and ?_ | refine r_or ?_ | refine r_not ?_ | refine r_tup ?_ | refine r_lst ?_ | refine r_par ?_ | refine r_exv2 ?_ | refine r_un ?_ | refine r_neg ?_ | refine r_isN ?_ | refine r_notN ?_ | refine r_retN ?_ | refine r_chain ?_
  | refine r_star ?_ | refine r_lstRg ?_ | refine r_rg1 ?_ | refine r_rg2 ?_ | refine r_exi ?_ | refine r_exi2 ?_ | refine r_sl ?_ | refine r_noPart ?_ | refine r_part ?_ | refine r_gnil ?_ | refine r_gcons ?_ | refine r_gsub ?_ | refine r_BM ?_ | refine r_M1 ?_ | refine r_isstr ?_ | refine r_meth ?_ | refine r_make ?_ | refine r_fld ?_ | refine r_abs ?_ | refine r_isiIntInt ?_ | refine r_isiIntBool ?_ | refine r_isiStr ?_ | refine r_min ?_ | refine r_max ?_ | refine r_int1 ?_ | refine r_intb ?_ | refine r_for ?_ | refine r_itup ?_ | refine r_ilist ?_ | refine r_lc ?_ | refine r_yes ?_ | refine r_istr ?_ | refine r_rng1 ?_ | refine r_rng2 ?_ | refine r_dput ?_ | refine r_daug ?_ | refine r_dget ?_ | refine r_dnewT ?_ | refine r_addI ?_ | refine r_ev ?_ | refine r_sfld ?_ | refine r_faug ?_ | refine r_prop ?_ | refine r_while ?_ | refine r_augS ?_ | refine r_tupF ?_ | refine r_idxT ?_ | refine r_kd ?_ | refine r_ki ?_ | refine r_enum ?_))

local macro_rules | `(tactic| walk_at "rn") => `(tactic| repeat (with_reducible first
  | refine r_seq ?_ | refine r_asg ?_ | refine r_var (by with_unfolding_all rfl) ?_ | refine r_c ?_ | refine r_op ?_ | refine r_I0 ?_ | refine r_name ?_ | refine r_ret ?_ | refine r_cons ?_ | refine r_nil ?_
  | refine r_CB ?_ | refine r_call ?_ | refine r_test ?_ | refine r_eqI ?_ | refine r_eqS ?_ | refine r_neI ?_ | refine r_neS ?_ | refine r_drop ?_ | refine r_next ?_ | refine r_B ?_ | refine r_andV ?_ | refine r_orV ?_ | refine r_notV ?_ | refine r_blV ?_
  | refine r_and ?_ | refine r_or ?_ | refine r_not ?_ | refine r_tup ?_ | refine r_lst ?_ | refine r_par ?_ | refine r_exv2 ?_ | refine r_un ?_ | refine r_neg ?_ | refine r_isN ?_ | refine r_notN ?_ | refine r_retN ?_ | refine r_chain ?_
  | refine r_star ?_ | refine r_lstRg ?_ | refine r_rg1 ?_ | refine r_rg2 ?_ | refine r_exi ?_ | refine r_exi2 ?_ | refine r_sl ?_ | refine r_noPart ?_ | refine r_part ?_ | refine r_gnil ?_ | refine r_gcons ?_ | refine r_gsub ?_ | refine r_BM ?_ | refine r_M1 ?_ | refine r_isstr ?_ | refine r_meth ?_ | refine r_make ?_ | refine r_fld ?_ | refine r_abs ?_ | refine r_isiIntInt ?_ | refine r_isiIntBool ?_ | refine r_isiStr ?_ | refine r_min ?_ | refine r_max ?_ | refine r_int1 ?_ | refine r_intb ?_ | refine r_for ?_ | refine r_itup ?_ | refine r_ilist ?_ | refine r_lc ?_ | refine r_yes ?_ | refine r_istr ?_ | refine r_rng1 ?_ | refine r_rng2 ?_ | refine r_dput ?_ | refine r_daug ?_ | refine r_dget ?_ | refine r_dnewT ?_ | refine r_addI ?_ | refine r_ev ?_ | refine r_sfld ?_ | refine r_faug ?_ | refine r_prop ?_ | refine r_while ?_ | refine r_augS ?_ | refine r_tupF ?_ | refine r_idxT ?_ | refine r_kd ?_ | refine r_ki ?_ | refine r_enum ?_))

local macro_rules | `(tactic| walk_at "hp") => `(tactic| (with_reducible first
  | assumption | exact New.at (by assumption)
  | exact SqT.of (by walk_at "hp") | exact SqL.of (by walk_at "hp") | exact Or.inl (by walk_at "hp") | exact Or.inr (by walk_at "hp")
  | exact New.get (by assumption) (by walk_at "hp") | exact Same.get (by assumption) (by walk_at "hp")))

theorem stay_map (m o : Nat) : ((List.range m).filter fun (i : Nat) => decide ((i : Int) ≠ (o : Int))).map (fun i : Nat => V.int (i : Int)) = (stayL m o).map V.int := by
  unfold stayL line0
  rw [List.filter_map, List.map_map]
  rfl
theorem drop1_map (l : List Nat) (o : Nat) : (l.take o).map nmV ++ (l.drop (o + 1)).map nmV = (drop1 l o).map nmV := by unfold drop1; rw [List.map_append]
def let26 : List Nat := (List.range 26).map (97 + ·)
def fr0 (m : Nat) : Fr := ⟨let26.take m, [], let26.take m, []⟩
theorem fr0_wf {m : Nat} (h1 : 2 ≤ m) (h2 : m ≤ 5) : Wf 0 (fr0 m) := by
  have key : ∀ m ∈ ([2, 3, 4, 5] : List Nat), 2 ≤ (let26.take m).length ∧ (let26.take m).length ≤ 5 ∧ (∀ n ∈ let26.take m, 97 ≤ n ∧ n ≤ 122) ∧ (let26.take m).Nodup := by decide
  obtain ⟨a, b, c, d⟩ := key m (by simp only [List.mem_cons, List.not_mem_nil, or_false]; omega)
  exact ⟨a, b, c, c, d, fun n h => h, (fun _ h => nomatch h), Nat.le_refl _, Nat.le_refl _, b, (fun _ h => nomatch h)⟩
theorem fr0_len {m : Nat} (h2 : m ≤ 5) : (fr0 m).names.length = m := by show (let26.take m).length = m; rw [List.length_take]; simp [let26]; omega
section
variable {P : Program} {w : World} {K : PySem.W.Frag} {mg : Str → Option Value} {base : Heap}
def sp_fLeave (K : PySem.W.Frag) : Sp := fun vs H Q E => ∃ (X : List Addr) (f dx : Addr) (m0 N : Nat) (fr : Fr) (fs : List Fr) (c : Nat), vs = [.ref f, .str (S [c])] ∧ FlAt K X H f dx m0 (fr :: fs) ∧ Wf N fr ∧ N ≤ 100 ∧ PostD K X f dx m0 (actF (fr :: fs) (.leave c)) H Q E
/-- a method that is called with its one parameter by name, too -/
structure MetEK (P : Program) (w : World) (K : PySem.W.Frag) (mg : Str → Option Value) (base : Heap) (k : Nat) (C : Addr) (m : Str) (sp : Sp) (ks : List Str) : Prop where
  ex : ∃ (f : Addr) (fd : FuncData) (ps : List Str), Cls K C ∧ Meth K C m f ∧ FnOk P w K mg base (L2.CX P w) k f fd ps sp ∧ Binds K fd ps [] ∧ KBn K fd ps 1 ks (fun us ws => us ++ ws) (fun vs zs => vs ++ zs)
theorem MetEK.toE {k : Nat} {C : Addr} {m : Str} {sp : Sp} {ks : List Str} (h : MetEK P w K mg base k C m sp ks) : MetE P w K mg base k C m sp := let ⟨f, fd, ps, a, b, c, d, _⟩ := h.ex; ⟨f, fd, ps, a, b, c, d⟩
theorem metEK_of {k : Nat} {C : Addr} {x q : Str} {params : Arguments} {body : List Stmt} {scope : Scope} {f : Addr} {fd : FuncData} {N ps ks : List Str} {sp : Sp} (c : Cls K C) (me : Meth K C x f) (F : FunD K x q params body scope [] [] f fd)
    (b : ∀ (kV doc pm : Value) (an : Option Addr) (cdv ct : Value) (us : List Value), us.length = ps.length → bindArgs (PySem.W.fnOf x q params body scope Value.none kV doc pm an cdv ct) { pos := us } = pure (ps.zip us))
    (b2 : ∀ (kV doc pm : Value) (an : Option Addr) (cdv ct : Value) (us ws : List Value), us.length = 1 → ws.length = ks.length → bindArgs (PySem.W.fnOf x q params body scope Value.none kV doc pm an cdv ct) ⟨us, ks.zip ws⟩ = pure (ps.zip (us ++ ws)))
    (S : FnScope N ps scope) (len : ∀ vs H Q E, sp vs H Q E → vs.length = ps.length)
    (hbody : ∀ (cdv : Value) (A : Around) (outer : List Env) (s : Shared) (H : Hp) (vs : List V) (Q : VK) (E : XK), Room k (A.deeper (envOfC q scope s.heap.objs.size f cdv)) → sp vs H Q E →
      ∃ t, PSs (cxOf (L2.CX P w) P w K mg base N q scope f cdv A outer s H E) body t ∧ t { nx := fun _ H' => Q .non H', rt := Q } (L2.start N vs) H) : MetEK P w K mg base (k + 1) C x sp ks := by
  refine ⟨f, fd, ps, c, me, F.ok S len hbody, F.bindsN b, ?_⟩
  obtain ⟨oc, od, dV, kV, doc, pm, an, cdv, ct, osl, rfl, lk, hcd, hD, hK⟩ := F.ex
  rcases hD with ⟨_, rfl⟩ | ⟨e, _⟩
  · exact ⟨fun s us ws _ h1 h2 => .of_eq (b2 kV doc pm an cdv ct us ws h1 h2), fun r1 r2 => r1.append r2⟩
  · exact absurd rfl e
theorem ek_Floor_leave (T : Tx w K mg base) : MetEK P0 w K mg base 7 (ga K "Floor") "leave" (sp_fLeave K) ["name"] := by
  obtain ⟨fd, F⟩ := f_Floor_leave T
  refine metEK_of (cl_Floor T) (me_Floor_leave T) F (fun _ _ _ _ _ _ us hl => match us, hl with | [_, _], _ => rfl) (fun _ _ _ _ _ _ us ws h1 h2 => match us, ws, h1, h2 with | [_], [_], _, _ => rfl) sc_Floor_leave (fun vs H Q E h => by obtain ⟨_, _, _, _, _, _, _, _, rfl, _⟩ := h; rfl) (fun cdv A outer s H vs Q E hr h => ?_)
  obtain ⟨X, f, dx, m0, N, fr, fs, c, rfl, hf, W, hN, k⟩ := h
  refine ⟨_, (pss_cons (ps_asg (pe_tup (pa_cons (peFld (K := K) (pv 0)) (pa_cons (pe_mtE (e_Floor_place_of (K := K) T) hr (by decide) (passes_call (takes_of rfl rfl rfl rfl) (fun _ _ _ _ h => h)) (pv 0) (pa_cons (pv 1) pa_nil)) pa_nil))) (pgTup (K := K) (n := 2) rfl (pgs_cons (pg_name (i := 2) sc_Floor_leave.nd rfl (Or.inl rfl)) (pgs_cons (pg_name (i := 3) sc_Floor_leave.nd rfl (Or.inr rfl)) pgs_nil))))
  (pss_cons (ps_set (i := 4) sc_Floor_leave.nd rfl (Or.inl rfl) (pe_callB (callLen (K := K)) rfl (b_len T) bb_len (pa_cons (peFld (K := K) (pv 2)) pa_nil)))
  (pss_cons (ps_if (pt_cmpR op_eq (pv 4) pe_int (nomark _)) (pss_one (ps_raise rfl (takes_of rfl rfl rfl rfl) (pmk_NotNow (T.nn) (g_NotNow T) (b_super T) file_ok super_ok hr (pa_cons pe_str pa_nil) rfl))) pss_nil)
  (pss_cons (ps_set (i := 5) sc_Floor_leave.nd rfl (Or.inl rfl) (pe_callTy (callTupOf (K := K)) rfl (b_tuple T) bb_tuple (pa_cons (pe_lc (own := [("dancer", 7)]) rfl sc_Floor_leave.nd (pi_range1 rfl (b_range T) (pa_cons (pv 4) pa_nil)) (blkOk_by (N := N_Floor_leave) (sc := defScope s_Floor_leave) (by decide +kernel)) (fun _ _ _ _ _ => pg_name (i := 7) sc_Floor_leave.nd rfl (Or.inl rfl)) (fun _ _ _ _ _ => (pts_one (pt_cmpR op_ne (pv 7) (pv 3) (nomark _)))) (fun _ _ _ _ _ => (pv 7))) pa_nil)))
  (pss_cons (ps_set (i := 6) sc_Floor_leave.nd rfl (Or.inl rfl) (pe_op opCatF (pe_slice slTF (peFld (K := K) (pv 2)) po_none (po_some (pv 3))) (pe_slice slTF (peFld (K := K) (pv 2)) (po_some (pe_op op_add (pv 3) pe_int)) po_none)))
  (pss_one (ps_expr (C8.pe_mt (c_Floor_become (K := K) T) hr (by decide) (pv 0) (pa_cons (pv 6) (pa_cons (C8.pe_c (c_left_by (K := K) T) hr (by decide) rfl (pa_cons (pv 4) (pa_cons (peFld (K := K) (pv 2)) (pa_cons (pv 5) pa_nil)))) (pa_cons (peFld (K := K) (pv 2)) (pa_cons (pe_tup (pa_cons pe_str (pa_cons (pv 1) pa_nil))) pa_nil)))))))))))), ?_⟩
  obtain ⟨a, dx', n, d, e, l, bf, h1, h2, h3, h4⟩ := r_stOf hf
  simp only [actF] at k
  walk_at "rd"
  refine r_fl h1 (cl_Floor T) (na_Floor_own_stand T) ?_
  walk_at "rd"
  refine r_me h1 ?_
  walk_at "rd"
  refine ⟨X, f, dx, m0, fr, fs, c, rfl, hf, fun hc => ?_, fun hc => ?_⟩
  rotate_left
  · rw [if_pos hc] at k
    exact k none H (Same.refl _) dok0
  rw [if_neg (by exact not_not_intro hc)] at k
  walk_at "rd"
  refine ⟨(sz1000 (Nat.le_of_ble_eq_true rfl)), ?_⟩
  (intro p1 hl_; generalize he_ : upd _ p1 _ = H1; have n1 := New.mk hl_ he_.symm; clear hl_ he_)
  refine r_tupG (SqT.of n1.at) rfl ?_
  walk_at "rd"
  refine r_fl (n1.get h2) (cl_Stand T) (na_Stand_own_names T) ?_
  walk_at "rd"
  refine r_lenT (NT.sq (h3.nm.same n1.same)) ?_
  rw [List.length_map]
  walk_at "rd"
  have hix : fr.names.idxOf c < fr.names.length := List.idxOf_lt_length_of_mem hc
  have hlo := W.lo
  have hhi := W.hi
  refine ifD (fun hm2 => ?_) (fun hm2 => ?_)
  · have hm2' : fr.names.length = 2 := by omega
    rw [if_pos hm2'] at k
    exact ⟨_, rfl, fun dd hdd => k (some dd) _ (n1.same.trans (New.mk hdd rfl).same) (dok1 (New.mk hdd rfl).at)⟩
  · have hm2' : fr.names.length ≠ 2 := by omega
    rw [if_neg hm2'] at k
    walk_at "rd"
    refine ⟨_, rfl, by omega, by omega, ?_⟩
    refine lcR (lo := 0) (fun i => decide ((i : Int) ≠ ((fr.names.idxOf c : Nat) : Int))) (fun i => .int (i : Int)) (by omega) (fun i H4 hi s4 Y Nx q1 q2 => ?_) fun D H4 hD4 s4 e4 => ?_
    · rw [Int.zero_add]
      walk_at "rd"
      refine ⟨rfl, ?_⟩
      walk_at "rd"
      refine ifN (fun hne => ?_) (fun he => ?_)
      · walk_at "rd"
        exact q1 (decide_eq_true hne) _ (Same.refl _)
      · exact q2 (decide_eq_false (by rw [he]; exact fun h => h rfl)) _ (Same.refl _)
    have e4' : H4 D = some (.lst ((stayL fr.names.length (fr.names.idxOf c)).map V.int)) := by
      rw [e4, Int.toNat_natCast, ← stay_map]
    walk_at "rd"
    refine r_tupOf (SqL.of e4') fun p5 H5 n5 => ?_
    have s5 : Same H H5 := n1.same.trans (s4.trans n5.same)
    walk_at "rd"
    refine r_fl (s5 _ _ h2) (cl_Stand T) (na_Stand_own_names T) ?_
    walk_at "rd"
    refine r_slF _ (h3.nm.same s5) (cut_take (j := fr.names.idxOf c) rfl) fun p6 H6 s6 t6 => ?_
    walk_at "rd"
    refine r_fl (s6 _ _ (s5 _ _ h2)) (cl_Stand T) (na_Stand_own_names T) ?_
    walk_at "rd"
    refine r_slF _ ((h3.nm.same s5).same s6) (cut_drop (j := fr.names.idxOf c + 1) (by omega)) fun p7 H7 s7 t7 => ?_
    refine r_catF (t6.same s7) t7 (by rw [List.length_map, List.length_map, List.length_take, List.length_drop]; omega) fun p8 H8 s8 t8 => ?_
    have s08 : Same H H8 := s5.trans (s6.trans (s7.trans s8))
    rw [drop1_map] at t8
    walk_at "rd"
    refine r_me (s08 _ _ h1) ?_
    walk_at "rd"
    refine r_fl (s08 _ _ h2) (cl_Stand T) (na_Stand_own_dance T) ?_
    walk_at "rd"
    have hst := stayL_len hix
    refine ⟨_, fr.dance, stayL fr.names.length (fr.names.idxOf c), d, p5, rfl, s08 _ _ h3.dn, s8 _ _ (s7 _ _ (s6 _ _ n5.at)), W.dv, hlo, hhi, by have := W.dl; omega, stayL_pair _ _, fun x hx => ⟨(stayL_mem.mp hx).1, (stayL_mem.mp hx).2.1⟩, by omega, by omega, fun p9 H9 s9 e9 => ?_⟩
    walk_at "rd"
    have s09 := s08.trans s9
    refine r_fl (s09 _ _ h2) (cl_Stand T) (na_Stand_own_ever T) ?_
    walk_at "rd"
    refine ⟨(sz1000 (Nat.le_of_ble_eq_true rfl)), ?_⟩
    (intro q hl_; generalize he_ : upd _ q _ = HA; have nA := New.mk hl_ he_.symm; clear hl_ he_)
    have s0A := s09.trans nA.same
    refine ⟨X, f, dx, m0, fr, fs, p8, p9, e, q, _, _, fr.ever, .leave c, rfl, hf.same s0A, ⟨(hf.ok.same s08).nt t8, (t8.same s9).same nA.same⟩, nA.get e9, ⟨h3.eX, rd_mono h3.eX (SameX.of s0A) h3.ev⟩, nA.at, by have := W.ql; omega, fun H4 sb hf4 => ?_⟩
    walk_at "rd"
    exact k H4 (fun b u hb hu => sb b u hb (s0A b u hu)) hf4
theorem e_Floor_leave (T : Tx w K mg base) : MetE P0 w K mg base 7 (ga K "Floor") "leave" (sp_fLeave K) := (ek_Floor_leave T).toE
def sp_letter : Sp := fun vs H Q _ => ∃ c : Nat, vs = [.str (S [c])] ∧ 97 ≤ c ∧ c ≤ 122 ∧ Q (.bl true) H
theorem let26_S : ("abcdefghijklmnopqrstuvwxyz" : Str) = S let26 := by decide +kernel
theorem let26_mem {c : Nat} (h1 : 97 ≤ c) (h2 : c ≤ 122) : c ∈ let26 := List.mem_map.mpr ⟨c - 97, List.mem_range.mpr (by omega), by omega⟩
theorem c_is_letter (T : Tx w K mg base) : C8.Cal P w K mg base 1 "is_letter" sp_letter [] := by
  obtain ⟨fd, F⟩ := f_is_letter T
  refine cal_of F (g_is_letter T) (fun _ _ _ _ _ _ us hl => match us, hl with | [_], _ => rfl) sc_is_letter (fun vs H Q E h => by obtain ⟨_, rfl, _⟩ := h; rfl) (fun cdv A outer s H vs Q E hr h => ?_)
  obtain ⟨c, rfl, h1, h2, k⟩ := h
  refine ⟨_, (pss_one (ps_ret (pe_and (pe_callB (callIsi (K := K)) rfl (b_isinstance T) bb_isinstance (pa_cons (pv 0) (pa_cons (pe_bltn (v := .ty "str") (by rfl) (b_str T) bb_str rfl) pa_nil))) (pe_and (pe_cmpR op_eq (pe_callB callLenStr rfl (b_len T) bb_len (pa_cons (pv 0) pa_nil)) pe_int (nomark _)) (pe_one (pe_cmpR op_inS (pv 0) (C8.pe_gc rfl (v_LETTERS T)) (by rfl))))))), ?_⟩
  walk_at "rd"
  refine iteT ?_
  walk_at "rd"
  refine r_lenS (by rw [S_len, sizeLine_eq]; simp) ?_
  walk_at "rd"
  refine ifD (fun _ => ?_) (fun h => absurd (by rw [S_len]; rfl) h)
  walk_at "rd"
  rw [let26_S]
  refine r_inS1 ?_
  rw [decide_eq_true (let26_mem h1 h2)]
  exact k
theorem nmV_mem {c : Nat} {l : List Nat} : decide (S [c] ∈ l.map fun n => S [n]) = decide (c ∈ l) := decide_eq_decide.mpr nm_mem
theorem cons_nm (c : Nat) (l : List Nat) : V.str (S [c]) :: l.map nmV = (c :: l).map nmV := rfl
def sp_fJoin (K : PySem.W.Frag) : Sp := fun vs H Q E => ∃ (X : List Addr) (f dx : Addr) (m0 N : Nat) (fr : Fr) (fs : List Fr) (i : Int) (c : Nat), vs = [.ref f, .int i, .str (S [c])] ∧ 97 ≤ c ∧ c ≤ 122 ∧ FlAt K X H f dx m0 (fr :: fs) ∧ Wf N fr ∧ N ≤ 100 ∧ PostD K X f dx m0 (actF (fr :: fs) (.join i c)) H Q E
theorem e_Floor_join (T : Tx w K mg base) : MetE P0 w K mg base 4 (ga K "Floor") "join" (sp_fJoin K) := by
  obtain ⟨fd, F⟩ := f_Floor_join T
  refine metE_of (cl_Floor T) (me_Floor_join T) F (fun _ _ _ _ _ _ us hl => match us, hl with | [_, _, _], _ => rfl) sc_Floor_join (fun vs H Q E h => by obtain ⟨_, _, _, _, _, _, _, _, _, rfl, _⟩ := h; rfl) (fun cdv A outer s H vs Q E hr h => ?_)
  obtain ⟨X, f, dx, m0, N, fr, fs, i, c, rfl, hc1, hc2, hf, W, hN, k⟩ := h
  refine ⟨_, (pss_cons (ps_set (i := 3) sc_Floor_join.nd rfl (Or.inl rfl) (peFld (K := K) (pv 0)))
  (pss_cons (ps_set (i := 4) sc_Floor_join.nd rfl (Or.inl rfl) (pe_callB (callLen (K := K)) rfl (b_len T) bb_len (pa_cons (peFld (K := K) (pv 3)) pa_nil)))
  (pss_cons (ps_if (PW.pt (pw_or (pt_not (pt_val (C8.pe_c (c_is_number (K := K) T) hr (by decide) rfl (pa_cons (pv 1) pa_nil)))) (pw_or1 (pt_cmpR (opNotIn (K := K)) (pv 1) (pe_tup (pa_cons pe_int (pa_cons (pv 4) pa_nil))) (by rfl))))) (pss_one (ps_raise rfl (takes_of rfl rfl rfl rfl) (pmk_BadNumber (T.bn) (g_BadNumber T) (b_super T) file_ok super_ok hr (pa_cons pe_str pa_nil) rfl))) pss_nil)
  (pss_cons (ps_if (PW.pt (pw_or (pt_not (pt_val (C8.pe_c (c_is_letter (K := K) T) hr (by decide) rfl (pa_cons (pv 2) pa_nil)))) (pw_or1 (pt_cmpR (opIn (K := K)) (pv 2) (peFld (K := K) (pv 3)) (by rfl))))) (pss_one (ps_raise rfl (takes_of rfl rfl rfl rfl) (pmk_own PySem.F.excBase_ValueError (ex_BadName T).1 (g_BadName T) (ex_BadName T).2.1 (raises_own (ex_BadName T).2.2.1 (ex_BadName T).2.2.2) rfl))) pss_nil)
  (pss_cons (ps_if (pt_cmpR op_eq (pv 4) (C8.pe_gc rfl (v_MOST_dances T)) (nomark _)) (pss_one (ps_raise rfl (takes_of rfl rfl rfl rfl) (pmk_NotNow (T.nn) (g_NotNow T) (b_super T) file_ok super_ok hr (pa_cons pe_str pa_nil) rfl))) pss_nil)
  (pss_cons (ps_par rfl sc_Floor_join.nd (i := 5) (j := 6) rfl rfl (by decide) rfl rfl (pa_cons (pe_tupF (paStar (K := K) (peFld (K := K) (pv 3)) (pa_cons (pv 2) pa_nil))) (pa_cons (peFld (K := K) (pv 3)) pa_nil)) rfl)
  (pss_cons (ps_if (pt_cmpR op_eq (pv 1) pe_int (nomark _)) (pss_cons (ps_set (i := 5) sc_Floor_join.nd rfl (Or.inl rfl) (pe_tupF (pa_cons (pv 2) (paStar (K := K) (peFld (K := K) (pv 3)) pa_nil))))
  (pss_one (ps_set (i := 6) sc_Floor_join.nd rfl (Or.inl rfl) (pe_callTy (callTupOf (K := K)) rfl (b_tuple T) bb_tuple (pa_cons (pe_lc (own := [("step", 7)]) rfl sc_Floor_join.nd (piTup (K := K) (pv 6)) (blkOk_by (N := N_Floor_join) (sc := defScope s_Floor_join) (by decide +kernel)) (fun _ _ _ _ _ => pg_name (i := 7) sc_Floor_join.nd rfl (Or.inl rfl)) (fun _ _ _ _ _ => pts_nil) (fun _ _ _ _ _ => (pe_ifExp (pt_cmpR op_gt (pv 7) pe_int (nomark _)) (pe_op op_add (pv 7) pe_int) (pe_op op_sub (pv 7) pe_int)))) pa_nil))))) pss_nil)
  (pss_one (ps_expr (C8.pe_mt (c_Floor_become (K := K) T) hr (by decide) (pv 0) (pa_cons (pv 5) (pa_cons (pv 6) (pa_cons (pe_tup (paStar (K := K) (peFld (K := K) (pv 3)) (pa_cons (pv 2) pa_nil))) (pa_cons (pe_tup (pa_cons pe_str (pa_cons (pv 1) (pa_cons (pv 2) pa_nil)))) pa_nil)))))))))))))), ?_⟩
  obtain ⟨a, dx', n, d, e, l, bf, h1, h2, h3, h4⟩ := r_stOf hf
  simp only [actF] at k
  have hlo := W.lo
  have hhi := W.hi
  walk_at "rd"
  refine r_fl h1 (cl_Floor T) (na_Floor_own_stand T) ?_
  walk_at "rd"
  refine r_fl h2 (cl_Stand T) (na_Stand_own_names T) ?_
  walk_at "rd"
  refine r_lenT (NT.sq h3.nm) ?_
  rw [List.length_map]
  walk_at "rd"
  refine ⟨i, rfl, ?_⟩
  walk_at "rd"
  refine iteF ?_
  walk_at "rd"
  refine ⟨(sz1000 (Nat.le_of_ble_eq_true rfl)), ?_⟩
  (intro p1 hl_; generalize he_ : upd _ p1 _ = H1; have n1 := New.mk hl_ he_.symm; clear hl_ he_)
  refine r_notInI (l := [0, (fr.names.length : Int)]) (SqT.of n1.at) ?_
  walk_at "rd"
  by_cases hi : i = 0 ∨ i = fr.names.length
  rotate_left
  · rw [if_pos hi] at k
    have hd : decide (i ∈ [0, (fr.names.length : Int)]) = false := decide_eq_false (by simp only [List.mem_cons, List.not_mem_nil, or_false]; exact hi)
    rw [hd]
    refine iteT ?_
    exact ⟨_, rfl, fun dd hdd => k (some dd) _ (n1.same.trans (New.mk hdd rfl).same) (dok1 (New.mk hdd rfl).at)⟩
  rw [if_neg (not_not_intro hi)] at k
  have hd : decide (i ∈ [0, (fr.names.length : Int)]) = true := decide_eq_true (by simp only [List.mem_cons, List.not_mem_nil, or_false]; exact hi)
  rw [hd]
  refine iteF ?_
  walk_at "rd"
  refine ⟨c, rfl, hc1, hc2, ?_⟩
  walk_at "rd"
  refine iteF ?_
  walk_at "rd"
  refine r_fl (n1.get h2) (cl_Stand T) (na_Stand_own_ever T) ?_
  refine r_inSt (l := fr.ever.map fun n => S [n]) (by rw [← nm_map]; exact .inl (rd_mono h3.eX (SameX.of n1.same) h3.ev)) ?_
  walk_at "rd"
  rw [nmV_mem]
  refine ifD (fun hev => ?_) (fun hev => ?_)
  · rw [if_pos hev] at k
    exact k none H1 n1.same dok0
  rw [if_neg hev] at k
  walk_at "rd"
  refine ifD (fun h5 => ?_) (fun h5 => ?_)
  · rw [if_pos (show fr.names.length = 5 by omega)] at k
    exact ⟨_, rfl, fun dd hdd => k (some dd) _ (n1.same.trans (New.mk hdd rfl).same) (dok1 (New.mk hdd rfl).at)⟩
  rw [if_neg (show ¬ fr.names.length = 5 by omega)] at k
  walk_at "rn"
  refine r_fl (n1.get h2) (cl_Stand T) (na_Stand_own_names T) ?_
  refine ⟨n, _, rfl, .inl (NT.sq (h3.nm.same n1.same)), ?_⟩
  walk_at "rn"
  refine ⟨sz1000 (by rw [List.length_append, List.length_map]; simp; omega), fun p2 H2 hp2 s2 t2 => ?_⟩
  have t2' : NT H2 p2 ((fr.names ++ [c]).map nmV) := by rw [List.map_append]; exact t2
  have s02 : Same H H2 := n1.same.trans s2
  walk_at "rn"
  refine r_fl (s02 _ _ h2) (cl_Stand T) (na_Stand_own_dance T) ?_
  walk_at "rn"
  refine r_ifJ (fun σ3 H3 => ∃ pn pd : Addr, (∃ v7, σ3 = [some (.ref f), some (.int i), some (.str (S [c])), some (.ref a), some (.int (fr.names.length : Nat)), some (.ref pn), some (.ref pd), v7]) ∧ Same H H3 ∧ NT H3 pn ((if i = 0 then c :: fr.names else fr.names ++ [c]).map nmV) ∧ H3 pd = some (.tup ((if i = 0 then moved fr.dance 1 else fr.dance).map V.int))) (fun Nx hNx => ?_) ?_
  · walk_at "rd"
    refine ifD (fun hi0 => ?_) (fun hi0 => ?_)
    · walk_at "rd"
      refine r_fl (s02 _ _ h2) (cl_Stand T) (na_Stand_own_names T) ?_
      refine ⟨n, _, rfl, .inl (NT.sq (h3.nm.same s02)), ?_⟩
      walk_at "rd"
      refine ⟨sz1000 (by rw [List.append_nil, List.length_cons, List.length_map]; omega), fun p4 H4 hp4 s4 t4 => ?_⟩
      rw [List.append_nil] at t4
      have s04 := s02.trans s4
      walk_at "rd"
      refine lcT1 V.int fr.dance (fun x => .int (if x > 0 then x + 1 else x - 1)) (SqT.of (s04 _ _ h3.dn)) (by have := W.dl; omega) (fun y H5 hy s5 Y q => ?_) fun D H5 hD5 s5 e5 => ?_
      · walk_at "rd"
        refine ⟨rfl, ?_⟩
        walk_at "rd"
        refine ifD (fun i3 => ?_) (fun i3 => ?_)
        · walk_at "rd"
          have := q _ (Same.refl _)
          rw [if_pos i3] at this; exact this
        · walk_at "rd"
          have := q _ (Same.refl _)
          rw [if_neg i3] at this; exact this
      walk_at "rd"
      refine r_tupOf (SqL.of e5) fun p6 H6 n6 => ?_
      walk_at "rd"
      refine hNx _ _ ⟨p4, p6, ⟨_, rfl⟩, s04.trans (s5.trans n6.same), ?_, ?_⟩
      · rw [if_pos hi0]; exact (t4.same s5).same n6.same
      · rw [if_pos hi0, n6.at]; unfold moved; rw [List.map_map]; rfl
    · walk_at "rd"
      refine hNx _ _ ⟨p2, d, ⟨_, rfl⟩, s02, ?_, ?_⟩
      · rw [if_neg hi0]; exact t2'
      · rw [if_neg hi0]; exact s02 _ _ h3.dn
  · rintro σ3 H3 ⟨pn, pd, ⟨v7, rfl⟩, s3, tn, ed⟩
    walk_at "rd"
    refine r_me (s3 _ _ h1) ?_
    walk_at "rd"
    refine r_fl (s3 _ _ h2) (cl_Stand T) (na_Stand_own_ever T) ?_
    refine ⟨e, _, rfl, .inl (.inl (rd_mono h3.eX (SameX.of s3) h3.ev)), ?_⟩
    walk_at "rd"
    refine ⟨sz1000 (by rw [List.length_append, List.length_map]; have := W.el; simp; omega), ?_⟩
    (intro pe hl_; generalize he_ : upd _ pe _ = H5; have n5 := New.mk hl_ he_.symm; clear hl_ he_)
    walk_at "rd"
    refine ⟨(sz1000 (Nat.le_of_ble_eq_true rfl)), ?_⟩
    (intro q hl_; generalize he_ : upd _ q _ = H6; have n6 := New.mk hl_ he_.symm; clear hl_ he_)
    have s06 := s3.trans (n5.same.trans n6.same)
    have ok3 := hf.ok.same s3
    refine ⟨X, f, dx, m0, fr, fs, pn, pd, pe, q, _, _, fr.ever ++ [c], .join i c, rfl, hf.same s06, ⟨ok3.nt tn, (tn.same n5.same).same n6.same⟩, n6.get (n5.get ed), ⟨ok3.new n5.free, ?_⟩, n6.at, by have := W.ql; omega, fun H7 sb hf7 => ?_⟩
    · refine Rd.of ?_
      rw [n6.get n5.at, List.map_append]; rfl
    · walk_at "rd"
      exact k H7 (fun b u hb hu => sb b u hb (s06 b u hu)) hf7
end
end My
end

section
set_option Elab.async false
set_option linter.all false
set_option maxRecDepth 100000
set_option maxHeartbeats 4000000
/-! NA: a floor made, lead, ==. -/
namespace My
open PySem PySem.Spec PyProof.Rows L2 He LamX SX
local macro_rules | `(tactic| walk_at "rd") => `(tactic| repeat (with_reducible first
  | refine r_seq ?_ | refine r_asg ?_ | refine r_var (by with_unfolding_all rfl) ?_ | refine r_c ?_ | refine r_op ?_ | refine r_I0 ?_ | refine r_name ?_ | refine r_ret ?_ | refine r_if ?_ | refine r_cons ?_ | refine r_nil ?_
  | refine r_CB ?_ | refine r_call ?_ | refine r_test ?_ | refine r_eqI ?_ | refine r_eqS ?_ | refine r_neI ?_ | refine r_neS ?_ | refine r_drop ?_ | refine r_next ?_ | refine r_ifE ?_ | refine r_B ?_ | refine r_andV ?_ | refine r_orV ?_ | refine r_notV ?_ | refine r_blV ?_
  | refine r_and ?_ | refine r_or ?_ | refine r_not ?_ | refine r_tup ?_ | refine r_lst ?_ | refine r_par ?_ | refine r_exv2 ?_ | refine r_un ?_ | refine r_neg ?_ | refine r_isN ?_ | refine r_notN ?_ | refine r_retN ?_ | refine r_chain ?_
  | refine r_star ?_ | refine r_lstRg ?_ | refine r_rg1 ?_ | refine r_rg2 ?_ | refine r_exi ?_ | refine r_exi2 ?_ | refine r_sl ?_ | refine r_noPart ?_ | refine r_part ?_ | refine r_gnil ?_ | refine r_gcons ?_ | refine r_gsub ?_ | refine r_BM ?_ | refine r_M1 ?_ | refine r_isstr ?_ | refine r_meth ?_ | refine r_make ?_ | refine r_fld ?_ | refine r_abs ?_ | refine r_isiIntInt ?_ | refine r_isiIntBool ?_ | refine r_isiStr ?_ | refine r_min ?_ | refine r_max ?_ | refine r_int1 ?_ | refine r_intb ?_ | refine r_for ?_ | refine r_itup ?_ | refine r_ilist ?_ | refine r_lc ?_ | refine r_yes ?_ | refine r_istr ?_ | refine r_rng1 ?_ | refine r_rng2 ?_ | refine r_dput ?_ | refine r_daug ?_ | refine r_dget ?_ | refine r_dnewT ?_ | refine r_addI ?_ | refine r_ev ?_ | refine r_sfld ?_ | refine r_faug ?_ | refine r_prop ?_ | refine r_while ?_ | refine r_augS ?_ | refine r_tupF ?_ | refine r_idxT ?_ | refine r_kd ?_ | refine r_ki ?_ | refine r_enum ?_))

local macro_rules | `(tactic| walk_at "rn") => `(tactic| repeat (with_reducible first
  | refine r_seq ?_ | refine r_asg ?_ | refine r_var (by with_unfolding_all rfl) ?_ | refine r_c ?_ | refine r_op ?_ | refine r_I0 ?_ | refine r_name ?_ | refine r_ret ?_ | refine r_cons ?_ | refine r_nil ?_
  | refine r_CB ?_ | refine r_call ?_ | refine r_test ?_ | refine r_eqI ?_ | refine r_eqS ?_ | refine r_neI ?_ | refine r_neS ?_ | refine r_drop ?_ | refine r_next ?_ | refine r_B ?_ | refine r_andV ?_ | refine r_orV ?_ | refine r_notV ?_ | refine r_blV ?_
  | refine r_and ?_ | refine r_or ?_ | refine r_not ?_ | refine r_tup ?_ | refine r_lst ?_ | refine r_par ?_ | refine r_exv2 ?_ | refine r_un ?_ | refine r_neg ?_ | refine r_isN ?_ | refine r_notN ?_ | refine r_retN ?_ | refine r_chain ?_
  | refine r_star ?_ | refine r_lstRg ?_ | refine r_rg1 ?_ | refine r_rg2 ?_ | refine r_exi ?_ | refine r_exi2 ?_ | refine r_sl ?_ | refine r_noPart ?_ | refine r_part ?_ | refine r_gnil ?_ | refine r_gcons ?_ | refine r_gsub ?_ | refine r_BM ?_ | refine r_M1 ?_ | refine r_isstr ?_ | refine r_meth ?_ | refine r_make ?_ | refine r_fld ?_ | refine r_abs ?_ | refine r_isiIntInt ?_ | refine r_isiIntBool ?_ | refine r_isiStr ?_ | refine r_min ?_ | refine r_max ?_ | refine r_int1 ?_ | refine r_intb ?_ | refine r_for ?_ | refine r_itup ?_ | refine r_ilist ?_ | refine r_lc ?_ | refine r_yes ?_ | refine r_istr ?_ | refine r_rng1 ?_ | refine r_rng2 ?_ | refine r_dput ?_ | refine r_daug ?_ | refine r_dget ?_ | refine r_dnewT ?_ | refine r_addI ?_ | refine r_ev ?_ | refine r_sfld ?_ | refine r_faug ?_ | refine r_prop ?_ | refine r_while ?_ | refine r_augS ?_ | refine r_tupF ?_ | refine r_idxT ?_ | refine r_kd ?_ | refine r_ki ?_ | refine r_enum ?_))

local macro_rules | `(tactic| walk_at "hp") => `(tactic| (with_reducible first
  | assumption | exact New.at (by assumption)
  | exact SqT.of (by walk_at "hp") | exact SqL.of (by walk_at "hp") | exact Or.inl (by walk_at "hp") | exact Or.inr (by walk_at "hp")
  | exact New.get (by assumption) (by walk_at "hp") | exact Same.get (by assumption) (by walk_at "hp")))


def deedD : Dd → PyData
  | .step i => .tuple [.str "step", .int i]
  | .leave n => .tuple [.str "leave", .str (S [n])]
  | .join a n => .tuple [.str "join", .int a, .str (S [n])]
  | .undo => .tuple [.str "undo"]
theorem deedD_inj : ∀ {a b : Dd}, deedD a = deedD b → a = b
  | .step i, .step j, h => by simp only [deedD, PyData.tuple.injEq, List.cons.injEq, PyData.int.injEq] at h; rw [h.2.1]
  | .leave n, .leave m, h => by
    simp only [deedD, PyData.tuple.injEq, List.cons.injEq, PyData.str.injEq] at h
    rw [(List.cons.inj (S_inj h.2.1)).1]
  | .join a n, .join b m, h => by
    simp only [deedD, PyData.tuple.injEq, List.cons.injEq, PyData.str.injEq, PyData.int.injEq] at h
    rw [h.2.1, (List.cons.inj (S_inj h.2.2.1)).1]
  | .undo, .undo, _ => rfl
  | .step _, .leave _, h | .step _, .join _ _, h | .step _, .undo, h | .leave _, .step _, h | .leave _, .join _ _, h | .leave _, .undo, h | .join _ _, .step _, h | .join _ _, .leave _, h | .join _ _, .undo, h | .undo, .step _, h | .undo, .leave _, h | .undo, .join _ _, h => by
    simp only [deedD, PyData.tuple.injEq, List.cons.injEq, PyData.str.injEq] at h
    exact absurd h.1 (by decide)
theorem ok_let {n : Nat} (h : n ≤ 122) : PyData.strOk (S [n]) = true := by
  unfold PyData.strOk; simp; omega
theorem deedD_pl {q : Dd} (h : okD q) : PlD 1 (deedD q) := by
  cases q with
  | step i => exact PlD.tuple (n := 0) (.cons (.str (by decide +kernel)) (.cons .int .nil))
  | leave n => exact PlD.tuple (n := 0) (.cons (.str (by decide +kernel)) (.cons (.str (ok_let h.2)) .nil))
  | join a n => exact PlD.tuple (n := 0) (.cons (.str (by decide +kernel)) (.cons .int (.cons (.str (ok_let h.2)) .nil)))
  | undo => exact PlD.tuple (n := 0) (.cons (.str (by decide +kernel)) .nil)
theorem deeds_pl {qs : List Dd} (h : ∀ q ∈ qs, okD q) : PlD 2 (.list (qs.map deedD)) := PlD.list (n := 1) (PlDs.of fun d hd => by
  obtain ⟨q, hq, rfl⟩ := List.mem_map.mp hd
  exact deedD_pl (h q hq))
theorem deeds_inj {a b : List Dd} : a = b ↔ PyData.list (a.map deedD) = PyData.list (b.map deedD) :=
  ⟨fun h => by rw [h], fun h => (List.map_inj_right fun _ _ => deedD_inj).mp (PyData.list.inj h)⟩
theorem Wf.okD' {N : Nat} {fr : Fr} (W : Wf N fr) : ∀ q ∈ fr.deeds, okD q := fun q hq => by
  have := W.qs q hq
  cases q <;> first | trivial | exact this
section
variable {K : PySem.W.Frag} {X : List Addr} {H : Hp}
theorem dp_deed {a : Addr} {q : Dd} (h : H a = some (.tup (deedV q))) : Dp K H (.ref a) (deedD q) := by
  cases q with
  | step i => exact .tup (SqT.of h) (.cons (.str _) (.cons (.int _) .nil))
  | leave n => exact .tup (SqT.of h) (.cons (.str _) (.cons (.str _) .nil))
  | join b n => exact .tup (SqT.of h) (.cons (.str _) (.cons (.int _) (.cons (.str _) .nil)))
  | undo => exact .tup (SqT.of h) (.cons (.str _) .nil)
theorem dp_deeds : ∀ {as : List Addr} {qs : List Dd}, DeedsAt X H as qs → DpAll K H (as.map V.ref) (qs.map deedD)
  | [], [], _ => .nil
  | a :: as, q :: qs, h => .cons (dp_deed h.1.2) (dp_deeds h.2)
  | [], _ :: _, h => h.elim
  | _ :: _, [], h => h.elim
theorem dp_log {l : Addr} {as : List Addr} {qs : List Dd} (hl : H l = some (.lst (as.map V.ref))) (h : DeedsAt X H as qs) : Dp K H (.ref l) (.list (qs.map deedD)) := .lst (SqL.of hl) (dp_deeds h)
end
section
variable {P : Program} {w : World} {K : PySem.W.Frag} {mg : Str → Option Value} {base : Heap}
def sp_flInit (K : PySem.W.Frag) : Sp := fun vs H Q _ => ∃ (a dx : Addr) (m : Nat), vs = [.ref a, .int m] ∧ H a = some (.ins (ga K "Floor") dx []) ∧ 2 ≤ m ∧ m ≤ 5 ∧
  ∀ H', SameBut a H H' → (∀ X, a ∈ X → (∀ x ∈ X, x ≠ a → (∃ C dx fs, H x = some (.ins C dx fs)) ∨ (∃ kvs, H x = some (.dK kvs)) ∨ ∃ xs, H x = some (.lst xs)) → FlAt K X H' a dx m [fr0 m]) → Q .non H'
theorem sl26 (m : Nat) : Txt.slice "abcdefghijklmnopqrstuvwxyz" none (some (m : Int)) = S (let26.take m) := by
  rw [let26_S]
  exact slice_to (a := let26) (i := (m : Int)) (by omega)
theorem sign_map (l : List Nat) : ((S l).cps.toList.map fun c => V.str ⟨#[c]⟩) = l.map nmV := rfl
theorem m_Floor (T : Tx w K mg base) : C8.Mak P0 w K mg base 4 "Floor" (ga K "Floor") (sp_flInit K) [] := by
  obtain ⟨fd, F⟩ := f_Floor_init T
  refine mak_of (mk_Floor T) (g_Floor T) F (fun _ _ _ _ _ _ us hl => match us, hl with | [_, _], _ => rfl) sc_Floor_init (fun vs H Q E h => by obtain ⟨_, _, _, rfl, _⟩ := h; rfl) (fun cdv A outer s H vs Q E hr h => ?_)
  obtain ⟨a, dx, m, rfl, ha, h1, h2, k⟩ := h
  refine ⟨_, (pss_cons (ps_expr (C8.pe_c (c_need_many (K := K) T) hr (by decide) rfl (pa_cons (pv 1) pa_nil)))
  (pss_cons (ps_set (i := 2) sc_Floor_init.nd rfl (Or.inl rfl) (pe_callTy (callTupOfF (K := K)) rfl (b_tuple T) bb_tuple (pa_cons (pe_callTy (callListStr rfl) rfl (b_list T) bb_list (pa_cons (pe_slice C8.sl_txt (C8.pe_gc rfl (v_LETTERS T)) po_none (po_some (pv 1))) pa_nil)) pa_nil)))
  (pss_cons (psFld (K := K) (pv 0) (pv 1))
  (pss_cons (psFld (K := K) (pv 0) (C8.pe_mk (m_Stand (K := K) T) hr (by decide) rfl (pa_cons (pv 2) (pa_cons (pe_tup pa_nil) (pa_cons (pv 2) (pa_cons (pe_lst pa_nil) (pa_cons pe_non pa_nil)))))))
  (pss_one (psFld (K := K) (pv 0) pe_non)))))), ?_⟩
  walk_at "rd"
  refine ⟨m, rfl, h1, h2, ?_⟩
  walk_at "rd"
  refine r_sltx (by decide) (sl26 m) ?_
  walk_at "rd"
  refine ⟨_, rfl, ?_, ?_⟩
  · show (let26.take m).length ≤ 1000; rw [List.length_take]; simp [let26]; omega
  (intro l1 hl_; generalize he_ : upd _ l1 _ = H1; have n1 := New.mk hl_ he_.symm; clear hl_ he_)
  rw [sign_map] at n1
  walk_at "rd"
  refine ⟨l1, _, rfl, SqL.of n1.at, fun p2 H2 s2 t2 => ?_⟩
  walk_at "rd"
  have s02 : Same H H2 := n1.same.trans s2
  refine r_sf (s02 _ _ ha) (cl_Floor T) (na_Floor_own_first T) ?_
  walk_at "rd"
  refine ⟨(sz1000 (Nat.le_of_ble_eq_true rfl)), ?_⟩
  have hp2 : p2 ≠ a := fun e => by subst e; obtain ⟨o, e, _⟩ := t2; rw [s02 _ _ ha] at e; cases e
  have hdat : (upd H2 a (.ins (ga K "Floor") dx (putF "own_first" (.int m) []))) a = some (.ins (ga K "Floor") dx [("own_first", .int m)]) := upd_same
  have t3 : NT (upd H2 a (.ins (ga K "Floor") dx (putF "own_first" (.int m) []))) p2 ((let26.take m).map nmV) := t2.upd (Ne.symm hp2)
  have sb3 : SameBut a H (upd H2 a (.ins (ga K "Floor") dx (putF "own_first" (.int m) []))) := (SameBut.of s02).upd
  generalize upd H2 a _ = H3 at hdat t3 sb3 ⊢
  (intro d4 hl_; generalize he_ : upd _ d4 _ = H4; have n4 := New.mk hl_ he_.symm; clear hl_ he_)
  walk_at "rd"
  refine ⟨(sz1000 (Nat.le_of_ble_eq_true rfl)), ?_⟩
  (intro l5 hl_; generalize he_ : upd _ l5 _ = H5; have n5 := New.mk hl_ he_.symm; clear hl_ he_)
  walk_at "rd"
  refine r_stand fun a6 dx6 H6 ha6 s6 h6 => ?_
  walk_at "rd"
  have s36 : Same H3 H6 := n4.same.trans (n5.same.trans s6)
  refine r_sf (s36 _ _ hdat) (cl_Floor T) (na_Floor_own_stand T) ?_
  walk_at "rd"
  refine r_sf upd_same (cl_Floor T) (na_Floor_own_block T) ?_
  walk_at "rd"
  have hX : ∀ X : List Addr, a ∈ X → (∀ x ∈ X, x ≠ a → (∃ C dx fs, H x = some (.ins C dx fs)) ∨ (∃ kvs, H x = some (.dK kvs)) ∨ ∃ xs, H x = some (.lst xs)) → OkX X H3 := fun X hm hx x hxm => by
    by_cases e : x = a
    · subst e; exact .inl ⟨_, _, _, hdat⟩
    · rcases hx x hxm e with ⟨C, dx, fs, q⟩ | ⟨kvs, q⟩ | ⟨xs, q⟩
      · exact .inl ⟨C, dx, fs, sb3 _ _ e q⟩
      · exact .inr (.inl ⟨kvs, sb3 _ _ e q⟩)
      · exact .inr (.inr ⟨xs, sb3 _ _ e q⟩)
  have ha6a : a6 ≠ a := fun e => by subst e; rw [n5.get (n4.get hdat)] at ha6; cases ha6
  have sb6 : SameBut a H H6 := fun b u hb hu => s36 b u (sb3 b u hb hu)
  refine k _ ((sb6.upd).upd) fun X hm hx => ?_
  have ok3 := hX X hm hx
  have ok6 := ok3.same s36
  have fr : FrAt K X H6 p2 d4 p2 l5 (fr0 m) := ⟨ok3.nt t3, t3.same s36, ok3.new n4.free, s6 _ _ (n5.get n4.at), ok3.nt t3, NT.rd (t3.same s36), (ok3.same n4.same).new n5.free, [], s6 _ _ n5.at, trivial⟩
  have sbL : SameBut a H6 (upd (upd H6 a (.ins (ga K "Floor") dx (putF "own_stand" (.ref a6) [("own_first", .int m)]))) a (.ins (ga K "Floor") dx (putF "own_block" .non (putF "own_stand" (.ref a6) [("own_first", .int m)])))) := (SameBut.refl.upd).upd
  refine ⟨ok6.but sbL upd_same, hm, .ref a6, upd_same, a6, dx6, p2, d4, p2, l5, .non, rfl, (ok3.same (n4.same.trans n5.same)).new ha6, sbL _ _ ha6a h6, fr.mono (SameX.but hm sbL), rfl⟩
/-- Floor(m) made -/
theorem r_floor {H : Hp} {Qd : Addr → Hp → Prop} {m : Nat} (h1 : 2 ≤ m) (h2 : m ≤ 5) (k : ∀ a dx H', H a = none → Same H H' → (∀ X, a ∈ X → (∀ x ∈ X, x ≠ a → (∃ C dx fs, H x = some (.ins C dx fs)) ∨ (∃ kvs, H x = some (.dK kvs)) ∨ ∃ xs, H x = some (.lst xs)) → FlAt K X H' a dx m [fr0 m]) → Qd a H') :
    ∀ x dx, H x = none → H dx = none → dx ≠ x → sp_flInit K (.ref x :: ([.int m] ++ [])) (upd (upd H dx (.own x)) x (.ins (ga K "Floor") dx [])) (fun v H2 => v = .non ∧ Qd x H2) C8.E0 := by
  intro x dx hx hdx hne
  refine ⟨x, dx, m, rfl, upd_same, h1, h2, fun H' sb hX => ⟨rfl, k x dx H' hx (fun c u hc => ?_) fun X hm hall => hX X hm fun y hy hyx => ?_⟩⟩
  · have e1 := ne_of_none hc hx
    have e2 := ne_of_none hc hdx
    exact sb c u e1 (by rw [upd_ne e1, upd_ne e2]; exact hc)
  · rcases hall y hy hyx with ⟨C, d, fs, e⟩ | ⟨kvs, e⟩ | ⟨xs, e⟩
    · exact .inl ⟨C, d, fs, by rw [upd_ne hyx, upd_ne (ne_of_none e hdx)]; exact e⟩
    · exact .inr (.inl ⟨kvs, by rw [upd_ne hyx, upd_ne (ne_of_none e hdx)]; exact e⟩)
    · exact .inr (.inr ⟨xs, by rw [upd_ne hyx, upd_ne (ne_of_none e hdx)]; exact e⟩)
def sp_fLead (K : PySem.W.Frag) : Sp := fun vs H Q _ => ∃ (X : List Addr) (f dx : Addr) (m0 N : Nat) (fr : Fr) (fs : List Fr) (a b : Nat), vs = [.ref f, .str (S [a]), .str (S [b])] ∧ FlAt K X H f dx m0 (fr :: fs) ∧ Wf N fr ∧ a ∈ fr.names ∧ b ∈ fr.names ∧ a ≠ b ∧
  ∀ H', Same H H' → Q (.int ((ldS fr.names.length fr.dance).2 (min (fr.names.idxOf a : Int) (fr.names.idxOf b : Int), max (fr.names.idxOf a : Int) (fr.names.idxOf b : Int)))) H'
theorem c_Floor_lead (T : Tx w K mg base) : C8.Met P0 w K mg base 3 (ga K "Floor") "lead" (sp_fLead K) [] := by
  obtain ⟨fd, F⟩ := f_Floor_lead T
  refine met_of (cl_Floor T) (me_Floor_lead T) F (fun _ _ _ _ _ _ us hl => match us, hl with | [_, _, _], _ => rfl) sc_Floor_lead (fun vs H Q E h => by obtain ⟨_, _, _, _, _, _, _, _, _, rfl, _⟩ := h; rfl) (fun cdv A outer s H vs Q E hr h => ?_)
  obtain ⟨X, f, dx, m0, N, fr, fs, c1, c2, rfl, hf, W, hc1, hc2, hne, k⟩ := h
  refine ⟨_, (pss_cons (ps_par rfl sc_Floor_lead.nd (i := 3) (j := 4) rfl rfl (by decide) rfl rfl (pa_cons (pe_mtE (e_Floor_place_of (K := K) T) hr (by decide) passF (pv 0) (pa_cons (pv 1) pa_nil)) (pa_cons (pe_mtE (e_Floor_place_of (K := K) T) hr (by decide) passF (pv 0) (pa_cons (pv 2) pa_nil)) pa_nil)) rfl)
  (pss_cons (ps_if (pt_cmpR op_eq (pv 3) (pv 4) (nomark _)) (pss_one ps_never) pss_nil)
  (pss_cons (ps_set (i := 5) sc_Floor_lead.nd rfl (Or.inl rfl) (C8.pe_c (c_leads_of (K := K) T) hr (by decide) rfl (pa_cons (pe_callB (callLen (K := K)) rfl (b_len T) bb_len (pa_cons (peFld (K := K) (peFld (K := K) (pv 0))) pa_nil)) (pa_cons (peFld (K := K) (peFld (K := K) (pv 0))) pa_nil))))
  (pss_one (ps_ret (pe_dget (hu_of hr) (pv 5) (pe_tup (pa_cons (pe_callB (callMin rfl) rfl (b_min T) bb_min (pa_cons (pv 3) (pa_cons (pv 4) pa_nil))) (pa_cons (pe_callB (callMax rfl) rfl (b_max T) bb_max (pa_cons (pv 3) (pa_cons (pv 4) pa_nil))) pa_nil))) (fun _ _ => rfl))))))), ?_⟩
  obtain ⟨a, dx', n, d, e, l, bf, h1, h2, h3, h4⟩ := r_stOf hf
  have i1 := List.idxOf_lt_length_of_mem hc1
  have i2 := List.idxOf_lt_length_of_mem hc2
  have ine : fr.names.idxOf c1 ≠ fr.names.idxOf c2 := fun e => hne (by
    have a1 := List.getElem_idxOf i1
    have a2 := List.getElem_idxOf i2
    rw [← a1, ← a2]
    congr 1)
  walk_at "rd"
  refine r_me h1 ?_
  walk_at "rd"
  refine ⟨X, f, dx, m0, fr, fs, c1, rfl, hf, fun _ => ?_, fun h => absurd hc1 h⟩
  walk_at "rd"
  refine r_me h1 ?_
  walk_at "rd"
  refine ⟨X, f, dx, m0, fr, fs, c2, rfl, hf, fun _ => ?_, fun h => absurd hc2 h⟩
  walk_at "rd"
  refine ifD (fun he => absurd he (by omega)) (fun _ => ?_)
  walk_at "rd"
  refine r_fl h1 (cl_Floor T) (na_Floor_own_stand T) ?_
  refine r_fl h2 (cl_Stand T) (na_Stand_own_names T) ?_
  walk_at "rd"
  refine r_lenT (NT.sq h3.nm) ?_
  rw [List.length_map]
  walk_at "rd"
  refine r_fl h1 (cl_Floor T) (na_Floor_own_stand T) ?_
  refine r_fl h2 (cl_Stand T) (na_Stand_own_dance T) ?_
  walk_at "rd"
  refine ⟨_, fr.dance, d, rfl, h3.dn, W.dv, W.hi, fun p2 H2 s2 hp2 e2 => ?_⟩
  walk_at "rd"
  refine ⟨(sz1000 (Nat.le_of_ble_eq_true rfl)), ?_⟩
  (intro p3 hl_; generalize he_ : upd _ p3 _ = H3; have n3 := New.mk hl_ he_.symm; clear hl_ he_)
  have hk : H3 p3 = some (.tup ((lk (min (fr.names.idxOf c1 : Int) (fr.names.idxOf c2 : Int), max (fr.names.idxOf c1 : Int) (fr.names.idxOf c2 : Int))).map kV)) := n3.at
  refine r_getT (n3.get e2) hk (kvp_get (prsU_mem.mpr ?_)) ?_
  · dsimp only; omega
  · exact k H3 (s2.trans n3.same)
def sp_fEq (K : PySem.W.Frag) : Sp := fun vs H Q _ => ∃ (X Y : List Addr) (f dx g dy : Addr) (m0 m1 N : Nat) (fr gr : Fr) (fs gs : List Fr), vs = [.ref f, .ref g] ∧ FlAt K X H f dx m0 (fr :: fs) ∧ FlAt K Y H g dy m1 (gr :: gs) ∧ Wf N fr ∧ Wf N gr ∧ Q (.bl (decide (m0 = m1 ∧ fr.deeds = gr.deeds))) H
theorem c_Floor_eq (T : Tx w K mg base) : C8.Met P0 w K mg base 1 (ga K "Floor") "__eq__" (sp_fEq K) [] := by
  obtain ⟨fd, F⟩ := f_Floor_eq T
  refine met_of (cl_Floor T) (me_Floor_eq T) F (fun _ _ _ _ _ _ us hl => match us, hl with | [_, _], _ => rfl) sc_Floor_eq (fun vs H Q E h => by obtain ⟨_, _, _, _, _, _, _, _, _, _, _, _, _, rfl, _⟩ := h; rfl) (fun cdv A outer s H vs Q E hr h => ?_)
  obtain ⟨X, Y, f, dx, g, dy, m0, m1, N, fr, gr, fs, gs, rfl, hf, hg, W, W', k⟩ := h
  refine ⟨_, (pss_cons (ps_if (PW.pt (pw_or (pt_not (pt_val (pe_callB (callIsi (K := K)) rfl (b_isinstance T) bb_isinstance (pa_cons (pv 1) (pa_cons (C8.pe_gc (v := .ref (ga K "Floor")) rfl ⟨_, g_Floor T, rfl⟩) pa_nil))))) (pw_or1 (pt_cmpR op_ne (peFld (K := K) (pv 0)) (peFld (K := K) (pv 1)) (nomark _))))) (pss_one (ps_ret pe_bl)) pss_nil)
  (pss_one (ps_ret (pe_cmpR (opEqD (K := K) hr.units) (peFld (K := K) (peFld (K := K) (pv 0))) (peFld (K := K) (peFld (K := K) (pv 1))) (nomark _))))), ?_⟩
  obtain ⟨a, dx', n, d, e, l, bf, h1, h2, h3, h4⟩ := r_stOf hf
  obtain ⟨b, dy', n', d', e', l', bf', g1, g2, g3, g4⟩ := r_stOf hg
  obtain ⟨as, h5, h6⟩ := h3.dd
  obtain ⟨bs, g5, g6⟩ := g3.dd
  have IC := in_Floor T
  walk_at "rd"
  refine r_isi (.own _) (.base (.ins g1 IC.cl IC.ha IC.hn IC.htk IC.hm)) IC.me ?_
  walk_at "rd"
  refine iteF ?_
  walk_at "rd"
  refine r_fl h1 (cl_Floor T) (na_Floor_own_first T) ?_
  walk_at "rd"
  refine r_fl g1 (cl_Floor T) (na_Floor_own_first T) ?_
  walk_at "rd"
  by_cases hm : m0 = m1
  · subst hm
    rw [decide_eq_true rfl]
    refine iteF ?_
    walk_at "rd"
    refine r_fl h1 (cl_Floor T) (na_Floor_own_stand T) ?_
    refine r_fl h2 (cl_Stand T) (na_Stand_own_deeds T) ?_
    walk_at "rd"
    refine r_fl g1 (cl_Floor T) (na_Floor_own_stand T) ?_
    refine r_fl g2 (cl_Stand T) (na_Stand_own_deeds T) ?_
    refine r_eqG (p := fr.deeds = gr.deeds) (dp_log h5 h6) (dp_log g5 g6) (deeds_pl W.okD').low (deeds_pl W'.okD').low deeds_inj ?_
    rw [show decide (m0 = m0 ∧ fr.deeds = gr.deeds) = decide (fr.deeds = gr.deeds) from decide_eq_decide.mpr ⟨fun h => h.2, fun h => ⟨rfl, h⟩⟩] at k
    exact k
  · rw [decide_eq_false (show ¬ (m0 : Int) = (m1 : Int) by omega)]
    refine iteT ?_
    walk_at "rd"
    rw [decide_eq_false (fun h => hm h.1)] at k
    exact k
end
end My
end

section
set_option Elab.async false
set_option linter.all false
set_option maxRecDepth 100000
set_option maxHeartbeats 4000000
/-! NB: != by an own __eq__. -/
namespace PySem.W
open PySem PySem.Spec PySem.Calls PyProof.Rows Builtin
section
variable {prog : Program} {w : World} {A : Around} {E : Value → Shared → Prop} {s : Shared} {K : Frag} {x C L f : Addr} {h₀ : Heap} {m : Str → Option Value} {ox : Obj} {od : Option Obj} {b tb : Value}
theorem my_ne {Q : Value → Shared → Prop} (hu : A.units + 1 < cLine) (FF : Fr h₀ L s.heap m) (X₀ : K.In h₀) (I : InstAt s.heap x ox C od) (hb : Looks (model prog w) s.heap (typeOf b) tb) (hn : notFirst K C tb = true)
    (hs : findIn K (.ref C) "__ne__" = some (some (.builtin "object.__ne__"))) (he : findIn K (.ref C) "__eq__" = some (some (.ref f))) (hf : isFn K (.ref f) = true) (hm : mroIn K C (.type "object") = some true)
    (h : wpAny (model prog w) A.in1 (call (.ref f) [.ref x, b]) (fun v s' => ∃ r, v = .bool r ∧ Q (.bool (!r)) s') E s) : wpAny (model prog w) A (richCompare .NotEq (.ref x) b) Q E s := by
  have X := X₀.keeps FF.keep
  have sub : Looks (model prog w) s.heap (isInstance (.ref x) (.type "object")) true := I.type.andThen (looks_mroIn X hm)
  have body : wpAny (model prog w) A.in1 (Builtin.«object.__ne__» ⟨[.ref x, b], []⟩) (fun fin s' => match fin with | .done fl => wants (fun v s' => ∃ r', v = .bool r' ∧ Q (.bool r') s') E (.ok fl) s' | .again c' => c'.quiet = true ∧ codeAny (model prog w) A c' (wants (fun v s' => ∃ r', v = .bool r' ∧ Q (.bool r') s') E) s') E s := by
    unfold Builtin.«object.__ne__»
    refine wpAny_bind (wpAny_of_eq (a := ((Value.ref x : Value), [b])) (by first | rfl | (simp only [slotArgs]; rfl)) ?_)
    refine wpAny_bind (wpAny_cRoomFor hu ?_)
    refine wpAny_bind (ifBound_K X I he hf (wpAny_mono h (fun v s' hv => ?_) fun _ _ e => e))
    obtain ⟨r, rfl, hq⟩ := hv
    exact wpAny_bind (wpAny_truthy_bool (wpAny_pure ⟨!r, rfl, hq⟩))
  have one0 : wpAny (model prog w) A (callSpecialIfBound? (.ref x) "__ne__" [b]) (fun r s' => ∃ r', r = some (Value.bool r') ∧ Q (.bool r') s') E s := by
    simp only [callSpecialIfBound?, bindSpecialIfBound?]
    refine wpAny_holding (wpAny_bind (wpAny_bind (wpAny_bind (I.type.here ((looks_findIn X hs).here ?_)))))
    refine wpAny_bind (wpAny_askSetting (wpAny_ite ?_))
    have fin : wpAny (model prog w) A (call (.builtin "object.__ne__") ([.ref x] ++ [b]) >>= fun v => pure (some v)) (fun r s' => ∃ r', r = some (Value.bool r') ∧ Q (.bool r') s') E s := by
      refine wpAny_bind (wpAny_mono (Q := fun v s' => ∃ r', v = .bool r' ∧ Q (.bool r') s') (E := E) (wpAny_call (codeAny_call_builtin PySem.F.cmp_object.ne.plain PySem.F.cmpEntry_ne (check_slot PySem.F.cmpKind_ne PySem.F.cmpSplit_ne sub (PySem.F.cmpArgs_ne _ _) ?_))) (fun v s' hv => ?_) fun _ _ e => e)
      · exact body
      · obtain ⟨r', rfl, q⟩ := hv
        exact wpAny_pure ⟨r', rfl, q⟩
    split
    · exact wpAny_bind (by rw [PySem.F.cmp_object.ne.bind]; exact wpAny_pure (wpAny_pure (by exact fin)))
    · exact wpAny_tryCatch (wpAny_bind (by rw [PySem.F.cmp_object.ne.bind]; exact wpAny_pure (wpAny_pure (by exact fin))))
  have one : wpAny (model prog w) A (tryCompare (.ref x) "__ne__" b) (fun r s' => ∃ v, r = some v ∧ Q v s') E s := by
    unfold tryCompare
    refine wpAny_bind (wpAny_mono one0 (fun v s' hv => ?_) fun _ _ e => e)
    obtain ⟨r', rfl, q⟩ := hv
    exact wpAny_pure ⟨_, rfl, q⟩
  unfold richCompare
  simp only [oneThing_ref]
  refine wpAny_holding (wpAny_bind (wpAny_cRoomFor (Nat.lt_of_succ_lt hu) ?_))
  refine wpAny_bind (I.type.here (wpAny_bind (hb.here ?_)))
  split
  · rename_i q
    have e : subIn K tb (.ref C) = some false := by
      rcases Bool.or_eq_true_iff.mp hn with e | e
      · rw [beq_iff_eq.mp e] at q; simp at q
      · exact beq_iff_eq.mp e
    refine wpAny_bind ((looks_subIn X e).here ?_)
    simp only [Bool.false_eq_true, if_false]
    refine wpAny_bind (wpAny_mono one (fun r s' z => ?_) fun _ _ e => e)
    obtain ⟨v, rfl, hq⟩ := z
    exact wpAny_pure hq
  · refine wpAny_bind (wpAny_pure ?_)
    simp only [Bool.false_eq_true, if_false]
    refine wpAny_bind (wpAny_mono one (fun r s' z => ?_) fun _ _ e => e)
    obtain ⟨v, rfl, hq⟩ := z
    exact wpAny_pure hq
end
end PySem.W

namespace My
open PySem PySem.Spec PyProof.Rows L2 He LamX SX
section
variable {X : Cx} {k j : Nat} {C : Addr} {sp : Sp}
def rNeO (C : Addr) (sp : Sp) : R2 := fun x y H Q => ∃ a b dx dy fs gs, x = .ref a ∧ y = .ref b ∧ H a = some (.ins C dx fs) ∧ H b = some (.ins C dy gs) ∧ sp [.ref a, .ref b] H (fun v H' => ∃ r, v = .bl r ∧ Q (.bl (!r)) H') C8.E0
theorem opNeO (c : C8.Met X.prog X.w X.K X.mg X.base k C "__eq__" sp []) (IC : C8.InsC X.K C) (hne : PySem.W.findIn X.K (.ref C) "__ne__" = some (some (.builtin "object.__ne__"))) (hr : Room j X.A) (hk : k + 1 ≤ j) : OpR X (compareOp .NotEq) (rNeO C sp) := by
  intro pins s σ H x y u v Q I rx ry d
  obtain ⟨a, b, dx, dy, fs, gs, rfl, rfl, ha, hb', hsp⟩ := d
  cases rx
  cases ry
  obtain ⟨f, fd, ps, ds, hc, hm, F, hb, hd⟩ := c.ex
  cases hd
  obtain ⟨mA, J, _⟩ := ins_get I.hok ha
  obtain ⟨mB, J', _⟩ := ins_get I.hok hb'
  obtain ⟨od, J, _⟩ := J.look
  obtain ⟨od', J', _⟩ := J'.look
  obtain ⟨m, hF⟩ := I.fr
  have hr1 : Room (k + 1) X.A := hr.mono hk
  refine PySem.W.my_ne (tb := .ref C) (hu_of hr) hF I.ok.mod.kin J J'.type (by simp [PySem.W.notFirst]) hne hm.at_ hm.fn IC.hm ?_
  have hl := F.len _ _ _ _ hsp
  have r2 : Vals [V.ref a, V.ref b] [Value.ref a, Value.ref b] := .cons rfl (.cons rfl .nil)
  refine wpAny_call (codeAny_mono (F.run X.A.in1 X.stack s H ⟨[.ref a, .ref b], []⟩ [.ref a, .ref b] [.ref a, .ref b] _ C8.E0 hr1.in1 I.env0.in1 (by
    have := hb s [.ref a, .ref b] I.kIn (by simpa using hl)
    simpa using this) r2 hsp) fun r s' hq => ?_)
  cases r with
  | error e => exact (show False from hq).elim
  | ok fl =>
    cases fl with
    | ret w =>
      obtain ⟨z, H', I', rz, r, ez, q⟩ := I.after hq
      subst ez
      cases rz
      exact ⟨r, rfl, .bl (!r), H', I', rfl, q⟩
    | next => exact False.elim hq
    | brk => exact False.elim hq
    | cont => exact False.elim hq
end
end My
end

section
set_option Elab.async false
set_option linter.all false
set_option maxRecDepth 100000
set_option maxHeartbeats 4000000
/-! NC: deeds done; the chain of stands; written dicts. -/
namespace My
open PySem PySem.Spec PyProof.Rows L2 He LamX SX
local macro_rules | `(tactic| walk_at "rd") => `(tactic| repeat (with_reducible first
  | refine r_seq ?_ | refine r_asg ?_ | refine r_var (by with_unfolding_all rfl) ?_ | refine r_c ?_ | refine r_op ?_ | refine r_I0 ?_ | refine r_name ?_ | refine r_ret ?_ | refine r_if ?_ | refine r_cons ?_ | refine r_nil ?_
  | refine r_CB ?_ | refine r_call ?_ | refine r_test ?_ | refine r_eqI ?_ | refine r_eqS ?_ | refine r_neI ?_ | refine r_neS ?_ | refine r_drop ?_ | refine r_next ?_ | refine r_ifE ?_ | refine r_B ?_ | refine r_andV ?_ | refine r_orV ?_ | refine r_notV ?_ | refine r_blV ?_
  | refine r_and ?_ | refine r_or ?_ | refine r_not ?_ | refine r_tup ?_ | refine r_lst ?_ | refine r_par ?_ | refine r_exv2 ?_ | refine r_un ?_ | refine r_neg ?_ | refine r_isN ?_ | refine r_notN ?_ | refine r_retN ?_ | refine r_chain ?_
  | refine r_star ?_ | refine r_lstRg ?_ | refine r_rg1 ?_ | refine r_rg2 ?_ | refine r_exi ?_ | refine r_exi2 ?_ | refine r_sl ?_ | refine r_noPart ?_ | refine r_part ?_ | refine r_gnil ?_ | refine r_gcons ?_ | refine r_gsub ?_ | refine r_BM ?_ | refine r_M1 ?_ | refine r_isstr ?_ | refine r_meth ?_ | refine r_make ?_ | refine r_fld ?_ | refine r_abs ?_ | refine r_isiIntInt ?_ | refine r_isiIntBool ?_ | refine r_isiStr ?_ | refine r_min ?_ | refine r_max ?_ | refine r_int1 ?_ | refine r_intb ?_ | refine r_for ?_ | refine r_itup ?_ | refine r_ilist ?_ | refine r_lc ?_ | refine r_yes ?_ | refine r_istr ?_ | refine r_rng1 ?_ | refine r_rng2 ?_ | refine r_dput ?_ | refine r_daug ?_ | refine r_dget ?_ | refine r_dnewT ?_ | refine r_addI ?_ | refine r_ev ?_ | refine r_sfld ?_ | refine r_faug ?_ | refine r_prop ?_ | refine r_while ?_ | refine r_augS ?_ | refine r_tupF ?_ | refine r_idxT ?_ | refine r_kd ?_ | refine r_ki ?_ | refine r_enum ?_))

local macro_rules | `(tactic| walk_at "rn") => `(tactic| repeat (with_reducible first
  | refine r_seq ?_ | refine r_asg ?_ | refine r_var (by with_unfolding_all rfl) ?_ | refine r_c ?_ | refine r_op ?_ | refine r_I0 ?_ | refine r_name ?_ | refine r_ret ?_ | refine r_cons ?_ | refine r_nil ?_
  | refine r_CB ?_ | refine r_call ?_ | refine r_test ?_ | refine r_eqI ?_ | refine r_eqS ?_ | refine r_neI ?_ | refine r_neS ?_ | refine r_drop ?_ | refine r_next ?_ | refine r_B ?_ | refine r_andV ?_ | refine r_orV ?_ | refine r_notV ?_ | refine r_blV ?_
  | refine r_and ?_ | refine r_or ?_ | refine r_not ?_ | refine r_tup ?_ | refine r_lst ?_ | refine r_par ?_ | refine r_exv2 ?_ | refine r_un ?_ | refine r_neg ?_ | refine r_isN ?_ | refine r_notN ?_ | refine r_retN ?_ | refine r_chain ?_
  | refine r_star ?_ | refine r_lstRg ?_ | refine r_rg1 ?_ | refine r_rg2 ?_ | refine r_exi ?_ | refine r_exi2 ?_ | refine r_sl ?_ | refine r_noPart ?_ | refine r_part ?_ | refine r_gnil ?_ | refine r_gcons ?_ | refine r_gsub ?_ | refine r_BM ?_ | refine r_M1 ?_ | refine r_isstr ?_ | refine r_meth ?_ | refine r_make ?_ | refine r_fld ?_ | refine r_abs ?_ | refine r_isiIntInt ?_ | refine r_isiIntBool ?_ | refine r_isiStr ?_ | refine r_min ?_ | refine r_max ?_ | refine r_int1 ?_ | refine r_intb ?_ | refine r_for ?_ | refine r_itup ?_ | refine r_ilist ?_ | refine r_lc ?_ | refine r_yes ?_ | refine r_istr ?_ | refine r_rng1 ?_ | refine r_rng2 ?_ | refine r_dput ?_ | refine r_daug ?_ | refine r_dget ?_ | refine r_dnewT ?_ | refine r_addI ?_ | refine r_ev ?_ | refine r_sfld ?_ | refine r_faug ?_ | refine r_prop ?_ | refine r_while ?_ | refine r_augS ?_ | refine r_tupF ?_ | refine r_idxT ?_ | refine r_kd ?_ | refine r_ki ?_ | refine r_enum ?_))

local macro_rules | `(tactic| walk_at "hp") => `(tactic| (with_reducible first
  | assumption | exact New.at (by assumption)
  | exact SqT.of (by walk_at "hp") | exact SqL.of (by walk_at "hp") | exact Or.inl (by walk_at "hp") | exact Or.inr (by walk_at "hp")
  | exact New.get (by assumption) (by walk_at "hp") | exact Same.get (by assumption) (by walk_at "hp")))


/-! ### written dicts read -/
section
variable {X : Cx} {K : PySem.W.Frag} {o i : Expr} {td ty : TE} {pos : Pos} {d : Addr} {es : Array DictEntry} {n : Nat}
def tKd (K : PySem.W.Frag) (d : Addr) (td ty : TE) : TE := fun σ H Q => td σ H fun x H1 => ty σ H1 fun y H2 => ∃ (z : Str) (u0 : Value) (v0 : V), x = .ref d ∧ y = .str z ∧ PySem.W.nsIn K d z = some (some u0) ∧ RelV v0 u0 ∧ Q v0 H2
theorem pe_kd (D : KDict X.K X.w d es n) (ho : PE X o td) (hi : PE X i ty) (hs : NoSl i) (hk : X.K = K := by rfl) : PE X (.Subscript o i pos) (tKd K d td ty) := by
  subst hk
  refine ⟨fun pins s σ H Q I h => ?_⟩
  refine subD_of PySem.F.slot_dict_getitem.lookup hs (thn (ho.run pins s σ H _ I h) fun u s1 ⟨x, H1, I1, rx, q1⟩ => thn (hi.run pins s1 σ H1 _ I1 q1) fun iv s2 ⟨y, H2, I2, ry, z, u0, v0, ex, ey, e, r, q⟩ => ?_)
  subst ex ey
  obtain rfl : u = Value.ref d := rx
  exact ⟨kd_type D I2, op_item_kd D pins s2 σ H2 (.ref d) (.str z) (.ref d) iv Q I2 rfl ry ⟨z, u0, v0, rfl, rfl, e, r, q⟩⟩
def rInKd (K : PySem.W.Frag) (d : Addr) : R2 := fun x y H Q => ∃ (z : Str) (r : Option Value), x = .str z ∧ y = .ref d ∧ PySem.W.nsIn K d z = some r ∧ Q (.bl r.isSome) H
theorem opInKd (D : KDict X.K X.w d es n) (hk : X.K = K := by rfl) : OpR X (compareOp .In) (rInKd K d) := hk ▸ op_in_kd D
def tKi (K : PySem.W.Frag) (td ty : TE) : TE := fun σ H Q => td σ H fun x H1 => ty σ H1 fun y H2 => ∃ (d : Addr) (es : Array DictEntry) (k : Nat) (i : Int) (z : Str) (t : Tok), x = .ref d ∧ y = .int i ∧ K.lookup d = some ⟨.type "dict", none, .dict es k, #[]⟩ ∧ (∀ e ∈ es, ∃ j u, e.key = .int j u ∧ e.hash = hashInt j) ∧ findBy Value.isInt es i = some (.str z t) ∧ Q (.str z) H2
theorem pe_ki (ho : PE X o td) (hi : PE X i ty) (hs : NoSl i) (hk : X.K = K := by rfl) : PE X (.Subscript o i pos) (tKi K td ty) := by
  subst hk
  refine ⟨fun pins s σ H Q I h => ?_⟩
  refine subD_of PySem.F.slot_dict_getitem.lookup hs (thn (ho.run pins s σ H _ I h) fun u s1 ⟨x, H1, I1, rx, q1⟩ => thn (hi.run pins s1 σ H1 _ I1 q1) fun iv s2 ⟨y, H2, I2, ry, d, es, k, i, z, t, ex, ey, e, ke, fe, q⟩ => ?_)
  subst ex ey
  obtain rfl : u = Value.ref d := rx
  obtain ⟨t2, rfl⟩ := ry
  have M : s2.heap.MapOf (intKind X.prog X.w) d (fun k => findBy Value.isInt es k) := ⟨_, es, k, I2.kIn _ _ e, ⟨rfl, rfl, rfl⟩, rfl, fun en he => by
    obtain ⟨j, u, e1, e2⟩ := ke en he
    exact ⟨j, by rw [e1]; exact intKind_is _ _ _ _, e2⟩, fun _ => rfl⟩
  exact ⟨M.typeIs, wpAny_getItem_of (intKind_is _ _ _ _) M fe ⟨.str z, H2, I2.tok _, ⟨t, rfl⟩, q⟩⟩
theorem r_kd {σ : St} {H : Hp} {Q : VK} (h : td σ H fun x H1 => ty σ H1 fun y H2 => ∃ (z : Str) (u0 : Value) (v0 : V), x = .ref d ∧ y = .str z ∧ PySem.W.nsIn K d z = some (some u0) ∧ RelV v0 u0 ∧ Q v0 H2) : tKd K d td ty σ H Q := h
theorem r_ki {σ : St} {H : Hp} {Q : VK} (h : td σ H fun x H1 => ty σ H1 fun y H2 => ∃ (d : Addr) (es : Array DictEntry) (k : Nat) (i : Int) (z : Str) (t : Tok), x = .ref d ∧ y = .int i ∧ K.lookup d = some ⟨.type "dict", none, .dict es k, #[]⟩ ∧ (∀ e ∈ es, ∃ j u, e.key = .int j u ∧ e.hash = hashInt j) ∧ findBy Value.isInt es i = some (.str z t) ∧ Q (.str z) H2) : tKi K td ty σ H Q := h
end
/-! ### for at, item in enumerate(list) -/
theorem forE {nx : St → Hp → Prop} {rt : VK} {σ : St} {H : Hp} {K : PySem.W.Frag} {g : TG} {tb : TS} {α : Type} {a : Addr} (f : α → V) (l : List α) (hx : SqL K H a (l.map f)) (Pv : List α → St → Hp → Prop) (h0 : Pv [] σ H) (hl : ∀ pre σ H, Pv pre σ H → SqL K H a (l.map f))
    (hs : ∀ pre x post σ H, l = pre ++ x :: post → Pv pre σ H → ∀ T H2, New H T (.tup [.int (pre.length : Nat), f x]) H2 → g (.ref T) σ H2 fun σ2 H3 => tb ⟨Pv (pre ++ [x]), rt, nx, Pv (pre ++ [x])⟩ σ2 H3) (hd : ∀ σ H, Pv l σ H → nx σ H) :
    ∃ a' xs, [V.ref a] = [.ref a'] ∧ SqL K H a' xs ∧ ∃ W : Nat → Nat → St → Hp → Prop, (∃ m, W 0 m σ H) ∧ ∀ i m σ H, W i m σ H →
      ((Ite K a').stop i H ∧ nx σ H) ∨ ((Ite K a').go i H ∧ ∃ N : St → Hp → Prop, (∀ σ' H', N σ' H' → ∃ m', m' < m ∧ W (i + 1) m' σ' H') ∧ ∀ x H', (Ite K a').yld i H x H' → g x σ H' fun σ2 H2 => tb ⟨N, rt, nx, N⟩ σ2 H2) := by
  refine ⟨a, _, rfl, hx, loop_gen l Pv h0 (fun pre x post σ H e p => ⟨⟨_, f x, hl pre σ H p, at_mid e⟩, fun y H' hy => ?_⟩) fun σ H p => ⟨⟨_, hl l σ H p, by rw [List.length_map]; exact Nat.le_refl _⟩, hd σ H p⟩⟩
  obtain ⟨T, x', rfl, hT, rfl, hx'⟩ := hy
  have e2 := (hx' _ (hl pre σ H p)).symm.trans (at_mid (f := f) e)
  rw [Option.some.inj e2]
  exact hs pre x post σ H e p T _ ⟨hT, rfl⟩
theorem r_enum {σ : St} {H : Hp} {R : It → Hp → Prop} {K : PySem.W.Frag} {ta : TA} (h : ta σ H fun vs H1 => ∃ a xs, vs = [.ref a] ∧ SqL K H1 a xs ∧ R (Ite K a) H1) : iEnum K ta σ H R := h
theorem piEnum {X : Cx} {K : PySem.W.Frag} {e : Expr} {ta : TA} {p pos tpos : Pos} {elts : List Expr} {kk : Nat} (hg : Gl X "enumerate") (hm : X.mg "enumerate" = none) (ha : PA X [e] ta) (hs : starEach [e] X.env = [(false, eval e X.env)] := by rfl) (hk : X.K = K := by rfl) :
    PI X (.Tuple elts kk tpos) (.Call (.Name "enumerate" p) [e] [] pos) (iEnum K ta) := hk ▸ pi_enum hg hm ha hs
/-! ### the chain of stands, replayed -/
def Chain (m0 : Nat) : List Fr → Prop
  | [] => False
  | [fr] => fr = fr0 m0
  | fr :: g :: fs => Chain m0 (g :: fs) ∧ ∃ q, q ≠ .undo ∧ okD q ∧ actF (g :: fs) q = (none, fr :: g :: fs) ∧ fr.deeds = g.deeds ++ [q]
theorem act_deeds {fr g : Fr} {fs : List Fr} {q : Dd} (hq : q ≠ .undo) (h : actF (g :: fs) q = (none, fr :: g :: fs)) : fr.deeds = g.deeds ++ [q] := by
  cases q with
  | undo => exact absurd rfl hq
  | step i =>
    simp only [actF] at h
    split at h
    · injection h with _ h; injection h with h _; rw [← h]
    · cases h
  | leave n =>
    simp only [actF] at h
    split at h
    · cases h
    · split at h
      · cases h
      · injection h with _ h; injection h with h _; rw [← h]
  | join a n =>
    simp only [actF] at h
    split at h
    · cases h
    · split at h
      · cases h
      · split at h
        · cases h
        · injection h with _ h; injection h with h _; rw [← h]
/-- a deed that is done either lays a new stand above, or takes the top away -/
theorem act_shape {fs : List Fr} {q : Dd} (hne : fs ≠ []) : ((actF fs q).1 ≠ none ∧ (actF fs q).2 = fs) ∨ ((actF fs q).1 = none ∧ ((q = .undo ∧ ∃ fr, fs = fr :: (actF fs q).2 ∧ (actF fs q).2 ≠ []) ∨ (q ≠ .undo ∧ ∃ fr, (actF fs q).2 = fr :: fs))) := by
  cases fs with
  | nil => exact absurd rfl hne
  | cons g fs =>
    cases q with
    | undo =>
      simp only [actF]
      by_cases h : fs = []
      · rw [if_pos h]; exact .inl ⟨by simp, rfl⟩
      · rw [if_neg h]; exact .inr ⟨rfl, .inl ⟨by simp, g, rfl, h⟩⟩
    | step i =>
      simp only [actF]
      split
      · exact .inr ⟨rfl, .inr ⟨by simp, _, rfl⟩⟩
      · exact .inl ⟨by simp, rfl⟩
    | leave n =>
      simp only [actF]
      split
      · exact .inl ⟨by simp, rfl⟩
      · split
        · exact .inl ⟨by simp, rfl⟩
        · exact .inr ⟨rfl, .inr ⟨by simp, _, rfl⟩⟩
    | join a n =>
      simp only [actF]
      split
      · exact .inl ⟨by simp, rfl⟩
      · split
        · exact .inl ⟨by simp, rfl⟩
        · split
          · exact .inl ⟨by simp, rfl⟩
          · exact .inr ⟨rfl, .inr ⟨by simp, _, rfl⟩⟩
theorem Chain.ne {m0 : Nat} {fs : List Fr} (h : Chain m0 fs) : fs ≠ [] := fun e => by subst e; exact h
theorem chain_act {m0 : Nat} {fs : List Fr} {q : Dd} (h : Chain m0 fs) (hq : okD q) : Chain m0 (actF fs q).2 := by
  rcases act_shape (q := q) h.ne with ⟨_, e⟩ | ⟨h0, ⟨_, fr, e, hne⟩ | ⟨hu, fr, e⟩⟩
  · rw [e]; exact h
  · generalize (actF fs q).2 = gs at *
    subst e
    cases gs with
    | nil => exact absurd rfl hne
    | cons g gs => exact h.1
  · cases fs with
    | nil => exact absurd h (by simp [Chain])
    | cons g fs =>
      have e2 : actF (g :: fs) q = (none, fr :: g :: fs) := Prod.ext h0 e
      rw [e]
      exact ⟨h, q, hu, hq, e2, act_deeds hu e2⟩
def rep (m0 : Nat) (ds : List Dd) : List Fr := ds.foldl (fun fs q => (actF fs q).2) [fr0 m0]
theorem rep_snoc (m0 : Nat) (ds : List Dd) (q : Dd) : rep m0 (ds ++ [q]) = (actF (rep m0 ds) q).2 := by unfold rep; rw [List.foldl_append]; rfl
theorem chain_deeds {m0 : Nat} : ∀ {fr : Fr} {fs : List Fr}, Chain m0 (fr :: fs) → rep m0 fr.deeds = fr :: fs ∧ ∀ pre q post, fr.deeds = pre ++ q :: post → okD q ∧ q ≠ .undo ∧ Chain m0 (rep m0 pre) ∧ (actF (rep m0 pre) q).1 = none ∧ ∃ g gs, rep m0 pre = g :: gs ∧ g.deeds = pre
  | fr, [], h => by
    have e : fr = fr0 m0 := h
    subst e
    refine ⟨rfl, fun pre q post e => ?_⟩
    have : ([] : List Dd) = pre ++ q :: post := e
    simp at this
  | fr, g :: fs, h => by
    obtain ⟨h1, q0, hu, hok, hact, hd⟩ := h
    obtain ⟨ih1, ih2⟩ := chain_deeds h1
    refine ⟨by rw [hd, rep_snoc, ih1, hact], fun pre q post e => ?_⟩
    rw [hd] at e
    rcases List.eq_nil_or_concat post with hp | ⟨post', z, hp⟩
    · subst hp
      obtain ⟨e1, e2⟩ := List.append_inj' e rfl
      have e3 : q0 = q := (List.cons.inj e2).1
      subst e1 e3
      exact ⟨hok, hu, by rw [ih1]; exact h1, by rw [ih1, hact], g, fs, ih1, rfl⟩
    · rw [List.concat_eq_append] at hp
      subst hp
      have e' : g.deeds ++ [q0] = (pre ++ q :: post') ++ [z] := by rw [e]; simp
      obtain ⟨e1, _⟩ := List.append_inj' e' rfl
      exact ih2 pre q post' e1
section
variable {w : World} {K : PySem.W.Frag} {mg : Str → Option Value} {base : Heap}
/-- Wf by the deeds of the top: what a chain keeps -/
theorem chain_wf {m0 : Nat} (h1 : 2 ≤ m0) (h2 : m0 ≤ 5) : ∀ {fs : List Fr}, Chain m0 fs → ∀ fr ∈ fs, Wf fr.deeds.length fr
  | [], h => h.elim
  | [fr], h => fun g hg => by
    rw [List.mem_singleton.mp hg, show fr = fr0 m0 from h]
    exact fr0_wf h1 h2
  | fr :: g :: fs, h => fun k hk => by
    obtain ⟨hc, q, hu, hok, hact, hd⟩ := h
    have ih := chain_wf h1 h2 hc
    rcases List.mem_cons.mp hk with e | e
    · subst e
      have hlen : ∀ k' ∈ g :: fs, Wf g.deeds.length k' := fun k' hk' => (ih k' hk').more (chain_mono hc k' hk')
      have := act_wf hlen hok k (by rw [hact]; exact List.mem_cons_self)
      rw [hd, List.length_append]; exact this
    · exact ih k e
where chain_mono {m0 : Nat} : ∀ {g : Fr} {fs : List Fr}, Chain m0 (g :: fs) → ∀ k ∈ g :: fs, k.deeds.length ≤ g.deeds.length
  | g, [], _ => fun k hk => by rw [List.mem_singleton.mp hk]; exact Nat.le_refl _
  | g, f :: fs, h => fun k hk => by
    rcases List.mem_cons.mp hk with e | e
    · rw [e]; exact Nat.le_refl _
    · obtain ⟨hc, q, _, _, _, hd⟩ := h
      have := chain_mono hc k e
      rw [hd, List.length_append]; omega
end
end My
end

section
set_option Elab.async false
set_option linter.all false
set_option maxRecDepth 100000
set_option maxHeartbeats 4000000
/-! ND: deeds done, journals. -/
namespace My
open PySem PySem.Spec PyProof.Rows L2 He LamX SX
local macro_rules | `(tactic| walk_at "rd") => `(tactic| repeat (with_reducible first
  | refine r_seq ?_ | refine r_asg ?_ | refine r_var (by with_unfolding_all rfl) ?_ | refine r_c ?_ | refine r_op ?_ | refine r_I0 ?_ | refine r_name ?_ | refine r_ret ?_ | refine r_if ?_ | refine r_cons ?_ | refine r_nil ?_
  | refine r_CB ?_ | refine r_call ?_ | refine r_test ?_ | refine r_eqI ?_ | refine r_eqS ?_ | refine r_neI ?_ | refine r_neS ?_ | refine r_drop ?_ | refine r_next ?_ | refine r_ifE ?_ | refine r_B ?_ | refine r_andV ?_ | refine r_orV ?_ | refine r_notV ?_ | refine r_blV ?_
  | refine r_and ?_ | refine r_or ?_ | refine r_not ?_ | refine r_tup ?_ | refine r_lst ?_ | refine r_par ?_ | refine r_exv2 ?_ | refine r_un ?_ | refine r_neg ?_ | refine r_isN ?_ | refine r_notN ?_ | refine r_retN ?_ | refine r_chain ?_
  | refine r_star ?_ | refine r_lstRg ?_ | refine r_rg1 ?_ | refine r_rg2 ?_ | refine r_exi ?_ | refine r_exi2 ?_ | refine r_sl ?_ | refine r_noPart ?_ | refine r_part ?_ | refine r_gnil ?_ | refine r_gcons ?_ | refine r_gsub ?_ | refine r_BM ?_ | refine r_M1 ?_ | refine r_isstr ?_ | refine r_meth ?_ | refine r_make ?_ | refine r_fld ?_ | refine r_abs ?_ | refine r_isiIntInt ?_ | refine r_isiIntBool ?_ | refine r_isiStr ?_ | refine r_min ?_ | refine r_max ?_ | refine r_int1 ?_ | refine r_intb ?_ | refine r_for ?_ | refine r_itup ?_ | refine r_ilist ?_ | refine r_lc ?_ | refine r_yes ?_ | refine r_istr ?_ | refine r_rng1 ?_ | refine r_rng2 ?_ | refine r_dput ?_ | refine r_daug ?_ | refine r_dget ?_ | refine r_dnewT ?_ | refine r_addI ?_ | refine r_ev ?_ | refine r_sfld ?_ | refine r_faug ?_ | refine r_prop ?_ | refine r_while ?_ | refine r_augS ?_ | refine r_tupF ?_ | refine r_idxT ?_ | refine r_kd ?_ | refine r_ki ?_ | refine r_enum ?_))

local macro_rules | `(tactic| walk_at "rn") => `(tactic| repeat (with_reducible first
  | refine r_seq ?_ | refine r_asg ?_ | refine r_var (by with_unfolding_all rfl) ?_ | refine r_c ?_ | refine r_op ?_ | refine r_I0 ?_ | refine r_name ?_ | refine r_ret ?_ | refine r_cons ?_ | refine r_nil ?_
  | refine r_CB ?_ | refine r_call ?_ | refine r_test ?_ | refine r_eqI ?_ | refine r_eqS ?_ | refine r_neI ?_ | refine r_neS ?_ | refine r_drop ?_ | refine r_next ?_ | refine r_B ?_ | refine r_andV ?_ | refine r_orV ?_ | refine r_notV ?_ | refine r_blV ?_
  | refine r_and ?_ | refine r_or ?_ | refine r_not ?_ | refine r_tup ?_ | refine r_lst ?_ | refine r_par ?_ | refine r_exv2 ?_ | refine r_un ?_ | refine r_neg ?_ | refine r_isN ?_ | refine r_notN ?_ | refine r_retN ?_ | refine r_chain ?_
  | refine r_star ?_ | refine r_lstRg ?_ | refine r_rg1 ?_ | refine r_rg2 ?_ | refine r_exi ?_ | refine r_exi2 ?_ | refine r_sl ?_ | refine r_noPart ?_ | refine r_part ?_ | refine r_gnil ?_ | refine r_gcons ?_ | refine r_gsub ?_ | refine r_BM ?_ | refine r_M1 ?_ | refine r_isstr ?_ | refine r_meth ?_ | refine r_make ?_ | refine r_fld ?_ | refine r_abs ?_ | refine r_isiIntInt ?_ | refine r_isiIntBool ?_ | refine r_isiStr ?_ | refine r_min ?_ | refine r_max ?_ | refine r_int1 ?_ | refine r_intb ?_ | refine r_for ?_ | refine r_itup ?_ | refine r_ilist ?_ | refine r_lc ?_ | refine r_yes ?_ | refine r_istr ?_ | refine r_rng1 ?_ | refine r_rng2 ?_ | refine r_dput ?_ | refine r_daug ?_ | refine r_dget ?_ | refine r_dnewT ?_ | refine r_addI ?_ | refine r_ev ?_ | refine r_sfld ?_ | refine r_faug ?_ | refine r_prop ?_ | refine r_while ?_ | refine r_augS ?_ | refine r_tupF ?_ | refine r_idxT ?_ | refine r_kd ?_ | refine r_ki ?_ | refine r_enum ?_))

local macro_rules | `(tactic| walk_at "hp") => `(tactic| (with_reducible first
  | assumption | exact New.at (by assumption)
  | exact SqT.of (by walk_at "hp") | exact SqL.of (by walk_at "hp") | exact Or.inl (by walk_at "hp") | exact Or.inr (by walk_at "hp")
  | exact New.get (by assumption) (by walk_at "hp") | exact Same.get (by assumption) (by walk_at "hp")))


theorem PostD.mono {K : PySem.W.Frag} {X : List Addr} {f dx : Addr} {m0 : Nat} {r : Option Kd × List Fr} {H : Hp} {Q Q' : VK} {E E' : XK} (h : PostD K X f dx m0 r H Q E) (hQ : ∀ H', Q .non H' → Q' .non H') (hE : ∀ c d H', E c d H' → E' c d H') : PostD K X f dx m0 r H Q' E' := by
  obtain ⟨a, fs⟩ := r
  cases a with
  | none => exact fun H' h1 h2 => hQ H' (h H' h1 h2)
  | some k => exact fun d H' h1 h2 => hE _ _ _ (h d H' h1 h2)
section
variable {w : World} {K : PySem.W.Frag} {mg : Str → Option Value} {base : Heap}
def sp_do (K : PySem.W.Frag) : Sp := fun vs H Q E => ∃ (X : List Addr) (f dx : Addr) (m0 N : Nat) (fr : Fr) (fs : List Fr) (q : Dd) (dq : Addr), vs = [.ref f, .ref dq] ∧ H dq = some (.tup (deedV q)) ∧ okD q ∧ FlAt K X H f dx m0 (fr :: fs) ∧ Wf N fr ∧ N ≤ 100 ∧ PostD K X f dx m0 (actF (fr :: fs) q) H Q E
theorem e_do (T : Tx w K mg base) : CalE P0 w K mg base 8 "do" (sp_do K) := by
  obtain ⟨fd, F⟩ := f_do T
  refine calE_of F (g_do T) (fun _ _ _ _ _ _ us hl => match us, hl with | [_, _], _ => rfl) sc_do (fun vs H Q E h => by obtain ⟨_, _, _, _, _, _, _, _, _, rfl, _⟩ := h; rfl) (fun cdv A outer s H vs Q E hr h => ?_)
  obtain ⟨X, f, dx, m0, N, fr, fs, q, dq, rfl, hq, hok, hf, W, hN, k⟩ := h
  refine ⟨_, (pss_one (ps_if (pt_cmpR op_eq (pe_ix (ixT (K := K)) (pv 1) pe_int (fun _ _ => rfl)) pe_str (nomark _)) (pss_one (ps_expr (pe_mtE (e_Floor_step (K := K) T) hr (by decide) (passes_call (takes_of rfl rfl rfl rfl) (fun _ _ _ _ h => h)) (pv 0) (pa_cons (pe_ix (ixT (K := K)) (pv 1) pe_int (fun _ _ => rfl)) pa_nil)))) (pss_one (ps_if (pt_cmpR op_eq (pe_ix (ixT (K := K)) (pv 1) pe_int (fun _ _ => rfl)) pe_str (nomark _)) (pss_one (ps_expr (pe_mtE (e_Floor_leave (K := K) T) hr (by decide) (passes_call (takes_of rfl rfl rfl rfl) (fun _ _ _ _ h => h)) (pv 0) (pa_cons (pe_ix (ixT (K := K)) (pv 1) pe_int (fun _ _ => rfl)) pa_nil)))) (pss_one (ps_if (pt_cmpR op_eq (pe_ix (ixT (K := K)) (pv 1) pe_int (fun _ _ => rfl)) pe_str (nomark _)) (pss_one (ps_expr (pe_mtE (e_Floor_join (K := K) T) hr (by decide) (passes_call (takes_of rfl rfl rfl rfl) (fun _ _ _ _ h => h)) (pv 0) (pa_cons (pe_ix (ixT (K := K)) (pv 1) pe_int (fun _ _ => rfl)) (pa_cons (pe_ix (ixT (K := K)) (pv 1) pe_int (fun _ _ => rfl)) pa_nil))))) (pss_one (ps_expr (pe_mtE0 (e_Floor_undo (K := K) T) hr (by decide) (passes_call (takes_of rfl rfl rfl rfl) (fun _ _ _ _ h => h)) (pv 0)))))))))), ?_⟩
  obtain ⟨a, dx', n, d, e, l, bf, h1, h2, h3, h4⟩ := r_stOf hf
  walk_at "rd"
  cases q with
  | step i =>
    refine r_ixT (SqT.of hq) rfl ?_
    walk_at "rd"
    refine ifD (fun _ => ?_) (fun h => absurd rfl h)
    walk_at "rd"
    refine r_me h1 ?_
    walk_at "rd"
    refine r_ixT (SqT.of hq) rfl ?_
    walk_at "rd"
    exact ⟨X, f, dx, m0, N, fr, fs, i, rfl, hf, W, hN, k.mono (fun H' h => h) fun _ _ _ h => h⟩
  | leave c =>
    refine r_ixT (SqT.of hq) rfl ?_
    walk_at "rd"
    refine ifD (fun h => absurd h (by decide)) (fun _ => ?_)
    walk_at "rd"
    refine r_ixT (SqT.of hq) rfl ?_
    walk_at "rd"
    refine ifD (fun _ => ?_) (fun h => absurd rfl h)
    walk_at "rd"
    refine r_me h1 ?_
    walk_at "rd"
    refine r_ixT (SqT.of hq) rfl ?_
    walk_at "rd"
    exact ⟨X, f, dx, m0, N, fr, fs, c, rfl, hf, W, hN, k.mono (fun H' h => h) fun _ _ _ h => h⟩
  | join i c =>
    refine r_ixT (SqT.of hq) rfl ?_
    walk_at "rd"
    refine ifD (fun h => absurd h (by decide)) (fun _ => ?_)
    walk_at "rd"
    refine r_ixT (SqT.of hq) rfl ?_
    walk_at "rd"
    refine ifD (fun h => absurd h (by decide)) (fun _ => ?_)
    walk_at "rd"
    refine r_ixT (SqT.of hq) rfl ?_
    walk_at "rd"
    refine ifD (fun _ => ?_) (fun h => absurd rfl h)
    walk_at "rd"
    refine r_me h1 ?_
    walk_at "rd"
    refine r_ixT (SqT.of hq) rfl ?_
    walk_at "rd"
    refine r_ixT (SqT.of hq) rfl ?_
    walk_at "rd"
    exact ⟨X, f, dx, m0, N, fr, fs, i, c, rfl, hok.1, hok.2, hf, W, hN, k.mono (fun H' h => h) fun _ _ _ h => h⟩
  | undo =>
    refine r_ixT (SqT.of hq) rfl ?_
    walk_at "rd"
    refine ifD (fun h => absurd h (by decide)) (fun _ => ?_)
    walk_at "rd"
    refine r_ixT (SqT.of hq) rfl ?_
    walk_at "rd"
    refine ifD (fun h => absurd h (by decide)) (fun _ => ?_)
    walk_at "rd"
    refine r_ixT (SqT.of hq) rfl ?_
    walk_at "rd"
    refine ifD (fun h => absurd h (by decide)) (fun _ => ?_)
    walk_at "rd"
    refine r_me h1 ?_
    walk_at "rd"
    exact ⟨X, f, dx, m0, fr, fs, rfl, hf, k.mono (fun H' h => h) fun _ _ _ h => h⟩
def sp_isDeed : Sp := fun vs H Q _ => ∃ (q : Dd) (dq : Addr), vs = [.ref dq] ∧ H dq = some (.tup (deedV q)) ∧ Q (.bl true) H
theorem c_is_deed (T : Tx w K mg base) : C8.Cal P0 w K mg base 1 "is_deed" sp_isDeed [] := by
  obtain ⟨fd, F⟩ := f_is_deed T
  refine cal_of F (g_is_deed T) (fun _ _ _ _ _ _ us hl => match us, hl with | [_], _ => rfl) sc_is_deed (fun vs H Q E h => by obtain ⟨_, _, rfl, _⟩ := h; rfl) (fun cdv A outer s H vs Q E hr h => ?_)
  obtain ⟨q, dq, rfl, hq, k⟩ := h
  obtain ⟨es, en, DP⟩ := T.prt
  refine ⟨_, (pss_cons (ps_if (PW.pt (pw_or (pt_not (pt_val (pe_callB (callIsi (K := K)) rfl (b_isinstance T) bb_isinstance (pa_cons (pv 0) (pa_cons (pe_bltn (v := .ty "tuple") (by rfl) (b_tuple T) bb_tuple rfl) pa_nil))))) (pw_or (pt_cmpR op_eq (pe_callB (callLen (K := K)) rfl (b_len T) bb_len (pa_cons (pv 0) pa_nil)) pe_int (nomark _)) (pw_or1 (pt_not (pt_val (pe_callB (callIsi (K := K)) rfl (b_isinstance T) bb_isinstance (pa_cons (pe_ix (ixT (K := K)) (pv 0) pe_int (fun _ _ => rfl)) (pa_cons (pe_bltn (v := .ty "str") (by rfl) (b_str T) bb_str rfl) pa_nil))))))))) (pss_one (ps_ret pe_bl)) pss_nil)
  (pss_one (ps_ret (pe_and (pe_cmpR (opInKd (K := K) DP) (pe_ix (ixT (K := K)) (pv 0) pe_int (fun _ _ => rfl)) (C8.pe_gc (v := .ref (ga K "PARTS")) rfl ⟨_, g_PARTS T, rfl⟩) (by rfl)) (pe_one (pe_cmpR op_eq (pe_kd (K := K) DP (C8.pe_gc (v := .ref (ga K "PARTS")) rfl ⟨_, g_PARTS T, rfl⟩) (pe_ix (ixT (K := K)) (pv 0) pe_int (fun _ _ => rfl)) (fun _ _ => rfl)) (pe_callB (callLen (K := K)) rfl (b_len T) bb_len (pa_cons (pv 0) pa_nil)) (nomark _))))))), ?_⟩
  walk_at "rd"
  refine r_isiTup hq ?_
  walk_at "rd"
  refine iteF ?_
  walk_at "rd"
  refine r_lenT (SqT.of hq) ?_
  walk_at "rd"
  refine ifD (fun h => absurd h (by cases q <;> simp [deedV])) (fun _ => ?_)
  walk_at "rd"
  cases q with
  | step i =>
    refine r_ixT (SqT.of hq) rfl ?_
    walk_at "rd"
    refine iteF ?_
    walk_at "rd"
    refine r_ixT (SqT.of hq) rfl ?_
    walk_at "rd"
    obtain ⟨t, ht⟩ := pt_step T
    refine ⟨_, _, rfl, rfl, ht, ?_⟩
    walk_at "rd"
    refine iteT ?_
    walk_at "rd"
    refine r_ixT (SqT.of hq) rfl ?_
    refine ⟨_, _, .int 2, rfl, rfl, ht, ⟨t, rfl⟩, ?_⟩
    walk_at "rd"
    refine r_lenT (SqT.of hq) ?_
    walk_at "rd"
    exact k
  | leave c =>
    refine r_ixT (SqT.of hq) rfl ?_
    walk_at "rd"
    refine iteF ?_
    walk_at "rd"
    refine r_ixT (SqT.of hq) rfl ?_
    walk_at "rd"
    obtain ⟨t, ht⟩ := pt_leave T
    refine ⟨_, _, rfl, rfl, ht, ?_⟩
    walk_at "rd"
    refine iteT ?_
    walk_at "rd"
    refine r_ixT (SqT.of hq) rfl ?_
    refine ⟨_, _, .int 2, rfl, rfl, ht, ⟨t, rfl⟩, ?_⟩
    walk_at "rd"
    refine r_lenT (SqT.of hq) ?_
    walk_at "rd"
    exact k
  | join i c =>
    refine r_ixT (SqT.of hq) rfl ?_
    walk_at "rd"
    refine iteF ?_
    walk_at "rd"
    refine r_ixT (SqT.of hq) rfl ?_
    walk_at "rd"
    obtain ⟨t, ht⟩ := pt_join T
    refine ⟨_, _, rfl, rfl, ht, ?_⟩
    walk_at "rd"
    refine iteT ?_
    walk_at "rd"
    refine r_ixT (SqT.of hq) rfl ?_
    refine ⟨_, _, .int 3, rfl, rfl, ht, ⟨t, rfl⟩, ?_⟩
    walk_at "rd"
    refine r_lenT (SqT.of hq) ?_
    walk_at "rd"
    exact k
  | undo =>
    refine r_ixT (SqT.of hq) rfl ?_
    walk_at "rd"
    refine iteF ?_
    walk_at "rd"
    refine r_ixT (SqT.of hq) rfl ?_
    walk_at "rd"
    obtain ⟨t, ht⟩ := pt_undo T
    refine ⟨_, _, rfl, rfl, ht, ?_⟩
    walk_at "rd"
    refine iteT ?_
    walk_at "rd"
    refine r_ixT (SqT.of hq) rfl ?_
    refine ⟨_, _, .int 1, rfl, rfl, ht, ⟨t, rfl⟩, ?_⟩
    walk_at "rd"
    refine r_lenT (SqT.of hq) ?_
    walk_at "rd"
    exact k
/-! ### one item of a journal -/
theorem tryBody {X : Cx} {e : Expr} {pos : Pos} {te : XK → TE} {W : WX} (hp : ∀ E : XK, (∀ cls d σ H, E cls d H → W cls d σ H) → PE X e (te E)) (hs : swapsWith e none pos.line X.env = pure false := by rfl) :
    PSs X [.Expr e pos] (fun D σ H => ∃ E : XK, (∀ cls d σ' H', E cls d H' → W cls d σ' H') ∧ tDrop (te E) D σ H) := by
  refine ⟨fun pins s σ H D I h => ?_⟩
  obtain ⟨E, hW, h⟩ := h
  exact (pss_one (ps_expr (hp E hW) hs)).run pins s σ H D I h
theorem exm_all (T : Tx w K mg base) (k : Kd) : PySem.W.exmOne K (exV K k) (.ref (ga K "MaypoleError")) = some true := by
  cases k
  · exact xm_BadStep_MaypoleError T
  · exact xm_BadName_MaypoleError T
  · exact xm_BadNumber_MaypoleError T
  · exact xm_NotNow_MaypoleError T
  · exact xm_NothingDone_MaypoleError T
theorem stand_pl {N : Nat} {fr : Fr} (W : Wf N fr) : ∀ x ∈ standF fr, 97 ≤ x ∧ x ≤ 122 := fun x hx => by
  unfold standF at hx
  obtain ⟨i, hi, rfl⟩ := List.mem_map.mp hx
  obtain ⟨h1, h2⟩ := order_mem W.dv hi
  refine W.letN _ ?_
  rw [List.getD_eq_getElem?_getD, List.getElem?_eq_getElem (by omega)]
  exact List.getElem_mem _
theorem nms_pl {l : List Nat} (h : ∀ x ∈ l, 97 ≤ x ∧ x ≤ 122) : PlD 1 (.tuple (l.map fun n => .str (S [n]))) := PlD.tuple (n := 0) (PlDs.of fun d hd => by
  obtain ⟨x, hx, rfl⟩ := List.mem_map.mp hd
  exact .str (ok_let (h x hx).2))
theorem dp_nmsAll {H : Hp} (l : List Nat) : DpAll K H (l.map nmV) (l.map fun n => .str (S [n])) := by
  induction l with
  | nil => exact .nil
  | cons a l ih => exact .cons (.str _) ih
theorem dp_nms {H : Hp} {a : Addr} {l : List Nat} (h : SqT K H a (l.map nmV)) : Dp K H (.ref a) (.tuple (l.map fun n => .str (S [n]))) := .tup h (dp_nmsAll l)
theorem nms_inj {a b : List Nat} : a = b ↔ PyData.tuple (a.map fun n => .str (S [n])) = PyData.tuple (b.map fun n => .str (S [n])) :=
  ⟨fun h => by rw [h], fun h => (List.map_inj_right fun x y e => (List.cons.inj (S_inj (PyData.str.inj e))).1).mp (PyData.tuple.inj h)⟩
def headF (m0 : Nat) (fs : List Fr) : Fr := fs.headD (fr0 m0)
def sp_isDone (K : PySem.W.Frag) : Sp := fun vs H Q _ => ∃ (X : List Addr) (f dx : Addr) (m0 N : Nat) (fr : Fr) (fs : List Fr) (q : Dd) (r dq z : Addr) (st : List Nat), vs = [.ref f, .ref r] ∧ FlAt K X H f dx m0 (fr :: fs) ∧ (∀ g ∈ fr :: fs, Wf N g) ∧ N ≤ 99 ∧ okD q ∧
  H r = some (.tup [.ref dq, .ref z]) ∧ H dq = some (.tup (deedV q)) ∧ H z = some (.tup (st.map nmV)) ∧ (∀ x ∈ st, 97 ≤ x ∧ x ≤ 122) ∧
  ∀ H', SameBut f H H' → FlAt K X H' f dx m0 (actF (fr :: fs) q).2 → Q (.bl (decide ((actF (fr :: fs) q).1 = none ∧ st = standF (headF m0 (actF (fr :: fs) q).2)))) H'
theorem c_is_done (T : Tx w K mg base) : C8.Cal P0 w K mg base 9 "is_done" (sp_isDone K) [] := by
  obtain ⟨fd, F⟩ := f_is_done T
  refine cal_of F (g_is_done T) (fun _ _ _ _ _ _ us hl => match us, hl with | [_, _], _ => rfl) sc_is_done (fun vs H Q E h => by obtain ⟨_, _, _, _, _, _, _, _, _, _, _, _, rfl, _⟩ := h; rfl) (fun cdv A outer s H vs Q E hr h => ?_)
  obtain ⟨X, f, dx, m0, N, fr, fs, q, r, dq, z, st, rfl, hf, W, hN, hok, hr1, hq, hz, hst, k⟩ := h
  refine ⟨_, (pss_cons (ps_if (PW.pt (pw_or (pt_not (pt_val (C8.pe_c (c_is_pair (K := K) T) hr (by decide) rfl (pa_cons (pv 1) pa_nil)))) (pw_or1 (pt_not (pt_val (C8.pe_c (c_is_deed (K := K) T) hr (by decide) rfl (pa_cons (pe_ix (ixT (K := K)) (pv 1) pe_int (fun _ _ => rfl)) pa_nil))))))) (pss_one (ps_ret pe_bl)) pss_nil)
  (pss_cons (ps_try_only rfl rfl ⟨rfl, by decide, .inl (g_MaypoleError T)⟩ LamX.takes0 (fun W pn xe tk _ => tryBody fun E hW => pe_cE (e_do (K := K) T) hr (by decide) rfl (passes_call tk hW) (pa_cons (pv 0) (pa_cons (pe_ix (ixT (K := K)) (pv 1) pe_int (fun _ _ => rfl)) pa_nil))) (fun a oe cls d pn _ _ => pss_one (ps_ret pe_bl)))
  (pss_one (ps_ret (pe_and (pe_callB (callIsi (K := K)) rfl (b_isinstance T) bb_isinstance (pa_cons (pe_ix (ixT (K := K)) (pv 1) pe_int (fun _ _ => rfl)) (pa_cons (pe_bltn (v := .ty "tuple") (by rfl) (b_tuple T) bb_tuple rfl) pa_nil))) (pe_one (pe_cmpR (opEqD (K := K) hr.units) (pe_ix (ixT (K := K)) (pv 1) pe_int (fun _ _ => rfl)) (pe_pr (p_Floor_standing (K := K) T) hr (by decide) (pv 0) rfl) (nomark _)))))))), ?_⟩
  obtain ⟨a, dx', n, d, e, l, bf, h1, h2, h3, h4⟩ := r_stOf hf
  have W0 := W fr List.mem_cons_self
  walk_at "rd"
  refine ⟨r, _, rfl, hr1, ?_⟩
  walk_at "rd"
  refine iteF ?_
  walk_at "rd"
  refine r_ixT (SqT.of hr1) rfl ?_
  walk_at "rd"
  refine ⟨q, dq, rfl, hq, ?_⟩
  walk_at "rd"
  refine iteF ?_
  walk_at "rd"
  refine ⟨fun cls d H' => (∃ kd, cls = exV K kd) ∧ Same H H' ∧ (actF (fr :: fs) q).1 ≠ none, fun cls d σ' H' h => ?_, ?_⟩
  · obtain ⟨⟨kd, rfl⟩, s', hn⟩ := h
    refine ⟨true, exm_all T kd, fun _ b hb => ?_, fun h => nomatch h⟩
    walk_at "rd"
    rcases act_shape (fs := fr :: fs) (q := q) (List.cons_ne_nil _ _) with ⟨_, e2⟩ | ⟨e1, _⟩
    · have k2 := k H' (SameBut.of s') (by rw [e2]; exact hf.same s')
      rw [decide_eq_false (fun h => hn h.1)] at k2
      exact k2
    · exact absurd e1 hn
  · walk_at "rd"
    refine r_ixT (SqT.of hr1) rfl ?_
    walk_at "rd"
    refine ⟨X, f, dx, m0, N, fr, fs, q, dq, rfl, hq, hok, hf, W0, by omega, ?_⟩
    have hwf := act_wf W hok
    have hne := act_ne (fs := fr :: fs) (q := q) (List.cons_ne_nil _ _)
    have fin : ∀ H', SameBut f H H' → FlAt K X H' f dx m0 (actF (fr :: fs) q).2 → (actF (fr :: fs) q).1 = none →
        tRet (tAndV (tCB (rIsi K) (tCons (tOp (rIxT K) (tVar 1) (tC (.int 1))) (tCons (tC (.ty "tuple")) tNil))) (tOp (rEqD K) (tOp (rIxT K) (tVar 1) (tC (.int 1))) (tProp (ga K "Floor") (sp_fStanding K) [] C8.E0 (tVar 0)))) { nx := fun _ H' => Q .non H', rt := Q } [some (.ref f), some (.ref r)] H' := by
      intro H' sb hf' h0
      have k2 := k H' sb hf'
      generalize (actF (fr :: fs) q).2 = gs at *
      cases gs with
      | nil => exact absurd rfl hne
      | cons g gs =>
        have hrf : r ≠ f := fun e => by subst e; rw [h1] at hr1; cases hr1
        have hzf : z ≠ f := fun e => by subst e; rw [h1] at hz; cases hz
        obtain ⟨_, _, _, _, _, _, _, g1, _, _, _⟩ := r_stOf hf'
        walk_at "rd"
        refine r_ixT (SqT.of (sb _ _ hrf hr1)) rfl ?_
        walk_at "rd"
        refine r_isiTup (sb _ _ hzf hz) ?_
        walk_at "rd"
        refine iteT ?_
        walk_at "rd"
        refine r_ixT (SqT.of (sb _ _ hrf hr1)) rfl ?_
        walk_at "rd"
        refine r_pr g1 ?_
        refine ⟨X, f, dx, m0, N + 1, g, gs, rfl, hf', hwf g List.mem_cons_self, fun p H2 s2 e2 => ?_⟩
        refine r_eqG (p := st = standF g) (dp_nms (SqT.of (s2 _ _ (sb _ _ hzf hz)))) (dp_nms (SqT.of e2)) (nms_pl hst).low (nms_pl (stand_pl (hwf g List.mem_cons_self))).low nms_inj ?_
        have k3 := k H2 (sb.same s2) (hf'.same s2)
        rw [show decide ((actF (fr :: fs) q).1 = none ∧ st = standF (headF m0 (g :: gs))) = decide (st = standF g) from decide_eq_decide.mpr ⟨fun h => h.2, fun h => ⟨h0, h⟩⟩] at k3
        exact k3
    unfold PostD
    split
    · rename_i fs' e
      have e1 : (actF (fr :: fs) q).1 = none := by rw [e]
      have e2 : (actF (fr :: fs) q).2 = fs' := by rw [e]
      intro H' sb hf'
      refine fin H' sb (by rw [e2]; exact hf') e1
    · rename_i kd fs' e
      exact fun d H' s' _ => ⟨⟨kd, rfl⟩, s', by rw [e]; simp⟩
end
end My
end

section
set_option Elab.async false
set_option linter.all false
set_option maxRecDepth 100000
set_option maxHeartbeats 4000000
/-! NE: journals. -/
namespace My
open PySem PySem.Spec PyProof.Rows L2 He LamX SX
local macro_rules | `(tactic| walk_at "rd") => `(tactic| repeat (with_reducible first
  | refine r_seq ?_ | refine r_asg ?_ | refine r_var (by with_unfolding_all rfl) ?_ | refine r_c ?_ | refine r_op ?_ | refine r_I0 ?_ | refine r_name ?_ | refine r_ret ?_ | refine r_if ?_ | refine r_cons ?_ | refine r_nil ?_
  | refine r_CB ?_ | refine r_call ?_ | refine r_test ?_ | refine r_eqI ?_ | refine r_eqS ?_ | refine r_neI ?_ | refine r_neS ?_ | refine r_drop ?_ | refine r_next ?_ | refine r_ifE ?_ | refine r_B ?_ | refine r_andV ?_ | refine r_orV ?_ | refine r_notV ?_ | refine r_blV ?_
  | refine r_and ?_ | refine r_or ?_ | refine r_not ?_ | refine r_tup ?_ | refine r_lst ?_ | refine r_par ?_ | refine r_exv2 ?_ | refine r_un ?_ | refine r_neg ?_ | refine r_isN ?_ | refine r_notN ?_ | refine r_retN ?_ | refine r_chain ?_
  | refine r_star ?_ | refine r_lstRg ?_ | refine r_rg1 ?_ | refine r_rg2 ?_ | refine r_exi ?_ | refine r_exi2 ?_ | refine r_sl ?_ | refine r_noPart ?_ | refine r_part ?_ | refine r_gnil ?_ | refine r_gcons ?_ | refine r_gsub ?_ | refine r_BM ?_ | refine r_M1 ?_ | refine r_isstr ?_ | refine r_meth ?_ | refine r_make ?_ | refine r_fld ?_ | refine r_abs ?_ | refine r_isiIntInt ?_ | refine r_isiIntBool ?_ | refine r_isiStr ?_ | refine r_min ?_ | refine r_max ?_ | refine r_int1 ?_ | refine r_intb ?_ | refine r_for ?_ | refine r_itup ?_ | refine r_ilist ?_ | refine r_lc ?_ | refine r_yes ?_ | refine r_istr ?_ | refine r_rng1 ?_ | refine r_rng2 ?_ | refine r_dput ?_ | refine r_daug ?_ | refine r_dget ?_ | refine r_dnewT ?_ | refine r_addI ?_ | refine r_ev ?_ | refine r_sfld ?_ | refine r_faug ?_ | refine r_prop ?_ | refine r_while ?_ | refine r_augS ?_ | refine r_tupF ?_ | refine r_idxT ?_ | refine r_kd ?_ | refine r_ki ?_ | refine r_enum ?_))

local macro_rules | `(tactic| walk_at "rn") => `(tactic| repeat (with_reducible first
  | refine r_seq ?_ | refine r_asg ?_ | refine r_var (by with_unfolding_all rfl) ?_ | refine r_c ?_ | refine r_op ?_ | refine r_I0 ?_ | refine r_name ?_ | refine r_ret ?_ | refine r_cons ?_ | refine r_nil ?_
  | refine r_CB ?_ | refine r_call ?_ | refine r_test ?_ | refine r_eqI ?_ | refine r_eqS ?_ | refine r_neI ?_ | refine r_neS ?_ | refine r_drop ?_ | refine r_next ?_ | refine r_B ?_ | refine r_andV ?_ | refine r_orV ?_ | refine r_notV ?_ | refine r_blV ?_
  | refine r_and ?_ | refine r_or ?_ | refine r_not ?_ | refine r_tup ?_ | refine r_lst ?_ | refine r_par ?_ | refine r_exv2 ?_ | refine r_un ?_ | refine r_neg ?_ | refine r_isN ?_ | refine r_notN ?_ | refine r_retN ?_ | refine r_chain ?_
  | refine r_star ?_ | refine r_lstRg ?_ | refine r_rg1 ?_ | refine r_rg2 ?_ | refine r_exi ?_ | refine r_exi2 ?_ | refine r_sl ?_ | refine r_noPart ?_ | refine r_part ?_ | refine r_gnil ?_ | refine r_gcons ?_ | refine r_gsub ?_ | refine r_BM ?_ | refine r_M1 ?_ | refine r_isstr ?_ | refine r_meth ?_ | refine r_make ?_ | refine r_fld ?_ | refine r_abs ?_ | refine r_isiIntInt ?_ | refine r_isiIntBool ?_ | refine r_isiStr ?_ | refine r_min ?_ | refine r_max ?_ | refine r_int1 ?_ | refine r_intb ?_ | refine r_for ?_ | refine r_itup ?_ | refine r_ilist ?_ | refine r_lc ?_ | refine r_yes ?_ | refine r_istr ?_ | refine r_rng1 ?_ | refine r_rng2 ?_ | refine r_dput ?_ | refine r_daug ?_ | refine r_dget ?_ | refine r_dnewT ?_ | refine r_addI ?_ | refine r_ev ?_ | refine r_sfld ?_ | refine r_faug ?_ | refine r_prop ?_ | refine r_while ?_ | refine r_augS ?_ | refine r_tupF ?_ | refine r_idxT ?_ | refine r_kd ?_ | refine r_ki ?_ | refine r_enum ?_))

local macro_rules | `(tactic| walk_at "hp") => `(tactic| (with_reducible first
  | assumption | exact New.at (by assumption)
  | exact SqT.of (by walk_at "hp") | exact SqL.of (by walk_at "hp") | exact Or.inl (by walk_at "hp") | exact Or.inr (by walk_at "hp")
  | exact New.get (by assumption) (by walk_at "hp") | exact Same.get (by assumption) (by walk_at "hp")))


section
variable {K : PySem.W.Frag} {X : List Addr} {H H' H2 : Hp} {a p f l : Addr} {xs : List V} {m0 : Nat}
def KeepT (H H' : Hp) : Prop := ∀ a xs, H a = some (.tup xs) → H' a = some (.tup xs)
theorem KeepT.of (s : Same H H') : KeepT H H' := fun _ _ h => s _ _ h
theorem KeepT.trans (s : KeepT H H') (s2 : KeepT H' H2) : KeepT H H2 := fun a xs h => s2 a xs (s a xs h)
theorem KeepT.but {C dx : Addr} {fs : List (Str × V)} (hf : H f = some (.ins C dx fs)) (s : SameBut f H H') : KeepT H H' := fun a xs h => s a _ (fun e => by subst e; rw [hf] at h; cases h) h
theorem KeepT.lst {u : HO} (hl : H l = some (.lst xs)) : KeepT H (upd H l u) := fun a ys h => by rw [upd_ne (fun e => by subst e; rw [hl] at h; cases h)]; exact h
def JItem (H : Hp) (r : Addr) (q : Dd) (st : List Nat) : Prop := ∃ dq z, H r = some (.tup [.ref dq, .ref z]) ∧ H dq = some (.tup (deedV q)) ∧ H z = some (.tup (st.map nmV))
theorem JItem.mono {r : Addr} {q : Dd} {st : List Nat} (k : KeepT H H') (h : JItem H r q st) : JItem H' r q st := let ⟨dq, z, h1, h2, h3⟩ := h; ⟨dq, z, k _ _ h1, k _ _ h2, k _ _ h3⟩
def jst (m0 : Nat) (ds : List Dd) : List Nat := standF (headF m0 (rep m0 ds))
def JAt (H : Hp) (m0 : Nat) (js : List (Addr × Dd)) : Prop := ∀ pre x post, js = pre ++ x :: post → JItem H x.1 x.2 (jst m0 ((pre ++ [x]).map Prod.snd))
theorem JAt.nil : JAt H m0 [] := fun pre x post h => by simp at h
theorem JAt.mono {js : List (Addr × Dd)} (k : KeepT H H') (h : JAt H m0 js) : JAt H' m0 js := fun pre x post e => (h pre x post e).mono k
theorem JAt.snoc {js : List (Addr × Dd)} {x : Addr × Dd} (h : JAt H m0 js) (hx : JItem H x.1 x.2 (jst m0 ((js ++ [x]).map Prod.snd))) : JAt H m0 (js ++ [x]) := fun pre y post e => by
  rcases List.eq_nil_or_concat post with hp | ⟨post', z, hp⟩
  · subst hp
    obtain ⟨e1, e2⟩ := List.append_inj' e rfl
    have e3 : x = y := (List.cons.inj e2).1
    subst e1 e3
    exact hx
  · rw [List.concat_eq_append] at hp
    subst hp
    have e' : js ++ [x] = (pre ++ y :: post') ++ [z] := by rw [e]; simp
    obtain ⟨e1, _⟩ := List.append_inj' e' rfl
    exact h pre y post' e1
theorem deeds_zip : ∀ {as : List Addr} {qs : List Dd}, DeedsAt X H as qs → ∃ ads : List (Addr × Dd), as = ads.map Prod.fst ∧ qs = ads.map Prod.snd ∧ ∀ p ∈ ads, p.1 ∉ X ∧ H p.1 = some (.tup (deedV p.2))
  | [], [], _ => ⟨[], rfl, rfl, fun _ h => nomatch h⟩
  | a :: as, q :: qs, h => by
    obtain ⟨ads, e1, e2, e3⟩ := deeds_zip h.2
    refine ⟨(a, q) :: ads, by rw [List.map_cons, ← e1], by rw [List.map_cons, ← e2], fun p hp => ?_⟩
    rcases List.mem_cons.mp hp with e | e
    · subst e; exact h.1
    · exact e3 p e
  | [], _ :: _, h => h.elim
  | _ :: _, [], h => h.elim
theorem notIn_add (h : a ∉ X) (e : H a ≠ none) (hl : H l = none) : a ∉ X ++ [l] := fun m => by
  rcases List.mem_append.mp m with m | m
  · exact h m
  · rw [List.mem_singleton.mp m] at e; exact e hl
theorem DeedsAt.addX (hl : H l = none) : ∀ {as : List Addr} {qs : List Dd}, DeedsAt X H as qs → DeedsAt (X ++ [l]) H as qs
  | [], [], _ => trivial
  | a :: as, q :: qs, h => ⟨⟨notIn_add h.1.1 (by rw [h.1.2]; simp) hl, h.1.2⟩, DeedsAt.addX hl h.2⟩
  | [], _ :: _, h => h.elim
  | _ :: _, [], h => h.elim
theorem FrAt.addX {n d e q : Addr} {fr : Fr} (hl : H l = none) (h : FrAt K X H n d e q fr) : FrAt K (X ++ [l]) H n d e q fr := by
  obtain ⟨as, h5, h6⟩ := h.dd
  refine ⟨notIn_add h.nX ?_ hl, h.nm, notIn_add h.dX (by rw [h.dn]; simp) hl, h.dn, notIn_add h.eX ?_ hl, h.ev, notIn_add h.lX (by rw [h5]; simp) hl, as, h5, h6.addX hl⟩
  · obtain ⟨o, e, _⟩ := h.nm; rw [e]; simp
  · rcases h.ev with e | ⟨o, e⟩ <;> rw [e] <;> simp
theorem IsSt.addX (hl : H l = none) : ∀ {fs : List Fr} {v : V}, IsSt K X H fs v → IsSt K (X ++ [l]) H fs v
  | [], _, h => h
  | _ :: _, _, ⟨a, dx, n, d, e, q, bf, h1, h2, h3, h4, h5⟩ => ⟨a, dx, n, d, e, q, bf, h1, notIn_add h2 (by rw [h3]; simp) hl, h3, h4.addX hl, IsSt.addX hl h5⟩
theorem IsLw.addX (hl : H l = none) : ∀ {fs : List Fr} {v : V}, IsLw K X H fs v → IsLw K (X ++ [l]) H fs v
  | [], _, h => h
  | _ :: _, _, ⟨a, q, o, n, d, ah, h1, h2, h3, h4, h5⟩ => ⟨a, q, o, n, d, ah, h1, notIn_add h2 (by rw [h3]; simp) hl, h3, h4.addX hl, IsLw.addX hl h5⟩
/-- one more place that may change, laid after the floor -/
theorem FlAt.addX {dx : Addr} {fs : List Fr} {u : HO} (h : FlAt K X H f dx m0 fs) (hl : H l = none) (s : Same H H') (e : H' l = some u) (hu : (∃ C dx fs, u = .ins C dx fs) ∨ (∃ kvs, u = .dK kvs) ∨ ∃ xs, u = .lst xs) : FlAt K (X ++ [l]) H' f dx m0 fs := by
  refine ⟨fun x m => ?_, List.mem_append.mpr (.inl h.fX), ?_⟩
  · rcases List.mem_append.mp m with m | m
    · exact h.ok.same s x m
    · rw [List.mem_singleton.mp m, e]
      rcases hu with ⟨C, dx, fs, q⟩ | ⟨kvs, q⟩ | ⟨xs, q⟩ <;> rw [q]
      · exact .inl ⟨_, _, _, rfl⟩
      · exact .inr (.inl ⟨_, rfl⟩)
      · exact .inr (.inr ⟨_, rfl⟩)
  · obtain ⟨v, h1, h2⟩ := h.st
    exact ⟨v, s _ _ h1, (h2.addX hl).mono (SameX.of s)⟩
theorem post_none {dx : Addr} {fs : List Fr} {q : Dd} {Q : VK} {E : XK} (h0 : (actF fs q).1 = none) (h : ∀ H', SameBut f H H' → FlAt K X H' f dx m0 (actF fs q).2 → Q .non H') : PostD K X f dx m0 (actF fs q) H Q E := by
  generalize actF fs q = r at *
  obtain ⟨o, gs⟩ := r
  simp only at h0
  subst h0
  exact h
end
theorem same_fresh {H H1 H2 : Hp} {b : Addr} (hb : H b = none) (s : Same H H1) (t : SameBut b H1 H2) : Same H H2 := fun c u h => t c u (fun e => by subst e; rw [hb] at h; cases h) (s c u h)
theorem FlAt.ref {K : PySem.W.Frag} {X : List Addr} {H : Hp} {f dx : Addr} {m0 : Nat} {fs : List Fr} (h : FlAt K X H f dx m0 fs) : ∃ gs, H f = some (.ins (ga K "Floor") dx gs) := let ⟨_, e, _⟩ := h.st; ⟨_, e⟩
theorem ne_of_lst {H : Hp} {a l : Addr} {u : HO} {xs : List V} (h : H a = some u) (hu : ∀ xs, u ≠ .lst xs) (hl : H l = some (.lst xs)) : a ≠ l := fun e => by subst e; rw [h] at hl; exact hu _ (Option.some.inj hl)
theorem rep_nil (m0 : Nat) : rep m0 [] = [fr0 m0] := rfl
section
variable {w : World} {K : PySem.W.Frag} {mg : Str → Option Value} {base : Heap}
def sp_journal (K : PySem.W.Frag) : Sp := fun vs H Q _ => ∃ (X : List Addr) (f dx : Addr) (m0 : Nat) (fr : Fr) (fs : List Fr), vs = [.ref f] ∧ FlAt K X H f dx m0 (fr :: fs) ∧ Chain m0 (fr :: fs) ∧ 2 ≤ m0 ∧ m0 ≤ 5 ∧ fr.deeds.length ≤ 98 ∧
  ∀ l (js : List (Addr × Dd)) H', H l = none → Same H H' → H' l = some (.lst (js.map fun p => .ref p.1)) → js.map Prod.snd = fr.deeds → JAt H' m0 js → Q (.ref l) H'
theorem c_journal_of (T : Tx w K mg base) : C8.Cal P0 w K mg base 9 "journal_of" (sp_journal K) [] := by
  obtain ⟨fd, F⟩ := f_journal_of T
  refine cal_of F (g_journal_of T) (fun _ _ _ _ _ _ us hl => match us, hl with | [_], _ => rfl) sc_journal_of (fun vs H Q E h => by obtain ⟨_, _, _, _, _, _, rfl, _⟩ := h; rfl) (fun cdv A outer s H vs Q E hr h => ?_)
  obtain ⟨X, f, dx, m0, fr, fs, rfl, hf, hc, hm1, hm2, hlen, k⟩ := h
  refine ⟨_, (pss_cons (ps_par rfl sc_journal_of.nd (i := 1) (j := 2) rfl rfl (by decide) rfl rfl (pa_cons (C8.pe_mk (m_Floor (K := K) T) hr (by decide) rfl (pa_cons (peFld (K := K) (pv 0)) pa_nil)) (pa_cons (pe_lst pa_nil) pa_nil)) rfl)
  (pss_cons (ps_for PassesOwn.never rfl (piList (K := K) (pe_pr (p_Floor_log (K := K) T) hr (by decide) (pv 0) rfl)) (pg_name (i := 3) sc_journal_of.nd rfl (Or.inl rfl))
  (pss_cons (ps_expr (pe_cE (e_do (K := K) T) hr (by decide) rfl passF (pa_cons (pv 1) (pa_cons (pv 3) pa_nil))))
  (pss_one (ps_expr (peApp (K := K) (pv 2) (pa_cons (pe_tup (pa_cons (pv 3) (pa_cons (pe_pr (p_Floor_standing (K := K) T) hr (by decide) (pv 1) rfl) pa_nil))) pa_nil))))))
  (pss_one (ps_ret (pv 2))))), ?_⟩
  obtain ⟨s0, hs1, hs2⟩ := hf.st
  obtain ⟨_, hall⟩ := chain_deeds hc
  walk_at "rd"
  refine r_fl hs1 (cl_Floor T) (na_Floor_own_first T) ?_
  walk_at "rd"
  refine r_floor hm1 hm2 fun b bx H1 hb s1 hF => ?_
  walk_at "rd"
  refine ⟨(sz1000 (Nat.le_of_ble_eq_true rfl)), ?_⟩
  (intro l hl_; generalize he_ : upd _ l _ = H2; have n2 := New.mk hl_ he_.symm; clear hl_ he_)
  have hF1 := hF [b] List.mem_cons_self (fun x hx hn => absurd (List.mem_singleton.mp hx) hn)
  have hF2 : FlAt K [b, l] H2 b bx m0 [fr0 m0] := hF1.addX n2.free n2.same n2.at (.inr (.inr ⟨_, rfl⟩))
  have s02 : Same H H2 := s1.trans n2.same
  have hl0 : H l = none := by cases e : H l with | none => rfl | some u => have := s1 _ _ e; rw [n2.free] at this; cases this
  have hlb : l ≠ b := by obtain ⟨gs, e⟩ := hF2.ref; exact (ne_of_lst e (by simp) n2.at).symm
  walk_at "rd"
  refine r_pr (s02 _ _ hs1) ?_
  refine ⟨X, f, dx, m0, fr, fs, rfl, hf.same s02, fun p H3 as hp s3 e3 d3 => ?_⟩
  obtain ⟨ads, rfl, ed, hads⟩ := deeds_zip d3
  have hpl : p ≠ l := fun e => by subst e; rw [n2.at] at hp; cases hp
  have hpb : p ≠ b := fun e => by subst e; obtain ⟨gs, e⟩ := hF2.ref; rw [e] at hp; cases hp
  have s03 := s02.trans s3
  refine forL (fun p : Addr × Dd => V.ref p.1) ads (SqL.of (by rw [List.map_map] at e3; exact e3)) (fun pre σ H4 => ∃ v3 js, σ = [some (.ref f), some (.ref b), some (.ref l), v3] ∧ SameX [b, l] H3 H4 ∧ Same H H4 ∧ FlAt K [b, l] H4 b bx m0 (rep m0 (pre.map Prod.snd)) ∧ H4 l = some (.lst (js.map fun p : Addr × Dd => .ref p.1)) ∧ js.map Prod.snd = pre.map Prod.snd ∧ JAt H4 m0 js) ?_ ?_ ?_ ?_
  · exact ⟨_, [], rfl, SameX.refl, s03, hF2.same s3, s3 _ _ n2.at, rfl, JAt.nil⟩
  · intro pre σ H4 ⟨v3, js, e, sx, _⟩
    exact SqL.of (sx _ _ (by simp [hpl, hpb]) (by rw [List.map_map] at e3; exact e3))
  · intro pre x post σ H4 e ⟨v3, js, e0, sx, s4, hb4, hl4, hjs, hj⟩
    subst e0
    obtain ⟨hok, hu, hch, hact, g, gs, eg, egd⟩ := hall (pre.map Prod.snd) x.2 (post.map Prod.snd) (by rw [ed, e, List.map_append]; rfl)
    have hx := hads x (by rw [e]; simp)
    have wf := chain_wf hm1 hm2 hch g (by rw [eg]; exact List.mem_cons_self)
    have hpre : (pre.map Prod.snd).length ≤ 98 := by
      have : (pre ++ x :: post).length ≤ 98 := by rw [← e, ← List.length_map (f := Prod.snd), ← ed]; exact hlen
      rw [List.length_map]; simp at this; omega
    have hx4 : H4 x.1 = some (.tup (deedV x.2)) := sx _ _ (fun m => by
      rcases List.mem_cons.mp m with q | q
      · obtain ⟨gs, e⟩ := (hF2.same s3).ref; rw [← q, hx.2] at e; cases e
      · rw [List.mem_singleton] at q; have e := s3 _ _ n2.at; rw [← q, hx.2] at e; cases e) hx.2
    walk_at "rd"
    refine ⟨[b, l], b, bx, m0, g.deeds.length, g, gs, x.2, x.1, rfl, hx4, hok, by rw [← eg]; exact hb4, wf, by rw [egd]; omega, ?_⟩
    rw [← eg]
    refine post_none hact fun H5 s5 hf5 => ?_
    rw [← rep_snoc, ← List.map_singleton (f := Prod.snd), ← List.map_append] at hf5
    have hch5 : Chain m0 (rep m0 ((pre ++ [x]).map Prod.snd)) := by
      rw [List.map_append, List.map_singleton, rep_snoc]; exact chain_act hch hok
    have hl5 := s5 _ _ hlb hl4
    obtain ⟨gb, hgb⟩ := hb4.ref
    have k5 : KeepT H4 H5 := KeepT.but hgb s5
    walk_at "rd"
    generalize hR : rep m0 ((pre ++ [x]).map Prod.snd) = R at hf5 hch5
    cases R with
    | nil => exact absurd rfl hch5.ne
    | cons g5 gs5 =>
    obtain ⟨gb5, hgb5⟩ := hf5.ref
    refine ⟨.inl ⟨rfl, _, SqL.of hl5⟩, ?_⟩
    walk_at "rd"
    refine r_pr hgb5 ?_
    have wf5 := chain_wf hm1 hm2 hch5 g5 List.mem_cons_self
    refine ⟨[b, l], b, bx, m0, _, g5, gs5, rfl, hf5, wf5, fun z H6 s6 e6 => ?_⟩
    walk_at "rd"
    refine ⟨(sz1000 (Nat.le_of_ble_eq_true rfl)), ?_⟩
    (intro r hl_; generalize he_ : upd _ r _ = H7; have n7 := New.mk hl_ he_.symm; clear hl_ he_)
    have hl7 := n7.get (s6 _ _ hl5)
    walk_at "rd"
    have hjl : js.length ≤ 98 := by rw [← List.length_map (f := Prod.snd), hjs]; exact hpre
    refine r_app hl7 (small1000 (by rw [List.length_map]; omega)) ?_
    have sbl : SameBut l H7 (upd H7 l (.lst ((js.map fun p : Addr × Dd => V.ref p.1) ++ [.ref r]))) := SameBut.refl.upd
    have kt : KeepT H4 (upd H7 l (.lst ((js.map fun p : Addr × Dd => V.ref p.1) ++ [.ref r]))) := (k5.trans (KeepT.of (s6.trans n7.same))).trans (KeepT.lst hl7)
    refine ⟨_, js ++ [(r, x.2)], rfl, ?_, ?_, ?_, ?_, ?_, ?_⟩
    · exact sx.trans (((SameX.but List.mem_cons_self s5).trans (SameX.of (s6.trans n7.same))).trans (SameX.but (by simp) sbl))
    · exact same_fresh hl0 ((same_fresh hb s4 s5).trans (s6.trans n7.same)) sbl
    · obtain ⟨v, h1, h2⟩ := (hf5.same (s6.trans n7.same)).st
      have hf7 := hf5.same (s6.trans n7.same)
      refine ⟨fun y hy => ?_, hf7.fX, v, sbl _ _ (Ne.symm hlb) h1, h2.mono (SameX.but (by simp) sbl)⟩
      by_cases hyl : y = l
      · subst hyl; exact .inr (.inr ⟨_, upd_same⟩)
      · rcases hf7.ok y hy with ⟨C, dx, fs, e⟩ | ⟨kvs, e⟩ | ⟨xs, e⟩
        · exact .inl ⟨C, dx, fs, sbl _ _ hyl e⟩
        · exact .inr (.inl ⟨kvs, sbl _ _ hyl e⟩)
        · exact .inr (.inr ⟨xs, sbl _ _ hyl e⟩)
    · rw [upd_same, List.map_append]; rfl
    · rw [List.map_append, List.map_append, hjs]; rfl
    · refine (hj.mono kt).snoc ⟨x.1, z, ?_, kt _ _ hx4, ?_⟩
      · exact sbl _ _ (fun e => by subst e; rw [n7.at] at hl7; cases hl7) n7.at
      · refine sbl _ _ (fun e => by subst e; rw [n7.get e6] at hl7; cases hl7) ?_
        rw [show (js ++ [(r, x.2)]).map Prod.snd = (pre ++ [x]).map Prod.snd by rw [List.map_append, List.map_append, hjs]; rfl]
        unfold jst
        rw [hR]
        exact n7.get e6
  · intro σ H4 ⟨v3, js, e0, sx, s4, hb4, hl4, hjs, hj⟩
    subst e0
    walk_at "rd"
    exact k l js H4 hl0 s4 hl4 (by rw [hjs, ed]) hj
end
end My
end

section
set_option Elab.async false
set_option linter.all false
set_option maxRecDepth 100000
set_option maxHeartbeats 4000000
/-! NF: journals judged, replayed. -/
namespace My
open PySem PySem.Spec PyProof.Rows L2 He LamX SX
local macro_rules | `(tactic| walk_at "rd") => `(tactic| repeat (with_reducible first
  | refine r_seq ?_ | refine r_asg ?_ | refine r_var (by with_unfolding_all rfl) ?_ | refine r_c ?_ | refine r_op ?_ | refine r_I0 ?_ | refine r_name ?_ | refine r_ret ?_ | refine r_if ?_ | refine r_cons ?_ | refine r_nil ?_
  | refine r_CB ?_ | refine r_call ?_ | refine r_test ?_ | refine r_eqI ?_ | refine r_eqS ?_ | refine r_neI ?_ | refine r_neS ?_ | refine r_drop ?_ | refine r_next ?_ | refine r_ifE ?_ | refine r_B ?_ | refine r_andV ?_ | refine r_orV ?_ | refine r_notV ?_ | refine r_blV ?_
  | refine r_and ?_ | refine r_or ?_ | refine r_not ?_ | refine r_tup ?_ | refine r_lst ?_ | refine r_par ?_ | refine r_exv2 ?_ | refine r_un ?_ | refine r_neg ?_ | refine r_isN ?_ | refine r_notN ?_ | refine r_retN ?_ | refine r_chain ?_
  | refine r_star ?_ | refine r_lstRg ?_ | refine r_rg1 ?_ | refine r_rg2 ?_ | refine r_exi ?_ | refine r_exi2 ?_ | refine r_sl ?_ | refine r_noPart ?_ | refine r_part ?_ | refine r_gnil ?_ | refine r_gcons ?_ | refine r_gsub ?_ | refine r_BM ?_ | refine r_M1 ?_ | refine r_isstr ?_ | refine r_meth ?_ | refine r_make ?_ | refine r_fld ?_ | refine r_abs ?_ | refine r_isiIntInt ?_ | refine r_isiIntBool ?_ | refine r_isiStr ?_ | refine r_min ?_ | refine r_max ?_ | refine r_int1 ?_ | refine r_intb ?_ | refine r_for ?_ | refine r_itup ?_ | refine r_ilist ?_ | refine r_lc ?_ | refine r_yes ?_ | refine r_istr ?_ | refine r_rng1 ?_ | refine r_rng2 ?_ | refine r_dput ?_ | refine r_daug ?_ | refine r_dget ?_ | refine r_dnewT ?_ | refine r_addI ?_ | refine r_ev ?_ | refine r_sfld ?_ | refine r_faug ?_ | refine r_prop ?_ | refine r_while ?_ | refine r_augS ?_ | refine r_tupF ?_ | refine r_idxT ?_ | refine r_kd ?_ | refine r_ki ?_ | refine r_enum ?_))

local macro_rules | `(tactic| walk_at "rn") => `(tactic| repeat (with_reducible first
  | refine r_seq ?_ | refine r_asg ?_ | refine r_var (by with_unfolding_all rfl) ?_ | refine r_c ?_ | refine r_op ?_ | refine r_I0 ?_ | refine r_name ?_ | refine r_ret ?_ | refine r_cons ?_ | refine r_nil ?_
  | refine r_CB ?_ | refine r_call ?_ | refine r_test ?_ | refine r_eqI ?_ | refine r_eqS ?_ | refine r_neI ?_ | refine r_neS ?_ | refine r_drop ?_ | refine r_next ?_ | refine r_B ?_ | refine r_andV ?_ | refine r_orV ?_ | refine r_notV ?_ | refine r_blV ?_
  | refine r_and ?_ | refine r_or ?_ | refine r_not ?_ | refine r_tup ?_ | refine r_lst ?_ | refine r_par ?_ | refine r_exv2 ?_ | refine r_un ?_ | refine r_neg ?_ | refine r_isN ?_ | refine r_notN ?_ | refine r_retN ?_ | refine r_chain ?_
  | refine r_star ?_ | refine r_lstRg ?_ | refine r_rg1 ?_ | refine r_rg2 ?_ | refine r_exi ?_ | refine r_exi2 ?_ | refine r_sl ?_ | refine r_noPart ?_ | refine r_part ?_ | refine r_gnil ?_ | refine r_gcons ?_ | refine r_gsub ?_ | refine r_BM ?_ | refine r_M1 ?_ | refine r_isstr ?_ | refine r_meth ?_ | refine r_make ?_ | refine r_fld ?_ | refine r_abs ?_ | refine r_isiIntInt ?_ | refine r_isiIntBool ?_ | refine r_isiStr ?_ | refine r_min ?_ | refine r_max ?_ | refine r_int1 ?_ | refine r_intb ?_ | refine r_for ?_ | refine r_itup ?_ | refine r_ilist ?_ | refine r_lc ?_ | refine r_yes ?_ | refine r_istr ?_ | refine r_rng1 ?_ | refine r_rng2 ?_ | refine r_dput ?_ | refine r_daug ?_ | refine r_dget ?_ | refine r_dnewT ?_ | refine r_addI ?_ | refine r_ev ?_ | refine r_sfld ?_ | refine r_faug ?_ | refine r_prop ?_ | refine r_while ?_ | refine r_augS ?_ | refine r_tupF ?_ | refine r_idxT ?_ | refine r_kd ?_ | refine r_ki ?_ | refine r_enum ?_))

local macro_rules | `(tactic| walk_at "hp") => `(tactic| (with_reducible first
  | assumption | exact New.at (by assumption)
  | exact SqT.of (by walk_at "hp") | exact SqL.of (by walk_at "hp") | exact Or.inl (by walk_at "hp") | exact Or.inr (by walk_at "hp")
  | exact New.get (by assumption) (by walk_at "hp") | exact Same.get (by assumption) (by walk_at "hp")))


section
variable {w : World} {K : PySem.W.Frag} {mg : Str → Option Value} {base : Heap}
theorem standF_len {N : Nat} {fr : Fr} (W : Wf N fr) : (standF fr).length = fr.names.length := by unfold standF; rw [List.length_map, order_len]
theorem jst_ok {m0 : Nat} (h1 : 2 ≤ m0) (h2 : m0 ≤ 5) {ds : List Dd} (hc : Chain m0 (rep m0 ds)) : ∀ x ∈ jst m0 ds, 97 ≤ x ∧ x ≤ 122 := by
  unfold jst
  generalize rep m0 ds = R at *
  cases R with
  | nil => exact absurd rfl hc.ne
  | cons g gs => exact stand_pl (chain_wf h1 h2 hc g List.mem_cons_self)
theorem jst_ne {m0 : Nat} (h1 : 2 ≤ m0) (h2 : m0 ≤ 5) {R : List Fr} (hc : Chain m0 R) : [] ≠ standF (headF m0 R) := by
  cases R with
  | nil => exact absurd rfl hc.ne
  | cons g gs =>
    have W := chain_wf h1 h2 hc g List.mem_cons_self
    intro e
    have e2 := standF_len W
    have := W.lo
    rw [show standF g = [] from e.symm] at e2
    simp at e2; omega
theorem done1 {m0 : Nat} (h1 : 2 ≤ m0) (h2 : m0 ≤ 5) {X : List Addr} {H : Hp} {Q : VK} {E : XK} {b bx r dq z : Addr} {ds : List Dd} {q : Dd} {st : List Nat} (hf : FlAt K X H b bx m0 (rep m0 ds)) (hc : Chain m0 (rep m0 ds)) (hl : ∀ g gs, rep m0 ds = g :: gs → g.deeds.length ≤ 98) (hq : okD q)
    (e1 : H r = some (.tup [.ref dq, .ref z])) (e2 : H dq = some (.tup (deedV q))) (e3 : H z = some (.tup (st.map nmV))) (hst : ∀ x ∈ st, 97 ≤ x ∧ x ≤ 122)
    (k : ∀ H', SameBut b H H' → FlAt K X H' b bx m0 (rep m0 (ds ++ [q])) → Q (.bl (decide ((actF (rep m0 ds) q).1 = none ∧ st = jst m0 (ds ++ [q])))) H') : sp_isDone K [.ref b, .ref r] H Q E := by
  unfold jst at k
  rw [rep_snoc] at k
  generalize rep m0 ds = R at *
  cases R with
  | nil => exact absurd rfl hc.ne
  | cons g gs =>
    have hg := hl g gs rfl
    exact ⟨X, b, bx, m0, 99, g, gs, q, r, dq, z, st, rfl, hf, fun k' hk' => (chain_wf h1 h2 hc k' hk').more (Nat.le_trans (@chain_wf.chain_mono 0 m0 g gs hc k' hk') (by omega)), by omega, hq, e1, e2, e3, hst, k⟩
def sp_firstWrong (K : PySem.W.Frag) : Sp := fun vs H Q _ => ∃ (m0 : Nat) (l : Addr) (fr : Fr) (fs : List Fr) (js tl : List (Addr × Dd)), vs = [.int m0, .ref l] ∧ H l = some (.lst ((js ++ tl).map fun p => .ref p.1)) ∧ Chain m0 (fr :: fs) ∧ 2 ≤ m0 ∧ m0 ≤ 5 ∧ fr.deeds.length ≤ 98 ∧ js.map Prod.snd = fr.deeds ∧ JAt H m0 js ∧
  (tl = [] ∨ ∃ r dq z, tl = [(r, .undo)] ∧ H r = some (.tup [.ref dq, .ref z]) ∧ H dq = some (.tup (deedV .undo)) ∧ H z = some (.tup [])) ∧ ∀ H', Same H H' → Q (if tl = [] then .non else .int (js.length : Int)) H'
theorem c_first_wrong (T : Tx w K mg base) : C8.Cal P0 w K mg base 10 "first_wrong" (sp_firstWrong K) [] := by
  obtain ⟨fd, F⟩ := f_first_wrong T
  refine cal_of F (g_first_wrong T) (fun _ _ _ _ _ _ us hl => match us, hl with | [_, _], _ => rfl) sc_first_wrong (fun vs H Q E h => by obtain ⟨_, _, _, _, _, _, rfl, _⟩ := h; rfl) (fun cdv A outer s H vs Q E hr h => ?_)
  obtain ⟨m0, l, fr, fs, js, tl, rfl, hl, hc, hm1, hm2, hlen, hjs, hj, htl, k⟩ := h
  refine ⟨_, (pss_cons (ps_expr (C8.pe_c (c_need_many (K := K) T) hr (by decide) rfl (pa_cons (pv 0) pa_nil)))
  (pss_cons (ps_if (pt_not (pt_val (C8.pe_c (c_is_list (K := K) T) hr (by decide) rfl (pa_cons (pv 1) pa_nil)))) (pss_one (ps_ret pe_int)) pss_nil)
  (pss_cons (ps_set (i := 2) sc_first_wrong.nd rfl (Or.inl rfl) (C8.pe_mk (m_Floor (K := K) T) hr (by decide) rfl (pa_cons (pv 0) pa_nil)))
  (pss_cons (ps_for PassesOwn.never rfl (piEnum (K := K) rfl (b_enumerate T) (pa_cons (pv 1) pa_nil)) (pgTup (K := K) (n := 2) rfl (pgs_cons (pg_name (i := 3) sc_first_wrong.nd rfl (Or.inl rfl)) (pgs_cons (pg_name (i := 4) sc_first_wrong.nd rfl (Or.inl rfl)) pgs_nil)))
  (pss_one (ps_if (pt_not (pt_val (C8.pe_c (c_is_done (K := K) T) hr (by decide) rfl (pa_cons (pv 2) (pa_cons (pv 4) pa_nil))))) (pss_one (ps_ret (pv 3))) pss_nil)))
  (pss_one (ps_ret pe_non)))))), ?_⟩
  obtain ⟨_, hall⟩ := chain_deeds hc
  walk_at "rd"
  refine ⟨m0, rfl, hm1, hm2, ?_⟩
  walk_at "rd"
  refine ⟨l, _, rfl, hl, fun H1 s1 => ?_⟩
  walk_at "rd"
  refine iteF ?_
  walk_at "rd"
  refine r_floor hm1 hm2 fun b bx H2 hb s2 hF => ?_
  walk_at "rd"
  have s02 : Same H H2 := s1.trans s2
  have hb0 : H b = none := by cases e : H b with | none => rfl | some u => have := s1 _ _ e; rw [hb] at this; cases this
  have hF2 := hF [b] List.mem_cons_self (fun x hx hn => absurd (List.mem_singleton.mp hx) hn)
  refine forE (fun p : Addr × Dd => V.ref p.1) (js ++ tl) (SqL.of (s02 _ _ hl)) (fun pre σ H4 => ∃ v3 v4, σ = [some (.int m0), some (.ref l), some (.ref b), v3, v4] ∧ Same H H4 ∧ FlAt K [b] H4 b bx m0 (rep m0 (pre.map Prod.snd)) ∧ pre.length ≤ js.length) ?_ ?_ ?_ ?_
  · exact ⟨_, _, rfl, s02, hF2, Nat.zero_le _⟩
  · intro pre σ H4 ⟨v3, v4, e, s4, _⟩
    exact SqL.of (s4 _ _ hl)
  · intro pre x post σ H4 e ⟨v3, v4, e0, s4, hb4, hpl⟩ T0 H5 n5
    subst e0
    have hch : ∀ hh : pre.length ≤ js.length, pre = js.take pre.length := fun hh => by
      have := congrArg (List.take pre.length) e
      rw [List.take_append_of_le_length hh, List.take_left'] at this
      · exact this.symm
      · rfl
    walk_at "rd"
    refine ⟨T0, _, rfl, SqT.of n5.at, rfl, ?_⟩
    walk_at "rd"
    have hb5 := hb4.same n5.same
    obtain ⟨gb, hgb⟩ := hb5.ref
    have s5 := s4.trans n5.same
    rcases List.append_eq_append_iff.mp e with ⟨a', q1, q2⟩ | ⟨c', q1, q2⟩
    · have ha' : a' = [] := List.eq_nil_of_length_eq_zero (by rw [q1, List.length_append] at hpl; omega)
      subst ha'
      rw [List.append_nil] at q1
      rw [List.nil_append] at q2
      subst q1
      rcases htl with h0 | ⟨r, dq, z, h0, hr, hdq, hz⟩
      · rw [h0] at q2; cases q2
      · rw [h0] at q2
        obtain ⟨rfl, rfl⟩ := List.cons.inj q2
        have hrep := (chain_deeds hc).1
        rw [← hjs] at hrep
        have hch : Chain m0 (rep m0 (pre.map Prod.snd)) := by rw [hrep]; exact hc
        refine done1 hm1 hm2 (q := .undo) (st := []) hb5 hch (fun g gs e => ?_) trivial (s5 _ _ hr) (s5 _ _ hdq) (s5 _ _ hz) (fun _ h => nomatch h) fun H6 s6 f6 => ?_
        · rw [hrep] at e; rw [← (List.cons.inj e).1]; exact hlen
        · rw [decide_eq_false (fun h => jst_ne hm1 hm2 (by rw [rep_snoc]; exact chain_act (q := .undo) hch trivial) h.2)]
          walk_at "rd"
          refine iteT ?_
          walk_at "rd"
          have k2 := k H6 (same_fresh hb0 s5 s6)
          rw [if_neg (by rw [h0]; simp)] at k2
          exact k2
    · cases c' with
      | nil =>
        rw [List.append_nil] at q1
        rw [List.nil_append] at q2
        subst q1
        rcases htl with h0 | ⟨r, dq, z, h0, hr, hdq, hz⟩
        · rw [h0] at q2; cases q2
        · rw [h0] at q2
          obtain ⟨rfl, rfl⟩ := List.cons.inj q2
          have hrep := (chain_deeds hc).1
          rw [← hjs] at hrep
          have hch : Chain m0 (rep m0 (js.map Prod.snd)) := by rw [hrep]; exact hc
          refine done1 hm1 hm2 (q := .undo) (st := []) hb5 hch (fun g gs e => ?_) trivial (s5 _ _ hr) (s5 _ _ hdq) (s5 _ _ hz) (fun _ h => nomatch h) fun H6 s6 f6 => ?_
          · rw [hrep] at e; rw [← (List.cons.inj e).1]; exact hlen
          · rw [decide_eq_false (fun h => jst_ne hm1 hm2 (by rw [rep_snoc]; exact chain_act (q := .undo) hch trivial) h.2)]
            walk_at "rd"
            refine iteT ?_
            walk_at "rd"
            have k2 := k H6 (same_fresh hb0 s5 s6)
            rw [if_neg (by rw [h0]; simp)] at k2
            exact k2
      | cons y c' =>
        obtain ⟨rfl, q3⟩ := List.cons.inj q2
        obtain ⟨hok, hu, hch, hact, g, gs, eg, egd⟩ := hall (pre.map Prod.snd) x.2 (c'.map Prod.snd) (by rw [← hjs, q1, List.map_append]; rfl)
        obtain ⟨dq, z, hr, hdq, hz⟩ := hj pre x c' q1
        have hch2 : Chain m0 (rep m0 ((pre ++ [x]).map Prod.snd)) := by rw [List.map_append, List.map_singleton, rep_snoc]; exact chain_act hch hok
        refine done1 hm1 hm2 hb5 hch (fun g' gs' e' => ?_) hok (s5 _ _ hr) (s5 _ _ hdq) (s5 _ _ hz) (jst_ok hm1 hm2 hch2) fun H6 s6 f6 => ?_
        · rw [eg] at e'
          rw [← (List.cons.inj e').1, egd, List.length_map]
          have := congrArg List.length hjs
          rw [List.length_map, q1, List.length_append] at this
          omega
        · rw [decide_eq_true ⟨hact, by rw [List.map_append, List.map_singleton]⟩]
          walk_at "rd"
          refine iteF ?_
          walk_at "rd"
          refine ⟨_, _, rfl, same_fresh hb0 s5 s6, by rw [List.map_append, List.map_singleton]; exact f6, ?_⟩
          rw [q1]; simp
  · intro σ H4 ⟨v3, v4, e0, s4, hb4, hpl⟩
    subst e0
    walk_at "rd"
    rw [List.length_append] at hpl
    have : tl = [] := List.eq_nil_of_length_eq_zero (by omega)
    rw [if_pos this] at k
    exact k H4 s4
def sp_replayed (K : PySem.W.Frag) : Sp := fun vs H Q _ => ∃ (m0 : Nat) (l : Addr) (fr : Fr) (fs : List Fr) (js : List (Addr × Dd)), vs = [.int m0, .ref l] ∧ H l = some (.lst (js.map fun p => .ref p.1)) ∧ Chain m0 (fr :: fs) ∧ 2 ≤ m0 ∧ m0 ≤ 5 ∧ fr.deeds.length ≤ 98 ∧ js.map Prod.snd = fr.deeds ∧ JAt H m0 js ∧
  ∀ f dx H', H f = none → Same H H' → FlAt K [f] H' f dx m0 (fr :: fs) → Q (.ref f) H'
theorem c_replayed (T : Tx w K mg base) : C8.Cal P0 w K mg base 11 "replayed" (sp_replayed K) [] := by
  obtain ⟨fd, F⟩ := f_replayed T
  refine cal_of F (g_replayed T) (fun _ _ _ _ _ _ us hl => match us, hl with | [_, _], _ => rfl) sc_replayed (fun vs H Q E h => by obtain ⟨_, _, _, _, _, rfl, _⟩ := h; rfl) (fun cdv A outer s H vs Q E hr h => ?_)
  obtain ⟨m0, l, fr, fs, js, rfl, hl, hc, hm1, hm2, hlen, hjs, hj, k⟩ := h
  refine ⟨_, (pss_cons (ps_set (i := 2) sc_replayed.nd rfl (Or.inl rfl) (C8.pe_c (c_first_wrong (K := K) T) hr (by decide) rfl (pa_cons (pv 0) (pa_cons (pv 1) pa_nil))))
  (pss_cons (ps_if (pt_cmpR op_notN1 (pv 2) pe_non (nomark _)) (pss_one ps_never) pss_nil)
  (pss_cons (ps_set (i := 3) sc_replayed.nd rfl (Or.inl rfl) (C8.pe_mk (m_Floor (K := K) T) hr (by decide) rfl (pa_cons (pv 0) pa_nil)))
  (pss_cons (ps_for PassesOwn.never rfl (piList (K := K) (pv 1)) (pgTup (K := K) (n := 2) rfl (pgs_cons (pg_name (i := 4) sc_replayed.nd rfl (Or.inl rfl)) (pgs_cons (pg_name (i := 5) sc_replayed.nd rfl (Or.inl rfl)) pgs_nil)))
  (pss_one (ps_expr (pe_cE (e_do (K := K) T) hr (by decide) rfl passF (pa_cons (pv 3) (pa_cons (pv 4) pa_nil))))))
  (pss_one (ps_ret (pv 3))))))), ?_⟩
  obtain ⟨_, hall⟩ := chain_deeds hc
  walk_at "rd"
  refine ⟨m0, l, fr, fs, js, [], rfl, by rw [List.append_nil]; exact hl, hc, hm1, hm2, hlen, hjs, hj, .inl rfl, fun H1 s1 => ?_⟩
  rw [if_pos rfl]
  walk_at "rd"
  refine iteF ?_
  walk_at "rd"
  refine r_floor hm1 hm2 fun b bx H2 hb s2 hF => ?_
  walk_at "rd"
  have s02 : Same H H2 := s1.trans s2
  have hb0 : H b = none := by cases e : H b with | none => rfl | some u => have := s1 _ _ e; rw [hb] at this; cases this
  have hF2 := hF [b] List.mem_cons_self (fun x hx hn => absurd (List.mem_singleton.mp hx) hn)
  refine forL (fun p : Addr × Dd => V.ref p.1) js (SqL.of (s02 _ _ hl)) (fun pre σ H4 => ∃ v4 v5, σ = [some (.int m0), some (.ref l), some .non, some (.ref b), v4, v5] ∧ Same H H4 ∧ FlAt K [b] H4 b bx m0 (rep m0 (pre.map Prod.snd))) ?_ ?_ ?_ ?_
  · exact ⟨_, _, rfl, s02, hF2⟩
  · intro pre σ H4 ⟨v3, v4, e, s4, _⟩
    exact SqL.of (s4 _ _ hl)
  · intro pre x post σ H4 e ⟨v4, v5, e0, s4, hb4⟩
    subst e0
    obtain ⟨hok, hu, hch, hact, g, gs, eg, egd⟩ := hall (pre.map Prod.snd) x.2 (post.map Prod.snd) (by rw [← hjs, e, List.map_append]; rfl)
    obtain ⟨dq, z, hr, hdq, hz⟩ := hj pre x post e
    have wf := chain_wf hm1 hm2 hch g (by rw [eg]; exact List.mem_cons_self)
    have hpre : (pre.map Prod.snd).length ≤ 98 := by
      have := congrArg List.length hjs
      rw [List.length_map, e, List.length_append] at this
      rw [List.length_map]; omega
    walk_at "rd"
    refine ⟨_, _, rfl, SqT.of (s4 _ _ hr), rfl, ?_⟩
    walk_at "rd"
    refine ⟨[b], b, bx, m0, g.deeds.length, g, gs, x.2, dq, rfl, s4 _ _ hdq, hok, by rw [← eg]; exact hb4, wf, by rw [egd]; omega, ?_⟩
    rw [← eg]
    refine post_none hact fun H5 s5 hf5 => ?_
    walk_at "rd"
    exact ⟨_, _, rfl, same_fresh hb0 s4 s5, by rw [List.map_append, List.map_singleton, rep_snoc]; exact hf5⟩
  · intro σ H4 ⟨v4, v5, e0, s4, hb4⟩
    subst e0
    rw [hjs, (chain_deeds hc).1] at hb4
    walk_at "rd"
    exact k b bx H4 hb0 s4 hb4
end
end My
end

section
set_option Elab.async false
set_option linter.all false
set_option maxRecDepth 100000
set_option maxHeartbeats 4000000
/-! OA: the desk: words. -/
namespace My
open PySem PySem.Spec PyProof.Rows L2 He LamX SX
local macro_rules | `(tactic| walk_at "rd") => `(tactic| repeat (with_reducible first
  | refine r_seq ?_ | refine r_asg ?_ | refine r_var (by with_unfolding_all rfl) ?_ | refine r_c ?_ | refine r_op ?_ | refine r_I0 ?_ | refine r_name ?_ | refine r_ret ?_ | refine r_if ?_ | refine r_cons ?_ | refine r_nil ?_
  | refine r_CB ?_ | refine r_call ?_ | refine r_test ?_ | refine r_eqI ?_ | refine r_eqS ?_ | refine r_neI ?_ | refine r_neS ?_ | refine r_drop ?_ | refine r_next ?_ | refine r_ifE ?_ | refine r_B ?_ | refine r_andV ?_ | refine r_orV ?_ | refine r_notV ?_ | refine r_blV ?_
  | refine r_and ?_ | refine r_or ?_ | refine r_not ?_ | refine r_tup ?_ | refine r_lst ?_ | refine r_par ?_ | refine r_exv2 ?_ | refine r_un ?_ | refine r_neg ?_ | refine r_isN ?_ | refine r_notN ?_ | refine r_retN ?_ | refine r_chain ?_
  | refine r_star ?_ | refine r_lstRg ?_ | refine r_rg1 ?_ | refine r_rg2 ?_ | refine r_exi ?_ | refine r_exi2 ?_ | refine r_sl ?_ | refine r_noPart ?_ | refine r_part ?_ | refine r_gnil ?_ | refine r_gcons ?_ | refine r_gsub ?_ | refine r_BM ?_ | refine r_M1 ?_ | refine r_isstr ?_ | refine r_meth ?_ | refine r_make ?_ | refine r_fld ?_ | refine r_abs ?_ | refine r_isiIntInt ?_ | refine r_isiIntBool ?_ | refine r_isiStr ?_ | refine r_min ?_ | refine r_max ?_ | refine r_int1 ?_ | refine r_intb ?_ | refine r_for ?_ | refine r_itup ?_ | refine r_ilist ?_ | refine r_lc ?_ | refine r_yes ?_ | refine r_istr ?_ | refine r_rng1 ?_ | refine r_rng2 ?_ | refine r_dput ?_ | refine r_daug ?_ | refine r_dget ?_ | refine r_dnewT ?_ | refine r_addI ?_ | refine r_ev ?_ | refine r_sfld ?_ | refine r_faug ?_ | refine r_prop ?_ | refine r_while ?_ | refine r_augS ?_ | refine r_tupF ?_ | refine r_idxT ?_ | refine r_kd ?_ | refine r_ki ?_ | refine r_enum ?_))

local macro_rules | `(tactic| walk_at "rn") => `(tactic| repeat (with_reducible first
  | refine r_seq ?_ | refine r_asg ?_ | refine r_var (by with_unfolding_all rfl) ?_ | refine r_c ?_ | refine r_op ?_ | refine r_I0 ?_ | refine r_name ?_ | refine r_ret ?_ | refine r_cons ?_ | refine r_nil ?_
  | refine r_CB ?_ | refine r_call ?_ | refine r_test ?_ | refine r_eqI ?_ | refine r_eqS ?_ | refine r_neI ?_ | refine r_neS ?_ | refine r_drop ?_ | refine r_next ?_ | refine r_B ?_ | refine r_andV ?_ | refine r_orV ?_ | refine r_notV ?_ | refine r_blV ?_
  | refine r_and ?_ | refine r_or ?_ | refine r_not ?_ | refine r_tup ?_ | refine r_lst ?_ | refine r_par ?_ | refine r_exv2 ?_ | refine r_un ?_ | refine r_neg ?_ | refine r_isN ?_ | refine r_notN ?_ | refine r_retN ?_ | refine r_chain ?_
  | refine r_star ?_ | refine r_lstRg ?_ | refine r_rg1 ?_ | refine r_rg2 ?_ | refine r_exi ?_ | refine r_exi2 ?_ | refine r_sl ?_ | refine r_noPart ?_ | refine r_part ?_ | refine r_gnil ?_ | refine r_gcons ?_ | refine r_gsub ?_ | refine r_BM ?_ | refine r_M1 ?_ | refine r_isstr ?_ | refine r_meth ?_ | refine r_make ?_ | refine r_fld ?_ | refine r_abs ?_ | refine r_isiIntInt ?_ | refine r_isiIntBool ?_ | refine r_isiStr ?_ | refine r_min ?_ | refine r_max ?_ | refine r_int1 ?_ | refine r_intb ?_ | refine r_for ?_ | refine r_itup ?_ | refine r_ilist ?_ | refine r_lc ?_ | refine r_yes ?_ | refine r_istr ?_ | refine r_rng1 ?_ | refine r_rng2 ?_ | refine r_dput ?_ | refine r_daug ?_ | refine r_dget ?_ | refine r_dnewT ?_ | refine r_addI ?_ | refine r_ev ?_ | refine r_sfld ?_ | refine r_faug ?_ | refine r_prop ?_ | refine r_while ?_ | refine r_augS ?_ | refine r_tupF ?_ | refine r_idxT ?_ | refine r_kd ?_ | refine r_ki ?_ | refine r_enum ?_))

local macro_rules | `(tactic| walk_at "hp") => `(tactic| (with_reducible first
  | assumption | exact New.at (by assumption)
  | exact SqT.of (by walk_at "hp") | exact SqL.of (by walk_at "hp") | exact Or.inl (by walk_at "hp") | exact Or.inr (by walk_at "hp")
  | exact New.get (by assumption) (by walk_at "hp") | exact Same.get (by assumption) (by walk_at "hp")))


section
variable {w : World} {K : PySem.W.Frag} {mg : Str → Option Value} {base : Heap}
def sp_isName : Sp := fun vs H Q _ => ∃ c : Nat, vs = [.str (S [c])] ∧ 97 ≤ c ∧ c ≤ 122 ∧ Q (.bl true) H
theorem c_is_name (T : Tx w K mg base) : C8.Cal P0 w K mg base 1 "is_name" sp_isName [] := by
  obtain ⟨fd, F⟩ := f_is_name T
  refine cal_of F (g_is_name T) (fun _ _ _ _ _ _ us hl => match us, hl with | [_], _ => rfl) sc_is_name (fun vs H Q E h => by obtain ⟨_, rfl, _⟩ := h; rfl) (fun cdv A outer s H vs Q E hr h => ?_)
  obtain ⟨c, rfl, h1, h2, k⟩ := h
  refine ⟨_, (pss_one (ps_ret (pe_and (pe_cmpR op_eq (pe_callB callLenStr rfl (b_len T) bb_len (pa_cons (pv 0) pa_nil)) pe_int (nomark _)) (pe_one (pe_cmpR op_inS (pv 0) (C8.pe_gc rfl (v_NAMES T)) (by rfl)))))), ?_⟩
  walk_at "rd"
  refine r_lenS (by rw [S_len, sizeLine_eq]; simp) ?_
  walk_at "rd"
  refine ifD (fun _ => ?_) (fun h => absurd (by rw [S_len]; rfl) h)
  walk_at "rd"
  rw [let26_S]
  refine r_inS1 ?_
  rw [decide_eq_true (let26_mem h1 h2)]
  exact k
theorem let_small {x : Int} (h1 : 1 ≤ x.natAbs) (h2 : x.natAbs < 5) : (x > 0 → letC x ∈ ([97, 98, 99, 100] : List Nat)) ∧ (¬ x > 0 → letC x ∉ ([97, 98, 99, 100] : List Nat) ∧ letC x ∈ ([65, 66, 67, 68] : List Nat)) ∧ letC x ≠ 45 := by
  rcases c8 h1 (by omega) with rfl | rfl | rfl | rfl | rfl | rfl | rfl | rfl <;> decide
def sp_stepsIn : Sp := fun vs H Q _ => ∃ c : Nat, vs = [.str (S [c])] ∧ ((∃ x : Int, c = letC x ∧ 1 ≤ x.natAbs ∧ x.natAbs < 5 ∧ ∀ p H', Same H H' → H' p = some (.tup [.int x]) → Q (.ref p) H') ∨ (101 ≤ c ∧ c ≤ 122 ∧ ∀ H', Same H H' → Q .non H'))
theorem c_steps_in (T : Tx w K mg base) : C8.Cal P0 w K mg base 2 "steps_in" sp_stepsIn [] := by
  obtain ⟨fd, F⟩ := f_steps_in T
  refine cal_of F (g_steps_in T) (fun _ _ _ _ _ _ us hl => match us, hl with | [_], _ => rfl) sc_steps_in (fun vs H Q E h => by obtain ⟨_, rfl, _⟩ := h; rfl) (fun cdv A outer s H vs Q E hr h => ?_)
  obtain ⟨c, rfl, h⟩ := h
  refine ⟨_, (pss_cons (ps_if (pt_cmpR op_eq (pv 0) (C8.pe_gc rfl (v_NONE T)) (nomark _)) (pss_one (ps_ret (pe_tup pa_nil))) pss_nil)
  (pss_cons (ps_if (PW.pt (pw_or (pt_cmpR op_eq (pv 0) pe_str (nomark _)) (pw_or1 (pt_not (pt_val (pe_callB (callAll (K := K) rfl) rfl (b_all T) bb_all (pa_cons (pe_lc (own := [("letter", 1)]) rfl sc_steps_in.nd (pi_str (pv 0)) (blkOk_by (N := N_steps_in) (sc := defScope s_steps_in) (by decide +kernel)) (fun _ _ _ _ _ => pg_name (i := 1) sc_steps_in.nd rfl (Or.inl rfl)) (fun _ _ _ _ _ => pts_nil) (fun _ _ _ _ _ => (pe_or (pe_cmpR op_inS (pv 1) (C8.pe_gc rfl (v_SMALL T)) (by rfl)) (pe_one (pe_cmpR op_inS (pv 1) (C8.pe_gc rfl (v_GREAT T)) (by rfl)))))) pa_nil))))))) (pss_one (ps_ret pe_non)) pss_nil)
  (pss_one (ps_ret (pe_callTy (callTupOf (K := K)) rfl (b_tuple T) bb_tuple (pa_cons (pe_lc (own := [("letter", 1)]) rfl sc_steps_in.nd (pi_str (pv 0)) (blkOk_by (N := N_steps_in) (sc := defScope s_steps_in) (by decide +kernel)) (fun _ _ _ _ _ => pg_name (i := 1) sc_steps_in.nd rfl (Or.inl rfl)) (fun _ _ _ _ _ => pts_nil) (fun _ _ _ _ _ => (C8.pe_c (c_step_of (K := K) T) hr (by decide) rfl (pa_cons (C8.pe_gc rfl (v_MOST_desk T)) (pa_cons (pv 1) pa_nil))))) pa_nil)))))), ?_⟩
  rcases h with ⟨x, rfl, h1, h2, k⟩ | ⟨h1, h2, k⟩
  · obtain ⟨ls1, ls2, ls3⟩ := let_small h1 h2
    walk_at "rd"
    rw [show decide (S [letC x] = ("-" : Str)) = false from decS_ne (d := 45) ls3]
    refine iteF ?_
    walk_at "rd"
    rw [show decide (S [letC x] = ("" : Str)) = false from decide_eq_false fun e => absurd (S_inj (b := []) e) (by simp)]
    refine iteF ?_
    walk_at "rd"
    refine lcS1 (S [letC x]) (fun _ => .bl true) (Nat.le_of_ble_eq_true rfl) (fun c H1 hc s1 Y hY => ?_) fun D H1 hD s1 e1 => ?_
    · obtain rfl : c = letC x := by simpa [S] using hc
      walk_at "rd"
      refine ⟨rfl, ?_⟩
      walk_at "rd"
      refine r_inS1 (t := [97, 98, 99, 100]) ?_
      by_cases hx : x > 0
      · rw [decide_eq_true (ls1 hx)]
        walk_at "rd"
        exact hY _ (Same.refl _)
      · rw [decide_eq_false (ls2 hx).1]
        refine ⟨false, rfl, ?_⟩; rw [if_neg Bool.false_ne_true]
        walk_at "rd"
        refine r_inS1 (t := [65, 66, 67, 68]) ?_
        rw [decide_eq_true (ls2 hx).2]
        exact hY _ (Same.refl _)
    · walk_at "rd"
      refine ⟨D, [true], rfl, SqL.of e1, ?_⟩
      walk_at "rd"
      refine iteF ?_
      walk_at "rd"
      refine lcS1 (S [letC x]) (fun _ => .int x) (Nat.le_of_ble_eq_true rfl) (fun c H2 hc s2 Y hY => ?_) fun D2 H2 hD2 s2 e2 => ?_
      · obtain rfl : c = letC x := by simpa [S] using hc
        walk_at "rd"
        refine ⟨rfl, ?_⟩
        walk_at "rd"
        exact ⟨5, x, rfl, h1, h2, by omega, hY _ (Same.refl _)⟩
      · walk_at "rd"
        refine r_tupOf (SqL.of e2) fun p H3 n3 => ?_
        exact k p H3 ((s1.trans s2).trans n3.same) n3.at
  · walk_at "rd"
    rw [show decide (S [c] = ("-" : Str)) = false from decS_ne (d := 45) (by omega)]
    refine iteF ?_
    walk_at "rd"
    rw [show decide (S [c] = ("" : Str)) = false from decide_eq_false fun e => absurd (S_inj (b := []) e) (by simp)]
    refine iteF ?_
    walk_at "rd"
    refine lcS1 (S [c]) (fun _ => .bl false) (Nat.le_of_ble_eq_true rfl) (fun c' H1 hc s1 Y hY => ?_) fun D H1 hD s1 e1 => ?_
    · obtain rfl : c' = c := by simpa [S] using hc
      walk_at "rd"
      refine ⟨rfl, ?_⟩
      walk_at "rd"
      refine r_inS1 (t := [97, 98, 99, 100]) ?_
      rw [decide_eq_false (by simp; omega)]
      refine ⟨false, rfl, ?_⟩; rw [if_neg Bool.false_ne_true]
      walk_at "rd"
      refine r_inS1 (t := [65, 66, 67, 68]) ?_
      rw [decide_eq_false (by simp; omega)]
      exact hY _ (Same.refl _)
    · walk_at "rd"
      refine ⟨D, [false], rfl, SqL.of e1, ?_⟩
      walk_at "rd"
      refine iteT ?_
      walk_at "rd"
      exact k H1 s1
def sp_deskInit (K : PySem.W.Frag) : Sp := fun vs H Q _ => ∃ (a dx : Addr) (m : Nat), vs = [.ref a, .int m] ∧ H a = some (.ins (ga K "Desk") dx []) ∧ 2 ≤ m ∧ m ≤ 5 ∧
  ∀ f fx H1 H', H f = none → f ≠ a → Same H H1 → (∀ X, f ∈ X → (∀ x ∈ X, x ≠ f → (∃ C dx fs, H x = some (.ins C dx fs)) ∨ (∃ kvs, H x = some (.dK kvs)) ∨ ∃ xs, H x = some (.lst xs)) → FlAt K X H1 f fx m [fr0 m]) → H' = upd H1 a (.ins (ga K "Desk") dx [("desk_floor", .ref f)]) → Q .non H'
theorem m_Desk (T : Tx w K mg base) : C8.Mak P0 w K mg base 6 "Desk" (ga K "Desk") (sp_deskInit K) [] := by
  obtain ⟨fd, F⟩ := f_Desk_init T
  refine mak_of (mk_Desk T) (g_Desk T) F (fun _ _ _ _ _ _ us hl => match us, hl with | [_, _], _ => rfl) sc_Desk_init (fun vs H Q E h => by obtain ⟨_, _, _, rfl, _⟩ := h; rfl) (fun cdv A outer s H vs Q E hr h => ?_)
  obtain ⟨a, dx, m, rfl, ha, h1, h2, k⟩ := h
  refine ⟨_, (pss_one (psFld (K := K) (pv 0) (C8.pe_mk (m_Floor (K := K) T) hr (by decide) rfl (pa_cons (pv 1) pa_nil)))), ?_⟩
  walk_at "rd"
  refine r_floor h1 h2 fun f fx H1 hf s1 hF => ?_
  walk_at "rd"
  refine r_sf (s1 _ _ ha) (cl_Desk T) (na_Desk_desk_floor T) ?_
  walk_at "rd"
  exact k f fx H1 _ hf (fun e => by subst e; rw [ha] at hf; cases hf) s1 hF rfl
end
end My
end

section
set_option Elab.async false
set_option linter.all false
set_option maxRecDepth 100000
set_option maxHeartbeats 4000000
/-! OL: len of an instance by its own __len__. -/
namespace PySem.W
open PySem PySem.Spec PySem.Calls PyProof.Rows Builtin
section
variable {prog : Program} {w : World} {A : Around} {E : Value → Shared → Prop} {s : Shared} {K : Frag} {x C f : Addr} {ox : Obj} {od : Option Obj}
theorem my_len {Q : Value → Shared → Prop} (X : K.In s.heap) (I : InstAt s.heap x ox C od) (hs : findIn K (.ref C) "__len__" = some (some (.ref f))) (hf : typeIn K (.ref f) = some (.type "function"))
    (h : wpAny (model prog w) A.in1 (call (.ref f) [.ref x]) (fun v s' => ∃ (n : Nat) (t : Tok), v = .int n t ∧ n < 2 ^ 62 ∧ ∀ t2 tk, Q (.int n t2) { s' with toks := tk }) E s) : wpAny (model prog w) A (call (.builtin "len") [.ref x]) Q E s := by
  refine Calls.call_function_entry kind_len plain_len entry_len (args_len1 _) ?_
  unfold Builtin.«len»
  refine wpAny_bind (m := oneArg "len" _) (wpAny_pure ?_)
  refine wpAny_bind (m := callSpecial? (.ref x) (PySem.Str.ofString "__len__")) (special_fn X I hs hf (wpAny_mono h (fun v s' hv => ?_) fun _ _ e => e))
  obtain ⟨n, t, rfl, hn, q⟩ := hv
  refine wpAny_bind (wpAny_holding (wpAny_pure ?_))
  refine wpAny_bind (wpAny_letGo ?_)
  show wpAny _ _ (if ((n : Nat) : Int) < 0 then _ else _) _ _ _
  rw [if_neg (by omega)]
  show wpAny _ _ (if ((n : Nat) : Int) ≥ 2 ^ 63 then _ else _) _ _ _
  rw [if_neg (by omega)]
  exact wpAny_bind (wpAny_mkInt (wpAny_pure ⟨_, rfl, q _ _⟩))
end
end PySem.W
namespace My
open PySem PySem.Spec PyProof.Rows L2 He LamX SX
section
variable {X : Cx} {k j : Nat} {C : Addr} {sp : Sp}
def rLenF (C : Addr) (sp : Sp) : List V → Hp → VK → Prop := fun xs H Q => ∃ a dx fs, xs = [.ref a] ∧ H a = some (.ins C dx fs) ∧ sp [.ref a] H (fun v H' => ∃ n : Nat, v = .int n ∧ n < 2 ^ 62 ∧ Q (.int n) H') C8.E0
theorem callLenF (c : C8.Met X.prog X.w X.K X.mg X.base k C "__len__" sp []) (hr : Room j X.A) (hk : k + 1 ≤ j) : CallR X (.builtin "len") (rLenF C sp) := by
  intro pins s σ H xs us Q I rv d
  obtain ⟨a, dx, fs, rfl, ha, hsp⟩ := d
  obtain ⟨u, rfl, ru⟩ := vals1 rv
  obtain rfl : u = Value.ref a := ru
  obtain ⟨f, fd, ps, ds, hc, hm, F, hb, hd⟩ := c.ex
  cases hd
  obtain ⟨mA, J, _⟩ := ins_get I.hok ha
  obtain ⟨od, J, _⟩ := J.look
  have hr1 : Room (k + 1) X.A := hr.mono hk
  refine PySem.W.my_len I.kIn J hm.at_ (beq_iff_eq.mp hm.fn) ?_
  have hl := F.len _ _ _ _ hsp
  have r2 : Vals [V.ref a] [Value.ref a] := .cons rfl .nil
  refine wpAny_call (codeAny_mono (F.run X.A.in1 X.stack s H ⟨[.ref a], []⟩ [.ref a] [.ref a] _ C8.E0 hr1.in1 I.env0.in1 (by
    have := hb s [.ref a] I.kIn (by simpa using hl)
    simpa using this) r2 hsp) fun r s' hq => ?_)
  cases r with
  | error e => exact (show False from hq).elim
  | ok fl =>
    cases fl with
    | ret w =>
      obtain ⟨z, H', I', rz, n, ez, hn, q⟩ := I.after hq
      subst ez
      obtain ⟨t, rfl⟩ := rz
      exact ⟨n, t, rfl, hn, fun t2 tk => ⟨.int n, H', I'.tok _, ⟨_, rfl⟩, q⟩⟩
    | next => exact False.elim hq
    | brk => exact False.elim hq
    | cont => exact False.elim hq
end
end My
end

section
set_option Elab.async false
set_option linter.all false
set_option maxRecDepth 100000
set_option maxHeartbeats 4000000
/-! OP: how large the numbers of curves grow; their texts. -/
namespace My
open PySem PySem.Spec PyProof.Rows L2 He LamX SX
theorem four_abs {M : Nat} {p q r s x : Int} (hp : p.natAbs ≤ M) (hq : q.natAbs ≤ M) (hr : r.natAbs ≤ M) (hs : s.natAbs ≤ M) : ∀ y ∈ four p q r s x, y.natAbs ≤ 8 * M := by
  intro y hy
  unfold four at hy
  split at hy
  · unfold fwd at hy
    simp only [List.mem_cons, List.not_mem_nil, or_false] at hy
    rcases hy with rfl | rfl | rfl | rfl <;> omega
  · unfold bwd at hy
    simp only [List.mem_cons, List.not_mem_nil, or_false] at hy
    rcases hy with rfl | rfl | rfl | rfl <;> omega
theorem getD_abs {M : Nat} {l : List Int} (h : ∀ y ∈ l, y.natAbs ≤ M) (i : Nat) : (l.getD i 0).natAbs ≤ M := by
  rw [List.getD_eq_getElem?_getD]
  rcases Nat.lt_or_ge i l.length with hi | hi
  · rw [List.getElem?_eq_getElem hi]; exact h _ (List.getElem_mem hi)
  · rw [List.getElem?_eq_none hi]; exact Nat.zero_le _
theorem stepN_abs {M : Nat} {l : List Int} {x : Int} (h : ∀ y ∈ l, y.natAbs ≤ M) : ∀ y ∈ stepN l x, y.natAbs ≤ 8 * M := by
  intro y hy
  unfold stepN at hy
  rcases List.mem_append.mp hy with hy | hy
  · rcases List.mem_append.mp hy with hy | hy
    · have := h y (List.mem_of_mem_take hy); omega
    · exact four_abs (getD_abs h _) (getD_abs h _) (getD_abs h _) (getD_abs h _) y hy
  · have := h y (List.mem_of_mem_drop hy); omega
theorem curves_abs (m : Nat) (d : List Int) : ∀ y ∈ curves m d, y.natAbs ≤ 8 ^ d.length := by
  have key : ∀ (d : List Int) (l : List Int) (M : Nat), (∀ y ∈ l, y.natAbs ≤ M) → ∀ y ∈ d.foldl stepN l, y.natAbs ≤ 8 ^ d.length * M := by
    intro d
    induction d with
    | nil => intro l M h y hy; have := h y hy; simpa using this
    | cons x d ih =>
      intro l M h y hy
      have := ih (stepN l x) (8 * M) (stepN_abs h) y hy
      rw [List.length_cons, Nat.pow_succ, Nat.mul_assoc]
      exact this
  intro y hy
  have := key d (nums0 m) 1 (fun y hy => by
    unfold nums0 at hy
    rw [List.mem_flatten] at hy
    obtain ⟨l, hl, hy⟩ := hy
    rw [List.eq_of_mem_replicate hl] at hy
    simp only [List.mem_cons, List.not_mem_nil, or_false] at hy
    rcases hy with rfl | rfl <;> decide) y hy
  rw [Nat.mul_one] at this
  exact this
end My
end

section
set_option Elab.async false
set_option linter.all false
set_option maxRecDepth 100000
set_option maxHeartbeats 4000000
/-! OB: the desk: answers. -/
namespace My
open PySem PySem.Spec PyProof.Rows L2 He LamX SX
local macro_rules | `(tactic| walk_at "rd") => `(tactic| repeat (with_reducible first
  | refine r_seq ?_ | refine r_asg ?_ | refine r_var (by with_unfolding_all rfl) ?_ | refine r_c ?_ | refine r_op ?_ | refine r_I0 ?_ | refine r_name ?_ | refine r_ret ?_ | refine r_if ?_ | refine r_cons ?_ | refine r_nil ?_
  | refine r_CB ?_ | refine r_call ?_ | refine r_test ?_ | refine r_eqI ?_ | refine r_eqS ?_ | refine r_neI ?_ | refine r_neS ?_ | refine r_drop ?_ | refine r_next ?_ | refine r_ifE ?_ | refine r_B ?_ | refine r_andV ?_ | refine r_orV ?_ | refine r_notV ?_ | refine r_blV ?_
  | refine r_and ?_ | refine r_or ?_ | refine r_not ?_ | refine r_tup ?_ | refine r_lst ?_ | refine r_par ?_ | refine r_exv2 ?_ | refine r_un ?_ | refine r_neg ?_ | refine r_isN ?_ | refine r_notN ?_ | refine r_retN ?_ | refine r_chain ?_
  | refine r_star ?_ | refine r_lstRg ?_ | refine r_rg1 ?_ | refine r_rg2 ?_ | refine r_exi ?_ | refine r_exi2 ?_ | refine r_sl ?_ | refine r_noPart ?_ | refine r_part ?_ | refine r_gnil ?_ | refine r_gcons ?_ | refine r_gsub ?_ | refine r_BM ?_ | refine r_M1 ?_ | refine r_isstr ?_ | refine r_meth ?_ | refine r_make ?_ | refine r_fld ?_ | refine r_abs ?_ | refine r_isiIntInt ?_ | refine r_isiIntBool ?_ | refine r_isiStr ?_ | refine r_min ?_ | refine r_max ?_ | refine r_int1 ?_ | refine r_intb ?_ | refine r_for ?_ | refine r_itup ?_ | refine r_ilist ?_ | refine r_lc ?_ | refine r_yes ?_ | refine r_istr ?_ | refine r_rng1 ?_ | refine r_rng2 ?_ | refine r_dput ?_ | refine r_daug ?_ | refine r_dget ?_ | refine r_dnewT ?_ | refine r_addI ?_ | refine r_ev ?_ | refine r_sfld ?_ | refine r_faug ?_ | refine r_prop ?_ | refine r_while ?_ | refine r_augS ?_ | refine r_tupF ?_ | refine r_idxT ?_ | refine r_kd ?_ | refine r_ki ?_ | refine r_enum ?_))

local macro_rules | `(tactic| walk_at "rn") => `(tactic| repeat (with_reducible first
  | refine r_seq ?_ | refine r_asg ?_ | refine r_var (by with_unfolding_all rfl) ?_ | refine r_c ?_ | refine r_op ?_ | refine r_I0 ?_ | refine r_name ?_ | refine r_ret ?_ | refine r_cons ?_ | refine r_nil ?_
  | refine r_CB ?_ | refine r_call ?_ | refine r_test ?_ | refine r_eqI ?_ | refine r_eqS ?_ | refine r_neI ?_ | refine r_neS ?_ | refine r_drop ?_ | refine r_next ?_ | refine r_B ?_ | refine r_andV ?_ | refine r_orV ?_ | refine r_notV ?_ | refine r_blV ?_
  | refine r_and ?_ | refine r_or ?_ | refine r_not ?_ | refine r_tup ?_ | refine r_lst ?_ | refine r_par ?_ | refine r_exv2 ?_ | refine r_un ?_ | refine r_neg ?_ | refine r_isN ?_ | refine r_notN ?_ | refine r_retN ?_ | refine r_chain ?_
  | refine r_star ?_ | refine r_lstRg ?_ | refine r_rg1 ?_ | refine r_rg2 ?_ | refine r_exi ?_ | refine r_exi2 ?_ | refine r_sl ?_ | refine r_noPart ?_ | refine r_part ?_ | refine r_gnil ?_ | refine r_gcons ?_ | refine r_gsub ?_ | refine r_BM ?_ | refine r_M1 ?_ | refine r_isstr ?_ | refine r_meth ?_ | refine r_make ?_ | refine r_fld ?_ | refine r_abs ?_ | refine r_isiIntInt ?_ | refine r_isiIntBool ?_ | refine r_isiStr ?_ | refine r_min ?_ | refine r_max ?_ | refine r_int1 ?_ | refine r_intb ?_ | refine r_for ?_ | refine r_itup ?_ | refine r_ilist ?_ | refine r_lc ?_ | refine r_yes ?_ | refine r_istr ?_ | refine r_rng1 ?_ | refine r_rng2 ?_ | refine r_dput ?_ | refine r_daug ?_ | refine r_dget ?_ | refine r_dnewT ?_ | refine r_addI ?_ | refine r_ev ?_ | refine r_sfld ?_ | refine r_faug ?_ | refine r_prop ?_ | refine r_while ?_ | refine r_augS ?_ | refine r_tupF ?_ | refine r_idxT ?_ | refine r_kd ?_ | refine r_ki ?_ | refine r_enum ?_))

local macro_rules | `(tactic| walk_at "hp") => `(tactic| (with_reducible first
  | assumption | exact New.at (by assumption)
  | exact SqT.of (by walk_at "hp") | exact SqL.of (by walk_at "hp") | exact Or.inl (by walk_at "hp") | exact Or.inr (by walk_at "hp")
  | exact New.get (by assumption) (by walk_at "hp") | exact Same.get (by assumption) (by walk_at "hp")))


/-- a desk t whose floor is f -/
structure DkAt (K : PySem.W.Frag) (X : List Addr) (H : Hp) (t f dx : Addr) (m0 : Nat) (fs : List Fr) : Prop where
  tX : t ∉ X
  at_ : ∃ dy, H t = some (.ins (ga K "Desk") dy [("desk_floor", .ref f)])
  fl : FlAt K X H f dx m0 fs
theorem DkAt.same {K : PySem.W.Frag} {X : List Addr} {H H' : Hp} {t f dx : Addr} {m0 : Nat} {fs : List Fr} (h : DkAt K X H t f dx m0 fs) (s : Same H H') : DkAt K X H' t f dx m0 fs :=
  ⟨h.tX, let ⟨dy, e⟩ := h.at_; ⟨dy, s _ _ e⟩, h.fl.same s⟩
theorem DkAt.ne {K : PySem.W.Frag} {X : List Addr} {H : Hp} {t f dx : Addr} {m0 : Nat} {fs : List Fr} (h : DkAt K X H t f dx m0 fs) : t ≠ f := fun e => h.tX (by rw [e]; exact h.fl.fX)
theorem DkAt.but {K : PySem.W.Frag} {X : List Addr} {H H' : Hp} {t f dx : Addr} {m0 : Nat} {fs gs : List Fr} (h : DkAt K X H t f dx m0 fs) (s : SameBut f H H') (h2 : FlAt K X H' f dx m0 gs) : DkAt K X H' t f dx m0 gs :=
  ⟨h.tX, let ⟨dy, e⟩ := h.at_; ⟨dy, s _ _ h.ne e⟩, h2⟩
/-- what the desk answers to a deed -/
def okS (fr : Fr) : List Nat := [111, 107, 32] ++ standF fr
def PostT (K : PySem.W.Frag) (X : List Addr) (f dx : Addr) (m0 : Nat) (r : Option Kd × List Fr) (H : Hp) (Q : VK) (E : XK) : Prop := match r with
  | (none, gs) => ∀ H', SameBut f H H' → FlAt K X H' f dx m0 gs → Q (.str (S (okS (headF m0 gs)))) H'
  | (some k, _) => ∀ d H', Same H H' → DOk d H' → E (exV K k) d H'
theorem log_curves {x : Int} {n : Nat} (h : x.natAbs ≤ 8 ^ n) (hn : n ≤ 100) : x.natAbs.log2 < 1920 := by
  by_cases h0 : x.natAbs = 0
  · rw [h0]; decide
  · refine Nat.lt_of_lt_of_le ((Nat.log2_lt h0).mpr (Nat.lt_of_le_of_lt h ?_)) (show 301 ≤ 1920 by decide)
    refine Nat.lt_of_le_of_lt (Nat.pow_le_pow_right (by decide) hn) ?_
    decide +kernel
theorem sum_le (l : List Str) (b : Nat) (h : ∀ z ∈ l, z.length ≤ b) : (l.map (·.length)).sum ≤ l.length * b := by
  induction l with
  | nil => simp
  | cons a l ih =>
    rw [List.map_cons, List.sum_cons, List.length_cons, Nat.succ_mul]
    have := h a List.mem_cons_self
    have := ih fun z hz => h z (List.mem_cons_of_mem _ hz)
    omega
theorem sl_last (l : List Nat) (c : Nat) : Txt.slice (S (l ++ [c])) none (some (-1)) = S l := by
  rw [← C8.cutS_slice]
  unfold cutS
  rw [S_len, List.length_append, List.length_singleton]
  have e : HT.sIx (l.length + 1) (l.length + 1) (some (-1)) = l.length := by unfold HT.sIx; simp; omega
  rw [e]
  show S (((l ++ [c]).drop 0).take (l.length - 0)) = S l
  rw [List.drop_zero, Nat.sub_zero, List.take_left']
  rfl
theorem dtext_last (m : Nat) (d : List Int) : dtext m d = (dtext m d).dropLast ++ [10] := by
  show ((48 + m) :: 32 :: letsC d) ++ [10] = (((48 + m) :: 32 :: letsC d) ++ [10]).dropLast ++ [10]
  rw [List.dropLast_concat]
theorem sideV3 (l : List Int) : sideV l = 1 ∨ sideV l = 0 ∨ sideV l = -1 := by
  unfold sideV
  split
  · exact .inr (.inl rfl)
  · split
    · exact .inl rfl
    · exact .inr (.inr rfl)
theorem ones_sum : ∀ l : List Nat, (l.map (List.length ∘ fun x : Nat => [x])).sum = l.length
  | [] => rfl
  | a :: l => by rw [List.map_cons, List.sum_cons, ones_sum l, List.length_cons]; show 1 + _ = _; omega
theorem flat_ones : ∀ l : List Nat, (l.map fun x => [x]).flatten = l
  | [] => rfl
  | a :: l => by rw [List.map_cons, List.flatten_cons, flat_ones l]; rfl
section
variable {w : World} {K : PySem.W.Frag} {mg : Str → Option Value} {base : Heap}
def sp_now (K : PySem.W.Frag) : Sp := fun vs H Q _ => ∃ (X : List Addr) (t f dx : Addr) (m0 N : Nat) (fr : Fr) (fs : List Fr), vs = [.ref t] ∧ DkAt K X H t f dx m0 (fr :: fs) ∧ Wf N fr ∧ ∀ H', Same H H' → Q (.str (S (standF fr))) H'
theorem c_Desk_now (T : Tx w K mg base) : C8.Met P0 w K mg base 4 (ga K "Desk") "now" (sp_now K) [] := by
  obtain ⟨fd, F⟩ := f_Desk_now T
  refine met_of (cl_Desk T) (me_Desk_now T) F (fun _ _ _ _ _ _ us hl => match us, hl with | [_], _ => rfl) sc_Desk_now (fun vs H Q E h => by obtain ⟨_, _, _, _, _, _, _, _, rfl, _⟩ := h; rfl) (fun cdv A outer s H vs Q E hr h => ?_)
  obtain ⟨X, t, f, dx, m0, N, fr, fs, rfl, hd, W, k⟩ := h
  refine ⟨_, (pss_one (ps_ret (peJoin (K := K) pe_str (pe_pr (p_Floor_standing (K := K) T) hr (by decide) (peFld (K := K) (pv 0)) rfl)))), ?_⟩
  obtain ⟨dy, ht⟩ := hd.at_
  obtain ⟨gf, hgf⟩ := hd.fl.ref
  walk_at "rd"
  refine r_fl ht (cl_Desk T) (na_Desk_desk_floor T) ?_
  refine r_pr hgf ?_
  refine ⟨X, f, dx, m0, N, fr, fs, rfl, hd.fl, W, fun p H2 s2 e2 => ?_⟩
  walk_at "rd"
  have hl := standF_len W
  have hh := W.hi
  refine r_joinL (a := []) (ys := (standF fr).map fun x => [x]) (.inr (SqT.of (by rw [List.map_map]; exact e2))) ?_ ?_
  · rw [List.map_map, List.length_map]
    have : ∀ l : List Nat, (l.map (List.length ∘ fun x : Nat => [x])).sum = l.length := fun l => by induction l with | nil => rfl | cons a l ih => rw [List.map_cons, List.sum_cons, ih, List.length_cons]; show 1 + _ = _; omega
    rw [this]
    simp; omega
  · rw [joinL_nil, show ((standF fr).map fun x => [x]).flatten = standF fr by induction standF fr with | nil => rfl | cons a l ih => rw [List.map_cons, List.flatten_cons, ih]; rfl]
    exact k H2 s2
theorem postTD {X : List Addr} {f dx : Addr} {m0 : Nat} {r : Option Kd × List Fr} {H : Hp} {Q Q' : VK} {E : XK} (h : PostT K X f dx m0 r H Q E) (hQ : ∀ H', SameBut f H H' → FlAt K X H' f dx m0 r.2 → (∀ H2, Same H' H2 → Q (.str (S (okS (headF m0 r.2)))) H2) → Q' .non H') : PostD K X f dx m0 r H Q' E := by
  obtain ⟨a, gs⟩ := r
  cases a with
  | none => exact fun H' s f1 => hQ H' s f1 fun H2 s2 => h H2 (s.same s2) (f1.same s2)
  | some kd => exact h
/-- 'ok ' + self.now() -/
theorem okNow {X : List Addr} {t f dx : Addr} {m0 N : Nat} {gs : List Fr} {H : Hp} {Q : VK} (hd : DkAt K X H t f dx m0 gs) (hne : gs ≠ []) (W : ∀ g ∈ gs, Wf N g) (k : ∀ H2, Same H H2 → Q (.str (S (okS (headF m0 gs)))) H2) :
    sp_now K [.ref t] H (fun x H' => My.rAddS (.str "ok ") x H' Q) C8.E0 := by
  cases gs with
  | nil => exact absurd rfl hne
  | cons g gs =>
    have Wg := W g List.mem_cons_self
    refine ⟨X, t, f, dx, m0, N, g, gs, rfl, hd, Wg, fun H2 s2 => ?_⟩
    have hl := standF_len Wg
    have hh := Wg.hi
    exact r_catX (a := [111, 107, 32]) (b := standF g) (by simp; omega) (k H2 s2)
inductive Ask | names | dance | deeds | straight | side | numbers
def askW : Ask → Str | .names => "names" | .dance => "dance" | .deeds => "deeds" | .straight => "straight" | .side => "side" | .numbers => "numbers"
def sideS (x : Int) : Str := if x = 1 then "right" else if x = 0 then "none" else "left"
def numW (l : List Int) : List Str := l.map fun x => Str.ofString (toString x)
def askA (fr : Fr) : Ask → Str
  | .names => S fr.names
  | .dance => S ((dtext fr.names.length fr.dance).dropLast)
  | .deeds => S (TL.numL fr.deeds.length)
  | .straight => if curves fr.names.length fr.dance = curves fr.names.length [] then "yes" else "no"
  | .side => sideS (sideV (curves fr.names.length fr.dance))
  | .numbers => Txt.join " " (numW (curves fr.names.length fr.dance))
def sp_ansAlone (K : PySem.W.Frag) : Sp := fun vs H Q E => ∃ (X : List Addr) (t f dx : Addr) (m0 N : Nat) (fr : Fr) (fs : List Fr) (z : Str), vs = [.ref t, .str z] ∧ DkAt K X H t f dx m0 (fr :: fs) ∧ (∀ g ∈ fr :: fs, Wf N g) ∧ N ≤ 99 ∧
  ((z = "undo" ∧ PostT K X f dx m0 (actF (fr :: fs) .undo) H Q E) ∨ ∃ k : Ask, z = askW k ∧ ∀ H', Same H H' → Q (.str (askA fr k)) H')
theorem e_Desk_answer_alone (T : Tx w K mg base) : MetE P0 w K mg base 8 (ga K "Desk") "answer_alone" (sp_ansAlone K) := by
  obtain ⟨fd, F⟩ := f_Desk_answer_alone T
  refine metE_of (cl_Desk T) (me_Desk_answer_alone T) F (fun _ _ _ _ _ _ us hl => match us, hl with | [_, _], _ => rfl) sc_Desk_answer_alone (fun vs H Q E h => by obtain ⟨_, _, _, _, _, _, _, _, _, rfl, _⟩ := h; rfl) (fun cdv A outer s H vs Q E hr h => ?_)
  obtain ⟨X, t, f, dx, m0, N, fr, fs, z, rfl, hd, W, hN, h⟩ := h
  refine ⟨_, (pss_cons (ps_set (i := 2) sc_Desk_answer_alone.nd rfl (Or.inl rfl) (peFld (K := K) (pv 0)))
  (pss_cons (ps_if (pt_cmpR op_eq (pv 1) pe_str (nomark _)) (pss_cons (ps_expr (pe_mtE0 (e_Floor_undo (K := K) T) hr (by decide) (passes_call (takes_of rfl rfl rfl rfl) (fun _ _ _ _ h => h)) (pv 2)))
  (pss_one (ps_ret (pe_op opAddS pe_str (C8.pe_mt0 (c_Desk_now (K := K) T) hr (by decide) (pv 0)))))) pss_nil)
  (pss_cons (ps_if (pt_cmpR op_eq (pv 1) pe_str (nomark _)) (pss_one (ps_ret (C8.pe_mt0 (c_Desk_now (K := K) T) hr (by decide) (pv 0)))) pss_nil)
  (pss_cons (ps_if (pt_cmpR op_eq (pv 1) pe_str (nomark _)) (pss_one (ps_ret (peJoin (K := K) pe_str (pe_pr (p_Floor_names (K := K) T) hr (by decide) (pv 2) rfl)))) pss_nil)
  (pss_cons (ps_if (pt_cmpR op_eq (pv 1) pe_str (nomark _)) (pss_one (ps_ret (pe_slice C8.sl_txt (C8.pe_c (c_dance_text (K := K) T) hr (by decide) rfl (pa_cons (pe_pr (p_Floor_many (K := K) T) hr (by decide) (pv 2) rfl) (pa_cons (pe_pr (p_Floor_dance (K := K) T) hr (by decide) (pv 2) rfl) pa_nil))) po_none (po_some (pe_un un_neg pe_int))))) pss_nil)
  (pss_cons (ps_if (pt_cmpR op_eq (pv 1) pe_str (nomark _)) (pss_one (ps_ret (pe_callTy callStrI rfl (b_str T) bb_str (pa_cons (pe_callB (callLenF (c_Floor_len (K := K) T) hr (by decide)) rfl (b_len T) bb_len (pa_cons (pv 2) pa_nil)) pa_nil)))) pss_nil)
  (pss_cons (ps_if (pt_cmpR op_eq (pv 1) pe_str (nomark _)) (pss_one (ps_ret (pe_ifExp (pt_val (C8.pe_mt0 (c_Floor_is_straight (K := K) T) hr (by decide) (pv 2))) pe_str pe_str))) pss_nil)
  (pss_cons (ps_if (pt_cmpR op_eq (pv 1) pe_str (nomark _)) (pss_one (ps_ret (pe_ki (K := K) (C8.pe_gc (v := .ref (ga K "SIDES")) rfl ⟨_, g_SIDES T, rfl⟩) (C8.pe_c (c_side_of (K := K) T) hr (by decide) rfl (pa_cons (pe_pr (p_Floor_many (K := K) T) hr (by decide) (pv 2) rfl) (pa_cons (pe_pr (p_Floor_dance (K := K) T) hr (by decide) (pv 2) rfl) pa_nil))) (fun _ _ => rfl)))) pss_nil)
  (pss_cons (ps_if (pt_cmpR op_eq (pv 1) pe_str (nomark _)) (pss_one (ps_ret (peJoin (K := K) pe_str (pe_lc (own := [("number", 3)]) rfl sc_Desk_answer_alone.nd (piTup (K := K) (C8.pe_c (c_numbers_in (K := K) T) hr (by decide) rfl (pa_cons (pe_pr (p_Floor_many (K := K) T) hr (by decide) (pv 2) rfl) (pa_cons (pe_pr (p_Floor_dance (K := K) T) hr (by decide) (pv 2) rfl) pa_nil)))) (blkOk_by (N := N_Desk_answer_alone) (sc := defScope s_Desk_answer_alone) (by decide +kernel)) (fun _ _ _ _ _ => pg_name (i := 3) sc_Desk_answer_alone.nd rfl (Or.inl rfl)) (fun _ _ _ _ _ => pts_nil) (fun _ _ _ _ _ => (pe_callTy callStrI rfl (b_str T) bb_str (pa_cons (pv 3) pa_nil))))))) pss_nil)
  (pss_one (ps_ret pe_non))))))))))), ?_⟩
  obtain ⟨dy, ht⟩ := hd.at_
  obtain ⟨gf, hgf⟩ := hd.fl.ref
  walk_at "rd"
  refine r_fl ht (cl_Desk T) (na_Desk_desk_floor T) ?_
  walk_at "rd"
  have W0 := W fr List.mem_cons_self
  obtain ⟨a, dx', n, d, e, l, bf, g1, g2, g3, g4⟩ := r_stOf hd.fl
  rcases h with ⟨rfl, h⟩ | ⟨k, rfl, h⟩
  · refine ifD (fun _ => ?_) (fun h => absurd rfl h)
    walk_at "rd"
    refine r_me g1 ?_
    walk_at "rd"
    refine ⟨X, f, dx, m0, fr, fs, rfl, hd.fl, postTD h fun H' sb hf' hk => ?_⟩
    walk_at "rd"
    obtain ⟨dy', ht'⟩ := (hd.but sb hf').at_
    refine r_me ht' ?_
    walk_at "rd"
    exact okNow (N := N + 1) (hd.but sb hf') (act_ne (List.cons_ne_nil _ _)) (act_wf (q := .undo) W trivial) hk
  · refine ifD (fun h => absurd h (by cases k <;> decide)) (fun _ => ?_)
    walk_at "rd"
    refine ifD (fun h => absurd h (by cases k <;> decide)) (fun _ => ?_)
    walk_at "rd"
    cases k with
    | names =>
      refine ifD (fun _ => ?_) (fun h => absurd rfl h)
      walk_at "rd"
      refine r_pr g1 ?_
      refine ⟨X, f, dx, m0, fr, fs, rfl, hd.fl, fun n1 hn1 nn => ?_⟩
      refine r_joinL (a := []) (ys := fr.names.map fun x => [x]) (.inr (by rw [List.map_map]; exact NT.sq nn)) ?_ ?_
      · have := W0.hi
        rw [List.map_map, List.length_map, ones_sum]; simp; omega
      · rw [joinL_nil, flat_ones]
        exact h H (Same.refl _)
    | dance =>
      refine ifD (fun h => absurd h (by decide)) (fun _ => ?_)
      walk_at "rd"
      refine ifD (fun _ => ?_) (fun h => absurd rfl h)
      walk_at "rd"
      refine r_pr g1 ?_
      refine ⟨X, f, dx, m0, fr, fs, rfl, hd.fl, ?_⟩
      walk_at "rd"
      refine r_pr g1 ?_
      refine ⟨X, f, dx, m0, fr, fs, rfl, hd.fl, fun d1 hd1 nd => ?_⟩
      walk_at "rd"
      have := W0.dl
      refine ⟨fr.names.length, fr.dance, d1, rfl, nd, W0.dv, W0.lo, W0.hi, by omega, fun H2 s2 => ?_⟩
      walk_at "rd"
      have hl := letsC_len fr.dance
      refine r_sltx (by rw [S_len]; unfold dtext; simp; omega) (z2 := S ((dtext fr.names.length fr.dance).dropLast)) ?_ (h H2 s2)
      exact (congrArg (fun t => Txt.slice (S t) none (some (-1))) (dtext_last fr.names.length fr.dance)).trans (sl_last _ _)
    | deeds =>
      iterate 2 (refine ifD (fun h => absurd h (by decide)) (fun _ => ?_); walk_at "rd")
      refine ifD (fun _ => ?_) (fun h => absurd rfl h)
      walk_at "rd"
      refine ⟨f, _, _, rfl, g1, X, f, dx, m0, fr, fs, rfl, hd.fl, fr.deeds.length, rfl, by have := W0.ql; omega, ?_⟩
      walk_at "rd"
      have := W0.ql
      refine r_strN (n := fr.deeds.length) (h H (Same.refl _)) (Nat.lt_of_lt_of_le (show fr.deeds.length < 2 ^ 10 by omega) (Nat.pow_le_pow_right (by decide) (by decide)))
    | straight =>
      iterate 3 (refine ifD (fun h => absurd h (by decide)) (fun _ => ?_); walk_at "rd")
      refine ifD (fun _ => ?_) (fun h => absurd rfl h)
      walk_at "rd"
      refine r_me g1 ?_
      walk_at "rd"
      refine ⟨X, f, dx, m0, N, fr, fs, rfl, hd.fl, W0, fun H2 s2 => ?_⟩
      have h2 := h H2 s2
      unfold askA at h2
      walk_at "rd"
      refine ifD (fun hc => ?_) (fun hc => ?_)
      · rw [if_pos hc] at h2
        exact h2
      · rw [if_neg hc] at h2
        exact h2
    | side =>
      iterate 4 (refine ifD (fun h => absurd h (by decide)) (fun _ => ?_); walk_at "rd")
      refine ifD (fun _ => ?_) (fun h => absurd rfl h)
      walk_at "rd"
      refine r_pr g1 ?_
      refine ⟨X, f, dx, m0, fr, fs, rfl, hd.fl, ?_⟩
      walk_at "rd"
      refine r_pr g1 ?_
      refine ⟨X, f, dx, m0, fr, fs, rfl, hd.fl, fun d1 hd1 nd => ?_⟩
      walk_at "rd"
      have := W0.dl
      refine ⟨fr.names.length, fr.dance, d1, rfl, nd, W0.dv, W0.lo, W0.hi, by omega, fun H2 s2 => ?_⟩
      have h2 := h H2 s2
      unfold askA sideS at h2
      rcases sideV3 (curves fr.names.length fr.dance) with e | e | e <;> rw [e] at h2 ⊢
      · obtain ⟨es, kk, tt, q1, q2, q3⟩ := sd_right T
        exact ⟨_, es, kk, 1, _, tt, rfl, rfl, q1, q2, q3, h2⟩
      · obtain ⟨es, kk, tt, q1, q2, q3⟩ := sd_none T
        exact ⟨_, es, kk, 0, _, tt, rfl, rfl, q1, q2, q3, h2⟩
      · obtain ⟨es, kk, tt, q1, q2, q3⟩ := sd_left T
        exact ⟨_, es, kk, -1, _, tt, rfl, rfl, q1, q2, q3, h2⟩
    | numbers =>
      iterate 5 (refine ifD (fun h => absurd h (by decide)) (fun _ => ?_); walk_at "rd")
      refine ifD (fun _ => ?_) (fun h => absurd rfl h)
      walk_at "rd"
      refine r_pr g1 ?_
      refine ⟨X, f, dx, m0, fr, fs, rfl, hd.fl, ?_⟩
      walk_at "rd"
      refine r_pr g1 ?_
      refine ⟨X, f, dx, m0, fr, fs, rfl, hd.fl, fun d1 hd1 nd => ?_⟩
      walk_at "rd"
      have := W0.dl
      refine ⟨fr.names.length, fr.dance, d1, rfl, nd, W0.dv, W0.lo, W0.hi, fun p H2 s2 e2 => ?_⟩
      have hlen := curves_len fr.names.length fr.dance W0.dv
      have hhi := W0.hi
      have hlg : ∀ x ∈ curves fr.names.length fr.dance, x.natAbs.log2 < 1920 := fun x hx => log_curves (curves_abs _ _ x hx) (by omega)
      walk_at "rd"
      refine lcT1 V.int (curves fr.names.length fr.dance) (fun x => .str (Str.ofString (toString x))) (SqT.of e2) (by omega) (fun x H3 hx s3 Y hY => ?_) fun D H3 hD s3 e3 => ?_
      · walk_at "rd"
        refine ⟨rfl, ?_⟩
        walk_at "rd"
        exact ⟨x, rfl, hlg x hx, hY _ (Same.refl _)⟩
      · refine ⟨_, D, numW (curves fr.names.length fr.dance), rfl, rfl, .inl (SqL.of (by unfold numW; rw [List.map_map]; exact e3)), ?_, h H3 (s2.trans s3)⟩
        have h1 : ((numW (curves fr.names.length fr.dance)).map (·.length)).sum ≤ (numW (curves fr.names.length fr.dance)).length * 1921 := sum_le _ _ fun z hz => by
          unfold numW at hz
          obtain ⟨x, hx, rfl⟩ := List.mem_map.mp hz
          exact int_text_len_1921 (hlg x hx)
        have h2 : (numW (curves fr.names.length fr.dance)).length = 2 * fr.names.length := by unfold numW; rw [List.length_map, hlen]
        rw [h2] at h1 ⊢
        have : Str.length " " = 1 := rfl
        rw [this]
        omega
end
end My
end

section
set_option Elab.async false
set_option linter.all false
set_option maxRecDepth 100000
set_option maxHeartbeats 4000000
/-! OC: the desk: lines that lead. -/
namespace My
open PySem PySem.Spec PyProof.Rows L2 He LamX SX
local macro_rules | `(tactic| walk_at "rd") => `(tactic| repeat (with_reducible first
  | refine r_seq ?_ | refine r_asg ?_ | refine r_var (by with_unfolding_all rfl) ?_ | refine r_c ?_ | refine r_op ?_ | refine r_I0 ?_ | refine r_name ?_ | refine r_ret ?_ | refine r_if ?_ | refine r_cons ?_ | refine r_nil ?_
  | refine r_CB ?_ | refine r_call ?_ | refine r_test ?_ | refine r_eqI ?_ | refine r_eqS ?_ | refine r_neI ?_ | refine r_neS ?_ | refine r_drop ?_ | refine r_next ?_ | refine r_ifE ?_ | refine r_B ?_ | refine r_andV ?_ | refine r_orV ?_ | refine r_notV ?_ | refine r_blV ?_
  | refine r_and ?_ | refine r_or ?_ | refine r_not ?_ | refine r_tup ?_ | refine r_lst ?_ | refine r_par ?_ | refine r_exv2 ?_ | refine r_un ?_ | refine r_neg ?_ | refine r_isN ?_ | refine r_notN ?_ | refine r_retN ?_ | refine r_chain ?_
  | refine r_star ?_ | refine r_lstRg ?_ | refine r_rg1 ?_ | refine r_rg2 ?_ | refine r_exi ?_ | refine r_exi2 ?_ | refine r_sl ?_ | refine r_noPart ?_ | refine r_part ?_ | refine r_gnil ?_ | refine r_gcons ?_ | refine r_gsub ?_ | refine r_BM ?_ | refine r_M1 ?_ | refine r_isstr ?_ | refine r_meth ?_ | refine r_make ?_ | refine r_fld ?_ | refine r_abs ?_ | refine r_isiIntInt ?_ | refine r_isiIntBool ?_ | refine r_isiStr ?_ | refine r_min ?_ | refine r_max ?_ | refine r_int1 ?_ | refine r_intb ?_ | refine r_for ?_ | refine r_itup ?_ | refine r_ilist ?_ | refine r_lc ?_ | refine r_yes ?_ | refine r_istr ?_ | refine r_rng1 ?_ | refine r_rng2 ?_ | refine r_dput ?_ | refine r_daug ?_ | refine r_dget ?_ | refine r_dnewT ?_ | refine r_addI ?_ | refine r_ev ?_ | refine r_sfld ?_ | refine r_faug ?_ | refine r_prop ?_ | refine r_while ?_ | refine r_augS ?_ | refine r_tupF ?_ | refine r_idxT ?_ | refine r_kd ?_ | refine r_ki ?_ | refine r_enum ?_))

local macro_rules | `(tactic| walk_at "rn") => `(tactic| repeat (with_reducible first
  | refine r_seq ?_ | refine r_asg ?_ | refine r_var (by with_unfolding_all rfl) ?_ | refine r_c ?_ | refine r_op ?_ | refine r_I0 ?_ | refine r_name ?_ | refine r_ret ?_ | refine r_cons ?_ | refine r_nil ?_
  | refine r_CB ?_ | refine r_call ?_ | refine r_test ?_ | refine r_eqI ?_ | refine r_eqS ?_ | refine r_neI ?_ | refine r_neS ?_ | refine r_drop ?_ | refine r_next ?_ | refine r_B ?_ | refine r_andV ?_ | refine r_orV ?_ | refine r_notV ?_ | refine r_blV ?_
  | refine r_and ?_ | refine r_or ?_ | refine r_not ?_ | refine r_tup ?_ | refine r_lst ?_ | refine r_par ?_ | refine r_exv2 ?_ | refine r_un ?_ | refine r_neg ?_ | refine r_isN ?_ | refine r_notN ?_ | refine r_retN ?_ | refine r_chain ?_
  | refine r_star ?_ | refine r_lstRg ?_ | refine r_rg1 ?_ | refine r_rg2 ?_ | refine r_exi ?_ | refine r_exi2 ?_ | refine r_sl ?_ | refine r_noPart ?_ | refine r_part ?_ | refine r_gnil ?_ | refine r_gcons ?_ | refine r_gsub ?_ | refine r_BM ?_ | refine r_M1 ?_ | refine r_isstr ?_ | refine r_meth ?_ | refine r_make ?_ | refine r_fld ?_ | refine r_abs ?_ | refine r_isiIntInt ?_ | refine r_isiIntBool ?_ | refine r_isiStr ?_ | refine r_min ?_ | refine r_max ?_ | refine r_int1 ?_ | refine r_intb ?_ | refine r_for ?_ | refine r_itup ?_ | refine r_ilist ?_ | refine r_lc ?_ | refine r_yes ?_ | refine r_istr ?_ | refine r_rng1 ?_ | refine r_rng2 ?_ | refine r_dput ?_ | refine r_daug ?_ | refine r_dget ?_ | refine r_dnewT ?_ | refine r_addI ?_ | refine r_ev ?_ | refine r_sfld ?_ | refine r_faug ?_ | refine r_prop ?_ | refine r_while ?_ | refine r_augS ?_ | refine r_tupF ?_ | refine r_idxT ?_ | refine r_kd ?_ | refine r_ki ?_ | refine r_enum ?_))

local macro_rules | `(tactic| walk_at "hp") => `(tactic| (with_reducible first
  | assumption | exact New.at (by assumption)
  | exact SqT.of (by walk_at "hp") | exact SqL.of (by walk_at "hp") | exact Or.inl (by walk_at "hp") | exact Or.inr (by walk_at "hp")
  | exact New.get (by assumption) (by walk_at "hp") | exact Same.get (by assumption) (by walk_at "hp")))


/-! ### a method call whose exceptions are wished at the slots -/
section
variable {X : Cx} {k j : Nat} {C : Addr} {m : Str} {sp : Sp} {E : St → XK} {pos apos : Pos} {e o : Expr} {es : List Expr} {ta : TE} {t : TA}
def tMethS (C : Addr) (m : Str) (sp : Sp) (E : St → XK) (ta : TE) (t : TA) : TE := fun σ H Q => ta σ H fun x H1 => ∃ a dx fs, x = .ref a ∧ H1 a = some (.ins C dx fs) ∧ fs.lookup m = none ∧ t σ H1 fun vs H2 => sp (x :: vs) H2 Q (E σ)
theorem r_methS {σ : St} {H : Hp} {Q : VK} (h : ta σ H fun x H1 => ∃ a dx fs, x = .ref a ∧ H1 a = some (.ins C dx fs) ∧ fs.lookup m = none ∧ t σ H1 fun vs H2 => sp (x :: vs) H2 Q (E σ)) : tMethS C m sp E ta t σ H Q := h
theorem pe_mtS {pl : Sem Bool} (c : MetE X.prog X.w X.K X.mg X.base k C m sp) (hr : Room j X.A) (hk : k ≤ j) (hx : ∀ σ, PassesAt (L2.CX X.prog X.w) X σ (E σ)) (he : PE X o ta) (ha : PA X (e :: es) t)
    (hst : starEach (e :: es) X.env = (false, eval e X.env) :: starEach es X.env := by rfl) (hpl : (backTo pos (starEach es X.env)).any (·.1) = false := by rfl)
    (ht : eval (.Call (.Attribute o m apos) (e :: es) [] pos) X.env = (do
      let ov ← eval o X.env
      standAt apos.atName
      let (f, first) ← holding [ov] (getMethod ov m pl)
      callWith pos f first (backTo pos (starEach (e :: es) X.env)) (backToKw pos (keywordEach [] X.env))) := by rfl) :
    PE X (.Call (.Attribute o m apos) (e :: es) [] pos) (tMethS C m sp E ta t) := by
  obtain ⟨f, fd, ps, hc, hm, F, b⟩ := c.ex
  refine ⟨fun pins s σ H Q I h => ?_⟩
  refine PySem.W.methodCall_KW (pl := pl) (thn (he.run pins s σ H _ I h) fun u s1 ⟨x, H1, I1, rx, a, dx, fs, ex, ea, l, q⟩ => ?_) ht
  subst ex
  obtain rfl : u = Value.ref a := rx
  refine getmeth_ok I1 ea hc hm l ?_
  refine PySem.W.callWith_K (first := [.ref a]) (h₀ := X.base) I.ok.mod.kin hm.kp (thn (ha.run pos pins s1 σ H1 _ I1 q) fun us s2 ⟨vs, H2, I2, r, q2⟩ => ⟨I2.kIn, ?_⟩) hst hpl
  exact run_fnS (us := .ref a :: us) (vs := .ref a :: vs) F (hr.mono hk) b (hx σ) I2 (.cons rfl r) q2
end
theorem PostT.pre {K : PySem.W.Frag} {X : List Addr} {f dx : Addr} {m0 : Nat} {r : Option Kd × List Fr} {H H2 : Hp} {Q : VK} {E : XK} (s : Same H H2) (h : PostT K X f dx m0 r H Q E) : PostT K X f dx m0 r H2 Q E := by
  obtain ⟨a, gs⟩ := r
  cases a with
  | none => exact fun H' sb hf => h H' (fun b u hb hu => sb b u hb (s b u hu)) hf
  | some kd => exact fun d H' s2 => h d H' (s.trans s2)
theorem letC_up {c : Nat} (h1 : 97 ≤ c) (h2 : c ≤ 100) : c = letC ((c : Int) - 96) ∧ 1 ≤ ((c : Int) - 96).natAbs ∧ ((c : Int) - 96).natAbs < 5 := by
  have h : c = 97 ∨ c = 98 ∨ c = 99 ∨ c = 100 := by omega
  rcases h with rfl | rfl | rfl | rfl <;> decide
section
variable {w : World} {K : PySem.W.Frag} {mg : Str → Option Value} {base : Heap}
theorem si_leave {y : Nat} (h1 : 97 ≤ y) (h2 : y ≤ 122) {H : Hp} {Q : VK} {E : XK} (k : ∀ v H2, Same H H2 → Q v H2) : sp_stepsIn [.str (S [y])] H Q E := by
  refine ⟨y, rfl, ?_⟩
  by_cases hy : y ≤ 100
  · exact .inl ⟨(y : Int) - 96, (letC_up h1 hy).1, (letC_up h1 hy).2.1, (letC_up h1 hy).2.2, fun p H' s _ => k _ H' s⟩
  · exact .inr ⟨by omega, h2, fun H' s => k _ H' s⟩
def sp_ansOne (K : PySem.W.Frag) : Sp := fun vs H Q E => ∃ (X : List Addr) (t f dx : Addr) (m0 N : Nat) (fr : Fr) (fs : List Fr) (z : Str) (y : Nat), vs = [.ref t, .str z, .str (S [y])] ∧ DkAt K X H t f dx m0 (fr :: fs) ∧ (∀ g ∈ fr :: fs, Wf N g) ∧ N ≤ 99 ∧
  ((∃ x : Int, z = "step" ∧ y = letC x ∧ 1 ≤ x.natAbs ∧ x.natAbs < 5 ∧ PostT K X f dx m0 (actF (fr :: fs) (.step x)) H Q E) ∨ (z = "leave" ∧ 97 ≤ y ∧ y ≤ 122 ∧ PostT K X f dx m0 (actF (fr :: fs) (.leave y)) H Q E))
theorem e_Desk_answer_to_one (T : Tx w K mg base) : MetE P0 w K mg base 10 (ga K "Desk") "answer_to_one" (sp_ansOne K) := by
  obtain ⟨fd, F⟩ := f_Desk_answer_to_one T
  refine metE_of (cl_Desk T) (me_Desk_answer_to_one T) F (fun _ _ _ _ _ _ us hl => match us, hl with | [_, _, _], _ => rfl) sc_Desk_answer_to_one (fun vs H Q E h => by obtain ⟨_, _, _, _, _, _, _, _, _, _, rfl, _⟩ := h; rfl) (fun cdv A outer s H vs Q E hr h => ?_)
  obtain ⟨X, t, f, dx, m0, N, fr, fs, z, y, rfl, hd, W, hN, h⟩ := h
  refine ⟨_, (pss_cons (ps_par rfl sc_Desk_answer_to_one.nd (i := 3) (j := 4) rfl rfl (by decide) rfl rfl (pa_cons (peFld (K := K) (pv 0)) (pa_cons (C8.pe_c (c_steps_in (K := K) T) hr (by decide) rfl (pa_cons (pv 2) pa_nil)) pa_nil)) rfl)
  (pss_cons (ps_if (PW.pt (pw_and (pt_cmpR op_eq (pv 1) pe_str (nomark _)) (pw_and (pt_cmpR op_eq (pe_callB callLenStr rfl (b_len T) bb_len (pa_cons (pv 2) pa_nil)) pe_int (nomark _)) (pw_and (pt_cmpR op_notN1 (pv 4) pe_non (nomark _)) (pw_and1 (pt_cmpR (opNeD (K := K) hr.units) (pv 4) (pe_tup pa_nil) (nomark _))))))) (pss_cons (ps_expr (pe_mtE (e_Floor_step (K := K) T) hr (by decide) (passes_call (takes_of rfl rfl rfl rfl) (fun _ _ _ _ h => h)) (pv 3) (pa_cons (pe_ix (ixT (K := K)) (pv 4) pe_int (fun _ _ => rfl)) pa_nil)))
  (pss_one (ps_ret (pe_op opAddS pe_str (C8.pe_mt0 (c_Desk_now (K := K) T) hr (by decide) (pv 0)))))) pss_nil)
  (pss_cons (ps_if (PW.pt (pw_and (pt_cmpR op_eq (pv 1) pe_str (nomark _)) (pw_and1 (pt_val (C8.pe_c (c_is_name (K := K) T) hr (by decide) rfl (pa_cons (pv 2) pa_nil)))))) (pss_cons (ps_expr (pe_mtE (e_Floor_leave (K := K) T) hr (by decide) (passes_call (takes_of rfl rfl rfl rfl) (fun _ _ _ _ h => h)) (pv 3) (pa_cons (pv 2) pa_nil)))
  (pss_one (ps_ret (pe_op opAddS pe_str (C8.pe_mt0 (c_Desk_now (K := K) T) hr (by decide) (pv 0)))))) pss_nil)
  (pss_cons (ps_if (PW.pt (pw_and (pt_cmpR op_eq (pv 1) pe_str (nomark _)) (pw_and1 (pt_cmpR op_notN1 (pv 4) pe_non (nomark _))))) (pss_one (ps_ret peNever)) pss_nil)
  (pss_one (ps_ret pe_non)))))), ?_⟩
  obtain ⟨dy, ht⟩ := hd.at_
  have W0 := W fr List.mem_cons_self
  walk_at "rd"
  refine r_fl ht (cl_Desk T) (na_Desk_desk_floor T) ?_
  walk_at "rd"
  rcases h with ⟨x, rfl, rfl, h1, h2, h⟩ | ⟨rfl, h1, h2, h⟩
  · refine ⟨_, rfl, .inl ⟨x, rfl, h1, h2, fun p H2 s2 e2 => ?_⟩⟩
    have hd2 := hd.same s2
    obtain ⟨dy2, ht2⟩ := hd2.at_
    obtain ⟨a, dx', n, d, e, l, bf, g1, g2, g3, g4⟩ := r_stOf hd2.fl
    walk_at "rd"
    rw [decide_eq_true (rfl : ("step" : Str) = "step")]
    refine iteT ?_
    walk_at "rd"
    refine r_lenS (by rw [S_len, sizeLine_eq]; simp) ?_
    walk_at "rd"
    rw [S_len]
    refine iteT ?_
    walk_at "rd"
    refine iteT ?_
    walk_at "rd"
    refine ⟨(sz1000 (Nat.le_of_ble_eq_true rfl)), ?_⟩
    (intro p3 hl_; generalize he_ : upd _ p3 _ = H3; have n3 := New.mk hl_ he_.symm; clear hl_ he_)
    walk_at "rd"
    refine r_neTI (l := [x]) (m := []) (n3.get e2) n3.at ?_
    walk_at "rd"
    refine iteT ?_
    walk_at "rd"
    refine r_me (n3.get g1) ?_
    walk_at "rd"
    refine r_ixT (SqT.of (n3.get e2)) rfl ?_
    walk_at "rd"
    refine ⟨X, f, dx, m0, N, fr, fs, x, rfl, hd2.fl.same n3.same, W0, by omega, postTD ((h.pre s2).pre n3.same) fun H' sb hf' hk => ?_⟩
    have hd3 := (hd2.same n3.same).but sb hf'
    walk_at "rd"
    obtain ⟨dy', ht'⟩ := hd3.at_
    refine r_me ht' ?_
    walk_at "rd"
    exact okNow (N := N + 1) hd3 (act_ne (List.cons_ne_nil _ _)) (act_wf (q := .step x) W trivial) hk
  · refine si_leave h1 h2 fun v H2 s2 => ?_
    have hd2 := hd.same s2
    obtain ⟨dy2, ht2⟩ := hd2.at_
    obtain ⟨a, dx', n, d, e, l, bf, g1, g2, g3, g4⟩ := r_stOf hd2.fl
    walk_at "rd"
    rw [show decide (("leave" : Str) = "step") = false from by decide]
    refine iteF ?_
    refine iteF ?_
    walk_at "rd"
    rw [show decide (("leave" : Str) = "leave") = true from by decide]
    refine iteT ?_
    walk_at "rd"
    refine ⟨y, rfl, h1, h2, ?_⟩
    walk_at "rd"
    refine iteT ?_
    walk_at "rd"
    refine r_me g1 ?_
    walk_at "rd"
    refine ⟨X, f, dx, m0, N, fr, fs, y, rfl, hd2.fl, W0, by omega, postTD (h.pre s2) fun H' sb hf' hk => ?_⟩
    have hd3 := hd2.but sb hf'
    walk_at "rd"
    obtain ⟨dy', ht'⟩ := hd3.at_
    refine r_me ht' ?_
    walk_at "rd"
    exact okNow (N := N + 1) hd3 (act_ne (List.cons_ne_nil _ _)) (act_wf (q := .leave y) W ⟨h1, h2⟩) hk
/-! ### a line in words -/
def sp_ansTo (K : PySem.W.Frag) : Sp := fun vs H Q E => ∃ (X : List Addr) (t f dx : Addr) (m0 N : Nat) (fr : Fr) (fs : List Fr) (z : Str) (l : Addr) (ws : List Str), vs = [.ref t, .str z, .ref l] ∧ H l = some (.lst (ws.map V.str)) ∧ DkAt K X H t f dx m0 (fr :: fs) ∧ (∀ g ∈ fr :: fs, Wf N g) ∧ N ≤ 99 ∧
  ((ws = [] ∧ ((z = "undo" ∧ PostT K X f dx m0 (actF (fr :: fs) .undo) H Q E) ∨ ∃ k : Ask, z = askW k ∧ ∀ H', Same H H' → Q (.str (askA fr k)) H')) ∨
   (∃ x : Int, z = "step" ∧ ws = [S [letC x]] ∧ 1 ≤ x.natAbs ∧ x.natAbs < 5 ∧ PostT K X f dx m0 (actF (fr :: fs) (.step x)) H Q E) ∨
   (∃ y : Nat, z = "leave" ∧ ws = [S [y]] ∧ 97 ≤ y ∧ y ≤ 122 ∧ PostT K X f dx m0 (actF (fr :: fs) (.leave y)) H Q E) ∨
   (∃ y : Nat, z = "join" ∧ ws = [("left" : Str), S [y]] ∧ 97 ≤ y ∧ y ≤ 122 ∧ PostT K X f dx m0 (actF (fr :: fs) (.join 0 y)) H Q E) ∨
   (∃ y : Nat, z = "join" ∧ ws = [("right" : Str), S [y]] ∧ 97 ≤ y ∧ y ≤ 122 ∧ PostT K X f dx m0 (actF (fr :: fs) (.join fr.names.length y)) H Q E))
theorem ok_one {y : Nat} (h : y ≤ 122) : ∀ x ∈ [S [y]], PyData.strOk x = true := fun x hx => by rw [List.mem_singleton.mp hx]; exact ok_let h
theorem ok_two {a : Str} {y : Nat} (ha : PyData.strOk a = true) (h : y ≤ 122) : ∀ x ∈ [a, S [y]], PyData.strOk x = true := fun x hx => by
  rcases List.mem_cons.mp hx with rfl | hx
  · exact ha
  · exact ok_one h x hx
theorem r_eqLS {a b : Addr} {H : Hp} {Q : VK} {l m : List Str} (ha : H a = some (.lst (l.map V.str))) (hb : H b = some (.lst (m.map V.str))) (o1 : ∀ x ∈ l, PyData.strOk x = true) (o2 : ∀ x ∈ m, PyData.strOk x = true) (h : Q (.bl (decide (l = m))) H) : rEqD K (.ref a) (.ref b) H Q :=
  r_eqG (Dp.lstS ha) (Dp.lstS hb) (PlD.list (n := 63) (.strs o1)) (PlD.list (n := 63) (.strs o2)) lstS_iff h
theorem letC_le {x : Int} (h1 : 1 ≤ x.natAbs) (h2 : x.natAbs < 5) : letC x ≤ 122 := by unfold letC; split <;> omega
theorem e_Desk_answer_to (T : Tx w K mg base) : MetE P0 w K mg base 11 (ga K "Desk") "answer_to" (sp_ansTo K) := by
  obtain ⟨fd, F⟩ := f_Desk_answer_to T
  refine metE_of (cl_Desk T) (me_Desk_answer_to T) F (fun _ _ _ _ _ _ us hl => match us, hl with | [_, _, _], _ => rfl) sc_Desk_answer_to (fun vs H Q E h => by obtain ⟨_, _, _, _, _, _, _, _, _, _, _, rfl, _⟩ := h; rfl) (fun cdv A outer s H vs Q E hr h => ?_)
  obtain ⟨X, t, f, dx, m0, N, fr, fs, z, l, ws, rfl, hl, hd, W, hN, h⟩ := h
  refine ⟨_, (pss_cons (ps_if (pt_cmpR (opEqD (K := K) hr.units) (pv 2) (pe_lst pa_nil) (nomark _)) (pss_one (ps_ret (pe_mtE (e_Desk_answer_alone (K := K) T) hr (by decide) (passes_call (takes_of rfl rfl rfl rfl) (fun _ _ _ _ h => h)) (pv 0) (pa_cons (pv 1) pa_nil)))) pss_nil)
  (pss_cons (ps_if (pt_cmpR op_eq (pe_callB (callLen (K := K)) rfl (b_len T) bb_len (pa_cons (pv 2) pa_nil)) pe_int (nomark _)) (pss_one (ps_ret (pe_mtE (e_Desk_answer_to_one (K := K) T) hr (by decide) (passes_call (takes_of rfl rfl rfl rfl) (fun _ _ _ _ h => h)) (pv 0) (pa_cons (pv 1) (pa_cons (pe_ix (ixL (K := K)) (pv 2) pe_int (fun _ _ => rfl)) pa_nil))))) pss_nil)
  (pss_cons (ps_if (PW.pt (pw_or (pt_cmpR op_ne (pe_callB (callLen (K := K)) rfl (b_len T) bb_len (pa_cons (pv 2) pa_nil)) pe_int (nomark _)) (pw_or1 (pt_not (pt_val (C8.pe_c (c_is_name (K := K) T) hr (by decide) rfl (pa_cons (pe_ix (ixL (K := K)) (pv 2) pe_int (fun _ _ => rfl)) pa_nil))))))) (pss_one (ps_ret pe_non)) pss_nil)
  (pss_cons (ps_if (PW.pt (pw_and (pt_cmpR op_eq (pv 1) pe_str (nomark _)) (pw_and1 (pt_cmpR (opIn (K := K)) (pe_ix (ixL (K := K)) (pv 2) pe_int (fun _ _ => rfl)) (pe_tup (pa_cons pe_str (pa_cons pe_str pa_nil))) (by rfl))))) (pss_cons (ps_expr (pe_mtE (e_Floor_join (K := K) T) hr (by decide) (passes_call (takes_of rfl rfl rfl rfl) (fun _ _ _ _ h => h)) (peFld (K := K) (pv 0)) (pa_cons (pe_ifExp (pt_cmpR op_eq (pe_ix (ixL (K := K)) (pv 2) pe_int (fun _ _ => rfl)) pe_str (nomark _)) pe_int (pe_pr (p_Floor_many (K := K) T) hr (by decide) (peFld (K := K) (pv 0)) rfl)) (pa_cons (pe_ix (ixL (K := K)) (pv 2) pe_int (fun _ _ => rfl)) pa_nil))))
  (pss_one (ps_ret (pe_op opAddS pe_str (C8.pe_mt0 (c_Desk_now (K := K) T) hr (by decide) (pv 0)))))) pss_nil)
  (pss_cons (ps_if (PW.pt (pw_or (pt_cmpR op_ne (pv 1) pe_str (nomark _)) (pw_or1 (pt_not (pt_val (C8.pe_c (c_is_name (K := K) T) hr (by decide) rfl (pa_cons (pe_ix (ixL (K := K)) (pv 2) pe_int (fun _ _ => rfl)) pa_nil))))))) (pss_one (ps_ret pe_non)) pss_nil)
  (pss_one (ps_ret (pe_callTy callStrI rfl (b_str T) bb_str (pa_cons (C8.pe_mt (c_Floor_lead (K := K) T) hr (by decide) (peFld (K := K) (pv 0)) (pa_cons (pe_ix (ixL (K := K)) (pv 2) pe_int (fun _ _ => rfl)) (pa_cons (pe_ix (ixL (K := K)) (pv 2) pe_int (fun _ _ => rfl)) pa_nil))) pa_nil))))))))), ?_⟩
  obtain ⟨dy, ht⟩ := hd.at_
  have W0 := W fr List.mem_cons_self
  have okw : ∀ x ∈ ws, PyData.strOk x = true := by
    rcases h with ⟨rfl, _⟩ | ⟨x, _, rfl, h1, h2, _⟩ | ⟨y, _, rfl, h1, h2, _⟩ | ⟨y, _, rfl, h1, h2, _⟩ | ⟨y, _, rfl, h1, h2, _⟩
    · exact fun x hx => nomatch hx
    · exact ok_one (letC_le h1 h2)
    · exact ok_one h2
    · exact ok_two (by decide +kernel) h2
    · exact ok_two (by decide +kernel) h2
  walk_at "rd"
  refine ⟨(sz1000 (Nat.le_of_ble_eq_true rfl)), ?_⟩
  (intro p3 hl_; generalize he_ : upd _ p3 _ = H3; have n3 := New.mk hl_ he_.symm; clear hl_ he_)
  walk_at "rd"
  refine r_eqLS (l := ws) (m := []) (n3.get hl) n3.at okw (fun x hx => nomatch hx) ?_
  have hd3 := hd.same n3.same
  obtain ⟨dy3, ht3⟩ := hd3.at_
  obtain ⟨a, dx', n, d, e, l0, bf, g1, g2, g3, g4⟩ := r_stOf hd3.fl
  walk_at "rd"
  refine ifD (fun hw => ?_) (fun hw => ?_)
  · subst hw
    rcases h with ⟨_, h⟩ | ⟨x, _, h, _⟩ | ⟨x, _, h, _⟩ | ⟨x, _, h, _⟩ | ⟨x, _, h, _⟩
    rotate_left
    · cases h
    · cases h
    · cases h
    · cases h
    walk_at "rd"
    refine r_me ht3 ?_
    walk_at "rd"
    refine ⟨X, t, f, dx, m0, N, fr, fs, z, rfl, hd3, W, hN, ?_⟩
    rcases h with ⟨e1, h⟩ | ⟨k, e1, h⟩
    · exact .inl ⟨e1, h.pre n3.same⟩
    · exact .inr ⟨k, e1, fun H' s => h H' (n3.same.trans s)⟩
  · walk_at "rd"
    refine r_lenL (SqL.of (n3.get hl)) ?_
    walk_at "rd"
    rcases h with ⟨h, _⟩ | ⟨x, rfl, rfl, h1, h2, h⟩ | ⟨y, rfl, rfl, h1, h2, h⟩ | ⟨y, rfl, rfl, h1, h2, h⟩ | ⟨y, rfl, rfl, h1, h2, h⟩
    · exact absurd h hw
    · refine ifD (fun _ => ?_) (fun h => absurd rfl h)
      walk_at "rd"
      refine r_me ht3 ?_
      walk_at "rd"
      refine r_ixL (SqL.of (n3.get hl)) rfl ?_
      walk_at "rd"
      exact ⟨X, t, f, dx, m0, N, fr, fs, _, _, rfl, hd3, W, hN, .inl ⟨x, rfl, rfl, h1, h2, h.pre n3.same⟩⟩
    · refine ifD (fun _ => ?_) (fun h => absurd rfl h)
      walk_at "rd"
      refine r_me ht3 ?_
      walk_at "rd"
      refine r_ixL (SqL.of (n3.get hl)) rfl ?_
      walk_at "rd"
      exact ⟨X, t, f, dx, m0, N, fr, fs, _, _, rfl, hd3, W, hN, .inr ⟨rfl, h1, h2, h.pre n3.same⟩⟩
    all_goals
      refine ifD (fun h => absurd h (by simp)) (fun _ => ?_)
      walk_at "rd"
      refine r_lenL (SqL.of (n3.get hl)) ?_
      walk_at "rd"
      refine iteF ?_
      walk_at "rd"
      refine r_ixL (SqL.of (n3.get hl)) rfl ?_
      walk_at "rd"
      refine ⟨y, rfl, h1, h2, ?_⟩
      walk_at "rd"
      refine iteF ?_
      walk_at "rd"
      rw [show decide (("join" : Str) = "join") = true from by decide]
      refine iteT ?_
      walk_at "rd"
      refine r_ixL (SqL.of (n3.get hl)) rfl ?_
      walk_at "rd"
      refine ⟨(sz1000 (Nat.le_of_ble_eq_true rfl)), ?_⟩
      (intro p4 hl_; generalize he_ : upd _ p4 _ = H4; have n4 := New.mk hl_ he_.symm; clear hl_ he_)
      walk_at "rd"
      refine r_inSt (l := [("left" : Str), ("right" : Str)]) (SqT.of n4.at) ?_
      walk_at "rd"
    · refine iteT ?_
      walk_at "rd"
      refine r_fl (n4.get ht3) (cl_Desk T) (na_Desk_desk_floor T) ?_
      refine r_me (n4.get g1) ?_
      walk_at "rd"
      refine r_ixL (SqL.of (n4.get (n3.get hl))) rfl ?_
      walk_at "rd"
      refine iteT ?_
      walk_at "rd"
      refine r_ixL (SqL.of (n4.get (n3.get hl))) rfl ?_
      walk_at "rd"
      refine ⟨X, f, dx, m0, N, fr, fs, 0, y, rfl, h1, h2, hd3.fl.same n4.same, W0, by omega, postTD ((h.pre n3.same).pre n4.same) fun H' sb hf' hk => ?_⟩
      have hd5 := (hd3.same n4.same).but sb hf'
      walk_at "rd"
      obtain ⟨dy', ht'⟩ := hd5.at_
      refine r_me ht' ?_
      walk_at "rd"
      exact okNow (N := N + 1) hd5 (act_ne (List.cons_ne_nil _ _)) (act_wf (q := .join 0 y) W ⟨h1, h2⟩) hk
    · refine iteT ?_
      walk_at "rd"
      refine r_fl (n4.get ht3) (cl_Desk T) (na_Desk_desk_floor T) ?_
      refine r_me (n4.get g1) ?_
      walk_at "rd"
      refine r_ixL (SqL.of (n4.get (n3.get hl))) rfl ?_
      walk_at "rd"
      refine iteF ?_
      walk_at "rd"
      refine r_fl (n4.get ht3) (cl_Desk T) (na_Desk_desk_floor T) ?_
      refine r_pr (n4.get g1) ?_
      refine ⟨X, f, dx, m0, fr, fs, rfl, hd3.fl.same n4.same, ?_⟩
      walk_at "rd"
      refine r_ixL (SqL.of (n4.get (n3.get hl))) rfl ?_
      walk_at "rd"
      refine ⟨X, f, dx, m0, N, fr, fs, fr.names.length, y, rfl, h1, h2, hd3.fl.same n4.same, W0, by omega, postTD ((h.pre n3.same).pre n4.same) fun H' sb hf' hk => ?_⟩
      have hd5 := (hd3.same n4.same).but sb hf'
      walk_at "rd"
      obtain ⟨dy', ht'⟩ := hd5.at_
      refine r_me ht' ?_
      walk_at "rd"
      exact okNow (N := N + 1) hd5 (act_ne (List.cons_ne_nil _ _)) (act_wf (q := .join fr.names.length y) W ⟨h1, h2⟩) hk
end
end My
end

section
set_option Elab.async false
set_option linter.all false
set_option maxRecDepth 100000
set_option maxHeartbeats 4000000
/-! OD: the desk is told a line. -/
namespace My
open PySem PySem.Spec PyProof.Rows L2 He LamX SX
local macro_rules | `(tactic| walk_at "rd") => `(tactic| repeat (with_reducible first
  | refine r_seq ?_ | refine r_asg ?_ | refine r_var (by with_unfolding_all rfl) ?_ | refine r_c ?_ | refine r_op ?_ | refine r_I0 ?_ | refine r_name ?_ | refine r_ret ?_ | refine r_if ?_ | refine r_cons ?_ | refine r_nil ?_
  | refine r_CB ?_ | refine r_call ?_ | refine r_test ?_ | refine r_eqI ?_ | refine r_eqS ?_ | refine r_neI ?_ | refine r_neS ?_ | refine r_drop ?_ | refine r_next ?_ | refine r_ifE ?_ | refine r_B ?_ | refine r_andV ?_ | refine r_orV ?_ | refine r_notV ?_ | refine r_blV ?_
  | refine r_and ?_ | refine r_or ?_ | refine r_not ?_ | refine r_tup ?_ | refine r_lst ?_ | refine r_par ?_ | refine r_exv2 ?_ | refine r_un ?_ | refine r_neg ?_ | refine r_isN ?_ | refine r_notN ?_ | refine r_retN ?_ | refine r_chain ?_
  | refine r_star ?_ | refine r_lstRg ?_ | refine r_rg1 ?_ | refine r_rg2 ?_ | refine r_exi ?_ | refine r_exi2 ?_ | refine r_sl ?_ | refine r_noPart ?_ | refine r_part ?_ | refine r_gnil ?_ | refine r_gcons ?_ | refine r_gsub ?_ | refine r_BM ?_ | refine r_M1 ?_ | refine r_isstr ?_ | refine r_meth ?_ | refine r_make ?_ | refine r_fld ?_ | refine r_abs ?_ | refine r_isiIntInt ?_ | refine r_isiIntBool ?_ | refine r_isiStr ?_ | refine r_min ?_ | refine r_max ?_ | refine r_int1 ?_ | refine r_intb ?_ | refine r_for ?_ | refine r_itup ?_ | refine r_ilist ?_ | refine r_lc ?_ | refine r_yes ?_ | refine r_istr ?_ | refine r_rng1 ?_ | refine r_rng2 ?_ | refine r_dput ?_ | refine r_daug ?_ | refine r_dget ?_ | refine r_dnewT ?_ | refine r_addI ?_ | refine r_ev ?_ | refine r_sfld ?_ | refine r_faug ?_ | refine r_prop ?_ | refine r_while ?_ | refine r_augS ?_ | refine r_tupF ?_ | refine r_idxT ?_ | refine r_kd ?_ | refine r_ki ?_ | refine r_enum ?_))

local macro_rules | `(tactic| walk_at "rn") => `(tactic| repeat (with_reducible first
  | refine r_seq ?_ | refine r_asg ?_ | refine r_var (by with_unfolding_all rfl) ?_ | refine r_c ?_ | refine r_op ?_ | refine r_I0 ?_ | refine r_name ?_ | refine r_ret ?_ | refine r_cons ?_ | refine r_nil ?_
  | refine r_CB ?_ | refine r_call ?_ | refine r_test ?_ | refine r_eqI ?_ | refine r_eqS ?_ | refine r_neI ?_ | refine r_neS ?_ | refine r_drop ?_ | refine r_next ?_ | refine r_B ?_ | refine r_andV ?_ | refine r_orV ?_ | refine r_notV ?_ | refine r_blV ?_
  | refine r_and ?_ | refine r_or ?_ | refine r_not ?_ | refine r_tup ?_ | refine r_lst ?_ | refine r_par ?_ | refine r_exv2 ?_ | refine r_un ?_ | refine r_neg ?_ | refine r_isN ?_ | refine r_notN ?_ | refine r_retN ?_ | refine r_chain ?_
  | refine r_star ?_ | refine r_lstRg ?_ | refine r_rg1 ?_ | refine r_rg2 ?_ | refine r_exi ?_ | refine r_exi2 ?_ | refine r_sl ?_ | refine r_noPart ?_ | refine r_part ?_ | refine r_gnil ?_ | refine r_gcons ?_ | refine r_gsub ?_ | refine r_BM ?_ | refine r_M1 ?_ | refine r_isstr ?_ | refine r_meth ?_ | refine r_make ?_ | refine r_fld ?_ | refine r_abs ?_ | refine r_isiIntInt ?_ | refine r_isiIntBool ?_ | refine r_isiStr ?_ | refine r_min ?_ | refine r_max ?_ | refine r_int1 ?_ | refine r_intb ?_ | refine r_for ?_ | refine r_itup ?_ | refine r_ilist ?_ | refine r_lc ?_ | refine r_yes ?_ | refine r_istr ?_ | refine r_rng1 ?_ | refine r_rng2 ?_ | refine r_dput ?_ | refine r_daug ?_ | refine r_dget ?_ | refine r_dnewT ?_ | refine r_addI ?_ | refine r_ev ?_ | refine r_sfld ?_ | refine r_faug ?_ | refine r_prop ?_ | refine r_while ?_ | refine r_augS ?_ | refine r_tupF ?_ | refine r_idxT ?_ | refine r_kd ?_ | refine r_ki ?_ | refine r_enum ?_))

local macro_rules | `(tactic| walk_at "hp") => `(tactic| (with_reducible first
  | assumption | exact New.at (by assumption)
  | exact SqT.of (by walk_at "hp") | exact SqL.of (by walk_at "hp") | exact Or.inl (by walk_at "hp") | exact Or.inr (by walk_at "hp")
  | exact New.get (by assumption) (by walk_at "hp") | exact Same.get (by assumption) (by walk_at "hp")))


def lineW : Dd → Str
  | .step x => S [115, 116, 101, 112, 32, letC x]
  | .leave c => S [108, 101, 97, 118, 101, 32, c]
  | .join a c => if a = 0 then S [106, 111, 105, 110, 32, 108, 101, 102, 116, 32, c] else S [106, 111, 105, 110, 32, 114, 105, 103, 104, 116, 32, c]
  | .undo => S [117, 110, 100, 111]
def lineOk (fr : Fr) : Dd → Prop
  | .step x => 1 ≤ x.natAbs ∧ x.natAbs < 5
  | .leave c => 97 ≤ c ∧ c ≤ 122
  | .join a c => (a = 0 ∨ a = fr.names.length) ∧ 97 ≤ c ∧ c ≤ 122
  | .undo => True
def ansW (m0 : Nat) : Option Kd × List Fr → Str
  | (none, gs) => S (okS (headF m0 gs))
  | (some .step, _) => "error badstep"
  | (some .name, _) => "error badname"
  | (some .now, _) => "error notnow"
  | (some .nothing, _) => "error nothingdone"
  | (some .number, _) => ""
theorem spl_step {x : Int} (h1 : 1 ≤ x.natAbs) (h2 : x.natAbs < 5) : TL.spl [32] 0 [] [115, 116, 101, 112, 32, letC x] = [[115, 116, 101, 112], [letC x]] := by
  rcases c8 h1 h2 with rfl | rfl | rfl | rfl | rfl | rfl | rfl | rfl <;> decide
theorem spl_leave {c : Nat} (h1 : 97 ≤ c) (h2 : c ≤ 122) : TL.spl [32] 0 [] [108, 101, 97, 118, 101, 32, c] = [[108, 101, 97, 118, 101], [c]] := by
  have h : ∀ c : Fin 123, 97 ≤ c.val → TL.spl [32] 0 [] [108, 101, 97, 118, 101, 32, c.val] = [[108, 101, 97, 118, 101], [c.val]] := by decide +kernel
  exact h ⟨c, by omega⟩ h1
theorem spl_left {c : Nat} (h1 : 97 ≤ c) (h2 : c ≤ 122) : TL.spl [32] 0 [] [106, 111, 105, 110, 32, 108, 101, 102, 116, 32, c] = [[106, 111, 105, 110], [108, 101, 102, 116], [c]] := by
  have h : ∀ c : Fin 123, 97 ≤ c.val → TL.spl [32] 0 [] [106, 111, 105, 110, 32, 108, 101, 102, 116, 32, c.val] = [[106, 111, 105, 110], [108, 101, 102, 116], [c.val]] := by decide +kernel
  exact h ⟨c, by omega⟩ h1
theorem spl_right {c : Nat} (h1 : 97 ≤ c) (h2 : c ≤ 122) : TL.spl [32] 0 [] [106, 111, 105, 110, 32, 114, 105, 103, 104, 116, 32, c] = [[106, 111, 105, 110], [114, 105, 103, 104, 116], [c]] := by
  have h : ∀ c : Fin 123, 97 ≤ c.val → TL.spl [32] 0 [] [106, 111, 105, 110, 32, 114, 105, 103, 104, 116, 32, c.val] = [[106, 111, 105, 110], [114, 105, 103, 104, 116], [c.val]] := by decide +kernel
  exact h ⟨c, by omega⟩ h1
theorem splitS {a : List Nat} {l : List (List Nat)} (h : TL.spl [32] 0 [] a = l) : Txt.split (S a) (" " : Str) = l.map S := by
  rw [show (" " : Str) = S [32] from rfl, split_S (by simp) (by decide), h]
theorem split_ask (k : Ask) : Txt.split (askW k) (" " : Str) = [askW k] := by
  cases k
  · exact splitS (a := [110, 97, 109, 101, 115]) (l := [[110, 97, 109, 101, 115]]) (by decide)
  · exact splitS (a := [100, 97, 110, 99, 101]) (l := [[100, 97, 110, 99, 101]]) (by decide)
  · exact splitS (a := [100, 101, 101, 100, 115]) (l := [[100, 101, 101, 100, 115]]) (by decide)
  · exact splitS (a := [115, 116, 114, 97, 105, 103, 104, 116]) (l := [[115, 116, 114, 97, 105, 103, 104, 116]]) (by decide)
  · exact splitS (a := [115, 105, 100, 101]) (l := [[115, 105, 100, 101]]) (by decide)
  · exact splitS (a := [110, 117, 109, 98, 101, 114, 115]) (l := [[110, 117, 109, 98, 101, 114, 115]]) (by decide)
theorem cutV1 (v : V) (xs : List V) : cutV (v :: xs) (some 1) none = xs := by
  unfold cutV HT.sIx
  simp
section
variable {w : World} {K : PySem.W.Frag} {mg : Str → Option Value} {base : Heap}
theorem act_num {fr : Fr} {fs : List Fr} {q : Dd} (h : lineOk fr q) : (actF (fr :: fs) q).1 ≠ some .number := by
  cases q with
  | step x => simp only [actF]; split <;> simp
  | leave c => simp only [actF]; repeat' split
               all_goals simp
  | undo => simp only [actF]; split <;> simp
  | join a c =>
    simp only [actF]
    rw [if_neg (fun e => e h.1)]
    repeat' split
    all_goals simp
theorem postTW {X : List Addr} {f dx : Addr} {m0 : Nat} {r : Option Kd × List Fr} {H : Hp} {Q Q0 : VK} {E : XK} (h : ∀ H', SameBut f H H' → FlAt K X H' f dx m0 r.2 → Q (.str (ansW m0 r)) H') (hn : r.1 ≠ some .number) (he : r.1 ≠ none → FlAt K X H f dx m0 r.2)
    (hQ : ∀ z' H', Q (.str z') H' → Q0 (.str z') H') (hE : ∀ kd d H', kd ≠ .number → Q (.str (ansW m0 (some kd, []))) H' → E (exV K kd) d H') : PostT K X f dx m0 r H Q0 E := by
  obtain ⟨a, gs⟩ := r
  cases a with
  | none => exact fun H' sb hf => hQ _ _ (h H' sb hf)
  | some kd =>
    intro d H' s _
    have h2 := h H' (SameBut.of s) ((he (by simp)).same s)
    have e : ansW m0 (some kd, gs) = ansW m0 (some kd, []) := by cases kd <;> rfl
    rw [e] at h2
    exact hE kd d H' (fun e => hn (by rw [e])) h2
def sp_say (K : PySem.W.Frag) : Sp := fun vs H Q _ => ∃ (X : List Addr) (t f dx : Addr) (m0 N : Nat) (fr : Fr) (fs : List Fr) (z : Str), vs = [.ref t, .str z] ∧ DkAt K X H t f dx m0 (fr :: fs) ∧ (∀ g ∈ fr :: fs, Wf N g) ∧ N ≤ 99 ∧
  ((∃ k : Ask, z = askW k ∧ ∀ H', Same H H' → Q (.str (askA fr k)) H') ∨
   (∃ q : Dd, z = lineW q ∧ lineOk fr q ∧ ∀ H', SameBut f H H' → FlAt K X H' f dx m0 (actF (fr :: fs) q).2 → Q (.str (ansW m0 (actF (fr :: fs) q))) H'))
theorem c_Desk_say (T : Tx w K mg base) : C8.Met P0 w K mg base 12 (ga K "Desk") "say" (sp_say K) [] := by
  obtain ⟨fd, F⟩ := f_Desk_say T
  refine met_of (cl_Desk T) (me_Desk_say T) F (fun _ _ _ _ _ _ us hl => match us, hl with | [_, _], _ => rfl) sc_Desk_say (fun vs H Q E h => by obtain ⟨_, _, _, _, _, _, _, _, _, rfl, _⟩ := h; rfl) (fun cdv A outer s H vs Q E hr h => ?_)
  obtain ⟨X, t, f, dx, m0, N, fr, fs, z, rfl, hd, W, hN, h⟩ := h
  refine ⟨_, (pss_cons (ps_if (pt_not (pt_val (pe_callB (callIsi (K := K)) rfl (b_isinstance T) bb_isinstance (pa_cons (pv 1) (pa_cons (pe_bltn (v := .ty "str") (by rfl) (b_str T) bb_str rfl) pa_nil))))) (pss_one (ps_ret (C8.pe_gc rfl (v_WHAT T)))) pss_nil)
  (pss_cons (ps_set (i := 2) sc_Desk_say.nd rfl (Or.inl rfl) (pe_split (pv 1) pe_str))
  (pss_cons (ps_try_many rfl rfl LamX.takes0 (fun W pn xe tk _ => pss_one (ps_set (i := 3) sc_Desk_say.nd rfl (Or.inl rfl) (pe_mtS (e_Desk_answer_to (K := K) T) hr (by decide) (fun σ => passAt tk σ) (pv 0) (pa_cons (pe_ix (ixL (K := K)) (pv 2) pe_int (fun _ _ => rfl)) (pa_cons (pe_slice (slL (K := K)) (pv 2) (po_some pe_int) po_none) pa_nil))))) (.cons ⟨rfl, by decide, .inl (g_BadDance T)⟩ (fun a oe cls d pn _ _ => pss_one (ps_set (i := 3) sc_Desk_say.nd rfl (Or.inl rfl) pe_str)) (.cons ⟨rfl, by decide, .inl (g_BadName T)⟩ (fun a oe cls d pn _ _ => pss_one (ps_set (i := 3) sc_Desk_say.nd rfl (Or.inl rfl) pe_str)) (.cons ⟨rfl, by decide, .inl (g_BadStep T)⟩ (fun a oe cls d pn _ _ => pss_one (ps_set (i := 3) sc_Desk_say.nd rfl (Or.inl rfl) pe_str)) (.cons ⟨rfl, by decide, .inl (g_NothingDone T)⟩ (fun a oe cls d pn _ _ => pss_one (ps_set (i := 3) sc_Desk_say.nd rfl (Or.inl rfl) pe_str)) (.cons ⟨rfl, by decide, .inl (g_NotNow T)⟩ (fun a oe cls d pn _ _ => pss_one (ps_set (i := 3) sc_Desk_say.nd rfl (Or.inl rfl) pe_str)) .nil))))))
  (pss_one (ps_ret (pe_ifExp (pt_cmpR op_isN1 (pv 3) pe_non (nomark _)) (C8.pe_gc rfl (v_WHAT T)) (pv 3))))))), ?_⟩
  obtain ⟨dy, ht⟩ := hd.at_
  have W0 := W fr List.mem_cons_self
  obtain ⟨hd0, ws, hsp, hlen, hA⟩ : ∃ hd0 ws, Txt.split z (" " : Str) = hd0 :: ws ∧ z.length ≤ 100 ∧ ∀ (H2 : Hp) (l : Addr) (Q0 : VK) (E : XK), Same H H2 → H2 l = some (.lst (ws.map V.str)) → (∀ z' H', Q (.str z') H' → Q0 (.str z') H') →
      (∀ kd d H', kd ≠ .number → Q (.str (ansW m0 (some kd, []))) H' → E (exV K kd) d H') → sp_ansTo K [.ref t, .str hd0, .ref l] H2 Q0 E := by
    rcases h with ⟨k, rfl, h⟩ | ⟨q, rfl, hq, h⟩
    · exact ⟨askW k, [], split_ask k, by cases k <;> decide, fun H2 l Q0 E s2 hl hQ hE => ⟨X, t, f, dx, m0, N, fr, fs, _, l, [], rfl, hl, hd.same s2, W, hN, .inl ⟨rfl, .inr ⟨k, rfl, fun H' s => hQ _ _ (h H' (s2.trans s))⟩⟩⟩⟩
    · have hn := act_num (fs := fs) hq
      have he : (actF (fr :: fs) q).1 ≠ none → FlAt K X H f dx m0 (actF (fr :: fs) q).2 := fun e => by
        rcases act_shape (fs := fr :: fs) (q := q) (List.cons_ne_nil _ _) with ⟨_, e2⟩ | ⟨e1, _⟩
        · rw [e2]; exact hd.fl
        · exact absurd e1 e
      cases q with
      | step x => exact ⟨_, _, splitS (spl_step hq.1 hq.2), (by simp [lineW, S_len]), fun H2 l Q0 E s2 hl hQ hE => ⟨X, t, f, dx, m0, N, fr, fs, _, l, _, rfl, hl, hd.same s2, W, hN, .inr (.inl ⟨x, rfl, rfl, hq.1, hq.2, (postTW h hn he hQ hE).pre s2⟩)⟩⟩
      | leave c => exact ⟨_, _, splitS (spl_leave hq.1 hq.2), (by simp [lineW, S_len]), fun H2 l Q0 E s2 hl hQ hE => ⟨X, t, f, dx, m0, N, fr, fs, _, l, _, rfl, hl, hd.same s2, W, hN, .inr (.inr (.inl ⟨c, rfl, rfl, hq.1, hq.2, (postTW h hn he hQ hE).pre s2⟩))⟩⟩
      | undo => exact ⟨_, _, splitS (a := [117, 110, 100, 111]) (l := [[117, 110, 100, 111]]) (by decide), (by simp [lineW, S_len]), fun H2 l Q0 E s2 hl hQ hE => ⟨X, t, f, dx, m0, N, fr, fs, _, l, _, rfl, hl, hd.same s2, W, hN, .inl ⟨rfl, .inl ⟨rfl, (postTW h hn he hQ hE).pre s2⟩⟩⟩⟩
      | join a c =>
        obtain ⟨ha, hc1, hc2⟩ := hq
        by_cases h0 : a = 0
        · subst h0
          exact ⟨_, _, splitS (spl_left hc1 hc2), (by simp [lineW, S_len]), fun H2 l Q0 E s2 hl hQ hE => ⟨X, t, f, dx, m0, N, fr, fs, _, l, _, rfl, hl, hd.same s2, W, hN, .inr (.inr (.inr (.inl ⟨c, rfl, rfl, hc1, hc2, (postTW h hn he hQ hE).pre s2⟩)))⟩⟩
        · have ha : a = fr.names.length := ha.resolve_left h0
          subst ha
          simp only [lineW, if_neg h0]
          exact ⟨_, _, splitS (spl_right hc1 hc2), (by simp [S_len]), fun H2 l Q0 E s2 hl hQ hE => ⟨X, t, f, dx, m0, N, fr, fs, _, l, _, rfl, hl, hd.same s2, W, hN, .inr (.inr (.inr (.inr ⟨c, rfl, rfl, hc1, hc2, (postTW h hn he hQ hE).pre s2⟩)))⟩⟩
  walk_at "rd"
  refine iteF ?_
  walk_at "rd"
  refine ⟨z, _, rfl, rfl, rfl, by rw [sizeLine_eq]; omega, ?_⟩
  rw [hsp]
  (intro l hl_; generalize he_ : upd _ l _ = H2; have n2 := New.mk hl_ he_.symm; clear hl_ he_)
  walk_at "rd"
  refine r_methS ?_
  walk_at "rd"
  refine r_me (n2.get ht) ?_
  walk_at "rd"
  refine r_ixL (v := .str hd0) (SqL.of n2.at) (at_of (j := 0) rfl rfl) ?_
  walk_at "rd"
  refine r_slL (ws.map V.str) n2.at (cutV1 _ _) fun l2 H3 n3 => ?_
  walk_at "rd"
  refine hA H3 l2 _ _ (n2.same.trans n3.same) n3.at (fun z' H' q => ?_) (fun kd d H' hk q => ?_)
  · walk_at "rd"
    refine ifD (fun h => nomatch h) (fun _ => ?_)
    walk_at "rd"
    exact q
  · cases kd with
    | number => exact absurd rfl hk
    | name =>
      refine ⟨false, xm_BadName_BadDance T, (fun h => nomatch h), fun _ => ?_⟩
      refine ⟨true, xm_BadName_BadName T, fun _ b hb => ?_, fun h => nomatch h⟩
      walk_at "rd"
      refine ifD (fun h => nomatch h) (fun _ => ?_)
      walk_at "rd"
      exact q
    | step =>
      refine ⟨false, xm_BadStep_BadDance T, (fun h => nomatch h), fun _ => ?_⟩
      refine ⟨false, xm_BadStep_BadName T, (fun h => nomatch h), fun _ => ?_⟩
      refine ⟨true, xm_BadStep_BadStep T, fun _ b hb => ?_, fun h => nomatch h⟩
      walk_at "rd"
      refine ifD (fun h => nomatch h) (fun _ => ?_)
      walk_at "rd"
      exact q
    | nothing =>
      refine ⟨false, xm_NothingDone_BadDance T, (fun h => nomatch h), fun _ => ?_⟩
      refine ⟨false, xm_NothingDone_BadName T, (fun h => nomatch h), fun _ => ?_⟩
      refine ⟨false, xm_NothingDone_BadStep T, (fun h => nomatch h), fun _ => ?_⟩
      refine ⟨true, xm_NothingDone_NothingDone T, fun _ b hb => ?_, fun h => nomatch h⟩
      walk_at "rd"
      refine ifD (fun h => nomatch h) (fun _ => ?_)
      walk_at "rd"
      exact q
    | now =>
      refine ⟨false, xm_NotNow_BadDance T, (fun h => nomatch h), fun _ => ?_⟩
      refine ⟨false, xm_NotNow_BadName T, (fun h => nomatch h), fun _ => ?_⟩
      refine ⟨false, xm_NotNow_BadStep T, (fun h => nomatch h), fun _ => ?_⟩
      refine ⟨false, xm_NotNow_NothingDone T, (fun h => nomatch h), fun _ => ?_⟩
      refine ⟨true, xm_NotNow_NotNow T, fun _ b hb => ?_, fun h => nomatch h⟩
      walk_at "rd"
      refine ifD (fun h => nomatch h) (fun _ => ?_)
      walk_at "rd"
      exact q
end
end My
end

section
set_option Elab.async false
set_option linter.all false
set_option maxRecDepth 100000
set_option maxHeartbeats 4000000
/-! EA: the law's draws. -/
namespace My
open PySem PySem.Spec PyProof.Rows L2 He LamX SX
local macro_rules | `(tactic| walk_at "rd") => `(tactic| repeat (with_reducible first
  | refine r_seq ?_ | refine r_asg ?_ | refine r_var (by with_unfolding_all rfl) ?_ | refine r_c ?_ | refine r_op ?_ | refine r_I0 ?_ | refine r_name ?_ | refine r_ret ?_ | refine r_if ?_ | refine r_cons ?_ | refine r_nil ?_
  | refine r_CB ?_ | refine r_call ?_ | refine r_test ?_ | refine r_eqI ?_ | refine r_eqS ?_ | refine r_neI ?_ | refine r_neS ?_ | refine r_drop ?_ | refine r_next ?_ | refine r_ifE ?_ | refine r_B ?_ | refine r_andV ?_ | refine r_orV ?_ | refine r_notV ?_ | refine r_blV ?_
  | refine r_and ?_ | refine r_or ?_ | refine r_not ?_ | refine r_tup ?_ | refine r_lst ?_ | refine r_par ?_ | refine r_exv2 ?_ | refine r_un ?_ | refine r_neg ?_ | refine r_isN ?_ | refine r_notN ?_ | refine r_retN ?_ | refine r_chain ?_
  | refine r_star ?_ | refine r_lstRg ?_ | refine r_rg1 ?_ | refine r_rg2 ?_ | refine r_exi ?_ | refine r_exi2 ?_ | refine r_sl ?_ | refine r_noPart ?_ | refine r_part ?_ | refine r_gnil ?_ | refine r_gcons ?_ | refine r_gsub ?_ | refine r_BM ?_ | refine r_M1 ?_ | refine r_isstr ?_ | refine r_meth ?_ | refine r_make ?_ | refine r_fld ?_ | refine r_abs ?_ | refine r_isiIntInt ?_ | refine r_isiIntBool ?_ | refine r_isiStr ?_ | refine r_min ?_ | refine r_max ?_ | refine r_int1 ?_ | refine r_intb ?_ | refine r_for ?_ | refine r_itup ?_ | refine r_ilist ?_ | refine r_lc ?_ | refine r_yes ?_ | refine r_istr ?_ | refine r_rng1 ?_ | refine r_rng2 ?_ | refine r_dput ?_ | refine r_daug ?_ | refine r_dget ?_ | refine r_dnewT ?_ | refine r_addI ?_ | refine r_ev ?_ | refine r_sfld ?_ | refine r_faug ?_ | refine r_prop ?_ | refine r_while ?_ | refine r_augS ?_ | refine r_tupF ?_ | refine r_idxT ?_ | refine r_kd ?_ | refine r_ki ?_ | refine r_enum ?_))

local macro_rules | `(tactic| walk_at "rn") => `(tactic| repeat (with_reducible first
  | refine r_seq ?_ | refine r_asg ?_ | refine r_var (by with_unfolding_all rfl) ?_ | refine r_c ?_ | refine r_op ?_ | refine r_I0 ?_ | refine r_name ?_ | refine r_ret ?_ | refine r_cons ?_ | refine r_nil ?_
  | refine r_CB ?_ | refine r_call ?_ | refine r_test ?_ | refine r_eqI ?_ | refine r_eqS ?_ | refine r_neI ?_ | refine r_neS ?_ | refine r_drop ?_ | refine r_next ?_ | refine r_B ?_ | refine r_andV ?_ | refine r_orV ?_ | refine r_notV ?_ | refine r_blV ?_
  | refine r_and ?_ | refine r_or ?_ | refine r_not ?_ | refine r_tup ?_ | refine r_lst ?_ | refine r_par ?_ | refine r_exv2 ?_ | refine r_un ?_ | refine r_neg ?_ | refine r_isN ?_ | refine r_notN ?_ | refine r_retN ?_ | refine r_chain ?_
  | refine r_star ?_ | refine r_lstRg ?_ | refine r_rg1 ?_ | refine r_rg2 ?_ | refine r_exi ?_ | refine r_exi2 ?_ | refine r_sl ?_ | refine r_noPart ?_ | refine r_part ?_ | refine r_gnil ?_ | refine r_gcons ?_ | refine r_gsub ?_ | refine r_BM ?_ | refine r_M1 ?_ | refine r_isstr ?_ | refine r_meth ?_ | refine r_make ?_ | refine r_fld ?_ | refine r_abs ?_ | refine r_isiIntInt ?_ | refine r_isiIntBool ?_ | refine r_isiStr ?_ | refine r_min ?_ | refine r_max ?_ | refine r_int1 ?_ | refine r_intb ?_ | refine r_for ?_ | refine r_itup ?_ | refine r_ilist ?_ | refine r_lc ?_ | refine r_yes ?_ | refine r_istr ?_ | refine r_rng1 ?_ | refine r_rng2 ?_ | refine r_dput ?_ | refine r_daug ?_ | refine r_dget ?_ | refine r_dnewT ?_ | refine r_addI ?_ | refine r_ev ?_ | refine r_sfld ?_ | refine r_faug ?_ | refine r_prop ?_ | refine r_while ?_ | refine r_augS ?_ | refine r_tupF ?_ | refine r_idxT ?_ | refine r_kd ?_ | refine r_ki ?_ | refine r_enum ?_))

local macro_rules | `(tactic| walk_at "hp") => `(tactic| (with_reducible first
  | assumption | exact New.at (by assumption)
  | exact SqT.of (by walk_at "hp") | exact SqL.of (by walk_at "hp") | exact Or.inl (by walk_at "hp") | exact Or.inr (by walk_at "hp")
  | exact New.get (by assumption) (by walk_at "hp") | exact Same.get (by assumption) (by walk_at "hp")))


/-! ### d.update(e); a display with text keys -/
section
variable {X : Cx} {pins : List (Addr × Obj)} {σ : St} {H : Hp} {s : Shared} {A : Around} {E : Value → Shared → Prop} {a b : Addr} {kvs more : List (Key × V)}
theorem d_update {Q : Value → Shared → Prop} (I : Inv X pins σ H s) (e : H a = some (.dK kvs)) (e2 : H b = some (.dK more)) (hne : a ≠ b) (hz : kvs.length + more.length ≤ sizeLine) (h : ∀ s', Inv X pins σ (upd H a (.dK (mergeK kvs more))) s' → Q .none s') :
    wpAny (model X.prog X.w) A (call (.builtin "dict.update") [.ref a, .ref b]) Q E s := by
  obtain ⟨z, hd, vs, rel, dd⟩ := dk_of I.hok e
  obtain ⟨z2, hd2, vs2, rel2, dd2⟩ := dk_of I.hok e2
  refine call_meetsIn PySem.F.slot_dict_update dd.typeIs PySem.F.entry_dict_update (PySem.F.args_dict_update_2 _ _) (meets_dict_update (mixKind X.prog X.w) a b hne hd2) ⟨vs, vs2, dd, dd2, by rw [← rel.length, ← rel2.length]; exact hz, fun h' dd' _ hs => h _ ?_⟩
  have he : ∃ q, h'.get? a = some q := let ⟨q, _, _, hq, _⟩ := dd'; ⟨q, hq⟩
  exact d_write (t' := s.toks) I (by rw [e]; exact True.intro) hs he (dk_new (Nat.le_trans (length_mergeK _ _) hz) hd (KV.merge rel2 rel) dd')
def rDUpd : V → List V → Hp → VK → Prop := fun x xs H Q => ∃ (a b : Addr) (kvs more : List (Key × V)), x = .ref a ∧ xs = [.ref b] ∧ a ≠ b ∧ H a = some (.dK kvs) ∧ H b = some (.dK more) ∧ kvs.length + more.length ≤ sizeLine ∧ Q .non (upd H a (.dK (mergeK kvs more)))
theorem mtd_update : MtR X "dict.update" rDUpd := by
  intro pins s σ H x xs v us Q I rx rv h
  obtain ⟨a, b, kvs, more, rfl, rfl, hne, e, e2, hz, q⟩ := h
  obtain rfl : v = Value.ref a := rx
  obtain ⟨u, rfl, ru⟩ := vals1 rv
  obtain rfl : u = Value.ref b := ru
  exact d_update I e e2 hne hz fun s' I' => ⟨.non, _, I', rfl, q⟩
end
section
variable {H : Hp} {Q : VK} {σ : St} {K : PySem.W.Frag} {a b d : Addr}
theorem r_disp {trs : List (TE × TE)} (h : ∀ p H2, New H p (.dK []) H2 → tPairs trs σ H2 fun ps H3 => H3 p = some (.dK []) ∧ ∃ kvs : List (Key × V), ps = kvs.map (fun kv => (kV kv.1, kv.2)) ∧ kvs.length ≤ 15 ∧ Q (.ref p) (upd H3 p (.dK (mergeK [] kvs)))) : tDisp trs σ H Q := fun p hp => h p _ ⟨hp, rfl⟩
theorem r_pair {tk tv : TE} {r : List (TE × TE)} {R : List (V × V) → Hp → Prop} (h : tk σ H fun x H1 => tv σ H1 fun y H2 => tPairs r σ H2 fun ps H3 => R ((x, y) :: ps) H3) : tPairs ((tk, tv) :: r) σ H R := h
theorem r_pair0 {R : List (V × V) → Hp → Prop} (h : R [] H) : tPairs [] σ H R := h
theorem r_tyD {P : Prop} {kvs : List (Key × V)} (e : H d = some (.dK kvs)) (h : P) : tyV K "dict" (.ref d) H ∧ P := ⟨.inr (.inr (.inl ⟨rfl, .inl ⟨kvs, e⟩⟩)), h⟩
theorem r_tyL {P : Prop} {xs : List V} (e : H d = some (.lst xs)) (h : P) : tyV K "list" (.ref d) H ∧ P := ⟨.inl ⟨rfl, xs, SqL.of e⟩, h⟩
theorem r_pop0 {x : V} {xs : List V} (e : H d = some (.lst (x :: xs))) (h : Q x (upd H d (.lst xs))) : rPopAt (.ref d) [.int 0] H Q :=
  ⟨d, x :: xs, 0, 0, x, rfl, rfl, e, by decide, by decide, by unfold seqIndex?; simp, rfl, h⟩
theorem sameX_new {X : List Addr} {H H1 H2 : Hp} {p : Addr} {o : HO} (s : SameX X H H1) (hp : H p = none) (e : ∀ b, b ≠ p → H2 b = H1 b) : SameX X H H2 := fun b u hb hu => by rw [e b (ne_of_none hu hp)]; exact s b u hb hu
end
/-! ### the draw -/
abbrev drK (l c : Addr) (r t : Int) : List (Key × V) := [(.inr "large", .ref l), (.inr "rest", .int r), (.inr "cells", .ref c), (.inr "turn", .int t)]
structure DrAt (H : Hp) (d l c : Addr) : Prop where
  dr : ∃ r t, H d = some (.dK (drK l c r t))
  lg : ∃ lg : List Int, H l = some (.lst (lg.map V.int))
  cl : ∃ cs : List Int, H c = some (.lst (cs.map V.int))
  lc : l ≠ c
theorem dr_large (l c : Addr) (r t : Int) : valV (drK l c r t) (.inr "large" : Key) = some (.ref l) := rfl
theorem dr_rest (l c : Addr) (r t : Int) : valV (drK l c r t) (.inr "rest" : Key) = some (.int r) := rfl
theorem dr_cells (l c : Addr) (r t : Int) : valV (drK l c r t) (.inr "cells" : Key) = some (.ref c) := rfl
theorem dr_turn (l c : Addr) (r t : Int) : valV (drK l c r t) (.inr "turn" : Key) = some (.int t) := rfl
theorem dr_setTurn (l c : Addr) (r t k : Int) : putK (drK l c r t) (.inr "turn" : Key) (.int k) = drK l c r k := rfl
theorem dr_setRest (l c : Addr) (r t k : Int) : putK (drK l c r t) (.inr "rest" : Key) (.int k) = drK l c k t := rfl
theorem r_rgI (L : List Int) : True := trivial
section
variable {w : World} {K : PySem.W.Frag} {mg : Str → Option Value} {base : Heap}
def sp_begun (K : PySem.W.Frag) : Sp := fun vs H Q _ => ∃ (a : Addr) (xs : List Int), vs = [.ref a] ∧ SqL K H a (xs.map V.int) ∧ xs.length ≤ 900 ∧ ∀ d l c H', H d = none → H l = none → H c = none → Same H H' → DrAt H' d l c → Q (.ref d) H'
theorem c_L_begun (T : Tx w K mg base) : C8.Cal P0 w K mg base 1 "_law_begun" (sp_begun K) [] := by
  obtain ⟨fd, F⟩ := f_L_begun T
  refine cal_of F (g_L_begun T) (fun _ _ _ _ _ _ us hl => match us, hl with | [_], _ => rfl) sc_L_begun (fun vs H Q E h => by obtain ⟨_, _, rfl, _⟩ := h; rfl) (fun cdv A outer s H vs Q E hr h => ?_)
  obtain ⟨a, xs, rfl, ha, hz, k⟩ := h
  refine ⟨_, (pss_cons (ps_setLc (i := 1) (own := [("_law_grain", 2)]) rfl sc_L_begun.nd rfl rfl (sw_true rfl rfl rfl (by decide +kernel)) (piList (K := K) (pv 0)) (blkOk_by (N := N_L_begun) (sc := defScope s_L_begun) (by decide +kernel)) (fun _ _ _ _ _ => pg_name (i := 2) sc_L_begun.nd rfl (Or.inl rfl)) (fun _ _ _ _ _ => (pts_one (pt_cmpR op_ge (pe_callB callAbs rfl (b_abs T) bb_abs (pa_cons (pv 2) pa_nil)) (pe_op op_pow pe_int pe_int) (nomark _)))) (fun _ _ _ _ _ => (pe_op op_sub (pe_callB callAbs rfl (b_abs T) bb_abs (pa_cons (pv 2) pa_nil)) (pe_op op_pow pe_int pe_int))))
  (pss_one (ps_ret (pe_disp (pps_cons pe_str (pv 1) (pps_cons pe_str pe_int (pps_cons pe_str (pe_lc (own := [("_law_grain", 2)]) rfl sc_L_begun.nd (piList (K := K) (pv 0)) (blkOk_by (N := N_L_begun) (sc := defScope s_L_begun) (by decide +kernel)) (fun _ _ _ _ _ => pg_name (i := 2) sc_L_begun.nd rfl (Or.inl rfl)) (fun _ _ _ _ _ => pts_nil) (fun _ _ _ _ _ => (pe_callB callAbs rfl (b_abs T) bb_abs (pa_cons (pv 2) pa_nil)))) (pps_cons pe_str pe_int pps_nil)))) (by rfl) (by rfl) (fun z => by cases z) (by decide))))), ?_⟩
  walk_at "rd"
  refine lcL V.int xs (fun x => decide ((x.natAbs : Int) ≥ 10 ^ 18)) (fun x => .int ((x.natAbs : Int) - 10 ^ 18)) ha (by omega) (fun y H4 hy s4 Y N q1 q2 => ?_) fun l H1 hl s1 e1 => ?_
  · walk_at "rd"
    refine ⟨rfl, ?_⟩
    walk_at "rd"
    refine r_I (by unfold CPow; omega) ?_
    walk_at "rd"
    refine ifD (fun h => ?_) (fun h => q2 (decide_eq_false h) _ (Same.refl _))
    walk_at "rd"
    refine r_I (by unfold CPow; omega) ?_
    walk_at "rd"
    exact q1 (decide_eq_true h) _ (Same.refl _)
  · walk_at "rd"
    refine r_disp fun d H2 n2 => ?_
    refine r_pair ?_
    walk_at "rd"
    refine r_pair ?_
    walk_at "rd"
    refine r_pair ?_
    walk_at "rd"
    refine lcL1 V.int xs (fun x => .int (x.natAbs : Int)) ((s1.trans n2.same).seq ha) (by omega) (fun y H4 hy s4 Y q1 => ?_) fun c H3 hc s3 e3 => ?_
    · walk_at "rd"
      refine ⟨rfl, ?_⟩
      walk_at "rd"
      exact q1 _ (Same.refl _)
    · refine r_pair ?_
      walk_at "rd"
      refine r_pair0 ⟨s3 _ _ n2.at, drK l c 0 0, rfl, by simp, ?_⟩
      have hd : H1 d = none := n2.free
      have hdl : l ≠ d := fun e => by rw [e, hd] at e1; cases e1
      have hcd : c ≠ d := fun e => by rw [e, n2.at] at hc; cases hc
      have hcl : l ≠ c := fun e => by rw [← e, n2.get e1] at hc; cases hc
      refine k d l c _ (s1.free hd) hl ((s1.trans n2.same).free hc) (same_upd ((s1.trans n2.same).trans s3) (s1.free hd)) ⟨⟨0, 0, upd_same⟩, ⟨(xs.filter fun x => decide ((x.natAbs : Int) ≥ 10 ^ 18)).map fun x => (x.natAbs : Int) - 10 ^ 18, ?_⟩, ⟨xs.map fun x => (x.natAbs : Int), ?_⟩, hcl⟩
      · rw [upd_ne hdl, s3 _ _ (n2.get e1), List.map_map]; rfl
      · rw [upd_ne hcd, e3, List.map_map]; rfl
/-- what a draw changes -/
theorem DrAt.of {H H' : Hp} {d l c : Addr} {r t : Int} {lg : List Int} (h : DrAt H d l c) (s : SameX [d, l] H H') (hd : H' d = some (.dK (drK l c r t))) (hl : H' l = some (.lst (lg.map V.int))) : DrAt H' d l c := by
  obtain ⟨⟨r0, t0, e1⟩, _, ⟨cs, e3⟩, hlc⟩ := h
  refine ⟨⟨r, t, hd⟩, ⟨lg, hl⟩, ⟨cs, s _ _ (fun hm => ?_) e3⟩, hlc⟩
  rcases List.mem_cons.mp hm with e | hm
  · rw [e, e1] at e3; cases e3
  · exact hlc (List.mem_singleton.mp hm).symm
def sp_mixed : Sp := fun vs H Q _ => ∃ (d l c : Addr), vs = [.ref d] ∧ DrAt H d l c ∧ ∀ (n : Int) (r t : Int) H', SameBut d H H' → H' d = some (.dK (drK l c r t)) → Q (.int n) H'
theorem c_L_mixed (T : Tx w K mg base) : C8.Cal P0 w K mg base 1 "_law_mixed" sp_mixed [] := by
  obtain ⟨fd, F⟩ := f_L_mixed T
  refine cal_of F (g_L_mixed T) (fun _ _ _ _ _ _ us hl => match us, hl with | [_], _ => rfl) sc_L_mixed (fun vs H Q E h => by obtain ⟨_, _, _, rfl, _⟩ := h; rfl) (fun cdv A outer s H vs Q E hr h => ?_)
  obtain ⟨d, l, c, rfl, hd, k⟩ := h
  obtain ⟨⟨r, t, h1⟩, ⟨lg, h2⟩, ⟨cs, h3⟩, hlc⟩ := hd
  refine ⟨_, (pss_cons (ps_dput (hu_of hr) (pv 0) pe_str (pe_op op_add (pe_dget (hu_of hr) (pv 0) pe_str (fun _ _ => rfl)) pe_int) rfl)
  (pss_cons (ps_par rfl sc_L_mixed.nd (i := 1) (j := 2) rfl rfl (by decide) rfl rfl (pa_cons (pe_callTy callInt1 rfl (b_int T) bb_int (pa_cons (pe_dget (hu_of hr) (pv 0) pe_str (fun _ _ => rfl)) pa_nil)) (pa_cons pe_int pa_nil)) rfl)
  (pss_cons (ps_for PassesOwn.never rfl (piList (K := K) (pe_lst (pa_cons pe_int (pa_cons pe_int (pa_cons pe_int pa_nil))))) (pg_name (i := 3) sc_L_mixed.nd rfl (Or.inl rfl))
  (pss_cons (ps_set (i := 4) sc_L_mixed.nd rfl (Or.inl rfl) (pe_op op_mod (pe_op op_add (pe_op op_mul (pv 1) pe_int) (pe_op op_fdiv (pv 3) pe_int)) (pv 3)))
  (pss_cons (ps_for PassesOwn.never rfl (piList (K := K) (pe_dget (hu_of hr) (pv 0) pe_str (fun _ _ => rfl))) (pg_name (i := 5) sc_L_mixed.nd rfl (Or.inl rfl))
  (pss_one (ps_set (i := 4) sc_L_mixed.nd rfl (Or.inl rfl) (pe_op op_mod (pe_op op_add (pe_op op_mul (pv 4) pe_int) (pe_callTy callInt1 rfl (b_int T) bb_int (pa_cons (pv 5) pa_nil))) (pv 3)))))
  (pss_one (ps_set (i := 2) sc_L_mixed.nd rfl (Or.inl rfl) (pe_op op_add (pe_op op_mul (pv 2) pe_int) (pe_op op_mod (pe_op op_pow (pv 4) pe_int) (pv 3))))))))
  (pss_one (ps_ret (pv 2)))))), ?_⟩
  have hcd : c ≠ d := fun e => by rw [e, h1] at h3; cases h3
  walk_at "rd"
  refine r_getK (k := .inr "turn") h1 (dr_turn _ _ _ _) ?_
  walk_at "rd"
  refine r_putK (k := .inr "turn") h1 (by simp) ?_
  rw [dr_setTurn]
  generalize he : upd H d _ = H1
  have hd1 : H1 d = some (.dK (drK l c r (t + 1))) := by rw [← he]; exact upd_same
  have hc1 : H1 c = some (.lst (cs.map V.int)) := by rw [← he, upd_ne hcd]; exact h3
  have sb1 : SameBut d H H1 := by rw [← he]; exact SameBut.refl.upd
  walk_at "rd"
  refine r_getK (k := .inr "turn") hd1 (dr_turn _ _ _ _) ?_
  walk_at "rd"
  refine ⟨(sz1000 (Nat.le_of_ble_eq_true rfl)), ?_⟩
  (intro g hl_; generalize he_ : upd _ g _ = H2; have n2 := New.mk hl_ he_.symm; clear hl_ he_)
  walk_at "rd"
  refine forL V.int [2147483629, 2147483587, 2147483579] (SqL.of n2.at) (fun pre σ H' => Same H2 H' ∧ ∃ (x : Int) (a b e : Option V), σ = [some (.ref d), some (.int (t + 1)), some (.int x), a, b, e]) ⟨Same.refl _, 0, none, none, none, rfl⟩ (fun pre σ H' p => SqL.of (p.1 _ _ n2.at)) ?_ ?_
  · rintro pre x post σ H' e ⟨s', z, a, b, e', rfl⟩
    have hx : 0 < x ∧ x < 2147483630 := by
      have hm : x ∈ ([2147483629, 2147483587, 2147483579] : List Int) := by rw [e]; simp
      simp only [List.mem_cons, List.not_mem_nil, or_false] at hm
      omega
    have hc' := s' _ _ (n2.get hc1)
    have hd' := s' _ _ (n2.get hd1)
    walk_at "rd"
    refine r_I (by unfold CMul; omega) ?_
    walk_at "rd"
    refine r_I (by unfold CDiv; omega) ?_
    walk_at "rd"
    refine r_I hx.1 ?_
    walk_at "rd"
    refine r_getK (k := .inr "cells") hd' (dr_cells _ _ _ _) ?_
    refine forL V.int cs (SqL.of hc') (fun pre σ H2' => H2' = H' ∧ ∃ (y : Int) (u : Option V), (0 ≤ y ∧ y < x) ∧ σ = [some (.ref d), some (.int (t + 1)), some (.int z), some (.int x), some (.int y), u]) ⟨rfl, _, _, ⟨Int.emod_nonneg _ (by omega), Int.emod_lt_of_pos _ hx.1⟩, rfl⟩ (fun pre σ H2' p => by rw [p.1]; exact SqL.of hc') ?_ ?_
    · rintro pre2 x2 post2 σ _ e2 ⟨rfl, y, u, hy, rfl⟩
      walk_at "rd"
      refine r_I (by unfold CMul; omega) ?_
      walk_at "rd"
      refine r_I hx.1 ?_
      walk_at "rd"
      exact ⟨rfl, _, _, ⟨Int.emod_nonneg _ (by omega), Int.emod_lt_of_pos _ hx.1⟩, rfl⟩
    · rintro σ _ ⟨rfl, y, u, hy, rfl⟩
      walk_at "rd"
      refine r_I (by unfold CMul; omega) ?_
      walk_at "rd"
      refine r_I (by unfold CPow; omega) ?_
      walk_at "rd"
      refine r_I hx.1 ?_
      walk_at "rd"
      exact ⟨s', _, _, _, _, rfl⟩
  · rintro σ H' ⟨s', z, a, b, e', rfl⟩
    walk_at "rd"
    exact k z r (t + 1) H' (fun b u hb hu => s' _ _ (n2.get (sb1 b u hb hu))) (s' _ _ (n2.get hd1))
def sp_take : Sp := fun vs H Q _ => ∃ (d l c : Addr) (m : Nat), vs = [.ref d, .int m] ∧ DrAt H d l c ∧ 0 < m ∧ m ≤ 1000 ∧ ∀ (j : Nat) H', j < m → SameX [d, l] H H' → DrAt H' d l c → Q (.int j) H'
theorem c_L_take (T : Tx w K mg base) : C8.Cal P0 w K mg base 2 "_law_take" sp_take [] := by
  obtain ⟨fd, F⟩ := f_L_take T
  refine cal_of F (g_L_take T) (fun _ _ _ _ _ _ us hl => match us, hl with | [_, _], _ => rfl) sc_L_take (fun vs H Q E h => by obtain ⟨_, _, _, _, rfl, _⟩ := h; rfl) (fun cdv A outer s H vs Q E hr h => ?_)
  obtain ⟨d, l, c, m, rfl, hd, hm1, hm2, k⟩ := h
  have hd0 := hd
  obtain ⟨⟨r, t, h1⟩, ⟨lg, h2⟩, ⟨cs, h3⟩, hlc⟩ := hd
  refine ⟨_, (pss_cons (ps_if (pt_cmpR op_eq (pe_dget (hu_of hr) (pv 0) pe_str (fun _ _ => rfl)) pe_int (nomark _)) (pss_one (ps_dput (hu_of hr) (pv 0) pe_str (pe_ifExp (pt_cmpR (opNeD (K := K) hr.units) (pe_dget (hu_of hr) (pv 0) pe_str (fun _ _ => rfl)) (pe_lst pa_nil) (nomark _)) (pe_bm PySem.F.plainAttrs_list PySem.F.slot_list_pop PySem.F.type_list_pop mt_popAt (pe_dget (hu_of hr) (pv 0) pe_str (fun _ _ => rfl)) (pa_cons pe_int pa_nil)) (C8.pe_c (c_L_mixed (K := K) T) hr (by decide) rfl (pa_cons (pv 0) pa_nil))) rfl)) pss_nil)
  (pss_cons (ps_set (i := 2) sc_L_take.nd rfl (Or.inl rfl) (pe_op op_mod (pe_callTy callInt1 rfl (b_int T) bb_int (pa_cons (pe_dget (hu_of hr) (pv 0) pe_str (fun _ _ => rfl)) pa_nil)) (pv 1)))
  (pss_cons (ps_dput (hu_of hr) (pv 0) pe_str (pe_op op_fdiv (pe_callTy callInt1 rfl (b_int T) bb_int (pa_cons (pe_dget (hu_of hr) (pv 0) pe_str (fun _ _ => rfl)) pa_nil)) (pv 1)) rfl)
  (pss_one (ps_ret (pv 2)))))), ?_⟩
  have hcd : c ≠ d := fun e => by rw [e, h1] at h3; cases h3
  have hld : l ≠ d := fun e => by rw [e, h1] at h2; cases h2
  walk_at "rn"
  refine r_ifJ (fun σ H' => σ = [some (.ref d), some (.int m), none] ∧ ∃ (r' t' : Int) (lg' : List Int), SameX [d, l] H H' ∧ H' d = some (.dK (drK l c r' t')) ∧ H' l = some (.lst (lg'.map V.int))) (fun N hN => ?_) ?_
  · walk_at "rd"
    refine r_getK (k := .inr "rest") h1 (dr_rest _ _ _ _) ?_
    walk_at "rd"
    refine ifD (fun h0 => ?_) (fun _ => ?_)
    · walk_at "rd"
      refine r_getK (k := .inr "large") h1 (dr_large _ _ _ _) ?_
      walk_at "rd"
      refine ⟨(sz1000 (Nat.le_of_ble_eq_true rfl)), ?_⟩
      (intro p hl_; generalize he_ : upd _ p _ = H2; have n2 := New.mk hl_ he_.symm; clear hl_ he_)
      walk_at "rd"
      refine r_neLI (l := lg) (m := []) (n2.get h2) n2.at ?_
      walk_at "rd"
      refine ifN (fun hne => ?_) (fun hne => ?_)
      · cases lg with
        | nil => exact absurd rfl hne
        | cons x xs =>
          walk_at "rd"
          refine r_getK (k := .inr "large") (n2.get h1) (dr_large _ _ _ _) ?_
          refine r_tyL (n2.get h2) ?_
          walk_at "rd"
          refine r_pop0 (n2.get h2) ?_
          walk_at "rd"
          refine r_putK (k := .inr "rest") (kvs := drK l c r t) (by rw [upd_ne (Ne.symm hld)]; exact n2.get h1) (by simp) ?_
          rw [dr_setRest]
          refine hN _ _ ⟨rfl, x, t, xs, fun b u hb hu => ?_, upd_same, by rw [upd_ne hld]; exact upd_same⟩
          have hb' : b ≠ d ∧ b ≠ l := by simpa using hb
          rw [upd_ne hb'.1, upd_ne hb'.2]
          exact n2.get hu
      · walk_at "rd"
        refine ⟨d, l, c, rfl, ⟨⟨r, t, n2.get h1⟩, ⟨lg, n2.get h2⟩, ⟨cs, n2.get h3⟩, hlc⟩, fun n r1 t1 H3 sb h1' => ?_⟩
        walk_at "rd"
        refine r_putK (k := .inr "rest") h1' (by simp) ?_
        rw [dr_setRest]
        refine hN _ _ ⟨rfl, n, t1, lg, fun b u hb hu => ?_, upd_same, by rw [upd_ne hld]; exact sb _ _ hld (n2.get h2)⟩
        have hb' : b ≠ d ∧ b ≠ l := by simpa using hb
        rw [upd_ne hb'.1]
        exact sb _ _ hb'.1 (n2.get hu)
    · walk_at "rd"
      exact hN _ _ ⟨rfl, r, t, lg, SameX.refl, h1, h2⟩
  · rintro σ H' ⟨rfl, r', t', lg', s', h1', h2'⟩
    walk_at "rd"
    refine r_getK (k := .inr "rest") h1' (dr_rest _ _ _ _) ?_
    walk_at "rd"
    refine r_I (by omega) ?_
    walk_at "rd"
    refine r_getK (k := .inr "rest") h1' (dr_rest _ _ _ _) ?_
    walk_at "rd"
    refine r_I (by unfold CDiv; omega) ?_
    walk_at "rd"
    refine r_putK (k := .inr "rest") h1' (by simp) ?_
    rw [dr_setRest]
    walk_at "rd"
    have p1 : 0 ≤ r' % (m : Int) := Int.emod_nonneg _ (by omega)
    have p2 : r' % (m : Int) < m := Int.emod_lt_of_pos _ (by omega)
    have e : r' % (m : Int) = ((r' % (m : Int)).toNat : Int) := by omega
    rw [e]
    have s2 : SameX [d, l] H (upd H' d (.dK (drK l c (r' / m) t'))) := fun b u hb hu => by
      have hb' : b ≠ d ∧ b ≠ l := by simpa using hb
      rw [upd_ne hb'.1]
      exact s' _ _ hb hu
    exact k _ _ (by omega) s2 (hd0.of s2 upd_same (by rw [upd_ne hld]; exact h2'))
/-- one of some -/
def sp_pick (K : PySem.W.Frag) : Sp := fun vs H Q _ => ∃ (d l c a : Addr) (xs : List V), vs = [.ref d, .ref a] ∧ DrAt H d l c ∧ H a = some (.lst xs) ∧ a ≠ d ∧ a ≠ l ∧ xs ≠ [] ∧ xs.length ≤ 1000 ∧ ∀ x ∈ xs, ∀ H', SameX [d, l] H H' → DrAt H' d l c → Q x H'
theorem c_L_pick (T : Tx w K mg base) : C8.Cal P0 w K mg base 3 "_law_pick" (sp_pick K) [] := by
  obtain ⟨fd, F⟩ := f_L_pick T
  refine cal_of F (g_L_pick T) (fun _ _ _ _ _ _ us hl => match us, hl with | [_, _], _ => rfl) sc_L_pick (fun vs H Q E h => by obtain ⟨_, _, _, _, _, rfl, _⟩ := h; rfl) (fun cdv A outer s H vs Q E hr h => ?_)
  obtain ⟨d, l, c, a, xs, rfl, hd, ha, had, hal, hne, hz, k⟩ := h
  refine ⟨_, (pss_one (ps_ret (pe_ix (ixL (K := K)) (pv 1) (C8.pe_c (c_L_take (K := K) T) hr (by decide) rfl (pa_cons (pv 0) (pa_cons (pe_callB (callLen (K := K)) rfl (b_len T) bb_len (pa_cons (pv 1) pa_nil)) pa_nil))) (fun _ _ => rfl)))), ?_⟩
  have hpos : 0 < xs.length := List.length_pos_iff.mpr hne
  walk_at "rd"
  refine r_lenL (SqL.of ha) ?_
  walk_at "rd"
  refine ⟨d, l, c, xs.length, rfl, hd, hpos, hz, fun j H' hj s hd' => ?_⟩
  refine r_ixL (v := xs[j]) (SqL.of (s _ _ (by simp [had, hal]) ha)) (at_of (j := j) rfl (List.getElem?_eq_getElem hj)) ?_
  exact k _ (List.getElem_mem hj) H' s hd'
end
end My
end

section
set_option Elab.async false
set_option linter.all false
set_option maxRecDepth 100000
set_option maxHeartbeats 4000000
/-! EB: the law's own account of a deed. -/
namespace My
open PySem PySem.Spec PyProof.Rows L2 He LamX SX
local macro_rules | `(tactic| walk_at "rd") => `(tactic| repeat (with_reducible first
  | refine r_seq ?_ | refine r_asg ?_ | refine r_var (by with_unfolding_all rfl) ?_ | refine r_c ?_ | refine r_op ?_ | refine r_I0 ?_ | refine r_name ?_ | refine r_ret ?_ | refine r_if ?_ | refine r_cons ?_ | refine r_nil ?_
  | refine r_CB ?_ | refine r_call ?_ | refine r_test ?_ | refine r_eqI ?_ | refine r_eqS ?_ | refine r_neI ?_ | refine r_neS ?_ | refine r_drop ?_ | refine r_next ?_ | refine r_ifE ?_ | refine r_B ?_ | refine r_andV ?_ | refine r_orV ?_ | refine r_notV ?_ | refine r_blV ?_
  | refine r_and ?_ | refine r_or ?_ | refine r_not ?_ | refine r_tup ?_ | refine r_lst ?_ | refine r_par ?_ | refine r_exv2 ?_ | refine r_un ?_ | refine r_neg ?_ | refine r_isN ?_ | refine r_notN ?_ | refine r_retN ?_ | refine r_chain ?_
  | refine r_star ?_ | refine r_lstRg ?_ | refine r_rg1 ?_ | refine r_rg2 ?_ | refine r_exi ?_ | refine r_exi2 ?_ | refine r_sl ?_ | refine r_noPart ?_ | refine r_part ?_ | refine r_gnil ?_ | refine r_gcons ?_ | refine r_gsub ?_ | refine r_BM ?_ | refine r_M1 ?_ | refine r_isstr ?_ | refine r_meth ?_ | refine r_make ?_ | refine r_fld ?_ | refine r_abs ?_ | refine r_isiIntInt ?_ | refine r_isiIntBool ?_ | refine r_isiStr ?_ | refine r_min ?_ | refine r_max ?_ | refine r_int1 ?_ | refine r_intb ?_ | refine r_for ?_ | refine r_itup ?_ | refine r_ilist ?_ | refine r_lc ?_ | refine r_yes ?_ | refine r_istr ?_ | refine r_rng1 ?_ | refine r_rng2 ?_ | refine r_dput ?_ | refine r_daug ?_ | refine r_dget ?_ | refine r_dnewT ?_ | refine r_addI ?_ | refine r_ev ?_ | refine r_sfld ?_ | refine r_faug ?_ | refine r_prop ?_ | refine r_while ?_ | refine r_augS ?_ | refine r_tupF ?_ | refine r_idxT ?_ | refine r_kd ?_ | refine r_ki ?_ | refine r_enum ?_))

local macro_rules | `(tactic| walk_at "rn") => `(tactic| repeat (with_reducible first
  | refine r_seq ?_ | refine r_asg ?_ | refine r_var (by with_unfolding_all rfl) ?_ | refine r_c ?_ | refine r_op ?_ | refine r_I0 ?_ | refine r_name ?_ | refine r_ret ?_ | refine r_cons ?_ | refine r_nil ?_
  | refine r_CB ?_ | refine r_call ?_ | refine r_test ?_ | refine r_eqI ?_ | refine r_eqS ?_ | refine r_neI ?_ | refine r_neS ?_ | refine r_drop ?_ | refine r_next ?_ | refine r_B ?_ | refine r_andV ?_ | refine r_orV ?_ | refine r_notV ?_ | refine r_blV ?_
  | refine r_and ?_ | refine r_or ?_ | refine r_not ?_ | refine r_tup ?_ | refine r_lst ?_ | refine r_par ?_ | refine r_exv2 ?_ | refine r_un ?_ | refine r_neg ?_ | refine r_isN ?_ | refine r_notN ?_ | refine r_retN ?_ | refine r_chain ?_
  | refine r_star ?_ | refine r_lstRg ?_ | refine r_rg1 ?_ | refine r_rg2 ?_ | refine r_exi ?_ | refine r_exi2 ?_ | refine r_sl ?_ | refine r_noPart ?_ | refine r_part ?_ | refine r_gnil ?_ | refine r_gcons ?_ | refine r_gsub ?_ | refine r_BM ?_ | refine r_M1 ?_ | refine r_isstr ?_ | refine r_meth ?_ | refine r_make ?_ | refine r_fld ?_ | refine r_abs ?_ | refine r_isiIntInt ?_ | refine r_isiIntBool ?_ | refine r_isiStr ?_ | refine r_min ?_ | refine r_max ?_ | refine r_int1 ?_ | refine r_intb ?_ | refine r_for ?_ | refine r_itup ?_ | refine r_ilist ?_ | refine r_lc ?_ | refine r_yes ?_ | refine r_istr ?_ | refine r_rng1 ?_ | refine r_rng2 ?_ | refine r_dput ?_ | refine r_daug ?_ | refine r_dget ?_ | refine r_dnewT ?_ | refine r_addI ?_ | refine r_ev ?_ | refine r_sfld ?_ | refine r_faug ?_ | refine r_prop ?_ | refine r_while ?_ | refine r_augS ?_ | refine r_tupF ?_ | refine r_idxT ?_ | refine r_kd ?_ | refine r_ki ?_ | refine r_enum ?_))

local macro_rules | `(tactic| walk_at "hp") => `(tactic| (with_reducible first
  | assumption | exact New.at (by assumption)
  | exact SqT.of (by walk_at "hp") | exact SqL.of (by walk_at "hp") | exact Or.inl (by walk_at "hp") | exact Or.inr (by walk_at "hp")
  | exact New.get (by assumption) (by walk_at "hp") | exact Same.get (by assumption) (by walk_at "hp")))


def kdS : Option Kd → Str
  | none => "none" | some .step => "step" | some .name => "name" | some .number => "number" | some .now => "now" | some .nothing => "nothing"
theorem lw_names (ah : V) (l o n d : Addr) : valV (lwK ah l o n d) (.inr "names" : Key) = some (.ref n) := rfl
theorem lw_dance (ah : V) (l o n d : Addr) : valV (lwK ah l o n d) (.inr "dance" : Key) = some (.ref d) := rfl
theorem lw_log (ah : V) (l o n d : Addr) : valV (lwK ah l o n d) (.inr "log" : Key) = some (.ref l) := rfl
theorem lw_old (ah : V) (l o n d : Addr) : valV (lwK ah l o n d) (.inr "old" : Key) = some (.ref o) := rfl
theorem lw_ahead (ah : V) (l o n d : Addr) : valV (lwK ah l o n d) (.inr "ahead" : Key) = some ah := rfl
theorem lw_pn (ah : V) (l o n d n2 : Addr) : putK (lwK ah l o n d) (.inr "names" : Key) (.ref n2) = lwK ah l o n2 d := rfl
theorem lw_pd (ah : V) (l o n d n2 : Addr) : putK (lwK ah l o n d) (.inr "dance" : Key) (.ref n2) = lwK ah l o n n2 := rfl
theorem lw_po (ah : V) (l o n d n2 : Addr) : putK (lwK ah l o n d) (.inr "old" : Key) (.ref n2) = lwK ah l n2 n d := rfl
theorem lw_merge (ah : V) (l o n d : Addr) : mergeK (mergeK [] [(.inr "ahead", ah), (.inr "log", .ref l), (.inr "old", .ref o)]) (mergeK [] [((.inr "names" : Key), V.ref n), (.inr "dance", .ref d)]) = lwK ah l o n d := rfl
theorem ne_of_none_ {H : Hp} {a b : Addr} {u : HO} (h : H a = some u) (hb : H b = none) : b ≠ a := fun e => by rw [e, h] at hb; cases hb
section
variable {K : PySem.W.Frag} {H : Hp} {Q : VK} {a b : Addr} {xs ys : List V}
theorem r_catR (ha : Rd H a (.tup xs)) (hb : H b = some (.tup ys)) (hy : ys ≠ []) (hz : xs.length + ys.length ≤ 1000) (h : ∀ p H2, Same H H2 → Rd H2 p (.tup (xs ++ ys)) → Q (.ref p) H2) : rCatA K (.ref a) (.ref b) H Q := by
  refine ⟨a, b, xs, ys, rfl, rfl, .inl ha, SqT.of hb, sz1000 hz, fun e => ?_, fun _ e => absurd e hy, fun _ _ p hp => h p _ (New.mk hp rfl).same (.inl upd_same)⟩
  subst e; exact h b H (Same.refl _) (.inl hb)
end
section
variable {w : World} {K : PySem.W.Frag} {mg : Str → Option Value} {base : Heap}
def sp_act (K : PySem.W.Frag) : Sp := fun vs H Q _ => ∃ (X : List Addr) (a q : Addr) (N : Nat) (fr : Fr) (fs : List Fr) (dd : Dd), vs = [.ref a, .ref q] ∧ OkX X H ∧ IsLw K X H (fr :: fs) (.ref a) ∧ H q = some (.tup (deedV dd)) ∧ okD dd ∧ Wf N fr ∧ N ≤ 100 ∧
  ∀ p v H', Same H H' → H' p = some (.tup [.str (kdS (actF (fr :: fs) dd).1), v]) → IsLw K X H' (actF (fr :: fs) dd).2 v → Q (.ref p) H'
theorem c_L_act (T : Tx w K mg base) : C8.Cal P0 w K mg base 3 "_law_act" (sp_act K) [] := by
  obtain ⟨fd, F⟩ := f_L_act T
  refine cal_of F (g_L_act T) (fun _ _ _ _ _ _ us hl => match us, hl with | [_, _], _ => rfl) sc_L_act (fun vs H Q E h => by obtain ⟨_, _, _, _, _, _, _, rfl, _⟩ := h; rfl) (fun cdv A outer s H vs Q E hr h => ?_)
  obtain ⟨X, a, q, N, fr, fs, dd, rfl, ok, hlw, hq, hok, W, hN, k⟩ := h
  refine ⟨_, (pss_cons (ps_par rfl sc_L_act.nd (i := 2) (j := 3) rfl rfl (by decide) rfl rfl (pa_cons (pe_dget (hu_of hr) (pv 0) pe_str (fun _ _ => rfl)) (pa_cons (pe_dget (hu_of hr) (pv 0) pe_str (fun _ _ => rfl)) pa_nil)) rfl)
  (pss_cons (ps_set (i := 4) sc_L_act.nd rfl (Or.inl rfl) (pe_callB (callLen (K := K)) rfl (b_len T) bb_len (pa_cons (pv 2) pa_nil)))
  (pss_cons (ps_set (i := 5) sc_L_act.nd rfl (Or.inl rfl) (pe_disp (pps_cons pe_str (pv 0) (pps_cons pe_str (pe_op op_cat (pe_dget (hu_of hr) (pv 0) pe_str (fun _ _ => rfl)) (pe_lst (pa_cons (pv 1) pa_nil))) (pps_cons pe_str (pe_dget (hu_of hr) (pv 0) pe_str (fun _ _ => rfl)) pps_nil))) (by rfl) (by rfl) (fun z => by cases z) (by decide)))
  (pss_cons (ps_expr (pe_bm PySem.F.plainAttrs_dict PySem.F.slot_dict_update PySem.F.type_dict_update mtd_update (pv 5) (pa_cons (pe_disp (pps_cons pe_str (pv 2) (pps_cons pe_str (pv 3) pps_nil)) (by rfl) (by rfl) (fun z => by cases z) (by decide)) pa_nil)))
  (pss_cons (ps_if (pt_cmpR op_eq (pe_ix (ixT (K := K)) (pv 1) pe_int (fun _ _ => rfl)) pe_str (nomark _)) (pss_one (ps_ret (pe_ifExp (pt_cmpR op_isN1 (pe_dget (hu_of hr) (pv 0) pe_str (fun _ _ => rfl)) pe_non (nomark _)) (pe_tup (pa_cons pe_str (pa_cons (pv 0) pa_nil))) (pe_tup (pa_cons pe_str (pa_cons (pe_dget (hu_of hr) (pv 0) pe_str (fun _ _ => rfl)) pa_nil)))))) pss_nil)
  (pss_cons (ps_if (pt_cmpR op_eq (pe_ix (ixT (K := K)) (pv 1) pe_int (fun _ _ => rfl)) pe_str (nomark _)) (pss_cons (ps_if (pt_not (pt_chain op_le op_lt pe_int (pe_callB callAbs rfl (b_abs T) bb_abs (pa_cons (pe_ix (ixT (K := K)) (pv 1) pe_int (fun _ _ => rfl)) pa_nil)) (pv 4))) (pss_one (ps_ret (pe_tup (pa_cons pe_str (pa_cons (pv 0) pa_nil))))) pss_nil)
  (pss_cons (ps_dput (hu_of hr) (pv 5) pe_str (pe_op (opCatA (K := K)) (pv 3) (pe_tup (pa_cons (pe_ix (ixT (K := K)) (pv 1) pe_int (fun _ _ => rfl)) pa_nil))) rfl)
  (pss_one (ps_ret (pe_tup (pa_cons pe_str (pa_cons (pv 5) pa_nil))))))) pss_nil)
  (pss_cons (ps_if (pt_cmpR op_eq (pe_ix (ixT (K := K)) (pv 1) pe_int (fun _ _ => rfl)) pe_str (nomark _)) (pss_cons (ps_if (PW.pt (pw_or (pt_cmpR (opNotIn (K := K)) (pe_ix (ixT (K := K)) (pv 1) pe_int (fun _ _ => rfl)) (pv 2) (by rfl)) (pw_or1 (pt_cmpR op_eq (pv 4) pe_int (nomark _))))) (pss_one (ps_ret (pe_tup (pa_cons (pe_ifExp (pt_cmpR (opNotIn (K := K)) (pe_ix (ixT (K := K)) (pv 1) pe_int (fun _ _ => rfl)) (pv 2) (by rfl)) pe_str pe_str) (pa_cons (pv 0) pa_nil))))) pss_nil)
  (pss_cons (ps_set (i := 6) sc_L_act.nd rfl (Or.inr rfl) (peIdxT (K := K) (pv 2) (pa_cons (pe_ix (ixT (K := K)) (pv 1) pe_int (fun _ _ => rfl)) pa_nil)))
  (pss_cons (ps_dput (hu_of hr) (pv 5) pe_str (pe_op opCatF (pe_slice slTF (pv 2) po_none (po_some (pv 6))) (pe_slice slTF (pv 2) (po_some (pe_op op_add (pv 6) pe_int)) po_none)) rfl)
  (pss_cons (ps_dput (hu_of hr) (pv 5) pe_str (C8.pe_c (c_L_left (K := K) T) hr (by decide) rfl (pa_cons (pv 4) (pa_cons (pv 3) (pa_cons (pe_lc (own := [("_law_each", 7)]) rfl sc_L_act.nd (pi_range1 rfl (b_range T) (pa_cons (pv 4) pa_nil)) (blkOk_by (N := N_L_act) (sc := defScope s_L_act) (by decide +kernel)) (fun _ _ _ _ _ => pg_name (i := 7) sc_L_act.nd rfl (Or.inl rfl)) (fun _ _ _ _ _ => (pts_one (pt_cmpR op_ne (pv 7) (pv 6) (nomark _)))) (fun _ _ _ _ _ => (pv 7))) pa_nil)))) rfl)
  (pss_one (ps_ret (pe_tup (pa_cons pe_str (pa_cons (pv 5) pa_nil))))))))) pss_nil)
  (pss_cons (ps_if (pt_cmpR (opNotIn (K := K)) (pe_ix (ixT (K := K)) (pv 1) pe_int (fun _ _ => rfl)) (pe_tup (pa_cons pe_int (pa_cons (pv 4) pa_nil))) (by rfl)) (pss_one (ps_ret (pe_tup (pa_cons pe_str (pa_cons (pv 0) pa_nil))))) pss_nil)
  (pss_cons (ps_if (PW.pt (pw_or (pt_cmpR (opIn (K := K)) (pe_ix (ixT (K := K)) (pv 1) pe_int (fun _ _ => rfl)) (pe_dget (hu_of hr) (pv 0) pe_str (fun _ _ => rfl)) (by rfl)) (pw_or1 (pt_cmpR op_eq (pv 4) pe_int (nomark _))))) (pss_one (ps_ret (pe_tup (pa_cons (pe_ifExp (pt_cmpR (opIn (K := K)) (pe_ix (ixT (K := K)) (pv 1) pe_int (fun _ _ => rfl)) (pe_dget (hu_of hr) (pv 0) pe_str (fun _ _ => rfl)) (by rfl)) pe_str pe_str) (pa_cons (pv 0) pa_nil))))) pss_nil)
  (pss_cons (ps_dput (hu_of hr) (pv 5) pe_str (pe_op (opCatA (K := K)) (pe_dget (hu_of hr) (pv 0) pe_str (fun _ _ => rfl)) (pe_tup (pa_cons (pe_ix (ixT (K := K)) (pv 1) pe_int (fun _ _ => rfl)) pa_nil))) rfl)
  (pss_cons (ps_dput (hu_of hr) (pv 5) pe_str (pe_op opCatF (pv 2) (pe_tupF (pa_cons (pe_ix (ixT (K := K)) (pv 1) pe_int (fun _ _ => rfl)) pa_nil))) rfl)
  (pss_cons (ps_if (pt_cmpR op_eq (pe_ix (ixT (K := K)) (pv 1) pe_int (fun _ _ => rfl)) pe_int (nomark _)) (pss_one (ps_dput (hu_of hr) (pv 5) pe_str (pe_op opCatF (pe_tupF (pa_cons (pe_ix (ixT (K := K)) (pv 1) pe_int (fun _ _ => rfl)) pa_nil)) (pv 2)) rfl)) pss_nil)
  (pss_cons (ps_dput (hu_of hr) (pv 5) pe_str (C8.pe_c (c_L_moved_up (K := K) T) hr (by decide) rfl (pa_cons (pv 3) (pa_cons (pe_callTy callInt1 rfl (b_int T) bb_int (pa_cons (pe_cmpR op_eq (pe_ix (ixT (K := K)) (pv 1) pe_int (fun _ _ => rfl)) pe_int (nomark _)) pa_nil)) pa_nil))) rfl)
  (pss_one (ps_ret (pe_tup (pa_cons pe_str (pa_cons (pv 5) pa_nil)))))))))))))))))), ?_⟩
  have hlw0 := hlw
  obtain ⟨a', l, o, n, d, ah, ea, haX, ha, h3, h4⟩ := hlw
  cases ea
  have hlo := W.lo
  have hhi := W.hi
  obtain ⟨as, hl, hds⟩ := h3.dd
  have hlen := hds.len
  have hql := W.ql
  have hdl := W.dl
  have hel := W.el
  walk_at "rd"
  refine r_getK (k := .inr "names") ha (lw_names _ _ _ _ _) ?_
  walk_at "rd"
  refine r_getK (k := .inr "dance") ha (lw_dance _ _ _ _ _) ?_
  walk_at "rd"
  refine r_lenT (NT.sq h3.nm) ?_
  rw [List.length_map]
  walk_at "rd"
  refine r_disp fun p H2 n2 => ?_
  refine r_pair ?_
  walk_at "rd"
  refine r_pair ?_
  walk_at "rd"
  refine r_getK (k := .inr "log") (n2.get ha) (lw_log _ _ _ _ _) ?_
  walk_at "rd"
  refine ⟨(sz1000 (Nat.le_of_ble_eq_true rfl)), ?_⟩
  (intro l1 hl_; generalize he_ : upd _ l1 _ = H3; have n3 := New.mk hl_ he_.symm; clear hl_ he_)
  refine r_catL (n3.get (n2.get hl)) n3.at (by rw [List.length_map]; simp; omega) ?_
  intro l2 H4 n4
  refine r_pair ?_
  walk_at "rd"
  refine r_getK (k := .inr "old") (n4.get (n3.get (n2.get ha))) (lw_old _ _ _ _ _) ?_
  refine r_pair0 ⟨n4.get (n3.get n2.at), [(.inr "ahead", .ref a), (.inr "log", .ref l2), (.inr "old", .ref o)], rfl, Nat.le_of_ble_eq_true rfl, ?_⟩
  generalize he5 : upd H4 p _ = H5
  have hpf : H p = none := n2.free
  have hl2f : H l2 = none := (n2.same.trans n3.same).free n4.free
  have s4 : Same H H4 := n2.same.trans (n3.same.trans n4.same)
  have s5 : Same H H5 := by rw [← he5]; exact same_upd s4 hpf
  have hp5 : H5 p = some (.dK (mergeK [] [(.inr "ahead", .ref a), (.inr "log", .ref l2), (.inr "old", .ref o)])) := by rw [← he5]; exact upd_same
  have hl2p : l2 ≠ p := ne_of_none_ (n3.get n2.at) n4.free
  have hl5 : H5 l2 = some (.lst (as.map V.ref ++ [.ref q])) := by rw [← he5, upd_ne hl2p]; exact n4.at
  walk_at "rd"
  refine r_tyD hp5 ?_
  walk_at "rd"
  refine r_disp fun p6 H6 n6 => ?_
  refine r_pair ?_
  walk_at "rd"
  refine r_pair ?_
  walk_at "rd"
  refine r_pair0 ⟨n6.at, [(.inr "names", .ref n), (.inr "dance", .ref d)], rfl, Nat.le_of_ble_eq_true rfl, ?_⟩
  have hp6 : p6 ≠ p := ne_of_none_ hp5 n6.free
  have hl26 : p6 ≠ l2 := ne_of_none_ hl5 n6.free
  walk_at "rd"
  refine ⟨p, p6, _, _, rfl, rfl, Ne.symm hp6, by rw [upd_ne (Ne.symm hp6)]; exact n6.get hp5, upd_same, (sz1000 (Nat.le_of_ble_eq_true rfl)), ?_⟩
  rw [lw_merge]
  generalize he7 : upd _ p _ = H7
  have hp7 : H7 p = some (.dK (lwK (.ref a) l2 o n d)) := by rw [← he7]; exact upd_same
  have s7 : Same H H7 := by rw [← he7]; exact same_upd (same_upd (s5.trans n6.same) (s5.free n6.free)) hpf
  have hl7 : H7 l2 = some (.lst ((as ++ [q]).map V.ref)) := by rw [← he7, upd_ne hl2p, upd_ne (Ne.symm hl26), n6.get hl5, List.map_append]; rfl
  clear he7 he5 hl5 hp5 hl26 hp6
  have hqX := ok.tup hq
  have mk : ∀ (H' : Hp) (n' d' o' : Addr) (fr' : Fr), Same H H' → H' p = some (.dK (lwK (.ref a) l2 o' n' d')) → H' l2 = some (.lst ((as ++ [q]).map V.ref)) → fr'.deeds = fr.deeds ++ [dd] →
      (n' ∉ X ∧ NT H' n' (fr'.names.map nmV)) → (d' ∉ X ∧ H' d' = some (.tup (fr'.dance.map V.int))) → (o' ∉ X ∧ Rd H' o' (.tup (fr'.ever.map nmV))) → IsLw K X H' (fr' :: fr :: fs) (.ref p) := by
    intro H' n' d' o' fr' s' hp' hl' hd' hn hdn ho
    refine ⟨p, l2, o', n', d', .ref a, rfl, ok.new hpf, hp', ⟨hn.1, hn.2, hdn.1, hdn.2, ho.1, ho.2, ok.new hl2f, as ++ [q], hl', ?_⟩, hlw0.mono (SameX.of s')⟩
    rw [hd']
    exact (hds.mono (SameX.of s')).snoc hqX (s' _ _ hq)
  have ret0 : ∀ (z : Str) (H' : Hp), Same H H' → (actF (fr :: fs) dd).2 = fr :: fs → z = kdS (actF (fr :: fs) dd).1 → ([V.str z, V.ref a].length ≤ sizeLine ∧ ∀ p, H' p = none → Q (.ref p) (upd H' p (.tup [.str z, .ref a]))) := by
    intro z H' s' e2 e1
    refine ⟨sz1000 (Nat.le_of_ble_eq_true rfl), fun p2 hp2 => ?_⟩
    refine k p2 (.ref a) _ (s'.trans (New.mk hp2 rfl).same) (by rw [upd_same, e1]) ?_
    rw [e2]
    exact hlw0.mono (SameX.of (s'.trans (New.mk hp2 rfl).same))
  have ret1 : ∀ (H' : Hp) (fr' : Fr), Same H H' → actF (fr :: fs) dd = (none, fr' :: fr :: fs) → IsLw K X H' (fr' :: fr :: fs) (.ref p) → ([V.str "none", V.ref p].length ≤ sizeLine ∧ ∀ p2, H' p2 = none → Q (.ref p2) (upd H' p2 (.tup [.str "none", .ref p]))) := by
    intro H' fr' s' e1 hI
    refine ⟨sz1000 (Nat.le_of_ble_eq_true rfl), fun p2 hp2 => ?_⟩
    refine k p2 (.ref p) _ (s'.trans (New.mk hp2 rfl).same) (by rw [upd_same, e1]; rfl) ?_
    rw [e1]
    exact hI.mono (SameX.of (New.mk hp2 rfl).same)
  have hq7 := s7 _ _ hq
  walk_at "rd"
  cases dd with
  | undo =>
    refine r_ixT (SqT.of hq7) rfl ?_
    walk_at "rd"
    refine ifD (fun _ => ?_) (fun h => absurd rfl h)
    walk_at "rd"
    refine r_getK (k := .inr "ahead") (s7 _ _ ha) (lw_ahead _ _ _ _ _) ?_
    walk_at "rd"
    cases fs with
    | nil =>
      have hah : ah = .non := h4
      subst hah
      refine ifD (fun _ => ?_) (fun h => absurd rfl h)
      walk_at "rd"
      exact ret0 _ _ s7 (by simp [actF]) (by simp [actF, kdS])
    | cons fr2 fs2 =>
      have h4' := h4
      obtain ⟨a2, _, _, _, _, _, eah, _⟩ := h4
      subst eah
      refine ifD (fun h => nomatch h) (fun _ => ?_)
      walk_at "rd"
      refine r_getK (k := .inr "ahead") (s7 _ _ ha) (lw_ahead _ _ _ _ _) ?_
      walk_at "rd"
      refine ⟨(sz1000 (Nat.le_of_ble_eq_true rfl)), fun p2 hp2 => ?_⟩
      refine k p2 (.ref a2) _ (s7.trans (New.mk hp2 rfl).same) (by rw [upd_same]; simp [actF, kdS]) ?_
      exact (by simpa [actF] using h4' : IsLw K X H _ _).mono (SameX.of (s7.trans (New.mk hp2 rfl).same))
  | step i =>
    refine r_ixT (SqT.of hq7) rfl ?_
    walk_at "rd"
    refine ifD (fun h => absurd h (by decide)) (fun _ => ?_)
    walk_at "rd"
    refine r_ixT (SqT.of hq7) rfl ?_
    walk_at "rd"
    refine ifD (fun _ => ?_) (fun h => absurd rfl h)
    walk_at "rd"
    refine r_ixT (SqT.of hq7) rfl ?_
    walk_at "rd"
    have mid : ∀ g : Bool, (g = decide (1 ≤ i.natAbs ∧ i.natAbs < fr.names.length)) → g = true ∨ g = false := fun g _ => by cases g <;> simp
    have bad : ¬ (1 ≤ i.natAbs ∧ i.natAbs < fr.names.length) → actF (fr :: fs) (.step i) = (some .step, fr :: fs) := fun h => by simp only [actF]; rw [if_neg h]
    refine ifD (fun g1 => ?_) (fun g1 => ?_)
    · walk_at "rd"
      refine ifN (fun g2 => ?_) (fun g2 => ?_)
      · walk_at "rd"
        have e := bad (by omega)
        exact ret0 _ _ s7 (by rw [e]) (by rw [e]; rfl)
      · walk_at "rd"
        refine r_ixT (SqT.of hq7) rfl ?_
        walk_at "rd"
        refine ⟨(sz1000 (Nat.le_of_ble_eq_true rfl)), ?_⟩
        (intro p8 hl_; generalize he_ : upd _ p8 _ = H8; have n8 := New.mk hl_ he_.symm; clear hl_ he_)
        refine r_catT (n8.get (s7 _ _ h3.dn)) n8.at (by rw [List.length_map]; simp; omega) fun p9 H9 s9 e9 => ?_
        walk_at "rd"
        refine r_putK (k := .inr "dance") (s9 _ _ (n8.get hp7)) (by simp) ?_
        rw [lw_pd]
        have s09 : Same H H9 := s7.trans (n8.same.trans s9)
        generalize heA : upd H9 p _ = HA
        have s0A : Same H HA := by rw [← heA]; exact same_upd s09 hpf
        have h9p : p9 ≠ p := fun e => by rw [e, s9 _ _ (n8.get hp7)] at e9; cases e9
        have ea : actF (fr :: fs) (.step i) = (none, ⟨fr.names, fr.dance ++ [i], fr.ever, fr.deeds ++ [.step i]⟩ :: fr :: fs) := by simp only [actF]; rw [if_pos (by omega)]
        walk_at "rd"
        refine ret1 HA _ s0A ea (mk HA n p9 o _ s0A (by rw [← heA]; exact upd_same) (by rw [← heA, upd_ne hl2p]; exact s9 _ _ (n8.get hl7)) rfl ⟨h3.nX, h3.nm.same s0A⟩ ⟨?_, by rw [← heA, upd_ne h9p, e9, List.map_append]; rfl⟩ ⟨h3.eX, rd_mono h3.eX (SameX.of s0A) h3.ev⟩)
        exact (ok.same s09).tup e9
    · refine ⟨false, rfl, ?_⟩
      refine iteT ?_
      walk_at "rd"
      have e := bad (by omega)
      exact ret0 _ _ s7 (by rw [e]) (by rw [e]; rfl)
  | leave c =>
    refine r_ixT (SqT.of hq7) rfl ?_
    walk_at "rd"
    refine ifD (fun h => absurd h (by decide)) (fun _ => ?_)
    walk_at "rd"
    refine r_ixT (SqT.of hq7) rfl ?_
    walk_at "rd"
    refine ifD (fun h => absurd h (by decide)) (fun _ => ?_)
    walk_at "rd"
    refine r_ixT (SqT.of hq7) rfl ?_
    walk_at "rd"
    refine ifD (fun _ => ?_) (fun h => absurd rfl h)
    walk_at "rd"
    refine r_ixT (SqT.of hq7) rfl ?_
    walk_at "rd"
    have hsq : SqT K H7 n ((fr.names.map fun n => S [n]).map V.str) := by rw [← nm_map]; exact NT.sq (h3.nm.same s7)
    refine r_notInSt hsq ?_
    rw [nmV_mem]
    walk_at "rd"
    refine ifN (fun hc => ?_) (fun hc => ?_)
    · have e : actF (fr :: fs) (.leave c) = (some .name, fr :: fs) := by simp only [actF]; rw [if_pos hc]
      refine iteT ?_
      walk_at "rd"
      refine r_ixT (SqT.of hq7) rfl ?_
      walk_at "rd"
      refine r_notInSt hsq ?_
      rw [nmV_mem]
      walk_at "rd"
      refine ifN (fun _ => ?_) (fun h => absurd h hc)
      walk_at "rd"
      exact ret0 _ _ s7 (by rw [e]) (by rw [e]; rfl)
    · walk_at "rd"
      refine ifD (fun hm => ?_) (fun hm => ?_)
      · have e : actF (fr :: fs) (.leave c) = (some .now, fr :: fs) := by simp only [actF]; rw [if_neg (not_not_intro hc), if_pos (by omega)]
        walk_at "rd"
        refine r_ixT (SqT.of hq7) rfl ?_
        walk_at "rd"
        refine r_notInSt hsq ?_
        rw [nmV_mem]
        walk_at "rd"
        refine ifN (fun h => absurd hc h) (fun _ => ?_)
        walk_at "rd"
        exact ret0 _ _ s7 (by rw [e]) (by rw [e]; rfl)
      · have ea : actF (fr :: fs) (.leave c) = (none, ⟨drop1 fr.names (fr.names.idxOf c), left fr.names.length fr.dance (stayL fr.names.length (fr.names.idxOf c)), fr.ever, fr.deeds ++ [.leave c]⟩ :: fr :: fs) := by
          simp only [actF]; rw [if_neg (not_not_intro hc), if_neg (by omega)]
        walk_at "rd"
        have hix : fr.names.idxOf c < fr.names.length := List.idxOf_lt_length_of_mem hc
        refine ⟨n, _, rfl, h3.nm.same s7, ?_⟩
        walk_at "rd"
        refine r_ixT (SqT.of hq7) rfl ?_
        walk_at "rd"
        refine ⟨fr.names.map fun n => S [n], S [c], fr.names.idxOf c, rfl, hsq, ?_, fun m hm e => ?_, ?_⟩
        · rw [List.getElem?_map, List.getElem?_eq_getElem hix, List.getElem_idxOf]; rfl
        · have hl : m < fr.names.length := Nat.lt_of_lt_of_le hm (List.idxOf_le_length)
          rw [List.getElem?_map, List.getElem?_eq_getElem hl] at e
          have e2 : fr.names[m] = c := (List.cons.inj (S_inj (Option.some.inj e))).1
          exact absurd (beq_iff_eq.mpr e2) (by have := List.not_of_lt_findIdx (xs := fr.names) (p := (· == c)) hm; simpa using this)
        walk_at "rd"
        refine r_slF _ (h3.nm.same s7) (cut_take (j := fr.names.idxOf c) rfl) fun p8 H8 s8 t8 => ?_
        walk_at "rd"
        refine r_slF _ ((h3.nm.same s7).same s8) (cut_drop (j := fr.names.idxOf c + 1) (by omega)) fun p9 H9 s9 t9 => ?_
        refine r_catF (t8.same s9) t9 (by rw [List.length_map, List.length_map, List.length_take, List.length_drop]; omega) fun pA HA sA tA => ?_
        rw [drop1_map] at tA
        have s89 : Same H7 HA := s8.trans (s9.trans sA)
        walk_at "rd"
        refine r_putK (k := .inr "names") (s89 _ _ hp7) (by simp) ?_
        rw [lw_pn]
        have hpA : pA ≠ p := fun e => by rw [e] at tA; obtain ⟨_, e1, _⟩ := tA; rw [s89 _ _ hp7] at e1; cases e1
        have s0A : Same H HA := s7.trans s89
        have hAX : pA ∉ X := (ok.same s0A).nt tA
        generalize heB : upd HA p _ = HB
        have s0B : Same H HB := by rw [← heB]; exact same_upd s0A hpf
        have tB : NT HB pA ((drop1 fr.names (fr.names.idxOf c)).map nmV) := by rw [← heB]; exact tA.upd (Ne.symm hpA)
        have hpB : HB p = some (.dK (lwK (.ref a) l2 o pA d)) := by rw [← heB]; exact upd_same
        have hlB : HB l2 = some (.lst ((as ++ [q]).map V.ref)) := by rw [← heB, upd_ne hl2p]; exact s89 _ _ hl7
        walk_at "rd"
        refine ⟨_, rfl, by omega, by omega, ?_⟩
        refine lcR (lo := 0) (fun i => decide ((i : Int) ≠ ((fr.names.idxOf c : Nat) : Int))) (fun i => .int (i : Int)) (by omega) (fun i H4 hi s4 Y Nx q1 q2 => ?_) fun D H4 hD4 s4 e4 => ?_
        · rw [Int.zero_add]
          walk_at "rd"
          refine ⟨rfl, ?_⟩
          walk_at "rd"
          refine ifN (fun hne => ?_) (fun he => ?_)
          · walk_at "rd"
            exact q1 (decide_eq_true hne) _ (Same.refl _)
          · exact q2 (decide_eq_false (by rw [he]; exact fun h => h rfl)) _ (Same.refl _)
        have e4' : H4 D = some (.lst ((stayL fr.names.length (fr.names.idxOf c)).map V.int)) := by
          rw [e4, Int.toNat_natCast, ← stay_map]
        walk_at "rd"
        refine ⟨_, fr.dance, stayL fr.names.length (fr.names.idxOf c), d, D, rfl, s4 _ _ (s0B _ _ h3.dn), e4', W.dv, hhi, by omega, fun pC HC sC eC => ?_⟩
        walk_at "rd"
        have sBC : Same HB HC := s4.trans sC
        refine r_putK (k := .inr "dance") (sBC _ _ hpB) (by simp) ?_
        rw [lw_pd]
        have hpC : pC ≠ p := fun e => by rw [e, sBC _ _ hpB] at eC; cases eC
        have s0C : Same H HC := s0B.trans sBC
        generalize heD : upd HC p _ = HD
        have s0D : Same H HD := by rw [← heD]; exact same_upd s0C hpf
        walk_at "rd"
        refine ret1 HD _ s0D ea (mk HD pA pC o _ s0D (by rw [← heD]; exact upd_same) (by rw [← heD, upd_ne hl2p]; exact sBC _ _ hlB) rfl ⟨hAX, ?_⟩ ⟨(ok.same s0C).tup eC, by rw [← heD, upd_ne hpC]; exact eC⟩ ⟨h3.eX, rd_mono h3.eX (SameX.of s0D) h3.ev⟩)
        rw [← heD]
        exact (tB.same sBC).upd (Ne.symm hpC |> fun _ => Ne.symm hpA)
  | join i c =>
    refine r_ixT (SqT.of hq7) rfl ?_
    walk_at "rd"
    refine ifD (fun h => absurd h (by decide)) (fun _ => ?_)
    walk_at "rd"
    refine r_ixT (SqT.of hq7) rfl ?_
    walk_at "rd"
    refine ifD (fun h => absurd h (by decide)) (fun _ => ?_)
    walk_at "rd"
    refine r_ixT (SqT.of hq7) rfl ?_
    walk_at "rd"
    refine ifD (fun h => absurd h (by decide)) (fun _ => ?_)
    walk_at "rd"
    refine r_ixT (SqT.of hq7) rfl ?_
    walk_at "rd"
    refine ⟨(sz1000 (Nat.le_of_ble_eq_true rfl)), ?_⟩
    (intro p8 hl_; generalize he_ : upd _ p8 _ = H8; have n8 := New.mk hl_ he_.symm; clear hl_ he_)
    have s8 : Same H H8 := s7.trans n8.same
    have hq8 := n8.get hq7
    refine r_notInI (l := [0, (fr.names.length : Int)]) (SqT.of n8.at) ?_
    walk_at "rd"
    by_cases hi : i = 0 ∨ i = fr.names.length
    rotate_left
    · have hd : decide (i ∈ [0, (fr.names.length : Int)]) = false := decide_eq_false (by simp only [List.mem_cons, List.not_mem_nil, or_false]; exact hi)
      rw [hd]
      have e : actF (fr :: fs) (.join i c) = (some .number, fr :: fs) := by simp only [actF]; rw [if_pos hi]
      refine iteT ?_
      walk_at "rd"
      exact ret0 _ _ s8 (by rw [e]) (by rw [e]; rfl)
    have hd : decide (i ∈ [0, (fr.names.length : Int)]) = true := decide_eq_true (by simp only [List.mem_cons, List.not_mem_nil, or_false]; exact hi)
    rw [hd]
    refine iteF ?_
    walk_at "rd"
    refine r_ixT (SqT.of hq8) rfl ?_
    walk_at "rd"
    refine r_getK (k := .inr "old") (s8 _ _ ha) (lw_old _ _ _ _ _) ?_
    have hev8 : SqT K H8 o ((fr.ever.map fun n => S [n]).map V.str) := by rw [← nm_map]; exact .inl (rd_mono h3.eX (SameX.of s8) h3.ev)
    refine r_inSt hev8 ?_
    walk_at "rd"
    rw [nmV_mem]
    refine ifD (fun hev => ?_) (fun hev => ?_)
    · have e : actF (fr :: fs) (.join i c) = (some .name, fr :: fs) := by simp only [actF]; rw [if_neg (not_not_intro hi), if_pos hev]
      refine iteT ?_
      walk_at "rd"
      refine r_ixT (SqT.of hq8) rfl ?_
      walk_at "rd"
      refine r_getK (k := .inr "old") (s8 _ _ ha) (lw_old _ _ _ _ _) ?_
      refine r_inSt hev8 ?_
      walk_at "rd"
      rw [nmV_mem]
      refine ifD (fun _ => ?_) (fun h => absurd hev h)
      walk_at "rd"
      exact ret0 _ _ s8 (by rw [e]) (by rw [e]; rfl)
    walk_at "rd"
    refine ifD (fun h5 => ?_) (fun h5 => ?_)
    · have e : actF (fr :: fs) (.join i c) = (some .now, fr :: fs) := by simp only [actF]; rw [if_neg (not_not_intro hi), if_neg hev, if_pos (by omega)]
      walk_at "rd"
      refine r_ixT (SqT.of hq8) rfl ?_
      walk_at "rd"
      refine r_getK (k := .inr "old") (s8 _ _ ha) (lw_old _ _ _ _ _) ?_
      refine r_inSt hev8 ?_
      walk_at "rd"
      rw [nmV_mem]
      refine ifD (fun h => absurd h hev) (fun _ => ?_)
      walk_at "rd"
      exact ret0 _ _ s8 (by rw [e]) (by rw [e]; rfl)
    walk_at "rd"
    refine r_getK (k := .inr "old") (s8 _ _ ha) (lw_old _ _ _ _ _) ?_
    walk_at "rd"
    refine r_ixT (SqT.of hq8) rfl ?_
    walk_at "rd"
    refine ⟨(sz1000 (Nat.le_of_ble_eq_true rfl)), ?_⟩
    (intro p9 hl_; generalize he_ : upd _ p9 _ = H9; have n9 := New.mk hl_ he_.symm; clear hl_ he_)
    have s9 := s8.trans n9.same
    refine r_catR (rd_mono h3.eX (SameX.of s9) h3.ev) n9.at (List.cons_ne_nil _ _) (by rw [List.length_map]; simp; omega) fun oA HA sA eA => ?_
    walk_at "rd"
    have s0A := s9.trans sA
    have hpA9 := sA _ _ (n9.get (n8.get hp7))
    refine r_putK (k := .inr "old") hpA9 (by simp) ?_
    rw [lw_po]
    have hoA : oA ≠ p := fun e => by
      rw [e] at eA
      rcases eA with h | ⟨_, h⟩ <;> rw [hpA9] at h <;> cases h
    have hoX : oA ∉ X := (fun hm => by
      rcases (ok.same s0A) oA hm with ⟨_, _, _, e⟩ | ⟨_, e⟩ | ⟨_, e⟩ <;> rcases eA with h | ⟨_, h⟩ <;> rw [e] at h <;> cases h)
    have eA2 : Rd HA oA (.tup ((fr.ever ++ [c]).map nmV)) := by rw [List.map_append]; exact eA
    generalize heB : upd HA p _ = HB
    have s0B : Same H HB := by rw [← heB]; exact same_upd s0A hpf
    have eB : Rd HB oA (.tup ((fr.ever ++ [c]).map nmV)) := by
      rw [← heB]
      rcases eA2 with h | ⟨ob, h⟩
      · exact .inl (by rw [upd_ne hoA]; exact h)
      · exact .inr ⟨ob, by rw [upd_ne hoA]; exact h⟩
    have hpB : HB p = some (.dK (lwK (.ref a) l2 oA n d)) := by rw [← heB]; exact upd_same
    have hlB : HB l2 = some (.lst ((as ++ [q]).map V.ref)) := by rw [← heB, upd_ne hl2p]; exact sA _ _ (n9.get (n8.get hl7))
    clear heB
    walk_at "rd"
    refine r_ixT (SqT.of (s0B _ _ hq)) rfl ?_
    walk_at "rd"
    refine ⟨(sz1000 (Nat.le_of_ble_eq_true rfl)), fun pC HC hfC sC tC' => ?_⟩
    refine r_catF ((h3.nm.same s0B).same sC) tC' (by rw [List.length_map]; simp; omega) fun pD HD sD tD => ?_
    walk_at "rd"
    have sBD := sC.trans sD
    refine r_putK (k := .inr "names") (sBD _ _ hpB) (by simp) ?_
    rw [lw_pn]
    have hpD : pD ≠ p := fun e => by rw [e] at tD; obtain ⟨_, e1, _⟩ := tD; rw [sBD _ _ hpB] at e1; cases e1
    have s0D := s0B.trans sBD
    have hDX : pD ∉ X := (ok.same s0D).nt tD
    have tD2 : NT HD pD ((fr.names ++ [c]).map nmV) := by rw [List.map_append]; exact tD
    generalize heE : upd HD p _ = HE
    have s0E : Same H HE := by rw [← heE]; exact same_upd s0D hpf
    have tE' : NT HE pD ((fr.names ++ [c]).map nmV) := by rw [← heE]; exact tD2.upd (Ne.symm hpD)
    have hpE : HE p = some (.dK (lwK (.ref a) l2 oA pD d)) := by rw [← heE]; exact upd_same
    have hlE : HE l2 = some (.lst ((as ++ [q]).map V.ref)) := by rw [← heE, upd_ne hl2p]; exact sBD _ _ hlB
    have eE : Rd HE oA (.tup ((fr.ever ++ [c]).map nmV)) := by
      rw [← heE]
      rcases eB with h | ⟨ob, h⟩
      · exact .inl (by rw [upd_ne hoA]; exact sBD _ _ h)
      · exact .inr ⟨ob, by rw [upd_ne hoA]; exact sBD _ _ h⟩
    clear heE
    walk_at "rn"
    refine r_ifJ (fun σ H' => σ = [some (.ref a), some (.ref q), some (.ref n), some (.ref d), some (.int fr.names.length), some (.ref p), none, none] ∧ ∃ nn, Same H H' ∧ H' p = some (.dK (lwK (.ref a) l2 oA nn d)) ∧ H' l2 = some (.lst ((as ++ [q]).map V.ref)) ∧ nn ∉ X ∧ NT H' nn ((if i = 0 then c :: fr.names else fr.names ++ [c]).map nmV) ∧ Rd H' oA (.tup ((fr.ever ++ [c]).map nmV))) (fun N hN' => ?_) ?_
    · walk_at "rd"
      refine r_ixT (SqT.of (s0E _ _ hq)) rfl ?_
      walk_at "rd"
      refine ifD (fun h0 => ?_) (fun h0 => ?_)
      · walk_at "rd"
        refine r_ixT (SqT.of (s0E _ _ hq)) rfl ?_
        walk_at "rd"
        refine ⟨(sz1000 (Nat.le_of_ble_eq_true rfl)), fun pF HF hfF sF tF => ?_⟩
        walk_at "rd"
        refine r_catF tF ((h3.nm.same s0E).same sF) (by rw [List.length_map]; simp; omega) fun pG HG sG tG => ?_
        walk_at "rd"
        have sEG := sF.trans sG
        refine r_putK (k := .inr "names") (sEG _ _ hpE) (by simp) ?_
        rw [lw_pn]
        have hpG : pG ≠ p := fun e => by rw [e] at tG; obtain ⟨_, e1, _⟩ := tG; rw [sEG _ _ hpE] at e1; cases e1
        have s0G := s0E.trans sEG
        refine hN' _ _ ⟨rfl, pG, same_upd s0G hpf, upd_same, by rw [upd_ne hl2p]; exact sEG _ _ hlE, (ok.same s0G).nt tG, ?_, ?_⟩
        · rw [if_pos h0]
          exact tG.upd (Ne.symm hpG)
        · rcases eE with h | ⟨ob, h⟩
          · exact .inl (by rw [upd_ne hoA]; exact sEG _ _ h)
          · exact .inr ⟨ob, by rw [upd_ne hoA]; exact sEG _ _ h⟩
      · walk_at "rd"
        exact hN' _ _ ⟨rfl, pD, s0E, hpE, hlE, hDX, by rw [if_neg h0]; exact tE', eE⟩
    · rintro σ HF ⟨rfl, nn, s0F, hpF, hlF, hnX, tF, eF⟩
      walk_at "rd"
      refine r_ixT (SqT.of (s0F _ _ hq)) rfl ?_
      walk_at "rd"
      refine ⟨_, fr.dance, d, rfl, s0F _ _ h3.dn, by omega, fun pG HG sG eG => ?_⟩
      walk_at "rd"
      refine r_putK (k := .inr "dance") (sG _ _ hpF) (by simp) ?_
      rw [lw_pd]
      have hpG : pG ≠ p := fun e => by rw [e, sG _ _ hpF] at eG; cases eG
      have s0G := s0F.trans sG
      generalize heH : upd HG p _ = HH
      have s0H : Same H HH := by rw [← heH]; exact same_upd s0G hpf
      have ed : moved fr.dance (if decide (i = 0) = true then 1 else 0) = if i = 0 then moved fr.dance 1 else fr.dance := by
        by_cases h0 : i = 0
        · rw [if_pos (decide_eq_true h0), if_pos h0]
        · rw [if_neg (by rw [decide_eq_false h0]; exact Bool.false_ne_true), if_neg h0, moved_zero]
      rw [ed] at eG
      have ea : actF (fr :: fs) (.join i c) = (none, ⟨if i = 0 then c :: fr.names else fr.names ++ [c], if i = 0 then moved fr.dance 1 else fr.dance, fr.ever ++ [c], fr.deeds ++ [.join i c]⟩ :: fr :: fs) := by
        simp only [actF]; rw [if_neg (not_not_intro hi), if_neg hev, if_neg (by omega)]
      walk_at "rd"
      refine ret1 HH _ s0H ea (mk HH nn pG oA _ s0H (by rw [← heH]; exact upd_same) (by rw [← heH, upd_ne hl2p]; exact sG _ _ hlF) rfl ⟨hnX, ?_⟩ ⟨(ok.same s0G).tup eG, by rw [← heH, upd_ne hpG]; exact eG⟩ ⟨hoX, ?_⟩)
      · have hnp : nn ≠ p := fun e => by rw [e] at tF; obtain ⟨_, e1, _⟩ := tF; rw [hpF] at e1; cases e1
        rw [← heH]
        exact (tF.same sG).upd (Ne.symm hnp)
      · rw [← heH]
        rcases eF with h | ⟨ob, h⟩
        · exact .inl (by rw [upd_ne hoA]; exact sG _ _ h)
        · exact .inr ⟨ob, by rw [upd_ne hoA]; exact sG _ _ h⟩
end
end My
end

section
set_option Elab.async false
set_option linter.all false
set_option maxRecDepth 100000
set_option maxHeartbeats 4000000
/-! EC: the law leads a floor; what it catches. -/
namespace My
open PySem PySem.Spec PyProof.Rows L2 He LamX SX
local macro_rules | `(tactic| walk_at "rd") => `(tactic| repeat (with_reducible first
  | refine r_seq ?_ | refine r_asg ?_ | refine r_var (by with_unfolding_all rfl) ?_ | refine r_c ?_ | refine r_op ?_ | refine r_I0 ?_ | refine r_name ?_ | refine r_ret ?_ | refine r_if ?_ | refine r_cons ?_ | refine r_nil ?_
  | refine r_CB ?_ | refine r_call ?_ | refine r_test ?_ | refine r_eqI ?_ | refine r_eqS ?_ | refine r_neI ?_ | refine r_neS ?_ | refine r_drop ?_ | refine r_next ?_ | refine r_ifE ?_ | refine r_B ?_ | refine r_andV ?_ | refine r_orV ?_ | refine r_notV ?_ | refine r_blV ?_
  | refine r_and ?_ | refine r_or ?_ | refine r_not ?_ | refine r_tup ?_ | refine r_lst ?_ | refine r_par ?_ | refine r_exv2 ?_ | refine r_un ?_ | refine r_neg ?_ | refine r_isN ?_ | refine r_notN ?_ | refine r_retN ?_ | refine r_chain ?_
  | refine r_star ?_ | refine r_lstRg ?_ | refine r_rg1 ?_ | refine r_rg2 ?_ | refine r_exi ?_ | refine r_exi2 ?_ | refine r_sl ?_ | refine r_noPart ?_ | refine r_part ?_ | refine r_gnil ?_ | refine r_gcons ?_ | refine r_gsub ?_ | refine r_BM ?_ | refine r_M1 ?_ | refine r_isstr ?_ | refine r_meth ?_ | refine r_make ?_ | refine r_fld ?_ | refine r_abs ?_ | refine r_isiIntInt ?_ | refine r_isiIntBool ?_ | refine r_isiStr ?_ | refine r_min ?_ | refine r_max ?_ | refine r_int1 ?_ | refine r_intb ?_ | refine r_for ?_ | refine r_itup ?_ | refine r_ilist ?_ | refine r_lc ?_ | refine r_yes ?_ | refine r_istr ?_ | refine r_rng1 ?_ | refine r_rng2 ?_ | refine r_dput ?_ | refine r_daug ?_ | refine r_dget ?_ | refine r_dnewT ?_ | refine r_addI ?_ | refine r_ev ?_ | refine r_sfld ?_ | refine r_faug ?_ | refine r_prop ?_ | refine r_while ?_ | refine r_augS ?_ | refine r_tupF ?_ | refine r_idxT ?_ | refine r_kd ?_ | refine r_ki ?_ | refine r_enum ?_))

local macro_rules | `(tactic| walk_at "rn") => `(tactic| repeat (with_reducible first
  | refine r_seq ?_ | refine r_asg ?_ | refine r_var (by with_unfolding_all rfl) ?_ | refine r_c ?_ | refine r_op ?_ | refine r_I0 ?_ | refine r_name ?_ | refine r_ret ?_ | refine r_cons ?_ | refine r_nil ?_
  | refine r_CB ?_ | refine r_call ?_ | refine r_test ?_ | refine r_eqI ?_ | refine r_eqS ?_ | refine r_neI ?_ | refine r_neS ?_ | refine r_drop ?_ | refine r_next ?_ | refine r_B ?_ | refine r_andV ?_ | refine r_orV ?_ | refine r_notV ?_ | refine r_blV ?_
  | refine r_and ?_ | refine r_or ?_ | refine r_not ?_ | refine r_tup ?_ | refine r_lst ?_ | refine r_par ?_ | refine r_exv2 ?_ | refine r_un ?_ | refine r_neg ?_ | refine r_isN ?_ | refine r_notN ?_ | refine r_retN ?_ | refine r_chain ?_
  | refine r_star ?_ | refine r_lstRg ?_ | refine r_rg1 ?_ | refine r_rg2 ?_ | refine r_exi ?_ | refine r_exi2 ?_ | refine r_sl ?_ | refine r_noPart ?_ | refine r_part ?_ | refine r_gnil ?_ | refine r_gcons ?_ | refine r_gsub ?_ | refine r_BM ?_ | refine r_M1 ?_ | refine r_isstr ?_ | refine r_meth ?_ | refine r_make ?_ | refine r_fld ?_ | refine r_abs ?_ | refine r_isiIntInt ?_ | refine r_isiIntBool ?_ | refine r_isiStr ?_ | refine r_min ?_ | refine r_max ?_ | refine r_int1 ?_ | refine r_intb ?_ | refine r_for ?_ | refine r_itup ?_ | refine r_ilist ?_ | refine r_lc ?_ | refine r_yes ?_ | refine r_istr ?_ | refine r_rng1 ?_ | refine r_rng2 ?_ | refine r_dput ?_ | refine r_daug ?_ | refine r_dget ?_ | refine r_dnewT ?_ | refine r_addI ?_ | refine r_ev ?_ | refine r_sfld ?_ | refine r_faug ?_ | refine r_prop ?_ | refine r_while ?_ | refine r_augS ?_ | refine r_tupF ?_ | refine r_idxT ?_ | refine r_kd ?_ | refine r_ki ?_ | refine r_enum ?_))

local macro_rules | `(tactic| walk_at "hp") => `(tactic| (with_reducible first
  | assumption | exact New.at (by assumption)
  | exact SqT.of (by walk_at "hp") | exact SqL.of (by walk_at "hp") | exact Or.inl (by walk_at "hp") | exact Or.inr (by walk_at "hp")
  | exact New.get (by assumption) (by walk_at "hp") | exact Same.get (by assumption) (by walk_at "hp")))


section
variable {X : Cx} {k j : Nat} {C : Addr} {m : Str} {sp : Sp} {E : XK} {pos apos : Pos} {o : Expr} {ta : TE} {tk : TA} {ks : List Str} {kws : List Keyword}
def tMethK (C : Addr) (m : Str) (n : Nat) (sp : Sp) (E : XK) (ta : TE) (tk : TA) : TE := fun σ H Q => ta σ H fun x H1 => ∃ a dx fs, x = .ref a ∧ H1 a = some (.ins C dx fs) ∧ fs.lookup m = none ∧ tk σ H1 fun zs H2 => zs.length = n ∧ sp (x :: zs) H2 Q E
theorem r_methK {σ : St} {H : Hp} {Q : VK} {n : Nat} (h : ta σ H fun x H1 => ∃ a dx fs, x = .ref a ∧ H1 a = some (.ins C dx fs) ∧ fs.lookup m = none ∧ tk σ H1 fun zs H2 => zs.length = n ∧ sp (x :: zs) H2 Q E) : tMethK C m n sp E ta tk σ H Q := h
theorem pe_mtEK0 {pl : Sem Bool} (c : MetEK X.prog X.w X.K X.mg X.base k C m sp ks) (hr : Room j X.A) (hk : k ≤ j) (hx : Passes (L2.CX X.prog X.w) X E) (he : PE X o ta) (hkw : PK X kws tk)
    (hall : (backToKw pos (keywordEach kws X.env)).all (·.1.isSome) = true := by rfl) (hks : (backToKw pos (keywordEach kws X.env)).filterMap (·.1) = ks := by rfl)
    (hpl : ((backTo pos (starEach [] X.env)).any (·.1) || (backToKw pos (keywordEach kws X.env)).any (·.1.isNone)) = false := by rfl)
    (ht : eval (.Call (.Attribute o m apos) [] kws pos) X.env = (do
      let ov ← eval o X.env
      standAt apos.atName
      let (f, first) ← holding [ov] (getMethod ov m pl)
      callWith pos f first (backTo pos (starEach [] X.env)) (backToKw pos (keywordEach kws X.env))) := by rfl) :
    PE X (.Call (.Attribute o m apos) [] kws pos) (tMethK C m ks.length sp E ta tk) := by
  obtain ⟨f, fd, ps, hc, hm, F, _, b⟩ := c.ex
  refine ⟨fun pins s σ H Q I h => ?_⟩
  refine PySem.W.methodCall_KW (pl := pl) (thn (he.run pins s σ H _ I h) fun u s1 ⟨x, H1, I1, rx, a, dx, fs, ex, ea, l, q⟩ => ?_) ht
  subst ex
  obtain rfl : u = Value.ref a := rx
  refine getmeth_ok I1 ea hc hm l ?_
  refine PySem.W.callWith_KW0 (first := [.ref a]) (h₀ := X.base) I.ok.mod.kin hm.kp hall (thn (hkw.run pos pins s1 σ H1 _ I1 q) fun ws s2 ⟨zs, H2, I2, rz, hz, q2⟩ => ⟨I2.kIn, ?_⟩) hpl
  rw [hks]
  exact run_fnN (us := [.ref a]) (vs := [.ref a]) F (hr.mono hk) b hx I2 (.cons rfl .nil) rz rfl hz q2
end
section
variable {w : World} {K : PySem.W.Frag} {mg : Str → Option Value} {base : Heap}
theorem e_L_do (T : Tx w K mg base) : CalE P0 w K mg base 8 "_law_do" (sp_do K) := by
  obtain ⟨fd, F⟩ := f_L_do T
  refine calE_of F (g_L_do T) (fun _ _ _ _ _ _ us hl => match us, hl with | [_, _], _ => rfl) sc_L_do (fun vs H Q E h => by obtain ⟨_, _, _, _, _, _, _, _, _, rfl, _⟩ := h; rfl) (fun cdv A outer s H vs Q E hr h => ?_)
  obtain ⟨X, f, dx, m0, N, fr, fs, q, dq, rfl, hq, hok, hf, W, hN, k⟩ := h
  refine ⟨_, (pss_cons (ps_if (pt_cmpR op_eq (pe_ix (ixT (K := K)) (pv 1) pe_int (fun _ _ => rfl)) pe_str (nomark _)) (pss_one (ps_ret (pe_mtE0 (e_Floor_undo (K := K) T) hr (by decide) (passes_call (takes_of rfl rfl rfl rfl) (fun _ _ _ _ h => h)) (pv 0)))) pss_nil)
  (pss_cons (ps_if (pt_cmpR op_eq (pe_ix (ixT (K := K)) (pv 1) pe_int (fun _ _ => rfl)) pe_str (nomark _)) (pss_one (ps_ret (pe_mtE (e_Floor_step (K := K) T) hr (by decide) (passes_call (takes_of rfl rfl rfl rfl) (fun _ _ _ _ h => h)) (pv 0) (pa_cons (pe_ix (ixT (K := K)) (pv 1) pe_int (fun _ _ => rfl)) pa_nil)))) pss_nil)
  (pss_one (ps_ret (pe_ifExp (pt_cmpR op_eq (pe_ix (ixT (K := K)) (pv 1) pe_int (fun _ _ => rfl)) pe_str (nomark _)) (pe_mtEK0 (ek_Floor_leave (K := K) T) hr (by decide) (passes_call (takes_of rfl rfl rfl rfl) (fun _ _ _ _ h => h)) (pv 0) (pk_cons (pe_ix (ixT (K := K)) (pv 1) pe_int (fun _ _ => rfl)) pk_nil)) (pe_mtE (e_Floor_join (K := K) T) hr (by decide) (passes_call (takes_of rfl rfl rfl rfl) (fun _ _ _ _ h => h)) (pv 0) (pa_cons (pe_ix (ixT (K := K)) (pv 1) pe_int (fun _ _ => rfl)) (pa_cons (pe_ix (ixT (K := K)) (pv 1) pe_int (fun _ _ => rfl)) pa_nil)))))))), ?_⟩
  obtain ⟨a, dx', n, d, e, l, bf, h1, h2, h3, h4⟩ := r_stOf hf
  walk_at "rd"
  cases q with
  | step i =>
    refine r_ixT (SqT.of hq) rfl ?_
    walk_at "rd"
    refine ifD (fun h => absurd h (by decide)) (fun _ => ?_)
    walk_at "rd"
    refine r_ixT (SqT.of hq) rfl ?_
    walk_at "rd"
    refine ifD (fun _ => ?_) (fun h => absurd rfl h)
    walk_at "rd"
    refine r_me h1 ?_
    walk_at "rd"
    refine r_ixT (SqT.of hq) rfl ?_
    walk_at "rd"
    exact ⟨X, f, dx, m0, N, fr, fs, i, rfl, hf, W, hN, k.mono (fun H' h => h) fun _ _ _ h => h⟩
  | leave c =>
    refine r_ixT (SqT.of hq) rfl ?_
    walk_at "rd"
    refine ifD (fun h => absurd h (by decide)) (fun _ => ?_)
    walk_at "rd"
    refine r_ixT (SqT.of hq) rfl ?_
    walk_at "rd"
    refine ifD (fun h => absurd h (by decide)) (fun _ => ?_)
    walk_at "rd"
    refine r_ixT (SqT.of hq) rfl ?_
    walk_at "rd"
    refine ifD (fun _ => ?_) (fun h => absurd rfl h)
    refine r_methK ?_
    walk_at "rd"
    refine r_me h1 ?_
    walk_at "rd"
    refine r_ixT (SqT.of hq) rfl ?_
    walk_at "rd"
    exact ⟨rfl, X, f, dx, m0, N, fr, fs, c, rfl, hf, W, hN, k.mono (fun H' h => h) fun _ _ _ h => h⟩
  | join i c =>
    refine r_ixT (SqT.of hq) rfl ?_
    walk_at "rd"
    refine ifD (fun h => absurd h (by decide)) (fun _ => ?_)
    walk_at "rd"
    refine r_ixT (SqT.of hq) rfl ?_
    walk_at "rd"
    refine ifD (fun h => absurd h (by decide)) (fun _ => ?_)
    walk_at "rd"
    refine r_ixT (SqT.of hq) rfl ?_
    walk_at "rd"
    refine ifD (fun h => absurd h (by decide)) (fun _ => ?_)
    walk_at "rd"
    refine r_me h1 ?_
    walk_at "rd"
    refine r_ixT (SqT.of hq) rfl ?_
    walk_at "rd"
    refine r_ixT (SqT.of hq) rfl ?_
    walk_at "rd"
    exact ⟨X, f, dx, m0, N, fr, fs, i, c, rfl, hok.1, hok.2, hf, W, hN, k.mono (fun H' h => h) fun _ _ _ h => h⟩
  | undo =>
    refine r_ixT (SqT.of hq) rfl ?_
    walk_at "rd"
    refine ifD (fun _ => ?_) (fun h => absurd rfl h)
    walk_at "rd"
    refine r_me h1 ?_
    walk_at "rd"
    exact ⟨X, f, dx, m0, fr, fs, rfl, hf, k.mono (fun H' h => h) fun _ _ _ h => h⟩
end
end My
end

section
set_option Elab.async false
set_option linter.all false
set_option maxRecDepth 100000
set_option maxHeartbeats 4000000
/-! ED: what the law catches. -/
namespace My
open PySem PySem.Spec PyProof.Rows L2 He LamX SX
local macro_rules | `(tactic| walk_at "rd") => `(tactic| repeat (with_reducible first
  | refine r_seq ?_ | refine r_asg ?_ | refine r_var (by with_unfolding_all rfl) ?_ | refine r_c ?_ | refine r_op ?_ | refine r_I0 ?_ | refine r_name ?_ | refine r_ret ?_ | refine r_if ?_ | refine r_cons ?_ | refine r_nil ?_
  | refine r_CB ?_ | refine r_call ?_ | refine r_test ?_ | refine r_eqI ?_ | refine r_eqS ?_ | refine r_neI ?_ | refine r_neS ?_ | refine r_drop ?_ | refine r_next ?_ | refine r_ifE ?_ | refine r_B ?_ | refine r_andV ?_ | refine r_orV ?_ | refine r_notV ?_ | refine r_blV ?_
  | refine r_and ?_ | refine r_or ?_ | refine r_not ?_ | refine r_tup ?_ | refine r_lst ?_ | refine r_par ?_ | refine r_exv2 ?_ | refine r_un ?_ | refine r_neg ?_ | refine r_isN ?_ | refine r_notN ?_ | refine r_retN ?_ | refine r_chain ?_
  | refine r_star ?_ | refine r_lstRg ?_ | refine r_rg1 ?_ | refine r_rg2 ?_ | refine r_exi ?_ | refine r_exi2 ?_ | refine r_sl ?_ | refine r_noPart ?_ | refine r_part ?_ | refine r_gnil ?_ | refine r_gcons ?_ | refine r_gsub ?_ | refine r_BM ?_ | refine r_M1 ?_ | refine r_isstr ?_ | refine r_meth ?_ | refine r_make ?_ | refine r_fld ?_ | refine r_abs ?_ | refine r_isiIntInt ?_ | refine r_isiIntBool ?_ | refine r_isiStr ?_ | refine r_min ?_ | refine r_max ?_ | refine r_int1 ?_ | refine r_intb ?_ | refine r_for ?_ | refine r_itup ?_ | refine r_ilist ?_ | refine r_lc ?_ | refine r_yes ?_ | refine r_istr ?_ | refine r_rng1 ?_ | refine r_rng2 ?_ | refine r_dput ?_ | refine r_daug ?_ | refine r_dget ?_ | refine r_dnewT ?_ | refine r_addI ?_ | refine r_ev ?_ | refine r_sfld ?_ | refine r_faug ?_ | refine r_prop ?_ | refine r_while ?_ | refine r_augS ?_ | refine r_tupF ?_ | refine r_idxT ?_ | refine r_kd ?_ | refine r_ki ?_ | refine r_enum ?_))

local macro_rules | `(tactic| walk_at "rn") => `(tactic| repeat (with_reducible first
  | refine r_seq ?_ | refine r_asg ?_ | refine r_var (by with_unfolding_all rfl) ?_ | refine r_c ?_ | refine r_op ?_ | refine r_I0 ?_ | refine r_name ?_ | refine r_ret ?_ | refine r_cons ?_ | refine r_nil ?_
  | refine r_CB ?_ | refine r_call ?_ | refine r_test ?_ | refine r_eqI ?_ | refine r_eqS ?_ | refine r_neI ?_ | refine r_neS ?_ | refine r_drop ?_ | refine r_next ?_ | refine r_B ?_ | refine r_andV ?_ | refine r_orV ?_ | refine r_notV ?_ | refine r_blV ?_
  | refine r_and ?_ | refine r_or ?_ | refine r_not ?_ | refine r_tup ?_ | refine r_lst ?_ | refine r_par ?_ | refine r_exv2 ?_ | refine r_un ?_ | refine r_neg ?_ | refine r_isN ?_ | refine r_notN ?_ | refine r_retN ?_ | refine r_chain ?_
  | refine r_star ?_ | refine r_lstRg ?_ | refine r_rg1 ?_ | refine r_rg2 ?_ | refine r_exi ?_ | refine r_exi2 ?_ | refine r_sl ?_ | refine r_noPart ?_ | refine r_part ?_ | refine r_gnil ?_ | refine r_gcons ?_ | refine r_gsub ?_ | refine r_BM ?_ | refine r_M1 ?_ | refine r_isstr ?_ | refine r_meth ?_ | refine r_make ?_ | refine r_fld ?_ | refine r_abs ?_ | refine r_isiIntInt ?_ | refine r_isiIntBool ?_ | refine r_isiStr ?_ | refine r_min ?_ | refine r_max ?_ | refine r_int1 ?_ | refine r_intb ?_ | refine r_for ?_ | refine r_itup ?_ | refine r_ilist ?_ | refine r_lc ?_ | refine r_yes ?_ | refine r_istr ?_ | refine r_rng1 ?_ | refine r_rng2 ?_ | refine r_dput ?_ | refine r_daug ?_ | refine r_dget ?_ | refine r_dnewT ?_ | refine r_addI ?_ | refine r_ev ?_ | refine r_sfld ?_ | refine r_faug ?_ | refine r_prop ?_ | refine r_while ?_ | refine r_augS ?_ | refine r_tupF ?_ | refine r_idxT ?_ | refine r_kd ?_ | refine r_ki ?_ | refine r_enum ?_))

local macro_rules | `(tactic| walk_at "hp") => `(tactic| (with_reducible first
  | assumption | exact New.at (by assumption)
  | exact SqT.of (by walk_at "hp") | exact SqL.of (by walk_at "hp") | exact Or.inl (by walk_at "hp") | exact Or.inr (by walk_at "hp")
  | exact New.get (by assumption) (by walk_at "hp") | exact Same.get (by assumption) (by walk_at "hp")))


/-! ### all but the tables stays -/
section
variable {K : PySem.W.Frag} {X : List Addr} {H H' : Hp}
theorem OkX.extN (h : OkX X H) (s : ExtN H H') : OkX X H' := fun x m => by
  rcases h x m with ⟨C, dx, fs, e⟩ | ⟨kvs, e⟩ | ⟨xs, e⟩
  · exact .inl ⟨C, dx, fs, s _ _ e (fun _ z => nomatch z)⟩
  · exact .inr (.inl ⟨kvs, s _ _ e (fun _ z => nomatch z)⟩)
  · exact .inr (.inr ⟨xs, s _ _ e (fun _ z => nomatch z)⟩)
theorem DeedsAt.extN (s : ExtN H H') : ∀ {as : List Addr} {qs : List Dd}, DeedsAt X H as qs → DeedsAt X H' as qs
  | [], [], _ => trivial
  | a :: as, q :: qs, h => ⟨⟨h.1.1, s _ _ h.1.2 (fun _ z => nomatch z)⟩, DeedsAt.extN s h.2⟩
  | [], _ :: _, h => h.elim
  | _ :: _, [], h => h.elim
theorem FrAt.extN {n d e l : Addr} {fr : Fr} (h : FrAt K X H n d e l fr) (s : ExtN H H') : FrAt K X H' n d e l fr :=
  ⟨h.nX, (let ⟨o, q, r⟩ := h.nm; ⟨o, s _ _ q (fun _ z => nomatch z), r⟩), h.dX, s _ _ h.dn (fun _ z => nomatch z), h.eX, (by
    rcases h.ev with q | ⟨o, q⟩
    · exact .inl (s _ _ q (fun _ z => nomatch z))
    · exact .inr ⟨o, s _ _ q (fun _ z => nomatch z)⟩), h.lX, let ⟨as, q, r⟩ := h.dd; ⟨as, s _ _ q (fun _ z => nomatch z), r.extN s⟩⟩
theorem IsSt.extN (s : ExtN H H') : ∀ {fs : List Fr} {v : V}, IsSt K X H fs v → IsSt K X H' fs v
  | [], _, h => h
  | _ :: _, _, ⟨a, dx, n, d, e, l, bf, h1, h2, h3, h4, h5⟩ => ⟨a, dx, n, d, e, l, bf, h1, h2, s _ _ h3 (fun _ z => nomatch z), h4.extN s, IsSt.extN s h5⟩
theorem IsLw.extN (s : ExtN H H') : ∀ {fs : List Fr} {v : V}, IsLw K X H fs v → IsLw K X H' fs v
  | [], _, h => h
  | _ :: _, _, ⟨a, l, o, n, d, ah, h1, h2, h3, h4, h5⟩ => ⟨a, l, o, n, d, ah, h1, h2, s _ _ h3 (fun _ z => nomatch z), h4.extN s, IsLw.extN s h5⟩
theorem FlAt.extN {f dx : Addr} {m0 : Nat} {fs : List Fr} (h : FlAt K X H f dx m0 fs) (s : ExtN H H') : FlAt K X H' f dx m0 fs :=
  ⟨h.ok.extN s, h.fX, let ⟨v, e, r⟩ := h.st; ⟨v, s _ _ e (fun _ z => nomatch z), r.extN s⟩⟩
theorem DkAt.extN {t f dx : Addr} {m0 : Nat} {fs : List Fr} (h : DkAt K X H t f dx m0 fs) (s : ExtN H H') : DkAt K X H' t f dx m0 fs :=
  ⟨h.tX, let ⟨dy, e⟩ := h.at_; ⟨dy, s _ _ e (fun _ z => nomatch z)⟩, h.fl.extN s⟩
theorem DrAt.extN {d l c : Addr} (h : DrAt H d l c) (s : ExtN H H') : DrAt H' d l c :=
  ⟨let ⟨r, t, e⟩ := h.dr; ⟨r, t, s _ _ e (fun _ z => nomatch z)⟩, let ⟨x, e⟩ := h.lg; ⟨x, s _ _ e (fun _ z => nomatch z)⟩, let ⟨x, e⟩ := h.cl; ⟨x, s _ _ e (fun _ z => nomatch z)⟩, h.lc⟩
/-- the tables stay, where what changes is none of theirs -/
theorem Tabs.mono {T : List (Addr × Str)} (t : Tabs T H) (ok : OkX X H) (s : SameX X H H') : Tabs T H' := fun p hp => by
  obtain ⟨ps, h1, h2, h3⟩ := t p hp
  have out : ∀ {b : Addr} {u : HO}, H b = some u → (∀ C dx fs, u ≠ .ins C dx fs) → (∀ k, u ≠ .dK k) → (∀ k, u ≠ .lst k) → b ∉ X := fun hb a1 a2 a3 hm => by
    rcases ok _ hm with ⟨C, dx, fs, e⟩ | ⟨k, e⟩ | ⟨k, e⟩ <;> rw [hb] at e <;> cases e
    · exact a1 _ _ _ rfl
    · exact a2 _ rfl
    · exact a3 _ rfl
  refine ⟨ps, s _ _ (out h1 (fun _ _ _ z => nomatch z) (fun _ z => nomatch z) (fun _ z => nomatch z)) h1, h2, fun pos cv hc => ?_⟩
  obtain ⟨c, e1, e2⟩ := h3 pos cv hc
  exact ⟨c, e1, s _ _ (out e2 (fun _ _ _ z => by unfold CodeO at z; cases z) (fun _ z => by unfold CodeO at z; cases z) (fun _ z => by unfold CodeO at z; cases z)) e2⟩
end
/-! ### the def that catches -/
def ECaught (K : PySem.W.Frag) (Q : VK) : XK := fun cls d H' => PySem.W.exmOne K cls (.ref (ga K "MaypoleError")) = some true ∧ ∀ a, H' a = none → Q (.ref a) (upd H' a (ExC cls d a))
def TTcaught (K : PySem.W.Frag) : (XK → Hp → VK → Prop) → Hp → VK → Prop := fun tl H Q => ∀ Q' : VK, (∀ x H', Q .non H' → Q' x H') → tl (ECaught K Q) H Q'
theorem lenTS {X : Cx} {ss : List Stmt} {t : TS} {n : Nat} (hn : X.N.length = n) (h : PSs X ss t) : PSs X ss (fun D σ H => σ.length = n → t D σ H) := ⟨fun pins s σ H D I q => h.run pins s σ H D I (q (I.len.trans hn))⟩
theorem actBody {X : Cx} {e : Expr} {pos : Pos} {te : XK → TE} {W : WX} (hp : ∀ E : XK, (∀ cls d σ H, E cls d H → W cls d σ H) → PE X e (te E)) (hs : swapsWith e none pos.line X.env = pure false := by rfl) :
    PSs X [.Expr e pos] (fun D σ H => ∃ E : XK, (∀ cls d σ' H', E cls d H' → W cls d σ' H') ∧ tDrop (te E) D σ H) := tryBody hp hs
section
variable {w : World} {K : PySem.W.Frag} {mg : Str → Option Value} {base : Heap}
theorem caught_gives (T : Tx w K mg base) {Nx : List Str} {qx : Str} {scx : Scope} {fx : Addr} {cdx : Value} {A0 : Around} {outer0 : List Env} {s0 : Shared} {H0 : Hp} {E0 : XK} {g : Addr} {cdg : Value} {q : Str} :
    GivesTo (cxOf C8.CX0 P0 w K mg base Nx qx scx fx cdx A0 outer0 s0 H0 E0).nox N_L_caught "_law_caught" (defScope s_L_caught) g cdg (defBody s_L_caught) "_law_work" q (TTcaught K) := by
  intro f c' s H Q tl act hc h
  refine ⟨_, (pss_cons (ps_set (i := 1) sc_L_caught.nd rfl (Or.inl rfl) pe_non)
  (pss_cons (ps_tryHold (c := .ref (ga K "MaypoleError")) (i := 2) rfl rfl sc_L_caught.nd rfl rfl ⟨rfl, by decide, .inl (g_MaypoleError T)⟩ rfl (fun W pn xe tk _ => actBody fun E hE => act W pn xe E _ _ tk hE) (fun a oe cls d pn => lenTS (n := 3) (t := tAsg (tVar 2) (gName 1)) rfl (by exact pss_one (ps_set (i := 1) sc_L_caught.nd rfl (Or.inl rfl) (pv 2)))))
  (pss_one (ps_ret (pv 1))))), ?_⟩
  walk_at "rd"
  refine ⟨ECaught K Q, fun cls d σ' H' hE => ⟨hE.1, fun a ha hl => ?_⟩, ?_⟩
  · have e : ∃ x0 x1 x2, σ' = [x0, x1, x2] := by
      have hl' : σ'.length = 3 := by simpa using hl
      match σ', hl' with
      | [x0, x1, x2], _ => exact ⟨x0, x1, x2, rfl⟩
    obtain ⟨x0, x1, x2, rfl⟩ := e
    walk_at "rd"
    intro hn
    walk_at "rd"
    exact hE.2 a hn
  · walk_at "rd"
    refine ⟨rfl, hc, h _ fun x H' q => ?_⟩
    walk_at "rd"
    exact q
/-! ### the def that calls it -/
abbrev lamQ : Str := "_law_call.<locals>." ++ "<lambda>"
abbrev LT (K : PySem.W.Frag) : List (Addr × Str) := [((cT K ("_law_call", none)).2, lamQ)]
theorem isx_ok {D : Str} (h : isxB D K = true) : ExcC K (ga K D) := by
  obtain ⟨h1, h2⟩ := ba h
  obtain ⟨h2, h3⟩ := ba h2
  obtain ⟨h3, h4⟩ := ba h3
  obtain ⟨h4, h5⟩ := ba h4
  obtain ⟨h5, h6⟩ := ba h5
  obtain ⟨h6, h7⟩ := ba h6
  obtain ⟨h7, h8⟩ := ba h7
  exact ⟨eqO_ok h1, eqO_ok h2, of_decide_eq_true h3, h4, eqO_ok h5, eqO_ok h6, of_decide_eq_true h7, of_decide_eq_true h8⟩
def kdN : Kd → Str | .step => "BadStep" | .name => "BadName" | .number => "BadNumber" | .now => "NotNow" | .nothing => "NothingDone"
theorem exV_N (k : Kd) : exV K k = .ref (ga K (kdN k)) := by cases k <;> rfl
theorem isx_kd (T : Tx w K mg base) (k : Kd) : ExcC K (ga K (kdN k)) := by
  cases k
  · exact isx_ok (ix_BadStep T)
  · exact isx_ok (ix_BadName T)
  · exact isx_ok (ix_BadNumber T)
  · exact isx_ok (ix_NotNow T)
  · exact isx_ok (ix_NothingDone T)
theorem kt_kd (T : Tx w K mg base) (k j : Kd) : PySem.W.kitOne K (.ref (ga K (kdN k))) (.ref (ga K (kdN j))) = some (decide (k = j)) := by
  cases k <;> cases j
  · exact kt_BadStep_BadStep T
  · exact kt_BadStep_BadName T
  · exact kt_BadStep_BadNumber T
  · exact kt_BadStep_NotNow T
  · exact kt_BadStep_NothingDone T
  · exact kt_BadName_BadStep T
  · exact kt_BadName_BadName T
  · exact kt_BadName_BadNumber T
  · exact kt_BadName_NotNow T
  · exact kt_BadName_NothingDone T
  · exact kt_BadNumber_BadStep T
  · exact kt_BadNumber_BadName T
  · exact kt_BadNumber_BadNumber T
  · exact kt_BadNumber_NotNow T
  · exact kt_BadNumber_NothingDone T
  · exact kt_NotNow_BadStep T
  · exact kt_NotNow_BadName T
  · exact kt_NotNow_BadNumber T
  · exact kt_NotNow_NotNow T
  · exact kt_NotNow_NothingDone T
  · exact kt_NothingDone_BadStep T
  · exact kt_NothingDone_BadName T
  · exact kt_NothingDone_BadNumber T
  · exact kt_NothingDone_NotNow T
  · exact kt_NothingDone_NothingDone T
theorem r_isK (T : Tx w K mg base) {a : Addr} {d : Option Addr} {H : Hp} {k j : Kd} {Q : VK} (ha : H a = some (ExC (exV K k) d a)) (hd : DOk d H) (h : Q (.bl (decide (k = j))) H) : rIsX K [.ref a, .ref (ga K (kdN j))] H Q :=
  ⟨ga K (kdN k), a, d, _, _, _, rfl, by rw [← exV_N]; exact ha, hd, isx_kd T k, (fun u r => r), kt_kd T k j, h⟩
def kdI : Kd → Nat | .step => 0 | .name => 1 | .number => 2 | .now => 3 | .nothing => 4
def kinds (k : Kd) : List V := [.bl (decide (k = .step)), .bl (decide (k = .name)), .bl (decide (k = .number)), .bl (decide (k = .now)), .bl (decide (k = .nothing))]
theorem r_kind {p : Addr} {H : Hp} {Q : VK} {k : Kd} (h : SqL K H p (kinds k)) (q : Q (.int (kdI k : Nat)) H) : rIndex K (.ref p) [.bl true] H Q := by
  refine ⟨p, kinds k, .bl true, kdI k, .bl true, rfl, rfl, h, rfl, by cases k <;> rfl, by cases k <;> rfl, rfl, fun m z' hm hz => ?_, q⟩
  have h5 : m < 4 := Nat.lt_of_lt_of_le hm (by cases k <;> decide)
  have hm4 : m = 0 ∨ m = 1 ∨ m = 2 ∨ m = 3 := by omega
  rcases hm4 with rfl | rfl | rfl | rfl <;> cases k <;> first | exact absurd hm (by decide) | (cases hz; rfl)
theorem kind_at (k : Kd) : atI [.str "step", .str "name", .str "number", .str "now", .str "nothing"] (kdI k : Nat) = some (V.str (kdS (some k))) := by cases k <;> rfl
def sp_call (K : PySem.W.Frag) : Sp := fun vs H Q _ => ∃ (X : List Addr) (f dx : Addr) (m0 N : Nat) (fr : Fr) (fs : List Fr) (q : Dd) (dq : Addr), vs = [.ref f, .ref dq] ∧ H dq = some (.tup (deedV q)) ∧ okD q ∧ FlAt K X H f dx m0 (fr :: fs) ∧ Wf N fr ∧ N ≤ 100 ∧ Tabs (LT K) H ∧
  ∀ H1 H', ExtN H H1 → SameBut f H1 H' → FlAt K X H' f dx m0 (actF (fr :: fs) q).2 → Tabs (LT K) H' → Q (.str (kdS (actF (fr :: fs) q).1)) H'
theorem c_L_call (T : Tx w K mg base) : C8.Cal P0 w K mg base 11 "_law_call" (sp_call K) [] := by
  obtain ⟨fd, F⟩ := f_L_call T
  obtain ⟨oc, od, dV, kV, doc, pm, an, cdv, ct, osl, rfl, lk, hcd, hD, hK⟩ := F.ex
  obtain ⟨cc, rfl⟩ := codeIn_ref hcd
  have ecc : (cT K ("_law_call", none)).1 = cc := codeOf_eq (p := ("_law_call", none)) lk rfl
  refine ⟨_, _, ["_law_floor_here", "_law_deed_here"], [], fn_of lk hcd sc_L_call (fun vs H Q E h => by obtain ⟨_, _, _, _, _, _, _, _, _, rfl, _⟩ := h; rfl) (fun A outer s H vs Q E hr h => ?_), g_L_call T, F.kp, F.bindsN (fun _ _ _ _ _ _ us hl => match us, hl with | [_, _], _ => rfl), .nil⟩
  obtain ⟨X, f, dx, m0, N, fr, fs, q, dq, rfl, hq, hok, hf, W, hN, hT, k⟩ := h
  obtain ⟨fdc, Fc⟩ := f_L_caught T
  obtain ⟨oc2, od2, dV2, kV2, doc2, pm2, an2, cdv2, ct2, osl2, rfl, lk2, hcd2, hD2, hK2⟩ := Fc.ex
  have tabC : TabB base mg cc (cT K ("_law_call", none)).2 := by have h := T.tab; rw [ecc] at h; exact h
  have body : ∃ t, PSs (cxOf C8.CX0 P0 w K mg base N_L_call "_law_call" (defScope s_L_call) (ga K "_law_call") (.ref cc) A outer s H E).nox (defBody s_L_call) t ∧ t { nx := fun _ H' => Q .non H', rt := Q } (L2.start N_L_call [.ref f, .ref dq]) H := by
    refine ⟨_, (pss_cons (ps_set (i := 2) sc_L_call.nd rfl (Or.inl rfl) (pe_lamcall (T := LT K) (TT := TTcaught K) (k := 8) (Ng := N_L_caught) (t := fun E => tCall (sp_do K) [] E (tCons (tVar 0) (tCons (tVar 1) tNil))) rfl (g_L_caught T) Fc.kp lk2 hcd2 (Fc.bindsN (fun _ _ _ _ _ _ us hl => match us, hl with | [_], _ => rfl)) sc_L_caught rfl (.inl rfl) (caught_gives T) tabC rfl (List.mem_singleton.mpr rfl) (fun p hp _ => by rw [List.mem_singleton.mp hp]; rfl) hr (show LamS (defScope s_L_call) _ from lamS_by (by decide +kernel)) rfl (fun _ _ _ _ _ => rfl) (fun A outer s H E f cl hr => pe_cE (e_L_do (K := K) T) hr (by decide) rfl (passes_call (takes_of rfl rfl rfl rfl) (fun _ _ _ _ h => h)) (pa_cons (pv 0) (pa_cons (pv 1) pa_nil)))))
  (pss_cons (ps_if (pt_cmpR op_isN1 (pv 2) pe_non (nomark _)) (pss_one (ps_ret pe_str)) pss_nil)
  (pss_cons (ps_set (i := 3) sc_L_call.nd rfl (Or.inl rfl) (pe_lst (pa_cons (pe_callB (call_isX (K := K)) rfl (b_isinstance T) bb_isinstance (pa_cons (pv 2) (pa_cons (C8.pe_gc (v := .ref (ga K "BadStep")) rfl ⟨_, g_BadStep T, rfl⟩) pa_nil))) (pa_cons (pe_callB (call_isX (K := K)) rfl (b_isinstance T) bb_isinstance (pa_cons (pv 2) (pa_cons (C8.pe_gc (v := .ref (ga K "BadName")) rfl ⟨_, g_BadName T, rfl⟩) pa_nil))) (pa_cons (pe_callB (call_isX (K := K)) rfl (b_isinstance T) bb_isinstance (pa_cons (pv 2) (pa_cons (C8.pe_gc (v := .ref (ga K "BadNumber")) rfl ⟨_, g_BadNumber T, rfl⟩) pa_nil))) pa_nil)))))
  (pss_cons (ps_set (i := 3) sc_L_call.nd rfl (Or.inl rfl) (pe_op op_cat (pv 3) (pe_lst (pa_cons (pe_callB (call_isX (K := K)) rfl (b_isinstance T) bb_isinstance (pa_cons (pv 2) (pa_cons (C8.pe_gc (v := .ref (ga K "NotNow")) rfl ⟨_, g_NotNow T, rfl⟩) pa_nil))) (pa_cons (pe_callB (call_isX (K := K)) rfl (b_isinstance T) bb_isinstance (pa_cons (pv 2) (pa_cons (C8.pe_gc (v := .ref (ga K "NothingDone")) rfl ⟨_, g_NothingDone T, rfl⟩) pa_nil))) pa_nil)))))
  (pss_one (ps_ret (pe_ifExp (pt_cmpR (opIn (K := K)) pe_bl (pv 3) (by rfl)) (pe_ix (ixL (K := K)) (pe_lst (pa_cons pe_str (pa_cons pe_str (pa_cons pe_str (pa_cons pe_str (pa_cons pe_str pa_nil)))))) (pe_bm PySem.F.plainAttrs_list PySem.F.slot_list_index PySem.F.type_list_index mt_index (pv 3) (pa_cons pe_bl pa_nil)) (fun _ _ => rfl)) pe_str))))))), ?_⟩
    walk_at "rd"
    refine ⟨hT, fun H1 eN T1 Q' hQ' => ?_⟩
    show tCall (sp_do K) [] (ECaught K _) (tCons (tVar 0) (tCons (tVar 1) tNil)) _ H1 Q'
    walk_at "rd"
    have hf1 := hf.extN eN
    obtain ⟨a0, dx', n, d0, e, l, bf, g1, g2, g3, g4⟩ := r_stOf hf1
    refine ⟨X, f, dx, m0, N, fr, fs, q, dq, rfl, eN _ _ hq (fun _ z => nomatch z), hok, hf1, W, hN, ?_⟩
    have hfX := hf1.fX
    have hok1 := hf1.ok
    generalize er : actF (fr :: fs) q = r
    obtain ⟨a, gs⟩ := r
    cases a with
    | none =>
        intro H' sb hf'
        refine hQ' _ _ ?_
        walk_at "rd"
        refine ifD (fun _ => ?_) (fun h => absurd rfl h)
        walk_at "rd"
        have k2 := k H1 H' eN sb (by rw [er]; exact hf') (My.Tabs.mono T1 hok1 (SameX.but hfX sb))
        rw [er] at k2
        exact k2
    | some kd =>
        intro d H' s' hd
        refine ⟨exm_all T kd, fun a ha => ?_⟩
        have n2 := New.mk (o := ExC (exV K kd) d a) ha rfl
        generalize he2 : upd H' a (ExC (exV K kd) d a) = H2
        rw [he2] at n2
        have hd2 : DOk d H2 := fun dd e => let ⟨fs, q⟩ := hd dd e; ⟨fs, n2.get q⟩
        walk_at "rd"
        refine ifD (fun h => nomatch h) (fun _ => ?_)
        walk_at "rd"
        refine r_isK T (j := .step) n2.at hd2 ?_
        walk_at "rd"
        refine r_isK T (j := .name) n2.at hd2 ?_
        walk_at "rd"
        refine r_isK T (j := .number) n2.at hd2 ?_
        walk_at "rd"
        refine ⟨(sz1000 (Nat.le_of_ble_eq_true rfl)), ?_⟩
        (intro l3 hl_; generalize he_ : upd _ l3 _ = H3; have n3 := New.mk hl_ he_.symm; clear hl_ he_)
        walk_at "rd"
        have hd3 : DOk d H3 := fun dd e => let ⟨fs, q⟩ := hd2 dd e; ⟨fs, n3.get q⟩
        refine r_isK T (j := .now) (n3.get n2.at) hd3 ?_
        walk_at "rd"
        refine r_isK T (j := .nothing) (n3.get n2.at) hd3 ?_
        walk_at "rd"
        refine ⟨(sz1000 (Nat.le_of_ble_eq_true rfl)), ?_⟩
        (intro l4 hl_; generalize he_ : upd _ l4 _ = H4; have n4 := New.mk hl_ he_.symm; clear hl_ he_)
        refine r_catL (n4.get n3.at) n4.at (Nat.le_of_ble_eq_true rfl) ?_
        intro l5 H5 n5
        walk_at "rd"
        have h5 : H5 l5 = some (.lst (kinds kd)) := n5.at
        refine ⟨l5, kinds kd, rfl, .inl (SqL.of h5), rfl, by cases kd <;> rfl, ?_⟩
        rw [if_neg Bool.false_ne_true, show inV (.bl true) (kinds kd) = true by cases kd <;> rfl]
        walk_at "rd"
        refine iteT ?_
        walk_at "rd"
        refine ⟨(sz1000 (Nat.le_of_ble_eq_true rfl)), ?_⟩
        (intro l6 hl_; generalize he_ : upd _ l6 _ = H6; have n6 := New.mk hl_ he_.symm; clear hl_ he_)
        walk_at "rd"
        refine r_tyL (n6.get h5) ?_
        walk_at "rd"
        refine r_kind (SqL.of (n6.get h5)) ?_
        refine r_ixL (SqL.of n6.at) (kind_at kd) ?_
        have s6 : Same H1 H6 := s'.trans (n2.same.trans (n3.same.trans (n4.same.trans (n5.same.trans n6.same))))
        have e2 : (actF (fr :: fs) q).2 = fr :: fs := by
          rcases act_shape (fs := fr :: fs) (q := q) (List.cons_ne_nil _ _) with ⟨_, e2⟩ | ⟨e1, _⟩
          · exact e2
          · rw [er] at e1; cases e1
        have k2 := k H1 H6 eN (SameBut.of s6) (by rw [e2]; exact hf1.same s6) (Tabs.ext T1 s6)
        rw [er] at k2
        exact k2
  obtain ⟨t, h1, h2⟩ := body
  exact ⟨t, h1.nox, h2⟩
end
end My
end

section
set_option Elab.async false
set_option linter.all false
set_option maxRecDepth 100000
set_option maxHeartbeats 4000000
/-! EE: the law's deeds and lines. -/
namespace My
open PySem PySem.Spec PyProof.Rows L2 He LamX SX
local macro_rules | `(tactic| walk_at "rd") => `(tactic| repeat (with_reducible first
  | refine r_seq ?_ | refine r_asg ?_ | refine r_var (by with_unfolding_all rfl) ?_ | refine r_c ?_ | refine r_op ?_ | refine r_I0 ?_ | refine r_name ?_ | refine r_ret ?_ | refine r_if ?_ | refine r_cons ?_ | refine r_nil ?_
  | refine r_CB ?_ | refine r_call ?_ | refine r_test ?_ | refine r_eqI ?_ | refine r_eqS ?_ | refine r_neI ?_ | refine r_neS ?_ | refine r_drop ?_ | refine r_next ?_ | refine r_ifE ?_ | refine r_B ?_ | refine r_andV ?_ | refine r_orV ?_ | refine r_notV ?_ | refine r_blV ?_
  | refine r_and ?_ | refine r_or ?_ | refine r_not ?_ | refine r_tup ?_ | refine r_lst ?_ | refine r_par ?_ | refine r_exv2 ?_ | refine r_un ?_ | refine r_neg ?_ | refine r_isN ?_ | refine r_notN ?_ | refine r_retN ?_ | refine r_chain ?_
  | refine r_star ?_ | refine r_lstRg ?_ | refine r_rg1 ?_ | refine r_rg2 ?_ | refine r_exi ?_ | refine r_exi2 ?_ | refine r_sl ?_ | refine r_noPart ?_ | refine r_part ?_ | refine r_gnil ?_ | refine r_gcons ?_ | refine r_gsub ?_ | refine r_BM ?_ | refine r_M1 ?_ | refine r_isstr ?_ | refine r_meth ?_ | refine r_make ?_ | refine r_fld ?_ | refine r_abs ?_ | refine r_isiIntInt ?_ | refine r_isiIntBool ?_ | refine r_isiStr ?_ | refine r_min ?_ | refine r_max ?_ | refine r_int1 ?_ | refine r_intb ?_ | refine r_for ?_ | refine r_itup ?_ | refine r_ilist ?_ | refine r_lc ?_ | refine r_yes ?_ | refine r_istr ?_ | refine r_rng1 ?_ | refine r_rng2 ?_ | refine r_dput ?_ | refine r_daug ?_ | refine r_dget ?_ | refine r_dnewT ?_ | refine r_addI ?_ | refine r_ev ?_ | refine r_sfld ?_ | refine r_faug ?_ | refine r_prop ?_ | refine r_while ?_ | refine r_augS ?_ | refine r_tupF ?_ | refine r_idxT ?_ | refine r_kd ?_ | refine r_ki ?_ | refine r_enum ?_))

local macro_rules | `(tactic| walk_at "rn") => `(tactic| repeat (with_reducible first
  | refine r_seq ?_ | refine r_asg ?_ | refine r_var (by with_unfolding_all rfl) ?_ | refine r_c ?_ | refine r_op ?_ | refine r_I0 ?_ | refine r_name ?_ | refine r_ret ?_ | refine r_cons ?_ | refine r_nil ?_
  | refine r_CB ?_ | refine r_call ?_ | refine r_test ?_ | refine r_eqI ?_ | refine r_eqS ?_ | refine r_neI ?_ | refine r_neS ?_ | refine r_drop ?_ | refine r_next ?_ | refine r_B ?_ | refine r_andV ?_ | refine r_orV ?_ | refine r_notV ?_ | refine r_blV ?_
  | refine r_and ?_ | refine r_or ?_ | refine r_not ?_ | refine r_tup ?_ | refine r_lst ?_ | refine r_par ?_ | refine r_exv2 ?_ | refine r_un ?_ | refine r_neg ?_ | refine r_isN ?_ | refine r_notN ?_ | refine r_retN ?_ | refine r_chain ?_
  | refine r_star ?_ | refine r_lstRg ?_ | refine r_rg1 ?_ | refine r_rg2 ?_ | refine r_exi ?_ | refine r_exi2 ?_ | refine r_sl ?_ | refine r_noPart ?_ | refine r_part ?_ | refine r_gnil ?_ | refine r_gcons ?_ | refine r_gsub ?_ | refine r_BM ?_ | refine r_M1 ?_ | refine r_isstr ?_ | refine r_meth ?_ | refine r_make ?_ | refine r_fld ?_ | refine r_abs ?_ | refine r_isiIntInt ?_ | refine r_isiIntBool ?_ | refine r_isiStr ?_ | refine r_min ?_ | refine r_max ?_ | refine r_int1 ?_ | refine r_intb ?_ | refine r_for ?_ | refine r_itup ?_ | refine r_ilist ?_ | refine r_lc ?_ | refine r_yes ?_ | refine r_istr ?_ | refine r_rng1 ?_ | refine r_rng2 ?_ | refine r_dput ?_ | refine r_daug ?_ | refine r_dget ?_ | refine r_dnewT ?_ | refine r_addI ?_ | refine r_ev ?_ | refine r_sfld ?_ | refine r_faug ?_ | refine r_prop ?_ | refine r_while ?_ | refine r_augS ?_ | refine r_tupF ?_ | refine r_idxT ?_ | refine r_kd ?_ | refine r_ki ?_ | refine r_enum ?_))

local macro_rules | `(tactic| walk_at "hp") => `(tactic| (with_reducible first
  | assumption | exact New.at (by assumption)
  | exact SqT.of (by walk_at "hp") | exact SqL.of (by walk_at "hp") | exact Or.inl (by walk_at "hp") | exact Or.inr (by walk_at "hp")
  | exact New.get (by assumption) (by walk_at "hp") | exact Same.get (by assumption) (by walk_at "hp")))


/-- the deeds that the law draws -/
def lawD : Dd → Prop
  | .step x => 1 ≤ x.natAbs
  | .join a _ => 0 ≤ a
  | _ => True
def lineV (fr : Fr) : Dd → Str
  | .step x => if x.natAbs < 5 then lineW (.step x) else ""
  | .join a c => if a = 0 ∨ a = fr.names.length then lineW (.join a c) else ""
  | q => lineW q
theorem DrAt.same {H H' : Hp} {d l c : Addr} (h : DrAt H d l c) (s : Same H H') : DrAt H' d l c :=
  ⟨let ⟨r, t, e⟩ := h.dr; ⟨r, t, s _ _ e⟩, let ⟨x, e⟩ := h.lg; ⟨x, s _ _ e⟩, let ⟨x, e⟩ := h.cl; ⟨x, s _ _ e⟩, h.lc⟩
section
variable {w : World} {K : PySem.W.Frag} {mg : Str → Option Value} {base : Heap}
def sp_Ldeed (K : PySem.W.Frag) : Sp := fun vs H Q _ => ∃ (X : List Addr) (a d l c : Addr) (N : Nat) (fr : Fr) (fs : List Fr), vs = [.ref d, .ref a] ∧ DrAt H d l c ∧ (d ∈ X ∧ l ∈ X) ∧ OkX X H ∧ IsLw K X H (fr :: fs) (.ref a) ∧ Wf N fr ∧
  ∀ p dd H', SameX [d, l] H H' → DrAt H' d l c → H' p = some (.tup (deedV dd)) → okD dd → lawD dd → Q (.ref p) H'
theorem c_L_deed (T : Tx w K mg base) : C8.Cal P0 w K mg base 4 "_law_deed" (sp_Ldeed K) [] := by
  obtain ⟨fd, F⟩ := f_L_deed T
  refine cal_of F (g_L_deed T) (fun _ _ _ _ _ _ us hl => match us, hl with | [_, _], _ => rfl) sc_L_deed (fun vs H Q E h => by obtain ⟨_, _, _, _, _, _, _, _, rfl, _⟩ := h; rfl) (fun cdv A outer s H vs Q E hr h => ?_)
  obtain ⟨X, a, d, l, c, N, fr, fs, rfl, hd, ⟨hdX, hlX⟩, ok, hlw, W, k⟩ := h
  refine ⟨_, (pss_cons (ps_par rfl sc_L_deed.nd (i := 2) (j := 3) rfl rfl (by decide) rfl rfl (pa_cons (pe_callB (callLen (K := K)) rfl (b_len T) bb_len (pa_cons (pe_dget (hu_of hr) (pv 1) pe_str (fun _ _ => rfl)) pa_nil)) (pa_cons (C8.pe_c (c_L_take (K := K) T) hr (by decide) rfl (pa_cons (pv 0) (pa_cons pe_int pa_nil))) pa_nil)) rfl)
  (pss_cons (ps_if (pt_cmpR op_lt (pv 3) pe_int (nomark _)) (pss_cons (ps_set (i := 4) sc_L_deed.nd rfl (Or.inl rfl) (pe_op op_add pe_int (C8.pe_c (c_L_take (K := K) T) hr (by decide) rfl (pa_cons (pv 0) (pa_cons (pe_op op_add (pe_op op_sub (pv 2) pe_int) (pe_callTy callInt1 rfl (b_int T) bb_int (pa_cons (pe_cmpR op_eq (pv 3) pe_int (nomark _)) pa_nil))) pa_nil)))))
  (pss_one (ps_ret (pe_tup (pa_cons pe_str (pa_cons (pe_ifExp (pt_cmpR op_eq (C8.pe_c (c_L_take (K := K) T) hr (by decide) rfl (pa_cons (pv 0) (pa_cons pe_int pa_nil))) pe_int (nomark _)) (pv 4) (pe_op op_sub pe_int (pv 4))) pa_nil)))))) pss_nil)
  (pss_cons (ps_if (pt_cmpR op_eq (pv 3) pe_int (nomark _)) (pss_one (ps_ret (pe_tup (pa_cons pe_str (pa_cons (C8.pe_c (c_L_pick (K := K) T) hr (by decide) rfl (pa_cons (pv 0) (pa_cons (pe_op op_cat (pe_callTy (callListOf (K := K)) rfl (b_list T) bb_list (pa_cons (pe_dget (hu_of hr) (pv 1) pe_str (fun _ _ => rfl)) pa_nil)) (pe_lst (pa_cons pe_str pa_nil))) pa_nil))) pa_nil))))) pss_nil)
  (pss_cons (ps_if (pt_cmpR op_lt (pv 3) pe_int (nomark _)) (pss_one (ps_ret (pe_tup (pa_cons pe_str (pa_cons (C8.pe_c (c_L_pick (K := K) T) hr (by decide) rfl (pa_cons (pv 0) (pa_cons (pe_lst (pa_cons pe_int (pa_cons (pv 2) (pa_cons (pv 2) (pa_cons pe_int pa_nil))))) pa_nil))) (pa_cons (C8.pe_c (c_L_pick (K := K) T) hr (by decide) rfl (pa_cons (pv 0) (pa_cons (pe_lst (pa_cons pe_str (pa_cons pe_str (pa_cons pe_str (pa_cons pe_str (pa_cons pe_str (pa_cons pe_str pa_nil))))))) pa_nil))) pa_nil)))))) pss_nil)
  (pss_one (ps_ret (pe_tup (pa_cons pe_str pa_nil)))))))), ?_⟩
  obtain ⟨a', l0, o, n, d0, ah, ea, haX, ha, h3, h4⟩ := hlw
  cases ea
  have hlo := W.lo
  have hhi := W.hi
  have hdl : ∀ b, b ∉ X → b ∉ [d, l] := fun b hb hm => by
    rcases List.mem_cons.mp hm with rfl | hm
    · exact hb hdX
    · rw [List.mem_singleton.mp hm] at hb; exact hb hlX
  walk_at "rd"
  refine r_getK (k := .inr "names") ha (lw_names _ _ _ _ _) ?_
  walk_at "rd"
  refine r_lenT (NT.sq h3.nm) ?_
  rw [List.length_map]
  walk_at "rd"
  refine ⟨d, l, c, 10, rfl, hd, by decide, by decide, fun j H1 hj s1 hd1 => ?_⟩
  have fin : ∀ (H3 : Hp) (dd : Dd), SameX [d, l] H H3 → DrAt H3 d l c → okD dd → lawD dd → (∀ p, H3 p = none → Q (.ref p) (upd H3 p (.tup (deedV dd)))) := fun H3 dd s3 hd3 o1 o2 p hp =>
    k p dd _ (s3.trans (SameX.of (New.mk hp rfl).same)) (hd3.same (New.mk hp rfl).same) upd_same o1 o2
  walk_at "rd"
  refine ifD (fun h6 => ?_) (fun h6 => ?_)
  · walk_at "rd"
    have he : ((fr.names.length : Int) - 1 + if decide ((j : Int) = 0) = true then 1 else 0) = ((fr.names.length - 1 + (if j = 0 then 1 else 0) : Nat) : Int) := by
      by_cases hj0 : j = 0
      · simp [hj0]; omega
      · simp [hj0]; omega
    refine ⟨d, l, c, fr.names.length - 1 + (if j = 0 then 1 else 0), congrArg (fun z => [V.ref d, V.int z]) he, hd1, by split <;> omega, by split <;> omega, fun j2 H2 hj2 s2 hd2 => ?_⟩
    walk_at "rd"
    refine ⟨d, l, c, 2, rfl, hd2, by decide, by decide, fun j3 H3 hj3 s3 hd3 => ?_⟩
    walk_at "rd"
    refine ifD (fun _ => ?_) (fun _ => ?_)
    · walk_at "rd"
      exact ⟨(sz1000 (Nat.le_of_ble_eq_true rfl)), fin H3 (.step (1 + j2)) ((s1.trans s2).trans s3) hd3 trivial (by show 1 ≤ (1 + (j2 : Int)).natAbs; omega)⟩
    · walk_at "rd"
      exact ⟨(sz1000 (Nat.le_of_ble_eq_true rfl)), fin H3 (.step (0 - (1 + j2))) ((s1.trans s2).trans s3) hd3 trivial (by show 1 ≤ (0 - (1 + (j2 : Int))).natAbs; omega)⟩
  · walk_at "rd"
    refine ifD (fun h7 => ?_) (fun h7 => ?_)
    · walk_at "rd"
      refine r_getK (k := .inr "names") (s1 _ _ (hdl a haX) ha) (lw_names _ _ _ _ _) ?_
      walk_at "rd"
      refine r_listOfT (NT.sq (nt_mono (X := [d, l]) (hdl n h3.nX) s1 h3.nm)) fun p2 H2 n2 => ?_
      walk_at "rd"
      refine ⟨(sz1000 (Nat.le_of_ble_eq_true rfl)), ?_⟩
      (intro p3 hl_; generalize he_ : upd _ p3 _ = H3; have n3 := New.mk hl_ he_.symm; clear hl_ he_)
      refine r_catL (n3.get n2.at) n3.at (by rw [List.length_map]; simp; omega) ?_
      intro p4 H4 n4
      walk_at "rd"
      have s4 : Same H1 H4 := n2.same.trans (n3.same.trans n4.same)
      have hd4 := hd1.same s4
      have hp4d : p4 ≠ d := fun e => by obtain ⟨⟨_, _, e1⟩, _⟩ := hd4; rw [← e, n4.at] at e1; cases e1
      have hp4l : p4 ≠ l := fun e => by
        obtain ⟨_, ⟨_, e1⟩, _⟩ := hd1
        have := (n2.same.trans n3.same).free n4.free
        rw [e, e1] at this; cases this
      refine ⟨d, l, c, p4, _, rfl, hd4, n4.at, hp4d, hp4l, by simp, by rw [List.length_append, List.length_map]; simp; omega, fun x hx H5 s5 hd5 => ?_⟩
      obtain ⟨c1, rfl, hc⟩ : ∃ c1, x = nmV c1 ∧ 97 ≤ c1 ∧ c1 ≤ 122 := by
        rcases List.mem_append.mp hx with hx | hx
        · obtain ⟨c1, hc, rfl⟩ := List.mem_map.mp hx
          exact ⟨c1, rfl, W.letN c1 hc⟩
        · rw [List.mem_singleton.mp hx]
          exact ⟨113, rfl, by decide, by decide⟩
      walk_at "rd"
      exact ⟨(sz1000 (Nat.le_of_ble_eq_true rfl)), fin H5 (.leave c1) ((s1.trans (SameX.of s4)).trans s5) hd5 hc trivial⟩
    · walk_at "rd"
      refine ifD (fun h8 => ?_) (fun h8 => ?_)
      · walk_at "rd"
        refine ⟨(sz1000 (Nat.le_of_ble_eq_true rfl)), ?_⟩
        (intro p2 hl_; generalize he_ : upd _ p2 _ = H2; have n2 := New.mk hl_ he_.symm; clear hl_ he_)
        walk_at "rd"
        have hd2 := hd1.same n2.same
        have hpd : p2 ≠ d := fun e => by obtain ⟨⟨_, _, e1⟩, _⟩ := hd1; have := n2.free; rw [e, e1] at this; cases this
        have hpl : p2 ≠ l := fun e => by obtain ⟨_, ⟨_, e1⟩, _⟩ := hd1; have := n2.free; rw [e, e1] at this; cases this
        refine ⟨d, l, c, p2, _, rfl, hd2, n2.at, hpd, hpl, by simp, Nat.le_of_ble_eq_true rfl, fun x hx H3 s3 hd3 => ?_⟩
        obtain ⟨i1, rfl, hi⟩ : ∃ i1 : Int, x = .int i1 ∧ 0 ≤ i1 := by
          simp only [List.mem_cons, List.not_mem_nil, or_false] at hx
          rcases hx with rfl | rfl | rfl | rfl
          · exact ⟨_, rfl, by omega⟩
          · exact ⟨_, rfl, by omega⟩
          · exact ⟨_, rfl, by omega⟩
          · exact ⟨_, rfl, by omega⟩
        walk_at "rd"
        refine ⟨(sz1000 (Nat.le_of_ble_eq_true rfl)), ?_⟩
        (intro p4 hl_; generalize he_ : upd _ p4 _ = H4; have n4 := New.mk hl_ he_.symm; clear hl_ he_)
        walk_at "rd"
        have hd4 := hd3.same n4.same
        have hpd4 : p4 ≠ d := fun e => by obtain ⟨⟨_, _, e1⟩, _⟩ := hd3; have := n4.free; rw [e, e1] at this; cases this
        have hpl4 : p4 ≠ l := fun e => by obtain ⟨_, ⟨_, e1⟩, _⟩ := hd3; have := n4.free; rw [e, e1] at this; cases this
        refine ⟨d, l, c, p4, _, rfl, hd4, n4.at, hpd4, hpl4, by simp, Nat.le_of_ble_eq_true rfl, fun x hx H5 s5 hd5 => ?_⟩
        obtain ⟨c1, rfl, hc⟩ : ∃ c1, x = nmV c1 ∧ 97 ≤ c1 ∧ c1 ≤ 122 := by
          simp only [List.mem_cons, List.not_mem_nil, or_false] at hx
          rcases hx with rfl | rfl | rfl | rfl | rfl | rfl
          · exact ⟨102, rfl, by decide, by decide⟩
          · exact ⟨103, rfl, by decide, by decide⟩
          · exact ⟨104, rfl, by decide, by decide⟩
          · exact ⟨120, rfl, by decide, by decide⟩
          · exact ⟨122, rfl, by decide, by decide⟩
          · exact ⟨97, rfl, by decide, by decide⟩
        walk_at "rd"
        exact ⟨(sz1000 (Nat.le_of_ble_eq_true rfl)), fin H5 (.join i1 c1) ((((s1.trans (SameX.of n2.same)).trans s3).trans (SameX.of n4.same)).trans s5) hd5 hc hi⟩
      · walk_at "rd"
        exact ⟨(sz1000 (Nat.le_of_ble_eq_true rfl)), fin H1 .undo s1 hd1 trivial trivial⟩
def sp_Lline : Sp := fun vs H Q _ => ∃ (fr : Fr) (q : Dd) (dq : Addr), vs = [.ref dq, .int fr.names.length] ∧ H dq = some (.tup (deedV q)) ∧ okD q ∧ lawD q ∧ ∀ H', Same H H' → Q (.str (lineV fr q)) H'
theorem c_L_line (T : Tx w K mg base) : C8.Cal P0 w K mg base 1 "_law_line" sp_Lline [] := by
  obtain ⟨fd, F⟩ := f_L_line T
  refine cal_of F (g_L_line T) (fun _ _ _ _ _ _ us hl => match us, hl with | [_, _], _ => rfl) sc_L_line (fun vs H Q E h => by obtain ⟨_, _, _, rfl, _⟩ := h; rfl) (fun cdv A outer s H vs Q E hr h => ?_)
  obtain ⟨fr, q, dq, rfl, hq, hok, hlaw, k⟩ := h
  refine ⟨_, (pss_cons (ps_if (pt_cmpR op_eq (pe_ix (ixT (K := K)) (pv 0) pe_int (fun _ _ => rfl)) pe_str (nomark _)) (pss_cons (ps_set (i := 2) sc_L_line.nd rfl (Or.inl rfl) (pe_ifExp (pt_cmpR op_gt (pe_ix (ixT (K := K)) (pv 0) pe_int (fun _ _ => rfl)) pe_int (nomark _)) (pe_op op_sub (pe_ix (ixT (K := K)) (pv 0) pe_int (fun _ _ => rfl)) pe_int) (pe_op op_sub pe_int (pe_ix (ixT (K := K)) (pv 0) pe_int (fun _ _ => rfl)))))
  (pss_one (ps_ret (pe_ifExp (pt_cmpR op_lt (pe_callB callAbs rfl (b_abs T) bb_abs (pa_cons (pe_ix (ixT (K := K)) (pv 0) pe_int (fun _ _ => rfl)) pa_nil)) pe_int (nomark _)) (pe_op opAddS pe_str (pe_ix ix_str pe_str (pv 2) (fun _ _ => rfl))) pe_str)))) pss_nil)
  (pss_cons (ps_if (pt_cmpR op_eq (pe_ix (ixT (K := K)) (pv 0) pe_int (fun _ _ => rfl)) pe_str (nomark _)) (pss_one (ps_ret (pe_ifExp (pt_cmpR (opIn (K := K)) (pe_ix (ixT (K := K)) (pv 0) pe_int (fun _ _ => rfl)) (pe_tup (pa_cons pe_int (pa_cons (pv 1) pa_nil))) (by rfl)) (pe_op opAddS (pe_op opAddS pe_str (pe_ifExp (pt_cmpR op_eq (pe_ix (ixT (K := K)) (pv 0) pe_int (fun _ _ => rfl)) pe_int (nomark _)) pe_str pe_str)) (pe_ix (ixT (K := K)) (pv 0) pe_int (fun _ _ => rfl))) pe_str))) pss_nil)
  (pss_one (ps_ret (peJoin (K := K) pe_str (pv 0)))))), ?_⟩
  walk_at "rd"
  cases q with
  | step i =>
    refine r_ixT (SqT.of hq) rfl ?_
    walk_at "rd"
    refine ifD (fun _ => ?_) (fun h => absurd rfl h)
    walk_at "rd"
    refine r_ixT (SqT.of hq) rfl ?_
    walk_at "rd"
    have h1 : 1 ≤ i.natAbs := hlaw
    refine ifV (fun v H2 => H2 = H ∧ v = .int (if i > 0 then i - 1 else 3 - i)) (fun hi Q' q => ?_) (fun hi Q' q => ?_) fun v H2 hv => ?_
    · walk_at "rd"
      refine r_ixT (SqT.of hq) rfl ?_
      walk_at "rd"
      exact q _ _ ⟨rfl, by rw [if_pos hi]⟩
    · walk_at "rd"
      refine r_ixT (SqT.of hq) rfl ?_
      walk_at "rd"
      exact q _ _ ⟨rfl, by rw [if_neg hi]⟩
    · obtain ⟨rfl, rfl⟩ := hv
      walk_at "rd"
      refine r_ixT (SqT.of hq) rfl ?_
      walk_at "rd"
      refine ifD (fun h5 => ?_) (fun h5 => ?_)
      · walk_at "rd"
        obtain ⟨j, e1, e2⟩ : ∃ j : Nat, (if i > 0 then i - 1 else 3 - i) = (j : Int) ∧ [97, 98, 99, 100, 65, 66, 67, 68][j]? = some (letC i) := by
          rcases c8 h1 (by omega) with rfl | rfl | rfl | rfl | rfl | rfl | rfl | rfl
          · exact ⟨0, by decide, by decide⟩
          · exact ⟨1, by decide, by decide⟩
          · exact ⟨2, by decide, by decide⟩
          · exact ⟨3, by decide, by decide⟩
          · exact ⟨4, by decide, by decide⟩
          · exact ⟨5, by decide, by decide⟩
          · exact ⟨6, by decide, by decide⟩
          · exact ⟨7, by decide, by decide⟩
        refine r_ixs (t := [97, 98, 99, 100, 65, 66, 67, 68]) (by decide) e1 e2 ?_
        refine r_catX (a := [115, 116, 101, 112, 32]) (b := [letC i]) (by simp) ?_
        have k2 := k H2 (Same.refl _)
        rw [show lineV fr (.step i) = lineW (.step i) from if_pos (by omega)] at k2
        exact k2
      · walk_at "rd"
        have k2 := k H2 (Same.refl _)
        rw [show lineV fr (.step i) = "" from if_neg (by omega)] at k2
        exact k2
  | join i c =>
    refine r_ixT (SqT.of hq) rfl ?_
    walk_at "rd"
    refine ifD (fun h => absurd h (by decide)) (fun _ => ?_)
    walk_at "rd"
    refine r_ixT (SqT.of hq) rfl ?_
    walk_at "rd"
    refine ifD (fun _ => ?_) (fun h => absurd rfl h)
    walk_at "rd"
    refine r_ixT (SqT.of hq) rfl ?_
    walk_at "rd"
    refine ⟨(sz1000 (Nat.le_of_ble_eq_true rfl)), ?_⟩
    (intro p2 hl_; generalize he_ : upd _ p2 _ = H2; have n2 := New.mk hl_ he_.symm; clear hl_ he_)
    refine r_inI (l := [0, (fr.names.length : Int)]) (SqT.of n2.at) ?_
    walk_at "rd"
    have hq2 := n2.get hq
    refine ifD (fun hi => ?_) (fun hi => ?_)
    · walk_at "rd"
      refine r_ixT (SqT.of hq2) rfl ?_
      walk_at "rd"
      have k2 := k H2 n2.same
      rw [show lineV fr (.join i c) = lineW (.join i c) from if_pos (by simpa using hi)] at k2
      refine ifD (fun h0 => ?_) (fun h0 => ?_)
      · rw [show lineW (.join i c) = S [106, 111, 105, 110, 32, 108, 101, 102, 116, 32, c] from if_pos h0] at k2
        walk_at "rd"
        refine r_catX (a := [106, 111, 105, 110, 32]) (b := [108, 101, 102, 116, 32]) (by decide) ?_
        walk_at "rd"
        refine r_ixT (SqT.of hq2) rfl ?_
        exact r_catX (a := [106, 111, 105, 110, 32, 108, 101, 102, 116, 32]) (b := [c]) (by simp) k2
      · rw [show lineW (.join i c) = S [106, 111, 105, 110, 32, 114, 105, 103, 104, 116, 32, c] from if_neg h0] at k2
        walk_at "rd"
        refine r_catX (a := [106, 111, 105, 110, 32]) (b := [114, 105, 103, 104, 116, 32]) (by decide) ?_
        walk_at "rd"
        refine r_ixT (SqT.of hq2) rfl ?_
        exact r_catX (a := [106, 111, 105, 110, 32, 114, 105, 103, 104, 116, 32]) (b := [c]) (by simp) k2
    · walk_at "rd"
      have k2 := k H2 n2.same
      rw [show lineV fr (.join i c) = "" from if_neg (by simpa using hi)] at k2
      exact k2
  | leave c =>
    refine r_ixT (SqT.of hq) rfl ?_
    walk_at "rd"
    refine ifD (fun h => absurd h (by decide)) (fun _ => ?_)
    walk_at "rd"
    refine r_ixT (SqT.of hq) rfl ?_
    walk_at "rd"
    refine ifD (fun h => absurd h (by decide)) (fun _ => ?_)
    walk_at "rd"
    refine r_joinL (a := [32]) (ys := [[108, 101, 97, 118, 101], [c]]) (.inr (SqT.of hq)) (by simp) ?_
    exact k H (Same.refl _)
  | undo =>
    refine r_ixT (SqT.of hq) rfl ?_
    walk_at "rd"
    refine ifD (fun h => absurd h (by decide)) (fun _ => ?_)
    walk_at "rd"
    refine r_ixT (SqT.of hq) rfl ?_
    walk_at "rd"
    refine ifD (fun h => absurd h (by decide)) (fun _ => ?_)
    walk_at "rd"
    refine r_joinL (a := [32]) (ys := [[117, 110, 100, 111]]) (.inr (SqT.of hq)) (by simp) ?_
    exact k H (Same.refl _)
end
end My
end

section
set_option Elab.async false
set_option linter.all false
set_option maxRecDepth 100000
set_option maxHeartbeats 4000000
/-! EF: what a floor shows is the law's own account. -/
namespace My
open PySem PySem.Spec PyProof.Rows L2 He LamX SX
local macro_rules | `(tactic| walk_at "rd") => `(tactic| repeat (with_reducible first
  | refine r_seq ?_ | refine r_asg ?_ | refine r_var (by with_unfolding_all rfl) ?_ | refine r_c ?_ | refine r_op ?_ | refine r_I0 ?_ | refine r_name ?_ | refine r_ret ?_ | refine r_if ?_ | refine r_cons ?_ | refine r_nil ?_
  | refine r_CB ?_ | refine r_call ?_ | refine r_test ?_ | refine r_eqI ?_ | refine r_eqS ?_ | refine r_neI ?_ | refine r_neS ?_ | refine r_drop ?_ | refine r_next ?_ | refine r_ifE ?_ | refine r_B ?_ | refine r_andV ?_ | refine r_orV ?_ | refine r_notV ?_ | refine r_blV ?_
  | refine r_and ?_ | refine r_or ?_ | refine r_not ?_ | refine r_tup ?_ | refine r_lst ?_ | refine r_par ?_ | refine r_exv2 ?_ | refine r_un ?_ | refine r_neg ?_ | refine r_isN ?_ | refine r_notN ?_ | refine r_retN ?_ | refine r_chain ?_
  | refine r_star ?_ | refine r_lstRg ?_ | refine r_rg1 ?_ | refine r_rg2 ?_ | refine r_exi ?_ | refine r_exi2 ?_ | refine r_sl ?_ | refine r_noPart ?_ | refine r_part ?_ | refine r_gnil ?_ | refine r_gcons ?_ | refine r_gsub ?_ | refine r_BM ?_ | refine r_M1 ?_ | refine r_isstr ?_ | refine r_meth ?_ | refine r_make ?_ | refine r_fld ?_ | refine r_abs ?_ | refine r_isiIntInt ?_ | refine r_isiIntBool ?_ | refine r_isiStr ?_ | refine r_min ?_ | refine r_max ?_ | refine r_int1 ?_ | refine r_intb ?_ | refine r_for ?_ | refine r_itup ?_ | refine r_ilist ?_ | refine r_lc ?_ | refine r_yes ?_ | refine r_istr ?_ | refine r_rng1 ?_ | refine r_rng2 ?_ | refine r_dput ?_ | refine r_daug ?_ | refine r_dget ?_ | refine r_dnewT ?_ | refine r_addI ?_ | refine r_ev ?_ | refine r_sfld ?_ | refine r_faug ?_ | refine r_prop ?_ | refine r_while ?_ | refine r_augS ?_ | refine r_tupF ?_ | refine r_idxT ?_ | refine r_kd ?_ | refine r_ki ?_ | refine r_enum ?_))

local macro_rules | `(tactic| walk_at "rn") => `(tactic| repeat (with_reducible first
  | refine r_seq ?_ | refine r_asg ?_ | refine r_var (by with_unfolding_all rfl) ?_ | refine r_c ?_ | refine r_op ?_ | refine r_I0 ?_ | refine r_name ?_ | refine r_ret ?_ | refine r_cons ?_ | refine r_nil ?_
  | refine r_CB ?_ | refine r_call ?_ | refine r_test ?_ | refine r_eqI ?_ | refine r_eqS ?_ | refine r_neI ?_ | refine r_neS ?_ | refine r_drop ?_ | refine r_next ?_ | refine r_B ?_ | refine r_andV ?_ | refine r_orV ?_ | refine r_notV ?_ | refine r_blV ?_
  | refine r_and ?_ | refine r_or ?_ | refine r_not ?_ | refine r_tup ?_ | refine r_lst ?_ | refine r_par ?_ | refine r_exv2 ?_ | refine r_un ?_ | refine r_neg ?_ | refine r_isN ?_ | refine r_notN ?_ | refine r_retN ?_ | refine r_chain ?_
  | refine r_star ?_ | refine r_lstRg ?_ | refine r_rg1 ?_ | refine r_rg2 ?_ | refine r_exi ?_ | refine r_exi2 ?_ | refine r_sl ?_ | refine r_noPart ?_ | refine r_part ?_ | refine r_gnil ?_ | refine r_gcons ?_ | refine r_gsub ?_ | refine r_BM ?_ | refine r_M1 ?_ | refine r_isstr ?_ | refine r_meth ?_ | refine r_make ?_ | refine r_fld ?_ | refine r_abs ?_ | refine r_isiIntInt ?_ | refine r_isiIntBool ?_ | refine r_isiStr ?_ | refine r_min ?_ | refine r_max ?_ | refine r_int1 ?_ | refine r_intb ?_ | refine r_for ?_ | refine r_itup ?_ | refine r_ilist ?_ | refine r_lc ?_ | refine r_yes ?_ | refine r_istr ?_ | refine r_rng1 ?_ | refine r_rng2 ?_ | refine r_dput ?_ | refine r_daug ?_ | refine r_dget ?_ | refine r_dnewT ?_ | refine r_addI ?_ | refine r_ev ?_ | refine r_sfld ?_ | refine r_faug ?_ | refine r_prop ?_ | refine r_while ?_ | refine r_augS ?_ | refine r_tupF ?_ | refine r_idxT ?_ | refine r_kd ?_ | refine r_ki ?_ | refine r_enum ?_))

local macro_rules | `(tactic| walk_at "hp") => `(tactic| (with_reducible first
  | assumption | exact New.at (by assumption)
  | exact SqT.of (by walk_at "hp") | exact SqL.of (by walk_at "hp") | exact Or.inl (by walk_at "hp") | exact Or.inr (by walk_at "hp")
  | exact New.get (by assumption) (by walk_at "hp") | exact Same.get (by assumption) (by walk_at "hp")))


section
variable {σ : St} {H : Hp} {td : TE} {R : It → Hp → Prop} {t : TS} {D : Ends}
theorem r_ikeys (h : td σ H fun x H1 => ∃ d o, x = .ref d ∧ ((∃ kvs, H1 d = some (.frz o (.dK kvs)) ∧ R (Itk d o kvs) H1) ∨ ∃ kvs, H1 d = some (.frz o (.dT kvs)) ∧ R (Itkt d o kvs) H1)) : iKeys td σ H R := h
theorem r_lock {nx : St → Hp → Prop} {rt : VK} {bk ct : St → Hp → Prop} {d : Addr} {u : HO} (e : H d = some u) (m : Mut (some u)) (h : ∀ od, t ⟨fun σ' H' => H' d = some (.frz od u) ∧ nx σ' (upd H' d u), fun v H' => H' d = some (.frz od u) ∧ rt v (upd H' d u), fun σ' H' => H' d = some (.frz od u) ∧ bk σ' (upd H' d u), fun σ' H' => H' d = some (.frz od u) ∧ ct σ' (upd H' d u)⟩ σ (upd H d (.frz od u))) :
    tLock t ⟨nx, rt, bk, ct⟩ σ H := ⟨d, u, e, m, h⟩
end
section
variable {w : World} {K : PySem.W.Frag} {mg : Str → Option Value} {base : Heap}
def sp_stands (K : PySem.W.Frag) : Sp := fun vs H Q _ => ∃ (X : List Addr) (a f dx : Addr) (m0 N : Nat) (fr : Fr) (fs : List Fr), vs = [.ref a, .ref f] ∧ FlAt K X H f dx m0 (fr :: fs) ∧ IsLw K X H (fr :: fs) (.ref a) ∧ Wf N fr ∧ N ≤ 100 ∧ ∀ H', Same H H' → Q (.bl true) H'
theorem c_L_stands (T : Tx w K mg base) : C8.Cal P0 w K mg base 8 "_law_stands" (sp_stands K) [] := by
  obtain ⟨fd, F⟩ := f_L_stands T
  refine cal_of F (g_L_stands T) (fun _ _ _ _ _ _ us hl => match us, hl with | [_, _], _ => rfl) sc_L_stands (fun vs H Q E h => by obtain ⟨_, _, _, _, _, _, _, _, rfl, _⟩ := h; rfl) (fun cdv A outer s H vs Q E hr h => ?_)
  obtain ⟨X, a, f, dx, m0, N, fr, fs, rfl, hf, hlw, W, hN, k⟩ := h
  refine ⟨_, (pss_cons (ps_asg (pe_tup (pa_cons (pe_dget (hu_of hr) (pv 0) pe_str (fun _ _ => rfl)) (pa_cons (pe_dget (hu_of hr) (pv 0) pe_str (fun _ _ => rfl)) pa_nil))) (pgTup (K := K) (n := 2) rfl (pgs_cons (pg_name (i := 2) sc_L_stands.nd rfl (Or.inr rfl)) (pgs_cons (pg_name (i := 3) sc_L_stands.nd rfl (Or.inl rfl)) pgs_nil))))
  (pss_cons (ps_set (i := 4) sc_L_stands.nd rfl (Or.inl rfl) (pe_callB (callLen (K := K)) rfl (b_len T) bb_len (pa_cons (pv 2) pa_nil)))
  (pss_cons (ps_set (i := 5) sc_L_stands.nd rfl (Or.inl rfl) (pe_callTy (callTupOf (K := K)) rfl (b_tuple T) bb_tuple (pa_cons (pe_lc (own := [("_law_each", 9)]) rfl sc_L_stands.nd (piTup (K := K) (C8.pe_c (c_L_order (K := K) T) hr (by decide) rfl (pa_cons (pv 4) (pa_cons (pv 3) pa_nil)))) (blkOk_by (N := N_L_stands) (sc := defScope s_L_stands) (by decide +kernel)) (fun _ _ _ _ _ => pg_name (i := 9) sc_L_stands.nd rfl (Or.inl rfl)) (fun _ _ _ _ _ => pts_nil) (fun _ _ _ _ _ => (pe_ix (ixT (K := K)) (pv 2) (pv 9) (fun _ _ => rfl)))) pa_nil)))
  (pss_cons (ps_if (pt_cmpR (opNeD (K := K) hr.units) (pe_lst (pa_cons (pe_pr (p_Floor_many (K := K) T) hr (by decide) (pv 1) rfl) (pa_cons (pe_pr (p_Floor_names (K := K) T) hr (by decide) (pv 1) rfl) (pa_cons (pe_pr (p_Floor_standing (K := K) T) hr (by decide) (pv 1) rfl) pa_nil)))) (pe_lst (pa_cons (pv 4) (pa_cons (pv 2) (pa_cons (pv 5) pa_nil)))) (nomark _)) (pss_one (ps_ret pe_bl)) pss_nil)
  (pss_cons (ps_if (pt_cmpR (opNeD (K := K) hr.units) (pe_pr (p_Floor_dance (K := K) T) hr (by decide) (pv 1) rfl) (pv 3) (nomark _)) (pss_one (ps_ret pe_bl)) pss_nil)
  (pss_cons (ps_if (PW.pt (pw_or (pt_cmpR (opNeD (K := K) hr.units) (pe_pr (p_Floor_log (K := K) T) hr (by decide) (pv 1) rfl) (pe_dget (hu_of hr) (pv 0) pe_str (fun _ _ => rfl)) (nomark _)) (pw_or1 (pt_cmpR op_ne (pe_callB (callLenF (c_Floor_len (K := K) T) hr (by decide)) rfl (b_len T) bb_len (pa_cons (pv 1) pa_nil)) (pe_callB (callLen (K := K)) rfl (b_len T) bb_len (pa_cons (pe_dget (hu_of hr) (pv 0) pe_str (fun _ _ => rfl)) pa_nil)) (nomark _))))) (pss_one (ps_ret pe_bl)) pss_nil)
  (pss_cons (ps_set (i := 6) sc_L_stands.nd rfl (Or.inl rfl) (C8.pe_c (c_L_leads (K := K) T) hr (by decide) rfl (pa_cons (pv 4) (pa_cons (pv 3) pa_nil))))
  (pss_cons (ps_lock (ps_for PassesOwn.never rfl (pi_keys (pv 6)) (pgTup (K := K) (n := 2) rfl (pgs_cons (pg_name (i := 7) sc_L_stands.nd rfl (Or.inl rfl)) (pgs_cons (pg_name (i := 8) sc_L_stands.nd rfl (Or.inl rfl)) pgs_nil)))
  (pss_one (ps_if (pt_cmpR op_ne (C8.pe_mt (c_Floor_lead (K := K) T) hr (by decide) (pv 1) (pa_cons (pe_ix (ixT (K := K)) (pv 2) (pv 8) (fun _ _ => rfl)) (pa_cons (pe_ix (ixT (K := K)) (pv 2) (pv 7) (fun _ _ => rfl)) pa_nil))) (pe_dget (hu_of hr) (pv 6) (pe_tup (pa_cons (pv 7) (pa_cons (pv 8) pa_nil))) (fun _ _ => rfl)) (nomark _)) (pss_one (ps_ret pe_bl)) pss_nil))))
  (pss_one (ps_ret (pe_cmpR op_eq (C8.pe_mt0 (c_Floor_is_straight (K := K) T) hr (by decide) (pv 1)) (C8.pe_c (c_L_alike (K := K) T) hr (by decide) rfl (pa_cons (pv 4) (pa_cons (pv 3) (pa_cons (pe_tup pa_nil) pa_nil)))) (nomark _)))))))))))), ?_⟩
  obtain ⟨a', l, o, n, d, ah, ea, haX, ha, h3, h4⟩ := hlw
  cases ea
  obtain ⟨as, hl, hds⟩ := h3.dd
  have hlo := W.lo
  have hhi := W.hi
  have hdl := W.dl
  obtain ⟨fa, dx', n2, d2, e2, l2, bf, g1, g2, g3, g4⟩ := r_stOf hf
  walk_at "rd"
  refine r_getK (k := .inr "names") ha (lw_names _ _ _ _ _) ?_
  walk_at "rd"
  refine r_getK (k := .inr "dance") ha (lw_dance _ _ _ _ _) ?_
  walk_at "rd"
  refine ⟨(sz1000 (Nat.le_of_ble_eq_true rfl)), ?_⟩
  (intro p0 hl_; generalize he_ : upd _ p0 _ = H0; have n0 := New.mk hl_ he_.symm; clear hl_ he_)
  refine r_tupG (SqT.of n0.at) rfl ?_
  walk_at "rd"
  refine r_lenT (NT.sq (h3.nm.same n0.same)) ?_
  rw [List.length_map]
  walk_at "rd"
  refine ⟨_, fr.dance, d, rfl, n0.get h3.dn, W.dv, hhi, fun p1 H1 s01 e1 => ?_⟩
  have s1 : Same H H1 := n0.same.trans s01
  refine lcT1 V.int (order fr.names.length fr.dance) (fun i => nmV (fr.names.getD i.toNat 0)) (SqT.of e1) (by rw [order_len]; omega) (fun i H4 hi s4 Y q => ?_) fun D H4 hD4 s4 e4 => ?_
  · obtain ⟨i1, i2⟩ := order_mem W.dv hi
    walk_at "rd"
    refine ⟨rfl, ?_⟩
    walk_at "rd"
    refine r_ixT (v := nmV (fr.names.getD i.toNat 0)) (NT.sq ((h3.nm.same s1).same s4)) ?_ (q _ (Same.refl _))
    refine at_of (j := i.toNat) (by omega) ?_
    rw [List.getElem?_map, List.getElem?_eq_getElem (by omega), List.getD_eq_getElem?_getD, List.getElem?_eq_getElem (by omega)]; rfl
  walk_at "rd"
  refine r_tupOf (SqL.of e4) fun p5 H5 n5 => ?_
  have s05 : Same H H5 := s1.trans (s4.trans n5.same)
  have h5 : H5 p5 = some (.tup ((standF fr).map nmV)) := by rw [n5.at]; unfold standF; rw [List.map_map]; rfl
  walk_at "rd"
  refine r_pr (s05 _ _ g1) ?_
  refine ⟨X, f, dx, m0, fr, fs, rfl, hf.same s05, ?_⟩
  walk_at "rd"
  refine r_pr (s05 _ _ g1) ?_
  refine ⟨X, f, dx, m0, fr, fs, rfl, hf.same s05, fun n6 hn6 t6 => ?_⟩
  walk_at "rd"
  refine r_pr (s05 _ _ g1) ?_
  refine ⟨X, f, dx, m0, N, fr, fs, rfl, hf.same s05, W, fun p7 H7 s7 e7 => ?_⟩
  walk_at "rd"
  refine ⟨(sz1000 (Nat.le_of_ble_eq_true rfl)), ?_⟩
  (intro p8 hl_; generalize he_ : upd _ p8 _ = H8; have n8 := New.mk hl_ he_.symm; clear hl_ he_)
  walk_at "rd"
  refine ⟨(sz1000 (Nat.le_of_ble_eq_true rfl)), ?_⟩
  (intro p9 hl_; generalize he_ : upd _ p9 _ = H9; have n9 := New.mk hl_ he_.symm; clear hl_ he_)
  have s79 : Same H7 H9 := n8.same.trans n9.same
  have s09 : Same H H9 := s05.trans (s7.trans s79)
  have lt : ∀ x ∈ fr.names, 97 ≤ x ∧ x ≤ 122 := W.letN
  refine r_neG (p := True) (d := .list [.int fr.names.length, .tuple (fr.names.map fun n => .str (S [n])), .tuple ((standF fr).map fun n => .str (S [n]))]) (e := .list [.int fr.names.length, .tuple (fr.names.map fun n => .str (S [n])), .tuple ((standF fr).map fun n => .str (S [n]))])
    (.lst (SqL.of (n9.get n8.at)) (.cons (.int _) (.cons (dp_nms (NT.sq ((t6.same s7).same s79))) (.cons (dp_nms (SqT.of (s79 _ _ e7))) .nil))))
    (.lst (SqL.of n9.at) (.cons (.int _) (.cons (dp_nms (NT.sq (h3.nm.same s09))) (.cons (dp_nms (SqT.of (s79 _ _ (s7 _ _ h5)))) .nil))))
    ?_ ?_ ⟨fun _ => rfl, fun _ => trivial⟩ ?_
  · exact (PlD.list (n := 1) (.cons .int (.cons (nms_pl lt) (.cons (nms_pl (stand_pl W)) .nil)))).low
  · exact (PlD.list (n := 1) (.cons .int (.cons (nms_pl lt) (.cons (nms_pl (stand_pl W)) .nil)))).low
  walk_at "rd"
  refine ifN (fun h => absurd trivial h) (fun _ => ?_)
  walk_at "rd"
  refine r_pr (s09 _ _ g1) ?_
  refine ⟨X, f, dx, m0, fr, fs, rfl, hf.same s09, fun dA hdA eA => ?_⟩
  walk_at "rd"
  refine r_neTI (l := fr.dance) (m := fr.dance) eA (s09 _ _ h3.dn) ?_
  walk_at "rd"
  refine ifN (fun h => absurd rfl h) (fun _ => ?_)
  walk_at "rd"
  refine r_pr (s09 _ _ g1) ?_
  refine ⟨X, f, dx, m0, fr, fs, rfl, hf.same s09, fun pB HB asB hB sB eB dsB => ?_⟩
  walk_at "rd"
  have s0B : Same H HB := s09.trans sB
  refine r_getK (k := .inr "log") (s0B _ _ ha) (lw_log _ _ _ _ _) ?_
  refine r_neG (p := True) (d := .list (fr.deeds.map deedD)) (e := .list (fr.deeds.map deedD)) (dp_log eB dsB) (dp_log (s0B _ _ hl) (hds.mono (SameX.of s0B))) (deeds_pl W.okD').low (deeds_pl W.okD').low ⟨fun _ => rfl, fun _ => trivial⟩ ?_
  walk_at "rd"
  refine ifN (fun h => absurd trivial h) (fun _ => ?_)
  walk_at "rd"
  refine ⟨f, _, _, rfl, s0B _ _ g1, X, f, dx, m0, fr, fs, rfl, hf.same s0B, fr.deeds.length, rfl, by have := W.ql; omega, ?_⟩
  walk_at "rd"
  refine r_getK (k := .inr "log") (s0B _ _ ha) (lw_log _ _ _ _ _) ?_
  walk_at "rd"
  refine r_lenL (SqL.of (s0B _ _ hl)) ?_
  rw [List.length_map, hds.len]
  walk_at "rd"
  refine ifN (fun h => absurd rfl h) (fun _ => ?_)
  walk_at "rd"
  refine ⟨_, fr.dance, d, rfl, s0B _ _ h3.dn, W.dv, hhi, fun pC HC sC hpC eC => ?_⟩
  walk_at "rd"
  refine r_lock eC trivial fun od => ?_
  walk_at "rd"
  refine r_ikeys ?_
  walk_at "rd"
  refine ⟨pC, od, rfl, .inr ⟨_, upd_same, ?_⟩⟩
  refine loop_gen (leads fr.names.length fr.dance) (fun _ σ H' => (∃ x y, σ = [some (.ref a), some (.ref f), some (.ref n), some (.ref d), some (.int fr.names.length), some (.ref p5), some (.ref pC), x, y, none]) ∧ Same HB H' ∧ H' pC = some (.frz od (.dT (leads fr.names.length fr.dance)))) ⟨⟨_, _, rfl⟩, same_upd sC hpC, upd_same⟩ ?_ ?_
  · rintro pre x post σ H' e ⟨⟨x7, x8, rfl⟩, s', e'⟩
    refine ⟨⟨e', by rw [e]; simp⟩, fun y H2 hy => ?_⟩
    obtain ⟨rfl, kk, v, q, hk, rfl, hq⟩ := hy
    have hxm : (kk, v) ∈ leads fr.names.length fr.dance := List.mem_of_getElem? hk
    obtain ⟨pp, hpp, ekv⟩ := List.mem_map.mp hxm
    have ek : kk = lk pp := (congrArg Prod.fst ekv).symm
    subst ek
    have hpm := prsU_mem.mp hpp
    have j1 : pp.1.toNat < fr.names.length := by omega
    have j2 : pp.2.toNat < fr.names.length := by omega
    have s0' : Same H H2 := s0B.trans s'
    refine r_tupG (xs := [.int pp.1, .int pp.2]) (SqT.of hq) rfl ?_
    walk_at "rd"
    refine r_me (s0' _ _ g1) ?_
    walk_at "rd"
    refine r_ixT (v := nmV (fr.names[pp.2.toNat])) (NT.sq (h3.nm.same s0')) (at_of (j := pp.2.toNat) (by omega) (by rw [List.getElem?_map, List.getElem?_eq_getElem j2]; rfl)) ?_
    walk_at "rd"
    refine r_ixT (v := nmV (fr.names[pp.1.toNat])) (NT.sq (h3.nm.same s0')) (at_of (j := pp.1.toNat) (by omega) (by rw [List.getElem?_map, List.getElem?_eq_getElem j1]; rfl)) ?_
    walk_at "rd"
    have ix1 : fr.names.idxOf (fr.names[pp.1.toNat]) = pp.1.toNat := W.nd.idxOf_getElem _ _
    have ix2 : fr.names.idxOf (fr.names[pp.2.toNat]) = pp.2.toNat := W.nd.idxOf_getElem _ _
    refine ⟨X, f, dx, m0, N, fr, fs, fr.names[pp.2.toNat], fr.names[pp.1.toNat], rfl, hf.same s0', W, List.getElem_mem _, List.getElem_mem _, fun e => ?_, fun H3 s3 => ?_⟩
    · rw [e, ix1] at ix2; omega
    · rw [ix1, ix2]
      walk_at "rd"
      refine ⟨(sz1000 (Nat.le_of_ble_eq_true rfl)), ?_⟩
      (intro q2 hl_; generalize he_ : upd _ q2 _ = H4; have n4 := New.mk hl_ he_.symm; clear hl_ he_)
      have hq2 : H4 q2 = some (.tup ((lk pp).map kV)) := n4.at
      refine ⟨pC, .int ((ldS fr.names.length fr.dance).2 pp), rfl, .inr ⟨_, lk pp, q2, .inr ⟨od, n4.get (s3 _ _ e')⟩, rfl, hq2, (kvp_get hpp).symm⟩, ?_⟩
      walk_at "rd"
      have ep : (min ((pp.2.toNat : Nat) : Int) ((pp.1.toNat : Nat) : Int), max ((pp.2.toNat : Nat) : Int) ((pp.1.toNat : Nat) : Int)) = pp := by
        refine Prod.ext ?_ ?_
        · dsimp only; omega
        · dsimp only; omega
      rw [ep]
      refine ifN (fun h => absurd rfl h) (fun _ => ?_)
      walk_at "rd"
      exact ⟨⟨_, _, rfl⟩, s'.trans (s3.trans n4.same), n4.get (s3 _ _ e')⟩
  · rintro σ H' ⟨⟨x7, x8, rfl⟩, s', e'⟩
    refine ⟨⟨e', Nat.le_refl _⟩, e', ?_⟩
    have sD : Same HB (upd H' pC (.dT (leads fr.names.length fr.dance))) := same_upd s' hpC
    generalize upd H' pC (.dT (leads fr.names.length fr.dance)) = HD at sD
    have s0D : Same H HD := s0B.trans sD
    walk_at "rd"
    refine r_me (s0D _ _ g1) ?_
    walk_at "rd"
    refine ⟨X, f, dx, m0, N, fr, fs, rfl, hf.same s0D, W, fun HE sE => ?_⟩
    walk_at "rd"
    refine ⟨(sz1000 (Nat.le_of_ble_eq_true rfl)), ?_⟩
    (intro pF hl_; generalize he_ : upd _ pF _ = HF; have nF := New.mk hl_ he_.symm; clear hl_ he_)
    walk_at "rd"
    refine ⟨_, fr.dance, [], d, pF, rfl, nF.get (sE _ _ (s0D _ _ h3.dn)), nF.at, W.dv, (fun _ h => nomatch h), hlo, hhi, fun HG sG => ?_⟩
    refine ⟨rfl, ?_⟩
    rw [decide_eq_true rfl]
    exact k HG (s0D.trans (sE.trans (nF.same.trans sG)))
end
end My
end

section
set_option Elab.async false
set_option linter.all false
set_option maxRecDepth 100000
set_option maxHeartbeats 4000000
/-! EG: the texts and the desk tell it right. -/
namespace My
open PySem PySem.Spec PyProof.Rows L2 He LamX SX
local macro_rules | `(tactic| walk_at "rd") => `(tactic| repeat (with_reducible first
  | refine r_seq ?_ | refine r_asg ?_ | refine r_var (by with_unfolding_all rfl) ?_ | refine r_c ?_ | refine r_op ?_ | refine r_I0 ?_ | refine r_name ?_ | refine r_ret ?_ | refine r_if ?_ | refine r_cons ?_ | refine r_nil ?_
  | refine r_CB ?_ | refine r_call ?_ | refine r_test ?_ | refine r_eqI ?_ | refine r_eqS ?_ | refine r_neI ?_ | refine r_neS ?_ | refine r_drop ?_ | refine r_next ?_ | refine r_ifE ?_ | refine r_B ?_ | refine r_andV ?_ | refine r_orV ?_ | refine r_notV ?_ | refine r_blV ?_
  | refine r_and ?_ | refine r_or ?_ | refine r_not ?_ | refine r_tup ?_ | refine r_lst ?_ | refine r_par ?_ | refine r_exv2 ?_ | refine r_un ?_ | refine r_neg ?_ | refine r_isN ?_ | refine r_notN ?_ | refine r_retN ?_ | refine r_chain ?_
  | refine r_star ?_ | refine r_lstRg ?_ | refine r_rg1 ?_ | refine r_rg2 ?_ | refine r_exi ?_ | refine r_exi2 ?_ | refine r_sl ?_ | refine r_noPart ?_ | refine r_part ?_ | refine r_gnil ?_ | refine r_gcons ?_ | refine r_gsub ?_ | refine r_BM ?_ | refine r_M1 ?_ | refine r_isstr ?_ | refine r_meth ?_ | refine r_make ?_ | refine r_fld ?_ | refine r_abs ?_ | refine r_isiIntInt ?_ | refine r_isiIntBool ?_ | refine r_isiStr ?_ | refine r_min ?_ | refine r_max ?_ | refine r_int1 ?_ | refine r_intb ?_ | refine r_for ?_ | refine r_itup ?_ | refine r_ilist ?_ | refine r_lc ?_ | refine r_yes ?_ | refine r_istr ?_ | refine r_rng1 ?_ | refine r_rng2 ?_ | refine r_dput ?_ | refine r_daug ?_ | refine r_dget ?_ | refine r_dnewT ?_ | refine r_addI ?_ | refine r_ev ?_ | refine r_sfld ?_ | refine r_faug ?_ | refine r_prop ?_ | refine r_while ?_ | refine r_augS ?_ | refine r_tupF ?_ | refine r_idxT ?_ | refine r_kd ?_ | refine r_ki ?_ | refine r_enum ?_))

local macro_rules | `(tactic| walk_at "rn") => `(tactic| repeat (with_reducible first
  | refine r_seq ?_ | refine r_asg ?_ | refine r_var (by with_unfolding_all rfl) ?_ | refine r_c ?_ | refine r_op ?_ | refine r_I0 ?_ | refine r_name ?_ | refine r_ret ?_ | refine r_cons ?_ | refine r_nil ?_
  | refine r_CB ?_ | refine r_call ?_ | refine r_test ?_ | refine r_eqI ?_ | refine r_eqS ?_ | refine r_neI ?_ | refine r_neS ?_ | refine r_drop ?_ | refine r_next ?_ | refine r_B ?_ | refine r_andV ?_ | refine r_orV ?_ | refine r_notV ?_ | refine r_blV ?_
  | refine r_and ?_ | refine r_or ?_ | refine r_not ?_ | refine r_tup ?_ | refine r_lst ?_ | refine r_par ?_ | refine r_exv2 ?_ | refine r_un ?_ | refine r_neg ?_ | refine r_isN ?_ | refine r_notN ?_ | refine r_retN ?_ | refine r_chain ?_
  | refine r_star ?_ | refine r_lstRg ?_ | refine r_rg1 ?_ | refine r_rg2 ?_ | refine r_exi ?_ | refine r_exi2 ?_ | refine r_sl ?_ | refine r_noPart ?_ | refine r_part ?_ | refine r_gnil ?_ | refine r_gcons ?_ | refine r_gsub ?_ | refine r_BM ?_ | refine r_M1 ?_ | refine r_isstr ?_ | refine r_meth ?_ | refine r_make ?_ | refine r_fld ?_ | refine r_abs ?_ | refine r_isiIntInt ?_ | refine r_isiIntBool ?_ | refine r_isiStr ?_ | refine r_min ?_ | refine r_max ?_ | refine r_int1 ?_ | refine r_intb ?_ | refine r_for ?_ | refine r_itup ?_ | refine r_ilist ?_ | refine r_lc ?_ | refine r_yes ?_ | refine r_istr ?_ | refine r_rng1 ?_ | refine r_rng2 ?_ | refine r_dput ?_ | refine r_daug ?_ | refine r_dget ?_ | refine r_dnewT ?_ | refine r_addI ?_ | refine r_ev ?_ | refine r_sfld ?_ | refine r_faug ?_ | refine r_prop ?_ | refine r_while ?_ | refine r_augS ?_ | refine r_tupF ?_ | refine r_idxT ?_ | refine r_kd ?_ | refine r_ki ?_ | refine r_enum ?_))

local macro_rules | `(tactic| walk_at "hp") => `(tactic| (with_reducible first
  | assumption | exact New.at (by assumption)
  | exact SqT.of (by walk_at "hp") | exact SqL.of (by walk_at "hp") | exact Or.inl (by walk_at "hp") | exact Or.inr (by walk_at "hp")
  | exact New.get (by assumption) (by walk_at "hp") | exact Same.get (by assumption) (by walk_at "hp")))


theorem strOk_S {l : List Nat} (h : ∀ x ∈ l, x < 0x110000) : PyData.strOk (S l) = true := by
  show (l.toArray.all fun x => decide (x < 0x110000)) = true
  rw [List.all_toArray]
  exact List.all_eq_true.mpr fun x hx => decide_eq_true (h x hx)
theorem char_lt (c : Char) : c.toNat < 0x110000 := by
  have h := c.valid
  show c.val.toNat < 0x110000
  rcases h with h | h <;> omega
theorem num_ok (n : Nat) : PyData.strOk (S (TL.numL n)) = true := strOk_S fun x hx => by
  unfold TL.numL at hx
  obtain ⟨c, _, rfl⟩ := List.mem_map.mp hx
  exact char_lt c
section
variable {w : World} {K : PySem.W.Frag} {mg : Str → Option Value} {base : Heap}
def sp_told (K : PySem.W.Frag) : Sp := fun vs H Q _ => ∃ (X : List Addr) (a t f dx : Addr) (m0 N : Nat) (fr : Fr) (fs : List Fr), vs = [.ref a, .ref t] ∧ DkAt K X H t f dx m0 (fr :: fs) ∧ IsLw K X H (fr :: fs) (.ref a) ∧ (∀ g ∈ fr :: fs, Wf N g) ∧ N ≤ 10 ∧ ∀ H', Same H H' → Q (.bl true) H'
theorem c_L_told_right (T : Tx w K mg base) : C8.Cal P0 w K mg base 13 "_law_told_right" (sp_told K) [] := by
  obtain ⟨fd, F⟩ := f_L_told_right T
  refine cal_of F (g_L_told_right T) (fun _ _ _ _ _ _ us hl => match us, hl with | [_, _], _ => rfl) sc_L_told_right (fun vs H Q E h => by obtain ⟨_, _, _, _, _, _, _, _, _, rfl, _⟩ := h; rfl) (fun cdv A outer s H vs Q E hr h => ?_)
  obtain ⟨X, a, t, f, dx, m0, N, fr, fs, rfl, hd, hlw, Ws, hN, k⟩ := h
  refine ⟨_, (pss_cons (ps_par rfl sc_L_told_right.nd (i := 2) (j := 3) rfl rfl (by decide) rfl rfl (pa_cons (pe_dget (hu_of hr) (pv 0) pe_str (fun _ _ => rfl)) (pa_cons (pe_dget (hu_of hr) (pv 0) pe_str (fun _ _ => rfl)) pa_nil)) rfl)
  (pss_cons (ps_set (i := 4) sc_L_told_right.nd rfl (Or.inl rfl) (pe_callB (callLen (K := K)) rfl (b_len T) bb_len (pa_cons (pv 2) pa_nil)))
  (pss_cons (ps_set (i := 5) sc_L_told_right.nd rfl (Or.inl rfl) (C8.pe_c (c_dance_text (K := K) T) hr (by decide) rfl (pa_cons (pv 4) (pa_cons (pv 3) pa_nil))))
  (pss_cons (ps_if (PW.pt (pw_or (pt_cmpR (opNeD (K := K) hr.units) (C8.pe_c (c_read_dance (K := K) T) hr (by decide) rfl (pa_cons (pv 5) pa_nil)) (pe_tup (pa_cons (pv 4) (pa_cons (pv 3) pa_nil))) (nomark _)) (pw_or1 (pt_cmpR op_ne (pe_op opAddS (C8.pe_mt (c_Desk_say (K := K) T) hr (by decide) (pv 1) (pa_cons pe_str pa_nil)) pe_str) (pv 5) (nomark _))))) (pss_one (ps_ret pe_bl)) pss_nil)
  (pss_cons (ps_if (PW.pt (pw_and (pt_cmpR (opNeD (K := K) hr.units) (pv 3) (pe_tup pa_nil) (nomark _)) (pw_and1 (pt_cmpR (opNeD (K := K) hr.units) (C8.pe_c (c_read_phrase (K := K) T) hr (by decide) rfl (pa_cons (C8.pe_c (c_phrase_text (K := K) T) hr (by decide) rfl (pa_cons (pv 4) (pa_cons (pv 3) pa_nil))) pa_nil)) (pe_tup (pa_cons (pv 4) (pa_cons (pv 3) pa_nil))) (nomark _))))) (pss_one (ps_ret pe_bl)) pss_nil)
  (pss_cons (ps_if (pt_cmpR op_ne (C8.pe_mt (c_Desk_say (K := K) T) hr (by decide) (pv 1) (pa_cons pe_str pa_nil)) (peJoin (K := K) pe_str (pe_lc (own := [("_law_part", 8)]) rfl sc_L_told_right.nd (piTup (K := K) (C8.pe_c (c_numbers_of (K := K) T) hr (by decide) rfl (pa_cons (pv 4) (pa_cons (pv 3) pa_nil)))) (blkOk_by (N := N_L_told_right) (sc := defScope s_L_told_right) (by decide +kernel)) (fun _ _ _ _ _ => pg_name (i := 8) sc_L_told_right.nd rfl (Or.inl rfl)) (fun _ _ _ _ _ => pts_nil) (fun _ _ _ _ _ => (pe_callTy callStrI rfl (b_str T) bb_str (pa_cons (pv 8) pa_nil))))) (nomark _)) (pss_one (ps_ret pe_bl)) pss_nil)
  (pss_cons (ps_if (pt_cmpR op_ne (C8.pe_mt (c_Desk_say (K := K) T) hr (by decide) (pv 1) (pa_cons pe_str pa_nil)) (pe_ix (ixL (K := K)) (pe_lst (pa_cons pe_str (pa_cons pe_str (pa_cons pe_str pa_nil)))) (C8.pe_c (c_side (K := K) T) hr (by decide) rfl (pa_cons (pv 4) (pa_cons (pv 3) pa_nil))) (fun _ _ => rfl)) (nomark _)) (pss_one (ps_ret pe_bl)) pss_nil)
  (pss_cons (ps_set (i := 6) sc_L_told_right.nd rfl (Or.inl rfl) (pe_ifExp (pt_val (C8.pe_c (c_L_alike (K := K) T) hr (by decide) rfl (pa_cons (pv 4) (pa_cons (pv 3) (pa_cons (pe_tup pa_nil) pa_nil))))) pe_str pe_str))
  (pss_cons (ps_set (i := 7) sc_L_told_right.nd rfl (Or.inl rfl) (pe_lst (pa_cons (C8.pe_mt (c_Desk_say (K := K) T) hr (by decide) (pv 1) (pa_cons pe_str pa_nil)) (pa_cons (C8.pe_mt (c_Desk_say (K := K) T) hr (by decide) (pv 1) (pa_cons pe_str pa_nil)) (pa_cons (C8.pe_mt (c_Desk_say (K := K) T) hr (by decide) (pv 1) (pa_cons pe_str pa_nil)) pa_nil)))))
  (pss_one (ps_ret (pe_cmpR (opEqD (K := K) hr.units) (pv 7) (pe_lst (pa_cons (pv 6) (pa_cons (peJoin (K := K) pe_str (pv 2)) (pa_cons (pe_callTy callStrI rfl (b_str T) bb_str (pa_cons (pe_callB (callLen (K := K)) rfl (b_len T) bb_len (pa_cons (pe_dget (hu_of hr) (pv 0) pe_str (fun _ _ => rfl)) pa_nil)) pa_nil)) pa_nil)))) (nomark _))))))))))))), ?_⟩
  have W := Ws fr List.mem_cons_self
  obtain ⟨a', l, o, n, d, ah, ea, haX, ha, h3, h4⟩ := hlw
  cases ea
  obtain ⟨as, hl, hds⟩ := h3.dd
  have hlo := W.lo
  have hhi := W.hi
  have hdl := W.dl
  obtain ⟨dy, ht⟩ := hd.at_
  walk_at "rd"
  refine r_getK (k := .inr "names") ha (lw_names _ _ _ _ _) ?_
  walk_at "rd"
  refine r_getK (k := .inr "dance") ha (lw_dance _ _ _ _ _) ?_
  walk_at "rd"
  refine r_lenT (NT.sq h3.nm) ?_
  rw [List.length_map]
  walk_at "rd"
  refine ⟨fr.names.length, fr.dance, d, rfl, h3.dn, W.dv, hlo, hhi, by omega, fun H1 s1 => ?_⟩
  walk_at "rd"
  refine ⟨fr.names.length, fr.dance, rfl, W.dv, hlo, hhi, by omega, fun p2 q2 H2 s2 eq2 ep2 => ?_⟩
  walk_at "rd"
  refine ⟨(sz1000 (Nat.le_of_ble_eq_true rfl)), ?_⟩
  (intro p3 hl_; generalize he_ : upd _ p3 _ = H3; have n3 := New.mk hl_ he_.symm; clear hl_ he_)
  have s03 : Same H H3 := s1.trans (s2.trans n3.same)
  have tw : ∀ {H' : Hp} {p q : Addr}, H' p = some (.tup [.int fr.names.length, .ref q]) → H' q = some (.tup (fr.dance.map V.int)) → Dp K H' (.ref p) (.tuple [.int fr.names.length, .tuple (fr.dance.map .int)]) := fun h1 h2 => .tup (SqT.of h1) (.cons (.int _) (.cons (Dp.tupI h2) .nil))
  have twp : PlD 64 (.tuple [.int fr.names.length, .tuple (fr.dance.map .int)]) := (PlD.tuple (n := 1) (.cons .int (.cons (PlD.tuple (n := 0) (.ints _)) .nil))).low
  refine r_neG (p := True) (tw (n3.get ep2) (n3.get eq2)) (tw n3.at (s03 _ _ h3.dn)) twp twp ⟨fun _ => rfl, fun _ => trivial⟩ ?_
  walk_at "rd"
  refine ifN (fun h => absurd trivial h) (fun _ => ?_)
  walk_at "rd"
  refine r_me (s03 _ _ ht) ?_
  walk_at "rd"
  refine ⟨X, t, f, dx, m0, N, fr, fs, _, rfl, hd.same s03, Ws, by omega, .inl ⟨.dance, rfl, fun H4 s4 => ?_⟩⟩
  walk_at "rd"
  have hll := letsC_len fr.dance
  have s04 : Same H H4 := s03.trans s4
  refine r_catX (a := (dtext fr.names.length fr.dance).dropLast) (b := [10]) (by rw [List.length_dropLast]; unfold dtext; simp; omega) ?_
  walk_at "rd"
  refine ifN (fun h => absurd (congrArg S (dtext_last _ _).symm) h) (fun _ => ?_)
  walk_at "rn"
  refine r_ifJ (fun σ H' => σ = [some (.ref a), some (.ref t), some (.ref n), some (.ref d), some (.int fr.names.length), some (.str (S (dtext fr.names.length fr.dance))), none, none, none] ∧ Same H H') (fun Nx hNx => ?_) ?_
  · walk_at "rd"
    refine ⟨(sz1000 (Nat.le_of_ble_eq_true rfl)), ?_⟩
    (intro p5 hl_; generalize he_ : upd _ p5 _ = H5; have n5 := New.mk hl_ he_.symm; clear hl_ he_)
    refine r_neTI (l := fr.dance) (m := []) (n5.get (s04 _ _ h3.dn)) n5.at ?_
    have s05 := s04.trans n5.same
    walk_at "rd"
    refine ifN (fun hne => ?_) (fun he => ?_)
    · walk_at "rd"
      refine ⟨fr.names.length, fr.dance, d, rfl, s05 _ _ h3.dn, W.dv, hlo, hhi, by omega, hne, fun H6 s6 => ?_⟩
      walk_at "rd"
      refine ⟨fr.names.length, fr.dance, rfl, W.dv, hlo, hhi, by omega, hne, fun p7 q7 H7 s7 eq7 ep7 => ?_⟩
      walk_at "rd"
      refine ⟨(sz1000 (Nat.le_of_ble_eq_true rfl)), ?_⟩
      (intro p8 hl_; generalize he_ : upd _ p8 _ = H8; have n8 := New.mk hl_ he_.symm; clear hl_ he_)
      have s08 : Same H H8 := s05.trans (s6.trans (s7.trans n8.same))
      refine r_neG (p := True) (tw (n8.get ep7) (n8.get eq7)) (tw n8.at (s08 _ _ h3.dn)) twp twp ⟨fun _ => rfl, fun _ => trivial⟩ ?_
      walk_at "rd"
      refine ifN (fun h => absurd trivial h) (fun _ => ?_)
      walk_at "rd"
      exact hNx _ _ ⟨rfl, s08⟩
    · refine iteF ?_
      walk_at "rd"
      exact hNx _ _ ⟨rfl, s05⟩
  rintro σ H5 ⟨rfl, s05⟩
  walk_at "rd"
  refine r_me (s05 _ _ ht) ?_
  walk_at "rd"
  refine ⟨X, t, f, dx, m0, N, fr, fs, _, rfl, hd.same s05, Ws, by omega, .inl ⟨.numbers, rfl, fun H6 s6 => ?_⟩⟩
  have s06 := s05.trans s6
  walk_at "rd"
  refine ⟨fr.names.length, fr.dance, d, rfl, s06 _ _ h3.dn, W.dv, hlo, hhi, by omega, fun p7 H7 s7 e7 => ?_⟩
  have hlen := curves_len fr.names.length fr.dance W.dv
  have hlg : ∀ x ∈ curves fr.names.length fr.dance, x.natAbs.log2 < 1920 := fun x hx => log_curves (curves_abs _ _ x hx) (by omega)
  refine lcT1 V.int (curves fr.names.length fr.dance) (fun x => .str (Str.ofString (toString x))) (SqT.of e7) (by omega) (fun x H3 hx s3 Y hY => ?_) fun D H8 hD s8 e8 => ?_
  · walk_at "rd"
    refine ⟨rfl, ?_⟩
    walk_at "rd"
    exact ⟨x, rfl, hlg x hx, hY _ (Same.refl _)⟩
  refine ⟨_, D, numW (curves fr.names.length fr.dance), rfl, rfl, .inl (SqL.of (by unfold numW; rw [List.map_map]; exact e8)), ?_, ?_⟩
  · have h1 : ((numW (curves fr.names.length fr.dance)).map (·.length)).sum ≤ (numW (curves fr.names.length fr.dance)).length * 1921 := sum_le _ _ fun z hz => by
      unfold numW at hz
      obtain ⟨x, hx, rfl⟩ := List.mem_map.mp hz
      exact int_text_len_1921 (hlg x hx)
    have h2 : (numW (curves fr.names.length fr.dance)).length = 2 * fr.names.length := by unfold numW; rw [List.length_map, hlen]
    rw [h2] at h1 ⊢
    have : Str.length " " = 1 := rfl
    rw [this]
    omega
  have s08 : Same H H8 := s06.trans (s7.trans s8)
  walk_at "rd"
  refine ifN (fun h => absurd rfl h) (fun _ => ?_)
  walk_at "rd"
  refine r_me (s08 _ _ ht) ?_
  walk_at "rd"
  refine ⟨X, t, f, dx, m0, N, fr, fs, _, rfl, hd.same s08, Ws, by omega, .inl ⟨.side, rfl, fun H9 s9 => ?_⟩⟩
  walk_at "rd"
  refine ⟨(sz1000 (Nat.le_of_ble_eq_true rfl)), ?_⟩
  (intro pA hl_; generalize he_ : upd _ pA _ = HA; have nA := New.mk hl_ he_.symm; clear hl_ he_)
  walk_at "rd"
  have s0A : Same H HA := s08.trans (s9.trans nA.same)
  refine ⟨fr.names.length, fr.dance, d, rfl, s0A _ _ h3.dn, W.dv, hlo, hhi, by omega, fun HB sB => ?_⟩
  have s0B := s0A.trans sB
  refine r_ixL (v := .str (sideS (sideV (curves fr.names.length fr.dance)))) (SqL.of (sB _ _ nA.at)) (by rcases sideV3 (curves fr.names.length fr.dance) with e | e | e <;> rw [e] <;> rfl) ?_
  walk_at "rd"
  refine ifN (fun h => absurd rfl h) (fun _ => ?_)
  walk_at "rd"
  refine ⟨(sz1000 (Nat.le_of_ble_eq_true rfl)), ?_⟩
  (intro pC hl_; generalize he_ : upd _ pC _ = HC; have nC := New.mk hl_ he_.symm; clear hl_ he_)
  walk_at "rd"
  refine ⟨_, fr.dance, [], d, pC, rfl, nC.get (s0B _ _ h3.dn), nC.at, W.dv, (fun _ h => nomatch h), hlo, hhi, fun HD sD => ?_⟩
  have s0D : Same H HD := s0B.trans (nC.same.trans sD)
  walk_at "rd"
  refine ifV (fun v H2 => H2 = HD ∧ v = .str (askA fr .straight)) (fun hc Q' q => ?_) (fun hc Q' q => ?_) fun v H2 hv => ?_
  · walk_at "rd"
    exact q _ _ ⟨rfl, congrArg V.str (if_pos hc).symm⟩
  · walk_at "rd"
    exact q _ _ ⟨rfl, congrArg V.str (if_neg hc).symm⟩
  obtain ⟨rfl, rfl⟩ := hv
  walk_at "rd"
  refine r_me (s0D _ _ ht) ?_
  walk_at "rd"
  refine ⟨X, t, f, dx, m0, N, fr, fs, _, rfl, hd.same s0D, Ws, by omega, .inl ⟨.straight, rfl, fun HE sE => ?_⟩⟩
  have s0E := s0D.trans sE
  walk_at "rd"
  refine r_me (s0E _ _ ht) ?_
  walk_at "rd"
  refine ⟨X, t, f, dx, m0, N, fr, fs, _, rfl, hd.same s0E, Ws, by omega, .inl ⟨.names, rfl, fun HF sF => ?_⟩⟩
  have s0F := s0E.trans sF
  walk_at "rd"
  refine r_me (s0F _ _ ht) ?_
  walk_at "rd"
  refine ⟨X, t, f, dx, m0, N, fr, fs, _, rfl, hd.same s0F, Ws, by omega, .inl ⟨.deeds, rfl, fun HG sG => ?_⟩⟩
  have s0G := s0F.trans sG
  walk_at "rd"
  refine ⟨(sz1000 (Nat.le_of_ble_eq_true rfl)), ?_⟩
  (intro pH hl_; generalize he_ : upd _ pH _ = HH; have nH := New.mk hl_ he_.symm; clear hl_ he_)
  have s0H := s0G.trans nH.same
  walk_at "rd"
  refine r_joinL (a := []) (ys := fr.names.map fun x => [x]) (.inr (by rw [List.map_map]; exact NT.sq (h3.nm.same s0H))) (by rw [List.map_map, List.length_map, ones_sum]; simp; omega) ?_
  rw [joinL_nil, flat_ones]
  walk_at "rd"
  refine r_getK (k := .inr "log") (s0H _ _ ha) (lw_log _ _ _ _ _) ?_
  walk_at "rd"
  refine r_lenL (SqL.of (s0H _ _ hl)) ?_
  rw [List.length_map, hds.len]
  walk_at "rd"
  refine r_strN (n := fr.deeds.length) ?_ (Nat.lt_of_lt_of_le (show fr.deeds.length < 2 ^ 10 by have := W.ql; omega) (Nat.pow_le_pow_right (by decide) (by decide)))
  walk_at "rd"
  refine ⟨(sz1000 (Nat.le_of_ble_eq_true rfl)), ?_⟩
  (intro pI hl_; generalize he_ : upd _ pI _ = HI; have nI := New.mk hl_ he_.symm; clear hl_ he_)
  have oks : ∀ x ∈ [askA fr .straight, S fr.names, S (TL.numL fr.deeds.length)], PyData.strOk x = true := by
    intro x hx
    simp only [List.mem_cons, List.not_mem_nil, or_false] at hx
    rcases hx with rfl | rfl | rfl
    · unfold askA
      dsimp only
      split <;> decide +kernel
    · exact strOk_S fun y hy => by have := W.letN y hy; omega
    · exact num_ok _
  refine r_eqG (p := True) (Dp.lstS (l := [askA fr .straight, S fr.names, S (TL.numL fr.deeds.length)]) (nI.get nH.at)) (Dp.lstS (l := [askA fr .straight, S fr.names, S (TL.numL fr.deeds.length)]) nI.at) (PlD.list (n := 63) (.strs oks)) (PlD.list (n := 63) (.strs oks)) ⟨fun _ => rfl, fun _ => trivial⟩ ?_
  rw [decide_eq_true trivial]
  exact k HI (s0H.trans nI.same)
end
end My
end

section
set_option Elab.async false
set_option linter.all false
set_option maxRecDepth 100000
set_option maxHeartbeats 4000000
/-! EH: the law's state; the law. -/
namespace My
open PySem PySem.Spec PyProof.Rows L2 He LamX SX
local macro_rules | `(tactic| walk_at "rd") => `(tactic| repeat (with_reducible first
  | refine r_seq ?_ | refine r_asg ?_ | refine r_var (by with_unfolding_all rfl) ?_ | refine r_c ?_ | refine r_op ?_ | refine r_I0 ?_ | refine r_name ?_ | refine r_ret ?_ | refine r_if ?_ | refine r_cons ?_ | refine r_nil ?_
  | refine r_CB ?_ | refine r_call ?_ | refine r_test ?_ | refine r_eqI ?_ | refine r_eqS ?_ | refine r_neI ?_ | refine r_neS ?_ | refine r_drop ?_ | refine r_next ?_ | refine r_ifE ?_ | refine r_B ?_ | refine r_andV ?_ | refine r_orV ?_ | refine r_notV ?_ | refine r_blV ?_
  | refine r_and ?_ | refine r_or ?_ | refine r_not ?_ | refine r_tup ?_ | refine r_lst ?_ | refine r_par ?_ | refine r_exv2 ?_ | refine r_un ?_ | refine r_neg ?_ | refine r_isN ?_ | refine r_notN ?_ | refine r_retN ?_ | refine r_chain ?_
  | refine r_star ?_ | refine r_lstRg ?_ | refine r_rg1 ?_ | refine r_rg2 ?_ | refine r_exi ?_ | refine r_exi2 ?_ | refine r_sl ?_ | refine r_noPart ?_ | refine r_part ?_ | refine r_gnil ?_ | refine r_gcons ?_ | refine r_gsub ?_ | refine r_BM ?_ | refine r_M1 ?_ | refine r_isstr ?_ | refine r_meth ?_ | refine r_make ?_ | refine r_fld ?_ | refine r_abs ?_ | refine r_isiIntInt ?_ | refine r_isiIntBool ?_ | refine r_isiStr ?_ | refine r_min ?_ | refine r_max ?_ | refine r_int1 ?_ | refine r_intb ?_ | refine r_for ?_ | refine r_itup ?_ | refine r_ilist ?_ | refine r_lc ?_ | refine r_yes ?_ | refine r_istr ?_ | refine r_rng1 ?_ | refine r_rng2 ?_ | refine r_dput ?_ | refine r_daug ?_ | refine r_dget ?_ | refine r_dnewT ?_ | refine r_addI ?_ | refine r_ev ?_ | refine r_sfld ?_ | refine r_faug ?_ | refine r_prop ?_ | refine r_while ?_ | refine r_augS ?_ | refine r_tupF ?_ | refine r_idxT ?_ | refine r_kd ?_ | refine r_ki ?_ | refine r_enum ?_))

local macro_rules | `(tactic| walk_at "rn") => `(tactic| repeat (with_reducible first
  | refine r_seq ?_ | refine r_asg ?_ | refine r_var (by with_unfolding_all rfl) ?_ | refine r_c ?_ | refine r_op ?_ | refine r_I0 ?_ | refine r_name ?_ | refine r_ret ?_ | refine r_cons ?_ | refine r_nil ?_
  | refine r_CB ?_ | refine r_call ?_ | refine r_test ?_ | refine r_eqI ?_ | refine r_eqS ?_ | refine r_neI ?_ | refine r_neS ?_ | refine r_drop ?_ | refine r_next ?_ | refine r_B ?_ | refine r_andV ?_ | refine r_orV ?_ | refine r_notV ?_ | refine r_blV ?_
  | refine r_and ?_ | refine r_or ?_ | refine r_not ?_ | refine r_tup ?_ | refine r_lst ?_ | refine r_par ?_ | refine r_exv2 ?_ | refine r_un ?_ | refine r_neg ?_ | refine r_isN ?_ | refine r_notN ?_ | refine r_retN ?_ | refine r_chain ?_
  | refine r_star ?_ | refine r_lstRg ?_ | refine r_rg1 ?_ | refine r_rg2 ?_ | refine r_exi ?_ | refine r_exi2 ?_ | refine r_sl ?_ | refine r_noPart ?_ | refine r_part ?_ | refine r_gnil ?_ | refine r_gcons ?_ | refine r_gsub ?_ | refine r_BM ?_ | refine r_M1 ?_ | refine r_isstr ?_ | refine r_meth ?_ | refine r_make ?_ | refine r_fld ?_ | refine r_abs ?_ | refine r_isiIntInt ?_ | refine r_isiIntBool ?_ | refine r_isiStr ?_ | refine r_min ?_ | refine r_max ?_ | refine r_int1 ?_ | refine r_intb ?_ | refine r_for ?_ | refine r_itup ?_ | refine r_ilist ?_ | refine r_lc ?_ | refine r_yes ?_ | refine r_istr ?_ | refine r_rng1 ?_ | refine r_rng2 ?_ | refine r_dput ?_ | refine r_daug ?_ | refine r_dget ?_ | refine r_dnewT ?_ | refine r_addI ?_ | refine r_ev ?_ | refine r_sfld ?_ | refine r_faug ?_ | refine r_prop ?_ | refine r_while ?_ | refine r_augS ?_ | refine r_tupF ?_ | refine r_idxT ?_ | refine r_kd ?_ | refine r_ki ?_ | refine r_enum ?_))

local macro_rules | `(tactic| walk_at "hp") => `(tactic| (with_reducible first
  | assumption | exact New.at (by assumption)
  | exact SqT.of (by walk_at "hp") | exact SqL.of (by walk_at "hp") | exact Or.inl (by walk_at "hp") | exact Or.inr (by walk_at "hp")
  | exact New.get (by assumption) (by walk_at "hp") | exact Same.get (by assumption) (by walk_at "hp")))


section
variable {K : PySem.W.Frag} {X Y : List Addr} {H H1 H' : Hp}
/-! ### fewer places that may change -/
theorem DeedsAt.sub (h : X ⊆ Y) : ∀ {as : List Addr} {qs : List Dd}, DeedsAt Y H as qs → DeedsAt X H as qs
  | [], [], _ => trivial
  | a :: as, q :: qs, p => ⟨⟨fun m => p.1.1 (h m), p.1.2⟩, DeedsAt.sub h p.2⟩
  | [], _ :: _, p => p.elim
  | _ :: _, [], p => p.elim
theorem FrAt.sub {n d e l : Addr} {fr : Fr} (p : FrAt K Y H n d e l fr) (h : X ⊆ Y) : FrAt K X H n d e l fr :=
  ⟨fun m => p.nX (h m), p.nm, fun m => p.dX (h m), p.dn, fun m => p.eX (h m), p.ev, fun m => p.lX (h m), let ⟨as, q, r⟩ := p.dd; ⟨as, q, r.sub h⟩⟩
theorem IsSt.sub (h : X ⊆ Y) : ∀ {fs : List Fr} {v : V}, IsSt K Y H fs v → IsSt K X H fs v
  | [], _, p => p
  | _ :: _, _, ⟨a, dx, n, d, e, l, bf, h1, h2, h3, h4, h5⟩ => ⟨a, dx, n, d, e, l, bf, h1, fun m => h2 (h m), h3, h4.sub h, IsSt.sub h h5⟩
theorem FlAt.sub {f dx : Addr} {m0 : Nat} {fs : List Fr} (p : FlAt K Y H f dx m0 fs) (h : X ⊆ Y) (hf : f ∈ X) : FlAt K X H f dx m0 fs := ⟨fun x m => p.ok x (h m), hf, let ⟨v, e, r⟩ := p.st; ⟨v, e, r.sub h⟩⟩
/-- a floor made over, the others of X known -/
theorem flAt_of {f dx : Addr} {m0 : Nat} {fs : List Fr} (ok : OkX X H') (p : FlAt K X H f dx m0 fs) (s : SameX X H H') (e : ∀ u, H f = some u → H' f = some u) : FlAt K X H' f dx m0 fs :=
  ⟨ok, p.fX, let ⟨v, q, r⟩ := p.st; ⟨v, e _ q, r.mono s⟩⟩
/-! ### the state of the law -/
structure LA (K : PySem.W.Frag) (X : List Addr) (H : Hp) (d l c f x1 t f2 x2 : Addr) (m0 : Nat) (fF fD fL : List Fr) (v : V) : Prop where
  dr : DrAt H d l c
  fl : FlAt K X H f x1 m0 fF
  dk : DkAt K X H t f2 x2 m0 fD
  lw : IsLw K X H fL v
  tb : Tabs (LT K) H
  dX : d ∈ X
  lX : l ∈ X
  cX : c ∉ X
  ne : f ≠ f2
variable {d l c f x1 t f2 x2 : Addr} {m0 : Nat} {fF fD fL gs : List Fr} {v v' : V}
theorem LA.same (h : LA K X H d l c f x1 t f2 x2 m0 fF fD fL v) (s : Same H H') : LA K X H' d l c f x1 t f2 x2 m0 fF fD fL v :=
  ⟨h.dr.same s, h.fl.same s, h.dk.same s, h.lw.mono (SameX.of s), Tabs.ext h.tb s, h.dX, h.lX, h.cX, h.ne⟩
theorem LA.insNe (h : LA K X H d l c f x1 t f2 x2 m0 fF fD fL v) {a C dx : Addr} {fs : List (Str × V)} (e : H a = some (.ins C dx fs)) : a ≠ d ∧ a ≠ l ∧ a ≠ c := by
  obtain ⟨⟨r, tt, e1⟩, ⟨lg, e2⟩, ⟨cs, e3⟩, _⟩ := h.dr
  exact ⟨fun z => (by rw [z, e1] at e; cases e), fun z => (by rw [z, e2] at e; cases e), fun z => (by rw [z, e3] at e; cases e)⟩
theorem LA.draw (h : LA K X H d l c f x1 t f2 x2 m0 fF fD fL v) (s : SameX [d, l] H H') (hd : DrAt H' d l c) : LA K X H' d l c f x1 t f2 x2 m0 fF fD fL v := by
  obtain ⟨sf, ef, _⟩ := h.fl.st
  obtain ⟨sf2, ef2, _⟩ := h.dk.fl.st
  have nf := h.insNe ef
  have nf2 := h.insNe ef2
  have sX : SameX X H H' := fun b u hb hu => s b u (fun hm => by
    rcases List.mem_cons.mp hm with e | hm
    · exact hb (e ▸ h.dX)
    · exact hb (List.mem_singleton.mp hm ▸ h.lX)) hu
  have out : ∀ a, a ≠ d ∧ a ≠ l ∧ a ≠ c → ∀ u, H a = some u → H' a = some u := fun a n u hu => s a u (by simp [n.1, n.2.1]) hu
  have ok : OkX X H' := fun x hx => by
    by_cases e1 : x = d
    · obtain ⟨⟨r, tt, e⟩, _⟩ := hd
      exact .inr (.inl ⟨_, by rw [e1]; exact e⟩)
    · by_cases e2 : x = l
      · obtain ⟨_, ⟨lg, e⟩, _⟩ := hd
        exact .inr (.inr ⟨_, by rw [e2]; exact e⟩)
      · have hx' : x ∉ [d, l] := by simp [e1, e2]
        rcases h.fl.ok x hx with ⟨C, dx, fs, e⟩ | ⟨k, e⟩ | ⟨k, e⟩
        · exact .inl ⟨C, dx, fs, s _ _ hx' e⟩
        · exact .inr (.inl ⟨k, s _ _ hx' e⟩)
        · exact .inr (.inr ⟨k, s _ _ hx' e⟩)
  refine ⟨hd, flAt_of ok h.fl sX (out f nf), ⟨h.dk.tX, ?_, flAt_of ok h.dk.fl sX (out f2 nf2)⟩, h.lw.mono sX, My.Tabs.mono h.tb h.fl.ok sX, h.dX, h.lX, h.cX, h.ne⟩
  obtain ⟨dy, e⟩ := h.dk.at_
  exact ⟨dy, sX _ _ h.dk.tX e⟩
theorem DrAt.but {g : Addr} (h : DrAt H d l c) (n : g ≠ d ∧ g ≠ l ∧ g ≠ c) (s : SameBut g H H') : DrAt H' d l c :=
  ⟨let ⟨r, tt, e⟩ := h.dr; ⟨r, tt, s _ _ (Ne.symm n.1) e⟩, let ⟨x, e⟩ := h.lg; ⟨x, s _ _ (Ne.symm n.2.1) e⟩, let ⟨x, e⟩ := h.cl; ⟨x, s _ _ (Ne.symm n.2.2) e⟩, h.lc⟩
theorem LA.call (h : LA K X H d l c f x1 t f2 x2 m0 fF fD fL v) (eN : ExtN H H1) (sb : SameBut f H1 H') (hf : FlAt K X H' f x1 m0 gs) (tb : Tabs (LT K) H') : LA K X H' d l c f x1 t f2 x2 m0 gs fD fL v := by
  obtain ⟨sf, ef, _⟩ := h.fl.st
  have nf := h.insNe ef
  have sX : SameX X H1 H' := SameX.but h.fl.fX sb
  have k1 := h.dk.extN eN
  refine ⟨(h.dr.extN eN).but nf sb, hf, ⟨h.dk.tX, ?_, flAt_of hf.ok k1.fl sX fun u q => sb _ _ (Ne.symm h.ne) q⟩, (h.lw.extN eN).mono sX, tb, h.dX, h.lX, h.cX, h.ne⟩
  obtain ⟨dy, e⟩ := k1.at_
  exact ⟨dy, sX _ _ h.dk.tX e⟩
theorem LA.tell (h : LA K X H d l c f x1 t f2 x2 m0 fF fD fL v) (sb : SameBut f2 H H') (hf : FlAt K X H' f2 x2 m0 gs) : LA K X H' d l c f x1 t f2 x2 m0 fF gs fL v := by
  obtain ⟨sf, ef, _⟩ := h.dk.fl.st
  have nf := h.insNe ef
  have sX : SameX X H H' := SameX.but h.dk.fl.fX sb
  exact ⟨h.dr.but nf sb, flAt_of hf.ok h.fl sX fun u q => sb _ _ h.ne q, h.dk.but sb hf, h.lw.mono sX, My.Tabs.mono h.tb h.fl.ok sX, h.dX, h.lX, h.cX, h.ne⟩
theorem LA.law (h : LA K X H d l c f x1 t f2 x2 m0 fF fD fL v) (s : Same H H') (q : IsLw K X H' gs v') : LA K X H' d l c f x1 t f2 x2 m0 fF fD gs v' :=
  let g := h.same s; ⟨g.dr, g.fl, g.dk, q, g.tb, h.dX, h.lX, h.cX, h.ne⟩
theorem chain_wfN {m : Nat} (h1 : 2 ≤ m) (h2 : m ≤ 5) {fr : Fr} {fs : List Fr} (h : Chain m (fr :: fs)) {N : Nat} (hN : fr.deeds.length ≤ N) : ∀ g ∈ fr :: fs, Wf N g := fun g hg =>
  (chain_wf h1 h2 h g hg).more (Nat.le_trans (@chain_wf.chain_mono m m _ _ h g hg) hN)
theorem chain_len {m : Nat} : ∀ {fr : Fr} {fs : List Fr}, Chain m (fr :: fs) → fr.deeds.length = fs.length
  | fr, [], h => by rw [show fr = fr0 m from h]; rfl
  | fr, g :: fs, h => by
    obtain ⟨hc, q, _, _, _, hd⟩ := h
    rw [hd, List.length_append, chain_len hc]; rfl
theorem lw_disp (lg n dn : Addr) : mergeK [] [((.inr "ahead" : Key), V.non), (.inr "log", .ref lg), (.inr "old", .ref n), (.inr "names", .ref n), (.inr "dance", .ref dn)] = lwK .non lg n n dn := rfl
theorem abc_take {m : Nat} (h1 : 2 ≤ m) (h2 : m ≤ 5) : Txt.slice ("abcde" : Str) none (some (m : Int)) = S (let26.take m) := by
  have h : m = 2 ∨ m = 3 ∨ m = 4 ∨ m = 5 := by omega
  rcases h with rfl | rfl | rfl | rfl <;> decide +kernel
/-- a line's first signs -/
theorem ans_ok (m0 : Nat) (r : Option Kd × List Fr) (hn : r.1 ≠ some .number) : decide (Txt.slice (ansW m0 r) none (some 3) = ("ok " : Str)) = decide (kdS r.1 = ("none" : Str)) := by
  obtain ⟨a, gs⟩ := r
  cases a with
  | none =>
    refine decide_eq_decide.mpr ⟨fun _ => rfl, fun _ => ?_⟩
    show Txt.slice (S ([111, 107, 32] ++ standF (headF m0 gs))) none (some 3) = S [111, 107, 32]
    rw [← C8.cutS_slice]
    unfold cutS
    rw [S_len]
    have e : HT.sIx ([111, 107, 32] ++ standF (headF m0 gs)).length ([111, 107, 32] ++ standF (headF m0 gs)).length (some 3) = 3 := by
      rw [show (some 3 : Option Int) = some ((3 : Nat) : Int) from rfl, HT.sIx_nat, List.length_append]
      simp
    rw [e]
    show S ((([111, 107, 32] ++ standF (headF m0 gs)).drop 0).take 3) = S [111, 107, 32]
    rfl
  | some k =>
    cases k
    · exact (by decide +kernel : decide (Txt.slice ("error badstep" : Str) none (some 3) = ("ok " : Str)) = decide (("step" : Str) = ("none" : Str)))
    · exact (by decide +kernel : decide (Txt.slice ("error badname" : Str) none (some 3) = ("ok " : Str)) = decide (("name" : Str) = ("none" : Str)))
    · exact absurd rfl hn
    · exact (by decide +kernel : decide (Txt.slice ("error notnow" : Str) none (some 3) = ("ok " : Str)) = decide (("now" : Str) = ("none" : Str)))
    · exact (by decide +kernel : decide (Txt.slice ("error nothingdone" : Str) none (some 3) = ("ok " : Str)) = decide (("nothing" : Str) = ("none" : Str)))
end
end My
end

section
set_option Elab.async false
set_option linter.all false
set_option maxRecDepth 100000
set_option maxHeartbeats 4000000
/-! EI: the law. -/
namespace My
open PySem PySem.Spec PyProof.Rows L2 He LamX SX
local macro_rules | `(tactic| walk_at "rd") => `(tactic| repeat (with_reducible first
  | refine r_seq ?_ | refine r_asg ?_ | refine r_var (by with_unfolding_all rfl) ?_ | refine r_c ?_ | refine r_op ?_ | refine r_I0 ?_ | refine r_name ?_ | refine r_ret ?_ | refine r_if ?_ | refine r_cons ?_ | refine r_nil ?_
  | refine r_CB ?_ | refine r_call ?_ | refine r_test ?_ | refine r_eqI ?_ | refine r_eqS ?_ | refine r_neI ?_ | refine r_neS ?_ | refine r_drop ?_ | refine r_next ?_ | refine r_ifE ?_ | refine r_B ?_ | refine r_andV ?_ | refine r_orV ?_ | refine r_notV ?_ | refine r_blV ?_
  | refine r_and ?_ | refine r_or ?_ | refine r_not ?_ | refine r_tup ?_ | refine r_lst ?_ | refine r_par ?_ | refine r_exv2 ?_ | refine r_un ?_ | refine r_neg ?_ | refine r_isN ?_ | refine r_notN ?_ | refine r_retN ?_ | refine r_chain ?_
  | refine r_star ?_ | refine r_lstRg ?_ | refine r_rg1 ?_ | refine r_rg2 ?_ | refine r_exi ?_ | refine r_exi2 ?_ | refine r_sl ?_ | refine r_noPart ?_ | refine r_part ?_ | refine r_gnil ?_ | refine r_gcons ?_ | refine r_gsub ?_ | refine r_BM ?_ | refine r_M1 ?_ | refine r_isstr ?_ | refine r_meth ?_ | refine r_make ?_ | refine r_fld ?_ | refine r_abs ?_ | refine r_isiIntInt ?_ | refine r_isiIntBool ?_ | refine r_isiStr ?_ | refine r_min ?_ | refine r_max ?_ | refine r_int1 ?_ | refine r_intb ?_ | refine r_for ?_ | refine r_itup ?_ | refine r_ilist ?_ | refine r_lc ?_ | refine r_yes ?_ | refine r_istr ?_ | refine r_rng1 ?_ | refine r_rng2 ?_ | refine r_dput ?_ | refine r_daug ?_ | refine r_dget ?_ | refine r_dnewT ?_ | refine r_addI ?_ | refine r_ev ?_ | refine r_sfld ?_ | refine r_faug ?_ | refine r_prop ?_ | refine r_while ?_ | refine r_augS ?_ | refine r_tupF ?_ | refine r_idxT ?_ | refine r_kd ?_ | refine r_ki ?_ | refine r_enum ?_))

local macro_rules | `(tactic| walk_at "rn") => `(tactic| repeat (with_reducible first
  | refine r_seq ?_ | refine r_asg ?_ | refine r_var (by with_unfolding_all rfl) ?_ | refine r_c ?_ | refine r_op ?_ | refine r_I0 ?_ | refine r_name ?_ | refine r_ret ?_ | refine r_cons ?_ | refine r_nil ?_
  | refine r_CB ?_ | refine r_call ?_ | refine r_test ?_ | refine r_eqI ?_ | refine r_eqS ?_ | refine r_neI ?_ | refine r_neS ?_ | refine r_drop ?_ | refine r_next ?_ | refine r_B ?_ | refine r_andV ?_ | refine r_orV ?_ | refine r_notV ?_ | refine r_blV ?_
  | refine r_and ?_ | refine r_or ?_ | refine r_not ?_ | refine r_tup ?_ | refine r_lst ?_ | refine r_par ?_ | refine r_exv2 ?_ | refine r_un ?_ | refine r_neg ?_ | refine r_isN ?_ | refine r_notN ?_ | refine r_retN ?_ | refine r_chain ?_
  | refine r_star ?_ | refine r_lstRg ?_ | refine r_rg1 ?_ | refine r_rg2 ?_ | refine r_exi ?_ | refine r_exi2 ?_ | refine r_sl ?_ | refine r_noPart ?_ | refine r_part ?_ | refine r_gnil ?_ | refine r_gcons ?_ | refine r_gsub ?_ | refine r_BM ?_ | refine r_M1 ?_ | refine r_isstr ?_ | refine r_meth ?_ | refine r_make ?_ | refine r_fld ?_ | refine r_abs ?_ | refine r_isiIntInt ?_ | refine r_isiIntBool ?_ | refine r_isiStr ?_ | refine r_min ?_ | refine r_max ?_ | refine r_int1 ?_ | refine r_intb ?_ | refine r_for ?_ | refine r_itup ?_ | refine r_ilist ?_ | refine r_lc ?_ | refine r_yes ?_ | refine r_istr ?_ | refine r_rng1 ?_ | refine r_rng2 ?_ | refine r_dput ?_ | refine r_daug ?_ | refine r_dget ?_ | refine r_dnewT ?_ | refine r_addI ?_ | refine r_ev ?_ | refine r_sfld ?_ | refine r_faug ?_ | refine r_prop ?_ | refine r_while ?_ | refine r_augS ?_ | refine r_tupF ?_ | refine r_idxT ?_ | refine r_kd ?_ | refine r_ki ?_ | refine r_enum ?_))

local macro_rules | `(tactic| walk_at "hp") => `(tactic| (with_reducible first
  | assumption | exact New.at (by assumption)
  | exact SqT.of (by walk_at "hp") | exact SqL.of (by walk_at "hp") | exact Or.inl (by walk_at "hp") | exact Or.inr (by walk_at "hp")
  | exact New.get (by assumption) (by walk_at "hp") | exact Same.get (by assumption) (by walk_at "hp")))


theorem dr_okX {H : Hp} {d l c : Addr} (h : DrAt H d l c) : OkX [d, l] H := fun x hx => by
  obtain ⟨⟨r, tt, e1⟩, ⟨lg, e2⟩, _, _⟩ := h
  rcases List.mem_cons.mp hx with rfl | hx
  · exact .inr (.inl ⟨_, e1⟩)
  · rw [List.mem_singleton.mp hx]; exact .inr (.inr ⟨_, e2⟩)
theorem S_ne {b : Nat} {l : List Nat} : S (b :: l) ≠ ("" : Str) := fun e => absurd (S_inj (b := []) e) (by simp)
theorem line_none {N : Nat} {fr : Fr} {fs : List Fr} {q : Dd} (W : Wf N fr) (h : lineV fr q = "") : (actF (fr :: fs) q).1 ≠ none := by
  cases q with
  | step x =>
    by_cases hx : x.natAbs < 5
    · rw [show lineV fr (.step x) = lineW (.step x) from if_pos hx] at h
      exact absurd h S_ne
    · have := W.hi
      simp only [actF]
      rw [if_neg (by omega)]
      simp
  | join a c =>
    by_cases ha : a = 0 ∨ a = fr.names.length
    · rw [show lineV fr (.join a c) = lineW (.join a c) from if_pos ha] at h
      unfold lineW at h
      dsimp only at h
      split at h <;> exact absurd h S_ne
    · simp only [actF]
      rw [if_pos ha]
      simp
  | leave c => exact absurd h S_ne
  | undo => exact absurd h S_ne
theorem line_ok {fr : Fr} {q : Dd} (o1 : okD q) (o2 : lawD q) (h : lineV fr q ≠ "") : lineV fr q = lineW q ∧ lineOk fr q := by
  cases q with
  | step x =>
    by_cases hx : x.natAbs < 5
    · exact ⟨if_pos hx, o2, hx⟩
    · exact absurd (if_neg hx) h
  | join a c =>
    by_cases ha : a = 0 ∨ a = fr.names.length
    · exact ⟨if_pos ha, ha, o1⟩
    · exact absurd (if_neg ha) h
  | leave c => exact ⟨rfl, o1⟩
  | undo => exact ⟨rfl, trivial⟩
theorem ans_len {m N : Nat} {r : Option Kd × List Fr} (W : ∀ g ∈ r.2, Wf N g) (hne : r.2 ≠ []) : (ansW m r).length ≤ 100 := by
  obtain ⟨a, gs⟩ := r
  cases a with
  | none =>
    cases gs with
    | nil => exact absurd rfl hne
    | cons g gs =>
      have Wg := W g List.mem_cons_self
      have h1 := standF_len Wg
      have h2 := Wg.hi
      show (S ([111, 107, 32] ++ standF g)).length ≤ 100
      rw [S_len, List.length_append]
      simp; omega
  | some k => cases k <;> exact Nat.le_of_ble_eq_true rfl
theorem js_three {H : Hp} {m0 : Nat} {js : List (Addr × Dd)} (h : JAt H m0 js) : ∃ js3 : List (Addr × Dd × Addr), js = js3.map (fun x => (x.1, x.2.1)) ∧ ∀ x ∈ js3, (∃ z, H x.1 = some (.tup [.ref x.2.2, .ref z])) ∧ H x.2.2 = some (.tup (deedV x.2.1)) := by
  have h1 : ∀ x ∈ js, ∃ dq z, H x.1 = some (.tup [.ref dq, .ref z]) ∧ H dq = some (.tup (deedV x.2)) := fun x hx => by
    obtain ⟨pre, post, e⟩ := List.append_of_mem hx
    obtain ⟨dq, z, g1, g2, _⟩ := h pre x post e
    exact ⟨dq, z, g1, g2⟩
  clear h
  induction js with
  | nil => exact ⟨[], rfl, fun _ h => nomatch h⟩
  | cons x js ih =>
    obtain ⟨js3, e, h3⟩ := ih fun y hy => h1 y (List.mem_cons_of_mem _ hy)
    obtain ⟨dq, z, g1, g2⟩ := h1 x List.mem_cons_self
    refine ⟨(x.1, x.2, dq) :: js3, by rw [List.map_cons, ← e], fun y hy => ?_⟩
    rcases List.mem_cons.mp hy with rfl | hy
    · exact ⟨⟨z, g1⟩, g2⟩
    · exact h3 y hy
theorem dp_three {K : PySem.W.Frag} {H : Hp} : ∀ {js3 : List (Addr × Dd × Addr)}, (∀ x ∈ js3, H x.2.2 = some (.tup (deedV x.2.1))) → DpAll K H (js3.map fun x => V.ref x.2.2) (js3.map fun x => deedD x.2.1)
  | [], _ => .nil
  | x :: js3, h => .cons (dp_deed (h x List.mem_cons_self)) (dp_three fun y hy => h y (List.mem_cons_of_mem _ hy))
section
variable {w : World} {K : PySem.W.Frag} {mg : Str → Option Value} {base : Heap}
def sp_law (K : PySem.W.Frag) : Sp := fun vs H Q _ => ∃ (a : Addr) (xs : List Int), vs = [.ref a] ∧ SqL K H a (xs.map V.int) ∧ xs.length ≤ 63 ∧ Tabs (LT K) H ∧ ∀ H', Q (.bl true) H'
theorem body_law (T : Tx w K mg base) {cdv : Value} {A : Around} {outer : List Env} {s : Shared} {H : Hp} {vs : List V} {Q : VK} {E : XK} (hr : Room 13 (A.deeper (envOfC "law" (defScope s_law) s.heap.objs.size (ga K "law") cdv))) (h : sp_law K vs H Q E) :
    ∃ t, PSs (cxOf C8.CX0 P0 w K mg base N_law "law" (defScope s_law) (ga K "law") cdv A outer s H E).nox (defBody s_law) t ∧ t { nx := fun _ H' => Q .non H', rt := Q } (L2.start N_law vs) H := by
  obtain ⟨a, xs, rfl, ha, hxs, hT, k⟩ := h
  refine ⟨_, (pss_cons (ps_set (i := 1) sc_law.nd rfl (Or.inl rfl) (C8.pe_c (c_L_begun (K := K) T) hr (by decide) rfl (pa_cons (pv 0) pa_nil)))
  (pss_cons (ps_for PassesOwn.never rfl (pi_range1 rfl (b_range T) (pa_cons (pe_op op_add pe_int (pe_callB (callMin rfl) rfl (b_min T) bb_min (pa_cons (pe_callB (callLen (K := K)) rfl (b_len T) bb_len (pa_cons (pv 0) pa_nil)) (pa_cons pe_int pa_nil)))) pa_nil)) (pg_name (i := 2) sc_law.nd rfl (Or.inl rfl))
  (pss_cons (ps_set (i := 3) sc_law.nd rfl (Or.inl rfl) (pe_op op_add pe_int (C8.pe_c (c_L_take (K := K) T) hr (by decide) rfl (pa_cons (pv 1) (pa_cons pe_int pa_nil)))))
  (pss_cons (ps_set (i := 4) sc_law.nd rfl (Or.inl rfl) (pe_callTy (callTupStrF rfl) rfl (b_tuple T) bb_tuple (pa_cons (pe_slice C8.sl_txt pe_str po_none (po_some (pv 3))) pa_nil)))
  (pss_cons (ps_set (i := 5) sc_law.nd rfl (Or.inl rfl) (pe_disp (pps_cons pe_str pe_non (pps_cons pe_str (pe_lst pa_nil) (pps_cons pe_str (pv 4) (pps_cons pe_str (pv 4) (pps_cons pe_str (pe_tup pa_nil) pps_nil))))) (by rfl) (by rfl) (fun z => by cases z) (by decide)))
  (pss_cons (ps_par rfl sc_law.nd (i := 6) (j := 7) rfl rfl (by decide) rfl rfl (pa_cons (C8.pe_mk (m_Floor (K := K) T) hr (by decide) rfl (pa_cons (pv 3) pa_nil)) (pa_cons (C8.pe_mk (m_Desk (K := K) T) hr (by decide) rfl (pa_cons (pv 3) pa_nil)) pa_nil)) rfl)
  (pss_cons (ps_for PassesOwn.never rfl (pi_range1 rfl (b_range T) (pa_cons (pe_op op_add pe_int (C8.pe_c (c_L_take (K := K) T) hr (by decide) rfl (pa_cons (pv 1) (pa_cons pe_int pa_nil)))) pa_nil)) (pg_name (i := 8) sc_law.nd rfl (Or.inl rfl))
  (pss_cons (ps_set (i := 9) sc_law.nd rfl (Or.inl rfl) (C8.pe_c (c_L_deed (K := K) T) hr (by decide) rfl (pa_cons (pv 1) (pa_cons (pv 5) pa_nil))))
  (pss_cons (ps_set (i := 10) sc_law.nd rfl (Or.inl rfl) (C8.pe_c (c_L_line (K := K) T) hr (by decide) rfl (pa_cons (pv 9) (pa_cons (pe_callB (callLen (K := K)) rfl (b_len T) bb_len (pa_cons (pe_dget (hu_of hr) (pv 5) pe_str (fun _ _ => rfl)) pa_nil)) pa_nil))))
  (pss_cons (ps_asg (C8.pe_c (c_L_act (K := K) T) hr (by decide) rfl (pa_cons (pv 5) (pa_cons (pv 9) pa_nil))) (pgTup (K := K) (n := 2) rfl (pgs_cons (pg_name (i := 11) sc_law.nd rfl (Or.inl rfl)) (pgs_cons (pg_name (i := 5) sc_law.nd rfl (Or.inl rfl)) pgs_nil))))
  (pss_cons (ps_if (PW.pt (pw_or (pt_cmpR op_ne (C8.pe_c (c_L_call (K := K) T) hr (by decide) rfl (pa_cons (pv 6) (pa_cons (pv 9) pa_nil))) (pv 11) (nomark _)) (pw_or1 (pt_not (pt_val (C8.pe_c (c_L_stands (K := K) T) hr (by decide) rfl (pa_cons (pv 5) (pa_cons (pv 6) pa_nil)))))))) (pss_one (ps_ret pe_bl)) pss_nil)
  (pss_one (ps_if (PW.pt (pw_and (pt_cmpR op_ne (pv 10) pe_str (nomark _)) (pw_and (pt_cmpR op_ne (pv 11) pe_str (nomark _)) (pw_and1 (pt_cmpR op_ne (pe_cmpR op_eq (pe_slice C8.sl_txt (C8.pe_mt (c_Desk_say (K := K) T) hr (by decide) (pv 7) (pa_cons (pv 10) pa_nil)) po_none (po_some pe_int)) pe_str (nomark _)) (pe_cmpR op_eq (pv 11) pe_str (nomark _)) (nomark _)))))) (pss_one (ps_ret pe_bl)) pss_nil)))))))
  (pss_cons (ps_if (pt_not (pt_val (C8.pe_c (c_L_told_right (K := K) T) hr (by decide) rfl (pa_cons (pv 5) (pa_cons (pv 7) pa_nil))))) (pss_one (ps_ret pe_bl)) pss_nil)
  (pss_cons (ps_set (i := 12) sc_law.nd rfl (Or.inl rfl) (C8.pe_c (c_journal_of (K := K) T) hr (by decide) rfl (pa_cons (pv 6) pa_nil)))
  (pss_cons (ps_if (PW.pt (pw_or (pt_cmpR (opNeD (K := K) hr.units) (pe_lc (own := [("_law_deed_here", 9), ("_law_line_here", 10)]) rfl sc_law.nd (piList (K := K) (pv 12)) (blkOk_by (N := N_law) (sc := defScope s_law) (by decide +kernel)) (fun _ _ _ _ _ => pgTup (K := K) (n := 2) rfl (pgs_cons (pg_name (i := 9) sc_law.nd rfl (Or.inl rfl)) (pgs_cons (pg_name (i := 10) sc_law.nd rfl (Or.inl rfl)) pgs_nil))) (fun _ _ _ _ _ => pts_nil) (fun _ _ _ _ _ => (pv 9))) (pe_dget (hu_of hr) (pv 5) pe_str (fun _ _ => rfl)) (nomark _)) (pw_or1 (pt_cmpR op_notN1 (C8.pe_c (c_first_wrong (K := K) T) hr (by decide) rfl (pa_cons (pv 3) (pa_cons (pv 12) pa_nil))) pe_non (nomark _))))) (pss_one (ps_ret pe_bl)) pss_nil)
  (pss_cons (ps_if (PW.pt (pw_or (pt_cmpR (opNeO (c_Floor_eq (K := K) T) (in_Floor T) (ne_Floor T) hr (by decide)) (C8.pe_c (c_replayed (K := K) T) hr (by decide) rfl (pa_cons (pv 3) (pa_cons (pv 12) pa_nil))) (pv 6) (nomark _)) (pw_or1 (pt_cmpR op_ne (C8.pe_c (c_first_wrong (K := K) T) hr (by decide) rfl (pa_cons (pv 3) (pa_cons (pe_op op_cat (pv 12) (pe_lst (pa_cons (pe_tup (pa_cons (pe_tup (pa_cons pe_str pa_nil)) (pa_cons (pe_tup pa_nil) pa_nil))) pa_nil))) pa_nil))) (pe_callB (callLen (K := K)) rfl (b_len T) bb_len (pa_cons (pv 12) pa_nil)) (nomark _))))) (pss_one (ps_ret pe_bl)) pss_nil)
  (pss_cons (ps_for PassesOwn.never rfl (pi_range1 rfl (b_range T) (pa_cons (pe_callB (callLen (K := K)) rfl (b_len T) bb_len (pa_cons (pe_dget (hu_of hr) (pv 5) pe_str (fun _ _ => rfl)) pa_nil)) pa_nil)) (pg_name (i := 8) sc_law.nd rfl (Or.inl rfl))
  (pss_cons (ps_asg (C8.pe_c (c_L_act (K := K) T) hr (by decide) rfl (pa_cons (pv 5) (pa_cons (pe_tup (pa_cons pe_str pa_nil)) pa_nil))) (pgTup (K := K) (n := 2) rfl (pgs_cons (pg_name (i := 11) sc_law.nd rfl (Or.inl rfl)) (pgs_cons (pg_name (i := 5) sc_law.nd rfl (Or.inl rfl)) pgs_nil))))
  (pss_one (ps_if (PW.pt (pw_or (pt_cmpR op_ne (C8.pe_c (c_L_call (K := K) T) hr (by decide) rfl (pa_cons (pv 6) (pa_cons (pe_tup (pa_cons pe_str pa_nil)) pa_nil))) (pv 11) (nomark _)) (pw_or1 (pt_not (pt_val (C8.pe_c (c_L_stands (K := K) T) hr (by decide) rfl (pa_cons (pv 5) (pa_cons (pv 6) pa_nil)))))))) (pss_one (ps_ret pe_bl)) pss_nil))))
  (pss_one (ps_if (PW.pt (pw_or (pt_cmpR (opNeO (c_Floor_eq (K := K) T) (in_Floor T) (ne_Floor T) hr (by decide)) (pv 6) (C8.pe_mk (m_Floor (K := K) T) hr (by decide) rfl (pa_cons (pv 3) pa_nil)) (nomark _)) (pw_or1 (pt_cmpR op_ne (C8.pe_c (c_L_call (K := K) T) hr (by decide) rfl (pa_cons (pv 6) (pa_cons (pe_tup (pa_cons pe_str pa_nil)) pa_nil))) pe_str (nomark _))))) (pss_one (ps_ret pe_bl)) pss_nil)))))))))))))
  (pss_one (ps_ret pe_bl)))), ?_⟩
  walk_at "rd"
  refine ⟨a, xs, rfl, ha, by omega, fun d l c H1 hd hl hc s1 dr1 => ?_⟩
  have T1 : Tabs (LT K) H1 := Tabs.ext hT s1
  walk_at "rd"
  refine r_lenL (s1.seq ha) ?_
  walk_at "rd"
  refine ⟨_, rfl, by rw [List.length_map]; omega, by rw [List.length_map]; omega, ?_⟩
  refine forR (lo := 0) (fun i σ H' => (∃ x2 x3 x4 x5 x6 x7 x8 x9 x10 x11 x12, σ = [some (.ref a), some (.ref d), x2, x3, x4, x5, x6, x7, x8, x9, x10, x11, x12]) ∧ DrAt H' d l c ∧ Tabs (LT K) H') ⟨⟨_, _, _, _, _, _, _, _, _, _, _, rfl⟩, dr1, T1⟩ ?_ ?_
  rotate_left
  · rintro σ H' ⟨⟨x2, x3, x4, x5, x6, x7, x8, x9, x10, x11, x12, rfl⟩, dr, tt⟩
    walk_at "rd"
    exact k H'
  rintro i0 σ H2 hi0 ⟨⟨x2, x3, x4, x5, x6, x7, x8, x9, x10, x11, x12, rfl⟩, dr2, T2⟩
  walk_at "rd"
  refine ⟨d, l, c, 4, rfl, dr2, by decide, by decide, fun j H3 hj s3 dr3 => ?_⟩
  have T3 : Tabs (LT K) H3 := My.Tabs.mono T2 (dr_okX dr2) s3
  walk_at "rd"
  obtain ⟨m, hm⟩ : ∃ m : Nat, m = 2 + j := ⟨_, rfl⟩
  rw [show (2 + (j : Int)) = (m : Int) by omega]
  have hm1 : 2 ≤ m := by omega
  have hm2 : m ≤ 5 := by omega
  clear hm hj
  walk_at "rd"
  refine r_sltx (by decide) (abc_take hm1 hm2) ?_
  walk_at "rd"
  refine ⟨_, rfl, by show (let26.take m).toArray.toList.length ≤ 1000; simp; omega, fun nm H4 s4 t4 => ?_⟩
  have t4' : NT H4 nm ((let26.take m).map nmV) := t4
  walk_at "rd"
  refine r_disp fun a0 H5 n5 => ?_
  refine r_pair ?_
  walk_at "rd"
  refine r_pair ?_
  walk_at "rd"
  refine ⟨(sz1000 (Nat.le_of_ble_eq_true rfl)), ?_⟩
  (intro lg hl_; generalize he_ : upd _ lg _ = H6; have n6 := New.mk hl_ he_.symm; clear hl_ he_)
  refine r_pair ?_
  walk_at "rd"
  refine r_pair ?_
  walk_at "rd"
  refine r_pair ?_
  walk_at "rd"
  refine ⟨(sz1000 (Nat.le_of_ble_eq_true rfl)), ?_⟩
  (intro dn hl_; generalize he_ : upd _ dn _ = H7; have n7 := New.mk hl_ he_.symm; clear hl_ he_)
  refine r_pair0 ⟨n7.get (n6.get n5.at), [(.inr "ahead", .non), (.inr "log", .ref lg), (.inr "old", .ref nm), (.inr "names", .ref nm), (.inr "dance", .ref dn)], rfl, Nat.le_of_ble_eq_true rfl, ?_⟩
  rw [lw_disp]
  generalize he8 : upd H7 a0 _ = H8
  have s48 : Same H4 H8 := by rw [← he8]; exact same_upd (n5.same.trans (n6.same.trans n7.same)) n5.free
  have ha0 : H8 a0 = some (.dK (lwK .non lg nm nm dn)) := by rw [← he8]; exact upd_same
  have lga : lg ≠ a0 := ne_of_none_ n5.at n6.free
  have dna : dn ≠ a0 := ne_of_none_ (n6.get n5.at) n7.free
  have hlg : H8 lg = some (.lst []) := by rw [← he8, upd_ne lga]; exact n7.get n6.at
  have hdn : H8 dn = some (.tup []) := by rw [← he8, upd_ne dna]; exact n7.at
  have tn := t4'.same s48
  have dr4 := dr3.same s4
  have dr8 := dr4.same s48
  have T8 : Tabs (LT K) H8 := Tabs.ext (Tabs.ext T3 s4) s48
  have lw8 : IsLw K [d, l] H8 [fr0 m] (.ref a0) :=
    ⟨a0, lg, nm, nm, dn, .non, rfl, (dr_okX dr4).new n5.free, ha0, ⟨(dr_okX dr4).nt t4', tn, (dr_okX dr8).tup hdn, hdn, (dr_okX dr4).nt t4', tn.rd, (dr_okX dr4).new (n5.same.free n6.free), [], hlg, trivial⟩, rfl⟩
  clear he8
  walk_at "rd"
  refine r_floor hm1 hm2 fun f x1 H9 hf s9 hF => ?_
  walk_at "rd"
  intro t dy ht hdy hne
  refine ⟨t, dy, m, rfl, upd_same, hm1, hm2, fun f2 y2 H11 H12 hf2 hf2t s11 hF2 e12 => ⟨rfl, ?_⟩⟩
  have s910 := same_upd (o := .ins (ga K "Desk") dy []) (same_upd (o := .own t) (Same.refl H9) hdy) ht
  have s911 : Same H9 H11 := s910.trans s11
  have s912 : Same H9 H12 := by rw [e12]; exact same_upd s911 ht
  have hf29 : H9 f2 = none := s910.free hf2
  have dr9 := dr8.same s9
  have ok9 := dr_okX dr9
  have fl9 : FlAt K ([d, l] ++ [f]) H9 f x1 m [fr0 m] := hF _ (by simp) fun x hx hxf => by
    rcases List.mem_append.mp hx with hx | hx
    · exact (dr_okX dr8) x hx
    · exact absurd (List.mem_singleton.mp hx) hxf
  obtain ⟨sf, ef, _⟩ := fl9.st
  have lw12 : IsLw K ([d, l] ++ [f] ++ [f2]) H12 [fr0 m] (.ref a0) := (((lw8.addX hf).mono (SameX.of s9)).addX hf29).mono (SameX.of s912)
  have ht11 : H11 t = some (.ins (ga K "Desk") dy []) := s11 _ _ upd_same
  have fl211 : FlAt K (([d, l] ++ [f] ++ [f2]) ++ [t]) H11 f2 y2 m [fr0 m] := hF2 _ (by simp) fun x hx hx2 => by
    rcases List.mem_append.mp hx with hx | hx
    · rcases List.mem_append.mp hx with hx | hx
      · exact (fl9.ok.same s910) x hx
      · exact absurd (List.mem_singleton.mp hx) hx2
    · rw [List.mem_singleton.mp hx]; exact .inl ⟨_, _, _, upd_same⟩
  obtain ⟨sf2, ef2, _⟩ := fl211.st
  have ht12 : H12 t = some (.ins (ga K "Desk") dy [("desk_floor", .ref f2)]) := by rw [e12]; exact upd_same
  have sbt : SameBut t H11 H12 := by rw [e12]; exact SameBut.refl.upd
  have ef212 : H12 f2 = some (flO K y2 m sf2) := sbt _ _ hf2t ef2
  have fl12 : FlAt K ([d, l] ++ [f] ++ [f2]) H12 f x1 m [fr0 m] := fl9.addX hf29 s912 ef212 (.inl ⟨_, _, _, rfl⟩)
  have fl212 : FlAt K ([d, l] ++ [f] ++ [f2]) H12 f2 y2 m [fr0 m] := (flAt_of (fl211.ok.but sbt ht12) fl211 (SameX.but (by simp) sbt) fun u q => sbt _ _ hf2t q).sub (List.subset_append_left _ _) (by simp)
  have nf : f ≠ f2 := fun e => by rw [e, hf29] at ef; cases ef
  obtain ⟨⟨r9, tt9, ed9⟩, ⟨lg9, el9⟩, ⟨cs9, ec9⟩, lc9⟩ := id dr9
  obtain ⟨⟨r8, tt8, ed8⟩, ⟨lg8, el8⟩, ⟨cs8, ec8⟩, lc8⟩ := id dr8
  have tX : t ∉ [d, l] ++ [f] ++ [f2] := fun hm => by
    simp only [List.mem_append, List.mem_cons, List.not_mem_nil, or_false] at hm
    rcases hm with ((rfl | rfl) | rfl) | rfl
    · rw [ht] at ed9; cases ed9
    · rw [ht] at el9; cases el9
    · rw [ht] at ef; cases ef
    · exact hf2t rfl
  have cX : c ∉ [d, l] ++ [f] ++ [f2] := fun hm => by
    simp only [List.mem_append, List.mem_cons, List.not_mem_nil, or_false] at hm
    rcases hm with ((rfl | rfl) | rfl) | rfl
    · rw [ed9] at ec9; cases ec9
    · exact lc9 rfl
    · rw [hf] at ec8; cases ec8
    · rw [hf29] at ec9; cases ec9
  obtain ⟨X, la⟩ : ∃ X, LA K X H12 d l c f x1 t f2 y2 m [fr0 m] [fr0 m] [fr0 m] (.ref a0) :=
    ⟨_, dr9.same s912, fl12, ⟨tX, ⟨dy, ht12⟩, fl212⟩, lw12, Tabs.ext (Tabs.ext T8 s9) s912, by simp, by simp, cX, nf⟩
  clear lw12 fl12 fl212 fl211 sbt ht12 ef212 ht11 tX cX fl9 ok9 hF hF2 lw8
  walk_at "rd"
  refine ⟨d, l, c, 9, rfl, la.dr, by decide, by decide, fun j2 H13 hj2 s13 dr13 => ?_⟩
  have la13 := la.draw s13 dr13
  walk_at "rd"
  refine ⟨_, rfl, by omega, by omega, ?_⟩
  refine forR (lo := 0) (fun i σ H' => ∃ v fr fs x8 x9 x10 x11 x12, σ = [some (.ref a), some (.ref d), some (.int (0 + (i0 : Int))), some (.int m), some (.ref nm), some v, some (.ref f), some (.ref t), x8, x9, x10, x11, x12] ∧ LA K X H' d l c f x1 t f2 y2 m (fr :: fs) (fr :: fs) (fr :: fs) v ∧ Chain m (fr :: fs) ∧ fr.deeds.length ≤ i)
    ⟨_, _, _, _, _, _, _, _, rfl, la13, rfl, Nat.le_refl _⟩ ?_ ?_
  · rintro i σ H14 hi ⟨v, fr, fs, x8, x9, x10, x11, x12, rfl, lb, hch, hlen⟩
    have hi10 : i ≤ 9 := by omega
    obtain ⟨a1, _, _, _, _, _, ev, _⟩ := id lb.lw
    subst ev
    have Ws := chain_wfN hm1 hm2 hch hlen
    have W := Ws fr List.mem_cons_self
    walk_at "rd"
    refine ⟨X, a1, d, l, c, i, fr, fs, rfl, lb.dr, ⟨lb.dX, lb.lX⟩, lb.fl.ok, lb.lw, W, fun dq q H15 s15 dr15 eq okq lawq => ?_⟩
    have lcc := lb.draw s15 dr15
    obtain ⟨_, l2, o2, n2, d2, ah2, e2, _, ha2, h32, _⟩ := id lcc.lw
    cases e2
    walk_at "rd"
    refine r_getK (k := .inr "names") ha2 (lw_names _ _ _ _ _) ?_
    walk_at "rd"
    refine r_lenT (NT.sq h32.nm) ?_
    rw [List.length_map]
    walk_at "rd"
    refine ⟨fr, q, dq, rfl, eq, okq, lawq, fun H16 s16 => ?_⟩
    walk_at "rd"
    have ld := lcc.same s16
    refine ⟨X, a1, dq, i, fr, fs, q, rfl, ld.fl.ok, ld.lw, s16 _ _ eq, okq, W, by omega, fun p v' H17 s17 ep lw17 => ?_⟩
    refine r_tupG (SqT.of ep) rfl ?_
    walk_at "rd"
    have le := ld.law s17 lw17
    refine ⟨X, f, x1, m, i, fr, fs, q, dq, rfl, s17 _ _ (s16 _ _ eq), okq, le.fl, W, by omega, le.tb, fun H18 H19 eN sb fl19 T19 => ?_⟩
    have lf := le.call eN sb fl19 T19
    walk_at "rd"
    refine ifN (fun h => absurd rfl h) (fun _ => ?_)
    walk_at "rd"
    have hch' := chain_act hch okq
    have Ws' := act_wf Ws okq
    have hne' := hch'.ne
    have keep : (actF (fr :: fs) q).1 ≠ none → (actF (fr :: fs) q).2 = fr :: fs := fun h => by
      rcases act_shape (fs := fr :: fs) (q := q) (List.cons_ne_nil _ _) with ⟨_, e2⟩ | ⟨e1, _⟩
      · exact e2
      · exact absurd e1 h
    have hal := ans_len (m := m) Ws' hne'
    obtain ⟨fr', fs', e'⟩ : ∃ fr' fs', (actF (fr :: fs) q).2 = fr' :: fs' := List.exists_cons_of_ne_nil hne'
    rw [e'] at lf hch' Ws' keep
    have W' := Ws' fr' List.mem_cons_self
    obtain ⟨a2, _, _, _, _, _, ev, _⟩ := id lf.lw
    subst ev
    refine ⟨X, a2, f, x1, m, i + 1, fr', fs', rfl, lf.fl, lf.lw, W', by omega, fun H20 s20 => ?_⟩
    have lg' := lf.same s20
    walk_at "rd"
    refine iteF ?_
    walk_at "rd"
    refine ifN (fun hl => ?_) (fun hl => ?_)
    · walk_at "rd"
      refine ifN (fun hs => ?_) (fun hs => ?_)
      · walk_at "rd"
        obtain ⟨dy2, ht20⟩ := lg'.dk.at_
        refine r_me ht20 ?_
        walk_at "rd"
        obtain ⟨hlw, hlo⟩ := line_ok okq lawq hl
        refine ⟨X, t, f2, y2, m, i, fr, fs, _, rfl, lg'.dk, Ws, by omega, .inr ⟨q, hlw, hlo, fun H21 sb21 fl21 => ?_⟩⟩
        walk_at "rd"
        refine ⟨_, rfl, by rw [sizeLine_eq]; omega, ?_⟩
        walk_at "rd"
        rw [ans_ok m _ (act_num hlo)]
        refine ⟨rfl, ?_⟩
        walk_at "rd"
        refine ifN (fun h => absurd rfl h) (fun _ => ?_)
        walk_at "rd"
        rw [e'] at fl21
        exact ⟨_, fr', fs', _, _, _, _, _, rfl, lg'.tell sb21 fl21, hch', W'.ql⟩
      · have k1 := keep (fun h => by rw [h] at hs; exact absurd hs (by decide))
        refine iteF ?_
        walk_at "rd"
        refine ⟨_, fr', fs', _, _, _, _, _, rfl, ?_, hch', W'.ql⟩
        have lg2 := lg'
        rw [← k1] at lg2
        exact lg2
    · have k1 := keep (line_none W hl)
      refine iteF ?_
      walk_at "rd"
      refine ⟨_, fr', fs', _, _, _, _, _, rfl, ?_, hch', W'.ql⟩
      have lg2 := lg'
      rw [← k1] at lg2
      exact lg2
  · rintro σ H14 ⟨v, fr, fs, x8, x9, x10, x11, x12, rfl, lb, hch, hlen⟩
    have hlen10 : fr.deeds.length ≤ 10 := by omega
    obtain ⟨a1, _, _, _, _, _, ev, _⟩ := id lb.lw
    subst ev
    have Ws := chain_wfN hm1 hm2 hch hlen10
    have W := Ws fr List.mem_cons_self
    walk_at "rd"
    refine ⟨X, a1, t, f2, y2, m, 10, fr, fs, rfl, lb.dk, lb.lw, Ws, by omega, fun H15 s15 => ?_⟩
    have lcc := lb.same s15
    walk_at "rd"
    refine iteF ?_
    walk_at "rd"
    refine ⟨X, f, x1, m, fr, fs, rfl, lcc.fl, hch, hm1, hm2, by omega, fun lj js H16 hlj s16 ej ejs hj => ?_⟩
    have ld := lcc.same s16
    walk_at "rd"
    obtain ⟨js3, e3, h3j⟩ := js_three hj
    refine lcL1 (fun x : Addr × Dd × Addr => V.ref x.1) js3 (fun x => V.ref x.2.2) (SqL.of (by rw [ej, e3, List.map_map]; rfl)) (by
      have h1 : js.length = fr.deeds.length := by rw [← ejs, List.length_map]
      rw [e3, List.length_map] at h1
      omega) (fun x H' hx s' Y q => ?_) fun D H17 hD s17 e17 => ?_
    · obtain ⟨⟨z, g1⟩, g2⟩ := h3j x hx
      refine r_tupG (SqT.of (s' _ _ g1)) rfl ?_
      walk_at "rd"
      refine ⟨rfl, ?_⟩
      walk_at "rd"
      exact q _ (Same.refl _)
    have le := ld.same s17
    have ej17 := s17 _ _ ej
    have hj17 := hj.mono (KeepT.of s17)
    obtain ⟨_, l2, o2, n2, d2, ah2, e2, _, ha2, h32, _⟩ := id le.lw
    cases e2
    obtain ⟨as, hl2, hds⟩ := h32.dd
    walk_at "rd"
    refine r_getK (k := .inr "log") ha2 (lw_log _ _ _ _ _) ?_
    have edd : fr.deeds.map deedD = js3.map fun x => deedD x.2.1 := by rw [← ejs, e3, List.map_map, List.map_map]; rfl
    refine r_neG (p := True) (d := .list (fr.deeds.map deedD)) (e := .list (fr.deeds.map deedD)) (.lst (SqL.of e17) (by rw [edd]; exact dp_three (fun x hx => s17 _ _ (h3j x hx).2))) (dp_log hl2 hds) (deeds_pl W.okD').low (deeds_pl W.okD').low ⟨fun _ => rfl, fun _ => trivial⟩ ?_
    walk_at "rd"
    refine ifN (fun h => absurd trivial h) (fun _ => ?_)
    walk_at "rd"
    refine ⟨m, lj, fr, fs, js, [], rfl, by rw [List.append_nil]; exact ej17, hch, hm1, hm2, by omega, ejs, hj17, .inl rfl, fun H18 s18 => ?_⟩
    rw [if_pos rfl]
    have lg := le.same s18
    walk_at "rd"
    refine ifN (fun h => absurd rfl h) (fun _ => ?_)
    walk_at "rd"
    refine ⟨m, lj, fr, fs, js, rfl, s18 _ _ ej17, hch, hm1, hm2, by omega, ejs, hj17.mono (KeepT.of s18), fun g gx H19 hg s19 flg => ?_⟩
    have lh := lg.same s19
    have ej19 := s19 _ _ (s18 _ _ ej17)
    have hj19 := (hj17.mono (KeepT.of s18)).mono (KeepT.of s19)
    walk_at "rd"
    obtain ⟨sg, eg, _⟩ := flg.st
    obtain ⟨sf19, ef19, _⟩ := lh.fl.st
    refine ⟨g, f, _, _, _, _, rfl, rfl, eg, ef19, [g], X, g, gx, f, x1, m, m, 10, fr, fr, fs, fs, rfl, flg, lh.fl, W, W, _, rfl, ?_⟩
    walk_at "rd"
    refine ifN (fun h => absurd ⟨rfl, rfl⟩ h) (fun _ => ?_)
    walk_at "rd"
    refine ⟨(sz1000 (Nat.le_of_ble_eq_true rfl)), ?_⟩
    (intro uu hl_; generalize he_ : upd _ uu _ = H20; have n20 := New.mk hl_ he_.symm; clear hl_ he_)
    walk_at "rd"
    refine ⟨(sz1000 (Nat.le_of_ble_eq_true rfl)), ?_⟩
    (intro ee hl_; generalize he_ : upd _ ee _ = H21; have n21 := New.mk hl_ he_.symm; clear hl_ he_)
    walk_at "rd"
    refine ⟨(sz1000 (Nat.le_of_ble_eq_true rfl)), ?_⟩
    (intro rr hl_; generalize he_ : upd _ rr _ = H22; have n22 := New.mk hl_ he_.symm; clear hl_ he_)
    walk_at "rd"
    refine ⟨(sz1000 (Nat.le_of_ble_eq_true rfl)), ?_⟩
    (intro ll hl_; generalize he_ : upd _ ll _ = H23; have n23 := New.mk hl_ he_.symm; clear hl_ he_)
    have s23 : Same H19 H23 := n20.same.trans (n21.same.trans (n22.same.trans n23.same))
    have hjl : js.length = fr.deeds.length := by rw [← ejs, List.length_map]
    refine r_catL (s23 _ _ ej19) n23.at (by rw [List.length_map]; simp; omega) ?_
    intro l24 H24 n24
    have s24 : Same H19 H24 := s23.trans n24.same
    walk_at "rd"
    refine ⟨m, l24, fr, fs, js, [(rr, .undo)], rfl, by rw [n24.at, List.map_append]; rfl, hch, hm1, hm2, by omega, ejs, hj19.mono (KeepT.of s24), .inr ⟨rr, uu, ee, rfl, n24.get (n23.get n22.at), n24.get (n23.get (n22.get (n21.get n20.at))), n24.get (n23.get (n22.get n21.at))⟩, fun H25 s25 => ?_⟩
    rw [if_neg (List.cons_ne_nil _ _)]
    have li := (lh.same s24).same s25
    walk_at "rd"
    refine r_lenL (SqL.of (s25 _ _ (s24 _ _ ej19))) ?_
    rw [List.length_map]
    walk_at "rd"
    refine ifN (fun h => absurd rfl h) (fun _ => ?_)
    walk_at "rd"
    obtain ⟨_, l3, o3, n3, d3, ah3, e3', _, ha3, h33, _⟩ := id li.lw
    cases e3'
    obtain ⟨as3, hl3, hds3⟩ := h33.dd
    refine r_getK (k := .inr "log") ha3 (lw_log _ _ _ _ _) ?_
    walk_at "rd"
    refine r_lenL (SqL.of hl3) ?_
    rw [List.length_map, hds3.len]
    walk_at "rd"
    refine ⟨_, rfl, by omega, by omega, ?_⟩
    refine forR (lo := 0) (fun i σ H' => ∃ v gr gs x8 x11, σ = [some (.ref a), some (.ref d), some (.int (0 + (i0 : Int))), some (.int m), some (.ref nm), some v, some (.ref f), some (.ref t), x8, x9, x10, x11, some (.ref lj)] ∧ LA K X H' d l c f x1 t f2 y2 m (gr :: gs) (fr :: fs) (gr :: gs) v ∧ Chain m (gr :: gs) ∧ gr.deeds.length + i = fr.deeds.length)
      ⟨_, _, _, _, _, rfl, li, hch, rfl⟩ ?_ ?_
    · rintro i σ H26 hi ⟨v, gr, gs, y8, y11, rfl, lk, hck, hlk⟩
      have hgl := chain_len hck
      have Wk := chain_wfN hm1 hm2 hck (N := 10) (by omega)
      obtain ⟨a4, _, _, _, _, _, ev, _⟩ := id lk.lw
      subst ev
      cases gs with
      | nil => rw [List.length_nil] at hgl; omega
      | cons g2 gs2 =>
        have ea : actF (gr :: g2 :: gs2) .undo = (none, g2 :: gs2) := by simp [actF]
        obtain ⟨hck2, q0, _, _, _, hd0⟩ := id hck
        have hl0 : g2.deeds.length + 1 = gr.deeds.length := by rw [hd0, List.length_append]; rfl
        have Wk2 := chain_wfN hm1 hm2 hck2 (N := 10) (by omega)
        walk_at "rd"
        refine ⟨(sz1000 (Nat.le_of_ble_eq_true rfl)), ?_⟩
        (intro u1 hl_; generalize he_ : upd _ u1 _ = H27; have n27 := New.mk hl_ he_.symm; clear hl_ he_)
        walk_at "rd"
        have ll' := lk.same n27.same
        refine ⟨X, a4, u1, 10, gr, g2 :: gs2, .undo, rfl, ll'.fl.ok, ll'.lw, n27.at, trivial, Wk gr List.mem_cons_self, by omega, fun p v' H28 s28 ep lw28 => ?_⟩
        rw [ea] at ep lw28
        refine r_tupG (SqT.of ep) rfl ?_
        walk_at "rd"
        have lm := ll'.law s28 lw28
        refine ⟨(sz1000 (Nat.le_of_ble_eq_true rfl)), ?_⟩
        (intro u2 hl_; generalize he_ : upd _ u2 _ = H29; have n29 := New.mk hl_ he_.symm; clear hl_ he_)
        walk_at "rd"
        have ln := lm.same n29.same
        refine ⟨X, f, x1, m, 10, gr, g2 :: gs2, .undo, u2, rfl, n29.at, trivial, ln.fl, Wk gr List.mem_cons_self, by omega, ln.tb, fun H30 H31 eN sb fl31 T31 => ?_⟩
        have lo := ln.call eN sb fl31 T31
        rw [ea] at lo ⊢
        walk_at "rd"
        refine ifN (fun h => absurd rfl h) (fun _ => ?_)
        walk_at "rd"
        obtain ⟨a5, _, _, _, _, _, ev, _⟩ := id lo.lw
        subst ev
        refine ⟨X, a5, f, x1, m, 10, g2, gs2, rfl, lo.fl, lo.lw, Wk2 g2 List.mem_cons_self, by omega, fun H32 s32 => ?_⟩
        walk_at "rd"
        refine iteF ?_
        walk_at "rd"
        exact ⟨_, g2, gs2, _, _, rfl, lo.same s32, hck2, by omega⟩
    · rintro σ H26 ⟨v, gr, gs, y8, y11, rfl, lk, hck, hlk⟩
      have hgl := chain_len hck
      have hz : gs = [] := List.eq_nil_of_length_eq_zero (by omega)
      subst hz
      have eg0 : gr = fr0 m := hck
      subst eg0
      have W0 := chain_wfN hm1 hm2 hck (N := 10) (by omega) (fr0 m) List.mem_cons_self
      walk_at "rd"
      refine r_floor hm1 hm2 fun h hx H27 hh s27 hG => ?_
      walk_at "rd"
      have flh : FlAt K [h] H27 h hx m [fr0 m] := hG [h] (by simp) fun x hm hne => absurd (List.mem_singleton.mp hm) hne
      have ll' := lk.same s27
      obtain ⟨sh, eh, _⟩ := flh.st
      obtain ⟨sf27, ef27, _⟩ := ll'.fl.st
      refine ⟨f, h, _, _, _, _, rfl, rfl, ef27, eh, X, [h], f, x1, h, hx, m, m, 10, fr0 m, fr0 m, [], [], rfl, ll'.fl, flh, W0, W0, _, rfl, ?_⟩
      walk_at "rd"
      refine ifN (fun h => absurd ⟨rfl, rfl⟩ h) (fun _ => ?_)
      walk_at "rd"
      refine ⟨(sz1000 (Nat.le_of_ble_eq_true rfl)), ?_⟩
      (intro u2 hl_; generalize he_ : upd _ u2 _ = H29; have n29 := New.mk hl_ he_.symm; clear hl_ he_)
      walk_at "rd"
      have ln := ll'.same n29.same
      refine ⟨X, f, x1, m, 10, fr0 m, [], .undo, u2, rfl, n29.at, trivial, ln.fl, W0, by omega, ln.tb, fun H30 H31 eN sb fl31 T31 => ?_⟩
      have lo := ln.call eN sb fl31 T31
      rw [show kdS (actF [fr0 m] .undo).1 = "nothing" by simp [actF, kdS]]
      walk_at "rd"
      refine ifN (fun h => absurd rfl h) (fun _ => ?_)
      walk_at "rd"
      exact ⟨⟨_, _, _, _, _, _, _, _, _, _, _, rfl⟩, lo.dr, lo.tb⟩
theorem ok_law (T : Tx w K mg base) {fd : FuncData} (F : FunD K "law" "law" (defArgs s_law) (defBody s_law) (defScope s_law) [] [] (ga K "law") fd) : FnOk P0 w K mg base C8.CX0 14 (ga K "law") fd ["_law_script"] (sp_law K) := by
  refine F.ok sc_law (fun vs H Q E h => by obtain ⟨_, _, rfl, _⟩ := h; rfl) fun cdv A outer s H vs Q E hr h => ?_
  obtain ⟨t, h1, h2⟩ := body_law T hr h
  exact ⟨t, h1.nox, h2⟩
end
end My
end

section
set_option Elab.async false
set_option linter.all false
set_option maxRecDepth 100000
set_option maxHeartbeats 0
/-! FB: the end. -/
namespace My
open PySem PySem.Spec PyProof.Rows L2 He LamX
theorem tx_of {w : World} {K : PySem.W.Frag} {h base : Heap} {mg : Str → Option Value} (c : SaysM w h K) (hK : K.In base) (G : base.Ns mainGlobals mg) (tab : TabB base mg (cT K ("_law_call", none)).1 (cT K ("_law_call", none)).2) : Tx w K mg base := by
  have e := c.k
  have e1 : He5.obsA faL fnL K = He5.valA fnL := congrArg (fun z : He.AlD × (Option (List (Option (Str × Int))) × (List FnI × Bool)) => z.1) e
  have e2 : dicW K (ga K "PARTS") = some (keysIn w.params partK) := congrArg (fun z : He.AlD × (Option (List (Option (Str × Int))) × (List FnI × Bool)) => z.2.1) e
  have e3 : [fnI K (ma K (ga K "BadNumber") "__init__"), fnI K (ma K (ga K "NotNow") "__init__")] = [fnIv "BadNumber.__init__" s_BadNumber_init, fnIv "NotNow.__init__" s_NotNow_init] := congrArg (fun z : He.AlD × (Option (List (Option (Str × Int))) × (List FnI × Bool)) => z.2.2.1) e
  have e4 : ((exL.all fun f => f K) && (supB K "BadNumber" "BadNumber.__init__" "part" && supB K "NotNow" "NotNow.__init__" "word")) = true := congrArg (fun z : He.AlD × (Option (List (Option (Str × Int))) × (List FnI × Bool)) => z.2.2.2) e
  obtain ⟨k1, k2⟩ := ba e4
  obtain ⟨k3, k4⟩ := ba k2
  have f1 : ((faL.all fun f => f.ok K) && fnL.all fun d => d.ok K) = true := congrArg (fun z : He.AlD => z.1) e1
  injection e3 with g1 g2
  injection g2 with g2 _
  exact ⟨hK, G, List.all_eq_true.mp (ba f1).1, fun i d hd => He5.SaysA.def_ (fa := faL) e1 i hd, List.all_eq_true.mp k1, sup_ok k3 g1, sup_ok k4 g2, dicW_ok e2, tab⟩
theorem lawAt {w : World} {K : PySem.W.Frag} {h : Heap} {mg : Str → Option Value} {fa : Addr} (KX : K.In h) (G : h.Ns mainGlobals mg) (hmg : mg ("law" : Str) = some (.ref fa)) (c : SaysM w h K) :
    LawAtS PySem.Challenge.rw_maypole_k98_whole_floors_where_dancers_c w K C8.CX0 14 63 "_law_script" mg fa h := by
  have e1 : He5.obsA faL fnL K = He5.valA fnL := congrArg (fun z : He.AlD × (Option (List (Option (Str × Int))) × (List FnI × Bool)) => z.1) c.k
  obtain ⟨fd, F⟩ := He5.SaysA.def_ (fa := faL) (fn := fnL) e1 70 (d := dd_law) rfl
  have e := hmg.symm.trans (He.glo_ok KX G (He5.SaysA.fact (fa := faL) (fn := fnL) e1 70 (f := .glo "law") rfl))
  cases e
  have b := FunD.bindsA (ps := ["_law_script"]) F fun _ _ _ _ _ _ us hl => match us, hl with | [_], _ => rfl
  refine ⟨fd, [cT K ("_law_call", none)], sp_law K, fun p hp => ?_, fun p hp => ?_, fun p hp => ?_, fun s u => b s [u] rfl, fun H a ns hl _ hH hS => ⟨a, ns, rfl, hS, hl, fun p hp => ?_, fun _ => rfl⟩, fun base hKb Gb TB => ?_⟩
  · rw [List.mem_singleton.mp hp]; exact c.empty _ (List.mem_singleton.mpr rfl)
  · rw [List.mem_singleton.mp hp]; exact c.out _ (List.mem_singleton.mpr rfl)
  · rw [List.mem_singleton.mp hp]; exact PySem.W.codeHd_of_K KX (c.hd _ (List.mem_singleton.mpr rfl))
  · rw [List.mem_singleton.mp hp]; exact TabS.nil (hH _ (List.mem_singleton.mpr rfl))
  · exact ok_law (tx_of c hKb Gb (TB _ (List.mem_singleton.mpr rfl))) F
end My
open PySem PySem.W PySem.Calls PyProof.Rows
theorem PySem.Challenge.cw_maypole_k98_whole_floors_where_dancers_c_holds : PySem.Challenge.rw_maypole_k98_whole_floors_where_dancers_c.Holds := by
  refine My.fin (LamX.walk_ofTsE (l := PySem.Challenge.rw_maypole_k98_whole_floors_where_dancers_c) (n := 63) (k := 14) (x := "_law_script") (CX := fun _ => C8.CX0) rfl (by decide) My.law_dflt ⟨rfl, by decide, by decide⟩ ?F (fun _ _ _ _ _ z => z))
  intro w mg fa h Y G hmg0
  obtain ⟨K, KX, c⟩ := Y
  have hmg : mg ("law" : PySem.Str) = some (.ref fa) := by
    rw [← My.law_name]
    exact hmg0
  exact ⟨K, KX, My.lawAt KX G hmg c⟩
end
