import PyProof.Rows.All
import Wide.All
import OpenK.AllK
import Wide.FinOn
import HandS.ForMost
import HandS.Exc
import HandS.TryMany
import HandS.ExcOwn
import HandS.WordsExc
import HandS.ExcIs
import HandS.IsInst
import HandS.Deep
import HandS.DeepEq
import HandS.TupLe
import HandS.TupAny
import HandS.More
import HandS.SortInts
import PySem.Challenge.RW_treemove_k01_told_order
set_option Elab.async false
set_option linter.all false
set_option maxRecDepth 100000
set_option maxHeartbeats 4000000
namespace Tm
open PySem PySem.Spec PyProof.Rows L2
/-! what all laws lean on -/
theorem cx_none {P : Program} {w : World} {outer : List Env} {H : Hp} {s : Shared} {e : Value} {s' : Shared} (h : L2.CX P w outer H s (fun _ _ _ => False) e s') : False := by
  obtain ⟨_, _, _, _, _, _, _, _, _, _, _, _, z⟩ := h
  exact z
/-- law's: a list of at most 63 ints is handed in, True comes out -/
def spLaw (K : PySem.W.Frag) : Sp := fun vs H Q _ => ∃ (p : Addr) (ns : List Int), vs = [.ref p] ∧ SqL K H p (ns.map V.int) ∧ ns.length ≤ 63 ∧ ∀ H', Q (.bl true) H'
theorem T0 {k : Nat} {A : Around} (hr : Room k A) : A.units < cLine := Nat.lt_of_le_of_lt (Nat.le_add_right _ _) hr.units
theorem T64 {k : Nat} {A : Around} (hr : Room k A) : A.units + 64 < cLine := hr.units
theorem exm_at {K : PySem.W.Frag} {S C : Addr} (h1 : PySem.W.subIn K (.ref S) (.type "BaseException") = some true) (h2 : PySem.W.isClsIn K S = true) (h3 : PySem.W.typeIn K (.ref S) = some (.type "type")) {b : Bool} (h4 : PySem.W.subIn K (.ref C) (.ref S) = some b) :
    PySem.W.exmOne K (.ref C) (.ref S) = some b := by
  have e1 : (PySem.W.subIn K (.ref S) (.type "BaseException") == some true) = true := by rw [h1] <;> rfl
  have e2 : ((PySem.W.clsIn K S).isSome && PySem.W.typeIn K (.ref S) == some (.type "type")) = true := by
    have h2' : (PySem.W.clsIn K S).isSome = true := h2
    rw [h2', h3] <;> rfl
  show (if (PySem.W.subIn K (.ref S) (.type "BaseException") == some true) = true then (if ((PySem.W.clsIn K S).isSome && PySem.W.typeIn K (.ref S) == some (.type "type")) = true then PySem.W.subIn K (.ref C) (.ref S) else none) else none) = some b
  rw [if_pos e1, if_pos e2]
  exact h4
/-- ten to a written power -/
theorem pe_p10 {X : Cx} {n m : Int} {j1 j2 : Nat} {p1 p2 pos : Pos} (h : 0 ≤ n ∧ n ≤ 1000000 ∧ (10 : Int) ^ n.toNat = m) : PE X (.BinOp (.Constant (.int 10) j1 p1) .Pow (.Constant (.int n) j2 p2) pos) (tC (.int m)) := by
  obtain ⟨h0, h1, h2⟩ := h
  refine ⟨fun pins s σ H Q I q => (pe_op op_pow pe_int pe_int).run pins s σ H Q I ⟨10, n, rfl, rfl, ⟨h0, h1, by decide⟩, ?_⟩⟩
  show Q (.int (10 ^ n.toNat)) H
  rw [h2]
  exact q
abbrev E60 : Int := 1000000000000000000000000000000000000000000000000000000000000
/-- the cell of a script -/
def cellAt (ns : List Int) (k : Int) : Int := ns.getD k.toNat 0
def spCell (K : PySem.W.Frag) : Sp := fun vs H Q _ => ∃ (p : Addr) (ns : List Int) (k : Int), vs = [.ref p, .int k] ∧ SqL K H p (ns.map V.int) ∧ 0 ≤ k ∧ Q (.int (cellAt ns k)) H
theorem cell_in {ns : List Int} {k : Int} (h0 : 0 ≤ k) (h : k < ns.length) : atI (ns.map V.int) k = some (.int (cellAt ns k)) := by
  refine at_of (j := k.toNat) (by omega) ?_
  have hk : k.toNat < ns.length := by omega
  simp [cellAt, List.getD_eq_getElem?_getD, hk]
theorem cell_out {ns : List Int} {k : Int} (h : ¬ k < ns.length) : cellAt ns k = 0 := by
  have hk : ¬ k.toNat < ns.length := by omega
  simp [cellAt, List.getD_eq_getElem?_getD, List.getElem?_eq_none (Nat.le_of_not_lt hk)]
end Tm
namespace Tm
open PySem PySem.Spec PyProof.Rows L2
theorem yes {c : Bool} {A B : Prop} (h : c = true) (q : A) : if c = true then A else B := by
  rw [if_pos h]
  exact q
theorem no {c : Bool} {A B : Prop} (h : c = false) (q : B) : if c = true then A else B := by
  rw [h, if_neg Bool.false_ne_true]
  exact q
theorem ite_eqI {x y : Int} {A B : Prop} (h1 : x = y → A) (h2 : ¬ x = y → B) : if decide (V.int x = V.int y) = true then A else B :=
  ite2 (fun c => h1 (V.int.inj (of_decide_eq_true c))) fun c => h2 fun e => c (decide_eq_true (congrArg V.int e))
theorem ite_neI {x y : Int} {A B : Prop} (h1 : ¬ x = y → A) (h2 : x = y → B) : if (!decide (V.int x = V.int y)) = true then A else B := by
  by_cases e : x = y
  · subst e
    exact no (by simp) (h2 rfl)
  · exact yes (by simp [e]) (h1 e)
theorem ite_d {p : Prop} [Decidable p] {A B : Prop} (h1 : p → A) (h2 : ¬ p → B) : if decide p = true then A else B :=
  ite2 (fun c => h1 (of_decide_eq_true c)) fun c => h2 fun e => c (decide_eq_true e)
theorem ite_dn {p : Prop} [Decidable p] {A B : Prop} (h1 : ¬ p → A) (h2 : p → B) : if (!decide p) = true then A else B := by
  by_cases e : p
  · exact no (by simp [e]) (h2 e)
  · exact yes (by simp [e]) (h1 e)
theorem ite_b {b : Bool} {A B : Prop} (h1 : b = true → A) (h2 : b = false → B) : if b = true then A else B := by
  cases b
  · exact no rfl (h2 rfl)
  · exact yes rfl (h1 rfl)
theorem cdiv {i j : Int} (h : 0 < j ∧ j < 1073741824) : CDiv i j := h
theorem Qint {Q : VK} {H : Hp} {i j : Int} (q : Q (.int i) H) (e : j = i) : Q (.int j) H := e ▸ q
theorem Qbl {Q : VK} {H : Hp} {i j : Bool} (q : Q (.bl i) H) (e : j = i) : Q (.bl j) H := e ▸ q
end Tm
namespace Tm
open PySem PySem.Spec PyProof.Rows L2
section
variable {K : PySem.W.Frag} {H : Hp} {Q : VK}
theorem isi_int_int {x : Int} (q : Q (.bl true) H) : rIsi K [.int x, .ty "int"] H Q := ⟨_, _, _, _, _, rfl, .ty _, .base (.int x), kit_ty (by decide +kernel), q⟩
theorem isi_int_bool {x : Int} (q : Q (.bl false) H) : rIsi K [.int x, .ty "bool"] H Q := ⟨_, _, _, _, _, rfl, .ty _, .base (.int x), kit_ty (by decide +kernel), q⟩
theorem isi_int_str {x : Int} (q : Q (.bl false) H) : rIsi K [.int x, .ty "str"] H Q := ⟨_, _, _, _, _, rfl, .ty _, .base (.int x), kit_ty (by decide +kernel), q⟩
theorem isi_int_list {x : Int} (q : Q (.bl false) H) : rIsi K [.int x, .ty "list"] H Q := ⟨_, _, _, _, _, rfl, .ty _, .base (.int x), kit_ty (by decide +kernel), q⟩
theorem isi_int_tuple {x : Int} (q : Q (.bl false) H) : rIsi K [.int x, .ty "tuple"] H Q := ⟨_, _, _, _, _, rfl, .ty _, .base (.int x), kit_ty (by decide +kernel), q⟩
theorem isi_int_dict {x : Int} (q : Q (.bl false) H) : rIsi K [.int x, .ty "dict"] H Q := ⟨_, _, _, _, _, rfl, .ty _, .base (.int x), kit_ty (by decide +kernel), q⟩
theorem isi_bool_int {x : Bool} (q : Q (.bl true) H) : rIsi K [.bl x, .ty "int"] H Q := ⟨_, _, _, _, _, rfl, .ty _, .base (.bl x), kit_ty (by decide +kernel), q⟩
theorem isi_bool_bool {x : Bool} (q : Q (.bl true) H) : rIsi K [.bl x, .ty "bool"] H Q := ⟨_, _, _, _, _, rfl, .ty _, .base (.bl x), kit_ty (by decide +kernel), q⟩
theorem isi_bool_str {x : Bool} (q : Q (.bl false) H) : rIsi K [.bl x, .ty "str"] H Q := ⟨_, _, _, _, _, rfl, .ty _, .base (.bl x), kit_ty (by decide +kernel), q⟩
theorem isi_bool_list {x : Bool} (q : Q (.bl false) H) : rIsi K [.bl x, .ty "list"] H Q := ⟨_, _, _, _, _, rfl, .ty _, .base (.bl x), kit_ty (by decide +kernel), q⟩
theorem isi_bool_tuple {x : Bool} (q : Q (.bl false) H) : rIsi K [.bl x, .ty "tuple"] H Q := ⟨_, _, _, _, _, rfl, .ty _, .base (.bl x), kit_ty (by decide +kernel), q⟩
theorem isi_bool_dict {x : Bool} (q : Q (.bl false) H) : rIsi K [.bl x, .ty "dict"] H Q := ⟨_, _, _, _, _, rfl, .ty _, .base (.bl x), kit_ty (by decide +kernel), q⟩
theorem isi_str_int {x : Str} (q : Q (.bl false) H) : rIsi K [.str x, .ty "int"] H Q := ⟨_, _, _, _, _, rfl, .ty _, .base (.str x), kit_ty (by decide +kernel), q⟩
theorem isi_str_bool {x : Str} (q : Q (.bl false) H) : rIsi K [.str x, .ty "bool"] H Q := ⟨_, _, _, _, _, rfl, .ty _, .base (.str x), kit_ty (by decide +kernel), q⟩
theorem isi_str_str {x : Str} (q : Q (.bl true) H) : rIsi K [.str x, .ty "str"] H Q := ⟨_, _, _, _, _, rfl, .ty _, .base (.str x), kit_ty (by decide +kernel), q⟩
theorem isi_str_list {x : Str} (q : Q (.bl false) H) : rIsi K [.str x, .ty "list"] H Q := ⟨_, _, _, _, _, rfl, .ty _, .base (.str x), kit_ty (by decide +kernel), q⟩
theorem isi_str_tuple {x : Str} (q : Q (.bl false) H) : rIsi K [.str x, .ty "tuple"] H Q := ⟨_, _, _, _, _, rfl, .ty _, .base (.str x), kit_ty (by decide +kernel), q⟩
theorem isi_str_dict {x : Str} (q : Q (.bl false) H) : rIsi K [.str x, .ty "dict"] H Q := ⟨_, _, _, _, _, rfl, .ty _, .base (.str x), kit_ty (by decide +kernel), q⟩
theorem isi_NoneType_int (q : Q (.bl false) H) : rIsi K [.non, .ty "int"] H Q := ⟨_, _, _, _, _, rfl, .ty _, .base (.non), kit_ty (by decide +kernel), q⟩
theorem isi_NoneType_bool (q : Q (.bl false) H) : rIsi K [.non, .ty "bool"] H Q := ⟨_, _, _, _, _, rfl, .ty _, .base (.non), kit_ty (by decide +kernel), q⟩
theorem isi_NoneType_str (q : Q (.bl false) H) : rIsi K [.non, .ty "str"] H Q := ⟨_, _, _, _, _, rfl, .ty _, .base (.non), kit_ty (by decide +kernel), q⟩
theorem isi_NoneType_list (q : Q (.bl false) H) : rIsi K [.non, .ty "list"] H Q := ⟨_, _, _, _, _, rfl, .ty _, .base (.non), kit_ty (by decide +kernel), q⟩
theorem isi_NoneType_tuple (q : Q (.bl false) H) : rIsi K [.non, .ty "tuple"] H Q := ⟨_, _, _, _, _, rfl, .ty _, .base (.non), kit_ty (by decide +kernel), q⟩
theorem isi_NoneType_dict (q : Q (.bl false) H) : rIsi K [.non, .ty "dict"] H Q := ⟨_, _, _, _, _, rfl, .ty _, .base (.non), kit_ty (by decide +kernel), q⟩
theorem isi_list_int {a : Addr} {xs : List V} (h : H a = some (.lst xs)) (q : Q (.bl false) H) : rIsi K [.ref a, .ty "int"] H Q := ⟨_, _, _, _, _, rfl, .ty _, .base (.lst h), kit_ty (by decide +kernel), q⟩
theorem isi_list_bool {a : Addr} {xs : List V} (h : H a = some (.lst xs)) (q : Q (.bl false) H) : rIsi K [.ref a, .ty "bool"] H Q := ⟨_, _, _, _, _, rfl, .ty _, .base (.lst h), kit_ty (by decide +kernel), q⟩
theorem isi_list_str {a : Addr} {xs : List V} (h : H a = some (.lst xs)) (q : Q (.bl false) H) : rIsi K [.ref a, .ty "str"] H Q := ⟨_, _, _, _, _, rfl, .ty _, .base (.lst h), kit_ty (by decide +kernel), q⟩
theorem isi_list_list {a : Addr} {xs : List V} (h : H a = some (.lst xs)) (q : Q (.bl true) H) : rIsi K [.ref a, .ty "list"] H Q := ⟨_, _, _, _, _, rfl, .ty _, .base (.lst h), kit_ty (by decide +kernel), q⟩
theorem isi_list_tuple {a : Addr} {xs : List V} (h : H a = some (.lst xs)) (q : Q (.bl false) H) : rIsi K [.ref a, .ty "tuple"] H Q := ⟨_, _, _, _, _, rfl, .ty _, .base (.lst h), kit_ty (by decide +kernel), q⟩
theorem isi_list_dict {a : Addr} {xs : List V} (h : H a = some (.lst xs)) (q : Q (.bl false) H) : rIsi K [.ref a, .ty "dict"] H Q := ⟨_, _, _, _, _, rfl, .ty _, .base (.lst h), kit_ty (by decide +kernel), q⟩
theorem isi_tuple_int {a : Addr} {xs : List V} (h : H a = some (.tup xs)) (q : Q (.bl false) H) : rIsi K [.ref a, .ty "int"] H Q := ⟨_, _, _, _, _, rfl, .ty _, .base (.tup h), kit_ty (by decide +kernel), q⟩
theorem isi_tuple_bool {a : Addr} {xs : List V} (h : H a = some (.tup xs)) (q : Q (.bl false) H) : rIsi K [.ref a, .ty "bool"] H Q := ⟨_, _, _, _, _, rfl, .ty _, .base (.tup h), kit_ty (by decide +kernel), q⟩
theorem isi_tuple_str {a : Addr} {xs : List V} (h : H a = some (.tup xs)) (q : Q (.bl false) H) : rIsi K [.ref a, .ty "str"] H Q := ⟨_, _, _, _, _, rfl, .ty _, .base (.tup h), kit_ty (by decide +kernel), q⟩
theorem isi_tuple_list {a : Addr} {xs : List V} (h : H a = some (.tup xs)) (q : Q (.bl false) H) : rIsi K [.ref a, .ty "list"] H Q := ⟨_, _, _, _, _, rfl, .ty _, .base (.tup h), kit_ty (by decide +kernel), q⟩
theorem isi_tuple_tuple {a : Addr} {xs : List V} (h : H a = some (.tup xs)) (q : Q (.bl true) H) : rIsi K [.ref a, .ty "tuple"] H Q := ⟨_, _, _, _, _, rfl, .ty _, .base (.tup h), kit_ty (by decide +kernel), q⟩
theorem isi_tuple_dict {a : Addr} {xs : List V} (h : H a = some (.tup xs)) (q : Q (.bl false) H) : rIsi K [.ref a, .ty "dict"] H Q := ⟨_, _, _, _, _, rfl, .ty _, .base (.tup h), kit_ty (by decide +kernel), q⟩
theorem isi_dict_int {a : Addr} {xs : List (Key × V)} (h : H a = some (.dK xs)) (q : Q (.bl false) H) : rIsi K [.ref a, .ty "int"] H Q := ⟨_, _, _, _, _, rfl, .ty _, .base (.dK h), kit_ty (by decide +kernel), q⟩
theorem isi_dict_bool {a : Addr} {xs : List (Key × V)} (h : H a = some (.dK xs)) (q : Q (.bl false) H) : rIsi K [.ref a, .ty "bool"] H Q := ⟨_, _, _, _, _, rfl, .ty _, .base (.dK h), kit_ty (by decide +kernel), q⟩
theorem isi_dict_str {a : Addr} {xs : List (Key × V)} (h : H a = some (.dK xs)) (q : Q (.bl false) H) : rIsi K [.ref a, .ty "str"] H Q := ⟨_, _, _, _, _, rfl, .ty _, .base (.dK h), kit_ty (by decide +kernel), q⟩
theorem isi_dict_list {a : Addr} {xs : List (Key × V)} (h : H a = some (.dK xs)) (q : Q (.bl false) H) : rIsi K [.ref a, .ty "list"] H Q := ⟨_, _, _, _, _, rfl, .ty _, .base (.dK h), kit_ty (by decide +kernel), q⟩
theorem isi_dict_tuple {a : Addr} {xs : List (Key × V)} (h : H a = some (.dK xs)) (q : Q (.bl false) H) : rIsi K [.ref a, .ty "tuple"] H Q := ⟨_, _, _, _, _, rfl, .ty _, .base (.dK h), kit_ty (by decide +kernel), q⟩
theorem isi_dict_dict {a : Addr} {xs : List (Key × V)} (h : H a = some (.dK xs)) (q : Q (.bl true) H) : rIsi K [.ref a, .ty "dict"] H Q := ⟨_, _, _, _, _, rfl, .ty _, .base (.dK h), kit_ty (by decide +kernel), q⟩
end
end Tm
namespace Tm
open PySem PySem.Spec PyProof.Rows L2
/-! readings, step by step: each step's head is a constant, so that a wrong step falls at once -/
section
variable {K : PySem.W.Frag} {σ : L2.St} {H : Hp} {Q : VK} {B : Bool → Hp → Prop} {R : List V → Hp → Prop} {v x y z : V} {ta tb te td ty tx tl : TE} {ts : TA} {tt tu : TT} {t1 t2 : TS} {i j n : Nat} {nx bk ct : L2.St → Hp → Prop} {rt : VK} {r : R2} {p q d : Addr} {f : Str} {E : XK} {vs : List V}
def qB (B : Bool → Hp → Prop) : VK := fun x H' => ∃ k, x = .bl k ∧ B k H'
theorem r_qB {b : Bool} (h : B b H) : qB B (.bl b) H := ⟨b, rfl, h⟩
theorem s_var (e : σ[i]? = some (some v)) (h : Q v H) : tVar i σ H Q := ⟨v, e, h⟩
/-- an expression's value once, whatever follows -/
theorem s_val (v : V) (h : ∀ Q : VK, Q v H → te σ H Q) (q : Q v H) : te σ H Q := h Q q
theorem s_C (h : Q v H) : tC v σ H Q := h
theorem s_op (h : ta σ H fun x H1 => tb σ H1 fun y H2 => r x y H2 Q) : tOp r ta tb σ H Q := h
theorem s_un {u : V → Hp → VK → Prop} (h : ta σ H fun x H1 => u x H1 Q) : tUn u ta σ H Q := h
theorem s_test (h : te σ H (qB B)) : tTest te σ H B := h
theorem s_tB (h : te σ H (qB B)) : tB te σ H B := h
theorem s_not (h : tt σ H fun c H1 => B (!c) H1) : tNot tt σ H B := h
theorem s_and (h : tt σ H fun c H1 => if c = true then tu σ H1 B else B false H1) : tAnd tt tu σ H B := h
theorem s_or (h : tt σ H fun c H1 => if c = true then B true H1 else tu σ H1 B) : tOr tt tu σ H B := h
theorem s_andV (h : ta σ H (qB fun c H1 => if c = true then tb σ H1 Q else Q (.bl false) H1)) : tAndV ta tb σ H Q := h
theorem s_orV (h : ta σ H (qB fun c H1 => if c = true then Q (.bl true) H1 else tb σ H1 Q)) : tOrV ta tb σ H Q := h
theorem s_notV (h : ta σ H (qB fun c H1 => Q (.bl (!c)) H1)) : tNotV ta σ H Q := h
theorem s_if (h : tt σ H fun c H1 => if c = true then ta σ H1 Q else tb σ H1 Q) : tIf tt ta tb σ H Q := h
theorem s_chain {r r' : R2} {tc : TE} (h : ta σ H fun x H1 => tb σ H1 fun y H2 => r x y H2 (qB fun k H3 => if k = true then tc σ H3 fun w' H4 => r' y w' H4 Q else Q (.bl false) H3)) : tChain r r' ta tb tc σ H Q := h
theorem s_nil (h : R [] H) : tNil σ H R := h
theorem s_cons (h : te σ H fun x H1 => ts σ H1 fun xs H2 => R (x :: xs) H2) : tCons te ts σ H R := h
def qNew (mk : List V → HO) (Q : VK) : List V → Hp → Prop := fun xs H1 => xs.length ≤ sizeLine ∧ ∀ p, H1 p = none → Q (.ref p) (upd H1 p (mk xs))
theorem r_new {mk : List V → HO} {xs : List V} (hl : xs.length ≤ 1000000) (h : ∀ p, H p = none → Q (.ref p) (upd H p (mk xs))) : qNew mk Q xs H := ⟨Nat.le_trans hl (by decide), h⟩
theorem s_tup (h : ts σ H (qNew .tup Q)) : tTup ts σ H Q := h
theorem s_lst (h : ts σ H (qNew .lst Q)) : tLst ts σ H Q := h
theorem s_call {sp : Sp} (h : ts σ H fun vs H1 => sp vs H1 Q E) : tCall sp [] E ts σ H Q := by
  unfold tCall
  simpa only [List.append_nil] using h
theorem s_callS {sp : Sp} {E : L2.St → XK} (h : ts σ H fun vs H1 => sp vs H1 Q (E σ)) : tCallS sp E ts σ H Q := h
theorem s_CB {c : List V → Hp → VK → Prop} (h : ts σ H fun vs H1 => c vs H1 Q) : tCB c ts σ H Q := h
theorem s_noPart {O : Option Int → Hp → Prop} (h : O none H) : tNoPart σ H O := h
def qPart (O : Option Int → Hp → Prop) : VK := fun x H1 => ∃ i, x = .int i ∧ O (some i) H1
theorem r_part {O : Option Int → Hp → Prop} {i : Int} (h : O (some i) H) : qPart O (.int i) H := ⟨i, rfl, h⟩
theorem s_part {O : Option Int → Hp → Prop} (h : te σ H (qPart O)) : tPart te σ H O := h
theorem s_sl {c : V → Option Int → Option Int → Hp → VK → Prop} {a b : TO} (h : te σ H fun x H1 => a σ H1 fun l H2 => b σ H2 fun u H3 => c x l u H3 Q) : tSl c te a b σ H Q := h
theorem s_yes (h : B true H) : tYes σ H B := h
/-! statements -/
theorem s_seq (h : t1 ⟨t2 ⟨nx, rt, bk, ct⟩, rt, bk, ct⟩ σ H) : tSeq t1 t2 ⟨nx, rt, bk, ct⟩ σ H := h
theorem s_next (h : nx σ H) : tNext ⟨nx, rt, bk, ct⟩ σ H := h
theorem s_asg {g : TG} (h : te σ H fun x H1 => g x σ H1 nx) : tAsg te g ⟨nx, rt, bk, ct⟩ σ H := h
theorem s_gName {N : L2.St → Hp → Prop} (h : N (σ.set i (some v)) H) : gName i v σ H N := h
theorem s_drop (h : te σ H fun _ H1 => nx σ H1) : tDrop te ⟨nx, rt, bk, ct⟩ σ H := h
theorem s_ret (h : te σ H rt) : tRet te ⟨nx, rt, bk, ct⟩ σ H := h
theorem s_ifS (h : tt σ H fun b H1 => if b = true then t1 ⟨nx, rt, bk, ct⟩ σ H1 else t2 ⟨nx, rt, bk, ct⟩ σ H1) : tIfS tt t1 t2 ⟨nx, rt, bk, ct⟩ σ H := h
/-! operators on ints -/
theorem r_I0 {g : Int → Int → V} {i j : Int} (h : Q (g i j) H) : rI0 g (.int i) (.int j) H Q := ⟨i, j, rfl, rfl, h⟩
theorem r_I {C : Int → Int → Prop} {g : Int → Int → V} {i j : Int} (c : C i j) (h : Q (g i j) H) : rI C g (.int i) (.int j) H Q := ⟨i, j, rfl, rfl, c, h⟩
theorem r_mod {g : Int → Int → V} {i j : Int} (c : 0 < j) (h : Q (g i j) H) : rI (fun _ j => 0 < j) g (.int i) (.int j) H Q := ⟨i, j, rfl, rfl, c, h⟩
theorem r_div {g : Int → Int → V} {i j : Int} (c : 0 < j ∧ j < 1073741824) (h : Q (g i j) H) : rI CDiv g (.int i) (.int j) H Q := ⟨i, j, rfl, rfl, c, h⟩
theorem r_mul {g : Int → Int → V} {i j : Int} (c : (-18446744073709551616 < i ∧ i < 18446744073709551616) ∨ (-18446744073709551616 < j ∧ j < 18446744073709551616)) (h : Q (g i j) H) : rI CMul g (.int i) (.int j) H Q := ⟨i, j, rfl, rfl, c, h⟩
theorem r_U {g : Int → V} {i : Int} (h : Q (g i) H) : rU g (.int i) H Q := ⟨i, rfl, h⟩
theorem r_eqI {i j : Int} (h : Q (.bl (decide (i = j))) H) : rEq (.int i) (.int j) H Q := ⟨rfl, by
  have e : decide (V.int i = V.int j) = decide (i = j) := by by_cases c : i = j <;> simp [c]
  rw [e]; exact h⟩
theorem r_neI {i j : Int} (h : Q (.bl (!decide (i = j))) H) : rNe (.int i) (.int j) H Q := ⟨rfl, by
  have e : decide (V.int i = V.int j) = decide (i = j) := by by_cases c : i = j <;> simp [c]
  rw [e]; exact h⟩
theorem r_eqB {i j : Bool} (h : Q (.bl (decide (i = j))) H) : rEq (.bl i) (.bl j) H Q := ⟨rfl, by
  have e : decide (V.bl i = V.bl j) = decide (i = j) := by by_cases c : i = j <;> simp [c]
  rw [e]; exact h⟩
theorem r_neB {i j : Bool} (h : Q (.bl (!decide (i = j))) H) : rNe (.bl i) (.bl j) H Q := ⟨rfl, by
  have e : decide (V.bl i = V.bl j) = decide (i = j) := by by_cases c : i = j <;> simp [c]
  rw [e]; exact h⟩
theorem r_eqS {i j : Str} (h : Q (.bl (decide (i = j))) H) : rEq (.str i) (.str j) H Q := ⟨rfl, by
  have e : decide (V.str i = V.str j) = decide (i = j) := by by_cases c : i = j <;> simp [c]
  rw [e]; exact h⟩
theorem r_neS {i j : Str} (h : Q (.bl (!decide (i = j))) H) : rNe (.str i) (.str j) H Q := ⟨rfl, by
  have e : decide (V.str i = V.str j) = decide (i = j) := by by_cases c : i = j <;> simp [c]
  rw [e]; exact h⟩
/-! items, lengths -/
theorem r_ixT {xs : List V} {i : Int} (hs : SqT K H p xs) (ha : atI xs i = some v) (h : Q v H) : rIxT K (.ref p) (.int i) H Q := ⟨p, xs, i, v, rfl, rfl, hs, ha, h⟩
theorem r_ixL {xs : List V} {i : Int} (hs : SqL K H p xs) (ha : atI xs i = some v) (h : Q v H) : rIxL K (.ref p) (.int i) H Q := ⟨p, xs, i, v, rfl, rfl, hs, ha, h⟩
def rLenQ (K : PySem.W.Frag) : List V → Hp → VK → Prop := fun xs H Q => ∃ p ys, xs = [.ref p] ∧ (SqL K H p ys ∨ SqT K H p ys) ∧ Q (.int ys.length) H
theorem call_lenQ {X : Cx} : CallR X (.builtin "len") (rLenQ X.K) := call_len_seq
theorem r_lenL {xs : List V} (hs : SqL K H p xs) (h : Q (.int xs.length) H) : rLenQ K [.ref p] H Q := ⟨p, xs, rfl, .inl hs, h⟩
theorem r_lenT {xs : List V} (hs : SqT K H p xs) (h : Q (.int xs.length) H) : rLenQ K [.ref p] H Q := ⟨p, xs, rfl, .inr hs, h⟩
def rLenDQ : List V → Hp → VK → Prop := fun xs H Q => ∃ a kvs, xs = [V.ref a] ∧ H a = some (.dK kvs) ∧ Q (.int kvs.length) H
theorem call_lenDQ {X : Cx} : CallR X (.builtin "len") rLenDQ := call_lenD
theorem r_lenD {kvs : List (Key × V)} (hs : H p = some (.dK kvs)) (h : Q (.int kvs.length) H) : rLenDQ [.ref p] H Q := ⟨p, kvs, rfl, hs, h⟩
def rMaxQ : List V → Hp → VK → Prop := fun xs H Q => ∃ i j, xs = [.int i, .int j] ∧ Q (.int (if j > i then j else i)) H
theorem call_maxQ {X : Cx} (hc : X.calm = true) : CallR X (.builtin "max") rMaxQ := call_max2 hc
theorem r_max {i j : Int} (h : Q (.int (max i j)) H) : rMaxQ [.int i, .int j] H Q := ⟨i, j, rfl, by
  have e : (if j > i then j else i) = max i j := by omega
  rw [e]; exact h⟩
def rMinQ : List V → Hp → VK → Prop := fun xs H Q => ∃ i j, xs = [.int i, .int j] ∧ Q (.int (if j < i then j else i)) H
theorem call_minQ {X : Cx} (hc : X.calm = true) : CallR X (.builtin "min") rMinQ := call_min2 hc
theorem r_min {i j : Int} (h : Q (.int (min i j)) H) : rMinQ [.int i, .int j] H Q := ⟨i, j, rfl, by
  have e : (if j < i then j else i) = min i j := by omega
  rw [e]; exact h⟩
def rListQ (K : PySem.W.Frag) : List V → Hp → VK → Prop := fun xs H Q => ∃ p ys, xs = [.ref p] ∧ (SqL K H p ys ∨ SqT K H p ys) ∧ ∀ l, H l = none → Q (.ref l) (upd H l (.lst ys))
theorem call_listQ {X : Cx} : CallR X (.type "list") (rListQ X.K) := call_list_of
theorem r_list {xs : List V} (hs : SqL K H p xs) (h : ∀ l, H l = none → Q (.ref l) (upd H l (.lst xs))) : rListQ K [.ref p] H Q := ⟨p, xs, rfl, .inl hs, h⟩
theorem r_listT {xs : List V} (hs : SqT K H p xs) (h : ∀ l, H l = none → Q (.ref l) (upd H l (.lst xs))) : rListQ K [.ref p] H Q := ⟨p, xs, rfl, .inr hs, h⟩
def rTupQ (K : PySem.W.Frag) : List V → Hp → VK → Prop := fun xs H Q => ∃ p ys, xs = [.ref p] ∧ ((SqL K H p ys ∧ ∀ l, H l = none → Q (.ref l) (upd H l (.tup ys))) ∨ (SqT K H p ys ∧ Q (.ref p) H))
theorem call_tupQ {X : Cx} : CallR X (.type "tuple") (rTupQ X.K) := call_tuple_of
theorem r_tupL {xs : List V} (hs : SqL K H p xs) (h : ∀ l, H l = none → Q (.ref l) (upd H l (.tup xs))) : rTupQ K [.ref p] H Q := ⟨p, xs, rfl, .inl ⟨hs, h⟩⟩
def rDictQ : List V → Hp → VK → Prop := fun xs H Q => ∃ (a : Addr) (kvs : List (Key × V)), xs = [.ref a] ∧ Rd H a (.dK kvs) ∧ ∀ p, H p = none → Q (.ref p) (upd H p (.dK kvs))
theorem call_dictQ {X : Cx} : CallR X (.type "dict") rDictQ := call_dictD
theorem r_dict {kvs : List (Key × V)} (hs : H p = some (.dK kvs)) (h : ∀ l, H l = none → Q (.ref l) (upd H l (.dK kvs))) : rDictQ [.ref p] H Q := ⟨p, kvs, rfl, .inl hs, h⟩
def rIntQ : List V → Hp → VK → Prop := fun xs H Q => (∃ i, xs = [.int i] ∧ Q (.int i) H) ∨ ∃ k, xs = [.bl k] ∧ Q (.int (if k then 1 else 0)) H
theorem call_intQ {X : Cx} : CallR X (.type "int") rIntQ := call_int1
theorem r_int {b : Bool} (h : Q (.int (if b then 1 else 0)) H) : rIntQ [.bl b] H Q := .inr ⟨b, rfl, h⟩
/-! methods of lists -/
def qTy (K : PySem.W.Frag) (T : String) (m : V → List V → Hp → VK → Prop) (ts : TA) (σ : L2.St) (Q : VK) : VK := fun x H1 => tyV K T x H1 ∧ ts σ H1 fun xs H2 => m x xs H2 Q
theorem s_BM {T : String} {m : V → List V → Hp → VK → Prop} (h : te σ H (qTy K T m ts σ Q)) : tBM K T m te ts σ H Q := h
theorem r_tyL {m : V → List V → Hp → VK → Prop} {xs : List V} (hs : H p = some (.lst xs)) (h : ts σ H fun xs H2 => m (.ref p) xs H2 Q) : qTy K "list" m ts σ Q (.ref p) H := ⟨.inl ⟨rfl, xs, .inl (.inl hs)⟩, h⟩
theorem r_append {xs : List V} (hs : H p = some (.lst xs)) (hl : xs.length < sizeLine) (h : Q .non (upd H p (.lst (xs ++ [y])))) : rAppend (.ref p) [y] H Q := ⟨p, xs, y, rfl, rfl, hs, hl, h⟩
/-! slices, concatenation -/
theorem r_slL {xs : List V} {lo hi : Option Int} (hs : SqL K H p xs) (h : ∀ l, H l = none → Q (.ref l) (upd H l (.lst (cutV xs lo hi)))) : rSlL K (.ref p) lo hi H Q := ⟨p, xs, rfl, hs, h⟩
theorem r_cat {xs ys : List V} (hs : H p = some (.lst xs)) (hq : H q = some (.lst ys)) (hl : xs.length + ys.length ≤ sizeLine) (h : ∀ l, H l = none → Q (.ref l) (upd H l (.lst (xs ++ ys)))) : rCat (.ref p) (.ref q) H Q := ⟨p, q, xs, ys, rfl, rfl, hs, hq, hl, h⟩
theorem r_slT {xs : List V} {lo hi : Option Int} (hs : SqT K H p xs) (hne : ¬ (HT.sIx xs.length 0 lo = 0 ∧ HT.sIx xs.length xs.length hi = xs.length)) (h : ∀ l, H l = none → Q (.ref l) (upd H l (.tup (cutV xs lo hi)))) : rSlA K (.ref p) lo hi H Q := ⟨p, xs, rfl, hs, fun e => (hne e).elim, fun _ => h⟩
theorem r_catT {xs ys : List V} (hs : SqT K H p xs) (hq : SqT K H q ys) (hx : xs ≠ []) (hy : ys ≠ []) (hl : xs.length + ys.length ≤ sizeLine) (h : ∀ l, H l = none → Q (.ref l) (upd H l (.tup (xs ++ ys)))) : rCatA K (.ref p) (.ref q) H Q := ⟨p, q, xs, ys, rfl, rfl, hs, hq, hl, fun e => (hx e).elim, fun _ e => (hy e).elim, fun _ _ => h⟩
theorem r_in {xs : List V} (hs : SqL K H p xs) (hf : flatV x = true) (ha : xs.all flatV = true) (h : Q (.bl (inV x xs)) H) : rIn K false x (.ref p) H Q := ⟨p, xs, rfl, .inl hs, hf, ha, h⟩
theorem r_inT {xs : List V} (hs : SqT K H p xs) (hf : flatV x = true) (ha : xs.all flatV = true) (h : Q (.bl (inV x xs)) H) : rIn K false x (.ref p) H Q := ⟨p, xs, rfl, .inr hs, hf, ha, h⟩
theorem r_nin {xs : List V} (hs : SqL K H p xs) (hf : flatV x = true) (ha : xs.all flatV = true) (h : Q (.bl (!inV x xs)) H) : rIn K true x (.ref p) H Q := ⟨p, xs, rfl, .inl hs, hf, ha, h⟩
/-! fields, methods, instances -/
def qFld (K : PySem.W.Frag) (f : Str) (Q : VK) : VK := fun x H1 => ∃ a C dx fs v, x = .ref a ∧ H1 a = some (.ins C dx fs) ∧ Cls K C ∧ NoAttr K C f ∧ fs.lookup f = some v ∧ Q v H1
theorem s_fld (h : te σ H (qFld K f Q)) : tFld K te f σ H Q := h
theorem r_fld {C dx : Addr} {fs : List (Str × V)} (hs : H p = some (.ins C dx fs)) (c : Cls K C) (na : NoAttr K C f) (l : fs.lookup f = some v) (h : Q v H) : qFld K f Q (.ref p) H := ⟨p, C, dx, fs, v, rfl, hs, c, na, l, h⟩
def qSFld (K : PySem.W.Frag) (f : Str) (nx : L2.St → Hp → Prop) (σ : L2.St) (y : V) : VK := fun x H2 => ∃ a C dx fs, x = .ref a ∧ H2 a = some (.ins C dx fs) ∧ Cls K C ∧ NoAttr K C f ∧ fs.length < 1000 ∧ nx σ (upd H2 a (.ins C dx (putF f y fs)))
theorem s_sFld (h : te σ H fun y H1 => ta σ H1 (qSFld K f nx σ y)) : sFld K ta te f ⟨nx, rt, bk, ct⟩ σ H := h
theorem r_sFld {C dx : Addr} {fs : List (Str × V)} (hs : H p = some (.ins C dx fs)) (c : Cls K C) (na : NoAttr K C f) (l : fs.length < 1000) (h : nx σ (upd H p (.ins C dx (putF f y fs)))) : qSFld K f nx σ y (.ref p) H := ⟨p, C, dx, fs, rfl, hs, c, na, l, h⟩
def qMeth (C : Addr) (m : Str) (sp : Sp) (E : XK) (ts : TA) (σ : L2.St) (Q : VK) : VK := fun x H1 => ∃ a dx fs, x = .ref a ∧ H1 a = some (.ins C dx fs) ∧ fs.lookup m = none ∧ ts σ H1 fun vs H2 => sp (x :: vs) H2 Q E
theorem s_meth {C : Addr} {m : Str} {sp : Sp} (h : te σ H (qMeth C m sp E ts σ Q)) : tMeth C m sp [] E te ts σ H Q := by
  unfold qMeth at h
  unfold tMeth
  simpa only [List.append_nil] using h
theorem r_meth {C dx : Addr} {m : Str} {sp : Sp} {fs : List (Str × V)} (hs : H p = some (.ins C dx fs)) (l : fs.lookup m = none) (h : ts σ H fun vs H2 => sp (.ref p :: vs) H2 Q E) : qMeth C m sp E ts σ Q (.ref p) H := ⟨p, dx, fs, rfl, hs, l, h⟩
theorem s_make {C : Addr} {sp : Sp} (h : ts σ H fun vs H1 => ∀ x dx, H1 x = none → H1 dx = none → dx ≠ x → sp (.ref x :: vs) (upd (upd H1 dx (.own x)) x (.ins C dx [])) (fun v H2 => v = .non ∧ Q (.ref x) H2) E) : tMake C sp [] E ts σ H Q := by
  unfold tMake
  simpa only [List.append_nil] using h
/-! dicts -/
def qDGet (Q : VK) (y : V) : V → Hp → Prop := fun x H2 => ∃ a v, x = .ref a ∧ DGet H2 a y (some v) ∧ Q v H2
theorem s_dNew (h : ∀ p, H p = none → Q (.ref p) (upd H p (.dK []))) : tDNewK σ H Q := h
theorem s_dGet (h : td σ H fun x H1 => ty σ H1 fun y H2 => qDGet Q y x H2) : tDGet td ty σ H Q := h
theorem r_dGet {kvs : List (Key × V)} {k : Int} (hs : H d = some (.dK kvs)) (hv : valV kvs (Sum.inl k) = some v) (h : Q v H) : qDGet Q (.int k) (.ref d) H := ⟨d, v, rfl, by rw [← hv]; exact DGet.k (k := Sum.inl k) hs, h⟩
theorem r_dGetS {kvs : List (Key × V)} {k : Str} (hs : H d = some (.dK kvs)) (hv : valV kvs (Sum.inr k) = some v) (h : Q v H) : qDGet Q (.str k) (.ref d) H := ⟨d, v, rfl, by rw [← hv]; exact DGet.k (k := Sum.inr k) hs, h⟩
theorem r_dGetF {o : Obj} {kvs : List (Key × V)} {k : Int} (hs : H d = some (.frz o (.dK kvs))) (hv : valV kvs (Sum.inl k) = some v) (h : Q v H) : qDGet Q (.int k) (.ref d) H := ⟨d, v, rfl, by rw [← hv]; exact .inl ⟨kvs, Sum.inl k, .inr ⟨o, hs⟩, rfl, rfl⟩, h⟩
def qDIn (Q : VK) (y : V) : V → Hp → Prop := fun x H2 => ∃ a o, x = .ref a ∧ DGet H2 a y o ∧ Q (.bl o.isSome) H2
theorem s_dIn (h : ty σ H fun y H1 => td σ H1 fun x H2 => qDIn Q y x H2) : tDIn ty td σ H Q := h
theorem r_dIn {kvs : List (Key × V)} {k : Int} (hs : H d = some (.dK kvs)) (h : Q (.bl (valV kvs (Sum.inl k)).isSome) H) : qDIn Q (.int k) (.ref d) H := ⟨d, _, rfl, DGet.k (k := Sum.inl k) hs, h⟩
def qDNotIn (Q : VK) (y : V) : V → Hp → Prop := fun x H2 => ∃ a o, x = .ref a ∧ DGet H2 a y o ∧ Q (.bl (!o.isSome)) H2
theorem s_dNotIn (h : ty σ H fun y H1 => td σ H1 fun x H2 => qDNotIn Q y x H2) : tDNotIn ty td σ H Q := h
theorem r_dNotIn {kvs : List (Key × V)} {k : Int} (hs : H d = some (.dK kvs)) (h : Q (.bl (!(valV kvs (Sum.inl k)).isSome)) H) : qDNotIn Q (.int k) (.ref d) H := ⟨d, _, rfl, DGet.k (k := Sum.inl k) hs, h⟩
def qDPut (nx : L2.St → Hp → Prop) (σ : L2.St) (v y : V) : V → Hp → Prop := fun x H3 => ∃ a H4, x = .ref a ∧ DPut H3 a y v H4 ∧ nx σ H4
theorem s_dPut (h : te σ H fun v H1 => td σ H1 fun x H2 => ty σ H2 fun y H3 => qDPut nx σ v y x H3) : sDPut td ty te ⟨nx, rt, bk, ct⟩ σ H := h
theorem r_dPut {kvs : List (Key × V)} {k : Int} (hs : H d = some (.dK kvs)) (hl : kvs.length < sizeLine) (h : nx σ (upd H d (.dK (putK kvs (Sum.inl k) v)))) : qDPut nx σ v (.int k) (.ref d) H := ⟨d, _, rfl, DPut.k (k := Sum.inl k) hs hl, h⟩
theorem r_dPutS {kvs : List (Key × V)} {k : Str} (hs : H d = some (.dK kvs)) (hl : kvs.length < sizeLine) (h : nx σ (upd H d (.dK (putK kvs (Sum.inr k) v)))) : qDPut nx σ v (.str k) (.ref d) H := ⟨d, _, rfl, DPut.k (k := Sum.inr k) hs hl, h⟩
/-! loops -/
def qFor {ι : Type} (go stop : Nat → Hp → Prop) (yld : Nat → Hp → V → Hp → Prop) (g : TG) (tb : TS) (nx : L2.St → Hp → Prop) (rt : VK) (σ : L2.St) (H1 : Hp) : Prop := ∃ W : Nat → Nat → L2.St → Hp → Prop, (∃ m, W 0 m σ H1) ∧ ∀ i m σ H, W i m σ H →
  (stop i H ∧ nx σ H) ∨ (go i H ∧ ∃ N : L2.St → Hp → Prop, (∀ σ' H', N σ' H' → ∃ m', m' < m ∧ W (i + 1) m' σ' H') ∧ ∀ x H', yld i H x H' → g x σ H' fun σ2 H2 => tb ⟨N, rt, nx, N⟩ σ2 H2)
def qForL (K : PySem.W.Frag) (g : TG) (tb : TS) (nx : L2.St → Hp → Prop) (rt : VK) (σ : L2.St) : VK := fun x H1 => ∃ a, x = .ref a ∧ (∃ xs, SqL K H1 a xs) ∧ qFor (ι := Unit) (Itl K a).go (Itl K a).stop (Itl K a).yld g tb nx rt σ H1
theorem s_forL {g : TG} {tb : TS} (h : tl σ H (qForL K g tb nx rt σ)) : tFor (iList K tl) g tb ⟨nx, rt, bk, ct⟩ σ H := h
/-- for x in a list: the invariant Pv (turn, slots, heap) -/
theorem r_forL {tb : TS} {xs : List V} (Pv : Nat → L2.St → Hp → Prop) (h0 : Pv 0 σ H) (hl : ∀ i σ H, i ≤ xs.length → Pv i σ H → SqL K H p xs)
    (hs : ∀ i x σ H, xs[i]? = some x → Pv i σ H → tb ⟨Pv (i + 1), rt, nx, Pv (i + 1)⟩ (σ.set j (some x)) H) (hd : ∀ σ H, Pv xs.length σ H → nx σ H) : qForL K (gName j) tb nx rt σ (.ref p) H :=
  ⟨p, rfl, ⟨xs, hl 0 σ H (Nat.zero_le _) h0⟩, for_list (D := ⟨nx, rt, fun _ _ => False, fun _ _ => False⟩) Pv h0 hl hs hd⟩
def qForR (g : TG) (tb : TS) (nx : L2.St → Hp → Prop) (rt : VK) (σ : L2.St) : List V → Hp → Prop := fun vs H1 => ∃ n : Int, vs = [.int n] ∧ -(2 ^ 62) ≤ n ∧ n < 2 ^ 62 ∧ qFor (ι := Unit) (Itr 0 n.toNat).go (Itr 0 n.toNat).stop (Itr 0 n.toNat).yld g tb nx rt σ H1
theorem s_forR {g : TG} {tb : TS} (h : ts σ H (qForR g tb nx rt σ)) : tFor (iRng1 ts) g tb ⟨nx, rt, bk, ct⟩ σ H := h
/-- for k in range(n) -/
theorem r_forR {tb : TS} (n : Nat) (Pv : Nat → L2.St → Hp → Prop) (hn : n ≤ 1000000000) (h0 : Pv 0 σ H)
    (hs : ∀ (i : Nat) σ H, i < n → Pv i σ H → tb ⟨Pv (i + 1), rt, nx, Pv (i + 1)⟩ (σ.set j (some (.int (i : Int)))) H) (hd : ∀ σ H, Pv n σ H → nx σ H) : qForR (gName j) tb nx rt σ [.int (n : Int)] H :=
  ⟨n, rfl, by omega, by omega, by
    have e : ((n : Int)).toNat = n := Int.toNat_natCast n
    rw [e]
    exact for_range (lo := 0) (D := ⟨nx, rt, fun _ _ => False, fun _ _ => False⟩) Pv h0 (fun i σ H hi p => by
      have q := hs i σ H hi p
      show tb ⟨Pv (i + 1), rt, nx, Pv (i + 1)⟩ (σ.set j (some (.int ((0 : Int) + (i : Int))))) H
      rw [Int.zero_add]
      exact q) hd⟩
def qForV (K : PySem.W.Frag) (g : TG) (tb : TS) (nx : L2.St → Hp → Prop) (rt : VK) (σ : L2.St) : List V → Hp → Prop := fun vs H1 => ∃ (a : Addr) (xs : List V), vs = [.ref a] ∧ SqL K H1 a xs ∧ qFor (ι := Unit) (Itv K a xs.length).go (Itv K a xs.length).stop (Itv K a xs.length).yld g tb nx rt σ H1
theorem s_forV {g : TG} {tb : TS} (h : ts σ H (qForV K g tb nx rt σ)) : tFor (iRev K ts) g tb ⟨nx, rt, bk, ct⟩ σ H := h
/-- for x in reversed(a list) -/
theorem r_forV {tb : TS} {xs : List V} (Pv : Nat → L2.St → Hp → Prop) (h0 : Pv 0 σ H) (hl : ∀ i σ H, i ≤ xs.length → Pv i σ H → SqL K H p xs)
    (hs : ∀ i x σ H, xs.reverse[i]? = some x → Pv i σ H → tb ⟨Pv (i + 1), rt, nx, Pv (i + 1)⟩ (σ.set j (some x)) H) (hd : ∀ σ H, Pv xs.length σ H → nx σ H) : qForV K (gName j) tb nx rt σ [.ref p] H := by
  have hq := hl 0 σ H (Nat.zero_le _) h0
  refine ⟨p, xs, rfl, hq, fun i m σ H => m = xs.length - i ∧ i ≤ xs.length ∧ Pv i σ H, ⟨xs.length, by simp, Nat.zero_le _, h0⟩, ?_⟩
  rintro i m σ H ⟨rfl, hi, q⟩
  have hq := hl i σ H hi q
  by_cases hlt : i < xs.length
  · have e : xs[xs.length - 1 - i]? = some (xs[xs.length - 1 - i]'(by omega)) := List.getElem?_eq_getElem (by omega)
    refine .inr ⟨⟨hlt, xs, _, hq, e⟩, Pv (i + 1), fun σ' H' p' => ⟨xs.length - (i + 1), by omega, rfl, hlt, p'⟩, fun x H' y => ?_⟩
    obtain ⟨eH, y⟩ := y
    subst eH
    refine hs i x σ _ ?_ q
    rw [List.getElem?_reverse hlt]
    exact y xs hq
  · have e : i = xs.length := by omega
    subst e
    exact .inl ⟨Nat.le_refl _, hd σ H q⟩
def qForS (g : TG) (tb : TS) (nx : L2.St → Hp → Prop) (rt : VK) (σ : L2.St) : VK := fun v H1 => ∃ x, v = .str x ∧ qFor (ι := Unit) (Its x).go (Its x).stop (Its x).yld g tb nx rt σ H1
theorem s_forS {g : TG} {tb : TS} (h : te σ H (qForS g tb nx rt σ)) : tFor (iStr te) g tb ⟨nx, rt, bk, ct⟩ σ H := h
/-- while -/
def qWhile (W : Nat → L2.St → Hp → Prop) (m : Nat) (tb : TS) (nx : L2.St → Hp → Prop) (rt : VK) (σ : L2.St) : Bool → Hp → Prop := fun b H1 =>
  if b = true then ∃ N : L2.St → Hp → Prop, (∀ σ' H', N σ' H' → ∃ m', m' < m ∧ W m' σ' H') ∧ tb ⟨N, rt, nx, N⟩ σ H1 else nx σ H1
/-- while: the invariant Pv (a number that falls, slots, heap) -/
theorem r_while {tb : TS} (Pv : Nat → L2.St → Hp → Prop) (m : Nat) (h0 : Pv m σ H) (hs : ∀ m σ H, Pv m σ H → tt σ H (qWhile Pv m tb nx rt σ)) : tWhile tt tb ⟨nx, rt, bk, ct⟩ σ H := ⟨Pv, ⟨m, h0⟩, hs⟩
theorem r_w {W : Nat → L2.St → Hp → Prop} {m : Nat} {tb : TS} {b : Bool} (h1 : b = true → tb ⟨fun σ' H' => ∃ m', m' < m ∧ W m' σ' H', rt, nx, fun σ' H' => ∃ m', m' < m ∧ W m' σ' H'⟩ σ H) (h2 : b = false → nx σ H) : qWhile W m tb nx rt σ b H := by
  cases b with
  | true => exact ⟨_, fun _ _ z => z, h1 rfl⟩
  | false => exact h2 rfl
/-! comprehensions -/
def qAcc (D : Addr) (Nx : Hp → Prop) : VK := fun y H4 => ∃ acc, H4 D = some (.lst acc) ∧ acc.length < sizeLine ∧ Nx (upd H4 D (.lst (acc ++ [y])))
def qLcT (te : TE) (σ : L2.St) (D : Addr) (Nx : Hp → Prop) : Bool → Hp → Prop := fun b H3 => if b = true then te σ H3 (qAcc D Nx) else Nx H3
theorem r_acc {acc : List V} {Nx : Hp → Prop} (hs : H d = some (.lst acc)) (hl : acc.length < sizeLine) (h : Nx (upd H d (.lst (acc ++ [y])))) : qAcc d Nx y H := ⟨acc, hs, hl, h⟩
theorem r_lcY {Nx : Hp → Prop} (h : te σ H (qAcc d Nx)) : qLcT te σ d Nx true H := yes rfl h
def qLc (go stop : Nat → Hp → Prop) (yld : Nat → Hp → V → Hp → Prop) (g : TG) (tt : TT) (te : TE) (vs : List Nat) (σ : L2.St) (Q : VK) (H1 : Hp) : Prop := ∀ D, H1 D = none → ∃ W : Nat → Nat → Hp → Prop, (∃ m, W 0 m (upd H1 D (.lst []))) ∧ ∀ i m H, W i m H →
  (stop i H ∧ Q (.ref D) H) ∨ (go i H ∧ ∃ Nx : Hp → Prop, (∀ H', Nx H' → ∃ m', m' < m ∧ W (i + 1) m' H') ∧ ∀ x H', yld i H x H' → g x (wipe σ vs) H' fun σ2 H2 => wipe σ2 vs = wipe σ vs ∧ tt σ2 H2 (qLcT te σ2 D Nx))
def qLcL (K : PySem.W.Frag) (g : TG) (tt : TT) (te : TE) (vs : List Nat) (σ : L2.St) (Q : VK) : VK := fun x H1 => ∃ a, x = .ref a ∧ (∃ xs, SqL K H1 a xs) ∧ qLc (Itl K a).go (Itl K a).stop (Itl K a).yld g tt te vs σ Q H1
theorem s_lcL {g : TG} {vs : List Nat} (h : tl σ H (qLcL K g tt te vs σ Q)) : tLc (iList K tl) g tt te vs σ H Q := h
theorem r_lcL {xs : List V} (Pv : Addr → Nat → Hp → Prop) (h0 : ∀ D, H D = none → Pv D 0 (upd H D (.lst []))) (hx : SqL K H p xs) (hl : ∀ D i H, i ≤ xs.length → Pv D i H → SqL K H p xs)
    (hs : ∀ D i x H, xs[i]? = some x → Pv D i H → tt ((σ.set j none).set j (some x)) H (qLcT te ((σ.set j none).set j (some x)) D (Pv D (i + 1)))) (hd : ∀ D H, Pv D xs.length H → Q (.ref D) H) : qLcL K (gName j) tt te [j] σ Q (.ref p) H :=
  ⟨p, rfl, ⟨xs, hx⟩, fun D nD => lc_list (K := K) (Pv D) (h0 D nD) (hl D) (fun i x H hi q => ⟨by
    show (((σ.set j none).set j (some x)).set j none) = σ.set j none
    rw [List.set_set, List.set_set], hs D i x H hi q⟩) (hd D)⟩
def qLcR (g : TG) (tt : TT) (te : TE) (vs : List Nat) (σ : L2.St) (Q : VK) : List V → Hp → Prop := fun ws H1 => ∃ n : Int, ws = [.int n] ∧ -(2 ^ 62) ≤ n ∧ n < 2 ^ 62 ∧ qLc (Itr 0 n.toNat).go (Itr 0 n.toNat).stop (Itr 0 n.toNat).yld g tt te vs σ Q H1
theorem s_lcR {g : TG} {vs : List Nat} (h : ts σ H (qLcR g tt te vs σ Q)) : tLc (iRng1 ts) g tt te vs σ H Q := h
theorem r_lcR (n : Nat) (Pv : Addr → Nat → Hp → Prop) (hn : n ≤ 1000000000) (h0 : ∀ D, H D = none → Pv D 0 (upd H D (.lst [])))
    (hs : ∀ D (i : Nat) H, i < n → Pv D i H → tt ((σ.set j none).set j (some (.int i))) H (qLcT te ((σ.set j none).set j (some (.int i))) D (Pv D (i + 1)))) (hd : ∀ D H, Pv D n H → Q (.ref D) H) : qLcR (gName j) tt te [j] σ Q [.int (n : Int)] H :=
  ⟨n, rfl, by omega, by omega, by
    have e : ((n : Int)).toNat = n := Int.toNat_natCast n
    rw [e]
    intro D nD
    refine ⟨fun i m H => m = n - i ∧ i ≤ n ∧ Pv D i H, ⟨n, by simp, Nat.zero_le _, h0 D nD⟩, ?_⟩
    rintro i m H ⟨rfl, hi, q⟩
    by_cases hlt : i < n
    · refine .inr ⟨hlt, Pv D (i + 1), fun H' p' => ⟨n - (i + 1), by omega, rfl, hlt, p'⟩, fun x H' y => ?_⟩
      obtain ⟨eH, y⟩ := y
      subst eH
      have ex : x = .int (i : Int) := by rw [y]; simp
      subst ex
      exact ⟨by
        show (((σ.set j none).set j (some _)).set j none) = σ.set j none
        rw [List.set_set, List.set_set], hs D i _ hlt q⟩
    · have e : i = n := by omega
      subst e
      exact .inl ⟨Nat.le_refl _, hd D H q⟩⟩
end
/-! heaps -/
theorem keep {H : Hp} {p q : Addr} {o o' : HO} (hq : H q = some o') (hp : H p = none) : upd H p o q = some o' := by
  rw [upd_ne (ne_of_none hq hp)]
  exact hq
theorem keep_ne {H : Hp} {p q : Addr} {o o' : HO} (hq : H q = some o') (hp : q ≠ p) : upd H p o q = some o' := by
  rw [upd_ne hp]
  exact hq
theorem Same.new {H0 H : Hp} {p : Addr} {o : HO} (s : Same H0 H) (hp : H p = none) : Same H0 (upd H p o) := fun b u e => keep (s b u e) hp
theorem Same.mut {H0 H : Hp} {p : Addr} {o : HO} (s : Same H0 H) (hp : H0 p = none) : Same H0 (upd H p o) := fun b u e => keep_ne (s b u e) (ne_of_none e hp)
theorem new_free {H : Hp} {p q : Addr} {o : HO} (h : upd H p o q = none) : H q = none ∧ q ≠ p := by
  by_cases e : q = p
  · subst e; rw [upd_same] at h; cases h
  · rw [upd_ne e] at h; exact ⟨h, e⟩
theorem sql_keep {K : PySem.W.Frag} {H : Hp} {p a : Addr} {o : HO} {xs : List V} (h : SqL K H a xs) (hp : H p = none) : SqL K (upd H p o) a xs := (Same.new (Same.refl H) hp).seq h
theorem Same.sqt {K : PySem.W.Frag} {H H' : Hp} {a : Addr} {xs : List V} (e : Same H H') (h : SqT K H a xs) : SqT K H' a xs := by
  rcases h with (h | ⟨o, h⟩) | h
  · exact .inl (.inl (e _ _ h))
  · exact .inl (.inr ⟨o, e _ _ h⟩)
  · exact .inr h
theorem sqt_keep {K : PySem.W.Frag} {H : Hp} {p a : Addr} {o : HO} {xs : List V} (h : SqT K H a xs) (hp : H p = none) : SqT K (upd H p o) a xs := Same.sqt (Same.new (Same.refl H) hp) h
theorem le_line {n : Nat} (h : n ≤ 1000000) : n ≤ sizeLine := Nat.le_trans h (by decide)
theorem lt_line {n : Nat} (h : n ≤ 1000000) : n < sizeLine := Nat.lt_of_le_of_lt h (by decide)
theorem cxK {CX : CXT} {P : Program} {w : World} {K : PySem.W.Frag} {mg : Str → Option Value} {base : Heap} {N : List Str} {qual : Str} {scope : Scope} {f : Addr} {cd : Value} {A : Around} {outer : List Env} {s : Shared} {H : Hp} {E : XK} : (cxOf CX P w K mg base N qual scope f cd A outer s H E).K = K := rfl
end Tm
local macro_rules | `(tactic| walk_at "isi") => `(tactic| first
  | with_reducible refine Tm.isi_int_int ?_ | with_reducible refine Tm.isi_int_bool ?_ | with_reducible refine Tm.isi_int_str ?_ | with_reducible refine Tm.isi_int_list ?_ | with_reducible refine Tm.isi_int_tuple ?_ | with_reducible refine Tm.isi_int_dict ?_ | with_reducible refine Tm.isi_bool_int ?_ | with_reducible refine Tm.isi_bool_bool ?_ | with_reducible refine Tm.isi_bool_str ?_ | with_reducible refine Tm.isi_bool_list ?_ | with_reducible refine Tm.isi_bool_tuple ?_ | with_reducible refine Tm.isi_bool_dict ?_ | with_reducible refine Tm.isi_str_int ?_ | with_reducible refine Tm.isi_str_bool ?_ | with_reducible refine Tm.isi_str_str ?_ | with_reducible refine Tm.isi_str_list ?_ | with_reducible refine Tm.isi_str_tuple ?_ | with_reducible refine Tm.isi_str_dict ?_ | with_reducible refine Tm.isi_NoneType_int ?_ | with_reducible refine Tm.isi_NoneType_bool ?_ | with_reducible refine Tm.isi_NoneType_str ?_ | with_reducible refine Tm.isi_NoneType_list ?_ | with_reducible refine Tm.isi_NoneType_tuple ?_ | with_reducible refine Tm.isi_NoneType_dict ?_)
/-- what stands at an address -/
local macro_rules | `(tactic| walk_at "hp") => `(tactic| first
  | assumption | exact L2.upd_same | (refine Tm.keep ?_ (by assumption); walk_at "hp") | fail "not in the heap")
local macro_rules | `(tactic| walk_at "sql") => `(tactic| first
  | assumption | exact L2.SqL.of (by walk_at "hp") | (refine Tm.sql_keep ?_ (by assumption); walk_at "sql") | fail "no list")
local macro_rules | `(tactic| walk_at "sqt") => `(tactic| first
  | assumption | exact L2.SqT.of (by walk_at "hp") | (refine Tm.sqt_keep ?_ (by assumption); walk_at "sqt") | fail "no tuple")
local macro_rules | `(tactic| walk_at "at") => `(tactic| first
  | assumption | rfl | fail "no item")
local macro_rules | `(tactic| walk_at "pos") => `(tactic| first
  | decide | omega | fail "not above 0")
/-- one step of a reading: "s"; steps as far as they go: "go"; with both ways of an open test: "all" -/
local macro_rules | `(tactic| walk_at "s") => `(tactic| first
  | (with_reducible refine Tm.s_var (by with_unfolding_all rfl) ?_) | with_reducible refine Tm.s_C ?_ | with_reducible refine Tm.s_op ?_ | with_reducible refine Tm.s_un ?_ | with_reducible refine Tm.r_I0 ?_
  | with_reducible refine Tm.s_cons ?_ | with_reducible refine Tm.s_nil ?_ | with_reducible refine Tm.s_call ?_ | with_reducible refine Tm.s_CB ?_
  | with_reducible refine Tm.s_seq ?_ | with_reducible refine Tm.s_asg ?_ | with_reducible refine Tm.s_gName ?_ | with_reducible refine Tm.s_next ?_ | with_reducible refine Tm.s_ret ?_ | with_reducible refine Tm.s_drop ?_ | with_reducible refine Tm.s_ifS ?_
  | with_reducible refine Tm.s_test ?_ | with_reducible refine Tm.s_tB ?_ | with_reducible refine Tm.r_qB ?_ | with_reducible refine Tm.s_not ?_ | with_reducible refine Tm.s_and ?_ | with_reducible refine Tm.s_or ?_
  | with_reducible refine L2.iteT ?_ | with_reducible refine L2.iteF ?_
  | with_reducible refine Tm.r_eqI ?_ | with_reducible refine Tm.r_neI ?_ | with_reducible refine Tm.r_eqB ?_ | with_reducible refine Tm.r_neB ?_
  | with_reducible refine Tm.s_notV ?_
  | ((with_reducible refine' Tm.r_mod ?c ?_); (case c => walk_at "pos")) | ((with_reducible refine' Tm.r_div ?c ?_); (case c => walk_at "pos")) | ((with_reducible refine' Tm.r_mul ?c ?_); (case c => walk_at "pos"))
  | with_reducible refine Tm.r_U ?_
  | with_reducible refine Tm.s_tup ?_ | with_reducible refine Tm.s_lst ?_ | ((with_reducible refine Tm.r_new ?l ?_); (case l => exact of_decide_eq_true rfl); intro _ _)
  | ((with_reducible refine' Tm.r_ixT ?h ?i ?_); (case h => walk_at "sqt"); (case i => walk_at "at")) | ((with_reducible refine' Tm.r_ixL ?h ?i ?_); (case h => walk_at "sql"); (case i => walk_at "at"))
  | ((with_reducible refine' Tm.r_lenL ?h ?_); (case h => walk_at "sql")) | ((with_reducible refine' Tm.r_lenT ?h ?_); (case h => walk_at "sqt"))
  | with_reducible refine Tm.r_max ?_ | with_reducible refine Tm.r_min ?_
  | ((with_reducible refine' Tm.r_list ?h ?_); (case h => walk_at "sql"))
  | with_reducible refine Tm.r_int ?_
  | with_reducible refine Tm.s_noPart ?_ | with_reducible refine Tm.s_part ?_ | with_reducible refine Tm.r_part ?_ | with_reducible refine Tm.s_sl ?_
  | with_reducible refine Tm.s_forL ?_ | with_reducible refine Tm.s_forR ?_ | with_reducible refine Tm.s_forV ?_ | with_reducible refine Tm.s_forS ?_ | with_reducible refine Tm.s_lcL ?_ | with_reducible refine Tm.s_lcR ?_ | with_reducible refine Tm.s_yes ?_ | with_reducible refine Tm.r_lcY ?_
  | with_reducible refine Tm.s_fld ?_ | with_reducible refine Tm.s_sFld ?_ | with_reducible refine Tm.s_meth ?_ | with_reducible refine Tm.s_make ?_ | with_reducible refine Tm.s_callS ?_
  | with_reducible refine Tm.s_dGet ?_ | with_reducible refine Tm.s_dIn ?_ | with_reducible refine Tm.s_dNotIn ?_ | with_reducible refine Tm.s_dPut ?_ | with_reducible refine Tm.s_dNew ?_
  | ((with_reducible refine' Tm.r_dIn ?h ?_); (case h => walk_at "hp")) | ((with_reducible refine' Tm.r_dNotIn ?h ?_); (case h => walk_at "hp"))
  | with_reducible refine Tm.s_BM ?_ | ((with_reducible refine' Tm.r_tyL ?h ?_); (case h => walk_at "hp"))
  | walk_at "isi"
  | walk_at "u"
  | fail "no step")
/-- further steps of a law's own -/
local macro_rules | `(tactic| walk_at "u") => `(tactic| fail "no own step")
local macro_rules | `(tactic| walk_at "go") => `(tactic| repeat' (walk_at "s"))
local macro_rules | `(tactic| walk_at "all") => `(tactic| repeat' (first | walk_at "s" | walk_at "v" | walk_at "sp" | fail "no step"))
/-- what a test's two ways know -/
local macro_rules | `(tactic| walk_at "sp") => `(tactic| first
  | with_reducible refine Tm.ite_dn (fun _ => ?_) (fun _ => ?_)
  | with_reducible refine Tm.ite_d (fun _ => ?_) (fun _ => ?_) | with_reducible refine Tm.ite_b (fun _ => ?_) (fun _ => ?_) | fail "no test")
local macro_rules | `(tactic| walk_at "st") => `(tactic| try simp only [Tm.cxK])
/-- values whose making branches -/
local macro_rules | `(tactic| walk_at "v") => `(tactic| first
  | with_reducible refine Tm.s_andV ?_ | with_reducible refine Tm.s_orV ?_ | with_reducible refine Tm.s_if ?_ | with_reducible refine Tm.s_chain ?_ | fail "no value")

namespace Tm
open PySem PySem.Spec PyProof.Rows L2
/-! the text by its places -/
def top (i : Nat) : Stmt := PySem.Challenge.pw_treemove_k01_told_order.main.body.getD i (.Pass ⟨0, 0, 0, 0⟩)
abbrev s_ahead : Stmt := top 1
abbrev s__law_cell_at : Stmt := top 3
abbrev s__law_second : Stmt := top 4
abbrev s_law : Stmt := top 5
abbrev n_ahead : List Str := ["one", "other"]
theorem sc_ahead : FnScope ["one", "other"] ["one", "other"] (defScope s_ahead) := ⟨rfl, rfl, rfl, by decide +kernel, rfl, by decide +kernel, by decide +kernel⟩
abbrev n__law_cell_at : List Str := ["_law_script", "_law_k"]
theorem sc__law_cell_at : FnScope ["_law_script", "_law_k"] ["_law_script", "_law_k"] (defScope s__law_cell_at) := ⟨rfl, rfl, rfl, by decide +kernel, rfl, by decide +kernel, by decide +kernel⟩
abbrev n__law_second : List Str := ["_law_first", "_law_least", "_law_cell"]
theorem sc__law_second : FnScope ["_law_first", "_law_least", "_law_cell"] ["_law_first", "_law_least", "_law_cell"] (defScope s__law_second) := ⟨rfl, rfl, rfl, by decide +kernel, rfl, by decide +kernel, by decide +kernel⟩
abbrev n_law : List Str := ["_law_script", "_law_time", "_law_hand", "_law_under", "_law_one", "_law_two", "_law_due", "_law_turned", "_law_found"]
theorem sc_law : FnScope ["_law_script", "_law_time", "_law_hand", "_law_under", "_law_one", "_law_two", "_law_due", "_law_turned", "_law_found"] ["_law_script"] (defScope s_law) := ⟨rfl, rfl, rfl, by decide +kernel, rfl, by decide +kernel, by decide +kernel⟩
/-- where the top has put its defs and classes -/
structure Ad where
  f_ahead : Addr
  d_ahead : FuncData
  f__law_cell_at : Addr
  d__law_cell_at : FuncData
  f__law_second : Addr
  d__law_second : FuncData
  f_law : Addr
  d_law : FuncData
/-- what the top has left -/
structure Txt (K : PySem.W.Frag) (mg : Str → Option Value) (a : Ad) : Prop where
  F_ahead : Fun K "ahead" "ahead" s_ahead a.f_ahead a.d_ahead
  b_ahead : Binds K a.d_ahead ["one", "other"] []
  g_ahead : mg "ahead" = some (.ref a.f_ahead)
  k_ahead : PySem.W.keepIn K (.ref a.f_ahead) = true
  F__law_cell_at : Fun K "_law_cell_at" "_law_cell_at" s__law_cell_at a.f__law_cell_at a.d__law_cell_at
  b__law_cell_at : Binds K a.d__law_cell_at ["_law_script", "_law_k"] []
  g__law_cell_at : mg "_law_cell_at" = some (.ref a.f__law_cell_at)
  k__law_cell_at : PySem.W.keepIn K (.ref a.f__law_cell_at) = true
  F__law_second : Fun K "_law_second" "_law_second" s__law_second a.f__law_second a.d__law_second
  b__law_second : Binds K a.d__law_second ["_law_first", "_law_least", "_law_cell"] []
  g__law_second : mg "_law_second" = some (.ref a.f__law_second)
  k__law_second : PySem.W.keepIn K (.ref a.f__law_second) = true
  F_law : Fun K "law" "law" s_law a.f_law a.d_law
  b_law : Binds K a.d_law ["_law_script"] []
  g_law : mg "law" = some (.ref a.f_law)
  k_law : PySem.W.keepIn K (.ref a.f_law) = true
  n_len : mg "len" = none
  n_isinstance : mg "isinstance" = none
  n_bool : mg "bool" = none
def second (first least cell : Int) : Int :=
  if cell % 4 = 0 then first else if cell % 4 = 1 then least + (first + 1 - least) % (E60 + 1 - least) else if cell % 4 = 2 then least + cell / 4 % 5 else least + cell / 4 % (E60 + 1 - least)
def spSecond : Sp := fun vs H Q _ => ∃ (f l c : Int), vs = [.int f, .int l, .int c] ∧ (l = 0 ∨ l = 1) ∧ Q (.int (second f l c)) H
def aheadB (t1 h1 t2 h2 : Int) : Bool := if t1 = t2 then decide (h1 < h2) else decide (t1 < t2)
def spAhead (K : PySem.W.Frag) : Sp := fun vs H Q _ => ∃ (p p2 : Addr) (t1 h1 t2 h2 : Int) (x1 y1 x2 y2 : V), vs = [.ref p, .ref p2] ∧ SqT K H p [.int t1, .int h1, x1, y1] ∧ SqT K H p2 [.int t2, .int h2, x2, y2] ∧ Q (.bl (aheadB t1 h1 t2 h2)) H
section
variable {P : Program} {w : World} {K : PySem.W.Frag} {mg : Str → Option Value} {base : Heap} {a : Ad}
theorem ok_cell (T : Txt K mg a) : FnOk P w K mg base (L2.CX P w) 1 a.f__law_cell_at a.d__law_cell_at ["_law_script", "_law_k"] (spCell K) := by
  refine T.F__law_cell_at.okX sc__law_cell_at (fun vs H Q E h => ?_) (fun cdv A outer s H vs Q E hr h => ?_)
  · obtain ⟨p, ns, k, rfl, _⟩ := h
    rfl
  · obtain ⟨p, ns, k, rfl, hS, h0, q⟩ := h
    refine ⟨_, (pss_cons (ps_if (pt_cmpR (op_lt) (pv 1) (pe_callB (call_lenQ) (by rfl) T.n_len (by decide +kernel) (pa_cons (pv 0) pa_nil)) (nomark _)) (pss_one (ps_ret (pe_ix ix_list (pv 0) (pv 1) (fun _ _ => rfl)))) pss_nil)
 (pss_one (ps_ret pe_int))), ?_⟩
    walk_at "st"
    change (_ : TS) _ [some _, some _] _
    walk_at "all"
    · rename_i c
      exact r_ixL hS (cell_in h0 (by simpa using c)) q
    · rename_i c
      rw [cell_out (by simpa using c)] at q
      exact q
theorem c_cell {H : Hp} {p : Addr} {ns : List Int} {k : Int} {Q : VK} {E : XK} (hS : SqL K H p (ns.map V.int)) (h0 : 0 ≤ k) (h : Q (.int (cellAt ns k)) H) : spCell K [.ref p, .int k] H Q E := ⟨p, ns, k, rfl, hS, h0, h⟩
local macro_rules | `(tactic| walk_at "cell") => `(tactic| ((with_reducible refine' c_cell ?h ?k ?_); (case h => walk_at "sql"); (case k => walk_at "pos")))
theorem c_second {H : Hp} {f l c : Int} {Q : VK} {E : XK} (hl : l = 0 ∨ l = 1) (h : Q (.int (second f l c)) H) : spSecond [.int f, .int l, .int c] H Q E := ⟨f, l, c, rfl, hl, h⟩
theorem c_ahead {H : Hp} {p p2 : Addr} {t1 h1 t2 h2 : Int} {x1 y1 x2 y2 : V} {Q : VK} {E : XK} (S1 : SqT K H p [.int t1, .int h1, x1, y1]) (S2 : SqT K H p2 [.int t2, .int h2, x2, y2]) (h : Q (.bl (aheadB t1 h1 t2 h2)) H) : spAhead K [.ref p, .ref p2] H Q E := ⟨p, p2, t1, h1, t2, h2, x1, y1, x2, y2, rfl, S1, S2, h⟩
local macro_rules | `(tactic| walk_at "u") => `(tactic| first
  | walk_at "cell" | ((with_reducible refine' c_second ?l ?_); (case l => walk_at "pos")) | ((with_reducible refine' c_ahead ?a ?b ?_); (case a => walk_at "sqt"); (case b => walk_at "sqt")) | fail "no own step")
theorem ok_second (T : Txt K mg a) : FnOk P w K mg base (L2.CX P w) 1 a.f__law_second a.d__law_second ["_law_first", "_law_least", "_law_cell"] spSecond := by
  refine T.F__law_second.okX sc__law_second (fun vs H Q E h => ?_) (fun cdv A outer s H vs Q E hr h => ?_)
  · obtain ⟨p, ns, k, rfl, _⟩ := h
    rfl
  · obtain ⟨f, l, c, rfl, hl, q⟩ := h
    refine ⟨_, (pss_cons (ps_if (pt_cmpR (op_eq) (pe_op op_mod (pv 2) pe_int) pe_int (nomark _)) (pss_one (ps_ret (pv 0))) pss_nil)
 (pss_cons (ps_if (pt_cmpR (op_eq) (pe_op op_mod (pv 2) pe_int) pe_int (nomark _)) (pss_one (ps_ret (pe_op op_add (pv 1) (pe_op op_mod (pe_op op_sub (pe_op op_add (pv 0) pe_int) (pv 1)) (pe_op op_sub (pe_op op_add (pe_p10 (m := 1000000000000000000000000000000000000000000000000000000000000) (by decide +kernel)) pe_int) (pv 1)))))) pss_nil)
 (pss_cons (ps_if (pt_cmpR (op_eq) (pe_op op_mod (pv 2) pe_int) pe_int (nomark _)) (pss_one (ps_ret (pe_op op_add (pv 1) (pe_op op_mod (pe_op op_fdiv (pv 2) pe_int) pe_int)))) pss_nil)
 (pss_one (ps_ret (pe_op op_add (pv 1) (pe_op op_mod (pe_op op_fdiv (pv 2) pe_int) (pe_op op_sub (pe_op op_add (pe_p10 (m := 1000000000000000000000000000000000000000000000000000000000000) (by decide +kernel)) pe_int) (pv 1))))))))), ?_⟩
    walk_at "st"
    change (_ : TS) _ [some _, some _, some _] _
    walk_at "all"
    all_goals
      refine Qint q ?_
      simp [second, E60, *]
theorem ok_ahead (T : Txt K mg a) : FnOk P w K mg base (L2.CX P w) 1 a.f_ahead a.d_ahead ["one", "other"] (spAhead K) := by
  refine T.F_ahead.okX sc_ahead (fun vs H Q E h => ?_) (fun cdv A outer s H vs Q E hr h => ?_)
  · obtain ⟨p, p2, _, _, _, _, _, _, _, _, rfl, _⟩ := h
    rfl
  · obtain ⟨p, p2, t1, h1, t2, h2, x1, y1, x2, y2, rfl, S1, S2, q⟩ := h
    have k10 : atI [V.int t1, .int h1, x1, y1] 0 = some (.int t1) := at_of (j := 0) rfl rfl
    have k11 : atI [V.int t1, .int h1, x1, y1] 1 = some (.int h1) := at_of (j := 1) rfl rfl
    have k20 : atI [V.int t2, .int h2, x2, y2] 0 = some (.int t2) := at_of (j := 0) rfl rfl
    have k21 : atI [V.int t2, .int h2, x2, y2] 1 = some (.int h2) := at_of (j := 1) rfl rfl
    refine ⟨_, (pss_cons (ps_if (pt_cmpR (op_ne) (pe_ix ix_tup (pv 0) pe_int (fun _ _ => rfl)) (pe_ix ix_tup (pv 1) pe_int (fun _ _ => rfl)) (nomark _)) (pss_one (ps_ret (pe_cmpR (op_lt) (pe_ix ix_tup (pv 0) pe_int (fun _ _ => rfl)) (pe_ix ix_tup (pv 1) pe_int (fun _ _ => rfl)) (nomark _)))) pss_nil)
 (pss_one (ps_ret (pe_cmpR (op_lt) (pe_ix ix_tup (pv 0) pe_int (fun _ _ => rfl)) (pe_ix ix_tup (pv 1) pe_int (fun _ _ => rfl)) (nomark _))))), ?_⟩
    walk_at "st"
    change (_ : TS) _ [some _, some _] _
    walk_at "all"
    all_goals exact Qbl q (by simp [aheadB, *])
theorem ok_law (T : Txt K mg a) : FnOk P w K mg base (L2.CX P w) 2 a.f_law a.d_law ["_law_script"] (spLaw K) := by
  have G__law_cell_at : FnOk P w K mg base (L2.CX P w) 1 a.f__law_cell_at a.d__law_cell_at ["_law_script", "_law_k"] (spCell K) := ok_cell T
  have G__law_second : FnOk P w K mg base (L2.CX P w) 1 a.f__law_second a.d__law_second ["_law_first", "_law_least", "_law_cell"] spSecond := ok_second T
  have G_ahead : FnOk P w K mg base (L2.CX P w) 1 a.f_ahead a.d_ahead ["one", "other"] (spAhead K) := ok_ahead T
  refine T.F_law.okX sc_law (fun vs H Q E h => ?_) (fun cdv A outer s H vs Q E hr h => ?_)
  · obtain ⟨p, ns, rfl, _⟩ := h
    rfl
  · obtain ⟨p, ns, rfl, hS, hlen, q⟩ := h
    refine ⟨_, (pss_cons (ps_set (i := 1) sc_law.nd rfl (Or.inl rfl) (pe_op op_add pe_int (pe_op op_mod (pe_call G__law_cell_at (hr.mono (by decide)) rfl T.g__law_cell_at T.k__law_cell_at T.b__law_cell_at .nil passL (pa_cons (pv 0) (pa_cons pe_int pa_nil))) (pe_p10 (m := 1000000000000000000000000000000000000000000000000000000000000) (by decide +kernel)))))
 (pss_cons (ps_set (i := 2) sc_law.nd rfl (Or.inl rfl) (pe_op op_mod (pe_call G__law_cell_at (hr.mono (by decide)) rfl T.g__law_cell_at T.k__law_cell_at T.b__law_cell_at .nil passL (pa_cons (pv 0) (pa_cons pe_int pa_nil))) (pe_op op_add (pe_p10 (m := 1000000000000000000000000000000000000000000000000000000000000) (by decide +kernel)) pe_int)))
 (pss_cons (ps_set (i := 3) sc_law.nd rfl (Or.inl rfl) (pe_op op_mod (pe_call G__law_cell_at (hr.mono (by decide)) rfl T.g__law_cell_at T.k__law_cell_at T.b__law_cell_at .nil passL (pa_cons (pv 0) (pa_cons pe_int pa_nil))) pe_int))
 (pss_cons (ps_set (i := 4) sc_law.nd rfl (Or.inl rfl) (pe_tup (pa_cons (pv 1) (pa_cons (pv 2) (pa_cons (pe_op op_add pe_int (pv 3)) (pa_cons (pe_op op_sub pe_int (pv 3)) pa_nil))))))
 (pss_cons (ps_set (i := 5) sc_law.nd rfl (Or.inl rfl) (pe_tup (pa_cons (pe_call G__law_second (hr.mono (by decide)) rfl T.g__law_second T.k__law_second T.b__law_second .nil passL (pa_cons (pv 1) (pa_cons pe_int (pa_cons (pe_call G__law_cell_at (hr.mono (by decide)) rfl T.g__law_cell_at T.k__law_cell_at T.b__law_cell_at .nil passL (pa_cons (pv 0) (pa_cons pe_int pa_nil))) pa_nil)))) (pa_cons (pe_call G__law_second (hr.mono (by decide)) rfl T.g__law_second T.k__law_second T.b__law_second .nil passL (pa_cons (pv 2) (pa_cons pe_int (pa_cons (pe_call G__law_cell_at (hr.mono (by decide)) rfl T.g__law_cell_at T.k__law_cell_at T.b__law_cell_at .nil passL (pa_cons (pv 0) (pa_cons pe_int pa_nil))) pa_nil)))) (pa_cons pe_int (pa_cons pe_int pa_nil))))))
 (pss_cons (ps_set (i := 6) sc_law.nd rfl (Or.inl rfl) (pe_or (pe_cmpR (op_lt) (pe_ix ix_tup (pv 4) pe_int (fun _ _ => rfl)) (pe_ix ix_tup (pv 5) pe_int (fun _ _ => rfl)) (nomark _)) (pe_one (pe_and (pe_cmpR (op_eq) (pe_ix ix_tup (pv 4) pe_int (fun _ _ => rfl)) (pe_ix ix_tup (pv 5) pe_int (fun _ _ => rfl)) (nomark _)) (pe_one (pe_cmpR (op_lt) (pe_ix ix_tup (pv 4) pe_int (fun _ _ => rfl)) (pe_ix ix_tup (pv 5) pe_int (fun _ _ => rfl)) (nomark _)))))))
 (pss_cons (ps_set (i := 7) sc_law.nd rfl (Or.inl rfl) (pe_or (pe_cmpR (op_lt) (pe_ix ix_tup (pv 5) pe_int (fun _ _ => rfl)) (pe_ix ix_tup (pv 4) pe_int (fun _ _ => rfl)) (nomark _)) (pe_one (pe_and (pe_cmpR (op_eq) (pe_ix ix_tup (pv 4) pe_int (fun _ _ => rfl)) (pe_ix ix_tup (pv 5) pe_int (fun _ _ => rfl)) (nomark _)) (pe_one (pe_cmpR (op_lt) (pe_ix ix_tup (pv 5) pe_int (fun _ _ => rfl)) (pe_ix ix_tup (pv 4) pe_int (fun _ _ => rfl)) (nomark _)))))))
 (pss_cons (ps_for (passes_of rfl) rfl (pi_list (pe_lst (pa_cons (pe_call G_ahead (hr.mono (by decide)) rfl T.g_ahead T.k_ahead T.b_ahead .nil passL (pa_cons (pv 4) (pa_cons (pv 5) pa_nil))) (pa_cons (pe_call G_ahead (hr.mono (by decide)) rfl T.g_ahead T.k_ahead T.b_ahead .nil passL (pa_cons (pv 5) (pa_cons (pv 4) pa_nil))) (pa_cons (pe_call G_ahead (hr.mono (by decide)) rfl T.g_ahead T.k_ahead T.b_ahead .nil passL (pa_cons (pv 4) (pa_cons (pv 4) pa_nil))) pa_nil))))) (pg_name (i := 8) sc_law.nd rfl (Or.inl rfl)) (pss_one (ps_if (pt_not (pt_val (pe_callB (call_isi) (by rfl) T.n_isinstance (by decide +kernel) (pa_cons (pv 8) (pa_cons (pe_bltn (v := .ty "bool") (by rfl) T.n_bool (by decide +kernel) rfl) pa_nil))))) (pss_one (ps_ret pe_bl)) pss_nil)))
 (pss_one (ps_ret (pe_and (pe_cmpR (op_eq) (pe_call G_ahead (hr.mono (by decide)) rfl T.g_ahead T.k_ahead T.b_ahead .nil passL (pa_cons (pv 4) (pa_cons (pv 5) pa_nil))) (pv 6) (nomark _)) (pe_and (pe_cmpR (op_eq) (pe_call G_ahead (hr.mono (by decide)) rfl T.g_ahead T.k_ahead T.b_ahead .nil passL (pa_cons (pv 5) (pa_cons (pv 4) pa_nil))) (pv 7) (nomark _)) (pe_one (pe_not (pe_call G_ahead (hr.mono (by decide)) rfl T.g_ahead T.k_ahead T.b_ahead .nil passL (pa_cons (pv 4) (pa_cons (pv 4) pa_nil))))))))))))))))), ?_⟩
    walk_at "st"
    change (_ : TS) _ [some _, none, none, none, none, none, none, none, none] _
    walk_at "go"
    rename_i l1 hl1 l2 hl2
    revert hl2
    revert hl1
    generalize 1 + cellAt ns 0 % 1000000000000000000000000000000000000000000000000000000000000 = t1
    generalize cellAt ns 1 % (1000000000000000000000000000000000000000000000000000000000000 + 1) = h1
    generalize second t1 1 (cellAt ns 2) = t2
    generalize second h1 0 (cellAt ns 3) = h2
    intro hl1 hl2
    refine s_val (.bl (aheadB t1 h1 t2 h2)) (fun Q q => ?_) ?_
    · walk_at "all"
      all_goals exact Qbl q (by simp only [aheadB]; split <;> simp <;> omega)
    walk_at "go"
    refine s_val (.bl (aheadB t2 h2 t1 h1)) (fun Q q => ?_) ?_
    · walk_at "all"
      all_goals exact Qbl q (by simp only [aheadB]; split <;> simp <;> omega)
    walk_at "go"
    rename_i l3 hl3
    generalize hσ : (List.set _ 7 _ : L2.St) = σ
    have e0 : aheadB t1 h1 t1 h1 = false := by simp [aheadB]
    refine r_forL (xs := [.bl (aheadB t1 h1 t2 h2), .bl (aheadB t2 h2 t1 h1), .bl (aheadB t1 h1 t1 h1)]) (fun i σ' H' => (∃ v, σ' = σ.set 8 v) ∧ H' = _) ⟨⟨none, by subst hσ; rfl⟩, rfl⟩ (fun i σ H _ h => by
      obtain ⟨_, rfl⟩ := h
      exact SqL.of upd_same) ?_ ?_
    · rintro i x σ' H' hi ⟨⟨v, rfl⟩, rfl⟩
      obtain ⟨b, rfl⟩ : ∃ b, x = .bl b := by
        match i, hi with
        | 0, hi => exact ⟨_, (Option.some.inj hi).symm⟩
        | 1, hi => exact ⟨_, (Option.some.inj hi).symm⟩
        | 2, hi => exact ⟨_, (Option.some.inj hi).symm⟩
      subst hσ
      walk_at "go"
      exact ⟨⟨_, by rw [List.set_set]⟩, rfl⟩
    · rintro σ' H' ⟨⟨v, rfl⟩, rfl⟩
      subst hσ
      walk_at "all"
      · rw [e0]
        exact q _
      · simp_all
      · simp_all
end
theorem all_mk {l : PySem.W.OpenLaw} {w : World} {K : PySem.W.Frag} {h : Heap} {mg : Str → Option Value} {fa : Addr} (X : K.In h) (G : h.Ns mainGlobals mg) (hfa : mg "law" = some (.ref fa))
    {f_ahead f__law_cell_at f__law_second f_law : Addr}
    {od_ahead an_ahead od__law_cell_at an__law_cell_at od__law_second an__law_second od_law an_law : Option Addr}
    {sl_ahead sl__law_cell_at sl__law_second sl_law : Array (Option Value)}
    {oc_ahead kV_ahead dc_ahead pm_ahead cd_ahead ct_ahead oc__law_cell_at kV__law_cell_at dc__law_cell_at pm__law_cell_at cd__law_cell_at ct__law_cell_at oc__law_second kV__law_second dc__law_second pm__law_second cd__law_second ct__law_second oc_law kV_law dc_law pm_law cd_law ct_law : Value}
    (a_ahead : PySem.W.nsIn K mainGlobals "ahead" = some (some (.ref f_ahead)))
    (l_ahead : K.lookup f_ahead = some ⟨oc_ahead, od_ahead, .func (PySem.W.fnOf "ahead" "ahead" (defArgs s_ahead) (defBody s_ahead) (defScope s_ahead) .none kV_ahead dc_ahead pm_ahead an_ahead cd_ahead ct_ahead), sl_ahead⟩)
    (c_ahead : PySem.W.codeIn K cd_ahead "ahead" = true)
    (k_ahead : PySem.W.keepIn K (.ref f_ahead) = true)
    (a__law_cell_at : PySem.W.nsIn K mainGlobals "_law_cell_at" = some (some (.ref f__law_cell_at)))
    (l__law_cell_at : K.lookup f__law_cell_at = some ⟨oc__law_cell_at, od__law_cell_at, .func (PySem.W.fnOf "_law_cell_at" "_law_cell_at" (defArgs s__law_cell_at) (defBody s__law_cell_at) (defScope s__law_cell_at) .none kV__law_cell_at dc__law_cell_at pm__law_cell_at an__law_cell_at cd__law_cell_at ct__law_cell_at), sl__law_cell_at⟩)
    (c__law_cell_at : PySem.W.codeIn K cd__law_cell_at "_law_cell_at" = true)
    (k__law_cell_at : PySem.W.keepIn K (.ref f__law_cell_at) = true)
    (a__law_second : PySem.W.nsIn K mainGlobals "_law_second" = some (some (.ref f__law_second)))
    (l__law_second : K.lookup f__law_second = some ⟨oc__law_second, od__law_second, .func (PySem.W.fnOf "_law_second" "_law_second" (defArgs s__law_second) (defBody s__law_second) (defScope s__law_second) .none kV__law_second dc__law_second pm__law_second an__law_second cd__law_second ct__law_second), sl__law_second⟩)
    (c__law_second : PySem.W.codeIn K cd__law_second "_law_second" = true)
    (k__law_second : PySem.W.keepIn K (.ref f__law_second) = true)
    (a_law : PySem.W.nsIn K mainGlobals "law" = some (some (.ref f_law)))
    (l_law : K.lookup f_law = some ⟨oc_law, od_law, .func (PySem.W.fnOf "law" "law" (defArgs s_law) (defBody s_law) (defScope s_law) .none kV_law dc_law pm_law an_law cd_law ct_law), sl_law⟩)
    (c_law : PySem.W.codeIn K cd_law "law" = true)
    (k_law : PySem.W.keepIn K (.ref f_law) = true)
    (n_len : PySem.W.nsIn K mainGlobals "len" = some none)
    (n_isinstance : PySem.W.nsIn K mainGlobals "isinstance" = some none)
    (n_bool : PySem.W.nsIn K mainGlobals "bool" = some none)
    : ∃ fd : FuncData, (∀ (s : Shared) (v : Value), BindsTo s fd ⟨[v], []⟩ [("_law_script", v)]) ∧ ∀ base : Heap, K.In base → base.Ns mainGlobals mg → FnOk l.prog w K mg base (L2.CX l.prog w) 2 fa fd ["_law_script"] (spLaw K) := by
  have e := hfa.symm.trans (PySem.W.mg_of X G a_law)
  have e2 : f_law = fa := by injection e with z; injection z with z; exact z.symm
  subst e2
  have F_ahead := fun_mk (st := s_ahead) l_ahead c_ahead k_ahead
  have F__law_cell_at := fun_mk (st := s__law_cell_at) l__law_cell_at c__law_cell_at k__law_cell_at
  have F__law_second := fun_mk (st := s__law_second) l__law_second c__law_second k__law_second
  have F_law := fun_mk (st := s_law) l_law c_law k_law
  let a : Ad := {
    f_ahead := f_ahead, d_ahead := PySem.W.fnOf "ahead" "ahead" (defArgs s_ahead) (defBody s_ahead) (defScope s_ahead) .none kV_ahead dc_ahead pm_ahead an_ahead cd_ahead ct_ahead,
    f__law_cell_at := f__law_cell_at, d__law_cell_at := PySem.W.fnOf "_law_cell_at" "_law_cell_at" (defArgs s__law_cell_at) (defBody s__law_cell_at) (defScope s__law_cell_at) .none kV__law_cell_at dc__law_cell_at pm__law_cell_at an__law_cell_at cd__law_cell_at ct__law_cell_at,
    f__law_second := f__law_second, d__law_second := PySem.W.fnOf "_law_second" "_law_second" (defArgs s__law_second) (defBody s__law_second) (defScope s__law_second) .none kV__law_second dc__law_second pm__law_second an__law_second cd__law_second ct__law_second,
    f_law := f_law, d_law := PySem.W.fnOf "law" "law" (defArgs s_law) (defBody s_law) (defScope s_law) .none kV_law dc_law pm_law an_law cd_law ct_law }
  have T : Txt K mg a := {
    F_ahead := F_ahead,
    b_ahead := F_ahead.binds (ps := ["one", "other"]) fun _ _ _ _ _ _ us hl => match us, hl with | [_, _], _ => rfl,
    g_ahead := PySem.W.mg_of X G a_ahead,
    k_ahead := k_ahead,
    F__law_cell_at := F__law_cell_at,
    b__law_cell_at := F__law_cell_at.binds (ps := ["_law_script", "_law_k"]) fun _ _ _ _ _ _ us hl => match us, hl with | [_, _], _ => rfl,
    g__law_cell_at := PySem.W.mg_of X G a__law_cell_at,
    k__law_cell_at := k__law_cell_at,
    F__law_second := F__law_second,
    b__law_second := F__law_second.binds (ps := ["_law_first", "_law_least", "_law_cell"]) fun _ _ _ _ _ _ us hl => match us, hl with | [_, _, _], _ => rfl,
    g__law_second := PySem.W.mg_of X G a__law_second,
    k__law_second := k__law_second,
    F_law := F_law,
    b_law := F_law.binds (ps := ["_law_script"]) fun _ _ _ _ _ _ us hl => match us, hl with | [_], _ => rfl,
    g_law := PySem.W.mg_of X G a_law,
    k_law := k_law,
    n_len := PySem.W.mg_none_of X G n_len,
    n_isinstance := PySem.W.mg_none_of X G n_isinstance,
    n_bool := PySem.W.mg_none_of X G n_bool }
  exact ⟨a.d_law, fun s v => .of_eq rfl, fun base _ _ => ok_law T⟩
theorem walk {l : PySem.W.OpenLaw} {q : Program} {loose : List Str} {XP : (Str → Option Value) → Heap → Prop} {YP : World → Heap → Prop} {d : DefRec} {K : Params → PySem.W.Frag} (hn : l.most = some 63) (hdf : d.params.defaults = [])
    (hY : ∀ (w : World) (h : Heap), YP w h → (K w.params).In h)
    (F : ∀ (w : World) (mg : Str → Option Value) (fa : Addr) (h : Heap), (K w.params).In h → h.Ns mainGlobals mg → mg d.name = some (.ref fa) →
      ∃ fd : FuncData, (∀ (s : Shared) (u : Value), BindsTo s fd ⟨[u], []⟩ [("_law_script", u)]) ∧ ∀ base : Heap, (K w.params).In base → base.Ns mainGlobals mg → FnOk l.prog w (K w.params) mg base (L2.CX l.prog w) 2 fa fd ["_law_script"] (spLaw (K w.params))) :
    PySem.W.WalkO q loose XP YP l.row.toRowW d [] (fun f vs => PySem.call f vs) :=
  L2.walk_of (n := 63) (k := 2) (x := "_law_script") (CX := fun w => L2.CX l.prog w) (sp := fun w => spLaw (K w.params)) hn (by decide) hdf ⟨rfl, by decide, by decide⟩ hY F (fun _ _ a ns hl _ hS => ⟨a, ns, rfl, hS, hl, fun _ => rfl⟩) fun _ _ _ _ _ z => cx_none z
end Tm
open PySem PySem.W PyProof.Rows
set_option maxRecDepth 100000 in
set_option maxHeartbeats 0 in
theorem PySem.Challenge.cw_treemove_k01_told_order_holds : PySem.Challenge.rw_treemove_k01_told_order.Holds := by
  w_on; o_law; k_head; (case hw => w_witness2)
  k_fill
  refine Tm.walk (l := PySem.Challenge.rw_treemove_k01_told_order) rfl rfl (fun w h Y => PySem.W.kIn_of Y) ?F
  case F =>
    intro w mg fa h KX G hmg
    refine' Tm.all_mk KX G hmg ?a_ahead ?l_ahead ?c_ahead ?k_ahead ?a__law_cell_at ?l__law_cell_at ?c__law_cell_at ?k__law_cell_at ?a__law_second ?l__law_second ?c__law_second ?k__law_second ?a_law ?l_law ?c_law ?k_law ?n_len ?n_isinstance ?n_bool
    (case a_ahead => k_is)
    (case l_ahead => k_is)
    (case c_ahead => k_is)
    (case k_ahead => k_is)
    (case a__law_cell_at => k_is)
    (case l__law_cell_at => k_is)
    (case c__law_cell_at => k_is)
    (case k__law_cell_at => k_is)
    (case a__law_second => k_is)
    (case l__law_second => k_is)
    (case c__law_second => k_is)
    (case k__law_second => k_is)
    (case a_law => k_is)
    (case l_law => k_is)
    (case c_law => k_is)
    (case k_law => k_is)
    (case n_len => k_is)
    (case n_isinstance => k_is)
    (case n_bool => k_is)
