import PyProof.Rows.All
import Wide.All
import OpenK.AllK
import Wide.FinOn
import HandS.ForMost
import HandS.Exc
import HandS.TryMany
import HandS.ExcOwn
import HandS.WordsExc
import HandS.ExcIs
import HandS.IsInst
import HandS.Deep
import HandS.DeepEq
import HandS.TupLe
import HandS.TupAny
import HandS.More
import HandS.SortInts
import KE.OsMirror
import KE.IntTextLaws
import HandS.Evl
import HandS.DictComp
import PySem.Challenge.RW_treemove_k11_hand_and_clock
set_option Elab.async false
set_option linter.all false
set_option maxRecDepth 100000
set_option maxHeartbeats 4000000
namespace Tm
open PySem PySem.Spec PyProof.Rows L2
/-! what all laws lean on -/
theorem cx_none {P : Program} {w : World} {outer : List Env} {H : Hp} {s : Shared} {e : Value} {s' : Shared} (h : L2.CX P w outer H s (fun _ _ _ => False) e s') : False := by
  obtain ⟨_, _, _, _, _, _, _, _, _, _, _, _, z⟩ := h
  exact z
/-- law's: a list of at most 63 ints is handed in, True comes out -/
def spLaw (K : PySem.W.Frag) : Sp := fun vs H Q _ => ∃ (p : Addr) (ns : List Int), vs = [.ref p] ∧ SqL K H p (ns.map V.int) ∧ ns.length ≤ 63 ∧ ∀ H', Q (.bl true) H'
theorem T0 {k : Nat} {A : Around} (hr : Room k A) : A.units < cLine := Nat.lt_of_le_of_lt (Nat.le_add_right _ _) hr.units
theorem T64 {k : Nat} {A : Around} (hr : Room k A) : A.units + 64 < cLine := hr.units
theorem T65 {k : Nat} {A : Around} (hr : Room k A) : A.units + 65 < cLine := by have := hr.un; omega
theorem exm_at {K : PySem.W.Frag} {S C : Addr} (h1 : PySem.W.subIn K (.ref S) (.type "BaseException") = some true) (h2 : PySem.W.isClsIn K S = true) (h3 : PySem.W.typeIn K (.ref S) = some (.type "type")) {b : Bool} (h4 : PySem.W.subIn K (.ref C) (.ref S) = some b) :
    PySem.W.exmOne K (.ref C) (.ref S) = some b := by
  have e1 : (PySem.W.subIn K (.ref S) (.type "BaseException") == some true) = true := by rw [h1] <;> rfl
  have e2 : ((PySem.W.clsIn K S).isSome && PySem.W.typeIn K (.ref S) == some (.type "type")) = true := by
    have h2' : (PySem.W.clsIn K S).isSome = true := h2
    rw [h2', h3] <;> rfl
  show (if (PySem.W.subIn K (.ref S) (.type "BaseException") == some true) = true then (if ((PySem.W.clsIn K S).isSome && PySem.W.typeIn K (.ref S) == some (.type "type")) = true then PySem.W.subIn K (.ref C) (.ref S) else none) else none) = some b
  rw [if_pos e1, if_pos e2]
  exact h4
/-- ten to a written power -/
theorem pe_p10 {X : Cx} {n m : Int} {j1 j2 : Nat} {p1 p2 pos : Pos} (h : 0 ≤ n ∧ n ≤ 1000000 ∧ (10 : Int) ^ n.toNat = m) : PE X (.BinOp (.Constant (.int 10) j1 p1) .Pow (.Constant (.int n) j2 p2) pos) (tC (.int m)) := by
  obtain ⟨h0, h1, h2⟩ := h
  refine ⟨fun pins s σ H Q I q => (pe_op op_pow pe_int pe_int).run pins s σ H Q I ⟨10, n, rfl, rfl, ⟨h0, h1, by decide⟩, ?_⟩⟩
  show Q (.int (10 ^ n.toNat)) H
  rw [h2]
  exact q
abbrev E60 : Int := 1000000000000000000000000000000000000000000000000000000000000
/-- the cell of a script -/
def cellAt (ns : List Int) (k : Int) : Int := ns.getD k.toNat 0
def spCell (K : PySem.W.Frag) : Sp := fun vs H Q _ => ∃ (p : Addr) (ns : List Int) (k : Int), vs = [.ref p, .int k] ∧ SqL K H p (ns.map V.int) ∧ 0 ≤ k ∧ Q (.int (cellAt ns k)) H
theorem cell_in {ns : List Int} {k : Int} (h0 : 0 ≤ k) (h : k < ns.length) : atI (ns.map V.int) k = some (.int (cellAt ns k)) := by
  refine at_of (j := k.toNat) (by omega) ?_
  have hk : k.toNat < ns.length := by omega
  simp [cellAt, List.getD_eq_getElem?_getD, hk]
theorem cell_out {ns : List Int} {k : Int} (h : ¬ k < ns.length) : cellAt ns k = 0 := by
  have hk : ¬ k.toNat < ns.length := by omega
  simp [cellAt, List.getD_eq_getElem?_getD, List.getElem?_eq_none (Nat.le_of_not_lt hk)]
end Tm
namespace Tm
open PySem PySem.Spec PyProof.Rows L2
theorem yes {c : Bool} {A B : Prop} (h : c = true) (q : A) : if c = true then A else B := by
  rw [if_pos h]
  exact q
theorem no {c : Bool} {A B : Prop} (h : c = false) (q : B) : if c = true then A else B := by
  rw [h, if_neg Bool.false_ne_true]
  exact q
theorem ite_eqI {x y : Int} {A B : Prop} (h1 : x = y → A) (h2 : ¬ x = y → B) : if decide (V.int x = V.int y) = true then A else B :=
  ite2 (fun c => h1 (V.int.inj (of_decide_eq_true c))) fun c => h2 fun e => c (decide_eq_true (congrArg V.int e))
theorem ite_neI {x y : Int} {A B : Prop} (h1 : ¬ x = y → A) (h2 : x = y → B) : if (!decide (V.int x = V.int y)) = true then A else B := by
  by_cases e : x = y
  · subst e
    exact no (by simp) (h2 rfl)
  · exact yes (by simp [e]) (h1 e)
theorem ite_d {p : Prop} [Decidable p] {A B : Prop} (h1 : p → A) (h2 : ¬ p → B) : if decide p = true then A else B :=
  ite2 (fun c => h1 (of_decide_eq_true c)) fun c => h2 fun e => c (decide_eq_true e)
theorem ite_dn {p : Prop} [Decidable p] {A B : Prop} (h1 : ¬ p → A) (h2 : p → B) : if (!decide p) = true then A else B := by
  by_cases e : p
  · exact no (by simp [e]) (h2 e)
  · exact yes (by simp [e]) (h1 e)
theorem ite_b {b : Bool} {A B : Prop} (h1 : b = true → A) (h2 : b = false → B) : if b = true then A else B := by
  cases b
  · exact no rfl (h2 rfl)
  · exact yes rfl (h1 rfl)
theorem cdiv {i j : Int} (h : 0 < j ∧ j < 1073741824) : CDiv i j := h
theorem Qint {Q : VK} {H : Hp} {i j : Int} (q : Q (.int i) H) (e : j = i) : Q (.int j) H := e ▸ q
theorem Qbl {Q : VK} {H : Hp} {i j : Bool} (q : Q (.bl i) H) (e : j = i) : Q (.bl j) H := e ▸ q
end Tm
namespace Tm
open PySem PySem.Spec PyProof.Rows L2
section
variable {K : PySem.W.Frag} {H : Hp} {Q : VK}
theorem isi_int_int {x : Int} (q : Q (.bl true) H) : rIsi K [.int x, .ty "int"] H Q := ⟨_, _, _, _, _, rfl, .ty _, .base (.int x), kit_ty (by decide +kernel), q⟩
theorem isi_int_bool {x : Int} (q : Q (.bl false) H) : rIsi K [.int x, .ty "bool"] H Q := ⟨_, _, _, _, _, rfl, .ty _, .base (.int x), kit_ty (by decide +kernel), q⟩
theorem isi_int_str {x : Int} (q : Q (.bl false) H) : rIsi K [.int x, .ty "str"] H Q := ⟨_, _, _, _, _, rfl, .ty _, .base (.int x), kit_ty (by decide +kernel), q⟩
theorem isi_int_list {x : Int} (q : Q (.bl false) H) : rIsi K [.int x, .ty "list"] H Q := ⟨_, _, _, _, _, rfl, .ty _, .base (.int x), kit_ty (by decide +kernel), q⟩
theorem isi_int_tuple {x : Int} (q : Q (.bl false) H) : rIsi K [.int x, .ty "tuple"] H Q := ⟨_, _, _, _, _, rfl, .ty _, .base (.int x), kit_ty (by decide +kernel), q⟩
theorem isi_int_dict {x : Int} (q : Q (.bl false) H) : rIsi K [.int x, .ty "dict"] H Q := ⟨_, _, _, _, _, rfl, .ty _, .base (.int x), kit_ty (by decide +kernel), q⟩
theorem isi_bool_int {x : Bool} (q : Q (.bl true) H) : rIsi K [.bl x, .ty "int"] H Q := ⟨_, _, _, _, _, rfl, .ty _, .base (.bl x), kit_ty (by decide +kernel), q⟩
theorem isi_bool_bool {x : Bool} (q : Q (.bl true) H) : rIsi K [.bl x, .ty "bool"] H Q := ⟨_, _, _, _, _, rfl, .ty _, .base (.bl x), kit_ty (by decide +kernel), q⟩
theorem isi_bool_str {x : Bool} (q : Q (.bl false) H) : rIsi K [.bl x, .ty "str"] H Q := ⟨_, _, _, _, _, rfl, .ty _, .base (.bl x), kit_ty (by decide +kernel), q⟩
theorem isi_bool_list {x : Bool} (q : Q (.bl false) H) : rIsi K [.bl x, .ty "list"] H Q := ⟨_, _, _, _, _, rfl, .ty _, .base (.bl x), kit_ty (by decide +kernel), q⟩
theorem isi_bool_tuple {x : Bool} (q : Q (.bl false) H) : rIsi K [.bl x, .ty "tuple"] H Q := ⟨_, _, _, _, _, rfl, .ty _, .base (.bl x), kit_ty (by decide +kernel), q⟩
theorem isi_bool_dict {x : Bool} (q : Q (.bl false) H) : rIsi K [.bl x, .ty "dict"] H Q := ⟨_, _, _, _, _, rfl, .ty _, .base (.bl x), kit_ty (by decide +kernel), q⟩
theorem isi_str_int {x : Str} (q : Q (.bl false) H) : rIsi K [.str x, .ty "int"] H Q := ⟨_, _, _, _, _, rfl, .ty _, .base (.str x), kit_ty (by decide +kernel), q⟩
theorem isi_str_bool {x : Str} (q : Q (.bl false) H) : rIsi K [.str x, .ty "bool"] H Q := ⟨_, _, _, _, _, rfl, .ty _, .base (.str x), kit_ty (by decide +kernel), q⟩
theorem isi_str_str {x : Str} (q : Q (.bl true) H) : rIsi K [.str x, .ty "str"] H Q := ⟨_, _, _, _, _, rfl, .ty _, .base (.str x), kit_ty (by decide +kernel), q⟩
theorem isi_str_list {x : Str} (q : Q (.bl false) H) : rIsi K [.str x, .ty "list"] H Q := ⟨_, _, _, _, _, rfl, .ty _, .base (.str x), kit_ty (by decide +kernel), q⟩
theorem isi_str_tuple {x : Str} (q : Q (.bl false) H) : rIsi K [.str x, .ty "tuple"] H Q := ⟨_, _, _, _, _, rfl, .ty _, .base (.str x), kit_ty (by decide +kernel), q⟩
theorem isi_str_dict {x : Str} (q : Q (.bl false) H) : rIsi K [.str x, .ty "dict"] H Q := ⟨_, _, _, _, _, rfl, .ty _, .base (.str x), kit_ty (by decide +kernel), q⟩
theorem isi_NoneType_int (q : Q (.bl false) H) : rIsi K [.non, .ty "int"] H Q := ⟨_, _, _, _, _, rfl, .ty _, .base (.non), kit_ty (by decide +kernel), q⟩
theorem isi_NoneType_bool (q : Q (.bl false) H) : rIsi K [.non, .ty "bool"] H Q := ⟨_, _, _, _, _, rfl, .ty _, .base (.non), kit_ty (by decide +kernel), q⟩
theorem isi_NoneType_str (q : Q (.bl false) H) : rIsi K [.non, .ty "str"] H Q := ⟨_, _, _, _, _, rfl, .ty _, .base (.non), kit_ty (by decide +kernel), q⟩
theorem isi_NoneType_list (q : Q (.bl false) H) : rIsi K [.non, .ty "list"] H Q := ⟨_, _, _, _, _, rfl, .ty _, .base (.non), kit_ty (by decide +kernel), q⟩
theorem isi_NoneType_tuple (q : Q (.bl false) H) : rIsi K [.non, .ty "tuple"] H Q := ⟨_, _, _, _, _, rfl, .ty _, .base (.non), kit_ty (by decide +kernel), q⟩
theorem isi_NoneType_dict (q : Q (.bl false) H) : rIsi K [.non, .ty "dict"] H Q := ⟨_, _, _, _, _, rfl, .ty _, .base (.non), kit_ty (by decide +kernel), q⟩
theorem isi_list_int {a : Addr} {xs : List V} (h : H a = some (.lst xs)) (q : Q (.bl false) H) : rIsi K [.ref a, .ty "int"] H Q := ⟨_, _, _, _, _, rfl, .ty _, .base (.lst h), kit_ty (by decide +kernel), q⟩
theorem isi_list_bool {a : Addr} {xs : List V} (h : H a = some (.lst xs)) (q : Q (.bl false) H) : rIsi K [.ref a, .ty "bool"] H Q := ⟨_, _, _, _, _, rfl, .ty _, .base (.lst h), kit_ty (by decide +kernel), q⟩
theorem isi_list_str {a : Addr} {xs : List V} (h : H a = some (.lst xs)) (q : Q (.bl false) H) : rIsi K [.ref a, .ty "str"] H Q := ⟨_, _, _, _, _, rfl, .ty _, .base (.lst h), kit_ty (by decide +kernel), q⟩
theorem isi_list_list {a : Addr} {xs : List V} (h : H a = some (.lst xs)) (q : Q (.bl true) H) : rIsi K [.ref a, .ty "list"] H Q := ⟨_, _, _, _, _, rfl, .ty _, .base (.lst h), kit_ty (by decide +kernel), q⟩
theorem isi_list_tuple {a : Addr} {xs : List V} (h : H a = some (.lst xs)) (q : Q (.bl false) H) : rIsi K [.ref a, .ty "tuple"] H Q := ⟨_, _, _, _, _, rfl, .ty _, .base (.lst h), kit_ty (by decide +kernel), q⟩
theorem isi_list_dict {a : Addr} {xs : List V} (h : H a = some (.lst xs)) (q : Q (.bl false) H) : rIsi K [.ref a, .ty "dict"] H Q := ⟨_, _, _, _, _, rfl, .ty _, .base (.lst h), kit_ty (by decide +kernel), q⟩
theorem isi_tuple_int {a : Addr} {xs : List V} (h : H a = some (.tup xs)) (q : Q (.bl false) H) : rIsi K [.ref a, .ty "int"] H Q := ⟨_, _, _, _, _, rfl, .ty _, .base (.tup h), kit_ty (by decide +kernel), q⟩
theorem isi_tuple_bool {a : Addr} {xs : List V} (h : H a = some (.tup xs)) (q : Q (.bl false) H) : rIsi K [.ref a, .ty "bool"] H Q := ⟨_, _, _, _, _, rfl, .ty _, .base (.tup h), kit_ty (by decide +kernel), q⟩
theorem isi_tuple_str {a : Addr} {xs : List V} (h : H a = some (.tup xs)) (q : Q (.bl false) H) : rIsi K [.ref a, .ty "str"] H Q := ⟨_, _, _, _, _, rfl, .ty _, .base (.tup h), kit_ty (by decide +kernel), q⟩
theorem isi_tuple_list {a : Addr} {xs : List V} (h : H a = some (.tup xs)) (q : Q (.bl false) H) : rIsi K [.ref a, .ty "list"] H Q := ⟨_, _, _, _, _, rfl, .ty _, .base (.tup h), kit_ty (by decide +kernel), q⟩
theorem isi_tuple_tuple {a : Addr} {xs : List V} (h : H a = some (.tup xs)) (q : Q (.bl true) H) : rIsi K [.ref a, .ty "tuple"] H Q := ⟨_, _, _, _, _, rfl, .ty _, .base (.tup h), kit_ty (by decide +kernel), q⟩
theorem isi_tuple_dict {a : Addr} {xs : List V} (h : H a = some (.tup xs)) (q : Q (.bl false) H) : rIsi K [.ref a, .ty "dict"] H Q := ⟨_, _, _, _, _, rfl, .ty _, .base (.tup h), kit_ty (by decide +kernel), q⟩
theorem isi_dict_int {a : Addr} {xs : List (Key × V)} (h : H a = some (.dK xs)) (q : Q (.bl false) H) : rIsi K [.ref a, .ty "int"] H Q := ⟨_, _, _, _, _, rfl, .ty _, .base (.dK h), kit_ty (by decide +kernel), q⟩
theorem isi_dict_bool {a : Addr} {xs : List (Key × V)} (h : H a = some (.dK xs)) (q : Q (.bl false) H) : rIsi K [.ref a, .ty "bool"] H Q := ⟨_, _, _, _, _, rfl, .ty _, .base (.dK h), kit_ty (by decide +kernel), q⟩
theorem isi_dict_str {a : Addr} {xs : List (Key × V)} (h : H a = some (.dK xs)) (q : Q (.bl false) H) : rIsi K [.ref a, .ty "str"] H Q := ⟨_, _, _, _, _, rfl, .ty _, .base (.dK h), kit_ty (by decide +kernel), q⟩
theorem isi_dict_list {a : Addr} {xs : List (Key × V)} (h : H a = some (.dK xs)) (q : Q (.bl false) H) : rIsi K [.ref a, .ty "list"] H Q := ⟨_, _, _, _, _, rfl, .ty _, .base (.dK h), kit_ty (by decide +kernel), q⟩
theorem isi_dict_tuple {a : Addr} {xs : List (Key × V)} (h : H a = some (.dK xs)) (q : Q (.bl false) H) : rIsi K [.ref a, .ty "tuple"] H Q := ⟨_, _, _, _, _, rfl, .ty _, .base (.dK h), kit_ty (by decide +kernel), q⟩
theorem isi_dict_dict {a : Addr} {xs : List (Key × V)} (h : H a = some (.dK xs)) (q : Q (.bl true) H) : rIsi K [.ref a, .ty "dict"] H Q := ⟨_, _, _, _, _, rfl, .ty _, .base (.dK h), kit_ty (by decide +kernel), q⟩
end
end Tm
namespace Tm
open PySem PySem.Spec PyProof.Rows L2
theorem c_cell {K : PySem.W.Frag} {H : Hp} {p : Addr} {ns : List Int} {k : Int} {Q : VK} {E : XK} (hS : SqL K H p (ns.map V.int)) (h0 : 0 ≤ k) (h : Q (.int (cellAt ns k)) H) : spCell K [.ref p, .int k] H Q E := ⟨p, ns, k, rfl, hS, h0, h⟩
end Tm
namespace Tm
open PySem PySem.Spec PyProof.Rows L2
/-! readings, step by step: each step's head is a constant, so that a wrong step falls at once -/
section
variable {K : PySem.W.Frag} {σ : L2.St} {H : Hp} {Q : VK} {B : Bool → Hp → Prop} {R : List V → Hp → Prop} {v x y z : V} {ta tb te td ty tx tl : TE} {ts : TA} {tt tu : TT} {t1 t2 : TS} {i j n : Nat} {nx bk ct : L2.St → Hp → Prop} {rt : VK} {r : R2} {p q d : Addr} {f : Str} {E : XK} {vs : List V}
def qB (B : Bool → Hp → Prop) : VK := fun x H' => ∃ k, x = .bl k ∧ B k H'
theorem r_qB {b : Bool} (h : B b H) : qB B (.bl b) H := ⟨b, rfl, h⟩
theorem s_var (e : σ[i]? = some (some v)) (h : Q v H) : tVar i σ H Q := ⟨v, e, h⟩
/-- an expression's value once, whatever follows -/
theorem s_val (v : V) (h : ∀ Q : VK, Q v H → te σ H Q) (q : Q v H) : te σ H Q := h Q q
theorem s_C (h : Q v H) : tC v σ H Q := h
theorem s_op (h : ta σ H fun x H1 => tb σ H1 fun y H2 => r x y H2 Q) : tOp r ta tb σ H Q := h
theorem s_un {u : V → Hp → VK → Prop} (h : ta σ H fun x H1 => u x H1 Q) : tUn u ta σ H Q := h
theorem s_test (h : te σ H (qB B)) : tTest te σ H B := h
theorem s_tB (h : te σ H (qB B)) : tB te σ H B := h
theorem s_not (h : tt σ H fun c H1 => B (!c) H1) : tNot tt σ H B := h
theorem s_and (h : tt σ H fun c H1 => if c = true then tu σ H1 B else B false H1) : tAnd tt tu σ H B := h
theorem s_or (h : tt σ H fun c H1 => if c = true then B true H1 else tu σ H1 B) : tOr tt tu σ H B := h
theorem s_andV (h : ta σ H (qB fun c H1 => if c = true then tb σ H1 Q else Q (.bl false) H1)) : tAndV ta tb σ H Q := h
theorem s_orV (h : ta σ H (qB fun c H1 => if c = true then Q (.bl true) H1 else tb σ H1 Q)) : tOrV ta tb σ H Q := h
theorem s_notV (h : ta σ H (qB fun c H1 => Q (.bl (!c)) H1)) : tNotV ta σ H Q := h
theorem s_if (h : tt σ H fun c H1 => if c = true then ta σ H1 Q else tb σ H1 Q) : tIf tt ta tb σ H Q := h
theorem s_chain {r r' : R2} {tc : TE} (h : ta σ H fun x H1 => tb σ H1 fun y H2 => r x y H2 (qB fun k H3 => if k = true then tc σ H3 fun w' H4 => r' y w' H4 Q else Q (.bl false) H3)) : tChain r r' ta tb tc σ H Q := h
theorem s_nil (h : R [] H) : tNil σ H R := h
theorem s_cons (h : te σ H fun x H1 => ts σ H1 fun xs H2 => R (x :: xs) H2) : tCons te ts σ H R := h
def qNew (mk : List V → HO) (Q : VK) : List V → Hp → Prop := fun xs H1 => xs.length ≤ sizeLine ∧ ∀ p, H1 p = none → Q (.ref p) (upd H1 p (mk xs))
theorem r_new {mk : List V → HO} {xs : List V} (hl : xs.length ≤ 1000000) (h : ∀ p, H p = none → Q (.ref p) (upd H p (mk xs))) : qNew mk Q xs H := ⟨Nat.le_trans hl (by decide), h⟩
theorem s_tup (h : ts σ H (qNew .tup Q)) : tTup ts σ H Q := h
theorem s_lst (h : ts σ H (qNew .lst Q)) : tLst ts σ H Q := h
theorem s_call {sp : Sp} (h : ts σ H fun vs H1 => sp vs H1 Q E) : tCall sp [] E ts σ H Q := by
  unfold tCall
  simpa only [List.append_nil] using h
theorem s_callS {sp : Sp} {E : L2.St → XK} (h : ts σ H fun vs H1 => sp vs H1 Q (E σ)) : tCallS sp E ts σ H Q := h
theorem s_CB {c : List V → Hp → VK → Prop} (h : ts σ H fun vs H1 => c vs H1 Q) : tCB c ts σ H Q := h
theorem s_noPart {O : Option Int → Hp → Prop} (h : O none H) : tNoPart σ H O := h
def qPart (O : Option Int → Hp → Prop) : VK := fun x H1 => ∃ i, x = .int i ∧ O (some i) H1
theorem r_part {O : Option Int → Hp → Prop} {i : Int} (h : O (some i) H) : qPart O (.int i) H := ⟨i, rfl, h⟩
theorem s_part {O : Option Int → Hp → Prop} (h : te σ H (qPart O)) : tPart te σ H O := h
theorem s_sl {c : V → Option Int → Option Int → Hp → VK → Prop} {a b : TO} (h : te σ H fun x H1 => a σ H1 fun l H2 => b σ H2 fun u H3 => c x l u H3 Q) : tSl c te a b σ H Q := h
theorem s_yes (h : B true H) : tYes σ H B := h
/-! statements -/
theorem s_seq (h : t1 ⟨t2 ⟨nx, rt, bk, ct⟩, rt, bk, ct⟩ σ H) : tSeq t1 t2 ⟨nx, rt, bk, ct⟩ σ H := h
theorem s_next (h : nx σ H) : tNext ⟨nx, rt, bk, ct⟩ σ H := h
theorem s_asg {g : TG} (h : te σ H fun x H1 => g x σ H1 nx) : tAsg te g ⟨nx, rt, bk, ct⟩ σ H := h
theorem s_gName {N : L2.St → Hp → Prop} (h : N (σ.set i (some v)) H) : gName i v σ H N := h
theorem s_drop (h : te σ H fun _ H1 => nx σ H1) : tDrop te ⟨nx, rt, bk, ct⟩ σ H := h
theorem s_ret (h : te σ H rt) : tRet te ⟨nx, rt, bk, ct⟩ σ H := h
theorem s_ifS (h : tt σ H fun b H1 => if b = true then t1 ⟨nx, rt, bk, ct⟩ σ H1 else t2 ⟨nx, rt, bk, ct⟩ σ H1) : tIfS tt t1 t2 ⟨nx, rt, bk, ct⟩ σ H := h
/-! operators on ints -/
theorem r_I0 {g : Int → Int → V} {i j : Int} (h : Q (g i j) H) : rI0 g (.int i) (.int j) H Q := ⟨i, j, rfl, rfl, h⟩
theorem r_I {C : Int → Int → Prop} {g : Int → Int → V} {i j : Int} (c : C i j) (h : Q (g i j) H) : rI C g (.int i) (.int j) H Q := ⟨i, j, rfl, rfl, c, h⟩
theorem r_mod {g : Int → Int → V} {i j : Int} (c : 0 < j) (h : Q (g i j) H) : rI (fun _ j => 0 < j) g (.int i) (.int j) H Q := ⟨i, j, rfl, rfl, c, h⟩
theorem r_div {g : Int → Int → V} {i j : Int} (c : 0 < j ∧ j < 1073741824) (h : Q (g i j) H) : rI CDiv g (.int i) (.int j) H Q := ⟨i, j, rfl, rfl, c, h⟩
theorem r_mul {g : Int → Int → V} {i j : Int} (c : (-18446744073709551616 < i ∧ i < 18446744073709551616) ∨ (-18446744073709551616 < j ∧ j < 18446744073709551616)) (h : Q (g i j) H) : rI CMul g (.int i) (.int j) H Q := ⟨i, j, rfl, rfl, c, h⟩
theorem r_U {g : Int → V} {i : Int} (h : Q (g i) H) : rU g (.int i) H Q := ⟨i, rfl, h⟩
theorem r_eqI {i j : Int} (h : Q (.bl (decide (i = j))) H) : rEq (.int i) (.int j) H Q := ⟨rfl, by
  have e : decide (V.int i = V.int j) = decide (i = j) := by by_cases c : i = j <;> simp [c]
  rw [e]; exact h⟩
theorem r_neI {i j : Int} (h : Q (.bl (!decide (i = j))) H) : rNe (.int i) (.int j) H Q := ⟨rfl, by
  have e : decide (V.int i = V.int j) = decide (i = j) := by by_cases c : i = j <;> simp [c]
  rw [e]; exact h⟩
theorem r_eqB {i j : Bool} (h : Q (.bl (decide (i = j))) H) : rEq (.bl i) (.bl j) H Q := ⟨rfl, by
  have e : decide (V.bl i = V.bl j) = decide (i = j) := by by_cases c : i = j <;> simp [c]
  rw [e]; exact h⟩
theorem r_neB {i j : Bool} (h : Q (.bl (!decide (i = j))) H) : rNe (.bl i) (.bl j) H Q := ⟨rfl, by
  have e : decide (V.bl i = V.bl j) = decide (i = j) := by by_cases c : i = j <;> simp [c]
  rw [e]; exact h⟩
theorem r_eqS {i j : Str} (h : Q (.bl (decide (i = j))) H) : rEq (.str i) (.str j) H Q := ⟨rfl, by
  have e : decide (V.str i = V.str j) = decide (i = j) := by by_cases c : i = j <;> simp [c]
  rw [e]; exact h⟩
theorem r_neS {i j : Str} (h : Q (.bl (!decide (i = j))) H) : rNe (.str i) (.str j) H Q := ⟨rfl, by
  have e : decide (V.str i = V.str j) = decide (i = j) := by by_cases c : i = j <;> simp [c]
  rw [e]; exact h⟩
/-! items, lengths -/
theorem r_ixT {xs : List V} {i : Int} (hs : SqT K H p xs) (ha : atI xs i = some v) (h : Q v H) : rIxT K (.ref p) (.int i) H Q := ⟨p, xs, i, v, rfl, rfl, hs, ha, h⟩
theorem r_ixL {xs : List V} {i : Int} (hs : SqL K H p xs) (ha : atI xs i = some v) (h : Q v H) : rIxL K (.ref p) (.int i) H Q := ⟨p, xs, i, v, rfl, rfl, hs, ha, h⟩
def rLenQ (K : PySem.W.Frag) : List V → Hp → VK → Prop := fun xs H Q => ∃ p ys, xs = [.ref p] ∧ (SqL K H p ys ∨ SqT K H p ys) ∧ Q (.int ys.length) H
theorem call_lenQ {X : Cx} : CallR X (.builtin "len") (rLenQ X.K) := call_len_seq
theorem r_lenL {xs : List V} (hs : SqL K H p xs) (h : Q (.int xs.length) H) : rLenQ K [.ref p] H Q := ⟨p, xs, rfl, .inl hs, h⟩
theorem r_lenT {xs : List V} (hs : SqT K H p xs) (h : Q (.int xs.length) H) : rLenQ K [.ref p] H Q := ⟨p, xs, rfl, .inr hs, h⟩
def rLenDQ : List V → Hp → VK → Prop := fun xs H Q => ∃ a kvs, xs = [V.ref a] ∧ H a = some (.dK kvs) ∧ Q (.int kvs.length) H
theorem call_lenDQ {X : Cx} : CallR X (.builtin "len") rLenDQ := call_lenD
theorem r_lenD {kvs : List (Key × V)} (hs : H p = some (.dK kvs)) (h : Q (.int kvs.length) H) : rLenDQ [.ref p] H Q := ⟨p, kvs, rfl, hs, h⟩
def rMaxQ : List V → Hp → VK → Prop := fun xs H Q => ∃ i j, xs = [.int i, .int j] ∧ Q (.int (if j > i then j else i)) H
theorem call_maxQ {X : Cx} (hc : X.calm = true) : CallR X (.builtin "max") rMaxQ := call_max2 hc
theorem r_max {i j : Int} (h : Q (.int (max i j)) H) : rMaxQ [.int i, .int j] H Q := ⟨i, j, rfl, by
  have e : (if j > i then j else i) = max i j := by omega
  rw [e]; exact h⟩
def rMinQ : List V → Hp → VK → Prop := fun xs H Q => ∃ i j, xs = [.int i, .int j] ∧ Q (.int (if j < i then j else i)) H
theorem call_minQ {X : Cx} (hc : X.calm = true) : CallR X (.builtin "min") rMinQ := call_min2 hc
theorem r_min {i j : Int} (h : Q (.int (min i j)) H) : rMinQ [.int i, .int j] H Q := ⟨i, j, rfl, by
  have e : (if j < i then j else i) = min i j := by omega
  rw [e]; exact h⟩
def rListQ (K : PySem.W.Frag) : List V → Hp → VK → Prop := fun xs H Q => ∃ p ys, xs = [.ref p] ∧ (SqL K H p ys ∨ SqT K H p ys) ∧ ∀ l, H l = none → Q (.ref l) (upd H l (.lst ys))
theorem call_listQ {X : Cx} : CallR X (.type "list") (rListQ X.K) := call_list_of
theorem r_list {xs : List V} (hs : SqL K H p xs) (h : ∀ l, H l = none → Q (.ref l) (upd H l (.lst xs))) : rListQ K [.ref p] H Q := ⟨p, xs, rfl, .inl hs, h⟩
theorem r_listT {xs : List V} (hs : SqT K H p xs) (h : ∀ l, H l = none → Q (.ref l) (upd H l (.lst xs))) : rListQ K [.ref p] H Q := ⟨p, xs, rfl, .inr hs, h⟩
def rTupQ (K : PySem.W.Frag) : List V → Hp → VK → Prop := fun xs H Q => ∃ p ys, xs = [.ref p] ∧ ((SqL K H p ys ∧ ∀ l, H l = none → Q (.ref l) (upd H l (.tup ys))) ∨ (SqT K H p ys ∧ Q (.ref p) H))
theorem call_tupQ {X : Cx} : CallR X (.type "tuple") (rTupQ X.K) := call_tuple_of
theorem r_tupL {xs : List V} (hs : SqL K H p xs) (h : ∀ l, H l = none → Q (.ref l) (upd H l (.tup xs))) : rTupQ K [.ref p] H Q := ⟨p, xs, rfl, .inl ⟨hs, h⟩⟩
def rDictQ : List V → Hp → VK → Prop := fun xs H Q => ∃ (a : Addr) (kvs : List (Key × V)), xs = [.ref a] ∧ Rd H a (.dK kvs) ∧ ∀ p, H p = none → Q (.ref p) (upd H p (.dK kvs))
theorem call_dictQ {X : Cx} : CallR X (.type "dict") rDictQ := call_dictD
theorem r_dict {kvs : List (Key × V)} (hs : H p = some (.dK kvs)) (h : ∀ l, H l = none → Q (.ref l) (upd H l (.dK kvs))) : rDictQ [.ref p] H Q := ⟨p, kvs, rfl, .inl hs, h⟩
def rIntQ : List V → Hp → VK → Prop := fun xs H Q => (∃ i, xs = [.int i] ∧ Q (.int i) H) ∨ ∃ k, xs = [.bl k] ∧ Q (.int (if k then 1 else 0)) H
theorem call_intQ {X : Cx} : CallR X (.type "int") rIntQ := call_int1
theorem r_int {b : Bool} (h : Q (.int (if b then 1 else 0)) H) : rIntQ [.bl b] H Q := .inr ⟨b, rfl, h⟩
/-! methods of lists -/
def qTy (K : PySem.W.Frag) (T : String) (m : V → List V → Hp → VK → Prop) (ts : TA) (σ : L2.St) (Q : VK) : VK := fun x H1 => tyV K T x H1 ∧ ts σ H1 fun xs H2 => m x xs H2 Q
theorem s_BM {T : String} {m : V → List V → Hp → VK → Prop} (h : te σ H (qTy K T m ts σ Q)) : tBM K T m te ts σ H Q := h
theorem r_tyL {m : V → List V → Hp → VK → Prop} {xs : List V} (hs : H p = some (.lst xs)) (h : ts σ H fun xs H2 => m (.ref p) xs H2 Q) : qTy K "list" m ts σ Q (.ref p) H := ⟨.inl ⟨rfl, xs, .inl (.inl hs)⟩, h⟩
theorem r_append {xs : List V} (hs : H p = some (.lst xs)) (hl : xs.length < sizeLine) (h : Q .non (upd H p (.lst (xs ++ [y])))) : rAppend (.ref p) [y] H Q := ⟨p, xs, y, rfl, rfl, hs, hl, h⟩
/-! slices, concatenation -/
theorem r_slL {xs : List V} {lo hi : Option Int} (hs : SqL K H p xs) (h : ∀ l, H l = none → Q (.ref l) (upd H l (.lst (cutV xs lo hi)))) : rSlL K (.ref p) lo hi H Q := ⟨p, xs, rfl, hs, h⟩
theorem r_cat {xs ys : List V} (hs : H p = some (.lst xs)) (hq : H q = some (.lst ys)) (hl : xs.length + ys.length ≤ sizeLine) (h : ∀ l, H l = none → Q (.ref l) (upd H l (.lst (xs ++ ys)))) : rCat (.ref p) (.ref q) H Q := ⟨p, q, xs, ys, rfl, rfl, hs, hq, hl, h⟩
theorem r_slT {xs : List V} {lo hi : Option Int} (hs : SqT K H p xs) (hne : ¬ (HT.sIx xs.length 0 lo = 0 ∧ HT.sIx xs.length xs.length hi = xs.length)) (h : ∀ l, H l = none → Q (.ref l) (upd H l (.tup (cutV xs lo hi)))) : rSlA K (.ref p) lo hi H Q := ⟨p, xs, rfl, hs, fun e => (hne e).elim, fun _ => h⟩
theorem r_catT {xs ys : List V} (hs : SqT K H p xs) (hq : SqT K H q ys) (hx : xs ≠ []) (hy : ys ≠ []) (hl : xs.length + ys.length ≤ sizeLine) (h : ∀ l, H l = none → Q (.ref l) (upd H l (.tup (xs ++ ys)))) : rCatA K (.ref p) (.ref q) H Q := ⟨p, q, xs, ys, rfl, rfl, hs, hq, hl, fun e => (hx e).elim, fun _ e => (hy e).elim, fun _ _ => h⟩
theorem r_in {xs : List V} (hs : SqL K H p xs) (hf : flatV x = true) (ha : xs.all flatV = true) (h : Q (.bl (inV x xs)) H) : rIn K false x (.ref p) H Q := ⟨p, xs, rfl, .inl hs, hf, ha, h⟩
theorem r_inT {xs : List V} (hs : SqT K H p xs) (hf : flatV x = true) (ha : xs.all flatV = true) (h : Q (.bl (inV x xs)) H) : rIn K false x (.ref p) H Q := ⟨p, xs, rfl, .inr hs, hf, ha, h⟩
theorem r_nin {xs : List V} (hs : SqL K H p xs) (hf : flatV x = true) (ha : xs.all flatV = true) (h : Q (.bl (!inV x xs)) H) : rIn K true x (.ref p) H Q := ⟨p, xs, rfl, .inl hs, hf, ha, h⟩
/-! fields, methods, instances -/
def qFld (K : PySem.W.Frag) (f : Str) (Q : VK) : VK := fun x H1 => ∃ a C dx fs v, x = .ref a ∧ H1 a = some (.ins C dx fs) ∧ Cls K C ∧ NoAttr K C f ∧ fs.lookup f = some v ∧ Q v H1
theorem s_fld (h : te σ H (qFld K f Q)) : tFld K te f σ H Q := h
theorem r_fld {C dx : Addr} {fs : List (Str × V)} (hs : H p = some (.ins C dx fs)) (c : Cls K C) (na : NoAttr K C f) (l : fs.lookup f = some v) (h : Q v H) : qFld K f Q (.ref p) H := ⟨p, C, dx, fs, v, rfl, hs, c, na, l, h⟩
def qSFld (K : PySem.W.Frag) (f : Str) (nx : L2.St → Hp → Prop) (σ : L2.St) (y : V) : VK := fun x H2 => ∃ a C dx fs, x = .ref a ∧ H2 a = some (.ins C dx fs) ∧ Cls K C ∧ NoAttr K C f ∧ fs.length < 1000 ∧ nx σ (upd H2 a (.ins C dx (putF f y fs)))
theorem s_sFld (h : te σ H fun y H1 => ta σ H1 (qSFld K f nx σ y)) : sFld K ta te f ⟨nx, rt, bk, ct⟩ σ H := h
theorem r_sFld {C dx : Addr} {fs : List (Str × V)} (hs : H p = some (.ins C dx fs)) (c : Cls K C) (na : NoAttr K C f) (l : fs.length < 1000) (h : nx σ (upd H p (.ins C dx (putF f y fs)))) : qSFld K f nx σ y (.ref p) H := ⟨p, C, dx, fs, rfl, hs, c, na, l, h⟩
def qMeth (C : Addr) (m : Str) (sp : Sp) (E : XK) (ts : TA) (σ : L2.St) (Q : VK) : VK := fun x H1 => ∃ a dx fs, x = .ref a ∧ H1 a = some (.ins C dx fs) ∧ fs.lookup m = none ∧ ts σ H1 fun vs H2 => sp (x :: vs) H2 Q E
theorem s_meth {C : Addr} {m : Str} {sp : Sp} (h : te σ H (qMeth C m sp E ts σ Q)) : tMeth C m sp [] E te ts σ H Q := by
  unfold qMeth at h
  unfold tMeth
  simpa only [List.append_nil] using h
theorem r_meth {C dx : Addr} {m : Str} {sp : Sp} {fs : List (Str × V)} (hs : H p = some (.ins C dx fs)) (l : fs.lookup m = none) (h : ts σ H fun vs H2 => sp (.ref p :: vs) H2 Q E) : qMeth C m sp E ts σ Q (.ref p) H := ⟨p, dx, fs, rfl, hs, l, h⟩
theorem s_make {C : Addr} {sp : Sp} (h : ts σ H fun vs H1 => ∀ x dx, H1 x = none → H1 dx = none → dx ≠ x → sp (.ref x :: vs) (upd (upd H1 dx (.own x)) x (.ins C dx [])) (fun v H2 => v = .non ∧ Q (.ref x) H2) E) : tMake C sp [] E ts σ H Q := by
  unfold tMake
  simpa only [List.append_nil] using h
/-! dicts -/
def qDGet (Q : VK) (y : V) : V → Hp → Prop := fun x H2 => ∃ a v, x = .ref a ∧ DGet H2 a y (some v) ∧ Q v H2
theorem s_dNew (h : ∀ p, H p = none → Q (.ref p) (upd H p (.dK []))) : tDNewK σ H Q := h
theorem s_dGet (h : td σ H fun x H1 => ty σ H1 fun y H2 => qDGet Q y x H2) : tDGet td ty σ H Q := h
theorem r_dGet {kvs : List (Key × V)} {k : Int} (hs : H d = some (.dK kvs)) (hv : valV kvs (Sum.inl k) = some v) (h : Q v H) : qDGet Q (.int k) (.ref d) H := ⟨d, v, rfl, by rw [← hv]; exact DGet.k (k := Sum.inl k) hs, h⟩
theorem r_dGetS {kvs : List (Key × V)} {k : Str} (hs : H d = some (.dK kvs)) (hv : valV kvs (Sum.inr k) = some v) (h : Q v H) : qDGet Q (.str k) (.ref d) H := ⟨d, v, rfl, by rw [← hv]; exact DGet.k (k := Sum.inr k) hs, h⟩
theorem r_dGetF {o : Obj} {kvs : List (Key × V)} {k : Int} (hs : H d = some (.frz o (.dK kvs))) (hv : valV kvs (Sum.inl k) = some v) (h : Q v H) : qDGet Q (.int k) (.ref d) H := ⟨d, v, rfl, by rw [← hv]; exact .inl ⟨kvs, Sum.inl k, .inr ⟨o, hs⟩, rfl, rfl⟩, h⟩
def qDIn (Q : VK) (y : V) : V → Hp → Prop := fun x H2 => ∃ a o, x = .ref a ∧ DGet H2 a y o ∧ Q (.bl o.isSome) H2
theorem s_dIn (h : ty σ H fun y H1 => td σ H1 fun x H2 => qDIn Q y x H2) : tDIn ty td σ H Q := h
theorem r_dIn {kvs : List (Key × V)} {k : Int} (hs : H d = some (.dK kvs)) (h : Q (.bl (valV kvs (Sum.inl k)).isSome) H) : qDIn Q (.int k) (.ref d) H := ⟨d, _, rfl, DGet.k (k := Sum.inl k) hs, h⟩
def qDNotIn (Q : VK) (y : V) : V → Hp → Prop := fun x H2 => ∃ a o, x = .ref a ∧ DGet H2 a y o ∧ Q (.bl (!o.isSome)) H2
theorem s_dNotIn (h : ty σ H fun y H1 => td σ H1 fun x H2 => qDNotIn Q y x H2) : tDNotIn ty td σ H Q := h
theorem r_dNotIn {kvs : List (Key × V)} {k : Int} (hs : H d = some (.dK kvs)) (h : Q (.bl (!(valV kvs (Sum.inl k)).isSome)) H) : qDNotIn Q (.int k) (.ref d) H := ⟨d, _, rfl, DGet.k (k := Sum.inl k) hs, h⟩
def qDPut (nx : L2.St → Hp → Prop) (σ : L2.St) (v y : V) : V → Hp → Prop := fun x H3 => ∃ a H4, x = .ref a ∧ DPut H3 a y v H4 ∧ nx σ H4
theorem s_dPut (h : te σ H fun v H1 => td σ H1 fun x H2 => ty σ H2 fun y H3 => qDPut nx σ v y x H3) : sDPut td ty te ⟨nx, rt, bk, ct⟩ σ H := h
theorem r_dPut {kvs : List (Key × V)} {k : Int} (hs : H d = some (.dK kvs)) (hl : kvs.length < sizeLine) (h : nx σ (upd H d (.dK (putK kvs (Sum.inl k) v)))) : qDPut nx σ v (.int k) (.ref d) H := ⟨d, _, rfl, DPut.k (k := Sum.inl k) hs hl, h⟩
theorem r_dPutS {kvs : List (Key × V)} {k : Str} (hs : H d = some (.dK kvs)) (hl : kvs.length < sizeLine) (h : nx σ (upd H d (.dK (putK kvs (Sum.inr k) v)))) : qDPut nx σ v (.str k) (.ref d) H := ⟨d, _, rfl, DPut.k (k := Sum.inr k) hs hl, h⟩
/-! loops -/
def qFor {ι : Type} (go stop : Nat → Hp → Prop) (yld : Nat → Hp → V → Hp → Prop) (g : TG) (tb : TS) (nx : L2.St → Hp → Prop) (rt : VK) (σ : L2.St) (H1 : Hp) : Prop := ∃ W : Nat → Nat → L2.St → Hp → Prop, (∃ m, W 0 m σ H1) ∧ ∀ i m σ H, W i m σ H →
  (stop i H ∧ nx σ H) ∨ (go i H ∧ ∃ N : L2.St → Hp → Prop, (∀ σ' H', N σ' H' → ∃ m', m' < m ∧ W (i + 1) m' σ' H') ∧ ∀ x H', yld i H x H' → g x σ H' fun σ2 H2 => tb ⟨N, rt, nx, N⟩ σ2 H2)
def qForL (K : PySem.W.Frag) (g : TG) (tb : TS) (nx : L2.St → Hp → Prop) (rt : VK) (σ : L2.St) : VK := fun x H1 => ∃ a, x = .ref a ∧ (∃ xs, SqL K H1 a xs) ∧ qFor (ι := Unit) (Itl K a).go (Itl K a).stop (Itl K a).yld g tb nx rt σ H1
theorem s_forL {g : TG} {tb : TS} (h : tl σ H (qForL K g tb nx rt σ)) : tFor (iList K tl) g tb ⟨nx, rt, bk, ct⟩ σ H := h
/-- for x in a list: the invariant Pv (turn, slots, heap) -/
theorem r_forL {tb : TS} {xs : List V} (Pv : Nat → L2.St → Hp → Prop) (h0 : Pv 0 σ H) (hl : ∀ i σ H, i ≤ xs.length → Pv i σ H → SqL K H p xs)
    (hs : ∀ i x σ H, xs[i]? = some x → Pv i σ H → tb ⟨Pv (i + 1), rt, nx, Pv (i + 1)⟩ (σ.set j (some x)) H) (hd : ∀ σ H, Pv xs.length σ H → nx σ H) : qForL K (gName j) tb nx rt σ (.ref p) H :=
  ⟨p, rfl, ⟨xs, hl 0 σ H (Nat.zero_le _) h0⟩, for_list (D := ⟨nx, rt, fun _ _ => False, fun _ _ => False⟩) Pv h0 hl hs hd⟩
def qForR (g : TG) (tb : TS) (nx : L2.St → Hp → Prop) (rt : VK) (σ : L2.St) : List V → Hp → Prop := fun vs H1 => ∃ n : Int, vs = [.int n] ∧ -(2 ^ 62) ≤ n ∧ n < 2 ^ 62 ∧ qFor (ι := Unit) (Itr 0 n.toNat).go (Itr 0 n.toNat).stop (Itr 0 n.toNat).yld g tb nx rt σ H1
theorem s_forR {g : TG} {tb : TS} (h : ts σ H (qForR g tb nx rt σ)) : tFor (iRng1 ts) g tb ⟨nx, rt, bk, ct⟩ σ H := h
/-- for k in range(n) -/
theorem r_forR {tb : TS} (n : Nat) (Pv : Nat → L2.St → Hp → Prop) (hn : n ≤ 1000000000) (h0 : Pv 0 σ H)
    (hs : ∀ (i : Nat) σ H, i < n → Pv i σ H → tb ⟨Pv (i + 1), rt, nx, Pv (i + 1)⟩ (σ.set j (some (.int (i : Int)))) H) (hd : ∀ σ H, Pv n σ H → nx σ H) : qForR (gName j) tb nx rt σ [.int (n : Int)] H :=
  ⟨n, rfl, by omega, by omega, by
    have e : ((n : Int)).toNat = n := Int.toNat_natCast n
    rw [e]
    exact for_range (lo := 0) (D := ⟨nx, rt, fun _ _ => False, fun _ _ => False⟩) Pv h0 (fun i σ H hi p => by
      have q := hs i σ H hi p
      show tb ⟨Pv (i + 1), rt, nx, Pv (i + 1)⟩ (σ.set j (some (.int ((0 : Int) + (i : Int))))) H
      rw [Int.zero_add]
      exact q) hd⟩
def qForV (K : PySem.W.Frag) (g : TG) (tb : TS) (nx : L2.St → Hp → Prop) (rt : VK) (σ : L2.St) : List V → Hp → Prop := fun vs H1 => ∃ (a : Addr) (xs : List V), vs = [.ref a] ∧ SqL K H1 a xs ∧ qFor (ι := Unit) (Itv K a xs.length).go (Itv K a xs.length).stop (Itv K a xs.length).yld g tb nx rt σ H1
theorem s_forV {g : TG} {tb : TS} (h : ts σ H (qForV K g tb nx rt σ)) : tFor (iRev K ts) g tb ⟨nx, rt, bk, ct⟩ σ H := h
/-- for x in reversed(a list) -/
theorem r_forV {tb : TS} {xs : List V} (Pv : Nat → L2.St → Hp → Prop) (h0 : Pv 0 σ H) (hl : ∀ i σ H, i ≤ xs.length → Pv i σ H → SqL K H p xs)
    (hs : ∀ i x σ H, xs.reverse[i]? = some x → Pv i σ H → tb ⟨Pv (i + 1), rt, nx, Pv (i + 1)⟩ (σ.set j (some x)) H) (hd : ∀ σ H, Pv xs.length σ H → nx σ H) : qForV K (gName j) tb nx rt σ [.ref p] H := by
  have hq := hl 0 σ H (Nat.zero_le _) h0
  refine ⟨p, xs, rfl, hq, fun i m σ H => m = xs.length - i ∧ i ≤ xs.length ∧ Pv i σ H, ⟨xs.length, by simp, Nat.zero_le _, h0⟩, ?_⟩
  rintro i m σ H ⟨rfl, hi, q⟩
  have hq := hl i σ H hi q
  by_cases hlt : i < xs.length
  · have e : xs[xs.length - 1 - i]? = some (xs[xs.length - 1 - i]'(by omega)) := List.getElem?_eq_getElem (by omega)
    refine .inr ⟨⟨hlt, xs, _, hq, e⟩, Pv (i + 1), fun σ' H' p' => ⟨xs.length - (i + 1), by omega, rfl, hlt, p'⟩, fun x H' y => ?_⟩
    obtain ⟨eH, y⟩ := y
    subst eH
    refine hs i x σ _ ?_ q
    rw [List.getElem?_reverse hlt]
    exact y xs hq
  · have e : i = xs.length := by omega
    subst e
    exact .inl ⟨Nat.le_refl _, hd σ H q⟩
def qForS (g : TG) (tb : TS) (nx : L2.St → Hp → Prop) (rt : VK) (σ : L2.St) : VK := fun v H1 => ∃ x, v = .str x ∧ qFor (ι := Unit) (Its x).go (Its x).stop (Its x).yld g tb nx rt σ H1
theorem s_forS {g : TG} {tb : TS} (h : te σ H (qForS g tb nx rt σ)) : tFor (iStr te) g tb ⟨nx, rt, bk, ct⟩ σ H := h
/-- while -/
def qWhile (W : Nat → L2.St → Hp → Prop) (m : Nat) (tb : TS) (nx : L2.St → Hp → Prop) (rt : VK) (σ : L2.St) : Bool → Hp → Prop := fun b H1 =>
  if b = true then ∃ N : L2.St → Hp → Prop, (∀ σ' H', N σ' H' → ∃ m', m' < m ∧ W m' σ' H') ∧ tb ⟨N, rt, nx, N⟩ σ H1 else nx σ H1
/-- while: the invariant Pv (a number that falls, slots, heap) -/
theorem r_while {tb : TS} (Pv : Nat → L2.St → Hp → Prop) (m : Nat) (h0 : Pv m σ H) (hs : ∀ m σ H, Pv m σ H → tt σ H (qWhile Pv m tb nx rt σ)) : tWhile tt tb ⟨nx, rt, bk, ct⟩ σ H := ⟨Pv, ⟨m, h0⟩, hs⟩
theorem r_w {W : Nat → L2.St → Hp → Prop} {m : Nat} {tb : TS} {b : Bool} (h1 : b = true → tb ⟨fun σ' H' => ∃ m', m' < m ∧ W m' σ' H', rt, nx, fun σ' H' => ∃ m', m' < m ∧ W m' σ' H'⟩ σ H) (h2 : b = false → nx σ H) : qWhile W m tb nx rt σ b H := by
  cases b with
  | true => exact ⟨_, fun _ _ z => z, h1 rfl⟩
  | false => exact h2 rfl
/-! comprehensions -/
def qAcc (D : Addr) (Nx : Hp → Prop) : VK := fun y H4 => ∃ acc, H4 D = some (.lst acc) ∧ acc.length < sizeLine ∧ Nx (upd H4 D (.lst (acc ++ [y])))
def qLcT (te : TE) (σ : L2.St) (D : Addr) (Nx : Hp → Prop) : Bool → Hp → Prop := fun b H3 => if b = true then te σ H3 (qAcc D Nx) else Nx H3
theorem r_acc {acc : List V} {Nx : Hp → Prop} (hs : H d = some (.lst acc)) (hl : acc.length < sizeLine) (h : Nx (upd H d (.lst (acc ++ [y])))) : qAcc d Nx y H := ⟨acc, hs, hl, h⟩
theorem r_lcY {Nx : Hp → Prop} (h : te σ H (qAcc d Nx)) : qLcT te σ d Nx true H := yes rfl h
def qLc (go stop : Nat → Hp → Prop) (yld : Nat → Hp → V → Hp → Prop) (g : TG) (tt : TT) (te : TE) (vs : List Nat) (σ : L2.St) (Q : VK) (H1 : Hp) : Prop := ∀ D, H1 D = none → ∃ W : Nat → Nat → Hp → Prop, (∃ m, W 0 m (upd H1 D (.lst []))) ∧ ∀ i m H, W i m H →
  (stop i H ∧ Q (.ref D) H) ∨ (go i H ∧ ∃ Nx : Hp → Prop, (∀ H', Nx H' → ∃ m', m' < m ∧ W (i + 1) m' H') ∧ ∀ x H', yld i H x H' → g x (wipe σ vs) H' fun σ2 H2 => wipe σ2 vs = wipe σ vs ∧ tt σ2 H2 (qLcT te σ2 D Nx))
def qLcL (K : PySem.W.Frag) (g : TG) (tt : TT) (te : TE) (vs : List Nat) (σ : L2.St) (Q : VK) : VK := fun x H1 => ∃ a, x = .ref a ∧ (∃ xs, SqL K H1 a xs) ∧ qLc (Itl K a).go (Itl K a).stop (Itl K a).yld g tt te vs σ Q H1
theorem s_lcL {g : TG} {vs : List Nat} (h : tl σ H (qLcL K g tt te vs σ Q)) : tLc (iList K tl) g tt te vs σ H Q := h
theorem r_lcL {xs : List V} (Pv : Addr → Nat → Hp → Prop) (h0 : ∀ D, H D = none → Pv D 0 (upd H D (.lst []))) (hx : SqL K H p xs) (hl : ∀ D i H, i ≤ xs.length → Pv D i H → SqL K H p xs)
    (hs : ∀ D i x H, xs[i]? = some x → Pv D i H → tt ((σ.set j none).set j (some x)) H (qLcT te ((σ.set j none).set j (some x)) D (Pv D (i + 1)))) (hd : ∀ D H, Pv D xs.length H → Q (.ref D) H) : qLcL K (gName j) tt te [j] σ Q (.ref p) H :=
  ⟨p, rfl, ⟨xs, hx⟩, fun D nD => lc_list (K := K) (Pv D) (h0 D nD) (hl D) (fun i x H hi q => ⟨by
    show (((σ.set j none).set j (some x)).set j none) = σ.set j none
    rw [List.set_set, List.set_set], hs D i x H hi q⟩) (hd D)⟩
def qLcR (g : TG) (tt : TT) (te : TE) (vs : List Nat) (σ : L2.St) (Q : VK) : List V → Hp → Prop := fun ws H1 => ∃ n : Int, ws = [.int n] ∧ -(2 ^ 62) ≤ n ∧ n < 2 ^ 62 ∧ qLc (Itr 0 n.toNat).go (Itr 0 n.toNat).stop (Itr 0 n.toNat).yld g tt te vs σ Q H1
theorem s_lcR {g : TG} {vs : List Nat} (h : ts σ H (qLcR g tt te vs σ Q)) : tLc (iRng1 ts) g tt te vs σ H Q := h
theorem r_lcR (n : Nat) (Pv : Addr → Nat → Hp → Prop) (hn : n ≤ 1000000000) (h0 : ∀ D, H D = none → Pv D 0 (upd H D (.lst [])))
    (hs : ∀ D (i : Nat) H, i < n → Pv D i H → tt ((σ.set j none).set j (some (.int i))) H (qLcT te ((σ.set j none).set j (some (.int i))) D (Pv D (i + 1)))) (hd : ∀ D H, Pv D n H → Q (.ref D) H) : qLcR (gName j) tt te [j] σ Q [.int (n : Int)] H :=
  ⟨n, rfl, by omega, by omega, by
    have e : ((n : Int)).toNat = n := Int.toNat_natCast n
    rw [e]
    intro D nD
    refine ⟨fun i m H => m = n - i ∧ i ≤ n ∧ Pv D i H, ⟨n, by simp, Nat.zero_le _, h0 D nD⟩, ?_⟩
    rintro i m H ⟨rfl, hi, q⟩
    by_cases hlt : i < n
    · refine .inr ⟨hlt, Pv D (i + 1), fun H' p' => ⟨n - (i + 1), by omega, rfl, hlt, p'⟩, fun x H' y => ?_⟩
      obtain ⟨eH, y⟩ := y
      subst eH
      have ex : x = .int (i : Int) := by rw [y]; simp
      subst ex
      exact ⟨by
        show (((σ.set j none).set j (some _)).set j none) = σ.set j none
        rw [List.set_set, List.set_set], hs D i _ hlt q⟩
    · have e : i = n := by omega
      subst e
      exact .inl ⟨Nat.le_refl _, hd D H q⟩⟩
end
/-! heaps -/
/-- p is new to H -/
def Fresh (H : Hp) (p : Addr) : Prop := H p = none
theorem keep {H : Hp} {p q : Addr} {o o' : HO} (hq : H q = some o') (hp : H p = none) : upd H p o q = some o' := by
  rw [upd_ne (ne_of_none hq hp)]
  exact hq
theorem keep_ne {H : Hp} {p q : Addr} {o o' : HO} (hq : H q = some o') (hp : q ≠ p) : upd H p o q = some o' := by
  rw [upd_ne hp]
  exact hq
theorem Same.new {H0 H : Hp} {p : Addr} {o : HO} (s : Same H0 H) (hp : H p = none) : Same H0 (upd H p o) := fun b u e => keep (s b u e) hp
theorem Same.mut {H0 H : Hp} {p : Addr} {o : HO} (s : Same H0 H) (hp : H0 p = none) : Same H0 (upd H p o) := fun b u e => keep_ne (s b u e) (ne_of_none e hp)
theorem new_free {H : Hp} {p q : Addr} {o : HO} (h : upd H p o q = none) : H q = none ∧ q ≠ p := by
  by_cases e : q = p
  · subst e; rw [upd_same] at h; cases h
  · rw [upd_ne e] at h; exact ⟨h, e⟩
theorem sql_keep {K : PySem.W.Frag} {H : Hp} {p a : Addr} {o : HO} {xs : List V} (h : SqL K H a xs) (hp : H p = none) : SqL K (upd H p o) a xs := (Same.new (Same.refl H) hp).seq h
theorem Same.sqt {K : PySem.W.Frag} {H H' : Hp} {a : Addr} {xs : List V} (e : Same H H') (h : SqT K H a xs) : SqT K H' a xs := by
  rcases h with (h | ⟨o, h⟩) | h
  · exact .inl (.inl (e _ _ h))
  · exact .inl (.inr ⟨o, e _ _ h⟩)
  · exact .inr h
theorem sqt_keep {K : PySem.W.Frag} {H : Hp} {p a : Addr} {o : HO} {xs : List V} (h : SqT K H a xs) (hp : H p = none) : SqT K (upd H p o) a xs := Same.sqt (Same.new (Same.refl H) hp) h
theorem le_line {n : Nat} (h : n ≤ 1000000) : n ≤ sizeLine := Nat.le_trans h (by decide)
theorem lt_line {n : Nat} (h : n ≤ 1000000) : n < sizeLine := Nat.lt_of_le_of_lt h (by decide)
theorem cxK {CX : CXT} {P : Program} {w : World} {K : PySem.W.Frag} {mg : Str → Option Value} {base : Heap} {N : List Str} {qual : Str} {scope : Scope} {f : Addr} {cd : Value} {A : Around} {outer : List Env} {s : Shared} {H : Hp} {E : XK} : (cxOf CX P w K mg base N qual scope f cd A outer s H E).K = K := rfl
end Tm
namespace Tm
open PySem PySem.Spec PyProof.Rows L2
/-- a step without a question: q is left of p -/
class Step (p : Prop) (q : outParam Prop) : Prop where
  imp : q → p
section
variable {K : PySem.W.Frag} {σ : L2.St} {H : Hp} {Q : VK} {B : Bool → Hp → Prop} {R : List V → Hp → Prop} {v x y z : V} {ta tb te td ty tx tl : TE} {ts : TA} {tt tu : TT} {t1 t2 : TS} {i j n : Nat} {nx bk ct : L2.St → Hp → Prop} {rt : VK} {r : R2} {p q d : Addr} {f : Str} {E : XK} {vs : List V}
instance : Step (tC v σ H Q) (Q v H) := ⟨s_C⟩
instance : Step (tOp r ta tb σ H Q) (ta σ H fun x H1 => tb σ H1 fun y H2 => r x y H2 Q) := ⟨s_op⟩
instance {u : V → Hp → VK → Prop} : Step (tUn u ta σ H Q) (ta σ H fun x H1 => u x H1 Q) := ⟨s_un⟩
instance : Step (tTest te σ H B) (te σ H (qB B)) := ⟨s_test⟩
instance : Step (tB te σ H B) (te σ H (qB B)) := ⟨s_tB⟩
instance {b : Bool} : Step (qB B (.bl b) H) (B b H) := ⟨r_qB⟩
instance : Step (tNot tt σ H B) (tt σ H fun c H1 => B (!c) H1) := ⟨s_not⟩
instance : Step (tAnd tt tu σ H B) (tt σ H fun c H1 => if c = true then tu σ H1 B else B false H1) := ⟨s_and⟩
instance : Step (tOr tt tu σ H B) (tt σ H fun c H1 => if c = true then B true H1 else tu σ H1 B) := ⟨s_or⟩
instance : Step (tNotV ta σ H Q) (ta σ H (qB fun c H1 => Q (.bl (!c)) H1)) := ⟨s_notV⟩
instance : Step (tNil σ H R) (R [] H) := ⟨s_nil⟩
instance : Step (tCons te ts σ H R) (te σ H fun x H1 => ts σ H1 fun xs H2 => R (x :: xs) H2) := ⟨s_cons⟩
instance : Step (tTup ts σ H Q) (ts σ H (qNew .tup Q)) := ⟨s_tup⟩
instance : Step (tLst ts σ H Q) (ts σ H (qNew .lst Q)) := ⟨s_lst⟩
instance {sp : Sp} : Step (tCall sp [] E ts σ H Q) (ts σ H fun vs H1 => sp vs H1 Q E) := ⟨s_call⟩
instance {sp : Sp} {E : L2.St → XK} : Step (tCallS sp E ts σ H Q) (ts σ H fun vs H1 => sp vs H1 Q (E σ)) := ⟨s_callS⟩
instance {c : List V → Hp → VK → Prop} : Step (tCB c ts σ H Q) (ts σ H fun vs H1 => c vs H1 Q) := ⟨s_CB⟩
instance {O : Option Int → Hp → Prop} : Step (tNoPart σ H O) (O none H) := ⟨s_noPart⟩
instance {O : Option Int → Hp → Prop} {i : Int} : Step (qPart O (.int i) H) (O (some i) H) := ⟨r_part⟩
instance {O : Option Int → Hp → Prop} : Step (tPart te σ H O) (te σ H (qPart O)) := ⟨s_part⟩
instance {c : V → Option Int → Option Int → Hp → VK → Prop} {a b : TO} : Step (tSl c te a b σ H Q) (te σ H fun x H1 => a σ H1 fun l H2 => b σ H2 fun u H3 => c x l u H3 Q) := ⟨s_sl⟩
instance : Step (tYes σ H B) (B true H) := ⟨s_yes⟩
instance : Step (tSeq t1 t2 ⟨nx, rt, bk, ct⟩ σ H) (t1 ⟨t2 ⟨nx, rt, bk, ct⟩, rt, bk, ct⟩ σ H) := ⟨s_seq⟩
instance : Step (tNext ⟨nx, rt, bk, ct⟩ σ H) (nx σ H) := ⟨s_next⟩
instance {g : TG} : Step (tAsg te g ⟨nx, rt, bk, ct⟩ σ H) (te σ H fun x H1 => g x σ H1 nx) := ⟨s_asg⟩
instance {N : L2.St → Hp → Prop} : Step (gName i v σ H N) (N (σ.set i (some v)) H) := ⟨s_gName⟩
instance : Step (tDrop te ⟨nx, rt, bk, ct⟩ σ H) (te σ H fun _ H1 => nx σ H1) := ⟨s_drop⟩
instance : Step (tRet te ⟨nx, rt, bk, ct⟩ σ H) (te σ H rt) := ⟨s_ret⟩
instance : Step (tIfS tt t1 t2 ⟨nx, rt, bk, ct⟩ σ H) (tt σ H fun b H1 => if b = true then t1 ⟨nx, rt, bk, ct⟩ σ H1 else t2 ⟨nx, rt, bk, ct⟩ σ H1) := ⟨s_ifS⟩
instance {g : Int → Int → V} {i j : Int} : Step (rI0 g (.int i) (.int j) H Q) (Q (g i j) H) := ⟨r_I0⟩
instance {g : Int → V} {i : Int} : Step (rU g (.int i) H Q) (Q (g i) H) := ⟨r_U⟩
instance {i j : Int} : Step (rEq (.int i) (.int j) H Q) (Q (.bl (decide (i = j))) H) := ⟨r_eqI⟩
instance {i j : Int} : Step (rNe (.int i) (.int j) H Q) (Q (.bl (!decide (i = j))) H) := ⟨r_neI⟩
instance {i j : Bool} : Step (rEq (.bl i) (.bl j) H Q) (Q (.bl (decide (i = j))) H) := ⟨r_eqB⟩
instance {i j : Bool} : Step (rNe (.bl i) (.bl j) H Q) (Q (.bl (!decide (i = j))) H) := ⟨r_neB⟩
instance {i j : Str} : Step (rEq (.str i) (.str j) H Q) (Q (.bl (decide (i = j))) H) := ⟨r_eqS⟩
instance {i j : Str} : Step (rNe (.str i) (.str j) H Q) (Q (.bl (!decide (i = j))) H) := ⟨r_neS⟩
instance {i j : Int} : Step (rMaxQ [.int i, .int j] H Q) (Q (.int (max i j)) H) := ⟨r_max⟩
instance {i j : Int} : Step (rMinQ [.int i, .int j] H Q) (Q (.int (min i j)) H) := ⟨r_min⟩
instance {b : Bool} : Step (rIntQ [.bl b] H Q) (Q (.int (if b then 1 else 0)) H) := ⟨r_int⟩
instance {T : String} {m : V → List V → Hp → VK → Prop} : Step (tBM K T m te ts σ H Q) (te σ H (qTy K T m ts σ Q)) := ⟨s_BM⟩
instance : Step (tFld K te f σ H Q) (te σ H (qFld K f Q)) := ⟨s_fld⟩
instance : Step (sFld K ta te f ⟨nx, rt, bk, ct⟩ σ H) (te σ H fun y H1 => ta σ H1 (qSFld K f nx σ y)) := ⟨s_sFld⟩
instance {C : Addr} {m : Str} {sp : Sp} : Step (tMeth C m sp [] E te ts σ H Q) (te σ H (qMeth C m sp E ts σ Q)) := ⟨s_meth⟩
instance {C : Addr} {sp : Sp} : Step (tMake C sp [] E ts σ H Q) (ts σ H fun vs H1 => ∀ x dx, H1 x = none → H1 dx = none → dx ≠ x → sp (.ref x :: vs) (upd (upd H1 dx (.own x)) x (.ins C dx [])) (fun v H2 => v = .non ∧ Q (.ref x) H2) E) := ⟨s_make⟩
instance : Step (tDGet td ty σ H Q) (td σ H fun x H1 => ty σ H1 fun y H2 => qDGet Q y x H2) := ⟨s_dGet⟩
instance : Step (tDIn ty td σ H Q) (ty σ H fun y H1 => td σ H1 fun x H2 => qDIn Q y x H2) := ⟨s_dIn⟩
instance : Step (tDNotIn ty td σ H Q) (ty σ H fun y H1 => td σ H1 fun x H2 => qDNotIn Q y x H2) := ⟨s_dNotIn⟩
instance : Step (sDPut td ty te ⟨nx, rt, bk, ct⟩ σ H) (te σ H fun v H1 => td σ H1 fun x H2 => ty σ H2 fun y H3 => qDPut nx σ v y x H3) := ⟨s_dPut⟩
instance {g : TG} {tb : TS} : Step (tFor (iList K tl) g tb ⟨nx, rt, bk, ct⟩ σ H) (tl σ H (qForL K g tb nx rt σ)) := ⟨s_forL⟩
instance {g : TG} {tb : TS} : Step (tFor (iRng1 ts) g tb ⟨nx, rt, bk, ct⟩ σ H) (ts σ H (qForR g tb nx rt σ)) := ⟨s_forR⟩
instance {g : TG} {tb : TS} : Step (tFor (iRev K ts) g tb ⟨nx, rt, bk, ct⟩ σ H) (ts σ H (qForV K g tb nx rt σ)) := ⟨s_forV⟩
instance {g : TG} {tb : TS} : Step (tFor (iStr te) g tb ⟨nx, rt, bk, ct⟩ σ H) (te σ H (qForS g tb nx rt σ)) := ⟨s_forS⟩
instance {g : TG} {vs : List Nat} : Step (tLc (iList K tl) g tt te vs σ H Q) (tl σ H (qLcL K g tt te vs σ Q)) := ⟨s_lcL⟩
instance {g : TG} {vs : List Nat} : Step (tLc (iRng1 ts) g tt te vs σ H Q) (ts σ H (qLcR g tt te vs σ Q)) := ⟨s_lcR⟩
instance {Nx : Hp → Prop} : Step (qLcT te σ d Nx true H) (te σ H (qAcc d Nx)) := ⟨r_lcY⟩
instance {A C : Prop} : Step (if true = true then A else C) A := ⟨iteT⟩
instance {A C : Prop} : Step (if false = true then A else C) C := ⟨iteF⟩
instance {A C : Prop} : Step (if (!true) = true then A else C) C := ⟨fun h => h⟩
instance {A C : Prop} : Step (if (!false) = true then A else C) A := ⟨fun h => h⟩
instance {x : Int} : Step (rIsi K [.int x, .ty "int"] H Q) (Q (.bl true) H) := ⟨isi_int_int⟩
instance {x : Int} : Step (rIsi K [.int x, .ty "bool"] H Q) (Q (.bl false) H) := ⟨isi_int_bool⟩
instance {x : Int} : Step (rIsi K [.int x, .ty "str"] H Q) (Q (.bl false) H) := ⟨isi_int_str⟩
instance {x : Int} : Step (rIsi K [.int x, .ty "list"] H Q) (Q (.bl false) H) := ⟨isi_int_list⟩
instance {x : Int} : Step (rIsi K [.int x, .ty "tuple"] H Q) (Q (.bl false) H) := ⟨isi_int_tuple⟩
instance {x : Int} : Step (rIsi K [.int x, .ty "dict"] H Q) (Q (.bl false) H) := ⟨isi_int_dict⟩
instance {x : Bool} : Step (rIsi K [.bl x, .ty "int"] H Q) (Q (.bl true) H) := ⟨isi_bool_int⟩
instance {x : Bool} : Step (rIsi K [.bl x, .ty "bool"] H Q) (Q (.bl true) H) := ⟨isi_bool_bool⟩
instance {x : Bool} : Step (rIsi K [.bl x, .ty "str"] H Q) (Q (.bl false) H) := ⟨isi_bool_str⟩
instance {x : Bool} : Step (rIsi K [.bl x, .ty "list"] H Q) (Q (.bl false) H) := ⟨isi_bool_list⟩
instance {x : Bool} : Step (rIsi K [.bl x, .ty "tuple"] H Q) (Q (.bl false) H) := ⟨isi_bool_tuple⟩
instance {x : Bool} : Step (rIsi K [.bl x, .ty "dict"] H Q) (Q (.bl false) H) := ⟨isi_bool_dict⟩
instance {x : Str} : Step (rIsi K [.str x, .ty "int"] H Q) (Q (.bl false) H) := ⟨isi_str_int⟩
instance {x : Str} : Step (rIsi K [.str x, .ty "bool"] H Q) (Q (.bl false) H) := ⟨isi_str_bool⟩
instance {x : Str} : Step (rIsi K [.str x, .ty "str"] H Q) (Q (.bl true) H) := ⟨isi_str_str⟩
instance {x : Str} : Step (rIsi K [.str x, .ty "list"] H Q) (Q (.bl false) H) := ⟨isi_str_list⟩
instance {x : Str} : Step (rIsi K [.str x, .ty "tuple"] H Q) (Q (.bl false) H) := ⟨isi_str_tuple⟩
instance {x : Str} : Step (rIsi K [.str x, .ty "dict"] H Q) (Q (.bl false) H) := ⟨isi_str_dict⟩
instance : Step (rIsi K [.non, .ty "int"] H Q) (Q (.bl false) H) := ⟨isi_NoneType_int⟩
instance : Step (rIsi K [.non, .ty "bool"] H Q) (Q (.bl false) H) := ⟨isi_NoneType_bool⟩
instance : Step (rIsi K [.non, .ty "str"] H Q) (Q (.bl false) H) := ⟨isi_NoneType_str⟩
instance : Step (rIsi K [.non, .ty "list"] H Q) (Q (.bl false) H) := ⟨isi_NoneType_list⟩
instance : Step (rIsi K [.non, .ty "tuple"] H Q) (Q (.bl false) H) := ⟨isi_NoneType_tuple⟩
instance : Step (rIsi K [.non, .ty "dict"] H Q) (Q (.bl false) H) := ⟨isi_NoneType_dict⟩
end
end Tm
namespace Tm
open PySem PySem.Spec PyProof.Rows L2
/-! trees: pairs of a folder and that under which it stands -/
abbrev Tr := List (Int × Int)
def enc (t : Tr) : List (Key × V) := t.map fun p => (Sum.inl p.1, .int p.2)
def lk (t : Tr) (k : Int) : Option Int := (t.find? fun p => decide (p.1 = k)).map (·.2)
def pt (t : Tr) (k v : Int) : Tr := if (lk t k).isSome = true then t.map (fun p => if p.1 = k then (p.1, v) else p) else t ++ [(k, v)]
def Nd (t : Tr) : Prop := (t.map (·.1)).Nodup
theorem key_inj {a b : Int} : ((Sum.inl a : Key) = Sum.inl b) ↔ a = b := ⟨fun e => Sum.inl.inj e, fun e => congrArg _ e⟩
theorem enc_length (t : Tr) : (enc t).length = t.length := by simp [enc]
theorem valV_enc (t : Tr) (k : Int) : valV (enc t) (Sum.inl k) = (lk t k).map V.int := by
  induction t with
  | nil => rfl
  | cons p r ih =>
    by_cases e : p.1 = k
    · rw [show enc (p :: r) = (Sum.inl p.1, V.int p.2) :: enc r from rfl, valV_pos (by rw [e])]
      simp [lk, e]
    · rw [show enc (p :: r) = (Sum.inl p.1, V.int p.2) :: enc r from rfl, valV_neg (fun z => e (key_inj.mp z)), ih]
      simp [lk, e]
theorem putK_enc (t : Tr) (k v : Int) : putK (enc t) (Sum.inl k) (.int v) = enc (pt t k v) := by
  unfold putK pt
  rw [valV_any, valV_enc]
  cases e : lk t k with
  | none => simp [enc]
  | some u =>
    simp only [Option.map_some, Option.isSome_some, if_true]
    simp only [enc, List.map_map]
    apply List.map_congr_left
    intro p _
    by_cases c : p.1 = k <;> simp [c]
theorem lk_pt (t : Tr) (k v j : Int) : lk (pt t k v) j = if j = k then some v else lk t j := by
  have h := valV_put (enc t) (Sum.inl k) (Sum.inl j) (.int v)
  rw [putK_enc, valV_enc, valV_enc] at h
  by_cases e : j = k
  · subst e
    rw [if_pos rfl] at h ⊢
    cases q : lk (pt t j v) j with
    | none => rw [q] at h; cases h
    | some u => rw [q] at h; simpa using h
  · rw [if_neg (fun z => e (key_inj.mp z))] at h
    rw [if_neg e]
    cases q : lk (pt t k v) j <;> cases q2 : lk t j <;> rw [q, q2] at h <;> simp_all
theorem lk_mem {t : Tr} {k v : Int} (h : lk t k = some v) : (k, v) ∈ t := by
  unfold lk at h
  cases q : t.find? fun p => decide (p.1 = k) with
  | none => rw [q] at h; cases h
  | some p =>
    rw [q] at h
    have e1 := List.find?_some q
    have e2 := List.mem_of_find?_eq_some q
    simp at e1 h
    subst e1 h
    exact e2
theorem lk_key {t : Tr} {k : Int} : (lk t k).isSome = true ↔ k ∈ t.map (·.1) := by
  unfold lk
  simp [List.find?_isSome]
theorem lk_of_mem {t : Tr} (hn : Nd t) {k v : Int} (h : (k, v) ∈ t) : lk t k = some v := by
  induction t with
  | nil => cases h
  | cons p r ih =>
    have hn' : p.1 ∉ r.map (·.1) ∧ Nd r := by
      have := hn
      unfold Nd at this
      rw [List.map_cons, List.nodup_cons] at this
      exact this
    rcases List.mem_cons.mp h with e | h
    · subst e
      simp [lk]
    · have ne : ¬ p.1 = k := fun e => hn'.1 (e ▸ List.mem_map.mpr ⟨(k, v), h, rfl⟩)
      have := ih hn'.2 h
      unfold lk at this ⊢
      simpa [List.find?_cons, ne] using this
theorem pt_keys (t : Tr) (k v : Int) : (pt t k v).map (·.1) = if (lk t k).isSome = true then t.map (·.1) else t.map (·.1) ++ [k] := by
  unfold pt
  by_cases e : (lk t k).isSome = true
  · rw [if_pos e, if_pos e, List.map_map]
    apply List.map_congr_left
    intro p _
    by_cases c : p.1 = k <;> simp [c]
  · rw [if_neg e, if_neg e, List.map_append]
    rfl
theorem Nd.pt {t : Tr} (h : Nd t) (k v : Int) : Nd (pt t k v) := by
  unfold Nd
  rw [pt_keys]
  split
  · exact h
  · rename_i e
    rw [List.nodup_append]
    refine ⟨h, by simp, ?_⟩
    intro a ha b hb
    simp at hb
    subst hb
    intro z
    subst z
    exact e (lk_key.mpr ha)
theorem pt_length (t : Tr) (k v : Int) : (pt t k v).length ≤ t.length + 1 := by
  have := congrArg List.length (pt_keys t k v)
  rw [List.length_map] at this
  rw [this]
  split <;> simp
/-- the way up -/
inductive Path (t : Tr) : Int → List Int → Prop where
  | top {f : Int} (h : lk t f = none) : Path t f [f]
  | step {f u : Int} {l : List Int} (h : lk t f = some u) (p : Path t u l) : Path t f (f :: l)
theorem Path.uniq {t : Tr} {f : Int} {l l' : List Int} (p : Path t f l) (p' : Path t f l') : l = l' := by
  induction p generalizing l' with
  | top h =>
    cases p' with
    | top _ => rfl
    | step h' _ => rw [h] at h'; cases h'
  | step h _ ih =>
    cases p' with
    | top h' => rw [h] at h'; cases h'
    | step h' q =>
      rw [h] at h'
      cases h'
      rw [ih q]
theorem Path.head {t : Tr} {f : Int} {l : List Int} (p : Path t f l) : ∃ r, l = f :: r := by
  cases p with
  | top _ => exact ⟨[], rfl⟩
  | step _ _ => exact ⟨_, rfl⟩
theorem Path.at {t : Tr} {f : Int} {l : List Int} (p : Path t f l) {x : Int} (hx : x ∈ l) : ∃ l2, Path t x l2 ∧ l2.length ≤ l.length ∧ (x ∈ l.tail → l2.length < l.length) ∧ ∀ y ∈ l2, y ∈ l := by
  induction p with
  | @top f h =>
    simp at hx
    subst hx
    exact ⟨_, .top h, Nat.le_refl _, fun z => by simp at z, fun _ z => z⟩
  | @step f u l h p ih =>
    by_cases e : x ∈ l
    · obtain ⟨l2, q, h1, _, h3⟩ := ih e
      exact ⟨l2, q, by simp; omega, fun _ => by simp; omega, fun y hy => List.mem_cons_of_mem _ (h3 y hy)⟩
    · rcases List.mem_cons.mp hx with rfl | hx
      · exact ⟨_, .step h p, Nat.le_refl _, fun z => (e z).elim, fun _ z => z⟩
      · exact (e hx).elim
theorem Path.nodup {t : Tr} {f : Int} {l : List Int} (p : Path t f l) : l.Nodup := by
  induction p with
  | top _ => simp
  | @step f u l h p ih =>
    refine List.nodup_cons.mpr ⟨fun hm => ?_, ih⟩
    have q := Path.step h p
    obtain ⟨l2, q2, _, h2, _⟩ := q.at (x := f) (List.mem_cons_of_mem _ hm)
    have e := q2.uniq q
    have := h2 hm
    rw [e] at this
    exact Nat.lt_irrefl _ this
theorem Path.keys {t : Tr} {f : Int} {l : List Int} (p : Path t f l) : ∀ x ∈ l.dropLast, x ∈ t.map (·.1) := by
  induction p with
  | top _ => simp
  | @step f u l h p ih =>
    obtain ⟨r, e⟩ := p.head
    subst e
    intro x hx
    rw [List.dropLast_cons₂] at hx
    rcases List.mem_cons.mp hx with rfl | hx
    · exact lk_key.mp (by rw [h]; rfl)
    · exact ih x hx
theorem le_of_subset {l m : List Int} (hn : l.Nodup) (hs : ∀ x ∈ l, x ∈ m) : l.length ≤ m.length := by
  induction l generalizing m with
  | nil => simp
  | cons a l ih =>
    have ha := hs a List.mem_cons_self
    obtain ⟨h1, h2⟩ := List.nodup_cons.mp hn
    have := ih (m := m.erase a) h2 fun x hx => (List.mem_erase_of_ne (by intro e; subst e; exact h1 hx)).mpr (hs x (List.mem_cons_of_mem _ hx))
    rw [List.length_erase_of_mem ha] at this
    have hp : 0 < m.length := List.length_pos_of_mem ha
    simp
    omega
theorem Path.length {t : Tr} {f : Int} {l : List Int} (p : Path t f l) : l.length ≤ t.length + 1 := by
  have h := le_of_subset (l := l.dropLast) (m := t.map (·.1)) (p.nodup.sublist (List.dropLast_sublist l)) p.keys
  rw [List.length_dropLast, List.length_map] at h
  omega
/-- no ring -/
def Acyc (t : Tr) : Prop := ∀ f, ∃ l, Path t f l
theorem Acyc.nil : Acyc [] := fun f => ⟨[f], .top rfl⟩
noncomputable def way (t : Tr) (f : Int) : List Int := by
  classical
  exact if h : ∃ l, Path t f l then Classical.choose h else [f]
theorem Path.way {t : Tr} {f : Int} {l : List Int} (p : Path t f l) : way t f = l := by
  have h : ∃ l, Path t f l := ⟨l, p⟩
  unfold Tm.way
  rw [dif_pos h]
  exact (Classical.choose_spec h).uniq p
theorem Acyc.path {t : Tr} (h : Acyc t) (f : Int) : Path t f (way t f) := by
  obtain ⟨l, p⟩ := h f
  rw [p.way]
  exact p
theorem Path.put {t : Tr} {f u : Int} {x : Int} {l : List Int} (p : Path t x l) (h : f ∉ l) : Path (pt t f u) x l := by
  induction p with
  | @top g hg =>
    have ne : ¬ g = f := fun e => h (by simp [e])
    exact .top (by rw [lk_pt, if_neg ne]; exact hg)
  | @step g v l hg p ih =>
    have ne : ¬ g = f := fun e => h (by simp [e])
    exact .step (u := v) (by rw [lk_pt, if_neg ne]; exact hg) (ih fun hm => h (List.mem_cons_of_mem _ hm))
theorem Acyc.put {t : Tr} (h : Acyc t) {f u : Int} (hu : f ∉ way t u) : Acyc (pt t f u) := by
  intro x
  have p := h.path x
  have pu : Path (pt t f u) u (way t u) := (h.path u).put hu
  generalize way t x = l at p
  induction p with
  | @top g hg =>
    by_cases e : g = f
    · subst e
      exact ⟨_, .step (by rw [lk_pt, if_pos rfl]) pu⟩
    · exact ⟨_, .top (by rw [lk_pt, if_neg e]; exact hg)⟩
  | @step g v l hg p ih =>
    by_cases e : g = f
    · subst e
      exact ⟨_, .step (by rw [lk_pt, if_pos rfl]) pu⟩
    · obtain ⟨l', q⟩ := ih
      exact ⟨_, .step (u := v) (by rw [lk_pt, if_neg e]; exact hg) q⟩
theorem way_length {t : Tr} (h : Acyc t) (f : Int) : (way t f).length ≤ t.length + 1 := (h.path f).length
theorem way_head {t : Tr} (h : Acyc t) (f : Int) : ∃ r, way t f = f :: r := (h.path f).head
/-- the tree behind putting -/
noncomputable def putT (t : Tr) (f u : Int) : Tr := if f ∈ way t u then t else pt t f u
theorem Acyc.putT {t : Tr} (h : Acyc t) (f u : Int) : Acyc (putT t f u) := by
  unfold Tm.putT
  split
  · exact h
  · rename_i e
    exact h.put e
theorem Nd.putT {t : Tr} (h : Nd t) (f u : Int) : Nd (putT t f u) := by
  unfold Tm.putT
  split
  · exact h
  · exact h.pt f u
theorem putT_length (t : Tr) (f u : Int) : (putT t f u).length ≤ t.length + 1 := by
  unfold putT
  split
  · omega
  · exact pt_length t f u
/-- two trees with the same content -/
def SameT (t t' : Tr) : Prop := ∀ k, lk t k = lk t' k
theorem flat_ints (l : List Int) : (l.map V.int).all flatV = true := by simp [flatV]
theorem inV_ints (x : Int) (l : List Int) : inV (.int x) (l.map V.int) = decide (x ∈ l) := by
  unfold inV
  rw [List.any_map]
  have e : ((fun y => eqV y (V.int x)) ∘ V.int) = fun y => decide (y = x) := by
    funext y
    show (y == x) = decide (y = x)
    by_cases c : y = x <;> simp [c]
  rw [e]
  by_cases c : x ∈ l
  · rw [decide_eq_true c]
    exact List.any_eq_true.mpr ⟨x, c, by simp⟩
  · rw [decide_eq_false c]
    refine List.any_eq_false.mpr fun y hy => ?_
    simp
    intro e
    exact c (e ▸ hy)
end Tm
namespace Tm
open PySem PySem.Spec PyProof.Rows L2
/-- a def that tells the way up: a new list -/
def spWay : Sp := fun vs H Q _ => ∃ (d : Addr) (t : Tr) (f : Int), vs = [.ref d, .int f] ∧ H d = some (.dK (enc t)) ∧ Acyc t ∧ t.length ≤ 100000 ∧ ∀ p, H p = none → Q (.ref p) (upd H p (.lst ((way t f).map V.int)))
def spBelow : Sp := fun vs H Q _ => ∃ (d : Addr) (t : Tr) (f o : Int), vs = [.ref d, .int f, .int o] ∧ H d = some (.dK (enc t)) ∧ Acyc t ∧ t.length ≤ 100000 ∧ ∀ H', Same H H' → Q (.bl (decide (o ∈ (way t f).tail))) H'
theorem c_way {H : Hp} {d : Addr} {t : Tr} {f : Int} {Q : VK} {E : XK} (hd : H d = some (.dK (enc t))) (hA : Acyc t) (hl : t.length ≤ 100000) (h : ∀ p, H p = none → Q (.ref p) (upd H p (.lst ((way t f).map V.int)))) : spWay [.ref d, .int f] H Q E := ⟨d, t, f, rfl, hd, hA, hl, h⟩
theorem c_below {H : Hp} {d : Addr} {t : Tr} {f o : Int} {Q : VK} {E : XK} (hd : H d = some (.dK (enc t))) (hA : Acyc t) (hl : t.length ≤ 100000) (h : ∀ H', Same H H' → Q (.bl (decide (o ∈ (way t f).tail))) H') : spBelow [.ref d, .int f, .int o] H Q E := ⟨d, t, f, o, rfl, hd, hA, hl, h⟩
theorem cut1 (xs : List V) : cutV xs (some 1) none = xs.tail := by
  unfold cutV
  rw [show HT.sIx xs.length 0 (some 1) = min 1 xs.length from HT.sIx_nat xs.length 0 1, HT.sIx_none]
  cases xs with
  | nil => rfl
  | cons x r =>
    have e : min 1 (x :: r).length = 1 := by simp
    rw [e]
    simp
def spCloses : Sp := fun vs H Q _ => ∃ (d : Addr) (t : Tr) (f u : Int), vs = [.ref d, .int f, .int u] ∧ H d = some (.dK (enc t)) ∧ Acyc t ∧ t.length ≤ 100000 ∧ ∀ H', Same H H' → Q (.bl (decide (f ∈ way t u))) H'
def spPut : Sp := fun vs H Q _ => ∃ (d : Addr) (t : Tr) (f u : Int), vs = [.ref d, .int f, .int u] ∧ H d = some (.dK (enc t)) ∧ Acyc t ∧ t.length ≤ 100000 ∧ ∀ p H', H p = none → Same H H' → H' p = some (.dK (enc (putT t f u))) → Q (.ref p) H'
theorem c_closes {H : Hp} {d : Addr} {t : Tr} {f u : Int} {Q : VK} {E : XK} (hd : H d = some (.dK (enc t))) (hA : Acyc t) (hl : t.length ≤ 100000) (h : ∀ H', Same H H' → Q (.bl (decide (f ∈ way t u))) H') : spCloses [.ref d, .int f, .int u] H Q E := ⟨d, t, f, u, rfl, hd, hA, hl, h⟩
theorem c_put {H : Hp} {d : Addr} {t : Tr} {f u : Int} {Q : VK} {E : XK} (hd : H d = some (.dK (enc t))) (hA : Acyc t) (hl : t.length ≤ 100000) (h : ∀ p H', H p = none → Same H H' → H' p = some (.dK (enc (putT t f u))) → Q (.ref p) H') : spPut [.ref d, .int f, .int u] H Q E := ⟨d, t, f, u, rfl, hd, hA, hl, h⟩
theorem putT_ring {t : Tr} {f u : Int} (h : f ∈ way t u) : putT t f u = t := if_pos h
theorem putT_put {t : Tr} {f u : Int} (h : ¬ f ∈ way t u) : putT t f u = pt t f u := if_neg h
theorem SameT.refl (t : Tr) : SameT t t := fun _ => rfl
end Tm
namespace Tm
open PySem PySem.Spec PyProof.Rows L2
/-! the laws' names of folders, and their tree -/
def some6 (i : Int) : Int := if i = 0 then 1 else if i = 1 then 1000000000 else if i = 2 then 100000000000000000000 else if i = 3 then 1000000000000000000000000000000000 else if i = 4 then 100000000000000000000000000000000000000000000000 else 1000000000000000000000000000000000000000000000000000000000
theorem lt6 {i : Int} (h0 : 0 ≤ i) (h : i < 6) : i = 0 ∨ i = 1 ∨ i = 2 ∨ i = 3 ∨ i = 4 ∨ i = 5 := by omega
theorem at6 {i : Int} (h0 : 0 ≤ i) (h : i < 6) : atI [V.int 1, .int 1000000000, .int 100000000000000000000, .int 1000000000000000000000000000000000, .int 100000000000000000000000000000000000000000000000, .int 1000000000000000000000000000000000000000000000000000000000] i = some (.int (some6 i)) := by
  rcases lt6 h0 h with e | e | e | e | e | e <;> subst e <;> rfl
def nameF (k c : Int) : Int :=
  if c % 4 = 1 then E60 - k else if c % 4 = 2 then 1 + (c / 24 + k * some6 (c / 4 % 6)) % E60 else if c % 4 = 3 then 1 + 7 * k else if c / 224 % 2 = 1 ∧ k % 2 = 1 then E60 - k else 1 + k
theorem name_pos {k c : Int} (h0 : 0 ≤ k) (h : k ≤ 1000) : 1 ≤ nameF k c := by
  unfold nameF
  repeat' split
  all_goals (try simp only [E60] at *); omega
theorem name_le {k c : Int} (h0 : 0 ≤ k) (h : k ≤ 1000) : nameF k c ≤ E60 := by
  unfold nameF
  repeat' split
  all_goals (try simp only [E60] at *); omega
theorem name_inj {k j c : Int} (h0 : 0 ≤ k) (h : k ≤ 100) (g0 : 0 ≤ j) (g : j ≤ 100) (e : nameF k c = nameF j c) : k = j := by
  unfold nameF at e
  by_cases c1 : c % 4 = 1
  · rw [if_pos c1, if_pos c1] at e
    omega
  · rw [if_neg c1, if_neg c1] at e
    by_cases c2 : c % 4 = 2
    · rw [if_pos c2, if_pos c2] at e
      generalize c / 24 = m at e
      rcases lt6 (i := c / 4 % 6) (by omega) (by omega) with i | i | i | i | i | i <;> rw [i] at e <;> simp only [some6, E60] at e <;> simp at e <;> omega
    · rw [if_neg c2, if_neg c2] at e
      by_cases c3 : c % 4 = 3
      · rw [if_pos c3, if_pos c3] at e
        omega
      · rw [if_neg c3, if_neg c3] at e
        split at e <;> split at e <;> (try simp only [E60] at e) <;> omega
def pickF (p n c : Int) : Int := if p = 0 then 0 else if p > n then nameF (n + 5) c else nameF (p - 1) c
def pickK (ns : List Int) (wide : Bool) (k : Int) : Int := if k > 8 then (if wide = true then 2 * (k % 3 % 2) else k + 1 - cellAt ns 3 % 2) else cellAt ns (3 + k) % (k + 2)
theorem pickK_range {ns : List Int} {wide : Bool} {k : Int} (h : 0 ≤ k) : 0 ≤ pickK ns wide k ∧ pickK ns wide k ≤ k + 1 := by
  unfold pickK
  repeat' split
  · omega
  · omega
  · refine ⟨Int.emod_nonneg _ (by omega), ?_⟩
    have := Int.emod_lt_of_pos (cellAt ns (3 + k)) (show 0 < k + 2 by omega)
    omega
def treeStep (ns : List Int) (wide : Bool) (c : Int) (t : Tr) (k : Nat) : Tr :=
  if pickK ns wide k = 0 then pt t (nameF k c) 0 else if pickK ns wide k > 1 then pt t (nameF k c) (nameF (pickK ns wide k - 2) c) else t
def lawTree (ns : List Int) (wide : Bool) (c : Int) : Nat → Tr
  | 0 => []
  | k + 1 => treeStep ns wide c (lawTree ns wide c k) k
/-- what is told ahead of the k-th -/
def Told (c : Int) (k : Nat) (x : Int) : Prop := ∃ j : Nat, j < k ∧ x = nameF j c
structure TreeOk (c : Int) (k : Nat) (t : Tr) : Prop where
  nd : Nd t
  ac : Acyc t
  len : t.length ≤ k
  mem : ∀ p ∈ t, Told c k p.1 ∧ (p.2 = 0 ∨ Told c k p.2)
theorem Told.mono {c : Int} {k j : Nat} {x : Int} (h : Told c k x) (e : k ≤ j) : Told c j x := by
  obtain ⟨i, hi, r⟩ := h
  exact ⟨i, by omega, r⟩
theorem Told.new {c : Int} {k : Nat} (hk : k ≤ 100) : ¬ Told c k (nameF k c) := fun ⟨j, hj, e⟩ => by
  have := name_inj (by omega) (by omega) (by omega) (by omega) e
  omega
theorem path_told {c : Int} {k : Nat} {t : Tr} (h : TreeOk c k t) {u : Int} {l : List Int} (p : Path t u l) (hu : u = 0 ∨ Told c k u) : ∀ x ∈ l, x = 0 ∨ Told c k x := by
  induction p with
  | top _ =>
    intro x hx
    simp at hx
    subst hx
    exact hu
  | step hl _ ih =>
    intro x hx
    rcases List.mem_cons.mp hx with rfl | hx
    · exact hu
    · exact ih (h.mem _ (lk_mem hl)).2 x hx
theorem lk_new {c : Int} {k : Nat} {t : Tr} (h : TreeOk c k t) (hk : k ≤ 100) : lk t (nameF k c) = none := by
  cases e : lk t (nameF k c) with
  | none => rfl
  | some v => exact (Told.new hk (h.mem _ (lk_mem e)).1).elim
theorem TreeOk.put {c : Int} {k : Nat} {t : Tr} (h : TreeOk c k t) (hk : k ≤ 100) {u : Int} (hu : u = 0 ∨ Told c k u) : TreeOk c (k + 1) (pt t (nameF k c) u) := by
  have hn := lk_new h hk
  have e : pt t (nameF k c) u = t ++ [(nameF k c, u)] := by unfold pt; rw [hn]; rfl
  refine ⟨h.nd.pt _ _, h.ac.put fun hm => ?_, ?_, ?_⟩
  · rcases path_told h (h.ac.path u) hu _ hm with z | z
    · have := name_pos (k := k) (c := c) (by omega) (by omega)
      omega
    · exact Told.new hk z
  · rw [e, List.length_append]
    have := h.len
    simp
    omega
  · rw [e]
    intro p hp
    rcases List.mem_append.mp hp with hp | hp
    · obtain ⟨h1, h2⟩ := h.mem p hp
      exact ⟨h1.mono (by omega), h2.imp id fun z => z.mono (by omega)⟩
    · simp at hp
      subst hp
      exact ⟨⟨k, by omega, rfl⟩, hu.imp id fun z => z.mono (by omega)⟩
theorem lawTree_ok (ns : List Int) (wide : Bool) (c : Int) : ∀ k : Nat, k ≤ 100 → TreeOk c k (lawTree ns wide c k)
  | 0, _ => ⟨List.nodup_nil, Acyc.nil, by simp [lawTree], by simp [lawTree]⟩
  | k + 1, hk => by
    have ih := lawTree_ok ns wide c k (by omega)
    have hr := pickK_range (ns := ns) (wide := wide) (k := (k : Int)) (by omega)
    show TreeOk c (k + 1) (treeStep ns wide c (lawTree ns wide c k) k)
    unfold treeStep
    split
    · exact ih.put (by omega) (.inl rfl)
    · split
      · refine ih.put (by omega) (.inr ⟨(pickK ns wide k - 2).toNat, by omega, ?_⟩)
        congr 1
        omega
      · exact ⟨ih.nd, ih.ac, Nat.le_succ_of_le ih.len, fun p hp => ⟨(ih.mem p hp).1.mono (by omega), (ih.mem p hp).2.imp id fun z => z.mono (by omega)⟩⟩
/-! promises -/
def spWhole1 : Sp := fun vs H Q _ => ∃ n : Int, vs = [.int n] ∧ Q (.bl true) H
def spName : Sp := fun vs H Q _ => ∃ k c : Int, vs = [.int k, .int c] ∧ 0 ≤ k ∧ k ≤ 1000 ∧ ∀ H', Same H H' → Q (.int (nameF k c)) H'
def spPick : Sp := fun vs H Q _ => ∃ p n c : Int, vs = [.int p, .int n, .int c] ∧ 0 ≤ p ∧ 0 ≤ n ∧ n ≤ 100 ∧ ∀ H', Same H H' → Q (.int (pickF p n c)) H'
def spTree (K : PySem.W.Frag) : Sp := fun vs H Q _ => ∃ (p : Addr) (ns : List Int) (n : Nat) (wide : Bool) (c : Int), vs = [.ref p, .int n, .bl wide, .int c] ∧ SqL K H p (ns.map V.int) ∧ n ≤ 100 ∧
  ∀ d H', H d = none → Same H H' → H' d = some (.dK (enc (lawTree ns wide c n))) → Q (.ref d) H'
/-- two lists of the same numbers -/
def spNumbers (K : PySem.W.Frag) : Sp := fun vs H Q _ => ∃ (p q : Addr) (l : List Int), vs = [.ref p, .ref q] ∧ H p = some (.lst (l.map V.int)) ∧ H q = some (.lst (l.map V.int)) ∧ l.length ≤ 100000 ∧ Q (.bl true) H
/-- two dicts of the same content -/
def spSameTree : Sp := fun vs H Q _ => ∃ (p q : Addr) (t t' : Tr), vs = [.ref p, .ref q] ∧ H p = some (.dK (enc t)) ∧ H q = some (.dK (enc t')) ∧ p ≠ q ∧ SameT t t' ∧ Nd t ∧ Nd t' ∧ t.length ≤ 100000 ∧ Q (.bl true) H
theorem nd_keys_len {t t' : Tr} (h : SameT t t') (hn : Nd t) (hn' : Nd t') : t.length = t'.length := by
  have a := le_of_subset (l := t.map (·.1)) (m := t'.map (·.1)) (show (t.map (·.1)).Nodup from hn) fun x hx => lk_key.mp (by rw [← h x]; exact lk_key.mpr hx)
  have b := le_of_subset (l := t'.map (·.1)) (m := t.map (·.1)) (show (t'.map (·.1)).Nodup from hn') fun x hx => lk_key.mp (by rw [h x]; exact lk_key.mpr hx)
  simp at a b
  omega
theorem same_at {H H' : Hp} {b : Addr} {o : HO} (s : Same H H') (h : H b = some o) : H' b = some o := s b o h
theorem sql_same {K : PySem.W.Frag} {H H' : Hp} {p : Addr} {xs : List V} (s : Same H H') (h : SqL K H p xs) : SqL K H' p xs := s.seq h
theorem sqt_same {K : PySem.W.Frag} {H H' : Hp} {p : Addr} {xs : List V} (s : Same H H') (h : SqT K H p xs) : SqT K H' p xs := Same.sqt s h
theorem upd_id {H : Hp} {b : Addr} {o o' : HO} (h : H b = some o) : upd (upd H b o') b o = H := by
  rw [upd_upd]
  funext x
  by_cases e : x = b
  · subst e; rw [upd_same, h]
  · rw [upd_ne e]
theorem c_tree {K : PySem.W.Frag} {H : Hp} {p : Addr} {ns : List Int} {n : Nat} {wide : Bool} {c : Int} {Q : VK} {E : XK} (hS : SqL K H p (ns.map V.int)) (hn : n ≤ 100) (h : ∀ d H', H d = none → Same H H' → H' d = some (.dK (enc (lawTree ns wide c n))) → Q (.ref d) H') : spTree K [.ref p, .int n, .bl wide, .int c] H Q E := ⟨p, ns, n, wide, c, rfl, hS, hn, h⟩
theorem c_numbers {K : PySem.W.Frag} {H : Hp} {p q : Addr} {l : List Int} {Q : VK} {E : XK} (hp : H p = some (.lst (l.map V.int))) (hq : H q = some (.lst (l.map V.int))) (hl : l.length ≤ 100000) (h : Q (.bl true) H) : spNumbers K [.ref p, .ref q] H Q E := ⟨p, q, l, rfl, hp, hq, hl, h⟩
theorem c_sametree {H : Hp} {p q : Addr} {t t' : Tr} {Q : VK} {E : XK} (hp : H p = some (.dK (enc t))) (hq : H q = some (.dK (enc t'))) (hne : p ≠ q) (hs : SameT t t') (hn : Nd t) (hn' : Nd t') (hl : t.length ≤ 100000) (h : Q (.bl true) H) : spSameTree [.ref p, .ref q] H Q E := ⟨p, q, t, t', rfl, hp, hq, hne, hs, hn, hn', hl, h⟩
theorem c_whole1 {H : Hp} {n : Int} {Q : VK} {E : XK} (h : Q (.bl true) H) : spWhole1 [.int n] H Q E := ⟨n, rfl, h⟩
theorem c_name {H : Hp} {k c : Int} {Q : VK} {E : XK} (h0 : 0 ≤ k) (hk : k ≤ 1000) (h : ∀ H', Same H H' → Q (.int (nameF k c)) H') : spName [.int k, .int c] H Q E := ⟨k, c, rfl, h0, hk, h⟩
theorem c_pick {H : Hp} {p n c : Int} {Q : VK} {E : XK} (h0 : 0 ≤ p) (hn : 0 ≤ n) (hn2 : n ≤ 100) (h : ∀ H', Same H H' → Q (.int (pickF p n c)) H') : spPick [.int p, .int n, .int c] H Q E := ⟨p, n, c, rfl, h0, hn, hn2, h⟩
end Tm
namespace Tm
open PySem PySem.Spec PyProof.Rows L2
section
variable {K : PySem.W.Frag} {σ : L2.St} {H : Hp} {Q : VK} {te : TE} {tt : TT} {tb : TS} {i j : Nat} {nx bk ct : L2.St → Hp → Prop} {rt : VK} {d : Addr} {t : Tr}
/-- for k in a dict: the dict is locked meanwhile -/
theorem r_forK (e : σ[i]? = some (some (.ref d))) (hd : H d = some (.dK (enc t))) (Pv : Obj → Nat → L2.St → Hp → Prop) (h0 : ∀ od, Pv od 0 σ (upd H d (.frz od (.dK (enc t))))) (hl : ∀ od i σ H, Pv od i σ H → H d = some (.frz od (.dK (enc t))))
    (hs : ∀ od i p σ H, t[i]? = some p → Pv od i σ H → tb ⟨Pv od (i + 1), fun v H' => H' d = some (.frz od (.dK (enc t))) ∧ rt v (upd H' d (.dK (enc t))), fun σ' H' => H' d = some (.frz od (.dK (enc t))) ∧ nx σ' (upd H' d (.dK (enc t))), Pv od (i + 1)⟩ (σ.set j (some (.int p.1))) H)
    (hn : ∀ od σ H, Pv od t.length σ H → nx σ (upd H d (.dK (enc t)))) : tLock (tFor (iKeys (tVar i)) (gName j) tb) ⟨nx, rt, bk, ct⟩ σ H := by
  refine ⟨d, _, hd, trivial, fun od => ?_⟩
  refine ⟨_, e, d, od, rfl, .inl ⟨enc t, upd_same, ?_⟩⟩
  refine ⟨fun i m σ H => m = t.length - i ∧ i ≤ t.length ∧ Pv od i σ H, ⟨t.length, by simp, Nat.zero_le _, h0 od⟩, ?_⟩
  rintro i m σ H ⟨rfl, hi, q⟩
  have hq := hl od i σ H q
  by_cases hlt : i < t.length
  · refine .inr ⟨⟨hq, by rw [enc_length]; exact hlt⟩, Pv od (i + 1), fun σ' H' p' => ⟨t.length - (i + 1), by omega, rfl, hlt, p'⟩, fun x H' y => ?_⟩
    obtain ⟨eH, k, v, e1, e2⟩ := y
    subst eH
    have et : t[i]? = some t[i] := List.getElem?_eq_getElem hlt
    have e3 : (enc t)[i]? = some (Sum.inl t[i].1, V.int t[i].2) := by
      unfold enc
      rw [List.getElem?_map, et]
      rfl
    rw [e3] at e1
    cases e1
    subst e2
    exact hs od i t[i] σ _ et q
  · have e : i = t.length := by omega
    subst e
    exact .inl ⟨⟨hq, by rw [enc_length]; exact Nat.le_refl _⟩, hq, hn od σ H q⟩
def qLocked (d : Addr) (od : Obj) (u : HO) (Q : VK) : VK := fun v H' => H' d = some (.frz od u) ∧ Q v (upd H' d u)
/-- [.. for k in a dict] -/
theorem r_lcK (e : σ[i]? = some (some (.ref d))) (hd : H d = some (.dK (enc t))) (Pv : Obj → Addr → Nat → Hp → Prop) (h0 : ∀ od D, H D = none → D ≠ d → Pv od D 0 (upd (upd H d (.frz od (.dK (enc t)))) D (.lst []))) (hl : ∀ od D i H, Pv od D i H → H d = some (.frz od (.dK (enc t))))
    (hs : ∀ od D i p H, t[i]? = some p → Pv od D i H → tt ((σ.set j none).set j (some (.int p.1))) H (qLcT te ((σ.set j none).set j (some (.int p.1))) D (Pv od D (i + 1))))
    (hn : ∀ od D H, Pv od D t.length H → Q (.ref D) (upd H d (.dK (enc t)))) : tLockE (tLc (iKeys (tVar i)) (gName j) tt te [j]) σ H Q := by
  refine ⟨d, _, hd, trivial, fun od => ?_⟩
  refine ⟨_, e, d, od, rfl, .inl ⟨enc t, upd_same, ?_⟩⟩
  intro D nD
  obtain ⟨nD, neD⟩ := new_free nD
  refine ⟨fun i m H => m = t.length - i ∧ i ≤ t.length ∧ Pv od D i H, ⟨t.length, by simp, Nat.zero_le _, h0 od D nD neD⟩, ?_⟩
  rintro i m H ⟨rfl, hi, q⟩
  have hq := hl od D i H q
  by_cases hlt : i < t.length
  · refine .inr ⟨⟨hq, by rw [enc_length]; exact hlt⟩, Pv od D (i + 1), fun H' p' => ⟨t.length - (i + 1), by omega, rfl, hlt, p'⟩, fun x H' y => ?_⟩
    obtain ⟨eH, k, v, e1, e2⟩ := y
    subst eH
    have et : t[i]? = some t[i] := List.getElem?_eq_getElem hlt
    have e3 : (enc t)[i]? = some (Sum.inl t[i].1, V.int t[i].2) := by
      unfold enc
      rw [List.getElem?_map, et]
      rfl
    rw [e3] at e1
    cases e1
    subst e2
    refine ⟨?_, hs od D i t[i] _ et q⟩
    show (((σ.set j none).set j (some _)).set j none) = σ.set j none
    rw [List.set_set, List.set_set]
  · have e : i = t.length := by omega
    subst e
    exact .inl ⟨⟨hq, by rw [enc_length]; exact Nat.le_refl _⟩, hq, hn od D H q⟩
end
theorem iteNT {A B : Prop} (h : B) : if (!true) = true then A else B := h
theorem iteNF {A B : Prop} (h : A) : if (!false) = true then A else B := h
theorem nd_f {p : Prop} [Decidable p] (h : p) : (!decide p) = false := by rw [decide_eq_true h]; rfl
theorem nd_t {p : Prop} [Decidable p] (h : ¬ p) : (!decide p) = true := by rw [decide_eq_false h]; rfl
theorem d_t {p : Prop} [Decidable p] (h : p) : decide p = true := decide_eq_true h
theorem d_f {p : Prop} [Decidable p] (h : ¬ p) : decide p = false := decide_eq_false h
/-! lists of numbers -/
def cutL {α : Type} (xs : List α) (lo hi : Option Int) : List α := (xs.drop (HT.sIx xs.length 0 lo)).take (HT.sIx xs.length xs.length hi - HT.sIx xs.length 0 lo)
theorem cutV_map {α : Type} (f : α → V) (xs : List α) (lo hi : Option Int) : cutV (xs.map f) lo hi = (cutL xs lo hi).map f := by
  unfold cutV cutL
  rw [List.length_map, List.map_take, List.map_drop]
theorem cutL_tail {α : Type} (xs : List α) : cutL xs (some 1) none = xs.tail := by
  unfold cutL
  rw [show HT.sIx xs.length 0 (some 1) = min 1 xs.length from HT.sIx_nat xs.length 0 1, HT.sIx_none]
  cases xs with
  | nil => rfl
  | cons x r =>
    have e : min 1 (x :: r).length = 1 := by simp
    rw [e]
    simp
theorem r_slI {K : PySem.W.Frag} {H : Hp} {Q : VK} {p : Addr} {xs : List Int} {lo hi : Option Int} (hs : SqL K H p (xs.map V.int)) (h : ∀ l, H l = none → Q (.ref l) (upd H l (.lst ((cutL xs lo hi).map V.int)))) : rSlL K (.ref p) lo hi H Q := r_slL hs (by rw [cutV_map]; exact h)
theorem r_inI {K : PySem.W.Frag} {H : Hp} {Q : VK} {p : Addr} {xs : List Int} {x : Int} (hs : SqL K H p (xs.map V.int)) (h : Q (.bl (decide (x ∈ xs))) H) : rIn K false (.int x) (.ref p) H Q := r_in hs rfl (flat_ints _) (by rw [inV_ints]; exact h)
theorem r_ninI {K : PySem.W.Frag} {H : Hp} {Q : VK} {p : Addr} {xs : List Int} {x : Int} (hs : SqL K H p (xs.map V.int)) (h : Q (.bl (!decide (x ∈ xs))) H) : rIn K true (.int x) (.ref p) H Q := r_nin hs rfl (flat_ints _) (by rw [inV_ints]; exact h)
theorem ne_new {H : Hp} {p q : Addr} {o : HO} (hp : Fresh H p) (hq : H q = some o) : p ≠ q := (ne_of_none hq hp).symm
theorem ne_new' {H : Hp} {p q : Addr} {o : HO} (hp : Fresh H p) (hq : H q = some o) : q ≠ p := ne_of_none hq hp
theorem keepR {H : Hp} {p q : Addr} {o o' : HO} (hp : Fresh H p) (hq : H q = some o') : upd H p o q = some o' := keep hq hp
theorem keep_neR {H : Hp} {p q : Addr} {o o' : HO} (hp : q ≠ p) (hq : H q = some o') : upd H p o q = some o' := keep_ne hq hp
theorem sql_keepR {K : PySem.W.Frag} {H : Hp} {p a : Addr} {o : HO} {xs : List V} (hp : Fresh H p) (h : SqL K H a xs) : SqL K (upd H p o) a xs := sql_keep h hp
theorem sqt_keepR {K : PySem.W.Frag} {H : Hp} {p a : Addr} {o : HO} {xs : List V} (hp : Fresh H p) (h : SqT K H a xs) : SqT K (upd H p o) a xs := sqt_keep h hp
theorem r_dPutI {nx : L2.St → Hp → Prop} {σ : L2.St} {H : Hp} {d : Addr} {t : Tr} {k v : Int} (hs : H d = some (.dK (enc t))) (hl : t.length ≤ 1000000) (h : nx σ (upd H d (.dK (enc (pt t k v))))) : qDPut nx σ (.int v) (.int k) (.ref d) H := r_dPut hs (by rw [enc_length]; exact lt_line hl) (by rw [putK_enc]; exact h)
theorem sm_new {H0 H : Hp} {p : Addr} {o : HO} (hp : Fresh H p) (s : Same H0 H) : Same H0 (upd H p o) := Same.new s hp
theorem sm_mut {H0 H : Hp} {p : Addr} {o : HO} (hp : Fresh H0 p) (s : Same H0 H) : Same H0 (upd H p o) := Same.mut s hp
theorem sm_trans {H0 H H' : Hp} (h : Same H H') (s : Same H0 H) : Same H0 H' := s.trans h
theorem Fresh.back {H H' : Hp} {p : Addr} (h : Fresh H' p) (s : Same H H') : Fresh H p := s.free h
def qLcU (K : PySem.W.Frag) (g : TG) (tt : TT) (te : TE) (vs : List Nat) (σ : L2.St) (Q : VK) : VK := fun x H1 => ∃ a, x = .ref a ∧ (∃ xs, SqT K H1 a xs) ∧ qLc (Itt K a).go (Itt K a).stop (Itt K a).yld g tt te vs σ Q H1
instance {K : PySem.W.Frag} {σ : L2.St} {H : Hp} {Q : VK} {te tl : TE} {tt : TT} {g : TG} {vs : List Nat} : Step (tLc (iTup K tl) g tt te vs σ H Q) (tl σ H (qLcU K g tt te vs σ Q)) := ⟨fun h => h⟩
theorem r_lcU {K : PySem.W.Frag} {σ : L2.St} {H : Hp} {Q : VK} {te : TE} {tt : TT} {j : Nat} {p : Addr} {xs : List V} (Pv : Addr → Nat → Hp → Prop) (h0 : ∀ D, H D = none → Pv D 0 (upd H D (.lst []))) (hx : SqT K H p xs) (hl : ∀ D i H, i ≤ xs.length → Pv D i H → SqT K H p xs)
    (hs : ∀ D i x H, xs[i]? = some x → Pv D i H → tt ((σ.set j none).set j (some x)) H (qLcT te ((σ.set j none).set j (some x)) D (Pv D (i + 1)))) (hd : ∀ D H, Pv D xs.length H → Q (.ref D) H) : qLcU K (gName j) tt te [j] σ Q (.ref p) H :=
  ⟨p, rfl, ⟨xs, hx⟩, fun D nD => lc_tup (K := K) (Pv D) (h0 D nD) (hl D) (fun i x H hi q => ⟨by
    show (((σ.set j none).set j (some x)).set j none) = σ.set j none
    rw [List.set_set, List.set_set], hs D i x H hi q⟩) (hd D)⟩
theorem r_cut {t u : TS} {nx bk ct : L2.St → Hp → Prop} {rt : VK} {σ : L2.St} {H : Hp} (Mid : L2.St → Hp → Prop) (h : t ⟨Mid, rt, bk, ct⟩ σ H) (h2 : ∀ σ' H', Mid σ' H' → u ⟨nx, rt, bk, ct⟩ σ' H') : Evl.tCut t u ⟨nx, rt, bk, ct⟩ σ H := ⟨Mid, h, h2⟩
instance {to ti : TE} {t : TSet} {v : V} {σ : L2.St} {H : Hp} {N : L2.St → Hp → Prop} : Step (gSub to ti t v σ H N) (to σ H fun o H1 => ti σ H1 fun i H2 => t o i v H2 fun H3 => N σ H3) := ⟨fun h => h⟩
theorem r_setL {p : Addr} {xs : List V} {k : Int} {v : V} {H : Hp} {Q : Hp → Prop} (hs : H p = some (.lst xs)) (h0 : 0 ≤ k ∧ k < xs.length) (h : Q (upd H p (.lst (xs.set k.toNat v)))) : rSetL (.ref p) (.int k) v H Q := ⟨p, xs, k, k.toNat, rfl, rfl, hs, by
  unfold ixN
  rw [if_pos h0.1, if_pos h0.2], h⟩
end Tm
namespace Tm
open PySem PySem.Spec PyProof.Rows L2
/-! moves -/
/-- a thing of a kind that isinstance knows -/
def KnownV (H : Hp) : V → Prop
  | .int _ => True
  | .bl _ => True
  | .str _ => True
  | .non => True
  | .ref a => (∃ xs, H a = some (.lst xs)) ∨ (∃ xs, H a = some (.tup xs)) ∨ ∃ kvs, H a = some (.dK kvs)
  | _ => False
theorem KnownV.same {H H' : Hp} {x : V} (s : Same H H') (h : KnownV H x) : KnownV H' x := by
  cases x <;> try exact h
  rename_i a
  rcases h with ⟨xs, h⟩ | ⟨xs, h⟩ | ⟨xs, h⟩
  · exact .inl ⟨xs, s _ _ h⟩
  · exact .inr (.inl ⟨xs, s _ _ h⟩)
  · exact .inr (.inr ⟨xs, s _ _ h⟩)
theorem KnownV.lst {H : Hp} {x : V} {l : Addr} {xs : List V} (h : KnownV H x) : KnownV (upd H l (.lst xs)) x := by
  cases x <;> try exact h
  rename_i a
  by_cases e : a = l
  · subst e
    exact .inl ⟨xs, upd_same⟩
  · show (∃ ys, upd H l (.lst xs) a = some (.lst ys)) ∨ (∃ ys, upd H l (.lst xs) a = some (.tup ys)) ∨ ∃ kvs, upd H l (.lst xs) a = some (.dK kvs)
    rw [upd_ne e]
    exact h
def isW (x : V) (l : Int) : Bool := match x with
  | .int n => decide (l ≤ n) && decide (n ≤ E60)
  | _ => false
def moveB : List V → Bool
  | [t, h, f, u] => isW t 1 && (isW h 0 && (isW f 1 && isW u 0))
  | _ => false
theorem moveB_len {xs : List V} (h : xs.length ≠ 4) : moveB xs = false := by
  match xs, h with
  | [], _ => rfl
  | [_], _ => rfl
  | [_, _], _ => rfl
  | [_, _, _], _ => rfl
  | [_, _, _, _], h => exact (h rfl).elim
  | _ :: _ :: _ :: _ :: _ :: _, _ => rfl
def spWhole : Sp := fun vs H Q _ => ∃ (x : V) (l : Int), vs = [x, .int l] ∧ KnownV H x ∧ Q (.bl (isW x l)) H
def spIsMove : Sp := fun vs H Q _ => ∃ x : V, vs = [x] ∧ ((∃ (p : Addr) (xs : List V), x = .ref p ∧ H p = some (.tup xs) ∧ (∀ y ∈ xs, KnownV H y) ∧ Q (.bl (moveB xs)) H) ∨ (KnownV H x ∧ (∀ p xs, x = .ref p → H p ≠ some (.tup xs)) ∧ Q (.bl false) H))
theorem c_whole {H : Hp} {x : V} {l : Int} {Q : VK} {E : XK} (hx : KnownV H x) (h : Q (.bl (isW x l)) H) : spWhole [x, .int l] H Q E := ⟨x, l, rfl, hx, h⟩
theorem c_isMove {H : Hp} {p : Addr} {xs : List V} {Q : VK} {E : XK} (hp : H p = some (.tup xs)) (hx : ∀ y ∈ xs, KnownV H y) (h : Q (.bl (moveB xs)) H) : spIsMove [.ref p] H Q E := ⟨_, rfl, .inl ⟨p, xs, rfl, hp, hx, h⟩⟩
theorem c_isMoveN {H : Hp} {x : V} {Q : VK} {E : XK} (hx : KnownV H x) (hn : ∀ p xs, x = .ref p → H p ≠ some (.tup xs)) (h : Q (.bl false) H) : spIsMove [x] H Q E := ⟨_, rfl, .inr ⟨hx, hn, h⟩⟩
/-- each part where it may be -/
def goodL : List V → Int → Bool
  | [], _ => true
  | x :: r, k => isW x (1 - k % 2) && goodL r (k + 1)
theorem goodL_snoc (y : V) : ∀ (xs : List V) (k : Int), goodL (xs ++ [y]) k = (goodL xs k && isW y (1 - (k + xs.length) % 2))
  | [], k => by simp [goodL]
  | x :: r, k => by
    show (isW x (1 - k % 2) && goodL (r ++ [y]) (k + 1)) = _
    rw [goodL_snoc y r (k + 1)]
    have e : k + 1 + (r.length : Int) = k + ((x :: r).length : Int) := by simp; omega
    rw [e]
    simp [goodL, Bool.and_assoc]
theorem goodL_four {xs : List V} (h : xs.length = 4) : goodL xs 0 = moveB xs := by
  match xs, h with
  | [_, _, _, _], _ => simp [goodL, moveB]
def spPart : Sp := fun vs H Q _ => ∃ c l : Int, vs = [.int c, .int l] ∧ (l = 0 ∨ l = 1) ∧ ∀ x H', Same H H' → KnownV H' x → Q x H'
theorem c_part {H : Hp} {c l : Int} {Q : VK} {E : XK} (hl : l = 0 ∨ l = 1) (h : ∀ x H', Same H H' → KnownV H' x → Q x H') : spPart [.int c, .int l] H Q E := ⟨c, l, rfl, hl, h⟩
end Tm
namespace Tm
open PySem PySem.Spec PyProof.Rows L2 TL
/-! texts and errors -/
def tRaiseQ (C : Addr) (E : XK) : TS := fun _ _ H => E (.ref C) none H
theorem ps_raiseQ {X : Cx} {E : XK} {C : Addr} {x m : Str} {j : Nat} {p p2 pos pos2 : Pos} (hc : X.calm = true) (tk : Takes X (fun cls d _ H => E cls d H)) (q : PySem.W.excIn X.K C [.type "ValueError", .type "Exception", .type "BaseException", .type "object"] "ValueError.__new__" = true) (gC : X.mg x = some (.ref C)) (kC : PySem.W.keepIn X.K (.ref C) = true)
    (hb : PySem.W.subIn X.K (.ref C) (.type "BaseException") = some true) (ht : PySem.W.typeIn X.K (.ref C) = some (.type "type")) (hg : Gl X x := by rfl) (hdb : (x == ("__debug__" : Str)) = false := by decide) :
    PS X (.Raise (some (.Call (.Name x p) [.Constant (.str m) j p2] [] pos)) none pos2) (tRaiseQ C E) := ps_raise hc tk (pmk_own PySem.F.excBase_ValueError q gC kC (raises_own hb ht) hg hdb)
section
variable {K : PySem.W.Frag} {σ : L2.St} {H : Hp} {Q : VK} {te to : TE} {nx bk ct : L2.St → Hp → Prop} {rt : VK} {E : XK} {C : Addr} {j : Nat} {y z : Str}
instance : Step (tRaiseQ C E ⟨nx, rt, bk, ct⟩ σ H) (E (.ref C) none H) := ⟨fun h => h⟩
def rInSQ : R2 := fun x y H Q => ∃ (c : Nat) (z : Str), x = .str ⟨#[c]⟩ ∧ y = .str z ∧ Q (.bl (decide (c ∈ tl z))) H
def rNotInSQ : R2 := fun x y H Q => ∃ (c : Nat) (z : Str), x = .str ⟨#[c]⟩ ∧ y = .str z ∧ Q (.bl (!decide (c ∈ tl z))) H
theorem op_inSQ {X : Cx} : OpR X (compareOp .In) rInSQ := op_in_sign
theorem op_notInSQ {X : Cx} : OpR X (compareOp .NotIn) rNotInSQ := op_notIn_sign
instance {c : Nat} : Step (rInSQ (.str ⟨#[c]⟩) (.str z) H Q) (Q (.bl (decide (c ∈ tl z))) H) := ⟨fun h => ⟨c, z, rfl, rfl, h⟩⟩
instance {c : Nat} : Step (rNotInSQ (.str ⟨#[c]⟩) (.str z) H Q) (Q (.bl (!decide (c ∈ tl z))) H) := ⟨fun h => ⟨c, z, rfl, rfl, h⟩⟩
def rAddSQ : R2 := fun x y H Q => ∃ i j, x = .str i ∧ y = .str j ∧ i.length + j.length ≤ sizeLine ∧ Q (.str (i ++ j)) H
theorem op_addSQ {X : Cx} : OpR X (binaryOp .Add) rAddSQ := op_add_str
theorem r_addS (hl : y.length + z.length ≤ 1000000) (h : Q (.str (y ++ z)) H) : rAddSQ (.str y) (.str z) H Q := ⟨y, z, rfl, rfl, Nat.le_trans hl (by decide), h⟩
def rLenSQ : List V → Hp → VK → Prop := fun xs H Q => ∃ z : Str, xs = [.str z] ∧ z.length ≤ sizeLine ∧ Q (.int z.length) H
theorem call_lenSQ {X : Cx} : CallR X (.builtin "len") rLenSQ := call_len_str
theorem r_lenS (hl : z.length ≤ 1000000) (h : Q (.int z.length) H) : rLenSQ [.str z] H Q := ⟨z, rfl, Nat.le_trans hl (by decide), h⟩
def rStrQ : List V → Hp → VK → Prop := fun xs H Q => ∃ i, xs = [.int i] ∧ i.natAbs.log2 < 1920 ∧ Q (.str (toString i)) H
theorem call_strQ {X : Cx} : CallR X (.type "str") rStrQ := call_str_int
theorem r_str {n : Nat} (hl : n.log2 < 1920) (h : Q (.str (Str.ofString (toString (n : Int)))) H) : rStrQ [.int (n : Int)] H Q := ⟨n, rfl, by rw [Int.natAbs_natCast]; exact hl, h⟩
def rIntSQ : List V → Hp → VK → Prop := fun xs H Q => ∃ a n, xs = [.str a] ∧ PySem.intText? a = some n ∧ a.length ≤ 640 ∧ Q (.int n) H
theorem call_intSQ {X : Cx} : CallR X (.type "int") rIntSQ := call_int_str
theorem r_intS {n : Int} (e : PySem.intText? z = some n) (hl : z.length ≤ 640) (h : Q (.int n) H) : rIntSQ [.str z] H Q := ⟨z, n, rfl, e, hl, h⟩
theorem r_ixS {i : Int} {c : Nat} (hl : z.length ≤ 1000000) (ha : atI (tl z) i = some c) (h : Q (.str ⟨#[c]⟩) H) : rIxS (.str z) (.int i) H Q := ⟨z, i, c, rfl, rfl, Nat.le_trans hl (by decide), ha, h⟩
theorem r_slS {lo hi : Option Int} (hl : z.length ≤ 1000000) (h : Q (.str (cutS z lo hi)) H) : rSlS (.str z) lo hi H Q := ⟨z, rfl, Nat.le_trans hl (by decide), h⟩
def rSplitQ : V → List V → Hp → VK → Prop := fun x xs H Q => ∃ a b, x = .str a ∧ xs = [.str b] ∧ (b.length == 0) = false ∧ a.length + 2 ≤ sizeLine ∧ rNewStrs (Txt.split a b) H Q
def qStr (m : V → List V → Hp → VK → Prop) (te : TE) (σ : L2.St) (Q : VK) : VK := fun x H1 => (∃ a, x = .str a) ∧ te σ H1 fun y H2 => m x [y] H2 Q
instance {m : V → List V → Hp → VK → Prop} : Step (tM1 m to te σ H Q) (to σ H (qStr m te σ Q)) := ⟨fun h => h⟩
instance {m : V → List V → Hp → VK → Prop} : Step (qStr m te σ Q (.str z) H) (te σ H fun y H2 => m (.str z) [y] H2 Q) := ⟨fun h => ⟨⟨z, rfl⟩, h⟩⟩
theorem pe_splitQ {X : Cx} {e o : Expr} {apos pos : Pos} (ho : PE X o to) (he : PE X e te) (hs : starEach [e] X.env = [(false, eval e X.env)] := by rfl) (hbase : attributeBase o "split" X.env (eval o X.env) = eval o X.env := by rfl) (hline : (apos.endLine == pos.line) = true := by rfl) :
    PE X (.Call (.Attribute o "split" apos) [e] [] pos) (tM1 rSplitQ to te) := pe_split ho he hs hbase hline
theorem r_split (hb : (y.length == 0) = false) (hl : z.length ≤ 1000000) (h : ∀ p, H p = none → Q (.ref p) (upd H p (.lst ((Txt.split z y).map V.str)))) : rSplitQ (.str z) [.str y] H Q := ⟨z, y, rfl, rfl, hb, Nat.le_trans (Nat.add_le_add_right hl 2) (by decide), h⟩
def rJoinQ (K : PySem.W.Frag) : V → List V → Hp → VK → Prop := fun x xs H Q => ∃ a p, ∃ ys : List Str, x = .str a ∧ xs = [.ref p] ∧ (SqL K H p (ys.map V.str) ∨ SqT K H p (ys.map V.str)) ∧ (ys.map (·.length)).sum + ys.length * a.length ≤ 16777216 ∧ Q (.str (Txt.join a ys)) H
theorem pe_joinQ {X : Cx} {e o : Expr} {apos pos : Pos} (ho : PE X o to) (he : PE X e te) (hs : starEach [e] X.env = [(false, eval e X.env)] := by rfl) (hbase : attributeBase o "join" X.env (eval o X.env) = eval o X.env := by rfl) (hline : (apos.endLine == pos.line) = true := by rfl) :
    PE X (.Call (.Attribute o "join" apos) [e] [] pos) (tM1 (rJoinQ X.K) to te) := pe_join ho he hs hbase hline
theorem r_join {p : Addr} {ys : List Str} (hs : SqL K H p (ys.map V.str)) (hl : (ys.map (·.length)).sum + ys.length * z.length ≤ 16777216) (h : Q (.str (Txt.join z ys)) H) : rJoinQ K (.str z) [.ref p] H Q := ⟨z, p, ys, rfl, rfl, .inl hs, hl, h⟩
/-- for c in a text -/
theorem r_forS {tb : TS} (Pv : Nat → L2.St → Hp → Prop) (h0 : Pv 0 σ H) (hs : ∀ i c σ H, (tl z)[i]? = some c → Pv i σ H → tb ⟨Pv (i + 1), rt, nx, Pv (i + 1)⟩ (σ.set j (some (.str ⟨#[c]⟩))) H) (hd : ∀ σ H, Pv z.length σ H → nx σ H) : qForS (gName j) tb nx rt σ (.str z) H := by
  refine ⟨z, rfl, fun i m σ H => m = z.length - i ∧ i ≤ z.length ∧ Pv i σ H, ⟨z.length, by simp, Nat.zero_le _, h0⟩, ?_⟩
  rintro i m σ H ⟨rfl, hi, q⟩
  by_cases hlt : i < z.length
  · refine .inr ⟨hlt, Pv (i + 1), fun σ' H' p' => ⟨z.length - (i + 1), by omega, rfl, hlt, p'⟩, fun x H' y => ?_⟩
    obtain ⟨eH, c, e1, e2⟩ := y
    subst eH
    subst e2
    refine hs i c σ _ ?_ q
    show z.cps.toList[i]? = some c
    rw [Array.getElem?_toList]
    exact e1
  · have e : i = z.length := by omega
    subst e
    exact .inl ⟨Nat.le_refl _, hd σ H q⟩
end
theorem tl_length (z : Str) : (tl z).length = z.length := by
  show z.cps.toList.length = z.cps.size
  simp
/-- a word that is a number written -/
def OkW (z : Str) : Prop := NumText.AllDigits (tl z) ∧ tl z ≠ [] ∧ ¬ (1 < z.length ∧ (tl z).head? = some 48) ∧ z.length ≤ 61
def numV (z : Str) : Int := ((NumText.digitsVal (tl z) : Nat) : Int)
theorem numV_text {z : Str} (h : OkW z) : PySem.intText? z = some (numV z) := PySem.intText_digits h.1 h.2.1 (by have := h.2.2.2; omega)
theorem numV_nonneg (z : Str) : 0 ≤ numV z := by unfold numV; omega
theorem fig_mem {c : Nat} : c ∈ tl ("0123456789" : Str) ↔ 48 ≤ c ∧ c ≤ 57 := by
  have e : tl ("0123456789" : Str) = [48, 49, 50, 51, 52, 53, 54, 55, 56, 57] := by decide +kernel
  rw [e]
  simp
  omega
def spNum (C : Addr) : Sp := fun vs H Q E => ∃ z : Str, vs = [.str z] ∧ z.length ≤ 100000 ∧ (OkW z → Q (.int (numV z)) H) ∧ (¬ OkW z → E (.ref C) none H)
theorem one_zero {c : Nat} : ((⟨#[c]⟩ : Str) = "0") ↔ c = 48 := by
  have e : ("0" : Str) = ⟨#[48]⟩ := by decide +kernel
  rw [e]
  constructor
  · intro h
    injection h with h
    injection h with h
    injection h
  · intro h
    rw [h]
theorem c_num {C : Addr} {H : Hp} {z : Str} {Q : VK} {E : XK} (hl : z.length ≤ 100000) (h : OkW z → Q (.int (numV z)) H) (h2 : ¬ OkW z → E (.ref C) none H) : spNum C [.str z] H Q E := ⟨z, rfl, hl, h, h2⟩
/-- a line that is read: its words, each a number, in their bounds -/
def LineOk (z : Str) : Prop := ∃ w1 w2 w3 w4 : Str, Txt.split z " " = [w1, w2, w3, w4] ∧ OkW w1 ∧ OkW w2 ∧ OkW w3 ∧ OkW w4 ∧ 1 ≤ numV w1 ∧ 1 ≤ numV w3 ∧ numV w1 ≤ E60 ∧ numV w2 ≤ E60 ∧ numV w3 ≤ E60 ∧ numV w4 ≤ E60
def spRead (C : Addr) : Sp := fun vs H Q E => ∃ z : Str, vs = [.str z] ∧ z.length ≤ 10000 ∧
  (∀ w1 w2 w3 w4 p H', Txt.split z " " = [w1, w2, w3, w4] → LineOk z → H p = none → Same H H' → H' p = some (.tup [.int (numV w1), .int (numV w2), .int (numV w3), .int (numV w4)]) → Q (.ref p) H') ∧ (¬ LineOk z → ∀ H', Same H H' → E (.ref C) none H')
theorem joinL_le {S : List Nat} {p : List Nat} : ∀ {parts : List (List Nat)}, p ∈ parts → p.length ≤ (joinL S parts).length
  | [q], h => by
    rw [List.mem_singleton.mp h]
    exact Nat.le_refl _
  | q :: r :: t, h => by
    show p.length ≤ (q ++ (S ++ joinL S (r :: t))).length
    rw [List.length_append, List.length_append]
    rcases List.mem_cons.mp h with rfl | h
    · omega
    · have := joinL_le (S := S) h
      omega
theorem split_le {z y w : Str} (h : w ∈ Txt.split z y) : w.length ≤ z.length := by
  have e := PySem.StrLaws.join_split z y
  have e2 := congrArg tl e
  rw [tl_join] at e2
  have := joinL_le (S := tl y) (p := tl w) (List.mem_map.mpr ⟨w, h, rfl⟩)
  rw [e2, tl_length, tl_length] at this
  exact this
def txt (n : Int) : Str := Str.ofString (toString n)
theorem tl_txt {n : Int} (h : 0 ≤ n) : tl (txt n) = numL n.toNat := by
  have e : n = ((n.toNat : Nat) : Int) := by omega
  rw [e]
  exact tl_num n.toNat
theorem lt_pow {n : Nat} (h : n ≤ 1000000000000000000000000000000000000000000000000000000000000) : n < 10 ^ 61 := Nat.lt_of_le_of_lt h (by decide)
theorem txt_len {n : Int} (h : 0 ≤ n) (h2 : n ≤ E60) : (txt n).length ≤ 61 := by
  rw [← tl_length, tl_txt h]
  refine numL_len (by decide) (lt_pow ?_)
  simp [E60] at h2
  omega
theorem numL_nozero : ∀ n : Nat, 1 < (numL n).length → (numL n).head? ≠ some 48 := fun n => by
  induction n using Nat.strongRecOn with
  | _ n ih =>
    intro h
    by_cases h10 : n < 10
    · rw [numL_lt h10] at h
      simp at h
    · rw [numL_step (by omega)]
      have hne := numL_ne (n / 10)
      rw [List.head?_append, show (numL (n / 10)).head?.or ([48 + n % 10] : List Nat).head? = (numL (n / 10)).head? from by
        cases hz : numL (n / 10) with
        | nil => exact (hne hz).elim
        | cons x r => rfl]
      by_cases h2 : n / 10 < 10
      · rw [numL_lt h2]
        simp
        omega
      · refine ih (n / 10) (by omega) ?_
        rw [numL_step (by omega), List.length_append]
        have := List.length_pos_iff.mpr (numL_ne (n / 10 / 10))
        simp
        omega
theorem txt_ok {n : Int} (h : 0 ≤ n) (h2 : n ≤ E60) : OkW (txt n) := by
  have e := tl_txt h
  refine ⟨by rw [e]; exact numL_digits _, by rw [e]; exact numL_ne _, ?_, txt_len h h2⟩
  rintro ⟨h1, h3⟩
  rw [e] at h3
  rw [← tl_length, e] at h1
  exact numL_nozero _ h1 h3
theorem txt_val {n : Int} (h : 0 ≤ n) : numV (txt n) = n := by
  unfold numV
  rw [tl_txt h, numL_val]
  omega
theorem txt_nosp {n : Int} (h : 0 ≤ n) : (32 : Nat) ∉ tl (txt n) := by
  rw [tl_txt h]
  exact numL_free (by omega)
theorem split_four {a b c d : Int} (ha : 0 ≤ a) (hb : 0 ≤ b) (hc : 0 ≤ c) (hd : 0 ≤ d) : Txt.split (Txt.join " " [txt a, txt b, txt c, txt d]) " " = [txt a, txt b, txt c, txt d] := by
  refine split_join (s := 32) (S := []) (by decide +kernel) (by decide +kernel) (by simp) ?_
  intro p hp
  simp at hp
  rcases hp with rfl | rfl | rfl | rfl
  · exact txt_nosp ha
  · exact txt_nosp hb
  · exact txt_nosp hc
  · exact txt_nosp hd
theorem log_ok {n : Int} (h : 0 ≤ n) (h2 : n ≤ E60) : n.natAbs.log2 < 1920 := by
  have h3 : n.natAbs < 2 ^ 1920 := by
    simp [E60] at h2
    have : n.natAbs ≤ 1000000000000000000000000000000000000000000000000000000000000 := by omega
    exact Nat.lt_of_le_of_lt this (by decide +kernel)
  by_cases h0 : n.natAbs = 0
  · rw [h0]
    decide
  · exact (Nat.log2_lt h0).mpr h3
theorem r_strI {n : Int} {H : Hp} {Q : VK} (h0 : 0 ≤ n) (h1 : n ≤ E60) (h : Q (.str (txt n)) H) : rStrQ [.int n] H Q := ⟨n, rfl, log_ok h0 h1, h⟩
/-- a move's four numbers -/
structure Mv where
  t : Int
  h : Int
  f : Int
  u : Int
deriving DecidableEq
def Mv.vs (m : Mv) : List V := [.int m.t, .int m.h, .int m.f, .int m.u]
structure Mv.Ok (m : Mv) : Prop where
  t1 : 1 ≤ m.t
  t2 : m.t ≤ E60
  h1 : 0 ≤ m.h
  h2 : m.h ≤ E60
  f1 : 1 ≤ m.f
  f2 : m.f ≤ E60
  u1 : 0 ≤ m.u
  u2 : m.u ≤ E60
def spWritten : Sp := fun vs H Q _ => ∃ (p : Addr) (m : Mv), vs = [.ref p] ∧ H p = some (.tup m.vs) ∧ m.Ok ∧ ∀ H', Same H H' → Q (.str (Txt.join " " [txt m.t, txt m.h, txt m.f, txt m.u])) H'
def spSameMove : Sp := fun vs H Q _ => ∃ (p q : Addr) (m : Mv), vs = [.ref p, .ref q] ∧ H p = some (.tup m.vs) ∧ H q = some (.tup m.vs) ∧ Q (.bl true) H
theorem c_sameMove {H : Hp} {p q : Addr} {m : Mv} {Q : VK} {E : XK} (hp : H p = some (.tup m.vs)) (hq : H q = some (.tup m.vs)) (h : Q (.bl true) H) : spSameMove [.ref p, .ref q] H Q E := ⟨p, q, m, rfl, hp, hq, h⟩
theorem len_app (x y : Str) : (x ++ y : Str).length = x.length + y.length := by
  rw [← tl_length, tl_append, List.length_append, tl_length, tl_length]
theorem join_four (a b c d : Str) : a ++ " " ++ b ++ " " ++ c ++ " " ++ d = Txt.join " " [a, b, c, d] := by
  refine ext_tl ?_
  rw [join_eq, tl_join]
  simp [tl_append, joinL]
theorem len_blank : (" " : Str).length = 1 := by decide +kernel
theorem c_written {H : Hp} {p : Addr} {m : Mv} {Q : VK} {E : XK} (hp : H p = some (.tup m.vs)) (ok : m.Ok) (h : ∀ H', Same H H' → Q (.str (Txt.join " " [txt m.t, txt m.h, txt m.f, txt m.u])) H') : spWritten [.ref p] H Q E := ⟨p, m, rfl, hp, ok, h⟩
/-- isinstance(e, c), e the error that a suite holds -/
def rIsEQ (K : PySem.W.Frag) (a : Addr) (cls : Value) (d : Option Addr) : List V → Hp → VK → Prop := fun xs H Q => ∃ D, cls = .ref D ∧ d = none ∧ ExcC K D ∧ rIsE K D a xs H Q
theorem call_isEQ {X : Cx} {a : Addr} {oe : Obj} {pn : List (Addr × Obj)} {cls : Value} {d : Option Addr} (hz : Zc cls d oe) (hf : ∃ vs, oe.data = .fields vs) : CallR (X.suite a ((a, oe) :: pn)) (.builtin "isinstance") (rIsEQ X.K a cls d) := by
  intro pins s σ H xs us Q I r h
  obtain ⟨D, rfl, rfl, hC, h⟩ := h
  exact call_isE hC hz hf pins s σ H xs us Q I r h
theorem kit_val {K : PySem.W.Frag} {D : Addr} (h : PySem.W.subIn K (.ref D) (.type "ValueError") = some true) : PySem.W.kitOne K (.ref D) (.type "ValueError") = some true := by
  have m : PySem.W.kitMeta "ValueError" = true := by decide +kernel
  show (if ((Value.ref D) == (Value.type "ValueError")) = true then some true else if PySem.W.kitMeta "ValueError" = true then PySem.W.subIn K (.ref D) (.type "ValueError") else none) = some true
  rw [m, h]
  split <;> rfl
theorem kit_own {K : PySem.W.Frag} {S C : Addr} {b : Bool} (h2 : PySem.W.isClsIn K S = true) (h3 : PySem.W.typeIn K (.ref S) = some (.type "type")) (h4 : PySem.W.subIn K (.ref C) (.ref S) = some b) (hb : (C = S → b = true)) : PySem.W.kitOne K (.ref C) (.ref S) = some b := by
  have e2 : ((PySem.W.clsIn K S).isSome && PySem.W.typeIn K (.ref S) == some (.type "type")) = true := by
    have h2' : (PySem.W.clsIn K S).isSome = true := h2
    rw [h2', h3] <;> rfl
  show (if (Value.ref C == Value.ref S) = true then some true else if ((PySem.W.clsIn K S).isSome && PySem.W.typeIn K (.ref S) == some (.type "type")) = true then PySem.W.subIn K (.ref C) (.ref S) else none) = some b
  by_cases e : C = S
  · rw [hb e, e]
    simp
  · rw [if_neg (by simpa using e), if_pos e2]
    exact h4
theorem r_isE {K : PySem.W.Frag} {a D : Addr} {c : V} {cv : Value} {b : Bool} {H : Hp} {Q : VK} (hC : ExcC K D) (hc : ∀ u, RelV c u → u = cv) (hk : PySem.W.kitOne K (.ref D) cv = some b) (h : Q (.bl b) H) : rIsEQ K a (.ref D) none [.ref a, c] H Q := ⟨D, rfl, rfl, hC, c, cv, b, rfl, hc, hk, h⟩
def spDue : Sp := fun vs H Q _ => ∃ z : Str, vs = [.str z] ∧ z.length ≤ 10000 ∧
  (∀ w1 w2 w3 w4 p H', Txt.split z " " = [w1, w2, w3, w4] → LineOk z → H p = none → Same H H' → H' p = some (.tup [.int (numV w1), .int (numV w2), .int (numV w3), .int (numV w4)]) → Q (.ref p) H') ∧ (¬ LineOk z → ∀ H', Same H H' → Q .non H')
def OkAt (ws : List Str) (k : Nat) : Prop := ∃ w, ws[k]? = some w ∧ OkW w ∧ 1 - (k : Int) % 2 ≤ numV w ∧ numV w ≤ E60
theorem line_iff {z : Str} {w1 w2 w3 w4 : Str} (h : Txt.split z " " = [w1, w2, w3, w4]) : LineOk z ↔ ∀ k < 4, OkAt [w1, w2, w3, w4] k := by
  constructor
  · rintro ⟨v1, v2, v3, v4, hv, o1, o2, o3, o4, b1, b3, c1, c2, c3, c4⟩
    rw [h] at hv
    simp at hv
    obtain ⟨rfl, rfl, rfl, rfl⟩ := hv
    intro k hk
    match k, hk with
    | 0, _ => exact ⟨_, rfl, o1, b1, c1⟩
    | 1, _ => exact ⟨_, rfl, o2, numV_nonneg _, c2⟩
    | 2, _ => exact ⟨_, rfl, o3, b3, c3⟩
    | 3, _ => exact ⟨_, rfl, o4, numV_nonneg _, c4⟩
  · intro H
    obtain ⟨v1, e1, o1, b1, c1⟩ := H 0 (by omega)
    obtain ⟨v2, e2, o2, b2, c2⟩ := H 1 (by omega)
    obtain ⟨v3, e3, o3, b3, c3⟩ := H 2 (by omega)
    obtain ⟨v4, e4, o4, b4, c4⟩ := H 3 (by omega)
    simp at e1 e2 e3 e4
    subst e1 e2 e3 e4
    exact ⟨_, _, _, _, h, o1, o2, o3, o4, b1, b3, c1, c2, c3, c4⟩
def rRepSQ : R2 := fun x y H Q => ∃ (z : Str) (n : Int), x = .str z ∧ y = .int n ∧ PySem.MulOk z n ∧ Q (.str (PySem.Txt.mul z n)) H
theorem op_repSQ {X : Cx} : OpR X (binaryOp .Mult) rRepSQ := by
  intro pins s σ H x y v u Q I rx ry h
  obtain ⟨i, j, rfl, rfl, hz, q⟩ := h
  obtain ⟨t, rfl⟩ := rx
  obtain ⟨t', rfl⟩ := ry
  exact PySem.SB.mul hz (fun t' tk => ⟨.str (PySem.Txt.mul i j), H, I.tok _, ⟨_, rfl⟩, q⟩)
theorem foldl_size (x : Array Nat) : ∀ (n : Nat) (acc : Array Nat), ((List.replicate n x).foldl (· ++ ·) acc).size = acc.size + n * x.size
  | 0, acc => by simp
  | n + 1, acc => by
    rw [List.replicate_succ, List.foldl_cons, foldl_size x n (acc ++ x), Array.size_append, Nat.succ_mul]
    omega
theorem mul_len {z : Str} {n : Int} (h : z.length = 1) : (PySem.Txt.mul z n).length ≤ n.toNat + 1 := by
  unfold PySem.Txt.mul
  split
  · exact Nat.zero_le _
  · split
    · rw [h]
      omega
    · show ((List.replicate n.toNat z.cps).foldl (· ++ ·) #[]).size ≤ n.toNat + 1
      rw [foldl_size]
      have : z.cps.size = 1 := h
      rw [this]
      simp
theorem r_repS {z : Str} {n : Int} {H : Hp} {Q : VK} (h1 : z.length = 1) (h2 : 1 < n) (h3 : n ≤ 100000) (h : ∀ y : Str, y.length ≤ n.toNat + 1 → Q (.str y) H) : rRepSQ (.str z) (.int n) H Q := by
  refine ⟨z, n, rfl, rfl, ⟨by simp; omega, fun _ _ => ?_, fun _ _ => ?_⟩, h _ (mul_len h1)⟩
  · rw [h1]
    have : 1 ≤ (2 ^ 63 - 1) / n := by
      rw [Int.le_ediv_iff_mul_le (by omega)]
      omega
    omega
  · rw [h1]
    unfold PySem.Builtin.Str.tooLong
    have : (1 * n.toNat : Nat) ≤ sizeLine := Nat.le_trans (show 1 * n.toNat ≤ 1000000 by omega) (by decide)
    simp at this ⊢
    omega
theorem at_some {α : Type} {xs : List α} {i : Int} (h0 : 0 ≤ i) (h : i < xs.length) : ∃ v, v ∈ xs ∧ atI xs i = some v := by
  have hk : i.toNat < xs.length := by omega
  refine ⟨xs[i.toNat], List.getElem_mem _, ?_⟩
  have e := atI_nat (xs := xs) (j := i.toNat) (v := xs[i.toNat]) (List.getElem?_eq_getElem hk)
  rwa [Int.toNat_of_nonneg h0] at e
theorem r_strB {n : Int} {H : Hp} {Q : VK} (h0 : 0 ≤ n) (h1 : n ≤ E60 + 1) (h : ∀ z : Str, z.length ≤ 100 → Q (.str z) H) : rStrQ [.int n] H Q := by
  have hb : n.natAbs ≤ 1000000000000000000000000000000000000000000000000000000000001 := by
    simp only [E60] at h1
    omega
  have h3 : n.natAbs.log2 < 1920 := by
    by_cases h0 : n.natAbs = 0
    · rw [h0]
      decide
    · exact (Nat.log2_lt h0).mpr (Nat.lt_of_le_of_lt hb (by decide +kernel))
  refine ⟨n, rfl, h3, h (txt n) ?_⟩
  rw [← tl_length, tl_txt h0]
  exact Nat.le_trans (numL_len (k := 61) (by decide) (Nat.lt_of_le_of_lt (show n.toNat ≤ 1000000000000000000000000000000000000000000000000000000000001 by omega) (by decide))) (by decide)
theorem c_read {C : Addr} {H : Hp} {z : Str} {Q : VK} {E : XK} (hl : z.length ≤ 10000) (h1 : ∀ w1 w2 w3 w4 p H', Txt.split z " " = [w1, w2, w3, w4] → LineOk z → H p = none → Same H H' → H' p = some (.tup [.int (numV w1), .int (numV w2), .int (numV w3), .int (numV w4)]) → Q (.ref p) H') (h2 : ¬ LineOk z → ∀ H', Same H H' → E (.ref C) none H') : spRead C [.str z] H Q E := ⟨z, rfl, hl, h1, h2⟩
theorem c_due {H : Hp} {z : Str} {Q : VK} {E : XK} (hl : z.length ≤ 10000) (h1 : ∀ w1 w2 w3 w4 p H', Txt.split z " " = [w1, w2, w3, w4] → LineOk z → H p = none → Same H H' → H' p = some (.tup [.int (numV w1), .int (numV w2), .int (numV w3), .int (numV w4)]) → Q (.ref p) H') (h2 : ¬ LineOk z → ∀ H', Same H H' → Q .non H') : spDue [.str z] H Q E := ⟨z, rfl, hl, h1, h2⟩
theorem r_ixL_any {K : PySem.W.Frag} {H : Hp} {Q : VK} {p : Addr} {xs : List V} {i : Int} (hs : SqL K H p xs) (h0 : 0 ≤ i) (h1 : i < xs.length) (h : ∀ v ∈ xs, Q v H) : rIxL K (.ref p) (.int i) H Q := by
  obtain ⟨v, hv, ha⟩ := at_some h0 h1
  exact r_ixL hs ha (h v hv)
theorem cutS_len (z : Str) (lo hi : Option Int) : (cutS z lo hi).length ≤ z.length := by
  rw [← tl_length, ← tl_length]
  show ((((z.cps.toList.drop _).take _).toArray).toList).length ≤ z.cps.toList.length
  rw [List.length_take, List.length_drop]
  omega
theorem join_len4 {xs : List Str} (hx : xs.length = 4) (hb : ∀ z ∈ xs, z.length ≤ 101) : (xs.map (·.length)).sum + xs.length * (" " : Str).length ≤ 16777216 ∧ (Txt.join " " xs).length ≤ 500 ∧ 3 ≤ (Txt.join " " xs).length := by
  match xs, hx with
  | [a, b, c, d], _ =>
    have h1 := hb a (by simp)
    have h2 := hb b (by simp)
    have h3 := hb c (by simp)
    have h4 := hb d (by simp)
    rw [← join_four]
    simp only [len_app, len_blank, List.map_cons, List.map_nil, List.sum_cons, List.sum_nil, List.length_cons, List.length_nil]
    omega
theorem len_one (c : Nat) : (⟨#[c]⟩ : Str).length = 1 := rfl
theorem len_zero : ("0" : Str).length = 1 := by decide +kernel
def rIsNQ : R2 := fun x y H Q => y = .non ∧ Q (.bl (decide (x = .non))) H
def rNotNQ : R2 := fun x y H Q => y = .non ∧ Q (.bl (!decide (x = .non))) H
theorem op_isNQ {X : Cx} : OpR X (compareOp .Is) rIsNQ := op_isN
theorem op_notNQ {X : Cx} : OpR X (compareOp .IsNot) rNotNQ := op_notN
section
variable {H : Hp} {Q : VK} {p : Addr} {i : Int} {b : Bool} {z : Str}
instance : Step (rIsNQ .non .non H Q) (Q (.bl true) H) := ⟨fun h => ⟨rfl, h⟩⟩
instance : Step (rIsNQ (.ref p) .non H Q) (Q (.bl false) H) := ⟨fun h => ⟨rfl, h⟩⟩
instance : Step (rIsNQ (.int i) .non H Q) (Q (.bl false) H) := ⟨fun h => ⟨rfl, h⟩⟩
instance : Step (rIsNQ (.bl b) .non H Q) (Q (.bl false) H) := ⟨fun h => ⟨rfl, h⟩⟩
instance : Step (rIsNQ (.str z) .non H Q) (Q (.bl false) H) := ⟨fun h => ⟨rfl, h⟩⟩
instance : Step (rNotNQ .non .non H Q) (Q (.bl false) H) := ⟨fun h => ⟨rfl, h⟩⟩
instance : Step (rNotNQ (.ref p) .non H Q) (Q (.bl true) H) := ⟨fun h => ⟨rfl, h⟩⟩
end
end Tm
namespace Tm
open PySem PySem.Spec PyProof.Rows L2
/-! moves in the told order -/
def aheadB (t1 h1 t2 h2 : Int) : Bool := if t1 = t2 then decide (h1 < h2) else decide (t1 < t2)
def spAhead (K : PySem.W.Frag) : Sp := fun vs H Q _ => ∃ (p p2 : Addr) (t1 h1 t2 h2 : Int) (x1 y1 x2 y2 : V), vs = [.ref p, .ref p2] ∧ SqT K H p [.int t1, .int h1, x1, y1] ∧ SqT K H p2 [.int t2, .int h2, x2, y2] ∧ Q (.bl (aheadB t1 h1 t2 h2)) H
theorem c_ahead {K : PySem.W.Frag} {H : Hp} {p p2 : Addr} {t1 h1 t2 h2 : Int} {x1 y1 x2 y2 : V} {Q : VK} {E : XK} (S1 : SqT K H p [.int t1, .int h1, x1, y1]) (S2 : SqT K H p2 [.int t2, .int h2, x2, y2]) (h : Q (.bl (aheadB t1 h1 t2 h2)) H) : spAhead K [.ref p, .ref p2] H Q E := ⟨p, p2, t1, h1, t2, h2, x1, y1, x2, y2, rfl, S1, S2, h⟩
/-- ahead in the told order -/
def Bef (a b : Mv) : Prop := a.t < b.t ∨ (a.t = b.t ∧ a.h < b.h)
instance (a b : Mv) : Decidable (Bef a b) := inferInstanceAs (Decidable (_ ∨ _))
theorem aheadB_bef (a b : Mv) : aheadB a.t a.h b.t b.h = decide (Bef a b) := by
  unfold aheadB
  by_cases e : a.t = b.t
  · rw [if_pos e]
    by_cases c : a.h < b.h
    · rw [decide_eq_true c, decide_eq_true (show Bef a b from .inr ⟨e, c⟩)]
    · rw [decide_eq_false c, decide_eq_false (show ¬ Bef a b by unfold Bef; omega)]
  · rw [if_neg e]
    by_cases c : a.t < b.t
    · rw [decide_eq_true c, decide_eq_true (show Bef a b from .inl c)]
    · rw [decide_eq_false c, decide_eq_false (show ¬ Bef a b by unfold Bef; omega)]
/-- of one time and hand -/
def SameK (a b : Mv) : Prop := a.t = b.t ∧ a.h = b.h
instance (a b : Mv) : Decidable (SameK a b) := inferInstanceAs (Decidable (_ ∧ _))
theorem Bef.trans {a b c : Mv} (h : Bef a b) (g : Bef b c) : Bef a c := by unfold Bef at *; omega
theorem bef_three (a b : Mv) (h : ¬ Bef a b) (g : ¬ Bef b a) : SameK a b := by unfold Bef at *; unfold SameK; omega
theorem Bef.not_key {a b : Mv} (h : Bef a b) : ¬ SameK a b := by unfold Bef SameK at *; omega
theorem Bef.not_key' {a b : Mv} (h : Bef a b) : ¬ SameK b a := by unfold Bef SameK at *; omega
theorem Bef.asym {a b : Mv} (h : Bef a b) : ¬ Bef b a := by unfold Bef at *; omega
theorem Bef.key {a b c : Mv} (h : Bef a b) (k : SameK b c) : Bef a c := by unfold Bef SameK at *; omega
/-- how many are ahead -/
def posM (m : Mv) (ms : List Mv) : Nat := (ms.takeWhile fun x => decide (Bef x m)).length
theorem posM_nil (m : Mv) : posM m [] = 0 := rfl
theorem posM_pos {m x : Mv} {r : List Mv} (h : Bef x m) : posM m (x :: r) = posM m r + 1 := by
  unfold posM
  rw [List.takeWhile_cons_of_pos (by simpa using h)]
  rfl
theorem posM_neg {m x : Mv} {r : List Mv} (h : ¬ Bef x m) : posM m (x :: r) = 0 := by
  unfold posM
  rw [List.takeWhile_cons_of_neg (by simpa using h)]
  rfl
theorem posM_le (m : Mv) : ∀ ms : List Mv, posM m ms ≤ ms.length
  | [] => Nat.le_refl _
  | x :: r => by
    by_cases h : Bef x m
    · rw [posM_pos h]
      have := posM_le m r
      simp
      omega
    · rw [posM_neg h]
      omega
theorem posM_lt {m x : Mv} : ∀ {ms : List Mv} {i : Nat}, i < posM m ms → ms[i]? = some x → Bef x m
  | [], i, h, _ => by rw [posM_nil] at h; omega
  | y :: r, i, h, e => by
    by_cases c : Bef y m
    · rw [posM_pos c] at h
      cases i with
      | zero =>
        simp at e
        exact e ▸ c
      | succ i => exact posM_lt (ms := r) (i := i) (by omega) (by simpa using e)
    · rw [posM_neg c] at h
      omega
theorem posM_at {m x : Mv} : ∀ {ms : List Mv}, ms[posM m ms]? = some x → ¬ Bef x m
  | [], e => by simp at e
  | y :: r, e => by
    by_cases c : Bef y m
    · rw [posM_pos c] at e
      exact posM_at (ms := r) (by simpa using e)
    · rw [posM_neg c] at e
      simp at e
      exact e ▸ c
theorem posM_up {m x : Mv} {ms : List Mv} {i : Nat} (h : i ≤ posM m ms) (e : ms[i]? = some x) (b : Bef x m) : i + 1 ≤ posM m ms := by
  by_cases c : i = posM m ms
  · rw [c] at e
    exact (posM_at e b).elim
  · omega
theorem posM_end {m x : Mv} {ms : List Mv} {i : Nat} (h : i ≤ posM m ms) (e : ms[i]? = some x) (b : ¬ Bef x m) : i = posM m ms := by
  by_cases c : i < posM m ms
  · exact (b (posM_lt c e)).elim
  · omega
theorem posM_full {m : Mv} {ms : List Mv} {i : Nat} (h : i ≤ posM m ms) (e : ¬ i < ms.length) : i = posM m ms := by
  have := posM_le m ms
  omega
/-- put in where it belongs -/
def insA {α : Type} (n : Nat) (x : α) (l : List α) : List α := l.take n ++ [x] ++ l.drop n
theorem insA_map {α β : Type} (f : α → β) (n : Nat) (x : α) (l : List α) : (insA n x l).map f = insA n (f x) (l.map f) := by
  simp [insA, List.map_take, List.map_drop]
theorem insA_length {α : Type} (n : Nat) (x : α) (l : List α) : (insA n x l).length = l.length + 1 := by
  simp [insA]
  omega
theorem mem_insA {α : Type} {n : Nat} {x y : α} {l : List α} : y ∈ insA n x l ↔ y = x ∨ y ∈ l := by
  have h : y ∈ l ↔ y ∈ l.take n ∨ y ∈ l.drop n := by
    rw [← List.mem_append, List.take_append_drop]
  rw [h]
  simp [insA]
  constructor
  · rintro (h | h | h)
    · exact .inr (.inl h)
    · exact .inl h
    · exact .inr (.inr h)
  · rintro (h | h | h)
    · exact .inr (.inl h)
    · exact .inl h
    · exact .inr (.inr h)
def insM (m : Mv) (ms : List Mv) : List Mv := insA (posM m ms) m ms
/-- in the told order -/
def Srt (ms : List Mv) : Prop := ms.Pairwise Bef
def NewM (m : Mv) (ms : List Mv) : Prop := ∀ x ∈ ms, ¬ SameK x m
def ClashM (m : Mv) (ms : List Mv) : Prop := ∃ x ∈ ms, SameK x m ∧ x ≠ m
theorem Srt.nil : Srt [] := List.Pairwise.nil
theorem insM_cons_pos {m x : Mv} {r : List Mv} (h : Bef x m) : insM m (x :: r) = x :: insM m r := by
  unfold insM insA
  rw [posM_pos h]
  rfl
theorem insM_cons_neg {m x : Mv} {r : List Mv} (h : ¬ Bef x m) : insM m (x :: r) = m :: x :: r := by
  unfold insM insA
  rw [posM_neg h]
  rfl
theorem mem_insM {m y : Mv} {ms : List Mv} : y ∈ insM m ms ↔ y = m ∨ y ∈ ms := mem_insA
theorem insM_length (m : Mv) (ms : List Mv) : (insM m ms).length = ms.length + 1 := insA_length _ _ _
theorem Srt.ins {m : Mv} : ∀ {ms : List Mv}, Srt ms → NewM m ms → Srt (insM m ms)
  | [], _, _ => List.pairwise_singleton _ _
  | x :: r, h, n => by
    obtain ⟨h1, h2⟩ := List.pairwise_cons.mp h
    by_cases c : Bef x m
    · rw [insM_cons_pos c]
      refine List.pairwise_cons.mpr ⟨fun y hy => ?_, Srt.ins h2 fun y hy => n y (List.mem_cons_of_mem _ hy)⟩
      rcases mem_insM.mp hy with rfl | hy
      · exact c
      · exact h1 y hy
    · rw [insM_cons_neg c]
      have b : Bef m x := by
        by_cases d : Bef m x
        · exact d
        · exact (n x List.mem_cons_self (bef_three x m c d)).elim
      refine List.pairwise_cons.mpr ⟨fun y hy => ?_, h⟩
      rcases List.mem_cons.mp hy with rfl | hy
      · exact b
      · exact b.trans (h1 y hy)
theorem srt_at {ms : List Mv} (h : Srt ms) {i j : Nat} {x y : Mv} (hi : ms[i]? = some x) (hj : ms[j]? = some y) (l : i < j) : Bef x y := by
  obtain ⟨h1, e1⟩ := List.getElem?_eq_some_iff.mp hi
  obtain ⟨h2, e2⟩ := List.getElem?_eq_some_iff.mp hj
  rw [← e1, ← e2]
  exact List.pairwise_iff_getElem.mp h i j h1 h2 l
/-- none of that time and hand -/
theorem new_of {m : Mv} {ms : List Mv} (h : Srt ms) (e : ∀ x, ms[posM m ms]? = some x → Bef m x) : NewM m ms := by
  intro y hy
  obtain ⟨i, hi⟩ := List.getElem?_of_mem hy
  by_cases c : i < posM m ms
  · exact (posM_lt c hi).not_key
  · obtain ⟨hl, _⟩ := List.getElem?_eq_some_iff.mp hi
    have hl : posM m ms < ms.length := by omega
    have hx := List.getElem?_eq_getElem hl
    have b := e _ hx
    by_cases d : i = posM m ms
    · rw [d, hx] at hi
      rw [← Option.some.inj hi]
      exact b.not_key'
    · exact (b.trans (srt_at h hx hi (by omega))).not_key'
theorem old_of {m x : Mv} {ms : List Mv} (e : ms[posM m ms]? = some x) (b : ¬ Bef m x) : SameK x m := bef_three x m (posM_at e) b
/-- just one of a time and hand -/
theorem one_key {ms : List Mv} (h : Srt ms) {x y : Mv} (hx : x ∈ ms) (hy : y ∈ ms) (k : SameK x y) : x = y := by
  obtain ⟨i, hi⟩ := List.getElem?_of_mem hx
  obtain ⟨j, hj⟩ := List.getElem?_of_mem hy
  rcases Nat.lt_trichotomy i j with c | c | c
  · exact ((srt_at h hi hj c).not_key k).elim
  · subst c
    rw [hi] at hj
    exact Option.some.inj hj
  · exact ((srt_at h hj hi c).not_key' k).elim
theorem SameK.refl (m : Mv) : SameK m m := ⟨rfl, rfl⟩
theorem clash_of {m x : Mv} {ms : List Mv} (e : ms[posM m ms]? = some x) (b : ¬ Bef m x) (n : x ≠ m) : ClashM m ms := ⟨x, List.mem_of_getElem? e, old_of e b, n⟩
theorem three {m : Mv} {ms : List Mv} (h : Srt ms) : NewM m ms ∨ ClashM m ms ∨ m ∈ ms := by
  by_cases c : ∃ x, ms[posM m ms]? = some x ∧ ¬ Bef m x
  · obtain ⟨x, e, b⟩ := c
    by_cases d : x = m
    · subst d
      exact .inr (.inr (List.mem_of_getElem? e))
    · exact .inr (.inl (clash_of e b d))
  · exact .inl (new_of h fun x e => Classical.byContradiction fun b => c ⟨x, e, b⟩)
theorem new_not_mem {m : Mv} {ms : List Mv} (h : NewM m ms) : m ∉ ms := fun c => h m c (SameK.refl m)
theorem new_not_clash {m : Mv} {ms : List Mv} (h : NewM m ms) : ¬ ClashM m ms := fun ⟨x, hx, k, _⟩ => h x hx k
theorem mem_not_clash {m : Mv} {ms : List Mv} (h : Srt ms) (c : m ∈ ms) : ¬ ClashM m ms := fun ⟨_, hx, k, n⟩ => n (one_key h hx c k)
theorem Srt.drop {ms : List Mv} (h : Srt ms) (n : Nat) : Srt (ms.drop n) := List.Pairwise.sublist (List.drop_sublist n ms) h
/-! moves in the heap -/
def MvsAt (H : Hp) (as : List Addr) (ms : List Mv) : Prop := as.map H = ms.map fun m => some (.tup m.vs)
theorem MvsAt.length {H : Hp} {as : List Addr} {ms : List Mv} (h : MvsAt H as ms) : as.length = ms.length := by
  have := congrArg List.length h
  simpa using this
theorem MvsAt.nil {H : Hp} : MvsAt H [] [] := rfl
theorem MvsAt.at {H : Hp} {as : List Addr} {ms : List Mv} (h : MvsAt H as ms) {i : Nat} {a : Addr} {m : Mv} (ha : as[i]? = some a) (hm : ms[i]? = some m) : H a = some (.tup m.vs) := by
  have e : (as.map H)[i]? = (ms.map fun m => some (HO.tup m.vs))[i]? := by rw [h]
  rw [List.getElem?_map, List.getElem?_map, ha, hm] at e
  exact Option.some.inj e
theorem MvsAt.at_a {H : Hp} {as : List Addr} {ms : List Mv} (h : MvsAt H as ms) {i : Nat} {a : Addr} (ha : as[i]? = some a) : ∃ m, ms[i]? = some m ∧ H a = some (.tup m.vs) := by
  obtain ⟨hl, _⟩ := List.getElem?_eq_some_iff.mp ha
  have hl' : i < ms.length := by rw [← h.length]; exact hl
  have hm := List.getElem?_eq_getElem hl'
  exact ⟨_, hm, h.at ha hm⟩
theorem MvsAt.at_m {H : Hp} {as : List Addr} {ms : List Mv} (h : MvsAt H as ms) {i : Nat} {m : Mv} (hm : ms[i]? = some m) : ∃ a, as[i]? = some a ∧ H a = some (.tup m.vs) := by
  obtain ⟨hl, _⟩ := List.getElem?_eq_some_iff.mp hm
  have hl' : i < as.length := by rw [h.length]; exact hl
  have ha := List.getElem?_eq_getElem hl'
  exact ⟨_, ha, h.at ha hm⟩
theorem MvsAt.mem {H : Hp} {as : List Addr} {ms : List Mv} (h : MvsAt H as ms) {a : Addr} (ha : a ∈ as) : ∃ m ∈ ms, H a = some (.tup m.vs) := by
  obtain ⟨i, hi⟩ := List.getElem?_of_mem ha
  obtain ⟨m, hm, e⟩ := h.at_a hi
  exact ⟨m, List.mem_of_getElem? hm, e⟩
theorem MvsAt.of {H H' : Hp} {as : List Addr} {ms : List Mv} (h : MvsAt H as ms) (k : ∀ a vs, H a = some (.tup vs) → H' a = some (.tup vs)) : MvsAt H' as ms := by
  unfold MvsAt at *
  rw [← h]
  refine List.map_congr_left fun a ha => ?_
  obtain ⟨m, _, e⟩ := MvsAt.mem (ms := ms) h ha
  rw [e, k a _ e]
theorem MvsAt.same {H H' : Hp} {as : List Addr} {ms : List Mv} (h : MvsAt H as ms) (s : Same H H') : MvsAt H' as ms := h.of fun a vs e => s _ _ e
theorem MvsAt.take {H : Hp} {as : List Addr} {ms : List Mv} (h : MvsAt H as ms) (n : Nat) : MvsAt H (as.take n) (ms.take n) := by
  unfold MvsAt at *
  rw [List.map_take, List.map_take, h]
theorem MvsAt.drop {H : Hp} {as : List Addr} {ms : List Mv} (h : MvsAt H as ms) (n : Nat) : MvsAt H (as.drop n) (ms.drop n) := by
  unfold MvsAt at *
  rw [List.map_drop, List.map_drop, h]
theorem MvsAt.ins {H : Hp} {as : List Addr} {ms : List Mv} {a : Addr} {m : Mv} (h : MvsAt H as ms) (e : H a = some (.tup m.vs)) (n : Nat) : MvsAt H (insA n a as) (insA n m ms) := by
  unfold MvsAt at *
  rw [insA_map, insA_map, h, e]
theorem MvsAt.snoc {H : Hp} {as : List Addr} {ms : List Mv} {a : Addr} {m : Mv} (h : MvsAt H as ms) (e : H a = some (.tup m.vs)) : MvsAt H (as ++ [a]) (ms ++ [m]) := by
  unfold MvsAt at *
  rw [List.map_append, List.map_append, h]
  simp [e]
/-! logs in the heap -/
/-- a log: settled with s, come to t ahead of what is kept -/
structure Lg where
  b : Addr
  l : Addr
  dx : Addr
  s : Int
  t : Tr
  as : List Addr
  ms : List Mv
def lgF (b l : Addr) (s : Int) : List (Str × V) := [("since", .int s), ("base", .ref b), ("kept", .ref l)]
structure LogAt (C : Addr) (H : Hp) (p : Addr) (g : Lg) : Prop where
  hp : H p = some (.ins C g.dx (lgF g.b g.l g.s))
  hb : H g.b = some (.dK (enc g.t))
  hl : H g.l = some (.lst (g.as.map V.ref))
  hm : MvsAt H g.as g.ms
theorem LogAt.of {C : Addr} {H H' : Hp} {p : Addr} {g : Lg} (h : LogAt C H p g) (k : ∀ b o, H b = some o → (∀ vs, o = .tup vs → H' b = some o)) (hp : H' p = H p) (hb : H' g.b = H g.b) (hl : H' g.l = H g.l) : LogAt C H' p g :=
  ⟨by rw [hp]; exact h.hp, by rw [hb]; exact h.hb, by rw [hl]; exact h.hl, h.hm.of fun a vs e => k a _ e vs rfl⟩
theorem LogAt.same {C : Addr} {H H' : Hp} {p : Addr} {g : Lg} (h : LogAt C H p g) (s : Same H H') : LogAt C H' p g := ⟨s _ _ h.hp, s _ _ h.hb, s _ _ h.hl, h.hm.same s⟩
theorem lk_since {b l : Addr} {s : Int} : (lgF b l s).lookup ("since" : Str) = some (.int s) := by first | rfl | decide +kernel | simp [lgF]
theorem lk_base {b l : Addr} {s : Int} : (lgF b l s).lookup ("base" : Str) = some (.ref b) := by first | rfl | simp [lgF, List.lookup]
theorem lk_kept {b l : Addr} {s : Int} : (lgF b l s).lookup ("kept" : Str) = some (.ref l) := by first | rfl | simp [lgF, List.lookup]
theorem put_since {b l : Addr} {s s' : Int} : putF ("since" : Str) (.int s') (lgF b l s) = lgF b l s' := by first | rfl | simp [lgF, putF]
theorem put_base {b l b' : Addr} {s : Int} : putF ("base" : Str) (.ref b') (lgF b l s) = lgF b' l s := by first | rfl | simp [lgF, putF]
theorem put_kept {b l l' : Addr} {s : Int} : putF ("kept" : Str) (.ref l') (lgF b l s) = lgF b l' s := by first | rfl | simp [lgF, putF]
theorem put_init {b l : Addr} : putF ("kept" : Str) (.ref l) (putF ("base" : Str) (.ref b) (putF ("since" : Str) (.int 0) [])) = lgF b l 0 := by first | rfl | simp [lgF, putF]
theorem no_place {b l : Addr} {s : Int} : (lgF b l s).lookup ("place_of" : Str) = none := by first | rfl | simp [lgF, List.lookup]
theorem no_hear {b l : Addr} {s : Int} : (lgF b l s).lookup ("hear" : Str) = none := by first | rfl | simp [lgF, List.lookup]
theorem no_moves {b l : Addr} {s : Int} : (lgF b l s).lookup ("moves" : Str) = none := by first | rfl | simp [lgF, List.lookup]
theorem no_tree {b l : Addr} {s : Int} : (lgF b l s).lookup ("tree" : Str) = none := by first | rfl | simp [lgF, List.lookup]
theorem no_steps {b l : Addr} {s : Int} : (lgF b l s).lookup ("steps" : Str) = none := by first | rfl | simp [lgF, List.lookup]
theorem no_settle {b l : Addr} {s : Int} : (lgF b l s).lookup ("settle" : Str) = none := by first | rfl | simp [lgF, List.lookup]
/-- nothing but p is changed -/
def SameP (p : Addr) (H H' : Hp) : Prop := ∀ b o, b ≠ p → H b = some o → H' b = some o
theorem SameP.refl (p : Addr) (H : Hp) : SameP p H H := fun _ _ _ e => e
theorem SameP.of {p : Addr} {H H' : Hp} (s : Same H H') : SameP p H H' := fun b o _ e => s b o e
theorem SameP.trans {p : Addr} {H H' H2 : Hp} (s : SameP p H H') (s2 : SameP p H' H2) : SameP p H H2 := fun b o n e => s2 b o n (s b o n e)
theorem SameP.mut {p : Addr} {H H' : Hp} {o : HO} (s : SameP p H H') : SameP p H (upd H' p o) := fun b u n e => by
  rw [upd_ne n]
  exact s b u n e
theorem SameP.new {p q : Addr} {H H' : Hp} {o : HO} (s : SameP p H H') (h : H' q = none) : SameP p H (upd H' q o) := fun b u n e => keep (s b u n e) h
def lg0 (b l dx : Addr) : Lg := ⟨b, l, dx, 0, [], [], []⟩
def spLogInit (C : Addr) : Sp := fun vs H Q _ => ∃ (p dx : Addr), vs = [.ref p] ∧ H p = some (.ins C dx []) ∧ ∀ b l H', H b = none → H l = none → SameP p H H' → LogAt C H' p (lg0 b l dx) → Q .non H'
def spPlace (C : Addr) : Sp := fun vs H Q _ => ∃ (p : Addr) (g : Lg) (a : Addr) (m : Mv), vs = [.ref p, .ref a] ∧ LogAt C H p g ∧ H a = some (.tup m.vs) ∧ g.as.length ≤ 100000 ∧ Q (.int (posM m g.ms : Nat)) H
def BadMv (H : Hp) (x : V) : Prop := (∃ (p : Addr) (xs : List V), x = .ref p ∧ H p = some (.tup xs) ∧ (∀ y ∈ xs, KnownV H y) ∧ moveB xs = false) ∨ (KnownV H x ∧ ∀ p xs, x = .ref p → H p ≠ some (.tup xs))
def Lg.heard (g : Lg) (a : Addr) (m : Mv) : Lg := { g with as := insA (posM m g.ms) a g.as, ms := insM m g.ms }
def spHear (C N T X : Addr) : Sp := fun vs H Q E => ∃ (p : Addr) (g : Lg) (x : V), vs = [.ref p, x] ∧ LogAt C H p g ∧ Srt g.ms ∧ g.as.length ≤ 100000 ∧
  ((BadMv H x ∧ E (.ref N) none H) ∨ ∃ (a : Addr) (m : Mv), x = .ref a ∧ H a = some (.tup m.vs) ∧ m.Ok ∧ (m.t < g.s → E (.ref T) none H) ∧ (g.s ≤ m.t → ClashM m g.ms → E (.ref X) none H) ∧ (g.s ≤ m.t → m ∈ g.ms → Q (.bl false) H) ∧
    (g.s ≤ m.t → NewM m g.ms → Q (.bl true) (upd H g.l (.lst ((g.heard a m).as.map V.ref)))))
def spMoves (C : Addr) : Sp := fun vs H Q _ => ∃ (p : Addr) (g : Lg), vs = [.ref p] ∧ LogAt C H p g ∧ ∀ l, H l = none → Q (.ref l) (upd H l (.lst (g.as.map V.ref)))
/-- how many are of lesser times, ahead -/
def goneM (time : Int) (ms : List Mv) : Nat := (ms.takeWhile fun m => decide (m.t < time)).length
noncomputable def foldT (t : Tr) (ms : List Mv) : Tr := ms.foldl (fun t m => putT t m.f m.u) t
noncomputable def Lg.settled (g : Lg) (b l : Addr) (time : Int) : Lg := ⟨b, l, g.dx, max g.s time, foldT g.t (g.ms.take (goneM time g.ms)), g.as.drop (goneM time g.ms), g.ms.drop (goneM time g.ms)⟩
def spSettle (C : Addr) : Sp := fun vs H Q _ => ∃ (p : Addr) (g : Lg) (time : Int), vs = [.ref p, .int time] ∧ LogAt C H p g ∧ Acyc g.t ∧ g.t.length + g.as.length ≤ 100000 ∧
  ∀ b l H', (b = g.b ∨ H b = none) → H l = none → SameP p H H' → LogAt C H' p (g.settled b l time) → Q (.int (goneM time g.ms : Nat)) H'
theorem LogAt.heard {C : Addr} {H : Hp} {p : Addr} {g : Lg} (h : LogAt C H p g) {a : Addr} {m : Mv} (e : H a = some (.tup m.vs)) : LogAt C (upd H g.l (.lst ((g.heard a m).as.map V.ref))) p (g.heard a m) := by
  have n1 : p ≠ g.l := fun c => by have z := h.hp; rw [c, h.hl] at z; cases z
  have n2 : g.b ≠ g.l := fun c => by have z := h.hb; rw [c, h.hl] at z; cases z
  refine ⟨keep_ne h.hp n1, keep_ne h.hb n2, upd_same, (h.hm.ins e _).of fun b vs eb => keep_ne eb fun c => ?_⟩
  rw [c, h.hl] at eb
  cases eb
theorem foldT_snoc (t : Tr) (ms : List Mv) (m : Mv) : foldT t (ms ++ [m]) = putT (foldT t ms) m.f m.u := by simp [foldT]
theorem foldT_nil (t : Tr) : foldT t [] = t := rfl
theorem Acyc.foldT {t : Tr} (h : Acyc t) : ∀ ms : List Mv, Acyc (foldT t ms) := by
  intro ms
  induction ms generalizing t with
  | nil => exact h
  | cons m r ih => exact ih (h.putT m.f m.u)
theorem Nd.foldT {t : Tr} (h : Nd t) : ∀ ms : List Mv, Nd (foldT t ms) := by
  intro ms
  induction ms generalizing t with
  | nil => exact h
  | cons m r ih => exact ih (h.putT m.f m.u)
theorem foldT_length : ∀ (t : Tr) (ms : List Mv), (foldT t ms).length ≤ t.length + ms.length
  | t, [] => Nat.le_refl _
  | t, m :: r => by
    have h1 := foldT_length (putT t m.f m.u) r
    have h2 := putT_length t m.f m.u
    show (foldT (putT t m.f m.u) r).length ≤ _
    simp
    omega
theorem goneM_le (time : Int) : ∀ ms : List Mv, goneM time ms ≤ ms.length
  | [] => Nat.le_refl _
  | x :: r => by
    unfold goneM
    have := goneM_le time r
    unfold goneM at this
    rw [List.takeWhile_cons]
    split
    · simp
      omega
    · simp
theorem goneM_lt {time : Int} {x : Mv} : ∀ {ms : List Mv} {i : Nat}, i < goneM time ms → ms[i]? = some x → x.t < time
  | [], i, h, _ => by simp [goneM] at h
  | y :: r, i, h, e => by
    unfold goneM at h
    rw [List.takeWhile_cons] at h
    by_cases c : y.t < time
    · rw [if_pos (by simpa using c)] at h
      cases i with
      | zero =>
        simp at e
        exact e ▸ c
      | succ i => exact goneM_lt (ms := r) (i := i) (by unfold goneM; simpa using h) (by simpa using e)
    · rw [if_neg (by simpa using c)] at h
      simp at h
theorem goneM_at {time : Int} {x : Mv} : ∀ {ms : List Mv}, ms[goneM time ms]? = some x → ¬ x.t < time
  | [], e => by simp at e
  | y :: r, e => by
    unfold goneM at e
    rw [List.takeWhile_cons] at e
    by_cases c : y.t < time
    · rw [if_pos (by simpa using c)] at e
      exact goneM_at (ms := r) (by unfold goneM; simpa using e)
    · rw [if_neg (by simpa using c)] at e
      simp at e
      exact e ▸ c
theorem goneM_up {time : Int} {x : Mv} {ms : List Mv} {i : Nat} (h : i ≤ goneM time ms) (e : ms[i]? = some x) (b : x.t < time) : i + 1 ≤ goneM time ms := by
  by_cases c : i = goneM time ms
  · rw [c] at e
    exact (goneM_at e b).elim
  · omega
theorem goneM_end {time : Int} {x : Mv} {ms : List Mv} {i : Nat} (h : i ≤ goneM time ms) (e : ms[i]? = some x) (b : ¬ x.t < time) : i = goneM time ms := by
  by_cases c : i < goneM time ms
  · exact (b (goneM_lt c e)).elim
  · omega
theorem goneM_full {time : Int} {ms : List Mv} {i : Nat} (h : i ≤ goneM time ms) (e : ¬ i < ms.length) : i = goneM time ms := by
  have := goneM_le time ms
  omega
theorem c_place {C : Addr} {H : Hp} {p a : Addr} {g : Lg} {m : Mv} {Q : VK} {E : XK} (L : LogAt C H p g) (e : H a = some (.tup m.vs)) (l : g.as.length ≤ 100000) (h : Q (.int (posM m g.ms : Nat)) H) : spPlace C [.ref p, .ref a] H Q E := ⟨p, g, a, m, rfl, L, e, l, h⟩
theorem c_moves {C : Addr} {H : Hp} {p : Addr} {g : Lg} {Q : VK} {E : XK} (L : LogAt C H p g) (h : ∀ l, H l = none → Q (.ref l) (upd H l (.lst (g.as.map V.ref)))) : spMoves C [.ref p] H Q E := ⟨p, g, rfl, L, h⟩
theorem c_settle {C : Addr} {H : Hp} {p : Addr} {g : Lg} {time : Int} {Q : VK} {E : XK} (L : LogAt C H p g) (hA : Acyc g.t) (hl : g.t.length + g.as.length ≤ 100000) (h : ∀ b l H', (b = g.b ∨ H b = none) → H l = none → SameP p H H' → LogAt C H' p (g.settled b l time) → Q (.int (goneM time g.ms : Nat)) H') : spSettle C [.ref p, .int time] H Q E := ⟨p, g, time, rfl, L, hA, hl, h⟩
theorem atR {H : Hp} {as : List Addr} {ms : List Mv} (h : MvsAt H as ms) {i : Nat} (hi : i < ms.length) : ∃ a m, atI (as.map V.ref) (i : Int) = some (.ref a) ∧ ms[i]? = some m ∧ as[i]? = some a ∧ H a = some (.tup m.vs) := by
  obtain ⟨a, ha, e⟩ := h.at_m (List.getElem?_eq_getElem hi)
  exact ⟨a, _, atI_nat (by rw [List.getElem?_map, ha]; rfl), List.getElem?_eq_getElem hi, ha, e⟩
theorem Mv.at0 (m : Mv) : atI m.vs 0 = some (.int m.t) := at_of (j := 0) rfl rfl
theorem Mv.at1 (m : Mv) : atI m.vs 1 = some (.int m.h) := at_of (j := 1) rfl rfl
theorem Mv.at2 (m : Mv) : atI m.vs 2 = some (.int m.f) := at_of (j := 2) rfl rfl
theorem Mv.at3 (m : Mv) : atI m.vs 3 = some (.int m.u) := at_of (j := 3) rfl rfl
/-- a move as data -/
def Mv.d (m : Mv) : PyData := .tuple [.int m.t, .int m.h, .int m.f, .int m.u]
theorem Mv.dp {K : PySem.W.Frag} {H : Hp} {a : Addr} {m : Mv} (h : H a = some (.tup m.vs)) : Dp K H (.ref a) m.d := .tup (SqT.of h) (.cons (.int _) (.cons (.int _) (.cons (.int _) (.cons (.int _) .nil))))
theorem Mv.sh (m : Mv) : SeqAt.shaped m.d = true := by
  show (m.d.canLay0 && decide (m.d.depth ≤ 64)) = true
  rw [Bool.and_eq_true]
  refine ⟨by simp [Mv.d, PyData.canLay0, PyData.canLayAll0], decide_eq_true (by simp [Mv.d, PyData.depth, PyData.depthAll])⟩
theorem Mv.eqv (m n : Mv) : PyData.eqv m.d n.d = decide (m = n) := by
  have e : PyData.eqv m.d n.d = ((m.t == n.t) && ((m.h == n.h) && ((m.f == n.f) && ((m.u == n.u) && true)))) := by simp only [Mv.d, PyData.eqv, PyData.eqvAll]
  rw [e]
  obtain ⟨a, b, c, d⟩ := m
  obtain ⟨a', b', c', d'⟩ := n
  simp only [Mv.mk.injEq]
  by_cases h1 : a = a' <;> by_cases h2 : b = b' <;> by_cases h3 : c = c' <;> by_cases h4 : d = d' <;> simp [h1, h2, h3, h4]
theorem r_neMv {K : PySem.W.Frag} {H : Hp} {Q : VK} {a b : Addr} {m n : Mv} (ha : H a = some (.tup m.vs)) (hb : H b = some (.tup n.vs)) (h : Q (.bl (!decide (m = n))) H) : rNeD K (.ref a) (.ref b) H Q := ⟨m.d, n.d, Mv.dp ha, Mv.dp hb, Mv.sh m, Mv.sh n, by rw [Mv.eqv]; exact h⟩
theorem moveB_of {m : Mv} (h : m.Ok) : moveB m.vs = true := by
  have := h.t1; have := h.t2; have := h.h1; have := h.h2; have := h.f1; have := h.f2; have := h.u1; have := h.u2
  simp [Mv.vs, moveB, isW, *]
theorem known_mv (H : Hp) (m : Mv) : ∀ y ∈ m.vs, KnownV H y := by
  intro y hy
  simp [Mv.vs] at hy
  rcases hy with rfl | rfl | rfl | rfl <;> trivial
theorem c_aheadM {K : PySem.W.Frag} {H : Hp} {a b : Addr} {m n : Mv} {Q : VK} {E : XK} (ha : H a = some (.tup m.vs)) (hb : H b = some (.tup n.vs)) (h : Q (.bl (decide (Bef m n))) H) : spAhead K [.ref a, .ref b] H Q E := c_ahead (SqT.of ha) (SqT.of hb) (by rw [aheadB_bef]; exact h)
end Tm
namespace Tm
open PySem PySem.Spec PyProof.Rows L2
/-! calls whose errors are taken here -/
section
variable {X : Cx} {CX : CXT} {k : Nat} {f C : Addr} {fd : FuncData} {ps : List Str} {sp : Sp} {E : L2.St → XK} {x m : Str} {p pos apos : Pos} {e o : Expr} {es : List Expr} {ta : TE} {t : TA}
def tMethS (C : Addr) (m : Str) (sp : Sp) (E : L2.St → XK) (ta : TE) (t : TA) : TE := fun σ H Q => ta σ H fun x H1 => ∃ a dx fs, x = .ref a ∧ H1 a = some (.ins C dx fs) ∧ fs.lookup m = none ∧
  t σ H1 fun vs H2 => sp (x :: vs) H2 Q (E σ)
def tMakeS (C : Addr) (sp : Sp) (E : L2.St → XK) (t : TA) : TE := fun σ H Q => t σ H fun vs H1 => ∀ x dx, H1 x = none → H1 dx = none → dx ≠ x →
  sp (.ref x :: vs) (upd (upd H1 dx (.own x)) x (.ins C dx [])) (fun v H2 => v = .non ∧ Q (.ref x) H2) (E σ)
theorem pe_methS {pl : Sem Bool} (he : PE X o ta) (c : Cls X.K C) (hm : Meth X.K C m f) (F : FnOk X.prog X.w X.K X.mg X.base CX k f fd ps sp) (hr : Room k X.A) (hb : Binds X.K fd ps []) (hx : ∀ σ, PassesAt CX X σ (E σ)) (ha : PA X (e :: es) t)
    (hst : starEach (e :: es) X.env = (false, eval e X.env) :: starEach es X.env := by rfl) (hpl : (backTo pos (starEach es X.env)).any (·.1) = false := by rfl)
    (ht : eval (.Call (.Attribute o m apos) (e :: es) [] pos) X.env = (do
      let ov ← eval o X.env
      standAt apos.atName
      let (f, first) ← holding [ov] (getMethod ov m pl)
      callWith pos f first (backTo pos (starEach (e :: es) X.env)) (backToKw pos (keywordEach [] X.env))) := by rfl) :
    PE X (.Call (.Attribute o m apos) (e :: es) [] pos) (tMethS C m sp E ta t) := by
  refine ⟨fun pins s σ H Q I h => ?_⟩
  refine PySem.W.methodCall_KW (pl := pl) (thn (he.run pins s σ H _ I h) fun u s1 ⟨x, H1, I1, rx, a, dx, fs, ex, ea, l, q⟩ => ?_) ht
  subst ex
  obtain rfl : u = Value.ref a := rx
  refine getmeth_ok I1 ea c hm l ?_
  refine PySem.W.callWith_K (first := [.ref a]) (h₀ := X.base) I.ok.mod.kin hm.kp (thn (ha.run pos pins s1 σ H1 _ I1 q) fun us s2 ⟨vs, H2, I2, r, q2⟩ => ⟨I2.kIn, ?_⟩) hst hpl
  exact run_fnS (us := .ref a :: us) (vs := .ref a :: vs) F hr hb (hx σ) I2 (.cons rfl r) q2
theorem pe_methS0 {pl : Sem Bool} (he : PE X o ta) (c : Cls X.K C) (hm : Meth X.K C m f) (F : FnOk X.prog X.w X.K X.mg X.base CX k f fd ps sp) (hr : Room k X.A) (hb : Binds X.K fd ps []) (hx : ∀ σ, PassesAt CX X σ (E σ))
    (ht : eval (.Call (.Attribute o m apos) [] [] pos) X.env = (do
      let ov ← eval o X.env
      standAt apos.atName
      let (f, first) ← holding [ov] (getMethod ov m pl)
      callWith pos f first (backTo pos (starEach [] X.env)) (backToKw pos (keywordEach [] X.env))) := by rfl) :
    PE X (.Call (.Attribute o m apos) [] [] pos) (tMethS C m sp E ta tNil) := by
  refine ⟨fun pins s σ H Q I h => ?_⟩
  refine PySem.W.methodCall_KW (pl := pl) (thn (he.run pins s σ H _ I h) fun u s1 ⟨x, H1, I1, rx, a, dx, fs, ex, ea, l, q⟩ => ?_) ht
  subst ex
  obtain rfl : u = Value.ref a := rx
  refine getmeth_ok I1 ea c hm l ?_
  exact PySem.W.callWith_K0 (first := [.ref a]) I1.kIn hm.kp (run_fnS (us := [.ref a]) (vs := [.ref a]) F hr hb (hx σ) I1 (.cons rfl .nil) q)
end
section
variable {K : PySem.W.Frag} {σ : L2.St} {H : Hp} {Q : VK} {te to : TE} {ts : TA} {p : Addr}
def qMethS (C : Addr) (m : Str) (sp : Sp) (E : XK) (ts : TA) (σ : L2.St) (Q : VK) : VK := fun x H1 => ∃ a dx fs, x = .ref a ∧ H1 a = some (.ins C dx fs) ∧ fs.lookup m = none ∧ ts σ H1 fun vs H2 => sp (x :: vs) H2 Q E
instance {C : Addr} {m : Str} {sp : Sp} {E : L2.St → XK} : Step (tMethS C m sp E te ts σ H Q) (te σ H (qMethS C m sp (E σ) ts σ Q)) := ⟨fun h => h⟩
theorem r_methS {C dx : Addr} {m : Str} {sp : Sp} {fs : List (Str × V)} {E : XK} (hs : H p = some (.ins C dx fs)) (l : fs.lookup m = none) (h : ts σ H fun vs H2 => sp (.ref p :: vs) H2 Q E) : qMethS C m sp E ts σ Q (.ref p) H := ⟨p, dx, fs, rfl, hs, l, h⟩
end
/-! x is True -/
def isTV : V → Bool
  | .bl b => b
  | _ => false
def rIsT : R2 := fun x y H Q => y = .bl true ∧ Q (.bl (isTV x)) H
theorem op_isT {X : Cx} : OpR X (compareOp .Is) rIsT := by
  intro pins s σ H x y v u Q I rx ry h
  obtain ⟨rfl, q⟩ := h
  cases (show u = Value.bool true from ry)
  cases x with
  | bl a =>
    cases (show v = Value.bool a from rx)
    cases a with
    | true => exact wpAny_is_self rfl ⟨.bl true, H, I, rfl, q⟩
    | false => exact wpAny_is_other rfl (fun z => by cases z) ⟨.bl false, H, I, rfl, q⟩
  | int i =>
    obtain ⟨t, rfl⟩ := (show ∃ t, v = Value.int i t from rx)
    exact wpAny_is_other rfl (fun z => by cases z) ⟨.bl false, H, I, rfl, q⟩
  | str i =>
    obtain ⟨t, rfl⟩ := (show ∃ t, v = Value.str i t from rx)
    exact wpAny_is_other rfl (fun z => by cases z) ⟨.bl false, H, I, rfl, q⟩
  | non =>
    cases (show v = Value.none from rx)
    exact wpAny_is_other rfl (fun z => by cases z) ⟨.bl false, H, I, rfl, q⟩
  | ref a =>
    cases (show v = Value.ref a from rx)
    exact wpAny_is_other rfl (fun z => by cases z) ⟨.bl false, H, I, rfl, q⟩
  | byt b =>
    obtain ⟨t, rfl⟩ := (show ∃ t, v = Value.bytes b t from rx)
    exact wpAny_is_other rfl (fun z => by cases z) ⟨.bl false, H, I, rfl, q⟩
  | flt b =>
    obtain ⟨t, rfl⟩ := (show ∃ t, v = Value.float b t from rx)
    exact wpAny_is_other rfl (fun z => by cases z) ⟨.bl false, H, I, rfl, q⟩
  | ty b =>
    cases (show v = Value.type b from rx)
    exact wpAny_is_other rfl (fun z => by cases z) ⟨.bl false, H, I, rfl, q⟩
instance {x : V} {H : Hp} {Q : VK} : Step (rIsT x (.bl true) H Q) (Q (.bl (isTV x)) H) := ⟨fun h => ⟨rfl, h⟩⟩
/-! insert -/
def rInsQ : V → List V → Hp → VK → Prop := fun x vs H Q => ∃ (l : Addr) (xs : List V) (i : Int) (y : V), x = .ref l ∧ vs = [.int i, y] ∧ H l = some (.lst xs) ∧ xs.length < sizeLine ∧ 0 ≤ i ∧ i < 2 ^ 63 ∧
    Q .non (upd H l (.lst (xs.take i.toNat ++ [y] ++ xs.drop i.toNat)))
theorem mt_insQ {X : Cx} : MtR X "list.insert" rInsQ := mt_insert
theorem r_ins {H : Hp} {Q : VK} {l : Addr} {xs : List V} {n : Nat} {y : V} (hs : H l = some (.lst xs)) (hl : xs.length ≤ 1000000) (hn : n ≤ 1000000) (h : Q .non (upd H l (.lst (insA n y xs)))) : rInsQ (.ref l) [.int (n : Int), y] H Q :=
  ⟨l, xs, n, y, rfl, rfl, hs, lt_line hl, by omega, by omega, by rw [Int.toNat_natCast]; exact h⟩
/-- a test's value once, whatever follows -/
theorem t_val {tt : TT} {σ : L2.St} {H : Hp} {B : Bool → Hp → Prop} (b : Bool) (h : ∀ B : Bool → Hp → Prop, B b H → tt σ H B) (q : B b H) : tt σ H B := h B q
theorem cut_from {xs : List V} {n : Nat} (h : n ≤ xs.length) : cutV xs (some (n : Int)) none = xs.drop n := by
  unfold cutV
  rw [HT.sIx_none, HT.sIx_nat, Nat.min_eq_left h]
  exact List.take_of_length_le (by rw [List.length_drop]; omega)
theorem cut_to {xs : List V} {n : Nat} (h : n ≤ xs.length) : cutV xs none (some (n : Int)) = xs.take n := by
  unfold cutV
  rw [HT.sIx_none, HT.sIx_nat, Nat.min_eq_left h]
  simp
/-! in a comprehension: the rules with the text's own K -/
section
variable {X : Cx} {K : PySem.W.Frag}
theorem ix_listK (h : X.K = K) : IxR X (rIxL K) := by subst h; exact ix_list
theorem ix_tupK (h : X.K = K) : IxR X (rIxT K) := by subst h; exact ix_tup
theorem sl_tupAK (h : X.K = K) : SlR X (rSlA K) := by subst h; exact sl_tupA
theorem sl_listK (h : X.K = K) : SlR X (rSlL K) := by subst h; exact sl_list
theorem op_eqDK (h : X.K = K) (hu : X.A.units + 64 < cLine) : OpR X (compareOp .Eq) (rEqD K) := by subst h; exact op_eqD hu
theorem op_neDK (h : X.K = K) (hu : X.A.units + 64 < cLine) : OpR X (compareOp .NotEq) (rNeD K) := by subst h; exact op_neD hu
theorem op_inDK (h : X.K = K) (hu : X.A.units + 65 < cLine) : OpR X (compareOp .In) (rInD K) := by subst h; exact op_inD hu
theorem op_notInDK (h : X.K = K) (hu : X.A.units + 65 < cLine) : OpR X (compareOp .NotIn) (rNotInD K) := by subst h; exact op_notInD hu
theorem op_in_seqK (h : X.K = K) : OpR X (compareOp .In) (rIn K false) := by subst h; exact op_in_seq
theorem op_notIn_seqK (h : X.K = K) : OpR X (compareOp .NotIn) (rIn K true) := by subst h; exact op_notIn_seq
theorem call_lenQK (h : X.K = K) : CallR X (.builtin "len") (rLenQ K) := by subst h; exact call_lenQ
theorem call_listQK (h : X.K = K) : CallR X (.type "list") (rListQ K) := by subst h; exact call_listQ
theorem op_ltTK (h : X.K = K) (hu : X.A.units < cLine) : OpR X (compareOp .Lt) (rLtT K) := by subst h; exact op_ltT hu
theorem pe_fldK {e : Expr} {f : Str} {pos : Pos} {ta : TE} (h : X.K = K) (he : PE X e ta) (hb : attributeBase e f X.env (eval e X.env) = eval e X.env) : PE X (.Attribute e f pos) (tFld K ta f) := by subst h; exact pe_fld he hb
end
theorem t_valS {tt : TT} {σ : L2.St} {H : Hp} {B : Bool → Hp → Prop} (b : Bool) (h : ∀ B : Bool → Hp → Prop, (∀ H2, Same H H2 → B b H2) → tt σ H B) (q : ∀ H2, Same H H2 → B b H2) : tt σ H B := h B q
theorem s_valS {te : TE} {σ : L2.St} {H : Hp} {Q : VK} (v : V) (h : ∀ Q : VK, (∀ H2, Same H H2 → Q v H2) → te σ H Q) (q : ∀ H2, Same H H2 → Q v H2) : te σ H Q := h Q q
theorem w_hit {K : PySem.W.Frag} {Wo : WX} {D : Ends} {c cls : Value} {d : Option Addr} {ts : Addr → Value → Option Addr → TS} {r : List (Value × (Addr → Value → Option Addr → TS))} {σ : L2.St} {H : Hp} (e : PySem.W.exmOne K cls c = some true) (h : ∀ a, H a = none → ts a cls d D σ H) : wMany K Wo D ((c, ts) :: r) cls d σ H := ⟨true, e, fun _ => h, fun z => by cases z⟩
theorem w_miss {K : PySem.W.Frag} {Wo : WX} {D : Ends} {c cls : Value} {d : Option Addr} {ts : Addr → Value → Option Addr → TS} {r : List (Value × (Addr → Value → Option Addr → TS))} {σ : L2.St} {H : Hp} (e : PySem.W.exmOne K cls c = some false) (h : wMany K Wo D r cls d σ H) : wMany K Wo D ((c, ts) :: r) cls d σ H := ⟨false, e, (fun z => by cases z), fun _ => h⟩
end Tm
namespace Tm
open PySem PySem.Spec PyProof.Rows L2
/-! parts of tuples -/
theorem cut_all {xs : List V} {lo hi : Option Int} (h1 : HT.sIx xs.length 0 lo = 0) (h2 : HT.sIx xs.length xs.length hi = xs.length) : cutV xs lo hi = xs := by
  unfold cutV
  rw [h1, h2]
  simp
theorem r_slTs {K : PySem.W.Frag} {H : Hp} {Q : VK} {p : Addr} {xs : List V} {lo hi : Option Int} (hs : H p = some (.tup xs)) (h : ∀ l H', Same H H' → H' l = some (.tup (cutV xs lo hi)) → Q (.ref l) H') : rSlA K (.ref p) lo hi H Q :=
  ⟨p, xs, rfl, SqT.of hs, fun ⟨e1, e2⟩ => h p H (Same.refl _) (by rw [cut_all e1 e2]; exact hs), fun _ l hl => h l _ (Same.new (Same.refl _) hl) upd_same⟩
theorem r_catTs {K : PySem.W.Frag} {H : Hp} {Q : VK} {p q : Addr} {xs ys : List V} (hs : H p = some (.tup xs)) (hq : H q = some (.tup ys)) (hl : xs.length + ys.length ≤ 1000000) (h : ∀ l H', Same H H' → H' l = some (.tup (xs ++ ys)) → Q (.ref l) H') : rCatA K (.ref p) (.ref q) H Q :=
  ⟨p, q, xs, ys, rfl, rfl, SqT.of hs, SqT.of hq, le_line hl, fun e => h q H (Same.refl _) (by subst e; exact hq), fun _ e => h p H (Same.refl _) (by subst e; rw [List.append_nil]; exact hs), fun _ _ l hl => h l _ (Same.new (Same.refl _) hl) upd_same⟩
theorem lexLt_two (a b c d : Int) : HT.lexLt [a, b] [c, d] = decide (a < c ∨ (a = c ∧ b < d)) := by
  rw [HT.lexLt_cons, HT.lexLt_cons, HT.lexLt_nil_nil]
  by_cases e : a = c
  · subst e
    rw [if_pos rfl]
    by_cases e2 : b = d
    · subst e2
      simp
    · rw [if_neg e2]
      by_cases e3 : b < d <;> simp [e3]
  · rw [if_neg e]
    by_cases e3 : a < c <;> simp [e3, e]
theorem r_ltP {K : PySem.W.Frag} {H : Hp} {Q : VK} {p q : Addr} {a b c d : Int} (hp : H p = some (.tup [.int a, .int b])) (hq : H q = some (.tup [.int c, .int d])) (h : Q (.bl (decide (a < c ∨ (a = c ∧ b < d)))) H) : rLtT K (.ref p) (.ref q) H Q :=
  ⟨p, q, [a, b], [c, d], rfl, rfl, SqT.of hp, SqT.of hq, by rw [lexLt_two]; exact h⟩
theorem r_eqP {K : PySem.W.Frag} {H : Hp} {Q : VK} {p q : Addr} {a b c d : Int} (hp : H p = some (.tup [.int a, .int b])) (hq : H q = some (.tup [.int c, .int d])) (h : Q (.bl (decide (a = c ∧ b = d))) H) : rEqD K (.ref p) (.ref q) H Q := by
  refine ⟨.tuple [.int a, .int b], .tuple [.int c, .int d], .tup (SqT.of hp) (.cons (.int _) (.cons (.int _) .nil)), .tup (SqT.of hq) (.cons (.int _) (.cons (.int _) .nil)), ?_, ?_, ?_⟩
  · simp [SeqAt.shaped, PyData.canLay0, PyData.canLayAll0, PyData.depth, PyData.depthAll]
  · simp [SeqAt.shaped, PyData.canLay0, PyData.canLayAll0, PyData.depth, PyData.depthAll]
  · have e : PyData.eqv (.tuple [.int a, .int b]) (.tuple [.int c, .int d]) = ((a == c) && ((b == d) && true)) := by simp only [PyData.eqv, PyData.eqvAll]
    have e2 : ((a == c) && ((b == d) && true)) = decide (a = c ∧ b = d) := by by_cases e : a = c <;> by_cases e' : b = d <;> simp [e, e']
    rw [e, e2]
    exact h
/-- data of moves, in a list -/
theorem dpAll_mv {K : PySem.W.Frag} {H : Hp} : ∀ {as : List Addr} {ms : List Mv}, MvsAt H as ms → DpAll K H (as.map V.ref) (ms.map Mv.d)
  | [], [], _ => .nil
  | [], _ :: _, h => by cases h
  | _ :: _, [], h => by cases h
  | a :: as, m :: ms, h => by
    unfold MvsAt at h
    simp only [List.map_cons, List.cons.injEq] at h
    exact .cons (Mv.dp h.1) (dpAll_mv h.2)
theorem lay_mv : ∀ ms : List Mv, PyData.canLayAll0 (ms.map Mv.d) = true
  | [] => by simp [PyData.canLayAll0]
  | m :: r => by
    have := lay_mv r
    simp [PyData.canLayAll0, this, Mv.d, PyData.canLay0]
theorem depth_mv : ∀ ms : List Mv, PyData.depthAll (ms.map Mv.d) ≤ 1
  | [] => by simp [PyData.depthAll]
  | m :: r => by
    have := depth_mv r
    simp [PyData.depthAll, Mv.d, PyData.depth]
    omega
theorem sh_mvs (ms : List Mv) : SeqAt.shaped (.list (ms.map Mv.d)) = true := by
  have h := depth_mv ms
  show (PyData.canLay0 (.list (ms.map Mv.d)) && decide (PyData.depth (.list (ms.map Mv.d)) ≤ 64)) = true
  rw [Bool.and_eq_true]
  refine ⟨by simp only [PyData.canLay0]; exact lay_mv ms, decide_eq_true ?_⟩
  simp only [PyData.depth]
  omega
theorem any_eqv (m : Mv) (ms : List Mv) : ((ms.map Mv.d).any fun z => PyData.eqv z m.d) = decide (m ∈ ms) := by
  rw [List.any_map]
  have e : ((fun z => PyData.eqv z m.d) ∘ Mv.d) = fun x => decide (x = m) := by
    funext x
    exact Mv.eqv x m
  rw [e]
  by_cases c : m ∈ ms
  · rw [decide_eq_true c]
    exact List.any_eq_true.mpr ⟨m, c, by simp⟩
  · rw [decide_eq_false c]
    refine List.any_eq_false.mpr fun x hx => ?_
    simp
    intro e
    exact c (e ▸ hx)
theorem r_ninMv {K : PySem.W.Frag} {H : Hp} {Q : VK} {p l : Addr} {m : Mv} {as : List Addr} {ms : List Mv} (hp : H p = some (.tup m.vs)) (hl : H l = some (.lst (as.map V.ref))) (hm : MvsAt H as ms) (h : Q (.bl (!decide (m ∈ ms))) H) : rNotInD K (.ref p) (.ref l) H Q :=
  ⟨m.d, ms.map Mv.d, Mv.dp hp, .lst (SqL.of hl) (dpAll_mv hm), Mv.sh m, sh_mvs ms, by rw [any_eqv]; exact h⟩
/-- a list of moves against the empty list -/
theorem r_neNil {K : PySem.W.Frag} {H : Hp} {Q : VK} {l e : Addr} {as : List Addr} {ms : List Mv} (hl : H l = some (.lst (as.map V.ref))) (hm : MvsAt H as ms) (he : H e = some (.lst [])) (h : Q (.bl (!decide (as = []))) H) : rNeD K (.ref l) (.ref e) H Q := by
  refine ⟨.list (ms.map Mv.d), .list [], .lst (SqL.of hl) (dpAll_mv hm), .lst (SqL.of he) .nil, sh_mvs ms, by simp [SeqAt.shaped, PyData.canLay0, PyData.canLayAll0, PyData.depth, PyData.depthAll], ?_⟩
  have e2 : PyData.eqv (.list (ms.map Mv.d)) (.list []) = decide (as = []) := by
    have hlen := hm.length
    cases ms with
    | nil =>
      cases as with
      | nil => simp [PyData.eqv, PyData.eqvAll]
      | cons _ _ => cases hlen
    | cons m r =>
      cases as with
      | nil => cases hlen
      | cons _ _ => simp [PyData.eqv, PyData.eqvAll]
  rw [e2]
  exact h
/-! range from a number on -/
section
variable {K : PySem.W.Frag} {σ : L2.St} {H : Hp} {Q : VK} {te : TE} {tt : TT} {ts : TA} {j : Nat}
def qLcR2 (g : TG) (tt : TT) (te : TE) (vs : List Nat) (σ : L2.St) (Q : VK) : List V → Hp → Prop := fun ws H1 => ∃ i j : Int, ws = [.int i, .int j] ∧ (-(2 ^ 62) ≤ i ∧ i < 2 ^ 62 ∧ -(2 ^ 62) ≤ j ∧ j < 2 ^ 62) ∧ qLc (Itr i (j - i).toNat).go (Itr i (j - i).toNat).stop (Itr i (j - i).toNat).yld g tt te vs σ Q H1
instance {g : TG} {vs : List Nat} : Step (tLc (iRng2 ts) g tt te vs σ H Q) (ts σ H (qLcR2 g tt te vs σ Q)) := ⟨fun h => h⟩
theorem r_lcR2 (lo : Int) (n : Nat) {hi : Int} (hn : n ≤ 1000000000) (hlo : 0 ≤ lo ∧ lo ≤ 1000000000) (hhi : hi = lo + n ∨ (hi ≤ lo ∧ n = 0 ∧ -1000000000 ≤ hi)) (Pv : Addr → Nat → Hp → Prop) (h0 : ∀ D, H D = none → Pv D 0 (upd H D (.lst [])))
    (hs : ∀ D (i : Nat) H, i < n → Pv D i H → tt ((σ.set j none).set j (some (.int (lo + i)))) H (qLcT te ((σ.set j none).set j (some (.int (lo + i)))) D (Pv D (i + 1)))) (hd : ∀ D H, Pv D n H → Q (.ref D) H) : qLcR2 (gName j) tt te [j] σ Q [.int lo, .int hi] H :=
  ⟨lo, hi, rfl, ⟨by omega, by omega, by omega, by omega⟩, by
    have e : (hi - lo).toNat = n := by omega
    rw [e]
    intro D nD
    refine ⟨fun i m H => m = n - i ∧ i ≤ n ∧ Pv D i H, ⟨n, by simp, Nat.zero_le _, h0 D nD⟩, ?_⟩
    rintro i m H ⟨rfl, hi, q⟩
    by_cases hlt : i < n
    · refine .inr ⟨hlt, Pv D (i + 1), fun H' p' => ⟨n - (i + 1), by omega, rfl, hlt, p'⟩, fun x H' y => ?_⟩
      obtain ⟨eH, y⟩ := y
      subst eH
      subst y
      exact ⟨by
        show (((σ.set j none).set j (some _)).set j none) = σ.set j none
        rw [List.set_set, List.set_set], hs D i _ hlt q⟩
    · have e : i = n := by omega
      subst e
      exact .inl ⟨Nat.le_refl _, hd D H q⟩⟩
end
end Tm
namespace Tm
open PySem PySem.Spec PyProof.Rows L2
/-! what the laws draw from a script -/
def farF (s : Int) : Int := if s % 8 > 3 then s / 8 % (E60 - 2000000) else if s % 4 = 2 then 1000000000000000000000000000000 else if s % 4 = 3 then E60 - 200 else 0
def gapF (s : Int) : Int := if s % 8 > 5 then 1 + s / 16 % 10000 else 1
def nineF (i : Int) : Int := if i = 0 then 1 else if i = 1 then 2 else if i = 2 then 3 else if i = 3 then 9 else if i = 4 then 10 else if i = 5 then 11 else if i = 6 then 99 else if i = 7 then 100 else 101
theorem lt9 {i : Int} (h0 : 0 ≤ i) (h : i < 9) : i = 0 ∨ i = 1 ∨ i = 2 ∨ i = 3 ∨ i = 4 ∨ i = 5 ∨ i = 6 ∨ i = 7 ∨ i = 8 := by omega
theorem at9 {i : Int} (h0 : 0 ≤ i) (h : i < 9) : atI [V.int 1, .int 2, .int 3, .int 9, .int 10, .int 11, .int 99, .int 100, .int 101] i = some (.int (nineF i)) := by
  rcases lt9 h0 h with e | e | e | e | e | e | e | e | e <;> subst e <;> rfl
theorem nine_le (i : Int) : 1 ≤ nineF i ∧ nineF i ≤ 101 := by
  unfold nineF
  repeat' split
  all_goals omega
theorem gap_le (s : Int) : 1 ≤ gapF s ∧ gapF s ≤ 10000 := by
  unfold gapF
  split <;> omega
theorem far_le (s : Int) : 0 ≤ farF s ∧ farF s ≤ E60 - 200 ∧ (s % 8 > 5 → farF s ≤ E60 - 2000001) := by
  unfold farF
  simp only [E60]
  repeat' split
  all_goals omega
theorem time_ok (s i z : Int) (hz : z = 0 ∨ z = 1) : 1 ≤ gapF s * nineF i + farF s * z ∧ gapF s * nineF i + farF s * z ≤ E60 := by
  obtain ⟨f1, f2, f3⟩ := far_le s
  obtain ⟨n1, n2⟩ := nine_le i
  have g2 : 1 ≤ gapF s * nineF i ∧ gapF s * nineF i ≤ 1010000 ∧ (¬ s % 8 > 5 → gapF s * nineF i ≤ 101) := by
    obtain ⟨g1, g2⟩ := gap_le s
    refine ⟨?_, ?_, fun h => ?_⟩
    · have := Int.mul_le_mul g1 n1 (by omega) (by omega)
      omega
    · have := Int.mul_le_mul g2 n2 (by omega) (by omega)
      omega
    · have e : gapF s = 1 := by unfold gapF; rw [if_neg h]
      rw [e]
      omega
  obtain ⟨g3, g4, g5⟩ := g2
  have e60 : E60 = 1000000000000000000000000000000000000000000000000000000000000 := rfl
  rcases hz with rfl | rfl
  · rw [Int.mul_zero]
    omega
  · rw [Int.mul_one]
    by_cases h : s % 8 > 5
    · have := f3 h
      omega
    · have := g5 h
      omega
def spFar : Sp := fun vs H Q _ => ∃ s : Int, vs = [.int s] ∧ ∀ H', Same H H' → Q (.int (farF s)) H'
def spGap : Sp := fun vs H Q _ => ∃ s : Int, vs = [.int s] ∧ Q (.int (gapF s)) H
theorem c_far {H : Hp} {s : Int} {Q : VK} {E : XK} (h : ∀ H', Same H H' → Q (.int (farF s)) H') : spFar [.int s] H Q E := ⟨s, rfl, h⟩
theorem c_gap {H : Hp} {s : Int} {Q : VK} {E : XK} (h : Q (.int (gapF s)) H) : spGap [.int s] H Q E := ⟨s, rfl, h⟩
def DeedOk (d : Int) : Prop := 0 ≤ d ∧ d < 2147483647
def spDeeds (K : PySem.W.Frag) : Sp := fun vs H Q _ => ∃ (p : Addr) (ns : List Int) (few : Nat) (many : Int), vs = [.ref p, .int few, .int many] ∧ SqL K H p (ns.map V.int) ∧ ns.length ≤ 63 ∧ few ≤ 100 ∧
  ∀ l (ds : List Int), H l = none → ds.length ≤ few → (∀ d ∈ ds, DeedOk d) → Q (.ref l) (upd H l (.lst (ds.map V.int)))
theorem c_deeds {K : PySem.W.Frag} {H : Hp} {p : Addr} {ns : List Int} {few : Nat} {many : Int} {Q : VK} {E : XK} (hS : SqL K H p (ns.map V.int)) (hl : ns.length ≤ 63) (hf : few ≤ 100) (h : ∀ l (ds : List Int), H l = none → ds.length ≤ few → (∀ d ∈ ds, DeedOk d) → Q (.ref l) (upd H l (.lst (ds.map V.int)))) : spDeeds K [.ref p, .int few, .int many] H Q E := ⟨p, ns, few, many, rfl, hS, hl, hf, h⟩
/-- a drawn move is one -/
def spMoveBy : Sp := fun vs H Q _ => ∃ deed many second hand cell : Int, vs = [.int deed, .int many, .int second, .int hand, .int cell] ∧ 0 ≤ deed ∧ 1 ≤ many ∧ many ≤ 100 ∧ 0 ≤ hand ∧ hand ≤ E60 ∧
  ∀ (a : Addr) (m : Mv) (H' : Hp), Same H H' → H a = none → H' a = some (.tup m.vs) → m.Ok → m.h = hand → Q (.ref a) H'
theorem c_moveBy {H : Hp} {deed many second hand cell : Int} {Q : VK} {E : XK} (h0 : 0 ≤ deed) (h1 : 1 ≤ many) (h2 : many ≤ 100) (h3 : 0 ≤ hand) (h4 : hand ≤ E60) (h : ∀ (a : Addr) (m : Mv) (H' : Hp), Same H H' → H a = none → H' a = some (.tup m.vs) → m.Ok → m.h = hand → Q (.ref a) H') : spMoveBy [.int deed, .int many, .int second, .int hand, .int cell] H Q E := ⟨deed, many, second, hand, cell, rfl, h0, h1, h2, h3, h4, h⟩
def spHand8 : Sp := fun vs H Q _ => ∃ k s : Int, vs = [.int k, .int s] ∧ 0 ≤ k ∧ k ≤ 4 ∧ ∀ n H', Same H H' → 0 ≤ n → n ≤ E60 → Q (.int n) H'
theorem c_hand8 {H : Hp} {k s : Int} {Q : VK} {E : XK} (h0 : 0 ≤ k) (h1 : k ≤ 4) (h : ∀ n H', Same H H' → 0 ≤ n → n ≤ E60 → Q (.int n) H') : spHand8 [.int k, .int s] H Q E := ⟨k, s, rfl, h0, h1, h⟩
end Tm
namespace Tm
open PySem PySem.Spec PyProof.Rows L2
def spSameMoves : Sp := fun vs H Q _ => ∃ (p q : Addr) (as as2 : List Addr) (ms : List Mv), vs = [.ref p, .ref q] ∧ H p = some (.lst (as.map V.ref)) ∧ H q = some (.lst (as2.map V.ref)) ∧ MvsAt H as ms ∧ MvsAt H as2 ms ∧ ms.length ≤ 100000 ∧ Q (.bl true) H
theorem c_sameMoves {H : Hp} {p q : Addr} {as as2 : List Addr} {ms : List Mv} {Q : VK} {E : XK} (hp : H p = some (.lst (as.map V.ref))) (hq : H q = some (.lst (as2.map V.ref))) (hm : MvsAt H as ms) (hm2 : MvsAt H as2 ms) (hl : ms.length ≤ 100000) (h : Q (.bl true) H) : spSameMoves [.ref p, .ref q] H Q E := ⟨p, q, as, as2, ms, rfl, hp, hq, hm, hm2, hl, h⟩
def spTold : Sp := fun vs H Q _ => ∃ (p x : Addr) (as : List Addr) (ms : List Mv) (m : Mv), vs = [.ref p, .ref x] ∧ H p = some (.lst (as.map V.ref)) ∧ MvsAt H as ms ∧ H x = some (.tup m.vs) ∧ ms.length ≤ 100000 ∧ ∀ (l : Addr) (H' : Hp), Same H H' → H l = none → H' l = some (.lst ((insA (posM m ms) x as).map V.ref)) → Q (.ref l) H'
theorem c_told {H : Hp} {p x : Addr} {as : List Addr} {ms : List Mv} {m : Mv} {Q : VK} {E : XK} (hp : H p = some (.lst (as.map V.ref))) (hm : MvsAt H as ms) (hx : H x = some (.tup m.vs)) (hl : ms.length ≤ 100000) (h : ∀ (l : Addr) (H' : Hp), Same H H' → H l = none → H' l = some (.lst ((insA (posM m ms) x as).map V.ref)) → Q (.ref l) H') : spTold [.ref p, .ref x] H Q E := ⟨p, x, as, ms, m, rfl, hp, hm, hx, hl, h⟩
theorem spHear.mono {C N T X : Addr} {vs : List V} {H : Hp} {Q Q' : VK} {E E' : XK} (h : spHear C N T X vs H Q E) (hQ : ∀ b H', Q (.bl b) H' → Q' (.bl b) H') (hN : E (.ref N) none H → E' (.ref N) none H) (hT : E (.ref T) none H → E' (.ref T) none H) (hX : E (.ref X) none H → E' (.ref X) none H) : spHear C N T X vs H Q' E' := by
  obtain ⟨p, g, x, e, L, s, l, h⟩ := h
  refine ⟨p, g, x, e, L, s, l, ?_⟩
  rcases h with ⟨b, h⟩ | ⟨a, m, ex, hx, ok, h1, h2, h3, h4⟩
  · exact .inl ⟨b, hN h⟩
  · exact .inr ⟨a, m, ex, hx, ok, fun c => hT (h1 c), fun c d => hX (h2 c d), fun c d => hQ _ _ (h3 c d), fun c d => hQ _ _ (h4 c d)⟩
/-- heard, a refusal told by a text -/
def spHeard (C N T X : Addr) : Sp := fun vs H Q _ => spHear C N T X vs H Q fun v _ H' => (v = .ref N → Q (.str "no move") H') ∧ (v = .ref T → Q (.str "too late") H') ∧ (v = .ref X → Q (.str "clash") H')
/-- heard, whether it was refused -/
def spRefusedL (C N T X : Addr) : Sp := fun vs H Q _ => spHear C N T X vs H (fun _ H' => Q (.bl false) H') fun _ _ H' => Q (.bl true) H'
def clashB (m : Mv) (ms : List Mv) : Bool := ms.any fun x => decide (SameK x m) && !decide (x = m)
theorem clashB_iff {m : Mv} {ms : List Mv} : clashB m ms = true ↔ ClashM m ms := by
  unfold clashB ClashM
  rw [List.any_eq_true]
  constructor
  · rintro ⟨x, hx, h⟩
    simp at h
    exact ⟨x, hx, h.1, h.2⟩
  · rintro ⟨x, hx, h1, h2⟩
    exact ⟨x, hx, by simp [h1, h2]⟩
def spClash : Sp := fun vs H Q _ => ∃ (p x : Addr) (as : List Addr) (ms : List Mv) (m : Mv), vs = [.ref p, .ref x] ∧ H p = some (.lst (as.map V.ref)) ∧ MvsAt H as ms ∧ H x = some (.tup m.vs) ∧ ms.length ≤ 100000 ∧ ∀ H', Same H H' → Q (.bl (clashB m ms)) H'
theorem c_clash {H : Hp} {p x : Addr} {as : List Addr} {ms : List Mv} {m : Mv} {Q : VK} {E : XK} (hp : H p = some (.lst (as.map V.ref))) (hm : MvsAt H as ms) (hx : H x = some (.tup m.vs)) (hl : ms.length ≤ 100000) (h : ∀ H', Same H H' → Q (.bl (clashB m ms)) H') : spClash [.ref p, .ref x] H Q E := ⟨p, x, as, ms, m, rfl, hp, hm, hx, hl, h⟩
def spAnswer : Sp := fun vs H Q _ => ∃ x : V, vs = [x, x] ∧ ((∃ b, x = .bl b) ∨ ∃ z, x = .str z) ∧ Q (.bl true) H
theorem c_answer {H : Hp} {x : V} {Q : VK} {E : XK} (hx : (∃ b, x = .bl b) ∨ ∃ z, x = .str z) (h : Q (.bl true) H) : spAnswer [x, x] H Q E := ⟨x, rfl, hx, h⟩
end Tm
namespace Tm
open PySem PySem.Spec PyProof.Rows L2
/-! pairs that are held to the end -/
section
variable {K : PySem.W.Frag} {ex : List Addr} {H H' H2 : Hp}
/-- nothing but what lies in ex is changed -/
def Kx (ex : List Addr) (H H' : Hp) : Prop := ∀ b o, b ∉ ex → H b = some o → H' b = some o
theorem Kx.refl : Kx ex H H := fun _ _ _ e => e
theorem Kx.of (s : Same H H') : Kx ex H H' := fun b o _ e => s b o e
theorem Kx.ofP {p : Addr} (hp : p ∈ ex) (s : SameP p H H') : Kx ex H H' := fun b o n e => s b o (fun z => n (z.symm ▸ hp)) e
theorem Kx.trans (s : Kx ex H H') (s2 : Kx ex H' H2) : Kx ex H H2 := fun b o n e => s2 b o n (s b o n e)
theorem Kx.mut {p : Addr} {o : HO} (hp : p ∈ ex) (s : Kx ex H H') : Kx ex H (upd H' p o) := fun b u n e => by
  rw [upd_ne (show b ≠ p from fun z => n (z.symm ▸ hp))]
  exact s b u n e
theorem Kx.new {p : Addr} {o : HO} (hp : H' p = none) (s : Kx ex H H') : Kx ex H (upd H' p o) := fun b u n e => keep (s b u n e) hp
theorem Kx.lo {ex' : List Addr} (s : Kx ex' H H') (e : ∀ b ∈ ex', b ∈ ex ∨ H b = none) : Kx ex H H' := fun b o n eb => s b o (fun hb => by
  rcases e b hb with z | z
  · exact n z
  · rw [z] at eb; cases eb) eb
/-- x != y of two things that are the same -/
def rNeX (K : PySem.W.Frag) : R2 := fun x y H Q => rNeD K x y H Q ∨ rNeDA x y H Q
theorem op_neX {X : Cx} (hu : X.A.units + 64 < cLine) : OpR X (compareOp .NotEq) (rNeX X.K) := by
  intro pins s σ H x y v u Q I rx ry h
  rcases h with h | h
  · exact op_neD hu pins s σ H x y v u Q I rx ry h
  · exact op_ne_dictA (by omega) pins s σ H x y v u Q I rx ry h
def PairAt (K : PySem.W.Frag) (H : Hp) (a : Addr) : Prop := ∃ x y, H a = some (.tup [.ref x, .ref y]) ∧ ∀ Q : VK, Q (.bl false) H → rNeX K (.ref x) (.ref y) H Q
def Held (K : PySem.W.Frag) (ex : List Addr) (H : Hp) (hs : List Addr) : Prop := ∀ a ∈ hs, ∀ H', Kx ex H H' → PairAt K H' a
theorem Held.nil : Held K ex H [] := fun _ h => nomatch h
theorem Held.keep {hs : List Addr} (h : Held K ex H hs) (k : Kx ex H H') : Held K ex H' hs := fun a ha H2 k2 => h a ha H2 (k.trans k2)
theorem Held.snoc {hs : List Addr} {a : Addr} (h : Held K ex H hs) (n : ∀ H', Kx ex H H' → PairAt K H' a) : Held K ex H (hs ++ [a]) := fun b hb H' k => by
  rcases List.mem_append.mp hb with z | z
  · exact h b z H' k
  · rw [List.mem_singleton.mp z]
    exact n H' k
theorem Held.lo {ex' : List Addr} {hs : List Addr} (h : Held K ex H hs) (e : ∀ b ∈ ex', b ∈ ex ∨ H b = none) : Held K ex' H hs := fun a ha H' k => h a ha H' (k.lo e)
/-- two lists of the same data -/
theorem pair_data {a x y : Addr} {d : PyData} (ha : H a = some (.tup [.ref x, .ref y])) (hx : Dp K H (.ref x) d) (hy : Dp K H (.ref y) d) (sh : SeqAt.shaped d = true) (eq : PyData.eqv d d = true) : PairAt K H a :=
  ⟨x, y, ha, fun Q q => .inl ⟨d, d, hx, hy, sh, sh, by rw [eq]; exact q⟩⟩
end
/-- moves and None behind them -/
theorem dp_mvsN {K : PySem.W.Frag} {H : Hp} {x : Addr} {as : List Addr} {ms : List Mv} (hx : H x = some (.lst (as.map V.ref ++ [.non]))) (hm : MvsAt H as ms) : Dp K H (.ref x) (.list (ms.map Mv.d ++ [.none])) := by
  refine .lst (SqL.of hx) ?_
  have : ∀ {as : List Addr} {ms : List Mv}, MvsAt H as ms → DpAll K H (as.map V.ref ++ [.non]) (ms.map Mv.d ++ [.none]) := by
    intro as
    induction as with
    | nil =>
      intro ms h
      cases ms with
      | nil => exact .cons .non .nil
      | cons _ _ => cases h
    | cons a as ih =>
      intro ms h
      cases ms with
      | nil => cases h
      | cons m ms =>
        unfold MvsAt at h
        simp only [List.map_cons, List.cons.injEq] at h
        exact .cons (Mv.dp h.1) (ih h.2)
  exact this hm
theorem sh_mvsN (ms : List Mv) : SeqAt.shaped (.list (ms.map Mv.d ++ [.none])) = true := by
  have h1 : ∀ ms : List Mv, PyData.canLayAll0 (ms.map Mv.d ++ [.none]) = true ∧ PyData.depthAll (ms.map Mv.d ++ [.none]) ≤ 1 := by
    intro ms
    induction ms with
    | nil => simp [PyData.canLayAll0, PyData.canLay0, PyData.depthAll, PyData.depth]
    | cons m r ih =>
      obtain ⟨i1, i2⟩ := ih
      refine ⟨by simp [PyData.canLayAll0, i1, Mv.d, PyData.canLay0], ?_⟩
      simp [PyData.depthAll, Mv.d, PyData.depth]
      omega
  obtain ⟨i1, i2⟩ := h1 ms
  show (PyData.canLay0 (.list _) && decide (PyData.depth (.list _) ≤ 64)) = true
  rw [Bool.and_eq_true]
  refine ⟨by simp only [PyData.canLay0]; exact i1, decide_eq_true ?_⟩
  simp only [PyData.depth]
  omega
theorem eqv_mvsN (ms : List Mv) : PyData.eqv (.list (ms.map Mv.d ++ [.none])) (.list (ms.map Mv.d ++ [.none])) = true := by
  have : ∀ ms : List Mv, PyData.eqvAll (ms.map Mv.d ++ [.none]) (ms.map Mv.d ++ [.none]) = true := by
    intro ms
    induction ms with
    | nil => simp [PyData.eqvAll, PyData.eqv]
    | cons m r ih =>
      have e : PyData.eqv m.d m.d = true := by rw [Mv.eqv]; simp
      simp [PyData.eqvAll, ih, e]
  simp only [PyData.eqv]
  exact this ms
/-! what is no move -/
theorem BadMv.of {H H' : Hp} {x : V} (s : Same H H') (h : BadMv H x) : BadMv H' x := by
  rcases h with ⟨p, xs, e, hp, hk, hb⟩ | ⟨hk, hn⟩
  · exact .inl ⟨p, xs, e, s _ _ hp, fun y hy => (hk y hy).same s, hb⟩
  · refine .inr ⟨hk.same s, fun p xs e c => ?_⟩
    subst e
    rcases hk with ⟨ys, z⟩ | ⟨ys, z⟩ | ⟨ys, z⟩
    · rw [s _ _ z] at c; cases c
    · exact hn p ys rfl z
    · rw [s _ _ z] at c; cases c
theorem bad_non {H : Hp} : BadMv H .non := .inr ⟨trivial, fun _ _ e => nomatch e⟩
theorem bad_str {H : Hp} {z : Str} : BadMv H (.str z) := .inr ⟨trivial, fun _ _ e => nomatch e⟩
theorem bad_int {H : Hp} {z : Int} : BadMv H (.int z) := .inr ⟨trivial, fun _ _ e => nomatch e⟩
theorem bad_lst {H : Hp} {a : Addr} {xs : List V} (h : H a = some (.lst xs)) : BadMv H (.ref a) := .inr ⟨.inl ⟨xs, h⟩, fun p ys e c => by cases e; rw [h] at c; cases c⟩
theorem bad_dict {H : Hp} {a : Addr} {xs : List (Key × V)} (h : H a = some (.dK xs)) : BadMv H (.ref a) := .inr ⟨.inr (.inr ⟨xs, h⟩), fun p ys e c => by cases e; rw [h] at c; cases c⟩
theorem bad_tup {H : Hp} {a : Addr} {xs : List V} (h : H a = some (.tup xs)) (hk : ∀ y ∈ xs, KnownV H y) (hb : moveB xs = false) : BadMv H (.ref a) := .inl ⟨a, xs, rfl, h, hk, hb⟩
theorem mem_cutV {xs : List V} {lo hi : Option Int} {y : V} (h : y ∈ cutV xs lo hi) : y ∈ xs := by
  unfold cutV at h
  exact List.mem_of_mem_drop (List.mem_of_mem_take h)
theorem wrong_at {p i : Int} (hp : 0 ≤ p ∧ p < 4) (hi : 0 ≤ i ∧ i < 8) : ∃ x, atI [V.int (0 - p % 2), .int (E60 + 1), .bl true, .str "1", .non, .bl false, .int (E60 * 1000), .int (0 - E60)] i = some x ∧ (∀ H, KnownV H x) ∧
    ∀ m : Mv, moveB (cutV m.vs none (some p) ++ [x] ++ cutV m.vs (some (p + 1)) none) = false := by
  have hp' : p = 0 ∨ p = 1 ∨ p = 2 ∨ p = 3 := by omega
  have hi' : i = 0 ∨ i = 1 ∨ i = 2 ∨ i = 3 ∨ i = 4 ∨ i = 5 ∨ i = 6 ∨ i = 7 := by omega
  rcases hp' with rfl | rfl | rfl | rfl <;> rcases hi' with rfl | rfl | rfl | rfl | rfl | rfl | rfl | rfl <;>
    exact ⟨_, rfl, fun _ => trivial, fun m => by
      first
        | (show moveB [_, .int m.h, .int m.f, .int m.u] = false; simp [moveB, isW, E60]; done)
        | (show moveB [.int m.t, _, .int m.f, .int m.u] = false; simp [moveB, isW, E60]; done)
        | (show moveB [.int m.t, .int m.h, _, .int m.u] = false; simp [moveB, isW, E60]; done)
        | (show moveB [.int m.t, .int m.h, .int m.f, _] = false; simp [moveB, isW, E60]; done)
        | (simp [cutV, moveB, isW, E60, Mv.vs]; done)⟩
def spWrong : Sp := fun vs H Q _ => ∃ (p : Addr) (m : Mv) (cell : Int), vs = [.ref p, .int cell] ∧ H p = some (.tup m.vs) ∧ ∀ x H', Same H H' → BadMv H' x → Q x H'
theorem c_wrong {H : Hp} {p : Addr} {m : Mv} {cell : Int} {Q : VK} {E : XK} (hp : H p = some (.tup m.vs)) (h : ∀ x H', Same H H' → BadMv H' x → Q x H') : spWrong [.ref p, .int cell] H Q E := ⟨p, m, cell, rfl, hp, h⟩
/-- what is drawn: a move, or what is none -/
def DrawnV (H : Hp) (deed : Int) (x : V) : Prop := (deed % 16 = 7 ∧ BadMv H x) ∨ (¬ deed % 16 = 7 ∧ ∃ (a : Addr) (m : Mv), x = .ref a ∧ H a = some (.tup m.vs) ∧ m.Ok)
def spDrawn : Sp := fun vs H Q _ => ∃ (k : Addr) (as : List Addr) (ms : List Mv) (deed cell second : Int), vs = [.ref k, .int deed, .int cell, .int second] ∧ H k = some (.lst (as.map V.ref)) ∧ MvsAt H as ms ∧ (∀ m ∈ ms, m.Ok) ∧ ms.length ≤ 100000 ∧ DeedOk deed ∧
  ∀ x H', Same H H' → DrawnV H' deed x → Q x H'
def dueV (since : Int) (m : Mv) (ms : List Mv) : V := if m.t < since then .str "too late" else if clashB m ms = true then .str "clash" else .bl (!decide (m ∈ ms))
def spDueOf : Sp := fun vs H Q _ => ∃ (k : Addr) (as : List Addr) (ms : List Mv) (since deed : Int) (x : V), vs = [.ref k, .int since, x, .int deed] ∧ H k = some (.lst (as.map V.ref)) ∧ MvsAt H as ms ∧ ms.length ≤ 100000 ∧
  ((deed % 16 = 7 ∧ Q (.str "no move") H) ∨ (¬ deed % 16 = 7 ∧ ∃ (a : Addr) (m : Mv), x = .ref a ∧ H a = some (.tup m.vs) ∧ ∀ H', Same H H' → Q (dueV since m ms) H'))
def spAsKept (K : PySem.W.Frag) (C : Addr) : Sp := fun vs H Q _ => ∃ (p k hl : Addr) (g : Lg) (as : List Addr) (hs : List Addr), vs = [.ref p, .ref k, .int g.s, .ref hl] ∧ LogAt C H p g ∧ H k = some (.lst (as.map V.ref)) ∧ MvsAt H as g.ms ∧ H hl = some (.lst (hs.map V.ref)) ∧ g.ms.length ≤ 100000 ∧ hs.length ≤ 100000 ∧ 0 ≤ g.s ∧
  ∀ a H', SameP hl H H' → H' hl = some (.lst ((hs ++ [a]).map V.ref)) → (∀ H2, Kx [p, g.l, hl] H' H2 → PairAt K H2 a) → Q (.bl true) H'
end Tm
namespace Tm
open PySem PySem.Spec PyProof.Rows L2
/-! what a log comes to: its tree, its steps -/
theorem MvsAt.get {H : Hp} {as : List Addr} {ms : List Mv} (h : MvsAt H as ms) {i : Nat} {x : V} (e : (as.map V.ref)[i]? = some x) : ∃ y n, x = .ref y ∧ as[i]? = some y ∧ ms[i]? = some n ∧ H y = some (.tup n.vs) := by
  rw [List.getElem?_map] at e
  cases z : as[i]? with
  | none => rw [z] at e; cases e
  | some y =>
    rw [z] at e
    cases e
    obtain ⟨n, hn, hy⟩ := h.at_a z
    exact ⟨y, n, rfl, rfl, hn, hy⟩
theorem take_at {α : Type} {l : List α} {i : Nat} {n : α} (h : l[i]? = some n) : l.take (i + 1) = l.take i ++ [n] := by
  rw [List.take_succ, h]
  rfl
def spLogTree (C : Addr) : Sp := fun vs H Q _ => ∃ (p : Addr) (g : Lg), vs = [.ref p] ∧ LogAt C H p g ∧ Acyc g.t ∧ g.t.length + g.as.length ≤ 100000 ∧ ∀ d H', H d = none → Same H H' → H' d = some (.dK (enc (foldT g.t g.ms))) → Q (.ref d) H'
theorem c_logTree {C : Addr} {H : Hp} {p : Addr} {g : Lg} {Q : VK} {E : XK} (L : LogAt C H p g) (hA : Acyc g.t) (hl : g.t.length + g.as.length ≤ 100000) (h : ∀ d H', H d = none → Same H H' → H' d = some (.dK (enc (foldT g.t g.ms))) → Q (.ref d) H') : spLogTree C [.ref p] H Q E := ⟨p, g, rfl, L, hA, hl, h⟩
def spFold : Sp := fun vs H Q _ => ∃ (d l : Addr) (t : Tr) (as : List Addr) (ms : List Mv), vs = [.ref d, .ref l] ∧ H d = some (.dK (enc t)) ∧ H l = some (.lst (as.map V.ref)) ∧ MvsAt H as ms ∧ Acyc t ∧ t.length + ms.length ≤ 100000 ∧
  ∀ d' H', H d' = none → Same H H' → H' d' = some (.dK (enc (foldT t ms))) → Q (.ref d') H'
theorem c_fold {H : Hp} {d l : Addr} {t : Tr} {as : List Addr} {ms : List Mv} {Q : VK} {E : XK} (hd : H d = some (.dK (enc t))) (hl : H l = some (.lst (as.map V.ref))) (hm : MvsAt H as ms) (hA : Acyc t) (hn : t.length + ms.length ≤ 100000)
    (h : ∀ d' H', H d' = none → Same H H' → H' d' = some (.dK (enc (foldT t ms))) → Q (.ref d') H') : spFold [.ref d, .ref l] H Q E := ⟨d, l, t, as, ms, rfl, hd, hl, hm, hA, hn, h⟩
/-- the place of a number -/
def ixO (f : Int) : List Int → Nat
  | [] => 0
  | x :: r => if x = f then 0 else ixO f r + 1
theorem ixO_at {f : Int} : ∀ {l : List Int}, f ∈ l → l[ixO f l]? = some f
  | x :: r, h => by
    unfold ixO
    by_cases c : x = f
    · rw [if_pos c]
      simp [c]
    · rw [if_neg c]
      have := ixO_at (l := r) (by rcases List.mem_cons.mp h with e | e; exact (c e.symm).elim; exact e)
      simpa using this
theorem ixO_ne {f : Int} : ∀ {l : List Int} {i : Nat} {z : Int}, i < ixO f l → l[i]? = some z → z ≠ f
  | [], i, z, h, e => by simp at e
  | x :: r, i, z, h, e => by
    unfold ixO at h
    by_cases c : x = f
    · rw [if_pos c] at h
      omega
    · rw [if_neg c] at h
      cases i with
      | zero =>
        simp at e
        exact e ▸ c
      | succ i => exact ixO_ne (l := r) (i := i) (by omega) (by simpa using e)
theorem ixO_lt {f : Int} {l : List Int} (h : f ∈ l) : ixO f l < l.length := (List.getElem?_eq_some_iff.mp (ixO_at h)).1
def upTo (f : Int) (l : List Int) : List Int := l.take (ixO f l + 1)
theorem upTo_length {f : Int} {l : List Int} (h : f ∈ l) : (upTo f l).length = ixO f l + 1 := by
  have := ixO_lt h
  unfold upTo
  rw [List.length_take]
  omega
theorem eqV_int (x y : Int) : eqV (.int x) (.int y) = decide (x = y) := by
  show (x == y) = decide (x = y)
  by_cases c : x = y <;> simp [c]
theorem r_idx {K : PySem.W.Frag} {H : Hp} {Q : VK} {p : Addr} {xs : List Int} {f : Int} (hs : SqL K H p (xs.map V.int)) (hf : f ∈ xs) (h : Q (.int (ixO f xs : Nat)) H) : rIndex K (.ref p) [.int f] H Q := by
  refine ⟨p, xs.map V.int, .int f, ixO f xs, .int f, rfl, rfl, hs, rfl, flat_ints _, by rw [List.getElem?_map, ixO_at hf]; rfl, by rw [eqV_int]; simp, ?_, h⟩
  intro m z' hm hz
  rw [List.getElem?_map] at hz
  cases e : xs[m]? with
  | none => rw [e] at hz; cases hz
  | some y =>
    rw [e] at hz
    cases hz
    rw [eqV_int]
    exact decide_eq_false (ixO_ne hm e)
theorem cutL_to {α : Type} {xs : List α} {n : Nat} (h : n ≤ xs.length) : cutL xs none (some (n : Int)) = xs.take n := by
  unfold cutL
  rw [HT.sIx_none, HT.sIx_nat, Nat.min_eq_left h]
  simp
theorem cutL_up {f : Int} {l : List Int} (h : f ∈ l) : cutL l none (some ((ixO f l : Nat) + 1 : Int)) = upTo f l := by
  have := ixO_lt h
  exact cutL_to (n := ixO f l + 1) (by omega)
noncomputable def w1 (t : Tr) (m : Mv) : List Int := if m.f ∈ way t m.u then upTo m.f (way t m.u) else []
noncomputable def stepW : Tr → List Mv → List (List Int)
  | _, [] => []
  | t, m :: r => w1 t m :: stepW (putT t m.f m.u) r
theorem stepW_snoc (t : Tr) (ms : List Mv) (m : Mv) : stepW t (ms ++ [m]) = stepW t ms ++ [w1 (foldT t ms) m] := by
  induction ms generalizing t with
  | nil => rfl
  | cons x r ih =>
    show w1 t x :: stepW (putT t x.f x.u) (r ++ [m]) = _
    rw [ih]
    rfl
theorem stepW_length : ∀ (t : Tr) (ms : List Mv), (stepW t ms).length = ms.length
  | _, [] => rfl
  | t, m :: r => by simp [stepW, stepW_length _ r]
/-- a row of the steps: where it lies, and what it says -/
structure Row where
  r : Addr
  a : Addr
  w : Addr
  m : Mv
  l : List Int
def RowAt (H : Hp) (x : Row) : Prop := H x.r = some (.tup [.ref x.a, .ref x.w]) ∧ H x.a = some (.tup x.m.vs) ∧ H x.w = some (.lst (x.l.map V.int))
theorem RowAt.same {H H' : Hp} {x : Row} (h : RowAt H x) (s : Same H H') : RowAt H' x := ⟨s _ _ h.1, s _ _ h.2.1, s _ _ h.2.2⟩
theorem RowAt.mut {H : Hp} {x : Row} {p : Addr} {o : HO} (h : RowAt H x) (hp : ∀ vs, H p ≠ some (.tup vs)) (n : x.w ≠ p) : RowAt (upd H p o) x :=
  ⟨keep_ne h.1 fun e => hp _ (e ▸ h.1), keep_ne h.2.1 fun e => hp _ (e ▸ h.2.1), keep_ne h.2.2 n⟩
/-- rows of moves with ways, the ways' lists new since H0 -/
structure RowsAt (H0 H : Hp) (F : Addr) (rows : List Row) (ms : List Mv) (ws : List (List Int)) : Prop where
  at_ : ∀ x ∈ rows, RowAt H x
  m : rows.map (·.m) = ms
  l : rows.map (·.l) = ws
  nd : (rows.map (·.w)).Nodup
  new : ∀ x ∈ rows, H0 x.w = none ∧ H0 x.r = none ∧ x.w ≠ F
theorem RowsAt.same {H0 H H' : Hp} {F : Addr} {rows : List Row} {ms : List Mv} {ws : List (List Int)} (h : RowsAt H0 H F rows ms ws) (s : Same H H') : RowsAt H0 H' F rows ms ws := ⟨fun x hx => (h.at_ x hx).same s, h.m, h.l, h.nd, h.new⟩
theorem RowsAt.mut {H0 H : Hp} {F p : Addr} {o : HO} {rows : List Row} {ms : List Mv} {ws : List (List Int)} (h : RowsAt H0 H F rows ms ws) (hp : ∀ vs, H p ≠ some (.tup vs)) (n : ∀ x ∈ rows, x.w ≠ p) : RowsAt H0 (upd H p o) F rows ms ws := ⟨fun x hx => (h.at_ x hx).mut hp (n x hx), h.m, h.l, h.nd, h.new⟩
theorem RowsAt.nil {H0 H : Hp} {F : Addr} : RowsAt H0 H F [] [] [] := ⟨fun _ h => (by cases h), rfl, rfl, List.nodup_nil, fun _ h => (by cases h)⟩
theorem RowsAt.snoc {H0 H : Hp} {F : Addr} {rows : List Row} {ms : List Mv} {ws : List (List Int)} (h : RowsAt H0 H F rows ms ws) {x : Row} (hx : RowAt H x) (h0 : H0 x.w = none) (hr : H0 x.r = none) (hf : x.w ≠ F) (hn : ∀ y ∈ rows, y.w ≠ x.w) : RowsAt H0 H F (rows ++ [x]) (ms ++ [x.m]) (ws ++ [x.l]) := by
  refine ⟨fun y hy => ?_, by rw [List.map_append, h.m]; rfl, by rw [List.map_append, h.l]; rfl, ?_, fun y hy => ?_⟩
  · rcases List.mem_append.mp hy with z | z
    · exact h.at_ y z
    · rw [List.mem_singleton.mp z]
      exact hx
  · rw [List.map_append, List.nodup_append]
    refine ⟨h.nd, by simp, fun a ha b hb => ?_⟩
    obtain ⟨y, hy, e⟩ := List.mem_map.mp ha
    simp at hb
    rw [← e, hb]
    exact hn y hy
  · rcases List.mem_append.mp hy with z | z
    · exact h.new y z
    · rw [List.mem_singleton.mp z]
      exact ⟨h0, hr, hf⟩
theorem RowsAt.length {H0 H : Hp} {F : Addr} {rows : List Row} {ms : List Mv} {ws : List (List Int)} (h : RowsAt H0 H F rows ms ws) : rows.length = ms.length := by rw [← h.m, List.length_map]
theorem RowsAt.get {H0 H : Hp} {F : Addr} {rows : List Row} {ms : List Mv} {ws : List (List Int)} (h : RowsAt H0 H F rows ms ws) {i : Nat} (hi : i < ms.length) : ∃ x, rows[i]? = some x ∧ ms[i]? = some x.m ∧ ws[i]? = some x.l ∧ atI (rows.map fun x => V.ref x.r) (i : Int) = some (.ref x.r) ∧ RowAt H x := by
  have hi2 : i < rows.length := by rw [h.length]; exact hi
  obtain ⟨x, e⟩ : ∃ x, rows[i]? = some x := ⟨_, List.getElem?_eq_getElem hi2⟩
  refine ⟨x, e, ?_, ?_, atI_nat (by rw [List.getElem?_map, e]; rfl), h.at_ _ (List.mem_of_getElem? e)⟩
  · have z := congrArg (·[i]?) h.m
    simp only [List.getElem?_map, e] at z
    exact z.symm
  · have z := congrArg (·[i]?) h.l
    simp only [List.getElem?_map, e] at z
    exact z.symm
theorem RowsAt.add {H0 H' Hk : Hp} {F r y w : Addr} {n : Mv} {l : List Int} {xs : List V} {o : HO} {rows : List Row} {ms : List Mv} {ws : List (List Int)} (R : RowsAt H0 H' F rows ms ws) (s0 : Same H0 H') (s : Same H' Hk) (er : Hk r = some (.tup [.ref y, .ref w])) (ey : Hk y = some (.tup n.vs)) (ew : Hk w = some (.lst (l.map V.int)))
    (fw : H' w = none) (fr : H' r = none) (hF : H' F = some (.lst xs)) : RowsAt H0 (upd Hk F o) F (rows ++ [⟨r, y, w, n, l⟩]) (ms ++ [n]) (ws ++ [l]) := by
  have nw : w ≠ F := fun z => by rw [z, hF] at fw; cases fw
  have R1 := (R.same s).snoc (x := ⟨r, y, w, n, l⟩) ⟨er, ey, ew⟩ (s0.free fw) (s0.free fr) nw fun x hx z => by
    have e := (R.at_ x hx).2.2
    rw [z, fw] at e
    cases e
  exact R1.mut (fun vs e => by rw [s _ _ hF] at e; cases e) fun x hx => (R1.new x hx).2.2
theorem RowsAt.dict {H0 H : Hp} {F D : Addr} {kvs : List (Key × V)} {o : HO} {rows : List Row} {ms : List Mv} {ws : List (List Int)} (R : RowsAt H0 H F rows ms ws) (hD : H D = some (.dK kvs)) : RowsAt H0 (upd H D o) F rows ms ws :=
  R.mut (fun vs e => by rw [hD] at e; cases e) fun x hx z => by
    have e := (R.at_ x hx).2.2
    rw [z, hD] at e
    cases e
theorem w1_in {t : Tr} {m : Mv} (h : m.f ∈ way t m.u) : w1 t m = upTo m.f (way t m.u) := if_pos h
theorem w1_out {t : Tr} {m : Mv} (h : ¬ m.f ∈ way t m.u) : w1 t m = [] := if_neg h
def rowV (x : Row) : V := .ref x.r
def spSteps (C : Addr) : Sp := fun vs H Q _ => ∃ (p : Addr) (g : Lg), vs = [.ref p] ∧ LogAt C H p g ∧ Acyc g.t ∧ g.t.length + g.as.length ≤ 100000 ∧
  ∀ F rows H', H F = none → Same H H' → H' F = some (.lst (rows.map rowV)) → RowsAt H H' F rows g.ms (stepW g.t g.ms) → Q (.ref F) H'
theorem c_steps {C : Addr} {H : Hp} {p : Addr} {g : Lg} {Q : VK} {E : XK} (L : LogAt C H p g) (hA : Acyc g.t) (hl : g.t.length + g.as.length ≤ 100000) (h : ∀ F rows H', H F = none → Same H H' → H' F = some (.lst (rows.map rowV)) → RowsAt H H' F rows g.ms (stepW g.t g.ms) → Q (.ref F) H') : spSteps C [.ref p] H Q E := ⟨p, g, rfl, L, hA, hl, h⟩
/-- a move that is new -/
theorem c_hearNew {C N T X : Addr} {H : Hp} {p a : Addr} {g : Lg} {m : Mv} {Q : VK} {E : XK} (L : LogAt C H p g) (S : Srt g.ms) (hl : g.as.length ≤ 100000) (hx : H a = some (.tup m.vs)) (ok : m.Ok) (hs : g.s ≤ m.t) (hn : NewM m g.ms)
    (h : ∀ H', H' = upd H g.l (.lst ((g.heard a m).as.map V.ref)) → Q (.bl true) H') : spHear C N T X [.ref p, .ref a] H Q E :=
  ⟨p, g, _, rfl, L, S, hl, .inr ⟨a, m, rfl, hx, ok, fun c => absurd c (by omega), fun _ c => (new_not_clash hn c).elim, fun _ c => (new_not_mem hn c).elim, fun _ _ => h _ rfl⟩⟩
/-- the law's own steps: from no folder on -/
def spStepsOf0 : Sp := fun vs H Q _ => ∃ (l : Addr) (as : List Addr) (ms : List Mv), vs = [.ref l] ∧ H l = some (.lst (as.map V.ref)) ∧ MvsAt H as ms ∧ ms.length ≤ 100000 ∧
  ∀ F rows H', H F = none → Same H H' → H' F = some (.lst (rows.map rowV)) → RowsAt H H' F rows ms (stepW [] ms) → Q (.ref F) H'
def spStepsOf : Sp := fun vs H Q _ => ∃ (d l : Addr) (t : Tr) (as : List Addr) (ms : List Mv), vs = [.ref d, .ref l] ∧ H d = some (.dK (enc t)) ∧ H l = some (.lst (as.map V.ref)) ∧ MvsAt H as ms ∧ Acyc t ∧ t.length + ms.length ≤ 100000 ∧
  ∀ F rows H', H F = none → Same H H' → H' F = some (.lst (rows.map rowV)) → RowsAt H H' F rows ms (stepW t ms) → Q (.ref F) H'
/-- two lists of steps that say the same -/
def spSameSteps : Sp := fun vs H Q _ => ∃ (f d : Addr) (rows rows2 : List Row) (ms : List Mv) (ws : List (List Int)), vs = [.ref f, .ref d] ∧ H f = some (.lst (rows.map rowV)) ∧ H d = some (.lst (rows2.map rowV)) ∧ (∀ x ∈ rows, RowAt H x) ∧ (∀ x ∈ rows2, RowAt H x) ∧
  rows.map (·.m) = ms ∧ rows2.map (·.m) = ms ∧ rows.map (·.l) = ws ∧ rows2.map (·.l) = ws ∧ ms.length ≤ 100000 ∧ (∀ l ∈ ws, l.length ≤ 100000) ∧ ∀ H', Same H H' → Q (.bl true) H'
end Tm
namespace Tm
open PySem PySem.Spec PyProof.Rows L2
/-- k10: the law's own look at steps -/
def spLawSteps : Sp := fun vs H Q _ => ∃ (f l : Addr) (rows : List Row) (as : List Addr) (ms : List Mv), vs = [.ref f, .ref l] ∧ H f = some (.lst (rows.map rowV)) ∧ (∀ x ∈ rows, RowAt H x) ∧ rows.map (·.m) = ms ∧ rows.map (·.l) = stepW [] ms ∧ H l = some (.lst (as.map V.ref)) ∧ MvsAt H as ms ∧ ms.length ≤ 10000 ∧
  ∀ H', Same H H' → Q (.bl true) H'
theorem c_lawSteps {H : Hp} {f l : Addr} {rows : List Row} {as : List Addr} {ms : List Mv} {Q : VK} {E : XK} (hf : H f = some (.lst (rows.map rowV))) (hr : ∀ x ∈ rows, RowAt H x) (h1 : rows.map (·.m) = ms) (h2 : rows.map (·.l) = stepW [] ms) (hl : H l = some (.lst (as.map V.ref))) (hm : MvsAt H as ms) (hn : ms.length ≤ 10000) (h : ∀ H', Same H H' → Q (.bl true) H') : spLawSteps [.ref f, .ref l] H Q E :=
  ⟨f, l, rows, as, ms, rfl, hf, hr, h1, h2, hl, hm, hn, h⟩
theorem stepW_at {t : Tr} {ms : List Mv} {i : Nat} {n : Mv} (h : ms[i]? = some n) : (stepW t ms)[i]? = some (w1 (foldT t (ms.take i)) n) := by
  have e : ms = ms.take i ++ n :: ms.drop (i + 1) := by
    obtain ⟨hi, e⟩ := List.getElem?_eq_some_iff.mp h
    rw [← e, ← List.drop_eq_getElem_cons hi, List.take_append_drop]
  have app : ∀ (a b : List Mv) (t : Tr), stepW t (a ++ b) = stepW t a ++ stepW (foldT t a) b := by
    intro a
    induction a with
    | nil => intro b t; rfl
    | cons x r ih =>
      intro b t
      show w1 t x :: stepW (putT t x.f x.u) (r ++ b) = _
      rw [ih]
      rfl
  have hi : i < ms.length := (List.getElem?_eq_some_iff.mp h).1
  rw [e, app, List.getElem?_append_right (by rw [stepW_length, List.length_take]; omega)]
  have z : i - (stepW t (ms.take i)).length = 0 := by rw [stepW_length, List.length_take]; omega
  have z2 : (List.take i (ms.take i ++ n :: ms.drop (i + 1))) = ms.take i := by rw [← e]
  rw [z, z2]
  rfl
theorem w1_length {t : Tr} (h : Acyc t) (m : Mv) : (w1 t m).length ≤ t.length + 1 := by
  unfold w1
  split
  · unfold upTo
    rw [List.length_take]
    have := way_length h m.u
    omega
  · simp
end Tm
namespace Tm
open PySem PySem.Spec PyProof.Rows L2
/-! moves that close no ring: each folder under what is counted ahead of it -/
def Tidy (c : Int) (m : Mv) : Prop := ∃ i : Nat, i ≤ 100 ∧ m.f = nameF i c ∧ (m.u = 0 ∨ Told c i m.u)
def LvT (c : Int) (t : Tr) : Prop := ∀ k u, lk t k = some u → ∃ i : Nat, i ≤ 100 ∧ k = nameF i c ∧ (u = 0 ∨ Told c i u)
theorem LvT.nil {c : Int} : LvT c [] := fun _ _ h => nomatch h
theorem LvT.put {c : Int} {t : Tr} (h : LvT c t) {m : Mv} (hm : Tidy c m) : LvT c (pt t m.f m.u) := by
  intro k u e
  rw [lk_pt] at e
  by_cases z : k = m.f
  · rw [if_pos z] at e
    obtain ⟨i, hi, hf, hu⟩ := hm
    cases e
    exact ⟨i, hi, by rw [z, hf], hu⟩
  · rw [if_neg z] at e
    exact h k u e
theorem name_ne0 {c : Int} {i : Nat} (hi : i ≤ 100) : nameF i c ≠ 0 := by
  have := name_pos (k := i) (c := c) (by omega) (by omega)
  omega
theorem lv_path {c : Int} {t : Tr} (h : LvT c t) {u : Int} {l : List Int} (p : Path t u l) {i : Nat} (hi : i ≤ 100) (hu : u = 0 ∨ Told c i u) : ∀ x ∈ l, x = 0 ∨ Told c i x := by
  induction p with
  | top _ =>
    intro x hx
    simp at hx
    subst hx
    exact hu
  | @step f v l hl _ ih =>
    intro x hx
    rcases List.mem_cons.mp hx with rfl | hx
    · exact hu
    · obtain ⟨j, hj, hf, hv⟩ := h _ _ hl
      rcases hu with z | ⟨j2, hj2, e⟩
      · exact (name_ne0 hj (hf.symm.trans z)).elim
      · have := name_inj (by omega) (by omega) (by omega) (by omega) (hf.symm.trans e)
        exact ih (hv.imp id fun z => z.mono (by omega)) x hx
theorem tidy_no_ring {c : Int} {t : Tr} (h : LvT c t) (hA : Acyc t) {m : Mv} (hm : Tidy c m) : m.f ∉ way t m.u := by
  obtain ⟨i, hi, hf, hu⟩ := hm
  intro z
  rcases lv_path h (hA.path m.u) hi hu _ z with e | e
  · exact name_ne0 hi (hf.symm.trans e)
  · rw [hf] at e
    exact Told.new hi e
/-- the last of a folder -/
def IsLast (k : Int) (m : Mv) (ms : List Mv) : Prop := m ∈ ms ∧ m.f = k ∧ ∀ x ∈ ms, x.f = k → x = m ∨ Bef x m
def NoneOf (k : Int) (ms : List Mv) : Prop := ∀ x ∈ ms, x.f ≠ k
theorem fold_last {c : Int} : ∀ (ms : List Mv) (t : Tr), LvT c t → Acyc t → (∀ m ∈ ms, Tidy c m) → Srt ms → ∀ k, (NoneOf k ms → lk (foldT t ms) k = lk t k) ∧ ∀ m, IsLast k m ms → lk (foldT t ms) k = some m.u
  | [], t, _, _, _, _, k => ⟨fun _ => rfl, fun m h => nomatch h.1⟩
  | x :: r, t, hL, hA, hT, hS, k => by
    have hx := hT x List.mem_cons_self
    have e : putT t x.f x.u = pt t x.f x.u := putT_put (tidy_no_ring hL hA hx)
    have hA' : Acyc (pt t x.f x.u) := by rw [← e]; exact hA.putT _ _
    obtain ⟨s1, s2⟩ := List.pairwise_cons.mp hS
    obtain ⟨i1, i2⟩ := fold_last r (pt t x.f x.u) (hL.put hx) hA' (fun m hm => hT m (List.mem_cons_of_mem _ hm)) s2 k
    have e2 : foldT t (x :: r) = foldT (pt t x.f x.u) r := by
      show foldT (putT t x.f x.u) r = _
      rw [e]
    rw [e2]
    refine ⟨fun hn => ?_, fun m hm => ?_⟩
    · rw [i1 fun y hy => hn y (List.mem_cons_of_mem _ hy), lk_pt, if_neg fun z => hn x List.mem_cons_self z.symm]
    · obtain ⟨h1, h2, h3⟩ := hm
      by_cases c : m ∈ r
      · exact i2 m ⟨c, h2, fun y hy => h3 y (List.mem_cons_of_mem _ hy)⟩
      · have em : m = x := (List.mem_cons.mp h1).resolve_right c
        subst em
        rw [i1 fun y hy ey => ?_, lk_pt, if_pos h2.symm]
        rcases h3 y (List.mem_cons_of_mem _ hy) ey with z | z
        · exact c (z ▸ hy)
        · exact z.asym (s1 y hy)
theorem IsLast.skip {k : Int} {m x : Mv} {ms : List Mv} (h : IsLast k x ms) (n : m.f ≠ k) : IsLast k x (insM m ms) := ⟨mem_insM.mpr (.inr h.1), h.2.1, fun y hy ey => by
  rcases mem_insM.mp hy with z | z
  · exact (n (z ▸ ey)).elim
  · exact h.2.2 y z ey⟩
theorem NoneOf.skip {k : Int} {m : Mv} {ms : List Mv} (h : NoneOf k ms) (n : m.f ≠ k) : NoneOf k (insM m ms) := fun y hy => by
  rcases mem_insM.mp hy with z | z
  · exact z ▸ n
  · exact h y z
theorem NoneOf.now {k : Int} {m : Mv} {ms : List Mv} (h : NoneOf k ms) (n : m.f = k) : IsLast k m (insM m ms) := ⟨mem_insM.mpr (.inl rfl), n, fun y hy ey => by
  rcases mem_insM.mp hy with z | z
  · exact .inl z
  · exact (h y z ey).elim⟩
theorem IsLast.now {k : Int} {m x : Mv} {ms : List Mv} (h : IsLast k x ms) (n : m.f = k) (b : Bef x m) : IsLast k m (insM m ms) := ⟨mem_insM.mpr (.inl rfl), n, fun y hy ey => by
  rcases mem_insM.mp hy with z | z
  · exact .inl z
  · rcases h.2.2 y z ey with e | e
    · exact .inr (e ▸ b)
    · exact .inr (e.trans b)⟩
theorem IsLast.stays {k : Int} {m x : Mv} {ms : List Mv} (h : IsLast k x ms) (b : Bef m x) : IsLast k x (insM m ms) := ⟨mem_insM.mpr (.inr h.1), h.2.1, fun y hy ey => by
  rcases mem_insM.mp hy with z | z
  · exact .inr (z ▸ b)
  · exact h.2.2 y z ey⟩
/-- the law's dict of the last moves' times and hands -/
def LastAt (H : Hp) (c many : Int) (kvs : List (Key × V)) (ms : List Mv) : Prop := ∀ i : Int, 0 ≤ i → i < many → (NoneOf (nameF i c) ms ∧ valV kvs (Sum.inl i) = none) ∨ ∃ x a, IsLast (nameF i c) x ms ∧ valV kvs (Sum.inl i) = some (.ref a) ∧ H a = some (.tup [.int x.t, .int x.h])
theorem LastAt.nil {H : Hp} {c many : Int} : LastAt H c many [] [] := fun _ _ _ => .inl ⟨fun _ h => (by cases h), rfl⟩
theorem LastAt.of {H H' : Hp} {c many : Int} {kvs : List (Key × V)} {ms : List Mv} (h : LastAt H c many kvs ms) (k : ∀ a vs, H a = some (.tup vs) → H' a = some (.tup vs)) : LastAt H' c many kvs ms := fun i h0 h1 => by
  rcases h i h0 h1 with z | ⟨x, a, z1, z2, z3⟩
  · exact .inl z
  · exact .inr ⟨x, a, z1, z2, k _ _ z3⟩
theorem LastAt.put {H : Hp} {c many fi : Int} {kvs : List (Key × V)} {ms : List Mv} {m : Mv} {a : Addr} (h : LastAt H c many kvs ms) (hm : many ≤ 100) (h0 : 0 ≤ fi) (h1 : fi < many) (hf : m.f = nameF fi c) (ha : H a = some (.tup [.int m.t, .int m.h])) (hb : ∀ x, IsLast (nameF fi c) x ms → Bef x m) :
    LastAt H c many (putK kvs (Sum.inl fi) (.ref a)) (insM m ms) := fun i g0 g1 => by
  rw [valV_put]
  by_cases e : i = fi
  · subst e
    rw [if_pos rfl]
    refine .inr ⟨m, a, ?_, rfl, ha⟩
    rcases h i g0 g1 with z | ⟨x, _, z, _⟩
    · exact z.1.now hf
    · exact z.now hf (hb x z)
  · rw [if_neg (fun z => e (key_inj.mp z))]
    have n : m.f ≠ nameF i c := fun z => e (name_inj g0 (by omega) h0 (by omega) (z.symm.trans hf))
    rcases h i g0 g1 with z | ⟨x, a', z, z2⟩
    · exact .inl ⟨z.1.skip n, z.2⟩
    · exact .inr ⟨x, a', z.skip n, z2⟩
theorem LastAt.stay {H : Hp} {c many fi : Int} {kvs : List (Key × V)} {ms : List Mv} {m x : Mv} (h : LastAt H c many kvs ms) (hm : many ≤ 100) (h0 : 0 ≤ fi) (h1 : fi < many) (hf : m.f = nameF fi c) (hx : IsLast (nameF fi c) x ms) (b : Bef m x) : LastAt H c many kvs (insM m ms) := fun i g0 g1 => by
  by_cases e : i = fi
  · subst e
    rcases h i g0 g1 with z | ⟨y, a, z, z2⟩
    · exact (z.1 x hx.1 hx.2.1).elim
    · refine .inr ⟨y, a, z.stays ?_, z2⟩
      rcases z.2.2 x hx.1 hx.2.1 with e | e
      · exact e ▸ b
      · exact b.trans e
  · have n : m.f ≠ nameF i c := fun z => e (name_inj g0 (by omega) h0 (by omega) (z.symm.trans hf))
    rcases h i g0 g1 with z | ⟨x, a', z, z2⟩
    · exact .inl ⟨z.1.skip n, z.2⟩
    · exact .inr ⟨x, a', z.skip n, z2⟩
def DueT (due : Tr) (ms : List Mv) : Prop := ∀ k, (NoneOf k ms ∧ lk due k = none) ∨ ∃ x, IsLast k x ms ∧ lk due k = some x.u
theorem DueT.nil : DueT [] [] := fun _ => .inl ⟨fun _ h => (by cases h), rfl⟩
theorem DueT.put {due : Tr} {ms : List Mv} {m : Mv} (h : DueT due ms) (hb : ∀ x, IsLast m.f x ms → Bef x m) : DueT (pt due m.f m.u) (insM m ms) := fun k => by
  rw [lk_pt]
  by_cases e : k = m.f
  · subst e
    rw [if_pos rfl]
    refine .inr ⟨m, ?_, rfl⟩
    rcases h m.f with z | ⟨x, z, _⟩
    · exact z.1.now rfl
    · exact z.now rfl (hb x z)
  · rw [if_neg e]
    rcases h k with z | ⟨x, z, z2⟩
    · exact .inl ⟨z.1.skip fun q => e q.symm, z.2⟩
    · exact .inr ⟨x, z.skip fun q => e q.symm, z2⟩
theorem DueT.stay {due : Tr} {ms : List Mv} {m x : Mv} (h : DueT due ms) (hx : IsLast m.f x ms) (b : Bef m x) : DueT due (insM m ms) := fun k => by
  by_cases e : k = m.f
  · subst e
    rcases h m.f with z | ⟨y, z, z2⟩
    · exact (z.1 x hx.1 hx.2.1).elim
    · refine .inr ⟨y, z.stays ?_, z2⟩
      rcases z.2.2 x hx.1 hx.2.1 with e | e
      · exact e ▸ b
      · exact b.trans e
  · rcases h k with z | ⟨x, z, z2⟩
    · exact .inl ⟨z.1.skip fun q => e q.symm, z.2⟩
    · exact .inr ⟨x, z.skip fun q => e q.symm, z2⟩
theorem DueT.same {c : Int} {due : Tr} {ms : List Mv} (h : DueT due ms) (hT : ∀ m ∈ ms, Tidy c m) (hS : Srt ms) : SameT (foldT [] ms) due := fun k => by
  obtain ⟨f1, f2⟩ := fold_last ms [] LvT.nil Acyc.nil hT hS k
  rcases h k with z | ⟨x, z, z2⟩
  · rw [f1 z.1, z.2]
    rfl
  · rw [f2 x z, z2]
/-! hands -/
def handB (i s : Int) : Int := if i = 0 then 0 else if i = 1 then 1000 else if i = 2 then 1000000 else if i = 3 then 10000000 + s % 100000000000000000000000000000000000000000000000000000000000 else E60 - 1000
def handF (k s : Int) : Int := handB (k * 3 % 5) s + k
theorem hand_ok {k s : Int} (h0 : 0 ≤ k) (h1 : k ≤ 900) : 0 ≤ handF k s ∧ handF k s ≤ E60 := by
  unfold handF handB
  simp only [E60]
  have e0 := Int.emod_nonneg s (show (100000000000000000000000000000000000000000000000000000000000 : Int) ≠ 0 by decide)
  have e1 := Int.emod_lt_of_pos s (show (0 : Int) < 100000000000000000000000000000000000000000000000000000000000 by decide)
  generalize s % 100000000000000000000000000000000000000000000000000000000000 = z at *
  repeat' split
  all_goals omega
theorem hand_inj {k j s : Int} (h0 : 0 ≤ k) (h1 : k ≤ 300) (g0 : 0 ≤ j) (g1 : j ≤ 300) (e : handF k s = handF j s) : k = j := by
  unfold handF handB at e
  simp only [E60] at e
  have e0 := Int.emod_nonneg s (show (100000000000000000000000000000000000000000000000000000000000 : Int) ≠ 0 by decide)
  have e1 := Int.emod_lt_of_pos s (show (0 : Int) < 100000000000000000000000000000000000000000000000000000000000 by decide)
  generalize s % 100000000000000000000000000000000000000000000000000000000000 = z at *
  generalize k * 3 % 5 = a at *
  generalize j * 3 % 5 = b at *
  repeat' split at e
  all_goals omega
def spHand : Sp := fun vs H Q _ => ∃ k s : Int, vs = [.int k, .int s] ∧ 0 ≤ k ∧ k ≤ 300 ∧ ∀ H', Same H H' → Q (.int (handF k s)) H'
theorem c_hand {H : Hp} {k s : Int} {Q : VK} {E : XK} (h0 : 0 ≤ k) (h1 : k ≤ 300) (h : ∀ H', Same H H' → Q (.int (handF k s)) H') : spHand [.int k, .int s] H Q E := ⟨k, s, rfl, h0, h1, h⟩
/-- two dicts that are the same -/
theorem pair_dict {K : PySem.W.Frag} {H : Hp} {a x y : Addr} {t : Tr} (ha : H a = some (.tup [.ref x, .ref y])) (hx : H x = some (.dK (enc t))) (hy : H y = some (.dK (enc t))) (hn : Nd t) : PairAt K H a :=
  ⟨x, y, ha, fun Q q => .inr ⟨x, y, enc t, enc t, rfl, rfl, hx, hy, rfl, fun p hp => by
    unfold enc at hp
    obtain ⟨z, hz, e⟩ := List.mem_map.mp hp
    subst e
    refine ⟨?_, rfl⟩
    rw [valV_enc, lk_of_mem hn (k := z.1) (v := z.2) hz]
    rfl, q⟩⟩
end Tm
namespace Tm
open PySem PySem.Spec PyProof.Rows L2
/-! a log beside the law's own list of what is kept -/
theorem LogAt.sameP {C : Addr} {H H' : Hp} {p q : Addr} {g : Lg} {xs : List V} (h : LogAt C H p g) (s : SameP q H H') (hq : H q = some (.lst xs)) (n : g.l ≠ q) : LogAt C H' p g :=
  ⟨s _ _ (fun z => by have e := h.hp; rw [z, hq] at e; cases e) h.hp, s _ _ (fun z => by have e := h.hb; rw [z, hq] at e; cases e) h.hb, s _ _ n h.hl, h.hm.of fun b vs e => s _ _ (fun z => by rw [z, hq] at e; cases e) e⟩
structure KeptI (K : PySem.W.Frag) (C : Addr) (H : Hp) (p kl hl : Addr) (g : Lg) (as hs : List Addr) (n : Nat) : Prop where
  L : LogAt C H p g
  S : Srt g.ms
  ok : ∀ m ∈ g.ms, m.Ok
  ac : Acyc g.t
  k : H kl = some (.lst (as.map V.ref))
  km : MvsAt H as g.ms
  h : H hl = some (.lst (hs.map V.ref))
  hd : Held K [p, g.l, hl] H hs
  n1 : g.l ≠ hl
  n2 : g.l ≠ kl
  n3 : kl ≠ hl
  s0 : 0 ≤ g.s
  tl : g.t.length + g.as.length ≤ n
  hn : hs.length ≤ n + 1
section
variable {K : PySem.W.Frag} {C : Addr} {H H' : Hp} {p kl hl : Addr} {g : Lg} {as hs : List Addr} {n : Nat}
theorem KeptI.len (h : KeptI K C H p kl hl g as hs n) : g.as.length = g.ms.length ∧ as.length = g.ms.length ∧ g.ms.length ≤ n := by
  have z1 := h.L.hm.length
  have z2 := h.km.length
  have z3 := h.tl
  omega
theorem KeptI.same (h : KeptI K C H p kl hl g as hs n) (s : Same H H') : KeptI K C H' p kl hl g as hs n :=
  ⟨h.L.same s, h.S, h.ok, h.ac, s _ _ h.k, h.km.same s, s _ _ h.h, h.hd.keep (Kx.of s), h.n1, h.n2, h.n3, h.s0, h.tl, h.hn⟩
theorem KeptI.up (h : KeptI K C H p kl hl g as hs n) {n' : Nat} (e : n ≤ n') : KeptI K C H p kl hl g as hs n' :=
  ⟨h.L, h.S, h.ok, h.ac, h.k, h.km, h.h, h.hd, h.n1, h.n2, h.n3, h.s0, by have := h.tl; omega, by have := h.hn; omega⟩
theorem KeptI.held {a : Addr} (h : KeptI K C H p kl hl g as hs n) (s : SameP hl H H') (e : H' hl = some (.lst ((hs ++ [a]).map V.ref))) (q : ∀ H2, Kx [p, g.l, hl] H' H2 → PairAt K H2 a) (l : hs.length ≤ n) : KeptI K C H' p kl hl g as (hs ++ [a]) n :=
  ⟨h.L.sameP s h.h h.n1, h.S, h.ok, h.ac, s _ _ h.n3 h.k, h.km.of (fun b vs eb => s _ _ (fun z => by rw [z, h.h] at eb; cases eb) eb), e, (h.hd.keep (Kx.ofP (by simp) s)).snoc q, h.n1, h.n2, h.n3, h.s0, h.tl, by simp; omega⟩
theorem KeptI.new {a l : Addr} {m : Mv} (h : KeptI K C H p kl hl g as hs n) (e : H a = some (.tup m.vs)) (ok : m.Ok) (hn : NewM m g.ms) (s : Same (upd H g.l (.lst ((g.heard a m).as.map V.ref))) H') (fl : upd H g.l (.lst ((g.heard a m).as.map V.ref)) l = none)
    (el : H' l = some (.lst ((insA (posM m g.ms) a as).map V.ref))) : KeptI K C H' p l hl (g.heard a m) (insA (posM m g.ms) a as) hs (n + 1) := by
  obtain ⟨f1, f2⟩ := new_free fl
  have nt : ∀ b vs, H b = some (.tup vs) → b ≠ g.l := fun b vs eb z => by rw [z, h.L.hl] at eb; cases eb
  refine ⟨(h.L.heard e).same s, h.S.ins hn, fun x hx => ?_, h.ac, el, ((h.km.ins e _).of fun b vs eb => s _ _ (keep_ne eb (nt b vs eb))), s _ _ (keep_ne h.h h.n1.symm), h.hd.keep ((Kx.mut (by simp) Kx.refl).trans (Kx.of s)), h.n1, fun z => f2 z.symm, fun z => (by rw [z, h.h] at f1; cases f1), h.s0, ?_, by have := h.hn; omega⟩
  · rcases mem_insM.mp hx with z | z
    · exact z ▸ ok
    · exact h.ok x z
  · have := h.tl
    show g.t.length + (insA (posM m g.ms) a g.as).length ≤ n + 1
    rw [insA_length]
    omega
theorem KeptI.settle {b l k2 : Addr} {time : Int} {H2 : Hp} (h : KeptI K C H p kl hl g as hs n) (s : SameP p H H') (hb : b = g.b ∨ H b = none) (fl : H l = none) (L : LogAt C H' p (g.settled b l time)) (s2 : Same H' H2) (fk : H' k2 = none) (ek : H2 k2 = some (.lst ((as.drop (goneM time g.ms)).map V.ref))) :
    KeptI K C H2 p k2 hl (g.settled b l time) (as.drop (goneM time g.ms)) hs n := by
  have np : ∀ b xs, H b = some (.lst xs) → b ≠ p := fun b xs eb z => by rw [z, h.L.hp] at eb; cases eb
  have ntp : ∀ b xs, H b = some (.tup xs) → b ≠ p := fun b xs eb z => by rw [z, h.L.hp] at eb; cases eb
  have km' : MvsAt H2 as g.ms := (h.km.of fun b vs eb => s _ _ (ntp b vs eb) eb).same s2
  have hh := s _ _ (np _ _ h.h) h.h
  have hll := L.hl
  have n1 : l ≠ hl := fun z => by rw [z, h.h] at fl; cases fl
  refine ⟨L.same s2, h.S.drop _, fun x hx => h.ok x (List.mem_of_mem_drop hx), h.ac.foldT _, ek, km'.drop _, s2 _ _ hh, ?_, n1, fun z => ?_, fun z => ?_, ?_, ?_, h.hn⟩
  · refine Held.keep (H := H') (Held.lo (ex := [p, l, hl]) ?_ fun b hb => .inl hb) (Kx.of s2)
    refine Held.keep (H := H) (Held.lo h.hd fun b hb => ?_) (Kx.ofP (by simp) s)
    simp only [List.mem_cons, List.not_mem_nil, or_false] at hb
    rcases hb with z | z | z
    · exact .inl (by simp [z])
    · exact .inr (z ▸ fl)
    · exact .inl (by simp [z])
  · have z1 : (g.settled b l time).l = k2 := z
    rw [← z1, hll] at fk
    cases fk
  · rw [z, hh] at fk
    cases fk
  · show 0 ≤ max g.s time
    have := h.s0
    omega
  · have z1 := foldT_length g.t (g.ms.take (goneM time g.ms))
    have z2 := goneM_le time g.ms
    have z3 := h.tl
    have z4 := h.len
    rw [List.length_take] at z1
    show (foldT g.t (g.ms.take (goneM time g.ms))).length + (g.as.drop (goneM time g.ms)).length ≤ n
    rw [List.length_drop]
    omega
end
/-- how many are of lesser times -/
theorem count_gone {time : Int} : ∀ {ms : List Mv}, Srt ms → (ms.countP fun m => decide (m.t < time)) = goneM time ms
  | [], _ => rfl
  | x :: r, h => by
    obtain ⟨h1, h2⟩ := List.pairwise_cons.mp h
    unfold goneM
    rw [List.takeWhile_cons, List.countP_cons]
    by_cases c : x.t < time
    · simp only [c, decide_true, if_true, List.length_cons]
      rw [count_gone h2]
      rfl
    · simp only [c, decide_false]
      have : (r.countP fun m => decide (m.t < time)) = 0 := by
        rw [List.countP_eq_zero]
        intro y hy
        have b := h1 y hy
        unfold Bef at b
        simp
        omega
      rw [this]
      simp
/-- what the three errors are apart -/
structure ApartE (N T X : Addr) : Prop where
  nt : N ≠ T
  nx : N ≠ X
  tx : T ≠ X
section
variable {C N T X : Addr} {H : Hp} {p : Addr} {g : Lg} {Q : VK} {E : XK}
theorem c_heardBad {x : V} (A : ApartE N T X) (L : LogAt C H p g) (S : Srt g.ms) (hl : g.as.length ≤ 100000) (hx : BadMv H x) (h : Q (.str "no move") H) : spHeard C N T X [.ref p, x] H Q E :=
  ⟨p, g, x, rfl, L, S, hl, .inl ⟨hx, fun _ => h, fun e => (A.nt (Value.ref.inj e)).elim, fun e => (A.nx (Value.ref.inj e)).elim⟩⟩
theorem c_heard {a : Addr} {m : Mv} (A : ApartE N T X) (L : LogAt C H p g) (S : Srt g.ms) (hl : g.as.length ≤ 100000) (hx : H a = some (.tup m.vs)) (ok : m.Ok) (h1 : m.t < g.s → Q (.str "too late") H) (h2 : g.s ≤ m.t → ClashM m g.ms → Q (.str "clash") H)
    (h3 : g.s ≤ m.t → m ∈ g.ms → Q (.bl false) H) (h4 : g.s ≤ m.t → NewM m g.ms → Q (.bl true) (upd H g.l (.lst ((g.heard a m).as.map V.ref)))) : spHeard C N T X [.ref p, .ref a] H Q E :=
  ⟨p, g, _, rfl, L, S, hl, .inr ⟨a, m, rfl, hx, ok, fun c => ⟨fun e => (A.nt (Value.ref.inj e).symm).elim, fun _ => h1 c, fun e => (A.tx (Value.ref.inj e)).elim⟩, fun c d => ⟨fun e => (A.nx (Value.ref.inj e).symm).elim, fun e => (A.tx (Value.ref.inj e).symm).elim, fun _ => h2 c d⟩, h3, h4⟩⟩
theorem c_refBad {x : V} (L : LogAt C H p g) (S : Srt g.ms) (hl : g.as.length ≤ 100000) (hx : BadMv H x) (h : Q (.bl true) H) : spRefusedL C N T X [.ref p, x] H Q E := ⟨p, g, x, rfl, L, S, hl, .inl ⟨hx, h⟩⟩
theorem c_ref {a : Addr} {m : Mv} (L : LogAt C H p g) (S : Srt g.ms) (hl : g.as.length ≤ 100000) (hx : H a = some (.tup m.vs)) (ok : m.Ok) (c : m.t < g.s ∨ ClashM m g.ms) (h : Q (.bl true) H) : spRefusedL C N T X [.ref p, .ref a] H Q E :=
  ⟨p, g, _, rfl, L, S, hl, .inr ⟨a, m, rfl, hx, ok, fun _ => h, fun _ _ => h, fun c1 c2 => by
    rcases c with z | z
    · omega
    · exact (mem_not_clash S c2 z).elim, fun c1 c2 => by
    rcases c with z | z
    · omega
    · exact (new_not_clash c2 z).elim⟩⟩
end
end Tm
namespace Tm
open PySem PySem.Spec PyProof.Rows L2
theorem at12 {i : Int} (h0 : 0 ≤ i) (h : i < 12) : ∃ n, atI [V.int 1, .int 2, .int 3, .int 4, .int 9, .int 10, .int 11, .int 12, .int 99, .int 100, .int 101, .int 102] i = some (.int n) := by
  have e : i = 0 ∨ i = 1 ∨ i = 2 ∨ i = 3 ∨ i = 4 ∨ i = 5 ∨ i = 6 ∨ i = 7 ∨ i = 8 ∨ i = 9 ∨ i = 10 ∨ i = 11 := by omega
  rcases e with e | e | e | e | e | e | e | e | e | e | e | e <;> subst e <;> exact ⟨_, rfl⟩
theorem c_asKept {K : PySem.W.Frag} {C : Addr} {H : Hp} {p kl hl : Addr} {g : Lg} {as hs : List Addr} {n : Nat} {Q : VK} {E : XK} (I : KeptI K C H p kl hl g as hs n) (hn : n ≤ 99999) (l : hs.length ≤ n) (h : ∀ H' hs', SameP hl H H' → KeptI K C H' p kl hl g as hs' n → hs'.length = hs.length + 1 → Q (.bl true) H') : spAsKept K C [.ref p, .ref kl, .int g.s, .ref hl] H Q E :=
  ⟨p, kl, hl, g, as, hs, rfl, I.L, I.k, I.km, I.h, by have := I.len; omega, by omega, I.s0, fun a H' s e q => h H' _ s (I.held s e q l) (by simp)⟩
theorem c_drawn {H : Hp} {k : Addr} {as : List Addr} {ms : List Mv} {deed cell second : Int} {Q : VK} {E : XK} (hk : H k = some (.lst (as.map V.ref))) (hm : MvsAt H as ms) (ho : ∀ m ∈ ms, m.Ok) (hl : ms.length ≤ 100000) (hd : DeedOk deed) (h : ∀ x H', Same H H' → DrawnV H' deed x → Q x H') :
    spDrawn [.ref k, .int deed, .int cell, .int second] H Q E := ⟨k, as, ms, deed, cell, second, rfl, hk, hm, ho, hl, hd, h⟩
theorem c_dueBad {H : Hp} {k : Addr} {as : List Addr} {ms : List Mv} {since deed : Int} {x : V} {Q : VK} {E : XK} (hk : H k = some (.lst (as.map V.ref))) (hm : MvsAt H as ms) (hl : ms.length ≤ 100000) (hd : deed % 16 = 7) (h : Q (.str "no move") H) : spDueOf [.ref k, .int since, x, .int deed] H Q E := ⟨k, as, ms, since, deed, x, rfl, hk, hm, hl, .inl ⟨hd, h⟩⟩
theorem c_due8 {H : Hp} {k a : Addr} {m : Mv} {as : List Addr} {ms : List Mv} {since deed : Int} {Q : VK} {E : XK} (hk : H k = some (.lst (as.map V.ref))) (hm : MvsAt H as ms) (hl : ms.length ≤ 100000) (hd : ¬ deed % 16 = 7) (hx : H a = some (.tup m.vs)) (h : ∀ H', Same H H' → Q (dueV since m ms) H') : spDueOf [.ref k, .int since, .ref a, .int deed] H Q E := ⟨k, as, ms, since, deed, _, rfl, hk, hm, hl, .inr ⟨hd, a, m, rfl, hx, h⟩⟩
end Tm
namespace Tm
open PySem PySem.Spec PyProof.Rows L2
/-! k09: a log, and the law's two dicts beside it -/
structure I9 (K : PySem.W.Frag) (C : Addr) (H : Hp) (c second many : Int) (lg b l dx la du hl : Addr) (as : List Addr) (ms : List Mv) (kvs : List (Key × V)) (dt : Tr) (hs : List Addr) (n : Nat) : Prop where
  L : LogAt C H lg ⟨b, l, dx, 0, [], as, ms⟩
  S : Srt ms
  T : ∀ m ∈ ms, Tidy c m
  hd : ∀ m ∈ ms, ∃ j : Nat, j < n ∧ m.h = handF (j * 7 % 101) second
  ela : H la = some (.dK kvs)
  lk : kvs.length ≤ n
  lq : LastAt H c many kvs ms
  edu : H du = some (.dK (enc dt))
  nd : Nd dt
  dq : DueT dt ms
  dl : dt.length ≤ n
  h : H hl = some (.lst (hs.map V.ref))
  hn : hs.length ≤ n
  hh : Held K [lg, l, la, du, hl] H hs
  len : ms.length = n
  n1 : la ≠ du
  n2 : b ≠ la
  n3 : b ≠ du
  n4 : l ≠ hl
theorem putK_length {kvs : List (Key × V)} {k : Key} {v : V} : (putK kvs k v).length ≤ kvs.length + 1 := by
  unfold putK
  split
  · rw [List.length_map]; omega
  · simp
section
variable {K : PySem.W.Frag} {C : Addr} {H H' H2 : Hp} {c second many : Int} {lg b l dx la du hl : Addr} {as : List Addr} {ms : List Mv} {kvs : List (Key × V)} {dt : Tr} {hs : List Addr} {n : Nat}
theorem I9.same (h : I9 K C H c second many lg b l dx la du hl as ms kvs dt hs n) (s : Same H H') : I9 K C H' c second many lg b l dx la du hl as ms kvs dt hs n :=
  ⟨h.L.same s, h.S, h.T, h.hd, s _ _ h.ela, h.lk, h.lq.of fun _ _ e => s _ _ e, s _ _ h.edu, h.nd, h.dq, h.dl, s _ _ h.h, h.hn, h.hh.keep (Kx.of s), h.len, h.n1, h.n2, h.n3, h.n4⟩
theorem I9.base (h : I9 K C H c second many lg b l dx la du hl as ms kvs dt hs n) {a : Addr} {m : Mv} (e : H a = some (.tup m.vs)) (nw : NewM m ms) (ti : Tidy c m) (hm : m.h = handF (n * 7 % 101) second) (s : Same (upd H l (.lst ((insA (posM m ms) a as).map V.ref))) H') :
    LogAt C H' lg ⟨b, l, dx, 0, [], insA (posM m ms) a as, insM m ms⟩ ∧ Srt (insM m ms) ∧ (∀ x ∈ insM m ms, Tidy c x) ∧ (∀ x ∈ insM m ms, ∃ j : Nat, j < n + 1 ∧ x.h = handF (j * 7 % 101) second) ∧ LastAt H' c many kvs ms ∧
    H' la = some (.dK kvs) ∧ H' du = some (.dK (enc dt)) ∧ H' hl = some (.lst (hs.map V.ref)) ∧ Held K [lg, l, la, du, hl] H' hs := by
  have nl : ∀ b o, H b = some o → (∀ xs, o ≠ .lst xs) → b ≠ l := fun b o eb k z => by
    have e := h.L.hl
    rw [← z, eb] at e
    exact k _ (Option.some.inj e)
  refine ⟨LogAt.same (g := ⟨b, l, dx, 0, [], insA (posM m ms) a as, insM m ms⟩) (LogAt.heard (g := ⟨b, l, dx, 0, [], as, ms⟩) h.L e) s, h.S.ins nw, fun x hx => ?_, fun x hx => ?_, h.lq.of fun a vs ea => s _ _ (keep_ne ea (nl _ _ ea fun xs => by intro z; cases z)), s _ _ (keep_ne h.ela (nl _ _ h.ela fun xs => by intro z; cases z)), s _ _ (keep_ne h.edu (nl _ _ h.edu fun xs => by intro z; cases z)), s _ _ (keep_ne h.h h.n4.symm), h.hh.keep ((Kx.mut (by simp) Kx.refl).trans (Kx.of s))⟩
  · rcases mem_insM.mp hx with z | z
    · exact z ▸ ti
    · exact h.T x z
  · rcases mem_insM.mp hx with z | z
    · exact ⟨n, by omega, z ▸ hm⟩
    · obtain ⟨j, hj, e⟩ := h.hd x z
      exact ⟨j, by omega, e⟩
theorem I9.stay (h : I9 K C H c second many lg b l dx la du hl as ms kvs dt hs n) {a : Addr} {m x : Mv} {fi : Int} (e : H a = some (.tup m.vs)) (nw : NewM m ms) (ti : Tidy c m) (hm : m.h = handF (n * 7 % 101) second) (s : Same (upd H l (.lst ((insA (posM m ms) a as).map V.ref))) H')
    (hmany : many ≤ 100) (f0 : 0 ≤ fi) (f1 : fi < many) (hf : m.f = nameF fi c) (hx : IsLast (nameF fi c) x ms) (bx : Bef m x) : I9 K C H' c second many lg b l dx la du hl (insA (posM m ms) a as) (insM m ms) kvs dt hs (n + 1) := by
  obtain ⟨b1, b2, b3, b4, b5, b6, b7, b8, b9⟩ := h.base e nw ti hm s
  exact ⟨b1, b2, b3, b4, b6, by have := h.lk; omega, b5.stay hmany f0 f1 hf hx bx, b7, h.nd, h.dq.stay (hf ▸ hx) bx, by have := h.dl; omega, b8, by have := h.hn; omega, b9, by rw [insM_length, h.len], h.n1, h.n2, h.n3, h.n4⟩
theorem I9.put (h : I9 K C H c second many lg b l dx la du hl as ms kvs dt hs n) {a a2 : Addr} {m : Mv} {fi : Int} (e : H a = some (.tup m.vs)) (nw : NewM m ms) (ti : Tidy c m) (hm : m.h = handF (n * 7 % 101) second) (s : Same (upd H l (.lst ((insA (posM m ms) a as).map V.ref))) H')
    (hmany : many ≤ 100) (f0 : 0 ≤ fi) (f1 : fi < many) (hf : m.f = nameF fi c) (hb : ∀ x, IsLast (nameF fi c) x ms → Bef x m) (e2 : H' a2 = some (.tup [.int m.t, .int m.h])) :
    I9 K C (upd (upd H' la (.dK (putK kvs (Sum.inl fi) (.ref a2)))) du (.dK (enc (pt dt m.f m.u)))) c second many lg b l dx la du hl (insA (posM m ms) a as) (insM m ms) (putK kvs (Sum.inl fi) (.ref a2)) (pt dt m.f m.u) hs (n + 1) := by
  obtain ⟨b1, b2, b3, b4, b5, b6, b7, b8, b9⟩ := h.base e nw ti hm s
  have nt : ∀ x vs, H' x = some (.tup vs) → upd (upd H' la (.dK (putK kvs (Sum.inl fi) (.ref a2)))) du (.dK (enc (pt dt m.f m.u))) x = some (.tup vs) := fun x vs ex =>
    keep_ne (keep_ne ex fun z => by rw [z, b6] at ex; cases ex) fun z => by rw [z, b7] at ex; cases ex
  have nl : ∀ x xs, H' x = some (.lst xs) → upd (upd H' la (.dK (putK kvs (Sum.inl fi) (.ref a2)))) du (.dK (enc (pt dt m.f m.u))) x = some (.lst xs) := fun x vs ex =>
    keep_ne (keep_ne ex fun z => by rw [z, b6] at ex; cases ex) fun z => by rw [z, b7] at ex; cases ex
  refine ⟨⟨keep_ne (keep_ne b1.hp fun z => ?_) fun z => ?_, keep_ne (keep_ne b1.hb h.n2) h.n3, nl _ _ b1.hl, b1.hm.of nt⟩, b2, b3, b4, keep_ne upd_same h.n1, ?_, ?_, upd_same, h.nd.pt _ _, ?_, ?_, nl _ _ b8, by have := h.hn; omega, ?_, by rw [insM_length, h.len], h.n1, h.n2, h.n3, h.n4⟩
  · have q := b1.hp; rw [z, b6] at q; cases q
  · have q := b1.hp; rw [z, b7] at q; cases q
  · have := h.lk
    have := putK_length (kvs := kvs) (k := Sum.inl fi) (v := .ref a2)
    omega
  · exact (b5.put hmany f0 f1 hf e2 hb).of nt
  · exact h.dq.put (by rw [hf]; exact hb)
  · have := h.dl
    have := pt_length dt m.f m.u
    omega
  · exact b9.keep (Kx.mut (by simp) (Kx.mut (by simp) Kx.refl))
theorem I9.held {a : Addr} (h : I9 K C H c second many lg b l dx la du hl as ms kvs dt hs n) (q : ∀ H2, Kx [lg, l, la, du, hl] (upd H hl (.lst (hs.map V.ref ++ [.ref a]))) H2 → PairAt K H2 a) (hn : hs.length + 1 ≤ n) :
    I9 K C (upd H hl (.lst (hs.map V.ref ++ [.ref a]))) c second many lg b l dx la du hl as ms kvs dt (hs ++ [a]) n := by
  have nt : ∀ x o, H x = some o → (∀ xs, o ≠ .lst xs) → x ≠ hl := fun b o eb k z => by
    have e := h.h
    rw [← z, eb] at e
    exact k _ (Option.some.inj e)
  refine ⟨⟨keep_ne h.L.hp (nt _ _ h.L.hp fun xs z => by cases z), keep_ne h.L.hb (nt _ _ h.L.hb fun xs z => by cases z), keep_ne h.L.hl h.n4, h.L.hm.of fun x vs ex => keep_ne ex (nt _ _ ex fun xs z => by cases z)⟩, h.S, h.T, h.hd, keep_ne h.ela (nt _ _ h.ela fun xs z => by cases z), h.lk, h.lq.of fun x vs ex => keep_ne ex (nt _ _ ex fun xs z => by cases z), keep_ne h.edu (nt _ _ h.edu fun xs z => by cases z), h.nd, h.dq, h.dl, ?_, by simp; omega, (h.hh.keep (Kx.mut (by simp) Kx.refl)).snoc q, h.len, h.n1, h.n2, h.n3, h.n4⟩
  rw [upd_same, List.map_append]
  rfl
theorem I9.new (h : I9 K C H c second many lg b l dx la du hl as ms kvs dt hs n) {m : Mv} (hn : n ≤ 60) (hm : m.h = handF (n * 7 % 101) second) : NewM m ms := fun x hx k => by
  obtain ⟨j, hj, e⟩ := h.hd x hx
  have e2 : handF (j * 7 % 101) second = handF (n * 7 % 101) second := by rw [← e, ← hm]; exact k.2
  have := hand_inj (by omega) (by omega) (by omega) (by omega) e2
  omega
end
end Tm
namespace Tm
open PySem PySem.Spec PyProof.Rows L2
/-! rows as data -/
def intsD (l : List Int) : PyData := .list (l.map PyData.int)
def rowD (p : Mv × List Int) : PyData := .tuple [p.1.d, intsD p.2]
theorem dpAll_ints {K : PySem.W.Frag} {H : Hp} : ∀ l : List Int, DpAll K H (l.map V.int) (l.map PyData.int)
  | [] => .nil
  | x :: r => .cons (.int x) (dpAll_ints r)
theorem lay_ints : ∀ l : List Int, PyData.canLayAll0 (l.map PyData.int) = true
  | [] => by simp [PyData.canLayAll0]
  | x :: r => by
    have := lay_ints r
    simp [PyData.canLayAll0, this, PyData.canLay0]
theorem depth_ints : ∀ l : List Int, PyData.depthAll (l.map PyData.int) = 0
  | [] => by simp [PyData.depthAll]
  | x :: r => by
    have := depth_ints r
    simp [PyData.depthAll, this, PyData.depth]
theorem eqv_ints : ∀ l : List Int, PyData.eqvAll (l.map PyData.int) (l.map PyData.int) = true
  | [] => by simp [PyData.eqvAll]
  | x :: r => by
    have := eqv_ints r
    simp [PyData.eqvAll, this, PyData.eqv]
theorem Row.dp {K : PySem.W.Frag} {H : Hp} {x : Row} (h : RowAt H x) : Dp K H (rowV x) (rowD (x.m, x.l)) :=
  .tup (SqT.of h.1) (.cons (Mv.dp h.2.1) (.cons (.lst (SqL.of h.2.2) (dpAll_ints _)) .nil))
theorem rowD_lay (p : Mv × List Int) : (rowD p).canLay0 = true := by
  have h := lay_ints p.2
  simp [rowD, intsD, PyData.canLay0, PyData.canLayAll0, Mv.d, h]
theorem rowD_depth (p : Mv × List Int) : (rowD p).depth = 2 := by
  have h := depth_ints p.2
  simp [rowD, intsD, PyData.depth, PyData.depthAll, Mv.d, h]
theorem rowD_eqv (p : Mv × List Int) : PyData.eqv (rowD p) (rowD p) = true := by
  have h := eqv_ints p.2
  have e : PyData.eqv p.1.d p.1.d = true := by rw [Mv.eqv]; simp
  simp [rowD, intsD, PyData.eqv, PyData.eqvAll, h, e]
/-- rows, and None behind them or not -/
def endV (b : Bool) : List V := if b then [.non] else []
def endD (b : Bool) : List PyData := if b then [.none] else []
theorem dp_rows {K : PySem.W.Frag} {H : Hp} (b : Bool) : ∀ {rows : List Row}, (∀ x ∈ rows, RowAt H x) → DpAll K H (rows.map rowV ++ endV b) ((rows.map fun x => rowD (x.m, x.l)) ++ endD b)
  | [], _ => by
    cases b
    · exact .nil
    · exact .cons .non .nil
  | x :: r, h => .cons (Row.dp (h x List.mem_cons_self)) (dp_rows b fun y hy => h y (List.mem_cons_of_mem _ hy))
theorem sh_rows (b : Bool) (ps : List (Mv × List Int)) : SeqAt.shaped (.list (ps.map rowD ++ endD b)) = true := by
  have h1 : PyData.canLayAll0 (ps.map rowD ++ endD b) = true ∧ PyData.depthAll (ps.map rowD ++ endD b) ≤ 2 := by
    induction ps with
    | nil => cases b <;> simp [endD, PyData.canLayAll0, PyData.canLay0, PyData.depthAll, PyData.depth]
    | cons p r ih =>
      obtain ⟨i1, i2⟩ := ih
      refine ⟨by simp [PyData.canLayAll0, i1, rowD_lay], ?_⟩
      simp only [List.map_cons, List.cons_append, PyData.depthAll, rowD_depth]
      omega
  obtain ⟨i1, i2⟩ := h1
  show (PyData.canLay0 (.list _) && decide (PyData.depth (.list _) ≤ 64)) = true
  rw [Bool.and_eq_true]
  refine ⟨by simp only [PyData.canLay0]; exact i1, decide_eq_true ?_⟩
  simp only [PyData.depth]
  omega
theorem eqv_rows (b : Bool) (ps : List (Mv × List Int)) : PyData.eqv (.list (ps.map rowD ++ endD b)) (.list (ps.map rowD ++ endD b)) = true := by
  have : PyData.eqvAll (ps.map rowD ++ endD b) (ps.map rowD ++ endD b) = true := by
    induction ps with
    | nil => cases b <;> simp [endD, PyData.eqvAll, PyData.eqv]
    | cons p r ih => simp [PyData.eqvAll, ih, rowD_eqv]
  simp only [PyData.eqv]
  exact this
def Row.ml (x : Row) : Mv × List Int := (x.m, x.l)
theorem ml_of {rows : List Row} {ms : List Mv} {ws : List (List Int)} (h1 : rows.map (·.m) = ms) (h2 : rows.map (·.l) = ws) : rows.map Row.ml = ms.zip ws := by
  subst h1 h2
  induction rows with
  | nil => rfl
  | cons x r ih => simp [Row.ml] at ih ⊢; exact ih
/-- two lists of rows that say the same -/
theorem dp_two {K : PySem.W.Frag} {H : Hp} {x : Addr} {rows : List Row} {b : Bool} {ps : List (Mv × List Int)} (hx : H x = some (.lst (rows.map rowV ++ endV b))) (h : ∀ y ∈ rows, RowAt H y) (e : rows.map Row.ml = ps) : Dp K H (.ref x) (.list (ps.map rowD ++ endD b)) := by
  have z := dp_rows (K := K) b h
  have z2 : (rows.map fun x => rowD (x.m, x.l)) = ps.map rowD := by rw [← e, List.map_map]; rfl
  rw [z2] at z
  exact .lst (SqL.of hx) z
def Row.app (x : Row) : Row := { x with l := x.l ++ [0] }
theorem rows_app {H : Hp} {rows : List Row} (h : ∀ y ∈ rows, RowAt H y) (nd : (rows.map (·.w)).Nodup) {i : Nat} {x : Row} (hi : rows[i]? = some x) : ∀ y ∈ rows.set i x.app, RowAt (upd H x.w (.lst ((x.l ++ [0]).map V.int))) y := by
  intro y hy
  have hx := h x (List.mem_of_getElem? hi)
  have nt : ∀ vs, H x.w ≠ some (.tup vs) := fun vs e => by rw [hx.2.2] at e; cases e
  obtain ⟨j, hj⟩ := List.getElem?_of_mem hy
  rw [List.getElem?_set] at hj
  obtain ⟨hil, hie⟩ := List.getElem?_eq_some_iff.mp hi
  by_cases c : i = j
  · rw [if_pos c, if_pos hil] at hj
    cases hj
    exact ⟨keep_ne hx.1 fun e => nt _ (e ▸ hx.1), keep_ne hx.2.1 fun e => nt _ (e ▸ hx.2.1), upd_same⟩
  · rw [if_neg c] at hj
    obtain ⟨hjl, hje⟩ := List.getElem?_eq_some_iff.mp hj
    refine (h y (List.mem_of_getElem? hj)).mut nt fun e => ?_
    have p := List.pairwise_iff_getElem.mp nd
    rcases Nat.lt_or_gt_of_ne c with z | z
    · have := p i j (by simpa using hil) (by simpa using hjl) z
      simp only [List.getElem_map, hie, hje] at this
      exact this e.symm
    · have := p j i (by simpa using hjl) (by simpa using hil) z
      simp only [List.getElem_map, hie, hje] at this
      exact this e
theorem set_rowV {rows : List Row} {i : Nat} {x : Row} (hi : rows[i]? = some x) : (rows.set i x.app).map rowV = rows.map rowV := by
  rw [List.map_set]
  apply List.ext_getElem?
  intro j
  rw [List.getElem?_set]
  by_cases c : i = j
  · subst c
    obtain ⟨hil, _⟩ := List.getElem?_eq_some_iff.mp hi
    rw [if_pos rfl, if_pos (by simpa using hil), List.getElem?_map, hi]
    rfl
  · rw [if_neg c]
theorem set_w {rows : List Row} {i : Nat} {x : Row} (hi : rows[i]? = some x) : (rows.set i x.app).map (·.w) = rows.map (·.w) := by
  rw [List.map_set]
  apply List.ext_getElem?
  intro j
  rw [List.getElem?_set]
  by_cases c : i = j
  · subst c
    obtain ⟨hil, _⟩ := List.getElem?_eq_some_iff.mp hi
    rw [if_pos rfl, if_pos (by simpa using hil), List.getElem?_map, hi]
    rfl
  · rw [if_neg c]
/-- in the told order there is one list of the same moves -/
theorem srt_uniq : ∀ {a b : List Mv}, Srt a → Srt b → (∀ m, m ∈ a ↔ m ∈ b) → a = b
  | [], [], _, _, _ => rfl
  | [], y :: s, _, _, h => absurd ((h y).mpr List.mem_cons_self) (by simp)
  | x :: r, [], _, _, h => absurd ((h x).mp List.mem_cons_self) (by simp)
  | x :: r, y :: s, ha, hb, h => by
    obtain ⟨a1, a2⟩ := List.pairwise_cons.mp ha
    obtain ⟨b1, b2⟩ := List.pairwise_cons.mp hb
    have e : x = y := by
      rcases List.mem_cons.mp ((h x).mp List.mem_cons_self) with z | z
      · exact z
      · rcases List.mem_cons.mp ((h y).mpr List.mem_cons_self) with z2 | z2
        · exact z2.symm
        · exact ((b1 x z).asym (a1 y z2)).elim
    subst e
    have self : ∀ {m : Mv}, ¬ Bef m m := fun {m} => by unfold Bef; omega
    rw [srt_uniq a2 b2 fun m => ?_]
    constructor
    · intro hm
      rcases List.mem_cons.mp ((h m).mp (List.mem_cons_of_mem _ hm)) with z | z
      · exact (self (z ▸ a1 m hm)).elim
      · exact z
    · intro hm
      rcases List.mem_cons.mp ((h m).mpr (List.mem_cons_of_mem _ hm)) with z | z
      · exact (self (z ▸ b1 m hm)).elim
      · exact z
theorem rows_mut {H : Hp} {rows : List Row} {p : Addr} {xs : List V} {o : HO} (h : ∀ y ∈ rows, RowAt H y) (hp : H p = some (.lst xs)) (n : ∀ y ∈ rows, y.w ≠ p) : ∀ y ∈ rows, RowAt (upd H p o) y := fun y hy => (h y hy).mut (fun vs e => by rw [hp] at e; cases e) (n y hy)
theorem set_ml {rows rows2 : List Row} {i : Nat} {x y : Row} (e : rows.map Row.ml = rows2.map Row.ml) (hx : rows[i]? = some x) (hy : rows2[i]? = some y) : (rows.set i x.app).map Row.ml = (rows2.set i y.app).map Row.ml := by
  rw [List.map_set, List.map_set, e]
  have z := congrArg (·[i]?) e
  simp only [List.getElem?_map, hx, hy, Option.map_some, Option.some.injEq] at z
  have z1 : x.m = y.m := congrArg Prod.fst z
  have z2 : x.l = y.l := congrArg Prod.snd z
  congr 1
  simp [Row.ml, Row.app, z1, z2]
/-- two lists of rows that are the same -/
theorem r_neRows {K : PySem.W.Frag} {H : Hp} {Q : VK} {x y : Addr} {rows rows2 : List Row} {b : Bool} (hx : H x = some (.lst (rows.map rowV ++ endV b))) (hy : H y = some (.lst (rows2.map rowV ++ endV b))) (h : ∀ z ∈ rows, RowAt H z) (h2 : ∀ z ∈ rows2, RowAt H z) (e : rows.map Row.ml = rows2.map Row.ml) (q : Q (.bl false) H) : rNeD K (.ref x) (.ref y) H Q :=
  ⟨_, _, dp_two hx h rfl, dp_two hy h2 e.symm, sh_rows b _, sh_rows b _, by rw [eqv_rows]; exact q⟩
end Tm
namespace Tm
open PySem PySem.Spec PyProof.Rows L2
/-! == of lists: of unlike lengths, or item by item the same -/
def SameItem (K : PySem.W.Frag) (H : Hp) (x y : V) : Prop := (∃ d, Dp K H x d ∧ Dp K H y d ∧ SeqAt.shaped d = true) ∨ EqV K H 2 x y
def rEqX (K : PySem.W.Frag) : R2 := fun x y H Q => (∃ a b xs ys, x = .ref a ∧ y = .ref b ∧ SqL K H a xs ∧ SqL K H b ys ∧ xs.length ≠ ys.length ∧ Q (.bl false) H) ∨ (EqR K H (SameItem K H) x y ∧ Q (.bl true) H)
theorem op_eqX {X : Cx} (hu : X.A.units + 65 < cLine) : OpR X (compareOp .Eq) (rEqX X.K) := by
  intro pins s σ H x y v u Q I rx ry h
  rcases h with ⟨a, b, xs, ys, rfl, rfl, ha, hb, hl, q⟩ | ⟨h, q⟩
  · cases (show v = Value.ref a from rx)
    cases (show u = Value.ref b from ry)
    obtain ⟨us, r1, p1, _⟩ := I.list ha
    obtain ⟨ws, r2, p2, _⟩ := I.list hb
    refine SeqAt.RcAt.lists_lengths p1.isList p2.isList ?_ (by omega) _ _ _ _ ⟨.bl false, H, I, rfl, q⟩
    rw [List.size_toArray, List.size_toArray, ← r1.length, ← r2.length]
    simpa using hl
  · refine eqR_run I (A := X.A) (by omega) (fun x y v u hf rx ry => ?_) h rx ry _ _ ⟨.bl true, H, I, rfl, q⟩
    rcases hf with ⟨d, h1, h2, sd⟩ | hf
    · obtain ⟨as, q1⟩ := Dp.reads I d x v h1 rx
      obtain ⟨bs, q2⟩ := Dp.reads I d y u h2 ry
      have hl := SeqAt.canLay_of_shaped sd
      have hd : d.depth ≤ 64 := by
        have z : (d.canLay0 && decide (d.depth ≤ 64)) = true := sd
        rw [Bool.and_eq_true] at z
        exact of_decide_eq_true z.2
      have e := SeqAt.eqAt_reads d d X.A.in1 s v u as bs q1 q2 hl hl (by
        show X.A.units + 1 + min d.depth d.depth < cLine
        rw [Nat.min_self]
        omega)
      rw [SeqAt.eqv_refl d hl] at e
      exact e.eqP
    · exact eqV_run I 2 X.A.in1 (by show X.A.units + 1 + 2 < cLine; omega) x y v u hf rx ry
theorem op_eqXK {X : Cx} {K : PySem.W.Frag} (h : X.K = K) (hu : X.A.units + 65 < cLine) : OpR X (compareOp .Eq) (rEqX K) := by subst h; exact op_eqX hu
/-- a list of numbers against the empty list -/
theorem r_eqNilI {K : PySem.W.Frag} {H : Hp} {Q : VK} {w e : Addr} {l : List Int} (hw : H w = some (.lst (l.map V.int))) (he : H e = some (.lst [])) (h : Q (.bl (decide (l = []))) H) : rEqD K (.ref w) (.ref e) H Q := by
  refine ⟨intsD l, .list [], .lst (SqL.of hw) (dpAll_ints l), .lst (SqL.of he) .nil, ?_, by simp [SeqAt.shaped, PyData.canLay0, PyData.canLayAll0, PyData.depth, PyData.depthAll], ?_⟩
  · show (PyData.canLay0 (intsD l) && decide (PyData.depth (intsD l) ≤ 64)) = true
    rw [Bool.and_eq_true]
    refine ⟨by simp only [intsD, PyData.canLay0]; exact lay_ints l, decide_eq_true ?_⟩
    simp only [intsD, PyData.depth, depth_ints]
    omega
  · have e2 : PyData.eqv (intsD l) (.list []) = decide (l = []) := by
      cases l with
      | nil => simp [intsD, PyData.eqv, PyData.eqvAll]
      | cons x r => simp [intsD, PyData.eqv, PyData.eqvAll]
    rw [e2]
    exact h
/-! dicts that may be locked -/
def rLenDR : List V → Hp → VK → Prop := fun xs H Q => ∃ a kvs, xs = [V.ref a] ∧ Rd H a (.dK kvs) ∧ Q (.int kvs.length) H
theorem call_lenDR {X : Cx} : CallR X (.builtin "len") rLenDR := by
  intro pins s σ H xs us Q I r h
  obtain ⟨a, kvs, rfl, ha, q⟩ := h
  obtain ⟨u, rfl, ru⟩ := vals1 r
  cases ru
  exact d_len I ha fun t s' I' => ⟨.int kvs.length, H, I', ⟨t, rfl⟩, q⟩
section
variable {H : Hp} {Q : VK} {d : Addr} {v : V} {kvs : List (Key × V)} {k : Int}
theorem r_lenDR (hs : Rd H d (.dK kvs)) (h : Q (.int kvs.length) H) : rLenDR [.ref d] H Q := ⟨d, kvs, rfl, hs, h⟩
theorem r_dGetR (hs : Rd H d (.dK kvs)) (hv : valV kvs (Sum.inl k) = some v) (h : Q v H) : qDGet Q (.int k) (.ref d) H := ⟨d, v, rfl, .inl ⟨kvs, Sum.inl k, hs, rfl, hv.symm⟩, h⟩
theorem r_dInR (hs : Rd H d (.dK kvs)) (h : Q (.bl (valV kvs (Sum.inl k)).isSome) H) : qDIn Q (.int k) (.ref d) H := ⟨d, _, rfl, .inl ⟨kvs, Sum.inl k, hs, rfl, rfl⟩, h⟩
theorem r_dNotInR (hs : Rd H d (.dK kvs)) (h : Q (.bl (!(valV kvs (Sum.inl k)).isSome)) H) : qDNotIn Q (.int k) (.ref d) H := ⟨d, _, rfl, .inl ⟨kvs, Sum.inl k, hs, rfl, rfl⟩, h⟩
end
section
variable {td ty tx : TE} {σ : L2.St} {H : Hp} {Q : VK} {a : Addr} {kvs : List (Key × V)}
def qDGet2 (ty tx : TE) (σ : L2.St) (Q : VK) : VK := fun x H1 => ∃ a, x = .ref a ∧ IsD H1 a ∧ ty σ H1 fun y H2 => tx σ H2 fun z H3 => ∃ o, DGet H3 a y o ∧ Q (o.getD z) H3
instance : Step (tDGet2 td ty tx σ H Q) (td σ H (qDGet2 ty tx σ Q)) := ⟨fun h => h⟩
theorem r_dGet2 (hs : H a = some (.dK kvs)) (h : ty σ H fun y H2 => tx σ H2 fun z H3 => ∃ o, DGet H3 a y o ∧ Q (o.getD z) H3) : qDGet2 ty tx σ Q (.ref a) H := ⟨a, rfl, .inl ⟨kvs, .inl hs⟩, h⟩
theorem r_dGet2E {k : Int} {z : V} (hs : H a = some (.dK kvs)) (h : Q ((valV kvs (Sum.inl k)).getD z) H) : ∃ o, DGet H a (.int k) o ∧ Q (o.getD z) H := ⟨_, DGet.k (k := Sum.inl k) hs, h⟩
end
theorem Rd.same {H H' : Hp} {d : Addr} {u : HO} (s : Same H H') (h : Rd H d u) : Rd H' d u := by
  rcases h with h | ⟨o, h⟩
  · exact .inl (s _ _ h)
  · exact .inr ⟨o, s _ _ h⟩
def spComes : Sp := fun vs H Q _ => ∃ (d : Addr) (t : Tr) (x f : Int), vs = [.ref d, .int x, .int f] ∧ Rd H d (.dK (enc t)) ∧ Acyc t ∧ t.length ≤ 100000 ∧ Q (.bl (decide (f ∈ way t x))) H
theorem c_comes {H : Hp} {d : Addr} {t : Tr} {x f : Int} {Q : VK} {E : XK} (hd : Rd H d (.dK (enc t))) (hA : Acyc t) (hl : t.length ≤ 100000) (h : Q (.bl (decide (f ∈ way t x))) H) : spComes [.ref d, .int x, .int f] H Q E := ⟨d, t, x, f, rfl, hd, hA, hl, h⟩
def spShows : Sp := fun vs H Q _ => ∃ (d w : Addr) (t : Tr) (f u : Int), vs = [.ref d, .ref w, .int f, .int u] ∧ H d = some (.dK (enc t)) ∧ Acyc t ∧ t.length ≤ 100000 ∧ f ∈ way t u ∧ H w = some (.lst ((upTo f (way t u)).map V.int)) ∧ Q (.bl true) H
theorem c_shows {H : Hp} {d w : Addr} {t : Tr} {f u : Int} {Q : VK} {E : XK} (hd : H d = some (.dK (enc t))) (hA : Acyc t) (hl : t.length ≤ 100000) (hf : f ∈ way t u) (hw : H w = some (.lst ((upTo f (way t u)).map V.int))) (h : Q (.bl true) H) : spShows [.ref d, .ref w, .int f, .int u] H Q E := ⟨d, w, t, f, u, rfl, hd, hA, hl, hf, hw, h⟩
def spWalked (C : Addr) : Sp := fun vs H Q _ => ∃ (p l : Addr) (g : Lg) (as : List Addr), vs = [.ref p, .ref l] ∧ LogAt C H p g ∧ g.t = [] ∧ H l = some (.lst (as.map V.ref)) ∧ MvsAt H as g.ms ∧ g.ms.length ≤ 10000 ∧ ∀ H', Same H H' → Q (.bl true) H'
/-- the moves that are heard -/
structure HandsIn (s : Int) (n : Nat) (m : Mv) : Prop where
  ok : m.Ok
  h : ∃ x : Int, m.h = handF x s ∧ 0 ≤ x ∧ x ≤ 300 ∧ (200 ≤ x ∨ ∃ j : Nat, j < n ∧ x = j * 7 % 101)
def spMovesOf (K : PySem.W.Frag) : Sp := fun vs H Q _ => ∃ (p : Addr) (ns : List Int), vs = [.ref p] ∧ SqL K H p (ns.map V.int) ∧ ns.length ≤ 63 ∧ ∀ (l : Addr) (as : List Addr) (ms : List Mv) (H' : Hp), Same H H' → H l = none → H' l = some (.lst (as.map V.ref)) → MvsAt H' as ms → ms.length ≤ 100 → (∀ m ∈ ms, m.Ok) → ms.Pairwise (fun a b => ¬ SameK a b) → Q (.ref l) H'
def spMovesOf3 (K : PySem.W.Frag) : Sp := fun vs H Q _ => ∃ (p : Addr) (ns : List Int) (c s : Int), vs = [.ref p, .int c, .int s] ∧ SqL K H p (ns.map V.int) ∧ ns.length ≤ 63 ∧ ∀ (l : Addr) (as : List Addr) (ms : List Mv) (H' : Hp), Same H H' → H l = none → H' l = some (.lst (as.map V.ref)) → MvsAt H' as ms → ms.length ≤ 100 → (∀ m ∈ ms, m.Ok) → ms.Pairwise (fun a b => ¬ SameK a b) → Q (.ref l) H'
/-! the way up, turn by turn -/
theorem way_next {t : Tr} (h : Acyc t) {x u : Int} (e : lk t x = some u) : way t x = x :: way t u := (Path.step e (h.path u)).way
theorem way_end {t : Tr} {x : Int} (e : lk t x = none) : way t x = [x] := (Path.top e).way
theorem way_step {t : Tr} (h : Acyc t) {u : Int} : ∀ {i : Nat} {x y : Int}, (way t u)[i]? = some x → (way t u)[i + 1]? = some y → lk t x = some y := by
  have key : ∀ (l : List Int) (u : Int), Path t u l → ∀ (i : Nat) (x y : Int), l[i]? = some x → l[i + 1]? = some y → lk t x = some y := by
    intro l u p
    induction p with
    | top _ => intro i x y _ e2; simp at e2
    | @step f v l hl p ih =>
      intro i x y e1 e2
      cases i with
      | zero =>
        obtain ⟨r, er⟩ := p.head
        subst er
        simp at e1 e2
        rw [← e1, ← e2]
        exact hl
      | succ i => exact ih i x y (by simpa using e1) (by simpa using e2)
  exact fun {i x y} e1 e2 => key _ _ (h.path u) i x y e1 e2
end Tm
namespace Tm
open PySem PySem.Spec PyProof.Rows L2
def Held12 (K : PySem.W.Frag) (H : Hp) (l : Addr) (i place : Int) (v5 : V) (v7 : Option V) : Prop :=
  (i ≤ place ∧ ∃ h0, v5 = .ref h0 ∧ h0 ≠ l ∧ H h0 = some (.lst [])) ∨ ∃ hd kp, v5 = .ref hd ∧ v7 = some (.ref kp) ∧ ∀ H2, SameP l H H2 → (∃ xs, H2 hd = some (.lst xs) ∧ xs.length = 3) ∧ EqR K H2 (SameItem K H2) (.ref hd) (.ref kp)
theorem Held12.keep {K : PySem.W.Frag} {H H' : Hp} {l : Addr} {i place : Int} {v5 : V} {v7 : Option V} (h : Held12 K H l i place v5 v7) (s : SameP l H H') : Held12 K H' l i place v5 v7 := by
  rcases h with ⟨h1, h0, e, n, c⟩ | ⟨hd, kp, e1, e2, h⟩
  · exact .inl ⟨h1, h0, e, n, s _ _ n c⟩
  · exact .inr ⟨hd, kp, e1, e2, fun H2 s2 => h H2 (s.trans s2)⟩
theorem Held12.up {K : PySem.W.Frag} {H : Hp} {l : Addr} {i place : Int} {v5 : V} {v7 : Option V} (h : Held12 K H l i place v5 v7) (n : i ≠ place) : Held12 K H l (i + 1) place v5 v7 := by
  rcases h with ⟨h1, h⟩ | h
  · exact .inl ⟨by omega, h⟩
  · exact .inr h
theorem RowAt.sameP {H H' : Hp} {x : Row} {l : Addr} {xs : List V} (h : RowAt H x) (s : SameP l H H') (hl : H l = some (.lst xs)) (n : x.w ≠ l) : RowAt H' x :=
  ⟨s _ _ (fun z => by have e := h.1; rw [z, hl] at e; cases e) h.1, s _ _ (fun z => by have e := h.2.1; rw [z, hl] at e; cases e) h.2.1, s _ _ n h.2.2⟩
theorem item_rows {K : PySem.W.Frag} {H : Hp} {x y : Addr} {rows rows2 : List Row} (hx : H x = some (.lst (rows.map rowV))) (hy : H y = some (.lst (rows2.map rowV))) (h : ∀ z ∈ rows, RowAt H z) (h2 : ∀ z ∈ rows2, RowAt H z) (e : rows.map Row.ml = rows2.map Row.ml) : SameItem K H (.ref x) (.ref y) :=
  .inl ⟨_, dp_two (b := false) (by simpa [endV] using hx) h rfl, dp_two (b := false) (by simpa [endV] using hy) h2 e.symm, sh_rows false _⟩
theorem item_moves {K : PySem.W.Frag} {H : Hp} {x y : Addr} {as : List Addr} {ms : List Mv} (hx : H x = some (.lst (as.map V.ref))) (hy : H y = some (.lst (as.map V.ref))) (hm : MvsAt H as ms) : SameItem K H (.ref x) (.ref y) :=
  .inl ⟨_, .lst (SqL.of hx) (dpAll_mv hm), .lst (SqL.of hy) (dpAll_mv hm), sh_mvs ms⟩
theorem item_dict {K : PySem.W.Frag} {H : Hp} {d e : Addr} {t : Tr} (hd : H d = some (.dK (enc t))) (he : H e = some (.dK (enc t))) (hn : Nd t) : SameItem K H (.ref d) (.ref e) :=
  .inr (.inr (.inr (.inr ⟨d, e, enc t, enc t, rfl, rfl, hd, he, rfl, fun p hp => by
    unfold enc at hp
    obtain ⟨z, hz, ez⟩ := List.mem_map.mp hp
    subst ez
    refine ⟨.int z.2, ?_, .inl ⟨rfl, rfl⟩⟩
    rw [valV_enc, lk_of_mem hn (k := z.1) (v := z.2) hz]
    rfl⟩)))
theorem c_walked {C : Addr} {H : Hp} {p l : Addr} {g : Lg} {as : List Addr} {Q : VK} {E : XK} (L : LogAt C H p g) (ht : g.t = []) (hl : H l = some (.lst (as.map V.ref))) (hm : MvsAt H as g.ms) (hn : g.ms.length ≤ 10000) (h : ∀ H', Same H H' → Q (.bl true) H') : spWalked C [.ref p, .ref l] H Q E :=
  ⟨p, l, g, as, rfl, L, ht, hl, hm, hn, h⟩
theorem c_movesOf {K : PySem.W.Frag} {H : Hp} {p : Addr} {ns : List Int} {Q : VK} {E : XK} (hS : SqL K H p (ns.map V.int)) (hl : ns.length ≤ 63) (h : ∀ (l : Addr) (as : List Addr) (ms : List Mv) (H' : Hp), Same H H' → H l = none → H' l = some (.lst (as.map V.ref)) → MvsAt H' as ms → ms.length ≤ 100 → (∀ m ∈ ms, m.Ok) → ms.Pairwise (fun a b => ¬ SameK a b) → Q (.ref l) H') : spMovesOf K [.ref p] H Q E := ⟨p, ns, rfl, hS, hl, h⟩
end Tm
namespace Tm
open PySem PySem.Spec PyProof.Rows L2
/-! tuples and dicts that are never changed -/
def TD (H H' : Hp) : Prop := ∀ b, (∀ vs, H b = some (.tup vs) → H' b = some (.tup vs)) ∧ ∀ k, H b = some (.dK k) → H' b = some (.dK k)
theorem TD.of {H H' : Hp} (s : Same H H') : TD H H' := fun b => ⟨fun _ e => s _ _ e, fun _ e => s _ _ e⟩
theorem TD.trans {H H' H2 : Hp} (s : TD H H') (t : TD H' H2) : TD H H2 := fun b => ⟨fun _ e => (t b).1 _ ((s b).1 _ e), fun _ e => (t b).2 _ ((s b).2 _ e)⟩
theorem TD.ofL {H H' : Hp} {p : Addr} {xs : List V} (s : SameP p H H') (hp : H p = some (.lst xs)) : TD H H' := fun b => ⟨fun _ e => s _ _ (fun z => by rw [z, hp] at e; cases e) e, fun _ e => s _ _ (fun z => by rw [z, hp] at e; cases e) e⟩
theorem TD.ofI {H H' : Hp} {p c d : Addr} {fs : List (Str × V)} (s : SameP p H H') (hp : H p = some (.ins c d fs)) : TD H H' := fun b => ⟨fun _ e => s _ _ (fun z => by rw [z, hp] at e; cases e) e, fun _ e => s _ _ (fun z => by rw [z, hp] at e; cases e) e⟩
theorem MvsAt.td {H H' : Hp} {as : List Addr} {ms : List Mv} (h : MvsAt H as ms) (s : TD H H') : MvsAt H' as ms := h.of fun b vs e => (s b).1 _ e
def HeldT (K : PySem.W.Frag) (H : Hp) (hs : List Addr) : Prop := ∀ a ∈ hs, ∀ H', TD H H' → PairAt K H' a
theorem HeldT.nil {K : PySem.W.Frag} {H : Hp} : HeldT K H [] := fun _ h => nomatch h
theorem HeldT.keep {K : PySem.W.Frag} {H H' : Hp} {hs : List Addr} (h : HeldT K H hs) (s : TD H H') : HeldT K H' hs := fun a ha H2 k => h a ha H2 (s.trans k)
theorem HeldT.snoc {K : PySem.W.Frag} {H : Hp} {hs : List Addr} {a x y : Addr} {t : Tr} (h : HeldT K H hs) (ha : H a = some (.tup [.ref x, .ref y])) (hx : H x = some (.dK (enc t))) (hy : H y = some (.dK (enc t))) (hn : Nd t) : HeldT K H (hs ++ [a]) := fun b hb H' k => by
  rcases List.mem_append.mp hb with z | z
  · exact h b z H' k
  · rw [List.mem_singleton.mp z]
    exact pair_dict ((k a).1 _ ha) ((k x).2 _ hx) ((k y).2 _ hy) hn
/-! moves, parted -/
theorem foldT_app (t : Tr) (a b : List Mv) : foldT t (a ++ b) = foldT (foldT t a) b := by simp [foldT]
theorem stepW_app (t : Tr) (a b : List Mv) : stepW t (a ++ b) = stepW t a ++ stepW (foldT t a) b := by
  induction a generalizing t with
  | nil => rfl
  | cons x r ih =>
    show w1 t x :: stepW (putT t x.f x.u) (r ++ b) = _
    rw [ih]
    rfl
/-- from place i to place j -/
def cutM {α : Type} (i j : Nat) (l : List α) : List α := (l.take j).drop i
theorem cutM_length {α : Type} {i j : Nat} {l : List α} : (cutM i j l).length = min j l.length - i := by simp [cutM]
theorem cutM_join {α : Type} {i j k : Nat} {l : List α} (h1 : i ≤ j) (h2 : j ≤ k) : cutM i j l ++ cutM j k l = cutM i k l := by
  unfold cutM
  apply List.ext_getElem?
  intro n
  simp only [List.getElem?_append, List.getElem?_drop, List.getElem?_take, List.length_drop, List.length_take]
  by_cases c : n < min j l.length - i
  · rw [if_pos c, if_pos (by omega), if_pos (by omega)]
  · rw [if_neg c]
    by_cases c2 : j ≤ l.length
    · have e : j + (n - (min j l.length - i)) = i + n := by omega
      rw [e]
    · have e1 : l[i + n]? = none := List.getElem?_eq_none (by omega)
      have e2 : l[j + (n - (min j l.length - i))]? = none := List.getElem?_eq_none (by omega)
      rw [e1, e2]
      simp
theorem cutM_zero {α : Type} {j : Nat} {l : List α} : cutM 0 j l = l.take j := by simp [cutM]
theorem cutM_all {α : Type} {i j : Nat} {l : List α} (h : l.length ≤ j) : cutM i j l = l.drop i := by
  unfold cutM
  rw [List.take_of_length_le h]
theorem cutM_at {α : Type} {i j n : Nat} {l : List α} : (cutM i j l)[n]? = if i + n < j then l[i + n]? else none := by
  unfold cutM
  rw [List.getElem?_drop, List.getElem?_take]
theorem cutM_one {α : Type} {i j : Nat} {l : List α} {x : α} (h : i < j) (e : l[i]? = some x) : cutM i j l = x :: cutM (i + 1) j l := by
  apply List.ext_getElem?
  intro n
  cases n with
  | zero => rw [cutM_at, if_pos (by omega), Nat.add_zero, e]; rfl
  | succ n =>
    rw [List.getElem?_cons_succ, cutM_at, cutM_at]
    have : i + (n + 1) = i + 1 + n := by omega
    rw [this]
theorem foldT_cut (ms : List Mv) {i j : Nat} (h : i ≤ j) : foldT (foldT [] (ms.take i)) (cutM i j ms) = foldT [] (ms.take j) := by
  rw [← foldT_app, ← cutM_zero, cutM_join (Nat.zero_le _) h, cutM_zero]
theorem stepW_cut (ms : List Mv) {i j : Nat} (h : i ≤ j) (hj : j ≤ ms.length) : stepW (foldT [] (ms.take i)) (cutM i j ms) = cutM i j (stepW [] ms) := by
  have e : stepW [] (ms.take j) = (stepW [] ms).take j := by
    conv => rhs; rw [← List.take_append_drop j ms, stepW_app]
    rw [List.take_left' (by rw [stepW_length, List.length_take]; omega)]
  have e2 : ms.take j = ms.take i ++ cutM i j ms := by rw [← cutM_zero, ← cutM_zero, cutM_join (Nat.zero_le _) h]
  have key := stepW_app [] (ms.take i) (cutM i j ms)
  rw [← e2, e] at key
  show _ = ((stepW [] ms).take j).drop i
  have hl : (stepW [] (ms.take i)).length = i := by rw [stepW_length, List.length_take]; omega
  rw [key, List.drop_append, hl, Nat.sub_self, List.drop_zero, List.drop_of_length_le (by omega), List.nil_append]
/-- a move amid those ahead of it and those behind it -/
theorem posM_amid {m : Mv} : ∀ {a b : List Mv}, (∀ x ∈ a, Bef x m) → (∀ x ∈ b, Bef m x) → posM m (a ++ b) = a.length
  | [], [], _, _ => rfl
  | [], y :: r, _, h => posM_neg fun z => z.asym (h y List.mem_cons_self)
  | x :: a, b, h, h2 => by
    rw [List.cons_append, posM_pos (h x List.mem_cons_self), posM_amid (fun y hy => h y (List.mem_cons_of_mem _ hy)) h2]
    rfl
theorem insM_amid {m : Mv} {a b : List Mv} (h1 : ∀ x ∈ a, Bef x m) (h2 : ∀ x ∈ b, Bef m x) : insM m (a ++ b) = a ++ m :: b := by
  unfold insM insA
  rw [posM_amid h1 h2]
  simp
theorem Srt.cut {ms : List Mv} (h : Srt ms) (i j : Nat) : Srt (cutM i j ms) := List.Pairwise.sublist ((List.drop_sublist _ _).trans (List.take_sublist _ _)) h
theorem gone_cut {time : Int} {ms : List Mv} {i j : Nat} (h : Srt ms) (hi : i ≤ goneM time ms) (hj : goneM time ms ≤ j) : goneM time (cutM i j ms) = goneM time ms - i := by
  rw [← count_gone (h.cut i j), ← count_gone h]
  have e : ms = ms.take i ++ (cutM i j ms ++ ms.drop j) := by
    have hle := goneM_le time ms
    by_cases c : j ≤ ms.length
    · rw [← List.append_assoc, ← cutM_zero (j := i), cutM_join (Nat.zero_le _) (by omega), cutM_zero, List.take_append_drop]
    · rw [← List.append_assoc, ← cutM_zero (j := i), cutM_join (Nat.zero_le _) (by omega), cutM_zero, List.take_append_drop]
  have c1 : ((ms.take i).countP fun m => decide (m.t < time)) = i := by
    have hle := goneM_le time ms
    rw [List.countP_eq_length.mpr]
    · rw [List.length_take]; omega
    · intro x hx
      obtain ⟨k, hk⟩ := List.getElem?_of_mem hx
      rw [List.getElem?_take] at hk
      split at hk
      · simpa using goneM_lt (by omega) hk
      · cases hk
  have c2 : ((ms.drop j).countP fun m => decide (m.t < time)) = 0 := by
    rw [List.countP_eq_zero]
    intro x hx
    obtain ⟨k, hk⟩ := List.getElem?_of_mem hx
    rw [List.getElem?_drop] at hk
    simp
    by_cases z : goneM time ms < ms.length
    · obtain ⟨g0, hg⟩ : ∃ g0, ms[goneM time ms]? = some g0 := ⟨_, List.getElem?_eq_getElem z⟩
      have b := goneM_at hg
      by_cases e : goneM time ms = j + k
      · rw [e, hk] at hg
        have := Option.some.inj hg
        rw [this]
        omega
      · have := srt_at h hg hk (by omega)
        unfold Bef at this
        omega
    · have := (List.getElem?_eq_some_iff.mp hk).1
      omega
  conv => rhs; rw [e, List.countP_append, List.countP_append, c1, c2]
  omega
end Tm
namespace Tm
open PySem PySem.Spec PyProof.Rows L2
theorem c_hearOld {C N T X : Addr} {H : Hp} {p a : Addr} {g : Lg} {m : Mv} {Q : VK} {E : XK} (L : LogAt C H p g) (S : Srt g.ms) (hl : g.as.length ≤ 100000) (hx : H a = some (.tup m.vs)) (ok : m.Ok) (hs : g.s ≤ m.t) (hn : m ∈ g.ms) (h : Q (.bl false) H) : spHear C N T X [.ref p, .ref a] H Q E :=
  ⟨p, g, _, rfl, L, S, hl, .inr ⟨a, m, rfl, hx, ok, fun c => absurd c (by omega), fun _ c => (mem_not_clash S hn c).elim, fun _ _ => h, fun _ c => (new_not_mem c hn).elim⟩⟩
/-- a log that has heard all -/
structure AllHeard (C : Addr) (H0 H : Hp) (p : Addr) (g : Lg) (ms : List Mv) : Prop where
  L : LogAt C H p g
  s : Same H0 H
  f : H0 g.l = none
  ac : Acyc g.t
  S : Srt g.ms
  tl : g.t.length + g.as.length ≤ 1000
def spAllHeard (C : Addr) : Sp := fun vs H Q _ => ∃ (l : Addr) (tw : Bool) (as : List Addr) (ms : List Mv), vs = [.ref l, .bl tw] ∧ H l = some (.lst (as.map V.ref)) ∧ MvsAt H as ms ∧ (∀ m ∈ ms, m.Ok) ∧ ms.Pairwise (fun a b => ¬ SameK a b) ∧ ms.length ≤ 200 ∧
  ∀ p g H', AllHeard C H H' p g ms → g.t = [] → (∀ m, m ∈ g.ms ↔ m ∈ ms) → Q (.ref p) H'
theorem c_allHeard {C : Addr} {H : Hp} {l : Addr} {tw : Bool} {as : List Addr} {ms : List Mv} {Q : VK} {E : XK} (hl : H l = some (.lst (as.map V.ref))) (hm : MvsAt H as ms) (ho : ∀ m ∈ ms, m.Ok) (hp : ms.Pairwise (fun a b => ¬ SameK a b)) (hn : ms.length ≤ 200)
    (h : ∀ p g H', AllHeard C H H' p g ms → g.t = [] → (∀ m, m ∈ g.ms ↔ m ∈ ms) → Q (.ref p) H') : spAllHeard C [.ref l, .bl tw] H Q E := ⟨l, tw, as, ms, rfl, hl, hm, ho, hp, hn, h⟩
def spTimesOf : Sp := fun vs H Q _ => ∃ s : Int, vs = [.int s] ∧ ∀ (l : Addr) (ts : List Int) (H' : Hp), Same H H' → H' l = some (.lst (ts.map V.int)) → ts.length = 4 → ts.Pairwise (· ≤ ·) → (∀ t ∈ ts, 0 ≤ t) → Q (.ref l) H'
theorem c_sameSteps {H : Hp} {f d : Addr} {rows rows2 : List Row} {ms : List Mv} {ws : List (List Int)} {Q : VK} {E : XK} (hf : H f = some (.lst (rows.map rowV))) (hd : H d = some (.lst (rows2.map rowV))) (h1 : ∀ x ∈ rows, RowAt H x) (h2 : ∀ x ∈ rows2, RowAt H x)
    (m1 : rows.map (·.m) = ms) (m2 : rows2.map (·.m) = ms) (l1 : rows.map (·.l) = ws) (l2 : rows2.map (·.l) = ws) (hl : ms.length ≤ 100000) (hw : ∀ l ∈ ws, l.length ≤ 100000) (h : ∀ H', Same H H' → Q (.bl true) H') : spSameSteps [.ref f, .ref d] H Q E := ⟨f, d, rows, rows2, ms, ws, rfl, hf, hd, h1, h2, m1, m2, l1, l2, hl, hw, h⟩
def spSettled (C : Addr) : Sp := fun vs H Q _ => ∃ (l tl sl : Addr) (as : List Addr) (ms : List Mv) (ts : List Int) (rows : List Row), vs = [.ref l, .ref tl, .ref sl] ∧ H l = some (.lst (as.map V.ref)) ∧ MvsAt H as ms ∧ Srt ms ∧ (∀ m ∈ ms, m.Ok) ∧ ms.length ≤ 200 ∧
  H tl = some (.lst (ts.map V.int)) ∧ ts.length = 4 ∧ ts.Pairwise (· ≤ ·) ∧ (∀ t ∈ ts, 0 ≤ t) ∧ H sl = some (.lst (rows.map rowV)) ∧ (∀ x ∈ rows, RowAt H x) ∧ rows.map (·.m) = ms ∧ rows.map (·.l) = stepW [] ms ∧
  ∀ p g H' t3, ts[3]? = some t3 → AllHeard C H H' p g ms → g.t = foldT [] (ms.take (goneM t3 ms)) → g.ms = ms.drop (goneM t3 ms) → Q (.ref p) H'
end Tm
namespace Tm
open PySem PySem.Spec PyProof.Rows L2
theorem cutV_mid {xs : List V} {i j : Nat} : cutV xs (some (i : Int)) (some (j : Int)) = cutM i j xs := by
  unfold cutV cutM
  rw [HT.sIx_nat, HT.sIx_nat]
  apply List.ext_getElem?
  intro n
  simp only [List.getElem?_drop, List.getElem?_take]
  by_cases c : i ≤ xs.length
  · rw [Nat.min_eq_left c]
    by_cases d : i + n < min j xs.length
    · rw [if_pos (by omega), if_pos (by omega)]
    · rw [if_neg (by omega)]
      by_cases d2 : i + n < j
      · rw [if_pos d2]
        exact (List.getElem?_eq_none (by omega)).symm
      · rw [if_neg d2]
  · have e1 : xs[i + n]? = none := List.getElem?_eq_none (by omega)
    rw [e1]
    split
    · split
      · exact List.getElem?_eq_none (by omega)
      · exact List.getElem?_eq_none (by omega)
    · split <;> rfl
theorem cutM_map {α β : Type} (f : α → β) {i j : Nat} {l : List α} : (cutM i j l).map f = cutM i j (l.map f) := by
  unfold cutM
  rw [List.map_drop, List.map_take]
theorem MvsAt.cut {H : Hp} {as : List Addr} {ms : List Mv} (h : MvsAt H as ms) (i j : Nat) : MvsAt H (cutM i j as) (cutM i j ms) := (h.take j).drop i
theorem cutM_min {α : Type} {i j : Nat} {l : List α} : cutM i (min j l.length) l = cutM i j l := by
  unfold cutM
  congr 1
  by_cases c : j ≤ l.length
  · rw [Nat.min_eq_left c]
  · rw [Nat.min_eq_right (by omega), List.take_of_length_le (Nat.le_refl _), List.take_of_length_le (by omega)]
theorem gone_ge {time : Int} {ms : List Mv} {i : Nat} {x : Mv} (h : Srt ms) (hi : goneM time ms ≤ i) (e : ms[i]? = some x) : time ≤ x.t := by
  have hl := (List.getElem?_eq_some_iff.mp e).1
  obtain ⟨y, hy⟩ : ∃ y, ms[goneM time ms]? = some y := ⟨_, List.getElem?_eq_getElem (by omega)⟩
  have b := goneM_at hy
  by_cases c : goneM time ms = i
  · rw [c, e] at hy
    have := Option.some.inj hy
    rw [this]
    omega
  · have := srt_at h hy e (by omega)
    unfold Bef at this
    omega
theorem gone_mono {a b : Int} {ms : List Mv} (h : Srt ms) (hab : a ≤ b) : goneM a ms ≤ goneM b ms := by
  have ha := goneM_le a ms
  by_cases c : goneM b ms < ms.length
  · obtain ⟨y, hy⟩ : ∃ y, ms[goneM b ms]? = some y := ⟨_, List.getElem?_eq_getElem c⟩
    have z := goneM_at hy
    by_cases d : goneM b ms < goneM a ms
    · have := goneM_lt d hy
      omega
    · omega
  · have := goneM_le b ms
    omega
theorem cut_bef {ms : List Mv} (h : Srt ms) {i j k : Nat} : ∀ x ∈ cutM i j ms, ∀ y ∈ cutM j k ms, Bef x y := by
  intro x hx y hy
  obtain ⟨n, hn⟩ := List.getElem?_of_mem hx
  obtain ⟨m, hm⟩ := List.getElem?_of_mem hy
  rw [cutM_at] at hn hm
  split at hn
  · split at hm
    · exact srt_at h hn hm (by omega)
    · cases hm
  · cases hn
theorem cut_mem {ms : List Mv} {i j : Nat} {y : Mv} (hy : y ∈ cutM i j ms) : ∃ n, i ≤ n ∧ n < j ∧ ms[n]? = some y := by
  obtain ⟨m, hm⟩ := List.getElem?_of_mem hy
  rw [cutM_at] at hm
  split at hm
  · exact ⟨i + m, by omega, by omega, hm⟩
  · cases hm
end Tm
namespace Tm
open PySem PySem.Spec PyProof.Rows L2
theorem perm_insA {α : Type} (n : Nat) (x : α) (l : List α) : (insA n x l).Perm (x :: l) := by
  have e : insA n x l = l.take n ++ x :: l.drop n := by unfold insA; simp
  rw [e]
  refine List.perm_middle.trans ?_
  rw [List.take_append_drop]
theorem pair_perm {a b : List Mv} (h : a.Perm b) (p : b.Pairwise fun x y => ¬ SameK x y) : a.Pairwise fun x y => ¬ SameK x y :=
  (h.pairwise_iff (R := fun x y => ¬ SameK x y) (fun {x y} n k => n ⟨k.1.symm, k.2.symm⟩)).mpr p
theorem c_movesOf3 {K : PySem.W.Frag} {H : Hp} {p : Addr} {ns : List Int} {c s : Int} {Q : VK} {E : XK} (hS : SqL K H p (ns.map V.int)) (hl : ns.length ≤ 63) (h : ∀ (l : Addr) (as : List Addr) (ms : List Mv) (H' : Hp), Same H H' → H l = none → H' l = some (.lst (as.map V.ref)) → MvsAt H' as ms → ms.length ≤ 100 → (∀ m ∈ ms, m.Ok) → ms.Pairwise (fun a b => ¬ SameK a b) → Q (.ref l) H') : spMovesOf3 K [.ref p, .int c, .int s] H Q E := ⟨p, ns, c, s, rfl, hS, hl, h⟩
/-- a log that has come to the same -/
structure CameTo (C : Addr) (H : Hp) (p : Addr) (g : Lg) (ms : List Mv) (d : Nat) : Prop where
  L : LogAt C H p g
  ac : Acyc g.t
  tl : g.t.length + g.as.length ≤ 1000
  tr : foldT g.t g.ms = foldT [] ms
  st : stepW g.t g.ms = (stepW [] ms).drop d
  em : g.ms = ms.drop d
  dl : d ≤ ms.length
theorem CameTo.same {C : Addr} {H H' : Hp} {p : Addr} {g : Lg} {ms : List Mv} {d : Nat} (h : CameTo C H p g ms d) (s : Same H H') : CameTo C H' p g ms d := ⟨h.L.same s, h.ac, h.tl, h.tr, h.st, h.em, h.dl⟩
theorem CameTo.all {C : Addr} {H0 H : Hp} {p : Addr} {g : Lg} {os ms : List Mv} (h : AllHeard C H0 H p g os) (ht : g.t = []) (hm : g.ms = ms) : CameTo C H p g ms 0 :=
  ⟨h.L, h.ac, h.tl, by rw [ht, hm], by rw [ht, hm]; rfl, by rw [hm]; rfl, Nat.zero_le _⟩
theorem CameTo.part {C : Addr} {H0 H : Hp} {p : Addr} {g : Lg} {ms : List Mv} {d : Nat} (h : AllHeard C H0 H p g ms) (hd : d ≤ ms.length) (ht : g.t = foldT [] (ms.take d)) (hm : g.ms = ms.drop d) : CameTo C H p g ms d := by
  have e : ms.drop d = cutM d ms.length ms := (cutM_all (Nat.le_refl _)).symm
  have e2 : (stepW [] ms).drop d = cutM d ms.length (stepW [] ms) := (cutM_all (by rw [stepW_length]; exact Nat.le_refl _)).symm
  refine ⟨h.L, h.ac, h.tl, ?_, ?_, hm, hd⟩
  · rw [ht, hm, e, foldT_cut ms hd, List.take_length]
  · rw [ht, hm, e, e2, stepW_cut ms hd (Nat.le_refl _)]
end Tm
namespace Tm
open PySem PySem.Spec PyProof.Rows L2
/-! those that stand under a folder, rising -/
def kidsR (t : Tr) (f : Int) : List Int := (t.filter fun p => decide (p.2 = f)).map (·.1)
def kids (t : Tr) (f : Int) : List Int := (kidsR t f).mergeSort fun a b => decide (a ≤ b)
theorem srt_ints : ∀ {a b : List Int}, a.Perm b → a.Pairwise (· ≤ ·) → b.Pairwise (· ≤ ·) → a = b
  | [], b, p, _, _ => (List.nil_perm.mp p).symm
  | x :: r, [], p, _, _ => absurd p.length_eq (by simp)
  | x :: r, y :: s, p, ha, hb => by
    obtain ⟨a1, a2⟩ := List.pairwise_cons.mp ha
    obtain ⟨b1, b2⟩ := List.pairwise_cons.mp hb
    have e : x = y := by
      have h1 : x ∈ y :: s := p.mem_iff.mp List.mem_cons_self
      have h2 : y ∈ x :: r := p.mem_iff.mpr List.mem_cons_self
      rcases List.mem_cons.mp h1 with z | z
      · exact z
      · rcases List.mem_cons.mp h2 with z2 | z2
        · exact z2.symm
        · have := b1 x z
          have := a1 y z2
          omega
    subst e
    rw [srt_ints (List.perm_cons x |>.mp p) a2 b2]
theorem kids_perm (t : Tr) (f : Int) : (kids t f).Perm (kidsR t f) := List.mergeSort_perm _ _
theorem kids_srt (t : Tr) (f : Int) : (kids t f).Pairwise (· ≤ ·) := by
  have h := List.pairwise_mergeSort (le := fun a b : Int => decide (a ≤ b)) (by intro a b c h1 h2; simp at *; omega) (by intro a b; simp; omega) (kidsR t f)
  exact h.imp fun {a b} z => by simpa using z
theorem kids_of {t : Tr} {f : Int} {l : List Int} (p : l.Perm (kidsR t f)) (s : l.Pairwise (· ≤ ·)) : l = kids t f := srt_ints (p.trans (kids_perm t f).symm) s (kids_srt t f)
theorem mem_kids {t : Tr} (hn : Nd t) {f x : Int} : x ∈ kids t f ↔ lk t x = some f := by
  rw [(kids_perm t f).mem_iff]
  unfold kidsR
  rw [List.mem_map]
  constructor
  · rintro ⟨p, hp, e⟩
    rw [List.mem_filter] at hp
    have z : p.2 = f := by simpa using hp.2
    have := lk_of_mem hn (k := p.1) (v := p.2) hp.1
    rw [← e, this, z]
  · intro h
    exact ⟨(x, f), List.mem_filter.mpr ⟨lk_mem h, by simp⟩, rfl⟩
theorem kids_nodup {t : Tr} (hn : Nd t) (f : Int) : (kids t f).Nodup := by
  rw [(kids_perm t f).nodup_iff]
  unfold kidsR
  exact List.Nodup.sublist ((List.filter_sublist).map _) hn
theorem kids_lt {t : Tr} (hn : Nd t) (f : Int) : (kids t f).Pairwise (· < ·) := by
  have h1 := kids_srt t f
  have h2 := kids_nodup hn f
  exact (h1.and h2).imp fun {a b} z => by have := z.1; have := z.2; omega
theorem kids_length (t : Tr) (f : Int) : (kids t f).length ≤ t.length := by
  rw [(kids_perm t f).length_eq]
  unfold kidsR
  rw [List.length_map]
  exact List.length_filter_le _ _
/-! rows: what is found, and what is due, with how deep -/
abbrev Dr := List (Int × Int)
def stR (rows : Dr) : List Int × List Int := rows.foldl (fun s r => (s.1.take r.1.toNat ++ [r.2], s.2.take r.1.toNat ++ [r.2])) ([0], [0])
theorem stR_snoc (rows : Dr) (r : Int × Int) : stR (rows ++ [r]) = ((stR rows).1.take r.1.toNat ++ [r.2], (stR rows).2.take r.1.toNat ++ [r.2]) := by
  unfold stR
  rw [List.foldl_append]
  rfl
structure OkRow (t : Tr) (s : List Int × List Int) (r : Int × Int) : Prop where
  d1 : 1 ≤ r.1
  d2 : r.1 ≤ s.1.length
  par : ∃ u, lk t r.2 = some u ∧ s.1[r.1.toNat - 1]? = some u
  las : ∀ y, s.2[r.1.toNat]? = some y → y < r.2
def ValidR (t : Tr) (rows : Dr) : Prop := ∀ (i : Nat) r, rows[i]? = some r → OkRow t (stR (rows.take i)) r
theorem ValidR.snoc {t : Tr} {rows : Dr} {r : Int × Int} (h : ValidR t rows) (o : OkRow t (stR rows) r) : ValidR t (rows ++ [r]) := by
  intro i x e
  rw [List.getElem?_append] at e
  by_cases c : i < rows.length
  · rw [if_pos c] at e
    rw [List.take_append_of_le_length (by omega)]
    exact h i x e
  · rw [if_neg c] at e
    have z : i = rows.length := by
      have := (List.getElem?_eq_some_iff.mp e).1
      simp at this
      omega
    subst z
    simp at e
    subst e
    rw [List.take_left]
    exact o
/-- the state of the search: found, due (the next one first) -/
structure Dfs (t : Tr) (fo du : Dr) : Prop where
  val : ValidR t fo
  len : (stR fo).2.length = (stR fo).1.length
  pos : 1 ≤ (stR fo).1.length
  due : ∀ r ∈ du, 1 ≤ r.1 ∧ r.1 ≤ (stR fo).1.length ∧ (∃ u, lk t r.2 = some u ∧ (stR fo).1[r.1.toNat - 1]? = some u) ∧ ∀ y, (stR fo).2[r.1.toNat]? = some y → y < r.2
  ord : du.Pairwise fun a b => b.1 < a.1 ∨ (a.1 = b.1 ∧ a.2 < b.2)
  nd : ((fo ++ du).map (·.2)).Nodup
  par : ∀ r ∈ fo ++ du, lk t r.2 = some 0 ∨ ∃ u, lk t r.2 = some u ∧ u ∈ fo.map (·.2)
  top : ∀ r ∈ fo ++ du, (way t r.2).getLast? = some 0
  all : ∀ p : Int, (p = 0 ∨ p ∈ fo.map (·.2)) → ∀ k, lk t k = some p → k ∈ (fo ++ du).map (·.2)
end Tm
namespace Tm
open PySem PySem.Spec PyProof.Rows L2
theorem Dfs.start {t : Tr} (hn : Nd t) (hA : Acyc t) (h0 : lk t 0 = none) : Dfs t [] ((kids t 0).map fun k => ((1 : Int), k)) := by
  have e2 : ((kids t 0).map fun k => ((1 : Int), k)).map (·.2) = kids t 0 := by rw [List.map_map]; exact List.map_id _
  refine ⟨fun i r e => by simp at e, rfl, by simp [stR], fun r hr => ?_, ?_, ?_, fun r hr => ?_, fun r hr => ?_, fun p hp k hk => ?_⟩
  · obtain ⟨k, hk, e⟩ := List.mem_map.mp hr
    subst e
    exact ⟨Int.le_refl _, by simp [stR], ⟨0, (mem_kids hn).mp hk, rfl⟩, fun y hy => by simp [stR] at hy⟩
  · rw [List.pairwise_map]
    exact (kids_lt hn 0).imp fun {a b} z => .inr ⟨rfl, z⟩
  · rw [List.nil_append, e2]
    exact kids_nodup hn 0
  · obtain ⟨k, hk, e⟩ := List.mem_map.mp (by simpa using hr)
    subst e
    exact .inl ((mem_kids hn).mp hk)
  · obtain ⟨k, hk, e⟩ := List.mem_map.mp (by simpa using hr)
    subst e
    show (way t k).getLast? = some 0
    rw [way_next hA ((mem_kids hn).mp hk), way_end h0]
    rfl
  · rcases hp with z | z
    · subst z
      rw [List.nil_append, e2]
      exact (mem_kids hn).mpr hk
    · simp at z
theorem Dfs.step {t : Tr} (hn : Nd t) (hA : Acyc t) (h0 : lk t 0 = none) {fo r : Dr} {d x : Int} (h : Dfs t fo ((d, x) :: r)) : Dfs t (fo ++ [(d, x)]) (((kids t x).map fun k => (d + 1, k)) ++ r) := by
  obtain ⟨d1, d2, ⟨u, hu, hp⟩, hl⟩ := h.due (d, x) List.mem_cons_self
  simp only at d1 d2 hu hp hl
  have o : OkRow t (stR fo) (d, x) := ⟨d1, d2, ⟨u, hu, hp⟩, hl⟩
  have hlen := h.len
  have x0 : x ≠ 0 := fun z => by rw [z, h0] at hu; cases hu
  have e2 : ((kids t x).map fun k => (d + 1, k)).map (·.2) = kids t x := by rw [List.map_map]; exact List.map_id _
  have old : (fo.map (·.2) ++ x :: r.map (·.2)).Nodup := by have z := h.nd; rw [List.map_append] at z; exact z
  have xfo : x ∉ fo.map (·.2) := fun z => (List.nodup_append.mp old).2.2 x z x List.mem_cons_self rfl
  obtain ⟨o1, o2⟩ := List.pairwise_cons.mp h.ord
  have hs := stR_snoc fo (d, x)
  simp only at hs
  have lP : (stR (fo ++ [(d, x)])).1.length = d.toNat + 1 := by rw [hs]; simp; omega
  have lL : (stR (fo ++ [(d, x)])).2.length = d.toNat + 1 := by rw [hs]; simp; omega
  refine ⟨h.val.snoc o, by rw [lP, lL], by omega, fun y hy => ?_, ?_, ?_, fun y hy => ?_, fun y hy => ?_, fun p hp' k hk => ?_⟩
  · rcases List.mem_append.mp hy with z | z
    · obtain ⟨k, hk, e⟩ := List.mem_map.mp z
      subst e
      have hk := (mem_kids hn).mp hk
      refine ⟨by show 1 ≤ d + 1; omega, by show d + 1 ≤ _; rw [lP]; omega, ⟨x, hk, ?_⟩, fun w hw => ?_⟩
      · show (stR (fo ++ [(d, x)])).1[(d + 1).toNat - 1]? = some x
        have e : (d + 1).toNat - 1 = d.toNat := by omega
        rw [e, hs]
        simp only
        rw [List.getElem?_append_right (by simp; omega)]
        have : d.toNat - (List.take d.toNat (stR fo).1).length = 0 := by simp; omega
        rw [this]
        rfl
      · have hw' : (stR (fo ++ [(d, x)])).2[(d + 1).toNat]? = some w := hw
        have := (List.getElem?_eq_some_iff.mp hw').1
        omega
    · obtain ⟨q1, q2, ⟨v, q3, q4⟩, q5⟩ := h.due y (List.mem_cons_of_mem _ z)
      have q6 := o1 y z
      simp only at q6
      have q7 : y.1 ≤ d := by omega
      refine ⟨q1, by rw [lP]; omega, ⟨v, q3, ?_⟩, fun w hw => ?_⟩
      · rw [hs]
        simp only
        rw [List.getElem?_append_left (by simp; omega), List.getElem?_take, if_pos (by omega)]
        exact q4
      · rw [hs] at hw
        simp only at hw
        by_cases c : y.1 = d
        · have q8 : x < y.2 := by omega
          rw [c, List.getElem?_append_right (by simp; omega)] at hw
          have : d.toNat - (List.take d.toNat (stR fo).2).length = 0 := by simp; omega
          rw [this] at hw
          simp at hw
          omega
        · rw [List.getElem?_append_left (by simp; omega), List.getElem?_take, if_pos (by omega)] at hw
          exact q5 w hw
  · rw [List.pairwise_append]
    refine ⟨?_, o2, fun a ha b hb => ?_⟩
    · rw [List.pairwise_map]
      exact (kids_lt hn x).imp fun {a b} z => .inr ⟨rfl, z⟩
    · obtain ⟨k, hk, e⟩ := List.mem_map.mp ha
      subst e
      have := o1 b hb
      simp only at this
      exact .inl (by show b.1 < d + 1; omega)
  · have e : ((fo ++ [(d, x)]) ++ (((kids t x).map fun k => (d + 1, k)) ++ r)).map (·.2) = (fo.map (·.2) ++ [x]) ++ (kids t x ++ r.map (·.2)) := by
      rw [List.map_append, List.map_append, List.map_append, e2]
      rfl
    rw [e, (List.perm_append_comm_assoc _ _ _).nodup_iff, List.nodup_append]
    refine ⟨kids_nodup hn x, by simpa using old, fun a ha b hb z => ?_⟩
    subst z
    have ha := (mem_kids hn).mp ha
    have hb' : a ∈ (fo ++ (d, x) :: r).map (·.2) := by
      rw [List.map_append]
      simpa using hb
    obtain ⟨y, hy, ey⟩ := List.mem_map.mp hb'
    rcases h.par y hy with w | ⟨v, w1, w2⟩
    · rw [ey, ha] at w
      exact x0 (Option.some.inj w)
    · rw [ey, ha] at w1
      rw [← Option.some.inj w1] at w2
      exact xfo w2
  · have keepP : ∀ y ∈ fo ++ (d, x) :: r, lk t y.2 = some 0 ∨ ∃ u, lk t y.2 = some u ∧ u ∈ (fo ++ [(d, x)]).map (·.2) := fun y hy => by
      rcases h.par y hy with w | ⟨v, w1, w2⟩
      · exact .inl w
      · exact .inr ⟨v, w1, by rw [List.map_append]; exact List.mem_append_left _ w2⟩
    rcases List.mem_append.mp hy with z | z
    · refine keepP y ?_
      rcases List.mem_append.mp z with z | z
      · exact List.mem_append_left _ z
      · rw [List.mem_singleton.mp z]
        simp
    · rcases List.mem_append.mp z with z | z
      · obtain ⟨k, hk, e⟩ := List.mem_map.mp z
        subst e
        exact .inr ⟨x, (mem_kids hn).mp hk, by simp⟩
      · exact keepP y (List.mem_append_right _ (List.mem_cons_of_mem _ z))
  · rcases List.mem_append.mp hy with z | z
    · refine h.top y ?_
      rcases List.mem_append.mp z with z | z
      · exact List.mem_append_left _ z
      · rw [List.mem_singleton.mp z]
        simp
    · rcases List.mem_append.mp z with z | z
      · obtain ⟨k, hk, e⟩ := List.mem_map.mp z
        subst e
        show (way t k).getLast? = some 0
        have tx : (way t x).getLast? = some 0 := h.top (d, x) (by simp)
        rw [way_next hA ((mem_kids hn).mp hk), List.getLast?_cons, tx]
        rfl
      · exact h.top y (List.mem_append_right _ (List.mem_cons_of_mem _ z))
  · have sub : ∀ k, k ∈ (fo ++ (d, x) :: r).map (·.2) → k ∈ ((fo ++ [(d, x)]) ++ (((kids t x).map fun k => (d + 1, k)) ++ r)).map (·.2) := fun k hk' => by
      rw [List.map_append] at hk' ⊢
      rw [List.map_append, List.map_append]
      simp at hk' ⊢
      rcases hk' with w | w | w
      · exact .inl w
      · exact .inr (.inl w)
      · exact .inr (.inr (.inr w))
    have hp2 : p = 0 ∨ p ∈ fo.map (·.2) ∨ p = x := by
      rcases hp' with w | w
      · exact .inl w
      · rw [List.map_append] at w
        rcases List.mem_append.mp w with w | w
        · exact .inr (.inl w)
        · exact .inr (.inr (by simpa using w))
    rcases hp2 with w | w | w
    · exact sub k (h.all p (.inl w) k hk)
    · exact sub k (h.all p (.inr w) k hk)
    · rw [w] at hk
      rw [List.map_append, List.map_append (l₁ := (kids t x).map _), e2]
      exact List.mem_append_right _ (List.mem_append_left _ ((mem_kids hn).mpr hk))
theorem Dfs.keys {t : Tr} {fo du : Dr} (h : Dfs t fo du) : ∀ x ∈ fo.map (·.2), x ∈ t.map (·.1) := by
  intro x hx
  obtain ⟨r, hr, e⟩ := List.mem_map.mp hx
  obtain ⟨i, hi⟩ := List.getElem?_of_mem hr
  obtain ⟨u, hu, _⟩ := (h.val i r hi).par
  rw [← e]
  exact lk_key.mp (by rw [hu]; rfl)
theorem Dfs.few {t : Tr} {fo du : Dr} (h : Dfs t fo du) : fo.length ≤ t.length := by
  have nd : (fo.map (·.2)).Nodup := by
    have z := h.nd
    rw [List.map_append] at z
    exact (List.nodup_append.mp z).1
  have z := le_of_subset nd h.keys
  simpa using z
theorem Dfs.done {t : Tr} {fo : Dr} (hA : Acyc t) (h : Dfs t fo []) (x : Int) : x ∈ fo.map (·.2) ↔ (lk t x).isSome = true ∧ (way t x).getLast? = some 0 := by
  constructor
  · intro hx
    refine ⟨lk_key.mpr (h.keys x hx), ?_⟩
    obtain ⟨r, hr, e⟩ := List.mem_map.mp hx
    rw [← e]
    exact h.top r (by simpa using hr)
  · rintro ⟨h1, h2⟩
    have p := hA.path x
    generalize way t x = l at *
    induction p with
    | top e => rw [e] at h1; cases h1
    | @step f u l' e p ih =>
      obtain ⟨r, er⟩ := p.head
      have h2' : l'.getLast? = some 0 := by
        rw [List.getLast?_cons, er, List.getLast?_cons] at h2
        rw [er, List.getLast?_cons]
        simpa using h2
      have key : (u = 0 ∨ u ∈ fo.map (·.2)) := by
        cases eu : lk t u with
        | none =>
          have z := (Path.top eu).uniq p
          rw [← z] at h2'
          simp at h2'
          exact .inl h2'
        | some v => exact .inr (ih (by rw [eu]; rfl) h2')
      have z := h.all u key f e
      simpa using z
end Tm
namespace Tm
open PySem PySem.Spec PyProof.Rows L2
section
variable {K : PySem.W.Frag} {σ : L2.St} {H : Hp} {Q : VK} {te : TE} {tt : TT} {ts : TA} {j : Nat} {p : Addr}
def qLcV (K : PySem.W.Frag) (g : TG) (tt : TT) (te : TE) (vs : List Nat) (σ : L2.St) (Q : VK) : List V → Hp → Prop := fun ws H1 => ∃ (a : Addr) (xs : List V), ws = [.ref a] ∧ SqL K H1 a xs ∧ qLc (Itv K a xs.length).go (Itv K a xs.length).stop (Itv K a xs.length).yld g tt te vs σ Q H1
instance {g : TG} {vs : List Nat} : Step (tLc (iRev K ts) g tt te vs σ H Q) (ts σ H (qLcV K g tt te vs σ Q)) := ⟨fun h => h⟩
/-- [.. for x in reversed(a list)] -/
theorem r_lcV {xs : List V} (Pv : Addr → Nat → Hp → Prop) (h0 : ∀ D, H D = none → Pv D 0 (upd H D (.lst []))) (hx : SqL K H p xs) (hl : ∀ D i H, i ≤ xs.length → Pv D i H → SqL K H p xs)
    (hs : ∀ D i x H, xs.reverse[i]? = some x → Pv D i H → tt ((σ.set j none).set j (some x)) H (qLcT te ((σ.set j none).set j (some x)) D (Pv D (i + 1)))) (hd : ∀ D H, Pv D xs.length H → Q (.ref D) H) : qLcV K (gName j) tt te [j] σ Q [.ref p] H := by
  refine ⟨p, xs, rfl, hx, fun D nD => ⟨fun i m H => m = xs.length - i ∧ i ≤ xs.length ∧ Pv D i H, ⟨xs.length, by simp, Nat.zero_le _, h0 D nD⟩, ?_⟩⟩
  rintro i m H ⟨rfl, hi, q⟩
  have hq := hl D i H hi q
  by_cases hlt : i < xs.length
  · have e : xs[xs.length - 1 - i]? = some (xs[xs.length - 1 - i]'(by omega)) := List.getElem?_eq_getElem (by omega)
    refine .inr ⟨⟨hlt, xs, _, hq, e⟩, Pv D (i + 1), fun H' p' => ⟨xs.length - (i + 1), by omega, rfl, hlt, p'⟩, fun x H' y => ?_⟩
    obtain ⟨eH, y⟩ := y
    subst eH
    refine ⟨?_, hs D i x _ ?_ q⟩
    · show (((σ.set j none).set j (some _)).set j none) = σ.set j none
      rw [List.set_set, List.set_set]
    · rw [List.getElem?_reverse hlt]
      exact y xs hq
  · have e : i = xs.length := by omega
    subst e
    exact .inl ⟨Nat.le_refl _, hd D H q⟩
end
/-- a list's truth -/
def qTru (K : PySem.W.Frag) (B : Bool → Hp → Prop) : VK := fun x H' => ∃ k, TruV K x H' k ∧ B k H'
theorem r_truL {K : PySem.W.Frag} {H : Hp} {B : Bool → Hp → Prop} {p : Addr} {xs : List V} (hp : H p = some (.lst xs)) (h : B (!xs.isEmpty) H) : qTru K B (.ref p) H := ⟨_, .inl ⟨xs, SqL.of hp, rfl⟩, h⟩
/-- pop() -/
def qTy0 (K : PySem.W.Frag) (T : String) (r : V → List V → Hp → VK → Prop) (Q : VK) : VK := fun x H1 => tyV K T x H1 ∧ r x [] H1 Q
instance {K : PySem.W.Frag} {T : String} {r : V → List V → Hp → VK → Prop} {to : TE} {σ : L2.St} {H : Hp} {Q : VK} : Step (tBM0 K T r to σ H Q) (to σ H (qTy0 K T r Q)) := ⟨fun h => h⟩
theorem r_pop {K : PySem.W.Frag} {H : Hp} {Q : VK} {p : Addr} {xs : List V} {y : V} (hp : H p = some (.lst (xs ++ [y]))) (h : Q y (upd H p (.lst xs))) : qTy0 K "list" rPop Q (.ref p) H :=
  ⟨.inl ⟨rfl, xs ++ [y], .inl (.inl hp)⟩, p, xs ++ [y], y, rfl, rfl, hp, by simp, by rw [List.dropLast_concat]; exact h⟩
/-! pairs of a depth and a folder, in the heap -/
def DrAt (H : Hp) (as : List Addr) (rs : Dr) : Prop := as.map H = rs.map fun r => some (HO.tup [.int r.1, .int r.2])
theorem DrAt.of {H H' : Hp} {as : List Addr} {rs : Dr} (h : DrAt H as rs) (k : ∀ a vs, H a = some (.tup vs) → H' a = some (.tup vs)) : DrAt H' as rs := by
  unfold DrAt at *
  rw [← h]
  refine List.map_congr_left fun a ha => ?_
  have z : H a ∈ as.map H := List.mem_map_of_mem ha
  rw [h] at z
  obtain ⟨r, _, e⟩ := List.mem_map.mp z
  rw [← e, k a _ e.symm]
theorem DrAt.snoc {H : Hp} {as : List Addr} {rs : Dr} {a : Addr} {r : Int × Int} (h : DrAt H as rs) (e : H a = some (.tup [.int r.1, .int r.2])) : DrAt H (as ++ [a]) (rs ++ [r]) := by
  unfold DrAt at *
  rw [List.map_append, List.map_append, h]
  simp [e]
theorem DrAt.length {H : Hp} {as : List Addr} {rs : Dr} (h : DrAt H as rs) : as.length = rs.length := by
  have := congrArg List.length h
  simpa using this
theorem DrAt.get {H : Hp} {as : List Addr} {rs : Dr} (h : DrAt H as rs) {i : Nat} {x : V} (e : (as.map V.ref)[i]? = some x) : ∃ y r, x = .ref y ∧ rs[i]? = some r ∧ H y = some (.tup [.int r.1, .int r.2]) := by
  rw [List.getElem?_map] at e
  cases z : as[i]? with
  | none => rw [z] at e; cases e
  | some y =>
    rw [z] at e
    cases e
    have q : (as.map H)[i]? = (rs.map fun r => some (HO.tup [.int r.1, .int r.2]))[i]? := by rw [h]
    rw [List.getElem?_map, List.getElem?_map, z] at q
    cases w : rs[i]? with
    | none => rw [w] at q; cases q
    | some r =>
      rw [w] at q
      exact ⟨y, r, rfl, rfl, Option.some.inj q⟩
theorem DrAt.last {H : Hp} {as : List Addr} {rs : Dr} {r : Int × Int} (h : DrAt H as (rs ++ [r])) : ∃ as' a, as = as' ++ [a] ∧ DrAt H as' rs ∧ H a = some (.tup [.int r.1, .int r.2]) := by
  have hl := h.length
  rcases List.eq_nil_or_concat as with e | ⟨as', a, e⟩
  · rw [e] at hl; simp at hl
  · refine ⟨as', a, by rw [e, List.concat_eq_append], ?_⟩
    rw [e, List.concat_eq_append] at h
    unfold DrAt at h ⊢
    rw [List.map_append, List.map_append] at h
    have z := List.append_inj h (by rw [e] at hl; simp at hl; simp; omega)
    exact ⟨z.1, by simpa using z.2⟩
def spChildren : Sp := fun vs H Q _ => ∃ (d : Addr) (t : Tr) (f : Int), vs = [.ref d, .int f] ∧ H d = some (.dK (enc t)) ∧ Nd t ∧ t.length ≤ 1000 ∧ ∀ p H', Same H H' → H p = none → H' p = some (.lst ((kids t f).map V.int)) → Q (.ref p) H'
theorem c_children {H : Hp} {d : Addr} {t : Tr} {f : Int} {Q : VK} {E : XK} (hd : H d = some (.dK (enc t))) (hn : Nd t) (hl : t.length ≤ 1000) (h : ∀ p H', Same H H' → H p = none → H' p = some (.lst ((kids t f).map V.int)) → Q (.ref p) H') : spChildren [.ref d, .int f] H Q E := ⟨d, t, f, rfl, hd, hn, hl, h⟩
def spRows : Sp := fun vs H Q _ => ∃ (d : Addr) (t : Tr), vs = [.ref d] ∧ H d = some (.dK (enc t)) ∧ Nd t ∧ Acyc t ∧ lk t 0 = none ∧ t.length ≤ 1000 ∧ ∀ p as fo H', Same H H' → H p = none → H' p = some (.lst (as.map V.ref)) → DrAt H' as fo → Dfs t fo [] → Q (.ref p) H'
theorem c_rows {H : Hp} {d : Addr} {t : Tr} {Q : VK} {E : XK} (hd : H d = some (.dK (enc t))) (hn : Nd t) (hA : Acyc t) (h0 : lk t 0 = none) (hl : t.length ≤ 1000) (h : ∀ p as fo H', Same H H' → H p = none → H' p = some (.lst (as.map V.ref)) → DrAt H' as fo → Dfs t fo [] → Q (.ref p) H') : spRows [.ref d] H Q E := ⟨d, t, rfl, hd, hn, hA, h0, hl, h⟩
def spHangs : Sp := fun vs H Q _ => ∃ (d l : Addr) (t : Tr) (as : List Addr) (fo : Dr), vs = [.ref d, .ref l] ∧ H d = some (.dK (enc t)) ∧ H l = some (.lst (as.map V.ref)) ∧ DrAt H as fo ∧ ValidR t fo ∧ (∀ k ∈ t.map (·.1), 1 ≤ k) ∧ fo.length ≤ 1000 ∧ ∀ H', Same H H' → Q (.bl true) H'
theorem kidsR_snoc (t : Tr) (f : Int) (p : Int × Int) : kidsR (t ++ [p]) f = kidsR t f ++ (if p.2 = f then [p.1] else []) := by
  unfold kidsR
  rw [List.filter_append, List.map_append]
  by_cases c : p.2 = f <;> simp [c]
end Tm
namespace Tm
open PySem PySem.Spec PyProof.Rows L2
theorem cutL_take {α : Type} {xs : List α} {n : Nat} : cutL xs none (some (n : Int)) = xs.take n := by
  unfold cutL
  rw [HT.sIx_none, HT.sIx_nat]
  simp only [Nat.sub_zero, List.drop_zero]
  by_cases c : n ≤ xs.length
  · rw [Nat.min_eq_left c]
  · rw [Nat.min_eq_right (by omega), List.take_of_length_le (Nat.le_refl _), List.take_of_length_le (by omega)]
theorem set_end {α : Type} {l : List α} {n : Nat} {x : α} (h : l.length = n + 1) : l.set n x = l.take n ++ [x] := by
  apply List.ext_getElem?
  intro i
  rw [List.getElem?_set]
  by_cases c : n = i
  · subst c
    rw [if_pos rfl, if_pos (by omega), List.getElem?_append_right (by simp; omega)]
    have : n - (List.take n l).length = 0 := by simp; omega
    rw [this]
    rfl
  · rw [if_neg c]
    by_cases d : i < n
    · rw [List.getElem?_append_left (by simp; omega), List.getElem?_take, if_pos d]
    · rw [List.getElem?_eq_none (by omega), List.getElem?_eq_none (by simp; omega)]
end Tm
namespace Tm
open PySem PySem.Spec PyProof.Rows L2
/-- the way up, in a dict that may be locked -/
def spWayR : Sp := fun vs H Q _ => ∃ (d : Addr) (t : Tr) (f : Int), vs = [.ref d, .int f] ∧ Rd H d (.dK (enc t)) ∧ Acyc t ∧ t.length ≤ 100000 ∧ ∀ p, H p = none → Q (.ref p) (upd H p (.lst ((way t f).map V.int)))
theorem c_wayR {H : Hp} {d : Addr} {t : Tr} {f : Int} {Q : VK} {E : XK} (hd : Rd H d (.dK (enc t))) (hA : Acyc t) (hl : t.length ≤ 100000) (h : ∀ p, H p = none → Q (.ref p) (upd H p (.lst ((way t f).map V.int)))) : spWayR [.ref d, .int f] H Q E := ⟨d, t, f, rfl, hd, hA, hl, h⟩
theorem c_hangs {H : Hp} {d l : Addr} {t : Tr} {as : List Addr} {fo : Dr} {Q : VK} {E : XK} (hd : H d = some (.dK (enc t))) (hl : H l = some (.lst (as.map V.ref))) (ha : DrAt H as fo) (hv : ValidR t fo) (hk : ∀ k ∈ t.map (·.1), 1 ≤ k) (hn : fo.length ≤ 1000) (h : ∀ H', Same H H' → Q (.bl true) H') : spHangs [.ref d, .ref l] H Q E := ⟨d, l, t, as, fo, rfl, hd, hl, ha, hv, hk, hn, h⟩
noncomputable def hangR (t : Tr) : List Int := (t.map (·.1)).filter fun k => decide ((way t k).getLast? = some 0)
def drD (r : Int × Int) : PyData := .tuple [.int r.1, .int r.2]
theorem dp_dr {K : PySem.W.Frag} {H : Hp} : ∀ {as : List Addr} {rs : Dr}, DrAt H as rs → DpAll K H (as.map V.ref) (rs.map drD)
  | [], [], _ => .nil
  | [], _ :: _, h => by cases h
  | _ :: _, [], h => by cases h
  | a :: as, r :: rs, h => by
    unfold DrAt at h
    simp only [List.map_cons, List.cons.injEq] at h
    exact .cons (.tup (SqT.of h.1) (.cons (.int _) (.cons (.int _) .nil))) (dp_dr h.2)
theorem sh_dr (rs : Dr) : SeqAt.shaped (.list (rs.map drD)) = true ∧ PyData.eqv (.list (rs.map drD)) (.list (rs.map drD)) = true := by
  have h1 : PyData.canLayAll0 (rs.map drD) = true ∧ PyData.depthAll (rs.map drD) ≤ 1 ∧ PyData.eqvAll (rs.map drD) (rs.map drD) = true := by
    induction rs with
    | nil => simp [PyData.canLayAll0, PyData.depthAll, PyData.eqvAll]
    | cons r s ih =>
      obtain ⟨i1, i2, i3⟩ := ih
      refine ⟨by simp [PyData.canLayAll0, i1, drD, PyData.canLay0], ?_, by simp [PyData.eqvAll, i3, drD, PyData.eqv]⟩
      simp [PyData.depthAll, drD, PyData.depth]
      omega
  obtain ⟨i1, i2, i3⟩ := h1
  refine ⟨?_, by simp only [PyData.eqv]; exact i3⟩
  show (PyData.canLay0 (.list _) && decide (PyData.depth (.list _) ≤ 64)) = true
  rw [Bool.and_eq_true]
  refine ⟨by simp only [PyData.canLay0]; exact i1, decide_eq_true ?_⟩
  simp only [PyData.depth]
  omega
theorem r_neDr {K : PySem.W.Frag} {H : Hp} {Q : VK} {x y : Addr} {as bs : List Addr} {rs : Dr} (hx : H x = some (.lst (as.map V.ref))) (hy : H y = some (.lst (bs.map V.ref))) (ha : DrAt H as rs) (hb : DrAt H bs rs) (q : Q (.bl false) H) : rNeD K (.ref x) (.ref y) H Q :=
  ⟨_, _, .lst (SqL.of hx) (dp_dr ha), .lst (SqL.of hy) (dp_dr hb), (sh_dr rs).1, (sh_dr rs).1, by rw [(sh_dr rs).2]; exact q⟩
theorem r_eqInts {K : PySem.W.Frag} {H : Hp} {Q : VK} {x y : Addr} {l : List Int} (hx : H x = some (.lst (l.map V.int))) (hy : H y = some (.lst (l.map V.int))) (q : Q (.bl true) H) : rEqD K (.ref x) (.ref y) H Q := by
  have sh : SeqAt.shaped (intsD l) = true := by
    show (PyData.canLay0 (intsD l) && decide (PyData.depth (intsD l) ≤ 64)) = true
    rw [Bool.and_eq_true]
    refine ⟨by simp only [intsD, PyData.canLay0]; exact lay_ints l, decide_eq_true ?_⟩
    simp only [intsD, PyData.depth, depth_ints]
    omega
  refine ⟨intsD l, intsD l, .lst (SqL.of hx) (dpAll_ints l), .lst (SqL.of hy) (dpAll_ints l), sh, sh, ?_⟩
  have e : PyData.eqv (intsD l) (intsD l) = true := by simp only [intsD, PyData.eqv]; exact eqv_ints l
  rw [e]
  exact q
/-- one folder under the top -/
theorem dfs_one {k : Int} {fo : Dr} (h : Dfs [(k, 0)] fo []) (hA : Acyc [(k, 0)]) (hk : 1 ≤ k) : fo = [((1 : Int), k)] := by
  have l1 := h.few
  have hlk : lk [(k, 0)] k = some 0 := by simp [lk]
  have h0 : lk [(k, 0)] 0 = none := by simp [lk]; omega
  have mem : k ∈ fo.map (·.2) := (h.done hA k).mpr ⟨by rw [hlk]; rfl, by rw [way_next hA hlk, way_end h0]; rfl⟩
  match fo, l1, mem, h with
  | [], _, m, _ => simp at m
  | [r], _, m, h =>
    have o := h.val 0 r rfl
    obtain ⟨dd, x⟩ := r
    have ex : k = x := by simpa using m
    have z1 := o.d1
    have z2 := o.d2
    simp [stR] at z1 z2
    have : dd = 1 := by omega
    rw [this, ex]
  | _ :: _ :: _, l, _, _ => simp at l
end Tm
namespace Tm
open PySem PySem.Spec PyProof.Rows L2
/-- x = [.. for k in a dict] -/
theorem r_setLcK {σ : L2.St} {H : Hp} {te : TE} {tt : TT} {i j k : Nat} {nx bk ct : L2.St → Hp → Prop} {rt : VK} {d : Addr} {t : Tr} (e : σ[i]? = some (some (.ref d))) (hd : H d = some (.dK (enc t))) (Pv : Obj → Addr → Nat → Hp → Prop) (h0 : ∀ od D, H D = none → D ≠ d → Pv od D 0 (upd (upd H d (.frz od (.dK (enc t)))) D (.lst []))) (hl : ∀ od D i H, Pv od D i H → H d = some (.frz od (.dK (enc t))))
    (hs : ∀ od D i p H, t[i]? = some p → Pv od D i H → tt ((σ.set j none).set j (some (.int p.1))) H (qLcT te ((σ.set j none).set j (some (.int p.1))) D (Pv od D (i + 1))))
    (hn : ∀ od D H, Pv od D t.length H → nx (σ.set k (some (.ref D))) (upd H d (.dK (enc t)))) : tLock (tAsg (tLc (iKeys (tVar i)) (gName j) tt te [j]) (gName k)) ⟨nx, rt, bk, ct⟩ σ H := by
  refine ⟨d, _, hd, trivial, fun od => ?_⟩
  refine ⟨_, e, d, od, rfl, .inl ⟨enc t, upd_same, ?_⟩⟩
  intro D nD
  obtain ⟨nD, neD⟩ := new_free nD
  refine ⟨fun i m H => m = t.length - i ∧ i ≤ t.length ∧ Pv od D i H, ⟨t.length, by simp, Nat.zero_le _, h0 od D nD neD⟩, ?_⟩
  rintro i m H ⟨rfl, hi, q⟩
  have hq := hl od D i H q
  by_cases hlt : i < t.length
  · refine .inr ⟨⟨hq, by rw [enc_length]; exact hlt⟩, Pv od D (i + 1), fun H' p' => ⟨t.length - (i + 1), by omega, rfl, hlt, p'⟩, fun x H' y => ?_⟩
    obtain ⟨eH, k, v, e1, e2⟩ := y
    subst eH
    have et : t[i]? = some t[i] := List.getElem?_eq_getElem hlt
    have e3 : (enc t)[i]? = some (Sum.inl t[i].1, V.int t[i].2) := by
      unfold enc
      rw [List.getElem?_map, et]
      rfl
    rw [e3] at e1
    cases e1
    subst e2
    refine ⟨?_, hs od D i t[i] _ et q⟩
    show (((σ.set j none).set j (some _)).set j none) = σ.set j none
    rw [List.set_set, List.set_set]
  · have e : i = t.length := by omega
    subst e
    exact .inl ⟨⟨hq, by rw [enc_length]; exact Nat.le_refl _⟩, hq, hn od D H q⟩
end Tm
namespace Tm
open PySem PySem.Spec PyProof.Rows L2
theorem dfs_perm {t : Tr} {fo : Dr} (hn : Nd t) (hA : Acyc t) (h : Dfs t fo []) : (fo.map (·.2)).Perm (hangR t) := by
  have n1 : (fo.map (·.2)).Nodup := by
    have z := h.nd
    rw [List.append_nil] at z
    exact z
  have n2 : (hangR t).Nodup := List.Nodup.sublist List.filter_sublist hn
  refine (List.perm_ext_iff_of_nodup n1 n2).mpr fun x => ?_
  rw [h.done hA x, lk_key]
  unfold hangR
  rw [List.mem_filter]
  simp
theorem acyc_one {k : Int} (hk : 1 ≤ k) : Acyc [(k, 0)] := by
  have h0 : way [] 0 = [0] := way_end rfl
  have z := Acyc.nil.put (f := k) (u := 0) (by rw [h0]; simp; omega)
  have e : pt [] k 0 = [(k, 0)] := rfl
  rw [e] at z
  exact z
theorem nd_one {k : Int} : Nd [(k, 0)] := by simp [Nd]
theorem lk_one {k : Int} (hk : 1 ≤ k) : lk [(k, 0)] 0 = none := by
  have : ¬ k = 0 := by omega
  simp [lk, this]
theorem merge_one {k : Int} : mergeK [] [((Sum.inl k : Key), V.int 0)] = enc [(k, 0)] := rfl
end Tm
namespace Tm
open PySem PySem.Spec PyProof.Rows L2
/-! hands in the heap -/
def hdF (n c : Int) (lg : Addr) : List (Str × V) := [("number", .int n), ("clock", .int c), ("log", .ref lg)]
structure HandAt (CH CL : Addr) (H : Hp) (p dx : Addr) (n c : Int) (lg : Addr) (g : Lg) : Prop where
  hp : H p = some (.ins CH dx (hdF n c lg))
  L : LogAt CL H lg g
  ne : p ≠ lg
theorem lk_number {n c : Int} {l : Addr} : (hdF n c l).lookup ("number" : Str) = some (.int n) := by first | rfl | simp [hdF, List.lookup]
theorem lk_clock {n c : Int} {l : Addr} : (hdF n c l).lookup ("clock" : Str) = some (.int c) := by first | rfl | simp [hdF, List.lookup]
theorem lk_log {n c : Int} {l : Addr} : (hdF n c l).lookup ("log" : Str) = some (.ref l) := by first | rfl | simp [hdF, List.lookup]
theorem put_clock {n c c' : Int} {l : Addr} : putF ("clock" : Str) (.int c') (hdF n c l) = hdF n c' l := by first | rfl | simp [hdF, putF]
theorem put_hinit {n : Int} {l : Addr} : putF ("log" : Str) (.ref l) (putF ("clock" : Str) (.int 0) (putF ("number" : Str) (.int n) [])) = hdF n 0 l := by first | rfl | simp [hdF, putF]
theorem noh_move {n c : Int} {l : Addr} : (hdF n c l).lookup ("move" : Str) = none := by first | rfl | simp [hdF, List.lookup]
theorem noh_hear {n c : Int} {l : Addr} : (hdF n c l).lookup ("hear" : Str) = none := by first | rfl | simp [hdF, List.lookup]
theorem noh_tree {n c : Int} {l : Addr} : (hdF n c l).lookup ("tree" : Str) = none := by first | rfl | simp [hdF, List.lookup]
theorem noh_settle {n c : Int} {l : Addr} : (hdF n c l).lookup ("settle" : Str) = none := by first | rfl | simp [hdF, List.lookup]
section
variable {CH CL : Addr} {H H' : Hp} {p dx lg : Addr} {n c : Int} {g : Lg}
theorem HandAt.same (h : HandAt CH CL H p dx n c lg g) (s : Same H H') : HandAt CH CL H' p dx n c lg g := ⟨s _ _ h.hp, h.L.same s, h.ne⟩
/-- an instance that is changed: no log's parts, but for the log itself -/
theorem LogAt.mutI {q C d : Addr} {fs : List (Str × V)} {o : HO} (h : LogAt CL H p g) (hq : H q = some (.ins C d fs)) (nq : p ≠ q) : LogAt CL (upd H q o) p g :=
  ⟨keep_ne h.hp nq, keep_ne h.hb (fun z => by have e := h.hb; rw [z, hq] at e; cases e), keep_ne h.hl (fun z => by have e := h.hl; rw [z, hq] at e; cases e), h.hm.of (fun b vs e => keep_ne e fun z => by rw [z, hq] at e; cases e)⟩
theorem HandAt.clock (h : HandAt CH CL H p dx n c lg g) (c' : Int) : HandAt CH CL (upd H p (.ins CH dx (hdF n c' lg))) p dx n c' lg g := ⟨upd_same, h.L.mutI h.hp h.ne.symm, h.ne⟩
theorem HandAt.heard {a : Addr} {m : Mv} (h : HandAt CH CL H p dx n c lg g) (e : H a = some (.tup m.vs)) : HandAt CH CL (upd H g.l (.lst ((g.heard a m).as.map V.ref))) p dx n c lg (g.heard a m) :=
  ⟨keep_ne h.hp (fun z => by have w := h.hp; rw [z, h.L.hl] at w; cases w), h.L.heard e, h.ne⟩
end
def spHandInit (CH CL NH : Addr) : Sp := fun vs H Q E => ∃ (p dx : Addr) (x : V), vs = [.ref p, x] ∧ H p = some (.ins CH dx []) ∧ KnownV H x ∧
  (isW x 0 = false → E (.ref NH) none H) ∧ ∀ n, x = .int n → isW x 0 = true → ∀ lg b l ldx H', H lg = none → H b = none → H l = none → SameP p H H' → HandAt CH CL H' p dx n 0 lg (lg0 b l ldx) → Q .non H'
/-- a hand's own move -/
def spHandMove (CH CL N : Addr) : Sp := fun vs H Q E => ∃ (p dx : Addr) (n c : Int) (lg : Addr) (g : Lg) (f u : V), vs = [.ref p, f, u] ∧ HandAt CH CL H p dx n c lg g ∧ Srt g.ms ∧ g.as.length ≤ 100000 ∧ KnownV H f ∧ KnownV H u ∧ 0 ≤ n ∧ n ≤ E60 ∧ 0 ≤ c ∧ g.s ≤ c + 1 ∧ (∀ m ∈ g.ms, m.t ≤ c) ∧
  ((moveB [.int (c + 1), .int n, f, u] = false ∧ ∀ H', Same H H' → E (.ref N) none H') ∨ ∃ fi ui : Int, f = .int fi ∧ u = .int ui ∧ (Mv.mk (c + 1) n fi ui).Ok ∧ ∀ a H1 H', H a = none → Same H H1 → H1 a = some (.tup (Mv.mk (c + 1) n fi ui).vs) → H' = upd (upd H1 g.l (.lst ((g.heard a (Mv.mk (c + 1) n fi ui)).as.map V.ref))) p (.ins CH dx (hdF n (c + 1) lg)) →
    HandAt CH CL H' p dx n (c + 1) lg (g.heard a (Mv.mk (c + 1) n fi ui)) → Q (.ref a) H')
/-- a hand hears -/
def spHandHear (CH CL N T X : Addr) : Sp := fun vs H Q E => ∃ (p dx : Addr) (n c : Int) (lg : Addr) (g : Lg) (x : V), vs = [.ref p, x] ∧ HandAt CH CL H p dx n c lg g ∧ Srt g.ms ∧ g.as.length ≤ 100000 ∧
  ((BadMv H x ∧ E (.ref N) none H) ∨ ∃ (a : Addr) (m : Mv), x = .ref a ∧ H a = some (.tup m.vs) ∧ m.Ok ∧ (m.t < g.s → E (.ref T) none H) ∧ (g.s ≤ m.t → ClashM m g.ms → E (.ref X) none H) ∧
    (g.s ≤ m.t → m ∈ g.ms → Q (.bl false) (upd H p (.ins CH dx (hdF n (max c m.t) lg)))) ∧
    (g.s ≤ m.t → NewM m g.ms → Q (.bl true) (upd (upd H g.l (.lst ((g.heard a m).as.map V.ref))) p (.ins CH dx (hdF n (max c m.t) lg)))))
def spHandTree (CH CL : Addr) : Sp := fun vs H Q _ => ∃ (p dx : Addr) (n c : Int) (lg : Addr) (g : Lg), vs = [.ref p] ∧ HandAt CH CL H p dx n c lg g ∧ Acyc g.t ∧ g.t.length + g.as.length ≤ 100000 ∧ ∀ d H', H d = none → Same H H' → H' d = some (.dK (enc (foldT g.t g.ms))) → Q (.ref d) H'
def spHandSettle (CH CL : Addr) : Sp := fun vs H Q _ => ∃ (p dx : Addr) (n c : Int) (lg : Addr) (g : Lg) (time : Int), vs = [.ref p, .int time] ∧ HandAt CH CL H p dx n c lg g ∧ Acyc g.t ∧ g.t.length + g.as.length ≤ 100000 ∧
  ∀ b l H1, (b = g.b ∨ H b = none) → H l = none → SameP lg H H1 → HandAt CH CL (upd H1 p (.ins CH dx (hdF n (max c (time - 1)) lg))) p dx n (max c (time - 1)) lg (g.settled b l time) → Q (.int (goneM time g.ms : Nat)) (upd H1 p (.ins CH dx (hdF n (max c (time - 1)) lg)))
end Tm
namespace Tm
open PySem PySem.Spec PyProof.Rows L2
/-! k11: the law's state -/
def stV (n c s many : Int) (k b h : Addr) : List (Key × V) := [(Sum.inr "number", .int n), (Sum.inr "clock", .int c), (Sum.inr "since", .int s), (Sum.inr "many", .int many), (Sum.inr "kept", .ref k), (Sum.inr "base", .ref b), (Sum.inr "held", .ref h)]
section
variable {n c s many n' c' s' : Int} {k b h k' b' : Addr}
theorem st_number : valV (stV n c s many k b h) (Sum.inr ("number" : Str)) = some (.int n) := by first | rfl | simp [stV, valV]
theorem st_clock : valV (stV n c s many k b h) (Sum.inr ("clock" : Str)) = some (.int c) := by first | rfl | simp [stV, valV]
theorem st_since : valV (stV n c s many k b h) (Sum.inr ("since" : Str)) = some (.int s) := by first | rfl | simp [stV, valV]
theorem st_many : valV (stV n c s many k b h) (Sum.inr ("many" : Str)) = some (.int many) := by first | rfl | simp [stV, valV]
theorem st_kept : valV (stV n c s many k b h) (Sum.inr ("kept" : Str)) = some (.ref k) := by first | rfl | simp [stV, valV]
theorem st_base : valV (stV n c s many k b h) (Sum.inr ("base" : Str)) = some (.ref b) := by first | rfl | simp [stV, valV]
theorem st_held : valV (stV n c s many k b h) (Sum.inr ("held" : Str)) = some (.ref h) := by first | rfl | simp [stV, valV]
theorem sp_clock : putK (stV n c s many k b h) (Sum.inr ("clock" : Str)) (.int c') = stV n c' s many k b h := by first | rfl | simp [stV, putK]
theorem sp_since : putK (stV n c s many k b h) (Sum.inr ("since" : Str)) (.int s') = stV n c s' many k b h := by first | rfl | simp [stV, putK]
theorem sp_kept : putK (stV n c s many k b h) (Sum.inr ("kept" : Str)) (.ref k') = stV n c s many k' b h := by first | rfl | simp [stV, putK]
theorem sp_base : putK (stV n c s many k b h) (Sum.inr ("base" : Str)) (.ref b') = stV n c s many k b' h := by first | rfl | simp [stV, putK]
theorem st_len : (stV n c s many k b h).length < sizeLine := lt_line (by show 7 ≤ 1000000; omega)
end
/-- a hand, and the law's state beside it -/
structure I11 (K : PySem.W.Frag) (CH CL : Addr) (H : Hp) (p dx lg st kl bd hl : Addr) (n c many : Int) (g : Lg) (as hs : List Addr) (k : Nat) : Prop where
  D : HandAt CH CL H p dx n c lg g
  S : Srt g.ms
  ok : ∀ m ∈ g.ms, m.Ok
  ac : Acyc g.t
  nd : Nd g.t
  est : H st = some (.dK (stV n c g.s many kl bd hl))
  eb : H bd = some (.dK (enc g.t))
  ek : H kl = some (.lst (as.map V.ref))
  km : MvsAt H as g.ms
  eh : H hl = some (.lst (hs.map V.ref))
  hd : Held K [p, lg, g.l, hl, st] H hs
  le : ∀ m ∈ g.ms, m.t ≤ c
  sc : g.s ≤ c + 1
  s0 : 0 ≤ g.s
  c0 : 0 ≤ c
  n0 : 0 ≤ n
  n1 : n ≤ E60
  tl : g.t.length + g.as.length ≤ k
  hn : hs.length ≤ 4 * k + 4
  x1 : g.l ≠ hl
  x2 : g.l ≠ kl
  x3 : kl ≠ hl
  x4 : bd ≠ st
  x5 : g.b ≠ st
section
variable {K : PySem.W.Frag} {CH CL : Addr} {H H' : Hp} {p dx lg st kl bd hl : Addr} {n c many : Int} {g : Lg} {as hs : List Addr} {k : Nat}
theorem I11.same (I : I11 K CH CL H p dx lg st kl bd hl n c many g as hs k) (s : Same H H') : I11 K CH CL H' p dx lg st kl bd hl n c many g as hs k :=
  ⟨I.D.same s, I.S, I.ok, I.ac, I.nd, s _ _ I.est, s _ _ I.eb, s _ _ I.ek, I.km.same s, s _ _ I.eh, I.hd.keep (Kx.of s), I.le, I.sc, I.s0, I.c0, I.n0, I.n1, I.tl, I.hn, I.x1, I.x2, I.x3, I.x4, I.x5⟩
theorem I11.up (I : I11 K CH CL H p dx lg st kl bd hl n c many g as hs k) {k' : Nat} (e : k ≤ k') : I11 K CH CL H p dx lg st kl bd hl n c many g as hs k' :=
  ⟨I.D, I.S, I.ok, I.ac, I.nd, I.est, I.eb, I.ek, I.km, I.eh, I.hd, I.le, I.sc, I.s0, I.c0, I.n0, I.n1, by have := I.tl; omega, by have := I.hn; omega, I.x1, I.x2, I.x3, I.x4, I.x5⟩
theorem I11.len (I : I11 K CH CL H p dx lg st kl bd hl n c many g as hs k) : g.as.length = g.ms.length ∧ as.length = g.ms.length ∧ g.ms.length ≤ k := by
  have z1 := I.D.L.hm.length
  have z2 := I.km.length
  have z3 := I.tl
  omega
/-- what is none of the changed -/
theorem I11.fresh (I : I11 K CH CL H p dx lg st kl bd hl n c many g as hs k) {b : Addr} (e : H b = none) : b ∉ [p, lg, g.l, hl, st] := fun z => by
  simp only [List.mem_cons, List.not_mem_nil, or_false] at z
  rcases z with z | z | z | z | z
  · have w := I.D.hp; rw [← z, e] at w; cases w
  · have w := I.D.L.hp; rw [← z, e] at w; cases w
  · have w := I.D.L.hl; rw [← z, e] at w; cases w
  · have w := I.eh; rw [← z, e] at w; cases w
  · have w := I.est; rw [← z, e] at w; cases w
theorem I11.tup (I : I11 K CH CL H p dx lg st kl bd hl n c many g as hs k) {b : Addr} {vs : List V} (e : H b = some (.tup vs)) : b ∉ [p, lg, g.l, hl, st] := fun z => by
  simp only [List.mem_cons, List.not_mem_nil, or_false] at z
  rcases z with z | z | z | z | z
  · have w := I.D.hp; rw [← z, e] at w; cases w
  · have w := I.D.L.hp; rw [← z, e] at w; cases w
  · have w := I.D.L.hl; rw [← z, e] at w; cases w
  · have w := I.eh; rw [← z, e] at w; cases w
  · have w := I.est; rw [← z, e] at w; cases w
/-- a pair more is held -/
theorem I11.held {a : Addr} (I : I11 K CH CL H p dx lg st kl bd hl n c many g as hs k) (s : SameP hl H H') (e : H' hl = some (.lst ((hs ++ [a]).map V.ref))) (q : ∀ H2, Kx [p, lg, g.l, hl, st] H' H2 → PairAt K H2 a) (l : hs.length + 1 ≤ 4 * k + 4) :
    I11 K CH CL H' p dx lg st kl bd hl n c many g as (hs ++ [a]) k := by
  have nh : ∀ b o, H b = some o → (∀ xs, o ≠ .lst xs) → b ≠ hl := fun b o e w z => by have v := I.eh; rw [← z, e] at v; exact w _ (Option.some.inj v)
  exact ⟨⟨s _ _ (nh _ _ I.D.hp fun xs z => by cases z) I.D.hp, I.D.L.sameP s I.eh I.x1, I.D.ne⟩, I.S, I.ok, I.ac, I.nd, s _ _ (nh _ _ I.est fun xs z => by cases z) I.est, s _ _ (nh _ _ I.eb fun xs z => by cases z) I.eb, s _ _ I.x3 I.ek, I.km.of (fun b vs eb => s _ _ (nh _ _ eb fun xs z => by cases z) eb), e, (I.hd.keep (Kx.ofP (by simp) s)).snoc q, I.le, I.sc, I.s0, I.c0, I.n0, I.n1, I.tl, by simp; omega, I.x1, I.x2, I.x3, I.x4, I.x5⟩
end
end Tm
namespace Tm
open PySem PySem.Spec PyProof.Rows L2
/-- two lists of steps that say the same, by != (k11) -/
theorem r_neIntsL {K : PySem.W.Frag} {H : Hp} {Q : VK} {x y : Addr} {l : List Int} (hx : H x = some (.lst (l.map V.int))) (hy : H y = some (.lst (l.map V.int))) (q : Q (.bl false) H) : rNeD K (.ref x) (.ref y) H Q := by
  have sh : SeqAt.shaped (intsD l) = true := by
    show (PyData.canLay0 (intsD l) && decide (PyData.depth (intsD l) ≤ 64)) = true
    rw [Bool.and_eq_true]
    refine ⟨by simp only [intsD, PyData.canLay0]; exact lay_ints l, decide_eq_true ?_⟩
    simp only [intsD, PyData.depth, depth_ints]
    omega
  refine ⟨intsD l, intsD l, .lst (SqL.of hx) (dpAll_ints l), .lst (SqL.of hy) (dpAll_ints l), sh, sh, ?_⟩
  have e : PyData.eqv (intsD l) (intsD l) = true := by simp only [intsD, PyData.eqv]; exact eqv_ints l
  rw [e]
  exact q
/-- two empty lists, by != -/
theorem r_neEmpty {K : PySem.W.Frag} {H : Hp} {Q : VK} {x y : Addr} (hx : H x = some (.lst [])) (hy : H y = some (.lst [])) (q : Q (.bl false) H) : rNeD K (.ref x) (.ref y) H Q := r_neIntsL (l := []) hx hy q
/-- the steps, asked and held -/
def spAsked (K : PySem.W.Frag) (CL : Addr) : Sp := fun vs H Q _ => ∃ (lg bd ml hl : Addr) (g : Lg) (as hs : List Addr), vs = [.ref lg, .ref bd, .ref ml, .ref hl] ∧ LogAt CL H lg g ∧ Acyc g.t ∧ H bd = some (.dK (enc g.t)) ∧ H ml = some (.lst (as.map V.ref)) ∧ MvsAt H as g.ms ∧ g.t.length + g.ms.length ≤ 10000 ∧ H hl = some (.lst (hs.map V.ref)) ∧ hs.length ≤ 10000 ∧ g.l ≠ hl ∧
  ∀ a H1 H', Same H H1 → H' = upd H1 hl (.lst ((hs ++ [a]).map V.ref)) → (∀ ex : List Addr, (∀ b, H b = none → b ∉ ex) → (∀ b vs, H b = some (.tup vs) → b ∉ ex) → hl ∈ ex → ∀ H2, Kx ex H' H2 → PairAt K H2 a) → Q (.bl true) H'
end Tm
namespace Tm
open PySem PySem.Spec PyProof.Rows L2
theorem cut_last {xs : List V} {y : V} : cutV (xs ++ [y]) none (some (-1)) = xs := by
  unfold cutV
  have e : HT.sIx (xs ++ [y]).length (xs ++ [y]).length (some (-1)) = xs.length := by
    show (if (-1 : Int) < 0 then ((-1 : Int) + ((xs ++ [y]).length : Int)).toNat else min (-1 : Int).toNat (xs ++ [y]).length) = xs.length
    rw [if_pos (by omega), List.length_append, List.length_singleton]
    omega
  rw [e, HT.sIx_none]
  simp
/-- what a list of rows leans on is none of the changed -/
theorem rows_kx {H H1 H2 : Hp} {ex : List Addr} {rows : List Row} (h : ∀ x ∈ rows, RowAt H1 x) (s : Same H H1) (n1 : ∀ b, H b = none → b ∉ ex) (n2 : ∀ b vs, H b = some (.tup vs) → b ∉ ex) (nw : ∀ x ∈ rows, H x.w = none) (k : Kx ex H1 H2) : ∀ x ∈ rows, RowAt H2 x := by
  intro x hx
  obtain ⟨r1, r2, r3⟩ := h x hx
  have nt : ∀ b vs, H1 b = some (.tup vs) → b ∉ ex := fun b vs e => by
    cases z : H b with
    | none => exact n1 b z
    | some o =>
      have w := s _ _ z
      rw [e] at w
      exact n2 b vs (by rw [z, ← Option.some.inj w])
  exact ⟨k _ _ (nt _ _ r1) r1, k _ _ (nt _ _ r2) r2, k _ _ (n1 _ (nw x hx)) r3⟩
end Tm
namespace Tm
open PySem PySem.Spec PyProof.Rows L2
def spAsTold (K : PySem.W.Frag) (CH CL : Addr) : Sp := fun vs H Q _ => ∃ (p dx lg st kl bd hl : Addr) (n c many : Int) (g : Lg) (as hs : List Addr) (k : Nat), vs = [.ref p, .ref st] ∧ I11 K CH CL H p dx lg st kl bd hl n c many g as hs k ∧ hs.length ≤ 4 * k ∧ k ≤ 1000 ∧
  ∀ H' hs', SameP hl H H' → I11 K CH CL H' p dx lg st kl bd hl n c many g as hs' k → hs'.length = hs.length + 4 → Q (.bl true) H'
theorem pair_moves {K : PySem.W.Frag} {H : Hp} {a x y : Addr} {as bs : List Addr} {ms : List Mv} (ha : H a = some (.tup [.ref x, .ref y])) (hx : H x = some (.lst (as.map V.ref))) (hy : H y = some (.lst (bs.map V.ref))) (h1 : MvsAt H as ms) (h2 : MvsAt H bs ms) : PairAt K H a :=
  pair_data ha (.lst (SqL.of hx) (dpAll_mv h1)) (.lst (SqL.of hy) (dpAll_mv h2)) (sh_mvs ms) (SeqAt.eqv_refl _ (SeqAt.canLay_of_shaped (sh_mvs ms)))
end Tm
namespace Tm
open PySem PySem.Spec PyProof.Rows L2
def spSettled11 (K : PySem.W.Frag) (CH CL : Addr) : Sp := fun vs H Q _ => ∃ (p dx lg st kl bd hl : Addr) (n c many : Int) (g : Lg) (as hs : List Addr) (k : Nat) (pick : Int) (great : Bool), vs = [.ref p, .ref st, .int pick, .bl great] ∧ I11 K CH CL H p dx lg st kl bd hl n c many g as hs k ∧ k ≤ 1000 ∧
  ∀ H' kl' bd' c' g' as', Kx [p, lg, g.l, hl, st] H H' → I11 K CH CL H' p dx lg st kl' bd' hl n c' many g' as' hs k → (g'.l = g.l ∨ H g'.l = none) → Q (.bl true) H'
end Tm
namespace Tm
open PySem PySem.Spec PyProof.Rows L2
theorem spHandHear.mono {CH CL N T X : Addr} {vs : List V} {H : Hp} {Q Q' : VK} {E E' : XK} (h : spHandHear CH CL N T X vs H Q E) (hQ : ∀ b H', Q (.bl b) H' → Q' (.bl b) H') (hN : E (.ref N) none H → E' (.ref N) none H) (hT : E (.ref T) none H → E' (.ref T) none H) (hX : E (.ref X) none H → E' (.ref X) none H) : spHandHear CH CL N T X vs H Q' E' := by
  obtain ⟨p, dx, n, c, lg, g, x, e, D, S, l, h⟩ := h
  refine ⟨p, dx, n, c, lg, g, x, e, D, S, l, ?_⟩
  rcases h with ⟨b, h⟩ | ⟨a, m, ex, hx, ok, h1, h2, h3, h4⟩
  · exact .inl ⟨b, hN h⟩
  · exact .inr ⟨a, m, ex, hx, ok, fun c => hT (h1 c), fun c d => hX (h2 c d), fun c d => hQ _ _ (h3 c d), fun c d => hQ _ _ (h4 c d)⟩
def spHeardH (CH CL N T X : Addr) : Sp := fun vs H Q _ => spHandHear CH CL N T X vs H Q fun v _ H' => (v = .ref N → Q (.str "no move") H') ∧ (v = .ref T → Q (.str "too late") H') ∧ (v = .ref X → Q (.str "clash") H')
def spOwn (K : PySem.W.Frag) (CH CL : Addr) : Sp := fun vs H Q _ => ∃ (p dx lg st kl bd hl : Addr) (n c many : Int) (g : Lg) (as hs : List Addr) (k : Nat) (pick cell : Int), vs = [.ref p, .ref st, .int pick, .int cell] ∧ I11 K CH CL H p dx lg st kl bd hl n c many g as hs k ∧ k ≤ 1000 ∧ 1 ≤ many ∧ many ≤ 7 ∧ 0 ≤ pick ∧
  ∀ H' kl' c' g' as', Kx [p, lg, g.l, hl, st] H H' → I11 K CH CL H' p dx lg st kl' bd hl n c' many g' as' hs (k + 1) → g'.l = g.l → Q (.bl true) H'
/-- a folder and an under, one of them none -/
theorem own_bad {i : Int} (h0 : 0 ≤ i) (h : i < 9) : ∃ f u, atI [V.int 0, .int (-1), .int (E60 + 1), .bl true, .non, .int 1, .int 1, .int 1, .int 1] i = some f ∧ atI [V.int 0, .int 0, .int 0, .int 0, .int 0, .int (-1), .int (E60 + 1), .bl false, .non] i = some u ∧
    (∀ H, KnownV H f ∧ KnownV H u) ∧ ∀ t n : Int, moveB [.int t, .int n, f, u] = false := by
  have e : i = 0 ∨ i = 1 ∨ i = 2 ∨ i = 3 ∨ i = 4 ∨ i = 5 ∨ i = 6 ∨ i = 7 ∨ i = 8 := by omega
  rcases e with e | e | e | e | e | e | e | e | e <;> subst e <;> refine ⟨_, _, rfl, rfl, fun H => ⟨trivial, trivial⟩, fun t n => ?_⟩ <;> simp [moveB, isW, E60]
/-- the hand's own move, in the state -/
theorem I11.own {K : PySem.W.Frag} {CH CL : Addr} {H H1 H2 H' : Hp} {p dx lg st kl bd hl kl' : Addr} {n c many : Int} {g : Lg} {as hs : List Addr} {k : Nat} {a a2 : Addr} {m : Mv} {H1' : Hp} (I : I11 K CH CL H p dx lg st kl bd hl n c many g as hs k) (ok : m.Ok) (hm : g.s ≤ m.t ∧ NewM m g.ms) {c' : Int} (hc : c ≤ c' ∧ m.t ≤ c')
    (s1 : Same H H1) (e1 : H1 a2 = some (.tup m.vs)) (e2 : H2 = upd (upd H1 g.l (.lst ((g.heard a m).as.map V.ref))) p (.ins CH dx (hdF n c' lg))) (D2 : HandAt CH CL H2 p dx n c' lg (g.heard a m)) (s3 : Same H2 H1') (fk : H2 kl' = none) (ek : H1' kl' = some (.lst ((insA (posM m g.ms) a2 as).map V.ref)))
    (e3 : H' = upd (upd H1' st (.dK (stV n c g.s many kl' bd hl))) st (.dK (stV n c' g.s many kl' bd hl))) : Kx [p, lg, g.l, hl, st] H H' ∧ I11 K CH CL H' p dx lg st kl' bd hl n c' many (g.heard a m) (insA (posM m g.ms) a2 as) hs (k + 1) := by
  have I1 := I.same s1
  have hl1 := I1.D.L.hl
  have hp1 := I1.D.hp
  have up : ∀ b o, b ≠ g.l → b ≠ p → H1 b = some o → H2 b = some o := fun b o n1 n2 e => by rw [e2]; exact keep_ne (keep_ne e n1) n2
  have ngl : ∀ b o, H1 b = some o → (∀ xs, o ≠ .lst xs) → b ≠ g.l := fun b o e w z => by rw [z, hl1] at e; exact w _ (Option.some.inj e).symm
  have np : ∀ b o, H1 b = some o → (∀ C d f, o ≠ .ins C d f) → b ≠ p := fun b o e w z => by rw [z, hp1] at e; exact w _ _ _ (Option.some.inj e).symm
  have st2 := s3 _ _ (up _ _ (ngl _ _ I1.est fun xs z => by cases z) (np _ _ I1.est fun _ _ _ z => by cases z) I1.est)
  have kp : ∀ b o, b ≠ st → H1' b = some o → H' b = some o := fun b o nb e => by rw [e3]; exact keep_ne (keep_ne e nb) nb
  have nst : ∀ b o, H1' b = some o → (∀ k, o ≠ .dK k) → b ≠ st := fun b o e w z => by rw [z, st2] at e; exact w _ (Option.some.inj e).symm
  have tp : ∀ b vs, H1 b = some (.tup vs) → H1' b = some (.tup vs) := fun b vs e => s3 _ _ (up _ _ (ngl _ _ e fun xs z => by cases z) (np _ _ e fun _ _ _ z => by cases z) e)
  have b2 := s3 _ _ (up _ _ (ngl _ _ I1.eb fun xs z => by cases z) (np _ _ I1.eb fun _ _ _ z => by cases z) I1.eb)
  have h2 := s3 _ _ (up _ _ I.x1.symm (np _ _ I1.eh fun _ _ _ z => by cases z) I1.eh)
  have nks : kl' ≠ st := fun z => by rw [z, st2] at ek; cases ek
  have nkh : kl' ≠ hl := fun z => by
    have w := up _ _ I.x1.symm (np _ _ I1.eh fun _ _ _ z => by cases z) I1.eh
    rw [← z, fk] at w
    cases w
  have nlk : g.l ≠ kl' := fun z => by
    have w : H2 g.l = some (.lst ((g.heard a m).as.map V.ref)) := D2.L.hl
    rw [z, fk] at w
    cases w
  have D3 := D2.same s3
  have kx : Kx [p, lg, g.l, hl, st] H H' := by
    rw [e3]
    refine Kx.mut (by simp) (Kx.mut (by simp) (Kx.trans (Kx.trans (Kx.of s1) ?_) (Kx.of s3)))
    rw [e2]
    exact Kx.mut (by simp) (Kx.mut (by simp) Kx.refl)
  refine ⟨kx, ⟨⟨kp _ _ (nst _ _ D3.hp fun k z => by cases z) D3.hp, ⟨kp _ _ (nst _ _ D3.L.hp fun k z => by cases z) D3.L.hp, kp _ _ I.x5 D3.L.hb, kp _ _ (nst _ _ D3.L.hl fun k z => by cases z) D3.L.hl, D3.L.hm.of (fun b vs e => kp _ _ (nst _ _ e fun k z => by cases z) e)⟩, D3.ne⟩, I.S.ins hm.2, fun x hx => ?_, I.ac, I.nd, by rw [e3]; exact upd_same, kp _ _ I.x4 b2, kp _ _ nks ek, ?_, kp _ _ (nst _ _ h2 fun k z => by cases z) h2, I.hd.keep kx, fun x hx => ?_, ?_, I.s0, ?_, I.n0, I.n1, ?_, by have := I.hn; omega, I.x1, nlk, nkh, I.x4, I.x5⟩⟩
  · rcases mem_insM.mp hx with z | z
    · exact z ▸ ok
    · exact I.ok x z
  · exact ((I1.km.ins e1 _).of fun b vs e => kp _ _ (nst _ _ (tp _ _ e) fun k z => by cases z) (tp _ _ e))
  · rcases mem_insM.mp hx with z | z
    · rw [z]; exact hc.2
    · have := I.le x z
      omega
  · have := I.sc
    show g.s ≤ c' + 1
    omega
  · have := I.c0
    omega
  · have := I.tl
    show g.t.length + (insA (posM m g.ms) a g.as).length ≤ k + 1
    rw [insA_length]
    omega
end Tm
namespace Tm
open PySem PySem.Spec PyProof.Rows L2
section
variable {CH CL N T X : Addr} {H : Hp} {p dx lg : Addr} {n c : Int} {g : Lg} {Q : VK} {E : XK}
theorem c_heardHBad {x : V} (A : ApartE N T X) (D : HandAt CH CL H p dx n c lg g) (S : Srt g.ms) (hl : g.as.length ≤ 100000) (hx : BadMv H x) (h : Q (.str "no move") H) : spHeardH CH CL N T X [.ref p, x] H Q E :=
  ⟨p, dx, n, c, lg, g, x, rfl, D, S, hl, .inl ⟨hx, fun _ => h, fun e => (A.nt (Value.ref.inj e)).elim, fun e => (A.nx (Value.ref.inj e)).elim⟩⟩
theorem c_heardH {a : Addr} {m : Mv} (A : ApartE N T X) (D : HandAt CH CL H p dx n c lg g) (S : Srt g.ms) (hl : g.as.length ≤ 100000) (hx : H a = some (.tup m.vs)) (ok : m.Ok) (h1 : m.t < g.s → Q (.str "too late") H) (h2 : g.s ≤ m.t → ClashM m g.ms → Q (.str "clash") H)
    (h3 : g.s ≤ m.t → m ∈ g.ms → Q (.bl false) (upd H p (.ins CH dx (hdF n (max c m.t) lg)))) (h4 : g.s ≤ m.t → NewM m g.ms → Q (.bl true) (upd (upd H g.l (.lst ((g.heard a m).as.map V.ref))) p (.ins CH dx (hdF n (max c m.t) lg)))) : spHeardH CH CL N T X [.ref p, .ref a] H Q E :=
  ⟨p, dx, n, c, lg, g, _, rfl, D, S, hl, .inr ⟨a, m, rfl, hx, ok, fun c => ⟨fun e => (A.nt (Value.ref.inj e).symm).elim, fun _ => h1 c, fun e => (A.tx (Value.ref.inj e)).elim⟩, fun c d => ⟨fun e => (A.nx (Value.ref.inj e).symm).elim, fun e => (A.tx (Value.ref.inj e).symm).elim, fun _ => h2 c d⟩, h3, h4⟩⟩
end
def spOther (K : PySem.W.Frag) (CH CL : Addr) : Sp := fun vs H Q _ => ∃ (p dx lg st kl bd hl : Addr) (n c many : Int) (g : Lg) (as hs : List Addr) (k : Nat) (pick cell : Int), vs = [.ref p, .ref st, .int pick, .int cell] ∧ I11 K CH CL H p dx lg st kl bd hl n c many g as hs k ∧ k ≤ 1000 ∧ n + 2 ≤ E60 ∧ 0 ≤ pick ∧
  ∀ H' kl' c' g' as', Kx [p, lg, g.l, hl, st] H H' → I11 K CH CL H' p dx lg st kl' bd hl n c' many g' as' hs (k + 1) → g'.l = g.l → Q (.bl true) H'
theorem same_upd {H : Hp} {p : Addr} {o : HO} (h : H p = some o) : Same H (upd H p o) := fun b u e => by
  by_cases z : b = p
  · rw [z, h] at e
    rw [z, upd_same]
    exact e
  · exact keep_ne e z
end Tm
namespace Tm
open PySem PySem.Spec PyProof.Rows L2
/-! a class made in a try; isinstance of the kept error, many classes -/
section
variable {X : Cx} {CX : CXT} {k : Nat} {f C : Addr} {fd : FuncData} {ps : List Str} {sp : Sp} {E : L2.St → XK} {x : Str} {p pos : Pos} {e : Expr} {es : List Expr} {t : TA}
theorem run_makeS {pins : List (Addr × Obj)} {σ : L2.St} {H : Hp} {s : Shared} {Q : VK} {E : XK} {us : List Value} {vs : List V} (M : Mk X.K C f) (F : FnOk X.prog X.w X.K X.mg X.base CX k f fd ps sp) (hr : Room (k + 1) X.A) (hb : Binds X.K fd ps [])
    (hx : PassesAt CX X σ E) (I : Inv X pins σ H s) (r : Vals vs us)
    (h : ∀ x dx, H x = none → H dx = none → dx ≠ x → sp (.ref x :: vs) (upd (upd H dx (.own x)) x (.ins C dx [])) (fun v H2 => v = .non ∧ Q (.ref x) H2) E) :
    wpAny (model X.prog X.w) X.A (call (.ref C) us) (EP X pins σ Q) X.xe s := by
  have hq := h (s.heap.objs.size + 1) s.heap.objs.size (I.hok.fresh (Nat.le_succ _)) (I.hok.fresh (Nat.le_refl _)) (Nat.ne_of_lt (Nat.lt_succ_self _))
  have I2 := Inv.made (C := C) I
  have r2 : Vals (V.ref (s.heap.objs.size + 1) :: vs) (Value.ref (s.heap.objs.size + 1) :: us) := .cons rfl r
  have hl : (Value.ref (s.heap.objs.size + 1) :: us ++ []).length = ps.length := by
    have e := r2.length
    rw [F.len _ _ _ _ hq] at e
    rw [List.append_nil]
    exact e.symm
  have hr2 : Vals (V.ref (s.heap.objs.size + 1) :: vs) (Value.ref (s.heap.objs.size + 1) :: us ++ []) := by
    rw [List.append_nil]
    exact r2
  refine wpAny_call (make_map (f := f) I.kIn M.makes M.init (beq_iff_eq.mp M.fn) (codeAny_mono (F.run _ X.stack _ _ ⟨Value.ref (s.heap.objs.size + 1) :: us, []⟩ (Value.ref (s.heap.objs.size + 1) :: us ++ []) _ _ E (hr.make C us [])
    (I2.env0.make C us []) (hb _ (Value.ref (s.heap.objs.size + 1) :: us) I2.kIn hl) hr2 hq) fun r s' hq' => ?_))
  cases r with
  | error e => exact hx pins _ _ e s' I2 hq'
  | ok fl =>
    cases fl with
    | ret u =>
      obtain ⟨v, H', I3, rv, ev, q3⟩ := I2.after hq'
      subst ev
      exact ⟨rv, ⟨V.ref (s.heap.objs.size + 1), H', I3, rfl, q3⟩⟩
    | next => exact False.elim hq'
    | brk => exact False.elim hq'
    | cont => exact False.elim hq'
theorem pe_makeS (M : Mk X.K C f) (F : FnOk X.prog X.w X.K X.mg X.base CX k f fd ps sp) (hr : Room (k + 1) X.A) (hg : Gl X x) (hm : X.mg x = some (.ref C)) (hb : Binds X.K fd ps []) (hx : ∀ σ, PassesAt CX X σ (E σ))
    (ha : PA X (e :: es) t) (hdb : (x == ("__debug__" : Str)) = false := by decide) (he : starEach (e :: es) X.env = (false, eval e X.env) :: starEach es X.env := by rfl) (hpl : (backTo pos (starEach es X.env)).any (·.1) = false := by rfl) :
    PE X (.Call (.Name x p) (e :: es) [] pos) (tMakeS C sp E t) := by
  refine ⟨fun pins s σ H Q I h => ?_⟩
  refine wpAny_Call_Name_kw (ld_glob I hg hm ?_ hdb)
  refine PySem.W.callWith_K (h₀ := X.base) I.ok.mod.kin M.kp (thn (ha.run pos pins s σ H _ I h) fun us s1 ⟨vs, H1, I1, r, q⟩ => ⟨I1.kIn, ?_⟩) he hpl
  exact run_makeS M F hr hb (hx σ) I1 r q
end
instance {C : Addr} {sp : Sp} {E : L2.St → XK} {t : TA} {σ : L2.St} {H : Hp} {Q : VK} : Step (tMakeS C sp E t σ H Q) (t σ H fun vs H1 => ∀ x dx, H1 x = none → H1 dx = none → dx ≠ x → sp (.ref x :: vs) (upd (upd H1 dx (.own x)) x (.ins C dx [])) (fun v H2 => v = .non ∧ Q (.ref x) H2) (E σ)) := ⟨fun h => h⟩
def rIsETQ (K : PySem.W.Frag) (a : Addr) (cls : Value) (d : Option Addr) : List V → Hp → VK → Prop := fun xs H Q => ∃ (D tp : Addr) (cs : List V) (us : List Value) (b : Bool), cls = .ref D ∧ d = none ∧ ExcC K D ∧ xs = [.ref a, .ref tp] ∧ H tp = some (.tup cs) ∧ Paired ClsV cs us ∧ PySem.W.kitAny K (.ref D) us = some b ∧ Q (.bl b) H
theorem call_isETQ {X : Cx} {a : Addr} {oe : Obj} {pn : List (Addr × Obj)} {cls : Value} {d : Option Addr} (hz : Zc cls d oe) (hf : ∃ vs, oe.data = .fields vs) : CallR (X.suite a ((a, oe) :: pn)) (.builtin "isinstance") (rIsETQ X.K a cls d) := by
  intro pins s σ H xs us Q I r h
  obtain ⟨D, tp, cs, ws, b, rfl, rfl, C, rfl, hT, k, e, q⟩ := h
  obtain ⟨u1, u2, rfl, r1, r2⟩ := vals2 r
  cases (show u1 = Value.ref a from r1)
  cases (show u2 = Value.ref tp from r2)
  obtain ⟨hget, _⟩ := I.pin (a, oe) (List.mem_append.mpr (.inl List.mem_cons_self))
  obtain ⟨vs, hv⟩ := hf
  have J : PySem.W.InstAt s.heap a oe D none := by
    obtain ⟨oc, od, oda, osl⟩ := oe
    obtain ⟨h1, h2⟩ := hz
    dsimp only at h1 h2 hv
    subst h1 h2 hv
    exact ⟨hget, rfl, rfl, trivial⟩
  obtain ⟨_, its, rv, o, h1, h2, n, h3⟩ := (show ObjOk X.prog X.w H s.heap tp (.tup cs) from I.hok tp _ hT)
  have e3 := ClsV.all k rv
  subst e3
  obtain ⟨oc, od, dt, sl⟩ := o
  simp only at h2 h3
  subst h2 h3
  exact PySem.W.kia_tup (PySem.W.handS_kitx_exc C.hg C.hk C.hs C.hd C.ha C.hn C.ht C.hm) I.kIn J h1 e (fun z => nomatch z) fun tk => ⟨.bl b, H, I.kept (t' := tk) fun _ _ z => z, rfl, q⟩
theorem r_isET3 {K : PySem.W.Frag} {a D tp c1 c2 c3 : Addr} {H : Hp} {Q : VK} (hC : ExcC K D) (ht : H tp = some (.tup [.ref c1, .ref c2, .ref c3])) (h1 : PySem.W.kitOne K (.ref D) (.ref c1) = some false) (h2 : PySem.W.kitOne K (.ref D) (.ref c2) = some false) (h3 : PySem.W.kitOne K (.ref D) (.ref c3) = some false) (h : Q (.bl false) H) : rIsETQ K a (.ref D) none [.ref a, .ref tp] H Q :=
  ⟨D, tp, _, _, false, rfl, rfl, hC, rfl, ht, .cons (.own c1) (.cons (.own c2) (.cons (.own c3) .nil)), kitAny_cons h1 (fun _ => kitAny_cons h2 (fun _ => kitAny_cons h3 (fun _ => kitAny_nil) (fun z => by cases z)) (fun z => by cases z)) (fun z => by cases z), h⟩
end Tm
namespace Tm
open PySem PySem.Spec PyProof.Rows L2
def spNoHand : Sp := fun vs H Q _ => ∃ cell : Int, vs = [.int cell] ∧ ∀ H', Q (.bl true) H'
theorem no_hands {i : Int} (h0 : 0 ≤ i) (h : i < 5) : ∃ x, atI [V.int (-1), .int (E60 + 1), .bl true, .non, .str "0"] i = some x ∧ isW x 0 = false ∧ ∀ H, KnownV H x := by
  have e : i = 0 ∨ i = 1 ∨ i = 2 ∨ i = 3 ∨ i = 4 := by omega
  rcases e with e | e | e | e | e <;> subst e <;> refine ⟨_, rfl, ?_, fun H => trivial⟩ <;> simp [isW, E60]
end Tm
namespace Tm
open PySem PySem.Spec PyProof.Rows L2
section
variable {n many : Int} {k b h : Addr}
def st5 (n many : Int) (k : Addr) : List (Key × V) := [(Sum.inr "number", .int n), (Sum.inr "clock", .int 0), (Sum.inr "since", .int 0), (Sum.inr "many", .int many), (Sum.inr "kept", .ref k)]
theorem st_disp : mergeK [] (st5 n many k) = st5 n many k := by first | rfl | simp [st5, mergeK, putK]
theorem st_disp2 : putK (putK (st5 n many k) (Sum.inr ("base" : Str)) (V.ref b)) (Sum.inr ("held" : Str)) (V.ref h) = stV n 0 0 many k b h := by first | rfl | simp [st5, stV, putK]
theorem st5_len : (st5 n many k).length < sizeLine := lt_line (by show 5 ≤ 1000000; omega)
theorem st6_len : (putK (st5 n many k) (Sum.inr ("base" : Str)) (V.ref b)).length < sizeLine := by
  have e : putK (st5 n many k) (Sum.inr ("base" : Str)) (V.ref b) = st5 n many k ++ [((Sum.inr ("base" : Str) : Key), V.ref b)] := by first | rfl | simp [st5, putK]
  rw [e]
  exact lt_line (by show 6 ≤ 1000000; omega)
theorem st5_map : [(V.str "number", V.int n), (V.str "clock", V.int 0), (V.str "since", V.int 0), (V.str "many", V.int many), (V.str "kept", V.ref k)] = (st5 n many k).map (fun kv => (kV kv.1, kv.2)) := by first | rfl | simp [st5, kV]
end
theorem num_ok (s : Int) : 0 ≤ s % 3 * (s / 3 % 100000000000000000000000000000000000000000000000000000000000) ∧ s % 3 * (s / 3 % 100000000000000000000000000000000000000000000000000000000000) + 2 ≤ E60 := by
  have e : s % 3 = 0 ∨ s % 3 = 1 ∨ s % 3 = 2 := by omega
  have z1 := Int.emod_nonneg (s / 3) (show (100000000000000000000000000000000000000000000000000000000000 : Int) ≠ 0 by decide)
  have z2 := Int.emod_lt_of_pos (s / 3) (show (0 : Int) < 100000000000000000000000000000000000000000000000000000000000 by decide)
  generalize s / 3 % 100000000000000000000000000000000000000000000000000000000000 = y at *
  rcases e with e | e | e <;> rw [e] <;> simp only [E60] <;> omega
theorem isW_ok {n : Int} (h0 : 0 ≤ n) (h1 : n ≤ E60) : isW (.int n) 0 = true := by
  simp [isW]
  exact ⟨h0, h1⟩
end Tm
local macro_rules | `(tactic| os_names t_isi) => `(tactic| ((with_reducible show L2.rIsi _ _ _ _); first
  | ((with_reducible refine' Tm.isi_list_int ?h ?_); (case h => os_names t_hp))
  | ((with_reducible refine' Tm.isi_list_bool ?h ?_); (case h => os_names t_hp))
  | ((with_reducible refine' Tm.isi_list_str ?h ?_); (case h => os_names t_hp))
  | ((with_reducible refine' Tm.isi_list_list ?h ?_); (case h => os_names t_hp))
  | ((with_reducible refine' Tm.isi_list_tuple ?h ?_); (case h => os_names t_hp))
  | ((with_reducible refine' Tm.isi_list_dict ?h ?_); (case h => os_names t_hp))
  | ((with_reducible refine' Tm.isi_tuple_int ?h ?_); (case h => os_names t_hp))
  | ((with_reducible refine' Tm.isi_tuple_bool ?h ?_); (case h => os_names t_hp))
  | ((with_reducible refine' Tm.isi_tuple_str ?h ?_); (case h => os_names t_hp))
  | ((with_reducible refine' Tm.isi_tuple_list ?h ?_); (case h => os_names t_hp))
  | ((with_reducible refine' Tm.isi_tuple_tuple ?h ?_); (case h => os_names t_hp))
  | ((with_reducible refine' Tm.isi_tuple_dict ?h ?_); (case h => os_names t_hp))
  | ((with_reducible refine' Tm.isi_dict_int ?h ?_); (case h => os_names t_hp))
  | ((with_reducible refine' Tm.isi_dict_bool ?h ?_); (case h => os_names t_hp))
  | ((with_reducible refine' Tm.isi_dict_str ?h ?_); (case h => os_names t_hp))
  | ((with_reducible refine' Tm.isi_dict_list ?h ?_); (case h => os_names t_hp))
  | ((with_reducible refine' Tm.isi_dict_tuple ?h ?_); (case h => os_names t_hp))
  | ((with_reducible refine' Tm.isi_dict_dict ?h ?_); (case h => os_names t_hp))
  | fail "no isinstance"))
/-- what stands at an address -/
local macro_rules | `(tactic| os_names t_hp) => `(tactic| first
  | with_reducible assumption | with_reducible exact L2.upd_same | ((with_reducible (show L2.upd _ _ _ _ = _)); first | exact Tm.keepR (by with_reducible assumption) (by os_names t_hp) | exact Tm.keep_neR (by os_names t_ne) (by os_names t_hp)) | exact Tm.same_at (by with_reducible assumption) (by os_names t_hp) | exact L2.upd_same | fail "not in the heap")
local macro_rules | `(tactic| os_names t_sql) => `(tactic| first
  | with_reducible assumption | exact L2.SqL.of (by os_names t_hp) | ((with_reducible (show L2.SqL _ (L2.upd _ _ _) _ _)); exact Tm.sql_keepR (by with_reducible assumption) (by os_names t_sql)) | exact Tm.sql_same (by with_reducible assumption) (by os_names t_sql) | fail "no list")
local macro_rules | `(tactic| os_names t_sqt) => `(tactic| first
  | with_reducible assumption | exact L2.SqT.of (by os_names t_hp) | ((with_reducible (show L2.SqT _ (L2.upd _ _ _) _ _)); exact Tm.sqt_keepR (by with_reducible assumption) (by os_names t_sqt)) | exact Tm.sqt_same (by with_reducible assumption) (by os_names t_sqt) | fail "no tuple")
local macro_rules | `(tactic| os_names t_at) => `(tactic| first
  | assumption | rfl | fail "no item")
local macro_rules | `(tactic| os_names t_pos) => `(tactic| first
  | decide | omega | exact Int.emod_nonneg _ (by omega) | fail "not above 0")
/-- one step of a reading: "s"; steps as far as they go: "go"; with both ways of an open test: "all" -/
local macro_rules | `(tactic| os_names t_s) => `(tactic| first
  | with_reducible refine Tm.Step.imp ?_
  | (with_reducible refine Tm.s_var (by with_unfolding_all rfl) ?_)
  | os_names t_sA | os_names t_sB | os_names t_sC | os_names t_sD | os_names t_sE | os_names t_sF | os_names t_isi | os_names t_u | fail "no step")
local macro_rules | `(tactic| os_names t_sA) => `(tactic| ((with_reducible (show L2.rI _ _ _ _ _ _)); first
  | ((with_reducible refine' Tm.r_mod ?c ?_); (case c => os_names t_pos)) | ((with_reducible refine' Tm.r_div ?c ?_); (case c => os_names t_pos)) | ((with_reducible refine' Tm.r_mul ?c ?_); (case c => os_names t_pos)) | fail "no int"))
local macro_rules | `(tactic| os_names t_sB) => `(tactic| first
  | ((with_reducible refine Tm.r_new ?l ?_); (case l => exact of_decide_eq_true rfl); intro p0 h0; (change Tm.Fresh _ _ at h0))
  | ((with_reducible refine' Tm.r_ixT ?h ?i ?_); (case h => os_names t_sqt); (case i => os_names t_at)) | ((with_reducible refine' Tm.r_ixL ?h ?i ?_); (case h => os_names t_sql); (case i => os_names t_at))
  | ((with_reducible refine' Tm.r_lenL ?h ?_); (case h => os_names t_sql)) | ((with_reducible refine' Tm.r_lenT ?h ?_); (case h => os_names t_sqt))
  | ((with_reducible refine' Tm.r_tyL ?h ?_); (case h => os_names t_hp))
  | ((with_reducible refine' Tm.r_append ?h ?l ?_); (case h => os_names t_hp); (case l => exact Tm.lt_line (by first | omega | (simp only [List.length_append, List.length_map, List.length_cons, List.length_nil]; omega))))
  | ((with_reducible refine' Tm.r_tupL ?h ?_); (case h => os_names t_sql); intro p0 h0; (change Tm.Fresh _ _ at h0))
  | ((with_reducible refine' Tm.r_slT ?h ?l ?_); (case h => os_names t_sqt); (case l => decide); intro p0 h0; (change Tm.Fresh _ _ at h0))
  | fail "no step")
local macro_rules | `(tactic| os_names t_sC) => `(tactic| first
  | ((with_reducible refine Tm.s_dNew ?_); intro p0 h0; (change Tm.Fresh _ _ at h0))
  | ((with_reducible refine' Tm.r_lenD ?h ?_); (case h => os_names t_hp))
  | ((with_reducible refine' Tm.r_lenDR ?h ?_); (case h => assumption))
  | ((with_reducible refine' Tm.r_dInR ?h ?_); (case h => assumption))
  | ((with_reducible refine' Tm.r_dNotInR ?h ?_); (case h => assumption))
  | ((with_reducible refine' Tm.r_dict ?h ?_); (case h => os_names t_hp); intro p0 h0; (change Tm.Fresh _ _ at h0))
  | ((with_reducible refine' Tm.r_dIn ?h ?_); (case h => os_names t_hp)) | ((with_reducible refine' Tm.r_dNotIn ?h ?_); (case h => os_names t_hp))
  | ((with_reducible refine' Tm.r_dPutI ?h ?l ?_); (case h => os_names t_hp); (case l => first | assumption | omega))
  | ((with_reducible refine' Tm.r_dPut ?h ?l ?_); (case h => os_names t_hp); (case l => os_names t_dlen))
  | fail "no step")
local macro_rules | `(tactic| os_names t_sD) => `(tactic| first
  | ((with_reducible refine' Tm.r_list ?h ?_); (case h => os_names t_sql); intro p0 h0; (change Tm.Fresh _ _ at h0))
  | ((with_reducible refine' Tm.r_slI ?h ?_); (case h => os_names t_sql); intro p0 h0; (change Tm.Fresh _ _ at h0))
  | ((with_reducible refine' Tm.r_slL ?h ?_); (case h => os_names t_sql); intro p0 h0; (change Tm.Fresh _ _ at h0))
  | ((with_reducible refine' Tm.r_inI ?h ?_); (case h => os_names t_sql)) | ((with_reducible refine' Tm.r_ninI ?h ?_); (case h => os_names t_sql))
  | fail "no step")
local macro_rules | `(tactic| os_names t_slen) => `(tactic| first | assumption | omega | (simp only [Tm.len_app, Tm.len_blank, Tm.len_one, Tm.len_zero]; omega) | decide | fail "a text's length")
local macro_rules | `(tactic| os_names t_sE) => `(tactic| first
  | ((with_reducible refine Tm.r_lenS ?l ?_); (case l => os_names t_slen))
  | ((with_reducible refine Tm.r_addS ?l ?_); (case l => os_names t_slen))
  | ((with_reducible refine' Tm.r_ixS ?l ?i ?_); (case l => os_names t_slen); (case i => os_names t_at))
  | ((with_reducible refine Tm.r_slS ?l ?_); (case l => os_names t_slen))
  | ((with_reducible refine Tm.r_split ?b ?l ?_); (case b => decide +kernel); (case l => os_names t_slen); intro p0 h0; (change Tm.Fresh _ _ at h0))
  | fail "no step")
/-- the law's state -/
local macro_rules | `(tactic| os_names t_st0) => `(tactic| first | exact Tm.st_number | exact Tm.st_clock | exact Tm.st_since | exact Tm.st_many | exact Tm.st_kept | exact Tm.st_base | exact Tm.st_held | fail "no state")
/-- logs -/
local macro_rules | `(tactic| os_names t_lk) => `(tactic| first | exact Tm.lk_since | exact Tm.lk_base | exact Tm.lk_kept | exact Tm.lk_number | exact Tm.lk_clock | exact Tm.lk_log | fail "no field")
local macro_rules | `(tactic| os_names t_no) => `(tactic| first | exact Tm.no_hear | exact Tm.no_place | exact Tm.no_moves | exact Tm.no_tree | exact Tm.no_steps | exact Tm.no_settle | exact Tm.noh_move | exact Tm.noh_hear | exact Tm.noh_tree | exact Tm.noh_settle | fail "no method")
local macro_rules | `(tactic| os_names t_sF) => `(tactic| first
  | ((with_reducible refine' Tm.r_dGetS ?h ?v ?_); (case h => os_names t_hp); (case v => os_names t_st0))
  | ((with_reducible refine' Tm.r_fld ?h ?c ?n ?l ?_); (case h => os_names t_hp); (case c => assumption); (case n => assumption); (case l => os_names t_lk))
  | ((with_reducible refine' Tm.r_meth ?h ?l ?_); (case h => os_names t_hp); (case l => os_names t_no))
  | ((with_reducible refine' Tm.r_methS ?h ?l ?_); (case h => os_names t_hp); (case l => os_names t_no))
  | fail "no field")
/-- calls of the laws' common defs -/
local macro_rules | `(tactic| os_names t_c1) => `(tactic| first
  | ((with_reducible refine' Tm.c_cell ?h ?k ?_); (case h => os_names t_sql); (case k => os_names t_pos))
  | with_reducible refine Tm.c_whole1 ?_
  | with_reducible refine Tm.c_gap ?_
  | ((with_reducible refine Tm.c_far ?_); intro _ _)
  | ((with_reducible refine Tm.c_name ?k ?l ?_); (case k => os_names t_pos); (case l => os_names t_pos); intro _ _)
  | ((with_reducible refine Tm.c_pick ?k ?l ?m ?_); (case k => os_names t_pos); (case l => os_names t_pos); (case m => os_names t_pos); intro _ _)
  | ((with_reducible refine' Tm.c_way ?h ?k ?l ?_); (case h => os_names t_hp); (case k => assumption); (case l => first | assumption | omega); intro p0 h0; (change Tm.Fresh _ _ at h0))
  | ((with_reducible refine' Tm.c_tree ?h ?k ?_); (case h => os_names t_sql); (case k => os_names t_pos); intro d0 H0 h0 _ _; (change Tm.Fresh _ _ at h0))
  | ((with_reducible refine' Tm.c_numbers ?h ?k ?l ?_); (case h => os_names t_hp); (case k => os_names t_hp); (case l => first | assumption | exact (by assumption : ∀ f, (Tm.way _ f).length ≤ 100000) _ | omega))
  | ((with_reducible refine' Tm.c_below ?h ?k ?l ?_); (case h => os_names t_hp); (case k => assumption); (case l => first | assumption | omega); intro _ _)
  | ((with_reducible refine' Tm.c_closes ?h ?k ?l ?_); (case h => os_names t_hp); (case k => assumption); (case l => first | assumption | omega); intro _ _)
  | ((with_reducible refine' Tm.c_put ?h ?k ?l ?_); (case h => os_names t_hp); (case k => assumption); (case l => first | assumption | omega); intro d0 H0 h0 _ _; (change Tm.Fresh _ _ at h0))
  | fail "no call of these")
/-- further steps of a law's own -/
local macro_rules | `(tactic| os_names t_u) => `(tactic| os_names t_c1)
local macro_rules | `(tactic| os_names t_go) => `(tactic| repeat' (os_names t_s))
local macro_rules | `(tactic| os_names t_all) => `(tactic| repeat' (first | os_names t_s | os_names t_v | os_names t_sp | fail "no step"))
/-- what a test's two ways know -/
local macro_rules | `(tactic| os_names t_sp) => `(tactic| first
  | with_reducible refine Tm.ite_dn (fun _ => ?_) (fun _ => ?_)
  | with_reducible refine Tm.ite_d (fun _ => ?_) (fun _ => ?_) | with_reducible refine Tm.ite_b (fun _ => ?_) (fun _ => ?_) | fail "no test")
local macro_rules | `(tactic| os_names t_st) => `(tactic| try simp only [Tm.cxK])
/-- values whose making branches -/
local macro_rules | `(tactic| os_names t_v) => `(tactic| first
  | with_reducible refine Tm.s_andV ?_ | with_reducible refine Tm.s_orV ?_ | with_reducible refine Tm.s_if ?_ | with_reducible refine Tm.s_chain ?_ | fail "no value")
/-- a test that what is known decides -/
local macro_rules | `(tactic| os_names t_fact) => `(tactic| first | with_reducible assumption | with_reducible rfl | omega | fail "not known")
local macro_rules | `(tactic| os_names t_ff) => `(tactic| first | with_reducible rfl | with_reducible assumption | ((with_reducible refine Tm.nd_f ?_); os_names t_fact) | ((with_reducible refine Tm.d_f ?_); os_names t_fact) | rfl | fail "not false")
local macro_rules | `(tactic| os_names t_tt) => `(tactic| first | with_reducible rfl | with_reducible assumption | ((with_reducible refine Tm.d_t ?_); os_names t_fact) | ((with_reducible refine Tm.nd_t ?_); os_names t_fact) | rfl | fail "not true")
local macro_rules | `(tactic| os_names t_if) => `(tactic| first
  | ((with_reducible refine Tm.no ?c ?_); (case c => os_names t_ff)) | ((with_reducible refine Tm.yes ?c ?_); (case c => os_names t_tt)) | fail "not decided")
local macro_rules | `(tactic| os_names t_goi) => `(tactic| repeat' (first | os_names t_s | os_names t_if | fail "no step"))
local macro_rules | `(tactic| os_names t_dlen) => `(tactic| exact Tm.lt_line (by first | (rw [Tm.enc_length]; omega) | omega))
/-- what was tracked stands -/
local macro_rules | `(tactic| os_names t_sm) => `(tactic| first
  | exact L2.Same.refl _ | with_reducible assumption | exact Tm.sm_new (by with_reducible assumption) (by os_names t_sm) | exact Tm.sm_mut (by os_names t_fr) (by os_names t_sm) | exact Tm.sm_trans (by with_reducible assumption) (by os_names t_sm) | fail "not the same")
local macro_rules | `(tactic| os_names t_fr) => `(tactic| first
  | with_reducible assumption | exact Tm.Fresh.back (by with_reducible assumption) (by os_names t_sm) | fail "not new")
local macro_rules | `(tactic| os_names t_ne) => `(tactic| first
  | with_reducible assumption | exact Ne.symm (by with_reducible assumption) | exact Tm.ne_new (by with_reducible assumption) (by os_names t_hp) | exact Tm.ne_new' (by with_reducible assumption) (by os_names t_hp) | fail "not known to differ")

namespace Tm
open PySem PySem.Spec PyProof.Rows L2 TL
/-! the text by its places -/
def top (i : Nat) : Stmt := PySem.Challenge.pw_treemove_k11_hand_and_clock.main.body.getD i (.Pass ⟨0, 0, 0, 0⟩)
abbrev s_whole : Stmt := top 7
abbrev s_is_move : Stmt := top 8
abbrev s_ahead : Stmt := top 9
abbrev s_way_up : Stmt := top 11
abbrev s_closes : Stmt := top 12
abbrev s_put : Stmt := top 13
abbrev s_Log_init : Stmt := inClass (top 15) 0
abbrev s_Log_place_of : Stmt := inClass (top 15) 1
abbrev s_Log_hear : Stmt := inClass (top 15) 2
abbrev s_Log_moves : Stmt := inClass (top 15) 3
abbrev s_Log_tree : Stmt := inClass (top 15) 4
abbrev s_Log_steps : Stmt := inClass (top 15) 5
abbrev s_Log_settle : Stmt := inClass (top 15) 6
abbrev s_Hand_init : Stmt := inClass (top 17) 0
abbrev s_Hand_move : Stmt := inClass (top 17) 1
abbrev s_Hand_hear : Stmt := inClass (top 17) 2
abbrev s_Hand_tree : Stmt := inClass (top 17) 3
abbrev s_Hand_settle : Stmt := inClass (top 17) 4
abbrev s__law_whole : Stmt := top 19
abbrev s__law_cell_at : Stmt := top 20
abbrev s__law_name : Stmt := top 21
abbrev s__law_same_tree : Stmt := top 22
abbrev s__law_same_move : Stmt := top 23
abbrev s__law_same_moves : Stmt := top 24
abbrev s__law_told : Stmt := top 25
abbrev s__law_deeds : Stmt := top 26
abbrev s__law_clash : Stmt := top 27
abbrev s__law_heard : Stmt := top 28
abbrev s__law_answer : Stmt := top 29
abbrev s__law_way : Stmt := top 30
abbrev s__law_fold : Stmt := top 31
abbrev s__law_steps_of : Stmt := top 32
abbrev s__law_same_steps : Stmt := top 33
abbrev s__law_steps_asked : Stmt := top 34
abbrev s__law_no_hand : Stmt := top 35
abbrev s__law_own : Stmt := top 36
abbrev s__law_other : Stmt := top 37
abbrev s__law_settled : Stmt := top 38
abbrev s__law_as_told : Stmt := top 39
abbrev s_law : Stmt := top 40
abbrev n_whole : List Str := ["thing", "least"]
theorem sc_whole : FnScope ["thing", "least"] ["thing", "least"] (defScope s_whole) := ⟨rfl, rfl, rfl, by decide +kernel, rfl, by decide +kernel, by decide +kernel⟩
abbrev n_is_move : List Str := ["thing"]
theorem sc_is_move : FnScope ["thing"] ["thing"] (defScope s_is_move) := ⟨rfl, rfl, rfl, by decide +kernel, rfl, by decide +kernel, by decide +kernel⟩
abbrev n_ahead : List Str := ["one", "other"]
theorem sc_ahead : FnScope ["one", "other"] ["one", "other"] (defScope s_ahead) := ⟨rfl, rfl, rfl, by decide +kernel, rfl, by decide +kernel, by decide +kernel⟩
abbrev n_way_up : List Str := ["tree", "folder", "way"]
theorem sc_way_up : FnScope ["tree", "folder", "way"] ["tree", "folder"] (defScope s_way_up) := ⟨rfl, rfl, rfl, by decide +kernel, rfl, by decide +kernel, by decide +kernel⟩
abbrev n_closes : List Str := ["tree", "folder", "under"]
theorem sc_closes : FnScope ["tree", "folder", "under"] ["tree", "folder", "under"] (defScope s_closes) := ⟨rfl, rfl, rfl, by decide +kernel, rfl, by decide +kernel, by decide +kernel⟩
abbrev n_put : List Str := ["tree", "folder", "under", "found"]
theorem sc_put : FnScope ["tree", "folder", "under", "found"] ["tree", "folder", "under"] (defScope s_put) := ⟨rfl, rfl, rfl, by decide +kernel, rfl, by decide +kernel, by decide +kernel⟩
abbrev n_Log_init : List Str := ["self"]
theorem sc_Log_init : FnScope ["self"] ["self"] (defScope s_Log_init) := ⟨rfl, rfl, rfl, by decide +kernel, rfl, by decide +kernel, by decide +kernel⟩
abbrev n_Log_place_of : List Str := ["self", "move", "at"]
theorem sc_Log_place_of : FnScope ["self", "move", "at"] ["self", "move"] (defScope s_Log_place_of) := ⟨rfl, rfl, rfl, by decide +kernel, rfl, by decide +kernel, by decide +kernel⟩
abbrev n_Log_hear : List Str := ["self", "move", "at"]
theorem sc_Log_hear : FnScope ["self", "move", "at"] ["self", "move"] (defScope s_Log_hear) := ⟨rfl, rfl, rfl, by decide +kernel, rfl, by decide +kernel, by decide +kernel⟩
abbrev n_Log_moves : List Str := ["self"]
theorem sc_Log_moves : FnScope ["self"] ["self"] (defScope s_Log_moves) := ⟨rfl, rfl, rfl, by decide +kernel, rfl, by decide +kernel, by decide +kernel⟩
abbrev n_Log_tree : List Str := ["self", "found", "move"]
theorem sc_Log_tree : FnScope ["self", "found", "move"] ["self"] (defScope s_Log_tree) := ⟨rfl, rfl, rfl, by decide +kernel, rfl, by decide +kernel, by decide +kernel⟩
abbrev n_Log_steps : List Str := ["self", "found", "tree", "move", "way"]
theorem sc_Log_steps : FnScope ["self", "found", "tree", "move", "way"] ["self"] (defScope s_Log_steps) := ⟨rfl, rfl, rfl, by decide +kernel, rfl, by decide +kernel, by decide +kernel⟩
abbrev n_Log_settle : List Str := ["self", "time", "many"]
theorem sc_Log_settle : FnScope ["self", "time", "many"] ["self", "time"] (defScope s_Log_settle) := ⟨rfl, rfl, rfl, by decide +kernel, rfl, by decide +kernel, by decide +kernel⟩
abbrev n_Hand_init : List Str := ["self", "number"]
theorem sc_Hand_init : FnScope ["self", "number"] ["self", "number"] (defScope s_Hand_init) := ⟨rfl, rfl, rfl, by decide +kernel, rfl, by decide +kernel, by decide +kernel⟩
abbrev n_Hand_move : List Str := ["self", "folder", "under", "made"]
theorem sc_Hand_move : FnScope ["self", "folder", "under", "made"] ["self", "folder", "under"] (defScope s_Hand_move) := ⟨rfl, rfl, rfl, by decide +kernel, rfl, by decide +kernel, by decide +kernel⟩
abbrev n_Hand_hear : List Str := ["self", "move", "new"]
theorem sc_Hand_hear : FnScope ["self", "move", "new"] ["self", "move"] (defScope s_Hand_hear) := ⟨rfl, rfl, rfl, by decide +kernel, rfl, by decide +kernel, by decide +kernel⟩
abbrev n_Hand_tree : List Str := ["self"]
theorem sc_Hand_tree : FnScope ["self"] ["self"] (defScope s_Hand_tree) := ⟨rfl, rfl, rfl, by decide +kernel, rfl, by decide +kernel, by decide +kernel⟩
abbrev n_Hand_settle : List Str := ["self", "time", "many"]
theorem sc_Hand_settle : FnScope ["self", "time", "many"] ["self", "time"] (defScope s_Hand_settle) := ⟨rfl, rfl, rfl, by decide +kernel, rfl, by decide +kernel, by decide +kernel⟩
abbrev n__law_whole : List Str := ["_law_found"]
theorem sc__law_whole : FnScope ["_law_found"] ["_law_found"] (defScope s__law_whole) := ⟨rfl, rfl, rfl, by decide +kernel, rfl, by decide +kernel, by decide +kernel⟩
abbrev n__law_cell_at : List Str := ["_law_script", "_law_k"]
theorem sc__law_cell_at : FnScope ["_law_script", "_law_k"] ["_law_script", "_law_k"] (defScope s__law_cell_at) := ⟨rfl, rfl, rfl, by decide +kernel, rfl, by decide +kernel, by decide +kernel⟩
abbrev n__law_name : List Str := ["_law_k", "_law_cell", "_law_some"]
theorem sc__law_name : FnScope ["_law_k", "_law_cell", "_law_some"] ["_law_k", "_law_cell"] (defScope s__law_name) := ⟨rfl, rfl, rfl, by decide +kernel, rfl, by decide +kernel, by decide +kernel⟩
abbrev n__law_same_tree : List Str := ["_law_found", "_law_due", "_law_folder"]
theorem sc__law_same_tree : FnScope ["_law_found", "_law_due", "_law_folder"] ["_law_found", "_law_due"] (defScope s__law_same_tree) := ⟨rfl, rfl, rfl, by decide +kernel, rfl, by decide +kernel, by decide +kernel⟩
abbrev n__law_same_move : List Str := ["_law_found", "_law_due", "_law_k"]
theorem sc__law_same_move : FnScope ["_law_found", "_law_due", "_law_k"] ["_law_found", "_law_due"] (defScope s__law_same_move) := ⟨rfl, rfl, rfl, by decide +kernel, rfl, by decide +kernel, by decide +kernel⟩
abbrev n__law_same_moves : List Str := ["_law_found", "_law_due", "_law_k"]
theorem sc__law_same_moves : FnScope ["_law_found", "_law_due", "_law_k"] ["_law_found", "_law_due"] (defScope s__law_same_moves) := ⟨rfl, rfl, rfl, by decide +kernel, rfl, by decide +kernel, by decide +kernel⟩
abbrev n__law_told : List Str := ["_law_moves", "_law_move", "_law_at"]
theorem sc__law_told : FnScope ["_law_moves", "_law_move", "_law_at"] ["_law_moves", "_law_move"] (defScope s__law_told) := ⟨rfl, rfl, rfl, by decide +kernel, rfl, by decide +kernel, by decide +kernel⟩
abbrev n__law_deeds : List Str := ["_law_script", "_law_few", "_law_many", "_law_count", "_law_k"]
theorem sc__law_deeds : FnScope ["_law_script", "_law_few", "_law_many", "_law_count", "_law_k"] ["_law_script", "_law_few", "_law_many"] (defScope s__law_deeds) := ⟨rfl, rfl, rfl, by decide +kernel, rfl, by decide +kernel, by decide +kernel⟩
abbrev n__law_clash : List Str := ["_law_moves", "_law_move", "_law_one"]
theorem sc__law_clash : FnScope ["_law_moves", "_law_move", "_law_one"] ["_law_moves", "_law_move"] (defScope s__law_clash) := ⟨rfl, rfl, rfl, by decide +kernel, rfl, by decide +kernel, by decide +kernel⟩
abbrev n__law_heard : List Str := ["_law_log", "_law_move"]
theorem sc__law_heard : FnScope ["_law_log", "_law_move"] ["_law_log", "_law_move"] (defScope s__law_heard) := ⟨rfl, rfl, rfl, by decide +kernel, rfl, by decide +kernel, by decide +kernel⟩
abbrev n__law_answer : List Str := ["_law_found", "_law_due"]
theorem sc__law_answer : FnScope ["_law_found", "_law_due"] ["_law_found", "_law_due"] (defScope s__law_answer) := ⟨rfl, rfl, rfl, by decide +kernel, rfl, by decide +kernel, by decide +kernel⟩
abbrev n__law_way : List Str := ["_law_tree", "_law_folder", "_law_way_here"]
theorem sc__law_way : FnScope ["_law_tree", "_law_folder", "_law_way_here"] ["_law_tree", "_law_folder"] (defScope s__law_way) := ⟨rfl, rfl, rfl, by decide +kernel, rfl, by decide +kernel, by decide +kernel⟩
abbrev n__law_fold : List Str := ["_law_tree", "_law_moves", "_law_found", "_law_move"]
theorem sc__law_fold : FnScope ["_law_tree", "_law_moves", "_law_found", "_law_move"] ["_law_tree", "_law_moves"] (defScope s__law_fold) := ⟨rfl, rfl, rfl, by decide +kernel, rfl, by decide +kernel, by decide +kernel⟩
abbrev n__law_steps_of : List Str := ["_law_base", "_law_moves", "_law_tree", "_law_steps", "_law_move", "_law_way_here"]
theorem sc__law_steps_of : FnScope ["_law_base", "_law_moves", "_law_tree", "_law_steps", "_law_move", "_law_way_here"] ["_law_base", "_law_moves"] (defScope s__law_steps_of) := ⟨rfl, rfl, rfl, by decide +kernel, rfl, by decide +kernel, by decide +kernel⟩
abbrev n__law_same_steps : List Str := ["_law_found", "_law_due", "_law_k", "_law_one"]
theorem sc__law_same_steps : FnScope ["_law_found", "_law_due", "_law_k", "_law_one"] ["_law_found", "_law_due"] (defScope s__law_same_steps) := ⟨rfl, rfl, rfl, by decide +kernel, rfl, by decide +kernel, by decide +kernel⟩
abbrev n__law_steps_asked : List Str := ["_law_log", "_law_base", "_law_moves", "_law_held", "_law_found", "_law_row"]
theorem sc__law_steps_asked : FnScope ["_law_log", "_law_base", "_law_moves", "_law_held", "_law_found", "_law_row"] ["_law_log", "_law_base", "_law_moves", "_law_held"] (defScope s__law_steps_asked) := ⟨rfl, rfl, rfl, by decide +kernel, rfl, by decide +kernel, by decide +kernel⟩
abbrev n__law_no_hand : List Str := ["_law_cell", "e"]
theorem sc__law_no_hand : FnScope ["_law_cell", "e"] ["_law_cell"] (defScope s__law_no_hand) := ⟨rfl, rfl, rfl, by decide +kernel, rfl, by decide +kernel, by decide +kernel⟩
abbrev n__law_own : List Str := ["_law_hand", "_law_state", "_law_pick", "_law_cell", "_law_folder", "_law_under", "_law_due", "_law_found"]
theorem sc__law_own : FnScope ["_law_hand", "_law_state", "_law_pick", "_law_cell", "_law_folder", "_law_under", "_law_due", "_law_found"] ["_law_hand", "_law_state", "_law_pick", "_law_cell"] (defScope s__law_own) := ⟨rfl, rfl, rfl, by decide +kernel, rfl, by decide +kernel, by decide +kernel⟩
abbrev n__law_other : List Str := ["_law_hand", "_law_state", "_law_pick", "_law_cell", "_law_kept", "_law_time", "_law_move", "_law_due", "_law_some"]
theorem sc__law_other : FnScope ["_law_hand", "_law_state", "_law_pick", "_law_cell", "_law_kept", "_law_time", "_law_move", "_law_due", "_law_some"] ["_law_hand", "_law_state", "_law_pick", "_law_cell"] (defScope s__law_other) := ⟨rfl, rfl, rfl, by decide +kernel, rfl, by decide +kernel, by decide +kernel⟩
abbrev n__law_settled : List Str := ["_law_hand", "_law_state", "_law_pick", "_law_great", "_law_time", "_law_gone", "_law_told_here", "_law_one"]
theorem sc__law_settled : FnScope ["_law_hand", "_law_state", "_law_pick", "_law_great", "_law_time", "_law_gone", "_law_told_here", "_law_one"] ["_law_hand", "_law_state", "_law_pick", "_law_great"] (defScope s__law_settled) := ⟨rfl, rfl, rfl, by decide +kernel, rfl, by decide +kernel, by decide +kernel⟩
abbrev n__law_as_told : List Str := ["_law_hand", "_law_state", "_law_due", "_law_trees", "_law_found"]
theorem sc__law_as_told : FnScope ["_law_hand", "_law_state", "_law_due", "_law_trees", "_law_found"] ["_law_hand", "_law_state"] (defScope s__law_as_told) := ⟨rfl, rfl, rfl, by decide +kernel, rfl, by decide +kernel, by decide +kernel⟩
abbrev n_law : List Str := ["_law_script", "_law_cell", "_law_number", "_law_state", "_law_hand", "_law_deed", "_law_good", "_law_pair"]
theorem sc_law : FnScope ["_law_script", "_law_cell", "_law_number", "_law_state", "_law_hand", "_law_deed", "_law_good", "_law_pair"] ["_law_script"] (defScope s_law) := ⟨rfl, rfl, rfl, by decide +kernel, rfl, by decide +kernel, by decide +kernel⟩
/-- where the top has put its defs and classes -/
structure Ad where
  f_whole : Addr
  d_whole : FuncData
  f_is_move : Addr
  d_is_move : FuncData
  f_ahead : Addr
  d_ahead : FuncData
  f_way_up : Addr
  d_way_up : FuncData
  f_closes : Addr
  d_closes : FuncData
  f_put : Addr
  d_put : FuncData
  f_Log_init : Addr
  d_Log_init : FuncData
  f_Log_place_of : Addr
  d_Log_place_of : FuncData
  f_Log_hear : Addr
  d_Log_hear : FuncData
  f_Log_moves : Addr
  d_Log_moves : FuncData
  f_Log_tree : Addr
  d_Log_tree : FuncData
  f_Log_steps : Addr
  d_Log_steps : FuncData
  f_Log_settle : Addr
  d_Log_settle : FuncData
  f_Hand_init : Addr
  d_Hand_init : FuncData
  f_Hand_move : Addr
  d_Hand_move : FuncData
  f_Hand_hear : Addr
  d_Hand_hear : FuncData
  f_Hand_tree : Addr
  d_Hand_tree : FuncData
  f_Hand_settle : Addr
  d_Hand_settle : FuncData
  f__law_whole : Addr
  d__law_whole : FuncData
  f__law_cell_at : Addr
  d__law_cell_at : FuncData
  f__law_name : Addr
  d__law_name : FuncData
  f__law_same_tree : Addr
  d__law_same_tree : FuncData
  f__law_same_move : Addr
  d__law_same_move : FuncData
  f__law_same_moves : Addr
  d__law_same_moves : FuncData
  f__law_told : Addr
  d__law_told : FuncData
  f__law_deeds : Addr
  d__law_deeds : FuncData
  f__law_clash : Addr
  d__law_clash : FuncData
  f__law_heard : Addr
  d__law_heard : FuncData
  f__law_answer : Addr
  d__law_answer : FuncData
  f__law_way : Addr
  d__law_way : FuncData
  f__law_fold : Addr
  d__law_fold : FuncData
  f__law_steps_of : Addr
  d__law_steps_of : FuncData
  f__law_same_steps : Addr
  d__law_same_steps : FuncData
  f__law_steps_asked : Addr
  d__law_steps_asked : FuncData
  f__law_no_hand : Addr
  d__law_no_hand : FuncData
  f__law_own : Addr
  d__law_own : FuncData
  f__law_other : Addr
  d__law_other : FuncData
  f__law_settled : Addr
  d__law_settled : FuncData
  f__law_as_told : Addr
  d__law_as_told : FuncData
  f_law : Addr
  d_law : FuncData
  c_Log : Addr
  c_Hand : Addr
  c_TreeError : Addr
  c_NoMove : Addr
  c_TooLate : Addr
  c_Clash : Addr
  c_NoHand : Addr
/-- what the top has left -/
structure Txt (K : PySem.W.Frag) (mg : Str → Option Value) (a : Ad) : Prop where
  F_whole : Fun K "whole" "whole" s_whole a.f_whole a.d_whole
  b_whole : Binds K a.d_whole ["thing", "least"] []
  g_whole : mg "whole" = some (.ref a.f_whole)
  k_whole : PySem.W.keepIn K (.ref a.f_whole) = true
  F_is_move : Fun K "is_move" "is_move" s_is_move a.f_is_move a.d_is_move
  b_is_move : Binds K a.d_is_move ["thing"] []
  g_is_move : mg "is_move" = some (.ref a.f_is_move)
  k_is_move : PySem.W.keepIn K (.ref a.f_is_move) = true
  F_ahead : Fun K "ahead" "ahead" s_ahead a.f_ahead a.d_ahead
  b_ahead : Binds K a.d_ahead ["one", "other"] []
  g_ahead : mg "ahead" = some (.ref a.f_ahead)
  k_ahead : PySem.W.keepIn K (.ref a.f_ahead) = true
  F_way_up : Fun K "way_up" "way_up" s_way_up a.f_way_up a.d_way_up
  b_way_up : Binds K a.d_way_up ["tree", "folder"] []
  g_way_up : mg "way_up" = some (.ref a.f_way_up)
  k_way_up : PySem.W.keepIn K (.ref a.f_way_up) = true
  F_closes : Fun K "closes" "closes" s_closes a.f_closes a.d_closes
  b_closes : Binds K a.d_closes ["tree", "folder", "under"] []
  g_closes : mg "closes" = some (.ref a.f_closes)
  k_closes : PySem.W.keepIn K (.ref a.f_closes) = true
  F_put : Fun K "put" "put" s_put a.f_put a.d_put
  b_put : Binds K a.d_put ["tree", "folder", "under"] []
  g_put : mg "put" = some (.ref a.f_put)
  k_put : PySem.W.keepIn K (.ref a.f_put) = true
  F_Log_init : Fun K "__init__" "Log.__init__" s_Log_init a.f_Log_init a.d_Log_init
  b_Log_init : Binds K a.d_Log_init ["self"] []
  F_Log_place_of : Fun K "place_of" "Log.place_of" s_Log_place_of a.f_Log_place_of a.d_Log_place_of
  b_Log_place_of : Binds K a.d_Log_place_of ["self", "move"] []
  mt_Log_place_of : Meth K a.c_Log "place_of" a.f_Log_place_of
  F_Log_hear : Fun K "hear" "Log.hear" s_Log_hear a.f_Log_hear a.d_Log_hear
  b_Log_hear : Binds K a.d_Log_hear ["self", "move"] []
  mt_Log_hear : Meth K a.c_Log "hear" a.f_Log_hear
  F_Log_moves : Fun K "moves" "Log.moves" s_Log_moves a.f_Log_moves a.d_Log_moves
  b_Log_moves : Binds K a.d_Log_moves ["self"] []
  mt_Log_moves : Meth K a.c_Log "moves" a.f_Log_moves
  F_Log_tree : Fun K "tree" "Log.tree" s_Log_tree a.f_Log_tree a.d_Log_tree
  b_Log_tree : Binds K a.d_Log_tree ["self"] []
  mt_Log_tree : Meth K a.c_Log "tree" a.f_Log_tree
  F_Log_steps : Fun K "steps" "Log.steps" s_Log_steps a.f_Log_steps a.d_Log_steps
  b_Log_steps : Binds K a.d_Log_steps ["self"] []
  mt_Log_steps : Meth K a.c_Log "steps" a.f_Log_steps
  F_Log_settle : Fun K "settle" "Log.settle" s_Log_settle a.f_Log_settle a.d_Log_settle
  b_Log_settle : Binds K a.d_Log_settle ["self", "time"] []
  mt_Log_settle : Meth K a.c_Log "settle" a.f_Log_settle
  F_Hand_init : Fun K "__init__" "Hand.__init__" s_Hand_init a.f_Hand_init a.d_Hand_init
  b_Hand_init : Binds K a.d_Hand_init ["self", "number"] []
  F_Hand_move : Fun K "move" "Hand.move" s_Hand_move a.f_Hand_move a.d_Hand_move
  b_Hand_move : Binds K a.d_Hand_move ["self", "folder", "under"] []
  mt_Hand_move : Meth K a.c_Hand "move" a.f_Hand_move
  F_Hand_hear : Fun K "hear" "Hand.hear" s_Hand_hear a.f_Hand_hear a.d_Hand_hear
  b_Hand_hear : Binds K a.d_Hand_hear ["self", "move"] []
  mt_Hand_hear : Meth K a.c_Hand "hear" a.f_Hand_hear
  F_Hand_tree : Fun K "tree" "Hand.tree" s_Hand_tree a.f_Hand_tree a.d_Hand_tree
  b_Hand_tree : Binds K a.d_Hand_tree ["self"] []
  mt_Hand_tree : Meth K a.c_Hand "tree" a.f_Hand_tree
  F_Hand_settle : Fun K "settle" "Hand.settle" s_Hand_settle a.f_Hand_settle a.d_Hand_settle
  b_Hand_settle : Binds K a.d_Hand_settle ["self", "time"] []
  mt_Hand_settle : Meth K a.c_Hand "settle" a.f_Hand_settle
  F__law_whole : Fun K "_law_whole" "_law_whole" s__law_whole a.f__law_whole a.d__law_whole
  b__law_whole : Binds K a.d__law_whole ["_law_found"] []
  g__law_whole : mg "_law_whole" = some (.ref a.f__law_whole)
  k__law_whole : PySem.W.keepIn K (.ref a.f__law_whole) = true
  F__law_cell_at : Fun K "_law_cell_at" "_law_cell_at" s__law_cell_at a.f__law_cell_at a.d__law_cell_at
  b__law_cell_at : Binds K a.d__law_cell_at ["_law_script", "_law_k"] []
  g__law_cell_at : mg "_law_cell_at" = some (.ref a.f__law_cell_at)
  k__law_cell_at : PySem.W.keepIn K (.ref a.f__law_cell_at) = true
  F__law_name : Fun K "_law_name" "_law_name" s__law_name a.f__law_name a.d__law_name
  b__law_name : Binds K a.d__law_name ["_law_k", "_law_cell"] []
  g__law_name : mg "_law_name" = some (.ref a.f__law_name)
  k__law_name : PySem.W.keepIn K (.ref a.f__law_name) = true
  F__law_same_tree : Fun K "_law_same_tree" "_law_same_tree" s__law_same_tree a.f__law_same_tree a.d__law_same_tree
  b__law_same_tree : Binds K a.d__law_same_tree ["_law_found", "_law_due"] []
  g__law_same_tree : mg "_law_same_tree" = some (.ref a.f__law_same_tree)
  k__law_same_tree : PySem.W.keepIn K (.ref a.f__law_same_tree) = true
  F__law_same_move : Fun K "_law_same_move" "_law_same_move" s__law_same_move a.f__law_same_move a.d__law_same_move
  b__law_same_move : Binds K a.d__law_same_move ["_law_found", "_law_due"] []
  g__law_same_move : mg "_law_same_move" = some (.ref a.f__law_same_move)
  k__law_same_move : PySem.W.keepIn K (.ref a.f__law_same_move) = true
  F__law_same_moves : Fun K "_law_same_moves" "_law_same_moves" s__law_same_moves a.f__law_same_moves a.d__law_same_moves
  b__law_same_moves : Binds K a.d__law_same_moves ["_law_found", "_law_due"] []
  g__law_same_moves : mg "_law_same_moves" = some (.ref a.f__law_same_moves)
  k__law_same_moves : PySem.W.keepIn K (.ref a.f__law_same_moves) = true
  F__law_told : Fun K "_law_told" "_law_told" s__law_told a.f__law_told a.d__law_told
  b__law_told : Binds K a.d__law_told ["_law_moves", "_law_move"] []
  g__law_told : mg "_law_told" = some (.ref a.f__law_told)
  k__law_told : PySem.W.keepIn K (.ref a.f__law_told) = true
  F__law_deeds : Fun K "_law_deeds" "_law_deeds" s__law_deeds a.f__law_deeds a.d__law_deeds
  b__law_deeds : Binds K a.d__law_deeds ["_law_script", "_law_few", "_law_many"] []
  g__law_deeds : mg "_law_deeds" = some (.ref a.f__law_deeds)
  k__law_deeds : PySem.W.keepIn K (.ref a.f__law_deeds) = true
  F__law_clash : Fun K "_law_clash" "_law_clash" s__law_clash a.f__law_clash a.d__law_clash
  b__law_clash : Binds K a.d__law_clash ["_law_moves", "_law_move"] []
  g__law_clash : mg "_law_clash" = some (.ref a.f__law_clash)
  k__law_clash : PySem.W.keepIn K (.ref a.f__law_clash) = true
  F__law_heard : Fun K "_law_heard" "_law_heard" s__law_heard a.f__law_heard a.d__law_heard
  b__law_heard : Binds K a.d__law_heard ["_law_log", "_law_move"] []
  g__law_heard : mg "_law_heard" = some (.ref a.f__law_heard)
  k__law_heard : PySem.W.keepIn K (.ref a.f__law_heard) = true
  F__law_answer : Fun K "_law_answer" "_law_answer" s__law_answer a.f__law_answer a.d__law_answer
  b__law_answer : Binds K a.d__law_answer ["_law_found", "_law_due"] []
  g__law_answer : mg "_law_answer" = some (.ref a.f__law_answer)
  k__law_answer : PySem.W.keepIn K (.ref a.f__law_answer) = true
  F__law_way : Fun K "_law_way" "_law_way" s__law_way a.f__law_way a.d__law_way
  b__law_way : Binds K a.d__law_way ["_law_tree", "_law_folder"] []
  g__law_way : mg "_law_way" = some (.ref a.f__law_way)
  k__law_way : PySem.W.keepIn K (.ref a.f__law_way) = true
  F__law_fold : Fun K "_law_fold" "_law_fold" s__law_fold a.f__law_fold a.d__law_fold
  b__law_fold : Binds K a.d__law_fold ["_law_tree", "_law_moves"] []
  g__law_fold : mg "_law_fold" = some (.ref a.f__law_fold)
  k__law_fold : PySem.W.keepIn K (.ref a.f__law_fold) = true
  F__law_steps_of : Fun K "_law_steps_of" "_law_steps_of" s__law_steps_of a.f__law_steps_of a.d__law_steps_of
  b__law_steps_of : Binds K a.d__law_steps_of ["_law_base", "_law_moves"] []
  g__law_steps_of : mg "_law_steps_of" = some (.ref a.f__law_steps_of)
  k__law_steps_of : PySem.W.keepIn K (.ref a.f__law_steps_of) = true
  F__law_same_steps : Fun K "_law_same_steps" "_law_same_steps" s__law_same_steps a.f__law_same_steps a.d__law_same_steps
  b__law_same_steps : Binds K a.d__law_same_steps ["_law_found", "_law_due"] []
  g__law_same_steps : mg "_law_same_steps" = some (.ref a.f__law_same_steps)
  k__law_same_steps : PySem.W.keepIn K (.ref a.f__law_same_steps) = true
  F__law_steps_asked : Fun K "_law_steps_asked" "_law_steps_asked" s__law_steps_asked a.f__law_steps_asked a.d__law_steps_asked
  b__law_steps_asked : Binds K a.d__law_steps_asked ["_law_log", "_law_base", "_law_moves", "_law_held"] []
  g__law_steps_asked : mg "_law_steps_asked" = some (.ref a.f__law_steps_asked)
  k__law_steps_asked : PySem.W.keepIn K (.ref a.f__law_steps_asked) = true
  F__law_no_hand : Fun K "_law_no_hand" "_law_no_hand" s__law_no_hand a.f__law_no_hand a.d__law_no_hand
  b__law_no_hand : Binds K a.d__law_no_hand ["_law_cell"] []
  g__law_no_hand : mg "_law_no_hand" = some (.ref a.f__law_no_hand)
  k__law_no_hand : PySem.W.keepIn K (.ref a.f__law_no_hand) = true
  F__law_own : Fun K "_law_own" "_law_own" s__law_own a.f__law_own a.d__law_own
  b__law_own : Binds K a.d__law_own ["_law_hand", "_law_state", "_law_pick", "_law_cell"] []
  g__law_own : mg "_law_own" = some (.ref a.f__law_own)
  k__law_own : PySem.W.keepIn K (.ref a.f__law_own) = true
  F__law_other : Fun K "_law_other" "_law_other" s__law_other a.f__law_other a.d__law_other
  b__law_other : Binds K a.d__law_other ["_law_hand", "_law_state", "_law_pick", "_law_cell"] []
  g__law_other : mg "_law_other" = some (.ref a.f__law_other)
  k__law_other : PySem.W.keepIn K (.ref a.f__law_other) = true
  F__law_settled : Fun K "_law_settled" "_law_settled" s__law_settled a.f__law_settled a.d__law_settled
  b__law_settled : Binds K a.d__law_settled ["_law_hand", "_law_state", "_law_pick", "_law_great"] []
  g__law_settled : mg "_law_settled" = some (.ref a.f__law_settled)
  k__law_settled : PySem.W.keepIn K (.ref a.f__law_settled) = true
  F__law_as_told : Fun K "_law_as_told" "_law_as_told" s__law_as_told a.f__law_as_told a.d__law_as_told
  b__law_as_told : Binds K a.d__law_as_told ["_law_hand", "_law_state"] []
  g__law_as_told : mg "_law_as_told" = some (.ref a.f__law_as_told)
  k__law_as_told : PySem.W.keepIn K (.ref a.f__law_as_told) = true
  F_law : Fun K "law" "law" s_law a.f_law a.d_law
  b_law : Binds K a.d_law ["_law_script"] []
  g_law : mg "law" = some (.ref a.f_law)
  k_law : PySem.W.keepIn K (.ref a.f_law) = true
  cl_Log : Cls K a.c_Log
  g_Log : mg "Log" = some (.ref a.c_Log)
  m_Log : Mk K a.c_Log a.f_Log_init
  na_Log_since : NoAttr K a.c_Log "since"
  na_Log_base : NoAttr K a.c_Log "base"
  na_Log_kept : NoAttr K a.c_Log "kept"
  cl_Hand : Cls K a.c_Hand
  g_Hand : mg "Hand" = some (.ref a.c_Hand)
  m_Hand : Mk K a.c_Hand a.f_Hand_init
  na_Hand_number : NoAttr K a.c_Hand "number"
  na_Hand_clock : NoAttr K a.c_Hand "clock"
  na_Hand_log : NoAttr K a.c_Hand "log"
  g_TreeError : mg "TreeError" = some (.ref a.c_TreeError)
  x_TreeError : PySem.W.excIn K a.c_TreeError [.type "ValueError", .type "Exception", .type "BaseException", .type "object"] "ValueError.__new__" = true
  ke_TreeError : PySem.W.keepIn K (.ref a.c_TreeError) = true
  be_TreeError : PySem.W.subIn K (.ref a.c_TreeError) (.type "BaseException") = some true
  te_TreeError : PySem.W.typeIn K (.ref a.c_TreeError) = some (.type "type")
  g_NoMove : mg "NoMove" = some (.ref a.c_NoMove)
  x_NoMove : PySem.W.excIn K a.c_NoMove [.type "ValueError", .type "Exception", .type "BaseException", .type "object"] "ValueError.__new__" = true
  ke_NoMove : PySem.W.keepIn K (.ref a.c_NoMove) = true
  be_NoMove : PySem.W.subIn K (.ref a.c_NoMove) (.type "BaseException") = some true
  te_NoMove : PySem.W.typeIn K (.ref a.c_NoMove) = some (.type "type")
  g_TooLate : mg "TooLate" = some (.ref a.c_TooLate)
  x_TooLate : PySem.W.excIn K a.c_TooLate [.type "ValueError", .type "Exception", .type "BaseException", .type "object"] "ValueError.__new__" = true
  ke_TooLate : PySem.W.keepIn K (.ref a.c_TooLate) = true
  be_TooLate : PySem.W.subIn K (.ref a.c_TooLate) (.type "BaseException") = some true
  te_TooLate : PySem.W.typeIn K (.ref a.c_TooLate) = some (.type "type")
  g_Clash : mg "Clash" = some (.ref a.c_Clash)
  x_Clash : PySem.W.excIn K a.c_Clash [.type "ValueError", .type "Exception", .type "BaseException", .type "object"] "ValueError.__new__" = true
  ke_Clash : PySem.W.keepIn K (.ref a.c_Clash) = true
  be_Clash : PySem.W.subIn K (.ref a.c_Clash) (.type "BaseException") = some true
  te_Clash : PySem.W.typeIn K (.ref a.c_Clash) = some (.type "type")
  g_NoHand : mg "NoHand" = some (.ref a.c_NoHand)
  x_NoHand : PySem.W.excIn K a.c_NoHand [.type "ValueError", .type "Exception", .type "BaseException", .type "object"] "ValueError.__new__" = true
  ke_NoHand : PySem.W.keepIn K (.ref a.c_NoHand) = true
  be_NoHand : PySem.W.subIn K (.ref a.c_NoHand) (.type "BaseException") = some true
  te_NoHand : PySem.W.typeIn K (.ref a.c_NoHand) = some (.type "type")
  ec_TreeError : ExcC K a.c_TreeError
  kv_TreeError : PySem.W.kitOne K (.ref a.c_TreeError) (.type "ValueError") = some true
  ki_TreeError_TreeError : PySem.W.kitOne K (.ref a.c_TreeError) (.ref a.c_TreeError) = some true
  ki_TreeError_NoMove : PySem.W.kitOne K (.ref a.c_TreeError) (.ref a.c_NoMove) = some false
  ki_TreeError_TooLate : PySem.W.kitOne K (.ref a.c_TreeError) (.ref a.c_TooLate) = some false
  ki_TreeError_Clash : PySem.W.kitOne K (.ref a.c_TreeError) (.ref a.c_Clash) = some false
  ki_TreeError_NoHand : PySem.W.kitOne K (.ref a.c_TreeError) (.ref a.c_NoHand) = some false
  ec_NoMove : ExcC K a.c_NoMove
  kv_NoMove : PySem.W.kitOne K (.ref a.c_NoMove) (.type "ValueError") = some true
  ki_NoMove_TreeError : PySem.W.kitOne K (.ref a.c_NoMove) (.ref a.c_TreeError) = some true
  ki_NoMove_NoMove : PySem.W.kitOne K (.ref a.c_NoMove) (.ref a.c_NoMove) = some true
  ki_NoMove_TooLate : PySem.W.kitOne K (.ref a.c_NoMove) (.ref a.c_TooLate) = some false
  ki_NoMove_Clash : PySem.W.kitOne K (.ref a.c_NoMove) (.ref a.c_Clash) = some false
  ki_NoMove_NoHand : PySem.W.kitOne K (.ref a.c_NoMove) (.ref a.c_NoHand) = some false
  ec_TooLate : ExcC K a.c_TooLate
  kv_TooLate : PySem.W.kitOne K (.ref a.c_TooLate) (.type "ValueError") = some true
  ki_TooLate_TreeError : PySem.W.kitOne K (.ref a.c_TooLate) (.ref a.c_TreeError) = some true
  ki_TooLate_NoMove : PySem.W.kitOne K (.ref a.c_TooLate) (.ref a.c_NoMove) = some false
  ki_TooLate_TooLate : PySem.W.kitOne K (.ref a.c_TooLate) (.ref a.c_TooLate) = some true
  ki_TooLate_Clash : PySem.W.kitOne K (.ref a.c_TooLate) (.ref a.c_Clash) = some false
  ki_TooLate_NoHand : PySem.W.kitOne K (.ref a.c_TooLate) (.ref a.c_NoHand) = some false
  ec_Clash : ExcC K a.c_Clash
  kv_Clash : PySem.W.kitOne K (.ref a.c_Clash) (.type "ValueError") = some true
  ki_Clash_TreeError : PySem.W.kitOne K (.ref a.c_Clash) (.ref a.c_TreeError) = some true
  ki_Clash_NoMove : PySem.W.kitOne K (.ref a.c_Clash) (.ref a.c_NoMove) = some false
  ki_Clash_TooLate : PySem.W.kitOne K (.ref a.c_Clash) (.ref a.c_TooLate) = some false
  ki_Clash_Clash : PySem.W.kitOne K (.ref a.c_Clash) (.ref a.c_Clash) = some true
  ki_Clash_NoHand : PySem.W.kitOne K (.ref a.c_Clash) (.ref a.c_NoHand) = some false
  ec_NoHand : ExcC K a.c_NoHand
  kv_NoHand : PySem.W.kitOne K (.ref a.c_NoHand) (.type "ValueError") = some true
  ki_NoHand_TreeError : PySem.W.kitOne K (.ref a.c_NoHand) (.ref a.c_TreeError) = some true
  ki_NoHand_NoMove : PySem.W.kitOne K (.ref a.c_NoHand) (.ref a.c_NoMove) = some false
  ki_NoHand_TooLate : PySem.W.kitOne K (.ref a.c_NoHand) (.ref a.c_TooLate) = some false
  ki_NoHand_Clash : PySem.W.kitOne K (.ref a.c_NoHand) (.ref a.c_Clash) = some false
  ki_NoHand_NoHand : PySem.W.kitOne K (.ref a.c_NoHand) (.ref a.c_NoHand) = some true
  ex_TreeError_TreeError : PySem.W.exmOne K (.ref a.c_TreeError) (.ref a.c_TreeError) = some true
  ex_TreeError_NoMove : PySem.W.exmOne K (.ref a.c_TreeError) (.ref a.c_NoMove) = some false
  ex_TreeError_TooLate : PySem.W.exmOne K (.ref a.c_TreeError) (.ref a.c_TooLate) = some false
  ex_TreeError_Clash : PySem.W.exmOne K (.ref a.c_TreeError) (.ref a.c_Clash) = some false
  ex_TreeError_NoHand : PySem.W.exmOne K (.ref a.c_TreeError) (.ref a.c_NoHand) = some false
  ex_NoMove_TreeError : PySem.W.exmOne K (.ref a.c_NoMove) (.ref a.c_TreeError) = some true
  ex_NoMove_NoMove : PySem.W.exmOne K (.ref a.c_NoMove) (.ref a.c_NoMove) = some true
  ex_NoMove_TooLate : PySem.W.exmOne K (.ref a.c_NoMove) (.ref a.c_TooLate) = some false
  ex_NoMove_Clash : PySem.W.exmOne K (.ref a.c_NoMove) (.ref a.c_Clash) = some false
  ex_NoMove_NoHand : PySem.W.exmOne K (.ref a.c_NoMove) (.ref a.c_NoHand) = some false
  ex_TooLate_TreeError : PySem.W.exmOne K (.ref a.c_TooLate) (.ref a.c_TreeError) = some true
  ex_TooLate_NoMove : PySem.W.exmOne K (.ref a.c_TooLate) (.ref a.c_NoMove) = some false
  ex_TooLate_TooLate : PySem.W.exmOne K (.ref a.c_TooLate) (.ref a.c_TooLate) = some true
  ex_TooLate_Clash : PySem.W.exmOne K (.ref a.c_TooLate) (.ref a.c_Clash) = some false
  ex_TooLate_NoHand : PySem.W.exmOne K (.ref a.c_TooLate) (.ref a.c_NoHand) = some false
  ex_Clash_TreeError : PySem.W.exmOne K (.ref a.c_Clash) (.ref a.c_TreeError) = some true
  ex_Clash_NoMove : PySem.W.exmOne K (.ref a.c_Clash) (.ref a.c_NoMove) = some false
  ex_Clash_TooLate : PySem.W.exmOne K (.ref a.c_Clash) (.ref a.c_TooLate) = some false
  ex_Clash_Clash : PySem.W.exmOne K (.ref a.c_Clash) (.ref a.c_Clash) = some true
  ex_Clash_NoHand : PySem.W.exmOne K (.ref a.c_Clash) (.ref a.c_NoHand) = some false
  ex_NoHand_TreeError : PySem.W.exmOne K (.ref a.c_NoHand) (.ref a.c_TreeError) = some true
  ex_NoHand_NoMove : PySem.W.exmOne K (.ref a.c_NoHand) (.ref a.c_NoMove) = some false
  ex_NoHand_TooLate : PySem.W.exmOne K (.ref a.c_NoHand) (.ref a.c_TooLate) = some false
  ex_NoHand_Clash : PySem.W.exmOne K (.ref a.c_NoHand) (.ref a.c_Clash) = some false
  ex_NoHand_NoHand : PySem.W.exmOne K (.ref a.c_NoHand) (.ref a.c_NoHand) = some true
  n_len : mg "len" = none
  n_isinstance : mg "isinstance" = none
  n_range : mg "range" = none
  n_int : mg "int" = none
  n_bool : mg "bool" = none
  n_str : mg "str" = none
  n_list : mg "list" = none
  n_tuple : mg "tuple" = none
  n_dict : mg "dict" = none
  n_max : mg "max" = none
  n_min : mg "min" = none
  n_ValueError : mg "ValueError" = none
section
variable {P : Program} {w : World} {K : PySem.W.Frag} {mg : Str → Option Value} {base : Heap} {a : Ad}
theorem ok_cell (T : Txt K mg a) : FnOk P w K mg base (L2.CX P w) 1 a.f__law_cell_at a.d__law_cell_at ["_law_script", "_law_k"] (spCell K) := by
  refine T.F__law_cell_at.okX sc__law_cell_at (fun vs H Q E h => ?_) (fun cdv A outer s H vs Q E hr h => ?_)
  · obtain ⟨p, ns, k, rfl, _⟩ := h
    rfl
  · obtain ⟨p, ns, k, rfl, hS, h0, q⟩ := h
    refine ⟨_, (pss_cons (ps_if (pt_cmpR (op_lt) (pv 1) (pe_callB (call_lenQ) (by rfl) T.n_len (by decide +kernel) (pa_cons (pv 0) pa_nil)) (nomark _)) (pss_one (ps_ret (pe_ix ix_list (pv 0) (pv 1) (fun _ _ => rfl)))) pss_nil)
 (pss_one (ps_ret pe_int))), ?_⟩
    os_names t_st
    change (_ : TS) _ [some _, some _] _
    os_names t_all
    · rename_i c
      exact r_ixL hS (cell_in h0 (by simpa using c)) q
    · rename_i c
      rw [cell_out (by simpa using c)] at q
      exact q
theorem ok_whole1 (T : Txt K mg a) : FnOk P w K mg base (L2.CX P w) 1 a.f__law_whole a.d__law_whole ["_law_found"] spWhole1 := by
  refine T.F__law_whole.okX sc__law_whole (fun vs H Q E h => ?_) (fun cdv A outer s H vs Q E hr h => ?_)
  · obtain ⟨n, rfl, _⟩ := h
    rfl
  · obtain ⟨n, rfl, q⟩ := h
    refine ⟨_, (pss_one (ps_ret (pe_and (pe_callB (call_isi) (by rfl) T.n_isinstance (by decide +kernel) (pa_cons (pv 0) (pa_cons (pe_bltn (v := .ty "int") (by rfl) T.n_int (by decide +kernel) rfl) pa_nil))) (pe_one (pe_not (pe_callB (call_isi) (by rfl) T.n_isinstance (by decide +kernel) (pa_cons (pv 0) (pa_cons (pe_bltn (v := .ty "bool") (by rfl) T.n_bool (by decide +kernel) rfl) pa_nil)))))))), ?_⟩
    os_names t_st
    change (_ : TS) _ [some _] _
    os_names t_all
    exact q
theorem ok_whole (T : Txt K mg a) : FnOk P w K mg base (L2.CX P w) 1 a.f_whole a.d_whole ["thing", "least"] spWhole := by
  refine T.F_whole.okX sc_whole (fun vs H Q E h => ?_) (fun cdv A outer s H vs Q E hr h => ?_)
  · obtain ⟨x, l, rfl, _⟩ := h
    rfl
  · obtain ⟨x, l, rfl, hx, q⟩ := h
    refine ⟨_, (pss_one (ps_ret (pe_and (pe_callB (call_isi) (by rfl) T.n_isinstance (by decide +kernel) (pa_cons (pv 0) (pa_cons (pe_bltn (v := .ty "int") (by rfl) T.n_int (by decide +kernel) rfl) pa_nil))) (pe_and (pe_not (pe_callB (call_isi) (by rfl) T.n_isinstance (by decide +kernel) (pa_cons (pv 0) (pa_cons (pe_bltn (v := .ty "bool") (by rfl) T.n_bool (by decide +kernel) rfl) pa_nil)))) (pe_one (pe_chain (op_le) (op_le) (pv 1) (pv 0) (pe_p10 (m := 1000000000000000000000000000000000000000000000000000000000000) (by decide +kernel)))))))), ?_⟩
    os_names t_st
    change (_ : TS) _ [some _, some _] _
    cases x with
    | int n =>
      os_names t_all
      all_goals exact Qbl q (by simp [isW, E60, *])
    | bl b =>
      os_names t_all
      exact q
    | str b =>
      os_names t_all
      exact q
    | non =>
      os_names t_all
      exact q
    | ref p =>
      rcases hx with ⟨xs, hx⟩ | ⟨xs, hx⟩ | ⟨xs, hx⟩
      all_goals
        os_names t_all
        exact q
    | byt b => exact hx.elim
    | flt b => exact hx.elim
    | ty b => exact hx.elim
theorem ok_isMove (T : Txt K mg a) : FnOk P w K mg base (L2.CX P w) 2 a.f_is_move a.d_is_move ["thing"] spIsMove := by
  have G_whole := ok_whole (P := P) (w := w) (base := base) T
  refine T.F_is_move.okX sc_is_move (fun vs H Q E h => ?_) (fun cdv A outer s H vs Q E hr h => ?_)
  · obtain ⟨x, rfl, _⟩ := h
    rfl
  · obtain ⟨x, rfl, h⟩ := h
    refine ⟨_, (pss_cons (ps_if (PW.pt (pw_or (pt_not (pt_val (pe_callB (call_isi) (by rfl) T.n_isinstance (by decide +kernel) (pa_cons (pv 0) (pa_cons (pe_bltn (v := .ty "tuple") (by rfl) T.n_tuple (by decide +kernel) rfl) pa_nil))))) (pw_or1 (pt_cmpR (op_ne) (pe_callB (call_lenQ) (by rfl) T.n_len (by decide +kernel) (pa_cons (pv 0) pa_nil)) pe_int (nomark _))))) (pss_one (ps_ret pe_bl)) pss_nil)
 (pss_one (ps_ret (pe_and (pe_call G_whole (hr.mono (by decide)) rfl T.g_whole T.k_whole T.b_whole .nil passL (pa_cons (pe_ix ix_tup (pv 0) pe_int (fun _ _ => rfl)) (pa_cons pe_int pa_nil))) (pe_and (pe_call G_whole (hr.mono (by decide)) rfl T.g_whole T.k_whole T.b_whole .nil passL (pa_cons (pe_ix ix_tup (pv 0) pe_int (fun _ _ => rfl)) (pa_cons pe_int pa_nil))) (pe_and (pe_call G_whole (hr.mono (by decide)) rfl T.g_whole T.k_whole T.b_whole .nil passL (pa_cons (pe_ix ix_tup (pv 0) pe_int (fun _ _ => rfl)) (pa_cons pe_int pa_nil))) (pe_one (pe_call G_whole (hr.mono (by decide)) rfl T.g_whole T.k_whole T.b_whole .nil passL (pa_cons (pe_ix ix_tup (pv 0) pe_int (fun _ _ => rfl)) (pa_cons pe_int pa_nil)))))))))), ?_⟩
    os_names t_st
    change (_ : TS) _ [some _] _
    rcases h with ⟨p, xs, rfl, hp, hx, q⟩ | ⟨hx, hn, q⟩
    · by_cases hl : xs.length = 4
      · match xs, hl with
        | [x1, x2, x3, x4], _ =>
          have k1 := hx x1 (by simp)
          have k2 := hx x2 (by simp)
          have k3 := hx x3 (by simp)
          have k4 := hx x4 (by simp)
          os_names t_all
          · exact absurd rfl (by assumption)
          all_goals
            refine c_whole (by assumption) ?_
            os_names t_all
            · refine c_whole (by assumption) ?_
              os_names t_all
              · refine c_whole (by assumption) ?_
                os_names t_all
                · refine c_whole (by assumption) ?_
                  exact Qbl q (by simp [moveB, *])
                · exact Qbl q (by simp [moveB, *])
              · exact Qbl q (by simp [moveB, *])
            · exact Qbl q (by simp [moveB, *])
      · rw [moveB_len hl] at q
        os_names t_go
        refine yes (nd_t (by omega)) ?_
        os_names t_go
        exact q
    · cases x with
      | ref p =>
        rcases hx with ⟨xs, hx⟩ | ⟨xs, hx⟩ | ⟨xs, hx⟩
        · os_names t_all
          exact q
        · exact (hn p xs rfl hx).elim
        · os_names t_all
          exact q
      | byt b => exact hx.elim
      | flt b => exact hx.elim
      | ty b => exact hx.elim
      | _ =>
        os_names t_all
        exact q
theorem ok_ahead (T : Txt K mg a) : FnOk P w K mg base (L2.CX P w) 1 a.f_ahead a.d_ahead ["one", "other"] (spAhead K) := by
  refine T.F_ahead.okX sc_ahead (fun vs H Q E h => ?_) (fun cdv A outer s H vs Q E hr h => ?_)
  · obtain ⟨p, p2, _, _, _, _, _, _, _, _, rfl, _⟩ := h
    rfl
  · obtain ⟨p, p2, t1, h1, t2, h2, x1, y1, x2, y2, rfl, S1, S2, q⟩ := h
    have k10 : atI [V.int t1, .int h1, x1, y1] 0 = some (.int t1) := at_of (j := 0) rfl rfl
    have k11 : atI [V.int t1, .int h1, x1, y1] 1 = some (.int h1) := at_of (j := 1) rfl rfl
    have k20 : atI [V.int t2, .int h2, x2, y2] 0 = some (.int t2) := at_of (j := 0) rfl rfl
    have k21 : atI [V.int t2, .int h2, x2, y2] 1 = some (.int h2) := at_of (j := 1) rfl rfl
    refine ⟨_, (pss_cons (ps_if (pt_cmpR (op_ne) (pe_ix ix_tup (pv 0) pe_int (fun _ _ => rfl)) (pe_ix ix_tup (pv 1) pe_int (fun _ _ => rfl)) (nomark _)) (pss_one (ps_ret (pe_cmpR (op_lt) (pe_ix ix_tup (pv 0) pe_int (fun _ _ => rfl)) (pe_ix ix_tup (pv 1) pe_int (fun _ _ => rfl)) (nomark _)))) pss_nil)
 (pss_one (ps_ret (pe_cmpR (op_lt) (pe_ix ix_tup (pv 0) pe_int (fun _ _ => rfl)) (pe_ix ix_tup (pv 1) pe_int (fun _ _ => rfl)) (nomark _))))), ?_⟩
    os_names t_st
    change (_ : TS) _ [some _, some _] _
    os_names t_all
    all_goals exact Qbl q (by simp [aheadB, *])
theorem ok_way_up (T : Txt K mg a) : FnOk P w K mg base (L2.CX P w) 1 a.f_way_up a.d_way_up ["tree", "folder"] spWay := by
  refine T.F_way_up.okX sc_way_up (fun vs H Q E h => ?_) (fun cdv A outer s H vs Q E hr h => ?_)
  · obtain ⟨d, t, f, rfl, _⟩ := h
    rfl
  · obtain ⟨d, t, f, rfl, hd, hA, hl, q⟩ := h
    have hu := hu_of hr
    refine ⟨_, (pss_cons (ps_set (i := 2) sc_way_up.nd rfl (Or.inl rfl) (pe_lst (pa_cons (pv 1) pa_nil)))
 (pss_cons (ps_while (passes_of rfl) (pt_cmp (pc_din hu (pe_ix ix_list (pv 2) (pe_un un_neg pe_int) (fun _ _ => rfl)) (pv 0))) (pss_one (ps_expr (pe_bm PySem.F.plainAttrs_list PySem.F.slot_list_append PySem.F.type_list_append mt_append (pv 2) (pa_cons (pe_dget hu (pv 0) (pe_ix ix_list (pv 2) (pe_un un_neg pe_int) (fun _ _ => rfl)) (fun _ _ => rfl)) pa_nil)))))
 (pss_one (ps_ret (pv 2))))), ?_⟩
    os_names t_st
    change (_ : TS) _ [some _, some _, none] _
    os_names t_go
    rename_i p hp
    have npd : p ≠ d := fun e => by subst e; rw [hp] at hd; cases hd
    refine r_while (fun m σ H' => ∃ pre x rest, σ = [some (.ref d), some (.int f), some (.ref p)] ∧ H' = upd H p (.lst ((pre ++ [x]).map V.int)) ∧ Path t x rest ∧ way t f = pre ++ rest ∧ m = rest.length) (way t f).length
      ⟨[], f, _, rfl, rfl, hA.path f, rfl, rfl⟩ ?_
    rintro m σ H' ⟨pre, x, rest, rfl, rfl, pa, hw, rfl⟩
    have hlen : (pre ++ rest).length ≤ t.length + 1 := by rw [← hw]; exact way_length hA f
    have ha : atI ((pre ++ [x]).map V.int) (-1) = some (.int x) := by
      rw [List.map_append]
      exact atI_last _ _
    have hd' : ∀ o, upd H p o d = some (.dK (enc t)) := fun o => keep hd hp
    os_names t_go
    rw [valV_enc]
    cases pa with
    | top hx =>
      rw [hx]
      refine r_w (fun z => by cases z) (fun _ => ?_)
      os_names t_go
      rw [← hw]
      exact q p hp
    | @step _ u l hx pl =>
      rw [hx]
      refine r_w (fun _ => ?_) (fun z => by cases z)
      os_names t_go
      refine r_dGet (hd' _) (by rw [valV_enc, hx]; rfl) ?_
      os_names t_go
      refine r_append upd_same (lt_line (by simp at hlen ⊢; omega)) ?_
      rw [upd_upd]
      refine ⟨l.length, by simp, pre ++ [x], u, l, rfl, by simp, pl, by simp [hw], rfl⟩
theorem ok__law_way (T : Txt K mg a) : FnOk P w K mg base (L2.CX P w) 1 a.f__law_way a.d__law_way ["_law_tree", "_law_folder"] spWay := by
  refine T.F__law_way.okX sc__law_way (fun vs H Q E h => ?_) (fun cdv A outer s H vs Q E hr h => ?_)
  · obtain ⟨d, t, f, rfl, _⟩ := h
    rfl
  · obtain ⟨d, t, f, rfl, hd, hA, hl, q⟩ := h
    have hu := hu_of hr
    refine ⟨_, (pss_cons (ps_set (i := 2) sc__law_way.nd rfl (Or.inl rfl) (pe_lst (pa_cons (pv 1) pa_nil)))
 (pss_cons (ps_while (passes_of rfl) (pt_cmp (pc_din hu (pe_ix ix_list (pv 2) (pe_un un_neg pe_int) (fun _ _ => rfl)) (pv 0))) (pss_one (ps_expr (pe_bm PySem.F.plainAttrs_list PySem.F.slot_list_append PySem.F.type_list_append mt_append (pv 2) (pa_cons (pe_dget hu (pv 0) (pe_ix ix_list (pv 2) (pe_un un_neg pe_int) (fun _ _ => rfl)) (fun _ _ => rfl)) pa_nil)))))
 (pss_one (ps_ret (pv 2))))), ?_⟩
    os_names t_st
    change (_ : TS) _ [some _, some _, none] _
    os_names t_go
    rename_i p hp
    have npd : p ≠ d := fun e => by subst e; rw [hp] at hd; cases hd
    refine r_while (fun m σ H' => ∃ pre x rest, σ = [some (.ref d), some (.int f), some (.ref p)] ∧ H' = upd H p (.lst ((pre ++ [x]).map V.int)) ∧ Path t x rest ∧ way t f = pre ++ rest ∧ m = rest.length) (way t f).length
      ⟨[], f, _, rfl, rfl, hA.path f, rfl, rfl⟩ ?_
    rintro m σ H' ⟨pre, x, rest, rfl, rfl, pa, hw, rfl⟩
    have hlen : (pre ++ rest).length ≤ t.length + 1 := by rw [← hw]; exact way_length hA f
    have ha : atI ((pre ++ [x]).map V.int) (-1) = some (.int x) := by
      rw [List.map_append]
      exact atI_last _ _
    have hd' : ∀ o, upd H p o d = some (.dK (enc t)) := fun o => keep hd hp
    os_names t_go
    rw [valV_enc]
    cases pa with
    | top hx =>
      rw [hx]
      refine r_w (fun z => by cases z) (fun _ => ?_)
      os_names t_go
      rw [← hw]
      exact q p hp
    | @step _ u l hx pl =>
      rw [hx]
      refine r_w (fun _ => ?_) (fun z => by cases z)
      os_names t_go
      refine r_dGet (hd' _) (by rw [valV_enc, hx]; rfl) ?_
      os_names t_go
      refine r_append upd_same (lt_line (by simp at hlen ⊢; omega)) ?_
      rw [upd_upd]
      refine ⟨l.length, by simp, pre ++ [x], u, l, rfl, by simp, pl, by simp [hw], rfl⟩
theorem ok_closes (T : Txt K mg a) : FnOk P w K mg base (L2.CX P w) 2 a.f_closes a.d_closes ["tree", "folder", "under"] spCloses := by
  have G_way_up := ok_way_up (P := P) (w := w) (base := base) T
  refine T.F_closes.okX sc_closes (fun vs H Q E h => ?_) (fun cdv A outer s H vs Q E hr h => ?_)
  · obtain ⟨d, t, f, o, rfl, _⟩ := h
    rfl
  · obtain ⟨d, t, f, u, rfl, hd, hA, hl, q⟩ := h
    refine ⟨_, (pss_one (ps_ret (pe_cmpR (op_in_seq) (pv 1) (pe_call G_way_up (hr.mono (by decide)) rfl T.g_way_up T.k_way_up T.b_way_up .nil passL (pa_cons (pv 0) (pa_cons (pv 2) pa_nil))) rfl))), ?_⟩
    os_names t_st
    change (_ : TS) _ [some _, some _, some _] _
    os_names t_goi
    exact q _ (by os_names t_sm)
theorem ok_put (T : Txt K mg a) : FnOk P w K mg base (L2.CX P w) 3 a.f_put a.d_put ["tree", "folder", "under"] spPut := by
  have G_closes := ok_closes (P := P) (w := w) (base := base) T
  refine T.F_put.okX sc_put (fun vs H Q E h => ?_) (fun cdv A outer s H vs Q E hr h => ?_)
  · obtain ⟨d, t, f, o, rfl, _⟩ := h
    rfl
  · obtain ⟨d, t, f, u, rfl, hd, hA, hl, q⟩ := h
    have hu := hu_of hr
    refine ⟨_, (pss_cons (ps_set (i := 3) sc_put.nd rfl (Or.inl rfl) (pe_callTy (call_dictQ) (by rfl) T.n_dict (by decide +kernel) (pa_cons (pv 0) pa_nil)))
 (pss_cons (ps_if (pt_not (pt_val (pe_call G_closes (hr.mono (by decide)) rfl T.g_closes T.k_closes T.b_closes .nil passL (pa_cons (pv 0) (pa_cons (pv 1) (pa_cons (pv 2) pa_nil)))))) (pss_one (ps_dput hu (pv 3) (pv 1) (pv 2) rfl)) pss_nil)
 (pss_one (ps_ret (pv 3))))), ?_⟩
    os_names t_st
    change (_ : TS) _ [some _, some _, some _, none] _
    os_names t_go
    rename_i p hp H' hs
    have hp' : H p = none := hp
    have hH : H' p = some (.dK (enc t)) := hs _ _ upd_same
    by_cases c : f ∈ way t u
    · rw [decide_eq_true c]
      os_names t_goi
      exact q _ _ hp' (by os_names t_sm) (by rw [putT_ring c]; exact hH)
    · rw [decide_eq_false c]
      os_names t_goi
      exact q _ _ hp' (by os_names t_sm) (by rw [putT_put c]; exact upd_same)
theorem ok_LogInit (T : Txt K mg a) : FnOk P w K mg base (L2.CX P w) 1 a.f_Log_init a.d_Log_init ["self"] (spLogInit a.c_Log) := by
  have cLg := T.cl_Log
  have nLs := T.na_Log_since
  have nLb := T.na_Log_base
  have nLk := T.na_Log_kept
  refine T.F_Log_init.okX sc_Log_init (fun vs H Q E h => ?_) (fun cdv A outer s H vs Q E hr h => ?_)
  · obtain ⟨p, dx, rfl, _⟩ := h
    rfl
  · obtain ⟨p, dx, rfl, hp, q⟩ := h
    have hu := hu_of hr
    refine ⟨_, (pss_cons (ps_fld (pv 0) pe_int rfl)
 (pss_cons (ps_fld (pv 0) pe_dnewK rfl)
 (pss_one (ps_fld (pv 0) (pe_lst pa_nil) rfl)))), ?_⟩
    os_names t_st
    change (_ : TS) _ [some _] _
    os_names t_go
    refine r_sFld hp cLg nLs (of_decide_eq_true rfl) ?_
    os_names t_go
    rename_i b hb
    refine r_sFld (by os_names t_hp) cLg nLb (of_decide_eq_true rfl) ?_
    os_names t_go
    rename_i l hl
    refine r_sFld (by os_names t_hp) cLg nLk (of_decide_eq_true rfl) ?_
    rw [put_init]
    obtain ⟨hb', nbp⟩ := new_free hb
    obtain ⟨hl1, nlp⟩ := new_free hl
    obtain ⟨hl2, nlb⟩ := new_free hl1
    obtain ⟨hl', _⟩ := new_free hl2
    refine q b l _ hb' hl' (fun c o n e => ?_) ⟨upd_same, ?_, ?_, rfl⟩
    · have n1 := ne_of_none e hb'
      have n2 := ne_of_none e hl'
      rw [upd_ne n, upd_ne n2, upd_ne n, upd_ne n1, upd_ne n]
      exact e
    · show upd _ p _ b = _
      rw [upd_ne nbp, upd_ne nlb.symm, upd_ne nbp, upd_same]
      rfl
    · show upd _ p _ l = _
      rw [upd_ne nlp, upd_same]
      rfl
theorem ok_place (T : Txt K mg a) : FnOk P w K mg base (L2.CX P w) 2 a.f_Log_place_of a.d_Log_place_of ["self", "move"] (spPlace a.c_Log) := by
  have cLg := T.cl_Log
  have nLs := T.na_Log_since
  have nLb := T.na_Log_base
  have nLk := T.na_Log_kept
  have G_ahead := ok_ahead (P := P) (w := w) (base := base) T
  refine T.F_Log_place_of.okX sc_Log_place_of (fun vs H Q E h => ?_) (fun cdv A outer s H vs Q E hr h => ?_)
  · obtain ⟨p, g, x, m, rfl, _⟩ := h
    rfl
  · obtain ⟨p, g, x, m, rfl, L, hx, hlen, q⟩ := h
    obtain ⟨hp, hb, hl, hm⟩ := L
    have hlm := hm.length
    refine ⟨_, (pss_cons (ps_set (i := 2) sc_Log_place_of.nd rfl (Or.inl rfl) pe_int)
 (pss_cons (ps_while (passes_of rfl) (PW.pt (pw_and (pt_cmpR (op_lt) (pv 2) (pe_callB (call_lenQ) (by rfl) T.n_len (by decide +kernel) (pa_cons (pe_fld (pv 0) rfl) pa_nil)) (nomark _)) (pw_and1 (pt_val (pe_call G_ahead (hr.mono (by decide)) rfl T.g_ahead T.k_ahead T.b_ahead .nil passL (pa_cons (pe_ix ix_list (pe_fld (pv 0) rfl) (pv 2) (fun _ _ => rfl)) (pa_cons (pv 1) pa_nil))))))) (pss_one (ps_set (i := 2) sc_Log_place_of.nd rfl (Or.inl rfl) (pe_op op_add (pv 2) pe_int))))
 (pss_one (ps_ret (pv 2))))), ?_⟩
    os_names t_st
    change (_ : TS) _ [some _, some _, none] _
    os_names t_go
    refine r_while (fun k σ H' => ∃ i : Nat, σ = [some (.ref p), some (.ref x), some (.int i)] ∧ H' = H ∧ i ≤ posM m g.ms ∧ k = posM m g.ms - i) (posM m g.ms) ⟨0, rfl, rfl, Nat.zero_le _, rfl⟩ ?_
    rintro k σ H' ⟨i, rfl, rfl, hi, rfl⟩
    os_names t_go
    by_cases hlt : i < g.ms.length
    · obtain ⟨y, n, hat, hn, _, hy⟩ := atR hm hlt
      refine yes (d_t (by rw [List.length_map]; omega)) ?_
      os_names t_go
      refine c_aheadM hy hx ?_
      by_cases c : Bef n m
      · rw [decide_eq_true c]
        os_names t_go
        refine r_w (fun _ => ?_) (fun z => by cases z)
        os_names t_go
        have := posM_up hi hn c
        exact ⟨posM m g.ms - (i + 1), by omega, i + 1, rfl, rfl, this, rfl⟩
      · rw [decide_eq_false c]
        os_names t_go
        refine r_w (fun z => by cases z) (fun _ => ?_)
        os_names t_go
        rw [posM_end hi hn c]
        exact q
    · refine no (d_f (by rw [List.length_map]; omega)) ?_
      refine r_w (fun z => by cases z) (fun _ => ?_)
      os_names t_go
      rw [posM_full hi hlt]
      exact q
theorem ok_moves (T : Txt K mg a) : FnOk P w K mg base (L2.CX P w) 1 a.f_Log_moves a.d_Log_moves ["self"] (spMoves a.c_Log) := by
  have cLg := T.cl_Log
  have nLs := T.na_Log_since
  have nLb := T.na_Log_base
  have nLk := T.na_Log_kept
  refine T.F_Log_moves.okX sc_Log_moves (fun vs H Q E h => ?_) (fun cdv A outer s H vs Q E hr h => ?_)
  · obtain ⟨p, g, rfl, _⟩ := h
    rfl
  · obtain ⟨p, g, rfl, L, q⟩ := h
    obtain ⟨hp, hb, hl, hm⟩ := L
    refine ⟨_, (pss_one (ps_ret (pe_callTy (call_listQ) (by rfl) T.n_list (by decide +kernel) (pa_cons (pe_fld (pv 0) rfl) pa_nil)))), ?_⟩
    os_names t_st
    change (_ : TS) _ [some _] _
    os_names t_go
    exact q _ (by assumption)
theorem ok_hear (T : Txt K mg a) : FnOk P w K mg base (L2.CX P w) 3 a.f_Log_hear a.d_Log_hear ["self", "move"] (spHear a.c_Log a.c_NoMove a.c_TooLate a.c_Clash) := by
  have cLg := T.cl_Log
  have nLs := T.na_Log_since
  have nLb := T.na_Log_base
  have nLk := T.na_Log_kept
  have G_ahead := ok_ahead (P := P) (w := w) (base := base) T
  have G_is_move := ok_isMove (P := P) (w := w) (base := base) T
  have G_Log_place_of := ok_place (P := P) (w := w) (base := base) T
  refine T.F_Log_hear.okX sc_Log_hear (fun vs H Q E h => ?_) (fun cdv A outer s H vs Q E hr h => ?_)
  · obtain ⟨p, g, x, rfl, _⟩ := h
    rfl
  · obtain ⟨p, g, x, rfl, L, hs, hlen, h⟩ := h
    obtain ⟨hp, hb, hl, hm⟩ := id L
    have hlm := hm.length
    refine ⟨_, (pss_cons (ps_if (pt_not (pt_val (pe_call G_is_move (hr.mono (by decide)) rfl T.g_is_move T.k_is_move T.b_is_move .nil passL (pa_cons (pv 1) pa_nil)))) (pss_one (ps_raiseQ rfl (takes_of rfl rfl rfl rfl) T.x_NoMove T.g_NoMove T.ke_NoMove T.be_NoMove T.te_NoMove)) pss_nil)
 (pss_cons (ps_if (pt_cmpR (op_lt) (pe_ix ix_tup (pv 1) pe_int (fun _ _ => rfl)) (pe_fld (pv 0) rfl) (nomark _)) (pss_one (ps_raiseQ rfl (takes_of rfl rfl rfl rfl) T.x_TooLate T.g_TooLate T.ke_TooLate T.be_TooLate T.te_TooLate)) pss_nil)
 (pss_cons (ps_set (i := 2) sc_Log_hear.nd rfl (Or.inl rfl) (pe_meth (pv 0) T.cl_Log T.mt_Log_place_of G_Log_place_of (hr.mono (by decide)) T.b_Log_place_of .nil passL (pa_cons (pv 1) pa_nil)))
 (pss_cons (ps_if (PW.pt (pw_and (pt_cmpR (op_lt) (pv 2) (pe_callB (call_lenQ) (by rfl) T.n_len (by decide +kernel) (pa_cons (pe_fld (pv 0) rfl) pa_nil)) (nomark _)) (pw_and1 (pt_not (pt_val (pe_call G_ahead (hr.mono (by decide)) rfl T.g_ahead T.k_ahead T.b_ahead .nil passL (pa_cons (pv 1) (pa_cons (pe_ix ix_list (pe_fld (pv 0) rfl) (pv 2) (fun _ _ => rfl)) pa_nil)))))))) (pss_cons (ps_if (pt_cmpR (op_neD (T64 hr)) (pe_ix ix_list (pe_fld (pv 0) rfl) (pv 2) (fun _ _ => rfl)) (pv 1) (nomark _)) (pss_one (ps_raiseQ rfl (takes_of rfl rfl rfl rfl) T.x_Clash T.g_Clash T.ke_Clash T.be_Clash T.te_Clash)) pss_nil)
 (pss_one (ps_ret pe_bl))) pss_nil)
 (pss_cons (ps_expr (pe_bm PySem.F.plainAttrs_list PySem.F.slot_list_insert PySem.F.type_list_insert mt_insQ (pe_fld (pv 0) rfl) (pa_cons (pv 2) (pa_cons (pv 1) pa_nil))))
 (pss_one (ps_ret pe_bl))))))), ?_⟩
    os_names t_st
    change (_ : TS) _ [some _, some _, none] _
    os_names t_go
    rcases h with ⟨hbad, e⟩ | ⟨a', m, rfl, hx, ok, e1, e2, q1, q2⟩
    · rcases hbad with ⟨a', xs, rfl, hx, hk, hb⟩ | ⟨hk, hn⟩
      · refine c_isMove hx hk ?_
        rw [hb]
        os_names t_go
        exact e
      · refine c_isMoveN hk hn ?_
        os_names t_go
        exact e
    · refine c_isMove hx (known_mv _ m) ?_
      rw [moveB_of ok]
      have k0 := m.at0
      os_names t_go
      os_names t_sp
      · os_names t_go
        exact e1 (by assumption)
      · rename_i hge
        have hge : g.s ≤ m.t := by omega
        os_names t_go
        refine c_place L hx hlen ?_
        os_names t_go
        have hpl := posM_le m g.ms
        by_cases hlt : posM m g.ms < g.ms.length
        · obtain ⟨y, n, hat, hn, _, hy⟩ := atR hm hlt
          refine yes (d_t (by rw [List.length_map]; omega)) ?_
          os_names t_go
          refine c_aheadM hx hy ?_
          by_cases c : Bef m n
          · rw [decide_eq_true c]
            os_names t_go
            refine r_ins hl (by rw [List.length_map]; omega) (by omega) ?_
            rw [← insA_map]
            os_names t_go
            exact q2 hge (new_of hs fun x ex => by rw [hn] at ex; exact Option.some.inj ex ▸ c)
          · rw [decide_eq_false c]
            os_names t_go
            refine r_neMv hy hx ?_
            os_names t_go
            by_cases d : n = m
            · refine no (nd_f d) ?_
              os_names t_go
              exact q1 hge (d ▸ List.mem_of_getElem? hn)
            · refine yes (nd_t d) ?_
              os_names t_go
              exact e2 hge (clash_of hn c d)
        · refine no (d_f (by rw [List.length_map]; omega)) ?_
          os_names t_go
          refine r_ins hl (by rw [List.length_map]; omega) (by omega) ?_
          rw [← insA_map]
          os_names t_go
          exact q2 hge (new_of hs fun x ex => by
            have z := (List.getElem?_eq_some_iff.mp ex).1
            omega)
theorem ok_logTree (T : Txt K mg a) : FnOk P w K mg base (L2.CX P w) 4 a.f_Log_tree a.d_Log_tree ["self"] (spLogTree a.c_Log) := by
  have cLg := T.cl_Log
  have nLs := T.na_Log_since
  have nLb := T.na_Log_base
  have nLk := T.na_Log_kept
  have G_put := ok_put (P := P) (w := w) (base := base) T
  refine T.F_Log_tree.okX sc_Log_tree (fun vs H Q E h => ?_) (fun cdv A outer s H vs Q E hr h => ?_)
  · obtain ⟨p, g, rfl, _⟩ := h
    rfl
  · obtain ⟨p, g, rfl, L, hA, hlen, q⟩ := h
    obtain ⟨hp, hb, hl, hm⟩ := L
    have hlm := hm.length
    have hu := hu_of hr
    refine ⟨_, (pss_cons (ps_set (i := 1) sc_Log_tree.nd rfl (Or.inl rfl) (pe_callTy (call_dictQ) (by rfl) T.n_dict (by decide +kernel) (pa_cons (pe_fld (pv 0) rfl) pa_nil)))
 (pss_cons (ps_for (passes_of rfl) rfl (pi_list (pe_fld (pv 0) rfl)) (pg_name (i := 2) sc_Log_tree.nd rfl (Or.inl rfl)) (pss_one (ps_set (i := 1) sc_Log_tree.nd rfl (Or.inl rfl) (pe_call G_put (hr.mono (by decide)) rfl T.g_put T.k_put T.b_put .nil passL (pa_cons (pv 1) (pa_cons (pe_ix ix_tup (pv 2) pe_int (fun _ _ => rfl)) (pa_cons (pe_ix ix_tup (pv 2) pe_int (fun _ _ => rfl)) pa_nil)))))))
 (pss_one (ps_ret (pv 1))))), ?_⟩
    os_names t_st
    change (_ : TS) _ [some _, none, none] _
    os_names t_go
    rename_i d0 hd0
    have hd0 : H d0 = none := hd0
    refine r_forL (xs := g.as.map V.ref) (fun i σ H' => ∃ d v, σ = [some (.ref p), some (.ref d), v] ∧ Same H H' ∧ H d = none ∧ H' d = some (.dK (enc (foldT g.t (g.ms.take i))))) ⟨d0, none, rfl, Same.new (Same.refl _) hd0, hd0, upd_same⟩ (fun i σ H' _ ⟨_, _, _, hs, _⟩ => SqL.of (hs _ _ hl)) ?_ ?_
    · rintro i x σ H' hi ⟨d, v, rfl, hs, hd, hdd⟩
      obtain ⟨y, n, rfl, _, hn, hy⟩ := (hm.same hs).get hi
      have k2 := n.at2
      have k3 := n.at3
      have hA' : Acyc (foldT g.t (g.ms.take i)) := hA.foldT _
      have hl2 : (foldT g.t (g.ms.take i)).length ≤ 100000 := by
        have z := foldT_length g.t (g.ms.take i)
        rw [List.length_take] at z
        omega
      os_names t_go
      rename_i d2 H2 hs2 hH2 hd2
      have hd2 : H' d2 = none := hd2
      exact ⟨d2, _, rfl, hs.trans hs2, hs.free hd2, by rw [take_at hn, foldT_snoc]; exact hH2⟩
    · rintro σ H' ⟨d, v, rfl, hs, hd, hdd⟩
      os_names t_go
      rw [List.length_map, hlm, List.take_length] at hdd
      exact q d H' hd hs hdd
theorem ok_logSteps (T : Txt K mg a) : FnOk P w K mg base (L2.CX P w) 2 a.f_Log_steps a.d_Log_steps ["self"] (spSteps a.c_Log) := by
  have cLg := T.cl_Log
  have nLs := T.na_Log_since
  have nLb := T.na_Log_base
  have nLk := T.na_Log_kept
  have G_way_up := ok_way_up (P := P) (w := w) (base := base) T
  refine T.F_Log_steps.okX sc_Log_steps (fun vs H Q E h => ?_) (fun cdv A outer s H vs Q E hr h => ?_)
  · obtain ⟨p, g, rfl, _⟩ := h
    rfl
  · obtain ⟨p, g, rfl, L, hA, hlen, q⟩ := h
    obtain ⟨hp, hb, hl, hm⟩ := L
    have hlm := hm.length
    have hu := hu_of hr
    refine ⟨_, (pss_cons (ps_set (i := 1) sc_Log_steps.nd rfl (Or.inl rfl) (pe_lst pa_nil))
 (pss_cons (ps_set (i := 2) sc_Log_steps.nd rfl (Or.inl rfl) (pe_callTy (call_dictQ) (by rfl) T.n_dict (by decide +kernel) (pa_cons (pe_fld (pv 0) rfl) pa_nil)))
 (pss_cons (ps_for (passes_of rfl) rfl (pi_list (pe_fld (pv 0) rfl)) (pg_name (i := 3) sc_Log_steps.nd rfl (Or.inl rfl)) (pss_cons (ps_set (i := 4) sc_Log_steps.nd rfl (Or.inl rfl) (pe_call G_way_up (hr.mono (by decide)) rfl T.g_way_up T.k_way_up T.b_way_up .nil passL (pa_cons (pv 2) (pa_cons (pe_ix ix_tup (pv 3) pe_int (fun _ _ => rfl)) pa_nil))))
 (pss_one (ps_if (pt_cmpR (op_in_seq) (pe_ix ix_tup (pv 3) pe_int (fun _ _ => rfl)) (pv 4) rfl) (pss_one (ps_expr (pe_bm PySem.F.plainAttrs_list PySem.F.slot_list_append PySem.F.type_list_append mt_append (pv 1) (pa_cons (pe_tup (pa_cons (pv 3) (pa_cons (pe_slice sl_list (pv 4) po_none (po_some (pe_op op_add (pe_bm PySem.F.plainAttrs_list PySem.F.slot_list_index PySem.F.type_list_index mt_index (pv 4) (pa_cons (pe_ix ix_tup (pv 3) pe_int (fun _ _ => rfl)) pa_nil)) pe_int))) pa_nil))) pa_nil)))) (pss_cons (ps_expr (pe_bm PySem.F.plainAttrs_list PySem.F.slot_list_append PySem.F.type_list_append mt_append (pv 1) (pa_cons (pe_tup (pa_cons (pv 3) (pa_cons (pe_lst pa_nil) pa_nil))) pa_nil)))
 (pss_one (ps_dput hu (pv 2) (pe_ix ix_tup (pv 3) pe_int (fun _ _ => rfl)) (pe_ix ix_tup (pv 3) pe_int (fun _ _ => rfl)) rfl)))))))
 (pss_one (ps_ret (pv 1)))))), ?_⟩
    os_names t_st
    change (_ : TS) _ [some _, none, none, none, none] _
    os_names t_go
    rename_i F hF D hD
    have hF' : H F = none := hF
    have hD' : H D = none := Fresh.back hD (show Same H _ by os_names t_sm)
    have nFD : F ≠ D := (new_free hD).2.symm
    refine r_forL (xs := g.as.map V.ref) (fun i σ H' => ∃ rows v w', σ = [some (.ref p), some (.ref F), some (.ref D), v, w'] ∧ Same H H' ∧ H' F = some (.lst (rows.map rowV)) ∧ H' D = some (.dK (enc (foldT g.t (g.ms.take i)))) ∧ RowsAt H H' F rows (g.ms.take i) (stepW g.t (g.ms.take i)))
      ⟨[], none, none, rfl, by os_names t_sm, by os_names t_hp, upd_same, RowsAt.nil⟩ (fun i σ H' _ ⟨_, _, _, _, hs, _⟩ => SqL.of (hs _ _ hl)) ?_ ?_
    · rintro i x σ H' hi ⟨rows, v, w', rfl, hs, hFr, hDt, R⟩
      obtain ⟨y, n, rfl, hy0, hn, hy⟩ := (hm.same hs).get hi
      have hrl := R.length
      rw [List.length_take] at hrl
      have k2 := n.at2
      have k3 := n.at3
      have hA' : Acyc (foldT g.t (g.ms.take i)) := hA.foldT _
      have hl2 : (foldT g.t (g.ms.take i)).length ≤ 100000 := by
        have z := foldT_length g.t (g.ms.take i)
        rw [List.length_take] at z
        omega
      os_names t_go
      rename_i wy hwy
      have hwy : Fresh H' wy := hwy
      have hrow : (rows.map rowV).length ≤ 100000 := by rw [List.length_map]; omega
      have nyF : y ≠ F := fun z => by rw [z, hFr] at hy; cases hy
      have nyD : y ≠ D := fun z => by rw [z, hDt] at hy; cases hy
      by_cases c : n.f ∈ way (foldT g.t (g.ms.take i)) n.u
      · refine yes (d_t c) ?_
        os_names t_go
        refine r_idx (by os_names t_sql) c ?_
        os_names t_go
        rename_i w2 hw2 r2 hr2
        rw [cutL_up c] at *
        have f2 : Fresh H' w2 := Fresh.back hw2 (by os_names t_sm)
        have f3 : Fresh H' r2 := Fresh.back hr2 (by os_names t_sm)
        refine ⟨rows ++ [⟨r2, y, w2, n, upTo n.f (way (foldT g.t (g.ms.take i)) n.u)⟩], _, _, rfl, by os_names t_sm, by rw [upd_same, List.map_append]; rfl, ?_, ?_⟩
        · rw [take_at hn, foldT_snoc, putT_ring c]
          os_names t_hp
        · rw [take_at hn, stepW_snoc, w1_in c]
          exact R.add hs (by os_names t_sm) (by os_names t_hp) (by os_names t_hp) (by os_names t_hp) f2 f3 hFr
      · refine no (d_f c) ?_
        os_names t_go
        rename_i w2 hw2 r2 hr2
        have f2 : Fresh H' w2 := Fresh.back hw2 (by os_names t_sm)
        have f3 : Fresh H' r2 := Fresh.back hr2 (by os_names t_sm)
        refine ⟨rows ++ [⟨r2, y, w2, n, []⟩], _, _, rfl, by os_names t_sm, by rw [upd_ne nFD, upd_same, List.map_append]; rfl, ?_, ?_⟩
        · rw [take_at hn, foldT_snoc, putT_put c]
          exact upd_same
        · rw [take_at hn, stepW_snoc, w1_out c]
          exact (R.add hs (by os_names t_sm) (by os_names t_hp) (by os_names t_hp) (by os_names t_hp) f2 f3 hFr).dict (by os_names t_hp)
    · rintro σ H' ⟨rows, v, w', rfl, hs, hFr, hDt, R⟩
      os_names t_go
      rw [List.length_map, hlm, List.take_length] at R
      exact q F rows H' hF' hs hFr R
theorem ok_settle (T : Txt K mg a) : FnOk P w K mg base (L2.CX P w) 4 a.f_Log_settle a.d_Log_settle ["self", "time"] (spSettle a.c_Log) := by
  have cLg := T.cl_Log
  have nLs := T.na_Log_since
  have nLb := T.na_Log_base
  have nLk := T.na_Log_kept
  have G_put := ok_put (P := P) (w := w) (base := base) T
  refine T.F_Log_settle.okX sc_Log_settle (fun vs H Q E h => ?_) (fun cdv A outer s H vs Q E hr h => ?_)
  · obtain ⟨p, g, time, rfl, _⟩ := h
    rfl
  · obtain ⟨p, g, time, rfl, L, hA, hlen, q⟩ := h
    obtain ⟨hp, hb, hl, hm⟩ := L
    have hlm := hm.length
    have hu := hu_of hr
    have nlp : g.l ≠ p := fun c => by rw [c, hp] at hl; cases hl
    refine ⟨_, (pss_cons (ps_set (i := 2) sc_Log_settle.nd rfl (Or.inl rfl) pe_int)
 (pss_cons (ps_while (passes_of rfl) (PW.pt (pw_and (pt_cmpR (op_lt) (pv 2) (pe_callB (call_lenQ) (by rfl) T.n_len (by decide +kernel) (pa_cons (pe_fld (pv 0) rfl) pa_nil)) (nomark _)) (pw_and1 (pt_cmpR (op_lt) (pe_ix ix_tup (pe_ix ix_list (pe_fld (pv 0) rfl) (pv 2) (fun _ _ => rfl)) pe_int (fun _ _ => rfl)) (pv 1) (nomark _))))) (pss_cons (ps_fld (pv 0) (pe_call G_put (hr.mono (by decide)) rfl T.g_put T.k_put T.b_put .nil passL (pa_cons (pe_fld (pv 0) rfl) (pa_cons (pe_ix ix_tup (pe_ix ix_list (pe_fld (pv 0) rfl) (pv 2) (fun _ _ => rfl)) pe_int (fun _ _ => rfl)) (pa_cons (pe_ix ix_tup (pe_ix ix_list (pe_fld (pv 0) rfl) (pv 2) (fun _ _ => rfl)) pe_int (fun _ _ => rfl)) pa_nil)))) rfl)
 (pss_one (ps_set (i := 2) sc_Log_settle.nd rfl (Or.inl rfl) (pe_op op_add (pv 2) pe_int)))))
 (pss_cons (ps_fld (pv 0) (pe_slice sl_list (pe_fld (pv 0) rfl) (po_some (pv 2)) po_none) rfl)
 (pss_cons (ps_fld (pv 0) (pe_callB (call_maxQ rfl) (by rfl) T.n_max (by decide +kernel) (pa_cons (pe_fld (pv 0) rfl) (pa_cons (pv 1) pa_nil))) rfl)
 (pss_one (ps_ret (pv 2))))))), ?_⟩
    os_names t_st
    change (_ : TS) _ [some _, some _, none] _
    os_names t_go
    refine r_while (fun k σ H' => ∃ (i : Nat) (b : Addr), σ = [some (.ref p), some (.int time), some (.int i)] ∧ SameP p H H' ∧ H' p = some (.ins a.c_Log g.dx (lgF b g.l g.s)) ∧ H' b = some (.dK (enc (foldT g.t (g.ms.take i)))) ∧ (b = g.b ∨ H b = none) ∧ i ≤ goneM time g.ms ∧ k = goneM time g.ms - i)
      (goneM time g.ms) ⟨0, g.b, rfl, SameP.refl _ _, hp, hb, .inl rfl, Nat.zero_le _, rfl⟩ ?_
    rintro k σ H' ⟨i, b, rfl, sp, hp', hb', hfr, hi, rfl⟩
    have hl' := sp _ _ nlp hl
    have hm' : MvsAt H' g.as g.ms := hm.of fun c vs e => sp _ _ (fun z => by rw [z, hp] at e; cases e) e
    have hA' : Acyc (foldT g.t (g.ms.take i)) := hA.foldT _
    have hgl := goneM_le time g.ms
    have hl2 : (foldT g.t (g.ms.take i)).length ≤ 100000 := by
      have z := foldT_length g.t (g.ms.take i)
      rw [List.length_take] at z
      omega
    refine t_val (decide (i < goneM time g.ms)) (fun B q => ?_) ?_
    · os_names t_go
      by_cases hlt : i < g.ms.length
      · obtain ⟨y, n, hat, hn, _, hy⟩ := atR hm' hlt
        have k0 := n.at0
        refine yes (d_t (by rw [List.length_map]; omega)) ?_
        os_names t_go
        by_cases c : n.t < time
        · rw [decide_eq_true c]
          rw [decide_eq_true (show i < goneM time g.ms from goneM_up hi hn c)] at q
          exact q
        · rw [decide_eq_false c]
          rw [decide_eq_false (show ¬ i < goneM time g.ms from by rw [goneM_end hi hn c]; omega)] at q
          exact q
      · refine no (d_f (by rw [List.length_map]; omega)) ?_
        rw [decide_eq_false (show ¬ i < goneM time g.ms from by omega)] at q
        exact q
    · refine r_w (fun c => ?_) (fun c => ?_)
      · have c := of_decide_eq_true c
        obtain ⟨y, n, hat, hn, _, hy⟩ := atR hm' (show i < g.ms.length by omega)
        have k2 := n.at2
        have k3 := n.at3
        os_names t_go
        rename_i d H2 hs2 hH2 hd
        have hd : H' d = none := hd
        refine r_sFld (hs2 _ _ hp') cLg nLb (of_decide_eq_true rfl) ?_
        rw [put_base]
        os_names t_go
        have ndp : d ≠ p := fun z => by subst z; rw [hp'] at hd; cases hd
        refine ⟨goneM time g.ms - (i + 1), by omega, i + 1, d, rfl, (sp.trans (SameP.of hs2)).mut, upd_same, ?_, .inr ?_, c, rfl⟩
        · rw [upd_ne ndp, hH2, List.take_succ, hn]
          simp [foldT_snoc]
        · cases z : H d with
          | none => rfl
          | some o =>
            have z2 := sp _ _ ndp z
            rw [z2] at hd
            cases hd
      · have c : i = goneM time g.ms := by have := of_decide_eq_false c; omega
        os_names t_go
        rename_i l2 hl2'
        rw [cut_from (by rw [List.length_map]; omega)]
        have hl2' : H' l2 = none := hl2'
        have nl2p : l2 ≠ p := fun z => by subst z; rw [hp'] at hl2'; cases hl2'
        os_names t_go
        refine r_sFld (keep hp' hl2') cLg nLk (of_decide_eq_true rfl) ?_
        rw [put_kept]
        os_names t_go
        refine r_sFld upd_same cLg nLs (of_decide_eq_true rfl) ?_
        rw [put_since]
        os_names t_go
        rw [c]
        have fl : H l2 = none := by
          cases z : H l2 with
          | none => rfl
          | some o =>
            have z2 := sp _ _ nl2p z
            rw [z2] at hl2'
            cases hl2'
        have nbp : b ≠ p := fun z => by rw [z, hp'] at hb'; cases hb'
        refine q b l2 _ hfr fl (((sp.new hl2').mut).mut) ⟨upd_same, ?_, ?_, ?_⟩
        · show upd _ _ _ b = _
          rw [upd_ne nbp, upd_ne nbp, keep hb' hl2', c]
          rfl
        · show upd _ _ _ l2 = _
          rw [upd_ne nl2p, upd_ne nl2p, upd_same, ← List.map_drop]
          rfl
        · refine (hm'.drop _).of fun x vs e => ?_
          have nx : x ≠ p := fun z => by rw [z, hp'] at e; cases e
          rw [upd_ne nx, upd_ne nx]
          exact keep e hl2'
theorem ok_name (T : Txt K mg a) : FnOk P w K mg base (L2.CX P w) 1 a.f__law_name a.d__law_name ["_law_k", "_law_cell"] spName := by
  refine T.F__law_name.okX sc__law_name (fun vs H Q E h => ?_) (fun cdv A outer s H vs Q E hr h => ?_)
  · obtain ⟨k, c, rfl, _⟩ := h
    rfl
  · obtain ⟨k, c, rfl, h0, hk, q⟩ := h
    have h6 := at6 (i := c / 4 % 6) (by omega) (by omega)
    refine ⟨_, (pss_cons (ps_if (pt_cmpR (op_eq) (pe_op op_mod (pv 1) pe_int) pe_int (nomark _)) (pss_one (ps_ret (pe_op op_sub (pe_p10 (m := 1000000000000000000000000000000000000000000000000000000000000) (by decide +kernel)) (pv 0)))) pss_nil)
 (pss_cons (ps_if (pt_cmpR (op_eq) (pe_op op_mod (pv 1) pe_int) pe_int (nomark _)) (pss_cons (ps_set (i := 2) sc__law_name.nd rfl (Or.inl rfl) (pe_lst (pa_cons pe_int (pa_cons (pe_p10 (m := 1000000000) (by decide +kernel)) (pa_cons (pe_p10 (m := 100000000000000000000) (by decide +kernel)) (pa_cons (pe_p10 (m := 1000000000000000000000000000000000) (by decide +kernel)) (pa_cons (pe_p10 (m := 100000000000000000000000000000000000000000000000) (by decide +kernel)) (pa_cons (pe_p10 (m := 1000000000000000000000000000000000000000000000000000000000) (by decide +kernel)) pa_nil))))))))
 (pss_one (ps_ret (pe_op op_add pe_int (pe_op op_mod (pe_op op_add (pe_op op_fdiv (pv 1) pe_int) (pe_op op_mul (pv 0) (pe_ix ix_list (pv 2) (pe_op op_mod (pe_op op_fdiv (pv 1) pe_int) pe_int) (fun _ _ => rfl)))) (pe_p10 (m := 1000000000000000000000000000000000000000000000000000000000000) (by decide +kernel))))))) pss_nil)
 (pss_cons (ps_if (pt_cmpR (op_eq) (pe_op op_mod (pv 1) pe_int) pe_int (nomark _)) (pss_one (ps_ret (pe_op op_add pe_int (pe_op op_mul pe_int (pv 0))))) pss_nil)
 (pss_cons (ps_if (PW.pt (pw_and (pt_cmpR (op_eq) (pe_op op_mod (pe_op op_fdiv (pv 1) pe_int) pe_int) pe_int (nomark _)) (pw_and1 (pt_cmpR (op_eq) (pe_op op_mod (pv 0) pe_int) pe_int (nomark _))))) (pss_one (ps_ret (pe_op op_sub (pe_p10 (m := 1000000000000000000000000000000000000000000000000000000000000) (by decide +kernel)) (pv 0)))) pss_nil)
 (pss_one (ps_ret (pe_op op_add pe_int (pv 0)))))))), ?_⟩
    os_names t_st
    change (_ : TS) _ [some _, some _, none] _
    os_names t_all
    all_goals
      refine Qint (q _ ?_) ?_
      · first
          | exact Same.refl _
          | exact Same.new (Same.refl _) (by assumption)
      · unfold nameF
        simp [E60, *]
theorem ok_deeds (T : Txt K mg a) : FnOk P w K mg base (L2.CX P w) 1 a.f__law_deeds a.d__law_deeds ["_law_script", "_law_few", "_law_many"] (spDeeds K) := by
  refine T.F__law_deeds.okX sc__law_deeds (fun vs H Q E h => ?_) (fun cdv A outer s H vs Q E hr h => ?_)
  · obtain ⟨p, ns, few, many, rfl, _⟩ := h
    rfl
  · obtain ⟨p, ns, few, many, rfl, hS, hl, hf, q⟩ := h
    refine ⟨_, (pss_cons (ps_set (i := 3) sc__law_deeds.nd rfl (Or.inl rfl) (pv 1))
 (pss_cons (ps_if (pt_cmpR (op_gt) (pe_callB (call_lenQ) (by rfl) T.n_len (by decide +kernel) (pa_cons (pv 0) pa_nil)) pe_int (nomark _)) (pss_one (ps_set (i := 3) sc__law_deeds.nd rfl (Or.inl rfl) (pv 2))) pss_nil)
 (pss_one (ps_ret (pe_lc (own := [("_law_k", 4)]) (g := gName 4) rfl sc__law_deeds.nd (pi_range2 rfl T.n_range (pa_cons pe_int (pa_cons (pe_callB (call_minQ rfl) (by rfl) T.n_min (by decide +kernel) (pa_cons (pe_callB (call_lenQ) (by rfl) T.n_len (by decide +kernel) (pa_cons (pv 0) pa_nil)) (pa_cons (pe_op op_add pe_int (pv 3)) pa_nil))) pa_nil))) (blkOk_by (own := [("_law_k", 4)]) (N := n__law_deeds) (sc := defScope s__law_deeds) (by decide +kernel)) (fun _ _ _ _ _ => pg_name (i := 4) sc__law_deeds.nd rfl (Or.inl rfl)) (fun _ _ _ _ _ => pts_nil) (fun _ _ _ _ _ => (pe_op op_mod (pe_op op_mul (pe_op op_add (pe_ix (ix_listK (K := K) rfl) (pv 0) (pv 4) (fun _ _ => rfl)) (pe_op op_mul pe_int (pv 4))) pe_int) pe_int))))))), ?_⟩
    os_names t_st
    change (_ : TS) _ [some _, some _, some _, none, none] _
    os_names t_go
    refine no (d_f (by rw [List.length_map]; omega)) ?_
    os_names t_go
    refine r_lcR2 2 ((min ((ns.map V.int).length : Int) (2 + few) - 2).toNat) (by omega) (by omega) (by omega)
      (fun D i H' => H D = none ∧ ∃ ds : List Int, H' = upd H D (.lst (ds.map V.int)) ∧ ds.length = i ∧ ∀ d ∈ ds, DeedOk d) (fun D hD => ⟨hD, [], rfl, rfl, by simp⟩) ?_ ?_
    · rintro D i H' hi ⟨hD, ds, rfl, hlen, hok⟩
      have hS' := sql_keep (o := .lst (ds.map V.int)) hS hD
      have hix : atI (ns.map V.int) (2 + i) = some (.int (cellAt ns (2 + i))) := cell_in (by omega) (by rw [List.length_map] at hi; omega)
      os_names t_go
      refine r_acc upd_same (lt_line (by rw [List.length_map]; omega)) ?_
      rw [upd_upd]
      refine ⟨hD, ds ++ [_], by rw [List.map_append]; rfl, by simp [hlen], fun d hd => ?_⟩
      rcases List.mem_append.mp hd with hd | hd
      · exact hok d hd
      · rw [List.mem_singleton.mp hd]
        exact ⟨by omega, by omega⟩
    · rintro D H' ⟨hD, ds, rfl, hlen, hok⟩
      os_names t_go
      exact q D ds hD (by omega) hok
theorem ok_sameMove (T : Txt K mg a) : FnOk P w K mg base (L2.CX P w) 2 a.f__law_same_move a.d__law_same_move ["_law_found", "_law_due"] spSameMove := by
  have G__law_whole := ok_whole1 (P := P) (w := w) (base := base) T
  refine T.F__law_same_move.okX sc__law_same_move (fun vs H Q E h => ?_) (fun cdv A outer s H vs Q E hr h => ?_)
  · obtain ⟨p, q, m, rfl, _⟩ := h
    rfl
  · obtain ⟨p, p2, m, rfl, hp, hp2, q⟩ := h
    have l4 : ((m.vs.length : Nat) : Int) = 4 := rfl
    refine ⟨_, (pss_cons (ps_if (PW.pt (pw_or (pt_not (pt_val (pe_callB (call_isi) (by rfl) T.n_isinstance (by decide +kernel) (pa_cons (pv 0) (pa_cons (pe_bltn (v := .ty "tuple") (by rfl) T.n_tuple (by decide +kernel) rfl) pa_nil))))) (pw_or1 (pt_cmpR (op_ne) (pe_callB (call_lenQ) (by rfl) T.n_len (by decide +kernel) (pa_cons (pv 0) pa_nil)) pe_int (nomark _))))) (pss_one (ps_ret pe_bl)) pss_nil)
 (pss_cons (ps_for (passes_of rfl) rfl (pi_range1 rfl T.n_range (pa_cons pe_int pa_nil)) (pg_name (i := 2) sc__law_same_move.nd rfl (Or.inl rfl)) (pss_one (ps_if (PW.pt (pw_or (pt_not (pt_val (pe_call G__law_whole (hr.mono (by decide)) rfl T.g__law_whole T.k__law_whole T.b__law_whole .nil passL (pa_cons (pe_ix ix_tup (pv 0) (pv 2) (fun _ _ => rfl)) pa_nil)))) (pw_or1 (pt_cmpR (op_ne) (pe_ix ix_tup (pv 0) (pv 2) (fun _ _ => rfl)) (pe_ix ix_tup (pv 1) (pv 2) (fun _ _ => rfl)) (nomark _))))) (pss_one (ps_ret pe_bl)) pss_nil)))
 (pss_one (ps_ret pe_bl)))), ?_⟩
    os_names t_st
    change (_ : TS) _ [some _, some _, none] _
    os_names t_goi
    refine r_forR 4 (fun i σ H' => H' = H ∧ ∃ v, σ = [some (.ref p), some (.ref p2), v]) (by omega) ⟨rfl, none, rfl⟩ ?_ ?_
    · rintro i σ H' hi ⟨rfl, v, rfl⟩
      have hx : ∃ x : Int, atI m.vs (i : Int) = some (.int x) := by
        match i, hi with
        | 0, _ => exact ⟨m.t, rfl⟩
        | 1, _ => exact ⟨m.h, rfl⟩
        | 2, _ => exact ⟨m.f, rfl⟩
        | 3, _ => exact ⟨m.u, rfl⟩
      obtain ⟨x, hx⟩ := hx
      os_names t_goi
      exact ⟨rfl, _, rfl⟩
    · rintro σ H' ⟨rfl, v, rfl⟩
      os_names t_goi
      exact q
theorem ok_sameMoves (T : Txt K mg a) : FnOk P w K mg base (L2.CX P w) 3 a.f__law_same_moves a.d__law_same_moves ["_law_found", "_law_due"] spSameMoves := by
  have G__law_same_move := ok_sameMove (P := P) (w := w) (base := base) T
  refine T.F__law_same_moves.okX sc__law_same_moves (fun vs H Q E h => ?_) (fun cdv A outer s H vs Q E hr h => ?_)
  · obtain ⟨p, q, _, _, _, rfl, _⟩ := h
    rfl
  · obtain ⟨p, p2, as, as2, ms, rfl, hp, hp2, hm, hm2, hl, q⟩ := h
    have l1 := hm.length
    have l2 := hm2.length
    have e1 : (((as.map V.ref).length : Nat) : Int) = ms.length := by rw [List.length_map, l1]
    have e2 : (((as2.map V.ref).length : Nat) : Int) = ms.length := by rw [List.length_map, l2]
    refine ⟨_, (pss_cons (ps_if (PW.pt (pw_or (pt_not (pt_val (pe_callB (call_isi) (by rfl) T.n_isinstance (by decide +kernel) (pa_cons (pv 0) (pa_cons (pe_bltn (v := .ty "list") (by rfl) T.n_list (by decide +kernel) rfl) pa_nil))))) (pw_or1 (pt_cmpR (op_ne) (pe_callB (call_lenQ) (by rfl) T.n_len (by decide +kernel) (pa_cons (pv 0) pa_nil)) (pe_callB (call_lenQ) (by rfl) T.n_len (by decide +kernel) (pa_cons (pv 1) pa_nil)) (nomark _))))) (pss_one (ps_ret pe_bl)) pss_nil)
 (pss_cons (ps_for (passes_of rfl) rfl (pi_range1 rfl T.n_range (pa_cons (pe_callB (call_lenQ) (by rfl) T.n_len (by decide +kernel) (pa_cons (pv 1) pa_nil)) pa_nil)) (pg_name (i := 2) sc__law_same_moves.nd rfl (Or.inl rfl)) (pss_one (ps_if (pt_not (pt_val (pe_call G__law_same_move (hr.mono (by decide)) rfl T.g__law_same_move T.k__law_same_move T.b__law_same_move .nil passL (pa_cons (pe_ix ix_list (pv 0) (pv 2) (fun _ _ => rfl)) (pa_cons (pe_ix ix_list (pv 1) (pv 2) (fun _ _ => rfl)) pa_nil))))) (pss_one (ps_ret pe_bl)) pss_nil)))
 (pss_one (ps_ret pe_bl)))), ?_⟩
    os_names t_st
    change (_ : TS) _ [some _, some _, none] _
    os_names t_go
    refine no (nd_f (by rw [e1, e2])) ?_
    os_names t_go
    rw [e2]
    refine r_forR ms.length (fun i σ H' => H' = H ∧ ∃ v, σ = [some (.ref p), some (.ref p2), v]) (by omega) ⟨rfl, none, rfl⟩ ?_ ?_
    · rintro i σ H' hi ⟨rfl, v, rfl⟩
      obtain ⟨x, m, hat, hn, _, hx⟩ := atR hm hi
      obtain ⟨x2, m2, hat2, hn2, _, hx2⟩ := atR hm2 hi
      rw [hn] at hn2
      cases hn2
      os_names t_go
      refine c_sameMove hx hx2 ?_
      os_names t_go
      exact ⟨rfl, _, rfl⟩
    · rintro σ H' ⟨rfl, v, rfl⟩
      os_names t_go
      exact q
theorem ok_sametree (T : Txt K mg a) : FnOk P w K mg base (L2.CX P w) 2 a.f__law_same_tree a.d__law_same_tree ["_law_found", "_law_due"] spSameTree := by
  have G__law_whole := ok_whole1 (P := P) (w := w) (base := base) T
  refine T.F__law_same_tree.okX sc__law_same_tree (fun vs H Q E h => ?_) (fun cdv A outer s H vs Q E hr h => ?_)
  · obtain ⟨p, p2, t, t', rfl, _⟩ := h
    rfl
  · obtain ⟨p, p2, t, t', rfl, hp, hp2, hne, hs, hn, hn', hl, q⟩ := h
    have hu := hu_of hr
    have hlen := nd_keys_len hs hn hn'
    refine ⟨_, (pss_cons (ps_if (PW.pt (pw_or (pt_not (pt_val (pe_callB (call_isi) (by rfl) T.n_isinstance (by decide +kernel) (pa_cons (pv 0) (pa_cons (pe_bltn (v := .ty "dict") (by rfl) T.n_dict (by decide +kernel) rfl) pa_nil))))) (pw_or1 (pt_cmpR (op_ne) (pe_callB (call_lenDQ) (by rfl) T.n_len (by decide +kernel) (pa_cons (pv 0) pa_nil)) (pe_callB (call_lenDQ) (by rfl) T.n_len (by decide +kernel) (pa_cons (pv 1) pa_nil)) (nomark _))))) (pss_one (ps_ret pe_bl)) pss_nil)
 (pss_cons (ps_lock (ps_for (passes_of rfl) rfl (pi_keys (pv 1)) (pg_name (i := 2) sc__law_same_tree.nd rfl (Or.inl rfl)) (pss_one (ps_if (PW.pt (pw_or (pt_cmp (pc_dnotin hu (pv 2) (pv 0))) (pw_or (pt_not (pt_val (pe_call G__law_whole (hr.mono (by decide)) rfl T.g__law_whole T.k__law_whole T.b__law_whole .nil passL (pa_cons (pe_dget hu (pv 0) (pv 2) (fun _ _ => rfl)) pa_nil)))) (pw_or1 (pt_cmpR (op_ne) (pe_dget hu (pv 0) (pv 2) (fun _ _ => rfl)) (pe_dget hu (pv 1) (pv 2) (fun _ _ => rfl)) (nomark _)))))) (pss_one (ps_ret pe_bl)) pss_nil))))
 (pss_cons (ps_lock (ps_for (passes_of rfl) rfl (pi_keys (pv 0)) (pg_name (i := 2) sc__law_same_tree.nd rfl (Or.inl rfl)) (pss_one (ps_if (pt_not (pt_val (pe_call G__law_whole (hr.mono (by decide)) rfl T.g__law_whole T.k__law_whole T.b__law_whole .nil passL (pa_cons (pv 2) pa_nil)))) (pss_one (ps_ret pe_bl)) pss_nil))))
 (pss_one (ps_ret pe_bl))))), ?_⟩
    os_names t_st
    change (_ : TS) _ [some _, some _, none] _
    have hlen2 : ((enc t).length : Int) = ((enc t').length : Int) := by rw [enc_length, enc_length, hlen]
    os_names t_goi
    refine r_forK (t := t') rfl hp2 (fun od i σ H' => H' = upd H p2 (.frz od (.dK (enc t'))) ∧ ∃ v, σ = [some (.ref p), some (.ref p2), v]) (fun od => ⟨rfl, none, rfl⟩) (fun od i σ H' ⟨e, _⟩ => by rw [e]; exact upd_same) ?_ ?_
    · rintro od i pr σ H' hi ⟨rfl, v, rfl⟩
      have h1 : ∀ o, upd H p2 o p = some (.dK (enc t)) := fun o => keep_ne hp hne
      have hk : lk t' pr.1 = some pr.2 := lk_of_mem hn' (List.mem_of_getElem? hi)
      have hk2 : lk t pr.1 = some pr.2 := by rw [hs]; exact hk
      have hv : valV (enc t) (Sum.inl pr.1) = some (.int pr.2) := by rw [valV_enc, hk2]; rfl
      have hv' : valV (enc t') (Sum.inl pr.1) = some (.int pr.2) := by rw [valV_enc, hk]; rfl
      os_names t_goi
      rw [hv]
      os_names t_goi
      refine r_dGet (h1 _) hv ?_
      os_names t_goi
      refine r_dGet (h1 _) hv ?_
      os_names t_goi
      refine r_dGetF upd_same hv' ?_
      os_names t_goi
      exact ⟨rfl, _, rfl⟩
    · rintro od σ H' ⟨rfl, v, rfl⟩
      rw [upd_id hp2]
      os_names t_goi
      refine r_forK (t := t) rfl hp (fun od i σ H' => H' = upd H p (.frz od (.dK (enc t))) ∧ ∃ v, σ = [some (.ref p), some (.ref p2), v]) (fun od => ⟨rfl, v, rfl⟩) (fun od i σ H' ⟨e, _⟩ => by rw [e]; exact upd_same) ?_ ?_
      · rintro od i pr σ H' hi ⟨rfl, v, rfl⟩
        os_names t_goi
        exact ⟨rfl, _, rfl⟩
      · rintro od σ H' ⟨rfl, v, rfl⟩
        rw [upd_id hp]
        os_names t_goi
        exact q
theorem ok_told (T : Txt K mg a) : FnOk P w K mg base (L2.CX P w) 1 a.f__law_told a.d__law_told ["_law_moves", "_law_move"] spTold := by
  refine T.F__law_told.okX sc__law_told (fun vs H Q E h => ?_) (fun cdv A outer s H vs Q E hr h => ?_)
  · obtain ⟨p, x, _, _, _, rfl, _⟩ := h
    rfl
  · obtain ⟨p, x, as, ms, m, rfl, hp, hm, hx, hlen, q⟩ := h
    have hlm := hm.length
    refine ⟨_, (pss_cons (ps_set (i := 2) sc__law_told.nd rfl (Or.inl rfl) pe_int)
 (pss_cons (ps_while (passes_of rfl) (PW.pt (pw_and (pt_cmpR (op_lt) (pv 2) (pe_callB (call_lenQ) (by rfl) T.n_len (by decide +kernel) (pa_cons (pv 0) pa_nil)) (nomark _)) (pw_and1 (pt_cmpR (op_ltT (T0 hr)) (pe_slice sl_tupA (pe_ix ix_list (pv 0) (pv 2) (fun _ _ => rfl)) po_none (po_some pe_int)) (pe_slice sl_tupA (pv 1) po_none (po_some pe_int)) (nomark _))))) (pss_one (ps_set (i := 2) sc__law_told.nd rfl (Or.inl rfl) (pe_op op_add (pv 2) pe_int))))
 (pss_one (ps_ret (pe_op op_cat (pe_op op_cat (pe_slice sl_list (pv 0) po_none (po_some (pv 2))) (pe_lst (pa_cons (pv 1) pa_nil))) (pe_slice sl_list (pv 0) (po_some (pv 2)) po_none)))))), ?_⟩
    os_names t_st
    change (_ : TS) _ [some _, some _, none] _
    os_names t_go
    refine r_while (fun k σ H' => ∃ i : Nat, σ = [some (.ref p), some (.ref x), some (.int i)] ∧ Same H H' ∧ i ≤ posM m ms ∧ k = posM m ms - i) (posM m ms) ⟨0, rfl, Same.refl _, Nat.zero_le _, rfl⟩ ?_
    rintro k σ H' ⟨i, rfl, hs, hi, rfl⟩
    have hp' := hs _ _ hp
    have hx' := hs _ _ hx
    have hm' := hm.same hs
    have hpl := posM_le m ms
    have c2 : ∀ n : Mv, cutV n.vs none (some 2) = [.int n.t, .int n.h] := fun n => rfl
    refine t_valS (decide (i < posM m ms)) (fun B q => ?_) fun H2 hs2 => ?_
    · os_names t_go
      by_cases hlt : i < ms.length
      · obtain ⟨y, n, hat, hn, _, hy⟩ := atR hm' hlt
        refine yes (d_t (by rw [List.length_map]; omega)) ?_
        os_names t_go
        refine r_slTs hy fun u1 H1 s1 e1 => ?_
        os_names t_go
        refine r_slTs (s1 _ _ hx') fun u2 H2 s2 e2 => ?_
        rw [c2] at e1 e2
        os_names t_go
        refine r_ltP (s2 _ _ e1) e2 ?_
        os_names t_go
        have hB := q H2 (s1.trans s2)
        by_cases c : Bef n m
        · rw [decide_eq_true (show i < posM m ms from posM_up hi hn c)] at hB
          rw [decide_eq_true (show n.t < m.t ∨ (n.t = m.t ∧ n.h < m.h) from c)]
          os_names t_go
          exact hB
        · rw [decide_eq_false (show ¬ i < posM m ms from by rw [posM_end hi hn c]; omega)] at hB
          rw [decide_eq_false (show ¬ (n.t < m.t ∨ (n.t = m.t ∧ n.h < m.h)) from c)]
          os_names t_go
          exact hB
      · have hB := q H' (Same.refl _)
        rw [decide_eq_false (show ¬ i < posM m ms from by omega)] at hB
        refine no (d_f (by rw [List.length_map]; omega)) ?_
        exact hB
    · have hs3 := hs.trans hs2
      refine r_w (fun c => ?_) (fun c => ?_)
      · have c := of_decide_eq_true c
        os_names t_go
        exact ⟨posM m ms - (i + 1), by omega, i + 1, rfl, hs3, c, rfl⟩
      · have c : i = posM m ms := by have := of_decide_eq_false c; omega
        subst c
        have hp2 := hs3 _ _ hp
        os_names t_go
        rename_i l1 h1 l2 h2
        rw [cut_to (by rw [List.length_map]; omega)] at *
        refine r_cat (by os_names t_hp) (by os_names t_hp) (le_line (by simp; omega)) ?_
        intro l3 h3
        have h3 : Fresh _ l3 := h3
        os_names t_go
        rename_i l4 h4
        rw [cut_from (by rw [List.length_map]; omega)] at *
        refine r_cat (by os_names t_hp) (by os_names t_hp) (le_line (by simp; omega)) ?_
        intro l5 h5
        have h5 : Fresh _ l5 := h5
        refine q l5 _ (by os_names t_sm) (Fresh.back h5 (by os_names t_sm)) ?_
        rw [upd_same, insA_map]
        rfl
theorem ok_fold (T : Txt K mg a) : FnOk P w K mg base (L2.CX P w) 2 a.f__law_fold a.d__law_fold ["_law_tree", "_law_moves"] spFold := by
  have G__law_way := ok__law_way (P := P) (w := w) (base := base) T
  refine T.F__law_fold.okX sc__law_fold (fun vs H Q E h => ?_) (fun cdv A outer s H vs Q E hr h => ?_)
  · obtain ⟨d, l, t, as, ms, rfl, _⟩ := h
    rfl
  · obtain ⟨d, l, t, as, ms, rfl, hd, hl, hm, hA, hlen, q⟩ := h
    have hlm := hm.length
    have hu := hu_of hr
    refine ⟨_, (pss_cons (ps_set (i := 2) sc__law_fold.nd rfl (Or.inl rfl) (pe_callTy (call_dictQ) (by rfl) T.n_dict (by decide +kernel) (pa_cons (pv 0) pa_nil)))
 (pss_cons (ps_for (passes_of rfl) rfl (pi_list (pv 1)) (pg_name (i := 3) sc__law_fold.nd rfl (Or.inl rfl)) (pss_one (ps_if (pt_cmpR (op_notIn_seq) (pe_ix ix_tup (pv 3) pe_int (fun _ _ => rfl)) (pe_call G__law_way (hr.mono (by decide)) rfl T.g__law_way T.k__law_way T.b__law_way .nil passL (pa_cons (pv 2) (pa_cons (pe_ix ix_tup (pv 3) pe_int (fun _ _ => rfl)) pa_nil))) rfl) (pss_one (ps_dput hu (pv 2) (pe_ix ix_tup (pv 3) pe_int (fun _ _ => rfl)) (pe_ix ix_tup (pv 3) pe_int (fun _ _ => rfl)) rfl)) pss_nil)))
 (pss_one (ps_ret (pv 2))))), ?_⟩
    os_names t_st
    change (_ : TS) _ [some _, some _, none, none] _
    os_names t_go
    rename_i d0 hd0
    have hd0 : H d0 = none := hd0
    refine r_forL (xs := as.map V.ref) (fun i σ H' => ∃ v, σ = [some (.ref d), some (.ref l), some (.ref d0), v] ∧ Same H H' ∧ H' d0 = some (.dK (enc (foldT t (ms.take i))))) ⟨none, rfl, Same.new (Same.refl _) hd0, upd_same⟩ (fun i σ H' _ ⟨_, _, hs, _⟩ => SqL.of (hs _ _ hl)) ?_ ?_
    · rintro i x σ H' hi ⟨v, rfl, hs, hdd⟩
      obtain ⟨y, n, rfl, _, hn, hy⟩ := (hm.same hs).get hi
      have k2 := n.at2
      have k3 := n.at3
      have hA' : Acyc (foldT t (ms.take i)) := hA.foldT _
      have hl2 : (foldT t (ms.take i)).length ≤ 100000 := by
        have z := foldT_length t (ms.take i)
        rw [List.length_take] at z
        omega
      os_names t_go
      rename_i wy hwy
      os_names t_sp
      · rename_i c
        os_names t_go
        exact ⟨_, rfl, Same.mut (Same.new hs hwy) hd0, by rw [take_at hn, foldT_snoc, putT_put c]; exact upd_same⟩
      · rename_i c
        os_names t_go
        exact ⟨_, rfl, Same.new hs hwy, by rw [take_at hn, foldT_snoc, putT_ring c]; exact keep hdd hwy⟩
    · rintro σ H' ⟨v, rfl, hs, hdd⟩
      os_names t_go
      rw [List.length_map, hlm, List.take_length] at hdd
      exact q d0 H' hd0 hs hdd
theorem ok_HandInit (T : Txt K mg a) : FnOk P w K mg base (L2.CX P w) 3 a.f_Hand_init a.d_Hand_init ["self", "number"] (spHandInit a.c_Hand a.c_Log a.c_NoHand) := by
  have cLg := T.cl_Log
  have nLs := T.na_Log_since
  have nLb := T.na_Log_base
  have nLk := T.na_Log_kept
  have cHd := T.cl_Hand
  have nHn := T.na_Hand_number
  have nHc := T.na_Hand_clock
  have nHl := T.na_Hand_log
  have G_whole := ok_whole (P := P) (w := w) (base := base) T
  have G_Log_init := ok_LogInit (P := P) (w := w) (base := base) T
  refine T.F_Hand_init.okX sc_Hand_init (fun vs H Q E h => ?_) (fun cdv A outer s H vs Q E hr h => ?_)
  · obtain ⟨p, dx, x, rfl, _⟩ := h
    rfl
  · obtain ⟨p, dx, x, rfl, hp, hk, he, hq⟩ := h
    have hu := hu_of hr
    refine ⟨_, (pss_cons (ps_if (pt_not (pt_val (pe_call G_whole (hr.mono (by decide)) rfl T.g_whole T.k_whole T.b_whole .nil passL (pa_cons (pv 1) (pa_cons pe_int pa_nil))))) (pss_one (ps_raiseQ rfl (takes_of rfl rfl rfl rfl) T.x_NoHand T.g_NoHand T.ke_NoHand T.be_NoHand T.te_NoHand)) pss_nil)
 (pss_cons (ps_fld (pv 0) (pv 1) rfl)
 (pss_cons (ps_fld (pv 0) pe_int rfl)
 (pss_one (ps_fld (pv 0) (pe_make0 T.m_Log G_Log_init (hr.mono (by decide)) rfl T.g_Log T.b_Log_init .nil passL) rfl))))), ?_⟩
    os_names t_st
    change (_ : TS) _ [some _, some _] _
    os_names t_go
    refine c_whole hk ?_
    cases hw : isW x 0 with
    | false =>
      os_names t_goi
      exact he hw
    | true =>
      obtain ⟨n, rfl⟩ : ∃ n, x = .int n := by
        cases x with
        | int n => exact ⟨n, rfl⟩
        | _ => cases hw
      os_names t_goi
      refine r_sFld hp cHd nHn (of_decide_eq_true rfl) ?_
      os_names t_go
      refine r_sFld upd_same cHd nHc (of_decide_eq_true rfl) ?_
      os_names t_go
      intro lg ldx hlg hldx ndl
      refine ⟨lg, ldx, rfl, upd_same, fun b l H1 hb hl sp L => ⟨rfl, ?_⟩⟩
      obtain ⟨hlg1, nlp⟩ := new_free hlg
      obtain ⟨hlg0, _⟩ := new_free hlg1
      have fl2 := (new_free (new_free hl).1).1
      have fb2 := (new_free (new_free hb).1).1
      have fl0 := (new_free (new_free fl2).1).1
      have fb0 := (new_free (new_free fb2).1).1
      have npl : p ≠ lg := nlp.symm
      have hp1 : H1 p = some (.ins a.c_Hand dx (putF ("clock" : Str) (.int 0) (putF ("number" : Str) (.int n) []))) := sp _ _ npl (keep_ne (keep upd_same hldx) npl)
      os_names t_go
      refine r_sFld hp1 cHd nHl (of_decide_eq_true rfl) ?_
      rw [put_hinit]
      refine hq n rfl hw lg b l ldx _ hlg0 fb0 fl0 (fun x o nx e => ?_) ⟨upd_same, L.mutI hp1 npl.symm, npl⟩
      have nxl : x ≠ lg := ne_of_none e hlg0
      rw [upd_ne nx]
      refine sp _ _ nxl ?_
      rw [upd_ne nxl]
      refine keep ?_ hldx
      rw [upd_ne nx, upd_ne nx]
      exact e
theorem ok_handTree (T : Txt K mg a) : FnOk P w K mg base (L2.CX P w) 5 a.f_Hand_tree a.d_Hand_tree ["self"] (spHandTree a.c_Hand a.c_Log) := by
  have cLg := T.cl_Log
  have nLs := T.na_Log_since
  have nLb := T.na_Log_base
  have nLk := T.na_Log_kept
  have cHd := T.cl_Hand
  have nHn := T.na_Hand_number
  have nHc := T.na_Hand_clock
  have nHl := T.na_Hand_log
  have G_Log_tree := ok_logTree (P := P) (w := w) (base := base) T
  refine T.F_Hand_tree.okX sc_Hand_tree (fun vs H Q E h => ?_) (fun cdv A outer s H vs Q E hr h => ?_)
  · obtain ⟨p, dx, n, c, lg, g, rfl, _⟩ := h
    rfl
  · obtain ⟨p, dx, n, c, lg, g, rfl, D, hA, hl, q⟩ := h
    have hp := D.hp
    have hpl := D.L.hp
    refine ⟨_, (pss_one (ps_ret (pe_meth0 (pe_fld (pv 0) rfl) T.cl_Log T.mt_Log_tree G_Log_tree (hr.mono (by decide)) T.b_Log_tree .nil passL))), ?_⟩
    os_names t_st
    change (_ : TS) _ [some _] _
    os_names t_go
    exact c_logTree D.L hA hl q
theorem ok_handSettle (T : Txt K mg a) : FnOk P w K mg base (L2.CX P w) 5 a.f_Hand_settle a.d_Hand_settle ["self", "time"] (spHandSettle a.c_Hand a.c_Log) := by
  have cLg := T.cl_Log
  have nLs := T.na_Log_since
  have nLb := T.na_Log_base
  have nLk := T.na_Log_kept
  have cHd := T.cl_Hand
  have nHn := T.na_Hand_number
  have nHc := T.na_Hand_clock
  have nHl := T.na_Hand_log
  have G_Log_settle := ok_settle (P := P) (w := w) (base := base) T
  refine T.F_Hand_settle.okX sc_Hand_settle (fun vs H Q E h => ?_) (fun cdv A outer s H vs Q E hr h => ?_)
  · obtain ⟨p, dx, n, c, lg, g, time, rfl, _⟩ := h
    rfl
  · obtain ⟨p, dx, n, c, lg, g, time, rfl, D, hA, hl, q⟩ := h
    have hp := D.hp
    have hpl := D.L.hp
    refine ⟨_, (pss_cons (ps_set (i := 2) sc_Hand_settle.nd rfl (Or.inl rfl) (pe_meth (pe_fld (pv 0) rfl) T.cl_Log T.mt_Log_settle G_Log_settle (hr.mono (by decide)) T.b_Log_settle .nil passL (pa_cons (pv 1) pa_nil)))
 (pss_cons (ps_fld (pv 0) (pe_callB (call_maxQ rfl) (by rfl) T.n_max (by decide +kernel) (pa_cons (pe_fld (pv 0) rfl) (pa_cons (pe_op op_sub (pv 1) pe_int) pa_nil))) rfl)
 (pss_one (ps_ret (pv 2))))), ?_⟩
    os_names t_st
    change (_ : TS) _ [some _, some _, none] _
    os_names t_go
    refine c_settle D.L hA hl fun b l H1 hb hl' sp L => ?_
    have hp1 := sp _ _ D.ne hp
    have D1 : HandAt a.c_Hand a.c_Log H1 p dx n c lg (g.settled b l time) := ⟨hp1, L, D.ne⟩
    os_names t_go
    refine r_sFld hp1 cHd nHc (of_decide_eq_true rfl) ?_
    rw [put_clock]
    os_names t_go
    exact q b l H1 hb hl' sp (D1.clock _)
theorem ok_handHear (T : Txt K mg a) : FnOk P w K mg base (L2.CX P w) 4 a.f_Hand_hear a.d_Hand_hear ["self", "move"] (spHandHear a.c_Hand a.c_Log a.c_NoMove a.c_TooLate a.c_Clash) := by
  have cLg := T.cl_Log
  have nLs := T.na_Log_since
  have nLb := T.na_Log_base
  have nLk := T.na_Log_kept
  have cHd := T.cl_Hand
  have nHn := T.na_Hand_number
  have nHc := T.na_Hand_clock
  have nHl := T.na_Hand_log
  have G_Log_hear := ok_hear (P := P) (w := w) (base := base) T
  refine T.F_Hand_hear.okX sc_Hand_hear (fun vs H Q E h => ?_) (fun cdv A outer s H vs Q E hr h => ?_)
  · obtain ⟨p, dx, n, c, lg, g, x, rfl, _⟩ := h
    rfl
  · obtain ⟨p, dx, n, c, lg, g, x, rfl, D, S, hl, q⟩ := h
    have hp := D.hp
    have hpl := D.L.hp
    refine ⟨_, (pss_cons (ps_set (i := 2) sc_Hand_hear.nd rfl (Or.inl rfl) (pe_meth (pe_fld (pv 0) rfl) T.cl_Log T.mt_Log_hear G_Log_hear (hr.mono (by decide)) T.b_Log_hear .nil (passes_call (takes_of rfl rfl rfl rfl) (fun _ _ _ _ h => h)) (pa_cons (pv 1) pa_nil)))
 (pss_cons (ps_fld (pv 0) (pe_callB (call_maxQ rfl) (by rfl) T.n_max (by decide +kernel) (pa_cons (pe_fld (pv 0) rfl) (pa_cons (pe_ix ix_tup (pv 1) pe_int (fun _ _ => rfl)) pa_nil))) rfl)
 (pss_one (ps_ret (pv 2))))), ?_⟩
    os_names t_st
    change (_ : TS) _ [some _, some _, none] _
    os_names t_go
    rcases q with ⟨hb, e⟩ | ⟨y, m, rfl, hy, ok, e1, e2, q1, q2⟩
    · exact ⟨lg, g, x, rfl, D.L, S, hl, .inl ⟨hb, e⟩⟩
    · have k0 := m.at0
      refine ⟨lg, g, _, rfl, D.L, S, hl, .inr ⟨y, m, rfl, hy, ok, e1, e2, fun c1 c2 => ?_, fun c1 c2 => ?_⟩⟩
      · os_names t_go
        refine r_sFld hp cHd nHc (of_decide_eq_true rfl) ?_
        rw [put_clock]
        os_names t_go
        exact q1 c1 c2
      · have D1 := D.heard (m := m) hy
        have hp1 := D1.hp
        have hy1 : (upd H g.l (.lst ((g.heard y m).as.map V.ref))) y = some (.tup m.vs) := keep_ne hy fun z => by rw [z, D.L.hl] at hy; cases hy
        os_names t_go
        refine r_sFld hp1 cHd nHc (of_decide_eq_true rfl) ?_
        rw [put_clock]
        os_names t_go
        exact q2 c1 c2
theorem ok_handMove (T : Txt K mg a) : FnOk P w K mg base (L2.CX P w) 4 a.f_Hand_move a.d_Hand_move ["self", "folder", "under"] (spHandMove a.c_Hand a.c_Log a.c_NoMove) := by
  have cLg := T.cl_Log
  have nLs := T.na_Log_since
  have nLb := T.na_Log_base
  have nLk := T.na_Log_kept
  have cHd := T.cl_Hand
  have nHn := T.na_Hand_number
  have nHc := T.na_Hand_clock
  have nHl := T.na_Hand_log
  have G_Log_hear := ok_hear (P := P) (w := w) (base := base) T
  refine T.F_Hand_move.okX sc_Hand_move (fun vs H Q E h => ?_) (fun cdv A outer s H vs Q E hr h => ?_)
  · obtain ⟨p, dx, n, c, lg, g, f, u, rfl, _⟩ := h
    rfl
  · obtain ⟨p, dx, n, c, lg, g, f, u, rfl, D, S, hl, kf, ku, n0, n1, c0, cs, hall, q⟩ := h
    have hp := D.hp
    have hpl := D.L.hp
    refine ⟨_, (pss_cons (ps_set (i := 3) sc_Hand_move.nd rfl (Or.inl rfl) (pe_tup (pa_cons (pe_op op_add (pe_fld (pv 0) rfl) pe_int) (pa_cons (pe_fld (pv 0) rfl) (pa_cons (pv 1) (pa_cons (pv 2) pa_nil))))))
 (pss_cons (ps_expr (pe_meth (pe_fld (pv 0) rfl) T.cl_Log T.mt_Log_hear G_Log_hear (hr.mono (by decide)) T.b_Log_hear .nil (passes_call (takes_of rfl rfl rfl rfl) (fun _ _ _ _ h => h)) (pa_cons (pv 3) pa_nil)))
 (pss_cons (ps_fld (pv 0) (pe_ix ix_tup (pv 3) pe_int (fun _ _ => rfl)) rfl)
 (pss_one (ps_ret (pv 3)))))), ?_⟩
    os_names t_st
    change (_ : TS) _ [some _, some _, some _, none] _
    os_names t_go
    rename_i y fy
    have fy : H y = none := fy
    have s1 : Same H (upd H y (.tup [.int (c + 1), .int n, f, u])) := Same.new (Same.refl _) fy
    have D1 := D.same s1
    rcases q with ⟨hb, e⟩ | ⟨fi, ui, rfl, rfl, ok, q⟩
    · refine ⟨lg, g, _, rfl, D1.L, S, hl, .inl ⟨.inl ⟨y, _, rfl, upd_same, fun z hz => ?_, hb⟩, e _ s1⟩⟩
      simp at hz
      rcases hz with rfl | rfl | rfl | rfl
      · trivial
      · trivial
      · exact kf.same s1
      · exact ku.same s1
    · have nw : NewM (Mv.mk (c + 1) n fi ui) g.ms := fun x hx k => by
        have z := hall x hx
        have w : x.t = c + 1 := k.1
        omega
      have hy : (upd H y (.tup [.int (c + 1), .int n, .int fi, .int ui])) y = some (.tup (Mv.mk (c + 1) n fi ui).vs) := upd_same
      refine c_hearNew (m := Mv.mk (c + 1) n fi ui) D1.L S hl hy ok cs nw fun H2 e2 => ?_
      have D2 := D1.heard (m := Mv.mk (c + 1) n fi ui) hy
      rw [← e2] at D2
      have hp2 := D2.hp
      have hy2 : H2 y = some (.tup (Mv.mk (c + 1) n fi ui).vs) := by
        rw [e2]
        exact keep_ne hy fun z => by have w := D1.L.hl; rw [← z, hy] at w; cases w
      have k0 : atI (Mv.mk (c + 1) n fi ui).vs 0 = some (.int (c + 1)) := (Mv.mk (c + 1) n fi ui).at0
      os_names t_go
      refine r_sFld hp2 cHd nHc (of_decide_eq_true rfl) ?_
      rw [put_clock]
      os_names t_go
      exact q y _ _ fy s1 hy (by rw [e2]) (D2.clock _)
theorem ok_sameSteps (T : Txt K mg a) : FnOk P w K mg base (L2.CX P w) 3 a.f__law_same_steps a.d__law_same_steps ["_law_found", "_law_due"] spSameSteps := by
  have G__law_same_move := ok_sameMove (P := P) (w := w) (base := base) T
  have G__law_whole := ok_whole1 (P := P) (w := w) (base := base) T
  refine T.F__law_same_steps.okX sc__law_same_steps (fun vs H Q E h => ?_) (fun cdv A outer s H vs Q E hr h => ?_)
  · obtain ⟨f, d, _, _, _, _, rfl, _⟩ := h
    rfl
  · obtain ⟨f, d, rows, rows2, ms, ws, rfl, hf, hd, h1, h2, m1, m2, l1, l2, hl, hw, q⟩ := h
    have hu := hu_of hr
    have r1 : rows.length = ms.length := by rw [← m1, List.length_map]
    have r2 : rows2.length = ms.length := by rw [← m2, List.length_map]
    have e1 : (((rows.map rowV).length : Nat) : Int) = ms.length := by rw [List.length_map, r1]
    have e2 : (((rows2.map rowV).length : Nat) : Int) = ms.length := by rw [List.length_map, r2]
    refine ⟨_, (pss_cons (ps_if (PW.pt (pw_or (pt_not (pt_val (pe_callB (call_isi) (by rfl) T.n_isinstance (by decide +kernel) (pa_cons (pv 0) (pa_cons (pe_bltn (v := .ty "list") (by rfl) T.n_list (by decide +kernel) rfl) pa_nil))))) (pw_or1 (pt_cmpR (op_ne) (pe_callB (call_lenQ) (by rfl) T.n_len (by decide +kernel) (pa_cons (pv 0) pa_nil)) (pe_callB (call_lenQ) (by rfl) T.n_len (by decide +kernel) (pa_cons (pv 1) pa_nil)) (nomark _))))) (pss_one (ps_ret pe_bl)) pss_nil)
 (pss_cons (ps_for (passes_of rfl) rfl (pi_range1 rfl T.n_range (pa_cons (pe_callB (call_lenQ) (by rfl) T.n_len (by decide +kernel) (pa_cons (pv 1) pa_nil)) pa_nil)) (pg_name (i := 2) sc__law_same_steps.nd rfl (Or.inl rfl)) (pss_cons (ps_if (PW.pt (pw_or (pt_not (pt_val (pe_callB (call_isi) (by rfl) T.n_isinstance (by decide +kernel) (pa_cons (pe_ix ix_list (pv 0) (pv 2) (fun _ _ => rfl)) (pa_cons (pe_bltn (v := .ty "tuple") (by rfl) T.n_tuple (by decide +kernel) rfl) pa_nil))))) (pw_or (pt_cmpR (op_ne) (pe_callB (call_lenQ) (by rfl) T.n_len (by decide +kernel) (pa_cons (pe_ix ix_list (pv 0) (pv 2) (fun _ _ => rfl)) pa_nil)) pe_int (nomark _)) (pw_or1 (pt_not (pt_val (pe_call G__law_same_move (hr.mono (by decide)) rfl T.g__law_same_move T.k__law_same_move T.b__law_same_move .nil passL (pa_cons (pe_ix ix_tup (pe_ix ix_list (pv 0) (pv 2) (fun _ _ => rfl)) pe_int (fun _ _ => rfl)) (pa_cons (pe_ix ix_tup (pe_ix ix_list (pv 1) (pv 2) (fun _ _ => rfl)) pe_int (fun _ _ => rfl)) pa_nil))))))))) (pss_one (ps_ret pe_bl)) pss_nil)
 (pss_cons (ps_if (PW.pt (pw_or (pt_not (pt_val (pe_callB (call_isi) (by rfl) T.n_isinstance (by decide +kernel) (pa_cons (pe_ix ix_tup (pe_ix ix_list (pv 0) (pv 2) (fun _ _ => rfl)) pe_int (fun _ _ => rfl)) (pa_cons (pe_bltn (v := .ty "list") (by rfl) T.n_list (by decide +kernel) rfl) pa_nil))))) (pw_or1 (pt_cmpR (op_neD (T64 hr)) (pe_ix ix_tup (pe_ix ix_list (pv 0) (pv 2) (fun _ _ => rfl)) pe_int (fun _ _ => rfl)) (pe_ix ix_tup (pe_ix ix_list (pv 1) (pv 2) (fun _ _ => rfl)) pe_int (fun _ _ => rfl)) (nomark _))))) (pss_one (ps_ret pe_bl)) pss_nil)
 (pss_one (ps_if (pt_cmpR (op_neD (T64 hr)) (pe_lc (own := [("_law_one", 3)]) (g := gName 3) rfl sc__law_same_steps.nd (pi_list (pe_ix ix_tup (pe_ix ix_list (pv 0) (pv 2) (fun _ _ => rfl)) pe_int (fun _ _ => rfl))) (blkOk_by (own := [("_law_one", 3)]) (N := n__law_same_steps) (sc := defScope s__law_same_steps) (by decide +kernel)) (fun _ _ _ _ _ => pg_name (i := 3) sc__law_same_steps.nd rfl (Or.inl rfl)) (fun _ _ _ _ _ => pts_one (pt_not (pt_val (pe_call G__law_whole (hr.mono (by decide)) rfl T.g__law_whole T.k__law_whole T.b__law_whole .nil passL (pa_cons (pv 3) pa_nil))))) (fun _ _ _ _ _ => (pv 3))) (pe_lst pa_nil) (nomark _)) (pss_one (ps_ret pe_bl)) pss_nil)))))
 (pss_one (ps_ret pe_bl)))), ?_⟩
    os_names t_st
    change (_ : TS) _ [some _, some _, none, none] _
    os_names t_go
    refine no (nd_f (by rw [e1, e2])) ?_
    os_names t_go
    rw [e2]
    refine r_forR ms.length (fun i σ H' => Same H H' ∧ ∃ v, σ = [some (.ref f), some (.ref d), v, none]) (by omega) ⟨Same.refl _, none, rfl⟩ ?_ ?_
    · rintro i σ H' hi ⟨hs, v, rfl⟩
      obtain ⟨x, hx⟩ : ∃ x, rows[i]? = some x := ⟨_, List.getElem?_eq_getElem (by omega)⟩
      obtain ⟨y, hy⟩ : ∃ y, rows2[i]? = some y := ⟨_, List.getElem?_eq_getElem (by omega)⟩
      have ax : atI (rows.map rowV) (i : Int) = some (.ref x.r) := atI_nat (by rw [List.getElem?_map, hx]; rfl)
      have ay : atI (rows2.map rowV) (i : Int) = some (.ref y.r) := atI_nat (by rw [List.getElem?_map, hy]; rfl)
      obtain ⟨x1, x2, x3⟩ := (h1 x (List.mem_of_getElem? hx)).same hs
      obtain ⟨y1, y2, y3⟩ := (h2 y (List.mem_of_getElem? hy)).same hs
      have hf' := hs _ _ hf
      have hd' := hs _ _ hd
      have em : x.m = y.m := by
        have z := congrArg (·[i]?) (m1.trans m2.symm)
        simp only [List.getElem?_map, hx, hy] at z
        exact Option.some.inj z
      have el : x.l = y.l := by
        have z := congrArg (·[i]?) (l1.trans l2.symm)
        simp only [List.getElem?_map, hx, hy] at z
        exact Option.some.inj z
      rw [← em] at y2
      rw [← el] at y3
      os_names t_goi
      refine c_sameMove x2 y2 ?_
      os_names t_goi
      refine r_neIntsL x3 y3 ?_
      os_names t_goi
      refine r_lcL (xs := x.l.map V.int) (fun D j H2 => Same H' H2 ∧ H' D = none ∧ H2 D = some (.lst [])) (fun D hD => ⟨Same.new (Same.refl _) hD, hD, upd_same⟩) (SqL.of x3) (fun D j H2 _ ⟨hs2, _⟩ => SqL.of (hs2 _ _ x3)) ?_ ?_
      · rintro D j z H2 hj ⟨hs2, hD, hDl⟩
        rw [List.getElem?_map] at hj
        obtain ⟨k, ek⟩ : ∃ k, z = .int k := by
          cases e : x.l[j]? with
          | none => rw [e] at hj; cases hj
          | some k => rw [e] at hj; cases hj; exact ⟨k, rfl⟩
        subst ek
        os_names t_go
        exact no rfl ⟨hs2, hD, hDl⟩
      · rintro D H2 ⟨hs2, hD, hDl⟩
        os_names t_go
        refine r_neEmpty (by os_names t_hp) upd_same ?_
        os_names t_goi
        exact ⟨hs.trans (by os_names t_sm), _, rfl⟩
    · rintro σ H' ⟨hs, v, rfl⟩
      os_names t_go
      exact q _ hs
theorem ok_stepsOf (T : Txt K mg a) : FnOk P w K mg base (L2.CX P w) 2 a.f__law_steps_of a.d__law_steps_of ["_law_base", "_law_moves"] spStepsOf := by
  have G__law_way := ok__law_way (P := P) (w := w) (base := base) T
  refine T.F__law_steps_of.okX sc__law_steps_of (fun vs H Q E h => ?_) (fun cdv A outer s H vs Q E hr h => ?_)
  · obtain ⟨bd, l, _, _, _, rfl, _⟩ := h
    rfl
  · obtain ⟨bd, l, bt, as, ms, rfl, hbd, hl, hm, hA, hlen, q⟩ := h
    have hlm := hm.length
    have hu := hu_of hr
    refine ⟨_, (pss_cons (ps_set (i := 2) sc__law_steps_of.nd rfl (Or.inl rfl) (pe_callTy (call_dictQ) (by rfl) T.n_dict (by decide +kernel) (pa_cons (pv 0) pa_nil)))
 (pss_cons (ps_set (i := 3) sc__law_steps_of.nd rfl (Or.inl rfl) (pe_lst pa_nil))
 (pss_cons (ps_for (passes_of rfl) rfl (pi_list (pv 1)) (pg_name (i := 4) sc__law_steps_of.nd rfl (Or.inl rfl)) (pss_cons (ps_set (i := 5) sc__law_steps_of.nd rfl (Or.inl rfl) (pe_call G__law_way (hr.mono (by decide)) rfl T.g__law_way T.k__law_way T.b__law_way .nil passL (pa_cons (pv 2) (pa_cons (pe_ix ix_tup (pv 4) pe_int (fun _ _ => rfl)) pa_nil))))
 (pss_one (ps_if (pt_cmpR (op_in_seq) (pe_ix ix_tup (pv 4) pe_int (fun _ _ => rfl)) (pv 5) rfl) (pss_one (ps_expr (pe_bm PySem.F.plainAttrs_list PySem.F.slot_list_append PySem.F.type_list_append mt_append (pv 3) (pa_cons (pe_tup (pa_cons (pv 4) (pa_cons (pe_slice sl_list (pv 5) po_none (po_some (pe_op op_add (pe_bm PySem.F.plainAttrs_list PySem.F.slot_list_index PySem.F.type_list_index mt_index (pv 5) (pa_cons (pe_ix ix_tup (pv 4) pe_int (fun _ _ => rfl)) pa_nil)) pe_int))) pa_nil))) pa_nil)))) (pss_cons (ps_expr (pe_bm PySem.F.plainAttrs_list PySem.F.slot_list_append PySem.F.type_list_append mt_append (pv 3) (pa_cons (pe_tup (pa_cons (pv 4) (pa_cons (pe_lst pa_nil) pa_nil))) pa_nil)))
 (pss_one (ps_dput hu (pv 2) (pe_ix ix_tup (pv 4) pe_int (fun _ _ => rfl)) (pe_ix ix_tup (pv 4) pe_int (fun _ _ => rfl)) rfl)))))))
 (pss_one (ps_ret (pv 3)))))), ?_⟩
    os_names t_st
    change (_ : TS) _ [some _, some _, none, none, none, none] _
    os_names t_go
    rename_i D hD F hF
    have hF' : H F = none := Fresh.back hF (show Same H _ by os_names t_sm)
    have hD' : H D = none := hD
    have nFD : F ≠ D := (new_free hF).2
    refine r_forL (xs := as.map V.ref) (fun i σ H' => ∃ rows v w', σ = [some (.ref bd), some (.ref l), some (.ref D), some (.ref F), v, w'] ∧ Same H H' ∧ H' F = some (.lst (rows.map rowV)) ∧ H' D = some (.dK (enc (foldT bt (ms.take i)))) ∧ RowsAt H H' F rows (ms.take i) (stepW bt (ms.take i)))
      ⟨[], none, none, rfl, by os_names t_sm, upd_same, by os_names t_hp, RowsAt.nil⟩ (fun i σ H' _ ⟨_, _, _, _, hs, _⟩ => SqL.of (hs _ _ hl)) ?_ ?_
    · rintro i x σ H' hi ⟨rows, v, w', rfl, hs, hFr, hDt, R⟩
      obtain ⟨y, n, rfl, hy0, hn, hy⟩ := (hm.same hs).get hi
      have hrl := R.length
      rw [List.length_take] at hrl
      have k2 := n.at2
      have k3 := n.at3
      have hA' : Acyc (foldT bt (ms.take i)) := hA.foldT _
      have hl2 : (foldT bt (ms.take i)).length ≤ 100000 := by
        have z := foldT_length bt (ms.take i)
        rw [List.length_take] at z
        omega
      os_names t_go
      rename_i wy hwy
      have hwy : Fresh H' wy := hwy
      have hrow : (rows.map rowV).length ≤ 100000 := by rw [List.length_map]; omega
      have nyF : y ≠ F := fun z => by rw [z, hFr] at hy; cases hy
      have nyD : y ≠ D := fun z => by rw [z, hDt] at hy; cases hy
      by_cases c : n.f ∈ way (foldT bt (ms.take i)) n.u
      · refine yes (d_t c) ?_
        os_names t_go
        refine r_idx (by os_names t_sql) c ?_
        os_names t_go
        rename_i w2 hw2 r2 hr2
        rw [cutL_up c] at *
        have f2 : Fresh H' w2 := Fresh.back hw2 (by os_names t_sm)
        have f3 : Fresh H' r2 := Fresh.back hr2 (by os_names t_sm)
        refine ⟨rows ++ [⟨r2, y, w2, n, upTo n.f (way (foldT bt (ms.take i)) n.u)⟩], _, _, rfl, by os_names t_sm, by rw [upd_same, List.map_append]; rfl, ?_, ?_⟩
        · rw [take_at hn, foldT_snoc, putT_ring c]
          os_names t_hp
        · rw [take_at hn, stepW_snoc, w1_in c]
          exact R.add hs (by os_names t_sm) (by os_names t_hp) (by os_names t_hp) (by os_names t_hp) f2 f3 hFr
      · refine no (d_f c) ?_
        os_names t_go
        rename_i w2 hw2 r2 hr2
        have f2 : Fresh H' w2 := Fresh.back hw2 (by os_names t_sm)
        have f3 : Fresh H' r2 := Fresh.back hr2 (by os_names t_sm)
        refine ⟨rows ++ [⟨r2, y, w2, n, []⟩], _, _, rfl, by os_names t_sm, by rw [upd_ne nFD, upd_same, List.map_append]; rfl, ?_, ?_⟩
        · rw [take_at hn, foldT_snoc, putT_put c]
          exact upd_same
        · rw [take_at hn, stepW_snoc, w1_out c]
          exact (R.add hs (by os_names t_sm) (by os_names t_hp) (by os_names t_hp) (by os_names t_hp) f2 f3 hFr).dict (by os_names t_hp)
    · rintro σ H' ⟨rows, v, w', rfl, hs, hFr, hDt, R⟩
      os_names t_go
      rw [List.length_map, hlm, List.take_length] at R
      exact q F rows H' hF' hs hFr R
theorem ok_asked (T : Txt K mg a) : FnOk P w K mg base (L2.CX P w) 4 a.f__law_steps_asked a.d__law_steps_asked ["_law_log", "_law_base", "_law_moves", "_law_held"] (spAsked K a.c_Log) := by
  have cLg := T.cl_Log
  have nLs := T.na_Log_since
  have nLb := T.na_Log_base
  have nLk := T.na_Log_kept
  have cHd := T.cl_Hand
  have nHn := T.na_Hand_number
  have nHc := T.na_Hand_clock
  have nHl := T.na_Hand_log
  have G_Log_steps := ok_logSteps (P := P) (w := w) (base := base) T
  have G__law_steps_of := ok_stepsOf (P := P) (w := w) (base := base) T
  have G__law_same_steps := ok_sameSteps (P := P) (w := w) (base := base) T
  refine T.F__law_steps_asked.okX sc__law_steps_asked (fun vs H Q E h => ?_) (fun cdv A outer s H vs Q E hr h => ?_)
  · obtain ⟨lg, bd, ml, hl, _, _, _, rfl, _⟩ := h
    rfl
  · obtain ⟨lg, bd, ml, hl, g, as, hs, rfl, L, hA, hb, hml, hmm, hlen, hhl, hsl, nlh, q⟩ := h
    have hu := hu_of hr
    have hp := L.hp
    have hlm := L.hm.length
    refine ⟨_, (pss_cons (ps_set (i := 4) sc__law_steps_asked.nd rfl (Or.inl rfl) (pe_meth0 (pv 0) T.cl_Log T.mt_Log_steps G_Log_steps (hr.mono (by decide)) T.b_Log_steps .nil passL))
 (pss_cons (ps_if (pt_not (pt_val (pe_call G__law_same_steps (hr.mono (by decide)) rfl T.g__law_same_steps T.k__law_same_steps T.b__law_same_steps .nil passL (pa_cons (pv 4) (pa_cons (pe_call G__law_steps_of (hr.mono (by decide)) rfl T.g__law_steps_of T.k__law_steps_of T.b__law_steps_of .nil passL (pa_cons (pv 1) (pa_cons (pv 2) pa_nil))) pa_nil))))) (pss_one (ps_ret pe_bl)) pss_nil)
 (pss_cons (ps_for (passes_of rfl) rfl (pi_list (pv 4)) (pg_name (i := 5) sc__law_steps_asked.nd rfl (Or.inl rfl)) (pss_one (ps_expr (pe_bm PySem.F.plainAttrs_list PySem.F.slot_list_append PySem.F.type_list_append mt_append (pe_ix ix_tup (pv 5) pe_int (fun _ _ => rfl)) (pa_cons pe_int pa_nil)))))
 (pss_cons (ps_expr (pe_bm PySem.F.plainAttrs_list PySem.F.slot_list_append PySem.F.type_list_append mt_append (pv 4) (pa_cons pe_non pa_nil)))
 (pss_cons (ps_expr (pe_bm PySem.F.plainAttrs_list PySem.F.slot_list_append PySem.F.type_list_append mt_append (pv 3) (pa_cons (pe_tup (pa_cons (pv 4) (pa_cons (pe_op op_cat (pe_lc (own := [("_law_row", 5)]) (g := gName 5) rfl sc__law_steps_asked.nd (pi_list (pe_slice sl_list (pv 4) po_none (po_some (pe_un un_neg pe_int)))) (blkOk_by (own := [("_law_row", 5)]) (N := n__law_steps_asked) (sc := defScope s__law_steps_asked) (by decide +kernel)) (fun _ _ _ _ _ => pg_name (i := 5) sc__law_steps_asked.nd rfl (Or.inl rfl)) (fun _ _ _ _ _ => pts_nil) (fun _ _ _ _ _ => (pe_tup (pa_cons (pe_ix (ix_tupK (K := K) rfl) (pv 5) pe_int (fun _ _ => rfl)) (pa_cons (pe_callTy ((call_listQK (K := K) rfl)) (by rfl) T.n_list (by decide +kernel) (pa_cons (pe_ix (ix_tupK (K := K) rfl) (pv 5) pe_int (fun _ _ => rfl)) pa_nil)) pa_nil))))) (pe_lst (pa_cons pe_non pa_nil))) pa_nil))) pa_nil)))
 (pss_one (ps_ret pe_bl))))))), ?_⟩
    os_names t_st
    change (_ : TS) _ [some _, some _, some _, some _, none, none] _
    os_names t_go
    refine c_steps L hA (by omega) fun F rows H1 fF s1 eF R => ?_
    have hrl := R.length
    os_names t_go
    refine ⟨bd, ml, g.t, as, g.ms, rfl, s1 _ _ hb, s1 _ _ hml, hmm.same s1, hA, by omega, fun F2 rows2 H2 fF2 s2 eF2 R2 => ?_⟩
    have eF' := s2 _ _ eF
    have R' := R.same s2
    have hw : ∀ w ∈ stepW g.t g.ms, w.length ≤ 20000 := by
      intro w hw
      obtain ⟨j, hj⟩ := List.getElem?_of_mem hw
      have hjl := (List.getElem?_eq_some_iff.mp hj).1
      rw [stepW_length] at hjl
      rw [stepW_at (List.getElem?_eq_getElem hjl)] at hj
      rw [← Option.some.inj hj]
      have z1 := w1_length (t := foldT g.t (g.ms.take j)) (hA.foldT _) g.ms[j]
      have z2 := foldT_length g.t (g.ms.take j)
      rw [List.length_take] at z2
      omega
    os_names t_go
    refine c_sameSteps (rows := rows) (rows2 := rows2) (ms := g.ms) (ws := stepW g.t g.ms) eF' eF2 R'.at_ R2.at_ R.m R2.m R.l R2.l (by omega) (fun w hw' => by have := hw w hw'; omega) fun H3 s3 => ?_
    have s03 : Same H H3 := (s1.trans s2).trans s3
    have R3 := R'.same s3
    have eF3 := s3 _ _ eF'
    os_names t_goi
    refine r_forL (xs := rows.map rowV) (fun i σ H' => ∃ v RI, σ = [some (.ref lg), some (.ref bd), some (.ref ml), some (.ref hl), some (.ref F), v] ∧ Same H H' ∧ H' F = some (.lst (rows.map rowV)) ∧ List.map rowV RI = rows.map rowV ∧ List.map (·.w) RI = rows.map (·.w) ∧ (∀ y ∈ RI, RowAt H' y) ∧ ∀ y ∈ RI, y.l.length ≤ 20000 + i) ⟨none, rows, rfl, s03, eF3, rfl, rfl, R3.at_, fun y hy => ?_⟩ (fun i σ H' _ ⟨_, _, _, _, e, _⟩ => SqL.of e) ?_ ?_
    · have z : y.l ∈ stepW g.t g.ms := by rw [← R.l]; exact List.mem_map_of_mem (f := fun x : Row => x.l) hy
      have := hw _ z
      omega
    · rintro i x σ H' hi ⟨v, RI, rfl, hs', eFx, hv, hwv, hat, hll⟩
      rw [← hv, List.getElem?_map] at hi
      obtain ⟨xr, hxr, ex⟩ : ∃ xr, RI[i]? = some xr ∧ x = .ref xr.r := by
        cases e : RI[i]? with
        | none => rw [e] at hi; cases hi
        | some xr => rw [e] at hi; cases hi; exact ⟨xr, rfl, rfl⟩
      subst ex
      have mx := List.mem_of_getElem? hxr
      obtain ⟨r1, r2, r3⟩ := hat xr mx
      have nd : (List.map (·.w) RI).Nodup := by rw [hwv]; exact R.nd
      obtain ⟨y0, hy0, ey0⟩ : ∃ y0 ∈ rows, y0.w = xr.w := by
        have z : xr.w ∈ List.map (·.w) RI := List.mem_map_of_mem (f := fun x : Row => x.w) mx
        rw [hwv] at z
        exact List.mem_map.mp z
      have fw : H xr.w = none := by rw [← ey0]; exact (R.new y0 hy0).1
      have nwF : xr.w ≠ F := by rw [← ey0]; exact (R.new y0 hy0).2.2
      have hlx := hll xr mx
      have hil : i < RI.length := (List.getElem?_eq_some_iff.mp hxr).1
      have hri : RI.length = rows.length := by have z := congrArg List.length hv; simpa using z
      have hxl : (xr.l.map V.int).length ≤ 100000 := by rw [List.length_map]; omega
      os_names t_go
      have z2 := rows_app hat nd hxr
      rw [List.map_append] at z2
      refine ⟨_, RI.set i xr.app, rfl, Same.mut hs' fw, keep_ne eFx nwF.symm, (set_rowV hxr).trans hv, (set_w hxr).trans hwv, z2, fun y hy => ?_⟩
      rcases List.mem_or_eq_of_mem_set hy with z | z
      · have := hll y z
        omega
      · rw [z]
        show (xr.l ++ [0]).length ≤ _
        simp
        omega
    · rintro σ H4 ⟨v, RI, rfl, hs4, eF4, hv, hwv, hat, hll⟩
      have hri : RI.length = rows.length := by have z := congrArg List.length hv; simpa using z
      have hF4 : (rows.map rowV).length ≤ 100000 := by rw [List.length_map]; omega
      have hhl4 := hs4 _ _ hhl
      have nFh : F ≠ hl := fun z => by rw [z, hhl] at fF; cases fF
      os_names t_go
      rename_i sl fsl
      rw [cut_last]
      have nRF : ∀ y ∈ RI, y.w ≠ F := fun y hy => by
        have z : y.w ∈ List.map (·.w) RI := List.mem_map_of_mem (f := fun x : Row => x.w) hy
        rw [hwv] at z
        obtain ⟨y0, hy0, e⟩ := List.mem_map.mp z
        rw [← e]
        exact (R.new y0 hy0).2.2
      have nRH : ∀ y ∈ RI, H y.w = none := fun y hy => by
        have z : y.w ∈ List.map (·.w) RI := List.mem_map_of_mem (f := fun x : Row => x.w) hy
        rw [hwv] at z
        obtain ⟨y0, hy0, e⟩ := List.mem_map.mp z
        rw [← e]
        exact (R.new y0 hy0).1
      have fsl : Fresh _ sl := fsl
      obtain ⟨H5, eH5⟩ : ∃ H5, H5 = upd (upd H4 F (.lst (rows.map rowV ++ [V.non]))) sl (.lst (rows.map rowV)) := ⟨_, rfl⟩
      have sH5 : Same H H5 := by rw [eH5]; exact Same.new (Same.mut hs4 fF) fsl
      have eF5 : H5 F = some (.lst (rows.map rowV ++ [V.non])) := by rw [eH5]; exact keep upd_same fsl
      have esl5 : H5 sl = some (.lst (rows.map rowV)) := by rw [eH5]; exact upd_same
      have at5 : ∀ y ∈ RI, RowAt H5 y := by
        rw [eH5]
        have z := rows_mut (o := .lst (rows.map rowV ++ [V.non])) hat eF4 nRF
        exact fun y hy => (z y hy).same (Same.new (Same.refl _) fsl)
      rw [← eH5]
      clear eH5
      rw [← hv] at esl5
      have hhl5 := sH5 _ _ hhl
      refine r_lcL (xs := RI.map rowV) (fun D i H' => ∃ R2, Same H5 H' ∧ H5 D = none ∧ H' D = some (.lst (R2.map rowV)) ∧ RowsAt H5 H' D R2 ((RI.map (·.m)).take i) ((RI.map (·.l)).take i)) (fun D hD => ⟨[], Same.new (Same.refl _) hD, hD, upd_same, RowsAt.nil⟩) (SqL.of esl5) (fun D i H' _ ⟨_, hs, _⟩ => SqL.of (hs _ _ esl5)) ?_ ?_
      · rintro D i x H6 hi ⟨R2, hs6, hD, hDl, R6⟩
        rw [List.getElem?_map] at hi
        obtain ⟨xr, hxr, ex⟩ : ∃ xr, RI[i]? = some xr ∧ x = .ref xr.r := by
          cases e : RI[i]? with
          | none => rw [e] at hi; cases hi
          | some xr => rw [e] at hi; cases hi; exact ⟨xr, rfl, rfl⟩
        subst ex
        obtain ⟨r1, r2, r3⟩ := (at5 xr (List.mem_of_getElem? hxr)).same hs6
        have hil : i < RI.length := (List.getElem?_eq_some_iff.mp hxr).1
        have hl6 := R6.length
        rw [List.length_take, List.length_map] at hl6
        have hl6' : R2.length ≤ 20000 := by omega
        os_names t_go
        rename_i w6 fw6 t6 ft6
        have fw6 : Fresh H6 w6 := fw6
        have ft6' : Fresh H6 t6 := Fresh.back ft6 (by os_names t_sm)
        have nDw : D ≠ w6 := fun z => by rw [z, show H6 w6 = none from fw6] at hDl; cases hDl
        refine r_acc (acc := R2.map rowV) (by os_names t_hp) (lt_line (by rw [List.length_map]; omega)) ⟨R2 ++ [⟨t6, xr.a, w6, xr.m, xr.l⟩], Same.mut (hs6.trans (by os_names t_sm)) hD, hD, by rw [upd_same, List.map_append]; rfl, ?_⟩
        rw [take_at (show (RI.map (·.m))[i]? = some xr.m by rw [List.getElem?_map, hxr]; rfl), take_at (show (RI.map (·.l))[i]? = some xr.l by rw [List.getElem?_map, hxr]; rfl)]
        exact R6.add hs6 (by os_names t_sm) (by os_names t_hp) (by os_names t_hp) (by os_names t_hp) fw6 ft6' hDl
      · rintro D H6 ⟨R2, hs6, hD, hDl, R6⟩
        rw [List.length_map, List.take_of_length_le (by rw [List.length_map]; exact Nat.le_refl _), List.take_of_length_le (by rw [List.length_map]; exact Nat.le_refl _)] at R6
        have hl6 := R6.length
        rw [List.length_map] at hl6
        have eF6 := hs6 _ _ eF5
        have hhl6 := hs6 _ _ hhl5
        have at6 : ∀ y ∈ RI, RowAt H6 y := fun y hy => (at5 y hy).same hs6
        os_names t_go
        rename_i b6 fb6
        refine r_cat (by os_names t_hp) (by os_names t_hp) (le_line (by simp; omega)) fun kp fkp => ?_
        have fkp : Fresh _ kp := fkp
        os_names t_go
        rename_i pr fpr
        have sH6 : Same H H6 := sH5.trans hs6
        have s7 : Same H6 (upd (upd (upd H6 b6 (.lst [V.non])) kp (.lst (R2.map rowV ++ [V.non]))) pr (.tup [V.ref F, .ref kp])) := by os_names t_sm
        have sH7 := sH6.trans s7
        have fkp0 : H kp = none := sH6.free (Fresh.back fkp (by os_names t_sm))
        have fpr0 : H pr = none := sH6.free (Fresh.back fpr (by os_names t_sm))
        have eF7 := s7 _ _ eF6
        have ekp7 : (upd (upd (upd H6 b6 (.lst [V.non])) kp (.lst (R2.map rowV ++ [V.non]))) pr (.tup [V.ref F, .ref kp])) kp = some (.lst (R2.map rowV ++ [V.non])) := by os_names t_hp
        have epr7 : (upd (upd (upd H6 b6 (.lst [V.non])) kp (.lst (R2.map rowV ++ [V.non]))) pr (.tup [V.ref F, .ref kp])) pr = some (.tup [V.ref F, .ref kp]) := upd_same
        have a1 : ∀ y ∈ RI, RowAt (upd (upd (upd H6 b6 (.lst [V.non])) kp (.lst (R2.map rowV ++ [V.non]))) pr (.tup [V.ref F, .ref kp])) y := fun y hy => (at6 y hy).same s7
        have a2 : ∀ y ∈ R2, RowAt (upd (upd (upd H6 b6 (.lst [V.non])) kp (.lst (R2.map rowV ++ [V.non]))) pr (.tup [V.ref F, .ref kp])) y := fun y hy => (R6.at_ y hy).same s7
        generalize upd (upd (upd H6 b6 (.lst [V.non])) kp (.lst (R2.map rowV ++ [V.non]))) pr (.tup [V.ref F, .ref kp]) = H7 at *
        have hmapz : (hs ++ [pr]).map V.ref = hs.map V.ref ++ [V.ref pr] := by rw [List.map_append]; rfl
        refine q pr H7 _ sH7 (by rw [hmapz]) fun ex n1 n2 hx H8 k8 => ?_
        have hl7 := sH7 _ _ hhl
        have nb : ∀ b, b ∉ ex → ∀ o, H7 b = some o → H8 b = some o := fun b nb o e => k8 _ _ nb (keep_ne e fun z => nb (z ▸ hx))
        have kx : Kx ex H7 H8 := fun b o e1 e2 => nb b e1 o e2
        have b1 := rows_kx a1 sH7 n1 n2 nRH kx
        have b2 := rows_kx a2 sH7 n1 n2 (fun y hy => sH5.free (R6.new y hy).1) kx
        have ml : RI.map Row.ml = R2.map Row.ml := (ml_of rfl rfl).trans (ml_of R6.m R6.l).symm
        rw [← hv] at eF7
        exact ⟨F, kp, kx _ _ (n1 _ fpr0) epr7, fun Q q => .inl (r_neRows (b := true) (kx _ _ (n1 _ fF) eF7) (kx _ _ (n1 _ fkp0) ekp7) b1 b2 ml q)⟩

theorem ok_asTold (T : Txt K mg a) : FnOk P w K mg base (L2.CX P w) 6 a.f__law_as_told a.d__law_as_told ["_law_hand", "_law_state"] (spAsTold K a.c_Hand a.c_Log) := by
  have cLg := T.cl_Log
  have nLs := T.na_Log_since
  have nLb := T.na_Log_base
  have nLk := T.na_Log_kept
  have cHd := T.cl_Hand
  have nHn := T.na_Hand_number
  have nHc := T.na_Hand_clock
  have nHl := T.na_Hand_log
  have G__law_whole := ok_whole1 (P := P) (w := w) (base := base) T
  have G__law_fold := ok_fold (P := P) (w := w) (base := base) T
  have G_Hand_tree := ok_handTree (P := P) (w := w) (base := base) T
  have G_Log_tree := ok_logTree (P := P) (w := w) (base := base) T
  have G_Log_moves := ok_moves (P := P) (w := w) (base := base) T
  have G__law_same_tree := ok_sametree (P := P) (w := w) (base := base) T
  have G__law_steps_asked := ok_asked (P := P) (w := w) (base := base) T
  have G__law_same_moves := ok_sameMoves (P := P) (w := w) (base := base) T
  refine T.F__law_as_told.okX sc__law_as_told (fun vs H Q E h => ?_) (fun cdv A outer s H vs Q E hr h => ?_)
  · obtain ⟨p, dx, lg, st, kl, bd, hl, n, c, many, g, as, hs, k, rfl, _⟩ := h
    rfl
  · obtain ⟨p, dx, lg, st, kl, bd, hl, n, c, many, g, as, hs, k, rfl, I, hk, hk2, q⟩ := h
    have hu := hu_of hr
    obtain ⟨i1, i2, i3⟩ := I.len
    have itl := I.tl
    have hp := I.D.hp
    have hpl := I.D.L.hp
    have hst := I.est
    refine ⟨_, (pss_cons (ps_if (PW.pt (pw_or (pt_not (pt_val (pe_call G__law_whole (hr.mono (by decide)) rfl T.g__law_whole T.k__law_whole T.b__law_whole .nil passL (pa_cons (pe_fld (pv 0) rfl) pa_nil)))) (pw_or1 (pt_cmpR (op_ne) (pe_fld (pv 0) rfl) (pe_dget hu (pv 1) pe_str (fun _ _ => rfl)) (nomark _))))) (pss_one (ps_ret pe_bl)) pss_nil)
 (pss_cons (ps_if (PW.pt (pw_or (pt_not (pt_val (pe_call G__law_whole (hr.mono (by decide)) rfl T.g__law_whole T.k__law_whole T.b__law_whole .nil passL (pa_cons (pe_fld (pv 0) rfl) pa_nil)))) (pw_or1 (pt_cmpR (op_ne) (pe_fld (pv 0) rfl) (pe_dget hu (pv 1) pe_str (fun _ _ => rfl)) (nomark _))))) (pss_one (ps_ret pe_bl)) pss_nil)
 (pss_cons (ps_set (i := 2) sc__law_as_told.nd rfl (Or.inl rfl) (pe_call G__law_fold (hr.mono (by decide)) rfl T.g__law_fold T.k__law_fold T.b__law_fold .nil passL (pa_cons (pe_dget hu (pv 1) pe_str (fun _ _ => rfl)) (pa_cons (pe_dget hu (pv 1) pe_str (fun _ _ => rfl)) pa_nil))))
 (pss_cons (ps_set (i := 3) sc__law_as_told.nd rfl (Or.inl rfl) (pe_lst (pa_cons (pe_meth0 (pv 0) T.cl_Hand T.mt_Hand_tree G_Hand_tree (hr.mono (by decide)) T.b_Hand_tree .nil passL) (pa_cons (pe_meth0 (pe_fld (pv 0) rfl) T.cl_Log T.mt_Log_tree G_Log_tree (hr.mono (by decide)) T.b_Log_tree .nil passL) pa_nil))))
 (pss_cons (ps_if (PW.pt (pw_or (pt_not (pt_val (pe_call G__law_same_tree (hr.mono (by decide)) rfl T.g__law_same_tree T.k__law_same_tree T.b__law_same_tree .nil passL (pa_cons (pe_ix ix_list (pv 3) pe_int (fun _ _ => rfl)) (pa_cons (pv 2) pa_nil))))) (pw_or1 (pt_not (pt_val (pe_call G__law_same_tree (hr.mono (by decide)) rfl T.g__law_same_tree T.k__law_same_tree T.b__law_same_tree .nil passL (pa_cons (pe_ix ix_list (pv 3) pe_int (fun _ _ => rfl)) (pa_cons (pv 2) pa_nil)))))))) (pss_one (ps_ret pe_bl)) pss_nil)
 (pss_cons (ps_if (pt_not (pt_val (pe_call G__law_steps_asked (hr.mono (by decide)) rfl T.g__law_steps_asked T.k__law_steps_asked T.b__law_steps_asked .nil passL (pa_cons (pe_fld (pv 0) rfl) (pa_cons (pe_dget hu (pv 1) pe_str (fun _ _ => rfl)) (pa_cons (pe_dget hu (pv 1) pe_str (fun _ _ => rfl)) (pa_cons (pe_dget hu (pv 1) pe_str (fun _ _ => rfl)) pa_nil))))))) (pss_one (ps_ret pe_bl)) pss_nil)
 (Evl.pss_cut (ps_set (i := 4) sc__law_as_told.nd rfl (Or.inl rfl) (pe_meth0 (pe_fld (pv 0) rfl) T.cl_Log T.mt_Log_moves G_Log_moves (hr.mono (by decide)) T.b_Log_moves .nil passL))
 (Evl.pss_cut (ps_expr (pe_bm PySem.F.plainAttrs_list PySem.F.slot_list_append PySem.F.type_list_append mt_append (pe_dget hu (pv 1) pe_str (fun _ _ => rfl)) (pa_cons (pe_tup (pa_cons (pe_ix ix_list (pv 3) pe_int (fun _ _ => rfl)) (pa_cons (pv 2) pa_nil))) pa_nil)))
 (Evl.pss_cut (ps_expr (pe_bm PySem.F.plainAttrs_list PySem.F.slot_list_append PySem.F.type_list_append mt_append (pe_dget hu (pv 1) pe_str (fun _ _ => rfl)) (pa_cons (pe_tup (pa_cons (pe_ix ix_list (pv 3) pe_int (fun _ _ => rfl)) (pa_cons (pv 2) pa_nil))) pa_nil)))
 (Evl.pss_cut (ps_expr (pe_bm PySem.F.plainAttrs_list PySem.F.slot_list_append PySem.F.type_list_append mt_append (pe_dget hu (pv 1) pe_str (fun _ _ => rfl)) (pa_cons (pe_tup (pa_cons (pv 4) (pa_cons (pe_callTy (call_listQ) (by rfl) T.n_list (by decide +kernel) (pa_cons (pe_dget hu (pv 1) pe_str (fun _ _ => rfl)) pa_nil)) pa_nil))) pa_nil)))
 (pss_one (ps_ret (pe_call G__law_same_moves (hr.mono (by decide)) rfl T.g__law_same_moves T.k__law_same_moves T.b__law_same_moves .nil passL (pa_cons (pv 4) (pa_cons (pe_dget hu (pv 1) pe_str (fun _ _ => rfl)) pa_nil))))))))))))))), ?_⟩
    os_names t_st
    change (_ : TS) _ [some _, some _, none, none, none] _
    os_names t_goi
    refine c_fold I.eb I.ek I.km I.ac (by omega) fun du H1 fdu s1 edu => ?_
    have I1 := I.same s1
    have hp1 := I1.D.hp
    have hst1 := I1.est
    os_names t_go
    refine ⟨p, dx, n, c, lg, g, rfl, I1.D, I.ac, by omega, fun d1 H2 fd1 s2 ed1 => ?_⟩
    have I2 := I1.same s2
    have hp2 := I2.D.hp
    have hpl2 := I2.D.L.hp
    have edu2 := s2 _ _ edu
    os_names t_go
    refine c_logTree I2.D.L I.ac (by omega) fun d2 H3 fd2 s3 ed2 => ?_
    have I3 := I2.same s3
    have edu3 := s3 _ _ edu2
    have ed13 := s3 _ _ ed1
    os_names t_go
    rename_i tr ftr
    have ftr : Fresh H3 tr := ftr
    have ndX : Nd (foldT g.t g.ms) := I.nd.foldT _
    have lenX : (foldT g.t g.ms).length ≤ 100000 := by have z := foldT_length g.t g.ms; omega
    have n1 : d1 ≠ du := (ne_of_none edu fd1).symm
    have n2 : d2 ≠ du := (ne_of_none edu2 fd2).symm
    refine c_sametree (by os_names t_hp) (by os_names t_hp) n1 (SameT.refl _) ndX ndX lenX ?_
    os_names t_goi
    refine c_sametree (by os_names t_hp) (by os_names t_hp) n2 (SameT.refl _) ndX ndX lenX ?_
    have s4 : Same H3 (upd H3 tr (.lst [V.ref d1, .ref d2])) := Same.new (Same.refl _) ftr
    have etr : (upd H3 tr (.lst [V.ref d1, .ref d2])) tr = some (.lst [V.ref d1, .ref d2]) := upd_same
    have I4 := I3.same s4
    have edu4 := s4 _ _ edu3
    have ed14 := s4 _ _ ed13
    have ed24 := s4 _ _ ed2
    have s04 := ((s1.trans s2).trans s3).trans s4
    generalize upd H3 tr (.lst [V.ref d1, .ref d2]) = H4 at *
    have hp4 := I4.D.hp
    have hst4 := I4.est
    os_names t_goi
    refine ⟨lg, bd, kl, hl, g, as, hs, rfl, I4.D.L, I.ac, I4.eb, I4.ek, I4.km, by omega, I4.eh, by omega, I.x1, fun a1 H5 H6 s5 e6 hpr => ?_⟩
    have hhl5 := (I4.same s5).eh
    have I6 := (I4.same s5).held (a := a1) (H' := H6) (by rw [e6]; exact (SameP.refl _ _).mut) (by rw [e6]; exact upd_same) (hpr _ (fun b e => I4.fresh e) (fun b vs e => I4.tup e) (by simp)) (by omega)
    have sp6 : SameP hl H H6 := by rw [e6]; exact (SameP.of (s04.trans s5)).mut
    have ftr0 : H tr = none := ((s1.trans s2).trans s3).free ftr
    have fd10 : H d1 = none := s1.free fd1
    have fd20 : H d2 = none := (s1.trans s2).free fd2
    have ne_of_none' : ∀ {Hx : Hp} {x y : Addr} {o : HO}, Hx y = some o → Hx x = none → x ≠ y := fun e1 e2 z => by rw [z, e1] at e2; cases e2
    have dn : ∀ b kv, H5 b = some (.dK kv) → H6 b = some (.dK kv) := fun b kv e => by rw [e6]; exact keep_ne e fun z => by rw [z, hhl5] at e; cases e
    have g1 := dn _ _ (s5 _ _ edu4)
    have g2 := dn _ _ (s5 _ _ ed14)
    have g3 := dn _ _ (s5 _ _ ed24)
    have g4 : H6 tr = some (.lst [V.ref d1, .ref d2]) := by rw [e6]; exact keep_ne (s5 _ _ etr) (ne_of_none' I.eh ftr0)
    have hp6 := I6.D.hp
    have hpl6 := I6.D.L.hp
    os_names t_goi
    refine r_cut (fun σ' H' => ∃ (fo : Addr) (hs' : List Addr), σ' = [some (.ref p), some (.ref st), some (.ref du), some (.ref tr), some (.ref fo)] ∧ hs'.length = hs.length + 1 ∧ SameP hl H H' ∧ I11 K a.c_Hand a.c_Log H' p dx lg st kl bd hl n c many g as hs' k ∧ H' tr = some (.lst [V.ref d1, .ref d2]) ∧ H' d1 = some (.dK (enc (foldT g.t g.ms))) ∧ H' d2 = some (.dK (enc (foldT g.t g.ms))) ∧ H' du = some (.dK (enc (foldT g.t g.ms))) ∧ H' fo = some (.lst (g.as.map V.ref)) ∧ H fo = none) ?_ ?_
    · os_names t_go
      refine c_moves I6.D.L fun fo ffo => ?_
      have ffo0 : H fo = none := by
        cases z : H fo with
        | none => rfl
        | some o =>
          by_cases e : fo = hl
          · rw [e, I6.eh] at ffo; cases ffo
          · have w := sp6 _ _ e z
            rw [ffo] at w
            cases w
      os_names t_go
      exact ⟨fo, _, rfl, by simp, sp6.trans (SameP.of (Same.new (Same.refl _) ffo)), I6.same (Same.new (Same.refl _) ffo), keep g4 ffo, keep g2 ffo, keep g3 ffo, keep g1 ffo, upd_same, ffo0⟩
    rintro σ' H' ⟨fo, hs', rfl, ehs, sp', I', gtr, gd1, gd2, gdu, gfo, ffo⟩
    refine r_cut (fun σ' H' => ∃ (fo : Addr) (hs' : List Addr), σ' = [some (.ref p), some (.ref st), some (.ref du), some (.ref tr), some (.ref fo)] ∧ hs'.length = hs.length + 2 ∧ SameP hl H H' ∧ I11 K a.c_Hand a.c_Log H' p dx lg st kl bd hl n c many g as hs' k ∧ H' tr = some (.lst [V.ref d1, .ref d2]) ∧ H' d1 = some (.dK (enc (foldT g.t g.ms))) ∧ H' d2 = some (.dK (enc (foldT g.t g.ms))) ∧ H' du = some (.dK (enc (foldT g.t g.ms))) ∧ H' fo = some (.lst (g.as.map V.ref)) ∧ H fo = none) ?_ ?_
    · have hst' := I'.est
      have hhl' := I'.eh
      have hp' := I'.D.hp
      have hkl' := I'.ek
      have lhs : (hs'.map V.ref).length ≤ 100000 := by rw [List.length_map]; omega
      have nth : tr ≠ hl := ne_of_none' I.eh ftr0
      have nfh : fo ≠ hl := ne_of_none' I.eh ffo
      os_names t_go
      rename_i pr fpr
      have fpr : H' pr = none := fpr
      have nprh : pr ≠ hl := ne_of_none' hhl' fpr
      have sN : ∀ o, Same H' (upd H' pr o) := fun o => Same.new (Same.refl _) fpr
      have hm : (hs' ++ [pr]).map V.ref = hs'.map V.ref ++ [V.ref pr] := by rw [List.map_append]; rfl
      have nd1 : d1 ≠ hl := fun z => by rw [z, hhl'] at gd1; cases gd1
      have ndu : du ≠ hl := fun z => by rw [z, hhl'] at gdu; cases gdu
      have fpr0 := I'.fresh fpr
      have J := (I'.same (sN (.tup [V.ref d1, .ref du]))).held (a := pr) (H' := upd (upd H' pr (.tup [V.ref d1, .ref du])) hl (.lst (hs'.map V.ref ++ [V.ref pr]))) (SameP.refl _ _).mut (by rw [hm]; exact upd_same) (fun H2 kx => pair_dict (kx _ _ fpr0 (keep_ne upd_same nprh)) (kx _ _ (I.fresh fd10) (keep_ne (keep gd1 fpr) nd1)) (kx _ _ (I.fresh fdu) (keep_ne (keep gdu fpr) ndu)) ndX) (by omega)
      exact ⟨fo, hs' ++ [pr], rfl, by simp; omega, (sp'.trans (SameP.of (sN _))).mut, J, keep_ne (keep gtr fpr) nth, keep_ne (keep gd1 fpr) (fun z => by rw [z, hhl'] at gd1; cases gd1), keep_ne (keep gd2 fpr) (fun z => by rw [z, hhl'] at gd2; cases gd2), keep_ne (keep gdu fpr) ndu, keep_ne (keep gfo fpr) nfh, ffo⟩
    rintro σ' H' ⟨fo, hs', rfl, ehs, sp', I', gtr, gd1, gd2, gdu, gfo, ffo⟩
    refine r_cut (fun σ' H' => ∃ (fo : Addr) (hs' : List Addr), σ' = [some (.ref p), some (.ref st), some (.ref du), some (.ref tr), some (.ref fo)] ∧ hs'.length = hs.length + 3 ∧ SameP hl H H' ∧ I11 K a.c_Hand a.c_Log H' p dx lg st kl bd hl n c many g as hs' k ∧ H' tr = some (.lst [V.ref d1, .ref d2]) ∧ H' d1 = some (.dK (enc (foldT g.t g.ms))) ∧ H' d2 = some (.dK (enc (foldT g.t g.ms))) ∧ H' du = some (.dK (enc (foldT g.t g.ms))) ∧ H' fo = some (.lst (g.as.map V.ref)) ∧ H fo = none) ?_ ?_
    · have hst' := I'.est
      have hhl' := I'.eh
      have hp' := I'.D.hp
      have hkl' := I'.ek
      have lhs : (hs'.map V.ref).length ≤ 100000 := by rw [List.length_map]; omega
      have nth : tr ≠ hl := ne_of_none' I.eh ftr0
      have nfh : fo ≠ hl := ne_of_none' I.eh ffo
      os_names t_go
      rename_i pr fpr
      have fpr : H' pr = none := fpr
      have nprh : pr ≠ hl := ne_of_none' hhl' fpr
      have sN : ∀ o, Same H' (upd H' pr o) := fun o => Same.new (Same.refl _) fpr
      have hm : (hs' ++ [pr]).map V.ref = hs'.map V.ref ++ [V.ref pr] := by rw [List.map_append]; rfl
      have nd1 : d2 ≠ hl := fun z => by rw [z, hhl'] at gd2; cases gd2
      have ndu : du ≠ hl := fun z => by rw [z, hhl'] at gdu; cases gdu
      have fpr0 := I'.fresh fpr
      have J := (I'.same (sN (.tup [V.ref d2, .ref du]))).held (a := pr) (H' := upd (upd H' pr (.tup [V.ref d2, .ref du])) hl (.lst (hs'.map V.ref ++ [V.ref pr]))) (SameP.refl _ _).mut (by rw [hm]; exact upd_same) (fun H2 kx => pair_dict (kx _ _ fpr0 (keep_ne upd_same nprh)) (kx _ _ (I.fresh fd20) (keep_ne (keep gd2 fpr) nd1)) (kx _ _ (I.fresh fdu) (keep_ne (keep gdu fpr) ndu)) ndX) (by omega)
      exact ⟨fo, hs' ++ [pr], rfl, by simp; omega, (sp'.trans (SameP.of (sN _))).mut, J, keep_ne (keep gtr fpr) nth, keep_ne (keep gd1 fpr) (fun z => by rw [z, hhl'] at gd1; cases gd1), keep_ne (keep gd2 fpr) (fun z => by rw [z, hhl'] at gd2; cases gd2), keep_ne (keep gdu fpr) ndu, keep_ne (keep gfo fpr) nfh, ffo⟩
    rintro σ' H' ⟨fo, hs', rfl, ehs, sp', I', gtr, gd1, gd2, gdu, gfo, ffo⟩
    refine r_cut (fun σ' H' => ∃ (fo : Addr) (hs' : List Addr), σ' = [some (.ref p), some (.ref st), some (.ref du), some (.ref tr), some (.ref fo)] ∧ hs'.length = hs.length + 4 ∧ SameP hl H H' ∧ I11 K a.c_Hand a.c_Log H' p dx lg st kl bd hl n c many g as hs' k ∧ H' tr = some (.lst [V.ref d1, .ref d2]) ∧ H' d1 = some (.dK (enc (foldT g.t g.ms))) ∧ H' d2 = some (.dK (enc (foldT g.t g.ms))) ∧ H' du = some (.dK (enc (foldT g.t g.ms))) ∧ H' fo = some (.lst (g.as.map V.ref)) ∧ H fo = none) ?_ ?_
    · have hst' := I'.est
      have hhl' := I'.eh
      have hp' := I'.D.hp
      have hkl' := I'.ek
      have lhs : (hs'.map V.ref).length ≤ 100000 := by rw [List.length_map]; omega
      have nth : tr ≠ hl := ne_of_none' I.eh ftr0
      have nfh : fo ≠ hl := ne_of_none' I.eh ffo
      os_names t_go
      rename_i cp fcp pr fpr
      have fcp : H' cp = none := fcp
      have sC : Same H' (upd H' cp (.lst (as.map V.ref))) := Same.new (Same.refl _) fcp
      have fpr : (upd H' cp (.lst (as.map V.ref))) pr = none := fpr
      have fprH : H' pr = none := sC.free fpr
      have nprh : pr ≠ hl := ne_of_none' hhl' fprH
      have ncph : cp ≠ hl := ne_of_none' hhl' fcp
      have hm : (hs' ++ [pr]).map V.ref = hs'.map V.ref ++ [V.ref pr] := by rw [List.map_append]; rfl
      have sN : ∀ o, Same H' (upd (upd H' cp (.lst (as.map V.ref))) pr o) := fun o => Same.new sC fpr
      have fpr0 := I'.fresh fprH
      have fcp0 := I'.fresh fcp
      have ffo0 := I.fresh ffo
      have J := (I'.same (sN (.tup [V.ref fo, .ref cp]))).held (a := pr) (H' := upd (upd (upd H' cp (.lst (as.map V.ref))) pr (.tup [V.ref fo, .ref cp])) hl (.lst (hs'.map V.ref ++ [V.ref pr]))) (SameP.refl _ _).mut (by rw [hm]; exact upd_same) (fun H2 kx => by
        have nt : ∀ b vs, H' b = some (.tup vs) → H2 b = some (.tup vs) := fun b vs e => kx _ _ (I'.tup e) (keep_ne (keep (keep e fcp) fpr) fun z => by rw [z, hhl'] at e; cases e)
        exact pair_moves (kx _ _ fpr0 (keep_ne upd_same nprh)) (kx _ _ ffo0 (keep_ne (keep (keep gfo fcp) fpr) nfh)) (kx _ _ fcp0 (keep_ne (keep upd_same fpr) ncph)) (I'.D.L.hm.of nt) (I'.km.of nt)) (by omega)
      exact ⟨fo, hs' ++ [pr], rfl, by simp; omega, (sp'.trans (SameP.of (sN _))).mut, J, keep_ne (keep (keep gtr fcp) fpr) nth, keep_ne (keep (keep gd1 fcp) fpr) (fun z => by rw [z, hhl'] at gd1; cases gd1), keep_ne (keep (keep gd2 fcp) fpr) (fun z => by rw [z, hhl'] at gd2; cases gd2), keep_ne (keep (keep gdu fcp) fpr) (fun z => by rw [z, hhl'] at gdu; cases gdu), keep_ne (keep (keep gfo fcp) fpr) nfh, ffo⟩
    rintro σ' H' ⟨fo, hs', rfl, ehs, sp', I', gtr, gd1, gd2, gdu, gfo, ffo⟩
    have hst' := I'.est
    have hkl' := I'.ek
    os_names t_go
    exact ⟨fo, kl, g.as, as, g.ms, rfl, gfo, hkl', I'.D.L.hm, I'.km, by omega, q H' hs' sp' I' ehs⟩

theorem ok_settled11 (T : Txt K mg a) : FnOk P w K mg base (L2.CX P w) 6 a.f__law_settled a.d__law_settled ["_law_hand", "_law_state", "_law_pick", "_law_great"] (spSettled11 K a.c_Hand a.c_Log) := by
  have cLg := T.cl_Log
  have nLs := T.na_Log_since
  have nLb := T.na_Log_base
  have nLk := T.na_Log_kept
  have cHd := T.cl_Hand
  have nHn := T.na_Hand_number
  have nHc := T.na_Hand_clock
  have nHl := T.na_Hand_log
  have G__law_whole := ok_whole1 (P := P) (w := w) (base := base) T
  have G__law_fold := ok_fold (P := P) (w := w) (base := base) T
  have G_Hand_settle := ok_handSettle (P := P) (w := w) (base := base) T
  refine T.F__law_settled.okX sc__law_settled (fun vs H Q E h => ?_) (fun cdv A outer s H vs Q E hr h => ?_)
  · obtain ⟨p, dx, lg, st, kl, bd, hl, n, c, many, g, as, hs, k, pick, great, rfl, _⟩ := h
    rfl
  · obtain ⟨p, dx, lg, st, kl, bd, hl, n, c, many, g, as, hs, k, pick, great, rfl, I, hk2, q⟩ := h
    have hu := hu_of hr
    obtain ⟨i1, i2, i3⟩ := I.len
    have itl := I.tl
    have hp := I.D.hp
    have hst := I.est
    have hkl := I.ek
    refine ⟨_, (pss_cons (ps_set (i := 4) sc__law_settled.nd rfl (Or.inr rfl) (pe_callB (call_maxQ rfl) (by rfl) T.n_max (by decide +kernel) (pa_cons pe_int (pa_cons (pe_op op_sub (pe_op op_add (pe_dget hu (pv 1) pe_str (fun _ _ => rfl)) (pe_op op_mod (pv 2) pe_int)) pe_int) pa_nil))))
 (Evl.pss_cut (ps_if (PW.pt (pw_and (pt_val (pv 3)) (pw_and1 (pt_cmpR (op_eq) (pe_op op_mod (pe_op op_fdiv (pv 2) pe_int) pe_int) pe_int (nomark _))))) (pss_one (ps_set (i := 4) sc__law_settled.nd rfl (Or.inr rfl) (pe_op op_add (pe_op op_sub (pe_p10 (m := 1000000000000000000000000000000000000000000000000000000000000) (by decide +kernel)) pe_int) (pe_op op_mod (pe_op op_fdiv (pv 2) pe_int) pe_int)))) pss_nil)
 (pss_cons (ps_set (i := 5) sc__law_settled.nd rfl (Or.inl rfl) (pe_callB (call_lenQ) (by rfl) T.n_len (by decide +kernel) (pa_cons (pe_lc (own := [("_law_one", 7)]) (g := gName 7) rfl sc__law_settled.nd (pi_list (pe_dget hu (pv 1) pe_str (fun _ _ => rfl))) (blkOk_by (own := [("_law_one", 7)]) (N := n__law_settled) (sc := defScope s__law_settled) (by decide +kernel)) (fun _ _ _ _ _ => pg_name (i := 7) sc__law_settled.nd rfl (Or.inl rfl)) (fun _ _ _ _ _ => pts_one (pt_cmpR (op_lt) (pe_ix (ix_tupK (K := K) rfl) (pv 7) pe_int (fun _ _ => rfl)) (pv 4) (nomark _))) (fun _ _ _ _ _ => (pv 7))) pa_nil)))
 (pss_cons (ps_set (i := 6) sc__law_settled.nd rfl (Or.inl rfl) (pe_meth (pv 0) T.cl_Hand T.mt_Hand_settle G_Hand_settle (hr.mono (by decide)) T.b_Hand_settle .nil passL (pa_cons (pv 4) pa_nil)))
 (pss_cons (ps_if (PW.pt (pw_or (pt_not (pt_val (pe_call G__law_whole (hr.mono (by decide)) rfl T.g__law_whole T.k__law_whole T.b__law_whole .nil passL (pa_cons (pv 6) pa_nil)))) (pw_or1 (pt_cmpR (op_ne) (pv 6) (pv 5) (nomark _))))) (pss_one (ps_ret pe_bl)) pss_nil)
 (pss_cons (ps_dput hu (pv 1) pe_str (pe_call G__law_fold (hr.mono (by decide)) rfl T.g__law_fold T.k__law_fold T.b__law_fold .nil passL (pa_cons (pe_dget hu (pv 1) pe_str (fun _ _ => rfl)) (pa_cons (pe_slice sl_list (pe_dget hu (pv 1) pe_str (fun _ _ => rfl)) po_none (po_some (pv 5))) pa_nil))) rfl)
 (pss_cons (ps_dput hu (pv 1) pe_str (pe_slice sl_list (pe_dget hu (pv 1) pe_str (fun _ _ => rfl)) (po_some (pv 5)) po_none) rfl)
 (pss_cons (ps_dput hu (pv 1) pe_str (pe_callB (call_maxQ rfl) (by rfl) T.n_max (by decide +kernel) (pa_cons (pe_dget hu (pv 1) pe_str (fun _ _ => rfl)) (pa_cons (pv 4) pa_nil))) rfl)
 (pss_cons (ps_dput hu (pv 1) pe_str (pe_callB (call_maxQ rfl) (by rfl) T.n_max (by decide +kernel) (pa_cons (pe_dget hu (pv 1) pe_str (fun _ _ => rfl)) (pa_cons (pe_op op_sub (pv 4) pe_int) pa_nil))) rfl)
 (pss_one (ps_ret pe_bl))))))))))), ?_⟩
    os_names t_st
    change (_ : TS) _ [some _, some _, some _, some _, none, none, none, none] _
    os_names t_go
    refine r_cut (fun σ' H' => ∃ time : Int, 0 ≤ time ∧ H' = H ∧ σ' = [some (.ref p), some (.ref st), some (.int pick), some (.bl great), some (.int time), none, none, none]) ?_ ?_
    · cases great with
      | false =>
        os_names t_goi
        exact ⟨_, by omega, rfl, rfl⟩
      | true =>
        os_names t_goi
        os_names t_sp
        · os_names t_go
          exact ⟨_, by omega, rfl, rfl⟩
        · os_names t_go
          exact ⟨_, by omega, rfl, rfl⟩
    · rintro σ' H' ⟨time, ht0, rfl, rfl⟩
      os_names t_go
      refine r_lcL (xs := as.map V.ref) (fun D j H3 => ∃ xs, Same H' H3 ∧ H' D = none ∧ H3 D = some (.lst xs) ∧ xs.length = (g.ms.take j).countP fun m => decide (m.t < time)) (fun D hD => ⟨[], Same.new (Same.refl _) hD, hD, upd_same, by simp⟩) (SqL.of I.ek) (fun D j H3 _ ⟨_, hs, _⟩ => SqL.of (hs _ _ I.ek)) ?_ ?_
      · rintro D j x H3 hj ⟨xs, hs3, hD, hxs, hxl⟩
        obtain ⟨y, m, rfl, _, hm, hy⟩ := (I.km.same hs3).get hj
        have k0 := m.at0
        have hcl := List.countP_le_length (p := fun m : Mv => decide (m.t < time)) (l := g.ms.take j)
        rw [List.length_take] at hcl
        os_names t_go
        by_cases c : m.t < time
        · refine yes (d_t c) ?_
          os_names t_go
          refine r_acc hxs (lt_line (by omega)) ⟨_, Same.mut hs3 hD, hD, upd_same, ?_⟩
          rw [take_at hm, List.countP_append]
          simp [c, hxl]
        · refine no (d_f c) ?_
          refine ⟨_, hs3, hD, hxs, ?_⟩
          rw [take_at hm, List.countP_append]
          simp [c, hxl]
      rintro D H3 ⟨xs, hs3, hD, hxs, hxl⟩
      rw [List.length_map, i2, List.take_length, count_gone I.S] at hxl
      have I3 := I.same hs3
      have hp3 := I3.D.hp
      have hst3 := I3.est
      os_names t_go
      rw [hxl]
      os_names t_go
      refine ⟨p, dx, n, c, lg, g, time, rfl, I3.D, I.ac, by omega, fun b2 l2 H4 hb2 fl2 sp4 D4 => ?_⟩
      have hgl := goneM_le time g.ms
      have nst : st ≠ lg := fun z => by have e := I3.D.L.hp; rw [← z, hst3] at e; cases e
      have nsp : st ≠ p := fun z => by rw [z, hp3] at hst3; cases hst3
      have nk1 : kl ≠ lg := fun z => by have e := I3.D.L.hp; rw [← z, I3.ek] at e; cases e
      have nk2 : kl ≠ p := fun z => by have e := I3.ek; rw [z, hp3] at e; cases e
      have nb1 : bd ≠ lg := fun z => by have e := I3.D.L.hp; rw [← z, I3.eb] at e; cases e
      have nb2 : bd ≠ p := fun z => by have e := I3.eb; rw [z, hp3] at e; cases e
      have nh1 : hl ≠ lg := fun z => by have e := I3.D.L.hp; rw [← z, I3.eh] at e; cases e
      have nh2 : hl ≠ p := fun z => by have e := I3.eh; rw [z, hp3] at e; cases e
      have f1 := keep_ne (o := .ins a.c_Hand dx (hdF n (max c (time - 1)) lg)) (sp4 _ _ nst hst3) nsp
      have f2 := keep_ne (o := .ins a.c_Hand dx (hdF n (max c (time - 1)) lg)) (sp4 _ _ nk1 I3.ek) nk2
      have f3 := keep_ne (o := .ins a.c_Hand dx (hdF n (max c (time - 1)) lg)) (sp4 _ _ nb1 I3.eb) nb2
      have f4 := keep_ne (o := .ins a.c_Hand dx (hdF n (max c (time - 1)) lg)) (sp4 _ _ nh1 I3.eh) nh2
      have f5 : MvsAt (upd H4 p (.ins a.c_Hand dx (hdF n (max c (time - 1)) lg))) as g.ms := I3.km.of fun b vs e => keep_ne (sp4 _ _ (fun z => by have w := I3.D.L.hp; rw [← z, e] at w; cases w) e) fun z => by rw [z, hp3] at e; cases e
      have kx5 : Kx [p, lg, g.l, hl, st] H3 (upd H4 p (.ins a.c_Hand dx (hdF n (max c (time - 1)) lg))) := Kx.mut (by simp) (Kx.ofP (by simp) sp4)
      generalize upd H4 p (.ins a.c_Hand dx (hdF n (max c (time - 1)) lg)) = H5 at *
      generalize hgone : goneM time g.ms = gone at *
      os_names t_goi
      rename_i ks fks
      have fks : Fresh H5 ks := fks
      rw [cut_to (by rw [List.length_map]; omega), ← List.map_take]
      refine c_fold (t := g.t) (by os_names t_hp) upd_same ((f5.take gone).same (Same.new (Same.refl _) fks)) I.ac (by rw [List.length_take]; omega) fun bd' H6 fbd s6 ebd => ?_
      have s56 : Same H5 H6 := (Same.new (Same.refl _) fks).trans s6
      have g1 := s56 _ _ f1
      have g2 := s56 _ _ f2
      have g4 := s56 _ _ f4
      have g5 := f5.same s56
      have D6 := D4.same s56
      have nbs : bd' ≠ st := fun z => by
        have e : (upd H5 ks (.lst ((as.take gone).map V.ref))) st = some (.dK (stV n c g.s many kl bd hl)) := keep f1 fks
        rw [z, e] at fbd
        cases fbd
      os_names t_go
      refine r_dPutS g1 st_len ?_
      rw [sp_base]
      have kn : kl ≠ st := fun z => by rw [z, g1] at g2; cases g2
      have g2' : ∀ o, (upd H6 st o) kl = some (.lst (as.map V.ref)) := fun o => keep_ne g2 kn
      os_names t_go
      rename_i ks2 fk2
      have fk2 : (upd H6 st (.dK (stV n c g.s many kl bd' hl))) ks2 = none := fk2
      rw [cut_from (by rw [List.length_map]; omega), ← List.map_drop]
      have nks : ks2 ≠ st := fun z => by rw [z, upd_same] at fk2; cases fk2
      refine r_dPutS (keep upd_same fk2) st_len ?_
      rw [sp_kept]
      os_names t_go
      refine r_dPutS upd_same st_len ?_
      rw [sp_since]
      os_names t_go
      refine r_dPutS upd_same st_len ?_
      rw [sp_clock]
      os_names t_go
      have fk0 : H6 ks2 = none := by rw [upd_ne nks] at fk2; exact fk2
      have kp : ∀ b o, b ≠ st → H6 b = some o → (upd (upd (upd (upd (upd H6 st (.dK (stV n c g.s many kl bd' hl))) ks2 (.lst ((as.drop gone).map V.ref))) st (.dK (stV n c g.s many ks2 bd' hl))) st (.dK (stV n c (max g.s time) many ks2 bd' hl))) st (.dK (stV n (max c (time - 1)) (max g.s time) many ks2 bd' hl))) b = some o := fun b o nb e => keep_ne (keep_ne (keep_ne (keep (keep_ne e nb) fk2) nb) nb) nb
      have eks : (upd (upd (upd (upd (upd H6 st (.dK (stV n c g.s many kl bd' hl))) ks2 (.lst ((as.drop gone).map V.ref))) st (.dK (stV n c g.s many ks2 bd' hl))) st (.dK (stV n c (max g.s time) many ks2 bd' hl))) st (.dK (stV n (max c (time - 1)) (max g.s time) many ks2 bd' hl))) ks2 = some (.lst ((as.drop gone).map V.ref)) := keep_ne (keep_ne (keep_ne upd_same nks) nks) nks
      have est : (upd (upd (upd (upd (upd H6 st (.dK (stV n c g.s many kl bd' hl))) ks2 (.lst ((as.drop gone).map V.ref))) st (.dK (stV n c g.s many ks2 bd' hl))) st (.dK (stV n c (max g.s time) many ks2 bd' hl))) st (.dK (stV n (max c (time - 1)) (max g.s time) many ks2 bd' hl))) st = some (.dK (stV n (max c (time - 1)) (max g.s time) many ks2 bd' hl)) := upd_same
      have kxF : Kx [p, lg, g.l, hl, st] H' (upd (upd (upd (upd (upd H6 st (.dK (stV n c g.s many kl bd' hl))) ks2 (.lst ((as.drop gone).map V.ref))) st (.dK (stV n c g.s many ks2 bd' hl))) st (.dK (stV n c (max g.s time) many ks2 bd' hl))) st (.dK (stV n (max c (time - 1)) (max g.s time) many ks2 bd' hl))) :=
        Kx.mut (by simp) (Kx.mut (by simp) (Kx.mut (by simp) (Kx.new fk2 (Kx.mut (by simp) (((Kx.of hs3).trans kx5).trans (Kx.of s56))))))
      generalize upd (upd (upd (upd (upd H6 st (.dK (stV n c g.s many kl bd' hl))) ks2 (.lst ((as.drop gone).map V.ref))) st (.dK (stV n c g.s many ks2 bd' hl))) st (.dK (stV n c (max g.s time) many ks2 bd' hl))) st (.dK (stV n (max c (time - 1)) (max g.s time) many ks2 bd' hl)) = HF at *
      have nt : ∀ b o, H6 b = some o → (∀ k, o ≠ .dK k) → b ≠ st := fun b o e w z => by rw [z, g1] at e; exact w _ (Option.some.inj e).symm
      have egs : (g.settled b2 l2 time).ms = g.ms.drop gone := by unfold Lg.settled; simp only [hgone]
      have egt : (g.settled b2 l2 time).t = foldT g.t (g.ms.take gone) := by unfold Lg.settled; simp only [hgone]
      have ega : (g.settled b2 l2 time).as = g.as.drop gone := by unfold Lg.settled; simp only [hgone]
      have nb2s : b2 ≠ st := by
        rcases hb2 with z | z
        · rw [z]; exact I.x5
        · exact fun w => by rw [w, hst3] at z; cases z
      have D7 : HandAt a.c_Hand a.c_Log HF p dx n (max c (time - 1)) lg (g.settled b2 l2 time) :=
        ⟨kp _ _ (nt _ _ D6.hp fun k z => by cases z) D6.hp, ⟨kp _ _ (nt _ _ D6.L.hp fun k z => by cases z) D6.L.hp, kp _ _ nb2s D6.L.hb, kp _ _ (nt _ _ D6.L.hl fun k z => by cases z) D6.L.hl, D6.L.hm.of (fun b vs e => kp _ _ (nt _ _ e fun k z => by cases z) e)⟩, D6.ne⟩
      have fl0 : H' l2 = none := hs3.free fl2
      have nl2h : l2 ≠ hl := fun z => by rw [z, I3.eh] at fl2; cases fl2
      have nl2k : l2 ≠ ks2 := fun z => by
        have w := D6.L.hl
        rw [show (g.settled b2 l2 time).l = l2 from rfl, z, fk0] at w
        cases w
      have nkh : ks2 ≠ hl := fun z => by rw [z, g4] at fk0; cases fk0
      have tl2 := foldT_length g.t (g.ms.take gone)
      rw [List.length_take] at tl2
      refine q HF ks2 bd' (max c (time - 1)) (g.settled b2 l2 time) (as.drop gone) kxF ⟨D7, by rw [egs]; exact I.S.drop _, fun m hm => I.ok m (List.mem_of_mem_drop (egs ▸ hm)), by rw [egt]; exact I.ac.foldT _, by rw [egt]; exact I.nd.foldT _, est, by rw [egt]; exact kp _ _ nbs ebd, eks, by rw [egs]; exact (g5.drop gone).of fun b vs e => kp _ _ (nt _ _ e fun k z => by cases z) e, kp _ _ (nt _ _ g4 fun k z => by cases z) g4, ?_, fun m hm => ?_, ?_, ?_, ?_, I.n0, I.n1, ?_, I.hn, nl2h, nl2k, nkh, nbs, nb2s⟩ (.inr fl0)
      · refine fun a ha H2 k2 => I.hd a ha H2 fun b o nb e => k2 b o (fun hb => ?_) (kxF b o nb e)
        have hb : b ∈ [p, lg, l2, hl, st] := hb
        simp only [List.mem_cons, List.not_mem_nil, or_false] at hb nb
        rcases hb with z | z | z | z | z
        · exact nb (.inl z)
        · exact nb (.inr (.inl z))
        · rw [z, fl0] at e; cases e
        · exact nb (.inr (.inr (.inr (.inl z))))
        · exact nb (.inr (.inr (.inr (.inr z))))
      · have := I.le m (List.mem_of_mem_drop (egs ▸ hm))
        omega
      · show max g.s time ≤ _
        have := I.sc
        omega
      · show 0 ≤ max g.s time
        omega
      · have := I.c0
        omega
      · rw [egt, ega, List.length_drop]
        omega
theorem ok_heardH (T : Txt K mg a) : FnOk P w K mg base (L2.CX P w) 5 a.f__law_heard a.d__law_heard ["_law_log", "_law_move"] (spHeardH a.c_Hand a.c_Log a.c_NoMove a.c_TooLate a.c_Clash) := by
  have cLg := T.cl_Log
  have nLs := T.na_Log_since
  have nLb := T.na_Log_base
  have nLk := T.na_Log_kept
  have cHd := T.cl_Hand
  have nHn := T.na_Hand_number
  have nHc := T.na_Hand_clock
  have nHl := T.na_Hand_log
  have G_Hand_hear := ok_handHear (P := P) (w := w) (base := base) T
  refine T.F__law_heard.okX sc__law_heard (fun vs H Q E h => ?_) (fun cdv A outer s H vs Q E hr h => ?_)
  · obtain ⟨p, dx, n, c, lg, g, x, rfl, _⟩ := h
    rfl
  · obtain ⟨p, dx, n, c, lg, g, x, rfl, D, r⟩ := id h
    have hp := D.hp
    refine ⟨_, (pss_one (ps_try_many rfl rfl (takes_of rfl rfl rfl rfl) (fun W pn xe tk _ => (pss_one (ps_ret (pe_methS (pv 0) T.cl_Hand T.mt_Hand_hear G_Hand_hear (hr.mono (by decide)) T.b_Hand_hear (fun σ => passAt tk σ) (pa_cons (pv 1) pa_nil))))) (HdsOk.cons ⟨rfl, by decide, .inl T.g_NoHand⟩ (fun a0 oe cls d pn hz hf => (pss_one (ps_ret pe_str))) (HdsOk.cons ⟨rfl, by decide, .inl T.g_Clash⟩ (fun a0 oe cls d pn hz hf => (pss_one (ps_ret pe_str))) (HdsOk.cons ⟨rfl, by decide, .inl T.g_TooLate⟩ (fun a0 oe cls d pn hz hf => (pss_one (ps_ret pe_str))) (HdsOk.cons ⟨rfl, by decide, .inl T.g_NoMove⟩ (fun a0 oe cls d pn hz hf => (pss_one (ps_ret pe_str))) HdsOk.nil)))))), ?_⟩
    os_names t_st
    change (_ : TS) _ [some _, some _] _
    os_names t_go
    refine spHandHear.mono h (fun _ _ z => z) (fun z => ?_) (fun z => ?_) (fun z => ?_)
    · exact w_miss T.ex_NoMove_NoHand (w_miss T.ex_NoMove_Clash (w_miss T.ex_NoMove_TooLate (w_hit T.ex_NoMove_NoMove fun a0 _ => z.1 rfl)))
    · exact w_miss T.ex_TooLate_NoHand (w_miss T.ex_TooLate_Clash (w_hit T.ex_TooLate_TooLate fun a0 _ => z.2.1 rfl))
    · exact w_miss T.ex_Clash_NoHand (w_hit T.ex_Clash_Clash fun a0 _ => z.2.2 rfl)
theorem ok_answer (T : Txt K mg a) : FnOk P w K mg base (L2.CX P w) 1 a.f__law_answer a.d__law_answer ["_law_found", "_law_due"] spAnswer := by
  refine T.F__law_answer.okX sc__law_answer (fun vs H Q E h => ?_) (fun cdv A outer s H vs Q E hr h => ?_)
  · obtain ⟨x, rfl, _⟩ := h
    rfl
  · obtain ⟨x, rfl, hx, q⟩ := h
    refine ⟨_, (pss_cons (ps_if (pt_val (pe_callB (call_isi) (by rfl) T.n_isinstance (by decide +kernel) (pa_cons (pv 1) (pa_cons (pe_bltn (v := .ty "str") (by rfl) T.n_str (by decide +kernel) rfl) pa_nil)))) (pss_one (ps_ret (pe_and (pe_callB (call_isi) (by rfl) T.n_isinstance (by decide +kernel) (pa_cons (pv 0) (pa_cons (pe_bltn (v := .ty "str") (by rfl) T.n_str (by decide +kernel) rfl) pa_nil))) (pe_one (pe_cmpR (op_eq) (pv 0) (pv 1) (nomark _)))))) pss_nil)
 (pss_one (ps_ret (pe_and (pe_callB (call_isi) (by rfl) T.n_isinstance (by decide +kernel) (pa_cons (pv 0) (pa_cons (pe_bltn (v := .ty "bool") (by rfl) T.n_bool (by decide +kernel) rfl) pa_nil))) (pe_one (pe_cmpR (op_eq) (pv 0) (pv 1) (nomark _))))))), ?_⟩
    os_names t_st
    change (_ : TS) _ [some _, some _] _
    rcases hx with ⟨b, rfl⟩ | ⟨z, rfl⟩
    · os_names t_all
      exact Qbl q (by simp)
    · os_names t_all
      exact Qbl q (by simp)
theorem ok_clash (T : Txt K mg a) : FnOk P w K mg base (L2.CX P w) 1 a.f__law_clash a.d__law_clash ["_law_moves", "_law_move"] spClash := by
  refine T.F__law_clash.okX sc__law_clash (fun vs H Q E h => ?_) (fun cdv A outer s H vs Q E hr h => ?_)
  · obtain ⟨p, x, _, _, _, rfl, _⟩ := h
    rfl
  · obtain ⟨p, x, as, ms, m, rfl, hp, hm, hx, hlen, q⟩ := h
    have hlm := hm.length
    have c2 : ∀ n : Mv, cutV n.vs none (some 2) = [.int n.t, .int n.h] := fun n => rfl
    refine ⟨_, (pss_one (ps_ret (pe_cmpR (op_neD (T64 hr)) (pe_lc (own := [("_law_one", 2)]) (g := gName 2) rfl sc__law_clash.nd (pi_list (pv 0)) (blkOk_by (own := [("_law_one", 2)]) (N := n__law_clash) (sc := defScope s__law_clash) (by decide +kernel)) (fun _ _ _ _ _ => pg_name (i := 2) sc__law_clash.nd rfl (Or.inl rfl)) (fun _ _ _ _ _ => pts_one (PW.pt (pw_and (pt_cmpR (op_eqDK (K := K) rfl (T64 hr)) (pe_slice (sl_tupAK (K := K) rfl) (pv 2) po_none (po_some pe_int)) (pe_slice (sl_tupAK (K := K) rfl) (pv 1) po_none (po_some pe_int)) (nomark _)) (pw_and1 (pt_cmpR (op_neDK (K := K) rfl (T64 hr)) (pv 2) (pv 1) (nomark _)))))) (fun _ _ _ _ _ => (pv 2))) (pe_lst pa_nil) (nomark _)))), ?_⟩
    os_names t_st
    change (_ : TS) _ [some _, some _, none] _
    os_names t_go
    refine r_lcL (xs := as.map V.ref) (fun D i H' => H D = none ∧ ∃ bs ns, Same H H' ∧ H' D = some (.lst (bs.map V.ref)) ∧ MvsAt H' bs ns ∧ bs.length ≤ i ∧ (bs = [] ↔ clashB m (ms.take i) = false)) (fun D hD => ⟨hD, [], [], Same.new (Same.refl _) hD, upd_same, rfl, Nat.le_refl _, by simp [clashB]⟩) (SqL.of hp) (fun D i H' _ ⟨hD, _, _, hs, _⟩ => SqL.of (hs _ _ hp)) ?_ ?_
    · rintro D i y H' hi ⟨hD, bs, ns, hs, hb, hbm, hbl, hbs⟩
      rw [List.getElem?_map] at hi
      cases e : as[i]? with
      | none => rw [e] at hi; cases hi
      | some y' =>
        rw [e] at hi
        cases hi
        obtain ⟨n, hn, hy⟩ := (hm.same hs).at_a e
        have hil : i < as.length := (List.getElem?_eq_some_iff.mp e).1
        have hx' := hs _ _ hx
        have e3 : clashB m (ms.take (i + 1)) = (clashB m (ms.take i) || (decide (SameK n m) && !decide (n = m))) := by
          unfold clashB
          rw [List.take_succ, hn, List.any_append]
          simp
        os_names t_go
        refine r_slTs hy fun u1 H1 s1 e1 => ?_
        os_names t_go
        refine r_slTs (s1 _ _ hx') fun u2 H2 s2 e2 => ?_
        rw [c2] at e1 e2
        os_names t_go
        refine r_eqP (s2 _ _ e1) e2 ?_
        os_names t_go
        have hs2 : Same H H2 := hs.trans (s1.trans s2)
        have hb2 := (s1.trans s2) _ _ hb
        have hbm2 := hbm.same (s1.trans s2)
        by_cases c : SameK n m
        · rw [decide_eq_true (show n.t = m.t ∧ n.h = m.h from c)]
          os_names t_go
          refine r_neMv ((s1.trans s2) _ _ hy) ((s1.trans s2) _ _ hx') ?_
          os_names t_go
          by_cases d : n = m
          · rw [decide_eq_true d]
            refine no rfl ?_
            exact ⟨hD, bs, ns, hs2, hb2, hbm2, by omega, by rw [hbs, e3]; simp [d]⟩
          · rw [decide_eq_false d]
            refine yes rfl ?_
            os_names t_go
            refine r_acc hb2 (lt_line (by rw [List.length_map]; omega)) ?_
            refine ⟨hD, bs ++ [y'], ns ++ [n], Same.mut hs2 hD, by rw [List.map_append]; exact upd_same, (hbm2.snoc ((s1.trans s2) _ _ hy)).of fun b vs eb => keep_ne eb fun z => ?_, by simp; omega, ?_⟩
            · rw [z, hb2] at eb
              cases eb
            · rw [e3]
              simp [c, d]
        · rw [decide_eq_false (show ¬ (n.t = m.t ∧ n.h = m.h) from c)]
          os_names t_go
          refine no rfl ?_
          exact ⟨hD, bs, ns, hs2, hb2, hbm2, by omega, by rw [hbs, e3]; simp [c]⟩
    · rintro D H' ⟨hD, bs, ns, hs, hb, hbm, hbl, hbs⟩
      rw [List.length_map, hlm, List.take_length] at hbs
      os_names t_go
      rename_i e he
      refine r_neNil (keep hb he) (hbm.same (Same.new (Same.refl _) he)) upd_same ?_
      have e4 : (!decide (bs = [])) = clashB m ms := by
        cases c : clashB m ms with
        | true => rw [c] at hbs; simp at hbs; simp [hbs]
        | false => simp [hbs.mpr c]
      rw [e4]
      exact q _ (Same.new hs he)

theorem ok_own (T : Txt K mg a) : FnOk P w K mg base (L2.CX P w) 5 a.f__law_own a.d__law_own ["_law_hand", "_law_state", "_law_pick", "_law_cell"] (spOwn K a.c_Hand a.c_Log) := by
  have cLg := T.cl_Log
  have nLs := T.na_Log_since
  have nLb := T.na_Log_base
  have nLk := T.na_Log_kept
  have cHd := T.cl_Hand
  have nHn := T.na_Hand_number
  have nHc := T.na_Hand_clock
  have nHl := T.na_Hand_log
  have G__law_name := ok_name (P := P) (w := w) (base := base) T
  have G__law_told := ok_told (P := P) (w := w) (base := base) T
  have G__law_same_move := ok_sameMove (P := P) (w := w) (base := base) T
  have G_Hand_move := ok_handMove (P := P) (w := w) (base := base) T
  refine T.F__law_own.okX sc__law_own (fun vs H Q E h => ?_) (fun cdv A outer s H vs Q E hr h => ?_)
  · obtain ⟨p, dx, lg, st, kl, bd, hl, n, c, many, g, as, hs, k, pick, cell, rfl, _⟩ := h
    rfl
  · obtain ⟨p, dx, lg, st, kl, bd, hl, n, c, many, g, as, hs, k, pick, cell, rfl, I, hk2, hm1, hm2, hp0, q⟩ := h
    have hu := hu_of hr
    obtain ⟨i1, i2, i3⟩ := I.len
    have hp := I.D.hp
    have hst := I.est
    have m0 := Int.emod_nonneg pick (show many ≠ 0 by omega)
    have m1 := Int.emod_lt_of_pos pick (show 0 < many by omega)
    have m2 := Int.emod_nonneg (pick / 7) (show many ≠ 0 by omega)
    have m3 := Int.emod_lt_of_pos (pick / 7) (show 0 < many by omega)
    refine ⟨_, (pss_cons (ps_set (i := 4) sc__law_own.nd rfl (Or.inl rfl) (pe_call G__law_name (hr.mono (by decide)) rfl T.g__law_name T.k__law_name T.b__law_name .nil passL (pa_cons (pe_op op_mod (pv 2) (pe_dget hu (pv 1) pe_str (fun _ _ => rfl))) (pa_cons (pv 3) pa_nil))))
 (pss_cons (ps_set (i := 5) sc__law_own.nd rfl (Or.inl rfl) (pe_op op_mul (pe_call G__law_name (hr.mono (by decide)) rfl T.g__law_name T.k__law_name T.b__law_name .nil passL (pa_cons (pe_op op_mod (pe_op op_fdiv (pv 2) pe_int) (pe_dget hu (pv 1) pe_str (fun _ _ => rfl))) (pa_cons (pv 3) pa_nil))) (pe_op op_mod (pe_op op_mod (pe_op op_fdiv (pv 2) pe_int) pe_int) pe_int)))
 (Evl.pss_cut (ps_if (pt_cmpR (op_eq) (pe_op op_mod (pe_op op_fdiv (pv 2) pe_int) pe_int) pe_int (nomark _)) (pss_cons (ps_set (i := 4) sc__law_own.nd rfl (Or.inl rfl) (pe_ix ix_list (pe_lst (pa_cons pe_int (pa_cons (pe_un un_neg pe_int) (pa_cons (pe_op op_add (pe_p10 (m := 1000000000000000000000000000000000000000000000000000000000000) (by decide +kernel)) pe_int) (pa_cons pe_bl (pa_cons pe_non (pa_cons pe_int (pa_cons pe_int (pa_cons pe_int (pa_cons pe_int pa_nil)))))))))) (pe_op op_mod (pe_op op_fdiv (pv 2) pe_int) pe_int) (fun _ _ => rfl)))
 (pss_one (ps_set (i := 5) sc__law_own.nd rfl (Or.inl rfl) (pe_ix ix_list (pe_lst (pa_cons pe_int (pa_cons pe_int (pa_cons pe_int (pa_cons pe_int (pa_cons pe_int (pa_cons (pe_un un_neg pe_int) (pa_cons (pe_op op_add (pe_p10 (m := 1000000000000000000000000000000000000000000000000000000000000) (by decide +kernel)) pe_int) (pa_cons pe_bl (pa_cons pe_non pa_nil)))))))))) (pe_op op_mod (pe_op op_fdiv (pv 2) pe_int) pe_int) (fun _ _ => rfl))))) pss_nil)
 (pss_cons (ps_set (i := 6) sc__law_own.nd rfl (Or.inl rfl) (pe_tup (pa_cons (pe_op op_add (pe_dget hu (pv 1) pe_str (fun _ _ => rfl)) pe_int) (pa_cons (pe_dget hu (pv 1) pe_str (fun _ _ => rfl)) (pa_cons (pv 4) (pa_cons (pv 5) pa_nil))))))
 (pss_cons (ps_set (i := 7) sc__law_own.nd rfl (Or.inl rfl) pe_non)
 (pss_cons (ps_try_many rfl rfl (takes_of rfl rfl rfl rfl) (fun W pn xe tk _ => (pss_one (ps_set (i := 7) sc__law_own.nd rfl (Or.inl rfl) (pe_methS (pv 0) T.cl_Hand T.mt_Hand_move G_Hand_move (hr.mono (by decide)) T.b_Hand_move (fun σ => passAt tk σ) (pa_cons (pv 4) (pa_cons (pv 5) pa_nil)))))) (HdsOk.cons ⟨rfl, by decide, .inl T.g_NoMove⟩ (fun a0 oe cls d pn hz hf => (pss_one (ps_ret (pe_or (pe_cmpR (op_eq) (pe_op op_mod (pe_op op_fdiv (pv 2) pe_int) pe_int) pe_int (nomark _)) (pe_one (pe_cmpR (op_gt) (pe_ix (ix_tupK (K := K) rfl) (pv 6) pe_int (fun _ _ => rfl)) (pe_p10 (m := 1000000000000000000000000000000000000000000000000000000000000) (by decide +kernel)) (nomark _))))))) HdsOk.nil))
 (pss_cons (ps_if (PW.pt (pw_or (pt_cmpR (op_eq) (pe_op op_mod (pe_op op_fdiv (pv 2) pe_int) pe_int) pe_int (nomark _)) (pw_or (pt_cmpR (op_gt) (pe_ix ix_tup (pv 6) pe_int (fun _ _ => rfl)) (pe_p10 (m := 1000000000000000000000000000000000000000000000000000000000000) (by decide +kernel)) (nomark _)) (pw_or1 (pt_not (pt_val (pe_call G__law_same_move (hr.mono (by decide)) rfl T.g__law_same_move T.k__law_same_move T.b__law_same_move .nil passL (pa_cons (pv 7) (pa_cons (pv 6) pa_nil))))))))) (pss_one (ps_ret pe_bl)) pss_nil)
 (pss_cons (ps_dput hu (pv 1) pe_str (pe_call G__law_told (hr.mono (by decide)) rfl T.g__law_told T.k__law_told T.b__law_told .nil passL (pa_cons (pe_dget hu (pv 1) pe_str (fun _ _ => rfl)) (pa_cons (pv 6) pa_nil))) rfl)
 (pss_cons (ps_dput hu (pv 1) pe_str (pe_ix ix_tup (pv 6) pe_int (fun _ _ => rfl)) rfl)
 (pss_one (ps_ret pe_bl))))))))))), ?_⟩
    os_names t_st
    change (_ : TS) _ [some _, some _, some _, some _, none, none, none, none] _
    os_names t_go
    have hz : pick / 49 % 4 % 2 = 0 ∨ pick / 49 % 4 % 2 = 1 := by omega
    have f1 := name_pos (k := pick % many) (c := cell) (by omega) (by omega)
    have f2 := name_le (k := pick % many) (c := cell) (by omega) (by omega)
    have u1 := name_pos (k := pick / 7 % many) (c := cell) (by omega) (by omega)
    have u2 := name_le (k := pick / 7 % many) (c := cell) (by omega) (by omega)
    refine r_cut (fun σ' H' => ∃ f u : V, σ' = [some (.ref p), some (.ref st), some (.int pick), some (.int cell), some f, some u, none, none] ∧ Same H H' ∧ ((pick / 196 % 5 = 1 ∧ (∀ H, KnownV H f ∧ KnownV H u) ∧ ∀ t n : Int, moveB [.int t, .int n, f, u] = false) ∨ (¬ pick / 196 % 5 = 1 ∧ ∃ fi ui : Int, f = .int fi ∧ u = .int ui ∧ 1 ≤ fi ∧ fi ≤ E60 ∧ 0 ≤ ui ∧ ui ≤ E60))) ?_ ?_
    · obtain ⟨bf, bu, b1, b2, b3, b4⟩ := own_bad (i := pick / 980 % 9) (by omega) (by omega)
      os_names t_go
      os_names t_sp
      · os_names t_go
        exact ⟨_, _, rfl, by os_names t_sm, .inl ⟨by assumption, b3, b4⟩⟩
      · os_names t_go
        refine ⟨_, _, rfl, by os_names t_sm, .inr ⟨by assumption, _, _, rfl, rfl, f1, f2, ?_, ?_⟩⟩
        · rcases hz with e | e <;> rw [e] <;> omega
        · rcases hz with e | e <;> rw [e] <;> omega
    · rintro σ' H1 ⟨f, u, rfl, s1, hfu⟩
      have I1 := I.same s1
      have hst1 := I1.est
      have hp1 := I1.D.hp
      os_names t_go
      rename_i du fdu
      have fdu : Fresh H1 du := fdu
      have sN : Same H1 (upd H1 du (.tup [.int (c + 1), .int n, f, u])) := Same.new (Same.refl _) fdu
      have I2 := I1.same sN
      have sH2 := s1.trans sN
      have kf : KnownV (upd H1 du (.tup [.int (c + 1), .int n, f, u])) f := by
        rcases hfu with ⟨_, h, _⟩ | ⟨_, fi, ui, rfl, rfl, _⟩
        · exact (h _).1
        · trivial
      have ku : KnownV (upd H1 du (.tup [.int (c + 1), .int n, f, u])) u := by
        rcases hfu with ⟨_, h, _⟩ | ⟨_, fi, ui, rfl, rfl, _⟩
        · exact (h _).2
        · trivial
      have edu : (upd H1 du (.tup [.int (c + 1), .int n, f, u])) du = some (.tup [.int (c + 1), .int n, f, u]) := upd_same
      generalize upd H1 du (.tup [.int (c + 1), .int n, f, u]) = H2 at *
      refine ⟨p, dx, n, c, lg, g, f, u, rfl, I2.D, I.S, by omega, kf, ku, I.n0, I.n1, I.c0, I.sc, I.le, ?_⟩
      rcases hfu with ⟨hb, _, b4⟩ | ⟨hb, fi, ui, rfl, rfl, v1, v2, v3, v4⟩
      · refine .inl ⟨b4 _ _, fun H3 s3 => ?_⟩
        refine w_hit T.ex_NoMove_NoMove fun a0 fa0 => ?_
        os_names t_go
        refine s_orV ?_
        os_names t_goi
        exact q H3 kl c g as (Kx.of (sH2.trans s3)) ((I2.same s3).up (by omega)) rfl
      · by_cases hc : c + 1 ≤ E60
        · have hcl : ¬ (1000000000000000000000000000000000000000000000000000000000000 : Int) < c + 1 := by have z := hc; simp only [E60] at z; omega
          have ok : (Mv.mk (c + 1) n fi ui).Ok := ⟨by have := I.c0; show 1 ≤ c + 1; omega, hc, I.n0, I.n1, v1, v2, v3, v4⟩
          refine .inr ⟨fi, ui, rfl, rfl, ok, fun y Hx H3 fy sx ey e3 D3 => ?_⟩
          have Ix := I2.same sx
          have up : ∀ b o, b ≠ g.l → b ≠ p → Hx b = some o → H3 b = some o := fun b o n1 n2 e => by rw [e3]; exact keep_ne (keep_ne e n1) n2
          have ngl : ∀ b o, Hx b = some o → (∀ xs, o ≠ .lst xs) → b ≠ g.l := fun b o e w z => by have e2 := Ix.D.L.hl; rw [← z, e] at e2; exact w _ (Option.some.inj e2)
          have np : ∀ b o, Hx b = some o → (∀ C d f, o ≠ .ins C d f) → b ≠ p := fun b o e w z => by have e2 := Ix.D.hp; rw [← z, e] at e2; exact w _ _ _ (Option.some.inj e2)
          have nwm : NewM (Mv.mk (c + 1) n fi ui) g.ms := fun x hx k => by
            have z := I.le x hx
            have w : x.t = c + 1 := k.1
            omega
          have ey3 : H3 y = some (.tup (Mv.mk (c + 1) n fi ui).vs) := up _ _ (ngl _ _ ey fun _ z => by cases z) (np _ _ ey fun _ _ _ z => by cases z) ey
          have edx := sx _ _ edu
          have edu3 : H3 du = some (.tup (Mv.mk (c + 1) n fi ui).vs) := up _ _ (ngl _ _ edx fun _ z => by cases z) (np _ _ edx fun _ _ _ z => by cases z) edx
          have est3 := up _ _ (ngl _ _ Ix.est fun _ z => by cases z) (np _ _ Ix.est fun _ _ _ z => by cases z) Ix.est
          have ekl3 := up _ _ I.x2.symm (np _ _ Ix.ek fun _ _ _ z => by cases z) Ix.ek
          have ekm3 : MvsAt H3 as g.ms := Ix.km.of fun b vs e => up _ _ (ngl _ _ e fun _ z => by cases z) (np _ _ e fun _ _ _ z => by cases z) e
          have k0 : atI (Mv.mk (c + 1) n fi ui).vs 0 = some (.int (c + 1)) := (Mv.mk (c + 1) n fi ui).at0
          os_names t_goi
          refine c_sameMove ey3 edu3 ?_
          os_names t_goi
          refine c_told ekl3 ekm3 edu3 (by omega) fun kl2 H4 s4 fk4 ek4 => ?_
          have est4 := s4 _ _ est3
          have edu4 := s4 _ _ edu3
          have nds : du ≠ st := fun z => by rw [z, est4] at edu4; cases edu4
          os_names t_go
          refine r_dPutS est4 st_len ?_
          rw [sp_kept]
          os_names t_go
          refine r_dPutS upd_same st_len ?_
          rw [sp_clock]
          os_names t_go
          obtain ⟨kx, I'⟩ := I2.own ok ⟨by have := I.sc; show g.s ≤ c + 1; omega, nwm⟩ (c' := c + 1) ⟨by omega, Int.le_refl _⟩ sx edx e3 D3 s4 fk4 ek4 rfl
          exact q _ kl2 (c + 1) _ _ ((Kx.of sH2).trans kx) I' rfl
        · have hcl : (1000000000000000000000000000000000000000000000000000000000000 : Int) < c + 1 := by have z := hc; simp only [E60] at z; omega
          have hb2 : moveB [.int (c + 1), .int n, .int fi, .int ui] = false := by
            have : ¬ c + 1 ≤ E60 := hc
            simp only [moveB, isW]
            simp [this]
          refine .inl ⟨hb2, fun H3 s3 => ?_⟩
          have edu3 := s3 _ _ edu
          refine w_hit T.ex_NoMove_NoMove fun a0 fa0 => ?_
          os_names t_go
          refine s_orV ?_
          os_names t_goi
          exact Qbl (q H3 kl c g as (Kx.of (sH2.trans s3)) ((I2.same s3).up (by omega)) rfl) (decide_eq_true hcl)

theorem ok_other (T : Txt K mg a) : FnOk P w K mg base (L2.CX P w) 6 a.f__law_other a.d__law_other ["_law_hand", "_law_state", "_law_pick", "_law_cell"] (spOther K a.c_Hand a.c_Log) := by
  have cLg := T.cl_Log
  have nLs := T.na_Log_since
  have nLb := T.na_Log_base
  have nLk := T.na_Log_kept
  have cHd := T.cl_Hand
  have nHn := T.na_Hand_number
  have nHc := T.na_Hand_clock
  have nHl := T.na_Hand_log
  have G__law_name := ok_name (P := P) (w := w) (base := base) T
  have G__law_told := ok_told (P := P) (w := w) (base := base) T
  have G__law_clash := ok_clash (P := P) (w := w) (base := base) T
  have G__law_answer := ok_answer (P := P) (w := w) (base := base) T
  have G__law_heard := ok_heardH (P := P) (w := w) (base := base) T
  have ap : ApartE a.c_NoMove a.c_TooLate a.c_Clash := by
    have z1 := T.ex_NoMove_NoMove
    have z2 := T.ex_TooLate_NoMove
    have z3 := T.ex_Clash_NoMove
    have z4 := T.ex_TooLate_TooLate
    have z5 := T.ex_Clash_TooLate
    refine ⟨fun e => ?_, fun e => ?_, fun e => ?_⟩
    · rw [← e, z1] at z2; cases z2
    · rw [← e, z1] at z3; cases z3
    · rw [← e, z4] at z5; cases z5
  refine T.F__law_other.okX sc__law_other (fun vs H Q E h => ?_) (fun cdv A outer s H vs Q E hr h => ?_)
  · obtain ⟨p, dx, lg, st, kl, bd, hl, n, c, many, g, as, hs, k, pick, cell, rfl, _⟩ := h
    rfl
  · obtain ⟨p, dx, lg, st, kl, bd, hl, n, c, many, g, as, hs, k, pick, cell, rfl, I, hk2, hn2, hp0, q⟩ := h
    have hu := hu_of hr
    obtain ⟨i1, i2, i3⟩ := I.len
    have hst := I.est
    have c0 := I.c0
    have n0 := I.n0
    refine ⟨_, (pss_cons (ps_set (i := 4) sc__law_other.nd rfl (Or.inl rfl) (pe_dget hu (pv 1) pe_str (fun _ _ => rfl)))
 (pss_cons (ps_set (i := 5) sc__law_other.nd rfl (Or.inl rfl) (pe_callB (call_minQ rfl) (by rfl) T.n_min (by decide +kernel) (pa_cons (pe_p10 (m := 1000000000000000000000000000000000000000000000000000000000000) (by decide +kernel)) (pa_cons (pe_callB (call_maxQ rfl) (by rfl) T.n_max (by decide +kernel) (pa_cons pe_int (pa_cons (pe_op op_sub (pe_op op_add (pe_dget hu (pv 1) pe_str (fun _ _ => rfl)) (pe_op op_mod (pe_op op_fdiv (pv 2) pe_int) pe_int)) pe_int) pa_nil))) pa_nil))))
 (pss_cons (ps_set (i := 6) sc__law_other.nd rfl (Or.inl rfl) (pe_tup (pa_cons (pv 5) (pa_cons (pe_op op_add (pe_dget hu (pv 1) pe_str (fun _ _ => rfl)) (pe_op op_mod (pe_op op_fdiv (pv 2) pe_int) pe_int)) (pa_cons (pe_call G__law_name (hr.mono (by decide)) rfl T.g__law_name T.k__law_name T.b__law_name .nil passL (pa_cons (pe_op op_mod (pe_op op_fdiv (pv 2) pe_int) pe_int) (pa_cons (pv 3) pa_nil))) (pa_cons (pe_call G__law_name (hr.mono (by decide)) rfl T.g__law_name T.k__law_name T.b__law_name .nil passL (pa_cons pe_int (pa_cons (pv 3) pa_nil))) pa_nil))))))
 (Evl.pss_cut (ps_if (PW.pt (pw_and (pt_cmpR (op_eq) (pe_op op_mod (pv 2) pe_int) pe_int (nomark _)) (pw_and1 (pt_cmpR (op_gt) (pe_callB (call_lenQ) (by rfl) T.n_len (by decide +kernel) (pa_cons (pv 4) pa_nil)) pe_int (nomark _))))) (pss_one (ps_set (i := 6) sc__law_other.nd rfl (Or.inl rfl) (pe_ix ix_list (pv 4) (pe_op op_mod (pe_op op_fdiv (pv 2) pe_int) (pe_callB (call_lenQ) (by rfl) T.n_len (by decide +kernel) (pa_cons (pv 4) pa_nil))) (fun _ _ => rfl)))) pss_nil)
 (pss_cons (ps_set (i := 7) sc__law_other.nd rfl (Or.inl rfl) (pe_cmpR (op_notInD (T65 hr)) (pv 6) (pv 4) rfl))
 (Evl.pss_cut (ps_if (pt_val (pe_call G__law_clash (hr.mono (by decide)) rfl T.g__law_clash T.k__law_clash T.b__law_clash .nil passL (pa_cons (pv 4) (pa_cons (pv 6) pa_nil)))) (pss_one (ps_set (i := 7) sc__law_other.nd rfl (Or.inl rfl) pe_str)) pss_nil)
 (Evl.pss_cut (ps_if (pt_cmpR (op_lt) (pe_ix ix_tup (pv 6) pe_int (fun _ _ => rfl)) (pe_dget hu (pv 1) pe_str (fun _ _ => rfl)) (nomark _)) (pss_one (ps_set (i := 7) sc__law_other.nd rfl (Or.inl rfl) pe_str)) pss_nil)
 (Evl.pss_cut (ps_if (pt_cmpR (op_eq) (pe_op op_mod (pe_op op_fdiv (pv 2) pe_int) pe_int) pe_int (nomark _)) (pss_cons (ps_set (i := 8) sc__law_other.nd rfl (Or.inl rfl) (pe_lst (pa_cons (pe_op op_catA (pe_tup (pa_cons (pe_op op_add (pe_op op_add (pe_p10 (m := 1000000000000000000000000000000000000000000000000000000000000) (by decide +kernel)) pe_int) (pv 5)) pa_nil)) (pe_slice sl_tupA (pv 6) (po_some pe_int) po_none)) (pa_cons (pe_op op_catA (pe_op op_catA (pe_tup (pa_cons (pe_op op_add (pe_dget hu (pv 1) pe_str (fun _ _ => rfl)) pe_int) pa_nil)) (pe_slice sl_tupA (pv 6) (po_some pe_int) (po_some pe_int))) (pe_tup (pa_cons (pe_un un_neg pe_int) pa_nil))) (pa_cons pe_non (pa_cons (pe_lst (pa_cons (pv 5) pa_nil)) pa_nil))))))
 (pss_cons (ps_set (i := 6) sc__law_other.nd rfl (Or.inl rfl) (pe_ix ix_list (pv 8) (pe_op op_mod (pe_op op_fdiv (pv 2) pe_int) pe_int) (fun _ _ => rfl)))
 (pss_one (ps_set (i := 7) sc__law_other.nd rfl (Or.inl rfl) pe_str)))) pss_nil)
 (pss_cons (ps_if (pt_not (pt_val (pe_call G__law_answer (hr.mono (by decide)) rfl T.g__law_answer T.k__law_answer T.b__law_answer .nil passL (pa_cons (pe_call G__law_heard (hr.mono (by decide)) rfl T.g__law_heard T.k__law_heard T.b__law_heard .nil passL (pa_cons (pv 0) (pa_cons (pv 6) pa_nil))) (pa_cons (pv 7) pa_nil))))) (pss_one (ps_ret pe_bl)) pss_nil)
 (pss_cons (ps_if (pt_cmpR (op_isT) (pv 7) pe_bl (nomark _)) (pss_cons (ps_dput hu (pv 1) pe_str (pe_call G__law_told (hr.mono (by decide)) rfl T.g__law_told T.k__law_told T.b__law_told .nil passL (pa_cons (pv 4) (pa_cons (pv 6) pa_nil))) rfl)
 (pss_one (ps_dput hu (pv 1) pe_str (pe_callB (call_maxQ rfl) (by rfl) T.n_max (by decide +kernel) (pa_cons (pe_dget hu (pv 1) pe_str (fun _ _ => rfl)) (pa_cons (pe_ix ix_tup (pv 6) pe_int (fun _ _ => rfl)) pa_nil))) rfl))) pss_nil)
 (pss_one (ps_ret pe_bl)))))))))))), ?_⟩
    os_names t_st
    change (_ : TS) _ [some _, some _, some _, some _, none, none, none, none, none] _
    os_names t_go
    have f1 := name_pos (k := pick / 3 % 7) (c := cell) (by omega) (by omega)
    have f2 := name_le (k := pick / 3 % 7) (c := cell) (by omega) (by omega)
    have u1 := name_pos (k := 7) (c := cell) (by omega) (by omega)
    have u2 := name_le (k := 7) (c := cell) (by omega) (by omega)
    have t1 : 1 ≤ min 1000000000000000000000000000000000000000000000000000000000000 (max 1 (c + pick / 147 % 7 - 3)) := by omega
    have t2 : min 1000000000000000000000000000000000000000000000000000000000000 (max 1 (c + pick / 147 % 7 - 3)) ≤ E60 := by simp only [E60]; omega
    generalize min 1000000000000000000000000000000000000000000000000000000000000 (max 1 (c + pick / 147 % 7 - 3)) = tm at *
    rename_i H1 s1 H2 s2 ma fma
    have fma : Fresh H2 ma := fma
    have s12 : Same H (upd H2 ma (.tup [.int tm, .int (n + pick / 1029 % 3), .int (nameF (pick / 3 % 7) cell), .int (nameF 7 cell)])) := by os_names t_sm
    have ema : (upd H2 ma (.tup [.int tm, .int (n + pick / 1029 % 3), .int (nameF (pick / 3 % 7) cell), .int (nameF 7 cell)])) ma = some (.tup (Mv.mk tm (n + pick / 1029 % 3) (nameF (pick / 3 % 7) cell) (nameF 7 cell)).vs) := upd_same
    have okm : (Mv.mk tm (n + pick / 1029 % 3) (nameF (pick / 3 % 7) cell) (nameF 7 cell)).Ok := ⟨t1, t2, by show 0 ≤ n + pick / 1029 % 3; omega, by show n + pick / 1029 % 3 ≤ E60; omega, f1, f2, by show 0 ≤ nameF 7 cell; omega, u2⟩
    generalize upd H2 ma (.tup [.int tm, .int (n + pick / 1029 % 3), .int (nameF (pick / 3 % 7) cell), .int (nameF 7 cell)]) = H3 at *
    have I3 := I.same s12
    have hkl3 := I3.ek
    have hst3 := I3.est
    refine r_cut (fun σ' H' => ∃ (mb : Addr) (m : Mv), σ' = [some (.ref p), some (.ref st), some (.int pick), some (.int cell), some (.ref kl), some (.int tm), some (.ref mb), none, none] ∧ H' = H3 ∧ H3 mb = some (.tup m.vs) ∧ m.Ok) ?_ ?_
    · by_cases hc : pick % 3 = 2 ∧ 0 < g.ms.length
      · obtain ⟨hc1, hc2⟩ := hc
        have hll : (((as.map V.ref).length : Nat) : Int) = g.ms.length := by rw [List.length_map, i2]
        have z0 := Int.emod_nonneg (pick / 3) (show (((as.map V.ref).length : Nat) : Int) ≠ 0 by omega)
        have z1 := Int.emod_lt_of_pos (pick / 3) (show (0 : Int) < (((as.map V.ref).length : Nat) : Int) by omega)
        have z2 : (0 : Int) < (((as.map V.ref).length : Nat) : Int) := by omega
        obtain ⟨y, nn, hat, hn, _, hy⟩ := atR I3.km (i := (pick / 3 % (((as.map V.ref).length : Nat) : Int)).toNat) (by omega)
        rw [Int.toNat_of_nonneg z0] at hat
        os_names t_goi
        exact ⟨y, nn, rfl, rfl, hy, I.ok nn (List.mem_of_getElem? hn)⟩
      · have hll : (((as.map V.ref).length : Nat) : Int) = g.ms.length := by rw [List.length_map, i2]
        by_cases hc1 : pick % 3 = 2
        · have z2 : ¬ (((as.map V.ref).length : Nat) : Int) > 0 := by omega
          os_names t_goi
          exact ⟨ma, _, rfl, rfl, ema, okm⟩
        · os_names t_goi
          exact ⟨ma, _, rfl, rfl, ema, okm⟩
    rintro σ' H' ⟨mb, m, rfl, rfl, hmb, okb⟩
    os_names t_go
    refine r_ninMv hmb hkl3 I3.km ?_
    have k0 := m.at0
    os_names t_go
    refine r_cut (fun σ' H4 => Same H' H4 ∧ σ' = [some (.ref p), some (.ref st), some (.int pick), some (.int cell), some (.ref kl), some (.int tm), some (.ref mb), some (if clashB m g.ms = true then V.str "clash" else .bl (!decide (m ∈ g.ms))), none]) ?_ ?_
    · os_names t_go
      refine c_clash hkl3 I3.km hmb (by omega) fun H4 s4 => ?_
      os_names t_go
      cases hcl : clashB m g.ms with
      | true =>
        os_names t_goi
        exact ⟨s4, rfl⟩
      | false =>
        os_names t_goi
        exact ⟨s4, rfl⟩
    rintro σ' H4 ⟨s4, rfl⟩
    have I4 := I3.same s4
    have hmb4 := s4 _ _ hmb
    have hst4 := I4.est
    have sH4 := s12.trans s4
    os_names t_go
    refine r_cut (fun σ' H' => σ' = [some (.ref p), some (.ref st), some (.int pick), some (.int cell), some (.ref kl), some (.int tm), some (.ref mb), some (dueV g.s m g.ms), none] ∧ H' = H4) ?_ ?_
    · os_names t_go
      unfold dueV
      by_cases hc : m.t < g.s
      · refine yes (d_t hc) ?_
        os_names t_go
        rw [if_pos hc]
        exact ⟨rfl, rfl⟩
      · refine no (d_f hc) ?_
        rw [if_neg hc]
        exact ⟨rfl, rfl⟩
    rintro σ' H' ⟨rfl, rfl⟩
    os_names t_go
    have c13 : ∀ n : Mv, cutV n.vs (some 1) none = [.int n.h, .int n.f, .int n.u] := fun n => rfl
    have c12 : ∀ n : Mv, cutV n.vs (some 1) (some 3) = [.int n.h, .int n.f] := fun n => rfl
    refine r_cut (fun σ' H5 => Same H' H5 ∧ ∃ (x d : V) (v8 : Option V), σ' = [some (.ref p), some (.ref st), some (.int pick), some (.int cell), some (.ref kl), some (.int tm), some x, some d, v8] ∧ ((d = .str "no move" ∧ BadMv H5 x) ∨ (d = dueV g.s m g.ms ∧ x = .ref mb))) ?_ ?_
    · os_names t_go
      os_names t_sp
      · os_names t_go
        refine r_slTs (by os_names t_hp) fun u1 Ha sa ea => ?_
        rw [c13] at ea
        os_names t_go
        refine r_catTs (by os_names t_hp) ea (by simp) fun u2 Hb sb eb => ?_
        os_names t_go
        refine r_slTs (by os_names t_hp) fun u3 Hc sc ec => ?_
        rw [c12] at ec
        os_names t_go
        refine r_catTs (by os_names t_hp) ec (by simp) fun u4 Hd sd ed => ?_
        os_names t_go
        refine r_catTs (by os_names t_hp) (by os_names t_hp) (by simp) fun u5 He se ee => ?_
        os_names t_go
        rename_i b1 fb1 b2 fb2
        have hi4 : pick / 18522 % 4 = 0 ∨ pick / 18522 % 4 = 1 ∨ pick / 18522 % 4 = 2 ∨ pick / 18522 % 4 = 3 := by omega
        have sF : ∀ o, Same H' (upd (upd He b1 (.lst [V.int tm])) b2 o) := fun o => by os_names t_sm
        have bd1 : moveB ([V.int (E60 + 1 + tm)] ++ [V.int m.h, .int m.f, .int m.u]) = false := by
          have : ¬ E60 + 1 + tm ≤ E60 := by omega
          show moveB [V.int (E60 + 1 + tm), .int m.h, .int m.f, .int m.u] = false
          simp only [moveB, isW]
          simp [this]
        have bd2 : moveB ([V.int (c + 9)] ++ [V.int m.h, .int m.f] ++ [V.int (-1)]) = false := by
          show moveB [V.int (c + 9), .int m.h, .int m.f, .int (-1)] = false
          simp [moveB, isW]
        rcases hi4 with e | e | e | e <;> rw [e] <;> os_names t_go <;> refine ⟨sF _, _, _, _, rfl, .inl ⟨rfl, ?_⟩⟩
        · refine bad_tup (xs := [V.int (E60 + 1 + tm)] ++ [V.int m.h, .int m.f, .int m.u]) (by os_names t_hp) (fun y hy => ?_) bd1
          simp at hy
          rcases hy with rfl | rfl | rfl | rfl <;> trivial
        · refine bad_tup (xs := [V.int (c + 9)] ++ [V.int m.h, .int m.f] ++ [V.int (-1)]) (by os_names t_hp) (fun y hy => ?_) bd2
          simp at hy
          rcases hy with rfl | rfl | rfl | rfl <;> trivial
        · exact bad_non
        · exact bad_lst (xs := [V.int tm]) (by os_names t_hp)
      · exact ⟨Same.refl _, _, _, _, rfl, .inr ⟨rfl, rfl⟩⟩
    · rintro σ' H5 ⟨s5, x, d, v8, rfl, hxd⟩
      have I5 := I4.same s5
      have sH5 := sH4.trans s5
      have hst5 := I5.est
      have fin : ∀ H6, Same H5 H6 → Q (.bl true) H6 := fun H6 s6 => q H6 kl c g as (Kx.of (sH5.trans s6)) ((I5.same s6).up (by omega)) rfl
      rcases hxd with ⟨rfl, hb⟩ | ⟨rfl, rfl⟩
      · os_names t_go
        refine c_heardHBad ap I5.D I.S (by omega) hb ?_
        os_names t_go
        refine c_answer (.inr ⟨_, rfl⟩) ?_
        os_names t_goi
        exact fin H5 (Same.refl _)
      · have hmb5 := s5 _ _ hmb4
        unfold dueV
        by_cases c1 : m.t < g.s
        · rw [if_pos c1]
          os_names t_go
          refine c_heardH ap I5.D I.S (by omega) hmb5 okb (fun _ => ?_) (fun z => absurd c1 (by omega)) (fun z => absurd c1 (by omega)) (fun z => absurd c1 (by omega))
          os_names t_go
          refine c_answer (.inr ⟨_, rfl⟩) ?_
          os_names t_goi
          exact fin H5 (Same.refl _)
        · rw [if_neg c1]
          have c1' : g.s ≤ m.t := by omega
          by_cases c2 : clashB m g.ms = true
          · rw [if_pos c2]
            have cl := clashB_iff.mp c2
            os_names t_go
            refine c_heardH ap I5.D I.S (by omega) hmb5 okb (fun z => absurd z c1) (fun _ _ => ?_) (fun _ z => (mem_not_clash I.S z cl).elim) (fun _ z => (new_not_clash z cl).elim)
            os_names t_go
            refine c_answer (.inr ⟨_, rfl⟩) ?_
            os_names t_goi
            exact fin H5 (Same.refl _)
          · rw [if_neg c2]
            have ncl : ¬ ClashM m g.ms := fun z => c2 (clashB_iff.mpr z)
            by_cases c3 : m ∈ g.ms
            · rw [show (!decide (m ∈ g.ms)) = false from nd_f c3]
              have hmx : max c m.t = c := by have := I.le m c3; omega
              os_names t_go
              refine c_heardH ap I5.D I.S (by omega) hmb5 okb (fun z => absurd z c1) (fun _ z => (ncl z).elim) (fun _ _ => ?_) (fun _ z => (new_not_mem z c3).elim)
              rw [hmx]
              os_names t_go
              refine c_answer (.inl ⟨_, rfl⟩) ?_
              os_names t_goi
              exact fin _ (same_upd I5.D.hp)
            · rw [show (!decide (m ∈ g.ms)) = true from nd_t c3]
              have nw : NewM m g.ms := ((three I.S).resolve_right fun z => z.elim ncl c3)
              os_names t_go
              refine c_heardH ap I5.D I.S (by omega) hmb5 okb (fun z => absurd z c1) (fun _ z => (ncl z).elim) (fun _ z => (c3 z).elim) (fun _ _ => ?_)
              os_names t_go
              refine c_answer (.inl ⟨_, rfl⟩) ?_
              have D6 := (I5.D.heard (m := m) hmb5).clock (max c m.t)
              have up : ∀ b o, b ≠ g.l → b ≠ p → H5 b = some o → (upd (upd H5 g.l (.lst ((g.heard mb m).as.map V.ref))) p (.ins a.c_Hand dx (hdF n (max c m.t) lg))) b = some o := fun b o n1 n2 e => keep_ne (keep_ne e n1) n2
              have ngl : ∀ b o, H5 b = some o → (∀ xs, o ≠ .lst xs) → b ≠ g.l := fun b o e w z => by have e2 := I5.D.L.hl; rw [← z, e] at e2; exact w _ (Option.some.inj e2)
              have np : ∀ b o, H5 b = some o → (∀ C d f, o ≠ .ins C d f) → b ≠ p := fun b o e w z => by have e2 := I5.D.hp; rw [← z, e] at e2; exact w _ _ _ (Option.some.inj e2)
              have emb6 := up _ _ (ngl _ _ hmb5 fun _ z => by cases z) (np _ _ hmb5 fun _ _ _ z => by cases z) hmb5
              have ekl6 := up _ _ I.x2.symm (np _ _ I5.ek fun _ _ _ z => by cases z) I5.ek
              have ekm6 : MvsAt (upd (upd H5 g.l (.lst ((g.heard mb m).as.map V.ref))) p (.ins a.c_Hand dx (hdF n (max c m.t) lg))) as g.ms := I5.km.of fun b vs e => up _ _ (ngl _ _ e fun _ z => by cases z) (np _ _ e fun _ _ _ z => by cases z) e
              have est6 := up _ _ (ngl _ _ I5.est fun _ z => by cases z) (np _ _ I5.est fun _ _ _ z => by cases z) I5.est
              obtain ⟨H6, e6⟩ : ∃ H6, H6 = upd (upd H5 g.l (.lst ((g.heard mb m).as.map V.ref))) p (.ins a.c_Hand dx (hdF n (max c m.t) lg)) := ⟨_, rfl⟩
              rw [← e6] at D6 emb6 ekl6 ekm6 est6 ⊢
              os_names t_goi
              refine c_told ekl6 ekm6 emb6 (by omega) fun kl2 H7 s7 fk7 ek7 => ?_
              have est7 := s7 _ _ est6
              have emb7 := s7 _ _ emb6
              have nms : mb ≠ st := fun z => by rw [z, est7] at emb7; cases emb7
              os_names t_go
              refine r_dPutS est7 st_len ?_
              rw [sp_kept]
              os_names t_go
              refine r_dPutS upd_same st_len ?_
              rw [sp_clock]
              os_names t_go
              obtain ⟨kx, I'⟩ := I5.own okb ⟨c1', nw⟩ (c' := max c m.t) ⟨by omega, by omega⟩ (Same.refl _) hmb5 e6 D6 s7 fk7 ek7 rfl
              exact q _ kl2 (max c m.t) _ _ ((Kx.of sH5).trans kx) I' rfl
theorem ok_noHand (T : Txt K mg a) : FnOk P w K mg base (L2.CX P w) 5 a.f__law_no_hand a.d__law_no_hand ["_law_cell"] spNoHand := by
  have G_Hand_init := ok_HandInit (P := P) (w := w) (base := base) T
  refine T.F__law_no_hand.okX sc__law_no_hand (fun vs H Q E h => ?_) (fun cdv A outer s H vs Q E hr h => ?_)
  · obtain ⟨cell, rfl, _⟩ := h
    rfl
  · obtain ⟨cell, rfl, hq⟩ := h
    obtain ⟨x, hx, hw, hk⟩ := no_hands (i := cell % 5) (Int.emod_nonneg _ (by omega)) (Int.emod_lt_of_pos _ (by omega))
    refine ⟨_, (pss_cons (ps_try_as (i := 1) rfl rfl sc__law_no_hand.nd rfl rfl ⟨rfl, by decide, .inl T.g_NoHand⟩ (takes_of rfl rfl rfl rfl) (fun W pn xe tk _ => (pss_one (ps_expr (pe_makeS T.m_Hand G_Hand_init (hr.mono (by decide)) rfl T.g_Hand T.b_Hand_init (fun σ => passAt tk σ) (pa_cons (pe_ix (ix_listK (K := K) rfl) (pe_lst (pa_cons (pe_un un_neg pe_int) (pa_cons (pe_op op_add (pe_p10 (m := 1000000000000000000000000000000000000000000000000000000000000) (by decide +kernel)) pe_int) (pa_cons pe_bl (pa_cons pe_non (pa_cons pe_str pa_nil)))))) (pe_op op_mod (pv 0) pe_int) (fun _ _ => rfl)) pa_nil))))) (fun a0 oe cls d pn hz hf => (pss_cons (ps_if (pt_val (pe_callB (call_isETQ hz hf) (by rfl) T.n_isinstance (by decide +kernel) (pa_cons (pv 1) (pa_cons (pe_tup (pa_cons (pe_glob (v := .ref a.c_NoMove) rfl T.g_NoMove rfl) (pa_cons (pe_glob (v := .ref a.c_TooLate) rfl T.g_TooLate rfl) (pa_cons (pe_glob (v := .ref a.c_Clash) rfl T.g_Clash rfl) pa_nil)))) pa_nil)))) (pss_one (ps_ret pe_bl)) pss_nil)
 (pss_one (ps_ret (pe_and (pe_callB (call_isEQ hz hf) (by rfl) T.n_isinstance (by decide +kernel) (pa_cons (pv 1) (pa_cons (pe_glob (v := .ref a.c_TreeError) rfl T.g_TreeError rfl) pa_nil))) (pe_one (pe_callB (call_isEQ hz hf) (by rfl) T.n_isinstance (by decide +kernel) (pa_cons (pv 1) (pa_cons (pe_bltn (v := .ty "ValueError") (by rfl) T.n_ValueError (by decide +kernel) rfl) pa_nil))))))))))
 (pss_one (ps_ret pe_bl))), ?_⟩
    os_names t_st
    change (_ : TS) _ [some _, none] _
    os_names t_go
    intro q dx hq0 hd0 nd
    refine ⟨q, dx, x, rfl, upd_same, hk _, fun _ => ?_, fun n e hw2 => by rw [hw] at hw2; cases hw2⟩
    os_names t_go
    refine ⟨true, T.ex_NoHand_NoHand, fun _ a0 ha0 => ?_, fun z => nomatch z⟩
    os_names t_go
    refine r_isET3 T.ec_NoHand upd_same T.ki_NoHand_NoMove T.ki_NoHand_TooLate T.ki_NoHand_Clash ?_
    os_names t_goi
    refine s_andV ?_
    os_names t_go
    refine r_isE (c := .ref a.c_TreeError) T.ec_NoHand (fun u h => h) T.ki_NoHand_TreeError ?_
    os_names t_goi
    refine r_isE T.ec_NoHand (fun u h => h) T.kv_NoHand (hq _)

theorem ok_law (T : Txt K mg a) : FnOk P w K mg base (L2.CX P w) 7 a.f_law a.d_law ["_law_script"] (spLaw K) := by
  have cLg := T.cl_Log
  have nLs := T.na_Log_since
  have nLb := T.na_Log_base
  have nLk := T.na_Log_kept
  have cHd := T.cl_Hand
  have nHn := T.na_Hand_number
  have nHc := T.na_Hand_clock
  have nHl := T.na_Hand_log
  have G__law_cell_at := ok_cell (P := P) (w := w) (base := base) T
  have G__law_deeds := ok_deeds (P := P) (w := w) (base := base) T
  have G_Hand_init := ok_HandInit (P := P) (w := w) (base := base) T
  have G__law_as_told := ok_asTold (P := P) (w := w) (base := base) T
  have G__law_own := ok_own (P := P) (w := w) (base := base) T
  have G__law_other := ok_other (P := P) (w := w) (base := base) T
  have G__law_settled := ok_settled11 (P := P) (w := w) (base := base) T
  have G__law_no_hand := ok_noHand (P := P) (w := w) (base := base) T
  refine T.F_law.okX sc_law (fun vs H Q E h => ?_) (fun cdv A outer s H vs Q E hr h => ?_)
  · obtain ⟨p, ns, rfl, _⟩ := h
    rfl
  · obtain ⟨p, ns, rfl, hS, hlen, q⟩ := h
    have hu := hu_of hr
    refine ⟨_, (pss_cons (ps_set (i := 1) sc_law.nd rfl (Or.inl rfl) (pe_call G__law_cell_at (hr.mono (by decide)) rfl T.g__law_cell_at T.k__law_cell_at T.b__law_cell_at .nil passL (pa_cons (pv 0) (pa_cons pe_int pa_nil))))
 (pss_cons (ps_set (i := 2) sc_law.nd rfl (Or.inl rfl) (pe_op op_mul (pe_op op_mod (pe_call G__law_cell_at (hr.mono (by decide)) rfl T.g__law_cell_at T.k__law_cell_at T.b__law_cell_at .nil passL (pa_cons (pv 0) (pa_cons pe_int pa_nil))) pe_int) (pe_op op_mod (pe_op op_fdiv (pe_call G__law_cell_at (hr.mono (by decide)) rfl T.g__law_cell_at T.k__law_cell_at T.b__law_cell_at .nil passL (pa_cons (pv 0) (pa_cons pe_int pa_nil))) pe_int) (pe_p10 (m := 100000000000000000000000000000000000000000000000000000000000) (by decide +kernel)))))
 (pss_cons (ps_set (i := 3) sc_law.nd rfl (Or.inl rfl) (pe_disp (pps_cons pe_str (pv 2) (pps_cons pe_str pe_int (pps_cons pe_str pe_int (pps_cons pe_str (pe_op op_add pe_int (pe_op op_mod (pe_op op_fdiv (pv 1) pe_int) pe_int)) (pps_cons pe_str (pe_lst pa_nil) pps_nil))))) (by rfl) (by rfl) (fun z => by cases z) (by decide)))
 (pss_cons (ps_dput hu (pv 3) pe_str pe_dnewK rfl)
 (pss_cons (ps_dput hu (pv 3) pe_str (pe_lst pa_nil) rfl)
 (pss_cons (ps_set (i := 4) sc_law.nd rfl (Or.inl rfl) (pe_make T.m_Hand G_Hand_init (hr.mono (by decide)) rfl T.g_Hand T.b_Hand_init .nil passL (pa_cons (pv 2) pa_nil)))
 (pss_cons (ps_if (pt_not (pt_val (pe_call G__law_as_told (hr.mono (by decide)) rfl T.g__law_as_told T.k__law_as_told T.b__law_as_told .nil passL (pa_cons (pv 4) (pa_cons (pv 3) pa_nil))))) (pss_one (ps_ret pe_bl)) pss_nil)
 (pss_cons (ps_for (passes_of rfl) rfl (pi_list (pe_call G__law_deeds (hr.mono (by decide)) rfl T.g__law_deeds T.k__law_deeds T.b__law_deeds .nil passL (pa_cons (pv 0) (pa_cons pe_int (pa_cons pe_int pa_nil))))) (pg_name (i := 5) sc_law.nd rfl (Or.inl rfl)) (Evl.pss_cut (ps_if (pt_cmpR (op_lt) (pe_op op_mod (pv 5) pe_int) pe_int (nomark _)) (pss_one (ps_set (i := 6) sc_law.nd rfl (Or.inl rfl) (pe_call G__law_own (hr.mono (by decide)) rfl T.g__law_own T.k__law_own T.b__law_own .nil passL (pa_cons (pv 4) (pa_cons (pv 3) (pa_cons (pe_op op_fdiv (pv 5) pe_int) (pa_cons (pv 1) pa_nil))))))) (pss_one (ps_if (pt_cmpR (op_lt) (pe_op op_mod (pv 5) pe_int) pe_int (nomark _)) (pss_one (ps_set (i := 6) sc_law.nd rfl (Or.inl rfl) (pe_call G__law_other (hr.mono (by decide)) rfl T.g__law_other T.k__law_other T.b__law_other .nil passL (pa_cons (pv 4) (pa_cons (pv 3) (pa_cons (pe_op op_fdiv (pv 5) pe_int) (pa_cons (pv 1) pa_nil))))))) (pss_one (ps_set (i := 6) sc_law.nd rfl (Or.inl rfl) (pe_call G__law_settled (hr.mono (by decide)) rfl T.g__law_settled T.k__law_settled T.b__law_settled .nil passL (pa_cons (pv 4) (pa_cons (pv 3) (pa_cons (pe_op op_fdiv (pv 5) pe_int) (pa_cons (pe_cmpR (op_eq) (pe_op op_mod (pe_op op_fdiv (pv 1) pe_int) pe_int) pe_int (nomark _)) pa_nil))))))))))
 (pss_one (ps_if (PW.pt (pw_or (pt_not (pt_truth (pv 6) (by intro _; rfl))) (pw_or1 (pt_not (pt_val (pe_call G__law_as_told (hr.mono (by decide)) rfl T.g__law_as_told T.k__law_as_told T.b__law_as_told .nil passL (pa_cons (pv 4) (pa_cons (pv 3) pa_nil)))))))) (pss_one (ps_ret pe_bl)) pss_nil))))
 (pss_cons (ps_for (passes_of rfl) rfl (pi_list (pe_dget hu (pv 3) pe_str (fun _ _ => rfl))) (pg_name (i := 7) sc_law.nd rfl (Or.inl rfl)) (pss_one (ps_if (pt_cmpR (op_neX (T64 hr)) (pe_ix ix_tup (pv 7) pe_int (fun _ _ => rfl)) (pe_ix ix_tup (pv 7) pe_int (fun _ _ => rfl)) (nomark _)) (pss_one (ps_ret pe_bl)) pss_nil)))
 (pss_one (ps_ret (pe_and (pe_call G__law_no_hand (hr.mono (by decide)) rfl T.g__law_no_hand T.k__law_no_hand T.b__law_no_hand .nil passL (pa_cons (pv 1) pa_nil)) (pe_one (pe_cmpR (op_eq) (pe_fld (pe_make T.m_Hand G_Hand_init (hr.mono (by decide)) rfl T.g_Hand T.b_Hand_init .nil passL (pa_cons (pe_p10 (m := 1000000000000000000000000000000000000000000000000000000000000) (by decide +kernel)) pa_nil)) rfl) (pe_p10 (m := 1000000000000000000000000000000000000000000000000000000000000) (by decide +kernel)) (nomark _))))))))))))))), ?_⟩
    os_names t_st
    change (_ : TS) _ [some _, none, none, none, none, none, none, none] _
    os_names t_go
    generalize cellAt ns 0 = c at *
    generalize cellAt ns 1 = second at *
    obtain ⟨n0, n1⟩ := num_ok second
    have hmany : 1 ≤ 1 + c / 4 % 7 ∧ 1 + c / 4 % 7 ≤ 7 := by omega
    intro st fst
    show tPairs _ _ _ _
    simp only [tPairs]
    os_names t_go
    generalize second % 3 * (second / 3 % 100000000000000000000000000000000000000000000000000000000000) = n at *
    generalize 1 + c / 4 % 7 = many at *
    rename_i kl fkl
    refine ⟨by os_names t_hp, st5 n many kl, st5_map, by show 5 ≤ 15; omega, ?_⟩
    rw [st_disp]
    have fkl : Fresh _ kl := fkl
    have ek0 : (upd (upd H st (.dK [])) kl (.lst [])) kl = some (.lst []) := upd_same
    have es0 : (upd (upd H st (.dK [])) kl (.lst [])) st = some (.dK []) := by os_names t_hp
    have sm0 : Same H (upd (upd (upd H st (.dK [])) kl (.lst [])) st (.dK (st5 n many kl))) := Same.mut (Same.new (Same.new (Same.refl _) fst) fkl) fst
    have nks : kl ≠ st := (new_free fkl).2
    have ek1 : (upd (upd (upd H st (.dK [])) kl (.lst [])) st (.dK (st5 n many kl))) kl = some (.lst []) := keep_ne ek0 nks
    have es1 : (upd (upd (upd H st (.dK [])) kl (.lst [])) st (.dK (st5 n many kl))) st = some (.dK (st5 n many kl)) := upd_same
    generalize upd (upd (upd H st (.dK [])) kl (.lst [])) st (.dK (st5 n many kl)) = H1 at *
    os_names t_go
    rename_i bd fbd
    have fbd : Fresh H1 bd := fbd
    refine r_dPutS (by os_names t_hp) st5_len ?_
    have nbs : bd ≠ st := (ne_of_none es1 fbd).symm
    have nkb : kl ≠ bd := ne_of_none ek1 fbd
    have eb1 : (upd (upd H1 bd (.dK [])) st (.dK (putK (st5 n many kl) (Sum.inr ("base" : Str)) (V.ref bd)))) bd = some (.dK []) := keep_ne upd_same nbs
    have ek2 : (upd (upd H1 bd (.dK [])) st (.dK (putK (st5 n many kl) (Sum.inr ("base" : Str)) (V.ref bd)))) kl = some (.lst []) := keep_ne (keep ek1 fbd) nks
    have es2 : (upd (upd H1 bd (.dK [])) st (.dK (putK (st5 n many kl) (Sum.inr ("base" : Str)) (V.ref bd)))) st = some (.dK (putK (st5 n many kl) (Sum.inr ("base" : Str)) (V.ref bd))) := upd_same
    have sp1 : SameP st H1 (upd (upd H1 bd (.dK [])) st (.dK (putK (st5 n many kl) (Sum.inr ("base" : Str)) (V.ref bd)))) := (SameP.of (Same.new (Same.refl _) fbd)).mut
    generalize upd (upd H1 bd (.dK [])) st (.dK (putK (st5 n many kl) (Sum.inr ("base" : Str)) (V.ref bd))) = H2 at *
    os_names t_go
    rename_i hl fhl
    have fhl : Fresh H2 hl := fhl
    refine r_dPutS (by os_names t_hp) st6_len ?_
    rw [st_disp2]
    have nhs : hl ≠ st := (ne_of_none es2 fhl).symm
    have nkh : kl ≠ hl := ne_of_none ek2 fhl
    have eb3 : (upd (upd H2 hl (.lst [])) st (.dK (stV n 0 0 many kl bd hl))) bd = some (.dK []) := keep_ne (keep eb1 fhl) nbs
    have ek3 : (upd (upd H2 hl (.lst [])) st (.dK (stV n 0 0 many kl bd hl))) kl = some (.lst []) := keep_ne (keep ek2 fhl) nks
    have eh3 : (upd (upd H2 hl (.lst [])) st (.dK (stV n 0 0 many kl bd hl))) hl = some (.lst []) := keep_ne upd_same nhs
    have es3 : (upd (upd H2 hl (.lst [])) st (.dK (stV n 0 0 many kl bd hl))) st = some (.dK (stV n 0 0 many kl bd hl)) := upd_same
    have sp2 : SameP st H1 (upd (upd H2 hl (.lst [])) st (.dK (stV n 0 0 many kl bd hl))) := (sp1.trans (SameP.of (Same.new (Same.refl _) fhl))).mut
    generalize upd (upd H2 hl (.lst [])) st (.dK (stV n 0 0 many kl bd hl)) = H3 at *
    os_names t_go
    intro q0 dx fq fdx ndq
    have fq : Fresh H3 q0 := fq
    have fdx : Fresh H3 dx := fdx
    refine ⟨q0, dx, .int n, rfl, upd_same, trivial, (fun z => by rw [isW_ok n0 (by simp only [E60] at *; omega)] at z; cases z), fun n' en hw lg b l ldx H4 flg fb fl sp4 D => ⟨rfl, ?_⟩⟩
    obtain rfl : n = n' := V.int.inj en
    have sm3 : Same H3 (upd (upd H3 dx (.own q0)) q0 (.ins a.c_Hand dx [])) := by os_names t_sm
    os_names t_go
    have cv : ∀ b o, H3 b = some o → H4 b = some o := fun b o e => sp4 _ _ (ne_of_none e fq) (sm3 _ _ e)
    have nn : ∀ b u o, H3 b = some o → upd (upd H3 dx (.own q0)) q0 (.ins a.c_Hand dx []) u = none → u ≠ b := fun b u o e f z => by rw [z, sm3 _ _ e] at f; cases f
    have I0 : I11 K a.c_Hand a.c_Log H4 q0 dx lg st kl bd hl n 0 many (lg0 b l ldx) [] [] 0 :=
      ⟨D, Srt.nil, fun m hm => (nomatch hm), Acyc.nil, List.nodup_nil, cv _ _ es3, cv _ _ eb3, cv _ _ ek3, MvsAt.nil, cv _ _ eh3, Held.nil, fun m hm => (nomatch hm), by show (0 : Int) ≤ 0 + 1; omega, by show (0 : Int) ≤ 0; omega, by omega, n0, by simp only [E60] at *; omega, by show 0 + 0 ≤ 0; omega, by show 0 ≤ 4 * 0 + 4; omega, nn _ _ _ eh3 fl, nn _ _ _ ek3 fl, nkh, nbs, nn _ _ _ es3 fb⟩
    have sH : ∀ b o, H b = some o → b ≠ hl ∧ H4 b = some o := fun b o e => ⟨ne_of_none (sp1 _ _ (ne_of_none e fst) (sm0 _ _ e)) fhl, cv _ _ (sp2 _ _ (ne_of_none e fst) (sm0 _ _ e))⟩
    clear sp2 sp1 sm0 es3 es2 es1 es0 ek0 ek1 ek2 ek3 eb1 eb3 eh3 cv nn sm3 D sp4 flg fb fl fdx fq fhl fbd fst fkl
    refine ⟨q0, dx, lg, st, kl, bd, hl, n, 0, many, _, [], [], 0, rfl, I0, by show 0 ≤ 4 * 0; omega, by omega, fun H5 hs5 sp5 I5 e5 => ?_⟩
    have hS5 : SqL K H5 p (ns.map V.int) := Same.seq (fun b o e => sp5 _ _ (sH b o e).1 (sH b o e).2) hS
    os_names t_goi
    refine c_deeds (few := 30) (many := 60) hS5 hlen (by omega) fun dl ds fdl hdl hds => ?_
    have sm6 : Same H5 (upd H5 dl (.lst (ds.map V.int))) := Same.new (Same.refl _) fdl
    have I6 := I5.same sm6
    have nd6 := I5.fresh fdl
    have ed6 : (upd H5 dl (.lst (ds.map V.int))) dl = some (.lst (ds.map V.int)) := upd_same
    generalize upd H5 dl (.lst (ds.map V.int)) = H6 at *
    os_names t_go
    refine r_forL (xs := ds.map V.int) (fun i σ H' => ∃ (kl bd : Addr) (ck : Int) (g : Lg) (as hs : List Addr) (v5 v6 : Option V), σ = [some (.ref p), some (.int c), some (.int n), some (.ref st), some (.ref q0), v5, v6, none] ∧ I11 K a.c_Hand a.c_Log H' q0 dx lg st kl bd hl n ck many g as hs i ∧ hs.length = 4 * i + 4 ∧ H' dl = some (.lst (ds.map V.int)) ∧ dl ∉ [q0, lg, g.l, hl, st]) ?_ (fun i σ H' _ ⟨_, _, _, _, _, _, _, _, _, _, _, e, _⟩ => SqL.of e) ?_ ?_
    · exact ⟨_, _, _, _, _, _, _, _, rfl, I6, by rw [e5]; rfl, ed6, nd6⟩
    · rintro i x σ H' hi ⟨kl, bd, ck, g, as, hs, v5, v6, rfl, I, lhs, hdl', ndl⟩
      obtain ⟨d, ed, hd⟩ : ∃ d, x = .int d ∧ d ∈ ds := by
        obtain ⟨y, hy, e⟩ := List.mem_map.mp (List.mem_of_getElem? hi)
        exact ⟨y, e.symm, hy⟩
      subst ed
      obtain ⟨d0, d1⟩ := hds d hd
      have hi2 : i < ds.length := by
        have z := (List.getElem?_eq_some_iff.mp hi).1
        rw [List.length_map] at z
        exact z
      have dq : 0 ≤ d / 6 := by omega
      os_names t_go
      refine r_cut (fun σ' H2 => ∃ (kl bd : Addr) (ck : Int) (g : Lg) (as : List Addr), σ' = [some (.ref p), some (.int c), some (.int n), some (.ref st), some (.ref q0), some (.int d), some (.bl true), none] ∧ I11 K a.c_Hand a.c_Log H2 q0 dx lg st kl bd hl n ck many g as hs (i + 1) ∧ H2 dl = some (.lst (ds.map V.int)) ∧ dl ∉ [q0, lg, g.l, hl, st]) ?_ ?_
      · os_names t_go
        os_names t_sp
        · os_names t_go
          refine ⟨q0, dx, lg, st, kl, bd, hl, n, ck, many, g, as, hs, i, d / 6, c, rfl, I, by omega, hmany.1, hmany.2, dq, fun H2 kl' c' g' as' kx I2 eg => ?_⟩
          os_names t_go
          exact ⟨_, _, _, _, _, rfl, I2, kx _ _ ndl hdl', by rw [eg]; exact ndl⟩
        · os_names t_go
          os_names t_sp
          · os_names t_go
            refine ⟨q0, dx, lg, st, kl, bd, hl, n, ck, many, g, as, hs, i, d / 6, c, rfl, I, by omega, n1, dq, fun H2 kl' c' g' as' kx I2 eg => ?_⟩
            os_names t_go
            exact ⟨_, _, _, _, _, rfl, I2, kx _ _ ndl hdl', by rw [eg]; exact ndl⟩
          · os_names t_go
            refine ⟨q0, dx, lg, st, kl, bd, hl, n, ck, many, g, as, hs, i, d / 6, _, rfl, I, by omega, fun H2 kl' bd' c' g' as' kx I2 eg => ?_⟩
            os_names t_go
            refine ⟨_, _, _, _, _, rfl, I2.up (by omega), kx _ _ ndl hdl', ?_⟩
            rcases eg with eg | eg
            · rw [eg]
              exact ndl
            · intro z
              simp only [List.mem_cons, List.not_mem_nil, or_false] at z ndl
              rcases z with z | z | z | z | z
              · exact ndl (.inl z)
              · exact ndl (.inr (.inl z))
              · rw [← z, hdl'] at eg
                cases eg
              · exact ndl (.inr (.inr (.inr (.inl z))))
              · exact ndl (.inr (.inr (.inr (.inr z))))
      · rintro σ' H2 ⟨kl2, bd2, ck2, g2, as2, rfl, I2, hdl2, ndl2⟩
        os_names t_goi
        refine ⟨true, rfl, ?_⟩
        os_names t_goi
        refine ⟨q0, dx, lg, st, kl2, bd2, hl, n, ck2, many, g2, as2, hs, i + 1, rfl, I2, by omega, by omega, fun H3 hs3 sp3 I3 e3 => ?_⟩
        os_names t_goi
        refine ⟨_, _, _, _, _, _, _, _, rfl, I3, by omega, sp3 _ _ (fun z => ndl2 (by simp [z])) hdl2, ndl2⟩
    · rintro σ H' ⟨kl, bd, ck, g, as, hs, v5, v6, rfl, I, lhs, hdl', ndl⟩
      have hst' := I.est
      os_names t_go
      refine r_forL (xs := hs.map V.ref) (fun i σ H2 => ∃ v, σ = [some (.ref p), some (.int c), some (.int n), some (.ref st), some (.ref q0), v5, v6, v] ∧ H2 = H') ⟨_, rfl, rfl⟩ (fun _ _ _ _ ⟨_, _, e⟩ => e ▸ SqL.of I.eh) ?_ ?_
      · rintro i x σ H2 hi ⟨v, rfl, rfl⟩
        obtain ⟨y, ey, hy⟩ : ∃ y, x = .ref y ∧ y ∈ hs := by
          obtain ⟨y, hy, e⟩ := List.mem_map.mp (List.mem_of_getElem? hi)
          exact ⟨y, e.symm, hy⟩
        subst ey
        obtain ⟨x1, y1, e1, q1⟩ := I.hd y hy H2 Kx.refl
        os_names t_go
        refine q1 _ ?_
        os_names t_goi
        exact ⟨_, rfl, rfl⟩
      · rintro σ H2 ⟨v, rfl, rfl⟩
        os_names t_go
        refine s_andV ?_
        os_names t_go
        refine ⟨c, rfl, fun H3 => ?_⟩
        os_names t_goi
        intro q1 dx1 fq1 fdx1 nd1
        refine ⟨q1, dx1, .int E60, rfl, upd_same, trivial, (fun z => by rw [isW_ok (by simp [E60]) (by omega)] at z; cases z), fun n' en hw lg b l ldx H4 flg fb fl sp4 D => ⟨rfl, ?_⟩⟩
        obtain rfl : E60 = n' := V.int.inj en
        have hq1 := D.hp
        os_names t_go
        exact q _
end
theorem all_mk {l : PySem.W.OpenLaw} {w : World} {K : PySem.W.Frag} {h : Heap} {mg : Str → Option Value} {fa : Addr} (X : K.In h) (G : h.Ns mainGlobals mg) (hfa : mg "law" = some (.ref fa))
    {f_whole f_is_move f_ahead f_way_up f_closes f_put f_Log_init f_Log_place_of f_Log_hear f_Log_moves f_Log_tree f_Log_steps f_Log_settle f_Hand_init f_Hand_move f_Hand_hear f_Hand_tree f_Hand_settle f__law_whole f__law_cell_at f__law_name f__law_same_tree f__law_same_move f__law_same_moves f__law_told f__law_deeds f__law_clash f__law_heard f__law_answer f__law_way f__law_fold f__law_steps_of f__law_same_steps f__law_steps_asked f__law_no_hand f__law_own f__law_other f__law_settled f__law_as_told f_law c_Log c_Hand c_TreeError c_NoMove c_TooLate c_Clash c_NoHand : Addr}
    {od_whole an_whole od_is_move an_is_move od_ahead an_ahead od_way_up an_way_up od_closes an_closes od_put an_put od_Log_init an_Log_init od_Log_place_of an_Log_place_of od_Log_hear an_Log_hear od_Log_moves an_Log_moves od_Log_tree an_Log_tree od_Log_steps an_Log_steps od_Log_settle an_Log_settle od_Hand_init an_Hand_init od_Hand_move an_Hand_move od_Hand_hear an_Hand_hear od_Hand_tree an_Hand_tree od_Hand_settle an_Hand_settle od__law_whole an__law_whole od__law_cell_at an__law_cell_at od__law_name an__law_name od__law_same_tree an__law_same_tree od__law_same_move an__law_same_move od__law_same_moves an__law_same_moves od__law_told an__law_told od__law_deeds an__law_deeds od__law_clash an__law_clash od__law_heard an__law_heard od__law_answer an__law_answer od__law_way an__law_way od__law_fold an__law_fold od__law_steps_of an__law_steps_of od__law_same_steps an__law_same_steps od__law_steps_asked an__law_steps_asked od__law_no_hand an__law_no_hand od__law_own an__law_own od__law_other an__law_other od__law_settled an__law_settled od__law_as_told an__law_as_told od_law an_law : Option Addr}
    {sl_whole sl_is_move sl_ahead sl_way_up sl_closes sl_put sl_Log_init sl_Log_place_of sl_Log_hear sl_Log_moves sl_Log_tree sl_Log_steps sl_Log_settle sl_Hand_init sl_Hand_move sl_Hand_hear sl_Hand_tree sl_Hand_settle sl__law_whole sl__law_cell_at sl__law_name sl__law_same_tree sl__law_same_move sl__law_same_moves sl__law_told sl__law_deeds sl__law_clash sl__law_heard sl__law_answer sl__law_way sl__law_fold sl__law_steps_of sl__law_same_steps sl__law_steps_asked sl__law_no_hand sl__law_own sl__law_other sl__law_settled sl__law_as_told sl_law : Array (Option Value)}
    {oc_whole kV_whole dc_whole pm_whole cd_whole ct_whole oc_is_move kV_is_move dc_is_move pm_is_move cd_is_move ct_is_move oc_ahead kV_ahead dc_ahead pm_ahead cd_ahead ct_ahead oc_way_up kV_way_up dc_way_up pm_way_up cd_way_up ct_way_up oc_closes kV_closes dc_closes pm_closes cd_closes ct_closes oc_put kV_put dc_put pm_put cd_put ct_put oc_Log_init kV_Log_init dc_Log_init pm_Log_init cd_Log_init ct_Log_init oc_Log_place_of kV_Log_place_of dc_Log_place_of pm_Log_place_of cd_Log_place_of ct_Log_place_of oc_Log_hear kV_Log_hear dc_Log_hear pm_Log_hear cd_Log_hear ct_Log_hear oc_Log_moves kV_Log_moves dc_Log_moves pm_Log_moves cd_Log_moves ct_Log_moves oc_Log_tree kV_Log_tree dc_Log_tree pm_Log_tree cd_Log_tree ct_Log_tree oc_Log_steps kV_Log_steps dc_Log_steps pm_Log_steps cd_Log_steps ct_Log_steps oc_Log_settle kV_Log_settle dc_Log_settle pm_Log_settle cd_Log_settle ct_Log_settle oc_Hand_init kV_Hand_init dc_Hand_init pm_Hand_init cd_Hand_init ct_Hand_init oc_Hand_move kV_Hand_move dc_Hand_move pm_Hand_move cd_Hand_move ct_Hand_move oc_Hand_hear kV_Hand_hear dc_Hand_hear pm_Hand_hear cd_Hand_hear ct_Hand_hear oc_Hand_tree kV_Hand_tree dc_Hand_tree pm_Hand_tree cd_Hand_tree ct_Hand_tree oc_Hand_settle kV_Hand_settle dc_Hand_settle pm_Hand_settle cd_Hand_settle ct_Hand_settle oc__law_whole kV__law_whole dc__law_whole pm__law_whole cd__law_whole ct__law_whole oc__law_cell_at kV__law_cell_at dc__law_cell_at pm__law_cell_at cd__law_cell_at ct__law_cell_at oc__law_name kV__law_name dc__law_name pm__law_name cd__law_name ct__law_name oc__law_same_tree kV__law_same_tree dc__law_same_tree pm__law_same_tree cd__law_same_tree ct__law_same_tree oc__law_same_move kV__law_same_move dc__law_same_move pm__law_same_move cd__law_same_move ct__law_same_move oc__law_same_moves kV__law_same_moves dc__law_same_moves pm__law_same_moves cd__law_same_moves ct__law_same_moves oc__law_told kV__law_told dc__law_told pm__law_told cd__law_told ct__law_told oc__law_deeds kV__law_deeds dc__law_deeds pm__law_deeds cd__law_deeds ct__law_deeds oc__law_clash kV__law_clash dc__law_clash pm__law_clash cd__law_clash ct__law_clash oc__law_heard kV__law_heard dc__law_heard pm__law_heard cd__law_heard ct__law_heard oc__law_answer kV__law_answer dc__law_answer pm__law_answer cd__law_answer ct__law_answer oc__law_way kV__law_way dc__law_way pm__law_way cd__law_way ct__law_way oc__law_fold kV__law_fold dc__law_fold pm__law_fold cd__law_fold ct__law_fold oc__law_steps_of kV__law_steps_of dc__law_steps_of pm__law_steps_of cd__law_steps_of ct__law_steps_of oc__law_same_steps kV__law_same_steps dc__law_same_steps pm__law_same_steps cd__law_same_steps ct__law_same_steps oc__law_steps_asked kV__law_steps_asked dc__law_steps_asked pm__law_steps_asked cd__law_steps_asked ct__law_steps_asked oc__law_no_hand kV__law_no_hand dc__law_no_hand pm__law_no_hand cd__law_no_hand ct__law_no_hand oc__law_own kV__law_own dc__law_own pm__law_own cd__law_own ct__law_own oc__law_other kV__law_other dc__law_other pm__law_other cd__law_other ct__law_other oc__law_settled kV__law_settled dc__law_settled pm__law_settled cd__law_settled ct__law_settled oc__law_as_told kV__law_as_told dc__law_as_told pm__law_as_told cd__law_as_told ct__law_as_told oc_law kV_law dc_law pm_law cd_law ct_law : Value}
    (aC_Log : PySem.W.nsIn K mainGlobals "Log" = some (some (.ref c_Log)))
    (aC_Hand : PySem.W.nsIn K mainGlobals "Hand" = some (some (.ref c_Hand)))
    (aC_TreeError : PySem.W.nsIn K mainGlobals "TreeError" = some (some (.ref c_TreeError)))
    (aC_NoMove : PySem.W.nsIn K mainGlobals "NoMove" = some (some (.ref c_NoMove)))
    (aC_TooLate : PySem.W.nsIn K mainGlobals "TooLate" = some (some (.ref c_TooLate)))
    (aC_Clash : PySem.W.nsIn K mainGlobals "Clash" = some (some (.ref c_Clash)))
    (aC_NoHand : PySem.W.nsIn K mainGlobals "NoHand" = some (some (.ref c_NoHand)))
    (a_whole : PySem.W.nsIn K mainGlobals "whole" = some (some (.ref f_whole)))
    (l_whole : K.lookup f_whole = some ⟨oc_whole, od_whole, .func (PySem.W.fnOf "whole" "whole" (defArgs s_whole) (defBody s_whole) (defScope s_whole) .none kV_whole dc_whole pm_whole an_whole cd_whole ct_whole), sl_whole⟩)
    (c_whole : PySem.W.codeIn K cd_whole "whole" = true)
    (k_whole : PySem.W.keepIn K (.ref f_whole) = true)
    (a_is_move : PySem.W.nsIn K mainGlobals "is_move" = some (some (.ref f_is_move)))
    (l_is_move : K.lookup f_is_move = some ⟨oc_is_move, od_is_move, .func (PySem.W.fnOf "is_move" "is_move" (defArgs s_is_move) (defBody s_is_move) (defScope s_is_move) .none kV_is_move dc_is_move pm_is_move an_is_move cd_is_move ct_is_move), sl_is_move⟩)
    (c_is_move : PySem.W.codeIn K cd_is_move "is_move" = true)
    (k_is_move : PySem.W.keepIn K (.ref f_is_move) = true)
    (a_ahead : PySem.W.nsIn K mainGlobals "ahead" = some (some (.ref f_ahead)))
    (l_ahead : K.lookup f_ahead = some ⟨oc_ahead, od_ahead, .func (PySem.W.fnOf "ahead" "ahead" (defArgs s_ahead) (defBody s_ahead) (defScope s_ahead) .none kV_ahead dc_ahead pm_ahead an_ahead cd_ahead ct_ahead), sl_ahead⟩)
    (c_ahead : PySem.W.codeIn K cd_ahead "ahead" = true)
    (k_ahead : PySem.W.keepIn K (.ref f_ahead) = true)
    (a_way_up : PySem.W.nsIn K mainGlobals "way_up" = some (some (.ref f_way_up)))
    (l_way_up : K.lookup f_way_up = some ⟨oc_way_up, od_way_up, .func (PySem.W.fnOf "way_up" "way_up" (defArgs s_way_up) (defBody s_way_up) (defScope s_way_up) .none kV_way_up dc_way_up pm_way_up an_way_up cd_way_up ct_way_up), sl_way_up⟩)
    (c_way_up : PySem.W.codeIn K cd_way_up "way_up" = true)
    (k_way_up : PySem.W.keepIn K (.ref f_way_up) = true)
    (a_closes : PySem.W.nsIn K mainGlobals "closes" = some (some (.ref f_closes)))
    (l_closes : K.lookup f_closes = some ⟨oc_closes, od_closes, .func (PySem.W.fnOf "closes" "closes" (defArgs s_closes) (defBody s_closes) (defScope s_closes) .none kV_closes dc_closes pm_closes an_closes cd_closes ct_closes), sl_closes⟩)
    (c_closes : PySem.W.codeIn K cd_closes "closes" = true)
    (k_closes : PySem.W.keepIn K (.ref f_closes) = true)
    (a_put : PySem.W.nsIn K mainGlobals "put" = some (some (.ref f_put)))
    (l_put : K.lookup f_put = some ⟨oc_put, od_put, .func (PySem.W.fnOf "put" "put" (defArgs s_put) (defBody s_put) (defScope s_put) .none kV_put dc_put pm_put an_put cd_put ct_put), sl_put⟩)
    (c_put : PySem.W.codeIn K cd_put "put" = true)
    (k_put : PySem.W.keepIn K (.ref f_put) = true)
    (a_Log_init : PySem.W.findIn K (.ref c_Log) "__init__" = some (some (.ref f_Log_init)))
    (i_Log_init : PySem.W.isFn K (.ref f_Log_init) = true)
    (l_Log_init : K.lookup f_Log_init = some ⟨oc_Log_init, od_Log_init, .func (PySem.W.fnOf "__init__" "Log.__init__" (defArgs s_Log_init) (defBody s_Log_init) (defScope s_Log_init) .none kV_Log_init dc_Log_init pm_Log_init an_Log_init cd_Log_init ct_Log_init), sl_Log_init⟩)
    (c_Log_init : PySem.W.codeIn K cd_Log_init "Log.__init__" = true)
    (k_Log_init : PySem.W.keepIn K (.ref f_Log_init) = true)
    (a_Log_place_of : PySem.W.findIn K (.ref c_Log) "place_of" = some (some (.ref f_Log_place_of)))
    (i_Log_place_of : PySem.W.isFn K (.ref f_Log_place_of) = true)
    (l_Log_place_of : K.lookup f_Log_place_of = some ⟨oc_Log_place_of, od_Log_place_of, .func (PySem.W.fnOf "place_of" "Log.place_of" (defArgs s_Log_place_of) (defBody s_Log_place_of) (defScope s_Log_place_of) .none kV_Log_place_of dc_Log_place_of pm_Log_place_of an_Log_place_of cd_Log_place_of ct_Log_place_of), sl_Log_place_of⟩)
    (c_Log_place_of : PySem.W.codeIn K cd_Log_place_of "Log.place_of" = true)
    (k_Log_place_of : PySem.W.keepIn K (.ref f_Log_place_of) = true)
    (a_Log_hear : PySem.W.findIn K (.ref c_Log) "hear" = some (some (.ref f_Log_hear)))
    (i_Log_hear : PySem.W.isFn K (.ref f_Log_hear) = true)
    (l_Log_hear : K.lookup f_Log_hear = some ⟨oc_Log_hear, od_Log_hear, .func (PySem.W.fnOf "hear" "Log.hear" (defArgs s_Log_hear) (defBody s_Log_hear) (defScope s_Log_hear) .none kV_Log_hear dc_Log_hear pm_Log_hear an_Log_hear cd_Log_hear ct_Log_hear), sl_Log_hear⟩)
    (c_Log_hear : PySem.W.codeIn K cd_Log_hear "Log.hear" = true)
    (k_Log_hear : PySem.W.keepIn K (.ref f_Log_hear) = true)
    (a_Log_moves : PySem.W.findIn K (.ref c_Log) "moves" = some (some (.ref f_Log_moves)))
    (i_Log_moves : PySem.W.isFn K (.ref f_Log_moves) = true)
    (l_Log_moves : K.lookup f_Log_moves = some ⟨oc_Log_moves, od_Log_moves, .func (PySem.W.fnOf "moves" "Log.moves" (defArgs s_Log_moves) (defBody s_Log_moves) (defScope s_Log_moves) .none kV_Log_moves dc_Log_moves pm_Log_moves an_Log_moves cd_Log_moves ct_Log_moves), sl_Log_moves⟩)
    (c_Log_moves : PySem.W.codeIn K cd_Log_moves "Log.moves" = true)
    (k_Log_moves : PySem.W.keepIn K (.ref f_Log_moves) = true)
    (a_Log_tree : PySem.W.findIn K (.ref c_Log) "tree" = some (some (.ref f_Log_tree)))
    (i_Log_tree : PySem.W.isFn K (.ref f_Log_tree) = true)
    (l_Log_tree : K.lookup f_Log_tree = some ⟨oc_Log_tree, od_Log_tree, .func (PySem.W.fnOf "tree" "Log.tree" (defArgs s_Log_tree) (defBody s_Log_tree) (defScope s_Log_tree) .none kV_Log_tree dc_Log_tree pm_Log_tree an_Log_tree cd_Log_tree ct_Log_tree), sl_Log_tree⟩)
    (c_Log_tree : PySem.W.codeIn K cd_Log_tree "Log.tree" = true)
    (k_Log_tree : PySem.W.keepIn K (.ref f_Log_tree) = true)
    (a_Log_steps : PySem.W.findIn K (.ref c_Log) "steps" = some (some (.ref f_Log_steps)))
    (i_Log_steps : PySem.W.isFn K (.ref f_Log_steps) = true)
    (l_Log_steps : K.lookup f_Log_steps = some ⟨oc_Log_steps, od_Log_steps, .func (PySem.W.fnOf "steps" "Log.steps" (defArgs s_Log_steps) (defBody s_Log_steps) (defScope s_Log_steps) .none kV_Log_steps dc_Log_steps pm_Log_steps an_Log_steps cd_Log_steps ct_Log_steps), sl_Log_steps⟩)
    (c_Log_steps : PySem.W.codeIn K cd_Log_steps "Log.steps" = true)
    (k_Log_steps : PySem.W.keepIn K (.ref f_Log_steps) = true)
    (a_Log_settle : PySem.W.findIn K (.ref c_Log) "settle" = some (some (.ref f_Log_settle)))
    (i_Log_settle : PySem.W.isFn K (.ref f_Log_settle) = true)
    (l_Log_settle : K.lookup f_Log_settle = some ⟨oc_Log_settle, od_Log_settle, .func (PySem.W.fnOf "settle" "Log.settle" (defArgs s_Log_settle) (defBody s_Log_settle) (defScope s_Log_settle) .none kV_Log_settle dc_Log_settle pm_Log_settle an_Log_settle cd_Log_settle ct_Log_settle), sl_Log_settle⟩)
    (c_Log_settle : PySem.W.codeIn K cd_Log_settle "Log.settle" = true)
    (k_Log_settle : PySem.W.keepIn K (.ref f_Log_settle) = true)
    (a_Hand_init : PySem.W.findIn K (.ref c_Hand) "__init__" = some (some (.ref f_Hand_init)))
    (i_Hand_init : PySem.W.isFn K (.ref f_Hand_init) = true)
    (l_Hand_init : K.lookup f_Hand_init = some ⟨oc_Hand_init, od_Hand_init, .func (PySem.W.fnOf "__init__" "Hand.__init__" (defArgs s_Hand_init) (defBody s_Hand_init) (defScope s_Hand_init) .none kV_Hand_init dc_Hand_init pm_Hand_init an_Hand_init cd_Hand_init ct_Hand_init), sl_Hand_init⟩)
    (c_Hand_init : PySem.W.codeIn K cd_Hand_init "Hand.__init__" = true)
    (k_Hand_init : PySem.W.keepIn K (.ref f_Hand_init) = true)
    (a_Hand_move : PySem.W.findIn K (.ref c_Hand) "move" = some (some (.ref f_Hand_move)))
    (i_Hand_move : PySem.W.isFn K (.ref f_Hand_move) = true)
    (l_Hand_move : K.lookup f_Hand_move = some ⟨oc_Hand_move, od_Hand_move, .func (PySem.W.fnOf "move" "Hand.move" (defArgs s_Hand_move) (defBody s_Hand_move) (defScope s_Hand_move) .none kV_Hand_move dc_Hand_move pm_Hand_move an_Hand_move cd_Hand_move ct_Hand_move), sl_Hand_move⟩)
    (c_Hand_move : PySem.W.codeIn K cd_Hand_move "Hand.move" = true)
    (k_Hand_move : PySem.W.keepIn K (.ref f_Hand_move) = true)
    (a_Hand_hear : PySem.W.findIn K (.ref c_Hand) "hear" = some (some (.ref f_Hand_hear)))
    (i_Hand_hear : PySem.W.isFn K (.ref f_Hand_hear) = true)
    (l_Hand_hear : K.lookup f_Hand_hear = some ⟨oc_Hand_hear, od_Hand_hear, .func (PySem.W.fnOf "hear" "Hand.hear" (defArgs s_Hand_hear) (defBody s_Hand_hear) (defScope s_Hand_hear) .none kV_Hand_hear dc_Hand_hear pm_Hand_hear an_Hand_hear cd_Hand_hear ct_Hand_hear), sl_Hand_hear⟩)
    (c_Hand_hear : PySem.W.codeIn K cd_Hand_hear "Hand.hear" = true)
    (k_Hand_hear : PySem.W.keepIn K (.ref f_Hand_hear) = true)
    (a_Hand_tree : PySem.W.findIn K (.ref c_Hand) "tree" = some (some (.ref f_Hand_tree)))
    (i_Hand_tree : PySem.W.isFn K (.ref f_Hand_tree) = true)
    (l_Hand_tree : K.lookup f_Hand_tree = some ⟨oc_Hand_tree, od_Hand_tree, .func (PySem.W.fnOf "tree" "Hand.tree" (defArgs s_Hand_tree) (defBody s_Hand_tree) (defScope s_Hand_tree) .none kV_Hand_tree dc_Hand_tree pm_Hand_tree an_Hand_tree cd_Hand_tree ct_Hand_tree), sl_Hand_tree⟩)
    (c_Hand_tree : PySem.W.codeIn K cd_Hand_tree "Hand.tree" = true)
    (k_Hand_tree : PySem.W.keepIn K (.ref f_Hand_tree) = true)
    (a_Hand_settle : PySem.W.findIn K (.ref c_Hand) "settle" = some (some (.ref f_Hand_settle)))
    (i_Hand_settle : PySem.W.isFn K (.ref f_Hand_settle) = true)
    (l_Hand_settle : K.lookup f_Hand_settle = some ⟨oc_Hand_settle, od_Hand_settle, .func (PySem.W.fnOf "settle" "Hand.settle" (defArgs s_Hand_settle) (defBody s_Hand_settle) (defScope s_Hand_settle) .none kV_Hand_settle dc_Hand_settle pm_Hand_settle an_Hand_settle cd_Hand_settle ct_Hand_settle), sl_Hand_settle⟩)
    (c_Hand_settle : PySem.W.codeIn K cd_Hand_settle "Hand.settle" = true)
    (k_Hand_settle : PySem.W.keepIn K (.ref f_Hand_settle) = true)
    (a__law_whole : PySem.W.nsIn K mainGlobals "_law_whole" = some (some (.ref f__law_whole)))
    (l__law_whole : K.lookup f__law_whole = some ⟨oc__law_whole, od__law_whole, .func (PySem.W.fnOf "_law_whole" "_law_whole" (defArgs s__law_whole) (defBody s__law_whole) (defScope s__law_whole) .none kV__law_whole dc__law_whole pm__law_whole an__law_whole cd__law_whole ct__law_whole), sl__law_whole⟩)
    (c__law_whole : PySem.W.codeIn K cd__law_whole "_law_whole" = true)
    (k__law_whole : PySem.W.keepIn K (.ref f__law_whole) = true)
    (a__law_cell_at : PySem.W.nsIn K mainGlobals "_law_cell_at" = some (some (.ref f__law_cell_at)))
    (l__law_cell_at : K.lookup f__law_cell_at = some ⟨oc__law_cell_at, od__law_cell_at, .func (PySem.W.fnOf "_law_cell_at" "_law_cell_at" (defArgs s__law_cell_at) (defBody s__law_cell_at) (defScope s__law_cell_at) .none kV__law_cell_at dc__law_cell_at pm__law_cell_at an__law_cell_at cd__law_cell_at ct__law_cell_at), sl__law_cell_at⟩)
    (c__law_cell_at : PySem.W.codeIn K cd__law_cell_at "_law_cell_at" = true)
    (k__law_cell_at : PySem.W.keepIn K (.ref f__law_cell_at) = true)
    (a__law_name : PySem.W.nsIn K mainGlobals "_law_name" = some (some (.ref f__law_name)))
    (l__law_name : K.lookup f__law_name = some ⟨oc__law_name, od__law_name, .func (PySem.W.fnOf "_law_name" "_law_name" (defArgs s__law_name) (defBody s__law_name) (defScope s__law_name) .none kV__law_name dc__law_name pm__law_name an__law_name cd__law_name ct__law_name), sl__law_name⟩)
    (c__law_name : PySem.W.codeIn K cd__law_name "_law_name" = true)
    (k__law_name : PySem.W.keepIn K (.ref f__law_name) = true)
    (a__law_same_tree : PySem.W.nsIn K mainGlobals "_law_same_tree" = some (some (.ref f__law_same_tree)))
    (l__law_same_tree : K.lookup f__law_same_tree = some ⟨oc__law_same_tree, od__law_same_tree, .func (PySem.W.fnOf "_law_same_tree" "_law_same_tree" (defArgs s__law_same_tree) (defBody s__law_same_tree) (defScope s__law_same_tree) .none kV__law_same_tree dc__law_same_tree pm__law_same_tree an__law_same_tree cd__law_same_tree ct__law_same_tree), sl__law_same_tree⟩)
    (c__law_same_tree : PySem.W.codeIn K cd__law_same_tree "_law_same_tree" = true)
    (k__law_same_tree : PySem.W.keepIn K (.ref f__law_same_tree) = true)
    (a__law_same_move : PySem.W.nsIn K mainGlobals "_law_same_move" = some (some (.ref f__law_same_move)))
    (l__law_same_move : K.lookup f__law_same_move = some ⟨oc__law_same_move, od__law_same_move, .func (PySem.W.fnOf "_law_same_move" "_law_same_move" (defArgs s__law_same_move) (defBody s__law_same_move) (defScope s__law_same_move) .none kV__law_same_move dc__law_same_move pm__law_same_move an__law_same_move cd__law_same_move ct__law_same_move), sl__law_same_move⟩)
    (c__law_same_move : PySem.W.codeIn K cd__law_same_move "_law_same_move" = true)
    (k__law_same_move : PySem.W.keepIn K (.ref f__law_same_move) = true)
    (a__law_same_moves : PySem.W.nsIn K mainGlobals "_law_same_moves" = some (some (.ref f__law_same_moves)))
    (l__law_same_moves : K.lookup f__law_same_moves = some ⟨oc__law_same_moves, od__law_same_moves, .func (PySem.W.fnOf "_law_same_moves" "_law_same_moves" (defArgs s__law_same_moves) (defBody s__law_same_moves) (defScope s__law_same_moves) .none kV__law_same_moves dc__law_same_moves pm__law_same_moves an__law_same_moves cd__law_same_moves ct__law_same_moves), sl__law_same_moves⟩)
    (c__law_same_moves : PySem.W.codeIn K cd__law_same_moves "_law_same_moves" = true)
    (k__law_same_moves : PySem.W.keepIn K (.ref f__law_same_moves) = true)
    (a__law_told : PySem.W.nsIn K mainGlobals "_law_told" = some (some (.ref f__law_told)))
    (l__law_told : K.lookup f__law_told = some ⟨oc__law_told, od__law_told, .func (PySem.W.fnOf "_law_told" "_law_told" (defArgs s__law_told) (defBody s__law_told) (defScope s__law_told) .none kV__law_told dc__law_told pm__law_told an__law_told cd__law_told ct__law_told), sl__law_told⟩)
    (c__law_told : PySem.W.codeIn K cd__law_told "_law_told" = true)
    (k__law_told : PySem.W.keepIn K (.ref f__law_told) = true)
    (a__law_deeds : PySem.W.nsIn K mainGlobals "_law_deeds" = some (some (.ref f__law_deeds)))
    (l__law_deeds : K.lookup f__law_deeds = some ⟨oc__law_deeds, od__law_deeds, .func (PySem.W.fnOf "_law_deeds" "_law_deeds" (defArgs s__law_deeds) (defBody s__law_deeds) (defScope s__law_deeds) .none kV__law_deeds dc__law_deeds pm__law_deeds an__law_deeds cd__law_deeds ct__law_deeds), sl__law_deeds⟩)
    (c__law_deeds : PySem.W.codeIn K cd__law_deeds "_law_deeds" = true)
    (k__law_deeds : PySem.W.keepIn K (.ref f__law_deeds) = true)
    (a__law_clash : PySem.W.nsIn K mainGlobals "_law_clash" = some (some (.ref f__law_clash)))
    (l__law_clash : K.lookup f__law_clash = some ⟨oc__law_clash, od__law_clash, .func (PySem.W.fnOf "_law_clash" "_law_clash" (defArgs s__law_clash) (defBody s__law_clash) (defScope s__law_clash) .none kV__law_clash dc__law_clash pm__law_clash an__law_clash cd__law_clash ct__law_clash), sl__law_clash⟩)
    (c__law_clash : PySem.W.codeIn K cd__law_clash "_law_clash" = true)
    (k__law_clash : PySem.W.keepIn K (.ref f__law_clash) = true)
    (a__law_heard : PySem.W.nsIn K mainGlobals "_law_heard" = some (some (.ref f__law_heard)))
    (l__law_heard : K.lookup f__law_heard = some ⟨oc__law_heard, od__law_heard, .func (PySem.W.fnOf "_law_heard" "_law_heard" (defArgs s__law_heard) (defBody s__law_heard) (defScope s__law_heard) .none kV__law_heard dc__law_heard pm__law_heard an__law_heard cd__law_heard ct__law_heard), sl__law_heard⟩)
    (c__law_heard : PySem.W.codeIn K cd__law_heard "_law_heard" = true)
    (k__law_heard : PySem.W.keepIn K (.ref f__law_heard) = true)
    (a__law_answer : PySem.W.nsIn K mainGlobals "_law_answer" = some (some (.ref f__law_answer)))
    (l__law_answer : K.lookup f__law_answer = some ⟨oc__law_answer, od__law_answer, .func (PySem.W.fnOf "_law_answer" "_law_answer" (defArgs s__law_answer) (defBody s__law_answer) (defScope s__law_answer) .none kV__law_answer dc__law_answer pm__law_answer an__law_answer cd__law_answer ct__law_answer), sl__law_answer⟩)
    (c__law_answer : PySem.W.codeIn K cd__law_answer "_law_answer" = true)
    (k__law_answer : PySem.W.keepIn K (.ref f__law_answer) = true)
    (a__law_way : PySem.W.nsIn K mainGlobals "_law_way" = some (some (.ref f__law_way)))
    (l__law_way : K.lookup f__law_way = some ⟨oc__law_way, od__law_way, .func (PySem.W.fnOf "_law_way" "_law_way" (defArgs s__law_way) (defBody s__law_way) (defScope s__law_way) .none kV__law_way dc__law_way pm__law_way an__law_way cd__law_way ct__law_way), sl__law_way⟩)
    (c__law_way : PySem.W.codeIn K cd__law_way "_law_way" = true)
    (k__law_way : PySem.W.keepIn K (.ref f__law_way) = true)
    (a__law_fold : PySem.W.nsIn K mainGlobals "_law_fold" = some (some (.ref f__law_fold)))
    (l__law_fold : K.lookup f__law_fold = some ⟨oc__law_fold, od__law_fold, .func (PySem.W.fnOf "_law_fold" "_law_fold" (defArgs s__law_fold) (defBody s__law_fold) (defScope s__law_fold) .none kV__law_fold dc__law_fold pm__law_fold an__law_fold cd__law_fold ct__law_fold), sl__law_fold⟩)
    (c__law_fold : PySem.W.codeIn K cd__law_fold "_law_fold" = true)
    (k__law_fold : PySem.W.keepIn K (.ref f__law_fold) = true)
    (a__law_steps_of : PySem.W.nsIn K mainGlobals "_law_steps_of" = some (some (.ref f__law_steps_of)))
    (l__law_steps_of : K.lookup f__law_steps_of = some ⟨oc__law_steps_of, od__law_steps_of, .func (PySem.W.fnOf "_law_steps_of" "_law_steps_of" (defArgs s__law_steps_of) (defBody s__law_steps_of) (defScope s__law_steps_of) .none kV__law_steps_of dc__law_steps_of pm__law_steps_of an__law_steps_of cd__law_steps_of ct__law_steps_of), sl__law_steps_of⟩)
    (c__law_steps_of : PySem.W.codeIn K cd__law_steps_of "_law_steps_of" = true)
    (k__law_steps_of : PySem.W.keepIn K (.ref f__law_steps_of) = true)
    (a__law_same_steps : PySem.W.nsIn K mainGlobals "_law_same_steps" = some (some (.ref f__law_same_steps)))
    (l__law_same_steps : K.lookup f__law_same_steps = some ⟨oc__law_same_steps, od__law_same_steps, .func (PySem.W.fnOf "_law_same_steps" "_law_same_steps" (defArgs s__law_same_steps) (defBody s__law_same_steps) (defScope s__law_same_steps) .none kV__law_same_steps dc__law_same_steps pm__law_same_steps an__law_same_steps cd__law_same_steps ct__law_same_steps), sl__law_same_steps⟩)
    (c__law_same_steps : PySem.W.codeIn K cd__law_same_steps "_law_same_steps" = true)
    (k__law_same_steps : PySem.W.keepIn K (.ref f__law_same_steps) = true)
    (a__law_steps_asked : PySem.W.nsIn K mainGlobals "_law_steps_asked" = some (some (.ref f__law_steps_asked)))
    (l__law_steps_asked : K.lookup f__law_steps_asked = some ⟨oc__law_steps_asked, od__law_steps_asked, .func (PySem.W.fnOf "_law_steps_asked" "_law_steps_asked" (defArgs s__law_steps_asked) (defBody s__law_steps_asked) (defScope s__law_steps_asked) .none kV__law_steps_asked dc__law_steps_asked pm__law_steps_asked an__law_steps_asked cd__law_steps_asked ct__law_steps_asked), sl__law_steps_asked⟩)
    (c__law_steps_asked : PySem.W.codeIn K cd__law_steps_asked "_law_steps_asked" = true)
    (k__law_steps_asked : PySem.W.keepIn K (.ref f__law_steps_asked) = true)
    (a__law_no_hand : PySem.W.nsIn K mainGlobals "_law_no_hand" = some (some (.ref f__law_no_hand)))
    (l__law_no_hand : K.lookup f__law_no_hand = some ⟨oc__law_no_hand, od__law_no_hand, .func (PySem.W.fnOf "_law_no_hand" "_law_no_hand" (defArgs s__law_no_hand) (defBody s__law_no_hand) (defScope s__law_no_hand) .none kV__law_no_hand dc__law_no_hand pm__law_no_hand an__law_no_hand cd__law_no_hand ct__law_no_hand), sl__law_no_hand⟩)
    (c__law_no_hand : PySem.W.codeIn K cd__law_no_hand "_law_no_hand" = true)
    (k__law_no_hand : PySem.W.keepIn K (.ref f__law_no_hand) = true)
    (a__law_own : PySem.W.nsIn K mainGlobals "_law_own" = some (some (.ref f__law_own)))
    (l__law_own : K.lookup f__law_own = some ⟨oc__law_own, od__law_own, .func (PySem.W.fnOf "_law_own" "_law_own" (defArgs s__law_own) (defBody s__law_own) (defScope s__law_own) .none kV__law_own dc__law_own pm__law_own an__law_own cd__law_own ct__law_own), sl__law_own⟩)
    (c__law_own : PySem.W.codeIn K cd__law_own "_law_own" = true)
    (k__law_own : PySem.W.keepIn K (.ref f__law_own) = true)
    (a__law_other : PySem.W.nsIn K mainGlobals "_law_other" = some (some (.ref f__law_other)))
    (l__law_other : K.lookup f__law_other = some ⟨oc__law_other, od__law_other, .func (PySem.W.fnOf "_law_other" "_law_other" (defArgs s__law_other) (defBody s__law_other) (defScope s__law_other) .none kV__law_other dc__law_other pm__law_other an__law_other cd__law_other ct__law_other), sl__law_other⟩)
    (c__law_other : PySem.W.codeIn K cd__law_other "_law_other" = true)
    (k__law_other : PySem.W.keepIn K (.ref f__law_other) = true)
    (a__law_settled : PySem.W.nsIn K mainGlobals "_law_settled" = some (some (.ref f__law_settled)))
    (l__law_settled : K.lookup f__law_settled = some ⟨oc__law_settled, od__law_settled, .func (PySem.W.fnOf "_law_settled" "_law_settled" (defArgs s__law_settled) (defBody s__law_settled) (defScope s__law_settled) .none kV__law_settled dc__law_settled pm__law_settled an__law_settled cd__law_settled ct__law_settled), sl__law_settled⟩)
    (c__law_settled : PySem.W.codeIn K cd__law_settled "_law_settled" = true)
    (k__law_settled : PySem.W.keepIn K (.ref f__law_settled) = true)
    (a__law_as_told : PySem.W.nsIn K mainGlobals "_law_as_told" = some (some (.ref f__law_as_told)))
    (l__law_as_told : K.lookup f__law_as_told = some ⟨oc__law_as_told, od__law_as_told, .func (PySem.W.fnOf "_law_as_told" "_law_as_told" (defArgs s__law_as_told) (defBody s__law_as_told) (defScope s__law_as_told) .none kV__law_as_told dc__law_as_told pm__law_as_told an__law_as_told cd__law_as_told ct__law_as_told), sl__law_as_told⟩)
    (c__law_as_told : PySem.W.codeIn K cd__law_as_told "_law_as_told" = true)
    (k__law_as_told : PySem.W.keepIn K (.ref f__law_as_told) = true)
    (a_law : PySem.W.nsIn K mainGlobals "law" = some (some (.ref f_law)))
    (l_law : K.lookup f_law = some ⟨oc_law, od_law, .func (PySem.W.fnOf "law" "law" (defArgs s_law) (defBody s_law) (defScope s_law) .none kV_law dc_law pm_law an_law cd_law ct_law), sl_law⟩)
    (c_law : PySem.W.codeIn K cd_law "law" = true)
    (k_law : PySem.W.keepIn K (.ref f_law) = true)
    (pg_Log : PySem.W.plainGet K c_Log Str.empty = true)
    (hd_Log : PySem.W.hasDictIn K c_Log = true)
    (po_Log : PySem.W.plainOver K c_Log = true)
    (sa_Log : PySem.W.findIn K (.ref c_Log) "__setattr__" = some (some (.builtin "object.__setattr__")))
    (mk_Log : PySem.W.makesIn K c_Log = true)
    (kc_Log : PySem.W.keepIn K (.ref c_Log) = true)
    (na_Log_since : PySem.W.findIn K (.ref c_Log) "since" = some none)
    (na_Log_base : PySem.W.findIn K (.ref c_Log) "base" = some none)
    (na_Log_kept : PySem.W.findIn K (.ref c_Log) "kept" = some none)
    (pg_Hand : PySem.W.plainGet K c_Hand Str.empty = true)
    (hd_Hand : PySem.W.hasDictIn K c_Hand = true)
    (po_Hand : PySem.W.plainOver K c_Hand = true)
    (sa_Hand : PySem.W.findIn K (.ref c_Hand) "__setattr__" = some (some (.builtin "object.__setattr__")))
    (mk_Hand : PySem.W.makesIn K c_Hand = true)
    (kc_Hand : PySem.W.keepIn K (.ref c_Hand) = true)
    (na_Hand_number : PySem.W.findIn K (.ref c_Hand) "number" = some none)
    (na_Hand_clock : PySem.W.findIn K (.ref c_Hand) "clock" = some none)
    (na_Hand_log : PySem.W.findIn K (.ref c_Hand) "log" = some none)
    (x_TreeError : PySem.W.excIn K c_TreeError [.type "ValueError", .type "Exception", .type "BaseException", .type "object"] "ValueError.__new__" = true)
    (ke_TreeError : PySem.W.keepIn K (.ref c_TreeError) = true)
    (be_TreeError : PySem.W.subIn K (.ref c_TreeError) (.type "BaseException") = some true)
    (te_TreeError : PySem.W.typeIn K (.ref c_TreeError) = some (.type "type"))
    (ic_TreeError : PySem.W.isClsIn K c_TreeError = true)
    (x_NoMove : PySem.W.excIn K c_NoMove [.type "ValueError", .type "Exception", .type "BaseException", .type "object"] "ValueError.__new__" = true)
    (ke_NoMove : PySem.W.keepIn K (.ref c_NoMove) = true)
    (be_NoMove : PySem.W.subIn K (.ref c_NoMove) (.type "BaseException") = some true)
    (te_NoMove : PySem.W.typeIn K (.ref c_NoMove) = some (.type "type"))
    (ic_NoMove : PySem.W.isClsIn K c_NoMove = true)
    (x_TooLate : PySem.W.excIn K c_TooLate [.type "ValueError", .type "Exception", .type "BaseException", .type "object"] "ValueError.__new__" = true)
    (ke_TooLate : PySem.W.keepIn K (.ref c_TooLate) = true)
    (be_TooLate : PySem.W.subIn K (.ref c_TooLate) (.type "BaseException") = some true)
    (te_TooLate : PySem.W.typeIn K (.ref c_TooLate) = some (.type "type"))
    (ic_TooLate : PySem.W.isClsIn K c_TooLate = true)
    (x_Clash : PySem.W.excIn K c_Clash [.type "ValueError", .type "Exception", .type "BaseException", .type "object"] "ValueError.__new__" = true)
    (ke_Clash : PySem.W.keepIn K (.ref c_Clash) = true)
    (be_Clash : PySem.W.subIn K (.ref c_Clash) (.type "BaseException") = some true)
    (te_Clash : PySem.W.typeIn K (.ref c_Clash) = some (.type "type"))
    (ic_Clash : PySem.W.isClsIn K c_Clash = true)
    (x_NoHand : PySem.W.excIn K c_NoHand [.type "ValueError", .type "Exception", .type "BaseException", .type "object"] "ValueError.__new__" = true)
    (ke_NoHand : PySem.W.keepIn K (.ref c_NoHand) = true)
    (be_NoHand : PySem.W.subIn K (.ref c_NoHand) (.type "BaseException") = some true)
    (te_NoHand : PySem.W.typeIn K (.ref c_NoHand) = some (.type "type"))
    (ic_NoHand : PySem.W.isClsIn K c_NoHand = true)
    (eg_TreeError : PySem.W.findIn K (.ref c_TreeError) "__getattribute__" = some (some (.builtin "BaseException.__getattribute__")))
    (ek_TreeError : PySem.W.findIn K (.ref c_TreeError) "__getattr__" = some none)
    (eh_TreeError : PySem.W.hasDictIn K c_TreeError = true)
    (ea_TreeError : PySem.W.findIn K (.ref c_TreeError) "__class__" = some (some (.builtin "object.__class__")))
    (em_TreeError : PySem.W.mroIn K c_TreeError (.type "object") = some true)
    (ev_TreeError : PySem.W.subIn K (.ref c_TreeError) (.type "ValueError") = some true)
    (eg_NoMove : PySem.W.findIn K (.ref c_NoMove) "__getattribute__" = some (some (.builtin "BaseException.__getattribute__")))
    (ek_NoMove : PySem.W.findIn K (.ref c_NoMove) "__getattr__" = some none)
    (eh_NoMove : PySem.W.hasDictIn K c_NoMove = true)
    (ea_NoMove : PySem.W.findIn K (.ref c_NoMove) "__class__" = some (some (.builtin "object.__class__")))
    (em_NoMove : PySem.W.mroIn K c_NoMove (.type "object") = some true)
    (ev_NoMove : PySem.W.subIn K (.ref c_NoMove) (.type "ValueError") = some true)
    (eg_TooLate : PySem.W.findIn K (.ref c_TooLate) "__getattribute__" = some (some (.builtin "BaseException.__getattribute__")))
    (ek_TooLate : PySem.W.findIn K (.ref c_TooLate) "__getattr__" = some none)
    (eh_TooLate : PySem.W.hasDictIn K c_TooLate = true)
    (ea_TooLate : PySem.W.findIn K (.ref c_TooLate) "__class__" = some (some (.builtin "object.__class__")))
    (em_TooLate : PySem.W.mroIn K c_TooLate (.type "object") = some true)
    (ev_TooLate : PySem.W.subIn K (.ref c_TooLate) (.type "ValueError") = some true)
    (eg_Clash : PySem.W.findIn K (.ref c_Clash) "__getattribute__" = some (some (.builtin "BaseException.__getattribute__")))
    (ek_Clash : PySem.W.findIn K (.ref c_Clash) "__getattr__" = some none)
    (eh_Clash : PySem.W.hasDictIn K c_Clash = true)
    (ea_Clash : PySem.W.findIn K (.ref c_Clash) "__class__" = some (some (.builtin "object.__class__")))
    (em_Clash : PySem.W.mroIn K c_Clash (.type "object") = some true)
    (ev_Clash : PySem.W.subIn K (.ref c_Clash) (.type "ValueError") = some true)
    (eg_NoHand : PySem.W.findIn K (.ref c_NoHand) "__getattribute__" = some (some (.builtin "BaseException.__getattribute__")))
    (ek_NoHand : PySem.W.findIn K (.ref c_NoHand) "__getattr__" = some none)
    (eh_NoHand : PySem.W.hasDictIn K c_NoHand = true)
    (ea_NoHand : PySem.W.findIn K (.ref c_NoHand) "__class__" = some (some (.builtin "object.__class__")))
    (em_NoHand : PySem.W.mroIn K c_NoHand (.type "object") = some true)
    (ev_NoHand : PySem.W.subIn K (.ref c_NoHand) (.type "ValueError") = some true)
    (es_ : PySem.W.specialIn K (.builtin "object.__class__") "__get__" = some (some (.builtin "getset_descriptor.__get__")))
    (et_ : PySem.W.takesIn K (.builtin "object.__class__") = some true)
    (nq_TreeError_NoMove : (c_TreeError == c_NoMove) = false)
    (nq_TreeError_TooLate : (c_TreeError == c_TooLate) = false)
    (nq_TreeError_Clash : (c_TreeError == c_Clash) = false)
    (nq_TreeError_NoHand : (c_TreeError == c_NoHand) = false)
    (nq_NoMove_TooLate : (c_NoMove == c_TooLate) = false)
    (nq_NoMove_Clash : (c_NoMove == c_Clash) = false)
    (nq_NoMove_NoHand : (c_NoMove == c_NoHand) = false)
    (nq_TooLate_Clash : (c_TooLate == c_Clash) = false)
    (nq_TooLate_NoHand : (c_TooLate == c_NoHand) = false)
    (nq_Clash_NoHand : (c_Clash == c_NoHand) = false)
    (su_TreeError_TreeError : PySem.W.subIn K (.ref c_TreeError) (.ref c_TreeError) = some true)
    (su_TreeError_NoMove : PySem.W.subIn K (.ref c_TreeError) (.ref c_NoMove) = some false)
    (su_TreeError_TooLate : PySem.W.subIn K (.ref c_TreeError) (.ref c_TooLate) = some false)
    (su_TreeError_Clash : PySem.W.subIn K (.ref c_TreeError) (.ref c_Clash) = some false)
    (su_TreeError_NoHand : PySem.W.subIn K (.ref c_TreeError) (.ref c_NoHand) = some false)
    (su_NoMove_TreeError : PySem.W.subIn K (.ref c_NoMove) (.ref c_TreeError) = some true)
    (su_NoMove_NoMove : PySem.W.subIn K (.ref c_NoMove) (.ref c_NoMove) = some true)
    (su_NoMove_TooLate : PySem.W.subIn K (.ref c_NoMove) (.ref c_TooLate) = some false)
    (su_NoMove_Clash : PySem.W.subIn K (.ref c_NoMove) (.ref c_Clash) = some false)
    (su_NoMove_NoHand : PySem.W.subIn K (.ref c_NoMove) (.ref c_NoHand) = some false)
    (su_TooLate_TreeError : PySem.W.subIn K (.ref c_TooLate) (.ref c_TreeError) = some true)
    (su_TooLate_NoMove : PySem.W.subIn K (.ref c_TooLate) (.ref c_NoMove) = some false)
    (su_TooLate_TooLate : PySem.W.subIn K (.ref c_TooLate) (.ref c_TooLate) = some true)
    (su_TooLate_Clash : PySem.W.subIn K (.ref c_TooLate) (.ref c_Clash) = some false)
    (su_TooLate_NoHand : PySem.W.subIn K (.ref c_TooLate) (.ref c_NoHand) = some false)
    (su_Clash_TreeError : PySem.W.subIn K (.ref c_Clash) (.ref c_TreeError) = some true)
    (su_Clash_NoMove : PySem.W.subIn K (.ref c_Clash) (.ref c_NoMove) = some false)
    (su_Clash_TooLate : PySem.W.subIn K (.ref c_Clash) (.ref c_TooLate) = some false)
    (su_Clash_Clash : PySem.W.subIn K (.ref c_Clash) (.ref c_Clash) = some true)
    (su_Clash_NoHand : PySem.W.subIn K (.ref c_Clash) (.ref c_NoHand) = some false)
    (su_NoHand_TreeError : PySem.W.subIn K (.ref c_NoHand) (.ref c_TreeError) = some true)
    (su_NoHand_NoMove : PySem.W.subIn K (.ref c_NoHand) (.ref c_NoMove) = some false)
    (su_NoHand_TooLate : PySem.W.subIn K (.ref c_NoHand) (.ref c_TooLate) = some false)
    (su_NoHand_Clash : PySem.W.subIn K (.ref c_NoHand) (.ref c_Clash) = some false)
    (su_NoHand_NoHand : PySem.W.subIn K (.ref c_NoHand) (.ref c_NoHand) = some true)
    (n_len : PySem.W.nsIn K mainGlobals "len" = some none)
    (n_isinstance : PySem.W.nsIn K mainGlobals "isinstance" = some none)
    (n_range : PySem.W.nsIn K mainGlobals "range" = some none)
    (n_int : PySem.W.nsIn K mainGlobals "int" = some none)
    (n_bool : PySem.W.nsIn K mainGlobals "bool" = some none)
    (n_str : PySem.W.nsIn K mainGlobals "str" = some none)
    (n_list : PySem.W.nsIn K mainGlobals "list" = some none)
    (n_tuple : PySem.W.nsIn K mainGlobals "tuple" = some none)
    (n_dict : PySem.W.nsIn K mainGlobals "dict" = some none)
    (n_max : PySem.W.nsIn K mainGlobals "max" = some none)
    (n_min : PySem.W.nsIn K mainGlobals "min" = some none)
    (n_ValueError : PySem.W.nsIn K mainGlobals "ValueError" = some none)
    : ∃ fd : FuncData, (∀ (s : Shared) (v : Value), BindsTo s fd ⟨[v], []⟩ [("_law_script", v)]) ∧ ∀ base : Heap, K.In base → base.Ns mainGlobals mg → FnOk l.prog w K mg base (L2.CX l.prog w) 7 fa fd ["_law_script"] (spLaw K) := by
  have e := hfa.symm.trans (PySem.W.mg_of X G a_law)
  have e2 : f_law = fa := by injection e with z; injection z with z; exact z.symm
  subst e2
  have F_whole := fun_mk (st := s_whole) l_whole c_whole k_whole
  have F_is_move := fun_mk (st := s_is_move) l_is_move c_is_move k_is_move
  have F_ahead := fun_mk (st := s_ahead) l_ahead c_ahead k_ahead
  have F_way_up := fun_mk (st := s_way_up) l_way_up c_way_up k_way_up
  have F_closes := fun_mk (st := s_closes) l_closes c_closes k_closes
  have F_put := fun_mk (st := s_put) l_put c_put k_put
  have F_Log_init := fun_mk (st := s_Log_init) l_Log_init c_Log_init k_Log_init
  have F_Log_place_of := fun_mk (st := s_Log_place_of) l_Log_place_of c_Log_place_of k_Log_place_of
  have F_Log_hear := fun_mk (st := s_Log_hear) l_Log_hear c_Log_hear k_Log_hear
  have F_Log_moves := fun_mk (st := s_Log_moves) l_Log_moves c_Log_moves k_Log_moves
  have F_Log_tree := fun_mk (st := s_Log_tree) l_Log_tree c_Log_tree k_Log_tree
  have F_Log_steps := fun_mk (st := s_Log_steps) l_Log_steps c_Log_steps k_Log_steps
  have F_Log_settle := fun_mk (st := s_Log_settle) l_Log_settle c_Log_settle k_Log_settle
  have F_Hand_init := fun_mk (st := s_Hand_init) l_Hand_init c_Hand_init k_Hand_init
  have F_Hand_move := fun_mk (st := s_Hand_move) l_Hand_move c_Hand_move k_Hand_move
  have F_Hand_hear := fun_mk (st := s_Hand_hear) l_Hand_hear c_Hand_hear k_Hand_hear
  have F_Hand_tree := fun_mk (st := s_Hand_tree) l_Hand_tree c_Hand_tree k_Hand_tree
  have F_Hand_settle := fun_mk (st := s_Hand_settle) l_Hand_settle c_Hand_settle k_Hand_settle
  have F__law_whole := fun_mk (st := s__law_whole) l__law_whole c__law_whole k__law_whole
  have F__law_cell_at := fun_mk (st := s__law_cell_at) l__law_cell_at c__law_cell_at k__law_cell_at
  have F__law_name := fun_mk (st := s__law_name) l__law_name c__law_name k__law_name
  have F__law_same_tree := fun_mk (st := s__law_same_tree) l__law_same_tree c__law_same_tree k__law_same_tree
  have F__law_same_move := fun_mk (st := s__law_same_move) l__law_same_move c__law_same_move k__law_same_move
  have F__law_same_moves := fun_mk (st := s__law_same_moves) l__law_same_moves c__law_same_moves k__law_same_moves
  have F__law_told := fun_mk (st := s__law_told) l__law_told c__law_told k__law_told
  have F__law_deeds := fun_mk (st := s__law_deeds) l__law_deeds c__law_deeds k__law_deeds
  have F__law_clash := fun_mk (st := s__law_clash) l__law_clash c__law_clash k__law_clash
  have F__law_heard := fun_mk (st := s__law_heard) l__law_heard c__law_heard k__law_heard
  have F__law_answer := fun_mk (st := s__law_answer) l__law_answer c__law_answer k__law_answer
  have F__law_way := fun_mk (st := s__law_way) l__law_way c__law_way k__law_way
  have F__law_fold := fun_mk (st := s__law_fold) l__law_fold c__law_fold k__law_fold
  have F__law_steps_of := fun_mk (st := s__law_steps_of) l__law_steps_of c__law_steps_of k__law_steps_of
  have F__law_same_steps := fun_mk (st := s__law_same_steps) l__law_same_steps c__law_same_steps k__law_same_steps
  have F__law_steps_asked := fun_mk (st := s__law_steps_asked) l__law_steps_asked c__law_steps_asked k__law_steps_asked
  have F__law_no_hand := fun_mk (st := s__law_no_hand) l__law_no_hand c__law_no_hand k__law_no_hand
  have F__law_own := fun_mk (st := s__law_own) l__law_own c__law_own k__law_own
  have F__law_other := fun_mk (st := s__law_other) l__law_other c__law_other k__law_other
  have F__law_settled := fun_mk (st := s__law_settled) l__law_settled c__law_settled k__law_settled
  have F__law_as_told := fun_mk (st := s__law_as_told) l__law_as_told c__law_as_told k__law_as_told
  have F_law := fun_mk (st := s_law) l_law c_law k_law
  let a : Ad := {
    f_whole := f_whole, d_whole := PySem.W.fnOf "whole" "whole" (defArgs s_whole) (defBody s_whole) (defScope s_whole) .none kV_whole dc_whole pm_whole an_whole cd_whole ct_whole,
    f_is_move := f_is_move, d_is_move := PySem.W.fnOf "is_move" "is_move" (defArgs s_is_move) (defBody s_is_move) (defScope s_is_move) .none kV_is_move dc_is_move pm_is_move an_is_move cd_is_move ct_is_move,
    f_ahead := f_ahead, d_ahead := PySem.W.fnOf "ahead" "ahead" (defArgs s_ahead) (defBody s_ahead) (defScope s_ahead) .none kV_ahead dc_ahead pm_ahead an_ahead cd_ahead ct_ahead,
    f_way_up := f_way_up, d_way_up := PySem.W.fnOf "way_up" "way_up" (defArgs s_way_up) (defBody s_way_up) (defScope s_way_up) .none kV_way_up dc_way_up pm_way_up an_way_up cd_way_up ct_way_up,
    f_closes := f_closes, d_closes := PySem.W.fnOf "closes" "closes" (defArgs s_closes) (defBody s_closes) (defScope s_closes) .none kV_closes dc_closes pm_closes an_closes cd_closes ct_closes,
    f_put := f_put, d_put := PySem.W.fnOf "put" "put" (defArgs s_put) (defBody s_put) (defScope s_put) .none kV_put dc_put pm_put an_put cd_put ct_put,
    f_Log_init := f_Log_init, d_Log_init := PySem.W.fnOf "__init__" "Log.__init__" (defArgs s_Log_init) (defBody s_Log_init) (defScope s_Log_init) .none kV_Log_init dc_Log_init pm_Log_init an_Log_init cd_Log_init ct_Log_init,
    f_Log_place_of := f_Log_place_of, d_Log_place_of := PySem.W.fnOf "place_of" "Log.place_of" (defArgs s_Log_place_of) (defBody s_Log_place_of) (defScope s_Log_place_of) .none kV_Log_place_of dc_Log_place_of pm_Log_place_of an_Log_place_of cd_Log_place_of ct_Log_place_of,
    f_Log_hear := f_Log_hear, d_Log_hear := PySem.W.fnOf "hear" "Log.hear" (defArgs s_Log_hear) (defBody s_Log_hear) (defScope s_Log_hear) .none kV_Log_hear dc_Log_hear pm_Log_hear an_Log_hear cd_Log_hear ct_Log_hear,
    f_Log_moves := f_Log_moves, d_Log_moves := PySem.W.fnOf "moves" "Log.moves" (defArgs s_Log_moves) (defBody s_Log_moves) (defScope s_Log_moves) .none kV_Log_moves dc_Log_moves pm_Log_moves an_Log_moves cd_Log_moves ct_Log_moves,
    f_Log_tree := f_Log_tree, d_Log_tree := PySem.W.fnOf "tree" "Log.tree" (defArgs s_Log_tree) (defBody s_Log_tree) (defScope s_Log_tree) .none kV_Log_tree dc_Log_tree pm_Log_tree an_Log_tree cd_Log_tree ct_Log_tree,
    f_Log_steps := f_Log_steps, d_Log_steps := PySem.W.fnOf "steps" "Log.steps" (defArgs s_Log_steps) (defBody s_Log_steps) (defScope s_Log_steps) .none kV_Log_steps dc_Log_steps pm_Log_steps an_Log_steps cd_Log_steps ct_Log_steps,
    f_Log_settle := f_Log_settle, d_Log_settle := PySem.W.fnOf "settle" "Log.settle" (defArgs s_Log_settle) (defBody s_Log_settle) (defScope s_Log_settle) .none kV_Log_settle dc_Log_settle pm_Log_settle an_Log_settle cd_Log_settle ct_Log_settle,
    f_Hand_init := f_Hand_init, d_Hand_init := PySem.W.fnOf "__init__" "Hand.__init__" (defArgs s_Hand_init) (defBody s_Hand_init) (defScope s_Hand_init) .none kV_Hand_init dc_Hand_init pm_Hand_init an_Hand_init cd_Hand_init ct_Hand_init,
    f_Hand_move := f_Hand_move, d_Hand_move := PySem.W.fnOf "move" "Hand.move" (defArgs s_Hand_move) (defBody s_Hand_move) (defScope s_Hand_move) .none kV_Hand_move dc_Hand_move pm_Hand_move an_Hand_move cd_Hand_move ct_Hand_move,
    f_Hand_hear := f_Hand_hear, d_Hand_hear := PySem.W.fnOf "hear" "Hand.hear" (defArgs s_Hand_hear) (defBody s_Hand_hear) (defScope s_Hand_hear) .none kV_Hand_hear dc_Hand_hear pm_Hand_hear an_Hand_hear cd_Hand_hear ct_Hand_hear,
    f_Hand_tree := f_Hand_tree, d_Hand_tree := PySem.W.fnOf "tree" "Hand.tree" (defArgs s_Hand_tree) (defBody s_Hand_tree) (defScope s_Hand_tree) .none kV_Hand_tree dc_Hand_tree pm_Hand_tree an_Hand_tree cd_Hand_tree ct_Hand_tree,
    f_Hand_settle := f_Hand_settle, d_Hand_settle := PySem.W.fnOf "settle" "Hand.settle" (defArgs s_Hand_settle) (defBody s_Hand_settle) (defScope s_Hand_settle) .none kV_Hand_settle dc_Hand_settle pm_Hand_settle an_Hand_settle cd_Hand_settle ct_Hand_settle,
    f__law_whole := f__law_whole, d__law_whole := PySem.W.fnOf "_law_whole" "_law_whole" (defArgs s__law_whole) (defBody s__law_whole) (defScope s__law_whole) .none kV__law_whole dc__law_whole pm__law_whole an__law_whole cd__law_whole ct__law_whole,
    f__law_cell_at := f__law_cell_at, d__law_cell_at := PySem.W.fnOf "_law_cell_at" "_law_cell_at" (defArgs s__law_cell_at) (defBody s__law_cell_at) (defScope s__law_cell_at) .none kV__law_cell_at dc__law_cell_at pm__law_cell_at an__law_cell_at cd__law_cell_at ct__law_cell_at,
    f__law_name := f__law_name, d__law_name := PySem.W.fnOf "_law_name" "_law_name" (defArgs s__law_name) (defBody s__law_name) (defScope s__law_name) .none kV__law_name dc__law_name pm__law_name an__law_name cd__law_name ct__law_name,
    f__law_same_tree := f__law_same_tree, d__law_same_tree := PySem.W.fnOf "_law_same_tree" "_law_same_tree" (defArgs s__law_same_tree) (defBody s__law_same_tree) (defScope s__law_same_tree) .none kV__law_same_tree dc__law_same_tree pm__law_same_tree an__law_same_tree cd__law_same_tree ct__law_same_tree,
    f__law_same_move := f__law_same_move, d__law_same_move := PySem.W.fnOf "_law_same_move" "_law_same_move" (defArgs s__law_same_move) (defBody s__law_same_move) (defScope s__law_same_move) .none kV__law_same_move dc__law_same_move pm__law_same_move an__law_same_move cd__law_same_move ct__law_same_move,
    f__law_same_moves := f__law_same_moves, d__law_same_moves := PySem.W.fnOf "_law_same_moves" "_law_same_moves" (defArgs s__law_same_moves) (defBody s__law_same_moves) (defScope s__law_same_moves) .none kV__law_same_moves dc__law_same_moves pm__law_same_moves an__law_same_moves cd__law_same_moves ct__law_same_moves,
    f__law_told := f__law_told, d__law_told := PySem.W.fnOf "_law_told" "_law_told" (defArgs s__law_told) (defBody s__law_told) (defScope s__law_told) .none kV__law_told dc__law_told pm__law_told an__law_told cd__law_told ct__law_told,
    f__law_deeds := f__law_deeds, d__law_deeds := PySem.W.fnOf "_law_deeds" "_law_deeds" (defArgs s__law_deeds) (defBody s__law_deeds) (defScope s__law_deeds) .none kV__law_deeds dc__law_deeds pm__law_deeds an__law_deeds cd__law_deeds ct__law_deeds,
    f__law_clash := f__law_clash, d__law_clash := PySem.W.fnOf "_law_clash" "_law_clash" (defArgs s__law_clash) (defBody s__law_clash) (defScope s__law_clash) .none kV__law_clash dc__law_clash pm__law_clash an__law_clash cd__law_clash ct__law_clash,
    f__law_heard := f__law_heard, d__law_heard := PySem.W.fnOf "_law_heard" "_law_heard" (defArgs s__law_heard) (defBody s__law_heard) (defScope s__law_heard) .none kV__law_heard dc__law_heard pm__law_heard an__law_heard cd__law_heard ct__law_heard,
    f__law_answer := f__law_answer, d__law_answer := PySem.W.fnOf "_law_answer" "_law_answer" (defArgs s__law_answer) (defBody s__law_answer) (defScope s__law_answer) .none kV__law_answer dc__law_answer pm__law_answer an__law_answer cd__law_answer ct__law_answer,
    f__law_way := f__law_way, d__law_way := PySem.W.fnOf "_law_way" "_law_way" (defArgs s__law_way) (defBody s__law_way) (defScope s__law_way) .none kV__law_way dc__law_way pm__law_way an__law_way cd__law_way ct__law_way,
    f__law_fold := f__law_fold, d__law_fold := PySem.W.fnOf "_law_fold" "_law_fold" (defArgs s__law_fold) (defBody s__law_fold) (defScope s__law_fold) .none kV__law_fold dc__law_fold pm__law_fold an__law_fold cd__law_fold ct__law_fold,
    f__law_steps_of := f__law_steps_of, d__law_steps_of := PySem.W.fnOf "_law_steps_of" "_law_steps_of" (defArgs s__law_steps_of) (defBody s__law_steps_of) (defScope s__law_steps_of) .none kV__law_steps_of dc__law_steps_of pm__law_steps_of an__law_steps_of cd__law_steps_of ct__law_steps_of,
    f__law_same_steps := f__law_same_steps, d__law_same_steps := PySem.W.fnOf "_law_same_steps" "_law_same_steps" (defArgs s__law_same_steps) (defBody s__law_same_steps) (defScope s__law_same_steps) .none kV__law_same_steps dc__law_same_steps pm__law_same_steps an__law_same_steps cd__law_same_steps ct__law_same_steps,
    f__law_steps_asked := f__law_steps_asked, d__law_steps_asked := PySem.W.fnOf "_law_steps_asked" "_law_steps_asked" (defArgs s__law_steps_asked) (defBody s__law_steps_asked) (defScope s__law_steps_asked) .none kV__law_steps_asked dc__law_steps_asked pm__law_steps_asked an__law_steps_asked cd__law_steps_asked ct__law_steps_asked,
    f__law_no_hand := f__law_no_hand, d__law_no_hand := PySem.W.fnOf "_law_no_hand" "_law_no_hand" (defArgs s__law_no_hand) (defBody s__law_no_hand) (defScope s__law_no_hand) .none kV__law_no_hand dc__law_no_hand pm__law_no_hand an__law_no_hand cd__law_no_hand ct__law_no_hand,
    f__law_own := f__law_own, d__law_own := PySem.W.fnOf "_law_own" "_law_own" (defArgs s__law_own) (defBody s__law_own) (defScope s__law_own) .none kV__law_own dc__law_own pm__law_own an__law_own cd__law_own ct__law_own,
    f__law_other := f__law_other, d__law_other := PySem.W.fnOf "_law_other" "_law_other" (defArgs s__law_other) (defBody s__law_other) (defScope s__law_other) .none kV__law_other dc__law_other pm__law_other an__law_other cd__law_other ct__law_other,
    f__law_settled := f__law_settled, d__law_settled := PySem.W.fnOf "_law_settled" "_law_settled" (defArgs s__law_settled) (defBody s__law_settled) (defScope s__law_settled) .none kV__law_settled dc__law_settled pm__law_settled an__law_settled cd__law_settled ct__law_settled,
    f__law_as_told := f__law_as_told, d__law_as_told := PySem.W.fnOf "_law_as_told" "_law_as_told" (defArgs s__law_as_told) (defBody s__law_as_told) (defScope s__law_as_told) .none kV__law_as_told dc__law_as_told pm__law_as_told an__law_as_told cd__law_as_told ct__law_as_told,
    f_law := f_law, d_law := PySem.W.fnOf "law" "law" (defArgs s_law) (defBody s_law) (defScope s_law) .none kV_law dc_law pm_law an_law cd_law ct_law,
    c_Log := c_Log,
    c_Hand := c_Hand,
    c_TreeError := c_TreeError,
    c_NoMove := c_NoMove,
    c_TooLate := c_TooLate,
    c_Clash := c_Clash,
    c_NoHand := c_NoHand }
  have T : Txt K mg a := {
    F_whole := F_whole,
    b_whole := F_whole.binds (ps := ["thing", "least"]) fun _ _ _ _ _ _ us hl => match us, hl with | [_, _], _ => rfl,
    g_whole := PySem.W.mg_of X G a_whole,
    k_whole := k_whole,
    F_is_move := F_is_move,
    b_is_move := F_is_move.binds (ps := ["thing"]) fun _ _ _ _ _ _ us hl => match us, hl with | [_], _ => rfl,
    g_is_move := PySem.W.mg_of X G a_is_move,
    k_is_move := k_is_move,
    F_ahead := F_ahead,
    b_ahead := F_ahead.binds (ps := ["one", "other"]) fun _ _ _ _ _ _ us hl => match us, hl with | [_, _], _ => rfl,
    g_ahead := PySem.W.mg_of X G a_ahead,
    k_ahead := k_ahead,
    F_way_up := F_way_up,
    b_way_up := F_way_up.binds (ps := ["tree", "folder"]) fun _ _ _ _ _ _ us hl => match us, hl with | [_, _], _ => rfl,
    g_way_up := PySem.W.mg_of X G a_way_up,
    k_way_up := k_way_up,
    F_closes := F_closes,
    b_closes := F_closes.binds (ps := ["tree", "folder", "under"]) fun _ _ _ _ _ _ us hl => match us, hl with | [_, _, _], _ => rfl,
    g_closes := PySem.W.mg_of X G a_closes,
    k_closes := k_closes,
    F_put := F_put,
    b_put := F_put.binds (ps := ["tree", "folder", "under"]) fun _ _ _ _ _ _ us hl => match us, hl with | [_, _, _], _ => rfl,
    g_put := PySem.W.mg_of X G a_put,
    k_put := k_put,
    F_Log_init := F_Log_init,
    b_Log_init := F_Log_init.binds (ps := ["self"]) fun _ _ _ _ _ _ us hl => match us, hl with | [_], _ => rfl,
    F_Log_place_of := F_Log_place_of,
    b_Log_place_of := F_Log_place_of.binds (ps := ["self", "move"]) fun _ _ _ _ _ _ us hl => match us, hl with | [_, _], _ => rfl,
    mt_Log_place_of := ⟨a_Log_place_of, i_Log_place_of, k_Log_place_of⟩,
    F_Log_hear := F_Log_hear,
    b_Log_hear := F_Log_hear.binds (ps := ["self", "move"]) fun _ _ _ _ _ _ us hl => match us, hl with | [_, _], _ => rfl,
    mt_Log_hear := ⟨a_Log_hear, i_Log_hear, k_Log_hear⟩,
    F_Log_moves := F_Log_moves,
    b_Log_moves := F_Log_moves.binds (ps := ["self"]) fun _ _ _ _ _ _ us hl => match us, hl with | [_], _ => rfl,
    mt_Log_moves := ⟨a_Log_moves, i_Log_moves, k_Log_moves⟩,
    F_Log_tree := F_Log_tree,
    b_Log_tree := F_Log_tree.binds (ps := ["self"]) fun _ _ _ _ _ _ us hl => match us, hl with | [_], _ => rfl,
    mt_Log_tree := ⟨a_Log_tree, i_Log_tree, k_Log_tree⟩,
    F_Log_steps := F_Log_steps,
    b_Log_steps := F_Log_steps.binds (ps := ["self"]) fun _ _ _ _ _ _ us hl => match us, hl with | [_], _ => rfl,
    mt_Log_steps := ⟨a_Log_steps, i_Log_steps, k_Log_steps⟩,
    F_Log_settle := F_Log_settle,
    b_Log_settle := F_Log_settle.binds (ps := ["self", "time"]) fun _ _ _ _ _ _ us hl => match us, hl with | [_, _], _ => rfl,
    mt_Log_settle := ⟨a_Log_settle, i_Log_settle, k_Log_settle⟩,
    F_Hand_init := F_Hand_init,
    b_Hand_init := F_Hand_init.binds (ps := ["self", "number"]) fun _ _ _ _ _ _ us hl => match us, hl with | [_, _], _ => rfl,
    F_Hand_move := F_Hand_move,
    b_Hand_move := F_Hand_move.binds (ps := ["self", "folder", "under"]) fun _ _ _ _ _ _ us hl => match us, hl with | [_, _, _], _ => rfl,
    mt_Hand_move := ⟨a_Hand_move, i_Hand_move, k_Hand_move⟩,
    F_Hand_hear := F_Hand_hear,
    b_Hand_hear := F_Hand_hear.binds (ps := ["self", "move"]) fun _ _ _ _ _ _ us hl => match us, hl with | [_, _], _ => rfl,
    mt_Hand_hear := ⟨a_Hand_hear, i_Hand_hear, k_Hand_hear⟩,
    F_Hand_tree := F_Hand_tree,
    b_Hand_tree := F_Hand_tree.binds (ps := ["self"]) fun _ _ _ _ _ _ us hl => match us, hl with | [_], _ => rfl,
    mt_Hand_tree := ⟨a_Hand_tree, i_Hand_tree, k_Hand_tree⟩,
    F_Hand_settle := F_Hand_settle,
    b_Hand_settle := F_Hand_settle.binds (ps := ["self", "time"]) fun _ _ _ _ _ _ us hl => match us, hl with | [_, _], _ => rfl,
    mt_Hand_settle := ⟨a_Hand_settle, i_Hand_settle, k_Hand_settle⟩,
    F__law_whole := F__law_whole,
    b__law_whole := F__law_whole.binds (ps := ["_law_found"]) fun _ _ _ _ _ _ us hl => match us, hl with | [_], _ => rfl,
    g__law_whole := PySem.W.mg_of X G a__law_whole,
    k__law_whole := k__law_whole,
    F__law_cell_at := F__law_cell_at,
    b__law_cell_at := F__law_cell_at.binds (ps := ["_law_script", "_law_k"]) fun _ _ _ _ _ _ us hl => match us, hl with | [_, _], _ => rfl,
    g__law_cell_at := PySem.W.mg_of X G a__law_cell_at,
    k__law_cell_at := k__law_cell_at,
    F__law_name := F__law_name,
    b__law_name := F__law_name.binds (ps := ["_law_k", "_law_cell"]) fun _ _ _ _ _ _ us hl => match us, hl with | [_, _], _ => rfl,
    g__law_name := PySem.W.mg_of X G a__law_name,
    k__law_name := k__law_name,
    F__law_same_tree := F__law_same_tree,
    b__law_same_tree := F__law_same_tree.binds (ps := ["_law_found", "_law_due"]) fun _ _ _ _ _ _ us hl => match us, hl with | [_, _], _ => rfl,
    g__law_same_tree := PySem.W.mg_of X G a__law_same_tree,
    k__law_same_tree := k__law_same_tree,
    F__law_same_move := F__law_same_move,
    b__law_same_move := F__law_same_move.binds (ps := ["_law_found", "_law_due"]) fun _ _ _ _ _ _ us hl => match us, hl with | [_, _], _ => rfl,
    g__law_same_move := PySem.W.mg_of X G a__law_same_move,
    k__law_same_move := k__law_same_move,
    F__law_same_moves := F__law_same_moves,
    b__law_same_moves := F__law_same_moves.binds (ps := ["_law_found", "_law_due"]) fun _ _ _ _ _ _ us hl => match us, hl with | [_, _], _ => rfl,
    g__law_same_moves := PySem.W.mg_of X G a__law_same_moves,
    k__law_same_moves := k__law_same_moves,
    F__law_told := F__law_told,
    b__law_told := F__law_told.binds (ps := ["_law_moves", "_law_move"]) fun _ _ _ _ _ _ us hl => match us, hl with | [_, _], _ => rfl,
    g__law_told := PySem.W.mg_of X G a__law_told,
    k__law_told := k__law_told,
    F__law_deeds := F__law_deeds,
    b__law_deeds := F__law_deeds.binds (ps := ["_law_script", "_law_few", "_law_many"]) fun _ _ _ _ _ _ us hl => match us, hl with | [_, _, _], _ => rfl,
    g__law_deeds := PySem.W.mg_of X G a__law_deeds,
    k__law_deeds := k__law_deeds,
    F__law_clash := F__law_clash,
    b__law_clash := F__law_clash.binds (ps := ["_law_moves", "_law_move"]) fun _ _ _ _ _ _ us hl => match us, hl with | [_, _], _ => rfl,
    g__law_clash := PySem.W.mg_of X G a__law_clash,
    k__law_clash := k__law_clash,
    F__law_heard := F__law_heard,
    b__law_heard := F__law_heard.binds (ps := ["_law_log", "_law_move"]) fun _ _ _ _ _ _ us hl => match us, hl with | [_, _], _ => rfl,
    g__law_heard := PySem.W.mg_of X G a__law_heard,
    k__law_heard := k__law_heard,
    F__law_answer := F__law_answer,
    b__law_answer := F__law_answer.binds (ps := ["_law_found", "_law_due"]) fun _ _ _ _ _ _ us hl => match us, hl with | [_, _], _ => rfl,
    g__law_answer := PySem.W.mg_of X G a__law_answer,
    k__law_answer := k__law_answer,
    F__law_way := F__law_way,
    b__law_way := F__law_way.binds (ps := ["_law_tree", "_law_folder"]) fun _ _ _ _ _ _ us hl => match us, hl with | [_, _], _ => rfl,
    g__law_way := PySem.W.mg_of X G a__law_way,
    k__law_way := k__law_way,
    F__law_fold := F__law_fold,
    b__law_fold := F__law_fold.binds (ps := ["_law_tree", "_law_moves"]) fun _ _ _ _ _ _ us hl => match us, hl with | [_, _], _ => rfl,
    g__law_fold := PySem.W.mg_of X G a__law_fold,
    k__law_fold := k__law_fold,
    F__law_steps_of := F__law_steps_of,
    b__law_steps_of := F__law_steps_of.binds (ps := ["_law_base", "_law_moves"]) fun _ _ _ _ _ _ us hl => match us, hl with | [_, _], _ => rfl,
    g__law_steps_of := PySem.W.mg_of X G a__law_steps_of,
    k__law_steps_of := k__law_steps_of,
    F__law_same_steps := F__law_same_steps,
    b__law_same_steps := F__law_same_steps.binds (ps := ["_law_found", "_law_due"]) fun _ _ _ _ _ _ us hl => match us, hl with | [_, _], _ => rfl,
    g__law_same_steps := PySem.W.mg_of X G a__law_same_steps,
    k__law_same_steps := k__law_same_steps,
    F__law_steps_asked := F__law_steps_asked,
    b__law_steps_asked := F__law_steps_asked.binds (ps := ["_law_log", "_law_base", "_law_moves", "_law_held"]) fun _ _ _ _ _ _ us hl => match us, hl with | [_, _, _, _], _ => rfl,
    g__law_steps_asked := PySem.W.mg_of X G a__law_steps_asked,
    k__law_steps_asked := k__law_steps_asked,
    F__law_no_hand := F__law_no_hand,
    b__law_no_hand := F__law_no_hand.binds (ps := ["_law_cell"]) fun _ _ _ _ _ _ us hl => match us, hl with | [_], _ => rfl,
    g__law_no_hand := PySem.W.mg_of X G a__law_no_hand,
    k__law_no_hand := k__law_no_hand,
    F__law_own := F__law_own,
    b__law_own := F__law_own.binds (ps := ["_law_hand", "_law_state", "_law_pick", "_law_cell"]) fun _ _ _ _ _ _ us hl => match us, hl with | [_, _, _, _], _ => rfl,
    g__law_own := PySem.W.mg_of X G a__law_own,
    k__law_own := k__law_own,
    F__law_other := F__law_other,
    b__law_other := F__law_other.binds (ps := ["_law_hand", "_law_state", "_law_pick", "_law_cell"]) fun _ _ _ _ _ _ us hl => match us, hl with | [_, _, _, _], _ => rfl,
    g__law_other := PySem.W.mg_of X G a__law_other,
    k__law_other := k__law_other,
    F__law_settled := F__law_settled,
    b__law_settled := F__law_settled.binds (ps := ["_law_hand", "_law_state", "_law_pick", "_law_great"]) fun _ _ _ _ _ _ us hl => match us, hl with | [_, _, _, _], _ => rfl,
    g__law_settled := PySem.W.mg_of X G a__law_settled,
    k__law_settled := k__law_settled,
    F__law_as_told := F__law_as_told,
    b__law_as_told := F__law_as_told.binds (ps := ["_law_hand", "_law_state"]) fun _ _ _ _ _ _ us hl => match us, hl with | [_, _], _ => rfl,
    g__law_as_told := PySem.W.mg_of X G a__law_as_told,
    k__law_as_told := k__law_as_told,
    F_law := F_law,
    b_law := F_law.binds (ps := ["_law_script"]) fun _ _ _ _ _ _ us hl => match us, hl with | [_], _ => rfl,
    g_law := PySem.W.mg_of X G a_law,
    k_law := k_law,
    cl_Log := ⟨pg_Log, hd_Log, po_Log, sa_Log⟩,
    g_Log := PySem.W.mg_of X G aC_Log,
    m_Log := ⟨mk_Log, a_Log_init, i_Log_init, kc_Log⟩,
    na_Log_since := na_Log_since,
    na_Log_base := na_Log_base,
    na_Log_kept := na_Log_kept,
    cl_Hand := ⟨pg_Hand, hd_Hand, po_Hand, sa_Hand⟩,
    g_Hand := PySem.W.mg_of X G aC_Hand,
    m_Hand := ⟨mk_Hand, a_Hand_init, i_Hand_init, kc_Hand⟩,
    na_Hand_number := na_Hand_number,
    na_Hand_clock := na_Hand_clock,
    na_Hand_log := na_Hand_log,
    g_TreeError := PySem.W.mg_of X G aC_TreeError,
    x_TreeError := x_TreeError,
    ke_TreeError := ke_TreeError,
    be_TreeError := be_TreeError,
    te_TreeError := te_TreeError,
    g_NoMove := PySem.W.mg_of X G aC_NoMove,
    x_NoMove := x_NoMove,
    ke_NoMove := ke_NoMove,
    be_NoMove := be_NoMove,
    te_NoMove := te_NoMove,
    g_TooLate := PySem.W.mg_of X G aC_TooLate,
    x_TooLate := x_TooLate,
    ke_TooLate := ke_TooLate,
    be_TooLate := be_TooLate,
    te_TooLate := te_TooLate,
    g_Clash := PySem.W.mg_of X G aC_Clash,
    x_Clash := x_Clash,
    ke_Clash := ke_Clash,
    be_Clash := be_Clash,
    te_Clash := te_Clash,
    g_NoHand := PySem.W.mg_of X G aC_NoHand,
    x_NoHand := x_NoHand,
    ke_NoHand := ke_NoHand,
    be_NoHand := be_NoHand,
    te_NoHand := te_NoHand,
    ec_TreeError := ⟨eg_TreeError, ek_TreeError, be_TreeError, eh_TreeError, ea_TreeError, es_, et_, em_TreeError⟩,
    kv_TreeError := kit_val ev_TreeError,
    ki_TreeError_TreeError := kit_own ic_TreeError te_TreeError su_TreeError_TreeError (fun _ => rfl),
    ki_TreeError_NoMove := kit_own ic_NoMove te_NoMove su_TreeError_NoMove (fun e => absurd e (by have z := nq_TreeError_NoMove; simpa using z)),
    ki_TreeError_TooLate := kit_own ic_TooLate te_TooLate su_TreeError_TooLate (fun e => absurd e (by have z := nq_TreeError_TooLate; simpa using z)),
    ki_TreeError_Clash := kit_own ic_Clash te_Clash su_TreeError_Clash (fun e => absurd e (by have z := nq_TreeError_Clash; simpa using z)),
    ki_TreeError_NoHand := kit_own ic_NoHand te_NoHand su_TreeError_NoHand (fun e => absurd e (by have z := nq_TreeError_NoHand; simpa using z)),
    ec_NoMove := ⟨eg_NoMove, ek_NoMove, be_NoMove, eh_NoMove, ea_NoMove, es_, et_, em_NoMove⟩,
    kv_NoMove := kit_val ev_NoMove,
    ki_NoMove_TreeError := kit_own ic_TreeError te_TreeError su_NoMove_TreeError (fun _ => rfl),
    ki_NoMove_NoMove := kit_own ic_NoMove te_NoMove su_NoMove_NoMove (fun _ => rfl),
    ki_NoMove_TooLate := kit_own ic_TooLate te_TooLate su_NoMove_TooLate (fun e => absurd e (by have z := nq_NoMove_TooLate; simpa using z)),
    ki_NoMove_Clash := kit_own ic_Clash te_Clash su_NoMove_Clash (fun e => absurd e (by have z := nq_NoMove_Clash; simpa using z)),
    ki_NoMove_NoHand := kit_own ic_NoHand te_NoHand su_NoMove_NoHand (fun e => absurd e (by have z := nq_NoMove_NoHand; simpa using z)),
    ec_TooLate := ⟨eg_TooLate, ek_TooLate, be_TooLate, eh_TooLate, ea_TooLate, es_, et_, em_TooLate⟩,
    kv_TooLate := kit_val ev_TooLate,
    ki_TooLate_TreeError := kit_own ic_TreeError te_TreeError su_TooLate_TreeError (fun _ => rfl),
    ki_TooLate_NoMove := kit_own ic_NoMove te_NoMove su_TooLate_NoMove (fun e => absurd e.symm (by have z := nq_NoMove_TooLate; simpa using z)),
    ki_TooLate_TooLate := kit_own ic_TooLate te_TooLate su_TooLate_TooLate (fun _ => rfl),
    ki_TooLate_Clash := kit_own ic_Clash te_Clash su_TooLate_Clash (fun e => absurd e (by have z := nq_TooLate_Clash; simpa using z)),
    ki_TooLate_NoHand := kit_own ic_NoHand te_NoHand su_TooLate_NoHand (fun e => absurd e (by have z := nq_TooLate_NoHand; simpa using z)),
    ec_Clash := ⟨eg_Clash, ek_Clash, be_Clash, eh_Clash, ea_Clash, es_, et_, em_Clash⟩,
    kv_Clash := kit_val ev_Clash,
    ki_Clash_TreeError := kit_own ic_TreeError te_TreeError su_Clash_TreeError (fun _ => rfl),
    ki_Clash_NoMove := kit_own ic_NoMove te_NoMove su_Clash_NoMove (fun e => absurd e.symm (by have z := nq_NoMove_Clash; simpa using z)),
    ki_Clash_TooLate := kit_own ic_TooLate te_TooLate su_Clash_TooLate (fun e => absurd e.symm (by have z := nq_TooLate_Clash; simpa using z)),
    ki_Clash_Clash := kit_own ic_Clash te_Clash su_Clash_Clash (fun _ => rfl),
    ki_Clash_NoHand := kit_own ic_NoHand te_NoHand su_Clash_NoHand (fun e => absurd e (by have z := nq_Clash_NoHand; simpa using z)),
    ec_NoHand := ⟨eg_NoHand, ek_NoHand, be_NoHand, eh_NoHand, ea_NoHand, es_, et_, em_NoHand⟩,
    kv_NoHand := kit_val ev_NoHand,
    ki_NoHand_TreeError := kit_own ic_TreeError te_TreeError su_NoHand_TreeError (fun _ => rfl),
    ki_NoHand_NoMove := kit_own ic_NoMove te_NoMove su_NoHand_NoMove (fun e => absurd e.symm (by have z := nq_NoMove_NoHand; simpa using z)),
    ki_NoHand_TooLate := kit_own ic_TooLate te_TooLate su_NoHand_TooLate (fun e => absurd e.symm (by have z := nq_TooLate_NoHand; simpa using z)),
    ki_NoHand_Clash := kit_own ic_Clash te_Clash su_NoHand_Clash (fun e => absurd e.symm (by have z := nq_Clash_NoHand; simpa using z)),
    ki_NoHand_NoHand := kit_own ic_NoHand te_NoHand su_NoHand_NoHand (fun _ => rfl),
    ex_TreeError_TreeError := exm_at be_TreeError ic_TreeError te_TreeError su_TreeError_TreeError,
    ex_TreeError_NoMove := exm_at be_NoMove ic_NoMove te_NoMove su_TreeError_NoMove,
    ex_TreeError_TooLate := exm_at be_TooLate ic_TooLate te_TooLate su_TreeError_TooLate,
    ex_TreeError_Clash := exm_at be_Clash ic_Clash te_Clash su_TreeError_Clash,
    ex_TreeError_NoHand := exm_at be_NoHand ic_NoHand te_NoHand su_TreeError_NoHand,
    ex_NoMove_TreeError := exm_at be_TreeError ic_TreeError te_TreeError su_NoMove_TreeError,
    ex_NoMove_NoMove := exm_at be_NoMove ic_NoMove te_NoMove su_NoMove_NoMove,
    ex_NoMove_TooLate := exm_at be_TooLate ic_TooLate te_TooLate su_NoMove_TooLate,
    ex_NoMove_Clash := exm_at be_Clash ic_Clash te_Clash su_NoMove_Clash,
    ex_NoMove_NoHand := exm_at be_NoHand ic_NoHand te_NoHand su_NoMove_NoHand,
    ex_TooLate_TreeError := exm_at be_TreeError ic_TreeError te_TreeError su_TooLate_TreeError,
    ex_TooLate_NoMove := exm_at be_NoMove ic_NoMove te_NoMove su_TooLate_NoMove,
    ex_TooLate_TooLate := exm_at be_TooLate ic_TooLate te_TooLate su_TooLate_TooLate,
    ex_TooLate_Clash := exm_at be_Clash ic_Clash te_Clash su_TooLate_Clash,
    ex_TooLate_NoHand := exm_at be_NoHand ic_NoHand te_NoHand su_TooLate_NoHand,
    ex_Clash_TreeError := exm_at be_TreeError ic_TreeError te_TreeError su_Clash_TreeError,
    ex_Clash_NoMove := exm_at be_NoMove ic_NoMove te_NoMove su_Clash_NoMove,
    ex_Clash_TooLate := exm_at be_TooLate ic_TooLate te_TooLate su_Clash_TooLate,
    ex_Clash_Clash := exm_at be_Clash ic_Clash te_Clash su_Clash_Clash,
    ex_Clash_NoHand := exm_at be_NoHand ic_NoHand te_NoHand su_Clash_NoHand,
    ex_NoHand_TreeError := exm_at be_TreeError ic_TreeError te_TreeError su_NoHand_TreeError,
    ex_NoHand_NoMove := exm_at be_NoMove ic_NoMove te_NoMove su_NoHand_NoMove,
    ex_NoHand_TooLate := exm_at be_TooLate ic_TooLate te_TooLate su_NoHand_TooLate,
    ex_NoHand_Clash := exm_at be_Clash ic_Clash te_Clash su_NoHand_Clash,
    ex_NoHand_NoHand := exm_at be_NoHand ic_NoHand te_NoHand su_NoHand_NoHand,
    n_len := PySem.W.mg_none_of X G n_len,
    n_isinstance := PySem.W.mg_none_of X G n_isinstance,
    n_range := PySem.W.mg_none_of X G n_range,
    n_int := PySem.W.mg_none_of X G n_int,
    n_bool := PySem.W.mg_none_of X G n_bool,
    n_str := PySem.W.mg_none_of X G n_str,
    n_list := PySem.W.mg_none_of X G n_list,
    n_tuple := PySem.W.mg_none_of X G n_tuple,
    n_dict := PySem.W.mg_none_of X G n_dict,
    n_max := PySem.W.mg_none_of X G n_max,
    n_min := PySem.W.mg_none_of X G n_min,
    n_ValueError := PySem.W.mg_none_of X G n_ValueError }
  exact ⟨a.d_law, fun s v => .of_eq rfl, fun base _ _ => ok_law T⟩
theorem walk {l : PySem.W.OpenLaw} {q : Program} {loose : List Str} {XP : (Str → Option Value) → Heap → Prop} {YP : World → Heap → Prop} {d : DefRec} {K : Params → PySem.W.Frag} (hn : l.most = some 63) (hdf : d.params.defaults = [])
    (hY : ∀ (w : World) (h : Heap), YP w h → (K w.params).In h)
    (F : ∀ (w : World) (mg : Str → Option Value) (fa : Addr) (h : Heap), (K w.params).In h → h.Ns mainGlobals mg → mg d.name = some (.ref fa) →
      ∃ fd : FuncData, (∀ (s : Shared) (u : Value), BindsTo s fd ⟨[u], []⟩ [("_law_script", u)]) ∧ ∀ base : Heap, (K w.params).In base → base.Ns mainGlobals mg → FnOk l.prog w (K w.params) mg base (L2.CX l.prog w) 7 fa fd ["_law_script"] (spLaw (K w.params))) :
    PySem.W.WalkO q loose XP YP l.row.toRowW d [] (fun f vs => PySem.call f vs) :=
  L2.walk_of (n := 63) (k := 7) (x := "_law_script") (CX := fun w => L2.CX l.prog w) (sp := fun w => spLaw (K w.params)) hn (by decide) hdf ⟨rfl, by decide, by decide⟩ hY F (fun _ _ a ns hl _ hS => ⟨a, ns, rfl, hS, hl, fun _ => rfl⟩) fun _ _ _ _ _ z => cx_none z
end Tm
open PySem PySem.W PyProof.Rows
set_option maxRecDepth 100000 in
set_option maxHeartbeats 0 in
theorem PySem.Challenge.cw_treemove_k11_hand_and_clock_holds : PySem.Challenge.rw_treemove_k11_hand_and_clock.Holds := by
  w_on; o_law; k_head; (case hw => w_witness2)
  k_fill
  refine Tm.walk (l := PySem.Challenge.rw_treemove_k11_hand_and_clock) rfl rfl (fun w h Y => PySem.W.kIn_of Y) ?F
  case F =>
    intro w mg fa h KX G hmg
    refine' Tm.all_mk KX G hmg ?aC_Log ?aC_Hand ?aC_TreeError ?aC_NoMove ?aC_TooLate ?aC_Clash ?aC_NoHand ?a_whole ?l_whole ?c_whole ?k_whole ?a_is_move ?l_is_move ?c_is_move ?k_is_move ?a_ahead ?l_ahead ?c_ahead ?k_ahead ?a_way_up ?l_way_up ?c_way_up ?k_way_up ?a_closes ?l_closes ?c_closes ?k_closes ?a_put ?l_put ?c_put ?k_put ?a_Log_init ?i_Log_init ?l_Log_init ?c_Log_init ?k_Log_init ?a_Log_place_of ?i_Log_place_of ?l_Log_place_of ?c_Log_place_of ?k_Log_place_of ?a_Log_hear ?i_Log_hear ?l_Log_hear ?c_Log_hear ?k_Log_hear ?a_Log_moves ?i_Log_moves ?l_Log_moves ?c_Log_moves ?k_Log_moves ?a_Log_tree ?i_Log_tree ?l_Log_tree ?c_Log_tree ?k_Log_tree ?a_Log_steps ?i_Log_steps ?l_Log_steps ?c_Log_steps ?k_Log_steps ?a_Log_settle ?i_Log_settle ?l_Log_settle ?c_Log_settle ?k_Log_settle ?a_Hand_init ?i_Hand_init ?l_Hand_init ?c_Hand_init ?k_Hand_init ?a_Hand_move ?i_Hand_move ?l_Hand_move ?c_Hand_move ?k_Hand_move ?a_Hand_hear ?i_Hand_hear ?l_Hand_hear ?c_Hand_hear ?k_Hand_hear ?a_Hand_tree ?i_Hand_tree ?l_Hand_tree ?c_Hand_tree ?k_Hand_tree ?a_Hand_settle ?i_Hand_settle ?l_Hand_settle ?c_Hand_settle ?k_Hand_settle ?a__law_whole ?l__law_whole ?c__law_whole ?k__law_whole ?a__law_cell_at ?l__law_cell_at ?c__law_cell_at ?k__law_cell_at ?a__law_name ?l__law_name ?c__law_name ?k__law_name ?a__law_same_tree ?l__law_same_tree ?c__law_same_tree ?k__law_same_tree ?a__law_same_move ?l__law_same_move ?c__law_same_move ?k__law_same_move ?a__law_same_moves ?l__law_same_moves ?c__law_same_moves ?k__law_same_moves ?a__law_told ?l__law_told ?c__law_told ?k__law_told ?a__law_deeds ?l__law_deeds ?c__law_deeds ?k__law_deeds ?a__law_clash ?l__law_clash ?c__law_clash ?k__law_clash ?a__law_heard ?l__law_heard ?c__law_heard ?k__law_heard ?a__law_answer ?l__law_answer ?c__law_answer ?k__law_answer ?a__law_way ?l__law_way ?c__law_way ?k__law_way ?a__law_fold ?l__law_fold ?c__law_fold ?k__law_fold ?a__law_steps_of ?l__law_steps_of ?c__law_steps_of ?k__law_steps_of ?a__law_same_steps ?l__law_same_steps ?c__law_same_steps ?k__law_same_steps ?a__law_steps_asked ?l__law_steps_asked ?c__law_steps_asked ?k__law_steps_asked ?a__law_no_hand ?l__law_no_hand ?c__law_no_hand ?k__law_no_hand ?a__law_own ?l__law_own ?c__law_own ?k__law_own ?a__law_other ?l__law_other ?c__law_other ?k__law_other ?a__law_settled ?l__law_settled ?c__law_settled ?k__law_settled ?a__law_as_told ?l__law_as_told ?c__law_as_told ?k__law_as_told ?a_law ?l_law ?c_law ?k_law ?pg_Log ?hd_Log ?po_Log ?sa_Log ?mk_Log ?kc_Log ?na_Log_since ?na_Log_base ?na_Log_kept ?pg_Hand ?hd_Hand ?po_Hand ?sa_Hand ?mk_Hand ?kc_Hand ?na_Hand_number ?na_Hand_clock ?na_Hand_log ?x_TreeError ?ke_TreeError ?be_TreeError ?te_TreeError ?ic_TreeError ?x_NoMove ?ke_NoMove ?be_NoMove ?te_NoMove ?ic_NoMove ?x_TooLate ?ke_TooLate ?be_TooLate ?te_TooLate ?ic_TooLate ?x_Clash ?ke_Clash ?be_Clash ?te_Clash ?ic_Clash ?x_NoHand ?ke_NoHand ?be_NoHand ?te_NoHand ?ic_NoHand ?eg_TreeError ?ek_TreeError ?eh_TreeError ?ea_TreeError ?em_TreeError ?ev_TreeError ?eg_NoMove ?ek_NoMove ?eh_NoMove ?ea_NoMove ?em_NoMove ?ev_NoMove ?eg_TooLate ?ek_TooLate ?eh_TooLate ?ea_TooLate ?em_TooLate ?ev_TooLate ?eg_Clash ?ek_Clash ?eh_Clash ?ea_Clash ?em_Clash ?ev_Clash ?eg_NoHand ?ek_NoHand ?eh_NoHand ?ea_NoHand ?em_NoHand ?ev_NoHand ?es_ ?et_ ?nq_TreeError_NoMove ?nq_TreeError_TooLate ?nq_TreeError_Clash ?nq_TreeError_NoHand ?nq_NoMove_TooLate ?nq_NoMove_Clash ?nq_NoMove_NoHand ?nq_TooLate_Clash ?nq_TooLate_NoHand ?nq_Clash_NoHand ?su_TreeError_TreeError ?su_TreeError_NoMove ?su_TreeError_TooLate ?su_TreeError_Clash ?su_TreeError_NoHand ?su_NoMove_TreeError ?su_NoMove_NoMove ?su_NoMove_TooLate ?su_NoMove_Clash ?su_NoMove_NoHand ?su_TooLate_TreeError ?su_TooLate_NoMove ?su_TooLate_TooLate ?su_TooLate_Clash ?su_TooLate_NoHand ?su_Clash_TreeError ?su_Clash_NoMove ?su_Clash_TooLate ?su_Clash_Clash ?su_Clash_NoHand ?su_NoHand_TreeError ?su_NoHand_NoMove ?su_NoHand_TooLate ?su_NoHand_Clash ?su_NoHand_NoHand ?n_len ?n_isinstance ?n_range ?n_int ?n_bool ?n_str ?n_list ?n_tuple ?n_dict ?n_max ?n_min ?n_ValueError
    (case aC_Log => k_is)
    (case aC_Hand => k_is)
    (case aC_TreeError => k_is)
    (case aC_NoMove => k_is)
    (case aC_TooLate => k_is)
    (case aC_Clash => k_is)
    (case aC_NoHand => k_is)
    (case a_whole => k_is)
    (case l_whole => k_is)
    (case c_whole => k_is)
    (case k_whole => k_is)
    (case a_is_move => k_is)
    (case l_is_move => k_is)
    (case c_is_move => k_is)
    (case k_is_move => k_is)
    (case a_ahead => k_is)
    (case l_ahead => k_is)
    (case c_ahead => k_is)
    (case k_ahead => k_is)
    (case a_way_up => k_is)
    (case l_way_up => k_is)
    (case c_way_up => k_is)
    (case k_way_up => k_is)
    (case a_closes => k_is)
    (case l_closes => k_is)
    (case c_closes => k_is)
    (case k_closes => k_is)
    (case a_put => k_is)
    (case l_put => k_is)
    (case c_put => k_is)
    (case k_put => k_is)
    (case a_Log_init => k_is)
    (case i_Log_init => k_is)
    (case l_Log_init => k_is)
    (case c_Log_init => k_is)
    (case k_Log_init => k_is)
    (case a_Log_place_of => k_is)
    (case i_Log_place_of => k_is)
    (case l_Log_place_of => k_is)
    (case c_Log_place_of => k_is)
    (case k_Log_place_of => k_is)
    (case a_Log_hear => k_is)
    (case i_Log_hear => k_is)
    (case l_Log_hear => k_is)
    (case c_Log_hear => k_is)
    (case k_Log_hear => k_is)
    (case a_Log_moves => k_is)
    (case i_Log_moves => k_is)
    (case l_Log_moves => k_is)
    (case c_Log_moves => k_is)
    (case k_Log_moves => k_is)
    (case a_Log_tree => k_is)
    (case i_Log_tree => k_is)
    (case l_Log_tree => k_is)
    (case c_Log_tree => k_is)
    (case k_Log_tree => k_is)
    (case a_Log_steps => k_is)
    (case i_Log_steps => k_is)
    (case l_Log_steps => k_is)
    (case c_Log_steps => k_is)
    (case k_Log_steps => k_is)
    (case a_Log_settle => k_is)
    (case i_Log_settle => k_is)
    (case l_Log_settle => k_is)
    (case c_Log_settle => k_is)
    (case k_Log_settle => k_is)
    (case a_Hand_init => k_is)
    (case i_Hand_init => k_is)
    (case l_Hand_init => k_is)
    (case c_Hand_init => k_is)
    (case k_Hand_init => k_is)
    (case a_Hand_move => k_is)
    (case i_Hand_move => k_is)
    (case l_Hand_move => k_is)
    (case c_Hand_move => k_is)
    (case k_Hand_move => k_is)
    (case a_Hand_hear => k_is)
    (case i_Hand_hear => k_is)
    (case l_Hand_hear => k_is)
    (case c_Hand_hear => k_is)
    (case k_Hand_hear => k_is)
    (case a_Hand_tree => k_is)
    (case i_Hand_tree => k_is)
    (case l_Hand_tree => k_is)
    (case c_Hand_tree => k_is)
    (case k_Hand_tree => k_is)
    (case a_Hand_settle => k_is)
    (case i_Hand_settle => k_is)
    (case l_Hand_settle => k_is)
    (case c_Hand_settle => k_is)
    (case k_Hand_settle => k_is)
    (case a__law_whole => k_is)
    (case l__law_whole => k_is)
    (case c__law_whole => k_is)
    (case k__law_whole => k_is)
    (case a__law_cell_at => k_is)
    (case l__law_cell_at => k_is)
    (case c__law_cell_at => k_is)
    (case k__law_cell_at => k_is)
    (case a__law_name => k_is)
    (case l__law_name => k_is)
    (case c__law_name => k_is)
    (case k__law_name => k_is)
    (case a__law_same_tree => k_is)
    (case l__law_same_tree => k_is)
    (case c__law_same_tree => k_is)
    (case k__law_same_tree => k_is)
    (case a__law_same_move => k_is)
    (case l__law_same_move => k_is)
    (case c__law_same_move => k_is)
    (case k__law_same_move => k_is)
    (case a__law_same_moves => k_is)
    (case l__law_same_moves => k_is)
    (case c__law_same_moves => k_is)
    (case k__law_same_moves => k_is)
    (case a__law_told => k_is)
    (case l__law_told => k_is)
    (case c__law_told => k_is)
    (case k__law_told => k_is)
    (case a__law_deeds => k_is)
    (case l__law_deeds => k_is)
    (case c__law_deeds => k_is)
    (case k__law_deeds => k_is)
    (case a__law_clash => k_is)
    (case l__law_clash => k_is)
    (case c__law_clash => k_is)
    (case k__law_clash => k_is)
    (case a__law_heard => k_is)
    (case l__law_heard => k_is)
    (case c__law_heard => k_is)
    (case k__law_heard => k_is)
    (case a__law_answer => k_is)
    (case l__law_answer => k_is)
    (case c__law_answer => k_is)
    (case k__law_answer => k_is)
    (case a__law_way => k_is)
    (case l__law_way => k_is)
    (case c__law_way => k_is)
    (case k__law_way => k_is)
    (case a__law_fold => k_is)
    (case l__law_fold => k_is)
    (case c__law_fold => k_is)
    (case k__law_fold => k_is)
    (case a__law_steps_of => k_is)
    (case l__law_steps_of => k_is)
    (case c__law_steps_of => k_is)
    (case k__law_steps_of => k_is)
    (case a__law_same_steps => k_is)
    (case l__law_same_steps => k_is)
    (case c__law_same_steps => k_is)
    (case k__law_same_steps => k_is)
    (case a__law_steps_asked => k_is)
    (case l__law_steps_asked => k_is)
    (case c__law_steps_asked => k_is)
    (case k__law_steps_asked => k_is)
    (case a__law_no_hand => k_is)
    (case l__law_no_hand => k_is)
    (case c__law_no_hand => k_is)
    (case k__law_no_hand => k_is)
    (case a__law_own => k_is)
    (case l__law_own => k_is)
    (case c__law_own => k_is)
    (case k__law_own => k_is)
    (case a__law_other => k_is)
    (case l__law_other => k_is)
    (case c__law_other => k_is)
    (case k__law_other => k_is)
    (case a__law_settled => k_is)
    (case l__law_settled => k_is)
    (case c__law_settled => k_is)
    (case k__law_settled => k_is)
    (case a__law_as_told => k_is)
    (case l__law_as_told => k_is)
    (case c__law_as_told => k_is)
    (case k__law_as_told => k_is)
    (case a_law => k_is)
    (case l_law => k_is)
    (case c_law => k_is)
    (case k_law => k_is)
    (case pg_Log => k_is)
    (case hd_Log => k_is)
    (case po_Log => k_is)
    (case sa_Log => k_is)
    (case mk_Log => k_is)
    (case kc_Log => k_is)
    (case na_Log_since => k_is)
    (case na_Log_base => k_is)
    (case na_Log_kept => k_is)
    (case pg_Hand => k_is)
    (case hd_Hand => k_is)
    (case po_Hand => k_is)
    (case sa_Hand => k_is)
    (case mk_Hand => k_is)
    (case kc_Hand => k_is)
    (case na_Hand_number => k_is)
    (case na_Hand_clock => k_is)
    (case na_Hand_log => k_is)
    (case x_TreeError => k_exc)
    (case ke_TreeError => k_is)
    (case be_TreeError => k_is)
    (case te_TreeError => k_is)
    (case ic_TreeError => k_is)
    (case x_NoMove => k_exc)
    (case ke_NoMove => k_is)
    (case be_NoMove => k_is)
    (case te_NoMove => k_is)
    (case ic_NoMove => k_is)
    (case x_TooLate => k_exc)
    (case ke_TooLate => k_is)
    (case be_TooLate => k_is)
    (case te_TooLate => k_is)
    (case ic_TooLate => k_is)
    (case x_Clash => k_exc)
    (case ke_Clash => k_is)
    (case be_Clash => k_is)
    (case te_Clash => k_is)
    (case ic_Clash => k_is)
    (case x_NoHand => k_exc)
    (case ke_NoHand => k_is)
    (case be_NoHand => k_is)
    (case te_NoHand => k_is)
    (case ic_NoHand => k_is)
    (case eg_TreeError => k_is)
    (case ek_TreeError => k_is)
    (case eh_TreeError => k_is)
    (case ea_TreeError => k_is)
    (case em_TreeError => k_is)
    (case ev_TreeError => k_is)
    (case eg_NoMove => k_is)
    (case ek_NoMove => k_is)
    (case eh_NoMove => k_is)
    (case ea_NoMove => k_is)
    (case em_NoMove => k_is)
    (case ev_NoMove => k_is)
    (case eg_TooLate => k_is)
    (case ek_TooLate => k_is)
    (case eh_TooLate => k_is)
    (case ea_TooLate => k_is)
    (case em_TooLate => k_is)
    (case ev_TooLate => k_is)
    (case eg_Clash => k_is)
    (case ek_Clash => k_is)
    (case eh_Clash => k_is)
    (case ea_Clash => k_is)
    (case em_Clash => k_is)
    (case ev_Clash => k_is)
    (case eg_NoHand => k_is)
    (case ek_NoHand => k_is)
    (case eh_NoHand => k_is)
    (case ea_NoHand => k_is)
    (case em_NoHand => k_is)
    (case ev_NoHand => k_is)
    (case es_ => k_is)
    (case et_ => k_is)
    (case nq_TreeError_NoMove => first | rfl | decide)
    (case nq_TreeError_TooLate => first | rfl | decide)
    (case nq_TreeError_Clash => first | rfl | decide)
    (case nq_TreeError_NoHand => first | rfl | decide)
    (case nq_NoMove_TooLate => first | rfl | decide)
    (case nq_NoMove_Clash => first | rfl | decide)
    (case nq_NoMove_NoHand => first | rfl | decide)
    (case nq_TooLate_Clash => first | rfl | decide)
    (case nq_TooLate_NoHand => first | rfl | decide)
    (case nq_Clash_NoHand => first | rfl | decide)
    (case su_TreeError_TreeError => first | rfl | k_is)
    (case su_TreeError_NoMove => first | rfl | k_is)
    (case su_TreeError_TooLate => first | rfl | k_is)
    (case su_TreeError_Clash => first | rfl | k_is)
    (case su_TreeError_NoHand => first | rfl | k_is)
    (case su_NoMove_TreeError => first | rfl | k_is)
    (case su_NoMove_NoMove => first | rfl | k_is)
    (case su_NoMove_TooLate => first | rfl | k_is)
    (case su_NoMove_Clash => first | rfl | k_is)
    (case su_NoMove_NoHand => first | rfl | k_is)
    (case su_TooLate_TreeError => first | rfl | k_is)
    (case su_TooLate_NoMove => first | rfl | k_is)
    (case su_TooLate_TooLate => first | rfl | k_is)
    (case su_TooLate_Clash => first | rfl | k_is)
    (case su_TooLate_NoHand => first | rfl | k_is)
    (case su_Clash_TreeError => first | rfl | k_is)
    (case su_Clash_NoMove => first | rfl | k_is)
    (case su_Clash_TooLate => first | rfl | k_is)
    (case su_Clash_Clash => first | rfl | k_is)
    (case su_Clash_NoHand => first | rfl | k_is)
    (case su_NoHand_TreeError => first | rfl | k_is)
    (case su_NoHand_NoMove => first | rfl | k_is)
    (case su_NoHand_TooLate => first | rfl | k_is)
    (case su_NoHand_Clash => first | rfl | k_is)
    (case su_NoHand_NoHand => first | rfl | k_is)
    (case n_len => k_is)
    (case n_isinstance => k_is)
    (case n_range => k_is)
    (case n_int => k_is)
    (case n_bool => k_is)
    (case n_str => k_is)
    (case n_list => k_is)
    (case n_tuple => k_is)
    (case n_dict => k_is)
    (case n_max => k_is)
    (case n_min => k_is)
    (case n_ValueError => k_is)
