import PyProof.Rows.All
import Wide.All
import OpenK.AllK
import Wide.FinOn
import HandS.ForMost
import HandS.Exc
import HandS.TryMany
import HandS.ExcOwn
import HandS.WordsExc
import HandS.ExcIs
import HandS.IsInst
import HandS.Deep
import HandS.DeepEq
import HandS.TupLe
import HandS.TupAny
import HandS.More
import HandS.SortInts
import KE.OsMirror
import KE.IntTextLaws
import HandS.Evl
import HandS.DictComp
import PySem.Challenge.RW_treemove_k14_whole_room
set_option Elab.async false
set_option linter.all false
set_option maxRecDepth 100000
set_option maxHeartbeats 4000000
namespace Tm
open PySem PySem.Spec PyProof.Rows L2
/-! what all laws lean on -/
theorem cx_none {P : Program} {w : World} {outer : List Env} {H : Hp} {s : Shared} {e : Value} {s' : Shared} (h : L2.CX P w outer H s (fun _ _ _ => False) e s') : False := by
  obtain ⟨_, _, _, _, _, _, _, _, _, _, _, _, z⟩ := h
  exact z
/-- law's: a list of at most 63 ints is handed in, True comes out -/
def spLaw (K : PySem.W.Frag) : Sp := fun vs H Q _ => ∃ (p : Addr) (ns : List Int), vs = [.ref p] ∧ SqL K H p (ns.map V.int) ∧ ns.length ≤ 63 ∧ ∀ H', Q (.bl true) H'
theorem T0 {k : Nat} {A : Around} (hr : Room k A) : A.units < cLine := Nat.lt_of_le_of_lt (Nat.le_add_right _ _) hr.units
theorem T64 {k : Nat} {A : Around} (hr : Room k A) : A.units + 64 < cLine := hr.units
theorem T65 {k : Nat} {A : Around} (hr : Room k A) : A.units + 65 < cLine := by have := hr.un; omega
theorem exm_at {K : PySem.W.Frag} {S C : Addr} (h1 : PySem.W.subIn K (.ref S) (.type "BaseException") = some true) (h2 : PySem.W.isClsIn K S = true) (h3 : PySem.W.typeIn K (.ref S) = some (.type "type")) {b : Bool} (h4 : PySem.W.subIn K (.ref C) (.ref S) = some b) :
    PySem.W.exmOne K (.ref C) (.ref S) = some b := by
  have e1 : (PySem.W.subIn K (.ref S) (.type "BaseException") == some true) = true := by rw [h1] <;> rfl
  have e2 : ((PySem.W.clsIn K S).isSome && PySem.W.typeIn K (.ref S) == some (.type "type")) = true := by
    have h2' : (PySem.W.clsIn K S).isSome = true := h2
    rw [h2', h3] <;> rfl
  show (if (PySem.W.subIn K (.ref S) (.type "BaseException") == some true) = true then (if ((PySem.W.clsIn K S).isSome && PySem.W.typeIn K (.ref S) == some (.type "type")) = true then PySem.W.subIn K (.ref C) (.ref S) else none) else none) = some b
  rw [if_pos e1, if_pos e2]
  exact h4
/-- ten to a written power -/
theorem pe_p10 {X : Cx} {n m : Int} {j1 j2 : Nat} {p1 p2 pos : Pos} (h : 0 ≤ n ∧ n ≤ 1000000 ∧ (10 : Int) ^ n.toNat = m) : PE X (.BinOp (.Constant (.int 10) j1 p1) .Pow (.Constant (.int n) j2 p2) pos) (tC (.int m)) := by
  obtain ⟨h0, h1, h2⟩ := h
  refine ⟨fun pins s σ H Q I q => (pe_op op_pow pe_int pe_int).run pins s σ H Q I ⟨10, n, rfl, rfl, ⟨h0, h1, by decide⟩, ?_⟩⟩
  show Q (.int (10 ^ n.toNat)) H
  rw [h2]
  exact q
abbrev E60 : Int := 1000000000000000000000000000000000000000000000000000000000000
/-- the cell of a script -/
def cellAt (ns : List Int) (k : Int) : Int := ns.getD k.toNat 0
def spCell (K : PySem.W.Frag) : Sp := fun vs H Q _ => ∃ (p : Addr) (ns : List Int) (k : Int), vs = [.ref p, .int k] ∧ SqL K H p (ns.map V.int) ∧ 0 ≤ k ∧ Q (.int (cellAt ns k)) H
theorem cell_in {ns : List Int} {k : Int} (h0 : 0 ≤ k) (h : k < ns.length) : atI (ns.map V.int) k = some (.int (cellAt ns k)) := by
  refine at_of (j := k.toNat) (by omega) ?_
  have hk : k.toNat < ns.length := by omega
  simp [cellAt, List.getD_eq_getElem?_getD, hk]
theorem cell_out {ns : List Int} {k : Int} (h : ¬ k < ns.length) : cellAt ns k = 0 := by
  have hk : ¬ k.toNat < ns.length := by omega
  simp [cellAt, List.getD_eq_getElem?_getD, List.getElem?_eq_none (Nat.le_of_not_lt hk)]
end Tm
namespace Tm
open PySem PySem.Spec PyProof.Rows L2
theorem yes {c : Bool} {A B : Prop} (h : c = true) (q : A) : if c = true then A else B := by
  rw [if_pos h]
  exact q
theorem no {c : Bool} {A B : Prop} (h : c = false) (q : B) : if c = true then A else B := by
  rw [h, if_neg Bool.false_ne_true]
  exact q
theorem ite_eqI {x y : Int} {A B : Prop} (h1 : x = y → A) (h2 : ¬ x = y → B) : if decide (V.int x = V.int y) = true then A else B :=
  ite2 (fun c => h1 (V.int.inj (of_decide_eq_true c))) fun c => h2 fun e => c (decide_eq_true (congrArg V.int e))
theorem ite_neI {x y : Int} {A B : Prop} (h1 : ¬ x = y → A) (h2 : x = y → B) : if (!decide (V.int x = V.int y)) = true then A else B := by
  by_cases e : x = y
  · subst e
    exact no (by simp) (h2 rfl)
  · exact yes (by simp [e]) (h1 e)
theorem ite_d {p : Prop} [Decidable p] {A B : Prop} (h1 : p → A) (h2 : ¬ p → B) : if decide p = true then A else B :=
  ite2 (fun c => h1 (of_decide_eq_true c)) fun c => h2 fun e => c (decide_eq_true e)
theorem ite_dn {p : Prop} [Decidable p] {A B : Prop} (h1 : ¬ p → A) (h2 : p → B) : if (!decide p) = true then A else B := by
  by_cases e : p
  · exact no (by simp [e]) (h2 e)
  · exact yes (by simp [e]) (h1 e)
theorem ite_b {b : Bool} {A B : Prop} (h1 : b = true → A) (h2 : b = false → B) : if b = true then A else B := by
  cases b
  · exact no rfl (h2 rfl)
  · exact yes rfl (h1 rfl)
theorem cdiv {i j : Int} (h : 0 < j ∧ j < 1073741824) : CDiv i j := h
theorem Qint {Q : VK} {H : Hp} {i j : Int} (q : Q (.int i) H) (e : j = i) : Q (.int j) H := e ▸ q
theorem Qbl {Q : VK} {H : Hp} {i j : Bool} (q : Q (.bl i) H) (e : j = i) : Q (.bl j) H := e ▸ q
end Tm
namespace Tm
open PySem PySem.Spec PyProof.Rows L2
section
variable {K : PySem.W.Frag} {H : Hp} {Q : VK}
theorem isi_int_int {x : Int} (q : Q (.bl true) H) : rIsi K [.int x, .ty "int"] H Q := ⟨_, _, _, _, _, rfl, .ty _, .base (.int x), kit_ty (by decide +kernel), q⟩
theorem isi_int_bool {x : Int} (q : Q (.bl false) H) : rIsi K [.int x, .ty "bool"] H Q := ⟨_, _, _, _, _, rfl, .ty _, .base (.int x), kit_ty (by decide +kernel), q⟩
theorem isi_int_str {x : Int} (q : Q (.bl false) H) : rIsi K [.int x, .ty "str"] H Q := ⟨_, _, _, _, _, rfl, .ty _, .base (.int x), kit_ty (by decide +kernel), q⟩
theorem isi_int_list {x : Int} (q : Q (.bl false) H) : rIsi K [.int x, .ty "list"] H Q := ⟨_, _, _, _, _, rfl, .ty _, .base (.int x), kit_ty (by decide +kernel), q⟩
theorem isi_int_tuple {x : Int} (q : Q (.bl false) H) : rIsi K [.int x, .ty "tuple"] H Q := ⟨_, _, _, _, _, rfl, .ty _, .base (.int x), kit_ty (by decide +kernel), q⟩
theorem isi_int_dict {x : Int} (q : Q (.bl false) H) : rIsi K [.int x, .ty "dict"] H Q := ⟨_, _, _, _, _, rfl, .ty _, .base (.int x), kit_ty (by decide +kernel), q⟩
theorem isi_bool_int {x : Bool} (q : Q (.bl true) H) : rIsi K [.bl x, .ty "int"] H Q := ⟨_, _, _, _, _, rfl, .ty _, .base (.bl x), kit_ty (by decide +kernel), q⟩
theorem isi_bool_bool {x : Bool} (q : Q (.bl true) H) : rIsi K [.bl x, .ty "bool"] H Q := ⟨_, _, _, _, _, rfl, .ty _, .base (.bl x), kit_ty (by decide +kernel), q⟩
theorem isi_bool_str {x : Bool} (q : Q (.bl false) H) : rIsi K [.bl x, .ty "str"] H Q := ⟨_, _, _, _, _, rfl, .ty _, .base (.bl x), kit_ty (by decide +kernel), q⟩
theorem isi_bool_list {x : Bool} (q : Q (.bl false) H) : rIsi K [.bl x, .ty "list"] H Q := ⟨_, _, _, _, _, rfl, .ty _, .base (.bl x), kit_ty (by decide +kernel), q⟩
theorem isi_bool_tuple {x : Bool} (q : Q (.bl false) H) : rIsi K [.bl x, .ty "tuple"] H Q := ⟨_, _, _, _, _, rfl, .ty _, .base (.bl x), kit_ty (by decide +kernel), q⟩
theorem isi_bool_dict {x : Bool} (q : Q (.bl false) H) : rIsi K [.bl x, .ty "dict"] H Q := ⟨_, _, _, _, _, rfl, .ty _, .base (.bl x), kit_ty (by decide +kernel), q⟩
theorem isi_str_int {x : Str} (q : Q (.bl false) H) : rIsi K [.str x, .ty "int"] H Q := ⟨_, _, _, _, _, rfl, .ty _, .base (.str x), kit_ty (by decide +kernel), q⟩
theorem isi_str_bool {x : Str} (q : Q (.bl false) H) : rIsi K [.str x, .ty "bool"] H Q := ⟨_, _, _, _, _, rfl, .ty _, .base (.str x), kit_ty (by decide +kernel), q⟩
theorem isi_str_str {x : Str} (q : Q (.bl true) H) : rIsi K [.str x, .ty "str"] H Q := ⟨_, _, _, _, _, rfl, .ty _, .base (.str x), kit_ty (by decide +kernel), q⟩
theorem isi_str_list {x : Str} (q : Q (.bl false) H) : rIsi K [.str x, .ty "list"] H Q := ⟨_, _, _, _, _, rfl, .ty _, .base (.str x), kit_ty (by decide +kernel), q⟩
theorem isi_str_tuple {x : Str} (q : Q (.bl false) H) : rIsi K [.str x, .ty "tuple"] H Q := ⟨_, _, _, _, _, rfl, .ty _, .base (.str x), kit_ty (by decide +kernel), q⟩
theorem isi_str_dict {x : Str} (q : Q (.bl false) H) : rIsi K [.str x, .ty "dict"] H Q := ⟨_, _, _, _, _, rfl, .ty _, .base (.str x), kit_ty (by decide +kernel), q⟩
theorem isi_NoneType_int (q : Q (.bl false) H) : rIsi K [.non, .ty "int"] H Q := ⟨_, _, _, _, _, rfl, .ty _, .base (.non), kit_ty (by decide +kernel), q⟩
theorem isi_NoneType_bool (q : Q (.bl false) H) : rIsi K [.non, .ty "bool"] H Q := ⟨_, _, _, _, _, rfl, .ty _, .base (.non), kit_ty (by decide +kernel), q⟩
theorem isi_NoneType_str (q : Q (.bl false) H) : rIsi K [.non, .ty "str"] H Q := ⟨_, _, _, _, _, rfl, .ty _, .base (.non), kit_ty (by decide +kernel), q⟩
theorem isi_NoneType_list (q : Q (.bl false) H) : rIsi K [.non, .ty "list"] H Q := ⟨_, _, _, _, _, rfl, .ty _, .base (.non), kit_ty (by decide +kernel), q⟩
theorem isi_NoneType_tuple (q : Q (.bl false) H) : rIsi K [.non, .ty "tuple"] H Q := ⟨_, _, _, _, _, rfl, .ty _, .base (.non), kit_ty (by decide +kernel), q⟩
theorem isi_NoneType_dict (q : Q (.bl false) H) : rIsi K [.non, .ty "dict"] H Q := ⟨_, _, _, _, _, rfl, .ty _, .base (.non), kit_ty (by decide +kernel), q⟩
theorem isi_list_int {a : Addr} {xs : List V} (h : H a = some (.lst xs)) (q : Q (.bl false) H) : rIsi K [.ref a, .ty "int"] H Q := ⟨_, _, _, _, _, rfl, .ty _, .base (.lst h), kit_ty (by decide +kernel), q⟩
theorem isi_list_bool {a : Addr} {xs : List V} (h : H a = some (.lst xs)) (q : Q (.bl false) H) : rIsi K [.ref a, .ty "bool"] H Q := ⟨_, _, _, _, _, rfl, .ty _, .base (.lst h), kit_ty (by decide +kernel), q⟩
theorem isi_list_str {a : Addr} {xs : List V} (h : H a = some (.lst xs)) (q : Q (.bl false) H) : rIsi K [.ref a, .ty "str"] H Q := ⟨_, _, _, _, _, rfl, .ty _, .base (.lst h), kit_ty (by decide +kernel), q⟩
theorem isi_list_list {a : Addr} {xs : List V} (h : H a = some (.lst xs)) (q : Q (.bl true) H) : rIsi K [.ref a, .ty "list"] H Q := ⟨_, _, _, _, _, rfl, .ty _, .base (.lst h), kit_ty (by decide +kernel), q⟩
theorem isi_list_tuple {a : Addr} {xs : List V} (h : H a = some (.lst xs)) (q : Q (.bl false) H) : rIsi K [.ref a, .ty "tuple"] H Q := ⟨_, _, _, _, _, rfl, .ty _, .base (.lst h), kit_ty (by decide +kernel), q⟩
theorem isi_list_dict {a : Addr} {xs : List V} (h : H a = some (.lst xs)) (q : Q (.bl false) H) : rIsi K [.ref a, .ty "dict"] H Q := ⟨_, _, _, _, _, rfl, .ty _, .base (.lst h), kit_ty (by decide +kernel), q⟩
theorem isi_tuple_int {a : Addr} {xs : List V} (h : H a = some (.tup xs)) (q : Q (.bl false) H) : rIsi K [.ref a, .ty "int"] H Q := ⟨_, _, _, _, _, rfl, .ty _, .base (.tup h), kit_ty (by decide +kernel), q⟩
theorem isi_tuple_bool {a : Addr} {xs : List V} (h : H a = some (.tup xs)) (q : Q (.bl false) H) : rIsi K [.ref a, .ty "bool"] H Q := ⟨_, _, _, _, _, rfl, .ty _, .base (.tup h), kit_ty (by decide +kernel), q⟩
theorem isi_tuple_str {a : Addr} {xs : List V} (h : H a = some (.tup xs)) (q : Q (.bl false) H) : rIsi K [.ref a, .ty "str"] H Q := ⟨_, _, _, _, _, rfl, .ty _, .base (.tup h), kit_ty (by decide +kernel), q⟩
theorem isi_tuple_list {a : Addr} {xs : List V} (h : H a = some (.tup xs)) (q : Q (.bl false) H) : rIsi K [.ref a, .ty "list"] H Q := ⟨_, _, _, _, _, rfl, .ty _, .base (.tup h), kit_ty (by decide +kernel), q⟩
theorem isi_tuple_tuple {a : Addr} {xs : List V} (h : H a = some (.tup xs)) (q : Q (.bl true) H) : rIsi K [.ref a, .ty "tuple"] H Q := ⟨_, _, _, _, _, rfl, .ty _, .base (.tup h), kit_ty (by decide +kernel), q⟩
theorem isi_tuple_dict {a : Addr} {xs : List V} (h : H a = some (.tup xs)) (q : Q (.bl false) H) : rIsi K [.ref a, .ty "dict"] H Q := ⟨_, _, _, _, _, rfl, .ty _, .base (.tup h), kit_ty (by decide +kernel), q⟩
theorem isi_dict_int {a : Addr} {xs : List (Key × V)} (h : H a = some (.dK xs)) (q : Q (.bl false) H) : rIsi K [.ref a, .ty "int"] H Q := ⟨_, _, _, _, _, rfl, .ty _, .base (.dK h), kit_ty (by decide +kernel), q⟩
theorem isi_dict_bool {a : Addr} {xs : List (Key × V)} (h : H a = some (.dK xs)) (q : Q (.bl false) H) : rIsi K [.ref a, .ty "bool"] H Q := ⟨_, _, _, _, _, rfl, .ty _, .base (.dK h), kit_ty (by decide +kernel), q⟩
theorem isi_dict_str {a : Addr} {xs : List (Key × V)} (h : H a = some (.dK xs)) (q : Q (.bl false) H) : rIsi K [.ref a, .ty "str"] H Q := ⟨_, _, _, _, _, rfl, .ty _, .base (.dK h), kit_ty (by decide +kernel), q⟩
theorem isi_dict_list {a : Addr} {xs : List (Key × V)} (h : H a = some (.dK xs)) (q : Q (.bl false) H) : rIsi K [.ref a, .ty "list"] H Q := ⟨_, _, _, _, _, rfl, .ty _, .base (.dK h), kit_ty (by decide +kernel), q⟩
theorem isi_dict_tuple {a : Addr} {xs : List (Key × V)} (h : H a = some (.dK xs)) (q : Q (.bl false) H) : rIsi K [.ref a, .ty "tuple"] H Q := ⟨_, _, _, _, _, rfl, .ty _, .base (.dK h), kit_ty (by decide +kernel), q⟩
theorem isi_dict_dict {a : Addr} {xs : List (Key × V)} (h : H a = some (.dK xs)) (q : Q (.bl true) H) : rIsi K [.ref a, .ty "dict"] H Q := ⟨_, _, _, _, _, rfl, .ty _, .base (.dK h), kit_ty (by decide +kernel), q⟩
end
end Tm
namespace Tm
open PySem PySem.Spec PyProof.Rows L2
theorem c_cell {K : PySem.W.Frag} {H : Hp} {p : Addr} {ns : List Int} {k : Int} {Q : VK} {E : XK} (hS : SqL K H p (ns.map V.int)) (h0 : 0 ≤ k) (h : Q (.int (cellAt ns k)) H) : spCell K [.ref p, .int k] H Q E := ⟨p, ns, k, rfl, hS, h0, h⟩
end Tm
namespace Tm
open PySem PySem.Spec PyProof.Rows L2
/-! readings, step by step: each step's head is a constant, so that a wrong step falls at once -/
section
variable {K : PySem.W.Frag} {σ : L2.St} {H : Hp} {Q : VK} {B : Bool → Hp → Prop} {R : List V → Hp → Prop} {v x y z : V} {ta tb te td ty tx tl : TE} {ts : TA} {tt tu : TT} {t1 t2 : TS} {i j n : Nat} {nx bk ct : L2.St → Hp → Prop} {rt : VK} {r : R2} {p q d : Addr} {f : Str} {E : XK} {vs : List V}
def qB (B : Bool → Hp → Prop) : VK := fun x H' => ∃ k, x = .bl k ∧ B k H'
theorem r_qB {b : Bool} (h : B b H) : qB B (.bl b) H := ⟨b, rfl, h⟩
theorem s_var (e : σ[i]? = some (some v)) (h : Q v H) : tVar i σ H Q := ⟨v, e, h⟩
/-- an expression's value once, whatever follows -/
theorem s_val (v : V) (h : ∀ Q : VK, Q v H → te σ H Q) (q : Q v H) : te σ H Q := h Q q
theorem s_C (h : Q v H) : tC v σ H Q := h
theorem s_op (h : ta σ H fun x H1 => tb σ H1 fun y H2 => r x y H2 Q) : tOp r ta tb σ H Q := h
theorem s_un {u : V → Hp → VK → Prop} (h : ta σ H fun x H1 => u x H1 Q) : tUn u ta σ H Q := h
theorem s_test (h : te σ H (qB B)) : tTest te σ H B := h
theorem s_tB (h : te σ H (qB B)) : tB te σ H B := h
theorem s_not (h : tt σ H fun c H1 => B (!c) H1) : tNot tt σ H B := h
theorem s_and (h : tt σ H fun c H1 => if c = true then tu σ H1 B else B false H1) : tAnd tt tu σ H B := h
theorem s_or (h : tt σ H fun c H1 => if c = true then B true H1 else tu σ H1 B) : tOr tt tu σ H B := h
theorem s_andV (h : ta σ H (qB fun c H1 => if c = true then tb σ H1 Q else Q (.bl false) H1)) : tAndV ta tb σ H Q := h
theorem s_orV (h : ta σ H (qB fun c H1 => if c = true then Q (.bl true) H1 else tb σ H1 Q)) : tOrV ta tb σ H Q := h
theorem s_notV (h : ta σ H (qB fun c H1 => Q (.bl (!c)) H1)) : tNotV ta σ H Q := h
theorem s_if (h : tt σ H fun c H1 => if c = true then ta σ H1 Q else tb σ H1 Q) : tIf tt ta tb σ H Q := h
theorem s_chain {r r' : R2} {tc : TE} (h : ta σ H fun x H1 => tb σ H1 fun y H2 => r x y H2 (qB fun k H3 => if k = true then tc σ H3 fun w' H4 => r' y w' H4 Q else Q (.bl false) H3)) : tChain r r' ta tb tc σ H Q := h
theorem s_nil (h : R [] H) : tNil σ H R := h
theorem s_cons (h : te σ H fun x H1 => ts σ H1 fun xs H2 => R (x :: xs) H2) : tCons te ts σ H R := h
def qNew (mk : List V → HO) (Q : VK) : List V → Hp → Prop := fun xs H1 => xs.length ≤ sizeLine ∧ ∀ p, H1 p = none → Q (.ref p) (upd H1 p (mk xs))
theorem r_new {mk : List V → HO} {xs : List V} (hl : xs.length ≤ 1000000) (h : ∀ p, H p = none → Q (.ref p) (upd H p (mk xs))) : qNew mk Q xs H := ⟨Nat.le_trans hl (by decide), h⟩
theorem s_tup (h : ts σ H (qNew .tup Q)) : tTup ts σ H Q := h
theorem s_lst (h : ts σ H (qNew .lst Q)) : tLst ts σ H Q := h
theorem s_call {sp : Sp} (h : ts σ H fun vs H1 => sp vs H1 Q E) : tCall sp [] E ts σ H Q := by
  unfold tCall
  simpa only [List.append_nil] using h
theorem s_callS {sp : Sp} {E : L2.St → XK} (h : ts σ H fun vs H1 => sp vs H1 Q (E σ)) : tCallS sp E ts σ H Q := h
theorem s_CB {c : List V → Hp → VK → Prop} (h : ts σ H fun vs H1 => c vs H1 Q) : tCB c ts σ H Q := h
theorem s_noPart {O : Option Int → Hp → Prop} (h : O none H) : tNoPart σ H O := h
def qPart (O : Option Int → Hp → Prop) : VK := fun x H1 => ∃ i, x = .int i ∧ O (some i) H1
theorem r_part {O : Option Int → Hp → Prop} {i : Int} (h : O (some i) H) : qPart O (.int i) H := ⟨i, rfl, h⟩
theorem s_part {O : Option Int → Hp → Prop} (h : te σ H (qPart O)) : tPart te σ H O := h
theorem s_sl {c : V → Option Int → Option Int → Hp → VK → Prop} {a b : TO} (h : te σ H fun x H1 => a σ H1 fun l H2 => b σ H2 fun u H3 => c x l u H3 Q) : tSl c te a b σ H Q := h
theorem s_yes (h : B true H) : tYes σ H B := h
/-! statements -/
theorem s_seq (h : t1 ⟨t2 ⟨nx, rt, bk, ct⟩, rt, bk, ct⟩ σ H) : tSeq t1 t2 ⟨nx, rt, bk, ct⟩ σ H := h
theorem s_next (h : nx σ H) : tNext ⟨nx, rt, bk, ct⟩ σ H := h
theorem s_asg {g : TG} (h : te σ H fun x H1 => g x σ H1 nx) : tAsg te g ⟨nx, rt, bk, ct⟩ σ H := h
theorem s_gName {N : L2.St → Hp → Prop} (h : N (σ.set i (some v)) H) : gName i v σ H N := h
theorem s_drop (h : te σ H fun _ H1 => nx σ H1) : tDrop te ⟨nx, rt, bk, ct⟩ σ H := h
theorem s_ret (h : te σ H rt) : tRet te ⟨nx, rt, bk, ct⟩ σ H := h
theorem s_ifS (h : tt σ H fun b H1 => if b = true then t1 ⟨nx, rt, bk, ct⟩ σ H1 else t2 ⟨nx, rt, bk, ct⟩ σ H1) : tIfS tt t1 t2 ⟨nx, rt, bk, ct⟩ σ H := h
/-! operators on ints -/
theorem r_I0 {g : Int → Int → V} {i j : Int} (h : Q (g i j) H) : rI0 g (.int i) (.int j) H Q := ⟨i, j, rfl, rfl, h⟩
theorem r_I {C : Int → Int → Prop} {g : Int → Int → V} {i j : Int} (c : C i j) (h : Q (g i j) H) : rI C g (.int i) (.int j) H Q := ⟨i, j, rfl, rfl, c, h⟩
theorem r_mod {g : Int → Int → V} {i j : Int} (c : 0 < j) (h : Q (g i j) H) : rI (fun _ j => 0 < j) g (.int i) (.int j) H Q := ⟨i, j, rfl, rfl, c, h⟩
theorem r_div {g : Int → Int → V} {i j : Int} (c : 0 < j ∧ j < 1073741824) (h : Q (g i j) H) : rI CDiv g (.int i) (.int j) H Q := ⟨i, j, rfl, rfl, c, h⟩
theorem r_mul {g : Int → Int → V} {i j : Int} (c : (-18446744073709551616 < i ∧ i < 18446744073709551616) ∨ (-18446744073709551616 < j ∧ j < 18446744073709551616)) (h : Q (g i j) H) : rI CMul g (.int i) (.int j) H Q := ⟨i, j, rfl, rfl, c, h⟩
theorem r_U {g : Int → V} {i : Int} (h : Q (g i) H) : rU g (.int i) H Q := ⟨i, rfl, h⟩
theorem r_eqI {i j : Int} (h : Q (.bl (decide (i = j))) H) : rEq (.int i) (.int j) H Q := ⟨rfl, by
  have e : decide (V.int i = V.int j) = decide (i = j) := by by_cases c : i = j <;> simp [c]
  rw [e]; exact h⟩
theorem r_neI {i j : Int} (h : Q (.bl (!decide (i = j))) H) : rNe (.int i) (.int j) H Q := ⟨rfl, by
  have e : decide (V.int i = V.int j) = decide (i = j) := by by_cases c : i = j <;> simp [c]
  rw [e]; exact h⟩
theorem r_eqB {i j : Bool} (h : Q (.bl (decide (i = j))) H) : rEq (.bl i) (.bl j) H Q := ⟨rfl, by
  have e : decide (V.bl i = V.bl j) = decide (i = j) := by by_cases c : i = j <;> simp [c]
  rw [e]; exact h⟩
theorem r_neB {i j : Bool} (h : Q (.bl (!decide (i = j))) H) : rNe (.bl i) (.bl j) H Q := ⟨rfl, by
  have e : decide (V.bl i = V.bl j) = decide (i = j) := by by_cases c : i = j <;> simp [c]
  rw [e]; exact h⟩
theorem r_eqS {i j : Str} (h : Q (.bl (decide (i = j))) H) : rEq (.str i) (.str j) H Q := ⟨rfl, by
  have e : decide (V.str i = V.str j) = decide (i = j) := by by_cases c : i = j <;> simp [c]
  rw [e]; exact h⟩
theorem r_neS {i j : Str} (h : Q (.bl (!decide (i = j))) H) : rNe (.str i) (.str j) H Q := ⟨rfl, by
  have e : decide (V.str i = V.str j) = decide (i = j) := by by_cases c : i = j <;> simp [c]
  rw [e]; exact h⟩
/-! items, lengths -/
theorem r_ixT {xs : List V} {i : Int} (hs : SqT K H p xs) (ha : atI xs i = some v) (h : Q v H) : rIxT K (.ref p) (.int i) H Q := ⟨p, xs, i, v, rfl, rfl, hs, ha, h⟩
theorem r_ixL {xs : List V} {i : Int} (hs : SqL K H p xs) (ha : atI xs i = some v) (h : Q v H) : rIxL K (.ref p) (.int i) H Q := ⟨p, xs, i, v, rfl, rfl, hs, ha, h⟩
def rLenQ (K : PySem.W.Frag) : List V → Hp → VK → Prop := fun xs H Q => ∃ p ys, xs = [.ref p] ∧ (SqL K H p ys ∨ SqT K H p ys) ∧ Q (.int ys.length) H
theorem call_lenQ {X : Cx} : CallR X (.builtin "len") (rLenQ X.K) := call_len_seq
theorem r_lenL {xs : List V} (hs : SqL K H p xs) (h : Q (.int xs.length) H) : rLenQ K [.ref p] H Q := ⟨p, xs, rfl, .inl hs, h⟩
theorem r_lenT {xs : List V} (hs : SqT K H p xs) (h : Q (.int xs.length) H) : rLenQ K [.ref p] H Q := ⟨p, xs, rfl, .inr hs, h⟩
def rLenDQ : List V → Hp → VK → Prop := fun xs H Q => ∃ a kvs, xs = [V.ref a] ∧ H a = some (.dK kvs) ∧ Q (.int kvs.length) H
theorem call_lenDQ {X : Cx} : CallR X (.builtin "len") rLenDQ := call_lenD
theorem r_lenD {kvs : List (Key × V)} (hs : H p = some (.dK kvs)) (h : Q (.int kvs.length) H) : rLenDQ [.ref p] H Q := ⟨p, kvs, rfl, hs, h⟩
def rMaxQ : List V → Hp → VK → Prop := fun xs H Q => ∃ i j, xs = [.int i, .int j] ∧ Q (.int (if j > i then j else i)) H
theorem call_maxQ {X : Cx} (hc : X.calm = true) : CallR X (.builtin "max") rMaxQ := call_max2 hc
theorem r_max {i j : Int} (h : Q (.int (max i j)) H) : rMaxQ [.int i, .int j] H Q := ⟨i, j, rfl, by
  have e : (if j > i then j else i) = max i j := by omega
  rw [e]; exact h⟩
def rMinQ : List V → Hp → VK → Prop := fun xs H Q => ∃ i j, xs = [.int i, .int j] ∧ Q (.int (if j < i then j else i)) H
theorem call_minQ {X : Cx} (hc : X.calm = true) : CallR X (.builtin "min") rMinQ := call_min2 hc
theorem r_min {i j : Int} (h : Q (.int (min i j)) H) : rMinQ [.int i, .int j] H Q := ⟨i, j, rfl, by
  have e : (if j < i then j else i) = min i j := by omega
  rw [e]; exact h⟩
def rListQ (K : PySem.W.Frag) : List V → Hp → VK → Prop := fun xs H Q => ∃ p ys, xs = [.ref p] ∧ (SqL K H p ys ∨ SqT K H p ys) ∧ ∀ l, H l = none → Q (.ref l) (upd H l (.lst ys))
theorem call_listQ {X : Cx} : CallR X (.type "list") (rListQ X.K) := call_list_of
theorem r_list {xs : List V} (hs : SqL K H p xs) (h : ∀ l, H l = none → Q (.ref l) (upd H l (.lst xs))) : rListQ K [.ref p] H Q := ⟨p, xs, rfl, .inl hs, h⟩
theorem r_listT {xs : List V} (hs : SqT K H p xs) (h : ∀ l, H l = none → Q (.ref l) (upd H l (.lst xs))) : rListQ K [.ref p] H Q := ⟨p, xs, rfl, .inr hs, h⟩
def rTupQ (K : PySem.W.Frag) : List V → Hp → VK → Prop := fun xs H Q => ∃ p ys, xs = [.ref p] ∧ ((SqL K H p ys ∧ ∀ l, H l = none → Q (.ref l) (upd H l (.tup ys))) ∨ (SqT K H p ys ∧ Q (.ref p) H))
theorem call_tupQ {X : Cx} : CallR X (.type "tuple") (rTupQ X.K) := call_tuple_of
theorem r_tupL {xs : List V} (hs : SqL K H p xs) (h : ∀ l, H l = none → Q (.ref l) (upd H l (.tup xs))) : rTupQ K [.ref p] H Q := ⟨p, xs, rfl, .inl ⟨hs, h⟩⟩
def rDictQ : List V → Hp → VK → Prop := fun xs H Q => ∃ (a : Addr) (kvs : List (Key × V)), xs = [.ref a] ∧ Rd H a (.dK kvs) ∧ ∀ p, H p = none → Q (.ref p) (upd H p (.dK kvs))
theorem call_dictQ {X : Cx} : CallR X (.type "dict") rDictQ := call_dictD
theorem r_dict {kvs : List (Key × V)} (hs : H p = some (.dK kvs)) (h : ∀ l, H l = none → Q (.ref l) (upd H l (.dK kvs))) : rDictQ [.ref p] H Q := ⟨p, kvs, rfl, .inl hs, h⟩
def rIntQ : List V → Hp → VK → Prop := fun xs H Q => (∃ i, xs = [.int i] ∧ Q (.int i) H) ∨ ∃ k, xs = [.bl k] ∧ Q (.int (if k then 1 else 0)) H
theorem call_intQ {X : Cx} : CallR X (.type "int") rIntQ := call_int1
theorem r_int {b : Bool} (h : Q (.int (if b then 1 else 0)) H) : rIntQ [.bl b] H Q := .inr ⟨b, rfl, h⟩
/-! methods of lists -/
def qTy (K : PySem.W.Frag) (T : String) (m : V → List V → Hp → VK → Prop) (ts : TA) (σ : L2.St) (Q : VK) : VK := fun x H1 => tyV K T x H1 ∧ ts σ H1 fun xs H2 => m x xs H2 Q
theorem s_BM {T : String} {m : V → List V → Hp → VK → Prop} (h : te σ H (qTy K T m ts σ Q)) : tBM K T m te ts σ H Q := h
theorem r_tyL {m : V → List V → Hp → VK → Prop} {xs : List V} (hs : H p = some (.lst xs)) (h : ts σ H fun xs H2 => m (.ref p) xs H2 Q) : qTy K "list" m ts σ Q (.ref p) H := ⟨.inl ⟨rfl, xs, .inl (.inl hs)⟩, h⟩
theorem r_append {xs : List V} (hs : H p = some (.lst xs)) (hl : xs.length < sizeLine) (h : Q .non (upd H p (.lst (xs ++ [y])))) : rAppend (.ref p) [y] H Q := ⟨p, xs, y, rfl, rfl, hs, hl, h⟩
/-! slices, concatenation -/
theorem r_slL {xs : List V} {lo hi : Option Int} (hs : SqL K H p xs) (h : ∀ l, H l = none → Q (.ref l) (upd H l (.lst (cutV xs lo hi)))) : rSlL K (.ref p) lo hi H Q := ⟨p, xs, rfl, hs, h⟩
theorem r_cat {xs ys : List V} (hs : H p = some (.lst xs)) (hq : H q = some (.lst ys)) (hl : xs.length + ys.length ≤ sizeLine) (h : ∀ l, H l = none → Q (.ref l) (upd H l (.lst (xs ++ ys)))) : rCat (.ref p) (.ref q) H Q := ⟨p, q, xs, ys, rfl, rfl, hs, hq, hl, h⟩
theorem r_slT {xs : List V} {lo hi : Option Int} (hs : SqT K H p xs) (hne : ¬ (HT.sIx xs.length 0 lo = 0 ∧ HT.sIx xs.length xs.length hi = xs.length)) (h : ∀ l, H l = none → Q (.ref l) (upd H l (.tup (cutV xs lo hi)))) : rSlA K (.ref p) lo hi H Q := ⟨p, xs, rfl, hs, fun e => (hne e).elim, fun _ => h⟩
theorem r_catT {xs ys : List V} (hs : SqT K H p xs) (hq : SqT K H q ys) (hx : xs ≠ []) (hy : ys ≠ []) (hl : xs.length + ys.length ≤ sizeLine) (h : ∀ l, H l = none → Q (.ref l) (upd H l (.tup (xs ++ ys)))) : rCatA K (.ref p) (.ref q) H Q := ⟨p, q, xs, ys, rfl, rfl, hs, hq, hl, fun e => (hx e).elim, fun _ e => (hy e).elim, fun _ _ => h⟩
theorem r_in {xs : List V} (hs : SqL K H p xs) (hf : flatV x = true) (ha : xs.all flatV = true) (h : Q (.bl (inV x xs)) H) : rIn K false x (.ref p) H Q := ⟨p, xs, rfl, .inl hs, hf, ha, h⟩
theorem r_inT {xs : List V} (hs : SqT K H p xs) (hf : flatV x = true) (ha : xs.all flatV = true) (h : Q (.bl (inV x xs)) H) : rIn K false x (.ref p) H Q := ⟨p, xs, rfl, .inr hs, hf, ha, h⟩
theorem r_nin {xs : List V} (hs : SqL K H p xs) (hf : flatV x = true) (ha : xs.all flatV = true) (h : Q (.bl (!inV x xs)) H) : rIn K true x (.ref p) H Q := ⟨p, xs, rfl, .inl hs, hf, ha, h⟩
/-! fields, methods, instances -/
def qFld (K : PySem.W.Frag) (f : Str) (Q : VK) : VK := fun x H1 => ∃ a C dx fs v, x = .ref a ∧ H1 a = some (.ins C dx fs) ∧ Cls K C ∧ NoAttr K C f ∧ fs.lookup f = some v ∧ Q v H1
theorem s_fld (h : te σ H (qFld K f Q)) : tFld K te f σ H Q := h
theorem r_fld {C dx : Addr} {fs : List (Str × V)} (hs : H p = some (.ins C dx fs)) (c : Cls K C) (na : NoAttr K C f) (l : fs.lookup f = some v) (h : Q v H) : qFld K f Q (.ref p) H := ⟨p, C, dx, fs, v, rfl, hs, c, na, l, h⟩
def qSFld (K : PySem.W.Frag) (f : Str) (nx : L2.St → Hp → Prop) (σ : L2.St) (y : V) : VK := fun x H2 => ∃ a C dx fs, x = .ref a ∧ H2 a = some (.ins C dx fs) ∧ Cls K C ∧ NoAttr K C f ∧ fs.length < 1000 ∧ nx σ (upd H2 a (.ins C dx (putF f y fs)))
theorem s_sFld (h : te σ H fun y H1 => ta σ H1 (qSFld K f nx σ y)) : sFld K ta te f ⟨nx, rt, bk, ct⟩ σ H := h
theorem r_sFld {C dx : Addr} {fs : List (Str × V)} (hs : H p = some (.ins C dx fs)) (c : Cls K C) (na : NoAttr K C f) (l : fs.length < 1000) (h : nx σ (upd H p (.ins C dx (putF f y fs)))) : qSFld K f nx σ y (.ref p) H := ⟨p, C, dx, fs, rfl, hs, c, na, l, h⟩
def qMeth (C : Addr) (m : Str) (sp : Sp) (E : XK) (ts : TA) (σ : L2.St) (Q : VK) : VK := fun x H1 => ∃ a dx fs, x = .ref a ∧ H1 a = some (.ins C dx fs) ∧ fs.lookup m = none ∧ ts σ H1 fun vs H2 => sp (x :: vs) H2 Q E
theorem s_meth {C : Addr} {m : Str} {sp : Sp} (h : te σ H (qMeth C m sp E ts σ Q)) : tMeth C m sp [] E te ts σ H Q := by
  unfold qMeth at h
  unfold tMeth
  simpa only [List.append_nil] using h
theorem r_meth {C dx : Addr} {m : Str} {sp : Sp} {fs : List (Str × V)} (hs : H p = some (.ins C dx fs)) (l : fs.lookup m = none) (h : ts σ H fun vs H2 => sp (.ref p :: vs) H2 Q E) : qMeth C m sp E ts σ Q (.ref p) H := ⟨p, dx, fs, rfl, hs, l, h⟩
theorem s_make {C : Addr} {sp : Sp} (h : ts σ H fun vs H1 => ∀ x dx, H1 x = none → H1 dx = none → dx ≠ x → sp (.ref x :: vs) (upd (upd H1 dx (.own x)) x (.ins C dx [])) (fun v H2 => v = .non ∧ Q (.ref x) H2) E) : tMake C sp [] E ts σ H Q := by
  unfold tMake
  simpa only [List.append_nil] using h
/-! dicts -/
def qDGet (Q : VK) (y : V) : V → Hp → Prop := fun x H2 => ∃ a v, x = .ref a ∧ DGet H2 a y (some v) ∧ Q v H2
theorem s_dNew (h : ∀ p, H p = none → Q (.ref p) (upd H p (.dK []))) : tDNewK σ H Q := h
theorem s_dGet (h : td σ H fun x H1 => ty σ H1 fun y H2 => qDGet Q y x H2) : tDGet td ty σ H Q := h
theorem r_dGet {kvs : List (Key × V)} {k : Int} (hs : H d = some (.dK kvs)) (hv : valV kvs (Sum.inl k) = some v) (h : Q v H) : qDGet Q (.int k) (.ref d) H := ⟨d, v, rfl, by rw [← hv]; exact DGet.k (k := Sum.inl k) hs, h⟩
theorem r_dGetS {kvs : List (Key × V)} {k : Str} (hs : H d = some (.dK kvs)) (hv : valV kvs (Sum.inr k) = some v) (h : Q v H) : qDGet Q (.str k) (.ref d) H := ⟨d, v, rfl, by rw [← hv]; exact DGet.k (k := Sum.inr k) hs, h⟩
theorem r_dGetF {o : Obj} {kvs : List (Key × V)} {k : Int} (hs : H d = some (.frz o (.dK kvs))) (hv : valV kvs (Sum.inl k) = some v) (h : Q v H) : qDGet Q (.int k) (.ref d) H := ⟨d, v, rfl, by rw [← hv]; exact .inl ⟨kvs, Sum.inl k, .inr ⟨o, hs⟩, rfl, rfl⟩, h⟩
def qDIn (Q : VK) (y : V) : V → Hp → Prop := fun x H2 => ∃ a o, x = .ref a ∧ DGet H2 a y o ∧ Q (.bl o.isSome) H2
theorem s_dIn (h : ty σ H fun y H1 => td σ H1 fun x H2 => qDIn Q y x H2) : tDIn ty td σ H Q := h
theorem r_dIn {kvs : List (Key × V)} {k : Int} (hs : H d = some (.dK kvs)) (h : Q (.bl (valV kvs (Sum.inl k)).isSome) H) : qDIn Q (.int k) (.ref d) H := ⟨d, _, rfl, DGet.k (k := Sum.inl k) hs, h⟩
def qDNotIn (Q : VK) (y : V) : V → Hp → Prop := fun x H2 => ∃ a o, x = .ref a ∧ DGet H2 a y o ∧ Q (.bl (!o.isSome)) H2
theorem s_dNotIn (h : ty σ H fun y H1 => td σ H1 fun x H2 => qDNotIn Q y x H2) : tDNotIn ty td σ H Q := h
theorem r_dNotIn {kvs : List (Key × V)} {k : Int} (hs : H d = some (.dK kvs)) (h : Q (.bl (!(valV kvs (Sum.inl k)).isSome)) H) : qDNotIn Q (.int k) (.ref d) H := ⟨d, _, rfl, DGet.k (k := Sum.inl k) hs, h⟩
def qDPut (nx : L2.St → Hp → Prop) (σ : L2.St) (v y : V) : V → Hp → Prop := fun x H3 => ∃ a H4, x = .ref a ∧ DPut H3 a y v H4 ∧ nx σ H4
theorem s_dPut (h : te σ H fun v H1 => td σ H1 fun x H2 => ty σ H2 fun y H3 => qDPut nx σ v y x H3) : sDPut td ty te ⟨nx, rt, bk, ct⟩ σ H := h
theorem r_dPut {kvs : List (Key × V)} {k : Int} (hs : H d = some (.dK kvs)) (hl : kvs.length < sizeLine) (h : nx σ (upd H d (.dK (putK kvs (Sum.inl k) v)))) : qDPut nx σ v (.int k) (.ref d) H := ⟨d, _, rfl, DPut.k (k := Sum.inl k) hs hl, h⟩
theorem r_dPutS {kvs : List (Key × V)} {k : Str} (hs : H d = some (.dK kvs)) (hl : kvs.length < sizeLine) (h : nx σ (upd H d (.dK (putK kvs (Sum.inr k) v)))) : qDPut nx σ v (.str k) (.ref d) H := ⟨d, _, rfl, DPut.k (k := Sum.inr k) hs hl, h⟩
/-! loops -/
def qFor {ι : Type} (go stop : Nat → Hp → Prop) (yld : Nat → Hp → V → Hp → Prop) (g : TG) (tb : TS) (nx : L2.St → Hp → Prop) (rt : VK) (σ : L2.St) (H1 : Hp) : Prop := ∃ W : Nat → Nat → L2.St → Hp → Prop, (∃ m, W 0 m σ H1) ∧ ∀ i m σ H, W i m σ H →
  (stop i H ∧ nx σ H) ∨ (go i H ∧ ∃ N : L2.St → Hp → Prop, (∀ σ' H', N σ' H' → ∃ m', m' < m ∧ W (i + 1) m' σ' H') ∧ ∀ x H', yld i H x H' → g x σ H' fun σ2 H2 => tb ⟨N, rt, nx, N⟩ σ2 H2)
def qForL (K : PySem.W.Frag) (g : TG) (tb : TS) (nx : L2.St → Hp → Prop) (rt : VK) (σ : L2.St) : VK := fun x H1 => ∃ a, x = .ref a ∧ (∃ xs, SqL K H1 a xs) ∧ qFor (ι := Unit) (Itl K a).go (Itl K a).stop (Itl K a).yld g tb nx rt σ H1
theorem s_forL {g : TG} {tb : TS} (h : tl σ H (qForL K g tb nx rt σ)) : tFor (iList K tl) g tb ⟨nx, rt, bk, ct⟩ σ H := h
/-- for x in a list: the invariant Pv (turn, slots, heap) -/
theorem r_forL {tb : TS} {xs : List V} (Pv : Nat → L2.St → Hp → Prop) (h0 : Pv 0 σ H) (hl : ∀ i σ H, i ≤ xs.length → Pv i σ H → SqL K H p xs)
    (hs : ∀ i x σ H, xs[i]? = some x → Pv i σ H → tb ⟨Pv (i + 1), rt, nx, Pv (i + 1)⟩ (σ.set j (some x)) H) (hd : ∀ σ H, Pv xs.length σ H → nx σ H) : qForL K (gName j) tb nx rt σ (.ref p) H :=
  ⟨p, rfl, ⟨xs, hl 0 σ H (Nat.zero_le _) h0⟩, for_list (D := ⟨nx, rt, fun _ _ => False, fun _ _ => False⟩) Pv h0 hl hs hd⟩
def qForR (g : TG) (tb : TS) (nx : L2.St → Hp → Prop) (rt : VK) (σ : L2.St) : List V → Hp → Prop := fun vs H1 => ∃ n : Int, vs = [.int n] ∧ -(2 ^ 62) ≤ n ∧ n < 2 ^ 62 ∧ qFor (ι := Unit) (Itr 0 n.toNat).go (Itr 0 n.toNat).stop (Itr 0 n.toNat).yld g tb nx rt σ H1
theorem s_forR {g : TG} {tb : TS} (h : ts σ H (qForR g tb nx rt σ)) : tFor (iRng1 ts) g tb ⟨nx, rt, bk, ct⟩ σ H := h
/-- for k in range(n) -/
theorem r_forR {tb : TS} (n : Nat) (Pv : Nat → L2.St → Hp → Prop) (hn : n ≤ 1000000000) (h0 : Pv 0 σ H)
    (hs : ∀ (i : Nat) σ H, i < n → Pv i σ H → tb ⟨Pv (i + 1), rt, nx, Pv (i + 1)⟩ (σ.set j (some (.int (i : Int)))) H) (hd : ∀ σ H, Pv n σ H → nx σ H) : qForR (gName j) tb nx rt σ [.int (n : Int)] H :=
  ⟨n, rfl, by omega, by omega, by
    have e : ((n : Int)).toNat = n := Int.toNat_natCast n
    rw [e]
    exact for_range (lo := 0) (D := ⟨nx, rt, fun _ _ => False, fun _ _ => False⟩) Pv h0 (fun i σ H hi p => by
      have q := hs i σ H hi p
      show tb ⟨Pv (i + 1), rt, nx, Pv (i + 1)⟩ (σ.set j (some (.int ((0 : Int) + (i : Int))))) H
      rw [Int.zero_add]
      exact q) hd⟩
def qForV (K : PySem.W.Frag) (g : TG) (tb : TS) (nx : L2.St → Hp → Prop) (rt : VK) (σ : L2.St) : List V → Hp → Prop := fun vs H1 => ∃ (a : Addr) (xs : List V), vs = [.ref a] ∧ SqL K H1 a xs ∧ qFor (ι := Unit) (Itv K a xs.length).go (Itv K a xs.length).stop (Itv K a xs.length).yld g tb nx rt σ H1
theorem s_forV {g : TG} {tb : TS} (h : ts σ H (qForV K g tb nx rt σ)) : tFor (iRev K ts) g tb ⟨nx, rt, bk, ct⟩ σ H := h
/-- for x in reversed(a list) -/
theorem r_forV {tb : TS} {xs : List V} (Pv : Nat → L2.St → Hp → Prop) (h0 : Pv 0 σ H) (hl : ∀ i σ H, i ≤ xs.length → Pv i σ H → SqL K H p xs)
    (hs : ∀ i x σ H, xs.reverse[i]? = some x → Pv i σ H → tb ⟨Pv (i + 1), rt, nx, Pv (i + 1)⟩ (σ.set j (some x)) H) (hd : ∀ σ H, Pv xs.length σ H → nx σ H) : qForV K (gName j) tb nx rt σ [.ref p] H := by
  have hq := hl 0 σ H (Nat.zero_le _) h0
  refine ⟨p, xs, rfl, hq, fun i m σ H => m = xs.length - i ∧ i ≤ xs.length ∧ Pv i σ H, ⟨xs.length, by simp, Nat.zero_le _, h0⟩, ?_⟩
  rintro i m σ H ⟨rfl, hi, q⟩
  have hq := hl i σ H hi q
  by_cases hlt : i < xs.length
  · have e : xs[xs.length - 1 - i]? = some (xs[xs.length - 1 - i]'(by omega)) := List.getElem?_eq_getElem (by omega)
    refine .inr ⟨⟨hlt, xs, _, hq, e⟩, Pv (i + 1), fun σ' H' p' => ⟨xs.length - (i + 1), by omega, rfl, hlt, p'⟩, fun x H' y => ?_⟩
    obtain ⟨eH, y⟩ := y
    subst eH
    refine hs i x σ _ ?_ q
    rw [List.getElem?_reverse hlt]
    exact y xs hq
  · have e : i = xs.length := by omega
    subst e
    exact .inl ⟨Nat.le_refl _, hd σ H q⟩
def qForS (g : TG) (tb : TS) (nx : L2.St → Hp → Prop) (rt : VK) (σ : L2.St) : VK := fun v H1 => ∃ x, v = .str x ∧ qFor (ι := Unit) (Its x).go (Its x).stop (Its x).yld g tb nx rt σ H1
theorem s_forS {g : TG} {tb : TS} (h : te σ H (qForS g tb nx rt σ)) : tFor (iStr te) g tb ⟨nx, rt, bk, ct⟩ σ H := h
/-- while -/
def qWhile (W : Nat → L2.St → Hp → Prop) (m : Nat) (tb : TS) (nx : L2.St → Hp → Prop) (rt : VK) (σ : L2.St) : Bool → Hp → Prop := fun b H1 =>
  if b = true then ∃ N : L2.St → Hp → Prop, (∀ σ' H', N σ' H' → ∃ m', m' < m ∧ W m' σ' H') ∧ tb ⟨N, rt, nx, N⟩ σ H1 else nx σ H1
/-- while: the invariant Pv (a number that falls, slots, heap) -/
theorem r_while {tb : TS} (Pv : Nat → L2.St → Hp → Prop) (m : Nat) (h0 : Pv m σ H) (hs : ∀ m σ H, Pv m σ H → tt σ H (qWhile Pv m tb nx rt σ)) : tWhile tt tb ⟨nx, rt, bk, ct⟩ σ H := ⟨Pv, ⟨m, h0⟩, hs⟩
theorem r_w {W : Nat → L2.St → Hp → Prop} {m : Nat} {tb : TS} {b : Bool} (h1 : b = true → tb ⟨fun σ' H' => ∃ m', m' < m ∧ W m' σ' H', rt, nx, fun σ' H' => ∃ m', m' < m ∧ W m' σ' H'⟩ σ H) (h2 : b = false → nx σ H) : qWhile W m tb nx rt σ b H := by
  cases b with
  | true => exact ⟨_, fun _ _ z => z, h1 rfl⟩
  | false => exact h2 rfl
/-! comprehensions -/
def qAcc (D : Addr) (Nx : Hp → Prop) : VK := fun y H4 => ∃ acc, H4 D = some (.lst acc) ∧ acc.length < sizeLine ∧ Nx (upd H4 D (.lst (acc ++ [y])))
def qLcT (te : TE) (σ : L2.St) (D : Addr) (Nx : Hp → Prop) : Bool → Hp → Prop := fun b H3 => if b = true then te σ H3 (qAcc D Nx) else Nx H3
theorem r_acc {acc : List V} {Nx : Hp → Prop} (hs : H d = some (.lst acc)) (hl : acc.length < sizeLine) (h : Nx (upd H d (.lst (acc ++ [y])))) : qAcc d Nx y H := ⟨acc, hs, hl, h⟩
theorem r_lcY {Nx : Hp → Prop} (h : te σ H (qAcc d Nx)) : qLcT te σ d Nx true H := yes rfl h
def qLc (go stop : Nat → Hp → Prop) (yld : Nat → Hp → V → Hp → Prop) (g : TG) (tt : TT) (te : TE) (vs : List Nat) (σ : L2.St) (Q : VK) (H1 : Hp) : Prop := ∀ D, H1 D = none → ∃ W : Nat → Nat → Hp → Prop, (∃ m, W 0 m (upd H1 D (.lst []))) ∧ ∀ i m H, W i m H →
  (stop i H ∧ Q (.ref D) H) ∨ (go i H ∧ ∃ Nx : Hp → Prop, (∀ H', Nx H' → ∃ m', m' < m ∧ W (i + 1) m' H') ∧ ∀ x H', yld i H x H' → g x (wipe σ vs) H' fun σ2 H2 => wipe σ2 vs = wipe σ vs ∧ tt σ2 H2 (qLcT te σ2 D Nx))
def qLcL (K : PySem.W.Frag) (g : TG) (tt : TT) (te : TE) (vs : List Nat) (σ : L2.St) (Q : VK) : VK := fun x H1 => ∃ a, x = .ref a ∧ (∃ xs, SqL K H1 a xs) ∧ qLc (Itl K a).go (Itl K a).stop (Itl K a).yld g tt te vs σ Q H1
theorem s_lcL {g : TG} {vs : List Nat} (h : tl σ H (qLcL K g tt te vs σ Q)) : tLc (iList K tl) g tt te vs σ H Q := h
theorem r_lcL {xs : List V} (Pv : Addr → Nat → Hp → Prop) (h0 : ∀ D, H D = none → Pv D 0 (upd H D (.lst []))) (hx : SqL K H p xs) (hl : ∀ D i H, i ≤ xs.length → Pv D i H → SqL K H p xs)
    (hs : ∀ D i x H, xs[i]? = some x → Pv D i H → tt ((σ.set j none).set j (some x)) H (qLcT te ((σ.set j none).set j (some x)) D (Pv D (i + 1)))) (hd : ∀ D H, Pv D xs.length H → Q (.ref D) H) : qLcL K (gName j) tt te [j] σ Q (.ref p) H :=
  ⟨p, rfl, ⟨xs, hx⟩, fun D nD => lc_list (K := K) (Pv D) (h0 D nD) (hl D) (fun i x H hi q => ⟨by
    show (((σ.set j none).set j (some x)).set j none) = σ.set j none
    rw [List.set_set, List.set_set], hs D i x H hi q⟩) (hd D)⟩
def qLcR (g : TG) (tt : TT) (te : TE) (vs : List Nat) (σ : L2.St) (Q : VK) : List V → Hp → Prop := fun ws H1 => ∃ n : Int, ws = [.int n] ∧ -(2 ^ 62) ≤ n ∧ n < 2 ^ 62 ∧ qLc (Itr 0 n.toNat).go (Itr 0 n.toNat).stop (Itr 0 n.toNat).yld g tt te vs σ Q H1
theorem s_lcR {g : TG} {vs : List Nat} (h : ts σ H (qLcR g tt te vs σ Q)) : tLc (iRng1 ts) g tt te vs σ H Q := h
theorem r_lcR (n : Nat) (Pv : Addr → Nat → Hp → Prop) (hn : n ≤ 1000000000) (h0 : ∀ D, H D = none → Pv D 0 (upd H D (.lst [])))
    (hs : ∀ D (i : Nat) H, i < n → Pv D i H → tt ((σ.set j none).set j (some (.int i))) H (qLcT te ((σ.set j none).set j (some (.int i))) D (Pv D (i + 1)))) (hd : ∀ D H, Pv D n H → Q (.ref D) H) : qLcR (gName j) tt te [j] σ Q [.int (n : Int)] H :=
  ⟨n, rfl, by omega, by omega, by
    have e : ((n : Int)).toNat = n := Int.toNat_natCast n
    rw [e]
    intro D nD
    refine ⟨fun i m H => m = n - i ∧ i ≤ n ∧ Pv D i H, ⟨n, by simp, Nat.zero_le _, h0 D nD⟩, ?_⟩
    rintro i m H ⟨rfl, hi, q⟩
    by_cases hlt : i < n
    · refine .inr ⟨hlt, Pv D (i + 1), fun H' p' => ⟨n - (i + 1), by omega, rfl, hlt, p'⟩, fun x H' y => ?_⟩
      obtain ⟨eH, y⟩ := y
      subst eH
      have ex : x = .int (i : Int) := by rw [y]; simp
      subst ex
      exact ⟨by
        show (((σ.set j none).set j (some _)).set j none) = σ.set j none
        rw [List.set_set, List.set_set], hs D i _ hlt q⟩
    · have e : i = n := by omega
      subst e
      exact .inl ⟨Nat.le_refl _, hd D H q⟩⟩
end
/-! heaps -/
/-- p is new to H -/
def Fresh (H : Hp) (p : Addr) : Prop := H p = none
theorem keep {H : Hp} {p q : Addr} {o o' : HO} (hq : H q = some o') (hp : H p = none) : upd H p o q = some o' := by
  rw [upd_ne (ne_of_none hq hp)]
  exact hq
theorem keep_ne {H : Hp} {p q : Addr} {o o' : HO} (hq : H q = some o') (hp : q ≠ p) : upd H p o q = some o' := by
  rw [upd_ne hp]
  exact hq
theorem Same.new {H0 H : Hp} {p : Addr} {o : HO} (s : Same H0 H) (hp : H p = none) : Same H0 (upd H p o) := fun b u e => keep (s b u e) hp
theorem Same.mut {H0 H : Hp} {p : Addr} {o : HO} (s : Same H0 H) (hp : H0 p = none) : Same H0 (upd H p o) := fun b u e => keep_ne (s b u e) (ne_of_none e hp)
theorem new_free {H : Hp} {p q : Addr} {o : HO} (h : upd H p o q = none) : H q = none ∧ q ≠ p := by
  by_cases e : q = p
  · subst e; rw [upd_same] at h; cases h
  · rw [upd_ne e] at h; exact ⟨h, e⟩
theorem sql_keep {K : PySem.W.Frag} {H : Hp} {p a : Addr} {o : HO} {xs : List V} (h : SqL K H a xs) (hp : H p = none) : SqL K (upd H p o) a xs := (Same.new (Same.refl H) hp).seq h
theorem Same.sqt {K : PySem.W.Frag} {H H' : Hp} {a : Addr} {xs : List V} (e : Same H H') (h : SqT K H a xs) : SqT K H' a xs := by
  rcases h with (h | ⟨o, h⟩) | h
  · exact .inl (.inl (e _ _ h))
  · exact .inl (.inr ⟨o, e _ _ h⟩)
  · exact .inr h
theorem sqt_keep {K : PySem.W.Frag} {H : Hp} {p a : Addr} {o : HO} {xs : List V} (h : SqT K H a xs) (hp : H p = none) : SqT K (upd H p o) a xs := Same.sqt (Same.new (Same.refl H) hp) h
theorem le_line {n : Nat} (h : n ≤ 1000000) : n ≤ sizeLine := Nat.le_trans h (by decide)
theorem lt_line {n : Nat} (h : n ≤ 1000000) : n < sizeLine := Nat.lt_of_le_of_lt h (by decide)
theorem cxK {CX : CXT} {P : Program} {w : World} {K : PySem.W.Frag} {mg : Str → Option Value} {base : Heap} {N : List Str} {qual : Str} {scope : Scope} {f : Addr} {cd : Value} {A : Around} {outer : List Env} {s : Shared} {H : Hp} {E : XK} : (cxOf CX P w K mg base N qual scope f cd A outer s H E).K = K := rfl
end Tm
namespace Tm
open PySem PySem.Spec PyProof.Rows L2
/-- a step without a question: q is left of p -/
class Step (p : Prop) (q : outParam Prop) : Prop where
  imp : q → p
section
variable {K : PySem.W.Frag} {σ : L2.St} {H : Hp} {Q : VK} {B : Bool → Hp → Prop} {R : List V → Hp → Prop} {v x y z : V} {ta tb te td ty tx tl : TE} {ts : TA} {tt tu : TT} {t1 t2 : TS} {i j n : Nat} {nx bk ct : L2.St → Hp → Prop} {rt : VK} {r : R2} {p q d : Addr} {f : Str} {E : XK} {vs : List V}
instance : Step (tC v σ H Q) (Q v H) := ⟨s_C⟩
instance : Step (tOp r ta tb σ H Q) (ta σ H fun x H1 => tb σ H1 fun y H2 => r x y H2 Q) := ⟨s_op⟩
instance {u : V → Hp → VK → Prop} : Step (tUn u ta σ H Q) (ta σ H fun x H1 => u x H1 Q) := ⟨s_un⟩
instance : Step (tTest te σ H B) (te σ H (qB B)) := ⟨s_test⟩
instance : Step (tB te σ H B) (te σ H (qB B)) := ⟨s_tB⟩
instance {b : Bool} : Step (qB B (.bl b) H) (B b H) := ⟨r_qB⟩
instance : Step (tNot tt σ H B) (tt σ H fun c H1 => B (!c) H1) := ⟨s_not⟩
instance : Step (tAnd tt tu σ H B) (tt σ H fun c H1 => if c = true then tu σ H1 B else B false H1) := ⟨s_and⟩
instance : Step (tOr tt tu σ H B) (tt σ H fun c H1 => if c = true then B true H1 else tu σ H1 B) := ⟨s_or⟩
instance : Step (tNotV ta σ H Q) (ta σ H (qB fun c H1 => Q (.bl (!c)) H1)) := ⟨s_notV⟩
instance : Step (tNil σ H R) (R [] H) := ⟨s_nil⟩
instance : Step (tCons te ts σ H R) (te σ H fun x H1 => ts σ H1 fun xs H2 => R (x :: xs) H2) := ⟨s_cons⟩
instance : Step (tTup ts σ H Q) (ts σ H (qNew .tup Q)) := ⟨s_tup⟩
instance : Step (tLst ts σ H Q) (ts σ H (qNew .lst Q)) := ⟨s_lst⟩
instance {sp : Sp} : Step (tCall sp [] E ts σ H Q) (ts σ H fun vs H1 => sp vs H1 Q E) := ⟨s_call⟩
instance {sp : Sp} {E : L2.St → XK} : Step (tCallS sp E ts σ H Q) (ts σ H fun vs H1 => sp vs H1 Q (E σ)) := ⟨s_callS⟩
instance {c : List V → Hp → VK → Prop} : Step (tCB c ts σ H Q) (ts σ H fun vs H1 => c vs H1 Q) := ⟨s_CB⟩
instance {O : Option Int → Hp → Prop} : Step (tNoPart σ H O) (O none H) := ⟨s_noPart⟩
instance {O : Option Int → Hp → Prop} {i : Int} : Step (qPart O (.int i) H) (O (some i) H) := ⟨r_part⟩
instance {O : Option Int → Hp → Prop} : Step (tPart te σ H O) (te σ H (qPart O)) := ⟨s_part⟩
instance {c : V → Option Int → Option Int → Hp → VK → Prop} {a b : TO} : Step (tSl c te a b σ H Q) (te σ H fun x H1 => a σ H1 fun l H2 => b σ H2 fun u H3 => c x l u H3 Q) := ⟨s_sl⟩
instance : Step (tYes σ H B) (B true H) := ⟨s_yes⟩
instance : Step (tSeq t1 t2 ⟨nx, rt, bk, ct⟩ σ H) (t1 ⟨t2 ⟨nx, rt, bk, ct⟩, rt, bk, ct⟩ σ H) := ⟨s_seq⟩
instance : Step (tNext ⟨nx, rt, bk, ct⟩ σ H) (nx σ H) := ⟨s_next⟩
instance {g : TG} : Step (tAsg te g ⟨nx, rt, bk, ct⟩ σ H) (te σ H fun x H1 => g x σ H1 nx) := ⟨s_asg⟩
instance {N : L2.St → Hp → Prop} : Step (gName i v σ H N) (N (σ.set i (some v)) H) := ⟨s_gName⟩
instance : Step (tDrop te ⟨nx, rt, bk, ct⟩ σ H) (te σ H fun _ H1 => nx σ H1) := ⟨s_drop⟩
instance : Step (tRet te ⟨nx, rt, bk, ct⟩ σ H) (te σ H rt) := ⟨s_ret⟩
instance : Step (tIfS tt t1 t2 ⟨nx, rt, bk, ct⟩ σ H) (tt σ H fun b H1 => if b = true then t1 ⟨nx, rt, bk, ct⟩ σ H1 else t2 ⟨nx, rt, bk, ct⟩ σ H1) := ⟨s_ifS⟩
instance {g : Int → Int → V} {i j : Int} : Step (rI0 g (.int i) (.int j) H Q) (Q (g i j) H) := ⟨r_I0⟩
instance {g : Int → V} {i : Int} : Step (rU g (.int i) H Q) (Q (g i) H) := ⟨r_U⟩
instance {i j : Int} : Step (rEq (.int i) (.int j) H Q) (Q (.bl (decide (i = j))) H) := ⟨r_eqI⟩
instance {i j : Int} : Step (rNe (.int i) (.int j) H Q) (Q (.bl (!decide (i = j))) H) := ⟨r_neI⟩
instance {i j : Bool} : Step (rEq (.bl i) (.bl j) H Q) (Q (.bl (decide (i = j))) H) := ⟨r_eqB⟩
instance {i j : Bool} : Step (rNe (.bl i) (.bl j) H Q) (Q (.bl (!decide (i = j))) H) := ⟨r_neB⟩
instance {i j : Str} : Step (rEq (.str i) (.str j) H Q) (Q (.bl (decide (i = j))) H) := ⟨r_eqS⟩
instance {i j : Str} : Step (rNe (.str i) (.str j) H Q) (Q (.bl (!decide (i = j))) H) := ⟨r_neS⟩
instance {i j : Int} : Step (rMaxQ [.int i, .int j] H Q) (Q (.int (max i j)) H) := ⟨r_max⟩
instance {i j : Int} : Step (rMinQ [.int i, .int j] H Q) (Q (.int (min i j)) H) := ⟨r_min⟩
instance {b : Bool} : Step (rIntQ [.bl b] H Q) (Q (.int (if b then 1 else 0)) H) := ⟨r_int⟩
instance {T : String} {m : V → List V → Hp → VK → Prop} : Step (tBM K T m te ts σ H Q) (te σ H (qTy K T m ts σ Q)) := ⟨s_BM⟩
instance : Step (tFld K te f σ H Q) (te σ H (qFld K f Q)) := ⟨s_fld⟩
instance : Step (sFld K ta te f ⟨nx, rt, bk, ct⟩ σ H) (te σ H fun y H1 => ta σ H1 (qSFld K f nx σ y)) := ⟨s_sFld⟩
instance {C : Addr} {m : Str} {sp : Sp} : Step (tMeth C m sp [] E te ts σ H Q) (te σ H (qMeth C m sp E ts σ Q)) := ⟨s_meth⟩
instance {C : Addr} {sp : Sp} : Step (tMake C sp [] E ts σ H Q) (ts σ H fun vs H1 => ∀ x dx, H1 x = none → H1 dx = none → dx ≠ x → sp (.ref x :: vs) (upd (upd H1 dx (.own x)) x (.ins C dx [])) (fun v H2 => v = .non ∧ Q (.ref x) H2) E) := ⟨s_make⟩
instance : Step (tDGet td ty σ H Q) (td σ H fun x H1 => ty σ H1 fun y H2 => qDGet Q y x H2) := ⟨s_dGet⟩
instance : Step (tDIn ty td σ H Q) (ty σ H fun y H1 => td σ H1 fun x H2 => qDIn Q y x H2) := ⟨s_dIn⟩
instance : Step (tDNotIn ty td σ H Q) (ty σ H fun y H1 => td σ H1 fun x H2 => qDNotIn Q y x H2) := ⟨s_dNotIn⟩
instance : Step (sDPut td ty te ⟨nx, rt, bk, ct⟩ σ H) (te σ H fun v H1 => td σ H1 fun x H2 => ty σ H2 fun y H3 => qDPut nx σ v y x H3) := ⟨s_dPut⟩
instance {g : TG} {tb : TS} : Step (tFor (iList K tl) g tb ⟨nx, rt, bk, ct⟩ σ H) (tl σ H (qForL K g tb nx rt σ)) := ⟨s_forL⟩
instance {g : TG} {tb : TS} : Step (tFor (iRng1 ts) g tb ⟨nx, rt, bk, ct⟩ σ H) (ts σ H (qForR g tb nx rt σ)) := ⟨s_forR⟩
instance {g : TG} {tb : TS} : Step (tFor (iRev K ts) g tb ⟨nx, rt, bk, ct⟩ σ H) (ts σ H (qForV K g tb nx rt σ)) := ⟨s_forV⟩
instance {g : TG} {tb : TS} : Step (tFor (iStr te) g tb ⟨nx, rt, bk, ct⟩ σ H) (te σ H (qForS g tb nx rt σ)) := ⟨s_forS⟩
instance {g : TG} {vs : List Nat} : Step (tLc (iList K tl) g tt te vs σ H Q) (tl σ H (qLcL K g tt te vs σ Q)) := ⟨s_lcL⟩
instance {g : TG} {vs : List Nat} : Step (tLc (iRng1 ts) g tt te vs σ H Q) (ts σ H (qLcR g tt te vs σ Q)) := ⟨s_lcR⟩
instance {Nx : Hp → Prop} : Step (qLcT te σ d Nx true H) (te σ H (qAcc d Nx)) := ⟨r_lcY⟩
instance {A C : Prop} : Step (if true = true then A else C) A := ⟨iteT⟩
instance {A C : Prop} : Step (if false = true then A else C) C := ⟨iteF⟩
instance {A C : Prop} : Step (if (!true) = true then A else C) C := ⟨fun h => h⟩
instance {A C : Prop} : Step (if (!false) = true then A else C) A := ⟨fun h => h⟩
instance {x : Int} : Step (rIsi K [.int x, .ty "int"] H Q) (Q (.bl true) H) := ⟨isi_int_int⟩
instance {x : Int} : Step (rIsi K [.int x, .ty "bool"] H Q) (Q (.bl false) H) := ⟨isi_int_bool⟩
instance {x : Int} : Step (rIsi K [.int x, .ty "str"] H Q) (Q (.bl false) H) := ⟨isi_int_str⟩
instance {x : Int} : Step (rIsi K [.int x, .ty "list"] H Q) (Q (.bl false) H) := ⟨isi_int_list⟩
instance {x : Int} : Step (rIsi K [.int x, .ty "tuple"] H Q) (Q (.bl false) H) := ⟨isi_int_tuple⟩
instance {x : Int} : Step (rIsi K [.int x, .ty "dict"] H Q) (Q (.bl false) H) := ⟨isi_int_dict⟩
instance {x : Bool} : Step (rIsi K [.bl x, .ty "int"] H Q) (Q (.bl true) H) := ⟨isi_bool_int⟩
instance {x : Bool} : Step (rIsi K [.bl x, .ty "bool"] H Q) (Q (.bl true) H) := ⟨isi_bool_bool⟩
instance {x : Bool} : Step (rIsi K [.bl x, .ty "str"] H Q) (Q (.bl false) H) := ⟨isi_bool_str⟩
instance {x : Bool} : Step (rIsi K [.bl x, .ty "list"] H Q) (Q (.bl false) H) := ⟨isi_bool_list⟩
instance {x : Bool} : Step (rIsi K [.bl x, .ty "tuple"] H Q) (Q (.bl false) H) := ⟨isi_bool_tuple⟩
instance {x : Bool} : Step (rIsi K [.bl x, .ty "dict"] H Q) (Q (.bl false) H) := ⟨isi_bool_dict⟩
instance {x : Str} : Step (rIsi K [.str x, .ty "int"] H Q) (Q (.bl false) H) := ⟨isi_str_int⟩
instance {x : Str} : Step (rIsi K [.str x, .ty "bool"] H Q) (Q (.bl false) H) := ⟨isi_str_bool⟩
instance {x : Str} : Step (rIsi K [.str x, .ty "str"] H Q) (Q (.bl true) H) := ⟨isi_str_str⟩
instance {x : Str} : Step (rIsi K [.str x, .ty "list"] H Q) (Q (.bl false) H) := ⟨isi_str_list⟩
instance {x : Str} : Step (rIsi K [.str x, .ty "tuple"] H Q) (Q (.bl false) H) := ⟨isi_str_tuple⟩
instance {x : Str} : Step (rIsi K [.str x, .ty "dict"] H Q) (Q (.bl false) H) := ⟨isi_str_dict⟩
instance : Step (rIsi K [.non, .ty "int"] H Q) (Q (.bl false) H) := ⟨isi_NoneType_int⟩
instance : Step (rIsi K [.non, .ty "bool"] H Q) (Q (.bl false) H) := ⟨isi_NoneType_bool⟩
instance : Step (rIsi K [.non, .ty "str"] H Q) (Q (.bl false) H) := ⟨isi_NoneType_str⟩
instance : Step (rIsi K [.non, .ty "list"] H Q) (Q (.bl false) H) := ⟨isi_NoneType_list⟩
instance : Step (rIsi K [.non, .ty "tuple"] H Q) (Q (.bl false) H) := ⟨isi_NoneType_tuple⟩
instance : Step (rIsi K [.non, .ty "dict"] H Q) (Q (.bl false) H) := ⟨isi_NoneType_dict⟩
end
end Tm
namespace Tm
open PySem PySem.Spec PyProof.Rows L2
/-! trees: pairs of a folder and that under which it stands -/
abbrev Tr := List (Int × Int)
def enc (t : Tr) : List (Key × V) := t.map fun p => (Sum.inl p.1, .int p.2)
def lk (t : Tr) (k : Int) : Option Int := (t.find? fun p => decide (p.1 = k)).map (·.2)
def pt (t : Tr) (k v : Int) : Tr := if (lk t k).isSome = true then t.map (fun p => if p.1 = k then (p.1, v) else p) else t ++ [(k, v)]
def Nd (t : Tr) : Prop := (t.map (·.1)).Nodup
theorem key_inj {a b : Int} : ((Sum.inl a : Key) = Sum.inl b) ↔ a = b := ⟨fun e => Sum.inl.inj e, fun e => congrArg _ e⟩
theorem enc_length (t : Tr) : (enc t).length = t.length := by simp [enc]
theorem valV_enc (t : Tr) (k : Int) : valV (enc t) (Sum.inl k) = (lk t k).map V.int := by
  induction t with
  | nil => rfl
  | cons p r ih =>
    by_cases e : p.1 = k
    · rw [show enc (p :: r) = (Sum.inl p.1, V.int p.2) :: enc r from rfl, valV_pos (by rw [e])]
      simp [lk, e]
    · rw [show enc (p :: r) = (Sum.inl p.1, V.int p.2) :: enc r from rfl, valV_neg (fun z => e (key_inj.mp z)), ih]
      simp [lk, e]
theorem putK_enc (t : Tr) (k v : Int) : putK (enc t) (Sum.inl k) (.int v) = enc (pt t k v) := by
  unfold putK pt
  rw [valV_any, valV_enc]
  cases e : lk t k with
  | none => simp [enc]
  | some u =>
    simp only [Option.map_some, Option.isSome_some, if_true]
    simp only [enc, List.map_map]
    apply List.map_congr_left
    intro p _
    by_cases c : p.1 = k <;> simp [c]
theorem lk_pt (t : Tr) (k v j : Int) : lk (pt t k v) j = if j = k then some v else lk t j := by
  have h := valV_put (enc t) (Sum.inl k) (Sum.inl j) (.int v)
  rw [putK_enc, valV_enc, valV_enc] at h
  by_cases e : j = k
  · subst e
    rw [if_pos rfl] at h ⊢
    cases q : lk (pt t j v) j with
    | none => rw [q] at h; cases h
    | some u => rw [q] at h; simpa using h
  · rw [if_neg (fun z => e (key_inj.mp z))] at h
    rw [if_neg e]
    cases q : lk (pt t k v) j <;> cases q2 : lk t j <;> rw [q, q2] at h <;> simp_all
theorem lk_mem {t : Tr} {k v : Int} (h : lk t k = some v) : (k, v) ∈ t := by
  unfold lk at h
  cases q : t.find? fun p => decide (p.1 = k) with
  | none => rw [q] at h; cases h
  | some p =>
    rw [q] at h
    have e1 := List.find?_some q
    have e2 := List.mem_of_find?_eq_some q
    simp at e1 h
    subst e1 h
    exact e2
theorem lk_key {t : Tr} {k : Int} : (lk t k).isSome = true ↔ k ∈ t.map (·.1) := by
  unfold lk
  simp [List.find?_isSome]
theorem lk_of_mem {t : Tr} (hn : Nd t) {k v : Int} (h : (k, v) ∈ t) : lk t k = some v := by
  induction t with
  | nil => cases h
  | cons p r ih =>
    have hn' : p.1 ∉ r.map (·.1) ∧ Nd r := by
      have := hn
      unfold Nd at this
      rw [List.map_cons, List.nodup_cons] at this
      exact this
    rcases List.mem_cons.mp h with e | h
    · subst e
      simp [lk]
    · have ne : ¬ p.1 = k := fun e => hn'.1 (e ▸ List.mem_map.mpr ⟨(k, v), h, rfl⟩)
      have := ih hn'.2 h
      unfold lk at this ⊢
      simpa [List.find?_cons, ne] using this
theorem pt_keys (t : Tr) (k v : Int) : (pt t k v).map (·.1) = if (lk t k).isSome = true then t.map (·.1) else t.map (·.1) ++ [k] := by
  unfold pt
  by_cases e : (lk t k).isSome = true
  · rw [if_pos e, if_pos e, List.map_map]
    apply List.map_congr_left
    intro p _
    by_cases c : p.1 = k <;> simp [c]
  · rw [if_neg e, if_neg e, List.map_append]
    rfl
theorem Nd.pt {t : Tr} (h : Nd t) (k v : Int) : Nd (pt t k v) := by
  unfold Nd
  rw [pt_keys]
  split
  · exact h
  · rename_i e
    rw [List.nodup_append]
    refine ⟨h, by simp, ?_⟩
    intro a ha b hb
    simp at hb
    subst hb
    intro z
    subst z
    exact e (lk_key.mpr ha)
theorem pt_length (t : Tr) (k v : Int) : (pt t k v).length ≤ t.length + 1 := by
  have := congrArg List.length (pt_keys t k v)
  rw [List.length_map] at this
  rw [this]
  split <;> simp
/-- the way up -/
inductive Path (t : Tr) : Int → List Int → Prop where
  | top {f : Int} (h : lk t f = none) : Path t f [f]
  | step {f u : Int} {l : List Int} (h : lk t f = some u) (p : Path t u l) : Path t f (f :: l)
theorem Path.uniq {t : Tr} {f : Int} {l l' : List Int} (p : Path t f l) (p' : Path t f l') : l = l' := by
  induction p generalizing l' with
  | top h =>
    cases p' with
    | top _ => rfl
    | step h' _ => rw [h] at h'; cases h'
  | step h _ ih =>
    cases p' with
    | top h' => rw [h] at h'; cases h'
    | step h' q =>
      rw [h] at h'
      cases h'
      rw [ih q]
theorem Path.head {t : Tr} {f : Int} {l : List Int} (p : Path t f l) : ∃ r, l = f :: r := by
  cases p with
  | top _ => exact ⟨[], rfl⟩
  | step _ _ => exact ⟨_, rfl⟩
theorem Path.at {t : Tr} {f : Int} {l : List Int} (p : Path t f l) {x : Int} (hx : x ∈ l) : ∃ l2, Path t x l2 ∧ l2.length ≤ l.length ∧ (x ∈ l.tail → l2.length < l.length) ∧ ∀ y ∈ l2, y ∈ l := by
  induction p with
  | @top f h =>
    simp at hx
    subst hx
    exact ⟨_, .top h, Nat.le_refl _, fun z => by simp at z, fun _ z => z⟩
  | @step f u l h p ih =>
    by_cases e : x ∈ l
    · obtain ⟨l2, q, h1, _, h3⟩ := ih e
      exact ⟨l2, q, by simp; omega, fun _ => by simp; omega, fun y hy => List.mem_cons_of_mem _ (h3 y hy)⟩
    · rcases List.mem_cons.mp hx with rfl | hx
      · exact ⟨_, .step h p, Nat.le_refl _, fun z => (e z).elim, fun _ z => z⟩
      · exact (e hx).elim
theorem Path.nodup {t : Tr} {f : Int} {l : List Int} (p : Path t f l) : l.Nodup := by
  induction p with
  | top _ => simp
  | @step f u l h p ih =>
    refine List.nodup_cons.mpr ⟨fun hm => ?_, ih⟩
    have q := Path.step h p
    obtain ⟨l2, q2, _, h2, _⟩ := q.at (x := f) (List.mem_cons_of_mem _ hm)
    have e := q2.uniq q
    have := h2 hm
    rw [e] at this
    exact Nat.lt_irrefl _ this
theorem Path.keys {t : Tr} {f : Int} {l : List Int} (p : Path t f l) : ∀ x ∈ l.dropLast, x ∈ t.map (·.1) := by
  induction p with
  | top _ => simp
  | @step f u l h p ih =>
    obtain ⟨r, e⟩ := p.head
    subst e
    intro x hx
    rw [List.dropLast_cons₂] at hx
    rcases List.mem_cons.mp hx with rfl | hx
    · exact lk_key.mp (by rw [h]; rfl)
    · exact ih x hx
theorem le_of_subset {l m : List Int} (hn : l.Nodup) (hs : ∀ x ∈ l, x ∈ m) : l.length ≤ m.length := by
  induction l generalizing m with
  | nil => simp
  | cons a l ih =>
    have ha := hs a List.mem_cons_self
    obtain ⟨h1, h2⟩ := List.nodup_cons.mp hn
    have := ih (m := m.erase a) h2 fun x hx => (List.mem_erase_of_ne (by intro e; subst e; exact h1 hx)).mpr (hs x (List.mem_cons_of_mem _ hx))
    rw [List.length_erase_of_mem ha] at this
    have hp : 0 < m.length := List.length_pos_of_mem ha
    simp
    omega
theorem Path.length {t : Tr} {f : Int} {l : List Int} (p : Path t f l) : l.length ≤ t.length + 1 := by
  have h := le_of_subset (l := l.dropLast) (m := t.map (·.1)) (p.nodup.sublist (List.dropLast_sublist l)) p.keys
  rw [List.length_dropLast, List.length_map] at h
  omega
/-- no ring -/
def Acyc (t : Tr) : Prop := ∀ f, ∃ l, Path t f l
theorem Acyc.nil : Acyc [] := fun f => ⟨[f], .top rfl⟩
noncomputable def way (t : Tr) (f : Int) : List Int := by
  classical
  exact if h : ∃ l, Path t f l then Classical.choose h else [f]
theorem Path.way {t : Tr} {f : Int} {l : List Int} (p : Path t f l) : way t f = l := by
  have h : ∃ l, Path t f l := ⟨l, p⟩
  unfold Tm.way
  rw [dif_pos h]
  exact (Classical.choose_spec h).uniq p
theorem Acyc.path {t : Tr} (h : Acyc t) (f : Int) : Path t f (way t f) := by
  obtain ⟨l, p⟩ := h f
  rw [p.way]
  exact p
theorem Path.put {t : Tr} {f u : Int} {x : Int} {l : List Int} (p : Path t x l) (h : f ∉ l) : Path (pt t f u) x l := by
  induction p with
  | @top g hg =>
    have ne : ¬ g = f := fun e => h (by simp [e])
    exact .top (by rw [lk_pt, if_neg ne]; exact hg)
  | @step g v l hg p ih =>
    have ne : ¬ g = f := fun e => h (by simp [e])
    exact .step (u := v) (by rw [lk_pt, if_neg ne]; exact hg) (ih fun hm => h (List.mem_cons_of_mem _ hm))
theorem Acyc.put {t : Tr} (h : Acyc t) {f u : Int} (hu : f ∉ way t u) : Acyc (pt t f u) := by
  intro x
  have p := h.path x
  have pu : Path (pt t f u) u (way t u) := (h.path u).put hu
  generalize way t x = l at p
  induction p with
  | @top g hg =>
    by_cases e : g = f
    · subst e
      exact ⟨_, .step (by rw [lk_pt, if_pos rfl]) pu⟩
    · exact ⟨_, .top (by rw [lk_pt, if_neg e]; exact hg)⟩
  | @step g v l hg p ih =>
    by_cases e : g = f
    · subst e
      exact ⟨_, .step (by rw [lk_pt, if_pos rfl]) pu⟩
    · obtain ⟨l', q⟩ := ih
      exact ⟨_, .step (u := v) (by rw [lk_pt, if_neg e]; exact hg) q⟩
theorem way_length {t : Tr} (h : Acyc t) (f : Int) : (way t f).length ≤ t.length + 1 := (h.path f).length
theorem way_head {t : Tr} (h : Acyc t) (f : Int) : ∃ r, way t f = f :: r := (h.path f).head
/-- the tree behind putting -/
noncomputable def putT (t : Tr) (f u : Int) : Tr := if f ∈ way t u then t else pt t f u
theorem Acyc.putT {t : Tr} (h : Acyc t) (f u : Int) : Acyc (putT t f u) := by
  unfold Tm.putT
  split
  · exact h
  · rename_i e
    exact h.put e
theorem Nd.putT {t : Tr} (h : Nd t) (f u : Int) : Nd (putT t f u) := by
  unfold Tm.putT
  split
  · exact h
  · exact h.pt f u
theorem putT_length (t : Tr) (f u : Int) : (putT t f u).length ≤ t.length + 1 := by
  unfold putT
  split
  · omega
  · exact pt_length t f u
/-- two trees with the same content -/
def SameT (t t' : Tr) : Prop := ∀ k, lk t k = lk t' k
theorem flat_ints (l : List Int) : (l.map V.int).all flatV = true := by simp [flatV]
theorem inV_ints (x : Int) (l : List Int) : inV (.int x) (l.map V.int) = decide (x ∈ l) := by
  unfold inV
  rw [List.any_map]
  have e : ((fun y => eqV y (V.int x)) ∘ V.int) = fun y => decide (y = x) := by
    funext y
    show (y == x) = decide (y = x)
    by_cases c : y = x <;> simp [c]
  rw [e]
  by_cases c : x ∈ l
  · rw [decide_eq_true c]
    exact List.any_eq_true.mpr ⟨x, c, by simp⟩
  · rw [decide_eq_false c]
    refine List.any_eq_false.mpr fun y hy => ?_
    simp
    intro e
    exact c (e ▸ hy)
end Tm
namespace Tm
open PySem PySem.Spec PyProof.Rows L2
/-- a def that tells the way up: a new list -/
def spWay : Sp := fun vs H Q _ => ∃ (d : Addr) (t : Tr) (f : Int), vs = [.ref d, .int f] ∧ H d = some (.dK (enc t)) ∧ Acyc t ∧ t.length ≤ 100000 ∧ ∀ p, H p = none → Q (.ref p) (upd H p (.lst ((way t f).map V.int)))
def spBelow : Sp := fun vs H Q _ => ∃ (d : Addr) (t : Tr) (f o : Int), vs = [.ref d, .int f, .int o] ∧ H d = some (.dK (enc t)) ∧ Acyc t ∧ t.length ≤ 100000 ∧ ∀ H', Same H H' → Q (.bl (decide (o ∈ (way t f).tail))) H'
theorem c_way {H : Hp} {d : Addr} {t : Tr} {f : Int} {Q : VK} {E : XK} (hd : H d = some (.dK (enc t))) (hA : Acyc t) (hl : t.length ≤ 100000) (h : ∀ p, H p = none → Q (.ref p) (upd H p (.lst ((way t f).map V.int)))) : spWay [.ref d, .int f] H Q E := ⟨d, t, f, rfl, hd, hA, hl, h⟩
theorem c_below {H : Hp} {d : Addr} {t : Tr} {f o : Int} {Q : VK} {E : XK} (hd : H d = some (.dK (enc t))) (hA : Acyc t) (hl : t.length ≤ 100000) (h : ∀ H', Same H H' → Q (.bl (decide (o ∈ (way t f).tail))) H') : spBelow [.ref d, .int f, .int o] H Q E := ⟨d, t, f, o, rfl, hd, hA, hl, h⟩
theorem cut1 (xs : List V) : cutV xs (some 1) none = xs.tail := by
  unfold cutV
  rw [show HT.sIx xs.length 0 (some 1) = min 1 xs.length from HT.sIx_nat xs.length 0 1, HT.sIx_none]
  cases xs with
  | nil => rfl
  | cons x r =>
    have e : min 1 (x :: r).length = 1 := by simp
    rw [e]
    simp
def spCloses : Sp := fun vs H Q _ => ∃ (d : Addr) (t : Tr) (f u : Int), vs = [.ref d, .int f, .int u] ∧ H d = some (.dK (enc t)) ∧ Acyc t ∧ t.length ≤ 100000 ∧ ∀ H', Same H H' → Q (.bl (decide (f ∈ way t u))) H'
def spPut : Sp := fun vs H Q _ => ∃ (d : Addr) (t : Tr) (f u : Int), vs = [.ref d, .int f, .int u] ∧ H d = some (.dK (enc t)) ∧ Acyc t ∧ t.length ≤ 100000 ∧ ∀ p H', H p = none → Same H H' → H' p = some (.dK (enc (putT t f u))) → Q (.ref p) H'
theorem c_closes {H : Hp} {d : Addr} {t : Tr} {f u : Int} {Q : VK} {E : XK} (hd : H d = some (.dK (enc t))) (hA : Acyc t) (hl : t.length ≤ 100000) (h : ∀ H', Same H H' → Q (.bl (decide (f ∈ way t u))) H') : spCloses [.ref d, .int f, .int u] H Q E := ⟨d, t, f, u, rfl, hd, hA, hl, h⟩
theorem c_put {H : Hp} {d : Addr} {t : Tr} {f u : Int} {Q : VK} {E : XK} (hd : H d = some (.dK (enc t))) (hA : Acyc t) (hl : t.length ≤ 100000) (h : ∀ p H', H p = none → Same H H' → H' p = some (.dK (enc (putT t f u))) → Q (.ref p) H') : spPut [.ref d, .int f, .int u] H Q E := ⟨d, t, f, u, rfl, hd, hA, hl, h⟩
theorem putT_ring {t : Tr} {f u : Int} (h : f ∈ way t u) : putT t f u = t := if_pos h
theorem putT_put {t : Tr} {f u : Int} (h : ¬ f ∈ way t u) : putT t f u = pt t f u := if_neg h
theorem SameT.refl (t : Tr) : SameT t t := fun _ => rfl
end Tm
namespace Tm
open PySem PySem.Spec PyProof.Rows L2
/-! the laws' names of folders, and their tree -/
def some6 (i : Int) : Int := if i = 0 then 1 else if i = 1 then 1000000000 else if i = 2 then 100000000000000000000 else if i = 3 then 1000000000000000000000000000000000 else if i = 4 then 100000000000000000000000000000000000000000000000 else 1000000000000000000000000000000000000000000000000000000000
theorem lt6 {i : Int} (h0 : 0 ≤ i) (h : i < 6) : i = 0 ∨ i = 1 ∨ i = 2 ∨ i = 3 ∨ i = 4 ∨ i = 5 := by omega
theorem at6 {i : Int} (h0 : 0 ≤ i) (h : i < 6) : atI [V.int 1, .int 1000000000, .int 100000000000000000000, .int 1000000000000000000000000000000000, .int 100000000000000000000000000000000000000000000000, .int 1000000000000000000000000000000000000000000000000000000000] i = some (.int (some6 i)) := by
  rcases lt6 h0 h with e | e | e | e | e | e <;> subst e <;> rfl
def nameF (k c : Int) : Int :=
  if c % 4 = 1 then E60 - k else if c % 4 = 2 then 1 + (c / 24 + k * some6 (c / 4 % 6)) % E60 else if c % 4 = 3 then 1 + 7 * k else if c / 224 % 2 = 1 ∧ k % 2 = 1 then E60 - k else 1 + k
theorem name_pos {k c : Int} (h0 : 0 ≤ k) (h : k ≤ 1000) : 1 ≤ nameF k c := by
  unfold nameF
  repeat' split
  all_goals (try simp only [E60] at *); omega
theorem name_le {k c : Int} (h0 : 0 ≤ k) (h : k ≤ 1000) : nameF k c ≤ E60 := by
  unfold nameF
  repeat' split
  all_goals (try simp only [E60] at *); omega
theorem name_inj {k j c : Int} (h0 : 0 ≤ k) (h : k ≤ 100) (g0 : 0 ≤ j) (g : j ≤ 100) (e : nameF k c = nameF j c) : k = j := by
  unfold nameF at e
  by_cases c1 : c % 4 = 1
  · rw [if_pos c1, if_pos c1] at e
    omega
  · rw [if_neg c1, if_neg c1] at e
    by_cases c2 : c % 4 = 2
    · rw [if_pos c2, if_pos c2] at e
      generalize c / 24 = m at e
      rcases lt6 (i := c / 4 % 6) (by omega) (by omega) with i | i | i | i | i | i <;> rw [i] at e <;> simp only [some6, E60] at e <;> simp at e <;> omega
    · rw [if_neg c2, if_neg c2] at e
      by_cases c3 : c % 4 = 3
      · rw [if_pos c3, if_pos c3] at e
        omega
      · rw [if_neg c3, if_neg c3] at e
        split at e <;> split at e <;> (try simp only [E60] at e) <;> omega
def pickF (p n c : Int) : Int := if p = 0 then 0 else if p > n then nameF (n + 5) c else nameF (p - 1) c
def pickK (ns : List Int) (wide : Bool) (k : Int) : Int := if k > 8 then (if wide = true then 2 * (k % 3 % 2) else k + 1 - cellAt ns 3 % 2) else cellAt ns (3 + k) % (k + 2)
theorem pickK_range {ns : List Int} {wide : Bool} {k : Int} (h : 0 ≤ k) : 0 ≤ pickK ns wide k ∧ pickK ns wide k ≤ k + 1 := by
  unfold pickK
  repeat' split
  · omega
  · omega
  · refine ⟨Int.emod_nonneg _ (by omega), ?_⟩
    have := Int.emod_lt_of_pos (cellAt ns (3 + k)) (show 0 < k + 2 by omega)
    omega
def treeStep (ns : List Int) (wide : Bool) (c : Int) (t : Tr) (k : Nat) : Tr :=
  if pickK ns wide k = 0 then pt t (nameF k c) 0 else if pickK ns wide k > 1 then pt t (nameF k c) (nameF (pickK ns wide k - 2) c) else t
def lawTree (ns : List Int) (wide : Bool) (c : Int) : Nat → Tr
  | 0 => []
  | k + 1 => treeStep ns wide c (lawTree ns wide c k) k
/-- what is told ahead of the k-th -/
def Told (c : Int) (k : Nat) (x : Int) : Prop := ∃ j : Nat, j < k ∧ x = nameF j c
structure TreeOk (c : Int) (k : Nat) (t : Tr) : Prop where
  nd : Nd t
  ac : Acyc t
  len : t.length ≤ k
  mem : ∀ p ∈ t, Told c k p.1 ∧ (p.2 = 0 ∨ Told c k p.2)
theorem Told.mono {c : Int} {k j : Nat} {x : Int} (h : Told c k x) (e : k ≤ j) : Told c j x := by
  obtain ⟨i, hi, r⟩ := h
  exact ⟨i, by omega, r⟩
theorem Told.new {c : Int} {k : Nat} (hk : k ≤ 100) : ¬ Told c k (nameF k c) := fun ⟨j, hj, e⟩ => by
  have := name_inj (by omega) (by omega) (by omega) (by omega) e
  omega
theorem path_told {c : Int} {k : Nat} {t : Tr} (h : TreeOk c k t) {u : Int} {l : List Int} (p : Path t u l) (hu : u = 0 ∨ Told c k u) : ∀ x ∈ l, x = 0 ∨ Told c k x := by
  induction p with
  | top _ =>
    intro x hx
    simp at hx
    subst hx
    exact hu
  | step hl _ ih =>
    intro x hx
    rcases List.mem_cons.mp hx with rfl | hx
    · exact hu
    · exact ih (h.mem _ (lk_mem hl)).2 x hx
theorem lk_new {c : Int} {k : Nat} {t : Tr} (h : TreeOk c k t) (hk : k ≤ 100) : lk t (nameF k c) = none := by
  cases e : lk t (nameF k c) with
  | none => rfl
  | some v => exact (Told.new hk (h.mem _ (lk_mem e)).1).elim
theorem TreeOk.put {c : Int} {k : Nat} {t : Tr} (h : TreeOk c k t) (hk : k ≤ 100) {u : Int} (hu : u = 0 ∨ Told c k u) : TreeOk c (k + 1) (pt t (nameF k c) u) := by
  have hn := lk_new h hk
  have e : pt t (nameF k c) u = t ++ [(nameF k c, u)] := by unfold pt; rw [hn]; rfl
  refine ⟨h.nd.pt _ _, h.ac.put fun hm => ?_, ?_, ?_⟩
  · rcases path_told h (h.ac.path u) hu _ hm with z | z
    · have := name_pos (k := k) (c := c) (by omega) (by omega)
      omega
    · exact Told.new hk z
  · rw [e, List.length_append]
    have := h.len
    simp
    omega
  · rw [e]
    intro p hp
    rcases List.mem_append.mp hp with hp | hp
    · obtain ⟨h1, h2⟩ := h.mem p hp
      exact ⟨h1.mono (by omega), h2.imp id fun z => z.mono (by omega)⟩
    · simp at hp
      subst hp
      exact ⟨⟨k, by omega, rfl⟩, hu.imp id fun z => z.mono (by omega)⟩
theorem lawTree_ok (ns : List Int) (wide : Bool) (c : Int) : ∀ k : Nat, k ≤ 100 → TreeOk c k (lawTree ns wide c k)
  | 0, _ => ⟨List.nodup_nil, Acyc.nil, by simp [lawTree], by simp [lawTree]⟩
  | k + 1, hk => by
    have ih := lawTree_ok ns wide c k (by omega)
    have hr := pickK_range (ns := ns) (wide := wide) (k := (k : Int)) (by omega)
    show TreeOk c (k + 1) (treeStep ns wide c (lawTree ns wide c k) k)
    unfold treeStep
    split
    · exact ih.put (by omega) (.inl rfl)
    · split
      · refine ih.put (by omega) (.inr ⟨(pickK ns wide k - 2).toNat, by omega, ?_⟩)
        congr 1
        omega
      · exact ⟨ih.nd, ih.ac, Nat.le_succ_of_le ih.len, fun p hp => ⟨(ih.mem p hp).1.mono (by omega), (ih.mem p hp).2.imp id fun z => z.mono (by omega)⟩⟩
/-! promises -/
def spWhole1 : Sp := fun vs H Q _ => ∃ n : Int, vs = [.int n] ∧ Q (.bl true) H
def spName : Sp := fun vs H Q _ => ∃ k c : Int, vs = [.int k, .int c] ∧ 0 ≤ k ∧ k ≤ 1000 ∧ ∀ H', Same H H' → Q (.int (nameF k c)) H'
def spPick : Sp := fun vs H Q _ => ∃ p n c : Int, vs = [.int p, .int n, .int c] ∧ 0 ≤ p ∧ 0 ≤ n ∧ n ≤ 100 ∧ ∀ H', Same H H' → Q (.int (pickF p n c)) H'
def spTree (K : PySem.W.Frag) : Sp := fun vs H Q _ => ∃ (p : Addr) (ns : List Int) (n : Nat) (wide : Bool) (c : Int), vs = [.ref p, .int n, .bl wide, .int c] ∧ SqL K H p (ns.map V.int) ∧ n ≤ 100 ∧
  ∀ d H', H d = none → Same H H' → H' d = some (.dK (enc (lawTree ns wide c n))) → Q (.ref d) H'
/-- two lists of the same numbers -/
def spNumbers (K : PySem.W.Frag) : Sp := fun vs H Q _ => ∃ (p q : Addr) (l : List Int), vs = [.ref p, .ref q] ∧ H p = some (.lst (l.map V.int)) ∧ H q = some (.lst (l.map V.int)) ∧ l.length ≤ 100000 ∧ Q (.bl true) H
/-- two dicts of the same content -/
def spSameTree : Sp := fun vs H Q _ => ∃ (p q : Addr) (t t' : Tr), vs = [.ref p, .ref q] ∧ H p = some (.dK (enc t)) ∧ H q = some (.dK (enc t')) ∧ p ≠ q ∧ SameT t t' ∧ Nd t ∧ Nd t' ∧ t.length ≤ 100000 ∧ Q (.bl true) H
theorem nd_keys_len {t t' : Tr} (h : SameT t t') (hn : Nd t) (hn' : Nd t') : t.length = t'.length := by
  have a := le_of_subset (l := t.map (·.1)) (m := t'.map (·.1)) (show (t.map (·.1)).Nodup from hn) fun x hx => lk_key.mp (by rw [← h x]; exact lk_key.mpr hx)
  have b := le_of_subset (l := t'.map (·.1)) (m := t.map (·.1)) (show (t'.map (·.1)).Nodup from hn') fun x hx => lk_key.mp (by rw [h x]; exact lk_key.mpr hx)
  simp at a b
  omega
theorem same_at {H H' : Hp} {b : Addr} {o : HO} (s : Same H H') (h : H b = some o) : H' b = some o := s b o h
theorem sql_same {K : PySem.W.Frag} {H H' : Hp} {p : Addr} {xs : List V} (s : Same H H') (h : SqL K H p xs) : SqL K H' p xs := s.seq h
theorem sqt_same {K : PySem.W.Frag} {H H' : Hp} {p : Addr} {xs : List V} (s : Same H H') (h : SqT K H p xs) : SqT K H' p xs := Same.sqt s h
theorem upd_id {H : Hp} {b : Addr} {o o' : HO} (h : H b = some o) : upd (upd H b o') b o = H := by
  rw [upd_upd]
  funext x
  by_cases e : x = b
  · subst e; rw [upd_same, h]
  · rw [upd_ne e]
theorem c_tree {K : PySem.W.Frag} {H : Hp} {p : Addr} {ns : List Int} {n : Nat} {wide : Bool} {c : Int} {Q : VK} {E : XK} (hS : SqL K H p (ns.map V.int)) (hn : n ≤ 100) (h : ∀ d H', H d = none → Same H H' → H' d = some (.dK (enc (lawTree ns wide c n))) → Q (.ref d) H') : spTree K [.ref p, .int n, .bl wide, .int c] H Q E := ⟨p, ns, n, wide, c, rfl, hS, hn, h⟩
theorem c_numbers {K : PySem.W.Frag} {H : Hp} {p q : Addr} {l : List Int} {Q : VK} {E : XK} (hp : H p = some (.lst (l.map V.int))) (hq : H q = some (.lst (l.map V.int))) (hl : l.length ≤ 100000) (h : Q (.bl true) H) : spNumbers K [.ref p, .ref q] H Q E := ⟨p, q, l, rfl, hp, hq, hl, h⟩
theorem c_sametree {H : Hp} {p q : Addr} {t t' : Tr} {Q : VK} {E : XK} (hp : H p = some (.dK (enc t))) (hq : H q = some (.dK (enc t'))) (hne : p ≠ q) (hs : SameT t t') (hn : Nd t) (hn' : Nd t') (hl : t.length ≤ 100000) (h : Q (.bl true) H) : spSameTree [.ref p, .ref q] H Q E := ⟨p, q, t, t', rfl, hp, hq, hne, hs, hn, hn', hl, h⟩
theorem c_whole1 {H : Hp} {n : Int} {Q : VK} {E : XK} (h : Q (.bl true) H) : spWhole1 [.int n] H Q E := ⟨n, rfl, h⟩
theorem c_name {H : Hp} {k c : Int} {Q : VK} {E : XK} (h0 : 0 ≤ k) (hk : k ≤ 1000) (h : ∀ H', Same H H' → Q (.int (nameF k c)) H') : spName [.int k, .int c] H Q E := ⟨k, c, rfl, h0, hk, h⟩
theorem c_pick {H : Hp} {p n c : Int} {Q : VK} {E : XK} (h0 : 0 ≤ p) (hn : 0 ≤ n) (hn2 : n ≤ 100) (h : ∀ H', Same H H' → Q (.int (pickF p n c)) H') : spPick [.int p, .int n, .int c] H Q E := ⟨p, n, c, rfl, h0, hn, hn2, h⟩
end Tm
namespace Tm
open PySem PySem.Spec PyProof.Rows L2
section
variable {K : PySem.W.Frag} {σ : L2.St} {H : Hp} {Q : VK} {te : TE} {tt : TT} {tb : TS} {i j : Nat} {nx bk ct : L2.St → Hp → Prop} {rt : VK} {d : Addr} {t : Tr}
/-- for k in a dict: the dict is locked meanwhile -/
theorem r_forK (e : σ[i]? = some (some (.ref d))) (hd : H d = some (.dK (enc t))) (Pv : Obj → Nat → L2.St → Hp → Prop) (h0 : ∀ od, Pv od 0 σ (upd H d (.frz od (.dK (enc t))))) (hl : ∀ od i σ H, Pv od i σ H → H d = some (.frz od (.dK (enc t))))
    (hs : ∀ od i p σ H, t[i]? = some p → Pv od i σ H → tb ⟨Pv od (i + 1), fun v H' => H' d = some (.frz od (.dK (enc t))) ∧ rt v (upd H' d (.dK (enc t))), fun σ' H' => H' d = some (.frz od (.dK (enc t))) ∧ nx σ' (upd H' d (.dK (enc t))), Pv od (i + 1)⟩ (σ.set j (some (.int p.1))) H)
    (hn : ∀ od σ H, Pv od t.length σ H → nx σ (upd H d (.dK (enc t)))) : tLock (tFor (iKeys (tVar i)) (gName j) tb) ⟨nx, rt, bk, ct⟩ σ H := by
  refine ⟨d, _, hd, trivial, fun od => ?_⟩
  refine ⟨_, e, d, od, rfl, .inl ⟨enc t, upd_same, ?_⟩⟩
  refine ⟨fun i m σ H => m = t.length - i ∧ i ≤ t.length ∧ Pv od i σ H, ⟨t.length, by simp, Nat.zero_le _, h0 od⟩, ?_⟩
  rintro i m σ H ⟨rfl, hi, q⟩
  have hq := hl od i σ H q
  by_cases hlt : i < t.length
  · refine .inr ⟨⟨hq, by rw [enc_length]; exact hlt⟩, Pv od (i + 1), fun σ' H' p' => ⟨t.length - (i + 1), by omega, rfl, hlt, p'⟩, fun x H' y => ?_⟩
    obtain ⟨eH, k, v, e1, e2⟩ := y
    subst eH
    have et : t[i]? = some t[i] := List.getElem?_eq_getElem hlt
    have e3 : (enc t)[i]? = some (Sum.inl t[i].1, V.int t[i].2) := by
      unfold enc
      rw [List.getElem?_map, et]
      rfl
    rw [e3] at e1
    cases e1
    subst e2
    exact hs od i t[i] σ _ et q
  · have e : i = t.length := by omega
    subst e
    exact .inl ⟨⟨hq, by rw [enc_length]; exact Nat.le_refl _⟩, hq, hn od σ H q⟩
def qLocked (d : Addr) (od : Obj) (u : HO) (Q : VK) : VK := fun v H' => H' d = some (.frz od u) ∧ Q v (upd H' d u)
/-- [.. for k in a dict] -/
theorem r_lcK (e : σ[i]? = some (some (.ref d))) (hd : H d = some (.dK (enc t))) (Pv : Obj → Addr → Nat → Hp → Prop) (h0 : ∀ od D, H D = none → D ≠ d → Pv od D 0 (upd (upd H d (.frz od (.dK (enc t)))) D (.lst []))) (hl : ∀ od D i H, Pv od D i H → H d = some (.frz od (.dK (enc t))))
    (hs : ∀ od D i p H, t[i]? = some p → Pv od D i H → tt ((σ.set j none).set j (some (.int p.1))) H (qLcT te ((σ.set j none).set j (some (.int p.1))) D (Pv od D (i + 1))))
    (hn : ∀ od D H, Pv od D t.length H → Q (.ref D) (upd H d (.dK (enc t)))) : tLockE (tLc (iKeys (tVar i)) (gName j) tt te [j]) σ H Q := by
  refine ⟨d, _, hd, trivial, fun od => ?_⟩
  refine ⟨_, e, d, od, rfl, .inl ⟨enc t, upd_same, ?_⟩⟩
  intro D nD
  obtain ⟨nD, neD⟩ := new_free nD
  refine ⟨fun i m H => m = t.length - i ∧ i ≤ t.length ∧ Pv od D i H, ⟨t.length, by simp, Nat.zero_le _, h0 od D nD neD⟩, ?_⟩
  rintro i m H ⟨rfl, hi, q⟩
  have hq := hl od D i H q
  by_cases hlt : i < t.length
  · refine .inr ⟨⟨hq, by rw [enc_length]; exact hlt⟩, Pv od D (i + 1), fun H' p' => ⟨t.length - (i + 1), by omega, rfl, hlt, p'⟩, fun x H' y => ?_⟩
    obtain ⟨eH, k, v, e1, e2⟩ := y
    subst eH
    have et : t[i]? = some t[i] := List.getElem?_eq_getElem hlt
    have e3 : (enc t)[i]? = some (Sum.inl t[i].1, V.int t[i].2) := by
      unfold enc
      rw [List.getElem?_map, et]
      rfl
    rw [e3] at e1
    cases e1
    subst e2
    refine ⟨?_, hs od D i t[i] _ et q⟩
    show (((σ.set j none).set j (some _)).set j none) = σ.set j none
    rw [List.set_set, List.set_set]
  · have e : i = t.length := by omega
    subst e
    exact .inl ⟨⟨hq, by rw [enc_length]; exact Nat.le_refl _⟩, hq, hn od D H q⟩
end
theorem iteNT {A B : Prop} (h : B) : if (!true) = true then A else B := h
theorem iteNF {A B : Prop} (h : A) : if (!false) = true then A else B := h
theorem nd_f {p : Prop} [Decidable p] (h : p) : (!decide p) = false := by rw [decide_eq_true h]; rfl
theorem nd_t {p : Prop} [Decidable p] (h : ¬ p) : (!decide p) = true := by rw [decide_eq_false h]; rfl
theorem d_t {p : Prop} [Decidable p] (h : p) : decide p = true := decide_eq_true h
theorem d_f {p : Prop} [Decidable p] (h : ¬ p) : decide p = false := decide_eq_false h
/-! lists of numbers -/
def cutL {α : Type} (xs : List α) (lo hi : Option Int) : List α := (xs.drop (HT.sIx xs.length 0 lo)).take (HT.sIx xs.length xs.length hi - HT.sIx xs.length 0 lo)
theorem cutV_map {α : Type} (f : α → V) (xs : List α) (lo hi : Option Int) : cutV (xs.map f) lo hi = (cutL xs lo hi).map f := by
  unfold cutV cutL
  rw [List.length_map, List.map_take, List.map_drop]
theorem cutL_tail {α : Type} (xs : List α) : cutL xs (some 1) none = xs.tail := by
  unfold cutL
  rw [show HT.sIx xs.length 0 (some 1) = min 1 xs.length from HT.sIx_nat xs.length 0 1, HT.sIx_none]
  cases xs with
  | nil => rfl
  | cons x r =>
    have e : min 1 (x :: r).length = 1 := by simp
    rw [e]
    simp
theorem r_slI {K : PySem.W.Frag} {H : Hp} {Q : VK} {p : Addr} {xs : List Int} {lo hi : Option Int} (hs : SqL K H p (xs.map V.int)) (h : ∀ l, H l = none → Q (.ref l) (upd H l (.lst ((cutL xs lo hi).map V.int)))) : rSlL K (.ref p) lo hi H Q := r_slL hs (by rw [cutV_map]; exact h)
theorem r_inI {K : PySem.W.Frag} {H : Hp} {Q : VK} {p : Addr} {xs : List Int} {x : Int} (hs : SqL K H p (xs.map V.int)) (h : Q (.bl (decide (x ∈ xs))) H) : rIn K false (.int x) (.ref p) H Q := r_in hs rfl (flat_ints _) (by rw [inV_ints]; exact h)
theorem r_ninI {K : PySem.W.Frag} {H : Hp} {Q : VK} {p : Addr} {xs : List Int} {x : Int} (hs : SqL K H p (xs.map V.int)) (h : Q (.bl (!decide (x ∈ xs))) H) : rIn K true (.int x) (.ref p) H Q := r_nin hs rfl (flat_ints _) (by rw [inV_ints]; exact h)
theorem ne_new {H : Hp} {p q : Addr} {o : HO} (hp : Fresh H p) (hq : H q = some o) : p ≠ q := (ne_of_none hq hp).symm
theorem ne_new' {H : Hp} {p q : Addr} {o : HO} (hp : Fresh H p) (hq : H q = some o) : q ≠ p := ne_of_none hq hp
theorem keepR {H : Hp} {p q : Addr} {o o' : HO} (hp : Fresh H p) (hq : H q = some o') : upd H p o q = some o' := keep hq hp
theorem keep_neR {H : Hp} {p q : Addr} {o o' : HO} (hp : q ≠ p) (hq : H q = some o') : upd H p o q = some o' := keep_ne hq hp
theorem sql_keepR {K : PySem.W.Frag} {H : Hp} {p a : Addr} {o : HO} {xs : List V} (hp : Fresh H p) (h : SqL K H a xs) : SqL K (upd H p o) a xs := sql_keep h hp
theorem sqt_keepR {K : PySem.W.Frag} {H : Hp} {p a : Addr} {o : HO} {xs : List V} (hp : Fresh H p) (h : SqT K H a xs) : SqT K (upd H p o) a xs := sqt_keep h hp
theorem r_dPutI {nx : L2.St → Hp → Prop} {σ : L2.St} {H : Hp} {d : Addr} {t : Tr} {k v : Int} (hs : H d = some (.dK (enc t))) (hl : t.length ≤ 1000000) (h : nx σ (upd H d (.dK (enc (pt t k v))))) : qDPut nx σ (.int v) (.int k) (.ref d) H := r_dPut hs (by rw [enc_length]; exact lt_line hl) (by rw [putK_enc]; exact h)
theorem sm_new {H0 H : Hp} {p : Addr} {o : HO} (hp : Fresh H p) (s : Same H0 H) : Same H0 (upd H p o) := Same.new s hp
theorem sm_mut {H0 H : Hp} {p : Addr} {o : HO} (hp : Fresh H0 p) (s : Same H0 H) : Same H0 (upd H p o) := Same.mut s hp
theorem sm_trans {H0 H H' : Hp} (h : Same H H') (s : Same H0 H) : Same H0 H' := s.trans h
theorem Fresh.back {H H' : Hp} {p : Addr} (h : Fresh H' p) (s : Same H H') : Fresh H p := s.free h
def qLcU (K : PySem.W.Frag) (g : TG) (tt : TT) (te : TE) (vs : List Nat) (σ : L2.St) (Q : VK) : VK := fun x H1 => ∃ a, x = .ref a ∧ (∃ xs, SqT K H1 a xs) ∧ qLc (Itt K a).go (Itt K a).stop (Itt K a).yld g tt te vs σ Q H1
instance {K : PySem.W.Frag} {σ : L2.St} {H : Hp} {Q : VK} {te tl : TE} {tt : TT} {g : TG} {vs : List Nat} : Step (tLc (iTup K tl) g tt te vs σ H Q) (tl σ H (qLcU K g tt te vs σ Q)) := ⟨fun h => h⟩
theorem r_lcU {K : PySem.W.Frag} {σ : L2.St} {H : Hp} {Q : VK} {te : TE} {tt : TT} {j : Nat} {p : Addr} {xs : List V} (Pv : Addr → Nat → Hp → Prop) (h0 : ∀ D, H D = none → Pv D 0 (upd H D (.lst []))) (hx : SqT K H p xs) (hl : ∀ D i H, i ≤ xs.length → Pv D i H → SqT K H p xs)
    (hs : ∀ D i x H, xs[i]? = some x → Pv D i H → tt ((σ.set j none).set j (some x)) H (qLcT te ((σ.set j none).set j (some x)) D (Pv D (i + 1)))) (hd : ∀ D H, Pv D xs.length H → Q (.ref D) H) : qLcU K (gName j) tt te [j] σ Q (.ref p) H :=
  ⟨p, rfl, ⟨xs, hx⟩, fun D nD => lc_tup (K := K) (Pv D) (h0 D nD) (hl D) (fun i x H hi q => ⟨by
    show (((σ.set j none).set j (some x)).set j none) = σ.set j none
    rw [List.set_set, List.set_set], hs D i x H hi q⟩) (hd D)⟩
theorem r_cut {t u : TS} {nx bk ct : L2.St → Hp → Prop} {rt : VK} {σ : L2.St} {H : Hp} (Mid : L2.St → Hp → Prop) (h : t ⟨Mid, rt, bk, ct⟩ σ H) (h2 : ∀ σ' H', Mid σ' H' → u ⟨nx, rt, bk, ct⟩ σ' H') : Evl.tCut t u ⟨nx, rt, bk, ct⟩ σ H := ⟨Mid, h, h2⟩
instance {to ti : TE} {t : TSet} {v : V} {σ : L2.St} {H : Hp} {N : L2.St → Hp → Prop} : Step (gSub to ti t v σ H N) (to σ H fun o H1 => ti σ H1 fun i H2 => t o i v H2 fun H3 => N σ H3) := ⟨fun h => h⟩
theorem r_setL {p : Addr} {xs : List V} {k : Int} {v : V} {H : Hp} {Q : Hp → Prop} (hs : H p = some (.lst xs)) (h0 : 0 ≤ k ∧ k < xs.length) (h : Q (upd H p (.lst (xs.set k.toNat v)))) : rSetL (.ref p) (.int k) v H Q := ⟨p, xs, k, k.toNat, rfl, rfl, hs, by
  unfold ixN
  rw [if_pos h0.1, if_pos h0.2], h⟩
end Tm
namespace Tm
open PySem PySem.Spec PyProof.Rows L2
/-! moves -/
/-- a thing of a kind that isinstance knows -/
def KnownV (H : Hp) : V → Prop
  | .int _ => True
  | .bl _ => True
  | .str _ => True
  | .non => True
  | .ref a => (∃ xs, H a = some (.lst xs)) ∨ (∃ xs, H a = some (.tup xs)) ∨ ∃ kvs, H a = some (.dK kvs)
  | _ => False
theorem KnownV.same {H H' : Hp} {x : V} (s : Same H H') (h : KnownV H x) : KnownV H' x := by
  cases x <;> try exact h
  rename_i a
  rcases h with ⟨xs, h⟩ | ⟨xs, h⟩ | ⟨xs, h⟩
  · exact .inl ⟨xs, s _ _ h⟩
  · exact .inr (.inl ⟨xs, s _ _ h⟩)
  · exact .inr (.inr ⟨xs, s _ _ h⟩)
theorem KnownV.lst {H : Hp} {x : V} {l : Addr} {xs : List V} (h : KnownV H x) : KnownV (upd H l (.lst xs)) x := by
  cases x <;> try exact h
  rename_i a
  by_cases e : a = l
  · subst e
    exact .inl ⟨xs, upd_same⟩
  · show (∃ ys, upd H l (.lst xs) a = some (.lst ys)) ∨ (∃ ys, upd H l (.lst xs) a = some (.tup ys)) ∨ ∃ kvs, upd H l (.lst xs) a = some (.dK kvs)
    rw [upd_ne e]
    exact h
def isW (x : V) (l : Int) : Bool := match x with
  | .int n => decide (l ≤ n) && decide (n ≤ E60)
  | _ => false
def moveB : List V → Bool
  | [t, h, f, u] => isW t 1 && (isW h 0 && (isW f 1 && isW u 0))
  | _ => false
theorem moveB_len {xs : List V} (h : xs.length ≠ 4) : moveB xs = false := by
  match xs, h with
  | [], _ => rfl
  | [_], _ => rfl
  | [_, _], _ => rfl
  | [_, _, _], _ => rfl
  | [_, _, _, _], h => exact (h rfl).elim
  | _ :: _ :: _ :: _ :: _ :: _, _ => rfl
def spWhole : Sp := fun vs H Q _ => ∃ (x : V) (l : Int), vs = [x, .int l] ∧ KnownV H x ∧ Q (.bl (isW x l)) H
def spIsMove : Sp := fun vs H Q _ => ∃ x : V, vs = [x] ∧ ((∃ (p : Addr) (xs : List V), x = .ref p ∧ H p = some (.tup xs) ∧ (∀ y ∈ xs, KnownV H y) ∧ Q (.bl (moveB xs)) H) ∨ (KnownV H x ∧ (∀ p xs, x = .ref p → H p ≠ some (.tup xs)) ∧ Q (.bl false) H))
theorem c_whole {H : Hp} {x : V} {l : Int} {Q : VK} {E : XK} (hx : KnownV H x) (h : Q (.bl (isW x l)) H) : spWhole [x, .int l] H Q E := ⟨x, l, rfl, hx, h⟩
theorem c_isMove {H : Hp} {p : Addr} {xs : List V} {Q : VK} {E : XK} (hp : H p = some (.tup xs)) (hx : ∀ y ∈ xs, KnownV H y) (h : Q (.bl (moveB xs)) H) : spIsMove [.ref p] H Q E := ⟨_, rfl, .inl ⟨p, xs, rfl, hp, hx, h⟩⟩
theorem c_isMoveN {H : Hp} {x : V} {Q : VK} {E : XK} (hx : KnownV H x) (hn : ∀ p xs, x = .ref p → H p ≠ some (.tup xs)) (h : Q (.bl false) H) : spIsMove [x] H Q E := ⟨_, rfl, .inr ⟨hx, hn, h⟩⟩
/-- each part where it may be -/
def goodL : List V → Int → Bool
  | [], _ => true
  | x :: r, k => isW x (1 - k % 2) && goodL r (k + 1)
theorem goodL_snoc (y : V) : ∀ (xs : List V) (k : Int), goodL (xs ++ [y]) k = (goodL xs k && isW y (1 - (k + xs.length) % 2))
  | [], k => by simp [goodL]
  | x :: r, k => by
    show (isW x (1 - k % 2) && goodL (r ++ [y]) (k + 1)) = _
    rw [goodL_snoc y r (k + 1)]
    have e : k + 1 + (r.length : Int) = k + ((x :: r).length : Int) := by simp; omega
    rw [e]
    simp [goodL, Bool.and_assoc]
theorem goodL_four {xs : List V} (h : xs.length = 4) : goodL xs 0 = moveB xs := by
  match xs, h with
  | [_, _, _, _], _ => simp [goodL, moveB]
def spPart : Sp := fun vs H Q _ => ∃ c l : Int, vs = [.int c, .int l] ∧ (l = 0 ∨ l = 1) ∧ ∀ x H', Same H H' → KnownV H' x → Q x H'
theorem c_part {H : Hp} {c l : Int} {Q : VK} {E : XK} (hl : l = 0 ∨ l = 1) (h : ∀ x H', Same H H' → KnownV H' x → Q x H') : spPart [.int c, .int l] H Q E := ⟨c, l, rfl, hl, h⟩
end Tm
namespace Tm
open PySem PySem.Spec PyProof.Rows L2 TL
/-! texts and errors -/
def tRaiseQ (C : Addr) (E : XK) : TS := fun _ _ H => E (.ref C) none H
theorem ps_raiseQ {X : Cx} {E : XK} {C : Addr} {x m : Str} {j : Nat} {p p2 pos pos2 : Pos} (hc : X.calm = true) (tk : Takes X (fun cls d _ H => E cls d H)) (q : PySem.W.excIn X.K C [.type "ValueError", .type "Exception", .type "BaseException", .type "object"] "ValueError.__new__" = true) (gC : X.mg x = some (.ref C)) (kC : PySem.W.keepIn X.K (.ref C) = true)
    (hb : PySem.W.subIn X.K (.ref C) (.type "BaseException") = some true) (ht : PySem.W.typeIn X.K (.ref C) = some (.type "type")) (hg : Gl X x := by rfl) (hdb : (x == ("__debug__" : Str)) = false := by decide) :
    PS X (.Raise (some (.Call (.Name x p) [.Constant (.str m) j p2] [] pos)) none pos2) (tRaiseQ C E) := ps_raise hc tk (pmk_own PySem.F.excBase_ValueError q gC kC (raises_own hb ht) hg hdb)
section
variable {K : PySem.W.Frag} {σ : L2.St} {H : Hp} {Q : VK} {te to : TE} {nx bk ct : L2.St → Hp → Prop} {rt : VK} {E : XK} {C : Addr} {j : Nat} {y z : Str}
instance : Step (tRaiseQ C E ⟨nx, rt, bk, ct⟩ σ H) (E (.ref C) none H) := ⟨fun h => h⟩
def rInSQ : R2 := fun x y H Q => ∃ (c : Nat) (z : Str), x = .str ⟨#[c]⟩ ∧ y = .str z ∧ Q (.bl (decide (c ∈ tl z))) H
def rNotInSQ : R2 := fun x y H Q => ∃ (c : Nat) (z : Str), x = .str ⟨#[c]⟩ ∧ y = .str z ∧ Q (.bl (!decide (c ∈ tl z))) H
theorem op_inSQ {X : Cx} : OpR X (compareOp .In) rInSQ := op_in_sign
theorem op_notInSQ {X : Cx} : OpR X (compareOp .NotIn) rNotInSQ := op_notIn_sign
instance {c : Nat} : Step (rInSQ (.str ⟨#[c]⟩) (.str z) H Q) (Q (.bl (decide (c ∈ tl z))) H) := ⟨fun h => ⟨c, z, rfl, rfl, h⟩⟩
instance {c : Nat} : Step (rNotInSQ (.str ⟨#[c]⟩) (.str z) H Q) (Q (.bl (!decide (c ∈ tl z))) H) := ⟨fun h => ⟨c, z, rfl, rfl, h⟩⟩
def rAddSQ : R2 := fun x y H Q => ∃ i j, x = .str i ∧ y = .str j ∧ i.length + j.length ≤ sizeLine ∧ Q (.str (i ++ j)) H
theorem op_addSQ {X : Cx} : OpR X (binaryOp .Add) rAddSQ := op_add_str
theorem r_addS (hl : y.length + z.length ≤ 1000000) (h : Q (.str (y ++ z)) H) : rAddSQ (.str y) (.str z) H Q := ⟨y, z, rfl, rfl, Nat.le_trans hl (by decide), h⟩
def rLenSQ : List V → Hp → VK → Prop := fun xs H Q => ∃ z : Str, xs = [.str z] ∧ z.length ≤ sizeLine ∧ Q (.int z.length) H
theorem call_lenSQ {X : Cx} : CallR X (.builtin "len") rLenSQ := call_len_str
theorem r_lenS (hl : z.length ≤ 1000000) (h : Q (.int z.length) H) : rLenSQ [.str z] H Q := ⟨z, rfl, Nat.le_trans hl (by decide), h⟩
def rStrQ : List V → Hp → VK → Prop := fun xs H Q => ∃ i, xs = [.int i] ∧ i.natAbs.log2 < 1920 ∧ Q (.str (toString i)) H
theorem call_strQ {X : Cx} : CallR X (.type "str") rStrQ := call_str_int
theorem r_str {n : Nat} (hl : n.log2 < 1920) (h : Q (.str (Str.ofString (toString (n : Int)))) H) : rStrQ [.int (n : Int)] H Q := ⟨n, rfl, by rw [Int.natAbs_natCast]; exact hl, h⟩
def rIntSQ : List V → Hp → VK → Prop := fun xs H Q => ∃ a n, xs = [.str a] ∧ PySem.intText? a = some n ∧ a.length ≤ 640 ∧ Q (.int n) H
theorem call_intSQ {X : Cx} : CallR X (.type "int") rIntSQ := call_int_str
theorem r_intS {n : Int} (e : PySem.intText? z = some n) (hl : z.length ≤ 640) (h : Q (.int n) H) : rIntSQ [.str z] H Q := ⟨z, n, rfl, e, hl, h⟩
theorem r_ixS {i : Int} {c : Nat} (hl : z.length ≤ 1000000) (ha : atI (tl z) i = some c) (h : Q (.str ⟨#[c]⟩) H) : rIxS (.str z) (.int i) H Q := ⟨z, i, c, rfl, rfl, Nat.le_trans hl (by decide), ha, h⟩
theorem r_slS {lo hi : Option Int} (hl : z.length ≤ 1000000) (h : Q (.str (cutS z lo hi)) H) : rSlS (.str z) lo hi H Q := ⟨z, rfl, Nat.le_trans hl (by decide), h⟩
def rSplitQ : V → List V → Hp → VK → Prop := fun x xs H Q => ∃ a b, x = .str a ∧ xs = [.str b] ∧ (b.length == 0) = false ∧ a.length + 2 ≤ sizeLine ∧ rNewStrs (Txt.split a b) H Q
def qStr (m : V → List V → Hp → VK → Prop) (te : TE) (σ : L2.St) (Q : VK) : VK := fun x H1 => (∃ a, x = .str a) ∧ te σ H1 fun y H2 => m x [y] H2 Q
instance {m : V → List V → Hp → VK → Prop} : Step (tM1 m to te σ H Q) (to σ H (qStr m te σ Q)) := ⟨fun h => h⟩
instance {m : V → List V → Hp → VK → Prop} : Step (qStr m te σ Q (.str z) H) (te σ H fun y H2 => m (.str z) [y] H2 Q) := ⟨fun h => ⟨⟨z, rfl⟩, h⟩⟩
theorem pe_splitQ {X : Cx} {e o : Expr} {apos pos : Pos} (ho : PE X o to) (he : PE X e te) (hs : starEach [e] X.env = [(false, eval e X.env)] := by rfl) (hbase : attributeBase o "split" X.env (eval o X.env) = eval o X.env := by rfl) (hline : (apos.endLine == pos.line) = true := by rfl) :
    PE X (.Call (.Attribute o "split" apos) [e] [] pos) (tM1 rSplitQ to te) := pe_split ho he hs hbase hline
theorem r_split (hb : (y.length == 0) = false) (hl : z.length ≤ 1000000) (h : ∀ p, H p = none → Q (.ref p) (upd H p (.lst ((Txt.split z y).map V.str)))) : rSplitQ (.str z) [.str y] H Q := ⟨z, y, rfl, rfl, hb, Nat.le_trans (Nat.add_le_add_right hl 2) (by decide), h⟩
def rJoinQ (K : PySem.W.Frag) : V → List V → Hp → VK → Prop := fun x xs H Q => ∃ a p, ∃ ys : List Str, x = .str a ∧ xs = [.ref p] ∧ (SqL K H p (ys.map V.str) ∨ SqT K H p (ys.map V.str)) ∧ (ys.map (·.length)).sum + ys.length * a.length ≤ 16777216 ∧ Q (.str (Txt.join a ys)) H
theorem pe_joinQ {X : Cx} {e o : Expr} {apos pos : Pos} (ho : PE X o to) (he : PE X e te) (hs : starEach [e] X.env = [(false, eval e X.env)] := by rfl) (hbase : attributeBase o "join" X.env (eval o X.env) = eval o X.env := by rfl) (hline : (apos.endLine == pos.line) = true := by rfl) :
    PE X (.Call (.Attribute o "join" apos) [e] [] pos) (tM1 (rJoinQ X.K) to te) := pe_join ho he hs hbase hline
theorem r_join {p : Addr} {ys : List Str} (hs : SqL K H p (ys.map V.str)) (hl : (ys.map (·.length)).sum + ys.length * z.length ≤ 16777216) (h : Q (.str (Txt.join z ys)) H) : rJoinQ K (.str z) [.ref p] H Q := ⟨z, p, ys, rfl, rfl, .inl hs, hl, h⟩
/-- for c in a text -/
theorem r_forS {tb : TS} (Pv : Nat → L2.St → Hp → Prop) (h0 : Pv 0 σ H) (hs : ∀ i c σ H, (tl z)[i]? = some c → Pv i σ H → tb ⟨Pv (i + 1), rt, nx, Pv (i + 1)⟩ (σ.set j (some (.str ⟨#[c]⟩))) H) (hd : ∀ σ H, Pv z.length σ H → nx σ H) : qForS (gName j) tb nx rt σ (.str z) H := by
  refine ⟨z, rfl, fun i m σ H => m = z.length - i ∧ i ≤ z.length ∧ Pv i σ H, ⟨z.length, by simp, Nat.zero_le _, h0⟩, ?_⟩
  rintro i m σ H ⟨rfl, hi, q⟩
  by_cases hlt : i < z.length
  · refine .inr ⟨hlt, Pv (i + 1), fun σ' H' p' => ⟨z.length - (i + 1), by omega, rfl, hlt, p'⟩, fun x H' y => ?_⟩
    obtain ⟨eH, c, e1, e2⟩ := y
    subst eH
    subst e2
    refine hs i c σ _ ?_ q
    show z.cps.toList[i]? = some c
    rw [Array.getElem?_toList]
    exact e1
  · have e : i = z.length := by omega
    subst e
    exact .inl ⟨Nat.le_refl _, hd σ H q⟩
end
theorem tl_length (z : Str) : (tl z).length = z.length := by
  show z.cps.toList.length = z.cps.size
  simp
/-- a word that is a number written -/
def OkW (z : Str) : Prop := NumText.AllDigits (tl z) ∧ tl z ≠ [] ∧ ¬ (1 < z.length ∧ (tl z).head? = some 48) ∧ z.length ≤ 61
def numV (z : Str) : Int := ((NumText.digitsVal (tl z) : Nat) : Int)
theorem numV_text {z : Str} (h : OkW z) : PySem.intText? z = some (numV z) := PySem.intText_digits h.1 h.2.1 (by have := h.2.2.2; omega)
theorem numV_nonneg (z : Str) : 0 ≤ numV z := by unfold numV; omega
theorem fig_mem {c : Nat} : c ∈ tl ("0123456789" : Str) ↔ 48 ≤ c ∧ c ≤ 57 := by
  have e : tl ("0123456789" : Str) = [48, 49, 50, 51, 52, 53, 54, 55, 56, 57] := by decide +kernel
  rw [e]
  simp
  omega
def spNum (C : Addr) : Sp := fun vs H Q E => ∃ z : Str, vs = [.str z] ∧ z.length ≤ 100000 ∧ (OkW z → Q (.int (numV z)) H) ∧ (¬ OkW z → E (.ref C) none H)
theorem one_zero {c : Nat} : ((⟨#[c]⟩ : Str) = "0") ↔ c = 48 := by
  have e : ("0" : Str) = ⟨#[48]⟩ := by decide +kernel
  rw [e]
  constructor
  · intro h
    injection h with h
    injection h with h
    injection h
  · intro h
    rw [h]
theorem c_num {C : Addr} {H : Hp} {z : Str} {Q : VK} {E : XK} (hl : z.length ≤ 100000) (h : OkW z → Q (.int (numV z)) H) (h2 : ¬ OkW z → E (.ref C) none H) : spNum C [.str z] H Q E := ⟨z, rfl, hl, h, h2⟩
/-- a line that is read: its words, each a number, in their bounds -/
def LineOk (z : Str) : Prop := ∃ w1 w2 w3 w4 : Str, Txt.split z " " = [w1, w2, w3, w4] ∧ OkW w1 ∧ OkW w2 ∧ OkW w3 ∧ OkW w4 ∧ 1 ≤ numV w1 ∧ 1 ≤ numV w3 ∧ numV w1 ≤ E60 ∧ numV w2 ≤ E60 ∧ numV w3 ≤ E60 ∧ numV w4 ≤ E60
def spRead (C : Addr) : Sp := fun vs H Q E => ∃ z : Str, vs = [.str z] ∧ z.length ≤ 10000 ∧
  (∀ w1 w2 w3 w4 p H', Txt.split z " " = [w1, w2, w3, w4] → LineOk z → H p = none → Same H H' → H' p = some (.tup [.int (numV w1), .int (numV w2), .int (numV w3), .int (numV w4)]) → Q (.ref p) H') ∧ (¬ LineOk z → ∀ H', Same H H' → E (.ref C) none H')
theorem joinL_le {S : List Nat} {p : List Nat} : ∀ {parts : List (List Nat)}, p ∈ parts → p.length ≤ (joinL S parts).length
  | [q], h => by
    rw [List.mem_singleton.mp h]
    exact Nat.le_refl _
  | q :: r :: t, h => by
    show p.length ≤ (q ++ (S ++ joinL S (r :: t))).length
    rw [List.length_append, List.length_append]
    rcases List.mem_cons.mp h with rfl | h
    · omega
    · have := joinL_le (S := S) h
      omega
theorem split_le {z y w : Str} (h : w ∈ Txt.split z y) : w.length ≤ z.length := by
  have e := PySem.StrLaws.join_split z y
  have e2 := congrArg tl e
  rw [tl_join] at e2
  have := joinL_le (S := tl y) (p := tl w) (List.mem_map.mpr ⟨w, h, rfl⟩)
  rw [e2, tl_length, tl_length] at this
  exact this
def txt (n : Int) : Str := Str.ofString (toString n)
theorem tl_txt {n : Int} (h : 0 ≤ n) : tl (txt n) = numL n.toNat := by
  have e : n = ((n.toNat : Nat) : Int) := by omega
  rw [e]
  exact tl_num n.toNat
theorem lt_pow {n : Nat} (h : n ≤ 1000000000000000000000000000000000000000000000000000000000000) : n < 10 ^ 61 := Nat.lt_of_le_of_lt h (by decide)
theorem txt_len {n : Int} (h : 0 ≤ n) (h2 : n ≤ E60) : (txt n).length ≤ 61 := by
  rw [← tl_length, tl_txt h]
  refine numL_len (by decide) (lt_pow ?_)
  simp [E60] at h2
  omega
theorem numL_nozero : ∀ n : Nat, 1 < (numL n).length → (numL n).head? ≠ some 48 := fun n => by
  induction n using Nat.strongRecOn with
  | _ n ih =>
    intro h
    by_cases h10 : n < 10
    · rw [numL_lt h10] at h
      simp at h
    · rw [numL_step (by omega)]
      have hne := numL_ne (n / 10)
      rw [List.head?_append, show (numL (n / 10)).head?.or ([48 + n % 10] : List Nat).head? = (numL (n / 10)).head? from by
        cases hz : numL (n / 10) with
        | nil => exact (hne hz).elim
        | cons x r => rfl]
      by_cases h2 : n / 10 < 10
      · rw [numL_lt h2]
        simp
        omega
      · refine ih (n / 10) (by omega) ?_
        rw [numL_step (by omega), List.length_append]
        have := List.length_pos_iff.mpr (numL_ne (n / 10 / 10))
        simp
        omega
theorem txt_ok {n : Int} (h : 0 ≤ n) (h2 : n ≤ E60) : OkW (txt n) := by
  have e := tl_txt h
  refine ⟨by rw [e]; exact numL_digits _, by rw [e]; exact numL_ne _, ?_, txt_len h h2⟩
  rintro ⟨h1, h3⟩
  rw [e] at h3
  rw [← tl_length, e] at h1
  exact numL_nozero _ h1 h3
theorem txt_val {n : Int} (h : 0 ≤ n) : numV (txt n) = n := by
  unfold numV
  rw [tl_txt h, numL_val]
  omega
theorem txt_nosp {n : Int} (h : 0 ≤ n) : (32 : Nat) ∉ tl (txt n) := by
  rw [tl_txt h]
  exact numL_free (by omega)
theorem split_four {a b c d : Int} (ha : 0 ≤ a) (hb : 0 ≤ b) (hc : 0 ≤ c) (hd : 0 ≤ d) : Txt.split (Txt.join " " [txt a, txt b, txt c, txt d]) " " = [txt a, txt b, txt c, txt d] := by
  refine split_join (s := 32) (S := []) (by decide +kernel) (by decide +kernel) (by simp) ?_
  intro p hp
  simp at hp
  rcases hp with rfl | rfl | rfl | rfl
  · exact txt_nosp ha
  · exact txt_nosp hb
  · exact txt_nosp hc
  · exact txt_nosp hd
theorem log_ok {n : Int} (h : 0 ≤ n) (h2 : n ≤ E60) : n.natAbs.log2 < 1920 := by
  have h3 : n.natAbs < 2 ^ 1920 := by
    simp [E60] at h2
    have : n.natAbs ≤ 1000000000000000000000000000000000000000000000000000000000000 := by omega
    exact Nat.lt_of_le_of_lt this (by decide +kernel)
  by_cases h0 : n.natAbs = 0
  · rw [h0]
    decide
  · exact (Nat.log2_lt h0).mpr h3
theorem r_strI {n : Int} {H : Hp} {Q : VK} (h0 : 0 ≤ n) (h1 : n ≤ E60) (h : Q (.str (txt n)) H) : rStrQ [.int n] H Q := ⟨n, rfl, log_ok h0 h1, h⟩
/-- a move's four numbers -/
structure Mv where
  t : Int
  h : Int
  f : Int
  u : Int
deriving DecidableEq
def Mv.vs (m : Mv) : List V := [.int m.t, .int m.h, .int m.f, .int m.u]
structure Mv.Ok (m : Mv) : Prop where
  t1 : 1 ≤ m.t
  t2 : m.t ≤ E60
  h1 : 0 ≤ m.h
  h2 : m.h ≤ E60
  f1 : 1 ≤ m.f
  f2 : m.f ≤ E60
  u1 : 0 ≤ m.u
  u2 : m.u ≤ E60
def spWritten : Sp := fun vs H Q _ => ∃ (p : Addr) (m : Mv), vs = [.ref p] ∧ H p = some (.tup m.vs) ∧ m.Ok ∧ ∀ H', Same H H' → Q (.str (Txt.join " " [txt m.t, txt m.h, txt m.f, txt m.u])) H'
def spSameMove : Sp := fun vs H Q _ => ∃ (p q : Addr) (m : Mv), vs = [.ref p, .ref q] ∧ H p = some (.tup m.vs) ∧ H q = some (.tup m.vs) ∧ Q (.bl true) H
theorem c_sameMove {H : Hp} {p q : Addr} {m : Mv} {Q : VK} {E : XK} (hp : H p = some (.tup m.vs)) (hq : H q = some (.tup m.vs)) (h : Q (.bl true) H) : spSameMove [.ref p, .ref q] H Q E := ⟨p, q, m, rfl, hp, hq, h⟩
theorem len_app (x y : Str) : (x ++ y : Str).length = x.length + y.length := by
  rw [← tl_length, tl_append, List.length_append, tl_length, tl_length]
theorem join_four (a b c d : Str) : a ++ " " ++ b ++ " " ++ c ++ " " ++ d = Txt.join " " [a, b, c, d] := by
  refine ext_tl ?_
  rw [join_eq, tl_join]
  simp [tl_append, joinL]
theorem len_blank : (" " : Str).length = 1 := by decide +kernel
theorem c_written {H : Hp} {p : Addr} {m : Mv} {Q : VK} {E : XK} (hp : H p = some (.tup m.vs)) (ok : m.Ok) (h : ∀ H', Same H H' → Q (.str (Txt.join " " [txt m.t, txt m.h, txt m.f, txt m.u])) H') : spWritten [.ref p] H Q E := ⟨p, m, rfl, hp, ok, h⟩
/-- isinstance(e, c), e the error that a suite holds -/
def rIsEQ (K : PySem.W.Frag) (a : Addr) (cls : Value) (d : Option Addr) : List V → Hp → VK → Prop := fun xs H Q => ∃ D, cls = .ref D ∧ d = none ∧ ExcC K D ∧ rIsE K D a xs H Q
theorem call_isEQ {X : Cx} {a : Addr} {oe : Obj} {pn : List (Addr × Obj)} {cls : Value} {d : Option Addr} (hz : Zc cls d oe) (hf : ∃ vs, oe.data = .fields vs) : CallR (X.suite a ((a, oe) :: pn)) (.builtin "isinstance") (rIsEQ X.K a cls d) := by
  intro pins s σ H xs us Q I r h
  obtain ⟨D, rfl, rfl, hC, h⟩ := h
  exact call_isE hC hz hf pins s σ H xs us Q I r h
theorem kit_val {K : PySem.W.Frag} {D : Addr} (h : PySem.W.subIn K (.ref D) (.type "ValueError") = some true) : PySem.W.kitOne K (.ref D) (.type "ValueError") = some true := by
  have m : PySem.W.kitMeta "ValueError" = true := by decide +kernel
  show (if ((Value.ref D) == (Value.type "ValueError")) = true then some true else if PySem.W.kitMeta "ValueError" = true then PySem.W.subIn K (.ref D) (.type "ValueError") else none) = some true
  rw [m, h]
  split <;> rfl
theorem kit_own {K : PySem.W.Frag} {S C : Addr} {b : Bool} (h2 : PySem.W.isClsIn K S = true) (h3 : PySem.W.typeIn K (.ref S) = some (.type "type")) (h4 : PySem.W.subIn K (.ref C) (.ref S) = some b) (hb : (C = S → b = true)) : PySem.W.kitOne K (.ref C) (.ref S) = some b := by
  have e2 : ((PySem.W.clsIn K S).isSome && PySem.W.typeIn K (.ref S) == some (.type "type")) = true := by
    have h2' : (PySem.W.clsIn K S).isSome = true := h2
    rw [h2', h3] <;> rfl
  show (if (Value.ref C == Value.ref S) = true then some true else if ((PySem.W.clsIn K S).isSome && PySem.W.typeIn K (.ref S) == some (.type "type")) = true then PySem.W.subIn K (.ref C) (.ref S) else none) = some b
  by_cases e : C = S
  · rw [hb e, e]
    simp
  · rw [if_neg (by simpa using e), if_pos e2]
    exact h4
theorem r_isE {K : PySem.W.Frag} {a D : Addr} {c : V} {cv : Value} {b : Bool} {H : Hp} {Q : VK} (hC : ExcC K D) (hc : ∀ u, RelV c u → u = cv) (hk : PySem.W.kitOne K (.ref D) cv = some b) (h : Q (.bl b) H) : rIsEQ K a (.ref D) none [.ref a, c] H Q := ⟨D, rfl, rfl, hC, c, cv, b, rfl, hc, hk, h⟩
def spDue : Sp := fun vs H Q _ => ∃ z : Str, vs = [.str z] ∧ z.length ≤ 10000 ∧
  (∀ w1 w2 w3 w4 p H', Txt.split z " " = [w1, w2, w3, w4] → LineOk z → H p = none → Same H H' → H' p = some (.tup [.int (numV w1), .int (numV w2), .int (numV w3), .int (numV w4)]) → Q (.ref p) H') ∧ (¬ LineOk z → ∀ H', Same H H' → Q .non H')
def OkAt (ws : List Str) (k : Nat) : Prop := ∃ w, ws[k]? = some w ∧ OkW w ∧ 1 - (k : Int) % 2 ≤ numV w ∧ numV w ≤ E60
theorem line_iff {z : Str} {w1 w2 w3 w4 : Str} (h : Txt.split z " " = [w1, w2, w3, w4]) : LineOk z ↔ ∀ k < 4, OkAt [w1, w2, w3, w4] k := by
  constructor
  · rintro ⟨v1, v2, v3, v4, hv, o1, o2, o3, o4, b1, b3, c1, c2, c3, c4⟩
    rw [h] at hv
    simp at hv
    obtain ⟨rfl, rfl, rfl, rfl⟩ := hv
    intro k hk
    match k, hk with
    | 0, _ => exact ⟨_, rfl, o1, b1, c1⟩
    | 1, _ => exact ⟨_, rfl, o2, numV_nonneg _, c2⟩
    | 2, _ => exact ⟨_, rfl, o3, b3, c3⟩
    | 3, _ => exact ⟨_, rfl, o4, numV_nonneg _, c4⟩
  · intro H
    obtain ⟨v1, e1, o1, b1, c1⟩ := H 0 (by omega)
    obtain ⟨v2, e2, o2, b2, c2⟩ := H 1 (by omega)
    obtain ⟨v3, e3, o3, b3, c3⟩ := H 2 (by omega)
    obtain ⟨v4, e4, o4, b4, c4⟩ := H 3 (by omega)
    simp at e1 e2 e3 e4
    subst e1 e2 e3 e4
    exact ⟨_, _, _, _, h, o1, o2, o3, o4, b1, b3, c1, c2, c3, c4⟩
def rRepSQ : R2 := fun x y H Q => ∃ (z : Str) (n : Int), x = .str z ∧ y = .int n ∧ PySem.MulOk z n ∧ Q (.str (PySem.Txt.mul z n)) H
theorem op_repSQ {X : Cx} : OpR X (binaryOp .Mult) rRepSQ := by
  intro pins s σ H x y v u Q I rx ry h
  obtain ⟨i, j, rfl, rfl, hz, q⟩ := h
  obtain ⟨t, rfl⟩ := rx
  obtain ⟨t', rfl⟩ := ry
  exact PySem.SB.mul hz (fun t' tk => ⟨.str (PySem.Txt.mul i j), H, I.tok _, ⟨_, rfl⟩, q⟩)
theorem foldl_size (x : Array Nat) : ∀ (n : Nat) (acc : Array Nat), ((List.replicate n x).foldl (· ++ ·) acc).size = acc.size + n * x.size
  | 0, acc => by simp
  | n + 1, acc => by
    rw [List.replicate_succ, List.foldl_cons, foldl_size x n (acc ++ x), Array.size_append, Nat.succ_mul]
    omega
theorem mul_len {z : Str} {n : Int} (h : z.length = 1) : (PySem.Txt.mul z n).length ≤ n.toNat + 1 := by
  unfold PySem.Txt.mul
  split
  · exact Nat.zero_le _
  · split
    · rw [h]
      omega
    · show ((List.replicate n.toNat z.cps).foldl (· ++ ·) #[]).size ≤ n.toNat + 1
      rw [foldl_size]
      have : z.cps.size = 1 := h
      rw [this]
      simp
theorem r_repS {z : Str} {n : Int} {H : Hp} {Q : VK} (h1 : z.length = 1) (h2 : 1 < n) (h3 : n ≤ 100000) (h : ∀ y : Str, y.length ≤ n.toNat + 1 → Q (.str y) H) : rRepSQ (.str z) (.int n) H Q := by
  refine ⟨z, n, rfl, rfl, ⟨by simp; omega, fun _ _ => ?_, fun _ _ => ?_⟩, h _ (mul_len h1)⟩
  · rw [h1]
    have : 1 ≤ (2 ^ 63 - 1) / n := by
      rw [Int.le_ediv_iff_mul_le (by omega)]
      omega
    omega
  · rw [h1]
    unfold PySem.Builtin.Str.tooLong
    have : (1 * n.toNat : Nat) ≤ sizeLine := Nat.le_trans (show 1 * n.toNat ≤ 1000000 by omega) (by decide)
    simp at this ⊢
    omega
theorem at_some {α : Type} {xs : List α} {i : Int} (h0 : 0 ≤ i) (h : i < xs.length) : ∃ v, v ∈ xs ∧ atI xs i = some v := by
  have hk : i.toNat < xs.length := by omega
  refine ⟨xs[i.toNat], List.getElem_mem _, ?_⟩
  have e := atI_nat (xs := xs) (j := i.toNat) (v := xs[i.toNat]) (List.getElem?_eq_getElem hk)
  rwa [Int.toNat_of_nonneg h0] at e
theorem r_strB {n : Int} {H : Hp} {Q : VK} (h0 : 0 ≤ n) (h1 : n ≤ E60 + 1) (h : ∀ z : Str, z.length ≤ 100 → Q (.str z) H) : rStrQ [.int n] H Q := by
  have hb : n.natAbs ≤ 1000000000000000000000000000000000000000000000000000000000001 := by
    simp only [E60] at h1
    omega
  have h3 : n.natAbs.log2 < 1920 := by
    by_cases h0 : n.natAbs = 0
    · rw [h0]
      decide
    · exact (Nat.log2_lt h0).mpr (Nat.lt_of_le_of_lt hb (by decide +kernel))
  refine ⟨n, rfl, h3, h (txt n) ?_⟩
  rw [← tl_length, tl_txt h0]
  exact Nat.le_trans (numL_len (k := 61) (by decide) (Nat.lt_of_le_of_lt (show n.toNat ≤ 1000000000000000000000000000000000000000000000000000000000001 by omega) (by decide))) (by decide)
theorem c_read {C : Addr} {H : Hp} {z : Str} {Q : VK} {E : XK} (hl : z.length ≤ 10000) (h1 : ∀ w1 w2 w3 w4 p H', Txt.split z " " = [w1, w2, w3, w4] → LineOk z → H p = none → Same H H' → H' p = some (.tup [.int (numV w1), .int (numV w2), .int (numV w3), .int (numV w4)]) → Q (.ref p) H') (h2 : ¬ LineOk z → ∀ H', Same H H' → E (.ref C) none H') : spRead C [.str z] H Q E := ⟨z, rfl, hl, h1, h2⟩
theorem c_due {H : Hp} {z : Str} {Q : VK} {E : XK} (hl : z.length ≤ 10000) (h1 : ∀ w1 w2 w3 w4 p H', Txt.split z " " = [w1, w2, w3, w4] → LineOk z → H p = none → Same H H' → H' p = some (.tup [.int (numV w1), .int (numV w2), .int (numV w3), .int (numV w4)]) → Q (.ref p) H') (h2 : ¬ LineOk z → ∀ H', Same H H' → Q .non H') : spDue [.str z] H Q E := ⟨z, rfl, hl, h1, h2⟩
theorem r_ixL_any {K : PySem.W.Frag} {H : Hp} {Q : VK} {p : Addr} {xs : List V} {i : Int} (hs : SqL K H p xs) (h0 : 0 ≤ i) (h1 : i < xs.length) (h : ∀ v ∈ xs, Q v H) : rIxL K (.ref p) (.int i) H Q := by
  obtain ⟨v, hv, ha⟩ := at_some h0 h1
  exact r_ixL hs ha (h v hv)
theorem cutS_len (z : Str) (lo hi : Option Int) : (cutS z lo hi).length ≤ z.length := by
  rw [← tl_length, ← tl_length]
  show ((((z.cps.toList.drop _).take _).toArray).toList).length ≤ z.cps.toList.length
  rw [List.length_take, List.length_drop]
  omega
theorem join_len4 {xs : List Str} (hx : xs.length = 4) (hb : ∀ z ∈ xs, z.length ≤ 101) : (xs.map (·.length)).sum + xs.length * (" " : Str).length ≤ 16777216 ∧ (Txt.join " " xs).length ≤ 500 ∧ 3 ≤ (Txt.join " " xs).length := by
  match xs, hx with
  | [a, b, c, d], _ =>
    have h1 := hb a (by simp)
    have h2 := hb b (by simp)
    have h3 := hb c (by simp)
    have h4 := hb d (by simp)
    rw [← join_four]
    simp only [len_app, len_blank, List.map_cons, List.map_nil, List.sum_cons, List.sum_nil, List.length_cons, List.length_nil]
    omega
theorem len_one (c : Nat) : (⟨#[c]⟩ : Str).length = 1 := rfl
theorem len_zero : ("0" : Str).length = 1 := by decide +kernel
def rIsNQ : R2 := fun x y H Q => y = .non ∧ Q (.bl (decide (x = .non))) H
def rNotNQ : R2 := fun x y H Q => y = .non ∧ Q (.bl (!decide (x = .non))) H
theorem op_isNQ {X : Cx} : OpR X (compareOp .Is) rIsNQ := op_isN
theorem op_notNQ {X : Cx} : OpR X (compareOp .IsNot) rNotNQ := op_notN
section
variable {H : Hp} {Q : VK} {p : Addr} {i : Int} {b : Bool} {z : Str}
instance : Step (rIsNQ .non .non H Q) (Q (.bl true) H) := ⟨fun h => ⟨rfl, h⟩⟩
instance : Step (rIsNQ (.ref p) .non H Q) (Q (.bl false) H) := ⟨fun h => ⟨rfl, h⟩⟩
instance : Step (rIsNQ (.int i) .non H Q) (Q (.bl false) H) := ⟨fun h => ⟨rfl, h⟩⟩
instance : Step (rIsNQ (.bl b) .non H Q) (Q (.bl false) H) := ⟨fun h => ⟨rfl, h⟩⟩
instance : Step (rIsNQ (.str z) .non H Q) (Q (.bl false) H) := ⟨fun h => ⟨rfl, h⟩⟩
instance : Step (rNotNQ .non .non H Q) (Q (.bl false) H) := ⟨fun h => ⟨rfl, h⟩⟩
instance : Step (rNotNQ (.ref p) .non H Q) (Q (.bl true) H) := ⟨fun h => ⟨rfl, h⟩⟩
end
end Tm
namespace Tm
open PySem PySem.Spec PyProof.Rows L2
/-! moves in the told order -/
def aheadB (t1 h1 t2 h2 : Int) : Bool := if t1 = t2 then decide (h1 < h2) else decide (t1 < t2)
def spAhead (K : PySem.W.Frag) : Sp := fun vs H Q _ => ∃ (p p2 : Addr) (t1 h1 t2 h2 : Int) (x1 y1 x2 y2 : V), vs = [.ref p, .ref p2] ∧ SqT K H p [.int t1, .int h1, x1, y1] ∧ SqT K H p2 [.int t2, .int h2, x2, y2] ∧ Q (.bl (aheadB t1 h1 t2 h2)) H
theorem c_ahead {K : PySem.W.Frag} {H : Hp} {p p2 : Addr} {t1 h1 t2 h2 : Int} {x1 y1 x2 y2 : V} {Q : VK} {E : XK} (S1 : SqT K H p [.int t1, .int h1, x1, y1]) (S2 : SqT K H p2 [.int t2, .int h2, x2, y2]) (h : Q (.bl (aheadB t1 h1 t2 h2)) H) : spAhead K [.ref p, .ref p2] H Q E := ⟨p, p2, t1, h1, t2, h2, x1, y1, x2, y2, rfl, S1, S2, h⟩
/-- ahead in the told order -/
def Bef (a b : Mv) : Prop := a.t < b.t ∨ (a.t = b.t ∧ a.h < b.h)
instance (a b : Mv) : Decidable (Bef a b) := inferInstanceAs (Decidable (_ ∨ _))
theorem aheadB_bef (a b : Mv) : aheadB a.t a.h b.t b.h = decide (Bef a b) := by
  unfold aheadB
  by_cases e : a.t = b.t
  · rw [if_pos e]
    by_cases c : a.h < b.h
    · rw [decide_eq_true c, decide_eq_true (show Bef a b from .inr ⟨e, c⟩)]
    · rw [decide_eq_false c, decide_eq_false (show ¬ Bef a b by unfold Bef; omega)]
  · rw [if_neg e]
    by_cases c : a.t < b.t
    · rw [decide_eq_true c, decide_eq_true (show Bef a b from .inl c)]
    · rw [decide_eq_false c, decide_eq_false (show ¬ Bef a b by unfold Bef; omega)]
/-- of one time and hand -/
def SameK (a b : Mv) : Prop := a.t = b.t ∧ a.h = b.h
instance (a b : Mv) : Decidable (SameK a b) := inferInstanceAs (Decidable (_ ∧ _))
theorem Bef.trans {a b c : Mv} (h : Bef a b) (g : Bef b c) : Bef a c := by unfold Bef at *; omega
theorem bef_three (a b : Mv) (h : ¬ Bef a b) (g : ¬ Bef b a) : SameK a b := by unfold Bef at *; unfold SameK; omega
theorem Bef.not_key {a b : Mv} (h : Bef a b) : ¬ SameK a b := by unfold Bef SameK at *; omega
theorem Bef.not_key' {a b : Mv} (h : Bef a b) : ¬ SameK b a := by unfold Bef SameK at *; omega
theorem Bef.asym {a b : Mv} (h : Bef a b) : ¬ Bef b a := by unfold Bef at *; omega
theorem Bef.key {a b c : Mv} (h : Bef a b) (k : SameK b c) : Bef a c := by unfold Bef SameK at *; omega
/-- how many are ahead -/
def posM (m : Mv) (ms : List Mv) : Nat := (ms.takeWhile fun x => decide (Bef x m)).length
theorem posM_nil (m : Mv) : posM m [] = 0 := rfl
theorem posM_pos {m x : Mv} {r : List Mv} (h : Bef x m) : posM m (x :: r) = posM m r + 1 := by
  unfold posM
  rw [List.takeWhile_cons_of_pos (by simpa using h)]
  rfl
theorem posM_neg {m x : Mv} {r : List Mv} (h : ¬ Bef x m) : posM m (x :: r) = 0 := by
  unfold posM
  rw [List.takeWhile_cons_of_neg (by simpa using h)]
  rfl
theorem posM_le (m : Mv) : ∀ ms : List Mv, posM m ms ≤ ms.length
  | [] => Nat.le_refl _
  | x :: r => by
    by_cases h : Bef x m
    · rw [posM_pos h]
      have := posM_le m r
      simp
      omega
    · rw [posM_neg h]
      omega
theorem posM_lt {m x : Mv} : ∀ {ms : List Mv} {i : Nat}, i < posM m ms → ms[i]? = some x → Bef x m
  | [], i, h, _ => by rw [posM_nil] at h; omega
  | y :: r, i, h, e => by
    by_cases c : Bef y m
    · rw [posM_pos c] at h
      cases i with
      | zero =>
        simp at e
        exact e ▸ c
      | succ i => exact posM_lt (ms := r) (i := i) (by omega) (by simpa using e)
    · rw [posM_neg c] at h
      omega
theorem posM_at {m x : Mv} : ∀ {ms : List Mv}, ms[posM m ms]? = some x → ¬ Bef x m
  | [], e => by simp at e
  | y :: r, e => by
    by_cases c : Bef y m
    · rw [posM_pos c] at e
      exact posM_at (ms := r) (by simpa using e)
    · rw [posM_neg c] at e
      simp at e
      exact e ▸ c
theorem posM_up {m x : Mv} {ms : List Mv} {i : Nat} (h : i ≤ posM m ms) (e : ms[i]? = some x) (b : Bef x m) : i + 1 ≤ posM m ms := by
  by_cases c : i = posM m ms
  · rw [c] at e
    exact (posM_at e b).elim
  · omega
theorem posM_end {m x : Mv} {ms : List Mv} {i : Nat} (h : i ≤ posM m ms) (e : ms[i]? = some x) (b : ¬ Bef x m) : i = posM m ms := by
  by_cases c : i < posM m ms
  · exact (b (posM_lt c e)).elim
  · omega
theorem posM_full {m : Mv} {ms : List Mv} {i : Nat} (h : i ≤ posM m ms) (e : ¬ i < ms.length) : i = posM m ms := by
  have := posM_le m ms
  omega
/-- put in where it belongs -/
def insA {α : Type} (n : Nat) (x : α) (l : List α) : List α := l.take n ++ [x] ++ l.drop n
theorem insA_map {α β : Type} (f : α → β) (n : Nat) (x : α) (l : List α) : (insA n x l).map f = insA n (f x) (l.map f) := by
  simp [insA, List.map_take, List.map_drop]
theorem insA_length {α : Type} (n : Nat) (x : α) (l : List α) : (insA n x l).length = l.length + 1 := by
  simp [insA]
  omega
theorem mem_insA {α : Type} {n : Nat} {x y : α} {l : List α} : y ∈ insA n x l ↔ y = x ∨ y ∈ l := by
  have h : y ∈ l ↔ y ∈ l.take n ∨ y ∈ l.drop n := by
    rw [← List.mem_append, List.take_append_drop]
  rw [h]
  simp [insA]
  constructor
  · rintro (h | h | h)
    · exact .inr (.inl h)
    · exact .inl h
    · exact .inr (.inr h)
  · rintro (h | h | h)
    · exact .inr (.inl h)
    · exact .inl h
    · exact .inr (.inr h)
def insM (m : Mv) (ms : List Mv) : List Mv := insA (posM m ms) m ms
/-- in the told order -/
def Srt (ms : List Mv) : Prop := ms.Pairwise Bef
def NewM (m : Mv) (ms : List Mv) : Prop := ∀ x ∈ ms, ¬ SameK x m
def ClashM (m : Mv) (ms : List Mv) : Prop := ∃ x ∈ ms, SameK x m ∧ x ≠ m
theorem Srt.nil : Srt [] := List.Pairwise.nil
theorem insM_cons_pos {m x : Mv} {r : List Mv} (h : Bef x m) : insM m (x :: r) = x :: insM m r := by
  unfold insM insA
  rw [posM_pos h]
  rfl
theorem insM_cons_neg {m x : Mv} {r : List Mv} (h : ¬ Bef x m) : insM m (x :: r) = m :: x :: r := by
  unfold insM insA
  rw [posM_neg h]
  rfl
theorem mem_insM {m y : Mv} {ms : List Mv} : y ∈ insM m ms ↔ y = m ∨ y ∈ ms := mem_insA
theorem insM_length (m : Mv) (ms : List Mv) : (insM m ms).length = ms.length + 1 := insA_length _ _ _
theorem Srt.ins {m : Mv} : ∀ {ms : List Mv}, Srt ms → NewM m ms → Srt (insM m ms)
  | [], _, _ => List.pairwise_singleton _ _
  | x :: r, h, n => by
    obtain ⟨h1, h2⟩ := List.pairwise_cons.mp h
    by_cases c : Bef x m
    · rw [insM_cons_pos c]
      refine List.pairwise_cons.mpr ⟨fun y hy => ?_, Srt.ins h2 fun y hy => n y (List.mem_cons_of_mem _ hy)⟩
      rcases mem_insM.mp hy with rfl | hy
      · exact c
      · exact h1 y hy
    · rw [insM_cons_neg c]
      have b : Bef m x := by
        by_cases d : Bef m x
        · exact d
        · exact (n x List.mem_cons_self (bef_three x m c d)).elim
      refine List.pairwise_cons.mpr ⟨fun y hy => ?_, h⟩
      rcases List.mem_cons.mp hy with rfl | hy
      · exact b
      · exact b.trans (h1 y hy)
theorem srt_at {ms : List Mv} (h : Srt ms) {i j : Nat} {x y : Mv} (hi : ms[i]? = some x) (hj : ms[j]? = some y) (l : i < j) : Bef x y := by
  obtain ⟨h1, e1⟩ := List.getElem?_eq_some_iff.mp hi
  obtain ⟨h2, e2⟩ := List.getElem?_eq_some_iff.mp hj
  rw [← e1, ← e2]
  exact List.pairwise_iff_getElem.mp h i j h1 h2 l
/-- none of that time and hand -/
theorem new_of {m : Mv} {ms : List Mv} (h : Srt ms) (e : ∀ x, ms[posM m ms]? = some x → Bef m x) : NewM m ms := by
  intro y hy
  obtain ⟨i, hi⟩ := List.getElem?_of_mem hy
  by_cases c : i < posM m ms
  · exact (posM_lt c hi).not_key
  · obtain ⟨hl, _⟩ := List.getElem?_eq_some_iff.mp hi
    have hl : posM m ms < ms.length := by omega
    have hx := List.getElem?_eq_getElem hl
    have b := e _ hx
    by_cases d : i = posM m ms
    · rw [d, hx] at hi
      rw [← Option.some.inj hi]
      exact b.not_key'
    · exact (b.trans (srt_at h hx hi (by omega))).not_key'
theorem old_of {m x : Mv} {ms : List Mv} (e : ms[posM m ms]? = some x) (b : ¬ Bef m x) : SameK x m := bef_three x m (posM_at e) b
/-- just one of a time and hand -/
theorem one_key {ms : List Mv} (h : Srt ms) {x y : Mv} (hx : x ∈ ms) (hy : y ∈ ms) (k : SameK x y) : x = y := by
  obtain ⟨i, hi⟩ := List.getElem?_of_mem hx
  obtain ⟨j, hj⟩ := List.getElem?_of_mem hy
  rcases Nat.lt_trichotomy i j with c | c | c
  · exact ((srt_at h hi hj c).not_key k).elim
  · subst c
    rw [hi] at hj
    exact Option.some.inj hj
  · exact ((srt_at h hj hi c).not_key' k).elim
theorem SameK.refl (m : Mv) : SameK m m := ⟨rfl, rfl⟩
theorem clash_of {m x : Mv} {ms : List Mv} (e : ms[posM m ms]? = some x) (b : ¬ Bef m x) (n : x ≠ m) : ClashM m ms := ⟨x, List.mem_of_getElem? e, old_of e b, n⟩
theorem three {m : Mv} {ms : List Mv} (h : Srt ms) : NewM m ms ∨ ClashM m ms ∨ m ∈ ms := by
  by_cases c : ∃ x, ms[posM m ms]? = some x ∧ ¬ Bef m x
  · obtain ⟨x, e, b⟩ := c
    by_cases d : x = m
    · subst d
      exact .inr (.inr (List.mem_of_getElem? e))
    · exact .inr (.inl (clash_of e b d))
  · exact .inl (new_of h fun x e => Classical.byContradiction fun b => c ⟨x, e, b⟩)
theorem new_not_mem {m : Mv} {ms : List Mv} (h : NewM m ms) : m ∉ ms := fun c => h m c (SameK.refl m)
theorem new_not_clash {m : Mv} {ms : List Mv} (h : NewM m ms) : ¬ ClashM m ms := fun ⟨x, hx, k, _⟩ => h x hx k
theorem mem_not_clash {m : Mv} {ms : List Mv} (h : Srt ms) (c : m ∈ ms) : ¬ ClashM m ms := fun ⟨_, hx, k, n⟩ => n (one_key h hx c k)
theorem Srt.drop {ms : List Mv} (h : Srt ms) (n : Nat) : Srt (ms.drop n) := List.Pairwise.sublist (List.drop_sublist n ms) h
/-! moves in the heap -/
def MvsAt (H : Hp) (as : List Addr) (ms : List Mv) : Prop := as.map H = ms.map fun m => some (.tup m.vs)
theorem MvsAt.length {H : Hp} {as : List Addr} {ms : List Mv} (h : MvsAt H as ms) : as.length = ms.length := by
  have := congrArg List.length h
  simpa using this
theorem MvsAt.nil {H : Hp} : MvsAt H [] [] := rfl
theorem MvsAt.at {H : Hp} {as : List Addr} {ms : List Mv} (h : MvsAt H as ms) {i : Nat} {a : Addr} {m : Mv} (ha : as[i]? = some a) (hm : ms[i]? = some m) : H a = some (.tup m.vs) := by
  have e : (as.map H)[i]? = (ms.map fun m => some (HO.tup m.vs))[i]? := by rw [h]
  rw [List.getElem?_map, List.getElem?_map, ha, hm] at e
  exact Option.some.inj e
theorem MvsAt.at_a {H : Hp} {as : List Addr} {ms : List Mv} (h : MvsAt H as ms) {i : Nat} {a : Addr} (ha : as[i]? = some a) : ∃ m, ms[i]? = some m ∧ H a = some (.tup m.vs) := by
  obtain ⟨hl, _⟩ := List.getElem?_eq_some_iff.mp ha
  have hl' : i < ms.length := by rw [← h.length]; exact hl
  have hm := List.getElem?_eq_getElem hl'
  exact ⟨_, hm, h.at ha hm⟩
theorem MvsAt.at_m {H : Hp} {as : List Addr} {ms : List Mv} (h : MvsAt H as ms) {i : Nat} {m : Mv} (hm : ms[i]? = some m) : ∃ a, as[i]? = some a ∧ H a = some (.tup m.vs) := by
  obtain ⟨hl, _⟩ := List.getElem?_eq_some_iff.mp hm
  have hl' : i < as.length := by rw [h.length]; exact hl
  have ha := List.getElem?_eq_getElem hl'
  exact ⟨_, ha, h.at ha hm⟩
theorem MvsAt.mem {H : Hp} {as : List Addr} {ms : List Mv} (h : MvsAt H as ms) {a : Addr} (ha : a ∈ as) : ∃ m ∈ ms, H a = some (.tup m.vs) := by
  obtain ⟨i, hi⟩ := List.getElem?_of_mem ha
  obtain ⟨m, hm, e⟩ := h.at_a hi
  exact ⟨m, List.mem_of_getElem? hm, e⟩
theorem MvsAt.of {H H' : Hp} {as : List Addr} {ms : List Mv} (h : MvsAt H as ms) (k : ∀ a vs, H a = some (.tup vs) → H' a = some (.tup vs)) : MvsAt H' as ms := by
  unfold MvsAt at *
  rw [← h]
  refine List.map_congr_left fun a ha => ?_
  obtain ⟨m, _, e⟩ := MvsAt.mem (ms := ms) h ha
  rw [e, k a _ e]
theorem MvsAt.same {H H' : Hp} {as : List Addr} {ms : List Mv} (h : MvsAt H as ms) (s : Same H H') : MvsAt H' as ms := h.of fun a vs e => s _ _ e
theorem MvsAt.take {H : Hp} {as : List Addr} {ms : List Mv} (h : MvsAt H as ms) (n : Nat) : MvsAt H (as.take n) (ms.take n) := by
  unfold MvsAt at *
  rw [List.map_take, List.map_take, h]
theorem MvsAt.drop {H : Hp} {as : List Addr} {ms : List Mv} (h : MvsAt H as ms) (n : Nat) : MvsAt H (as.drop n) (ms.drop n) := by
  unfold MvsAt at *
  rw [List.map_drop, List.map_drop, h]
theorem MvsAt.ins {H : Hp} {as : List Addr} {ms : List Mv} {a : Addr} {m : Mv} (h : MvsAt H as ms) (e : H a = some (.tup m.vs)) (n : Nat) : MvsAt H (insA n a as) (insA n m ms) := by
  unfold MvsAt at *
  rw [insA_map, insA_map, h, e]
theorem MvsAt.snoc {H : Hp} {as : List Addr} {ms : List Mv} {a : Addr} {m : Mv} (h : MvsAt H as ms) (e : H a = some (.tup m.vs)) : MvsAt H (as ++ [a]) (ms ++ [m]) := by
  unfold MvsAt at *
  rw [List.map_append, List.map_append, h]
  simp [e]
/-! logs in the heap -/
/-- a log: settled with s, come to t ahead of what is kept -/
structure Lg where
  b : Addr
  l : Addr
  dx : Addr
  s : Int
  t : Tr
  as : List Addr
  ms : List Mv
def lgF (b l : Addr) (s : Int) : List (Str × V) := [("since", .int s), ("base", .ref b), ("kept", .ref l)]
structure LogAt (C : Addr) (H : Hp) (p : Addr) (g : Lg) : Prop where
  hp : H p = some (.ins C g.dx (lgF g.b g.l g.s))
  hb : H g.b = some (.dK (enc g.t))
  hl : H g.l = some (.lst (g.as.map V.ref))
  hm : MvsAt H g.as g.ms
theorem LogAt.of {C : Addr} {H H' : Hp} {p : Addr} {g : Lg} (h : LogAt C H p g) (k : ∀ b o, H b = some o → (∀ vs, o = .tup vs → H' b = some o)) (hp : H' p = H p) (hb : H' g.b = H g.b) (hl : H' g.l = H g.l) : LogAt C H' p g :=
  ⟨by rw [hp]; exact h.hp, by rw [hb]; exact h.hb, by rw [hl]; exact h.hl, h.hm.of fun a vs e => k a _ e vs rfl⟩
theorem LogAt.same {C : Addr} {H H' : Hp} {p : Addr} {g : Lg} (h : LogAt C H p g) (s : Same H H') : LogAt C H' p g := ⟨s _ _ h.hp, s _ _ h.hb, s _ _ h.hl, h.hm.same s⟩
theorem lk_since {b l : Addr} {s : Int} : (lgF b l s).lookup ("since" : Str) = some (.int s) := by first | rfl | decide +kernel | simp [lgF]
theorem lk_base {b l : Addr} {s : Int} : (lgF b l s).lookup ("base" : Str) = some (.ref b) := by first | rfl | simp [lgF, List.lookup]
theorem lk_kept {b l : Addr} {s : Int} : (lgF b l s).lookup ("kept" : Str) = some (.ref l) := by first | rfl | simp [lgF, List.lookup]
theorem put_since {b l : Addr} {s s' : Int} : putF ("since" : Str) (.int s') (lgF b l s) = lgF b l s' := by first | rfl | simp [lgF, putF]
theorem put_base {b l b' : Addr} {s : Int} : putF ("base" : Str) (.ref b') (lgF b l s) = lgF b' l s := by first | rfl | simp [lgF, putF]
theorem put_kept {b l l' : Addr} {s : Int} : putF ("kept" : Str) (.ref l') (lgF b l s) = lgF b l' s := by first | rfl | simp [lgF, putF]
theorem put_init {b l : Addr} : putF ("kept" : Str) (.ref l) (putF ("base" : Str) (.ref b) (putF ("since" : Str) (.int 0) [])) = lgF b l 0 := by first | rfl | simp [lgF, putF]
theorem no_place {b l : Addr} {s : Int} : (lgF b l s).lookup ("place_of" : Str) = none := by first | rfl | simp [lgF, List.lookup]
theorem no_hear {b l : Addr} {s : Int} : (lgF b l s).lookup ("hear" : Str) = none := by first | rfl | simp [lgF, List.lookup]
theorem no_moves {b l : Addr} {s : Int} : (lgF b l s).lookup ("moves" : Str) = none := by first | rfl | simp [lgF, List.lookup]
theorem no_tree {b l : Addr} {s : Int} : (lgF b l s).lookup ("tree" : Str) = none := by first | rfl | simp [lgF, List.lookup]
theorem no_steps {b l : Addr} {s : Int} : (lgF b l s).lookup ("steps" : Str) = none := by first | rfl | simp [lgF, List.lookup]
theorem no_settle {b l : Addr} {s : Int} : (lgF b l s).lookup ("settle" : Str) = none := by first | rfl | simp [lgF, List.lookup]
/-- nothing but p is changed -/
def SameP (p : Addr) (H H' : Hp) : Prop := ∀ b o, b ≠ p → H b = some o → H' b = some o
theorem SameP.refl (p : Addr) (H : Hp) : SameP p H H := fun _ _ _ e => e
theorem SameP.of {p : Addr} {H H' : Hp} (s : Same H H') : SameP p H H' := fun b o _ e => s b o e
theorem SameP.trans {p : Addr} {H H' H2 : Hp} (s : SameP p H H') (s2 : SameP p H' H2) : SameP p H H2 := fun b o n e => s2 b o n (s b o n e)
theorem SameP.mut {p : Addr} {H H' : Hp} {o : HO} (s : SameP p H H') : SameP p H (upd H' p o) := fun b u n e => by
  rw [upd_ne n]
  exact s b u n e
theorem SameP.new {p q : Addr} {H H' : Hp} {o : HO} (s : SameP p H H') (h : H' q = none) : SameP p H (upd H' q o) := fun b u n e => keep (s b u n e) h
def lg0 (b l dx : Addr) : Lg := ⟨b, l, dx, 0, [], [], []⟩
def spLogInit (C : Addr) : Sp := fun vs H Q _ => ∃ (p dx : Addr), vs = [.ref p] ∧ H p = some (.ins C dx []) ∧ ∀ b l H', H b = none → H l = none → SameP p H H' → LogAt C H' p (lg0 b l dx) → Q .non H'
def spPlace (C : Addr) : Sp := fun vs H Q _ => ∃ (p : Addr) (g : Lg) (a : Addr) (m : Mv), vs = [.ref p, .ref a] ∧ LogAt C H p g ∧ H a = some (.tup m.vs) ∧ g.as.length ≤ 100000 ∧ Q (.int (posM m g.ms : Nat)) H
def BadMv (H : Hp) (x : V) : Prop := (∃ (p : Addr) (xs : List V), x = .ref p ∧ H p = some (.tup xs) ∧ (∀ y ∈ xs, KnownV H y) ∧ moveB xs = false) ∨ (KnownV H x ∧ ∀ p xs, x = .ref p → H p ≠ some (.tup xs))
def Lg.heard (g : Lg) (a : Addr) (m : Mv) : Lg := { g with as := insA (posM m g.ms) a g.as, ms := insM m g.ms }
def spHear (C N T X : Addr) : Sp := fun vs H Q E => ∃ (p : Addr) (g : Lg) (x : V), vs = [.ref p, x] ∧ LogAt C H p g ∧ Srt g.ms ∧ g.as.length ≤ 100000 ∧
  ((BadMv H x ∧ E (.ref N) none H) ∨ ∃ (a : Addr) (m : Mv), x = .ref a ∧ H a = some (.tup m.vs) ∧ m.Ok ∧ (m.t < g.s → E (.ref T) none H) ∧ (g.s ≤ m.t → ClashM m g.ms → E (.ref X) none H) ∧ (g.s ≤ m.t → m ∈ g.ms → Q (.bl false) H) ∧
    (g.s ≤ m.t → NewM m g.ms → Q (.bl true) (upd H g.l (.lst ((g.heard a m).as.map V.ref)))))
def spMoves (C : Addr) : Sp := fun vs H Q _ => ∃ (p : Addr) (g : Lg), vs = [.ref p] ∧ LogAt C H p g ∧ ∀ l, H l = none → Q (.ref l) (upd H l (.lst (g.as.map V.ref)))
/-- how many are of lesser times, ahead -/
def goneM (time : Int) (ms : List Mv) : Nat := (ms.takeWhile fun m => decide (m.t < time)).length
noncomputable def foldT (t : Tr) (ms : List Mv) : Tr := ms.foldl (fun t m => putT t m.f m.u) t
noncomputable def Lg.settled (g : Lg) (b l : Addr) (time : Int) : Lg := ⟨b, l, g.dx, max g.s time, foldT g.t (g.ms.take (goneM time g.ms)), g.as.drop (goneM time g.ms), g.ms.drop (goneM time g.ms)⟩
def spSettle (C : Addr) : Sp := fun vs H Q _ => ∃ (p : Addr) (g : Lg) (time : Int), vs = [.ref p, .int time] ∧ LogAt C H p g ∧ Acyc g.t ∧ g.t.length + g.as.length ≤ 100000 ∧
  ∀ b l H', (b = g.b ∨ H b = none) → H l = none → SameP p H H' → LogAt C H' p (g.settled b l time) → Q (.int (goneM time g.ms : Nat)) H'
theorem LogAt.heard {C : Addr} {H : Hp} {p : Addr} {g : Lg} (h : LogAt C H p g) {a : Addr} {m : Mv} (e : H a = some (.tup m.vs)) : LogAt C (upd H g.l (.lst ((g.heard a m).as.map V.ref))) p (g.heard a m) := by
  have n1 : p ≠ g.l := fun c => by have z := h.hp; rw [c, h.hl] at z; cases z
  have n2 : g.b ≠ g.l := fun c => by have z := h.hb; rw [c, h.hl] at z; cases z
  refine ⟨keep_ne h.hp n1, keep_ne h.hb n2, upd_same, (h.hm.ins e _).of fun b vs eb => keep_ne eb fun c => ?_⟩
  rw [c, h.hl] at eb
  cases eb
theorem foldT_snoc (t : Tr) (ms : List Mv) (m : Mv) : foldT t (ms ++ [m]) = putT (foldT t ms) m.f m.u := by simp [foldT]
theorem foldT_nil (t : Tr) : foldT t [] = t := rfl
theorem Acyc.foldT {t : Tr} (h : Acyc t) : ∀ ms : List Mv, Acyc (foldT t ms) := by
  intro ms
  induction ms generalizing t with
  | nil => exact h
  | cons m r ih => exact ih (h.putT m.f m.u)
theorem Nd.foldT {t : Tr} (h : Nd t) : ∀ ms : List Mv, Nd (foldT t ms) := by
  intro ms
  induction ms generalizing t with
  | nil => exact h
  | cons m r ih => exact ih (h.putT m.f m.u)
theorem foldT_length : ∀ (t : Tr) (ms : List Mv), (foldT t ms).length ≤ t.length + ms.length
  | t, [] => Nat.le_refl _
  | t, m :: r => by
    have h1 := foldT_length (putT t m.f m.u) r
    have h2 := putT_length t m.f m.u
    show (foldT (putT t m.f m.u) r).length ≤ _
    simp
    omega
theorem goneM_le (time : Int) : ∀ ms : List Mv, goneM time ms ≤ ms.length
  | [] => Nat.le_refl _
  | x :: r => by
    unfold goneM
    have := goneM_le time r
    unfold goneM at this
    rw [List.takeWhile_cons]
    split
    · simp
      omega
    · simp
theorem goneM_lt {time : Int} {x : Mv} : ∀ {ms : List Mv} {i : Nat}, i < goneM time ms → ms[i]? = some x → x.t < time
  | [], i, h, _ => by simp [goneM] at h
  | y :: r, i, h, e => by
    unfold goneM at h
    rw [List.takeWhile_cons] at h
    by_cases c : y.t < time
    · rw [if_pos (by simpa using c)] at h
      cases i with
      | zero =>
        simp at e
        exact e ▸ c
      | succ i => exact goneM_lt (ms := r) (i := i) (by unfold goneM; simpa using h) (by simpa using e)
    · rw [if_neg (by simpa using c)] at h
      simp at h
theorem goneM_at {time : Int} {x : Mv} : ∀ {ms : List Mv}, ms[goneM time ms]? = some x → ¬ x.t < time
  | [], e => by simp at e
  | y :: r, e => by
    unfold goneM at e
    rw [List.takeWhile_cons] at e
    by_cases c : y.t < time
    · rw [if_pos (by simpa using c)] at e
      exact goneM_at (ms := r) (by unfold goneM; simpa using e)
    · rw [if_neg (by simpa using c)] at e
      simp at e
      exact e ▸ c
theorem goneM_up {time : Int} {x : Mv} {ms : List Mv} {i : Nat} (h : i ≤ goneM time ms) (e : ms[i]? = some x) (b : x.t < time) : i + 1 ≤ goneM time ms := by
  by_cases c : i = goneM time ms
  · rw [c] at e
    exact (goneM_at e b).elim
  · omega
theorem goneM_end {time : Int} {x : Mv} {ms : List Mv} {i : Nat} (h : i ≤ goneM time ms) (e : ms[i]? = some x) (b : ¬ x.t < time) : i = goneM time ms := by
  by_cases c : i < goneM time ms
  · exact (b (goneM_lt c e)).elim
  · omega
theorem goneM_full {time : Int} {ms : List Mv} {i : Nat} (h : i ≤ goneM time ms) (e : ¬ i < ms.length) : i = goneM time ms := by
  have := goneM_le time ms
  omega
theorem c_place {C : Addr} {H : Hp} {p a : Addr} {g : Lg} {m : Mv} {Q : VK} {E : XK} (L : LogAt C H p g) (e : H a = some (.tup m.vs)) (l : g.as.length ≤ 100000) (h : Q (.int (posM m g.ms : Nat)) H) : spPlace C [.ref p, .ref a] H Q E := ⟨p, g, a, m, rfl, L, e, l, h⟩
theorem c_moves {C : Addr} {H : Hp} {p : Addr} {g : Lg} {Q : VK} {E : XK} (L : LogAt C H p g) (h : ∀ l, H l = none → Q (.ref l) (upd H l (.lst (g.as.map V.ref)))) : spMoves C [.ref p] H Q E := ⟨p, g, rfl, L, h⟩
theorem c_settle {C : Addr} {H : Hp} {p : Addr} {g : Lg} {time : Int} {Q : VK} {E : XK} (L : LogAt C H p g) (hA : Acyc g.t) (hl : g.t.length + g.as.length ≤ 100000) (h : ∀ b l H', (b = g.b ∨ H b = none) → H l = none → SameP p H H' → LogAt C H' p (g.settled b l time) → Q (.int (goneM time g.ms : Nat)) H') : spSettle C [.ref p, .int time] H Q E := ⟨p, g, time, rfl, L, hA, hl, h⟩
theorem atR {H : Hp} {as : List Addr} {ms : List Mv} (h : MvsAt H as ms) {i : Nat} (hi : i < ms.length) : ∃ a m, atI (as.map V.ref) (i : Int) = some (.ref a) ∧ ms[i]? = some m ∧ as[i]? = some a ∧ H a = some (.tup m.vs) := by
  obtain ⟨a, ha, e⟩ := h.at_m (List.getElem?_eq_getElem hi)
  exact ⟨a, _, atI_nat (by rw [List.getElem?_map, ha]; rfl), List.getElem?_eq_getElem hi, ha, e⟩
theorem Mv.at0 (m : Mv) : atI m.vs 0 = some (.int m.t) := at_of (j := 0) rfl rfl
theorem Mv.at1 (m : Mv) : atI m.vs 1 = some (.int m.h) := at_of (j := 1) rfl rfl
theorem Mv.at2 (m : Mv) : atI m.vs 2 = some (.int m.f) := at_of (j := 2) rfl rfl
theorem Mv.at3 (m : Mv) : atI m.vs 3 = some (.int m.u) := at_of (j := 3) rfl rfl
/-- a move as data -/
def Mv.d (m : Mv) : PyData := .tuple [.int m.t, .int m.h, .int m.f, .int m.u]
theorem Mv.dp {K : PySem.W.Frag} {H : Hp} {a : Addr} {m : Mv} (h : H a = some (.tup m.vs)) : Dp K H (.ref a) m.d := .tup (SqT.of h) (.cons (.int _) (.cons (.int _) (.cons (.int _) (.cons (.int _) .nil))))
theorem Mv.sh (m : Mv) : SeqAt.shaped m.d = true := by
  show (m.d.canLay0 && decide (m.d.depth ≤ 64)) = true
  rw [Bool.and_eq_true]
  refine ⟨by simp [Mv.d, PyData.canLay0, PyData.canLayAll0], decide_eq_true (by simp [Mv.d, PyData.depth, PyData.depthAll])⟩
theorem Mv.eqv (m n : Mv) : PyData.eqv m.d n.d = decide (m = n) := by
  have e : PyData.eqv m.d n.d = ((m.t == n.t) && ((m.h == n.h) && ((m.f == n.f) && ((m.u == n.u) && true)))) := by simp only [Mv.d, PyData.eqv, PyData.eqvAll]
  rw [e]
  obtain ⟨a, b, c, d⟩ := m
  obtain ⟨a', b', c', d'⟩ := n
  simp only [Mv.mk.injEq]
  by_cases h1 : a = a' <;> by_cases h2 : b = b' <;> by_cases h3 : c = c' <;> by_cases h4 : d = d' <;> simp [h1, h2, h3, h4]
theorem r_neMv {K : PySem.W.Frag} {H : Hp} {Q : VK} {a b : Addr} {m n : Mv} (ha : H a = some (.tup m.vs)) (hb : H b = some (.tup n.vs)) (h : Q (.bl (!decide (m = n))) H) : rNeD K (.ref a) (.ref b) H Q := ⟨m.d, n.d, Mv.dp ha, Mv.dp hb, Mv.sh m, Mv.sh n, by rw [Mv.eqv]; exact h⟩
theorem moveB_of {m : Mv} (h : m.Ok) : moveB m.vs = true := by
  have := h.t1; have := h.t2; have := h.h1; have := h.h2; have := h.f1; have := h.f2; have := h.u1; have := h.u2
  simp [Mv.vs, moveB, isW, *]
theorem known_mv (H : Hp) (m : Mv) : ∀ y ∈ m.vs, KnownV H y := by
  intro y hy
  simp [Mv.vs] at hy
  rcases hy with rfl | rfl | rfl | rfl <;> trivial
theorem c_aheadM {K : PySem.W.Frag} {H : Hp} {a b : Addr} {m n : Mv} {Q : VK} {E : XK} (ha : H a = some (.tup m.vs)) (hb : H b = some (.tup n.vs)) (h : Q (.bl (decide (Bef m n))) H) : spAhead K [.ref a, .ref b] H Q E := c_ahead (SqT.of ha) (SqT.of hb) (by rw [aheadB_bef]; exact h)
end Tm
namespace Tm
open PySem PySem.Spec PyProof.Rows L2
/-! calls whose errors are taken here -/
section
variable {X : Cx} {CX : CXT} {k : Nat} {f C : Addr} {fd : FuncData} {ps : List Str} {sp : Sp} {E : L2.St → XK} {x m : Str} {p pos apos : Pos} {e o : Expr} {es : List Expr} {ta : TE} {t : TA}
def tMethS (C : Addr) (m : Str) (sp : Sp) (E : L2.St → XK) (ta : TE) (t : TA) : TE := fun σ H Q => ta σ H fun x H1 => ∃ a dx fs, x = .ref a ∧ H1 a = some (.ins C dx fs) ∧ fs.lookup m = none ∧
  t σ H1 fun vs H2 => sp (x :: vs) H2 Q (E σ)
def tMakeS (C : Addr) (sp : Sp) (E : L2.St → XK) (t : TA) : TE := fun σ H Q => t σ H fun vs H1 => ∀ x dx, H1 x = none → H1 dx = none → dx ≠ x →
  sp (.ref x :: vs) (upd (upd H1 dx (.own x)) x (.ins C dx [])) (fun v H2 => v = .non ∧ Q (.ref x) H2) (E σ)
theorem pe_methS {pl : Sem Bool} (he : PE X o ta) (c : Cls X.K C) (hm : Meth X.K C m f) (F : FnOk X.prog X.w X.K X.mg X.base CX k f fd ps sp) (hr : Room k X.A) (hb : Binds X.K fd ps []) (hx : ∀ σ, PassesAt CX X σ (E σ)) (ha : PA X (e :: es) t)
    (hst : starEach (e :: es) X.env = (false, eval e X.env) :: starEach es X.env := by rfl) (hpl : (backTo pos (starEach es X.env)).any (·.1) = false := by rfl)
    (ht : eval (.Call (.Attribute o m apos) (e :: es) [] pos) X.env = (do
      let ov ← eval o X.env
      standAt apos.atName
      let (f, first) ← holding [ov] (getMethod ov m pl)
      callWith pos f first (backTo pos (starEach (e :: es) X.env)) (backToKw pos (keywordEach [] X.env))) := by rfl) :
    PE X (.Call (.Attribute o m apos) (e :: es) [] pos) (tMethS C m sp E ta t) := by
  refine ⟨fun pins s σ H Q I h => ?_⟩
  refine PySem.W.methodCall_KW (pl := pl) (thn (he.run pins s σ H _ I h) fun u s1 ⟨x, H1, I1, rx, a, dx, fs, ex, ea, l, q⟩ => ?_) ht
  subst ex
  obtain rfl : u = Value.ref a := rx
  refine getmeth_ok I1 ea c hm l ?_
  refine PySem.W.callWith_K (first := [.ref a]) (h₀ := X.base) I.ok.mod.kin hm.kp (thn (ha.run pos pins s1 σ H1 _ I1 q) fun us s2 ⟨vs, H2, I2, r, q2⟩ => ⟨I2.kIn, ?_⟩) hst hpl
  exact run_fnS (us := .ref a :: us) (vs := .ref a :: vs) F hr hb (hx σ) I2 (.cons rfl r) q2
theorem pe_methS0 {pl : Sem Bool} (he : PE X o ta) (c : Cls X.K C) (hm : Meth X.K C m f) (F : FnOk X.prog X.w X.K X.mg X.base CX k f fd ps sp) (hr : Room k X.A) (hb : Binds X.K fd ps []) (hx : ∀ σ, PassesAt CX X σ (E σ))
    (ht : eval (.Call (.Attribute o m apos) [] [] pos) X.env = (do
      let ov ← eval o X.env
      standAt apos.atName
      let (f, first) ← holding [ov] (getMethod ov m pl)
      callWith pos f first (backTo pos (starEach [] X.env)) (backToKw pos (keywordEach [] X.env))) := by rfl) :
    PE X (.Call (.Attribute o m apos) [] [] pos) (tMethS C m sp E ta tNil) := by
  refine ⟨fun pins s σ H Q I h => ?_⟩
  refine PySem.W.methodCall_KW (pl := pl) (thn (he.run pins s σ H _ I h) fun u s1 ⟨x, H1, I1, rx, a, dx, fs, ex, ea, l, q⟩ => ?_) ht
  subst ex
  obtain rfl : u = Value.ref a := rx
  refine getmeth_ok I1 ea c hm l ?_
  exact PySem.W.callWith_K0 (first := [.ref a]) I1.kIn hm.kp (run_fnS (us := [.ref a]) (vs := [.ref a]) F hr hb (hx σ) I1 (.cons rfl .nil) q)
end
section
variable {K : PySem.W.Frag} {σ : L2.St} {H : Hp} {Q : VK} {te to : TE} {ts : TA} {p : Addr}
def qMethS (C : Addr) (m : Str) (sp : Sp) (E : XK) (ts : TA) (σ : L2.St) (Q : VK) : VK := fun x H1 => ∃ a dx fs, x = .ref a ∧ H1 a = some (.ins C dx fs) ∧ fs.lookup m = none ∧ ts σ H1 fun vs H2 => sp (x :: vs) H2 Q E
instance {C : Addr} {m : Str} {sp : Sp} {E : L2.St → XK} : Step (tMethS C m sp E te ts σ H Q) (te σ H (qMethS C m sp (E σ) ts σ Q)) := ⟨fun h => h⟩
theorem r_methS {C dx : Addr} {m : Str} {sp : Sp} {fs : List (Str × V)} {E : XK} (hs : H p = some (.ins C dx fs)) (l : fs.lookup m = none) (h : ts σ H fun vs H2 => sp (.ref p :: vs) H2 Q E) : qMethS C m sp E ts σ Q (.ref p) H := ⟨p, dx, fs, rfl, hs, l, h⟩
end
/-! x is True -/
def isTV : V → Bool
  | .bl b => b
  | _ => false
def rIsT : R2 := fun x y H Q => y = .bl true ∧ Q (.bl (isTV x)) H
theorem op_isT {X : Cx} : OpR X (compareOp .Is) rIsT := by
  intro pins s σ H x y v u Q I rx ry h
  obtain ⟨rfl, q⟩ := h
  cases (show u = Value.bool true from ry)
  cases x with
  | bl a =>
    cases (show v = Value.bool a from rx)
    cases a with
    | true => exact wpAny_is_self rfl ⟨.bl true, H, I, rfl, q⟩
    | false => exact wpAny_is_other rfl (fun z => by cases z) ⟨.bl false, H, I, rfl, q⟩
  | int i =>
    obtain ⟨t, rfl⟩ := (show ∃ t, v = Value.int i t from rx)
    exact wpAny_is_other rfl (fun z => by cases z) ⟨.bl false, H, I, rfl, q⟩
  | str i =>
    obtain ⟨t, rfl⟩ := (show ∃ t, v = Value.str i t from rx)
    exact wpAny_is_other rfl (fun z => by cases z) ⟨.bl false, H, I, rfl, q⟩
  | non =>
    cases (show v = Value.none from rx)
    exact wpAny_is_other rfl (fun z => by cases z) ⟨.bl false, H, I, rfl, q⟩
  | ref a =>
    cases (show v = Value.ref a from rx)
    exact wpAny_is_other rfl (fun z => by cases z) ⟨.bl false, H, I, rfl, q⟩
  | byt b =>
    obtain ⟨t, rfl⟩ := (show ∃ t, v = Value.bytes b t from rx)
    exact wpAny_is_other rfl (fun z => by cases z) ⟨.bl false, H, I, rfl, q⟩
  | flt b =>
    obtain ⟨t, rfl⟩ := (show ∃ t, v = Value.float b t from rx)
    exact wpAny_is_other rfl (fun z => by cases z) ⟨.bl false, H, I, rfl, q⟩
  | ty b =>
    cases (show v = Value.type b from rx)
    exact wpAny_is_other rfl (fun z => by cases z) ⟨.bl false, H, I, rfl, q⟩
instance {x : V} {H : Hp} {Q : VK} : Step (rIsT x (.bl true) H Q) (Q (.bl (isTV x)) H) := ⟨fun h => ⟨rfl, h⟩⟩
/-! insert -/
def rInsQ : V → List V → Hp → VK → Prop := fun x vs H Q => ∃ (l : Addr) (xs : List V) (i : Int) (y : V), x = .ref l ∧ vs = [.int i, y] ∧ H l = some (.lst xs) ∧ xs.length < sizeLine ∧ 0 ≤ i ∧ i < 2 ^ 63 ∧
    Q .non (upd H l (.lst (xs.take i.toNat ++ [y] ++ xs.drop i.toNat)))
theorem mt_insQ {X : Cx} : MtR X "list.insert" rInsQ := mt_insert
theorem r_ins {H : Hp} {Q : VK} {l : Addr} {xs : List V} {n : Nat} {y : V} (hs : H l = some (.lst xs)) (hl : xs.length ≤ 1000000) (hn : n ≤ 1000000) (h : Q .non (upd H l (.lst (insA n y xs)))) : rInsQ (.ref l) [.int (n : Int), y] H Q :=
  ⟨l, xs, n, y, rfl, rfl, hs, lt_line hl, by omega, by omega, by rw [Int.toNat_natCast]; exact h⟩
/-- a test's value once, whatever follows -/
theorem t_val {tt : TT} {σ : L2.St} {H : Hp} {B : Bool → Hp → Prop} (b : Bool) (h : ∀ B : Bool → Hp → Prop, B b H → tt σ H B) (q : B b H) : tt σ H B := h B q
theorem cut_from {xs : List V} {n : Nat} (h : n ≤ xs.length) : cutV xs (some (n : Int)) none = xs.drop n := by
  unfold cutV
  rw [HT.sIx_none, HT.sIx_nat, Nat.min_eq_left h]
  exact List.take_of_length_le (by rw [List.length_drop]; omega)
theorem cut_to {xs : List V} {n : Nat} (h : n ≤ xs.length) : cutV xs none (some (n : Int)) = xs.take n := by
  unfold cutV
  rw [HT.sIx_none, HT.sIx_nat, Nat.min_eq_left h]
  simp
/-! in a comprehension: the rules with the text's own K -/
section
variable {X : Cx} {K : PySem.W.Frag}
theorem ix_listK (h : X.K = K) : IxR X (rIxL K) := by subst h; exact ix_list
theorem ix_tupK (h : X.K = K) : IxR X (rIxT K) := by subst h; exact ix_tup
theorem sl_tupAK (h : X.K = K) : SlR X (rSlA K) := by subst h; exact sl_tupA
theorem sl_listK (h : X.K = K) : SlR X (rSlL K) := by subst h; exact sl_list
theorem op_eqDK (h : X.K = K) (hu : X.A.units + 64 < cLine) : OpR X (compareOp .Eq) (rEqD K) := by subst h; exact op_eqD hu
theorem op_neDK (h : X.K = K) (hu : X.A.units + 64 < cLine) : OpR X (compareOp .NotEq) (rNeD K) := by subst h; exact op_neD hu
theorem op_inDK (h : X.K = K) (hu : X.A.units + 65 < cLine) : OpR X (compareOp .In) (rInD K) := by subst h; exact op_inD hu
theorem op_notInDK (h : X.K = K) (hu : X.A.units + 65 < cLine) : OpR X (compareOp .NotIn) (rNotInD K) := by subst h; exact op_notInD hu
theorem op_in_seqK (h : X.K = K) : OpR X (compareOp .In) (rIn K false) := by subst h; exact op_in_seq
theorem op_notIn_seqK (h : X.K = K) : OpR X (compareOp .NotIn) (rIn K true) := by subst h; exact op_notIn_seq
theorem call_lenQK (h : X.K = K) : CallR X (.builtin "len") (rLenQ K) := by subst h; exact call_lenQ
theorem call_listQK (h : X.K = K) : CallR X (.type "list") (rListQ K) := by subst h; exact call_listQ
theorem op_ltTK (h : X.K = K) (hu : X.A.units < cLine) : OpR X (compareOp .Lt) (rLtT K) := by subst h; exact op_ltT hu
theorem pe_fldK {e : Expr} {f : Str} {pos : Pos} {ta : TE} (h : X.K = K) (he : PE X e ta) (hb : attributeBase e f X.env (eval e X.env) = eval e X.env) : PE X (.Attribute e f pos) (tFld K ta f) := by subst h; exact pe_fld he hb
end
theorem t_valS {tt : TT} {σ : L2.St} {H : Hp} {B : Bool → Hp → Prop} (b : Bool) (h : ∀ B : Bool → Hp → Prop, (∀ H2, Same H H2 → B b H2) → tt σ H B) (q : ∀ H2, Same H H2 → B b H2) : tt σ H B := h B q
theorem s_valS {te : TE} {σ : L2.St} {H : Hp} {Q : VK} (v : V) (h : ∀ Q : VK, (∀ H2, Same H H2 → Q v H2) → te σ H Q) (q : ∀ H2, Same H H2 → Q v H2) : te σ H Q := h Q q
theorem w_hit {K : PySem.W.Frag} {Wo : WX} {D : Ends} {c cls : Value} {d : Option Addr} {ts : Addr → Value → Option Addr → TS} {r : List (Value × (Addr → Value → Option Addr → TS))} {σ : L2.St} {H : Hp} (e : PySem.W.exmOne K cls c = some true) (h : ∀ a, H a = none → ts a cls d D σ H) : wMany K Wo D ((c, ts) :: r) cls d σ H := ⟨true, e, fun _ => h, fun z => by cases z⟩
theorem w_miss {K : PySem.W.Frag} {Wo : WX} {D : Ends} {c cls : Value} {d : Option Addr} {ts : Addr → Value → Option Addr → TS} {r : List (Value × (Addr → Value → Option Addr → TS))} {σ : L2.St} {H : Hp} (e : PySem.W.exmOne K cls c = some false) (h : wMany K Wo D r cls d σ H) : wMany K Wo D ((c, ts) :: r) cls d σ H := ⟨false, e, (fun z => by cases z), fun _ => h⟩
end Tm
namespace Tm
open PySem PySem.Spec PyProof.Rows L2
/-! parts of tuples -/
theorem cut_all {xs : List V} {lo hi : Option Int} (h1 : HT.sIx xs.length 0 lo = 0) (h2 : HT.sIx xs.length xs.length hi = xs.length) : cutV xs lo hi = xs := by
  unfold cutV
  rw [h1, h2]
  simp
theorem r_slTs {K : PySem.W.Frag} {H : Hp} {Q : VK} {p : Addr} {xs : List V} {lo hi : Option Int} (hs : H p = some (.tup xs)) (h : ∀ l H', Same H H' → H' l = some (.tup (cutV xs lo hi)) → Q (.ref l) H') : rSlA K (.ref p) lo hi H Q :=
  ⟨p, xs, rfl, SqT.of hs, fun ⟨e1, e2⟩ => h p H (Same.refl _) (by rw [cut_all e1 e2]; exact hs), fun _ l hl => h l _ (Same.new (Same.refl _) hl) upd_same⟩
theorem r_catTs {K : PySem.W.Frag} {H : Hp} {Q : VK} {p q : Addr} {xs ys : List V} (hs : H p = some (.tup xs)) (hq : H q = some (.tup ys)) (hl : xs.length + ys.length ≤ 1000000) (h : ∀ l H', Same H H' → H' l = some (.tup (xs ++ ys)) → Q (.ref l) H') : rCatA K (.ref p) (.ref q) H Q :=
  ⟨p, q, xs, ys, rfl, rfl, SqT.of hs, SqT.of hq, le_line hl, fun e => h q H (Same.refl _) (by subst e; exact hq), fun _ e => h p H (Same.refl _) (by subst e; rw [List.append_nil]; exact hs), fun _ _ l hl => h l _ (Same.new (Same.refl _) hl) upd_same⟩
theorem lexLt_two (a b c d : Int) : HT.lexLt [a, b] [c, d] = decide (a < c ∨ (a = c ∧ b < d)) := by
  rw [HT.lexLt_cons, HT.lexLt_cons, HT.lexLt_nil_nil]
  by_cases e : a = c
  · subst e
    rw [if_pos rfl]
    by_cases e2 : b = d
    · subst e2
      simp
    · rw [if_neg e2]
      by_cases e3 : b < d <;> simp [e3]
  · rw [if_neg e]
    by_cases e3 : a < c <;> simp [e3, e]
theorem r_ltP {K : PySem.W.Frag} {H : Hp} {Q : VK} {p q : Addr} {a b c d : Int} (hp : H p = some (.tup [.int a, .int b])) (hq : H q = some (.tup [.int c, .int d])) (h : Q (.bl (decide (a < c ∨ (a = c ∧ b < d)))) H) : rLtT K (.ref p) (.ref q) H Q :=
  ⟨p, q, [a, b], [c, d], rfl, rfl, SqT.of hp, SqT.of hq, by rw [lexLt_two]; exact h⟩
theorem r_eqP {K : PySem.W.Frag} {H : Hp} {Q : VK} {p q : Addr} {a b c d : Int} (hp : H p = some (.tup [.int a, .int b])) (hq : H q = some (.tup [.int c, .int d])) (h : Q (.bl (decide (a = c ∧ b = d))) H) : rEqD K (.ref p) (.ref q) H Q := by
  refine ⟨.tuple [.int a, .int b], .tuple [.int c, .int d], .tup (SqT.of hp) (.cons (.int _) (.cons (.int _) .nil)), .tup (SqT.of hq) (.cons (.int _) (.cons (.int _) .nil)), ?_, ?_, ?_⟩
  · simp [SeqAt.shaped, PyData.canLay0, PyData.canLayAll0, PyData.depth, PyData.depthAll]
  · simp [SeqAt.shaped, PyData.canLay0, PyData.canLayAll0, PyData.depth, PyData.depthAll]
  · have e : PyData.eqv (.tuple [.int a, .int b]) (.tuple [.int c, .int d]) = ((a == c) && ((b == d) && true)) := by simp only [PyData.eqv, PyData.eqvAll]
    have e2 : ((a == c) && ((b == d) && true)) = decide (a = c ∧ b = d) := by by_cases e : a = c <;> by_cases e' : b = d <;> simp [e, e']
    rw [e, e2]
    exact h
/-- data of moves, in a list -/
theorem dpAll_mv {K : PySem.W.Frag} {H : Hp} : ∀ {as : List Addr} {ms : List Mv}, MvsAt H as ms → DpAll K H (as.map V.ref) (ms.map Mv.d)
  | [], [], _ => .nil
  | [], _ :: _, h => by cases h
  | _ :: _, [], h => by cases h
  | a :: as, m :: ms, h => by
    unfold MvsAt at h
    simp only [List.map_cons, List.cons.injEq] at h
    exact .cons (Mv.dp h.1) (dpAll_mv h.2)
theorem lay_mv : ∀ ms : List Mv, PyData.canLayAll0 (ms.map Mv.d) = true
  | [] => by simp [PyData.canLayAll0]
  | m :: r => by
    have := lay_mv r
    simp [PyData.canLayAll0, this, Mv.d, PyData.canLay0]
theorem depth_mv : ∀ ms : List Mv, PyData.depthAll (ms.map Mv.d) ≤ 1
  | [] => by simp [PyData.depthAll]
  | m :: r => by
    have := depth_mv r
    simp [PyData.depthAll, Mv.d, PyData.depth]
    omega
theorem sh_mvs (ms : List Mv) : SeqAt.shaped (.list (ms.map Mv.d)) = true := by
  have h := depth_mv ms
  show (PyData.canLay0 (.list (ms.map Mv.d)) && decide (PyData.depth (.list (ms.map Mv.d)) ≤ 64)) = true
  rw [Bool.and_eq_true]
  refine ⟨by simp only [PyData.canLay0]; exact lay_mv ms, decide_eq_true ?_⟩
  simp only [PyData.depth]
  omega
theorem any_eqv (m : Mv) (ms : List Mv) : ((ms.map Mv.d).any fun z => PyData.eqv z m.d) = decide (m ∈ ms) := by
  rw [List.any_map]
  have e : ((fun z => PyData.eqv z m.d) ∘ Mv.d) = fun x => decide (x = m) := by
    funext x
    exact Mv.eqv x m
  rw [e]
  by_cases c : m ∈ ms
  · rw [decide_eq_true c]
    exact List.any_eq_true.mpr ⟨m, c, by simp⟩
  · rw [decide_eq_false c]
    refine List.any_eq_false.mpr fun x hx => ?_
    simp
    intro e
    exact c (e ▸ hx)
theorem r_ninMv {K : PySem.W.Frag} {H : Hp} {Q : VK} {p l : Addr} {m : Mv} {as : List Addr} {ms : List Mv} (hp : H p = some (.tup m.vs)) (hl : H l = some (.lst (as.map V.ref))) (hm : MvsAt H as ms) (h : Q (.bl (!decide (m ∈ ms))) H) : rNotInD K (.ref p) (.ref l) H Q :=
  ⟨m.d, ms.map Mv.d, Mv.dp hp, .lst (SqL.of hl) (dpAll_mv hm), Mv.sh m, sh_mvs ms, by rw [any_eqv]; exact h⟩
/-- a list of moves against the empty list -/
theorem r_neNil {K : PySem.W.Frag} {H : Hp} {Q : VK} {l e : Addr} {as : List Addr} {ms : List Mv} (hl : H l = some (.lst (as.map V.ref))) (hm : MvsAt H as ms) (he : H e = some (.lst [])) (h : Q (.bl (!decide (as = []))) H) : rNeD K (.ref l) (.ref e) H Q := by
  refine ⟨.list (ms.map Mv.d), .list [], .lst (SqL.of hl) (dpAll_mv hm), .lst (SqL.of he) .nil, sh_mvs ms, by simp [SeqAt.shaped, PyData.canLay0, PyData.canLayAll0, PyData.depth, PyData.depthAll], ?_⟩
  have e2 : PyData.eqv (.list (ms.map Mv.d)) (.list []) = decide (as = []) := by
    have hlen := hm.length
    cases ms with
    | nil =>
      cases as with
      | nil => simp [PyData.eqv, PyData.eqvAll]
      | cons _ _ => cases hlen
    | cons m r =>
      cases as with
      | nil => cases hlen
      | cons _ _ => simp [PyData.eqv, PyData.eqvAll]
  rw [e2]
  exact h
/-! range from a number on -/
section
variable {K : PySem.W.Frag} {σ : L2.St} {H : Hp} {Q : VK} {te : TE} {tt : TT} {ts : TA} {j : Nat}
def qLcR2 (g : TG) (tt : TT) (te : TE) (vs : List Nat) (σ : L2.St) (Q : VK) : List V → Hp → Prop := fun ws H1 => ∃ i j : Int, ws = [.int i, .int j] ∧ (-(2 ^ 62) ≤ i ∧ i < 2 ^ 62 ∧ -(2 ^ 62) ≤ j ∧ j < 2 ^ 62) ∧ qLc (Itr i (j - i).toNat).go (Itr i (j - i).toNat).stop (Itr i (j - i).toNat).yld g tt te vs σ Q H1
instance {g : TG} {vs : List Nat} : Step (tLc (iRng2 ts) g tt te vs σ H Q) (ts σ H (qLcR2 g tt te vs σ Q)) := ⟨fun h => h⟩
theorem r_lcR2 (lo : Int) (n : Nat) {hi : Int} (hn : n ≤ 1000000000) (hlo : 0 ≤ lo ∧ lo ≤ 1000000000) (hhi : hi = lo + n ∨ (hi ≤ lo ∧ n = 0 ∧ -1000000000 ≤ hi)) (Pv : Addr → Nat → Hp → Prop) (h0 : ∀ D, H D = none → Pv D 0 (upd H D (.lst [])))
    (hs : ∀ D (i : Nat) H, i < n → Pv D i H → tt ((σ.set j none).set j (some (.int (lo + i)))) H (qLcT te ((σ.set j none).set j (some (.int (lo + i)))) D (Pv D (i + 1)))) (hd : ∀ D H, Pv D n H → Q (.ref D) H) : qLcR2 (gName j) tt te [j] σ Q [.int lo, .int hi] H :=
  ⟨lo, hi, rfl, ⟨by omega, by omega, by omega, by omega⟩, by
    have e : (hi - lo).toNat = n := by omega
    rw [e]
    intro D nD
    refine ⟨fun i m H => m = n - i ∧ i ≤ n ∧ Pv D i H, ⟨n, by simp, Nat.zero_le _, h0 D nD⟩, ?_⟩
    rintro i m H ⟨rfl, hi, q⟩
    by_cases hlt : i < n
    · refine .inr ⟨hlt, Pv D (i + 1), fun H' p' => ⟨n - (i + 1), by omega, rfl, hlt, p'⟩, fun x H' y => ?_⟩
      obtain ⟨eH, y⟩ := y
      subst eH
      subst y
      exact ⟨by
        show (((σ.set j none).set j (some _)).set j none) = σ.set j none
        rw [List.set_set, List.set_set], hs D i _ hlt q⟩
    · have e : i = n := by omega
      subst e
      exact .inl ⟨Nat.le_refl _, hd D H q⟩⟩
end
end Tm
namespace Tm
open PySem PySem.Spec PyProof.Rows L2
/-! what the laws draw from a script -/
def farF (s : Int) : Int := if s % 8 > 3 then s / 8 % (E60 - 2000000) else if s % 4 = 2 then 1000000000000000000000000000000 else if s % 4 = 3 then E60 - 200 else 0
def gapF (s : Int) : Int := if s % 8 > 5 then 1 + s / 16 % 10000 else 1
def nineF (i : Int) : Int := if i = 0 then 1 else if i = 1 then 2 else if i = 2 then 3 else if i = 3 then 9 else if i = 4 then 10 else if i = 5 then 11 else if i = 6 then 99 else if i = 7 then 100 else 101
theorem lt9 {i : Int} (h0 : 0 ≤ i) (h : i < 9) : i = 0 ∨ i = 1 ∨ i = 2 ∨ i = 3 ∨ i = 4 ∨ i = 5 ∨ i = 6 ∨ i = 7 ∨ i = 8 := by omega
theorem at9 {i : Int} (h0 : 0 ≤ i) (h : i < 9) : atI [V.int 1, .int 2, .int 3, .int 9, .int 10, .int 11, .int 99, .int 100, .int 101] i = some (.int (nineF i)) := by
  rcases lt9 h0 h with e | e | e | e | e | e | e | e | e <;> subst e <;> rfl
theorem nine_le (i : Int) : 1 ≤ nineF i ∧ nineF i ≤ 101 := by
  unfold nineF
  repeat' split
  all_goals omega
theorem gap_le (s : Int) : 1 ≤ gapF s ∧ gapF s ≤ 10000 := by
  unfold gapF
  split <;> omega
theorem far_le (s : Int) : 0 ≤ farF s ∧ farF s ≤ E60 - 200 ∧ (s % 8 > 5 → farF s ≤ E60 - 2000001) := by
  unfold farF
  simp only [E60]
  repeat' split
  all_goals omega
theorem time_ok (s i z : Int) (hz : z = 0 ∨ z = 1) : 1 ≤ gapF s * nineF i + farF s * z ∧ gapF s * nineF i + farF s * z ≤ E60 := by
  obtain ⟨f1, f2, f3⟩ := far_le s
  obtain ⟨n1, n2⟩ := nine_le i
  have g2 : 1 ≤ gapF s * nineF i ∧ gapF s * nineF i ≤ 1010000 ∧ (¬ s % 8 > 5 → gapF s * nineF i ≤ 101) := by
    obtain ⟨g1, g2⟩ := gap_le s
    refine ⟨?_, ?_, fun h => ?_⟩
    · have := Int.mul_le_mul g1 n1 (by omega) (by omega)
      omega
    · have := Int.mul_le_mul g2 n2 (by omega) (by omega)
      omega
    · have e : gapF s = 1 := by unfold gapF; rw [if_neg h]
      rw [e]
      omega
  obtain ⟨g3, g4, g5⟩ := g2
  have e60 : E60 = 1000000000000000000000000000000000000000000000000000000000000 := rfl
  rcases hz with rfl | rfl
  · rw [Int.mul_zero]
    omega
  · rw [Int.mul_one]
    by_cases h : s % 8 > 5
    · have := f3 h
      omega
    · have := g5 h
      omega
def spFar : Sp := fun vs H Q _ => ∃ s : Int, vs = [.int s] ∧ ∀ H', Same H H' → Q (.int (farF s)) H'
def spGap : Sp := fun vs H Q _ => ∃ s : Int, vs = [.int s] ∧ Q (.int (gapF s)) H
theorem c_far {H : Hp} {s : Int} {Q : VK} {E : XK} (h : ∀ H', Same H H' → Q (.int (farF s)) H') : spFar [.int s] H Q E := ⟨s, rfl, h⟩
theorem c_gap {H : Hp} {s : Int} {Q : VK} {E : XK} (h : Q (.int (gapF s)) H) : spGap [.int s] H Q E := ⟨s, rfl, h⟩
def DeedOk (d : Int) : Prop := 0 ≤ d ∧ d < 2147483647
def spDeeds (K : PySem.W.Frag) : Sp := fun vs H Q _ => ∃ (p : Addr) (ns : List Int) (few : Nat) (many : Int), vs = [.ref p, .int few, .int many] ∧ SqL K H p (ns.map V.int) ∧ ns.length ≤ 63 ∧ few ≤ 100 ∧
  ∀ l (ds : List Int), H l = none → ds.length ≤ few → (∀ d ∈ ds, DeedOk d) → Q (.ref l) (upd H l (.lst (ds.map V.int)))
theorem c_deeds {K : PySem.W.Frag} {H : Hp} {p : Addr} {ns : List Int} {few : Nat} {many : Int} {Q : VK} {E : XK} (hS : SqL K H p (ns.map V.int)) (hl : ns.length ≤ 63) (hf : few ≤ 100) (h : ∀ l (ds : List Int), H l = none → ds.length ≤ few → (∀ d ∈ ds, DeedOk d) → Q (.ref l) (upd H l (.lst (ds.map V.int)))) : spDeeds K [.ref p, .int few, .int many] H Q E := ⟨p, ns, few, many, rfl, hS, hl, hf, h⟩
/-- a drawn move is one -/
def spMoveBy : Sp := fun vs H Q _ => ∃ deed many second hand cell : Int, vs = [.int deed, .int many, .int second, .int hand, .int cell] ∧ 0 ≤ deed ∧ 1 ≤ many ∧ many ≤ 100 ∧ 0 ≤ hand ∧ hand ≤ E60 ∧
  ∀ (a : Addr) (m : Mv) (H' : Hp), Same H H' → H a = none → H' a = some (.tup m.vs) → m.Ok → m.h = hand → Q (.ref a) H'
theorem c_moveBy {H : Hp} {deed many second hand cell : Int} {Q : VK} {E : XK} (h0 : 0 ≤ deed) (h1 : 1 ≤ many) (h2 : many ≤ 100) (h3 : 0 ≤ hand) (h4 : hand ≤ E60) (h : ∀ (a : Addr) (m : Mv) (H' : Hp), Same H H' → H a = none → H' a = some (.tup m.vs) → m.Ok → m.h = hand → Q (.ref a) H') : spMoveBy [.int deed, .int many, .int second, .int hand, .int cell] H Q E := ⟨deed, many, second, hand, cell, rfl, h0, h1, h2, h3, h4, h⟩
def spHand8 : Sp := fun vs H Q _ => ∃ k s : Int, vs = [.int k, .int s] ∧ 0 ≤ k ∧ k ≤ 4 ∧ ∀ n H', Same H H' → 0 ≤ n → n ≤ E60 → Q (.int n) H'
theorem c_hand8 {H : Hp} {k s : Int} {Q : VK} {E : XK} (h0 : 0 ≤ k) (h1 : k ≤ 4) (h : ∀ n H', Same H H' → 0 ≤ n → n ≤ E60 → Q (.int n) H') : spHand8 [.int k, .int s] H Q E := ⟨k, s, rfl, h0, h1, h⟩
end Tm
namespace Tm
open PySem PySem.Spec PyProof.Rows L2
def spSameMoves : Sp := fun vs H Q _ => ∃ (p q : Addr) (as as2 : List Addr) (ms : List Mv), vs = [.ref p, .ref q] ∧ H p = some (.lst (as.map V.ref)) ∧ H q = some (.lst (as2.map V.ref)) ∧ MvsAt H as ms ∧ MvsAt H as2 ms ∧ ms.length ≤ 100000 ∧ Q (.bl true) H
theorem c_sameMoves {H : Hp} {p q : Addr} {as as2 : List Addr} {ms : List Mv} {Q : VK} {E : XK} (hp : H p = some (.lst (as.map V.ref))) (hq : H q = some (.lst (as2.map V.ref))) (hm : MvsAt H as ms) (hm2 : MvsAt H as2 ms) (hl : ms.length ≤ 100000) (h : Q (.bl true) H) : spSameMoves [.ref p, .ref q] H Q E := ⟨p, q, as, as2, ms, rfl, hp, hq, hm, hm2, hl, h⟩
def spTold : Sp := fun vs H Q _ => ∃ (p x : Addr) (as : List Addr) (ms : List Mv) (m : Mv), vs = [.ref p, .ref x] ∧ H p = some (.lst (as.map V.ref)) ∧ MvsAt H as ms ∧ H x = some (.tup m.vs) ∧ ms.length ≤ 100000 ∧ ∀ (l : Addr) (H' : Hp), Same H H' → H l = none → H' l = some (.lst ((insA (posM m ms) x as).map V.ref)) → Q (.ref l) H'
theorem c_told {H : Hp} {p x : Addr} {as : List Addr} {ms : List Mv} {m : Mv} {Q : VK} {E : XK} (hp : H p = some (.lst (as.map V.ref))) (hm : MvsAt H as ms) (hx : H x = some (.tup m.vs)) (hl : ms.length ≤ 100000) (h : ∀ (l : Addr) (H' : Hp), Same H H' → H l = none → H' l = some (.lst ((insA (posM m ms) x as).map V.ref)) → Q (.ref l) H') : spTold [.ref p, .ref x] H Q E := ⟨p, x, as, ms, m, rfl, hp, hm, hx, hl, h⟩
theorem spHear.mono {C N T X : Addr} {vs : List V} {H : Hp} {Q Q' : VK} {E E' : XK} (h : spHear C N T X vs H Q E) (hQ : ∀ b H', Q (.bl b) H' → Q' (.bl b) H') (hN : E (.ref N) none H → E' (.ref N) none H) (hT : E (.ref T) none H → E' (.ref T) none H) (hX : E (.ref X) none H → E' (.ref X) none H) : spHear C N T X vs H Q' E' := by
  obtain ⟨p, g, x, e, L, s, l, h⟩ := h
  refine ⟨p, g, x, e, L, s, l, ?_⟩
  rcases h with ⟨b, h⟩ | ⟨a, m, ex, hx, ok, h1, h2, h3, h4⟩
  · exact .inl ⟨b, hN h⟩
  · exact .inr ⟨a, m, ex, hx, ok, fun c => hT (h1 c), fun c d => hX (h2 c d), fun c d => hQ _ _ (h3 c d), fun c d => hQ _ _ (h4 c d)⟩
/-- heard, a refusal told by a text -/
def spHeard (C N T X : Addr) : Sp := fun vs H Q _ => spHear C N T X vs H Q fun v _ H' => (v = .ref N → Q (.str "no move") H') ∧ (v = .ref T → Q (.str "too late") H') ∧ (v = .ref X → Q (.str "clash") H')
/-- heard, whether it was refused -/
def spRefusedL (C N T X : Addr) : Sp := fun vs H Q _ => spHear C N T X vs H (fun _ H' => Q (.bl false) H') fun _ _ H' => Q (.bl true) H'
def clashB (m : Mv) (ms : List Mv) : Bool := ms.any fun x => decide (SameK x m) && !decide (x = m)
theorem clashB_iff {m : Mv} {ms : List Mv} : clashB m ms = true ↔ ClashM m ms := by
  unfold clashB ClashM
  rw [List.any_eq_true]
  constructor
  · rintro ⟨x, hx, h⟩
    simp at h
    exact ⟨x, hx, h.1, h.2⟩
  · rintro ⟨x, hx, h1, h2⟩
    exact ⟨x, hx, by simp [h1, h2]⟩
def spClash : Sp := fun vs H Q _ => ∃ (p x : Addr) (as : List Addr) (ms : List Mv) (m : Mv), vs = [.ref p, .ref x] ∧ H p = some (.lst (as.map V.ref)) ∧ MvsAt H as ms ∧ H x = some (.tup m.vs) ∧ ms.length ≤ 100000 ∧ ∀ H', Same H H' → Q (.bl (clashB m ms)) H'
theorem c_clash {H : Hp} {p x : Addr} {as : List Addr} {ms : List Mv} {m : Mv} {Q : VK} {E : XK} (hp : H p = some (.lst (as.map V.ref))) (hm : MvsAt H as ms) (hx : H x = some (.tup m.vs)) (hl : ms.length ≤ 100000) (h : ∀ H', Same H H' → Q (.bl (clashB m ms)) H') : spClash [.ref p, .ref x] H Q E := ⟨p, x, as, ms, m, rfl, hp, hm, hx, hl, h⟩
def spAnswer : Sp := fun vs H Q _ => ∃ x : V, vs = [x, x] ∧ ((∃ b, x = .bl b) ∨ ∃ z, x = .str z) ∧ Q (.bl true) H
theorem c_answer {H : Hp} {x : V} {Q : VK} {E : XK} (hx : (∃ b, x = .bl b) ∨ ∃ z, x = .str z) (h : Q (.bl true) H) : spAnswer [x, x] H Q E := ⟨x, rfl, hx, h⟩
end Tm
namespace Tm
open PySem PySem.Spec PyProof.Rows L2
/-! pairs that are held to the end -/
section
variable {K : PySem.W.Frag} {ex : List Addr} {H H' H2 : Hp}
/-- nothing but what lies in ex is changed -/
def Kx (ex : List Addr) (H H' : Hp) : Prop := ∀ b o, b ∉ ex → H b = some o → H' b = some o
theorem Kx.refl : Kx ex H H := fun _ _ _ e => e
theorem Kx.of (s : Same H H') : Kx ex H H' := fun b o _ e => s b o e
theorem Kx.ofP {p : Addr} (hp : p ∈ ex) (s : SameP p H H') : Kx ex H H' := fun b o n e => s b o (fun z => n (z.symm ▸ hp)) e
theorem Kx.trans (s : Kx ex H H') (s2 : Kx ex H' H2) : Kx ex H H2 := fun b o n e => s2 b o n (s b o n e)
theorem Kx.mut {p : Addr} {o : HO} (hp : p ∈ ex) (s : Kx ex H H') : Kx ex H (upd H' p o) := fun b u n e => by
  rw [upd_ne (show b ≠ p from fun z => n (z.symm ▸ hp))]
  exact s b u n e
theorem Kx.new {p : Addr} {o : HO} (hp : H' p = none) (s : Kx ex H H') : Kx ex H (upd H' p o) := fun b u n e => keep (s b u n e) hp
theorem Kx.lo {ex' : List Addr} (s : Kx ex' H H') (e : ∀ b ∈ ex', b ∈ ex ∨ H b = none) : Kx ex H H' := fun b o n eb => s b o (fun hb => by
  rcases e b hb with z | z
  · exact n z
  · rw [z] at eb; cases eb) eb
/-- x != y of two things that are the same -/
def rNeX (K : PySem.W.Frag) : R2 := fun x y H Q => rNeD K x y H Q ∨ rNeDA x y H Q
theorem op_neX {X : Cx} (hu : X.A.units + 64 < cLine) : OpR X (compareOp .NotEq) (rNeX X.K) := by
  intro pins s σ H x y v u Q I rx ry h
  rcases h with h | h
  · exact op_neD hu pins s σ H x y v u Q I rx ry h
  · exact op_ne_dictA (by omega) pins s σ H x y v u Q I rx ry h
def PairAt (K : PySem.W.Frag) (H : Hp) (a : Addr) : Prop := ∃ x y, H a = some (.tup [.ref x, .ref y]) ∧ ∀ Q : VK, Q (.bl false) H → rNeX K (.ref x) (.ref y) H Q
def Held (K : PySem.W.Frag) (ex : List Addr) (H : Hp) (hs : List Addr) : Prop := ∀ a ∈ hs, ∀ H', Kx ex H H' → PairAt K H' a
theorem Held.nil : Held K ex H [] := fun _ h => nomatch h
theorem Held.keep {hs : List Addr} (h : Held K ex H hs) (k : Kx ex H H') : Held K ex H' hs := fun a ha H2 k2 => h a ha H2 (k.trans k2)
theorem Held.snoc {hs : List Addr} {a : Addr} (h : Held K ex H hs) (n : ∀ H', Kx ex H H' → PairAt K H' a) : Held K ex H (hs ++ [a]) := fun b hb H' k => by
  rcases List.mem_append.mp hb with z | z
  · exact h b z H' k
  · rw [List.mem_singleton.mp z]
    exact n H' k
theorem Held.lo {ex' : List Addr} {hs : List Addr} (h : Held K ex H hs) (e : ∀ b ∈ ex', b ∈ ex ∨ H b = none) : Held K ex' H hs := fun a ha H' k => h a ha H' (k.lo e)
/-- two lists of the same data -/
theorem pair_data {a x y : Addr} {d : PyData} (ha : H a = some (.tup [.ref x, .ref y])) (hx : Dp K H (.ref x) d) (hy : Dp K H (.ref y) d) (sh : SeqAt.shaped d = true) (eq : PyData.eqv d d = true) : PairAt K H a :=
  ⟨x, y, ha, fun Q q => .inl ⟨d, d, hx, hy, sh, sh, by rw [eq]; exact q⟩⟩
end
/-- moves and None behind them -/
theorem dp_mvsN {K : PySem.W.Frag} {H : Hp} {x : Addr} {as : List Addr} {ms : List Mv} (hx : H x = some (.lst (as.map V.ref ++ [.non]))) (hm : MvsAt H as ms) : Dp K H (.ref x) (.list (ms.map Mv.d ++ [.none])) := by
  refine .lst (SqL.of hx) ?_
  have : ∀ {as : List Addr} {ms : List Mv}, MvsAt H as ms → DpAll K H (as.map V.ref ++ [.non]) (ms.map Mv.d ++ [.none]) := by
    intro as
    induction as with
    | nil =>
      intro ms h
      cases ms with
      | nil => exact .cons .non .nil
      | cons _ _ => cases h
    | cons a as ih =>
      intro ms h
      cases ms with
      | nil => cases h
      | cons m ms =>
        unfold MvsAt at h
        simp only [List.map_cons, List.cons.injEq] at h
        exact .cons (Mv.dp h.1) (ih h.2)
  exact this hm
theorem sh_mvsN (ms : List Mv) : SeqAt.shaped (.list (ms.map Mv.d ++ [.none])) = true := by
  have h1 : ∀ ms : List Mv, PyData.canLayAll0 (ms.map Mv.d ++ [.none]) = true ∧ PyData.depthAll (ms.map Mv.d ++ [.none]) ≤ 1 := by
    intro ms
    induction ms with
    | nil => simp [PyData.canLayAll0, PyData.canLay0, PyData.depthAll, PyData.depth]
    | cons m r ih =>
      obtain ⟨i1, i2⟩ := ih
      refine ⟨by simp [PyData.canLayAll0, i1, Mv.d, PyData.canLay0], ?_⟩
      simp [PyData.depthAll, Mv.d, PyData.depth]
      omega
  obtain ⟨i1, i2⟩ := h1 ms
  show (PyData.canLay0 (.list _) && decide (PyData.depth (.list _) ≤ 64)) = true
  rw [Bool.and_eq_true]
  refine ⟨by simp only [PyData.canLay0]; exact i1, decide_eq_true ?_⟩
  simp only [PyData.depth]
  omega
theorem eqv_mvsN (ms : List Mv) : PyData.eqv (.list (ms.map Mv.d ++ [.none])) (.list (ms.map Mv.d ++ [.none])) = true := by
  have : ∀ ms : List Mv, PyData.eqvAll (ms.map Mv.d ++ [.none]) (ms.map Mv.d ++ [.none]) = true := by
    intro ms
    induction ms with
    | nil => simp [PyData.eqvAll, PyData.eqv]
    | cons m r ih =>
      have e : PyData.eqv m.d m.d = true := by rw [Mv.eqv]; simp
      simp [PyData.eqvAll, ih, e]
  simp only [PyData.eqv]
  exact this ms
/-! what is no move -/
theorem BadMv.of {H H' : Hp} {x : V} (s : Same H H') (h : BadMv H x) : BadMv H' x := by
  rcases h with ⟨p, xs, e, hp, hk, hb⟩ | ⟨hk, hn⟩
  · exact .inl ⟨p, xs, e, s _ _ hp, fun y hy => (hk y hy).same s, hb⟩
  · refine .inr ⟨hk.same s, fun p xs e c => ?_⟩
    subst e
    rcases hk with ⟨ys, z⟩ | ⟨ys, z⟩ | ⟨ys, z⟩
    · rw [s _ _ z] at c; cases c
    · exact hn p ys rfl z
    · rw [s _ _ z] at c; cases c
theorem bad_non {H : Hp} : BadMv H .non := .inr ⟨trivial, fun _ _ e => nomatch e⟩
theorem bad_str {H : Hp} {z : Str} : BadMv H (.str z) := .inr ⟨trivial, fun _ _ e => nomatch e⟩
theorem bad_int {H : Hp} {z : Int} : BadMv H (.int z) := .inr ⟨trivial, fun _ _ e => nomatch e⟩
theorem bad_lst {H : Hp} {a : Addr} {xs : List V} (h : H a = some (.lst xs)) : BadMv H (.ref a) := .inr ⟨.inl ⟨xs, h⟩, fun p ys e c => by cases e; rw [h] at c; cases c⟩
theorem bad_dict {H : Hp} {a : Addr} {xs : List (Key × V)} (h : H a = some (.dK xs)) : BadMv H (.ref a) := .inr ⟨.inr (.inr ⟨xs, h⟩), fun p ys e c => by cases e; rw [h] at c; cases c⟩
theorem bad_tup {H : Hp} {a : Addr} {xs : List V} (h : H a = some (.tup xs)) (hk : ∀ y ∈ xs, KnownV H y) (hb : moveB xs = false) : BadMv H (.ref a) := .inl ⟨a, xs, rfl, h, hk, hb⟩
theorem mem_cutV {xs : List V} {lo hi : Option Int} {y : V} (h : y ∈ cutV xs lo hi) : y ∈ xs := by
  unfold cutV at h
  exact List.mem_of_mem_drop (List.mem_of_mem_take h)
theorem wrong_at {p i : Int} (hp : 0 ≤ p ∧ p < 4) (hi : 0 ≤ i ∧ i < 8) : ∃ x, atI [V.int (0 - p % 2), .int (E60 + 1), .bl true, .str "1", .non, .bl false, .int (E60 * 1000), .int (0 - E60)] i = some x ∧ (∀ H, KnownV H x) ∧
    ∀ m : Mv, moveB (cutV m.vs none (some p) ++ [x] ++ cutV m.vs (some (p + 1)) none) = false := by
  have hp' : p = 0 ∨ p = 1 ∨ p = 2 ∨ p = 3 := by omega
  have hi' : i = 0 ∨ i = 1 ∨ i = 2 ∨ i = 3 ∨ i = 4 ∨ i = 5 ∨ i = 6 ∨ i = 7 := by omega
  rcases hp' with rfl | rfl | rfl | rfl <;> rcases hi' with rfl | rfl | rfl | rfl | rfl | rfl | rfl | rfl <;>
    exact ⟨_, rfl, fun _ => trivial, fun m => by
      first
        | (show moveB [_, .int m.h, .int m.f, .int m.u] = false; simp [moveB, isW, E60]; done)
        | (show moveB [.int m.t, _, .int m.f, .int m.u] = false; simp [moveB, isW, E60]; done)
        | (show moveB [.int m.t, .int m.h, _, .int m.u] = false; simp [moveB, isW, E60]; done)
        | (show moveB [.int m.t, .int m.h, .int m.f, _] = false; simp [moveB, isW, E60]; done)
        | (simp [cutV, moveB, isW, E60, Mv.vs]; done)⟩
def spWrong : Sp := fun vs H Q _ => ∃ (p : Addr) (m : Mv) (cell : Int), vs = [.ref p, .int cell] ∧ H p = some (.tup m.vs) ∧ ∀ x H', Same H H' → BadMv H' x → Q x H'
theorem c_wrong {H : Hp} {p : Addr} {m : Mv} {cell : Int} {Q : VK} {E : XK} (hp : H p = some (.tup m.vs)) (h : ∀ x H', Same H H' → BadMv H' x → Q x H') : spWrong [.ref p, .int cell] H Q E := ⟨p, m, cell, rfl, hp, h⟩
/-- what is drawn: a move, or what is none -/
def DrawnV (H : Hp) (deed : Int) (x : V) : Prop := (deed % 16 = 7 ∧ BadMv H x) ∨ (¬ deed % 16 = 7 ∧ ∃ (a : Addr) (m : Mv), x = .ref a ∧ H a = some (.tup m.vs) ∧ m.Ok)
def spDrawn : Sp := fun vs H Q _ => ∃ (k : Addr) (as : List Addr) (ms : List Mv) (deed cell second : Int), vs = [.ref k, .int deed, .int cell, .int second] ∧ H k = some (.lst (as.map V.ref)) ∧ MvsAt H as ms ∧ (∀ m ∈ ms, m.Ok) ∧ ms.length ≤ 100000 ∧ DeedOk deed ∧
  ∀ x H', Same H H' → DrawnV H' deed x → Q x H'
def dueV (since : Int) (m : Mv) (ms : List Mv) : V := if m.t < since then .str "too late" else if clashB m ms = true then .str "clash" else .bl (!decide (m ∈ ms))
def spDueOf : Sp := fun vs H Q _ => ∃ (k : Addr) (as : List Addr) (ms : List Mv) (since deed : Int) (x : V), vs = [.ref k, .int since, x, .int deed] ∧ H k = some (.lst (as.map V.ref)) ∧ MvsAt H as ms ∧ ms.length ≤ 100000 ∧
  ((deed % 16 = 7 ∧ Q (.str "no move") H) ∨ (¬ deed % 16 = 7 ∧ ∃ (a : Addr) (m : Mv), x = .ref a ∧ H a = some (.tup m.vs) ∧ ∀ H', Same H H' → Q (dueV since m ms) H'))
def spAsKept (K : PySem.W.Frag) (C : Addr) : Sp := fun vs H Q _ => ∃ (p k hl : Addr) (g : Lg) (as : List Addr) (hs : List Addr), vs = [.ref p, .ref k, .int g.s, .ref hl] ∧ LogAt C H p g ∧ H k = some (.lst (as.map V.ref)) ∧ MvsAt H as g.ms ∧ H hl = some (.lst (hs.map V.ref)) ∧ g.ms.length ≤ 100000 ∧ hs.length ≤ 100000 ∧ 0 ≤ g.s ∧
  ∀ a H', SameP hl H H' → H' hl = some (.lst ((hs ++ [a]).map V.ref)) → (∀ H2, Kx [p, g.l, hl] H' H2 → PairAt K H2 a) → Q (.bl true) H'
end Tm
namespace Tm
open PySem PySem.Spec PyProof.Rows L2
/-! what a log comes to: its tree, its steps -/
theorem MvsAt.get {H : Hp} {as : List Addr} {ms : List Mv} (h : MvsAt H as ms) {i : Nat} {x : V} (e : (as.map V.ref)[i]? = some x) : ∃ y n, x = .ref y ∧ as[i]? = some y ∧ ms[i]? = some n ∧ H y = some (.tup n.vs) := by
  rw [List.getElem?_map] at e
  cases z : as[i]? with
  | none => rw [z] at e; cases e
  | some y =>
    rw [z] at e
    cases e
    obtain ⟨n, hn, hy⟩ := h.at_a z
    exact ⟨y, n, rfl, rfl, hn, hy⟩
theorem take_at {α : Type} {l : List α} {i : Nat} {n : α} (h : l[i]? = some n) : l.take (i + 1) = l.take i ++ [n] := by
  rw [List.take_succ, h]
  rfl
def spLogTree (C : Addr) : Sp := fun vs H Q _ => ∃ (p : Addr) (g : Lg), vs = [.ref p] ∧ LogAt C H p g ∧ Acyc g.t ∧ g.t.length + g.as.length ≤ 100000 ∧ ∀ d H', H d = none → Same H H' → H' d = some (.dK (enc (foldT g.t g.ms))) → Q (.ref d) H'
theorem c_logTree {C : Addr} {H : Hp} {p : Addr} {g : Lg} {Q : VK} {E : XK} (L : LogAt C H p g) (hA : Acyc g.t) (hl : g.t.length + g.as.length ≤ 100000) (h : ∀ d H', H d = none → Same H H' → H' d = some (.dK (enc (foldT g.t g.ms))) → Q (.ref d) H') : spLogTree C [.ref p] H Q E := ⟨p, g, rfl, L, hA, hl, h⟩
def spFold : Sp := fun vs H Q _ => ∃ (d l : Addr) (t : Tr) (as : List Addr) (ms : List Mv), vs = [.ref d, .ref l] ∧ H d = some (.dK (enc t)) ∧ H l = some (.lst (as.map V.ref)) ∧ MvsAt H as ms ∧ Acyc t ∧ t.length + ms.length ≤ 100000 ∧
  ∀ d' H', H d' = none → Same H H' → H' d' = some (.dK (enc (foldT t ms))) → Q (.ref d') H'
theorem c_fold {H : Hp} {d l : Addr} {t : Tr} {as : List Addr} {ms : List Mv} {Q : VK} {E : XK} (hd : H d = some (.dK (enc t))) (hl : H l = some (.lst (as.map V.ref))) (hm : MvsAt H as ms) (hA : Acyc t) (hn : t.length + ms.length ≤ 100000)
    (h : ∀ d' H', H d' = none → Same H H' → H' d' = some (.dK (enc (foldT t ms))) → Q (.ref d') H') : spFold [.ref d, .ref l] H Q E := ⟨d, l, t, as, ms, rfl, hd, hl, hm, hA, hn, h⟩
/-- the place of a number -/
def ixO (f : Int) : List Int → Nat
  | [] => 0
  | x :: r => if x = f then 0 else ixO f r + 1
theorem ixO_at {f : Int} : ∀ {l : List Int}, f ∈ l → l[ixO f l]? = some f
  | x :: r, h => by
    unfold ixO
    by_cases c : x = f
    · rw [if_pos c]
      simp [c]
    · rw [if_neg c]
      have := ixO_at (l := r) (by rcases List.mem_cons.mp h with e | e; exact (c e.symm).elim; exact e)
      simpa using this
theorem ixO_ne {f : Int} : ∀ {l : List Int} {i : Nat} {z : Int}, i < ixO f l → l[i]? = some z → z ≠ f
  | [], i, z, h, e => by simp at e
  | x :: r, i, z, h, e => by
    unfold ixO at h
    by_cases c : x = f
    · rw [if_pos c] at h
      omega
    · rw [if_neg c] at h
      cases i with
      | zero =>
        simp at e
        exact e ▸ c
      | succ i => exact ixO_ne (l := r) (i := i) (by omega) (by simpa using e)
theorem ixO_lt {f : Int} {l : List Int} (h : f ∈ l) : ixO f l < l.length := (List.getElem?_eq_some_iff.mp (ixO_at h)).1
def upTo (f : Int) (l : List Int) : List Int := l.take (ixO f l + 1)
theorem upTo_length {f : Int} {l : List Int} (h : f ∈ l) : (upTo f l).length = ixO f l + 1 := by
  have := ixO_lt h
  unfold upTo
  rw [List.length_take]
  omega
theorem eqV_int (x y : Int) : eqV (.int x) (.int y) = decide (x = y) := by
  show (x == y) = decide (x = y)
  by_cases c : x = y <;> simp [c]
theorem r_idx {K : PySem.W.Frag} {H : Hp} {Q : VK} {p : Addr} {xs : List Int} {f : Int} (hs : SqL K H p (xs.map V.int)) (hf : f ∈ xs) (h : Q (.int (ixO f xs : Nat)) H) : rIndex K (.ref p) [.int f] H Q := by
  refine ⟨p, xs.map V.int, .int f, ixO f xs, .int f, rfl, rfl, hs, rfl, flat_ints _, by rw [List.getElem?_map, ixO_at hf]; rfl, by rw [eqV_int]; simp, ?_, h⟩
  intro m z' hm hz
  rw [List.getElem?_map] at hz
  cases e : xs[m]? with
  | none => rw [e] at hz; cases hz
  | some y =>
    rw [e] at hz
    cases hz
    rw [eqV_int]
    exact decide_eq_false (ixO_ne hm e)
theorem cutL_to {α : Type} {xs : List α} {n : Nat} (h : n ≤ xs.length) : cutL xs none (some (n : Int)) = xs.take n := by
  unfold cutL
  rw [HT.sIx_none, HT.sIx_nat, Nat.min_eq_left h]
  simp
theorem cutL_up {f : Int} {l : List Int} (h : f ∈ l) : cutL l none (some ((ixO f l : Nat) + 1 : Int)) = upTo f l := by
  have := ixO_lt h
  exact cutL_to (n := ixO f l + 1) (by omega)
noncomputable def w1 (t : Tr) (m : Mv) : List Int := if m.f ∈ way t m.u then upTo m.f (way t m.u) else []
noncomputable def stepW : Tr → List Mv → List (List Int)
  | _, [] => []
  | t, m :: r => w1 t m :: stepW (putT t m.f m.u) r
theorem stepW_snoc (t : Tr) (ms : List Mv) (m : Mv) : stepW t (ms ++ [m]) = stepW t ms ++ [w1 (foldT t ms) m] := by
  induction ms generalizing t with
  | nil => rfl
  | cons x r ih =>
    show w1 t x :: stepW (putT t x.f x.u) (r ++ [m]) = _
    rw [ih]
    rfl
theorem stepW_length : ∀ (t : Tr) (ms : List Mv), (stepW t ms).length = ms.length
  | _, [] => rfl
  | t, m :: r => by simp [stepW, stepW_length _ r]
/-- a row of the steps: where it lies, and what it says -/
structure Row where
  r : Addr
  a : Addr
  w : Addr
  m : Mv
  l : List Int
def RowAt (H : Hp) (x : Row) : Prop := H x.r = some (.tup [.ref x.a, .ref x.w]) ∧ H x.a = some (.tup x.m.vs) ∧ H x.w = some (.lst (x.l.map V.int))
theorem RowAt.same {H H' : Hp} {x : Row} (h : RowAt H x) (s : Same H H') : RowAt H' x := ⟨s _ _ h.1, s _ _ h.2.1, s _ _ h.2.2⟩
theorem RowAt.mut {H : Hp} {x : Row} {p : Addr} {o : HO} (h : RowAt H x) (hp : ∀ vs, H p ≠ some (.tup vs)) (n : x.w ≠ p) : RowAt (upd H p o) x :=
  ⟨keep_ne h.1 fun e => hp _ (e ▸ h.1), keep_ne h.2.1 fun e => hp _ (e ▸ h.2.1), keep_ne h.2.2 n⟩
/-- rows of moves with ways, the ways' lists new since H0 -/
structure RowsAt (H0 H : Hp) (F : Addr) (rows : List Row) (ms : List Mv) (ws : List (List Int)) : Prop where
  at_ : ∀ x ∈ rows, RowAt H x
  m : rows.map (·.m) = ms
  l : rows.map (·.l) = ws
  nd : (rows.map (·.w)).Nodup
  new : ∀ x ∈ rows, H0 x.w = none ∧ H0 x.r = none ∧ x.w ≠ F
theorem RowsAt.same {H0 H H' : Hp} {F : Addr} {rows : List Row} {ms : List Mv} {ws : List (List Int)} (h : RowsAt H0 H F rows ms ws) (s : Same H H') : RowsAt H0 H' F rows ms ws := ⟨fun x hx => (h.at_ x hx).same s, h.m, h.l, h.nd, h.new⟩
theorem RowsAt.mut {H0 H : Hp} {F p : Addr} {o : HO} {rows : List Row} {ms : List Mv} {ws : List (List Int)} (h : RowsAt H0 H F rows ms ws) (hp : ∀ vs, H p ≠ some (.tup vs)) (n : ∀ x ∈ rows, x.w ≠ p) : RowsAt H0 (upd H p o) F rows ms ws := ⟨fun x hx => (h.at_ x hx).mut hp (n x hx), h.m, h.l, h.nd, h.new⟩
theorem RowsAt.nil {H0 H : Hp} {F : Addr} : RowsAt H0 H F [] [] [] := ⟨fun _ h => (by cases h), rfl, rfl, List.nodup_nil, fun _ h => (by cases h)⟩
theorem RowsAt.snoc {H0 H : Hp} {F : Addr} {rows : List Row} {ms : List Mv} {ws : List (List Int)} (h : RowsAt H0 H F rows ms ws) {x : Row} (hx : RowAt H x) (h0 : H0 x.w = none) (hr : H0 x.r = none) (hf : x.w ≠ F) (hn : ∀ y ∈ rows, y.w ≠ x.w) : RowsAt H0 H F (rows ++ [x]) (ms ++ [x.m]) (ws ++ [x.l]) := by
  refine ⟨fun y hy => ?_, by rw [List.map_append, h.m]; rfl, by rw [List.map_append, h.l]; rfl, ?_, fun y hy => ?_⟩
  · rcases List.mem_append.mp hy with z | z
    · exact h.at_ y z
    · rw [List.mem_singleton.mp z]
      exact hx
  · rw [List.map_append, List.nodup_append]
    refine ⟨h.nd, by simp, fun a ha b hb => ?_⟩
    obtain ⟨y, hy, e⟩ := List.mem_map.mp ha
    simp at hb
    rw [← e, hb]
    exact hn y hy
  · rcases List.mem_append.mp hy with z | z
    · exact h.new y z
    · rw [List.mem_singleton.mp z]
      exact ⟨h0, hr, hf⟩
theorem RowsAt.length {H0 H : Hp} {F : Addr} {rows : List Row} {ms : List Mv} {ws : List (List Int)} (h : RowsAt H0 H F rows ms ws) : rows.length = ms.length := by rw [← h.m, List.length_map]
theorem RowsAt.get {H0 H : Hp} {F : Addr} {rows : List Row} {ms : List Mv} {ws : List (List Int)} (h : RowsAt H0 H F rows ms ws) {i : Nat} (hi : i < ms.length) : ∃ x, rows[i]? = some x ∧ ms[i]? = some x.m ∧ ws[i]? = some x.l ∧ atI (rows.map fun x => V.ref x.r) (i : Int) = some (.ref x.r) ∧ RowAt H x := by
  have hi2 : i < rows.length := by rw [h.length]; exact hi
  obtain ⟨x, e⟩ : ∃ x, rows[i]? = some x := ⟨_, List.getElem?_eq_getElem hi2⟩
  refine ⟨x, e, ?_, ?_, atI_nat (by rw [List.getElem?_map, e]; rfl), h.at_ _ (List.mem_of_getElem? e)⟩
  · have z := congrArg (·[i]?) h.m
    simp only [List.getElem?_map, e] at z
    exact z.symm
  · have z := congrArg (·[i]?) h.l
    simp only [List.getElem?_map, e] at z
    exact z.symm
theorem RowsAt.add {H0 H' Hk : Hp} {F r y w : Addr} {n : Mv} {l : List Int} {xs : List V} {o : HO} {rows : List Row} {ms : List Mv} {ws : List (List Int)} (R : RowsAt H0 H' F rows ms ws) (s0 : Same H0 H') (s : Same H' Hk) (er : Hk r = some (.tup [.ref y, .ref w])) (ey : Hk y = some (.tup n.vs)) (ew : Hk w = some (.lst (l.map V.int)))
    (fw : H' w = none) (fr : H' r = none) (hF : H' F = some (.lst xs)) : RowsAt H0 (upd Hk F o) F (rows ++ [⟨r, y, w, n, l⟩]) (ms ++ [n]) (ws ++ [l]) := by
  have nw : w ≠ F := fun z => by rw [z, hF] at fw; cases fw
  have R1 := (R.same s).snoc (x := ⟨r, y, w, n, l⟩) ⟨er, ey, ew⟩ (s0.free fw) (s0.free fr) nw fun x hx z => by
    have e := (R.at_ x hx).2.2
    rw [z, fw] at e
    cases e
  exact R1.mut (fun vs e => by rw [s _ _ hF] at e; cases e) fun x hx => (R1.new x hx).2.2
theorem RowsAt.dict {H0 H : Hp} {F D : Addr} {kvs : List (Key × V)} {o : HO} {rows : List Row} {ms : List Mv} {ws : List (List Int)} (R : RowsAt H0 H F rows ms ws) (hD : H D = some (.dK kvs)) : RowsAt H0 (upd H D o) F rows ms ws :=
  R.mut (fun vs e => by rw [hD] at e; cases e) fun x hx z => by
    have e := (R.at_ x hx).2.2
    rw [z, hD] at e
    cases e
theorem w1_in {t : Tr} {m : Mv} (h : m.f ∈ way t m.u) : w1 t m = upTo m.f (way t m.u) := if_pos h
theorem w1_out {t : Tr} {m : Mv} (h : ¬ m.f ∈ way t m.u) : w1 t m = [] := if_neg h
def rowV (x : Row) : V := .ref x.r
def spSteps (C : Addr) : Sp := fun vs H Q _ => ∃ (p : Addr) (g : Lg), vs = [.ref p] ∧ LogAt C H p g ∧ Acyc g.t ∧ g.t.length + g.as.length ≤ 100000 ∧
  ∀ F rows H', H F = none → Same H H' → H' F = some (.lst (rows.map rowV)) → RowsAt H H' F rows g.ms (stepW g.t g.ms) → Q (.ref F) H'
theorem c_steps {C : Addr} {H : Hp} {p : Addr} {g : Lg} {Q : VK} {E : XK} (L : LogAt C H p g) (hA : Acyc g.t) (hl : g.t.length + g.as.length ≤ 100000) (h : ∀ F rows H', H F = none → Same H H' → H' F = some (.lst (rows.map rowV)) → RowsAt H H' F rows g.ms (stepW g.t g.ms) → Q (.ref F) H') : spSteps C [.ref p] H Q E := ⟨p, g, rfl, L, hA, hl, h⟩
/-- a move that is new -/
theorem c_hearNew {C N T X : Addr} {H : Hp} {p a : Addr} {g : Lg} {m : Mv} {Q : VK} {E : XK} (L : LogAt C H p g) (S : Srt g.ms) (hl : g.as.length ≤ 100000) (hx : H a = some (.tup m.vs)) (ok : m.Ok) (hs : g.s ≤ m.t) (hn : NewM m g.ms)
    (h : ∀ H', H' = upd H g.l (.lst ((g.heard a m).as.map V.ref)) → Q (.bl true) H') : spHear C N T X [.ref p, .ref a] H Q E :=
  ⟨p, g, _, rfl, L, S, hl, .inr ⟨a, m, rfl, hx, ok, fun c => absurd c (by omega), fun _ c => (new_not_clash hn c).elim, fun _ c => (new_not_mem hn c).elim, fun _ _ => h _ rfl⟩⟩
/-- the law's own steps: from no folder on -/
def spStepsOf0 : Sp := fun vs H Q _ => ∃ (l : Addr) (as : List Addr) (ms : List Mv), vs = [.ref l] ∧ H l = some (.lst (as.map V.ref)) ∧ MvsAt H as ms ∧ ms.length ≤ 100000 ∧
  ∀ F rows H', H F = none → Same H H' → H' F = some (.lst (rows.map rowV)) → RowsAt H H' F rows ms (stepW [] ms) → Q (.ref F) H'
def spStepsOf : Sp := fun vs H Q _ => ∃ (d l : Addr) (t : Tr) (as : List Addr) (ms : List Mv), vs = [.ref d, .ref l] ∧ H d = some (.dK (enc t)) ∧ H l = some (.lst (as.map V.ref)) ∧ MvsAt H as ms ∧ Acyc t ∧ t.length + ms.length ≤ 100000 ∧
  ∀ F rows H', H F = none → Same H H' → H' F = some (.lst (rows.map rowV)) → RowsAt H H' F rows ms (stepW t ms) → Q (.ref F) H'
/-- two lists of steps that say the same -/
def spSameSteps : Sp := fun vs H Q _ => ∃ (f d : Addr) (rows rows2 : List Row) (ms : List Mv) (ws : List (List Int)), vs = [.ref f, .ref d] ∧ H f = some (.lst (rows.map rowV)) ∧ H d = some (.lst (rows2.map rowV)) ∧ (∀ x ∈ rows, RowAt H x) ∧ (∀ x ∈ rows2, RowAt H x) ∧
  rows.map (·.m) = ms ∧ rows2.map (·.m) = ms ∧ rows.map (·.l) = ws ∧ rows2.map (·.l) = ws ∧ ms.length ≤ 100000 ∧ (∀ l ∈ ws, l.length ≤ 100000) ∧ ∀ H', Same H H' → Q (.bl true) H'
end Tm
namespace Tm
open PySem PySem.Spec PyProof.Rows L2
/-- k10: the law's own look at steps -/
def spLawSteps : Sp := fun vs H Q _ => ∃ (f l : Addr) (rows : List Row) (as : List Addr) (ms : List Mv), vs = [.ref f, .ref l] ∧ H f = some (.lst (rows.map rowV)) ∧ (∀ x ∈ rows, RowAt H x) ∧ rows.map (·.m) = ms ∧ rows.map (·.l) = stepW [] ms ∧ H l = some (.lst (as.map V.ref)) ∧ MvsAt H as ms ∧ ms.length ≤ 10000 ∧
  ∀ H', Same H H' → Q (.bl true) H'
theorem c_lawSteps {H : Hp} {f l : Addr} {rows : List Row} {as : List Addr} {ms : List Mv} {Q : VK} {E : XK} (hf : H f = some (.lst (rows.map rowV))) (hr : ∀ x ∈ rows, RowAt H x) (h1 : rows.map (·.m) = ms) (h2 : rows.map (·.l) = stepW [] ms) (hl : H l = some (.lst (as.map V.ref))) (hm : MvsAt H as ms) (hn : ms.length ≤ 10000) (h : ∀ H', Same H H' → Q (.bl true) H') : spLawSteps [.ref f, .ref l] H Q E :=
  ⟨f, l, rows, as, ms, rfl, hf, hr, h1, h2, hl, hm, hn, h⟩
theorem stepW_at {t : Tr} {ms : List Mv} {i : Nat} {n : Mv} (h : ms[i]? = some n) : (stepW t ms)[i]? = some (w1 (foldT t (ms.take i)) n) := by
  have e : ms = ms.take i ++ n :: ms.drop (i + 1) := by
    obtain ⟨hi, e⟩ := List.getElem?_eq_some_iff.mp h
    rw [← e, ← List.drop_eq_getElem_cons hi, List.take_append_drop]
  have app : ∀ (a b : List Mv) (t : Tr), stepW t (a ++ b) = stepW t a ++ stepW (foldT t a) b := by
    intro a
    induction a with
    | nil => intro b t; rfl
    | cons x r ih =>
      intro b t
      show w1 t x :: stepW (putT t x.f x.u) (r ++ b) = _
      rw [ih]
      rfl
  have hi : i < ms.length := (List.getElem?_eq_some_iff.mp h).1
  rw [e, app, List.getElem?_append_right (by rw [stepW_length, List.length_take]; omega)]
  have z : i - (stepW t (ms.take i)).length = 0 := by rw [stepW_length, List.length_take]; omega
  have z2 : (List.take i (ms.take i ++ n :: ms.drop (i + 1))) = ms.take i := by rw [← e]
  rw [z, z2]
  rfl
theorem w1_length {t : Tr} (h : Acyc t) (m : Mv) : (w1 t m).length ≤ t.length + 1 := by
  unfold w1
  split
  · unfold upTo
    rw [List.length_take]
    have := way_length h m.u
    omega
  · simp
end Tm
namespace Tm
open PySem PySem.Spec PyProof.Rows L2
/-! moves that close no ring: each folder under what is counted ahead of it -/
def Tidy (c : Int) (m : Mv) : Prop := ∃ i : Nat, i ≤ 100 ∧ m.f = nameF i c ∧ (m.u = 0 ∨ Told c i m.u)
def LvT (c : Int) (t : Tr) : Prop := ∀ k u, lk t k = some u → ∃ i : Nat, i ≤ 100 ∧ k = nameF i c ∧ (u = 0 ∨ Told c i u)
theorem LvT.nil {c : Int} : LvT c [] := fun _ _ h => nomatch h
theorem LvT.put {c : Int} {t : Tr} (h : LvT c t) {m : Mv} (hm : Tidy c m) : LvT c (pt t m.f m.u) := by
  intro k u e
  rw [lk_pt] at e
  by_cases z : k = m.f
  · rw [if_pos z] at e
    obtain ⟨i, hi, hf, hu⟩ := hm
    cases e
    exact ⟨i, hi, by rw [z, hf], hu⟩
  · rw [if_neg z] at e
    exact h k u e
theorem name_ne0 {c : Int} {i : Nat} (hi : i ≤ 100) : nameF i c ≠ 0 := by
  have := name_pos (k := i) (c := c) (by omega) (by omega)
  omega
theorem lv_path {c : Int} {t : Tr} (h : LvT c t) {u : Int} {l : List Int} (p : Path t u l) {i : Nat} (hi : i ≤ 100) (hu : u = 0 ∨ Told c i u) : ∀ x ∈ l, x = 0 ∨ Told c i x := by
  induction p with
  | top _ =>
    intro x hx
    simp at hx
    subst hx
    exact hu
  | @step f v l hl _ ih =>
    intro x hx
    rcases List.mem_cons.mp hx with rfl | hx
    · exact hu
    · obtain ⟨j, hj, hf, hv⟩ := h _ _ hl
      rcases hu with z | ⟨j2, hj2, e⟩
      · exact (name_ne0 hj (hf.symm.trans z)).elim
      · have := name_inj (by omega) (by omega) (by omega) (by omega) (hf.symm.trans e)
        exact ih (hv.imp id fun z => z.mono (by omega)) x hx
theorem tidy_no_ring {c : Int} {t : Tr} (h : LvT c t) (hA : Acyc t) {m : Mv} (hm : Tidy c m) : m.f ∉ way t m.u := by
  obtain ⟨i, hi, hf, hu⟩ := hm
  intro z
  rcases lv_path h (hA.path m.u) hi hu _ z with e | e
  · exact name_ne0 hi (hf.symm.trans e)
  · rw [hf] at e
    exact Told.new hi e
/-- the last of a folder -/
def IsLast (k : Int) (m : Mv) (ms : List Mv) : Prop := m ∈ ms ∧ m.f = k ∧ ∀ x ∈ ms, x.f = k → x = m ∨ Bef x m
def NoneOf (k : Int) (ms : List Mv) : Prop := ∀ x ∈ ms, x.f ≠ k
theorem fold_last {c : Int} : ∀ (ms : List Mv) (t : Tr), LvT c t → Acyc t → (∀ m ∈ ms, Tidy c m) → Srt ms → ∀ k, (NoneOf k ms → lk (foldT t ms) k = lk t k) ∧ ∀ m, IsLast k m ms → lk (foldT t ms) k = some m.u
  | [], t, _, _, _, _, k => ⟨fun _ => rfl, fun m h => nomatch h.1⟩
  | x :: r, t, hL, hA, hT, hS, k => by
    have hx := hT x List.mem_cons_self
    have e : putT t x.f x.u = pt t x.f x.u := putT_put (tidy_no_ring hL hA hx)
    have hA' : Acyc (pt t x.f x.u) := by rw [← e]; exact hA.putT _ _
    obtain ⟨s1, s2⟩ := List.pairwise_cons.mp hS
    obtain ⟨i1, i2⟩ := fold_last r (pt t x.f x.u) (hL.put hx) hA' (fun m hm => hT m (List.mem_cons_of_mem _ hm)) s2 k
    have e2 : foldT t (x :: r) = foldT (pt t x.f x.u) r := by
      show foldT (putT t x.f x.u) r = _
      rw [e]
    rw [e2]
    refine ⟨fun hn => ?_, fun m hm => ?_⟩
    · rw [i1 fun y hy => hn y (List.mem_cons_of_mem _ hy), lk_pt, if_neg fun z => hn x List.mem_cons_self z.symm]
    · obtain ⟨h1, h2, h3⟩ := hm
      by_cases c : m ∈ r
      · exact i2 m ⟨c, h2, fun y hy => h3 y (List.mem_cons_of_mem _ hy)⟩
      · have em : m = x := (List.mem_cons.mp h1).resolve_right c
        subst em
        rw [i1 fun y hy ey => ?_, lk_pt, if_pos h2.symm]
        rcases h3 y (List.mem_cons_of_mem _ hy) ey with z | z
        · exact c (z ▸ hy)
        · exact z.asym (s1 y hy)
theorem IsLast.skip {k : Int} {m x : Mv} {ms : List Mv} (h : IsLast k x ms) (n : m.f ≠ k) : IsLast k x (insM m ms) := ⟨mem_insM.mpr (.inr h.1), h.2.1, fun y hy ey => by
  rcases mem_insM.mp hy with z | z
  · exact (n (z ▸ ey)).elim
  · exact h.2.2 y z ey⟩
theorem NoneOf.skip {k : Int} {m : Mv} {ms : List Mv} (h : NoneOf k ms) (n : m.f ≠ k) : NoneOf k (insM m ms) := fun y hy => by
  rcases mem_insM.mp hy with z | z
  · exact z ▸ n
  · exact h y z
theorem NoneOf.now {k : Int} {m : Mv} {ms : List Mv} (h : NoneOf k ms) (n : m.f = k) : IsLast k m (insM m ms) := ⟨mem_insM.mpr (.inl rfl), n, fun y hy ey => by
  rcases mem_insM.mp hy with z | z
  · exact .inl z
  · exact (h y z ey).elim⟩
theorem IsLast.now {k : Int} {m x : Mv} {ms : List Mv} (h : IsLast k x ms) (n : m.f = k) (b : Bef x m) : IsLast k m (insM m ms) := ⟨mem_insM.mpr (.inl rfl), n, fun y hy ey => by
  rcases mem_insM.mp hy with z | z
  · exact .inl z
  · rcases h.2.2 y z ey with e | e
    · exact .inr (e ▸ b)
    · exact .inr (e.trans b)⟩
theorem IsLast.stays {k : Int} {m x : Mv} {ms : List Mv} (h : IsLast k x ms) (b : Bef m x) : IsLast k x (insM m ms) := ⟨mem_insM.mpr (.inr h.1), h.2.1, fun y hy ey => by
  rcases mem_insM.mp hy with z | z
  · exact .inr (z ▸ b)
  · exact h.2.2 y z ey⟩
/-- the law's dict of the last moves' times and hands -/
def LastAt (H : Hp) (c many : Int) (kvs : List (Key × V)) (ms : List Mv) : Prop := ∀ i : Int, 0 ≤ i → i < many → (NoneOf (nameF i c) ms ∧ valV kvs (Sum.inl i) = none) ∨ ∃ x a, IsLast (nameF i c) x ms ∧ valV kvs (Sum.inl i) = some (.ref a) ∧ H a = some (.tup [.int x.t, .int x.h])
theorem LastAt.nil {H : Hp} {c many : Int} : LastAt H c many [] [] := fun _ _ _ => .inl ⟨fun _ h => (by cases h), rfl⟩
theorem LastAt.of {H H' : Hp} {c many : Int} {kvs : List (Key × V)} {ms : List Mv} (h : LastAt H c many kvs ms) (k : ∀ a vs, H a = some (.tup vs) → H' a = some (.tup vs)) : LastAt H' c many kvs ms := fun i h0 h1 => by
  rcases h i h0 h1 with z | ⟨x, a, z1, z2, z3⟩
  · exact .inl z
  · exact .inr ⟨x, a, z1, z2, k _ _ z3⟩
theorem LastAt.put {H : Hp} {c many fi : Int} {kvs : List (Key × V)} {ms : List Mv} {m : Mv} {a : Addr} (h : LastAt H c many kvs ms) (hm : many ≤ 100) (h0 : 0 ≤ fi) (h1 : fi < many) (hf : m.f = nameF fi c) (ha : H a = some (.tup [.int m.t, .int m.h])) (hb : ∀ x, IsLast (nameF fi c) x ms → Bef x m) :
    LastAt H c many (putK kvs (Sum.inl fi) (.ref a)) (insM m ms) := fun i g0 g1 => by
  rw [valV_put]
  by_cases e : i = fi
  · subst e
    rw [if_pos rfl]
    refine .inr ⟨m, a, ?_, rfl, ha⟩
    rcases h i g0 g1 with z | ⟨x, _, z, _⟩
    · exact z.1.now hf
    · exact z.now hf (hb x z)
  · rw [if_neg (fun z => e (key_inj.mp z))]
    have n : m.f ≠ nameF i c := fun z => e (name_inj g0 (by omega) h0 (by omega) (z.symm.trans hf))
    rcases h i g0 g1 with z | ⟨x, a', z, z2⟩
    · exact .inl ⟨z.1.skip n, z.2⟩
    · exact .inr ⟨x, a', z.skip n, z2⟩
theorem LastAt.stay {H : Hp} {c many fi : Int} {kvs : List (Key × V)} {ms : List Mv} {m x : Mv} (h : LastAt H c many kvs ms) (hm : many ≤ 100) (h0 : 0 ≤ fi) (h1 : fi < many) (hf : m.f = nameF fi c) (hx : IsLast (nameF fi c) x ms) (b : Bef m x) : LastAt H c many kvs (insM m ms) := fun i g0 g1 => by
  by_cases e : i = fi
  · subst e
    rcases h i g0 g1 with z | ⟨y, a, z, z2⟩
    · exact (z.1 x hx.1 hx.2.1).elim
    · refine .inr ⟨y, a, z.stays ?_, z2⟩
      rcases z.2.2 x hx.1 hx.2.1 with e | e
      · exact e ▸ b
      · exact b.trans e
  · have n : m.f ≠ nameF i c := fun z => e (name_inj g0 (by omega) h0 (by omega) (z.symm.trans hf))
    rcases h i g0 g1 with z | ⟨x, a', z, z2⟩
    · exact .inl ⟨z.1.skip n, z.2⟩
    · exact .inr ⟨x, a', z.skip n, z2⟩
def DueT (due : Tr) (ms : List Mv) : Prop := ∀ k, (NoneOf k ms ∧ lk due k = none) ∨ ∃ x, IsLast k x ms ∧ lk due k = some x.u
theorem DueT.nil : DueT [] [] := fun _ => .inl ⟨fun _ h => (by cases h), rfl⟩
theorem DueT.put {due : Tr} {ms : List Mv} {m : Mv} (h : DueT due ms) (hb : ∀ x, IsLast m.f x ms → Bef x m) : DueT (pt due m.f m.u) (insM m ms) := fun k => by
  rw [lk_pt]
  by_cases e : k = m.f
  · subst e
    rw [if_pos rfl]
    refine .inr ⟨m, ?_, rfl⟩
    rcases h m.f with z | ⟨x, z, _⟩
    · exact z.1.now rfl
    · exact z.now rfl (hb x z)
  · rw [if_neg e]
    rcases h k with z | ⟨x, z, z2⟩
    · exact .inl ⟨z.1.skip fun q => e q.symm, z.2⟩
    · exact .inr ⟨x, z.skip fun q => e q.symm, z2⟩
theorem DueT.stay {due : Tr} {ms : List Mv} {m x : Mv} (h : DueT due ms) (hx : IsLast m.f x ms) (b : Bef m x) : DueT due (insM m ms) := fun k => by
  by_cases e : k = m.f
  · subst e
    rcases h m.f with z | ⟨y, z, z2⟩
    · exact (z.1 x hx.1 hx.2.1).elim
    · refine .inr ⟨y, z.stays ?_, z2⟩
      rcases z.2.2 x hx.1 hx.2.1 with e | e
      · exact e ▸ b
      · exact b.trans e
  · rcases h k with z | ⟨x, z, z2⟩
    · exact .inl ⟨z.1.skip fun q => e q.symm, z.2⟩
    · exact .inr ⟨x, z.skip fun q => e q.symm, z2⟩
theorem DueT.same {c : Int} {due : Tr} {ms : List Mv} (h : DueT due ms) (hT : ∀ m ∈ ms, Tidy c m) (hS : Srt ms) : SameT (foldT [] ms) due := fun k => by
  obtain ⟨f1, f2⟩ := fold_last ms [] LvT.nil Acyc.nil hT hS k
  rcases h k with z | ⟨x, z, z2⟩
  · rw [f1 z.1, z.2]
    rfl
  · rw [f2 x z, z2]
/-! hands -/
def handB (i s : Int) : Int := if i = 0 then 0 else if i = 1 then 1000 else if i = 2 then 1000000 else if i = 3 then 10000000 + s % 100000000000000000000000000000000000000000000000000000000000 else E60 - 1000
def handF (k s : Int) : Int := handB (k * 3 % 5) s + k
theorem hand_ok {k s : Int} (h0 : 0 ≤ k) (h1 : k ≤ 900) : 0 ≤ handF k s ∧ handF k s ≤ E60 := by
  unfold handF handB
  simp only [E60]
  have e0 := Int.emod_nonneg s (show (100000000000000000000000000000000000000000000000000000000000 : Int) ≠ 0 by decide)
  have e1 := Int.emod_lt_of_pos s (show (0 : Int) < 100000000000000000000000000000000000000000000000000000000000 by decide)
  generalize s % 100000000000000000000000000000000000000000000000000000000000 = z at *
  repeat' split
  all_goals omega
theorem hand_inj {k j s : Int} (h0 : 0 ≤ k) (h1 : k ≤ 300) (g0 : 0 ≤ j) (g1 : j ≤ 300) (e : handF k s = handF j s) : k = j := by
  unfold handF handB at e
  simp only [E60] at e
  have e0 := Int.emod_nonneg s (show (100000000000000000000000000000000000000000000000000000000000 : Int) ≠ 0 by decide)
  have e1 := Int.emod_lt_of_pos s (show (0 : Int) < 100000000000000000000000000000000000000000000000000000000000 by decide)
  generalize s % 100000000000000000000000000000000000000000000000000000000000 = z at *
  generalize k * 3 % 5 = a at *
  generalize j * 3 % 5 = b at *
  repeat' split at e
  all_goals omega
def spHand : Sp := fun vs H Q _ => ∃ k s : Int, vs = [.int k, .int s] ∧ 0 ≤ k ∧ k ≤ 300 ∧ ∀ H', Same H H' → Q (.int (handF k s)) H'
theorem c_hand {H : Hp} {k s : Int} {Q : VK} {E : XK} (h0 : 0 ≤ k) (h1 : k ≤ 300) (h : ∀ H', Same H H' → Q (.int (handF k s)) H') : spHand [.int k, .int s] H Q E := ⟨k, s, rfl, h0, h1, h⟩
/-- two dicts that are the same -/
theorem pair_dict {K : PySem.W.Frag} {H : Hp} {a x y : Addr} {t : Tr} (ha : H a = some (.tup [.ref x, .ref y])) (hx : H x = some (.dK (enc t))) (hy : H y = some (.dK (enc t))) (hn : Nd t) : PairAt K H a :=
  ⟨x, y, ha, fun Q q => .inr ⟨x, y, enc t, enc t, rfl, rfl, hx, hy, rfl, fun p hp => by
    unfold enc at hp
    obtain ⟨z, hz, e⟩ := List.mem_map.mp hp
    subst e
    refine ⟨?_, rfl⟩
    rw [valV_enc, lk_of_mem hn (k := z.1) (v := z.2) hz]
    rfl, q⟩⟩
end Tm
namespace Tm
open PySem PySem.Spec PyProof.Rows L2
/-! a log beside the law's own list of what is kept -/
theorem LogAt.sameP {C : Addr} {H H' : Hp} {p q : Addr} {g : Lg} {xs : List V} (h : LogAt C H p g) (s : SameP q H H') (hq : H q = some (.lst xs)) (n : g.l ≠ q) : LogAt C H' p g :=
  ⟨s _ _ (fun z => by have e := h.hp; rw [z, hq] at e; cases e) h.hp, s _ _ (fun z => by have e := h.hb; rw [z, hq] at e; cases e) h.hb, s _ _ n h.hl, h.hm.of fun b vs e => s _ _ (fun z => by rw [z, hq] at e; cases e) e⟩
structure KeptI (K : PySem.W.Frag) (C : Addr) (H : Hp) (p kl hl : Addr) (g : Lg) (as hs : List Addr) (n : Nat) : Prop where
  L : LogAt C H p g
  S : Srt g.ms
  ok : ∀ m ∈ g.ms, m.Ok
  ac : Acyc g.t
  k : H kl = some (.lst (as.map V.ref))
  km : MvsAt H as g.ms
  h : H hl = some (.lst (hs.map V.ref))
  hd : Held K [p, g.l, hl] H hs
  n1 : g.l ≠ hl
  n2 : g.l ≠ kl
  n3 : kl ≠ hl
  s0 : 0 ≤ g.s
  tl : g.t.length + g.as.length ≤ n
  hn : hs.length ≤ n + 1
section
variable {K : PySem.W.Frag} {C : Addr} {H H' : Hp} {p kl hl : Addr} {g : Lg} {as hs : List Addr} {n : Nat}
theorem KeptI.len (h : KeptI K C H p kl hl g as hs n) : g.as.length = g.ms.length ∧ as.length = g.ms.length ∧ g.ms.length ≤ n := by
  have z1 := h.L.hm.length
  have z2 := h.km.length
  have z3 := h.tl
  omega
theorem KeptI.same (h : KeptI K C H p kl hl g as hs n) (s : Same H H') : KeptI K C H' p kl hl g as hs n :=
  ⟨h.L.same s, h.S, h.ok, h.ac, s _ _ h.k, h.km.same s, s _ _ h.h, h.hd.keep (Kx.of s), h.n1, h.n2, h.n3, h.s0, h.tl, h.hn⟩
theorem KeptI.up (h : KeptI K C H p kl hl g as hs n) {n' : Nat} (e : n ≤ n') : KeptI K C H p kl hl g as hs n' :=
  ⟨h.L, h.S, h.ok, h.ac, h.k, h.km, h.h, h.hd, h.n1, h.n2, h.n3, h.s0, by have := h.tl; omega, by have := h.hn; omega⟩
theorem KeptI.held {a : Addr} (h : KeptI K C H p kl hl g as hs n) (s : SameP hl H H') (e : H' hl = some (.lst ((hs ++ [a]).map V.ref))) (q : ∀ H2, Kx [p, g.l, hl] H' H2 → PairAt K H2 a) (l : hs.length ≤ n) : KeptI K C H' p kl hl g as (hs ++ [a]) n :=
  ⟨h.L.sameP s h.h h.n1, h.S, h.ok, h.ac, s _ _ h.n3 h.k, h.km.of (fun b vs eb => s _ _ (fun z => by rw [z, h.h] at eb; cases eb) eb), e, (h.hd.keep (Kx.ofP (by simp) s)).snoc q, h.n1, h.n2, h.n3, h.s0, h.tl, by simp; omega⟩
theorem KeptI.new {a l : Addr} {m : Mv} (h : KeptI K C H p kl hl g as hs n) (e : H a = some (.tup m.vs)) (ok : m.Ok) (hn : NewM m g.ms) (s : Same (upd H g.l (.lst ((g.heard a m).as.map V.ref))) H') (fl : upd H g.l (.lst ((g.heard a m).as.map V.ref)) l = none)
    (el : H' l = some (.lst ((insA (posM m g.ms) a as).map V.ref))) : KeptI K C H' p l hl (g.heard a m) (insA (posM m g.ms) a as) hs (n + 1) := by
  obtain ⟨f1, f2⟩ := new_free fl
  have nt : ∀ b vs, H b = some (.tup vs) → b ≠ g.l := fun b vs eb z => by rw [z, h.L.hl] at eb; cases eb
  refine ⟨(h.L.heard e).same s, h.S.ins hn, fun x hx => ?_, h.ac, el, ((h.km.ins e _).of fun b vs eb => s _ _ (keep_ne eb (nt b vs eb))), s _ _ (keep_ne h.h h.n1.symm), h.hd.keep ((Kx.mut (by simp) Kx.refl).trans (Kx.of s)), h.n1, fun z => f2 z.symm, fun z => (by rw [z, h.h] at f1; cases f1), h.s0, ?_, by have := h.hn; omega⟩
  · rcases mem_insM.mp hx with z | z
    · exact z ▸ ok
    · exact h.ok x z
  · have := h.tl
    show g.t.length + (insA (posM m g.ms) a g.as).length ≤ n + 1
    rw [insA_length]
    omega
theorem KeptI.settle {b l k2 : Addr} {time : Int} {H2 : Hp} (h : KeptI K C H p kl hl g as hs n) (s : SameP p H H') (hb : b = g.b ∨ H b = none) (fl : H l = none) (L : LogAt C H' p (g.settled b l time)) (s2 : Same H' H2) (fk : H' k2 = none) (ek : H2 k2 = some (.lst ((as.drop (goneM time g.ms)).map V.ref))) :
    KeptI K C H2 p k2 hl (g.settled b l time) (as.drop (goneM time g.ms)) hs n := by
  have np : ∀ b xs, H b = some (.lst xs) → b ≠ p := fun b xs eb z => by rw [z, h.L.hp] at eb; cases eb
  have ntp : ∀ b xs, H b = some (.tup xs) → b ≠ p := fun b xs eb z => by rw [z, h.L.hp] at eb; cases eb
  have km' : MvsAt H2 as g.ms := (h.km.of fun b vs eb => s _ _ (ntp b vs eb) eb).same s2
  have hh := s _ _ (np _ _ h.h) h.h
  have hll := L.hl
  have n1 : l ≠ hl := fun z => by rw [z, h.h] at fl; cases fl
  refine ⟨L.same s2, h.S.drop _, fun x hx => h.ok x (List.mem_of_mem_drop hx), h.ac.foldT _, ek, km'.drop _, s2 _ _ hh, ?_, n1, fun z => ?_, fun z => ?_, ?_, ?_, h.hn⟩
  · refine Held.keep (H := H') (Held.lo (ex := [p, l, hl]) ?_ fun b hb => .inl hb) (Kx.of s2)
    refine Held.keep (H := H) (Held.lo h.hd fun b hb => ?_) (Kx.ofP (by simp) s)
    simp only [List.mem_cons, List.not_mem_nil, or_false] at hb
    rcases hb with z | z | z
    · exact .inl (by simp [z])
    · exact .inr (z ▸ fl)
    · exact .inl (by simp [z])
  · have z1 : (g.settled b l time).l = k2 := z
    rw [← z1, hll] at fk
    cases fk
  · rw [z, hh] at fk
    cases fk
  · show 0 ≤ max g.s time
    have := h.s0
    omega
  · have z1 := foldT_length g.t (g.ms.take (goneM time g.ms))
    have z2 := goneM_le time g.ms
    have z3 := h.tl
    have z4 := h.len
    rw [List.length_take] at z1
    show (foldT g.t (g.ms.take (goneM time g.ms))).length + (g.as.drop (goneM time g.ms)).length ≤ n
    rw [List.length_drop]
    omega
end
/-- how many are of lesser times -/
theorem count_gone {time : Int} : ∀ {ms : List Mv}, Srt ms → (ms.countP fun m => decide (m.t < time)) = goneM time ms
  | [], _ => rfl
  | x :: r, h => by
    obtain ⟨h1, h2⟩ := List.pairwise_cons.mp h
    unfold goneM
    rw [List.takeWhile_cons, List.countP_cons]
    by_cases c : x.t < time
    · simp only [c, decide_true, if_true, List.length_cons]
      rw [count_gone h2]
      rfl
    · simp only [c, decide_false]
      have : (r.countP fun m => decide (m.t < time)) = 0 := by
        rw [List.countP_eq_zero]
        intro y hy
        have b := h1 y hy
        unfold Bef at b
        simp
        omega
      rw [this]
      simp
/-- what the three errors are apart -/
structure ApartE (N T X : Addr) : Prop where
  nt : N ≠ T
  nx : N ≠ X
  tx : T ≠ X
section
variable {C N T X : Addr} {H : Hp} {p : Addr} {g : Lg} {Q : VK} {E : XK}
theorem c_heardBad {x : V} (A : ApartE N T X) (L : LogAt C H p g) (S : Srt g.ms) (hl : g.as.length ≤ 100000) (hx : BadMv H x) (h : Q (.str "no move") H) : spHeard C N T X [.ref p, x] H Q E :=
  ⟨p, g, x, rfl, L, S, hl, .inl ⟨hx, fun _ => h, fun e => (A.nt (Value.ref.inj e)).elim, fun e => (A.nx (Value.ref.inj e)).elim⟩⟩
theorem c_heard {a : Addr} {m : Mv} (A : ApartE N T X) (L : LogAt C H p g) (S : Srt g.ms) (hl : g.as.length ≤ 100000) (hx : H a = some (.tup m.vs)) (ok : m.Ok) (h1 : m.t < g.s → Q (.str "too late") H) (h2 : g.s ≤ m.t → ClashM m g.ms → Q (.str "clash") H)
    (h3 : g.s ≤ m.t → m ∈ g.ms → Q (.bl false) H) (h4 : g.s ≤ m.t → NewM m g.ms → Q (.bl true) (upd H g.l (.lst ((g.heard a m).as.map V.ref)))) : spHeard C N T X [.ref p, .ref a] H Q E :=
  ⟨p, g, _, rfl, L, S, hl, .inr ⟨a, m, rfl, hx, ok, fun c => ⟨fun e => (A.nt (Value.ref.inj e).symm).elim, fun _ => h1 c, fun e => (A.tx (Value.ref.inj e)).elim⟩, fun c d => ⟨fun e => (A.nx (Value.ref.inj e).symm).elim, fun e => (A.tx (Value.ref.inj e).symm).elim, fun _ => h2 c d⟩, h3, h4⟩⟩
theorem c_refBad {x : V} (L : LogAt C H p g) (S : Srt g.ms) (hl : g.as.length ≤ 100000) (hx : BadMv H x) (h : Q (.bl true) H) : spRefusedL C N T X [.ref p, x] H Q E := ⟨p, g, x, rfl, L, S, hl, .inl ⟨hx, h⟩⟩
theorem c_ref {a : Addr} {m : Mv} (L : LogAt C H p g) (S : Srt g.ms) (hl : g.as.length ≤ 100000) (hx : H a = some (.tup m.vs)) (ok : m.Ok) (c : m.t < g.s ∨ ClashM m g.ms) (h : Q (.bl true) H) : spRefusedL C N T X [.ref p, .ref a] H Q E :=
  ⟨p, g, _, rfl, L, S, hl, .inr ⟨a, m, rfl, hx, ok, fun _ => h, fun _ _ => h, fun c1 c2 => by
    rcases c with z | z
    · omega
    · exact (mem_not_clash S c2 z).elim, fun c1 c2 => by
    rcases c with z | z
    · omega
    · exact (new_not_clash c2 z).elim⟩⟩
end
end Tm
namespace Tm
open PySem PySem.Spec PyProof.Rows L2
theorem at12 {i : Int} (h0 : 0 ≤ i) (h : i < 12) : ∃ n, atI [V.int 1, .int 2, .int 3, .int 4, .int 9, .int 10, .int 11, .int 12, .int 99, .int 100, .int 101, .int 102] i = some (.int n) := by
  have e : i = 0 ∨ i = 1 ∨ i = 2 ∨ i = 3 ∨ i = 4 ∨ i = 5 ∨ i = 6 ∨ i = 7 ∨ i = 8 ∨ i = 9 ∨ i = 10 ∨ i = 11 := by omega
  rcases e with e | e | e | e | e | e | e | e | e | e | e | e <;> subst e <;> exact ⟨_, rfl⟩
theorem c_asKept {K : PySem.W.Frag} {C : Addr} {H : Hp} {p kl hl : Addr} {g : Lg} {as hs : List Addr} {n : Nat} {Q : VK} {E : XK} (I : KeptI K C H p kl hl g as hs n) (hn : n ≤ 99999) (l : hs.length ≤ n) (h : ∀ H' hs', SameP hl H H' → KeptI K C H' p kl hl g as hs' n → hs'.length = hs.length + 1 → Q (.bl true) H') : spAsKept K C [.ref p, .ref kl, .int g.s, .ref hl] H Q E :=
  ⟨p, kl, hl, g, as, hs, rfl, I.L, I.k, I.km, I.h, by have := I.len; omega, by omega, I.s0, fun a H' s e q => h H' _ s (I.held s e q l) (by simp)⟩
theorem c_drawn {H : Hp} {k : Addr} {as : List Addr} {ms : List Mv} {deed cell second : Int} {Q : VK} {E : XK} (hk : H k = some (.lst (as.map V.ref))) (hm : MvsAt H as ms) (ho : ∀ m ∈ ms, m.Ok) (hl : ms.length ≤ 100000) (hd : DeedOk deed) (h : ∀ x H', Same H H' → DrawnV H' deed x → Q x H') :
    spDrawn [.ref k, .int deed, .int cell, .int second] H Q E := ⟨k, as, ms, deed, cell, second, rfl, hk, hm, ho, hl, hd, h⟩
theorem c_dueBad {H : Hp} {k : Addr} {as : List Addr} {ms : List Mv} {since deed : Int} {x : V} {Q : VK} {E : XK} (hk : H k = some (.lst (as.map V.ref))) (hm : MvsAt H as ms) (hl : ms.length ≤ 100000) (hd : deed % 16 = 7) (h : Q (.str "no move") H) : spDueOf [.ref k, .int since, x, .int deed] H Q E := ⟨k, as, ms, since, deed, x, rfl, hk, hm, hl, .inl ⟨hd, h⟩⟩
theorem c_due8 {H : Hp} {k a : Addr} {m : Mv} {as : List Addr} {ms : List Mv} {since deed : Int} {Q : VK} {E : XK} (hk : H k = some (.lst (as.map V.ref))) (hm : MvsAt H as ms) (hl : ms.length ≤ 100000) (hd : ¬ deed % 16 = 7) (hx : H a = some (.tup m.vs)) (h : ∀ H', Same H H' → Q (dueV since m ms) H') : spDueOf [.ref k, .int since, .ref a, .int deed] H Q E := ⟨k, as, ms, since, deed, _, rfl, hk, hm, hl, .inr ⟨hd, a, m, rfl, hx, h⟩⟩
end Tm
namespace Tm
open PySem PySem.Spec PyProof.Rows L2
/-! k09: a log, and the law's two dicts beside it -/
structure I9 (K : PySem.W.Frag) (C : Addr) (H : Hp) (c second many : Int) (lg b l dx la du hl : Addr) (as : List Addr) (ms : List Mv) (kvs : List (Key × V)) (dt : Tr) (hs : List Addr) (n : Nat) : Prop where
  L : LogAt C H lg ⟨b, l, dx, 0, [], as, ms⟩
  S : Srt ms
  T : ∀ m ∈ ms, Tidy c m
  hd : ∀ m ∈ ms, ∃ j : Nat, j < n ∧ m.h = handF (j * 7 % 101) second
  ela : H la = some (.dK kvs)
  lk : kvs.length ≤ n
  lq : LastAt H c many kvs ms
  edu : H du = some (.dK (enc dt))
  nd : Nd dt
  dq : DueT dt ms
  dl : dt.length ≤ n
  h : H hl = some (.lst (hs.map V.ref))
  hn : hs.length ≤ n
  hh : Held K [lg, l, la, du, hl] H hs
  len : ms.length = n
  n1 : la ≠ du
  n2 : b ≠ la
  n3 : b ≠ du
  n4 : l ≠ hl
theorem putK_length {kvs : List (Key × V)} {k : Key} {v : V} : (putK kvs k v).length ≤ kvs.length + 1 := by
  unfold putK
  split
  · rw [List.length_map]; omega
  · simp
section
variable {K : PySem.W.Frag} {C : Addr} {H H' H2 : Hp} {c second many : Int} {lg b l dx la du hl : Addr} {as : List Addr} {ms : List Mv} {kvs : List (Key × V)} {dt : Tr} {hs : List Addr} {n : Nat}
theorem I9.same (h : I9 K C H c second many lg b l dx la du hl as ms kvs dt hs n) (s : Same H H') : I9 K C H' c second many lg b l dx la du hl as ms kvs dt hs n :=
  ⟨h.L.same s, h.S, h.T, h.hd, s _ _ h.ela, h.lk, h.lq.of fun _ _ e => s _ _ e, s _ _ h.edu, h.nd, h.dq, h.dl, s _ _ h.h, h.hn, h.hh.keep (Kx.of s), h.len, h.n1, h.n2, h.n3, h.n4⟩
theorem I9.base (h : I9 K C H c second many lg b l dx la du hl as ms kvs dt hs n) {a : Addr} {m : Mv} (e : H a = some (.tup m.vs)) (nw : NewM m ms) (ti : Tidy c m) (hm : m.h = handF (n * 7 % 101) second) (s : Same (upd H l (.lst ((insA (posM m ms) a as).map V.ref))) H') :
    LogAt C H' lg ⟨b, l, dx, 0, [], insA (posM m ms) a as, insM m ms⟩ ∧ Srt (insM m ms) ∧ (∀ x ∈ insM m ms, Tidy c x) ∧ (∀ x ∈ insM m ms, ∃ j : Nat, j < n + 1 ∧ x.h = handF (j * 7 % 101) second) ∧ LastAt H' c many kvs ms ∧
    H' la = some (.dK kvs) ∧ H' du = some (.dK (enc dt)) ∧ H' hl = some (.lst (hs.map V.ref)) ∧ Held K [lg, l, la, du, hl] H' hs := by
  have nl : ∀ b o, H b = some o → (∀ xs, o ≠ .lst xs) → b ≠ l := fun b o eb k z => by
    have e := h.L.hl
    rw [← z, eb] at e
    exact k _ (Option.some.inj e)
  refine ⟨LogAt.same (g := ⟨b, l, dx, 0, [], insA (posM m ms) a as, insM m ms⟩) (LogAt.heard (g := ⟨b, l, dx, 0, [], as, ms⟩) h.L e) s, h.S.ins nw, fun x hx => ?_, fun x hx => ?_, h.lq.of fun a vs ea => s _ _ (keep_ne ea (nl _ _ ea fun xs => by intro z; cases z)), s _ _ (keep_ne h.ela (nl _ _ h.ela fun xs => by intro z; cases z)), s _ _ (keep_ne h.edu (nl _ _ h.edu fun xs => by intro z; cases z)), s _ _ (keep_ne h.h h.n4.symm), h.hh.keep ((Kx.mut (by simp) Kx.refl).trans (Kx.of s))⟩
  · rcases mem_insM.mp hx with z | z
    · exact z ▸ ti
    · exact h.T x z
  · rcases mem_insM.mp hx with z | z
    · exact ⟨n, by omega, z ▸ hm⟩
    · obtain ⟨j, hj, e⟩ := h.hd x z
      exact ⟨j, by omega, e⟩
theorem I9.stay (h : I9 K C H c second many lg b l dx la du hl as ms kvs dt hs n) {a : Addr} {m x : Mv} {fi : Int} (e : H a = some (.tup m.vs)) (nw : NewM m ms) (ti : Tidy c m) (hm : m.h = handF (n * 7 % 101) second) (s : Same (upd H l (.lst ((insA (posM m ms) a as).map V.ref))) H')
    (hmany : many ≤ 100) (f0 : 0 ≤ fi) (f1 : fi < many) (hf : m.f = nameF fi c) (hx : IsLast (nameF fi c) x ms) (bx : Bef m x) : I9 K C H' c second many lg b l dx la du hl (insA (posM m ms) a as) (insM m ms) kvs dt hs (n + 1) := by
  obtain ⟨b1, b2, b3, b4, b5, b6, b7, b8, b9⟩ := h.base e nw ti hm s
  exact ⟨b1, b2, b3, b4, b6, by have := h.lk; omega, b5.stay hmany f0 f1 hf hx bx, b7, h.nd, h.dq.stay (hf ▸ hx) bx, by have := h.dl; omega, b8, by have := h.hn; omega, b9, by rw [insM_length, h.len], h.n1, h.n2, h.n3, h.n4⟩
theorem I9.put (h : I9 K C H c second many lg b l dx la du hl as ms kvs dt hs n) {a a2 : Addr} {m : Mv} {fi : Int} (e : H a = some (.tup m.vs)) (nw : NewM m ms) (ti : Tidy c m) (hm : m.h = handF (n * 7 % 101) second) (s : Same (upd H l (.lst ((insA (posM m ms) a as).map V.ref))) H')
    (hmany : many ≤ 100) (f0 : 0 ≤ fi) (f1 : fi < many) (hf : m.f = nameF fi c) (hb : ∀ x, IsLast (nameF fi c) x ms → Bef x m) (e2 : H' a2 = some (.tup [.int m.t, .int m.h])) :
    I9 K C (upd (upd H' la (.dK (putK kvs (Sum.inl fi) (.ref a2)))) du (.dK (enc (pt dt m.f m.u)))) c second many lg b l dx la du hl (insA (posM m ms) a as) (insM m ms) (putK kvs (Sum.inl fi) (.ref a2)) (pt dt m.f m.u) hs (n + 1) := by
  obtain ⟨b1, b2, b3, b4, b5, b6, b7, b8, b9⟩ := h.base e nw ti hm s
  have nt : ∀ x vs, H' x = some (.tup vs) → upd (upd H' la (.dK (putK kvs (Sum.inl fi) (.ref a2)))) du (.dK (enc (pt dt m.f m.u))) x = some (.tup vs) := fun x vs ex =>
    keep_ne (keep_ne ex fun z => by rw [z, b6] at ex; cases ex) fun z => by rw [z, b7] at ex; cases ex
  have nl : ∀ x xs, H' x = some (.lst xs) → upd (upd H' la (.dK (putK kvs (Sum.inl fi) (.ref a2)))) du (.dK (enc (pt dt m.f m.u))) x = some (.lst xs) := fun x vs ex =>
    keep_ne (keep_ne ex fun z => by rw [z, b6] at ex; cases ex) fun z => by rw [z, b7] at ex; cases ex
  refine ⟨⟨keep_ne (keep_ne b1.hp fun z => ?_) fun z => ?_, keep_ne (keep_ne b1.hb h.n2) h.n3, nl _ _ b1.hl, b1.hm.of nt⟩, b2, b3, b4, keep_ne upd_same h.n1, ?_, ?_, upd_same, h.nd.pt _ _, ?_, ?_, nl _ _ b8, by have := h.hn; omega, ?_, by rw [insM_length, h.len], h.n1, h.n2, h.n3, h.n4⟩
  · have q := b1.hp; rw [z, b6] at q; cases q
  · have q := b1.hp; rw [z, b7] at q; cases q
  · have := h.lk
    have := putK_length (kvs := kvs) (k := Sum.inl fi) (v := .ref a2)
    omega
  · exact (b5.put hmany f0 f1 hf e2 hb).of nt
  · exact h.dq.put (by rw [hf]; exact hb)
  · have := h.dl
    have := pt_length dt m.f m.u
    omega
  · exact b9.keep (Kx.mut (by simp) (Kx.mut (by simp) Kx.refl))
theorem I9.held {a : Addr} (h : I9 K C H c second many lg b l dx la du hl as ms kvs dt hs n) (q : ∀ H2, Kx [lg, l, la, du, hl] (upd H hl (.lst (hs.map V.ref ++ [.ref a]))) H2 → PairAt K H2 a) (hn : hs.length + 1 ≤ n) :
    I9 K C (upd H hl (.lst (hs.map V.ref ++ [.ref a]))) c second many lg b l dx la du hl as ms kvs dt (hs ++ [a]) n := by
  have nt : ∀ x o, H x = some o → (∀ xs, o ≠ .lst xs) → x ≠ hl := fun b o eb k z => by
    have e := h.h
    rw [← z, eb] at e
    exact k _ (Option.some.inj e)
  refine ⟨⟨keep_ne h.L.hp (nt _ _ h.L.hp fun xs z => by cases z), keep_ne h.L.hb (nt _ _ h.L.hb fun xs z => by cases z), keep_ne h.L.hl h.n4, h.L.hm.of fun x vs ex => keep_ne ex (nt _ _ ex fun xs z => by cases z)⟩, h.S, h.T, h.hd, keep_ne h.ela (nt _ _ h.ela fun xs z => by cases z), h.lk, h.lq.of fun x vs ex => keep_ne ex (nt _ _ ex fun xs z => by cases z), keep_ne h.edu (nt _ _ h.edu fun xs z => by cases z), h.nd, h.dq, h.dl, ?_, by simp; omega, (h.hh.keep (Kx.mut (by simp) Kx.refl)).snoc q, h.len, h.n1, h.n2, h.n3, h.n4⟩
  rw [upd_same, List.map_append]
  rfl
theorem I9.new (h : I9 K C H c second many lg b l dx la du hl as ms kvs dt hs n) {m : Mv} (hn : n ≤ 60) (hm : m.h = handF (n * 7 % 101) second) : NewM m ms := fun x hx k => by
  obtain ⟨j, hj, e⟩ := h.hd x hx
  have e2 : handF (j * 7 % 101) second = handF (n * 7 % 101) second := by rw [← e, ← hm]; exact k.2
  have := hand_inj (by omega) (by omega) (by omega) (by omega) e2
  omega
end
end Tm
namespace Tm
open PySem PySem.Spec PyProof.Rows L2
/-! rows as data -/
def intsD (l : List Int) : PyData := .list (l.map PyData.int)
def rowD (p : Mv × List Int) : PyData := .tuple [p.1.d, intsD p.2]
theorem dpAll_ints {K : PySem.W.Frag} {H : Hp} : ∀ l : List Int, DpAll K H (l.map V.int) (l.map PyData.int)
  | [] => .nil
  | x :: r => .cons (.int x) (dpAll_ints r)
theorem lay_ints : ∀ l : List Int, PyData.canLayAll0 (l.map PyData.int) = true
  | [] => by simp [PyData.canLayAll0]
  | x :: r => by
    have := lay_ints r
    simp [PyData.canLayAll0, this, PyData.canLay0]
theorem depth_ints : ∀ l : List Int, PyData.depthAll (l.map PyData.int) = 0
  | [] => by simp [PyData.depthAll]
  | x :: r => by
    have := depth_ints r
    simp [PyData.depthAll, this, PyData.depth]
theorem eqv_ints : ∀ l : List Int, PyData.eqvAll (l.map PyData.int) (l.map PyData.int) = true
  | [] => by simp [PyData.eqvAll]
  | x :: r => by
    have := eqv_ints r
    simp [PyData.eqvAll, this, PyData.eqv]
theorem Row.dp {K : PySem.W.Frag} {H : Hp} {x : Row} (h : RowAt H x) : Dp K H (rowV x) (rowD (x.m, x.l)) :=
  .tup (SqT.of h.1) (.cons (Mv.dp h.2.1) (.cons (.lst (SqL.of h.2.2) (dpAll_ints _)) .nil))
theorem rowD_lay (p : Mv × List Int) : (rowD p).canLay0 = true := by
  have h := lay_ints p.2
  simp [rowD, intsD, PyData.canLay0, PyData.canLayAll0, Mv.d, h]
theorem rowD_depth (p : Mv × List Int) : (rowD p).depth = 2 := by
  have h := depth_ints p.2
  simp [rowD, intsD, PyData.depth, PyData.depthAll, Mv.d, h]
theorem rowD_eqv (p : Mv × List Int) : PyData.eqv (rowD p) (rowD p) = true := by
  have h := eqv_ints p.2
  have e : PyData.eqv p.1.d p.1.d = true := by rw [Mv.eqv]; simp
  simp [rowD, intsD, PyData.eqv, PyData.eqvAll, h, e]
/-- rows, and None behind them or not -/
def endV (b : Bool) : List V := if b then [.non] else []
def endD (b : Bool) : List PyData := if b then [.none] else []
theorem dp_rows {K : PySem.W.Frag} {H : Hp} (b : Bool) : ∀ {rows : List Row}, (∀ x ∈ rows, RowAt H x) → DpAll K H (rows.map rowV ++ endV b) ((rows.map fun x => rowD (x.m, x.l)) ++ endD b)
  | [], _ => by
    cases b
    · exact .nil
    · exact .cons .non .nil
  | x :: r, h => .cons (Row.dp (h x List.mem_cons_self)) (dp_rows b fun y hy => h y (List.mem_cons_of_mem _ hy))
theorem sh_rows (b : Bool) (ps : List (Mv × List Int)) : SeqAt.shaped (.list (ps.map rowD ++ endD b)) = true := by
  have h1 : PyData.canLayAll0 (ps.map rowD ++ endD b) = true ∧ PyData.depthAll (ps.map rowD ++ endD b) ≤ 2 := by
    induction ps with
    | nil => cases b <;> simp [endD, PyData.canLayAll0, PyData.canLay0, PyData.depthAll, PyData.depth]
    | cons p r ih =>
      obtain ⟨i1, i2⟩ := ih
      refine ⟨by simp [PyData.canLayAll0, i1, rowD_lay], ?_⟩
      simp only [List.map_cons, List.cons_append, PyData.depthAll, rowD_depth]
      omega
  obtain ⟨i1, i2⟩ := h1
  show (PyData.canLay0 (.list _) && decide (PyData.depth (.list _) ≤ 64)) = true
  rw [Bool.and_eq_true]
  refine ⟨by simp only [PyData.canLay0]; exact i1, decide_eq_true ?_⟩
  simp only [PyData.depth]
  omega
theorem eqv_rows (b : Bool) (ps : List (Mv × List Int)) : PyData.eqv (.list (ps.map rowD ++ endD b)) (.list (ps.map rowD ++ endD b)) = true := by
  have : PyData.eqvAll (ps.map rowD ++ endD b) (ps.map rowD ++ endD b) = true := by
    induction ps with
    | nil => cases b <;> simp [endD, PyData.eqvAll, PyData.eqv]
    | cons p r ih => simp [PyData.eqvAll, ih, rowD_eqv]
  simp only [PyData.eqv]
  exact this
def Row.ml (x : Row) : Mv × List Int := (x.m, x.l)
theorem ml_of {rows : List Row} {ms : List Mv} {ws : List (List Int)} (h1 : rows.map (·.m) = ms) (h2 : rows.map (·.l) = ws) : rows.map Row.ml = ms.zip ws := by
  subst h1 h2
  induction rows with
  | nil => rfl
  | cons x r ih => simp [Row.ml] at ih ⊢; exact ih
/-- two lists of rows that say the same -/
theorem dp_two {K : PySem.W.Frag} {H : Hp} {x : Addr} {rows : List Row} {b : Bool} {ps : List (Mv × List Int)} (hx : H x = some (.lst (rows.map rowV ++ endV b))) (h : ∀ y ∈ rows, RowAt H y) (e : rows.map Row.ml = ps) : Dp K H (.ref x) (.list (ps.map rowD ++ endD b)) := by
  have z := dp_rows (K := K) b h
  have z2 : (rows.map fun x => rowD (x.m, x.l)) = ps.map rowD := by rw [← e, List.map_map]; rfl
  rw [z2] at z
  exact .lst (SqL.of hx) z
def Row.app (x : Row) : Row := { x with l := x.l ++ [0] }
theorem rows_app {H : Hp} {rows : List Row} (h : ∀ y ∈ rows, RowAt H y) (nd : (rows.map (·.w)).Nodup) {i : Nat} {x : Row} (hi : rows[i]? = some x) : ∀ y ∈ rows.set i x.app, RowAt (upd H x.w (.lst ((x.l ++ [0]).map V.int))) y := by
  intro y hy
  have hx := h x (List.mem_of_getElem? hi)
  have nt : ∀ vs, H x.w ≠ some (.tup vs) := fun vs e => by rw [hx.2.2] at e; cases e
  obtain ⟨j, hj⟩ := List.getElem?_of_mem hy
  rw [List.getElem?_set] at hj
  obtain ⟨hil, hie⟩ := List.getElem?_eq_some_iff.mp hi
  by_cases c : i = j
  · rw [if_pos c, if_pos hil] at hj
    cases hj
    exact ⟨keep_ne hx.1 fun e => nt _ (e ▸ hx.1), keep_ne hx.2.1 fun e => nt _ (e ▸ hx.2.1), upd_same⟩
  · rw [if_neg c] at hj
    obtain ⟨hjl, hje⟩ := List.getElem?_eq_some_iff.mp hj
    refine (h y (List.mem_of_getElem? hj)).mut nt fun e => ?_
    have p := List.pairwise_iff_getElem.mp nd
    rcases Nat.lt_or_gt_of_ne c with z | z
    · have := p i j (by simpa using hil) (by simpa using hjl) z
      simp only [List.getElem_map, hie, hje] at this
      exact this e.symm
    · have := p j i (by simpa using hjl) (by simpa using hil) z
      simp only [List.getElem_map, hie, hje] at this
      exact this e
theorem set_rowV {rows : List Row} {i : Nat} {x : Row} (hi : rows[i]? = some x) : (rows.set i x.app).map rowV = rows.map rowV := by
  rw [List.map_set]
  apply List.ext_getElem?
  intro j
  rw [List.getElem?_set]
  by_cases c : i = j
  · subst c
    obtain ⟨hil, _⟩ := List.getElem?_eq_some_iff.mp hi
    rw [if_pos rfl, if_pos (by simpa using hil), List.getElem?_map, hi]
    rfl
  · rw [if_neg c]
theorem set_w {rows : List Row} {i : Nat} {x : Row} (hi : rows[i]? = some x) : (rows.set i x.app).map (·.w) = rows.map (·.w) := by
  rw [List.map_set]
  apply List.ext_getElem?
  intro j
  rw [List.getElem?_set]
  by_cases c : i = j
  · subst c
    obtain ⟨hil, _⟩ := List.getElem?_eq_some_iff.mp hi
    rw [if_pos rfl, if_pos (by simpa using hil), List.getElem?_map, hi]
    rfl
  · rw [if_neg c]
/-- in the told order there is one list of the same moves -/
theorem srt_uniq : ∀ {a b : List Mv}, Srt a → Srt b → (∀ m, m ∈ a ↔ m ∈ b) → a = b
  | [], [], _, _, _ => rfl
  | [], y :: s, _, _, h => absurd ((h y).mpr List.mem_cons_self) (by simp)
  | x :: r, [], _, _, h => absurd ((h x).mp List.mem_cons_self) (by simp)
  | x :: r, y :: s, ha, hb, h => by
    obtain ⟨a1, a2⟩ := List.pairwise_cons.mp ha
    obtain ⟨b1, b2⟩ := List.pairwise_cons.mp hb
    have e : x = y := by
      rcases List.mem_cons.mp ((h x).mp List.mem_cons_self) with z | z
      · exact z
      · rcases List.mem_cons.mp ((h y).mpr List.mem_cons_self) with z2 | z2
        · exact z2.symm
        · exact ((b1 x z).asym (a1 y z2)).elim
    subst e
    have self : ∀ {m : Mv}, ¬ Bef m m := fun {m} => by unfold Bef; omega
    rw [srt_uniq a2 b2 fun m => ?_]
    constructor
    · intro hm
      rcases List.mem_cons.mp ((h m).mp (List.mem_cons_of_mem _ hm)) with z | z
      · exact (self (z ▸ a1 m hm)).elim
      · exact z
    · intro hm
      rcases List.mem_cons.mp ((h m).mpr (List.mem_cons_of_mem _ hm)) with z | z
      · exact (self (z ▸ b1 m hm)).elim
      · exact z
theorem rows_mut {H : Hp} {rows : List Row} {p : Addr} {xs : List V} {o : HO} (h : ∀ y ∈ rows, RowAt H y) (hp : H p = some (.lst xs)) (n : ∀ y ∈ rows, y.w ≠ p) : ∀ y ∈ rows, RowAt (upd H p o) y := fun y hy => (h y hy).mut (fun vs e => by rw [hp] at e; cases e) (n y hy)
theorem set_ml {rows rows2 : List Row} {i : Nat} {x y : Row} (e : rows.map Row.ml = rows2.map Row.ml) (hx : rows[i]? = some x) (hy : rows2[i]? = some y) : (rows.set i x.app).map Row.ml = (rows2.set i y.app).map Row.ml := by
  rw [List.map_set, List.map_set, e]
  have z := congrArg (·[i]?) e
  simp only [List.getElem?_map, hx, hy, Option.map_some, Option.some.injEq] at z
  have z1 : x.m = y.m := congrArg Prod.fst z
  have z2 : x.l = y.l := congrArg Prod.snd z
  congr 1
  simp [Row.ml, Row.app, z1, z2]
/-- two lists of rows that are the same -/
theorem r_neRows {K : PySem.W.Frag} {H : Hp} {Q : VK} {x y : Addr} {rows rows2 : List Row} {b : Bool} (hx : H x = some (.lst (rows.map rowV ++ endV b))) (hy : H y = some (.lst (rows2.map rowV ++ endV b))) (h : ∀ z ∈ rows, RowAt H z) (h2 : ∀ z ∈ rows2, RowAt H z) (e : rows.map Row.ml = rows2.map Row.ml) (q : Q (.bl false) H) : rNeD K (.ref x) (.ref y) H Q :=
  ⟨_, _, dp_two hx h rfl, dp_two hy h2 e.symm, sh_rows b _, sh_rows b _, by rw [eqv_rows]; exact q⟩
end Tm
namespace Tm
open PySem PySem.Spec PyProof.Rows L2
/-! == of lists: of unlike lengths, or item by item the same -/
def SameItem (K : PySem.W.Frag) (H : Hp) (x y : V) : Prop := (∃ d, Dp K H x d ∧ Dp K H y d ∧ SeqAt.shaped d = true) ∨ EqV K H 2 x y
def rEqX (K : PySem.W.Frag) : R2 := fun x y H Q => (∃ a b xs ys, x = .ref a ∧ y = .ref b ∧ SqL K H a xs ∧ SqL K H b ys ∧ xs.length ≠ ys.length ∧ Q (.bl false) H) ∨ (EqR K H (SameItem K H) x y ∧ Q (.bl true) H)
theorem op_eqX {X : Cx} (hu : X.A.units + 65 < cLine) : OpR X (compareOp .Eq) (rEqX X.K) := by
  intro pins s σ H x y v u Q I rx ry h
  rcases h with ⟨a, b, xs, ys, rfl, rfl, ha, hb, hl, q⟩ | ⟨h, q⟩
  · cases (show v = Value.ref a from rx)
    cases (show u = Value.ref b from ry)
    obtain ⟨us, r1, p1, _⟩ := I.list ha
    obtain ⟨ws, r2, p2, _⟩ := I.list hb
    refine SeqAt.RcAt.lists_lengths p1.isList p2.isList ?_ (by omega) _ _ _ _ ⟨.bl false, H, I, rfl, q⟩
    rw [List.size_toArray, List.size_toArray, ← r1.length, ← r2.length]
    simpa using hl
  · refine eqR_run I (A := X.A) (by omega) (fun x y v u hf rx ry => ?_) h rx ry _ _ ⟨.bl true, H, I, rfl, q⟩
    rcases hf with ⟨d, h1, h2, sd⟩ | hf
    · obtain ⟨as, q1⟩ := Dp.reads I d x v h1 rx
      obtain ⟨bs, q2⟩ := Dp.reads I d y u h2 ry
      have hl := SeqAt.canLay_of_shaped sd
      have hd : d.depth ≤ 64 := by
        have z : (d.canLay0 && decide (d.depth ≤ 64)) = true := sd
        rw [Bool.and_eq_true] at z
        exact of_decide_eq_true z.2
      have e := SeqAt.eqAt_reads d d X.A.in1 s v u as bs q1 q2 hl hl (by
        show X.A.units + 1 + min d.depth d.depth < cLine
        rw [Nat.min_self]
        omega)
      rw [SeqAt.eqv_refl d hl] at e
      exact e.eqP
    · exact eqV_run I 2 X.A.in1 (by show X.A.units + 1 + 2 < cLine; omega) x y v u hf rx ry
theorem op_eqXK {X : Cx} {K : PySem.W.Frag} (h : X.K = K) (hu : X.A.units + 65 < cLine) : OpR X (compareOp .Eq) (rEqX K) := by subst h; exact op_eqX hu
/-- a list of numbers against the empty list -/
theorem r_eqNilI {K : PySem.W.Frag} {H : Hp} {Q : VK} {w e : Addr} {l : List Int} (hw : H w = some (.lst (l.map V.int))) (he : H e = some (.lst [])) (h : Q (.bl (decide (l = []))) H) : rEqD K (.ref w) (.ref e) H Q := by
  refine ⟨intsD l, .list [], .lst (SqL.of hw) (dpAll_ints l), .lst (SqL.of he) .nil, ?_, by simp [SeqAt.shaped, PyData.canLay0, PyData.canLayAll0, PyData.depth, PyData.depthAll], ?_⟩
  · show (PyData.canLay0 (intsD l) && decide (PyData.depth (intsD l) ≤ 64)) = true
    rw [Bool.and_eq_true]
    refine ⟨by simp only [intsD, PyData.canLay0]; exact lay_ints l, decide_eq_true ?_⟩
    simp only [intsD, PyData.depth, depth_ints]
    omega
  · have e2 : PyData.eqv (intsD l) (.list []) = decide (l = []) := by
      cases l with
      | nil => simp [intsD, PyData.eqv, PyData.eqvAll]
      | cons x r => simp [intsD, PyData.eqv, PyData.eqvAll]
    rw [e2]
    exact h
/-! dicts that may be locked -/
def rLenDR : List V → Hp → VK → Prop := fun xs H Q => ∃ a kvs, xs = [V.ref a] ∧ Rd H a (.dK kvs) ∧ Q (.int kvs.length) H
theorem call_lenDR {X : Cx} : CallR X (.builtin "len") rLenDR := by
  intro pins s σ H xs us Q I r h
  obtain ⟨a, kvs, rfl, ha, q⟩ := h
  obtain ⟨u, rfl, ru⟩ := vals1 r
  cases ru
  exact d_len I ha fun t s' I' => ⟨.int kvs.length, H, I', ⟨t, rfl⟩, q⟩
section
variable {H : Hp} {Q : VK} {d : Addr} {v : V} {kvs : List (Key × V)} {k : Int}
theorem r_lenDR (hs : Rd H d (.dK kvs)) (h : Q (.int kvs.length) H) : rLenDR [.ref d] H Q := ⟨d, kvs, rfl, hs, h⟩
theorem r_dGetR (hs : Rd H d (.dK kvs)) (hv : valV kvs (Sum.inl k) = some v) (h : Q v H) : qDGet Q (.int k) (.ref d) H := ⟨d, v, rfl, .inl ⟨kvs, Sum.inl k, hs, rfl, hv.symm⟩, h⟩
theorem r_dInR (hs : Rd H d (.dK kvs)) (h : Q (.bl (valV kvs (Sum.inl k)).isSome) H) : qDIn Q (.int k) (.ref d) H := ⟨d, _, rfl, .inl ⟨kvs, Sum.inl k, hs, rfl, rfl⟩, h⟩
theorem r_dNotInR (hs : Rd H d (.dK kvs)) (h : Q (.bl (!(valV kvs (Sum.inl k)).isSome)) H) : qDNotIn Q (.int k) (.ref d) H := ⟨d, _, rfl, .inl ⟨kvs, Sum.inl k, hs, rfl, rfl⟩, h⟩
end
section
variable {td ty tx : TE} {σ : L2.St} {H : Hp} {Q : VK} {a : Addr} {kvs : List (Key × V)}
def qDGet2 (ty tx : TE) (σ : L2.St) (Q : VK) : VK := fun x H1 => ∃ a, x = .ref a ∧ IsD H1 a ∧ ty σ H1 fun y H2 => tx σ H2 fun z H3 => ∃ o, DGet H3 a y o ∧ Q (o.getD z) H3
instance : Step (tDGet2 td ty tx σ H Q) (td σ H (qDGet2 ty tx σ Q)) := ⟨fun h => h⟩
theorem r_dGet2 (hs : H a = some (.dK kvs)) (h : ty σ H fun y H2 => tx σ H2 fun z H3 => ∃ o, DGet H3 a y o ∧ Q (o.getD z) H3) : qDGet2 ty tx σ Q (.ref a) H := ⟨a, rfl, .inl ⟨kvs, .inl hs⟩, h⟩
theorem r_dGet2E {k : Int} {z : V} (hs : H a = some (.dK kvs)) (h : Q ((valV kvs (Sum.inl k)).getD z) H) : ∃ o, DGet H a (.int k) o ∧ Q (o.getD z) H := ⟨_, DGet.k (k := Sum.inl k) hs, h⟩
end
theorem Rd.same {H H' : Hp} {d : Addr} {u : HO} (s : Same H H') (h : Rd H d u) : Rd H' d u := by
  rcases h with h | ⟨o, h⟩
  · exact .inl (s _ _ h)
  · exact .inr ⟨o, s _ _ h⟩
def spComes : Sp := fun vs H Q _ => ∃ (d : Addr) (t : Tr) (x f : Int), vs = [.ref d, .int x, .int f] ∧ Rd H d (.dK (enc t)) ∧ Acyc t ∧ t.length ≤ 100000 ∧ Q (.bl (decide (f ∈ way t x))) H
theorem c_comes {H : Hp} {d : Addr} {t : Tr} {x f : Int} {Q : VK} {E : XK} (hd : Rd H d (.dK (enc t))) (hA : Acyc t) (hl : t.length ≤ 100000) (h : Q (.bl (decide (f ∈ way t x))) H) : spComes [.ref d, .int x, .int f] H Q E := ⟨d, t, x, f, rfl, hd, hA, hl, h⟩
def spShows : Sp := fun vs H Q _ => ∃ (d w : Addr) (t : Tr) (f u : Int), vs = [.ref d, .ref w, .int f, .int u] ∧ H d = some (.dK (enc t)) ∧ Acyc t ∧ t.length ≤ 100000 ∧ f ∈ way t u ∧ H w = some (.lst ((upTo f (way t u)).map V.int)) ∧ Q (.bl true) H
theorem c_shows {H : Hp} {d w : Addr} {t : Tr} {f u : Int} {Q : VK} {E : XK} (hd : H d = some (.dK (enc t))) (hA : Acyc t) (hl : t.length ≤ 100000) (hf : f ∈ way t u) (hw : H w = some (.lst ((upTo f (way t u)).map V.int))) (h : Q (.bl true) H) : spShows [.ref d, .ref w, .int f, .int u] H Q E := ⟨d, w, t, f, u, rfl, hd, hA, hl, hf, hw, h⟩
def spWalked (C : Addr) : Sp := fun vs H Q _ => ∃ (p l : Addr) (g : Lg) (as : List Addr), vs = [.ref p, .ref l] ∧ LogAt C H p g ∧ g.t = [] ∧ H l = some (.lst (as.map V.ref)) ∧ MvsAt H as g.ms ∧ g.ms.length ≤ 10000 ∧ ∀ H', Same H H' → Q (.bl true) H'
/-- the moves that are heard -/
structure HandsIn (s : Int) (n : Nat) (m : Mv) : Prop where
  ok : m.Ok
  h : ∃ x : Int, m.h = handF x s ∧ 0 ≤ x ∧ x ≤ 300 ∧ (200 ≤ x ∨ ∃ j : Nat, j < n ∧ x = j * 7 % 101)
def spMovesOf (K : PySem.W.Frag) : Sp := fun vs H Q _ => ∃ (p : Addr) (ns : List Int), vs = [.ref p] ∧ SqL K H p (ns.map V.int) ∧ ns.length ≤ 63 ∧ ∀ (l : Addr) (as : List Addr) (ms : List Mv) (H' : Hp), Same H H' → H l = none → H' l = some (.lst (as.map V.ref)) → MvsAt H' as ms → ms.length ≤ 100 → (∀ m ∈ ms, m.Ok) → ms.Pairwise (fun a b => ¬ SameK a b) → Q (.ref l) H'
def spMovesOf3 (K : PySem.W.Frag) : Sp := fun vs H Q _ => ∃ (p : Addr) (ns : List Int) (c s : Int), vs = [.ref p, .int c, .int s] ∧ SqL K H p (ns.map V.int) ∧ ns.length ≤ 63 ∧ ∀ (l : Addr) (as : List Addr) (ms : List Mv) (H' : Hp), Same H H' → H l = none → H' l = some (.lst (as.map V.ref)) → MvsAt H' as ms → ms.length ≤ 100 → (∀ m ∈ ms, m.Ok) → ms.Pairwise (fun a b => ¬ SameK a b) → Q (.ref l) H'
/-! the way up, turn by turn -/
theorem way_next {t : Tr} (h : Acyc t) {x u : Int} (e : lk t x = some u) : way t x = x :: way t u := (Path.step e (h.path u)).way
theorem way_end {t : Tr} {x : Int} (e : lk t x = none) : way t x = [x] := (Path.top e).way
theorem way_step {t : Tr} (h : Acyc t) {u : Int} : ∀ {i : Nat} {x y : Int}, (way t u)[i]? = some x → (way t u)[i + 1]? = some y → lk t x = some y := by
  have key : ∀ (l : List Int) (u : Int), Path t u l → ∀ (i : Nat) (x y : Int), l[i]? = some x → l[i + 1]? = some y → lk t x = some y := by
    intro l u p
    induction p with
    | top _ => intro i x y _ e2; simp at e2
    | @step f v l hl p ih =>
      intro i x y e1 e2
      cases i with
      | zero =>
        obtain ⟨r, er⟩ := p.head
        subst er
        simp at e1 e2
        rw [← e1, ← e2]
        exact hl
      | succ i => exact ih i x y (by simpa using e1) (by simpa using e2)
  exact fun {i x y} e1 e2 => key _ _ (h.path u) i x y e1 e2
end Tm
namespace Tm
open PySem PySem.Spec PyProof.Rows L2
def Held12 (K : PySem.W.Frag) (H : Hp) (l : Addr) (i place : Int) (v5 : V) (v7 : Option V) : Prop :=
  (i ≤ place ∧ ∃ h0, v5 = .ref h0 ∧ h0 ≠ l ∧ H h0 = some (.lst [])) ∨ ∃ hd kp, v5 = .ref hd ∧ v7 = some (.ref kp) ∧ ∀ H2, SameP l H H2 → (∃ xs, H2 hd = some (.lst xs) ∧ xs.length = 3) ∧ EqR K H2 (SameItem K H2) (.ref hd) (.ref kp)
theorem Held12.keep {K : PySem.W.Frag} {H H' : Hp} {l : Addr} {i place : Int} {v5 : V} {v7 : Option V} (h : Held12 K H l i place v5 v7) (s : SameP l H H') : Held12 K H' l i place v5 v7 := by
  rcases h with ⟨h1, h0, e, n, c⟩ | ⟨hd, kp, e1, e2, h⟩
  · exact .inl ⟨h1, h0, e, n, s _ _ n c⟩
  · exact .inr ⟨hd, kp, e1, e2, fun H2 s2 => h H2 (s.trans s2)⟩
theorem Held12.up {K : PySem.W.Frag} {H : Hp} {l : Addr} {i place : Int} {v5 : V} {v7 : Option V} (h : Held12 K H l i place v5 v7) (n : i ≠ place) : Held12 K H l (i + 1) place v5 v7 := by
  rcases h with ⟨h1, h⟩ | h
  · exact .inl ⟨by omega, h⟩
  · exact .inr h
theorem RowAt.sameP {H H' : Hp} {x : Row} {l : Addr} {xs : List V} (h : RowAt H x) (s : SameP l H H') (hl : H l = some (.lst xs)) (n : x.w ≠ l) : RowAt H' x :=
  ⟨s _ _ (fun z => by have e := h.1; rw [z, hl] at e; cases e) h.1, s _ _ (fun z => by have e := h.2.1; rw [z, hl] at e; cases e) h.2.1, s _ _ n h.2.2⟩
theorem item_rows {K : PySem.W.Frag} {H : Hp} {x y : Addr} {rows rows2 : List Row} (hx : H x = some (.lst (rows.map rowV))) (hy : H y = some (.lst (rows2.map rowV))) (h : ∀ z ∈ rows, RowAt H z) (h2 : ∀ z ∈ rows2, RowAt H z) (e : rows.map Row.ml = rows2.map Row.ml) : SameItem K H (.ref x) (.ref y) :=
  .inl ⟨_, dp_two (b := false) (by simpa [endV] using hx) h rfl, dp_two (b := false) (by simpa [endV] using hy) h2 e.symm, sh_rows false _⟩
theorem item_moves {K : PySem.W.Frag} {H : Hp} {x y : Addr} {as : List Addr} {ms : List Mv} (hx : H x = some (.lst (as.map V.ref))) (hy : H y = some (.lst (as.map V.ref))) (hm : MvsAt H as ms) : SameItem K H (.ref x) (.ref y) :=
  .inl ⟨_, .lst (SqL.of hx) (dpAll_mv hm), .lst (SqL.of hy) (dpAll_mv hm), sh_mvs ms⟩
theorem item_dict {K : PySem.W.Frag} {H : Hp} {d e : Addr} {t : Tr} (hd : H d = some (.dK (enc t))) (he : H e = some (.dK (enc t))) (hn : Nd t) : SameItem K H (.ref d) (.ref e) :=
  .inr (.inr (.inr (.inr ⟨d, e, enc t, enc t, rfl, rfl, hd, he, rfl, fun p hp => by
    unfold enc at hp
    obtain ⟨z, hz, ez⟩ := List.mem_map.mp hp
    subst ez
    refine ⟨.int z.2, ?_, .inl ⟨rfl, rfl⟩⟩
    rw [valV_enc, lk_of_mem hn (k := z.1) (v := z.2) hz]
    rfl⟩)))
theorem c_walked {C : Addr} {H : Hp} {p l : Addr} {g : Lg} {as : List Addr} {Q : VK} {E : XK} (L : LogAt C H p g) (ht : g.t = []) (hl : H l = some (.lst (as.map V.ref))) (hm : MvsAt H as g.ms) (hn : g.ms.length ≤ 10000) (h : ∀ H', Same H H' → Q (.bl true) H') : spWalked C [.ref p, .ref l] H Q E :=
  ⟨p, l, g, as, rfl, L, ht, hl, hm, hn, h⟩
theorem c_movesOf {K : PySem.W.Frag} {H : Hp} {p : Addr} {ns : List Int} {Q : VK} {E : XK} (hS : SqL K H p (ns.map V.int)) (hl : ns.length ≤ 63) (h : ∀ (l : Addr) (as : List Addr) (ms : List Mv) (H' : Hp), Same H H' → H l = none → H' l = some (.lst (as.map V.ref)) → MvsAt H' as ms → ms.length ≤ 100 → (∀ m ∈ ms, m.Ok) → ms.Pairwise (fun a b => ¬ SameK a b) → Q (.ref l) H') : spMovesOf K [.ref p] H Q E := ⟨p, ns, rfl, hS, hl, h⟩
end Tm
namespace Tm
open PySem PySem.Spec PyProof.Rows L2
/-! tuples and dicts that are never changed -/
def TD (H H' : Hp) : Prop := ∀ b, (∀ vs, H b = some (.tup vs) → H' b = some (.tup vs)) ∧ ∀ k, H b = some (.dK k) → H' b = some (.dK k)
theorem TD.of {H H' : Hp} (s : Same H H') : TD H H' := fun b => ⟨fun _ e => s _ _ e, fun _ e => s _ _ e⟩
theorem TD.trans {H H' H2 : Hp} (s : TD H H') (t : TD H' H2) : TD H H2 := fun b => ⟨fun _ e => (t b).1 _ ((s b).1 _ e), fun _ e => (t b).2 _ ((s b).2 _ e)⟩
theorem TD.ofL {H H' : Hp} {p : Addr} {xs : List V} (s : SameP p H H') (hp : H p = some (.lst xs)) : TD H H' := fun b => ⟨fun _ e => s _ _ (fun z => by rw [z, hp] at e; cases e) e, fun _ e => s _ _ (fun z => by rw [z, hp] at e; cases e) e⟩
theorem TD.ofI {H H' : Hp} {p c d : Addr} {fs : List (Str × V)} (s : SameP p H H') (hp : H p = some (.ins c d fs)) : TD H H' := fun b => ⟨fun _ e => s _ _ (fun z => by rw [z, hp] at e; cases e) e, fun _ e => s _ _ (fun z => by rw [z, hp] at e; cases e) e⟩
theorem MvsAt.td {H H' : Hp} {as : List Addr} {ms : List Mv} (h : MvsAt H as ms) (s : TD H H') : MvsAt H' as ms := h.of fun b vs e => (s b).1 _ e
def HeldT (K : PySem.W.Frag) (H : Hp) (hs : List Addr) : Prop := ∀ a ∈ hs, ∀ H', TD H H' → PairAt K H' a
theorem HeldT.nil {K : PySem.W.Frag} {H : Hp} : HeldT K H [] := fun _ h => nomatch h
theorem HeldT.keep {K : PySem.W.Frag} {H H' : Hp} {hs : List Addr} (h : HeldT K H hs) (s : TD H H') : HeldT K H' hs := fun a ha H2 k => h a ha H2 (s.trans k)
theorem HeldT.snoc {K : PySem.W.Frag} {H : Hp} {hs : List Addr} {a x y : Addr} {t : Tr} (h : HeldT K H hs) (ha : H a = some (.tup [.ref x, .ref y])) (hx : H x = some (.dK (enc t))) (hy : H y = some (.dK (enc t))) (hn : Nd t) : HeldT K H (hs ++ [a]) := fun b hb H' k => by
  rcases List.mem_append.mp hb with z | z
  · exact h b z H' k
  · rw [List.mem_singleton.mp z]
    exact pair_dict ((k a).1 _ ha) ((k x).2 _ hx) ((k y).2 _ hy) hn
/-! moves, parted -/
theorem foldT_app (t : Tr) (a b : List Mv) : foldT t (a ++ b) = foldT (foldT t a) b := by simp [foldT]
theorem stepW_app (t : Tr) (a b : List Mv) : stepW t (a ++ b) = stepW t a ++ stepW (foldT t a) b := by
  induction a generalizing t with
  | nil => rfl
  | cons x r ih =>
    show w1 t x :: stepW (putT t x.f x.u) (r ++ b) = _
    rw [ih]
    rfl
/-- from place i to place j -/
def cutM {α : Type} (i j : Nat) (l : List α) : List α := (l.take j).drop i
theorem cutM_length {α : Type} {i j : Nat} {l : List α} : (cutM i j l).length = min j l.length - i := by simp [cutM]
theorem cutM_join {α : Type} {i j k : Nat} {l : List α} (h1 : i ≤ j) (h2 : j ≤ k) : cutM i j l ++ cutM j k l = cutM i k l := by
  unfold cutM
  apply List.ext_getElem?
  intro n
  simp only [List.getElem?_append, List.getElem?_drop, List.getElem?_take, List.length_drop, List.length_take]
  by_cases c : n < min j l.length - i
  · rw [if_pos c, if_pos (by omega), if_pos (by omega)]
  · rw [if_neg c]
    by_cases c2 : j ≤ l.length
    · have e : j + (n - (min j l.length - i)) = i + n := by omega
      rw [e]
    · have e1 : l[i + n]? = none := List.getElem?_eq_none (by omega)
      have e2 : l[j + (n - (min j l.length - i))]? = none := List.getElem?_eq_none (by omega)
      rw [e1, e2]
      simp
theorem cutM_zero {α : Type} {j : Nat} {l : List α} : cutM 0 j l = l.take j := by simp [cutM]
theorem cutM_all {α : Type} {i j : Nat} {l : List α} (h : l.length ≤ j) : cutM i j l = l.drop i := by
  unfold cutM
  rw [List.take_of_length_le h]
theorem cutM_at {α : Type} {i j n : Nat} {l : List α} : (cutM i j l)[n]? = if i + n < j then l[i + n]? else none := by
  unfold cutM
  rw [List.getElem?_drop, List.getElem?_take]
theorem cutM_one {α : Type} {i j : Nat} {l : List α} {x : α} (h : i < j) (e : l[i]? = some x) : cutM i j l = x :: cutM (i + 1) j l := by
  apply List.ext_getElem?
  intro n
  cases n with
  | zero => rw [cutM_at, if_pos (by omega), Nat.add_zero, e]; rfl
  | succ n =>
    rw [List.getElem?_cons_succ, cutM_at, cutM_at]
    have : i + (n + 1) = i + 1 + n := by omega
    rw [this]
theorem foldT_cut (ms : List Mv) {i j : Nat} (h : i ≤ j) : foldT (foldT [] (ms.take i)) (cutM i j ms) = foldT [] (ms.take j) := by
  rw [← foldT_app, ← cutM_zero, cutM_join (Nat.zero_le _) h, cutM_zero]
theorem stepW_cut (ms : List Mv) {i j : Nat} (h : i ≤ j) (hj : j ≤ ms.length) : stepW (foldT [] (ms.take i)) (cutM i j ms) = cutM i j (stepW [] ms) := by
  have e : stepW [] (ms.take j) = (stepW [] ms).take j := by
    conv => rhs; rw [← List.take_append_drop j ms, stepW_app]
    rw [List.take_left' (by rw [stepW_length, List.length_take]; omega)]
  have e2 : ms.take j = ms.take i ++ cutM i j ms := by rw [← cutM_zero, ← cutM_zero, cutM_join (Nat.zero_le _) h]
  have key := stepW_app [] (ms.take i) (cutM i j ms)
  rw [← e2, e] at key
  show _ = ((stepW [] ms).take j).drop i
  have hl : (stepW [] (ms.take i)).length = i := by rw [stepW_length, List.length_take]; omega
  rw [key, List.drop_append, hl, Nat.sub_self, List.drop_zero, List.drop_of_length_le (by omega), List.nil_append]
/-- a move amid those ahead of it and those behind it -/
theorem posM_amid {m : Mv} : ∀ {a b : List Mv}, (∀ x ∈ a, Bef x m) → (∀ x ∈ b, Bef m x) → posM m (a ++ b) = a.length
  | [], [], _, _ => rfl
  | [], y :: r, _, h => posM_neg fun z => z.asym (h y List.mem_cons_self)
  | x :: a, b, h, h2 => by
    rw [List.cons_append, posM_pos (h x List.mem_cons_self), posM_amid (fun y hy => h y (List.mem_cons_of_mem _ hy)) h2]
    rfl
theorem insM_amid {m : Mv} {a b : List Mv} (h1 : ∀ x ∈ a, Bef x m) (h2 : ∀ x ∈ b, Bef m x) : insM m (a ++ b) = a ++ m :: b := by
  unfold insM insA
  rw [posM_amid h1 h2]
  simp
theorem Srt.cut {ms : List Mv} (h : Srt ms) (i j : Nat) : Srt (cutM i j ms) := List.Pairwise.sublist ((List.drop_sublist _ _).trans (List.take_sublist _ _)) h
theorem gone_cut {time : Int} {ms : List Mv} {i j : Nat} (h : Srt ms) (hi : i ≤ goneM time ms) (hj : goneM time ms ≤ j) : goneM time (cutM i j ms) = goneM time ms - i := by
  rw [← count_gone (h.cut i j), ← count_gone h]
  have e : ms = ms.take i ++ (cutM i j ms ++ ms.drop j) := by
    have hle := goneM_le time ms
    by_cases c : j ≤ ms.length
    · rw [← List.append_assoc, ← cutM_zero (j := i), cutM_join (Nat.zero_le _) (by omega), cutM_zero, List.take_append_drop]
    · rw [← List.append_assoc, ← cutM_zero (j := i), cutM_join (Nat.zero_le _) (by omega), cutM_zero, List.take_append_drop]
  have c1 : ((ms.take i).countP fun m => decide (m.t < time)) = i := by
    have hle := goneM_le time ms
    rw [List.countP_eq_length.mpr]
    · rw [List.length_take]; omega
    · intro x hx
      obtain ⟨k, hk⟩ := List.getElem?_of_mem hx
      rw [List.getElem?_take] at hk
      split at hk
      · simpa using goneM_lt (by omega) hk
      · cases hk
  have c2 : ((ms.drop j).countP fun m => decide (m.t < time)) = 0 := by
    rw [List.countP_eq_zero]
    intro x hx
    obtain ⟨k, hk⟩ := List.getElem?_of_mem hx
    rw [List.getElem?_drop] at hk
    simp
    by_cases z : goneM time ms < ms.length
    · obtain ⟨g0, hg⟩ : ∃ g0, ms[goneM time ms]? = some g0 := ⟨_, List.getElem?_eq_getElem z⟩
      have b := goneM_at hg
      by_cases e : goneM time ms = j + k
      · rw [e, hk] at hg
        have := Option.some.inj hg
        rw [this]
        omega
      · have := srt_at h hg hk (by omega)
        unfold Bef at this
        omega
    · have := (List.getElem?_eq_some_iff.mp hk).1
      omega
  conv => rhs; rw [e, List.countP_append, List.countP_append, c1, c2]
  omega
end Tm
namespace Tm
open PySem PySem.Spec PyProof.Rows L2
theorem c_hearOld {C N T X : Addr} {H : Hp} {p a : Addr} {g : Lg} {m : Mv} {Q : VK} {E : XK} (L : LogAt C H p g) (S : Srt g.ms) (hl : g.as.length ≤ 100000) (hx : H a = some (.tup m.vs)) (ok : m.Ok) (hs : g.s ≤ m.t) (hn : m ∈ g.ms) (h : Q (.bl false) H) : spHear C N T X [.ref p, .ref a] H Q E :=
  ⟨p, g, _, rfl, L, S, hl, .inr ⟨a, m, rfl, hx, ok, fun c => absurd c (by omega), fun _ c => (mem_not_clash S hn c).elim, fun _ _ => h, fun _ c => (new_not_mem c hn).elim⟩⟩
/-- a log that has heard all -/
structure AllHeard (C : Addr) (H0 H : Hp) (p : Addr) (g : Lg) (ms : List Mv) : Prop where
  L : LogAt C H p g
  s : Same H0 H
  f : H0 g.l = none
  ac : Acyc g.t
  S : Srt g.ms
  tl : g.t.length + g.as.length ≤ 1000
def spAllHeard (C : Addr) : Sp := fun vs H Q _ => ∃ (l : Addr) (tw : Bool) (as : List Addr) (ms : List Mv), vs = [.ref l, .bl tw] ∧ H l = some (.lst (as.map V.ref)) ∧ MvsAt H as ms ∧ (∀ m ∈ ms, m.Ok) ∧ ms.Pairwise (fun a b => ¬ SameK a b) ∧ ms.length ≤ 200 ∧
  ∀ p g H', AllHeard C H H' p g ms → g.t = [] → (∀ m, m ∈ g.ms ↔ m ∈ ms) → Q (.ref p) H'
theorem c_allHeard {C : Addr} {H : Hp} {l : Addr} {tw : Bool} {as : List Addr} {ms : List Mv} {Q : VK} {E : XK} (hl : H l = some (.lst (as.map V.ref))) (hm : MvsAt H as ms) (ho : ∀ m ∈ ms, m.Ok) (hp : ms.Pairwise (fun a b => ¬ SameK a b)) (hn : ms.length ≤ 200)
    (h : ∀ p g H', AllHeard C H H' p g ms → g.t = [] → (∀ m, m ∈ g.ms ↔ m ∈ ms) → Q (.ref p) H') : spAllHeard C [.ref l, .bl tw] H Q E := ⟨l, tw, as, ms, rfl, hl, hm, ho, hp, hn, h⟩
def spTimesOf : Sp := fun vs H Q _ => ∃ s : Int, vs = [.int s] ∧ ∀ (l : Addr) (ts : List Int) (H' : Hp), Same H H' → H' l = some (.lst (ts.map V.int)) → ts.length = 4 → ts.Pairwise (· ≤ ·) → (∀ t ∈ ts, 0 ≤ t) → Q (.ref l) H'
theorem c_sameSteps {H : Hp} {f d : Addr} {rows rows2 : List Row} {ms : List Mv} {ws : List (List Int)} {Q : VK} {E : XK} (hf : H f = some (.lst (rows.map rowV))) (hd : H d = some (.lst (rows2.map rowV))) (h1 : ∀ x ∈ rows, RowAt H x) (h2 : ∀ x ∈ rows2, RowAt H x)
    (m1 : rows.map (·.m) = ms) (m2 : rows2.map (·.m) = ms) (l1 : rows.map (·.l) = ws) (l2 : rows2.map (·.l) = ws) (hl : ms.length ≤ 100000) (hw : ∀ l ∈ ws, l.length ≤ 100000) (h : ∀ H', Same H H' → Q (.bl true) H') : spSameSteps [.ref f, .ref d] H Q E := ⟨f, d, rows, rows2, ms, ws, rfl, hf, hd, h1, h2, m1, m2, l1, l2, hl, hw, h⟩
def spSettled (C : Addr) : Sp := fun vs H Q _ => ∃ (l tl sl : Addr) (as : List Addr) (ms : List Mv) (ts : List Int) (rows : List Row), vs = [.ref l, .ref tl, .ref sl] ∧ H l = some (.lst (as.map V.ref)) ∧ MvsAt H as ms ∧ Srt ms ∧ (∀ m ∈ ms, m.Ok) ∧ ms.length ≤ 200 ∧
  H tl = some (.lst (ts.map V.int)) ∧ ts.length = 4 ∧ ts.Pairwise (· ≤ ·) ∧ (∀ t ∈ ts, 0 ≤ t) ∧ H sl = some (.lst (rows.map rowV)) ∧ (∀ x ∈ rows, RowAt H x) ∧ rows.map (·.m) = ms ∧ rows.map (·.l) = stepW [] ms ∧
  ∀ p g H' t3, ts[3]? = some t3 → AllHeard C H H' p g ms → g.t = foldT [] (ms.take (goneM t3 ms)) → g.ms = ms.drop (goneM t3 ms) → Q (.ref p) H'
end Tm
namespace Tm
open PySem PySem.Spec PyProof.Rows L2
theorem cutV_mid {xs : List V} {i j : Nat} : cutV xs (some (i : Int)) (some (j : Int)) = cutM i j xs := by
  unfold cutV cutM
  rw [HT.sIx_nat, HT.sIx_nat]
  apply List.ext_getElem?
  intro n
  simp only [List.getElem?_drop, List.getElem?_take]
  by_cases c : i ≤ xs.length
  · rw [Nat.min_eq_left c]
    by_cases d : i + n < min j xs.length
    · rw [if_pos (by omega), if_pos (by omega)]
    · rw [if_neg (by omega)]
      by_cases d2 : i + n < j
      · rw [if_pos d2]
        exact (List.getElem?_eq_none (by omega)).symm
      · rw [if_neg d2]
  · have e1 : xs[i + n]? = none := List.getElem?_eq_none (by omega)
    rw [e1]
    split
    · split
      · exact List.getElem?_eq_none (by omega)
      · exact List.getElem?_eq_none (by omega)
    · split <;> rfl
theorem cutM_map {α β : Type} (f : α → β) {i j : Nat} {l : List α} : (cutM i j l).map f = cutM i j (l.map f) := by
  unfold cutM
  rw [List.map_drop, List.map_take]
theorem MvsAt.cut {H : Hp} {as : List Addr} {ms : List Mv} (h : MvsAt H as ms) (i j : Nat) : MvsAt H (cutM i j as) (cutM i j ms) := (h.take j).drop i
theorem cutM_min {α : Type} {i j : Nat} {l : List α} : cutM i (min j l.length) l = cutM i j l := by
  unfold cutM
  congr 1
  by_cases c : j ≤ l.length
  · rw [Nat.min_eq_left c]
  · rw [Nat.min_eq_right (by omega), List.take_of_length_le (Nat.le_refl _), List.take_of_length_le (by omega)]
theorem gone_ge {time : Int} {ms : List Mv} {i : Nat} {x : Mv} (h : Srt ms) (hi : goneM time ms ≤ i) (e : ms[i]? = some x) : time ≤ x.t := by
  have hl := (List.getElem?_eq_some_iff.mp e).1
  obtain ⟨y, hy⟩ : ∃ y, ms[goneM time ms]? = some y := ⟨_, List.getElem?_eq_getElem (by omega)⟩
  have b := goneM_at hy
  by_cases c : goneM time ms = i
  · rw [c, e] at hy
    have := Option.some.inj hy
    rw [this]
    omega
  · have := srt_at h hy e (by omega)
    unfold Bef at this
    omega
theorem gone_mono {a b : Int} {ms : List Mv} (h : Srt ms) (hab : a ≤ b) : goneM a ms ≤ goneM b ms := by
  have ha := goneM_le a ms
  by_cases c : goneM b ms < ms.length
  · obtain ⟨y, hy⟩ : ∃ y, ms[goneM b ms]? = some y := ⟨_, List.getElem?_eq_getElem c⟩
    have z := goneM_at hy
    by_cases d : goneM b ms < goneM a ms
    · have := goneM_lt d hy
      omega
    · omega
  · have := goneM_le b ms
    omega
theorem cut_bef {ms : List Mv} (h : Srt ms) {i j k : Nat} : ∀ x ∈ cutM i j ms, ∀ y ∈ cutM j k ms, Bef x y := by
  intro x hx y hy
  obtain ⟨n, hn⟩ := List.getElem?_of_mem hx
  obtain ⟨m, hm⟩ := List.getElem?_of_mem hy
  rw [cutM_at] at hn hm
  split at hn
  · split at hm
    · exact srt_at h hn hm (by omega)
    · cases hm
  · cases hn
theorem cut_mem {ms : List Mv} {i j : Nat} {y : Mv} (hy : y ∈ cutM i j ms) : ∃ n, i ≤ n ∧ n < j ∧ ms[n]? = some y := by
  obtain ⟨m, hm⟩ := List.getElem?_of_mem hy
  rw [cutM_at] at hm
  split at hm
  · exact ⟨i + m, by omega, by omega, hm⟩
  · cases hm
end Tm
namespace Tm
open PySem PySem.Spec PyProof.Rows L2
theorem perm_insA {α : Type} (n : Nat) (x : α) (l : List α) : (insA n x l).Perm (x :: l) := by
  have e : insA n x l = l.take n ++ x :: l.drop n := by unfold insA; simp
  rw [e]
  refine List.perm_middle.trans ?_
  rw [List.take_append_drop]
theorem pair_perm {a b : List Mv} (h : a.Perm b) (p : b.Pairwise fun x y => ¬ SameK x y) : a.Pairwise fun x y => ¬ SameK x y :=
  (h.pairwise_iff (R := fun x y => ¬ SameK x y) (fun {x y} n k => n ⟨k.1.symm, k.2.symm⟩)).mpr p
theorem c_movesOf3 {K : PySem.W.Frag} {H : Hp} {p : Addr} {ns : List Int} {c s : Int} {Q : VK} {E : XK} (hS : SqL K H p (ns.map V.int)) (hl : ns.length ≤ 63) (h : ∀ (l : Addr) (as : List Addr) (ms : List Mv) (H' : Hp), Same H H' → H l = none → H' l = some (.lst (as.map V.ref)) → MvsAt H' as ms → ms.length ≤ 100 → (∀ m ∈ ms, m.Ok) → ms.Pairwise (fun a b => ¬ SameK a b) → Q (.ref l) H') : spMovesOf3 K [.ref p, .int c, .int s] H Q E := ⟨p, ns, c, s, rfl, hS, hl, h⟩
/-- a log that has come to the same -/
structure CameTo (C : Addr) (H : Hp) (p : Addr) (g : Lg) (ms : List Mv) (d : Nat) : Prop where
  L : LogAt C H p g
  ac : Acyc g.t
  tl : g.t.length + g.as.length ≤ 1000
  tr : foldT g.t g.ms = foldT [] ms
  st : stepW g.t g.ms = (stepW [] ms).drop d
  em : g.ms = ms.drop d
  dl : d ≤ ms.length
theorem CameTo.same {C : Addr} {H H' : Hp} {p : Addr} {g : Lg} {ms : List Mv} {d : Nat} (h : CameTo C H p g ms d) (s : Same H H') : CameTo C H' p g ms d := ⟨h.L.same s, h.ac, h.tl, h.tr, h.st, h.em, h.dl⟩
theorem CameTo.all {C : Addr} {H0 H : Hp} {p : Addr} {g : Lg} {os ms : List Mv} (h : AllHeard C H0 H p g os) (ht : g.t = []) (hm : g.ms = ms) : CameTo C H p g ms 0 :=
  ⟨h.L, h.ac, h.tl, by rw [ht, hm], by rw [ht, hm]; rfl, by rw [hm]; rfl, Nat.zero_le _⟩
theorem CameTo.part {C : Addr} {H0 H : Hp} {p : Addr} {g : Lg} {ms : List Mv} {d : Nat} (h : AllHeard C H0 H p g ms) (hd : d ≤ ms.length) (ht : g.t = foldT [] (ms.take d)) (hm : g.ms = ms.drop d) : CameTo C H p g ms d := by
  have e : ms.drop d = cutM d ms.length ms := (cutM_all (Nat.le_refl _)).symm
  have e2 : (stepW [] ms).drop d = cutM d ms.length (stepW [] ms) := (cutM_all (by rw [stepW_length]; exact Nat.le_refl _)).symm
  refine ⟨h.L, h.ac, h.tl, ?_, ?_, hm, hd⟩
  · rw [ht, hm, e, foldT_cut ms hd, List.take_length]
  · rw [ht, hm, e, e2, stepW_cut ms hd (Nat.le_refl _)]
end Tm
namespace Tm
open PySem PySem.Spec PyProof.Rows L2
/-! those that stand under a folder, rising -/
def kidsR (t : Tr) (f : Int) : List Int := (t.filter fun p => decide (p.2 = f)).map (·.1)
def kids (t : Tr) (f : Int) : List Int := (kidsR t f).mergeSort fun a b => decide (a ≤ b)
theorem srt_ints : ∀ {a b : List Int}, a.Perm b → a.Pairwise (· ≤ ·) → b.Pairwise (· ≤ ·) → a = b
  | [], b, p, _, _ => (List.nil_perm.mp p).symm
  | x :: r, [], p, _, _ => absurd p.length_eq (by simp)
  | x :: r, y :: s, p, ha, hb => by
    obtain ⟨a1, a2⟩ := List.pairwise_cons.mp ha
    obtain ⟨b1, b2⟩ := List.pairwise_cons.mp hb
    have e : x = y := by
      have h1 : x ∈ y :: s := p.mem_iff.mp List.mem_cons_self
      have h2 : y ∈ x :: r := p.mem_iff.mpr List.mem_cons_self
      rcases List.mem_cons.mp h1 with z | z
      · exact z
      · rcases List.mem_cons.mp h2 with z2 | z2
        · exact z2.symm
        · have := b1 x z
          have := a1 y z2
          omega
    subst e
    rw [srt_ints (List.perm_cons x |>.mp p) a2 b2]
theorem kids_perm (t : Tr) (f : Int) : (kids t f).Perm (kidsR t f) := List.mergeSort_perm _ _
theorem kids_srt (t : Tr) (f : Int) : (kids t f).Pairwise (· ≤ ·) := by
  have h := List.pairwise_mergeSort (le := fun a b : Int => decide (a ≤ b)) (by intro a b c h1 h2; simp at *; omega) (by intro a b; simp; omega) (kidsR t f)
  exact h.imp fun {a b} z => by simpa using z
theorem kids_of {t : Tr} {f : Int} {l : List Int} (p : l.Perm (kidsR t f)) (s : l.Pairwise (· ≤ ·)) : l = kids t f := srt_ints (p.trans (kids_perm t f).symm) s (kids_srt t f)
theorem mem_kids {t : Tr} (hn : Nd t) {f x : Int} : x ∈ kids t f ↔ lk t x = some f := by
  rw [(kids_perm t f).mem_iff]
  unfold kidsR
  rw [List.mem_map]
  constructor
  · rintro ⟨p, hp, e⟩
    rw [List.mem_filter] at hp
    have z : p.2 = f := by simpa using hp.2
    have := lk_of_mem hn (k := p.1) (v := p.2) hp.1
    rw [← e, this, z]
  · intro h
    exact ⟨(x, f), List.mem_filter.mpr ⟨lk_mem h, by simp⟩, rfl⟩
theorem kids_nodup {t : Tr} (hn : Nd t) (f : Int) : (kids t f).Nodup := by
  rw [(kids_perm t f).nodup_iff]
  unfold kidsR
  exact List.Nodup.sublist ((List.filter_sublist).map _) hn
theorem kids_lt {t : Tr} (hn : Nd t) (f : Int) : (kids t f).Pairwise (· < ·) := by
  have h1 := kids_srt t f
  have h2 := kids_nodup hn f
  exact (h1.and h2).imp fun {a b} z => by have := z.1; have := z.2; omega
theorem kids_length (t : Tr) (f : Int) : (kids t f).length ≤ t.length := by
  rw [(kids_perm t f).length_eq]
  unfold kidsR
  rw [List.length_map]
  exact List.length_filter_le _ _
/-! rows: what is found, and what is due, with how deep -/
abbrev Dr := List (Int × Int)
def stR (rows : Dr) : List Int × List Int := rows.foldl (fun s r => (s.1.take r.1.toNat ++ [r.2], s.2.take r.1.toNat ++ [r.2])) ([0], [0])
theorem stR_snoc (rows : Dr) (r : Int × Int) : stR (rows ++ [r]) = ((stR rows).1.take r.1.toNat ++ [r.2], (stR rows).2.take r.1.toNat ++ [r.2]) := by
  unfold stR
  rw [List.foldl_append]
  rfl
structure OkRow (t : Tr) (s : List Int × List Int) (r : Int × Int) : Prop where
  d1 : 1 ≤ r.1
  d2 : r.1 ≤ s.1.length
  par : ∃ u, lk t r.2 = some u ∧ s.1[r.1.toNat - 1]? = some u
  las : ∀ y, s.2[r.1.toNat]? = some y → y < r.2
def ValidR (t : Tr) (rows : Dr) : Prop := ∀ (i : Nat) r, rows[i]? = some r → OkRow t (stR (rows.take i)) r
theorem ValidR.snoc {t : Tr} {rows : Dr} {r : Int × Int} (h : ValidR t rows) (o : OkRow t (stR rows) r) : ValidR t (rows ++ [r]) := by
  intro i x e
  rw [List.getElem?_append] at e
  by_cases c : i < rows.length
  · rw [if_pos c] at e
    rw [List.take_append_of_le_length (by omega)]
    exact h i x e
  · rw [if_neg c] at e
    have z : i = rows.length := by
      have := (List.getElem?_eq_some_iff.mp e).1
      simp at this
      omega
    subst z
    simp at e
    subst e
    rw [List.take_left]
    exact o
/-- the state of the search: found, due (the next one first) -/
structure Dfs (t : Tr) (fo du : Dr) : Prop where
  val : ValidR t fo
  len : (stR fo).2.length = (stR fo).1.length
  pos : 1 ≤ (stR fo).1.length
  due : ∀ r ∈ du, 1 ≤ r.1 ∧ r.1 ≤ (stR fo).1.length ∧ (∃ u, lk t r.2 = some u ∧ (stR fo).1[r.1.toNat - 1]? = some u) ∧ ∀ y, (stR fo).2[r.1.toNat]? = some y → y < r.2
  ord : du.Pairwise fun a b => b.1 < a.1 ∨ (a.1 = b.1 ∧ a.2 < b.2)
  nd : ((fo ++ du).map (·.2)).Nodup
  par : ∀ r ∈ fo ++ du, lk t r.2 = some 0 ∨ ∃ u, lk t r.2 = some u ∧ u ∈ fo.map (·.2)
  top : ∀ r ∈ fo ++ du, (way t r.2).getLast? = some 0
  all : ∀ p : Int, (p = 0 ∨ p ∈ fo.map (·.2)) → ∀ k, lk t k = some p → k ∈ (fo ++ du).map (·.2)
end Tm
namespace Tm
open PySem PySem.Spec PyProof.Rows L2
theorem Dfs.start {t : Tr} (hn : Nd t) (hA : Acyc t) (h0 : lk t 0 = none) : Dfs t [] ((kids t 0).map fun k => ((1 : Int), k)) := by
  have e2 : ((kids t 0).map fun k => ((1 : Int), k)).map (·.2) = kids t 0 := by rw [List.map_map]; exact List.map_id _
  refine ⟨fun i r e => by simp at e, rfl, by simp [stR], fun r hr => ?_, ?_, ?_, fun r hr => ?_, fun r hr => ?_, fun p hp k hk => ?_⟩
  · obtain ⟨k, hk, e⟩ := List.mem_map.mp hr
    subst e
    exact ⟨Int.le_refl _, by simp [stR], ⟨0, (mem_kids hn).mp hk, rfl⟩, fun y hy => by simp [stR] at hy⟩
  · rw [List.pairwise_map]
    exact (kids_lt hn 0).imp fun {a b} z => .inr ⟨rfl, z⟩
  · rw [List.nil_append, e2]
    exact kids_nodup hn 0
  · obtain ⟨k, hk, e⟩ := List.mem_map.mp (by simpa using hr)
    subst e
    exact .inl ((mem_kids hn).mp hk)
  · obtain ⟨k, hk, e⟩ := List.mem_map.mp (by simpa using hr)
    subst e
    show (way t k).getLast? = some 0
    rw [way_next hA ((mem_kids hn).mp hk), way_end h0]
    rfl
  · rcases hp with z | z
    · subst z
      rw [List.nil_append, e2]
      exact (mem_kids hn).mpr hk
    · simp at z
theorem Dfs.step {t : Tr} (hn : Nd t) (hA : Acyc t) (h0 : lk t 0 = none) {fo r : Dr} {d x : Int} (h : Dfs t fo ((d, x) :: r)) : Dfs t (fo ++ [(d, x)]) (((kids t x).map fun k => (d + 1, k)) ++ r) := by
  obtain ⟨d1, d2, ⟨u, hu, hp⟩, hl⟩ := h.due (d, x) List.mem_cons_self
  simp only at d1 d2 hu hp hl
  have o : OkRow t (stR fo) (d, x) := ⟨d1, d2, ⟨u, hu, hp⟩, hl⟩
  have hlen := h.len
  have x0 : x ≠ 0 := fun z => by rw [z, h0] at hu; cases hu
  have e2 : ((kids t x).map fun k => (d + 1, k)).map (·.2) = kids t x := by rw [List.map_map]; exact List.map_id _
  have old : (fo.map (·.2) ++ x :: r.map (·.2)).Nodup := by have z := h.nd; rw [List.map_append] at z; exact z
  have xfo : x ∉ fo.map (·.2) := fun z => (List.nodup_append.mp old).2.2 x z x List.mem_cons_self rfl
  obtain ⟨o1, o2⟩ := List.pairwise_cons.mp h.ord
  have hs := stR_snoc fo (d, x)
  simp only at hs
  have lP : (stR (fo ++ [(d, x)])).1.length = d.toNat + 1 := by rw [hs]; simp; omega
  have lL : (stR (fo ++ [(d, x)])).2.length = d.toNat + 1 := by rw [hs]; simp; omega
  refine ⟨h.val.snoc o, by rw [lP, lL], by omega, fun y hy => ?_, ?_, ?_, fun y hy => ?_, fun y hy => ?_, fun p hp' k hk => ?_⟩
  · rcases List.mem_append.mp hy with z | z
    · obtain ⟨k, hk, e⟩ := List.mem_map.mp z
      subst e
      have hk := (mem_kids hn).mp hk
      refine ⟨by show 1 ≤ d + 1; omega, by show d + 1 ≤ _; rw [lP]; omega, ⟨x, hk, ?_⟩, fun w hw => ?_⟩
      · show (stR (fo ++ [(d, x)])).1[(d + 1).toNat - 1]? = some x
        have e : (d + 1).toNat - 1 = d.toNat := by omega
        rw [e, hs]
        simp only
        rw [List.getElem?_append_right (by simp; omega)]
        have : d.toNat - (List.take d.toNat (stR fo).1).length = 0 := by simp; omega
        rw [this]
        rfl
      · have hw' : (stR (fo ++ [(d, x)])).2[(d + 1).toNat]? = some w := hw
        have := (List.getElem?_eq_some_iff.mp hw').1
        omega
    · obtain ⟨q1, q2, ⟨v, q3, q4⟩, q5⟩ := h.due y (List.mem_cons_of_mem _ z)
      have q6 := o1 y z
      simp only at q6
      have q7 : y.1 ≤ d := by omega
      refine ⟨q1, by rw [lP]; omega, ⟨v, q3, ?_⟩, fun w hw => ?_⟩
      · rw [hs]
        simp only
        rw [List.getElem?_append_left (by simp; omega), List.getElem?_take, if_pos (by omega)]
        exact q4
      · rw [hs] at hw
        simp only at hw
        by_cases c : y.1 = d
        · have q8 : x < y.2 := by omega
          rw [c, List.getElem?_append_right (by simp; omega)] at hw
          have : d.toNat - (List.take d.toNat (stR fo).2).length = 0 := by simp; omega
          rw [this] at hw
          simp at hw
          omega
        · rw [List.getElem?_append_left (by simp; omega), List.getElem?_take, if_pos (by omega)] at hw
          exact q5 w hw
  · rw [List.pairwise_append]
    refine ⟨?_, o2, fun a ha b hb => ?_⟩
    · rw [List.pairwise_map]
      exact (kids_lt hn x).imp fun {a b} z => .inr ⟨rfl, z⟩
    · obtain ⟨k, hk, e⟩ := List.mem_map.mp ha
      subst e
      have := o1 b hb
      simp only at this
      exact .inl (by show b.1 < d + 1; omega)
  · have e : ((fo ++ [(d, x)]) ++ (((kids t x).map fun k => (d + 1, k)) ++ r)).map (·.2) = (fo.map (·.2) ++ [x]) ++ (kids t x ++ r.map (·.2)) := by
      rw [List.map_append, List.map_append, List.map_append, e2]
      rfl
    rw [e, (List.perm_append_comm_assoc _ _ _).nodup_iff, List.nodup_append]
    refine ⟨kids_nodup hn x, by simpa using old, fun a ha b hb z => ?_⟩
    subst z
    have ha := (mem_kids hn).mp ha
    have hb' : a ∈ (fo ++ (d, x) :: r).map (·.2) := by
      rw [List.map_append]
      simpa using hb
    obtain ⟨y, hy, ey⟩ := List.mem_map.mp hb'
    rcases h.par y hy with w | ⟨v, w1, w2⟩
    · rw [ey, ha] at w
      exact x0 (Option.some.inj w)
    · rw [ey, ha] at w1
      rw [← Option.some.inj w1] at w2
      exact xfo w2
  · have keepP : ∀ y ∈ fo ++ (d, x) :: r, lk t y.2 = some 0 ∨ ∃ u, lk t y.2 = some u ∧ u ∈ (fo ++ [(d, x)]).map (·.2) := fun y hy => by
      rcases h.par y hy with w | ⟨v, w1, w2⟩
      · exact .inl w
      · exact .inr ⟨v, w1, by rw [List.map_append]; exact List.mem_append_left _ w2⟩
    rcases List.mem_append.mp hy with z | z
    · refine keepP y ?_
      rcases List.mem_append.mp z with z | z
      · exact List.mem_append_left _ z
      · rw [List.mem_singleton.mp z]
        simp
    · rcases List.mem_append.mp z with z | z
      · obtain ⟨k, hk, e⟩ := List.mem_map.mp z
        subst e
        exact .inr ⟨x, (mem_kids hn).mp hk, by simp⟩
      · exact keepP y (List.mem_append_right _ (List.mem_cons_of_mem _ z))
  · rcases List.mem_append.mp hy with z | z
    · refine h.top y ?_
      rcases List.mem_append.mp z with z | z
      · exact List.mem_append_left _ z
      · rw [List.mem_singleton.mp z]
        simp
    · rcases List.mem_append.mp z with z | z
      · obtain ⟨k, hk, e⟩ := List.mem_map.mp z
        subst e
        show (way t k).getLast? = some 0
        have tx : (way t x).getLast? = some 0 := h.top (d, x) (by simp)
        rw [way_next hA ((mem_kids hn).mp hk), List.getLast?_cons, tx]
        rfl
      · exact h.top y (List.mem_append_right _ (List.mem_cons_of_mem _ z))
  · have sub : ∀ k, k ∈ (fo ++ (d, x) :: r).map (·.2) → k ∈ ((fo ++ [(d, x)]) ++ (((kids t x).map fun k => (d + 1, k)) ++ r)).map (·.2) := fun k hk' => by
      rw [List.map_append] at hk' ⊢
      rw [List.map_append, List.map_append]
      simp at hk' ⊢
      rcases hk' with w | w | w
      · exact .inl w
      · exact .inr (.inl w)
      · exact .inr (.inr (.inr w))
    have hp2 : p = 0 ∨ p ∈ fo.map (·.2) ∨ p = x := by
      rcases hp' with w | w
      · exact .inl w
      · rw [List.map_append] at w
        rcases List.mem_append.mp w with w | w
        · exact .inr (.inl w)
        · exact .inr (.inr (by simpa using w))
    rcases hp2 with w | w | w
    · exact sub k (h.all p (.inl w) k hk)
    · exact sub k (h.all p (.inr w) k hk)
    · rw [w] at hk
      rw [List.map_append, List.map_append (l₁ := (kids t x).map _), e2]
      exact List.mem_append_right _ (List.mem_append_left _ ((mem_kids hn).mpr hk))
theorem Dfs.keys {t : Tr} {fo du : Dr} (h : Dfs t fo du) : ∀ x ∈ fo.map (·.2), x ∈ t.map (·.1) := by
  intro x hx
  obtain ⟨r, hr, e⟩ := List.mem_map.mp hx
  obtain ⟨i, hi⟩ := List.getElem?_of_mem hr
  obtain ⟨u, hu, _⟩ := (h.val i r hi).par
  rw [← e]
  exact lk_key.mp (by rw [hu]; rfl)
theorem Dfs.few {t : Tr} {fo du : Dr} (h : Dfs t fo du) : fo.length ≤ t.length := by
  have nd : (fo.map (·.2)).Nodup := by
    have z := h.nd
    rw [List.map_append] at z
    exact (List.nodup_append.mp z).1
  have z := le_of_subset nd h.keys
  simpa using z
theorem Dfs.done {t : Tr} {fo : Dr} (hA : Acyc t) (h : Dfs t fo []) (x : Int) : x ∈ fo.map (·.2) ↔ (lk t x).isSome = true ∧ (way t x).getLast? = some 0 := by
  constructor
  · intro hx
    refine ⟨lk_key.mpr (h.keys x hx), ?_⟩
    obtain ⟨r, hr, e⟩ := List.mem_map.mp hx
    rw [← e]
    exact h.top r (by simpa using hr)
  · rintro ⟨h1, h2⟩
    have p := hA.path x
    generalize way t x = l at *
    induction p with
    | top e => rw [e] at h1; cases h1
    | @step f u l' e p ih =>
      obtain ⟨r, er⟩ := p.head
      have h2' : l'.getLast? = some 0 := by
        rw [List.getLast?_cons, er, List.getLast?_cons] at h2
        rw [er, List.getLast?_cons]
        simpa using h2
      have key : (u = 0 ∨ u ∈ fo.map (·.2)) := by
        cases eu : lk t u with
        | none =>
          have z := (Path.top eu).uniq p
          rw [← z] at h2'
          simp at h2'
          exact .inl h2'
        | some v => exact .inr (ih (by rw [eu]; rfl) h2')
      have z := h.all u key f e
      simpa using z
end Tm
namespace Tm
open PySem PySem.Spec PyProof.Rows L2
section
variable {K : PySem.W.Frag} {σ : L2.St} {H : Hp} {Q : VK} {te : TE} {tt : TT} {ts : TA} {j : Nat} {p : Addr}
def qLcV (K : PySem.W.Frag) (g : TG) (tt : TT) (te : TE) (vs : List Nat) (σ : L2.St) (Q : VK) : List V → Hp → Prop := fun ws H1 => ∃ (a : Addr) (xs : List V), ws = [.ref a] ∧ SqL K H1 a xs ∧ qLc (Itv K a xs.length).go (Itv K a xs.length).stop (Itv K a xs.length).yld g tt te vs σ Q H1
instance {g : TG} {vs : List Nat} : Step (tLc (iRev K ts) g tt te vs σ H Q) (ts σ H (qLcV K g tt te vs σ Q)) := ⟨fun h => h⟩
/-- [.. for x in reversed(a list)] -/
theorem r_lcV {xs : List V} (Pv : Addr → Nat → Hp → Prop) (h0 : ∀ D, H D = none → Pv D 0 (upd H D (.lst []))) (hx : SqL K H p xs) (hl : ∀ D i H, i ≤ xs.length → Pv D i H → SqL K H p xs)
    (hs : ∀ D i x H, xs.reverse[i]? = some x → Pv D i H → tt ((σ.set j none).set j (some x)) H (qLcT te ((σ.set j none).set j (some x)) D (Pv D (i + 1)))) (hd : ∀ D H, Pv D xs.length H → Q (.ref D) H) : qLcV K (gName j) tt te [j] σ Q [.ref p] H := by
  refine ⟨p, xs, rfl, hx, fun D nD => ⟨fun i m H => m = xs.length - i ∧ i ≤ xs.length ∧ Pv D i H, ⟨xs.length, by simp, Nat.zero_le _, h0 D nD⟩, ?_⟩⟩
  rintro i m H ⟨rfl, hi, q⟩
  have hq := hl D i H hi q
  by_cases hlt : i < xs.length
  · have e : xs[xs.length - 1 - i]? = some (xs[xs.length - 1 - i]'(by omega)) := List.getElem?_eq_getElem (by omega)
    refine .inr ⟨⟨hlt, xs, _, hq, e⟩, Pv D (i + 1), fun H' p' => ⟨xs.length - (i + 1), by omega, rfl, hlt, p'⟩, fun x H' y => ?_⟩
    obtain ⟨eH, y⟩ := y
    subst eH
    refine ⟨?_, hs D i x _ ?_ q⟩
    · show (((σ.set j none).set j (some _)).set j none) = σ.set j none
      rw [List.set_set, List.set_set]
    · rw [List.getElem?_reverse hlt]
      exact y xs hq
  · have e : i = xs.length := by omega
    subst e
    exact .inl ⟨Nat.le_refl _, hd D H q⟩
end
/-- a list's truth -/
def qTru (K : PySem.W.Frag) (B : Bool → Hp → Prop) : VK := fun x H' => ∃ k, TruV K x H' k ∧ B k H'
theorem r_truL {K : PySem.W.Frag} {H : Hp} {B : Bool → Hp → Prop} {p : Addr} {xs : List V} (hp : H p = some (.lst xs)) (h : B (!xs.isEmpty) H) : qTru K B (.ref p) H := ⟨_, .inl ⟨xs, SqL.of hp, rfl⟩, h⟩
/-- pop() -/
def qTy0 (K : PySem.W.Frag) (T : String) (r : V → List V → Hp → VK → Prop) (Q : VK) : VK := fun x H1 => tyV K T x H1 ∧ r x [] H1 Q
instance {K : PySem.W.Frag} {T : String} {r : V → List V → Hp → VK → Prop} {to : TE} {σ : L2.St} {H : Hp} {Q : VK} : Step (tBM0 K T r to σ H Q) (to σ H (qTy0 K T r Q)) := ⟨fun h => h⟩
theorem r_pop {K : PySem.W.Frag} {H : Hp} {Q : VK} {p : Addr} {xs : List V} {y : V} (hp : H p = some (.lst (xs ++ [y]))) (h : Q y (upd H p (.lst xs))) : qTy0 K "list" rPop Q (.ref p) H :=
  ⟨.inl ⟨rfl, xs ++ [y], .inl (.inl hp)⟩, p, xs ++ [y], y, rfl, rfl, hp, by simp, by rw [List.dropLast_concat]; exact h⟩
/-! pairs of a depth and a folder, in the heap -/
def DrAt (H : Hp) (as : List Addr) (rs : Dr) : Prop := as.map H = rs.map fun r => some (HO.tup [.int r.1, .int r.2])
theorem DrAt.of {H H' : Hp} {as : List Addr} {rs : Dr} (h : DrAt H as rs) (k : ∀ a vs, H a = some (.tup vs) → H' a = some (.tup vs)) : DrAt H' as rs := by
  unfold DrAt at *
  rw [← h]
  refine List.map_congr_left fun a ha => ?_
  have z : H a ∈ as.map H := List.mem_map_of_mem ha
  rw [h] at z
  obtain ⟨r, _, e⟩ := List.mem_map.mp z
  rw [← e, k a _ e.symm]
theorem DrAt.snoc {H : Hp} {as : List Addr} {rs : Dr} {a : Addr} {r : Int × Int} (h : DrAt H as rs) (e : H a = some (.tup [.int r.1, .int r.2])) : DrAt H (as ++ [a]) (rs ++ [r]) := by
  unfold DrAt at *
  rw [List.map_append, List.map_append, h]
  simp [e]
theorem DrAt.length {H : Hp} {as : List Addr} {rs : Dr} (h : DrAt H as rs) : as.length = rs.length := by
  have := congrArg List.length h
  simpa using this
theorem DrAt.get {H : Hp} {as : List Addr} {rs : Dr} (h : DrAt H as rs) {i : Nat} {x : V} (e : (as.map V.ref)[i]? = some x) : ∃ y r, x = .ref y ∧ rs[i]? = some r ∧ H y = some (.tup [.int r.1, .int r.2]) := by
  rw [List.getElem?_map] at e
  cases z : as[i]? with
  | none => rw [z] at e; cases e
  | some y =>
    rw [z] at e
    cases e
    have q : (as.map H)[i]? = (rs.map fun r => some (HO.tup [.int r.1, .int r.2]))[i]? := by rw [h]
    rw [List.getElem?_map, List.getElem?_map, z] at q
    cases w : rs[i]? with
    | none => rw [w] at q; cases q
    | some r =>
      rw [w] at q
      exact ⟨y, r, rfl, rfl, Option.some.inj q⟩
theorem DrAt.last {H : Hp} {as : List Addr} {rs : Dr} {r : Int × Int} (h : DrAt H as (rs ++ [r])) : ∃ as' a, as = as' ++ [a] ∧ DrAt H as' rs ∧ H a = some (.tup [.int r.1, .int r.2]) := by
  have hl := h.length
  rcases List.eq_nil_or_concat as with e | ⟨as', a, e⟩
  · rw [e] at hl; simp at hl
  · refine ⟨as', a, by rw [e, List.concat_eq_append], ?_⟩
    rw [e, List.concat_eq_append] at h
    unfold DrAt at h ⊢
    rw [List.map_append, List.map_append] at h
    have z := List.append_inj h (by rw [e] at hl; simp at hl; simp; omega)
    exact ⟨z.1, by simpa using z.2⟩
def spChildren : Sp := fun vs H Q _ => ∃ (d : Addr) (t : Tr) (f : Int), vs = [.ref d, .int f] ∧ H d = some (.dK (enc t)) ∧ Nd t ∧ t.length ≤ 1000 ∧ ∀ p H', Same H H' → H p = none → H' p = some (.lst ((kids t f).map V.int)) → Q (.ref p) H'
theorem c_children {H : Hp} {d : Addr} {t : Tr} {f : Int} {Q : VK} {E : XK} (hd : H d = some (.dK (enc t))) (hn : Nd t) (hl : t.length ≤ 1000) (h : ∀ p H', Same H H' → H p = none → H' p = some (.lst ((kids t f).map V.int)) → Q (.ref p) H') : spChildren [.ref d, .int f] H Q E := ⟨d, t, f, rfl, hd, hn, hl, h⟩
def spRows : Sp := fun vs H Q _ => ∃ (d : Addr) (t : Tr), vs = [.ref d] ∧ H d = some (.dK (enc t)) ∧ Nd t ∧ Acyc t ∧ lk t 0 = none ∧ t.length ≤ 1000 ∧ ∀ p as fo H', Same H H' → H p = none → H' p = some (.lst (as.map V.ref)) → DrAt H' as fo → Dfs t fo [] → Q (.ref p) H'
theorem c_rows {H : Hp} {d : Addr} {t : Tr} {Q : VK} {E : XK} (hd : H d = some (.dK (enc t))) (hn : Nd t) (hA : Acyc t) (h0 : lk t 0 = none) (hl : t.length ≤ 1000) (h : ∀ p as fo H', Same H H' → H p = none → H' p = some (.lst (as.map V.ref)) → DrAt H' as fo → Dfs t fo [] → Q (.ref p) H') : spRows [.ref d] H Q E := ⟨d, t, rfl, hd, hn, hA, h0, hl, h⟩
def spHangs : Sp := fun vs H Q _ => ∃ (d l : Addr) (t : Tr) (as : List Addr) (fo : Dr), vs = [.ref d, .ref l] ∧ H d = some (.dK (enc t)) ∧ H l = some (.lst (as.map V.ref)) ∧ DrAt H as fo ∧ ValidR t fo ∧ (∀ k ∈ t.map (·.1), 1 ≤ k) ∧ fo.length ≤ 1000 ∧ ∀ H', Same H H' → Q (.bl true) H'
theorem kidsR_snoc (t : Tr) (f : Int) (p : Int × Int) : kidsR (t ++ [p]) f = kidsR t f ++ (if p.2 = f then [p.1] else []) := by
  unfold kidsR
  rw [List.filter_append, List.map_append]
  by_cases c : p.2 = f <;> simp [c]
end Tm
namespace Tm
open PySem PySem.Spec PyProof.Rows L2
theorem cutL_take {α : Type} {xs : List α} {n : Nat} : cutL xs none (some (n : Int)) = xs.take n := by
  unfold cutL
  rw [HT.sIx_none, HT.sIx_nat]
  simp only [Nat.sub_zero, List.drop_zero]
  by_cases c : n ≤ xs.length
  · rw [Nat.min_eq_left c]
  · rw [Nat.min_eq_right (by omega), List.take_of_length_le (Nat.le_refl _), List.take_of_length_le (by omega)]
theorem set_end {α : Type} {l : List α} {n : Nat} {x : α} (h : l.length = n + 1) : l.set n x = l.take n ++ [x] := by
  apply List.ext_getElem?
  intro i
  rw [List.getElem?_set]
  by_cases c : n = i
  · subst c
    rw [if_pos rfl, if_pos (by omega), List.getElem?_append_right (by simp; omega)]
    have : n - (List.take n l).length = 0 := by simp; omega
    rw [this]
    rfl
  · rw [if_neg c]
    by_cases d : i < n
    · rw [List.getElem?_append_left (by simp; omega), List.getElem?_take, if_pos d]
    · rw [List.getElem?_eq_none (by omega), List.getElem?_eq_none (by simp; omega)]
end Tm
namespace Tm
open PySem PySem.Spec PyProof.Rows L2
/-- the way up, in a dict that may be locked -/
def spWayR : Sp := fun vs H Q _ => ∃ (d : Addr) (t : Tr) (f : Int), vs = [.ref d, .int f] ∧ Rd H d (.dK (enc t)) ∧ Acyc t ∧ t.length ≤ 100000 ∧ ∀ p, H p = none → Q (.ref p) (upd H p (.lst ((way t f).map V.int)))
theorem c_wayR {H : Hp} {d : Addr} {t : Tr} {f : Int} {Q : VK} {E : XK} (hd : Rd H d (.dK (enc t))) (hA : Acyc t) (hl : t.length ≤ 100000) (h : ∀ p, H p = none → Q (.ref p) (upd H p (.lst ((way t f).map V.int)))) : spWayR [.ref d, .int f] H Q E := ⟨d, t, f, rfl, hd, hA, hl, h⟩
theorem c_hangs {H : Hp} {d l : Addr} {t : Tr} {as : List Addr} {fo : Dr} {Q : VK} {E : XK} (hd : H d = some (.dK (enc t))) (hl : H l = some (.lst (as.map V.ref))) (ha : DrAt H as fo) (hv : ValidR t fo) (hk : ∀ k ∈ t.map (·.1), 1 ≤ k) (hn : fo.length ≤ 1000) (h : ∀ H', Same H H' → Q (.bl true) H') : spHangs [.ref d, .ref l] H Q E := ⟨d, l, t, as, fo, rfl, hd, hl, ha, hv, hk, hn, h⟩
noncomputable def hangR (t : Tr) : List Int := (t.map (·.1)).filter fun k => decide ((way t k).getLast? = some 0)
def drD (r : Int × Int) : PyData := .tuple [.int r.1, .int r.2]
theorem dp_dr {K : PySem.W.Frag} {H : Hp} : ∀ {as : List Addr} {rs : Dr}, DrAt H as rs → DpAll K H (as.map V.ref) (rs.map drD)
  | [], [], _ => .nil
  | [], _ :: _, h => by cases h
  | _ :: _, [], h => by cases h
  | a :: as, r :: rs, h => by
    unfold DrAt at h
    simp only [List.map_cons, List.cons.injEq] at h
    exact .cons (.tup (SqT.of h.1) (.cons (.int _) (.cons (.int _) .nil))) (dp_dr h.2)
theorem sh_dr (rs : Dr) : SeqAt.shaped (.list (rs.map drD)) = true ∧ PyData.eqv (.list (rs.map drD)) (.list (rs.map drD)) = true := by
  have h1 : PyData.canLayAll0 (rs.map drD) = true ∧ PyData.depthAll (rs.map drD) ≤ 1 ∧ PyData.eqvAll (rs.map drD) (rs.map drD) = true := by
    induction rs with
    | nil => simp [PyData.canLayAll0, PyData.depthAll, PyData.eqvAll]
    | cons r s ih =>
      obtain ⟨i1, i2, i3⟩ := ih
      refine ⟨by simp [PyData.canLayAll0, i1, drD, PyData.canLay0], ?_, by simp [PyData.eqvAll, i3, drD, PyData.eqv]⟩
      simp [PyData.depthAll, drD, PyData.depth]
      omega
  obtain ⟨i1, i2, i3⟩ := h1
  refine ⟨?_, by simp only [PyData.eqv]; exact i3⟩
  show (PyData.canLay0 (.list _) && decide (PyData.depth (.list _) ≤ 64)) = true
  rw [Bool.and_eq_true]
  refine ⟨by simp only [PyData.canLay0]; exact i1, decide_eq_true ?_⟩
  simp only [PyData.depth]
  omega
theorem r_neDr {K : PySem.W.Frag} {H : Hp} {Q : VK} {x y : Addr} {as bs : List Addr} {rs : Dr} (hx : H x = some (.lst (as.map V.ref))) (hy : H y = some (.lst (bs.map V.ref))) (ha : DrAt H as rs) (hb : DrAt H bs rs) (q : Q (.bl false) H) : rNeD K (.ref x) (.ref y) H Q :=
  ⟨_, _, .lst (SqL.of hx) (dp_dr ha), .lst (SqL.of hy) (dp_dr hb), (sh_dr rs).1, (sh_dr rs).1, by rw [(sh_dr rs).2]; exact q⟩
theorem r_eqInts {K : PySem.W.Frag} {H : Hp} {Q : VK} {x y : Addr} {l : List Int} (hx : H x = some (.lst (l.map V.int))) (hy : H y = some (.lst (l.map V.int))) (q : Q (.bl true) H) : rEqD K (.ref x) (.ref y) H Q := by
  have sh : SeqAt.shaped (intsD l) = true := by
    show (PyData.canLay0 (intsD l) && decide (PyData.depth (intsD l) ≤ 64)) = true
    rw [Bool.and_eq_true]
    refine ⟨by simp only [intsD, PyData.canLay0]; exact lay_ints l, decide_eq_true ?_⟩
    simp only [intsD, PyData.depth, depth_ints]
    omega
  refine ⟨intsD l, intsD l, .lst (SqL.of hx) (dpAll_ints l), .lst (SqL.of hy) (dpAll_ints l), sh, sh, ?_⟩
  have e : PyData.eqv (intsD l) (intsD l) = true := by simp only [intsD, PyData.eqv]; exact eqv_ints l
  rw [e]
  exact q
/-- one folder under the top -/
theorem dfs_one {k : Int} {fo : Dr} (h : Dfs [(k, 0)] fo []) (hA : Acyc [(k, 0)]) (hk : 1 ≤ k) : fo = [((1 : Int), k)] := by
  have l1 := h.few
  have hlk : lk [(k, 0)] k = some 0 := by simp [lk]
  have h0 : lk [(k, 0)] 0 = none := by simp [lk]; omega
  have mem : k ∈ fo.map (·.2) := (h.done hA k).mpr ⟨by rw [hlk]; rfl, by rw [way_next hA hlk, way_end h0]; rfl⟩
  match fo, l1, mem, h with
  | [], _, m, _ => simp at m
  | [r], _, m, h =>
    have o := h.val 0 r rfl
    obtain ⟨dd, x⟩ := r
    have ex : k = x := by simpa using m
    have z1 := o.d1
    have z2 := o.d2
    simp [stR] at z1 z2
    have : dd = 1 := by omega
    rw [this, ex]
  | _ :: _ :: _, l, _, _ => simp at l
end Tm
namespace Tm
open PySem PySem.Spec PyProof.Rows L2
/-- x = [.. for k in a dict] -/
theorem r_setLcK {σ : L2.St} {H : Hp} {te : TE} {tt : TT} {i j k : Nat} {nx bk ct : L2.St → Hp → Prop} {rt : VK} {d : Addr} {t : Tr} (e : σ[i]? = some (some (.ref d))) (hd : H d = some (.dK (enc t))) (Pv : Obj → Addr → Nat → Hp → Prop) (h0 : ∀ od D, H D = none → D ≠ d → Pv od D 0 (upd (upd H d (.frz od (.dK (enc t)))) D (.lst []))) (hl : ∀ od D i H, Pv od D i H → H d = some (.frz od (.dK (enc t))))
    (hs : ∀ od D i p H, t[i]? = some p → Pv od D i H → tt ((σ.set j none).set j (some (.int p.1))) H (qLcT te ((σ.set j none).set j (some (.int p.1))) D (Pv od D (i + 1))))
    (hn : ∀ od D H, Pv od D t.length H → nx (σ.set k (some (.ref D))) (upd H d (.dK (enc t)))) : tLock (tAsg (tLc (iKeys (tVar i)) (gName j) tt te [j]) (gName k)) ⟨nx, rt, bk, ct⟩ σ H := by
  refine ⟨d, _, hd, trivial, fun od => ?_⟩
  refine ⟨_, e, d, od, rfl, .inl ⟨enc t, upd_same, ?_⟩⟩
  intro D nD
  obtain ⟨nD, neD⟩ := new_free nD
  refine ⟨fun i m H => m = t.length - i ∧ i ≤ t.length ∧ Pv od D i H, ⟨t.length, by simp, Nat.zero_le _, h0 od D nD neD⟩, ?_⟩
  rintro i m H ⟨rfl, hi, q⟩
  have hq := hl od D i H q
  by_cases hlt : i < t.length
  · refine .inr ⟨⟨hq, by rw [enc_length]; exact hlt⟩, Pv od D (i + 1), fun H' p' => ⟨t.length - (i + 1), by omega, rfl, hlt, p'⟩, fun x H' y => ?_⟩
    obtain ⟨eH, k, v, e1, e2⟩ := y
    subst eH
    have et : t[i]? = some t[i] := List.getElem?_eq_getElem hlt
    have e3 : (enc t)[i]? = some (Sum.inl t[i].1, V.int t[i].2) := by
      unfold enc
      rw [List.getElem?_map, et]
      rfl
    rw [e3] at e1
    cases e1
    subst e2
    refine ⟨?_, hs od D i t[i] _ et q⟩
    show (((σ.set j none).set j (some _)).set j none) = σ.set j none
    rw [List.set_set, List.set_set]
  · have e : i = t.length := by omega
    subst e
    exact .inl ⟨⟨hq, by rw [enc_length]; exact Nat.le_refl _⟩, hq, hn od D H q⟩
end Tm
namespace Tm
open PySem PySem.Spec PyProof.Rows L2
theorem dfs_perm {t : Tr} {fo : Dr} (hn : Nd t) (hA : Acyc t) (h : Dfs t fo []) : (fo.map (·.2)).Perm (hangR t) := by
  have n1 : (fo.map (·.2)).Nodup := by
    have z := h.nd
    rw [List.append_nil] at z
    exact z
  have n2 : (hangR t).Nodup := List.Nodup.sublist List.filter_sublist hn
  refine (List.perm_ext_iff_of_nodup n1 n2).mpr fun x => ?_
  rw [h.done hA x, lk_key]
  unfold hangR
  rw [List.mem_filter]
  simp
theorem acyc_one {k : Int} (hk : 1 ≤ k) : Acyc [(k, 0)] := by
  have h0 : way [] 0 = [0] := way_end rfl
  have z := Acyc.nil.put (f := k) (u := 0) (by rw [h0]; simp; omega)
  have e : pt [] k 0 = [(k, 0)] := rfl
  rw [e] at z
  exact z
theorem nd_one {k : Int} : Nd [(k, 0)] := by simp [Nd]
theorem lk_one {k : Int} (hk : 1 ≤ k) : lk [(k, 0)] 0 = none := by
  have : ¬ k = 0 := by omega
  simp [lk, this]
theorem merge_one {k : Int} : mergeK [] [((Sum.inl k : Key), V.int 0)] = enc [(k, 0)] := rfl
end Tm
namespace Tm
open PySem PySem.Spec PyProof.Rows L2
/-! hands in the heap -/
def hdF (n c : Int) (lg : Addr) : List (Str × V) := [("number", .int n), ("clock", .int c), ("log", .ref lg)]
structure HandAt (CH CL : Addr) (H : Hp) (p dx : Addr) (n c : Int) (lg : Addr) (g : Lg) : Prop where
  hp : H p = some (.ins CH dx (hdF n c lg))
  L : LogAt CL H lg g
  ne : p ≠ lg
theorem lk_number {n c : Int} {l : Addr} : (hdF n c l).lookup ("number" : Str) = some (.int n) := by first | rfl | simp [hdF, List.lookup]
theorem lk_clock {n c : Int} {l : Addr} : (hdF n c l).lookup ("clock" : Str) = some (.int c) := by first | rfl | simp [hdF, List.lookup]
theorem lk_log {n c : Int} {l : Addr} : (hdF n c l).lookup ("log" : Str) = some (.ref l) := by first | rfl | simp [hdF, List.lookup]
theorem put_clock {n c c' : Int} {l : Addr} : putF ("clock" : Str) (.int c') (hdF n c l) = hdF n c' l := by first | rfl | simp [hdF, putF]
theorem put_hinit {n : Int} {l : Addr} : putF ("log" : Str) (.ref l) (putF ("clock" : Str) (.int 0) (putF ("number" : Str) (.int n) [])) = hdF n 0 l := by first | rfl | simp [hdF, putF]
theorem noh_move {n c : Int} {l : Addr} : (hdF n c l).lookup ("move" : Str) = none := by first | rfl | simp [hdF, List.lookup]
theorem noh_hear {n c : Int} {l : Addr} : (hdF n c l).lookup ("hear" : Str) = none := by first | rfl | simp [hdF, List.lookup]
theorem noh_tree {n c : Int} {l : Addr} : (hdF n c l).lookup ("tree" : Str) = none := by first | rfl | simp [hdF, List.lookup]
theorem noh_settle {n c : Int} {l : Addr} : (hdF n c l).lookup ("settle" : Str) = none := by first | rfl | simp [hdF, List.lookup]
section
variable {CH CL : Addr} {H H' : Hp} {p dx lg : Addr} {n c : Int} {g : Lg}
theorem HandAt.same (h : HandAt CH CL H p dx n c lg g) (s : Same H H') : HandAt CH CL H' p dx n c lg g := ⟨s _ _ h.hp, h.L.same s, h.ne⟩
/-- an instance that is changed: no log's parts, but for the log itself -/
theorem LogAt.mutI {q C d : Addr} {fs : List (Str × V)} {o : HO} (h : LogAt CL H p g) (hq : H q = some (.ins C d fs)) (nq : p ≠ q) : LogAt CL (upd H q o) p g :=
  ⟨keep_ne h.hp nq, keep_ne h.hb (fun z => by have e := h.hb; rw [z, hq] at e; cases e), keep_ne h.hl (fun z => by have e := h.hl; rw [z, hq] at e; cases e), h.hm.of (fun b vs e => keep_ne e fun z => by rw [z, hq] at e; cases e)⟩
theorem HandAt.clock (h : HandAt CH CL H p dx n c lg g) (c' : Int) : HandAt CH CL (upd H p (.ins CH dx (hdF n c' lg))) p dx n c' lg g := ⟨upd_same, h.L.mutI h.hp h.ne.symm, h.ne⟩
theorem HandAt.heard {a : Addr} {m : Mv} (h : HandAt CH CL H p dx n c lg g) (e : H a = some (.tup m.vs)) : HandAt CH CL (upd H g.l (.lst ((g.heard a m).as.map V.ref))) p dx n c lg (g.heard a m) :=
  ⟨keep_ne h.hp (fun z => by have w := h.hp; rw [z, h.L.hl] at w; cases w), h.L.heard e, h.ne⟩
end
def spHandInit (CH CL NH : Addr) : Sp := fun vs H Q E => ∃ (p dx : Addr) (x : V), vs = [.ref p, x] ∧ H p = some (.ins CH dx []) ∧ KnownV H x ∧
  (isW x 0 = false → E (.ref NH) none H) ∧ ∀ n, x = .int n → isW x 0 = true → ∀ lg b l ldx H', H lg = none → H b = none → H l = none → SameP p H H' → HandAt CH CL H' p dx n 0 lg (lg0 b l ldx) → Q .non H'
/-- a hand's own move -/
def spHandMove (CH CL N : Addr) : Sp := fun vs H Q E => ∃ (p dx : Addr) (n c : Int) (lg : Addr) (g : Lg) (f u : V), vs = [.ref p, f, u] ∧ HandAt CH CL H p dx n c lg g ∧ Srt g.ms ∧ g.as.length ≤ 100000 ∧ KnownV H f ∧ KnownV H u ∧ 0 ≤ n ∧ n ≤ E60 ∧ 0 ≤ c ∧ g.s ≤ c + 1 ∧ (∀ m ∈ g.ms, m.t ≤ c) ∧
  ((moveB [.int (c + 1), .int n, f, u] = false ∧ ∀ H', Same H H' → E (.ref N) none H') ∨ ∃ fi ui : Int, f = .int fi ∧ u = .int ui ∧ (Mv.mk (c + 1) n fi ui).Ok ∧ ∀ a H1 H', H a = none → Same H H1 → H1 a = some (.tup (Mv.mk (c + 1) n fi ui).vs) → H' = upd (upd H1 g.l (.lst ((g.heard a (Mv.mk (c + 1) n fi ui)).as.map V.ref))) p (.ins CH dx (hdF n (c + 1) lg)) →
    HandAt CH CL H' p dx n (c + 1) lg (g.heard a (Mv.mk (c + 1) n fi ui)) → Q (.ref a) H')
/-- a hand hears -/
def spHandHear (CH CL N T X : Addr) : Sp := fun vs H Q E => ∃ (p dx : Addr) (n c : Int) (lg : Addr) (g : Lg) (x : V), vs = [.ref p, x] ∧ HandAt CH CL H p dx n c lg g ∧ Srt g.ms ∧ g.as.length ≤ 100000 ∧
  ((BadMv H x ∧ E (.ref N) none H) ∨ ∃ (a : Addr) (m : Mv), x = .ref a ∧ H a = some (.tup m.vs) ∧ m.Ok ∧ (m.t < g.s → E (.ref T) none H) ∧ (g.s ≤ m.t → ClashM m g.ms → E (.ref X) none H) ∧
    (g.s ≤ m.t → m ∈ g.ms → Q (.bl false) (upd H p (.ins CH dx (hdF n (max c m.t) lg)))) ∧
    (g.s ≤ m.t → NewM m g.ms → Q (.bl true) (upd (upd H g.l (.lst ((g.heard a m).as.map V.ref))) p (.ins CH dx (hdF n (max c m.t) lg)))))
def spHandTree (CH CL : Addr) : Sp := fun vs H Q _ => ∃ (p dx : Addr) (n c : Int) (lg : Addr) (g : Lg), vs = [.ref p] ∧ HandAt CH CL H p dx n c lg g ∧ Acyc g.t ∧ g.t.length + g.as.length ≤ 100000 ∧ ∀ d H', H d = none → Same H H' → H' d = some (.dK (enc (foldT g.t g.ms))) → Q (.ref d) H'
def spHandSettle (CH CL : Addr) : Sp := fun vs H Q _ => ∃ (p dx : Addr) (n c : Int) (lg : Addr) (g : Lg) (time : Int), vs = [.ref p, .int time] ∧ HandAt CH CL H p dx n c lg g ∧ Acyc g.t ∧ g.t.length + g.as.length ≤ 100000 ∧
  ∀ b l H1, (b = g.b ∨ H b = none) → H l = none → SameP lg H H1 → HandAt CH CL (upd H1 p (.ins CH dx (hdF n (max c (time - 1)) lg))) p dx n (max c (time - 1)) lg (g.settled b l time) → Q (.int (goneM time g.ms : Nat)) (upd H1 p (.ins CH dx (hdF n (max c (time - 1)) lg)))
end Tm
namespace Tm
open PySem PySem.Spec PyProof.Rows L2
/-! k11: the law's state -/
def stV (n c s many : Int) (k b h : Addr) : List (Key × V) := [(Sum.inr "number", .int n), (Sum.inr "clock", .int c), (Sum.inr "since", .int s), (Sum.inr "many", .int many), (Sum.inr "kept", .ref k), (Sum.inr "base", .ref b), (Sum.inr "held", .ref h)]
section
variable {n c s many n' c' s' : Int} {k b h k' b' : Addr}
theorem st_number : valV (stV n c s many k b h) (Sum.inr ("number" : Str)) = some (.int n) := by first | rfl | simp [stV, valV]
theorem st_clock : valV (stV n c s many k b h) (Sum.inr ("clock" : Str)) = some (.int c) := by first | rfl | simp [stV, valV]
theorem st_since : valV (stV n c s many k b h) (Sum.inr ("since" : Str)) = some (.int s) := by first | rfl | simp [stV, valV]
theorem st_many : valV (stV n c s many k b h) (Sum.inr ("many" : Str)) = some (.int many) := by first | rfl | simp [stV, valV]
theorem st_kept : valV (stV n c s many k b h) (Sum.inr ("kept" : Str)) = some (.ref k) := by first | rfl | simp [stV, valV]
theorem st_base : valV (stV n c s many k b h) (Sum.inr ("base" : Str)) = some (.ref b) := by first | rfl | simp [stV, valV]
theorem st_held : valV (stV n c s many k b h) (Sum.inr ("held" : Str)) = some (.ref h) := by first | rfl | simp [stV, valV]
theorem sp_clock : putK (stV n c s many k b h) (Sum.inr ("clock" : Str)) (.int c') = stV n c' s many k b h := by first | rfl | simp [stV, putK]
theorem sp_since : putK (stV n c s many k b h) (Sum.inr ("since" : Str)) (.int s') = stV n c s' many k b h := by first | rfl | simp [stV, putK]
theorem sp_kept : putK (stV n c s many k b h) (Sum.inr ("kept" : Str)) (.ref k') = stV n c s many k' b h := by first | rfl | simp [stV, putK]
theorem sp_base : putK (stV n c s many k b h) (Sum.inr ("base" : Str)) (.ref b') = stV n c s many k b' h := by first | rfl | simp [stV, putK]
theorem st_len : (stV n c s many k b h).length < sizeLine := lt_line (by show 7 ≤ 1000000; omega)
end
/-- a hand, and the law's state beside it -/
structure I11 (K : PySem.W.Frag) (CH CL : Addr) (H : Hp) (p dx lg st kl bd hl : Addr) (n c many : Int) (g : Lg) (as hs : List Addr) (k : Nat) : Prop where
  D : HandAt CH CL H p dx n c lg g
  S : Srt g.ms
  ok : ∀ m ∈ g.ms, m.Ok
  ac : Acyc g.t
  nd : Nd g.t
  est : H st = some (.dK (stV n c g.s many kl bd hl))
  eb : H bd = some (.dK (enc g.t))
  ek : H kl = some (.lst (as.map V.ref))
  km : MvsAt H as g.ms
  eh : H hl = some (.lst (hs.map V.ref))
  hd : Held K [p, lg, g.l, hl, st] H hs
  le : ∀ m ∈ g.ms, m.t ≤ c
  sc : g.s ≤ c + 1
  s0 : 0 ≤ g.s
  c0 : 0 ≤ c
  n0 : 0 ≤ n
  n1 : n ≤ E60
  tl : g.t.length + g.as.length ≤ k
  hn : hs.length ≤ 4 * k + 4
  x1 : g.l ≠ hl
  x2 : g.l ≠ kl
  x3 : kl ≠ hl
  x4 : bd ≠ st
  x5 : g.b ≠ st
section
variable {K : PySem.W.Frag} {CH CL : Addr} {H H' : Hp} {p dx lg st kl bd hl : Addr} {n c many : Int} {g : Lg} {as hs : List Addr} {k : Nat}
theorem I11.same (I : I11 K CH CL H p dx lg st kl bd hl n c many g as hs k) (s : Same H H') : I11 K CH CL H' p dx lg st kl bd hl n c many g as hs k :=
  ⟨I.D.same s, I.S, I.ok, I.ac, I.nd, s _ _ I.est, s _ _ I.eb, s _ _ I.ek, I.km.same s, s _ _ I.eh, I.hd.keep (Kx.of s), I.le, I.sc, I.s0, I.c0, I.n0, I.n1, I.tl, I.hn, I.x1, I.x2, I.x3, I.x4, I.x5⟩
theorem I11.up (I : I11 K CH CL H p dx lg st kl bd hl n c many g as hs k) {k' : Nat} (e : k ≤ k') : I11 K CH CL H p dx lg st kl bd hl n c many g as hs k' :=
  ⟨I.D, I.S, I.ok, I.ac, I.nd, I.est, I.eb, I.ek, I.km, I.eh, I.hd, I.le, I.sc, I.s0, I.c0, I.n0, I.n1, by have := I.tl; omega, by have := I.hn; omega, I.x1, I.x2, I.x3, I.x4, I.x5⟩
theorem I11.len (I : I11 K CH CL H p dx lg st kl bd hl n c many g as hs k) : g.as.length = g.ms.length ∧ as.length = g.ms.length ∧ g.ms.length ≤ k := by
  have z1 := I.D.L.hm.length
  have z2 := I.km.length
  have z3 := I.tl
  omega
/-- what is none of the changed -/
theorem I11.fresh (I : I11 K CH CL H p dx lg st kl bd hl n c many g as hs k) {b : Addr} (e : H b = none) : b ∉ [p, lg, g.l, hl, st] := fun z => by
  simp only [List.mem_cons, List.not_mem_nil, or_false] at z
  rcases z with z | z | z | z | z
  · have w := I.D.hp; rw [← z, e] at w; cases w
  · have w := I.D.L.hp; rw [← z, e] at w; cases w
  · have w := I.D.L.hl; rw [← z, e] at w; cases w
  · have w := I.eh; rw [← z, e] at w; cases w
  · have w := I.est; rw [← z, e] at w; cases w
theorem I11.tup (I : I11 K CH CL H p dx lg st kl bd hl n c many g as hs k) {b : Addr} {vs : List V} (e : H b = some (.tup vs)) : b ∉ [p, lg, g.l, hl, st] := fun z => by
  simp only [List.mem_cons, List.not_mem_nil, or_false] at z
  rcases z with z | z | z | z | z
  · have w := I.D.hp; rw [← z, e] at w; cases w
  · have w := I.D.L.hp; rw [← z, e] at w; cases w
  · have w := I.D.L.hl; rw [← z, e] at w; cases w
  · have w := I.eh; rw [← z, e] at w; cases w
  · have w := I.est; rw [← z, e] at w; cases w
/-- a pair more is held -/
theorem I11.held {a : Addr} (I : I11 K CH CL H p dx lg st kl bd hl n c many g as hs k) (s : SameP hl H H') (e : H' hl = some (.lst ((hs ++ [a]).map V.ref))) (q : ∀ H2, Kx [p, lg, g.l, hl, st] H' H2 → PairAt K H2 a) (l : hs.length + 1 ≤ 4 * k + 4) :
    I11 K CH CL H' p dx lg st kl bd hl n c many g as (hs ++ [a]) k := by
  have nh : ∀ b o, H b = some o → (∀ xs, o ≠ .lst xs) → b ≠ hl := fun b o e w z => by have v := I.eh; rw [← z, e] at v; exact w _ (Option.some.inj v)
  exact ⟨⟨s _ _ (nh _ _ I.D.hp fun xs z => by cases z) I.D.hp, I.D.L.sameP s I.eh I.x1, I.D.ne⟩, I.S, I.ok, I.ac, I.nd, s _ _ (nh _ _ I.est fun xs z => by cases z) I.est, s _ _ (nh _ _ I.eb fun xs z => by cases z) I.eb, s _ _ I.x3 I.ek, I.km.of (fun b vs eb => s _ _ (nh _ _ eb fun xs z => by cases z) eb), e, (I.hd.keep (Kx.ofP (by simp) s)).snoc q, I.le, I.sc, I.s0, I.c0, I.n0, I.n1, I.tl, by simp; omega, I.x1, I.x2, I.x3, I.x4, I.x5⟩
end
end Tm
namespace Tm
open PySem PySem.Spec PyProof.Rows L2
/-- two lists of steps that say the same, by != (k11) -/
theorem r_neIntsL {K : PySem.W.Frag} {H : Hp} {Q : VK} {x y : Addr} {l : List Int} (hx : H x = some (.lst (l.map V.int))) (hy : H y = some (.lst (l.map V.int))) (q : Q (.bl false) H) : rNeD K (.ref x) (.ref y) H Q := by
  have sh : SeqAt.shaped (intsD l) = true := by
    show (PyData.canLay0 (intsD l) && decide (PyData.depth (intsD l) ≤ 64)) = true
    rw [Bool.and_eq_true]
    refine ⟨by simp only [intsD, PyData.canLay0]; exact lay_ints l, decide_eq_true ?_⟩
    simp only [intsD, PyData.depth, depth_ints]
    omega
  refine ⟨intsD l, intsD l, .lst (SqL.of hx) (dpAll_ints l), .lst (SqL.of hy) (dpAll_ints l), sh, sh, ?_⟩
  have e : PyData.eqv (intsD l) (intsD l) = true := by simp only [intsD, PyData.eqv]; exact eqv_ints l
  rw [e]
  exact q
/-- two empty lists, by != -/
theorem r_neEmpty {K : PySem.W.Frag} {H : Hp} {Q : VK} {x y : Addr} (hx : H x = some (.lst [])) (hy : H y = some (.lst [])) (q : Q (.bl false) H) : rNeD K (.ref x) (.ref y) H Q := r_neIntsL (l := []) hx hy q
/-- the steps, asked and held -/
def spAsked (K : PySem.W.Frag) (CL : Addr) : Sp := fun vs H Q _ => ∃ (lg bd ml hl : Addr) (g : Lg) (as hs : List Addr), vs = [.ref lg, .ref bd, .ref ml, .ref hl] ∧ LogAt CL H lg g ∧ Acyc g.t ∧ H bd = some (.dK (enc g.t)) ∧ H ml = some (.lst (as.map V.ref)) ∧ MvsAt H as g.ms ∧ g.t.length + g.ms.length ≤ 10000 ∧ H hl = some (.lst (hs.map V.ref)) ∧ hs.length ≤ 10000 ∧ g.l ≠ hl ∧
  ∀ a H1 H', Same H H1 → H' = upd H1 hl (.lst ((hs ++ [a]).map V.ref)) → (∀ ex : List Addr, (∀ b, H b = none → b ∉ ex) → (∀ b vs, H b = some (.tup vs) → b ∉ ex) → hl ∈ ex → ∀ H2, Kx ex H' H2 → PairAt K H2 a) → Q (.bl true) H'
end Tm
namespace Tm
open PySem PySem.Spec PyProof.Rows L2
theorem cut_last {xs : List V} {y : V} : cutV (xs ++ [y]) none (some (-1)) = xs := by
  unfold cutV
  have e : HT.sIx (xs ++ [y]).length (xs ++ [y]).length (some (-1)) = xs.length := by
    show (if (-1 : Int) < 0 then ((-1 : Int) + ((xs ++ [y]).length : Int)).toNat else min (-1 : Int).toNat (xs ++ [y]).length) = xs.length
    rw [if_pos (by omega), List.length_append, List.length_singleton]
    omega
  rw [e, HT.sIx_none]
  simp
/-- what a list of rows leans on is none of the changed -/
theorem rows_kx {H H1 H2 : Hp} {ex : List Addr} {rows : List Row} (h : ∀ x ∈ rows, RowAt H1 x) (s : Same H H1) (n1 : ∀ b, H b = none → b ∉ ex) (n2 : ∀ b vs, H b = some (.tup vs) → b ∉ ex) (nw : ∀ x ∈ rows, H x.w = none) (k : Kx ex H1 H2) : ∀ x ∈ rows, RowAt H2 x := by
  intro x hx
  obtain ⟨r1, r2, r3⟩ := h x hx
  have nt : ∀ b vs, H1 b = some (.tup vs) → b ∉ ex := fun b vs e => by
    cases z : H b with
    | none => exact n1 b z
    | some o =>
      have w := s _ _ z
      rw [e] at w
      exact n2 b vs (by rw [z, ← Option.some.inj w])
  exact ⟨k _ _ (nt _ _ r1) r1, k _ _ (nt _ _ r2) r2, k _ _ (n1 _ (nw x hx)) r3⟩
end Tm
namespace Tm
open PySem PySem.Spec PyProof.Rows L2
def spAsTold (K : PySem.W.Frag) (CH CL : Addr) : Sp := fun vs H Q _ => ∃ (p dx lg st kl bd hl : Addr) (n c many : Int) (g : Lg) (as hs : List Addr) (k : Nat), vs = [.ref p, .ref st] ∧ I11 K CH CL H p dx lg st kl bd hl n c many g as hs k ∧ hs.length ≤ 4 * k ∧ k ≤ 1000 ∧
  ∀ H' hs', SameP hl H H' → I11 K CH CL H' p dx lg st kl bd hl n c many g as hs' k → hs'.length = hs.length + 4 → Q (.bl true) H'
theorem pair_moves {K : PySem.W.Frag} {H : Hp} {a x y : Addr} {as bs : List Addr} {ms : List Mv} (ha : H a = some (.tup [.ref x, .ref y])) (hx : H x = some (.lst (as.map V.ref))) (hy : H y = some (.lst (bs.map V.ref))) (h1 : MvsAt H as ms) (h2 : MvsAt H bs ms) : PairAt K H a :=
  pair_data ha (.lst (SqL.of hx) (dpAll_mv h1)) (.lst (SqL.of hy) (dpAll_mv h2)) (sh_mvs ms) (SeqAt.eqv_refl _ (SeqAt.canLay_of_shaped (sh_mvs ms)))
end Tm
namespace Tm
open PySem PySem.Spec PyProof.Rows L2
def spSettled11 (K : PySem.W.Frag) (CH CL : Addr) : Sp := fun vs H Q _ => ∃ (p dx lg st kl bd hl : Addr) (n c many : Int) (g : Lg) (as hs : List Addr) (k : Nat) (pick : Int) (great : Bool), vs = [.ref p, .ref st, .int pick, .bl great] ∧ I11 K CH CL H p dx lg st kl bd hl n c many g as hs k ∧ k ≤ 1000 ∧
  ∀ H' kl' bd' c' g' as', Kx [p, lg, g.l, hl, st] H H' → I11 K CH CL H' p dx lg st kl' bd' hl n c' many g' as' hs k → (g'.l = g.l ∨ H g'.l = none) → Q (.bl true) H'
end Tm
namespace Tm
open PySem PySem.Spec PyProof.Rows L2
theorem spHandHear.mono {CH CL N T X : Addr} {vs : List V} {H : Hp} {Q Q' : VK} {E E' : XK} (h : spHandHear CH CL N T X vs H Q E) (hQ : ∀ b H', Q (.bl b) H' → Q' (.bl b) H') (hN : E (.ref N) none H → E' (.ref N) none H) (hT : E (.ref T) none H → E' (.ref T) none H) (hX : E (.ref X) none H → E' (.ref X) none H) : spHandHear CH CL N T X vs H Q' E' := by
  obtain ⟨p, dx, n, c, lg, g, x, e, D, S, l, h⟩ := h
  refine ⟨p, dx, n, c, lg, g, x, e, D, S, l, ?_⟩
  rcases h with ⟨b, h⟩ | ⟨a, m, ex, hx, ok, h1, h2, h3, h4⟩
  · exact .inl ⟨b, hN h⟩
  · exact .inr ⟨a, m, ex, hx, ok, fun c => hT (h1 c), fun c d => hX (h2 c d), fun c d => hQ _ _ (h3 c d), fun c d => hQ _ _ (h4 c d)⟩
def spHeardH (CH CL N T X : Addr) : Sp := fun vs H Q _ => spHandHear CH CL N T X vs H Q fun v _ H' => (v = .ref N → Q (.str "no move") H') ∧ (v = .ref T → Q (.str "too late") H') ∧ (v = .ref X → Q (.str "clash") H')
def spOwn (K : PySem.W.Frag) (CH CL : Addr) : Sp := fun vs H Q _ => ∃ (p dx lg st kl bd hl : Addr) (n c many : Int) (g : Lg) (as hs : List Addr) (k : Nat) (pick cell : Int), vs = [.ref p, .ref st, .int pick, .int cell] ∧ I11 K CH CL H p dx lg st kl bd hl n c many g as hs k ∧ k ≤ 1000 ∧ 1 ≤ many ∧ many ≤ 7 ∧ 0 ≤ pick ∧
  ∀ H' kl' c' g' as', Kx [p, lg, g.l, hl, st] H H' → I11 K CH CL H' p dx lg st kl' bd hl n c' many g' as' hs (k + 1) → g'.l = g.l → Q (.bl true) H'
/-- a folder and an under, one of them none -/
theorem own_bad {i : Int} (h0 : 0 ≤ i) (h : i < 9) : ∃ f u, atI [V.int 0, .int (-1), .int (E60 + 1), .bl true, .non, .int 1, .int 1, .int 1, .int 1] i = some f ∧ atI [V.int 0, .int 0, .int 0, .int 0, .int 0, .int (-1), .int (E60 + 1), .bl false, .non] i = some u ∧
    (∀ H, KnownV H f ∧ KnownV H u) ∧ ∀ t n : Int, moveB [.int t, .int n, f, u] = false := by
  have e : i = 0 ∨ i = 1 ∨ i = 2 ∨ i = 3 ∨ i = 4 ∨ i = 5 ∨ i = 6 ∨ i = 7 ∨ i = 8 := by omega
  rcases e with e | e | e | e | e | e | e | e | e <;> subst e <;> refine ⟨_, _, rfl, rfl, fun H => ⟨trivial, trivial⟩, fun t n => ?_⟩ <;> simp [moveB, isW, E60]
/-- the hand's own move, in the state -/
theorem I11.own {K : PySem.W.Frag} {CH CL : Addr} {H H1 H2 H' : Hp} {p dx lg st kl bd hl kl' : Addr} {n c many : Int} {g : Lg} {as hs : List Addr} {k : Nat} {a a2 : Addr} {m : Mv} {H1' : Hp} (I : I11 K CH CL H p dx lg st kl bd hl n c many g as hs k) (ok : m.Ok) (hm : g.s ≤ m.t ∧ NewM m g.ms) {c' : Int} (hc : c ≤ c' ∧ m.t ≤ c')
    (s1 : Same H H1) (e1 : H1 a2 = some (.tup m.vs)) (e2 : H2 = upd (upd H1 g.l (.lst ((g.heard a m).as.map V.ref))) p (.ins CH dx (hdF n c' lg))) (D2 : HandAt CH CL H2 p dx n c' lg (g.heard a m)) (s3 : Same H2 H1') (fk : H2 kl' = none) (ek : H1' kl' = some (.lst ((insA (posM m g.ms) a2 as).map V.ref)))
    (e3 : H' = upd (upd H1' st (.dK (stV n c g.s many kl' bd hl))) st (.dK (stV n c' g.s many kl' bd hl))) : Kx [p, lg, g.l, hl, st] H H' ∧ I11 K CH CL H' p dx lg st kl' bd hl n c' many (g.heard a m) (insA (posM m g.ms) a2 as) hs (k + 1) := by
  have I1 := I.same s1
  have hl1 := I1.D.L.hl
  have hp1 := I1.D.hp
  have up : ∀ b o, b ≠ g.l → b ≠ p → H1 b = some o → H2 b = some o := fun b o n1 n2 e => by rw [e2]; exact keep_ne (keep_ne e n1) n2
  have ngl : ∀ b o, H1 b = some o → (∀ xs, o ≠ .lst xs) → b ≠ g.l := fun b o e w z => by rw [z, hl1] at e; exact w _ (Option.some.inj e).symm
  have np : ∀ b o, H1 b = some o → (∀ C d f, o ≠ .ins C d f) → b ≠ p := fun b o e w z => by rw [z, hp1] at e; exact w _ _ _ (Option.some.inj e).symm
  have st2 := s3 _ _ (up _ _ (ngl _ _ I1.est fun xs z => by cases z) (np _ _ I1.est fun _ _ _ z => by cases z) I1.est)
  have kp : ∀ b o, b ≠ st → H1' b = some o → H' b = some o := fun b o nb e => by rw [e3]; exact keep_ne (keep_ne e nb) nb
  have nst : ∀ b o, H1' b = some o → (∀ k, o ≠ .dK k) → b ≠ st := fun b o e w z => by rw [z, st2] at e; exact w _ (Option.some.inj e).symm
  have tp : ∀ b vs, H1 b = some (.tup vs) → H1' b = some (.tup vs) := fun b vs e => s3 _ _ (up _ _ (ngl _ _ e fun xs z => by cases z) (np _ _ e fun _ _ _ z => by cases z) e)
  have b2 := s3 _ _ (up _ _ (ngl _ _ I1.eb fun xs z => by cases z) (np _ _ I1.eb fun _ _ _ z => by cases z) I1.eb)
  have h2 := s3 _ _ (up _ _ I.x1.symm (np _ _ I1.eh fun _ _ _ z => by cases z) I1.eh)
  have nks : kl' ≠ st := fun z => by rw [z, st2] at ek; cases ek
  have nkh : kl' ≠ hl := fun z => by
    have w := up _ _ I.x1.symm (np _ _ I1.eh fun _ _ _ z => by cases z) I1.eh
    rw [← z, fk] at w
    cases w
  have nlk : g.l ≠ kl' := fun z => by
    have w : H2 g.l = some (.lst ((g.heard a m).as.map V.ref)) := D2.L.hl
    rw [z, fk] at w
    cases w
  have D3 := D2.same s3
  have kx : Kx [p, lg, g.l, hl, st] H H' := by
    rw [e3]
    refine Kx.mut (by simp) (Kx.mut (by simp) (Kx.trans (Kx.trans (Kx.of s1) ?_) (Kx.of s3)))
    rw [e2]
    exact Kx.mut (by simp) (Kx.mut (by simp) Kx.refl)
  refine ⟨kx, ⟨⟨kp _ _ (nst _ _ D3.hp fun k z => by cases z) D3.hp, ⟨kp _ _ (nst _ _ D3.L.hp fun k z => by cases z) D3.L.hp, kp _ _ I.x5 D3.L.hb, kp _ _ (nst _ _ D3.L.hl fun k z => by cases z) D3.L.hl, D3.L.hm.of (fun b vs e => kp _ _ (nst _ _ e fun k z => by cases z) e)⟩, D3.ne⟩, I.S.ins hm.2, fun x hx => ?_, I.ac, I.nd, by rw [e3]; exact upd_same, kp _ _ I.x4 b2, kp _ _ nks ek, ?_, kp _ _ (nst _ _ h2 fun k z => by cases z) h2, I.hd.keep kx, fun x hx => ?_, ?_, I.s0, ?_, I.n0, I.n1, ?_, by have := I.hn; omega, I.x1, nlk, nkh, I.x4, I.x5⟩⟩
  · rcases mem_insM.mp hx with z | z
    · exact z ▸ ok
    · exact I.ok x z
  · exact ((I1.km.ins e1 _).of fun b vs e => kp _ _ (nst _ _ (tp _ _ e) fun k z => by cases z) (tp _ _ e))
  · rcases mem_insM.mp hx with z | z
    · rw [z]; exact hc.2
    · have := I.le x z
      omega
  · have := I.sc
    show g.s ≤ c' + 1
    omega
  · have := I.c0
    omega
  · have := I.tl
    show g.t.length + (insA (posM m g.ms) a g.as).length ≤ k + 1
    rw [insA_length]
    omega
end Tm
namespace Tm
open PySem PySem.Spec PyProof.Rows L2
section
variable {CH CL N T X : Addr} {H : Hp} {p dx lg : Addr} {n c : Int} {g : Lg} {Q : VK} {E : XK}
theorem c_heardHBad {x : V} (A : ApartE N T X) (D : HandAt CH CL H p dx n c lg g) (S : Srt g.ms) (hl : g.as.length ≤ 100000) (hx : BadMv H x) (h : Q (.str "no move") H) : spHeardH CH CL N T X [.ref p, x] H Q E :=
  ⟨p, dx, n, c, lg, g, x, rfl, D, S, hl, .inl ⟨hx, fun _ => h, fun e => (A.nt (Value.ref.inj e)).elim, fun e => (A.nx (Value.ref.inj e)).elim⟩⟩
theorem c_heardH {a : Addr} {m : Mv} (A : ApartE N T X) (D : HandAt CH CL H p dx n c lg g) (S : Srt g.ms) (hl : g.as.length ≤ 100000) (hx : H a = some (.tup m.vs)) (ok : m.Ok) (h1 : m.t < g.s → Q (.str "too late") H) (h2 : g.s ≤ m.t → ClashM m g.ms → Q (.str "clash") H)
    (h3 : g.s ≤ m.t → m ∈ g.ms → Q (.bl false) (upd H p (.ins CH dx (hdF n (max c m.t) lg)))) (h4 : g.s ≤ m.t → NewM m g.ms → Q (.bl true) (upd (upd H g.l (.lst ((g.heard a m).as.map V.ref))) p (.ins CH dx (hdF n (max c m.t) lg)))) : spHeardH CH CL N T X [.ref p, .ref a] H Q E :=
  ⟨p, dx, n, c, lg, g, _, rfl, D, S, hl, .inr ⟨a, m, rfl, hx, ok, fun c => ⟨fun e => (A.nt (Value.ref.inj e).symm).elim, fun _ => h1 c, fun e => (A.tx (Value.ref.inj e)).elim⟩, fun c d => ⟨fun e => (A.nx (Value.ref.inj e).symm).elim, fun e => (A.tx (Value.ref.inj e).symm).elim, fun _ => h2 c d⟩, h3, h4⟩⟩
end
def spOther (K : PySem.W.Frag) (CH CL : Addr) : Sp := fun vs H Q _ => ∃ (p dx lg st kl bd hl : Addr) (n c many : Int) (g : Lg) (as hs : List Addr) (k : Nat) (pick cell : Int), vs = [.ref p, .ref st, .int pick, .int cell] ∧ I11 K CH CL H p dx lg st kl bd hl n c many g as hs k ∧ k ≤ 1000 ∧ n + 2 ≤ E60 ∧ 0 ≤ pick ∧
  ∀ H' kl' c' g' as', Kx [p, lg, g.l, hl, st] H H' → I11 K CH CL H' p dx lg st kl' bd hl n c' many g' as' hs (k + 1) → g'.l = g.l → Q (.bl true) H'
theorem same_upd {H : Hp} {p : Addr} {o : HO} (h : H p = some o) : Same H (upd H p o) := fun b u e => by
  by_cases z : b = p
  · rw [z, h] at e
    rw [z, upd_same]
    exact e
  · exact keep_ne e z
end Tm
namespace Tm
open PySem PySem.Spec PyProof.Rows L2
/-! a class made in a try; isinstance of the kept error, many classes -/
section
variable {X : Cx} {CX : CXT} {k : Nat} {f C : Addr} {fd : FuncData} {ps : List Str} {sp : Sp} {E : L2.St → XK} {x : Str} {p pos : Pos} {e : Expr} {es : List Expr} {t : TA}
theorem run_makeS {pins : List (Addr × Obj)} {σ : L2.St} {H : Hp} {s : Shared} {Q : VK} {E : XK} {us : List Value} {vs : List V} (M : Mk X.K C f) (F : FnOk X.prog X.w X.K X.mg X.base CX k f fd ps sp) (hr : Room (k + 1) X.A) (hb : Binds X.K fd ps [])
    (hx : PassesAt CX X σ E) (I : Inv X pins σ H s) (r : Vals vs us)
    (h : ∀ x dx, H x = none → H dx = none → dx ≠ x → sp (.ref x :: vs) (upd (upd H dx (.own x)) x (.ins C dx [])) (fun v H2 => v = .non ∧ Q (.ref x) H2) E) :
    wpAny (model X.prog X.w) X.A (call (.ref C) us) (EP X pins σ Q) X.xe s := by
  have hq := h (s.heap.objs.size + 1) s.heap.objs.size (I.hok.fresh (Nat.le_succ _)) (I.hok.fresh (Nat.le_refl _)) (Nat.ne_of_lt (Nat.lt_succ_self _))
  have I2 := Inv.made (C := C) I
  have r2 : Vals (V.ref (s.heap.objs.size + 1) :: vs) (Value.ref (s.heap.objs.size + 1) :: us) := .cons rfl r
  have hl : (Value.ref (s.heap.objs.size + 1) :: us ++ []).length = ps.length := by
    have e := r2.length
    rw [F.len _ _ _ _ hq] at e
    rw [List.append_nil]
    exact e.symm
  have hr2 : Vals (V.ref (s.heap.objs.size + 1) :: vs) (Value.ref (s.heap.objs.size + 1) :: us ++ []) := by
    rw [List.append_nil]
    exact r2
  refine wpAny_call (make_map (f := f) I.kIn M.makes M.init (beq_iff_eq.mp M.fn) (codeAny_mono (F.run _ X.stack _ _ ⟨Value.ref (s.heap.objs.size + 1) :: us, []⟩ (Value.ref (s.heap.objs.size + 1) :: us ++ []) _ _ E (hr.make C us [])
    (I2.env0.make C us []) (hb _ (Value.ref (s.heap.objs.size + 1) :: us) I2.kIn hl) hr2 hq) fun r s' hq' => ?_))
  cases r with
  | error e => exact hx pins _ _ e s' I2 hq'
  | ok fl =>
    cases fl with
    | ret u =>
      obtain ⟨v, H', I3, rv, ev, q3⟩ := I2.after hq'
      subst ev
      exact ⟨rv, ⟨V.ref (s.heap.objs.size + 1), H', I3, rfl, q3⟩⟩
    | next => exact False.elim hq'
    | brk => exact False.elim hq'
    | cont => exact False.elim hq'
theorem pe_makeS (M : Mk X.K C f) (F : FnOk X.prog X.w X.K X.mg X.base CX k f fd ps sp) (hr : Room (k + 1) X.A) (hg : Gl X x) (hm : X.mg x = some (.ref C)) (hb : Binds X.K fd ps []) (hx : ∀ σ, PassesAt CX X σ (E σ))
    (ha : PA X (e :: es) t) (hdb : (x == ("__debug__" : Str)) = false := by decide) (he : starEach (e :: es) X.env = (false, eval e X.env) :: starEach es X.env := by rfl) (hpl : (backTo pos (starEach es X.env)).any (·.1) = false := by rfl) :
    PE X (.Call (.Name x p) (e :: es) [] pos) (tMakeS C sp E t) := by
  refine ⟨fun pins s σ H Q I h => ?_⟩
  refine wpAny_Call_Name_kw (ld_glob I hg hm ?_ hdb)
  refine PySem.W.callWith_K (h₀ := X.base) I.ok.mod.kin M.kp (thn (ha.run pos pins s σ H _ I h) fun us s1 ⟨vs, H1, I1, r, q⟩ => ⟨I1.kIn, ?_⟩) he hpl
  exact run_makeS M F hr hb (hx σ) I1 r q
end
instance {C : Addr} {sp : Sp} {E : L2.St → XK} {t : TA} {σ : L2.St} {H : Hp} {Q : VK} : Step (tMakeS C sp E t σ H Q) (t σ H fun vs H1 => ∀ x dx, H1 x = none → H1 dx = none → dx ≠ x → sp (.ref x :: vs) (upd (upd H1 dx (.own x)) x (.ins C dx [])) (fun v H2 => v = .non ∧ Q (.ref x) H2) (E σ)) := ⟨fun h => h⟩
def rIsETQ (K : PySem.W.Frag) (a : Addr) (cls : Value) (d : Option Addr) : List V → Hp → VK → Prop := fun xs H Q => ∃ (D tp : Addr) (cs : List V) (us : List Value) (b : Bool), cls = .ref D ∧ d = none ∧ ExcC K D ∧ xs = [.ref a, .ref tp] ∧ H tp = some (.tup cs) ∧ Paired ClsV cs us ∧ PySem.W.kitAny K (.ref D) us = some b ∧ Q (.bl b) H
theorem call_isETQ {X : Cx} {a : Addr} {oe : Obj} {pn : List (Addr × Obj)} {cls : Value} {d : Option Addr} (hz : Zc cls d oe) (hf : ∃ vs, oe.data = .fields vs) : CallR (X.suite a ((a, oe) :: pn)) (.builtin "isinstance") (rIsETQ X.K a cls d) := by
  intro pins s σ H xs us Q I r h
  obtain ⟨D, tp, cs, ws, b, rfl, rfl, C, rfl, hT, k, e, q⟩ := h
  obtain ⟨u1, u2, rfl, r1, r2⟩ := vals2 r
  cases (show u1 = Value.ref a from r1)
  cases (show u2 = Value.ref tp from r2)
  obtain ⟨hget, _⟩ := I.pin (a, oe) (List.mem_append.mpr (.inl List.mem_cons_self))
  obtain ⟨vs, hv⟩ := hf
  have J : PySem.W.InstAt s.heap a oe D none := by
    obtain ⟨oc, od, oda, osl⟩ := oe
    obtain ⟨h1, h2⟩ := hz
    dsimp only at h1 h2 hv
    subst h1 h2 hv
    exact ⟨hget, rfl, rfl, trivial⟩
  obtain ⟨_, its, rv, o, h1, h2, n, h3⟩ := (show ObjOk X.prog X.w H s.heap tp (.tup cs) from I.hok tp _ hT)
  have e3 := ClsV.all k rv
  subst e3
  obtain ⟨oc, od, dt, sl⟩ := o
  simp only at h2 h3
  subst h2 h3
  exact PySem.W.kia_tup (PySem.W.handS_kitx_exc C.hg C.hk C.hs C.hd C.ha C.hn C.ht C.hm) I.kIn J h1 e (fun z => nomatch z) fun tk => ⟨.bl b, H, I.kept (t' := tk) fun _ _ z => z, rfl, q⟩
theorem r_isET3 {K : PySem.W.Frag} {a D tp c1 c2 c3 : Addr} {H : Hp} {Q : VK} (hC : ExcC K D) (ht : H tp = some (.tup [.ref c1, .ref c2, .ref c3])) (h1 : PySem.W.kitOne K (.ref D) (.ref c1) = some false) (h2 : PySem.W.kitOne K (.ref D) (.ref c2) = some false) (h3 : PySem.W.kitOne K (.ref D) (.ref c3) = some false) (h : Q (.bl false) H) : rIsETQ K a (.ref D) none [.ref a, .ref tp] H Q :=
  ⟨D, tp, _, _, false, rfl, rfl, hC, rfl, ht, .cons (.own c1) (.cons (.own c2) (.cons (.own c3) .nil)), kitAny_cons h1 (fun _ => kitAny_cons h2 (fun _ => kitAny_cons h3 (fun _ => kitAny_nil) (fun z => by cases z)) (fun z => by cases z)) (fun z => by cases z), h⟩
end Tm
namespace Tm
open PySem PySem.Spec PyProof.Rows L2
def spNoHand : Sp := fun vs H Q _ => ∃ cell : Int, vs = [.int cell] ∧ ∀ H', Q (.bl true) H'
theorem no_hands {i : Int} (h0 : 0 ≤ i) (h : i < 5) : ∃ x, atI [V.int (-1), .int (E60 + 1), .bl true, .non, .str "0"] i = some x ∧ isW x 0 = false ∧ ∀ H, KnownV H x := by
  have e : i = 0 ∨ i = 1 ∨ i = 2 ∨ i = 3 ∨ i = 4 := by omega
  rcases e with e | e | e | e | e <;> subst e <;> refine ⟨_, rfl, ?_, fun H => trivial⟩ <;> simp [isW, E60]
end Tm
namespace Tm
open PySem PySem.Spec PyProof.Rows L2
section
variable {n many : Int} {k b h : Addr}
def st5 (n many : Int) (k : Addr) : List (Key × V) := [(Sum.inr "number", .int n), (Sum.inr "clock", .int 0), (Sum.inr "since", .int 0), (Sum.inr "many", .int many), (Sum.inr "kept", .ref k)]
theorem st_disp : mergeK [] (st5 n many k) = st5 n many k := by first | rfl | simp [st5, mergeK, putK]
theorem st_disp2 : putK (putK (st5 n many k) (Sum.inr ("base" : Str)) (V.ref b)) (Sum.inr ("held" : Str)) (V.ref h) = stV n 0 0 many k b h := by first | rfl | simp [st5, stV, putK]
theorem st5_len : (st5 n many k).length < sizeLine := lt_line (by show 5 ≤ 1000000; omega)
theorem st6_len : (putK (st5 n many k) (Sum.inr ("base" : Str)) (V.ref b)).length < sizeLine := by
  have e : putK (st5 n many k) (Sum.inr ("base" : Str)) (V.ref b) = st5 n many k ++ [((Sum.inr ("base" : Str) : Key), V.ref b)] := by first | rfl | simp [st5, putK]
  rw [e]
  exact lt_line (by show 6 ≤ 1000000; omega)
theorem st5_map : [(V.str "number", V.int n), (V.str "clock", V.int 0), (V.str "since", V.int 0), (V.str "many", V.int many), (V.str "kept", V.ref k)] = (st5 n many k).map (fun kv => (kV kv.1, kv.2)) := by first | rfl | simp [st5, kV]
end
theorem num_ok (s : Int) : 0 ≤ s % 3 * (s / 3 % 100000000000000000000000000000000000000000000000000000000000) ∧ s % 3 * (s / 3 % 100000000000000000000000000000000000000000000000000000000000) + 2 ≤ E60 := by
  have e : s % 3 = 0 ∨ s % 3 = 1 ∨ s % 3 = 2 := by omega
  have z1 := Int.emod_nonneg (s / 3) (show (100000000000000000000000000000000000000000000000000000000000 : Int) ≠ 0 by decide)
  have z2 := Int.emod_lt_of_pos (s / 3) (show (0 : Int) < 100000000000000000000000000000000000000000000000000000000000 by decide)
  generalize s / 3 % 100000000000000000000000000000000000000000000000000000000000 = y at *
  rcases e with e | e | e <;> rw [e] <;> simp only [E60] <;> omega
theorem isW_ok {n : Int} (h0 : 0 ≤ n) (h1 : n ≤ E60) : isW (.int n) 0 = true := by
  simp [isW]
  exact ⟨h0, h1⟩
end Tm
namespace Tm
open PySem PySem.Spec PyProof.Rows L2
/-! lists over the numbers of hands -/
section
variable {α β : Type}
def rg (n : Nat) (f : Nat → α) : List α := (List.range n).map f
def fu (f : Nat → α) (i : Nat) (v : α) : Nat → α := fun j => if j = i then v else f j
theorem rg_length (n : Nat) (f : Nat → α) : (rg n f).length = n := by simp [rg]
theorem rg_get {n : Nat} {f : Nat → α} {i : Nat} (h : i < n) : (rg n f)[i]? = some (f i) := by
  unfold rg
  rw [List.getElem?_map, List.getElem?_range h]
  rfl
theorem rg_inv {n : Nat} {f : Nat → α} {i : Nat} {x : α} (h : (rg n f)[i]? = some x) : i < n ∧ x = f i := by
  have hi : i < n := by
    have z := (List.getElem?_eq_some_iff.mp h).1
    rw [rg_length] at z
    exact z
  rw [rg_get hi] at h
  exact ⟨hi, (Option.some.inj h).symm⟩
theorem fu_at {f : Nat → α} {i : Nat} {v : α} : fu f i v i = v := if_pos rfl
theorem fu_ne {f : Nat → α} {i j : Nat} {v : α} (h : j ≠ i) : fu f i v j = f j := if_neg h
theorem fu_map (g : α → β) (f : Nat → α) (i : Nat) (v : α) : fu (fun j => g (f j)) i (g v) = fun j => g (fu f i v j) := by
  funext j
  unfold fu
  split <;> rfl
theorem fu_self {f : Nat → α} {i : Nat} : fu f i (f i) = f := by
  funext j
  unfold fu
  split
  · rename_i e; rw [e]
  · rfl
theorem rg_congr {n : Nat} {f g : Nat → α} (h : ∀ j, j < n → f j = g j) : rg n f = rg n g := by
  unfold rg
  exact List.map_congr_left fun j hj => h j (List.mem_range.mp hj)
theorem rg_set {n : Nat} {f : Nat → α} {i : Nat} {v : α} : (rg n f).set i v = rg n (fu f i v) := by
  apply List.ext_getElem?
  intro j
  rw [List.getElem?_set]
  by_cases hj : j < n
  · rw [rg_get hj, rg_get hj]
    by_cases e : i = j
    · subst e
      rw [if_pos rfl, if_pos (by rw [rg_length]; exact hj), fu_at]
    · rw [if_neg e, fu_ne (fun z => e z.symm)]
  · have z : ∀ g : Nat → α, (rg n g)[j]? = none := fun g => List.getElem?_eq_none (by rw [rg_length]; omega)
    rw [z, z]
    by_cases e : i = j
    · rw [if_pos e, if_neg (by rw [rg_length]; omega)]
    · rw [if_neg e]
theorem rg_succ {n : Nat} {f : Nat → α} : rg (n + 1) f = rg n f ++ [f n] := by
  unfold rg
  rw [List.range_succ, List.map_append]
  rfl
theorem rg_mem {n : Nat} {f : Nat → α} {x : α} : x ∈ rg n f ↔ ∃ j, j < n ∧ f j = x := by
  unfold rg
  simp [List.mem_map, List.mem_range]
theorem rg_map {n : Nat} {f : Nat → α} {g : α → β} : (rg n f).map g = rg n fun j => g (f j) := by
  unfold rg
  rw [List.map_map]
  rfl
end
theorem rg_at {n : Nat} {f : Nat → V} {i : Nat} (h : i < n) : atI (rg n f) (i : Int) = some (f i) := atI_nat (rg_get h)
/-! a room in the heap -/
structure Rm where
  dx : Addr
  LH : Addr
  LL : Addr
  p : Nat → Addr
  hd : Nat → Addr
  lg : Nat → Addr
  ln : Nat → Addr
  c : Nat → Int
  g : Nat → Lg
  wa : Nat → List Addr
  wm : Nat → List Mv
def rmF (a b : Addr) : List (Str × V) := [("hands", .ref a), ("lines", .ref b)]
theorem lk_hands {a b : Addr} : (rmF a b).lookup ("hands" : Str) = some (.ref a) := by first | rfl | simp [rmF, List.lookup]
theorem lk_lines {a b : Addr} : (rmF a b).lookup ("lines" : Str) = some (.ref b) := by first | rfl | simp [rmF, List.lookup]
theorem put_rinit {a b : Addr} : putF ("lines" : Str) (.ref b) (putF ("hands" : Str) (.ref a) []) = rmF a b := by first | rfl | simp [rmF, putF]
theorem nor_line {a b : Addr} : (rmF a b).lookup ("line_of" : Str) = none := by first | rfl | simp [rmF, List.lookup]
theorem nor_move {a b : Addr} : (rmF a b).lookup ("move" : Str) = none := by first | rfl | simp [rmF, List.lookup]
theorem nor_wait {a b : Addr} : (rmF a b).lookup ("waiting" : Str) = none := by first | rfl | simp [rmF, List.lookup]
theorem nor_carry {a b : Addr} : (rmF a b).lookup ("carry" : Str) = none := by first | rfl | simp [rmF, List.lookup]
theorem nor_double {a b : Addr} : (rmF a b).lookup ("double" : Str) = none := by first | rfl | simp [rmF, List.lookup]
theorem nor_settle {a b : Addr} : (rmF a b).lookup ("settle" : Str) = none := by first | rfl | simp [rmF, List.lookup]
/-- what an address is for -/
abbrev Tg := Addr → Nat × Nat
def fut (τ : Tg) (x : Addr) (t : Nat × Nat) : Tg := fun b => if b = x then t else τ b
theorem fut_at {τ : Tg} {x : Addr} {t : Nat × Nat} : fut τ x t x = t := if_pos rfl
theorem fut_ne {τ : Tg} {x b : Addr} {t : Nat × Nat} (h : b ≠ x) : fut τ x t b = τ b := if_neg h
theorem ne_tag {τ : Tg} {a b : Addr} {x y : Nat × Nat} (h1 : τ a = x) (h2 : τ b = y) (h : x ≠ y) : a ≠ b := fun z => h (by rw [← h1, ← h2, z])
structure RoomAt (CR CH CL : Addr) (τ : Tg) (H : Hp) (n : Nat) (rm : Addr) (R : Rm) : Prop where
  hr : H rm = some (.ins CR R.dx (rmF R.LH R.LL))
  hh : H R.LH = some (.lst (rg n fun j => V.ref (R.p j)))
  hl : H R.LL = some (.lst (rg n fun j => V.ref (R.ln j)))
  hd : ∀ j : Nat, j < n → HandAt CH CL H (R.p j) (R.hd j) (j : Int) (R.c j) (R.lg j) (R.g j)
  hw : ∀ j, j < n → H (R.ln j) = some (.lst ((R.wa j).map V.ref))
  hm : ∀ j, j < n → MvsAt H (R.wa j) (R.wm j)
  tr : τ rm = (4, 2)
  tH : τ R.LH = (4, 0)
  tL : τ R.LL = (4, 1)
  tp : ∀ j, j < n → τ (R.p j) = (0, j)
  tg : ∀ j, j < n → τ (R.lg j) = (1, j)
  tl : ∀ j, j < n → τ (R.g j).l = (2, j)
  tn : ∀ j, j < n → τ (R.ln j) = (3, j)
theorem HandAt.mono {CH CL : Addr} {H H' : Hp} {p dx lg : Addr} {n c : Int} {g : Lg} (h : HandAt CH CL H p dx n c lg g) (k : ∀ b o, H b = some o → (b = p ∨ b = lg ∨ b = g.b ∨ b = g.l ∨ ∃ vs, o = .tup vs) → H' b = some o) : HandAt CH CL H' p dx n c lg g :=
  ⟨k _ _ h.hp (.inl rfl), ⟨k _ _ h.L.hp (.inr (.inl rfl)), k _ _ h.L.hb (.inr (.inr (.inl rfl))), k _ _ h.L.hl (.inr (.inr (.inr (.inl rfl)))), h.L.hm.of fun b vs e => k _ _ e (.inr (.inr (.inr (.inr ⟨vs, rfl⟩))))⟩, h.ne⟩
def exR (n : Nat) (R : Rm) : List Addr := (rg n R.p ++ rg n R.lg) ++ (rg n (fun j => (R.g j).l) ++ rg n R.ln)
theorem mem_exR {n : Nat} {R : Rm} {b : Addr} : b ∈ exR n R ↔ ∃ j, j < n ∧ (b = R.p j ∨ b = R.lg j ∨ b = (R.g j).l ∨ b = R.ln j) := by
  unfold exR
  simp only [List.mem_append, rg_mem]
  constructor
  · rintro ((⟨j, h, e⟩ | ⟨j, h, e⟩) | (⟨j, h, e⟩ | ⟨j, h, e⟩))
    · exact ⟨j, h, .inl e.symm⟩
    · exact ⟨j, h, .inr (.inl e.symm)⟩
    · exact ⟨j, h, .inr (.inr (.inl e.symm))⟩
    · exact ⟨j, h, .inr (.inr (.inr e.symm))⟩
  · rintro ⟨j, h, e | e | e | e⟩
    · exact .inl (.inl ⟨j, h, e.symm⟩)
    · exact .inl (.inr ⟨j, h, e.symm⟩)
    · exact .inr (.inl ⟨j, h, e.symm⟩)
    · exact .inr (.inr ⟨j, h, e.symm⟩)
def suppR (n : Nat) (rm : Addr) (R : Rm) (b : Addr) : Prop := b = rm ∨ b = R.LH ∨ b = R.LL ∨ ∃ j, j < n ∧ (b = R.p j ∨ b = R.lg j ∨ b = (R.g j).b ∨ b = (R.g j).l ∨ b = R.ln j)
section
variable {CR CH CL : Addr} {τ τ' : Tg} {H H' : Hp} {n : Nat} {rm : Addr} {R : Rm} {i : Nat}
theorem RoomAt.mono (h : RoomAt CR CH CL τ H n rm R) (k : ∀ b o, H b = some o → (suppR n rm R b ∨ ∃ vs, o = .tup vs) → H' b = some o) : RoomAt CR CH CL τ H' n rm R :=
  ⟨k _ _ h.hr (.inl (.inl rfl)), k _ _ h.hh (.inl (.inr (.inl rfl))), k _ _ h.hl (.inl (.inr (.inr (.inl rfl)))),
   fun j hj => (h.hd j hj).mono fun b o e z => k b o e (by
    rcases z with z | z | z | z | z
    · exact .inl (.inr (.inr (.inr ⟨j, hj, .inl z⟩)))
    · exact .inl (.inr (.inr (.inr ⟨j, hj, .inr (.inl z)⟩)))
    · exact .inl (.inr (.inr (.inr ⟨j, hj, .inr (.inr (.inl z))⟩)))
    · exact .inl (.inr (.inr (.inr ⟨j, hj, .inr (.inr (.inr (.inl z)))⟩)))
    · exact .inr z),
   fun j hj => k _ _ (h.hw j hj) (.inl (.inr (.inr (.inr ⟨j, hj, .inr (.inr (.inr (.inr rfl)))⟩)))),
   fun j hj => (h.hm j hj).of fun b vs e => k _ _ e (.inr ⟨vs, rfl⟩), h.tr, h.tH, h.tL, h.tp, h.tg, h.tl, h.tn⟩
theorem RoomAt.same (h : RoomAt CR CH CL τ H n rm R) (s : Same H H') : RoomAt CR CH CL τ H' n rm R := h.mono fun b o e _ => s b o e
/-- which of it are lists, and what they are for -/
theorem RoomAt.supp_lst (h : RoomAt CR CH CL τ H n rm R) {b : Addr} {xs : List V} (e : H b = some (.lst xs)) (hs : suppR n rm R b) : (τ b).1 ≤ 4 := by
  rcases hs with z | z | z | ⟨j, hj, z | z | z | z | z⟩
  · rw [z, h.tr]; exact Nat.le_refl _
  · rw [z, h.tH]; exact Nat.le_refl _
  · rw [z, h.tL]; exact Nat.le_refl _
  · rw [z, h.tp j hj]; exact Nat.zero_le _
  · rw [z, h.tg j hj]; simp
  · rw [z, (h.hd j hj).L.hb] at e; cases e
  · rw [z, h.tl j hj]; simp
  · rw [z, h.tn j hj]; simp
/-- one of the law's own lists is changed -/
theorem RoomAt.updL (h : RoomAt CR CH CL τ H n rm R) {q : Addr} {xs : List V} {o : HO} (hq : H q = some (.lst xs)) (t : 5 ≤ (τ q).1) : RoomAt CR CH CL τ (upd H q o) n rm R := h.mono fun b u e hs => keep_ne e fun z => by
  subst z
  rcases hs with hs | ⟨vs, hs⟩
  · have := h.supp_lst hq hs
    omega
  · rw [hs, hq] at e
    cases e
/-- a line is changed -/
theorem RoomAt.line (h : RoomAt CR CH CL τ H n rm R) (hi : i < n) {as : List Addr} {ms : List Mv} (hm : MvsAt H as ms) : RoomAt CR CH CL τ (upd H (R.ln i) (.lst (as.map V.ref))) n rm { R with wa := fu R.wa i as, wm := fu R.wm i ms } := by
  have hq := h.hw i hi
  have ti := h.tn i hi
  have kl : ∀ b u, H b = some u → (∀ xs, u ≠ .lst xs) → (upd H (R.ln i) (.lst (as.map V.ref))) b = some u := fun b u e w => keep_ne e fun z => by rw [z, hq] at e; exact w _ (Option.some.inj e).symm
  have kt : ∀ b u, H b = some u → τ b ≠ (3, i) → (upd H (R.ln i) (.lst (as.map V.ref))) b = some u := fun b u e w => keep_ne e fun z => w (by rw [z, ti])
  refine ⟨kl _ _ h.hr fun _ z => (by cases z), kt _ _ h.hh (by rw [h.tH]; simp), kt _ _ h.hl (by rw [h.tL]; simp), fun j hj => (h.hd j hj).mono fun b o e z => ?_, fun j hj => ?_, fun j hj => ?_, h.tr, h.tH, h.tL, h.tp, h.tg, h.tl, h.tn⟩
  · rcases z with z | z | z | z | ⟨vs, z⟩
    · exact kt _ _ e (by rw [z, h.tp j hj]; simp)
    · exact kt _ _ e (by rw [z, h.tg j hj]; simp)
    · exact kl _ _ e (by rw [z, (h.hd j hj).L.hb] at e; intro xs w; rw [w] at e; cases e)
    · exact kt _ _ e (by rw [z, h.tl j hj]; simp)
    · exact kl _ _ e (by rw [z]; intro xs w; cases w)
  · by_cases e : j = i
    · subst e
      show _ = some (HO.lst ((fu R.wa j as j).map V.ref))
      rw [fu_at]
      exact upd_same
    · show _ = some (HO.lst ((fu R.wa i as j).map V.ref))
      rw [fu_ne e]
      exact kt _ _ (h.hw j hj) (by rw [h.tn j hj]; simp [e])
  · show MvsAt _ (fu R.wa i as j) (fu R.wm i ms j)
    by_cases e : j = i
    · subst e
      rw [fu_at, fu_at]
      exact hm.of fun b vs e => kl _ _ e fun xs z => by cases z
    · rw [fu_ne e, fu_ne e]
      exact (h.hm j hj).of fun b vs e => kl _ _ e fun xs z => by cases z
/-- a hand is changed -/
theorem RoomAt.hand (h : RoomAt CR CH CL τ H n rm R) (hi : i < n) (k : ∀ b o, b ≠ R.p i → b ≠ R.lg i → b ≠ (R.g i).l → H b = some o → H' b = some o) {c' : Int} {g' : Lg} (D : HandAt CH CL H' (R.p i) (R.hd i) (i : Int) c' (R.lg i) g') (ht : ∀ b o, H b = some o → τ' b = τ b) (tl : τ' g'.l = (2, i)) :
    RoomAt CR CH CL τ' H' n rm { R with c := fu R.c i c', g := fu R.g i g' } := by
  have kt : ∀ b u, H b = some u → τ b ≠ (0, i) → τ b ≠ (1, i) → τ b ≠ (2, i) → H' b = some u := fun b u e w1 w2 w3 => k _ _ (fun z => w1 (by rw [z, h.tp i hi])) (fun z => w2 (by rw [z, h.tg i hi])) (fun z => w3 (by rw [z, h.tl i hi])) e
  have kl : ∀ b u, H b = some u → (∀ xs, u ≠ .lst xs) → (∀ C d f, u ≠ .ins C d f) → H' b = some u := fun b u e w w2 => k _ _ (fun z => by rw [z, (h.hd i hi).hp] at e; exact w2 _ _ _ (Option.some.inj e).symm) (fun z => by rw [z, (h.hd i hi).L.hp] at e; exact w2 _ _ _ (Option.some.inj e).symm) (fun z => by rw [z, (h.hd i hi).L.hl] at e; exact w _ (Option.some.inj e).symm) e
  refine ⟨kt _ _ h.hr (by rw [h.tr]; simp) (by rw [h.tr]; simp) (by rw [h.tr]; simp), kt _ _ h.hh (by rw [h.tH]; simp) (by rw [h.tH]; simp) (by rw [h.tH]; simp), kt _ _ h.hl (by rw [h.tL]; simp) (by rw [h.tL]; simp) (by rw [h.tL]; simp), fun j hj => ?_, fun j hj => kt _ _ (h.hw j hj) (by rw [h.tn j hj]; simp) (by rw [h.tn j hj]; simp) (by rw [h.tn j hj]; simp), fun j hj => (h.hm j hj).of fun b vs e => kl _ _ e (fun xs z => (by cases z)) fun _ _ _ z => (by cases z),
    (ht _ _ h.hr).trans h.tr, (ht _ _ h.hh).trans h.tH, (ht _ _ h.hl).trans h.tL, fun j hj => (ht _ _ (h.hd j hj).hp).trans (h.tp j hj), fun j hj => (ht _ _ (h.hd j hj).L.hp).trans (h.tg j hj), fun j hj => ?_, fun j hj => (ht _ _ (h.hw j hj)).trans (h.tn j hj)⟩
  · show HandAt CH CL H' (R.p j) (R.hd j) (j : Int) (fu R.c i c' j) (R.lg j) (fu R.g i g' j)
    by_cases e : j = i
    · subst e
      rw [fu_at, fu_at]
      exact D
    · rw [fu_ne e, fu_ne e]
      refine (h.hd j hj).mono fun b o eb z => ?_
      rcases z with z | z | z | z | ⟨vs, z⟩
      · exact kt _ _ eb (by rw [z, h.tp j hj]; simp [e]) (by rw [z, h.tp j hj]; simp) (by rw [z, h.tp j hj]; simp)
      · exact kt _ _ eb (by rw [z, h.tg j hj]; simp) (by rw [z, h.tg j hj]; simp [e]) (by rw [z, h.tg j hj]; simp)
      · rw [z, (h.hd j hj).L.hb] at eb
        cases eb
        rw [z]
        exact kl _ _ (h.hd j hj).L.hb (fun xs z => (by cases z)) fun _ _ _ z => (by cases z)
      · exact kt _ _ eb (by rw [z, h.tl j hj]; simp) (by rw [z, h.tl j hj]; simp) (by rw [z, h.tl j hj]; simp [e])
      · exact kl _ _ eb (by rw [z]; intro xs w; cases w) (by rw [z]; intro _ _ _ w; cases w)
  · show τ' (fu R.g i g' j).l = _
    by_cases e : j = i
    · subst e
      rw [fu_at]
      exact tl
    · rw [fu_ne e]
      exact (ht _ _ (h.hd j hj).L.hl).trans (h.tl j hj)
theorem RoomAt.in_ex (h : RoomAt CR CH CL τ H n rm R) {b : Addr} (e : b ∈ exR n R) : (τ b).1 ≤ 3 ∧ ∃ o, H b = some o ∧ (∀ vs, o ≠ .tup vs) ∧ ∀ kv, o ≠ .dK kv := by
  obtain ⟨j, hj, z | z | z | z⟩ := mem_exR.mp e
  · rw [z, h.tp j hj]
    exact ⟨by simp, _, (h.hd j hj).hp, fun _ z => (by cases z), fun _ z => (by cases z)⟩
  · rw [z, h.tg j hj]
    exact ⟨by simp, _, (h.hd j hj).L.hp, fun _ z => (by cases z), fun _ z => (by cases z)⟩
  · rw [z, h.tl j hj]
    exact ⟨by simp, _, (h.hd j hj).L.hl, fun _ z => (by cases z), fun _ z => (by cases z)⟩
  · rw [z, h.tn j hj]
    exact ⟨by simp, _, h.hw j hj, fun _ z => (by cases z), fun _ z => (by cases z)⟩
end
/-! the law's own state -/
structure Ls where
  LS : Addr
  HS : Addr
  BS : Addr
  CS : Addr
  hl : Addr
  ls : Nat → Addr
  hh : Nat → Addr
  bb : Nat → Addr
  la : Nat → List Addr
  ha : Nat → List Addr
  hs : List Addr
def st14 (a b c d e : Addr) : List (Key × V) := [(Sum.inr "lines", .ref a), (Sum.inr "heard", .ref b), (Sum.inr "base", .ref c), (Sum.inr "clock", .ref d), (Sum.inr "held", .ref e)]
section
variable {a b c d e : Addr}
theorem s14_lines : valV (st14 a b c d e) (Sum.inr ("lines" : Str)) = some (.ref a) := by first | rfl | simp [st14, valV]
theorem s14_heard : valV (st14 a b c d e) (Sum.inr ("heard" : Str)) = some (.ref b) := by first | rfl | simp [st14, valV]
theorem s14_base : valV (st14 a b c d e) (Sum.inr ("base" : Str)) = some (.ref c) := by first | rfl | simp [st14, valV]
theorem s14_clock : valV (st14 a b c d e) (Sum.inr ("clock" : Str)) = some (.ref d) := by first | rfl | simp [st14, valV]
theorem s14_held : valV (st14 a b c d e) (Sum.inr ("held" : Str)) = some (.ref e) := by first | rfl | simp [st14, valV]
end
structure LawAt (τ : Tg) (H : Hp) (n : Nat) (st : Addr) (L : Ls) (wm ms : Nat → List Mv) (tb : Nat → Tr) (c : Nat → Int) : Prop where
  es : H st = some (.dK (st14 L.LS L.HS L.BS L.CS L.hl))
  eL : H L.LS = some (.lst (rg n fun j => V.ref (L.ls j)))
  eH : H L.HS = some (.lst (rg n fun j => V.ref (L.hh j)))
  eB : H L.BS = some (.lst (rg n fun j => V.ref (L.bb j)))
  eC : H L.CS = some (.lst (rg n fun j => V.int (c j)))
  eh : H L.hl = some (.lst (L.hs.map V.ref))
  e1 : ∀ j, j < n → H (L.ls j) = some (.lst ((L.la j).map V.ref))
  m1 : ∀ j, j < n → MvsAt H (L.la j) (wm j)
  e2 : ∀ j, j < n → H (L.hh j) = some (.lst ((L.ha j).map V.ref))
  m2 : ∀ j, j < n → MvsAt H (L.ha j) (ms j)
  e3 : ∀ j, j < n → H (L.bb j) = some (.dK (enc (tb j)))
  tL : τ L.LS = (5, 0)
  tH : τ L.HS = (5, 1)
  tB : τ L.BS = (5, 2)
  tC : τ L.CS = (5, 3)
  th : τ L.hl = (5, 4)
  t1 : ∀ j, j < n → τ (L.ls j) = (9, 0)
  t2 : ∀ j, j < n → τ (L.hh j) = (9, 0)
section
variable {τ τ' : Tg} {H H' : Hp} {n : Nat} {st : Addr} {L : Ls} {wm ms : Nat → List Mv} {tb : Nat → Tr} {c : Nat → Int} {i : Nat}
/-- what is kept: tuples, dicts, lists for these -/
theorem LawAt.mono (h : LawAt τ H n st L wm ms tb c) (k : ∀ b o, H b = some o → (5 ≤ (τ b).1 ∨ (∃ vs, o = .tup vs) ∨ ∃ kv, o = .dK kv) → H' b = some o) (ht : ∀ b o, H b = some o → τ' b = τ b) : LawAt τ' H' n st L wm ms tb c :=
  ⟨k _ _ h.es (.inr (.inr ⟨_, rfl⟩)), k _ _ h.eL (.inl (by rw [h.tL]; decide)), k _ _ h.eH (.inl (by rw [h.tH]; decide)), k _ _ h.eB (.inl (by rw [h.tB]; decide)), k _ _ h.eC (.inl (by rw [h.tC]; decide)), k _ _ h.eh (.inl (by rw [h.th]; decide)),
   fun j hj => k _ _ (h.e1 j hj) (.inl (by rw [h.t1 j hj]; decide)), fun j hj => (h.m1 j hj).of fun b vs e => k _ _ e (.inr (.inl ⟨_, rfl⟩)), fun j hj => k _ _ (h.e2 j hj) (.inl (by rw [h.t2 j hj]; decide)), fun j hj => (h.m2 j hj).of fun b vs e => k _ _ e (.inr (.inl ⟨_, rfl⟩)), fun j hj => k _ _ (h.e3 j hj) (.inr (.inr ⟨_, rfl⟩)),
   (ht _ _ h.eL).trans h.tL, (ht _ _ h.eH).trans h.tH, (ht _ _ h.eB).trans h.tB, (ht _ _ h.eC).trans h.tC, (ht _ _ h.eh).trans h.th, fun j hj => (ht _ _ (h.e1 j hj)).trans (h.t1 j hj), fun j hj => (ht _ _ (h.e2 j hj)).trans (h.t2 j hj)⟩
theorem LawAt.same (h : LawAt τ H n st L wm ms tb c) (s : Same H H') : LawAt τ H' n st L wm ms tb c := h.mono (fun b o e _ => s b o e) fun _ _ _ => rfl
theorem LawAt.congr {wm' ms' : Nat → List Mv} {tb' : Nat → Tr} {c' : Nat → Int} (h : LawAt τ H n st L wm ms tb c) (h1 : ∀ j, j < n → wm' j = wm j) (h2 : ∀ j, j < n → ms' j = ms j) (h3 : ∀ j, j < n → tb' j = tb j) (h4 : ∀ j, j < n → c' j = c j) : LawAt τ H n st L wm' ms' tb' c' :=
  ⟨h.es, h.eL, h.eH, h.eB, by rw [rg_congr (g := fun j => V.int (c j)) fun j hj => by rw [h4 j hj]]; exact h.eC, h.eh, h.e1, fun j hj => by rw [h1 j hj]; exact h.m1 j hj, h.e2, fun j hj => by rw [h2 j hj]; exact h.m2 j hj, fun j hj => by rw [h3 j hj]; exact h.e3 j hj, h.tL, h.tH, h.tB, h.tC, h.th, h.t1, h.t2⟩
theorem LawAt.kt (h : LawAt τ H n st L wm ms tb c) {q b : Addr} {t : Nat × Nat} {o u : HO} (tq : τ q = t) (e : H b = some u) (w : τ b ≠ t) : upd H q o b = some u := keep_ne e fun z => w (by rw [z, tq])
theorem LawAt.kl (h : LawAt τ H n st L wm ms tb c) {q b : Addr} {xs : List V} {o u : HO} (hq : H q = some (.lst xs)) (e : H b = some u) (w : ∀ xs, u ≠ .lst xs) : upd H q o b = some u := keep_ne e fun z => by rw [z, hq] at e; exact w _ (Option.some.inj e).symm
theorem LawAt.setL (h : LawAt τ H n st L wm ms tb c) (hi : i < n) {x : Addr} {as : List Addr} {m : List Mv} (hx : H x = some (.lst (as.map V.ref))) (hm : MvsAt H as m) (tx : τ x = (9, 0)) :
    LawAt τ (upd H L.LS (.lst ((rg n fun j => V.ref (L.ls j)).set i (.ref x)))) n st { L with ls := fu L.ls i x, la := fu L.la i as } (fu wm i m) ms tb c := by
  refine ⟨h.kl h.eL h.es fun _ z => (by cases z), ?_, h.kt h.tL h.eH (by rw [h.tH]; simp), h.kt h.tL h.eB (by rw [h.tB]; simp), h.kt h.tL h.eC (by rw [h.tC]; simp), h.kt h.tL h.eh (by rw [h.th]; simp), fun j hj => ?_, fun j hj => ?_, fun j hj => h.kt h.tL (h.e2 j hj) (by rw [h.t2 j hj]; simp), fun j hj => (h.m2 j hj).of fun b vs e => h.kl h.eL e fun _ z => (by cases z), fun j hj => h.kl h.eL (h.e3 j hj) fun _ z => (by cases z), h.tL, h.tH, h.tB, h.tC, h.th, fun j hj => ?_, h.t2⟩
  · rw [rg_set, fu_map V.ref]
    exact upd_same
  · show _ = some (HO.lst ((fu L.la i as j).map V.ref))
    by_cases e : j = i
    · subst e
      rw [fu_at]
      show upd _ _ _ (fu L.ls j x j) = _
      rw [fu_at]
      exact h.kt h.tL hx (by rw [tx]; simp)
    · rw [fu_ne e]
      show upd _ _ _ (fu L.ls i x j) = _
      rw [fu_ne e]
      exact h.kt h.tL (h.e1 j hj) (by rw [h.t1 j hj]; simp)
  · show MvsAt _ (fu L.la i as j) (fu wm i m j)
    by_cases e : j = i
    · subst e
      rw [fu_at, fu_at]
      exact hm.of fun b vs e => h.kl h.eL e fun _ z => (by cases z)
    · rw [fu_ne e, fu_ne e]
      exact (h.m1 j hj).of fun b vs e => h.kl h.eL e fun _ z => (by cases z)
  · show τ (fu L.ls i x j) = _
    by_cases e : j = i
    · subst e
      rw [fu_at]
      exact tx
    · rw [fu_ne e]
      exact h.t1 j hj
theorem LawAt.setH (h : LawAt τ H n st L wm ms tb c) (hi : i < n) {x : Addr} {as : List Addr} {m : List Mv} (hx : H x = some (.lst (as.map V.ref))) (hm : MvsAt H as m) (tx : τ x = (9, 0)) :
    LawAt τ (upd H L.HS (.lst ((rg n fun j => V.ref (L.hh j)).set i (.ref x)))) n st { L with hh := fu L.hh i x, ha := fu L.ha i as } wm (fu ms i m) tb c := by
  refine ⟨h.kl h.eH h.es fun _ z => (by cases z), h.kt h.tH h.eL (by rw [h.tL]; simp), ?_, h.kt h.tH h.eB (by rw [h.tB]; simp), h.kt h.tH h.eC (by rw [h.tC]; simp), h.kt h.tH h.eh (by rw [h.th]; simp), fun j hj => h.kt h.tH (h.e1 j hj) (by rw [h.t1 j hj]; simp), fun j hj => (h.m1 j hj).of fun b vs e => h.kl h.eH e fun _ z => (by cases z), fun j hj => ?_, fun j hj => ?_, fun j hj => h.kl h.eH (h.e3 j hj) fun _ z => (by cases z), h.tL, h.tH, h.tB, h.tC, h.th, h.t1, fun j hj => ?_⟩
  · rw [rg_set, fu_map V.ref]
    exact upd_same
  · show _ = some (HO.lst ((fu L.ha i as j).map V.ref))
    by_cases e : j = i
    · subst e
      rw [fu_at]
      show upd _ _ _ (fu L.hh j x j) = _
      rw [fu_at]
      exact h.kt h.tH hx (by rw [tx]; simp)
    · rw [fu_ne e]
      show upd _ _ _ (fu L.hh i x j) = _
      rw [fu_ne e]
      exact h.kt h.tH (h.e2 j hj) (by rw [h.t2 j hj]; simp)
  · show MvsAt _ (fu L.ha i as j) (fu ms i m j)
    by_cases e : j = i
    · subst e
      rw [fu_at, fu_at]
      exact hm.of fun b vs e => h.kl h.eH e fun _ z => (by cases z)
    · rw [fu_ne e, fu_ne e]
      exact (h.m2 j hj).of fun b vs e => h.kl h.eH e fun _ z => (by cases z)
  · show τ (fu L.hh i x j) = _
    by_cases e : j = i
    · subst e
      rw [fu_at]
      exact tx
    · rw [fu_ne e]
      exact h.t2 j hj
theorem LawAt.setB (h : LawAt τ H n st L wm ms tb c) (hi : i < n) {x : Addr} {t : Tr} (hx : H x = some (.dK (enc t))) :
    LawAt τ (upd H L.BS (.lst ((rg n fun j => V.ref (L.bb j)).set i (.ref x)))) n st { L with bb := fu L.bb i x } wm ms (fu tb i t) c := by
  refine ⟨h.kl h.eB h.es fun _ z => (by cases z), h.kt h.tB h.eL (by rw [h.tL]; simp), h.kt h.tB h.eH (by rw [h.tH]; simp), ?_, h.kt h.tB h.eC (by rw [h.tC]; simp), h.kt h.tB h.eh (by rw [h.th]; simp), fun j hj => h.kt h.tB (h.e1 j hj) (by rw [h.t1 j hj]; simp), fun j hj => (h.m1 j hj).of fun b vs e => h.kl h.eB e fun _ z => (by cases z), fun j hj => h.kt h.tB (h.e2 j hj) (by rw [h.t2 j hj]; simp), fun j hj => (h.m2 j hj).of fun b vs e => h.kl h.eB e fun _ z => (by cases z), fun j hj => ?_, h.tL, h.tH, h.tB, h.tC, h.th, h.t1, h.t2⟩
  · rw [rg_set, fu_map V.ref]
    exact upd_same
  · show upd _ _ _ (fu L.bb i x j) = some (HO.dK (enc (fu tb i t j)))
    by_cases e : j = i
    · subst e
      rw [fu_at, fu_at]
      exact h.kl h.eB hx fun _ z => (by cases z)
    · rw [fu_ne e, fu_ne e]
      exact h.kl h.eB (h.e3 j hj) fun _ z => (by cases z)
theorem LawAt.setC (h : LawAt τ H n st L wm ms tb c) (hi : i < n) {x : Int} :
    LawAt τ (upd H L.CS (.lst ((rg n fun j => V.int (c j)).set i (.int x)))) n st L wm ms tb (fu c i x) := by
  refine ⟨h.kl h.eC h.es fun _ z => (by cases z), h.kt h.tC h.eL (by rw [h.tL]; simp), h.kt h.tC h.eH (by rw [h.tH]; simp), h.kt h.tC h.eB (by rw [h.tB]; simp), ?_, h.kt h.tC h.eh (by rw [h.th]; simp), fun j hj => h.kt h.tC (h.e1 j hj) (by rw [h.t1 j hj]; simp), fun j hj => (h.m1 j hj).of fun b vs e => h.kl h.eC e fun _ z => (by cases z), fun j hj => h.kt h.tC (h.e2 j hj) (by rw [h.t2 j hj]; simp), fun j hj => (h.m2 j hj).of fun b vs e => h.kl h.eC e fun _ z => (by cases z), fun j hj => h.kl h.eC (h.e3 j hj) fun _ z => (by cases z), h.tL, h.tH, h.tB, h.tC, h.th, h.t1, h.t2⟩
  rw [rg_set, fu_map V.int]
  exact upd_same
theorem LawAt.held (h : LawAt τ H n st L wm ms tb c) {a : Addr} : LawAt τ (upd H L.hl (.lst ((L.hs ++ [a]).map V.ref))) n st { L with hs := L.hs ++ [a] } wm ms tb c :=
  ⟨h.kl h.eh h.es fun _ z => (by cases z), h.kt h.th h.eL (by rw [h.tL]; simp), h.kt h.th h.eH (by rw [h.tH]; simp), h.kt h.th h.eB (by rw [h.tB]; simp), h.kt h.th h.eC (by rw [h.tC]; simp), upd_same, fun j hj => h.kt h.th (h.e1 j hj) (by rw [h.t1 j hj]; simp), fun j hj => (h.m1 j hj).of fun b vs e => h.kl h.eh e fun _ z => (by cases z), fun j hj => h.kt h.th (h.e2 j hj) (by rw [h.t2 j hj]; simp), fun j hj => (h.m2 j hj).of fun b vs e => h.kl h.eh e fun _ z => (by cases z), fun j hj => h.kl h.eh (h.e3 j hj) fun _ z => (by cases z), h.tL, h.tH, h.tB, h.tC, h.th, h.t1, h.t2⟩
/-- what the room changes is none of it -/
theorem LawAt.kx {CR CH CL rm : Addr} {R : Rm} (h : LawAt τ H n st L wm ms tb c) (r : RoomAt CR CH CL τ H n rm R) (k : Kx (exR n R) H H') (ht : ∀ b o, H b = some o → τ' b = τ b) : LawAt τ' H' n st L wm ms tb c :=
  h.mono (fun b o e z => k b o (fun m => by
    obtain ⟨t3, u, eu, nu, nd⟩ := r.in_ex m
    rw [e] at eu
    cases eu
    rcases z with z | ⟨vs, z⟩ | ⟨kv, z⟩
    · omega
    · exact nu _ z
    · exact nd _ z) e) ht
end
end Tm
namespace Tm
open PySem PySem.Spec PyProof.Rows L2
/-! what a room's methods do -/
def BadNo (n : Nat) (x : V) : Prop := ∀ i : Nat, i < n → x ≠ .int i
def Rm.moved (R : Rm) (i : Nat) (a : Addr) (m : Mv) (t : Nat) : Rm :=
  { R with c := fu R.c i m.t, g := fu R.g i ((R.g i).heard a m), wa := fun j => if j = i ∨ t ≤ j then R.wa j else R.wa j ++ [a], wm := fun j => if j = i ∨ t ≤ j then R.wm j else R.wm j ++ [m] }
def Rm.carried (R : Rm) (i x : Nat) (a : Addr) (m : Mv) : Rm :=
  { R with c := fu R.c i (max (R.c i) m.t), g := fu R.g i (if m ∈ (R.g i).ms then R.g i else (R.g i).heard a m), wa := fu R.wa i ((R.wa i).eraseIdx x), wm := fu R.wm i ((R.wm i).eraseIdx x) }
def Rm.doubled (R : Rm) (i : Nat) (a : Addr) (m : Mv) : Rm := { R with wa := fu R.wa i (R.wa i ++ [a]), wm := fu R.wm i (R.wm i ++ [m]) }
def spLineOf (CR CH CL NH : Addr) : Sp := fun vs H Q E => ∃ (τ : Tg) (n : Nat) (rm : Addr) (R : Rm) (x : V), vs = [.ref rm, x] ∧ RoomAt CR CH CL τ H n rm R ∧ n ≤ 1000 ∧ KnownV H x ∧
  ((BadNo n x ∧ E (.ref NH) none H) ∨ ∃ i : Nat, x = .int i ∧ i < n ∧ Q (.ref (R.ln i)) H)
def spWait (CR CH CL NH : Addr) : Sp := fun vs H Q E => ∃ (τ : Tg) (n : Nat) (rm : Addr) (R : Rm) (x : V), vs = [.ref rm, x] ∧ RoomAt CR CH CL τ H n rm R ∧ n ≤ 1000 ∧ KnownV H x ∧
  ((BadNo n x ∧ E (.ref NH) none H) ∨ ∃ i : Nat, x = .int i ∧ i < n ∧ ∀ l, H l = none → Q (.ref l) (upd H l (.lst ((R.wa i).map V.ref))))
def spRoomMove (CR CH CL NH N : Addr) : Sp := fun vs H Q E => ∃ (τ : Tg) (n : Nat) (rm : Addr) (R : Rm) (x f u : V), vs = [.ref rm, x, f, u] ∧ RoomAt CR CH CL τ H n rm R ∧ n ≤ 1000 ∧ KnownV H x ∧ KnownV H f ∧ KnownV H u ∧
  ((BadNo n x ∧ E (.ref NH) none H) ∨ ∃ i : Nat, x = .int i ∧ i < n ∧ Srt (R.g i).ms ∧ (R.g i).as.length ≤ 100000 ∧ 0 ≤ R.c i ∧ (R.g i).s ≤ R.c i + 1 ∧ (∀ m ∈ (R.g i).ms, m.t ≤ R.c i) ∧ (∀ j, j < n → (R.wa j).length ≤ 100000) ∧
    ((moveB [.int (R.c i + 1), .int i, f, u] = false ∧ ∀ H', Same H H' → E (.ref N) none H') ∨ ∃ fi ui : Int, f = .int fi ∧ u = .int ui ∧ (Mv.mk (R.c i + 1) i fi ui).Ok ∧
      ∀ a H', H a = none → H' a = some (.tup (Mv.mk (R.c i + 1) i fi ui).vs) → RoomAt CR CH CL τ H' n rm (R.moved i a (Mv.mk (R.c i + 1) i fi ui) n) → Kx (exR n R) H H' → Q (.ref a) H'))
def spCarry (CR CH CL NH : Addr) : Sp := fun vs H Q E => ∃ (τ : Tg) (n : Nat) (rm : Addr) (R : Rm) (x : V) (place : Int), vs = [.ref rm, x, .int place] ∧ RoomAt CR CH CL τ H n rm R ∧ n ≤ 1000 ∧ KnownV H x ∧
  ((BadNo n x ∧ E (.ref NH) none H) ∨ ∃ i : Nat, x = .int i ∧ i < n ∧ Srt (R.g i).ms ∧ (R.g i).as.length ≤ 100000 ∧ (R.wm i).length ≤ 100000 ∧ (∀ m ∈ R.wm i, m.Ok ∧ (R.g i).s ≤ m.t ∧ ¬ ClashM m (R.g i).ms) ∧
    (R.wm i = [] → ∀ H', Same H H' → Q .non H') ∧ (∀ (a : Addr) (m : Mv) (x : Nat) (H' : Hp), (x : Int) = place % ((R.wm i).length : Int) → (R.wa i)[x]? = some a → (R.wm i)[x]? = some m → H' a = some (.tup m.vs) → RoomAt CR CH CL τ H' n rm (R.carried i x a m) → Kx (exR n R) H H' → Q (.ref a) H'))
def spDouble (CR CH CL NH : Addr) : Sp := fun vs H Q E => ∃ (τ : Tg) (n : Nat) (rm : Addr) (R : Rm) (x : V) (place : Int), vs = [.ref rm, x, .int place] ∧ RoomAt CR CH CL τ H n rm R ∧ n ≤ 1000 ∧ KnownV H x ∧
  ((BadNo n x ∧ E (.ref NH) none H) ∨ ∃ i : Nat, x = .int i ∧ i < n ∧ (R.wm i).length ≤ 100000 ∧
    (R.wm i = [] → ∀ H', Same H H' → Q .non H') ∧ (∀ (a : Addr) (m : Mv) (x : Nat) (H' : Hp), (x : Int) = place % ((R.wm i).length : Int) → (R.wa i)[x]? = some a → (R.wm i)[x]? = some m → H' a = some (.tup m.vs) → RoomAt CR CH CL τ H' n rm (R.doubled i a m) → Kx (exR n R) H H' → Q (.ref a) H'))
/-- a hand settled -/
structure SetJ (H : Hp) (R : Rm) (c' : Nat → Int) (g' : Nat → Lg) (time : Int) (j : Nat) : Prop where
  c : c' j = max (R.c j) (time - 1)
  ms : (g' j).ms = (R.g j).ms.drop (goneM time (R.g j).ms)
  t : (g' j).t = foldT (R.g j).t ((R.g j).ms.take (goneM time (R.g j).ms))
  s : (g' j).s = max (R.g j).s time
  l : H (g' j).l = none
def spRoomSettle (CR CH CL : Addr) : Sp := fun vs H Q _ => ∃ (τ : Tg) (n : Nat) (rm : Addr) (R : Rm), vs = [.ref rm] ∧ RoomAt CR CH CL τ H n rm R ∧ 0 < n ∧ n ≤ 1000 ∧ (∀ j, j < n → Acyc (R.g j).t ∧ (R.g j).t.length + (R.g j).as.length ≤ 100000) ∧
  ((∃ j, j < n ∧ R.wm j ≠ []) → ∀ H', Same H H' → Q (.bl false) H') ∧
  ((∀ j, j < n → R.wm j = []) → ∀ (mx : Int) (τ' : Tg) (H' : Hp) (c' : Nat → Int) (g' : Nat → Lg), (∃ j, j < n ∧ R.c j = mx) → (∀ j, j < n → R.c j ≤ mx) → (∀ b o, H b = some o → τ' b = τ b) → ((∀ b, H b = none → τ b = (9, 0)) → ∀ b, H' b = none → τ' b = (9, 0)) →
    RoomAt CR CH CL τ' H' n rm { R with c := c', g := g' } → (∀ j, j < n → SetJ H R c' g' (1 + mx) j) → Kx (exR n R) H H' → Q (.bl true) H')
/-- a room anew -/
structure Rm0 (H : Hp) (n : Nat) (rm : Addr) (R : Rm) : Prop where
  c : ∀ j, j < n → R.c j = 0
  s : ∀ j, j < n → (R.g j).s = 0
  t : ∀ j, j < n → (R.g j).t = []
  as : ∀ j, j < n → (R.g j).as = []
  ms : ∀ j, j < n → (R.g j).ms = []
  wa : ∀ j, j < n → R.wa j = []
  wm : ∀ j, j < n → R.wm j = []
  new : ∀ b, suppR n rm R b → b = rm ∨ H b = none
def spRoomInit (CR CH CL NH : Addr) : Sp := fun vs H Q E => ∃ (p dx : Addr) (x : V), vs = [.ref p, x] ∧ H p = some (.ins CR dx []) ∧ KnownV H x ∧
  ((∀ i : Nat, 1 ≤ i → i ≤ 60 → x ≠ .int i) → E (.ref NH) none H) ∧ ∀ n : Nat, x = .int n → 1 ≤ n → n ≤ 60 → ∀ (τ : Tg) (H' : Hp) (R : Rm), SameP p H H' → RoomAt CR CH CL τ H' n p R → Rm0 H n p R → (∀ b, H' b = none → τ b = (9, 0)) → (∀ b o, b ≠ p → H b = some o → τ b = (9, 0)) → Q .non H'
section
variable {CR CH CL NH N : Addr} {τ : Tg} {H : Hp} {n : Nat} {rm : Addr} {R : Rm} {i : Nat} {Q : VK} {E : XK}
theorem c_lineOf (h : RoomAt CR CH CL τ H n rm R) (hn : n ≤ 1000) (hi : i < n) (q : Q (.ref (R.ln i)) H) : spLineOf CR CH CL NH [.ref rm, .int (i : Int)] H Q E := ⟨τ, n, rm, R, _, rfl, h, hn, trivial, .inr ⟨i, rfl, hi, q⟩⟩
theorem c_wait (h : RoomAt CR CH CL τ H n rm R) (hn : n ≤ 1000) (hi : i < n) (q : ∀ l, H l = none → Q (.ref l) (upd H l (.lst ((R.wa i).map V.ref)))) : spWait CR CH CL NH [.ref rm, .int (i : Int)] H Q E := ⟨τ, n, rm, R, _, rfl, h, hn, trivial, .inr ⟨i, rfl, hi, q⟩⟩
theorem BadNo.big {x : V} (h : BadNo n x) {z : Int} (e : x = .int z) (h0 : 0 ≤ z) : (n : Int) ≤ z := by
  by_cases c : z < n
  · refine (h z.toNat (by omega) ?_).elim
    rw [e, Int.toNat_of_nonneg h0]
  · omega
theorem isW_int {x : V} {l : Int} (h : isW x l = true) : ∃ z : Int, x = .int z ∧ l ≤ z ∧ z ≤ E60 := by
  cases x with
  | int z =>
    simp [isW] at h
    exact ⟨z, rfl, h.1, h.2⟩
  | _ => cases h
theorem MvsAt.erase {as : List Addr} {ms : List Mv} (h : MvsAt H as ms) (x : Nat) : MvsAt H (as.eraseIdx x) (ms.eraseIdx x) := by
  unfold MvsAt at *
  have e : ∀ {α β : Type} (f : α → β) (l : List α), (l.eraseIdx x).map f = (l.map f).eraseIdx x := fun f l => by
    rw [List.eraseIdx_eq_take_drop_succ, List.eraseIdx_eq_take_drop_succ, List.map_append, List.map_take, List.map_drop]
  rw [e, e, h]
theorem ref_erase (as : List Addr) (x : Nat) : (as.map V.ref).eraseIdx x = (as.eraseIdx x).map V.ref := by
  rw [List.eraseIdx_eq_take_drop_succ, List.eraseIdx_eq_take_drop_succ, List.map_append, List.map_take, List.map_drop]
/-- pop at a place -/
theorem r_popAt {p : Addr} {xs : List V} {k : Nat} {z : Int} {y : V} (hp : H p = some (.lst xs)) (hk : xs[k]? = some y) (e : (k : Int) = z) (l : xs.length ≤ 1000000) (h : Q y (upd H p (.lst (xs.eraseIdx k)))) : rPopAt (.ref p) [.int z] H Q := by
  have hl := (List.getElem?_eq_some_iff.mp hk).1
  refine ⟨p, xs, z, k, y, rfl, rfl, hp, by omega, by omega, ?_, hk, h⟩
  have := seqIndex_of (k := z) (n := xs.length) (by omega) (by omega)
  rw [this]
  congr 1
  omega
/-- a list of moves against the empty list -/
theorem r_eqNil {K : PySem.W.Frag} {l e : Addr} {as : List Addr} {ms : List Mv} (hl : H l = some (.lst (as.map V.ref))) (hm : MvsAt H as ms) (he : H e = some (.lst [])) (h : Q (.bl (decide (ms = []))) H) : rEqD K (.ref l) (.ref e) H Q := by
  refine ⟨.list (ms.map Mv.d), .list [], .lst (SqL.of hl) (dpAll_mv hm), .lst (SqL.of he) .nil, sh_mvs ms, by simp [SeqAt.shaped, PyData.canLay0, PyData.canLayAll0, PyData.depth, PyData.depthAll], ?_⟩
  have e2 : PyData.eqv (.list (ms.map Mv.d)) (.list []) = decide (ms = []) := by
    cases ms with
    | nil => simp [PyData.eqv, PyData.eqvAll]
    | cons m r => simp [PyData.eqv, PyData.eqvAll]
  rw [e2]
  exact h
theorem place_at {α : Type} {l : List α} (hl : l ≠ []) (place : Int) : ∃ (x : Nat) (y : α), (x : Int) = place % (l.length : Int) ∧ l[x]? = some y := by
  have hp : 0 < l.length := List.length_pos_iff.mpr hl
  have h0 := Int.emod_nonneg place (show (l.length : Int) ≠ 0 by omega)
  have h1 := Int.emod_lt_of_pos place (show (0 : Int) < l.length by omega)
  exact ⟨(place % (l.length : Int)).toNat, _, by omega, List.getElem?_eq_getElem (by omega)⟩
/-- heard, not a clash -/
theorem new_or_mem {m : Mv} {ms : List Mv} (h : ¬ ClashM m ms) : m ∈ ms ∨ NewM m ms := by
  by_cases c : m ∈ ms
  · exact .inl c
  · refine .inr fun x hx k => h ⟨x, hx, k, fun e => c (e ▸ hx)⟩
theorem RoomAt.carry (h : RoomAt CR CH CL τ H n rm R) (hi : i < n) {x : Nat} {a : Addr} {m : Mv} {H' : Hp} (D : RoomAt CR CH CL τ H' n rm { R with wa := fu R.wa i ((R.wa i).eraseIdx x), wm := fu R.wm i ((R.wm i).eraseIdx x) }) {H2 : Hp}
    (k : ∀ b o, b ≠ R.p i → b ≠ R.lg i → b ≠ (R.g i).l → H' b = some o → H2 b = some o) (D2 : HandAt CH CL H2 (R.p i) (R.hd i) (i : Int) (max (R.c i) m.t) (R.lg i) (if m ∈ (R.g i).ms then R.g i else (R.g i).heard a m)) : RoomAt CR CH CL τ H2 n rm (R.carried i x a m) := by
  refine D.hand hi k D2 (fun _ _ _ => rfl) ?_
  split
  · exact h.tl i hi
  · exact h.tl i hi
end
theorem step_fun {α : Type} {i t : Nat} (c : t ≠ i) (A B : Nat → α) : (fun j => if j = i ∨ t + 1 ≤ j then A j else B j) = fu (fun j => if j = i ∨ t ≤ j then A j else B j) t (B t) := by
  funext j
  by_cases e : j = t
  · subst e
    rw [fu_at, if_neg (by omega)]
  · rw [fu_ne e]
    by_cases e2 : j = i ∨ t ≤ j
    · rw [if_pos e2, if_pos (by omega)]
    · rw [if_neg e2, if_neg (by omega)]
theorem r_maxL {K : PySem.W.Frag} {H : Hp} {Q : VK} {p : Addr} {ns : List Int} (hs : SqL K H p (ns.map V.int)) (h0 : 0 < ns.length) (h : ∀ m, m ∈ ns → (∀ y, y ∈ ns → y ≤ m) → Q (.int m) H) : rMax K [.ref p] H Q := ⟨p, ns, rfl, hs, h0, h⟩
theorem r_neNilM {K : PySem.W.Frag} {H : Hp} {Q : VK} {l e : Addr} {as : List Addr} {ms : List Mv} (hl : H l = some (.lst (as.map V.ref))) (hm : MvsAt H as ms) (he : H e = some (.lst [])) (h : Q (.bl (!decide (ms = []))) H) : rNeD K (.ref l) (.ref e) H Q := by
  refine r_neNil hl hm he ?_
  have z : decide (as = []) = decide (ms = []) := by
    have hlen := hm.length
    cases as <;> cases ms <;> simp_all
  rw [z]
  exact h
/-- what the hands' own objects are -/
def exP (n : Nat) (R : Rm) : List Addr := rg n R.p ++ rg n R.lg
theorem mem_exP {n : Nat} {R : Rm} {b : Addr} : b ∈ exP n R ↔ ∃ j, j < n ∧ (b = R.p j ∨ b = R.lg j) := by
  unfold exP
  simp only [List.mem_append, rg_mem]
  constructor
  · rintro (⟨j, h, e⟩ | ⟨j, h, e⟩)
    · exact ⟨j, h, .inl e.symm⟩
    · exact ⟨j, h, .inr e.symm⟩
  · rintro ⟨j, h, e | e⟩
    · exact .inl ⟨j, h, e.symm⟩
    · exact .inr ⟨j, h, e.symm⟩
/-- settling, t hands of it done -/
structure Setg (CR CH CL : Addr) (τ : Tg) (H H' : Hp) (n : Nat) (rm : Addr) (R : Rm) (time : Int) (t : Nat) (c' : Nat → Int) (g' : Nat → Lg) (τ' : Tg) : Prop where
  R_ : RoomAt CR CH CL τ' H' n rm { R with c := c', g := g' }
  kx : Kx (exP n R) H H'
  ag : ∀ b o, H b = some o → τ' b = τ b
  un : (∀ b, H b = none → τ b = (9, 0)) → ∀ b, H' b = none → τ' b = (9, 0)
  dn : ∀ j, j < t → SetJ H R c' g' time j
  od : ∀ j, t ≤ j → c' j = R.c j ∧ g' j = R.g j
section
variable {CR CH CL : Addr} {τ τ' : Tg} {H H' : Hp} {n : Nat} {rm : Addr} {R : Rm} {time : Int} {t : Nat} {c' : Nat → Int} {g' : Nat → Lg}
theorem Setg.old (h : Setg CR CH CL τ H H' n rm R time t c' g' τ') {b : Addr} (e : H' b = none) : H b = none := by
  cases z : H b with
  | none => rfl
  | some o =>
    by_cases m : b ∈ exP n R
    · obtain ⟨j, hj, w | w⟩ := mem_exP.mp m
      · have v := (h.R_.hd j hj).hp
        rw [w] at e
        rw [e] at v
        cases v
      · have v := (h.R_.hd j hj).L.hp
        rw [w] at e
        rw [e] at v
        cases v
    · have v := h.kx b o m z
      rw [e] at v
      cases v
theorem Setg.step (h : Setg CR CH CL τ H H' n rm R time t c' g' τ') (ht : t < n) {b l : Addr} {H1 : Hp} (hb : b = (g' t).b ∨ H' b = none) (hl : H' l = none) (sp : SameP (R.lg t) H' H1)
    (D2 : HandAt CH CL (upd H1 (R.p t) (.ins CH (R.hd t) (hdF t (max (c' t) (time - 1)) (R.lg t)))) (R.p t) (R.hd t) (t : Int) (max (c' t) (time - 1)) (R.lg t) ((g' t).settled b l time)) :
    Setg CR CH CL τ H (upd H1 (R.p t) (.ins CH (R.hd t) (hdF t (max (c' t) (time - 1)) (R.lg t)))) n rm R time (t + 1) (fu c' t (max (c' t) (time - 1))) (fu g' t ((g' t).settled b l time)) (fut τ' l (2, t)) := by
  obtain ⟨oc, og⟩ := h.od t (Nat.le_refl _)
  have hH : H l = none := h.old hl
  refine ⟨?_, Kx.mut (mem_exP.mpr ⟨t, ht, .inl rfl⟩) (h.kx.trans (Kx.ofP (mem_exP.mpr ⟨t, ht, .inr rfl⟩) sp)), fun x o e => ?_, fun un x e => ?_, fun j hj => ?_, fun j hj => ?_⟩
  · exact h.R_.hand ht (τ' := fut τ' l (2, t)) (fun x o n1 n2 n3 e => keep_ne (sp _ _ n2 e) n1) D2 (fun x o e => fut_ne (ne_of_none e hl)) fut_at
  · rw [fut_ne (ne_of_none e hH)]
    exact h.ag x o e
  · have nl : x ≠ l := fun z => by
      have w := D2.L.hl
      rw [z] at e
      rw [show ((g' t).settled b l time).l = l from rfl, e] at w
      cases w
    rw [fut_ne nl]
    refine h.un un x ?_
    cases z : H' x with
    | none => rfl
    | some o =>
      by_cases n1 : x = R.p t
      · rw [n1, upd_same] at e
        cases e
      · by_cases n2 : x = R.lg t
        · have w := D2.L.hp
          rw [n2] at e
          rw [e] at w
          cases w
        · have w := sp _ _ n2 z
          rw [upd_ne n1, w] at e
          cases e
  · by_cases e : j = t
    · subst e
      refine ⟨?_, ?_, ?_, ?_, ?_⟩ <;> rw [fu_at]
      · rw [oc]
      · rw [og]; rfl
      · rw [og]; rfl
      · rw [og]; rfl
      · exact hH
    · obtain ⟨d1, d2, d3, d4, d5⟩ := h.dn j (by omega)
      refine ⟨?_, ?_, ?_, ?_, ?_⟩ <;> rw [fu_ne e] <;> assumption
  · have e : j ≠ t := by omega
    rw [fu_ne e, fu_ne e]
    exact h.od j (by omega)
end
/-- the hands of a room, i of them made -/
structure Hds (CH CL : Addr) (τ : Tg) (H H' : Hp) (p D : Addr) (i : Nat) (ph hd lg : Nat → Addr) (g : Nat → Lg) : Prop where
  s : Same H H'
  eD : H' D = some (.lst (rg i fun j => V.ref (ph j)))
  nD : H D = none
  hd : ∀ j : Nat, j < i → HandAt CH CL H' (ph j) (hd j) (j : Int) 0 (lg j) (g j)
  z : ∀ j, j < i → (g j).s = 0 ∧ (g j).t = [] ∧ (g j).as = [] ∧ (g j).ms = []
  nw : ∀ j, j < i → H (ph j) = none ∧ H (lg j) = none ∧ H (g j).b = none ∧ H (g j).l = none
  tp : ∀ j, j < i → τ (ph j) = (0, j)
  tg : ∀ j, j < i → τ (lg j) = (1, j)
  tl : ∀ j, j < i → τ (g j).l = (2, j)
  tD : τ D = (4, 0)
  tr : τ p = (4, 2)
  un : ∀ b, H' b = none → τ b = (9, 0)
  ol : ∀ b o, b ≠ p → H b = some o → τ b = (9, 0)
theorem Hds.add {CH CL : Addr} {τ : Tg} {H H' H2 : Hp} {p D : Addr} {i : Nat} {ph hd lg : Nat → Addr} {g : Nat → Lg} {q dx lg' b l ldx : Addr} (h : Hds CH CL τ H H' p D i ph hd lg g) {op : HO} (hp : H p = some op)
    (fq : H' q = none) (fdx : H' dx = none) (ndq : dx ≠ q) (flg : upd (upd H' dx (.own q)) q (.ins CH dx []) lg' = none) (fb : upd (upd H' dx (.own q)) q (.ins CH dx []) b = none) (fl : upd (upd H' dx (.own q)) q (.ins CH dx []) l = none)
    (sp : SameP q (upd (upd H' dx (.own q)) q (.ins CH dx [])) H2) (Dq : HandAt CH CL H2 q dx (i : Int) 0 lg' (lg0 b l ldx)) :
    H2 D = some (.lst (rg i fun j => V.ref (ph j))) ∧ Hds CH CL (fut (fut (fut τ q (0, i)) lg' (1, i)) l (2, i)) H (upd H2 D (.lst ((rg i fun j => V.ref (ph j)) ++ [.ref q]))) p D (i + 1) (fu ph i q) (fu hd i dx) (fu lg i lg') (fu g i (lg0 b l ldx)) := by
  have s2 : Same H' H2 := fun x o e => sp _ _ (ne_of_none e fq) (keep_ne (keep_ne e (ne_of_none e fdx)) (ne_of_none e fq))
  obtain ⟨flg1, nlq⟩ := new_free flg
  obtain ⟨flg0, _⟩ := new_free flg1
  obtain ⟨fb1, nbq⟩ := new_free fb
  obtain ⟨fb0, _⟩ := new_free fb1
  obtain ⟨fl1, nllq⟩ := new_free fl
  obtain ⟨fl0, _⟩ := new_free fl1
  have eD2 := s2 _ _ h.eD
  have nll : l ≠ lg' := fun z => by
    have w1 := Dq.L.hl
    have w2 := Dq.L.hp
    rw [show (lg0 b l ldx).l = l from rfl, z, w2] at w1
    cases w1
  have told : ∀ x o, H' x = some o → (fut (fut (fut τ q (0, i)) lg' (1, i)) l (2, i)) x = τ x := fun x o e => by rw [fut_ne (ne_of_none e fl0), fut_ne (ne_of_none e flg0), fut_ne (ne_of_none e fq)]
  have hold : ∀ x, H' x = none → H x = none := fun x e => h.s.free e
  have kD : ∀ x o, H2 x = some o → (∀ xs, o ≠ .lst xs) → (upd H2 D (.lst ((rg i fun j => V.ref (ph j)) ++ [.ref q]))) x = some o := fun x o e w => keep_ne e fun z => by rw [z, eD2] at e; exact w _ (Option.some.inj e).symm
  refine ⟨eD2, ⟨Same.mut (h.s.trans s2) h.nD, ?_, h.nD, fun j hj => ?_, fun j hj => ?_, fun j hj => ?_, fun j hj => ?_, fun j hj => ?_, fun j hj => ?_, (told _ _ h.eD).trans h.tD, ?_, fun x e => ?_, fun x o n e => ?_⟩⟩
  · rw [upd_same, rg_succ, fu_at]
    congr 2
    congr 1
    exact rg_congr fun j hj => by rw [fu_ne (by omega)]
  · by_cases e : j = i
    · subst e
      rw [fu_at, fu_at, fu_at, fu_at]
      have nlD : (lg0 b l ldx).l ≠ D := fun z => by rw [show (lg0 b l ldx).l = l from rfl] at z; rw [z, h.eD] at fl0; cases fl0
      exact ⟨kD _ _ Dq.hp fun _ z => (by cases z), ⟨kD _ _ Dq.L.hp fun _ z => (by cases z), kD _ _ Dq.L.hb fun _ z => (by cases z), keep_ne Dq.L.hl nlD, Dq.L.hm.of fun b vs e => kD _ _ e fun _ z => (by cases z)⟩, Dq.ne⟩
    · rw [fu_ne e, fu_ne e, fu_ne e, fu_ne e]
      have hj' : j < i := by omega
      have d := (h.hd j hj').same s2
      have nlD : (g j).l ≠ D := ne_tag (h.tl j hj') h.tD (by simp)
      exact ⟨kD _ _ d.hp fun _ z => (by cases z), ⟨kD _ _ d.L.hp fun _ z => (by cases z), kD _ _ d.L.hb fun _ z => (by cases z), keep_ne d.L.hl nlD, d.L.hm.of fun b vs e => kD _ _ e fun _ z => (by cases z)⟩, d.ne⟩
  · by_cases e : j = i
    · subst e
      rw [fu_at]
      exact ⟨rfl, rfl, rfl, rfl⟩
    · rw [fu_ne e]
      exact h.z j (by omega)
  · by_cases e : j = i
    · subst e
      rw [fu_at, fu_at, fu_at]
      exact ⟨hold _ fq, hold _ flg0, hold _ fb0, hold _ fl0⟩
    · rw [fu_ne e, fu_ne e, fu_ne e]
      exact h.nw j (by omega)
  · by_cases e : j = i
    · subst e
      rw [fu_at, fut_ne nllq.symm, fut_ne nlq.symm, fut_at]
    · rw [fu_ne e, told _ _ (h.hd j (by omega)).hp]
      exact h.tp j (by omega)
  · by_cases e : j = i
    · subst e
      rw [fu_at, fut_ne nll.symm, fut_at]
    · rw [fu_ne e, told _ _ (h.hd j (by omega)).L.hp]
      exact h.tg j (by omega)
  · by_cases e : j = i
    · subst e
      rw [fu_at]
      exact fut_at
    · rw [fu_ne e, told _ _ (h.hd j (by omega)).L.hl]
      exact h.tl j (by omega)
  · exact (told _ _ (h.s _ _ hp)).trans h.tr
  · have xD : x ≠ D := fun z => by rw [z, upd_same] at e; cases e
    rw [upd_ne xD] at e
    have n1 : x ≠ l := fun z => by have w := Dq.L.hl; rw [show (lg0 b l ldx).l = l from rfl, ← z, e] at w; cases w
    have n2 : x ≠ lg' := fun z => by have w := Dq.L.hp; rw [← z, e] at w; cases w
    have n3 : x ≠ q := fun z => by have w := Dq.hp; rw [← z, e] at w; cases w
    rw [fut_ne n1, fut_ne n2, fut_ne n3]
    exact h.un x (s2.free e)
  · rw [told _ _ (h.s _ _ e)]
    exact h.ol x o n e
/-- the lines, i of them made -/
structure Lns (τ τ' : Tg) (H H' : Hp) (D : Addr) (i : Nat) (ln : Nat → Addr) : Prop where
  s : Same H H'
  eD : H' D = some (.lst (rg i fun j => V.ref (ln j)))
  nD : H D = none
  e : ∀ j, j < i → H' (ln j) = some (.lst [])
  nw : ∀ j, j < i → H (ln j) = none
  tn : ∀ j, j < i → τ' (ln j) = (3, j)
  tD : τ' D = (4, 1)
  ag : ∀ b o, H b = some o → τ' b = τ b
  un : ∀ b, H' b = none → τ' b = (9, 0)
theorem Lns.add {τ τ' : Tg} {H H' : Hp} {D x : Addr} {i : Nat} {ln : Nat → Addr} (h : Lns τ τ' H H' D i ln) (fx : H' x = none) : (upd H' x (.lst [])) D = some (.lst (rg i fun j => V.ref (ln j))) ∧ Lns τ (fut τ' x (3, i)) H (upd (upd H' x (.lst [])) D (.lst ((rg i fun j => V.ref (ln j)) ++ [.ref x]))) D (i + 1) (fu ln i x) := by
  have hx := h.s.free fx
  have nDx : D ≠ x := ne_of_none h.eD fx
  refine ⟨keep h.eD fx, ⟨Same.mut (Same.new h.s fx) h.nD, ?_, h.nD, fun j hj => ?_, fun j hj => ?_, fun j hj => ?_, ?_, fun b o e => ?_, fun b e => ?_⟩⟩
  · rw [upd_same, rg_succ, fu_at]
    congr 2
    congr 1
    exact rg_congr fun j hj => by rw [fu_ne (by omega)]
  · by_cases e : j = i
    · subst e
      rw [fu_at]
      exact keep_ne upd_same nDx.symm
    · rw [fu_ne e]
      exact keep_ne (keep (h.e j (by omega)) fx) (ne_tag (h.tn j (by omega)) h.tD (by simp))
  · by_cases e : j = i
    · subst e
      rw [fu_at]
      exact hx
    · rw [fu_ne e]
      exact h.nw j (by omega)
  · by_cases e : j = i
    · subst e
      rw [fu_at]
      exact fut_at
    · rw [fu_ne e, fut_ne (ne_of_none (h.e j (by omega)) fx)]
      exact h.tn j (by omega)
  · rw [fut_ne nDx]
    exact h.tD
  · rw [fut_ne (ne_of_none e hx)]
    exact h.ag b o e
  · have n1 : b ≠ D := fun z => by rw [z, upd_same] at e; cases e
    rw [upd_ne n1] at e
    obtain ⟨e0, n2⟩ := new_free e
    rw [fut_ne n2]
    exact h.un b e0
end Tm
namespace Tm
open PySem PySem.Spec PyProof.Rows L2
/-! k14: what is known of all hands' moves -/
structure P14 (n : Nat) (s : Int) (T : Tr) (c : Nat → Int) (ms wm : Nat → List Mv) (al : List Mv) (k : Nat) : Prop where
  sub1 : ∀ j, j < n → ∀ m ∈ ms j, m ∈ al
  sub2 : ∀ j, j < n → ∀ m ∈ wm j, m ∈ al
  all : ∀ m ∈ al, ∀ j, j < n → m ∈ ms j ∨ m ∈ wm j
  ok : ∀ m ∈ al, m.Ok ∧ s ≤ m.t ∧ m.t ≤ k
  key : ∀ m ∈ al, ∀ m' ∈ al, SameK m m' → m = m'
  own : ∀ m ∈ al, ∀ i : Nat, i < n → m.h = i → m.t ≤ c i
  srt : ∀ j, j < n → Srt (ms j)
  le : ∀ j, j < n → ∀ m ∈ ms j, m.t ≤ c j
  sc : ∀ j, j < n → s ≤ c j + 1
  c0 : ∀ j, j < n → 0 ≤ c j ∧ c j ≤ k
  s0 : 0 ≤ s
  ac : Acyc T
  nd : Nd T
  cnt : T.length + al.length ≤ k
  wl : ∀ j, j < n → (wm j).length ≤ k
theorem le_of_subsetM {l m : List Mv} (hn : l.Nodup) (hs : ∀ x ∈ l, x ∈ m) : l.length ≤ m.length := by
  induction l generalizing m with
  | nil => simp
  | cons a l ih =>
    have ha := hs a List.mem_cons_self
    obtain ⟨h1, h2⟩ := List.nodup_cons.mp hn
    have := ih (m := m.erase a) h2 fun x hx => (List.mem_erase_of_ne (by intro e; subst e; exact h1 hx)).mpr (hs x (List.mem_cons_of_mem _ hx))
    rw [List.length_erase_of_mem ha] at this
    have hp : 0 < m.length := List.length_pos_of_mem ha
    simp
    omega
theorem Srt.nodup {ms : List Mv} (h : Srt ms) : ms.Nodup := by
  unfold Srt at h
  exact h.imp fun {a b} hb e => by
    subst e
    unfold Bef at hb
    omega
theorem goneM_all {time : Int} : ∀ {ms : List Mv}, (∀ m ∈ ms, m.t < time) → goneM time ms = ms.length
  | [], _ => rfl
  | x :: r, h => by
    unfold goneM
    rw [List.takeWhile_cons, if_pos (by simpa using h x List.mem_cons_self)]
    have := goneM_all (time := time) (ms := r) fun m hm => h m (List.mem_cons_of_mem _ hm)
    unfold goneM at this
    simp [this]
theorem mem_erase_of {l : List Mv} {x : Nat} {m y : Mv} (h : l[x]? = some m) (hy : y ∈ l) (n : y ≠ m) : y ∈ l.eraseIdx x := by
  rw [List.eraseIdx_eq_take_drop_succ]
  have e : l = l.take x ++ m :: l.drop (x + 1) := by
    obtain ⟨hi, e⟩ := List.getElem?_eq_some_iff.mp h
    rw [← e, ← List.drop_eq_getElem_cons hi, List.take_append_drop]
  rw [e] at hy
  rcases List.mem_append.mp hy with z | z
  · exact List.mem_append.mpr (.inl z)
  · rcases List.mem_cons.mp z with z | z
    · exact (n z).elim
    · exact List.mem_append.mpr (.inr z)
section
variable {n : Nat} {s : Int} {T : Tr} {c : Nat → Int} {ms wm : Nat → List Mv} {al : List Mv} {k : Nat} {i : Nat} {m : Mv}
theorem P14.len (h : P14 n s T c ms wm al k) (hi : i < n) : T.length + (ms i).length ≤ k := by
  have := le_of_subsetM (h.srt i hi).nodup (h.sub1 i hi)
  have := h.cnt
  omega
theorem P14.up (h : P14 n s T c ms wm al k) {k' : Nat} (e : k ≤ k') : P14 n s T c ms wm al k' :=
  ⟨h.sub1, h.sub2, h.all, fun m hm => ⟨(h.ok m hm).1, (h.ok m hm).2.1, by have := (h.ok m hm).2.2; omega⟩, h.key, h.own, h.srt, h.le, h.sc, fun j hj => ⟨(h.c0 j hj).1, by have := (h.c0 j hj).2; omega⟩, h.s0, h.ac, h.nd, by have := h.cnt; omega, fun j hj => by have := h.wl j hj; omega⟩
theorem P14.noclash (h : P14 n s T c ms wm al k) (hi : i < n) (hm : m ∈ wm i) : ¬ ClashM m (ms i) := fun ⟨x, hx, hk, hne⟩ => hne (h.key x (h.sub1 i hi x hx) m (h.sub2 i hi m hm) hk)
theorem P14.same (h : P14 n s T c ms wm al k) (h0 : ∀ j, j < n → wm j = []) {j : Nat} (hi : i < n) (hj : j < n) : ms i = ms j := by
  have q : ∀ a b, a < n → b < n → ∀ m ∈ ms a, m ∈ ms b := fun a b ha hb m hm => by
    rcases h.all m (h.sub1 a ha m hm) b hb with z | z
    · exact z
    · rw [h0 b hb] at z
      cases z
  exact srt_uniq (h.srt i hi) (h.srt j hj) fun m => ⟨q i j hi hj m, q j i hj hi m⟩
theorem P14.congr {c' : Nat → Int} {ms' wm' : Nat → List Mv} (h : P14 n s T c ms wm al k) (h1 : ∀ j, j < n → c' j = c j) (h2 : ∀ j, j < n → ms' j = ms j) (h3 : ∀ j, j < n → wm' j = wm j) : P14 n s T c' ms' wm' al k :=
  ⟨fun j hj => by rw [h2 j hj]; exact h.sub1 j hj, fun j hj => by rw [h3 j hj]; exact h.sub2 j hj, fun m hm j hj => by rw [h2 j hj, h3 j hj]; exact h.all m hm j hj, h.ok, h.key, fun m hm i hi e => by rw [h1 i hi]; exact h.own m hm i hi e, fun j hj => by rw [h2 j hj]; exact h.srt j hj, fun j hj => by rw [h2 j hj, h1 j hj]; exact h.le j hj, fun j hj => by rw [h1 j hj]; exact h.sc j hj, fun j hj => by rw [h1 j hj]; exact h.c0 j hj, h.s0, h.ac, h.nd, h.cnt, fun j hj => by rw [h3 j hj]; exact h.wl j hj⟩
/-- a move of its own -/
theorem P14.move (h : P14 n s T c ms wm al k) (hi : i < n) (hm : m.t = c i + 1 ∧ m.h = i) (ok : m.Ok) :
    NewM m (ms i) ∧ P14 n s T (fu c i m.t) (fu ms i (insM m (ms i))) (fun j => if j = i ∨ n ≤ j then wm j else wm j ++ [m]) (m :: al) (k + 1) := by
  have nk : ∀ x ∈ al, ¬ SameK x m := fun x hx hk => by
    have := h.own x hx i hi (by rw [hk.2]; exact hm.2)
    have := hk.1
    omega
  have nw : NewM m (ms i) := fun x hx => nk x (h.sub1 i hi x hx)
  obtain ⟨c0, c1⟩ := h.c0 i hi
  have cge : ∀ j, j < n → c j ≤ fu c i m.t j := fun j hj => by
    by_cases e : j = i
    · subst e; rw [fu_at]; omega
    · rw [fu_ne e]; omega
  refine ⟨nw, ⟨fun j hj x hx => ?_, fun j hj x hx => ?_, fun x hx j hj => ?_, fun x hx => ?_, fun x hx y hy hk => ?_, fun x hx j hj e => ?_, fun j hj => ?_, fun j hj x hx => ?_, fun j hj => ?_, fun j hj => ?_, h.s0, h.ac, h.nd, by have := h.cnt; simp; omega, fun j hj => ?_⟩⟩
  · by_cases e : j = i
    · subst e
      rw [fu_at] at hx
      rcases mem_insM.mp hx with z | z
      · rw [z]; exact List.mem_cons_self
      · exact List.mem_cons_of_mem _ (h.sub1 j hj x z)
    · rw [fu_ne e] at hx
      exact List.mem_cons_of_mem _ (h.sub1 j hj x hx)
  · have hx : x ∈ (if j = i ∨ n ≤ j then wm j else wm j ++ [m]) := hx
    split at hx
    · exact List.mem_cons_of_mem _ (h.sub2 j hj x hx)
    · rcases List.mem_append.mp hx with z | z
      · exact List.mem_cons_of_mem _ (h.sub2 j hj x z)
      · rw [List.mem_singleton.mp z]; exact List.mem_cons_self
  · show x ∈ fu ms i (insM m (ms i)) j ∨ x ∈ (if j = i ∨ n ≤ j then wm j else wm j ++ [m])
    by_cases e : j = i
    · subst e
      rw [fu_at, if_pos (.inl rfl)]
      rcases List.mem_cons.mp hx with z | z
      · exact .inl (mem_insM.mpr (.inl z))
      · rcases h.all x z j hj with z | z
        · exact .inl (mem_insM.mpr (.inr z))
        · exact .inr z
    · rw [fu_ne e, if_neg (by omega)]
      rcases List.mem_cons.mp hx with z | z
      · exact .inr (List.mem_append.mpr (.inr (List.mem_singleton.mpr z)))
      · exact (h.all x z j hj).imp id fun z => List.mem_append.mpr (.inl z)
  · rcases List.mem_cons.mp hx with z | z
    · rw [z]
      refine ⟨ok, ?_, ?_⟩
      · have := h.sc i hi
        omega
      · omega
    · obtain ⟨o1, o2, o3⟩ := h.ok x z
      exact ⟨o1, o2, by omega⟩
  · rcases List.mem_cons.mp hx with z | z <;> rcases List.mem_cons.mp hy with z2 | z2
    · rw [z, z2]
    · rw [z] at hk
      exact (nk y z2 ⟨hk.1.symm, hk.2.symm⟩).elim
    · rw [z2] at hk
      exact (nk x z hk).elim
    · exact h.key x z y z2 hk
  · rcases List.mem_cons.mp hx with z | z
    · rw [z] at e ⊢
      have : j = i := by have := hm.2; omega
      subst this
      rw [fu_at]
      omega
    · have := h.own x z j hj e
      have := cge j hj
      omega
  · by_cases e : j = i
    · subst e
      rw [fu_at]
      exact (h.srt j hj).ins nw
    · rw [fu_ne e]
      exact h.srt j hj
  · by_cases e : j = i
    · subst e
      rw [fu_at] at hx ⊢
      rcases mem_insM.mp hx with z | z
      · rw [z]; omega
      · have := h.le j hj x z
        omega
    · rw [fu_ne e] at hx ⊢
      exact h.le j hj x hx
  · have := h.sc j hj
    have := cge j hj
    omega
  · obtain ⟨d0, d1⟩ := h.c0 j hj
    have := cge j hj
    refine ⟨by omega, ?_⟩
    by_cases e : j = i
    · subst e; rw [fu_at]; omega
    · rw [fu_ne e]; omega
  · show (if j = i ∨ n ≤ j then wm j else wm j ++ [m]).length ≤ k + 1
    have := h.wl j hj
    split
    · omega
    · simp; omega
/-- a move is carried -/
theorem P14.carry (h : P14 n s T c ms wm al k) (hi : i < n) {x : Nat} (hx : (wm i)[x]? = some m) :
    P14 n s T (fu c i (max (c i) m.t)) (fu ms i (if m ∈ ms i then ms i else insM m (ms i))) (fu wm i ((wm i).eraseIdx x)) al k := by
  have hmw := List.mem_of_getElem? hx
  have hma := h.sub2 i hi m hmw
  obtain ⟨o1, o2, o3⟩ := h.ok m hma
  have cge : ∀ j, j < n → c j ≤ fu c i (max (c i) m.t) j := fun j hj => by
    by_cases e : j = i
    · subst e; rw [fu_at]; omega
    · rw [fu_ne e]; omega
  have mem : ∀ y, y ∈ (if m ∈ ms i then ms i else insM m (ms i)) ↔ y = m ∨ y ∈ ms i := fun y => by
    split
    · rename_i z
      constructor
      · exact .inr
      · rintro (e | e)
        · rw [e]; exact z
        · exact e
    · exact mem_insM
  refine ⟨fun j hj y hy => ?_, fun j hj y hy => ?_, fun y hy j hj => ?_, h.ok, h.key, fun y hy j hj e => ?_, fun j hj => ?_, fun j hj y hy => ?_, fun j hj => ?_, fun j hj => ?_, h.s0, h.ac, h.nd, h.cnt, fun j hj => ?_⟩
  · by_cases e : j = i
    · subst e
      rw [fu_at] at hy
      rcases (mem y).mp hy with z | z
      · rw [z]; exact hma
      · exact h.sub1 j hj y z
    · rw [fu_ne e] at hy
      exact h.sub1 j hj y hy
  · by_cases e : j = i
    · subst e
      rw [fu_at] at hy
      exact h.sub2 j hj y (List.mem_of_mem_eraseIdx hy)
    · rw [fu_ne e] at hy
      exact h.sub2 j hj y hy
  · by_cases e : j = i
    · subst e
      rw [fu_at, fu_at]
      by_cases e2 : y = m
      · exact .inl ((mem y).mpr (.inl e2))
      · rcases h.all y hy j hj with z | z
        · exact .inl ((mem y).mpr (.inr z))
        · exact .inr (mem_erase_of hx z e2)
    · rw [fu_ne e, fu_ne e]
      exact h.all y hy j hj
  · have := h.own y hy j hj e
    have := cge j hj
    omega
  · by_cases e : j = i
    · subst e
      rw [fu_at]
      split
      · exact h.srt j hj
      · rename_i z
        rcases new_or_mem (h.noclash hj hmw) with w | w
        · exact (z w).elim
        · exact (h.srt j hj).ins w
    · rw [fu_ne e]
      exact h.srt j hj
  · by_cases e : j = i
    · subst e
      rw [fu_at] at hy ⊢
      rcases (mem y).mp hy with z | z
      · rw [z]; omega
      · have := h.le j hj y z
        omega
    · rw [fu_ne e] at hy ⊢
      exact h.le j hj y hy
  · have := h.sc j hj
    have := cge j hj
    omega
  · obtain ⟨d0, d1⟩ := h.c0 j hj
    have := cge j hj
    refine ⟨by omega, ?_⟩
    by_cases e : j = i
    · subst e; rw [fu_at]; omega
    · rw [fu_ne e]; omega
  · have := h.wl j hj
    by_cases e : j = i
    · subst e
      rw [fu_at]
      have := List.length_eraseIdx_le (wm j) x
      omega
    · rw [fu_ne e]
      omega
/-- a move is doubled -/
theorem P14.double (h : P14 n s T c ms wm al k) (hi : i < n) (hm : m ∈ wm i) : P14 n s T c ms (fu wm i (wm i ++ [m])) al (k + 1) := by
  have h := h
  have hu := h.up (k' := k + 1) (by omega)
  refine ⟨h.sub1, fun j hj y hy => ?_, fun y hy j hj => ?_, hu.ok, h.key, h.own, h.srt, h.le, h.sc, hu.c0, h.s0, h.ac, h.nd, hu.cnt, fun j hj => ?_⟩
  · by_cases e : j = i
    · subst e
      rw [fu_at] at hy
      rcases List.mem_append.mp hy with z | z
      · exact h.sub2 j hj y z
      · rw [List.mem_singleton.mp z]
        exact h.sub2 j hj m hm
    · rw [fu_ne e] at hy
      exact h.sub2 j hj y hy
  · by_cases e : j = i
    · subst e
      rw [fu_at]
      exact (h.all y hy j hj).imp id fun z => List.mem_append.mpr (.inl z)
    · rw [fu_ne e]
      exact h.all y hy j hj
  · have := h.wl j hj
    by_cases e : j = i
    · subst e
      rw [fu_at]
      simp
      omega
    · rw [fu_ne e]
      omega
/-- all settle -/
theorem P14.settle (h : P14 n s T c ms wm al k) (hn : 0 < n) (h0 : ∀ j, j < n → wm j = []) {mx : Int} (h1 : ∃ j, j < n ∧ c j = mx) : P14 n (1 + mx) (foldT T (ms 0)) (fun _ => mx) (fun _ => []) wm [] k := by
  obtain ⟨j0, hj0, e0⟩ := h1
  obtain ⟨d0, d1⟩ := h.c0 j0 hj0
  refine ⟨fun j hj m hm => (nomatch hm), fun j hj m hm => ?_, fun m hm => (nomatch hm), fun m hm => (nomatch hm), fun m hm => (nomatch hm), fun m hm => (nomatch hm), fun j hj => Srt.nil, fun j hj m hm => (nomatch hm), fun j hj => by omega, fun j hj => ⟨by omega, by omega⟩, by omega, h.ac.foldT _, h.nd.foldT _, ?_, h.wl⟩
  · rw [h0 j hj] at hm
    cases hm
  · have z := h.len hn
    have := foldT_length T (ms 0)
    simp
    omega
end
/-! k14: all that stands -/
structure G14 where
  τ : Tg
  R : Rm
  L : Ls
  s : Int
  T : Tr
  al : List Mv
def exS (L : Ls) : List Addr := [L.LS, L.HS, L.BS, L.CS, L.hl]
def exL (n : Nat) (R : Rm) (L : Ls) : List Addr := exR n R ++ exS L
structure I14 (K : PySem.W.Frag) (CR CH CL : Addr) (Fr : Hp → Prop) (H : Hp) (n : Nat) (rm st : Addr) (G : G14) (k : Nat) : Prop where
  R_ : RoomAt CR CH CL G.τ H n rm G.R
  L_ : LawAt G.τ H n st G.L G.R.wm (fun j => (G.R.g j).ms) (fun _ => G.T) G.R.c
  P : P14 n G.s G.T G.R.c (fun j => (G.R.g j).ms) G.R.wm G.al k
  gs : ∀ j, j < n → (G.R.g j).s = G.s ∧ (G.R.g j).t = G.T
  hd : ∀ H2, Kx (exL n G.R G.L) H H2 → (∀ a ∈ G.L.hs, PairAt K H2 a) ∧ Fr H2
  un : ∀ b, H b = none → G.τ b = (9, 0)
  n1 : 1 ≤ n ∧ n ≤ 60
section
variable {K : PySem.W.Frag} {CR CH CL : Addr} {Fr : Hp → Prop} {H H' : Hp} {n : Nat} {rm st : Addr} {G G' : G14} {k : Nat}
theorem RoomAt.sameP {τ : Tg} {R : Rm} (h : RoomAt CR CH CL τ H n rm R) {q : Addr} {xs : List V} (s : SameP q H H') (hq : H q = some (.lst xs)) (t : 5 ≤ (τ q).1) : RoomAt CR CH CL τ H' n rm R := h.mono fun b u e hs => s b u (fun z => by
  subst z
  rcases hs with hs | ⟨vs, hs⟩
  · have := h.supp_lst hq hs
    omega
  · rw [hs, hq] at e
    cases e) e
theorem LawAt.heldP {τ : Tg} {L : Ls} {wm ms : Nat → List Mv} {tb : Nat → Tr} {c : Nat → Int} (h : LawAt τ H n st L wm ms tb c) {a : Addr} (s : SameP L.hl H H') (e : H' L.hl = some (.lst ((L.hs ++ [a]).map V.ref))) : LawAt τ H' n st { L with hs := L.hs ++ [a] } wm ms tb c :=
  have kt : ∀ b u, H b = some u → τ b ≠ (5, 4) → H' b = some u := fun b u eb w => s b u (fun z => w (by rw [z, h.th])) eb
  have kl : ∀ b u, H b = some u → (∀ xs, u ≠ .lst xs) → H' b = some u := fun b u eb w => s b u (fun z => by rw [z, h.eh] at eb; exact w _ (Option.some.inj eb).symm) eb
  ⟨kl _ _ h.es fun _ z => (by cases z), kt _ _ h.eL (by rw [h.tL]; simp), kt _ _ h.eH (by rw [h.tH]; simp), kt _ _ h.eB (by rw [h.tB]; simp), kt _ _ h.eC (by rw [h.tC]; simp), e, fun j hj => kt _ _ (h.e1 j hj) (by rw [h.t1 j hj]; simp), fun j hj => (h.m1 j hj).of fun b vs e => kl _ _ e fun _ z => (by cases z), fun j hj => kt _ _ (h.e2 j hj) (by rw [h.t2 j hj]; simp), fun j hj => (h.m2 j hj).of fun b vs e => kl _ _ e fun _ z => (by cases z), fun j hj => kl _ _ (h.e3 j hj) fun _ z => (by cases z), h.tL, h.tH, h.tB, h.tC, h.th, h.t1, h.t2⟩
theorem mem_exS {L : Ls} {b : Addr} : b ∈ exS L ↔ b = L.LS ∨ b = L.HS ∨ b = L.BS ∨ b = L.CS ∨ b = L.hl := by
  unfold exS
  simp
theorem LawAt.in_ex {τ : Tg} {L : Ls} {wm ms : Nat → List Mv} {tb : Nat → Tr} {c : Nat → Int} (h : LawAt τ H n st L wm ms tb c) {b : Addr} (e : b ∈ exS L) : (τ b).1 = 5 ∧ ∃ xs, H b = some (.lst xs) := by
  rcases mem_exS.mp e with z | z | z | z | z <;> subst z
  · exact ⟨by rw [h.tL], _, h.eL⟩
  · exact ⟨by rw [h.tH], _, h.eH⟩
  · exact ⟨by rw [h.tB], _, h.eB⟩
  · exact ⟨by rw [h.tC], _, h.eC⟩
  · exact ⟨by rw [h.th], _, h.eh⟩
theorem I14.in_ex (I : I14 K CR CH CL Fr H n rm st G k) {b : Addr} (e : b ∈ exL n G.R G.L) : (G.τ b).1 ≤ 5 ∧ ∃ o, H b = some o ∧ (∀ vs, o ≠ .tup vs) ∧ ∀ kv, o ≠ .dK kv := by
  rcases List.mem_append.mp e with e | e
  · obtain ⟨h1, h2⟩ := I.R_.in_ex e
    exact ⟨by omega, h2⟩
  · obtain ⟨h1, xs, h2⟩ := I.L_.in_ex e
    exact ⟨by omega, _, h2, fun _ z => (by cases z), fun _ z => (by cases z)⟩
/-- what is none of the changed -/
theorem I14.nin (I : I14 K CR CH CL Fr H n rm st G k) {b : Addr} (e : G.τ b = (9, 0)) : b ∉ exL n G.R G.L := fun z => by
  have := (I.in_ex z).1
  rw [e] at this
  simp at this
theorem I14.fresh (I : I14 K CR CH CL Fr H n rm st G k) {b : Addr} (e : H b = none) : b ∉ exL n G.R G.L := fun z => by
  obtain ⟨_, o, h, _⟩ := I.in_ex z
  rw [e] at h
  cases h
theorem I14.tup (I : I14 K CR CH CL Fr H n rm st G k) {b : Addr} {vs : List V} (e : H b = some (.tup vs)) : b ∉ exL n G.R G.L := fun z => by
  obtain ⟨_, o, h, h1, _⟩ := I.in_ex z
  rw [e] at h
  exact h1 _ (Option.some.inj h).symm
theorem I14.dict (I : I14 K CR CH CL Fr H n rm st G k) {b : Addr} {vs : List (Key × V)} (e : H b = some (.dK vs)) : b ∉ exL n G.R G.L := fun z => by
  obtain ⟨_, o, h, _, h1⟩ := I.in_ex z
  rw [e] at h
  exact h1 _ (Option.some.inj h).symm
theorem I14.same (I : I14 K CR CH CL Fr H n rm st G k) (s : Same H H') : I14 K CR CH CL Fr H' n rm st G k :=
  ⟨I.R_.same s, I.L_.same s, I.P, I.gs, fun H2 k2 => I.hd H2 ((Kx.of s).trans k2), fun b e => I.un b (s.free e), I.n1⟩
theorem I14.up (I : I14 K CR CH CL Fr H n rm st G k) {k' : Nat} (e : k ≤ k') : I14 K CR CH CL Fr H n rm st G k' :=
  ⟨I.R_, I.L_, I.P.up e, I.gs, I.hd, I.un, I.n1⟩
/-- what else stays -/
theorem I14.frame (I : I14 K CR CH CL Fr H n rm st G k) {Fr' : Hp → Prop} (h : ∀ H2, Kx (exL n G.R G.L) H H2 → Fr H2 → Fr' H2) : I14 K CR CH CL Fr' H n rm st G k :=
  ⟨I.R_, I.L_, I.P, I.gs, fun H2 k2 => ⟨(I.hd H2 k2).1, h H2 k2 (I.hd H2 k2).2⟩, I.un, I.n1⟩
/-- a pair more is held -/
theorem I14.held (I : I14 K CR CH CL Fr H n rm st G k) {a : Addr} (s : SameP G.L.hl H H') (e : H' G.L.hl = some (.lst ((G.L.hs ++ [a]).map V.ref))) (q : ∀ H2, Kx (exL n G.R G.L) H' H2 → PairAt K H2 a) :
    I14 K CR CH CL Fr H' n rm st { G with L := { G.L with hs := G.L.hs ++ [a] } } k := by
  have hin : G.L.hl ∈ exL n G.R G.L := List.mem_append.mpr (.inr (mem_exS.mpr (.inr (.inr (.inr (.inr rfl))))))
  refine ⟨I.R_.sameP s I.L_.eh (by rw [I.L_.th]; decide), I.L_.heldP s e, I.P, I.gs, fun H2 k2 => ?_, fun b eb => ?_, I.n1⟩
  · obtain ⟨h1, h2⟩ := I.hd H2 ((Kx.ofP hin s).trans k2)
    refine ⟨fun b hb => ?_, h2⟩
    rcases List.mem_append.mp hb with z | z
    · exact h1 b z
    · rw [List.mem_singleton.mp z]
      exact q H2 k2
  · refine I.un b ?_
    cases z : H b with
    | none => rfl
    | some o =>
      by_cases n1 : b = G.L.hl
      · rw [n1, e] at eb
        cases eb
      · rw [s _ _ n1 z] at eb
        cases eb
/-- all is changed, but what is held -/
theorem I14.next (I : I14 K CR CH CL Fr H n rm st G k) {k' : Nat} (R_ : RoomAt CR CH CL G'.τ H' n rm G'.R) (L_ : LawAt G'.τ H' n st G'.L G'.R.wm (fun j => (G'.R.g j).ms) (fun _ => G'.T) G'.R.c) (P : P14 n G'.s G'.T G'.R.c (fun j => (G'.R.g j).ms) G'.R.wm G'.al k') (gs : ∀ j, j < n → (G'.R.g j).s = G'.s ∧ (G'.R.g j).t = G'.T)
    (kx : Kx (exL n G.R G.L) H H') (ex : ∀ b ∈ exL n G'.R G'.L, b ∈ exL n G.R G.L ∨ H b = none) (hs : G'.L.hs = G.L.hs) (un : ∀ b, H' b = none → G'.τ b = (9, 0)) : I14 K CR CH CL Fr H' n rm st G' k' := by
  refine ⟨R_, L_, P, gs, fun H2 k2 => ?_, un, I.n1⟩
  obtain ⟨h1, h2⟩ := I.hd H2 fun b o nb e => k2 b o (fun hb => by
    rcases ex b hb with z | z
    · exact nb z
    · rw [z] at e
      cases e) (kx b o nb e)
  exact ⟨fun a ha => h1 a (hs ▸ ha), h2⟩
theorem exR_moved {R : Rm} {i t : Nat} {a : Addr} {m : Mv} : exR n (R.moved i a m t) = exR n R := by
  have e : (fun j => (fu R.g i ((R.g i).heard a m) j).l) = fun j => (R.g j).l := by
    funext j
    unfold fu
    split
    · rename_i z; rw [z]; rfl
    · rfl
  show (rg n R.p ++ rg n R.lg) ++ (rg n (fun j => (fu R.g i ((R.g i).heard a m) j).l) ++ rg n R.ln) = _
  rw [e]
  rfl
theorem exR_carried {R : Rm} {i x : Nat} {a : Addr} {m : Mv} : exR n (R.carried i x a m) = exR n R := by
  have e : (fun j => (fu R.g i (if m ∈ (R.g i).ms then R.g i else (R.g i).heard a m) j).l) = fun j => (R.g j).l := by
    funext j
    unfold fu
    split
    · rename_i z
      split <;> rw [z] <;> rfl
    · rfl
  show (rg n R.p ++ rg n R.lg) ++ (rg n (fun j => (fu R.g i (if m ∈ (R.g i).ms then R.g i else (R.g i).heard a m) j).l) ++ rg n R.ln) = _
  rw [e]
  rfl
/-- what is not in the heap later was not in it ahead -/
theorem un_of {τ : Tg} {R R' : Rm} {L L' : Ls} {wm ms : Nat → List Mv} {tb : Nat → Tr} {c : Nat → Int} (r : RoomAt CR CH CL τ H' n rm R') (l : LawAt τ H' n st L' wm ms tb c) (e1 : exR n R' = exR n R) (e2 : exS L' = exS L) (kx : Kx (exL n R L) H H') (un : ∀ b, H b = none → τ b = (9, 0)) : ∀ b, H' b = none → τ b = (9, 0) := fun b eb => un b (by
  cases z : H b with
  | none => rfl
  | some o =>
    by_cases m : b ∈ exL n R L
    · rcases List.mem_append.mp m with m | m
      · obtain ⟨_, o, h, _⟩ := r.in_ex (e1 ▸ m)
        rw [eb] at h
        cases h
      · obtain ⟨_, xs, h⟩ := l.in_ex (e2 ▸ m)
        rw [eb] at h
        cases h
    · rw [kx b o m z] at eb
      cases eb)
end
end Tm
namespace Tm
open PySem PySem.Spec PyProof.Rows L2
/-! k14: what the law's own defs do -/
def hearM (m : Mv) (ms : List Mv) : List Mv := if m ∈ ms then ms else insM m ms
def spHear14 : Sp := fun vs H Q _ => ∃ (τ : Tg) (n : Nat) (st : Addr) (L : Ls) (wm ms : Nat → List Mv) (tb : Nat → Tr) (c : Nat → Int) (i : Nat) (a : Addr) (m : Mv), vs = [.ref st, .int i, .ref a] ∧ LawAt τ H n st L wm ms tb c ∧ i < n ∧ n ≤ 1000 ∧ H a = some (.tup m.vs) ∧ (ms i).length ≤ 100000 ∧ (∀ b, H b = none → τ b = (9, 0)) ∧
  ∀ H' hh ha, LawAt τ H' n st { L with hh := hh, ha := ha } wm (fu ms i (hearM m (ms i))) tb (fu c i (max (c i) m.t)) → Kx (exS L) H H' → Q (.bl true) H'
def spMoved14 (K : PySem.W.Frag) (CR CH CL : Addr) : Sp := fun vs H Q _ => ∃ (Fr : Hp → Prop) (n : Nat) (rm st : Addr) (G : G14) (k i : Nat) (deed cell : Int), vs = [.ref rm, .ref st, .int i, .int deed, .int cell] ∧ I14 K CR CH CL Fr H n rm st G k ∧ i < n ∧ k ≤ 900 ∧ 0 ≤ deed ∧
  ∀ H' G', I14 K CR CH CL Fr H' n rm st G' (k + 1) → G'.L.hs = G.L.hs → Q (.bl true) H'
def spCarried14 (K : PySem.W.Frag) (CR CH CL : Addr) : Sp := fun vs H Q _ => ∃ (Fr : Hp → Prop) (n : Nat) (rm st : Addr) (G : G14) (k i : Nat) (place : Int) (twice : Bool), vs = [.ref rm, .ref st, .int i, .int place, .bl twice] ∧ I14 K CR CH CL Fr H n rm st G k ∧ i < n ∧ k ≤ 900 ∧
  ∀ H' G', I14 K CR CH CL Fr H' n rm st G' (if twice = true then k + 1 else k) → G'.L.hs = G.L.hs → (twice = false → (∀ j, j ≠ i → G'.R.wm j = G.R.wm j) ∧ (G.R.wm i ≠ [] → (G'.R.wm i).length < (G.R.wm i).length)) → Q (.bl true) H'
def spEmptied14 (K : PySem.W.Frag) (CR CH CL : Addr) : Sp := fun vs H Q _ => ∃ (Fr : Hp → Prop) (n : Nat) (rm st : Addr) (G : G14) (k : Nat) (place : Int), vs = [.ref rm, .ref st, .int place] ∧ I14 K CR CH CL Fr H n rm st G k ∧ k ≤ 900 ∧
  ∀ H' G', I14 K CR CH CL Fr H' n rm st G' k → G'.L.hs = G.L.hs → (∀ j, j < n → G'.R.wm j = []) → Q (.bl true) H'
def spSettled14 (K : PySem.W.Frag) (CR CH CL : Addr) : Sp := fun vs H Q _ => ∃ (Fr : Hp → Prop) (n : Nat) (rm st : Addr) (G : G14) (k : Nat), vs = [.ref rm, .ref st] ∧ I14 K CR CH CL Fr H n rm st G k ∧ k ≤ 900 ∧
  ∀ H' G', I14 K CR CH CL Fr H' n rm st G' k → G'.L.hs = G.L.hs → ((∀ j, j < n → G.R.wm j = []) → (∀ j, j < n → G'.R.wm j = []) ∧ G'.T = foldT G.T (G.R.g 0).ms ∧ ∀ j, j < n → (G'.R.g j).ms = []) → Q (.bl true) H'
def spAsTold14 (K : PySem.W.Frag) (CR CH CL : Addr) : Sp := fun vs H Q _ => ∃ (Fr : Hp → Prop) (n : Nat) (rm st : Addr) (G : G14) (k i : Nat), vs = [.ref rm, .ref st, .int i] ∧ I14 K CR CH CL Fr H n rm st G k ∧ i < n ∧ k ≤ 1000 ∧ G.L.hs.length ≤ 9000 ∧
  ∀ H' hs', SameP G.L.hl H H' → hs'.length = G.L.hs.length + 3 → I14 K CR CH CL Fr H' n rm st { G with L := { G.L with hs := hs' } } k → Q (.bl true) H'
def spAllHave14 (K : PySem.W.Frag) (CR CH CL : Addr) : Sp := fun vs H Q _ => ∃ (Fr : Hp → Prop) (n : Nat) (rm st d : Addr) (G : G14) (k : Nat) (D : Tr), vs = [.ref rm, .ref st, .ref d] ∧ I14 K CR CH CL Fr H n rm st G k ∧ k ≤ 1000 ∧ G.L.hs.length ≤ 8000 ∧ H d = some (.dK (enc D)) ∧ (∀ j, j < n → foldT G.T (G.R.g j).ms = D) ∧
  ∀ H' hs', SameP G.L.hl H H' → hs'.length = G.L.hs.length + 3 * n → I14 K CR CH CL Fr H' n rm st { G with L := { G.L with hs := hs' } } k → Q (.bl true) H'
def spNoMove14 (CR CH CL : Addr) : Sp := fun vs H Q _ => ∃ (τ : Tg) (n : Nat) (rm : Addr) (R : Rm) (i : Nat) (cell : Int), vs = [.ref rm, .int i, .int cell] ∧ RoomAt CR CH CL τ H n rm R ∧ n ≤ 1000 ∧ i < n ∧ Srt (R.g i).ms ∧ (R.g i).as.length ≤ 100000 ∧ 0 ≤ R.c i ∧ (R.g i).s ≤ R.c i + 1 ∧ (∀ m ∈ (R.g i).ms, m.t ≤ R.c i) ∧ (∀ j, j < n → (R.wa j).length ≤ 100000) ∧ ∀ H', Same H H' → Q (.bl true) H'
def spNoRoom14 : Sp := fun vs H Q _ => ∃ cell : Int, vs = [.int cell] ∧ ∀ H', Same H H' → Q (.bl true) H'
def spNoHand14 (CR CH CL : Addr) : Sp := fun vs H Q _ => ∃ (τ : Tg) (n : Nat) (rm : Addr) (R : Rm) (cell : Int), vs = [.ref rm, .int n, .int cell] ∧ RoomAt CR CH CL τ H n rm R ∧ 1 ≤ n ∧ n ≤ 60 ∧ ∀ H', Same H H' → Q (.bl true) H'
def spDone14 (K : PySem.W.Frag) (CR CH CL : Addr) : Sp := fun vs H Q _ => ∃ (Fr : Hp → Prop) (n : Nat) (rm st : Addr) (G : G14) (k i : Nat) (deed cell : Int), vs = [.ref rm, .ref st, .int i, .int deed, .int cell] ∧ I14 K CR CH CL Fr H n rm st G k ∧ i < n ∧ k ≤ 900 ∧ 0 ≤ deed ∧
  ∀ H' G', I14 K CR CH CL Fr H' n rm st G' (k + 1) → G'.L.hs = G.L.hs → Q (.bl true) H'
section
variable {τ : Tg} {H H' : Hp} {n : Nat} {rm st : Addr} {L : Ls} {wm ms : Nat → List Mv} {tb : Nat → Tr} {c : Nat → Int} {CR CH CL : Addr} {R : Rm} {i : Nat} {Q : VK} {E : XK}
/-- what the law changes of its own is none of the room -/
theorem RoomAt.kxS (h : RoomAt CR CH CL τ H n rm R) (l : LawAt τ H n st L wm ms tb c) (k : Kx (exS L) H H') : RoomAt CR CH CL τ H' n rm R := h.mono fun b u e hs => k b u (fun z => by
  obtain ⟨t5, xs, ex⟩ := l.in_ex z
  rcases hs with hs | ⟨vs, hs⟩
  · have := h.supp_lst ex hs
    omega
  · rw [hs, ex] at e
    cases e) e
theorem hear_new {m : Mv} {ms : List Mv} (h : NewM m ms) : hearM m ms = insM m ms := if_neg (new_not_mem h)
/-- a list's item is set, by number -/
theorem r_setN {p : Addr} {f : Nat → V} {v : V} {Q : Hp → Prop} (hs : H p = some (.lst (rg n f))) (hi : i < n) (h : Q (upd H p (.lst ((rg n f).set i v)))) : rSetL (.ref p) (.int (i : Int)) v H Q :=
  r_setL hs ⟨by omega, by rw [rg_length]; omega⟩ (by rw [Int.toNat_natCast]; exact h)
theorem c_hear14 {a : Addr} {m : Mv} (l : LawAt τ H n st L wm ms tb c) (hi : i < n) (hn : n ≤ 1000) (ha : H a = some (.tup m.vs)) (hl : (ms i).length ≤ 100000) (un : ∀ b, H b = none → τ b = (9, 0))
    (q : ∀ H' hh ha, LawAt τ H' n st { L with hh := hh, ha := ha } wm (fu ms i (hearM m (ms i))) tb (fu c i (max (c i) m.t)) → Kx (exS L) H H' → Q (.bl true) H') : spHear14 [.ref st, .int (i : Int), .ref a] H Q E := ⟨τ, n, st, L, wm, ms, tb, c, i, a, m, rfl, l, hi, hn, ha, hl, un, q⟩
end
/-- x == [], by the lengths -/
theorem r_eqXnil {K : PySem.W.Frag} {H : Hp} {Q : VK} {x e : Addr} {xs : List V} (hx : H x = some (.lst xs)) (he : H e = some (.lst [])) (q : Q (.bl (decide (xs = []))) H) : rEqX K (.ref x) (.ref e) H Q := by
  cases xs with
  | nil => exact .inr ⟨.inl ⟨x, e, [], [], rfl, rfl, SqL.of hx, SqL.of he, .nil⟩, q⟩
  | cons y r => exact .inl ⟨x, e, y :: r, [], rfl, rfl, SqL.of hx, SqL.of he, by simp, q⟩
theorem r_eqXdict {K : PySem.W.Frag} {H : Hp} {Q : VK} {x e : Addr} (hx : H x = some (.dK [])) (he : H e = some (.dK [])) (q : Q (.bl true) H) : rEqX K (.ref x) (.ref e) H Q := .inr ⟨.inr ⟨x, e, [], [], rfl, rfl, hx, he, rfl, fun p hp => nomatch hp⟩, q⟩
theorem step_lt {α : Type} {t : Nat} (A B : Nat → α) : (fun j => if j < t + 1 then A j else B j) = fu (fun j => if j < t then A j else B j) t (A t) := by
  funext j
  by_cases e : j = t
  · subst e
    rw [fu_at, if_pos (by omega)]
  · rw [fu_ne e]
    by_cases e2 : j < t
    · rw [if_pos e2, if_pos (by omega)]
    · rw [if_neg e2, if_neg (by omega)]
/-- the greatest of the clocks, some of them told already -/
theorem max_mix {n t : Nat} {c : Nat → Int} {mx m : Int} (h1 : ∃ j, j < n ∧ c j = mx) (h2 : ∀ j, j < n → c j ≤ mx) (hm : m ∈ rg n (fun j => if j < t then mx else c j)) (hl : ∀ y, y ∈ rg n (fun j => if j < t then mx else c j) → y ≤ m) : m = mx := by
  obtain ⟨j0, hj0, e0⟩ := h1
  have z : mx ≤ m := hl mx (rg_mem.mpr ⟨j0, hj0, by split; rfl; exact e0⟩)
  obtain ⟨j, hj, e⟩ := rg_mem.mp hm
  have : m ≤ mx := by
    rw [← e]
    split
    · exact Int.le_refl _
    · exact h2 j hj
  omega
/-- all of a hand's moves are let go -/
theorem SetJ.gone {H : Hp} {R : Rm} {c' : Nat → Int} {g' : Nat → Lg} {mx s : Int} {j : Nat} {T : Tr} (h : SetJ H R c' g' (1 + mx) j) (hc : R.c j ≤ mx) (hs : s ≤ R.c j + 1) (e : (R.g j).s = s ∧ (R.g j).t = T) (hm : ∀ m ∈ (R.g j).ms, m.t ≤ R.c j) : c' j = mx ∧ (g' j).ms = [] ∧ (g' j).t = foldT T (R.g j).ms ∧ (g' j).s = 1 + mx := by
  have z : goneM (1 + mx) (R.g j).ms = (R.g j).ms.length := goneM_all fun m hm' => by have := hm m hm'; omega
  refine ⟨by rw [h.c]; omega, by rw [h.ms, z, List.drop_length], by rw [h.t, z, List.take_length, e.2], by rw [h.s, e.1]; omega⟩
theorem eight {i : Int} (h0 : 0 ≤ i) (h : i < 8) : i = 0 ∨ i = 1 ∨ i = 2 ∨ i = 3 ∨ i = 4 ∨ i = 5 ∨ i = 6 ∨ i = 7 := by omega
theorem no_rooms (z : Addr) {i : Int} (h0 : 0 ≤ i) (h : i < 8) : ∃ v, atI [V.int 0, .int 61, .int (-1), .bl true, .non, .str "3", .ref z, .bl false] i = some v ∧ (∀ j : Nat, 1 ≤ j → j ≤ 60 → v ≠ .int j) ∧ ∀ (H : Hp) (xs : List V), H z = some (.lst xs) → KnownV H v := by
  rcases eight h0 h with e | e | e | e | e | e | e | e <;> subst e <;> refine ⟨_, rfl, fun j h1 h2 e => ?_, fun H xs hz => ?_⟩ <;> first | trivial | exact .inl ⟨_, hz⟩ | (cases e; done) | (injection e with w; omega)
theorem no_numbers (z : Addr) {n : Nat} (hn : n ≤ 60) {i : Int} (h0 : 0 ≤ i) (h : i < 8) : ∃ v, atI [V.int n, .int (-1), .bl true, .non, .int 1000000000000000000000000000000000000000000000000000000000000, .str "0", .ref z, .bl false] i = some v ∧ BadNo n v ∧ ∀ (H : Hp) (xs : List V), H z = some (.lst xs) → KnownV H v := by
  rcases eight h0 h with e | e | e | e | e | e | e | e <;> subst e <;> refine ⟨_, rfl, fun j h1 e => ?_, fun H xs hz => ?_⟩ <;> first | trivial | exact .inl ⟨_, hz⟩ | (cases e; done) | (injection e with w; omega)
end Tm
namespace Tm
open PySem PySem.Spec PyProof.Rows L2
/-! k14: how all begins -/
structure Mk0 (o : HO) (H H' : Hp) (D : Addr) (i : Nat) (f : Nat → Addr) : Prop where
  s : Same H H'
  eD : H' D = some (.lst (rg i fun j => V.ref (f j)))
  nD : H D = none
  e : ∀ j, j < i → H' (f j) = some o
  nw : ∀ j, j < i → H (f j) = none
  ne : ∀ j, j < i → f j ≠ D
theorem Mk0.zero {o : HO} {H : Hp} {D : Addr} {f : Nat → Addr} (hD : H D = none) : Mk0 o H (upd H D (.lst [])) D 0 f :=
  ⟨Same.new (Same.refl _) hD, upd_same, hD, fun j hj => absurd hj (by omega), fun j hj => absurd hj (by omega), fun j hj => absurd hj (by omega)⟩
theorem Mk0.add {o : HO} {H H' : Hp} {D x : Addr} {i : Nat} {f : Nat → Addr} (h : Mk0 o H H' D i f) (fx : H' x = none) : (upd H' x o) D = some (.lst (rg i fun j => V.ref (f j))) ∧ Mk0 o H (upd (upd H' x o) D (.lst ((rg i fun j => V.ref (f j)) ++ [.ref x]))) D (i + 1) (fu f i x) := by
  have hx := h.s.free fx
  have nDx : D ≠ x := ne_of_none h.eD fx
  refine ⟨keep h.eD fx, ⟨Same.mut (Same.new h.s fx) h.nD, ?_, h.nD, fun j hj => ?_, fun j hj => ?_, fun j hj => ?_⟩⟩
  · rw [upd_same, rg_succ, fu_at]
    congr 2
    congr 1
    exact rg_congr fun j hj => by rw [fu_ne (by omega)]
  · by_cases e : j = i
    · subst e
      rw [fu_at]
      exact keep_ne upd_same nDx.symm
    · rw [fu_ne e]
      exact keep_ne (keep (h.e j (by omega)) fx) (h.ne j (by omega))
  · by_cases e : j = i
    · subst e
      rw [fu_at]
      exact hx
    · rw [fu_ne e]
      exact h.nw j (by omega)
  · by_cases e : j = i
    · subst e
      rw [fu_at]
      exact nDx.symm
    · rw [fu_ne e]
      exact h.ne j (by omega)
section
variable {K : PySem.W.Frag} {CR CH CL : Addr} {Fr : Hp → Prop} {τ τ' τ2 : Tg} {H H' : Hp} {n : Nat} {rm st bs : Addr} {R B : Rm} {L : Ls}
theorem RoomAt.retag (h : RoomAt CR CH CL τ H n rm R) (ht : ∀ b o, H b = some o → τ' b = τ b) : RoomAt CR CH CL τ' H n rm R :=
  ⟨h.hr, h.hh, h.hl, h.hd, h.hw, h.hm, (ht _ _ h.hr).trans h.tr, (ht _ _ h.hh).trans h.tH, (ht _ _ h.hl).trans h.tL, fun j hj => (ht _ _ (h.hd j hj).hp).trans (h.tp j hj), fun j hj => (ht _ _ (h.hd j hj).L.hp).trans (h.tg j hj), fun j hj => (ht _ _ (h.hd j hj).L.hl).trans (h.tl j hj), fun j hj => (ht _ _ (h.hw j hj)).trans (h.tn j hj)⟩
theorem RoomAt.supp_some (h : RoomAt CR CH CL τ H n rm R) {b : Addr} (hb : suppR n rm R b) : ∃ o, H b = some o := by
  rcases hb with z | z | z | ⟨j, hj, z | z | z | z | z⟩ <;> subst z
  · exact ⟨_, h.hr⟩
  · exact ⟨_, h.hh⟩
  · exact ⟨_, h.hl⟩
  · exact ⟨_, (h.hd j hj).hp⟩
  · exact ⟨_, (h.hd j hj).L.hp⟩
  · exact ⟨_, (h.hd j hj).L.hb⟩
  · exact ⟨_, (h.hd j hj).L.hl⟩
  · exact ⟨_, h.hw j hj⟩
theorem I14.start (R_ : RoomAt CR CH CL τ H n rm R) (z : Rm0 H' n rm R) (L_ : LawAt τ H n st L (fun _ => []) (fun _ => []) (fun _ => []) (fun _ => 0)) (hs : L.hs = []) (un : ∀ b, H b = none → τ b = (9, 0)) (n1 : 1 ≤ n ∧ n ≤ 60) (fr : ∀ H2, Kx (exL n R L) H H2 → Fr H2) :
    I14 K CR CH CL Fr H n rm st ⟨τ, R, L, 0, [], []⟩ 0 := by
  refine ⟨R_, L_.congr z.wm z.ms (fun _ _ => rfl) z.c, ?_, fun j hj => ⟨z.s j hj, z.t j hj⟩, fun H2 k2 => ⟨fun a ha => ?_, fr H2 k2⟩, un, n1⟩
  · have h : P14 n 0 [] (fun _ => 0) (fun _ => []) (fun _ => []) [] 0 := ⟨fun j hj m hm => (nomatch hm), fun j hj m hm => (nomatch hm), fun m hm => (nomatch hm), fun m hm => (nomatch hm), fun m hm => (nomatch hm), fun m hm => (nomatch hm), fun j hj => Srt.nil, fun j hj m hm => (nomatch hm), fun j hj => by omega, fun j hj => ⟨by omega, by omega⟩, by omega, Acyc.nil, List.nodup_nil, by simp, fun j hj => by simp⟩
    exact h.congr z.c z.ms z.wm
  · have ha : a ∈ L.hs := ha
    rw [hs] at ha
    cases ha
theorem I14.beside (R_ : RoomAt CR CH CL τ H n rm R) {wm ms : Nat → List Mv} {tb : Nat → Tr} {c : Nat → Int} (L_ : LawAt τ H n st L wm ms tb c) (B_ : RoomAt CR CH CL τ2 H n bs B) (h : ∀ b, suppR n bs B b → τ b = (9, 0)) : ∀ H2, Kx (exL n R L) H H2 → RoomAt CR CH CL τ2 H2 n bs B := fun H2 k => B_.mono fun b o e hs => k b o (fun m => by
  have key : (τ b).1 ≤ 5 ∧ ∃ o, H b = some o ∧ ∀ vs, o ≠ .tup vs := by
    rcases List.mem_append.mp m with m | m
    · obtain ⟨h1, o, h2, h3, _⟩ := R_.in_ex m
      exact ⟨by omega, o, h2, h3⟩
    · obtain ⟨h1, xs, h2⟩ := L_.in_ex m
      exact ⟨by omega, _, h2, fun _ z => (by cases z)⟩
  obtain ⟨k1, u, k2, k3⟩ := key
  rcases hs with hs | ⟨vs, hs⟩
  · rw [h b hs] at k1
    simp at k1
  · rw [e] at k2
    cases k2
    exact k3 _ hs) e
end
theorem mem_cutL {α : Type} {xs : List α} {lo hi : Option Int} {y : α} (h : y ∈ cutL xs lo hi) : y ∈ xs := by
  unfold cutL at h
  exact List.mem_of_mem_drop (List.mem_of_mem_take h)
theorem cutL_length {α : Type} {xs : List α} {lo hi : Option Int} : (cutL xs lo hi).length ≤ xs.length := by
  unfold cutL
  rw [List.length_take, List.length_drop]
  omega
section
variable {a b c d e : Addr}
def s14a (a b : Addr) : List (Key × V) := [(Sum.inr "lines", .ref a), (Sum.inr "heard", .ref b)]
theorem s14_disp : mergeK [] (s14a a b) = s14a a b := by first | rfl | simp [s14a, mergeK, putK]
theorem s14_map : [(V.str "lines", V.ref a), (V.str "heard", V.ref b)] = (s14a a b).map (fun kv => (kV kv.1, kv.2)) := by first | rfl | simp [s14a, kV]
def s14b (a b c : Addr) : List (Key × V) := [(Sum.inr "lines", .ref a), (Sum.inr "heard", .ref b), (Sum.inr "base", .ref c)]
def s14c (a b c d : Addr) : List (Key × V) := [(Sum.inr "lines", .ref a), (Sum.inr "heard", .ref b), (Sum.inr "base", .ref c), (Sum.inr "clock", .ref d)]
theorem s14_1 : putK (s14a a b) (Sum.inr ("base" : Str)) (V.ref c) = s14b a b c := by first | rfl | simp [s14a, s14b, putK]
theorem s14_2 : putK (s14b a b c) (Sum.inr ("clock" : Str)) (V.ref d) = s14c a b c d := by first | rfl | simp [s14a, s14b, s14c, putK]
theorem s14_3 : putK (s14c a b c d) (Sum.inr ("held" : Str)) (V.ref e) = st14 a b c d e := by first | rfl | simp [s14a, s14b, s14c, st14, putK]
theorem s14_l1 : (s14a a b).length < sizeLine := lt_line (by show 2 ≤ 1000000; omega)
theorem s14_l2 : (s14b a b c).length < sizeLine := lt_line (by show 3 ≤ 1000000; omega)
theorem s14_l3 : (s14c a b c d).length < sizeLine := lt_line (by show 4 ≤ 1000000; omega)
end
end Tm
local macro_rules | `(tactic| os_names t_isi) => `(tactic| ((with_reducible show L2.rIsi _ _ _ _); first
  | ((with_reducible refine' Tm.isi_list_int ?h ?_); (case h => os_names t_hp))
  | ((with_reducible refine' Tm.isi_list_bool ?h ?_); (case h => os_names t_hp))
  | ((with_reducible refine' Tm.isi_list_str ?h ?_); (case h => os_names t_hp))
  | ((with_reducible refine' Tm.isi_list_list ?h ?_); (case h => os_names t_hp))
  | ((with_reducible refine' Tm.isi_list_tuple ?h ?_); (case h => os_names t_hp))
  | ((with_reducible refine' Tm.isi_list_dict ?h ?_); (case h => os_names t_hp))
  | ((with_reducible refine' Tm.isi_tuple_int ?h ?_); (case h => os_names t_hp))
  | ((with_reducible refine' Tm.isi_tuple_bool ?h ?_); (case h => os_names t_hp))
  | ((with_reducible refine' Tm.isi_tuple_str ?h ?_); (case h => os_names t_hp))
  | ((with_reducible refine' Tm.isi_tuple_list ?h ?_); (case h => os_names t_hp))
  | ((with_reducible refine' Tm.isi_tuple_tuple ?h ?_); (case h => os_names t_hp))
  | ((with_reducible refine' Tm.isi_tuple_dict ?h ?_); (case h => os_names t_hp))
  | ((with_reducible refine' Tm.isi_dict_int ?h ?_); (case h => os_names t_hp))
  | ((with_reducible refine' Tm.isi_dict_bool ?h ?_); (case h => os_names t_hp))
  | ((with_reducible refine' Tm.isi_dict_str ?h ?_); (case h => os_names t_hp))
  | ((with_reducible refine' Tm.isi_dict_list ?h ?_); (case h => os_names t_hp))
  | ((with_reducible refine' Tm.isi_dict_tuple ?h ?_); (case h => os_names t_hp))
  | ((with_reducible refine' Tm.isi_dict_dict ?h ?_); (case h => os_names t_hp))
  | fail "no isinstance"))
/-- what stands at an address -/
local macro_rules | `(tactic| os_names t_hp) => `(tactic| first
  | with_reducible assumption | with_reducible exact L2.upd_same | ((with_reducible (show L2.upd _ _ _ _ = _)); first | exact Tm.keepR (by with_reducible assumption) (by os_names t_hp) | exact Tm.keep_neR (by os_names t_ne) (by os_names t_hp)) | exact Tm.same_at (by with_reducible assumption) (by os_names t_hp) | exact L2.upd_same | fail "not in the heap")
local macro_rules | `(tactic| os_names t_sql) => `(tactic| first
  | with_reducible assumption | exact L2.SqL.of (by os_names t_hp) | ((with_reducible (show L2.SqL _ (L2.upd _ _ _) _ _)); exact Tm.sql_keepR (by with_reducible assumption) (by os_names t_sql)) | exact Tm.sql_same (by with_reducible assumption) (by os_names t_sql) | fail "no list")
local macro_rules | `(tactic| os_names t_sqt) => `(tactic| first
  | with_reducible assumption | exact L2.SqT.of (by os_names t_hp) | ((with_reducible (show L2.SqT _ (L2.upd _ _ _) _ _)); exact Tm.sqt_keepR (by with_reducible assumption) (by os_names t_sqt)) | exact Tm.sqt_same (by with_reducible assumption) (by os_names t_sqt) | fail "no tuple")
local macro_rules | `(tactic| os_names t_at) => `(tactic| first
  | assumption | rfl | fail "no item")
local macro_rules | `(tactic| os_names t_pos) => `(tactic| first
  | decide | omega | exact Int.emod_nonneg _ (by omega) | fail "not above 0")
/-- one step of a reading: "s"; steps as far as they go: "go"; with both ways of an open test: "all" -/
local macro_rules | `(tactic| os_names t_s) => `(tactic| first
  | with_reducible refine Tm.Step.imp ?_
  | (with_reducible refine Tm.s_var (by with_unfolding_all rfl) ?_)
  | os_names t_sA | os_names t_sB | os_names t_sC | os_names t_sD | os_names t_sE | os_names t_sF | os_names t_isi | os_names t_u | fail "no step")
local macro_rules | `(tactic| os_names t_sA) => `(tactic| ((with_reducible (show L2.rI _ _ _ _ _ _)); first
  | ((with_reducible refine' Tm.r_mod ?c ?_); (case c => os_names t_pos)) | ((with_reducible refine' Tm.r_div ?c ?_); (case c => os_names t_pos)) | ((with_reducible refine' Tm.r_mul ?c ?_); (case c => os_names t_pos)) | fail "no int"))
local macro_rules | `(tactic| os_names t_sB) => `(tactic| first
  | ((with_reducible refine Tm.r_new ?l ?_); (case l => exact of_decide_eq_true rfl); intro p0 h0; (change Tm.Fresh _ _ at h0))
  | ((with_reducible refine' Tm.r_ixT ?h ?i ?_); (case h => os_names t_sqt); (case i => os_names t_at)) | ((with_reducible refine' Tm.r_ixL ?h ?i ?_); (case h => os_names t_sql); (case i => os_names t_at))
  | ((with_reducible refine' Tm.r_lenL ?h ?_); (case h => os_names t_sql)) | ((with_reducible refine' Tm.r_lenT ?h ?_); (case h => os_names t_sqt))
  | ((with_reducible refine' Tm.r_tyL ?h ?_); (case h => os_names t_hp))
  | ((with_reducible refine' Tm.r_append ?h ?l ?_); (case h => os_names t_hp); (case l => exact Tm.lt_line (by first | omega | (simp only [List.length_append, List.length_map, List.length_cons, List.length_nil]; omega))))
  | ((with_reducible refine' Tm.r_tupL ?h ?_); (case h => os_names t_sql); intro p0 h0; (change Tm.Fresh _ _ at h0))
  | ((with_reducible refine' Tm.r_slT ?h ?l ?_); (case h => os_names t_sqt); (case l => decide); intro p0 h0; (change Tm.Fresh _ _ at h0))
  | fail "no step")
local macro_rules | `(tactic| os_names t_sC) => `(tactic| first
  | ((with_reducible refine Tm.s_dNew ?_); intro p0 h0; (change Tm.Fresh _ _ at h0))
  | ((with_reducible refine' Tm.r_lenD ?h ?_); (case h => os_names t_hp))
  | ((with_reducible refine' Tm.r_lenDR ?h ?_); (case h => assumption))
  | ((with_reducible refine' Tm.r_dInR ?h ?_); (case h => assumption))
  | ((with_reducible refine' Tm.r_dNotInR ?h ?_); (case h => assumption))
  | ((with_reducible refine' Tm.r_dict ?h ?_); (case h => os_names t_hp); intro p0 h0; (change Tm.Fresh _ _ at h0))
  | ((with_reducible refine' Tm.r_dIn ?h ?_); (case h => os_names t_hp)) | ((with_reducible refine' Tm.r_dNotIn ?h ?_); (case h => os_names t_hp))
  | ((with_reducible refine' Tm.r_dPutI ?h ?l ?_); (case h => os_names t_hp); (case l => first | assumption | omega))
  | ((with_reducible refine' Tm.r_dPut ?h ?l ?_); (case h => os_names t_hp); (case l => os_names t_dlen))
  | fail "no step")
local macro_rules | `(tactic| os_names t_sD) => `(tactic| first
  | ((with_reducible refine' Tm.r_list ?h ?_); (case h => os_names t_sql); intro p0 h0; (change Tm.Fresh _ _ at h0))
  | ((with_reducible refine' Tm.r_slI ?h ?_); (case h => os_names t_sql); intro p0 h0; (change Tm.Fresh _ _ at h0))
  | ((with_reducible refine' Tm.r_slL ?h ?_); (case h => os_names t_sql); intro p0 h0; (change Tm.Fresh _ _ at h0))
  | ((with_reducible refine' Tm.r_inI ?h ?_); (case h => os_names t_sql)) | ((with_reducible refine' Tm.r_ninI ?h ?_); (case h => os_names t_sql))
  | fail "no step")
local macro_rules | `(tactic| os_names t_slen) => `(tactic| first | assumption | omega | (simp only [Tm.len_app, Tm.len_blank, Tm.len_one, Tm.len_zero]; omega) | decide | fail "a text's length")
local macro_rules | `(tactic| os_names t_sE) => `(tactic| first
  | ((with_reducible refine Tm.r_lenS ?l ?_); (case l => os_names t_slen))
  | ((with_reducible refine Tm.r_addS ?l ?_); (case l => os_names t_slen))
  | ((with_reducible refine' Tm.r_ixS ?l ?i ?_); (case l => os_names t_slen); (case i => os_names t_at))
  | ((with_reducible refine Tm.r_slS ?l ?_); (case l => os_names t_slen))
  | ((with_reducible refine Tm.r_split ?b ?l ?_); (case b => decide +kernel); (case l => os_names t_slen); intro p0 h0; (change Tm.Fresh _ _ at h0))
  | fail "no step")
/-- the law's state -/
local macro_rules | `(tactic| os_names t_st0) => `(tactic| first | with_reducible exact Tm.s14_lines | with_reducible exact Tm.s14_heard | with_reducible exact Tm.s14_base | with_reducible exact Tm.s14_clock | with_reducible exact Tm.s14_held | exact Tm.s14_lines | exact Tm.s14_heard | exact Tm.s14_base | exact Tm.s14_clock | exact Tm.s14_held | fail "no state")
/-- logs -/
local macro_rules | `(tactic| os_names t_lk) => `(tactic| first | with_reducible exact Tm.lk_since | with_reducible exact Tm.lk_base | with_reducible exact Tm.lk_kept | with_reducible exact Tm.lk_number | with_reducible exact Tm.lk_clock | with_reducible exact Tm.lk_log | with_reducible exact Tm.lk_hands | with_reducible exact Tm.lk_lines | exact Tm.lk_since | exact Tm.lk_base | exact Tm.lk_kept | exact Tm.lk_number | exact Tm.lk_clock | exact Tm.lk_log | exact Tm.lk_hands | exact Tm.lk_lines | fail "no field")
local macro_rules | `(tactic| os_names t_no) => `(tactic| first | with_reducible exact Tm.no_hear | with_reducible exact Tm.no_place | with_reducible exact Tm.no_moves | with_reducible exact Tm.no_tree | with_reducible exact Tm.no_steps | with_reducible exact Tm.no_settle | with_reducible exact Tm.noh_move | with_reducible exact Tm.noh_hear | with_reducible exact Tm.noh_tree | with_reducible exact Tm.noh_settle | with_reducible exact Tm.nor_line | with_reducible exact Tm.nor_move | with_reducible exact Tm.nor_wait | with_reducible exact Tm.nor_carry | with_reducible exact Tm.nor_double | with_reducible exact Tm.nor_settle | exact Tm.no_hear | exact Tm.no_place | exact Tm.no_moves | exact Tm.no_tree | exact Tm.no_steps | exact Tm.no_settle | exact Tm.noh_move | exact Tm.noh_hear | exact Tm.noh_tree | exact Tm.noh_settle | exact Tm.nor_line | exact Tm.nor_move | exact Tm.nor_wait | exact Tm.nor_carry | exact Tm.nor_double | exact Tm.nor_settle | fail "no method")
local macro_rules | `(tactic| os_names t_sF) => `(tactic| first
  | ((with_reducible refine' Tm.r_dGetS ?h ?v ?_); (case h => os_names t_hp); (case v => os_names t_st0))
  | ((with_reducible refine' Tm.r_fld ?h ?c ?n ?l ?_); (case h => os_names t_hp); (case c => assumption); (case n => assumption); (case l => os_names t_lk))
  | ((with_reducible refine' Tm.r_meth ?h ?l ?_); (case h => os_names t_hp); (case l => os_names t_no))
  | ((with_reducible refine' Tm.r_methS ?h ?l ?_); (case h => os_names t_hp); (case l => os_names t_no))
  | fail "no field")
/-- calls of the laws' common defs -/
local macro_rules | `(tactic| os_names t_c1) => `(tactic| first
  | ((with_reducible refine' Tm.c_cell ?h ?k ?_); (case h => os_names t_sql); (case k => os_names t_pos))
  | with_reducible refine Tm.c_whole1 ?_
  | with_reducible refine Tm.c_gap ?_
  | ((with_reducible refine Tm.c_far ?_); intro _ _)
  | ((with_reducible refine Tm.c_name ?k ?l ?_); (case k => os_names t_pos); (case l => os_names t_pos); intro _ _)
  | ((with_reducible refine Tm.c_pick ?k ?l ?m ?_); (case k => os_names t_pos); (case l => os_names t_pos); (case m => os_names t_pos); intro _ _)
  | ((with_reducible refine' Tm.c_way ?h ?k ?l ?_); (case h => os_names t_hp); (case k => assumption); (case l => first | assumption | omega); intro p0 h0; (change Tm.Fresh _ _ at h0))
  | ((with_reducible refine' Tm.c_tree ?h ?k ?_); (case h => os_names t_sql); (case k => os_names t_pos); intro d0 H0 h0 _ _; (change Tm.Fresh _ _ at h0))
  | ((with_reducible refine' Tm.c_numbers ?h ?k ?l ?_); (case h => os_names t_hp); (case k => os_names t_hp); (case l => first | assumption | exact (by assumption : ∀ f, (Tm.way _ f).length ≤ 100000) _ | omega))
  | ((with_reducible refine' Tm.c_below ?h ?k ?l ?_); (case h => os_names t_hp); (case k => assumption); (case l => first | assumption | omega); intro _ _)
  | ((with_reducible refine' Tm.c_closes ?h ?k ?l ?_); (case h => os_names t_hp); (case k => assumption); (case l => first | assumption | omega); intro _ _)
  | ((with_reducible refine' Tm.c_put ?h ?k ?l ?_); (case h => os_names t_hp); (case k => assumption); (case l => first | assumption | omega); intro d0 H0 h0 _ _; (change Tm.Fresh _ _ at h0))
  | fail "no call of these")
/-- further steps of a law's own -/
local macro_rules | `(tactic| os_names t_u) => `(tactic| os_names t_c1)
local macro_rules | `(tactic| os_names t_go) => `(tactic| repeat' (os_names t_s))
local macro_rules | `(tactic| os_names t_all) => `(tactic| repeat' (first | os_names t_s | os_names t_v | os_names t_sp | fail "no step"))
/-- what a test's two ways know -/
local macro_rules | `(tactic| os_names t_sp) => `(tactic| first
  | with_reducible refine Tm.ite_dn (fun _ => ?_) (fun _ => ?_)
  | with_reducible refine Tm.ite_d (fun _ => ?_) (fun _ => ?_) | with_reducible refine Tm.ite_b (fun _ => ?_) (fun _ => ?_) | fail "no test")
local macro_rules | `(tactic| os_names t_st) => `(tactic| try simp only [Tm.cxK])
/-- values whose making branches -/
local macro_rules | `(tactic| os_names t_v) => `(tactic| first
  | with_reducible refine Tm.s_andV ?_ | with_reducible refine Tm.s_orV ?_ | with_reducible refine Tm.s_if ?_ | with_reducible refine Tm.s_chain ?_ | fail "no value")
/-- a test that what is known decides -/
local macro_rules | `(tactic| os_names t_fact) => `(tactic| first | with_reducible assumption | with_reducible rfl | omega | fail "not known")
local macro_rules | `(tactic| os_names t_ff) => `(tactic| first | with_reducible rfl | with_reducible assumption | ((with_reducible refine Tm.nd_f ?_); os_names t_fact) | ((with_reducible refine Tm.d_f ?_); os_names t_fact) | rfl | fail "not false")
local macro_rules | `(tactic| os_names t_tt) => `(tactic| first | with_reducible rfl | with_reducible assumption | ((with_reducible refine Tm.d_t ?_); os_names t_fact) | ((with_reducible refine Tm.nd_t ?_); os_names t_fact) | rfl | fail "not true")
local macro_rules | `(tactic| os_names t_if) => `(tactic| first
  | ((with_reducible refine Tm.no ?c ?_); (case c => os_names t_ff)) | ((with_reducible refine Tm.yes ?c ?_); (case c => os_names t_tt)) | fail "not decided")
local macro_rules | `(tactic| os_names t_goi) => `(tactic| repeat' (first | os_names t_s | os_names t_if | fail "no step"))
local macro_rules | `(tactic| os_names t_dlen) => `(tactic| exact Tm.lt_line (by first | (rw [Tm.enc_length]; omega) | omega))
/-- what was tracked stands -/
local macro_rules | `(tactic| os_names t_sm) => `(tactic| first
  | exact L2.Same.refl _ | with_reducible assumption | exact Tm.sm_new (by with_reducible assumption) (by os_names t_sm) | exact Tm.sm_mut (by os_names t_fr) (by os_names t_sm) | exact Tm.sm_trans (by with_reducible assumption) (by os_names t_sm) | fail "not the same")
local macro_rules | `(tactic| os_names t_fr) => `(tactic| first
  | with_reducible assumption | exact Tm.Fresh.back (by with_reducible assumption) (by os_names t_sm) | fail "not new")
local macro_rules | `(tactic| os_names t_ne) => `(tactic| first
  | with_reducible assumption | exact Ne.symm (by with_reducible assumption) | exact Tm.ne_new (by with_reducible assumption) (by os_names t_hp) | exact Tm.ne_new' (by with_reducible assumption) (by os_names t_hp) | fail "not known to differ")

namespace Tm
open PySem PySem.Spec PyProof.Rows L2 TL
/-! the text by its places -/
def top (i : Nat) : Stmt := PySem.Challenge.pw_treemove_k14_whole_room.main.body.getD i (.Pass ⟨0, 0, 0, 0⟩)
abbrev s_whole : Stmt := top 7
abbrev s_is_move : Stmt := top 8
abbrev s_ahead : Stmt := top 9
abbrev s_way_up : Stmt := top 11
abbrev s_closes : Stmt := top 12
abbrev s_put : Stmt := top 13
abbrev s_Log_init : Stmt := inClass (top 15) 0
abbrev s_Log_place_of : Stmt := inClass (top 15) 1
abbrev s_Log_hear : Stmt := inClass (top 15) 2
abbrev s_Log_moves : Stmt := inClass (top 15) 3
abbrev s_Log_tree : Stmt := inClass (top 15) 4
abbrev s_Log_steps : Stmt := inClass (top 15) 5
abbrev s_Log_settle : Stmt := inClass (top 15) 6
abbrev s_Hand_init : Stmt := inClass (top 17) 0
abbrev s_Hand_move : Stmt := inClass (top 17) 1
abbrev s_Hand_hear : Stmt := inClass (top 17) 2
abbrev s_Hand_tree : Stmt := inClass (top 17) 3
abbrev s_Hand_settle : Stmt := inClass (top 17) 4
abbrev s_Room_init : Stmt := inClass (top 20) 0
abbrev s_Room_line_of : Stmt := inClass (top 20) 1
abbrev s_Room_move : Stmt := inClass (top 20) 2
abbrev s_Room_waiting : Stmt := inClass (top 20) 3
abbrev s_Room_carry : Stmt := inClass (top 20) 4
abbrev s_Room_double : Stmt := inClass (top 20) 5
abbrev s_Room_settle : Stmt := inClass (top 20) 6
abbrev s__law_whole : Stmt := top 22
abbrev s__law_cell_at : Stmt := top 23
abbrev s__law_name : Stmt := top 24
abbrev s__law_way : Stmt := top 25
abbrev s__law_same_tree : Stmt := top 26
abbrev s__law_same_move : Stmt := top 27
abbrev s__law_same_moves : Stmt := top 28
abbrev s__law_deeds : Stmt := top 29
abbrev s__law_told : Stmt := top 30
abbrev s__law_fold : Stmt := top 31
abbrev s__law_steps_of : Stmt := top 32
abbrev s__law_same_steps : Stmt := top 33
abbrev s__law_steps_asked : Stmt := top 34
abbrev s__law_no_hand : Stmt := top 35
abbrev s__law_no_room : Stmt := top 36
abbrev s__law_no_move : Stmt := top 37
abbrev s__law_hear : Stmt := top 38
abbrev s__law_moved : Stmt := top 39
abbrev s__law_carried : Stmt := top 40
abbrev s__law_emptied : Stmt := top 41
abbrev s__law_settled : Stmt := top 42
abbrev s__law_as_told : Stmt := top 43
abbrev s__law_all_have : Stmt := top 44
abbrev s__law_done : Stmt := top 45
abbrev s_law : Stmt := top 46
abbrev n_whole : List Str := ["thing", "least"]
theorem sc_whole : FnScope ["thing", "least"] ["thing", "least"] (defScope s_whole) := ⟨rfl, rfl, rfl, by decide +kernel, rfl, by decide +kernel, by decide +kernel⟩
abbrev n_is_move : List Str := ["thing"]
theorem sc_is_move : FnScope ["thing"] ["thing"] (defScope s_is_move) := ⟨rfl, rfl, rfl, by decide +kernel, rfl, by decide +kernel, by decide +kernel⟩
abbrev n_ahead : List Str := ["one", "other"]
theorem sc_ahead : FnScope ["one", "other"] ["one", "other"] (defScope s_ahead) := ⟨rfl, rfl, rfl, by decide +kernel, rfl, by decide +kernel, by decide +kernel⟩
abbrev n_way_up : List Str := ["tree", "folder", "way"]
theorem sc_way_up : FnScope ["tree", "folder", "way"] ["tree", "folder"] (defScope s_way_up) := ⟨rfl, rfl, rfl, by decide +kernel, rfl, by decide +kernel, by decide +kernel⟩
abbrev n_closes : List Str := ["tree", "folder", "under"]
theorem sc_closes : FnScope ["tree", "folder", "under"] ["tree", "folder", "under"] (defScope s_closes) := ⟨rfl, rfl, rfl, by decide +kernel, rfl, by decide +kernel, by decide +kernel⟩
abbrev n_put : List Str := ["tree", "folder", "under", "found"]
theorem sc_put : FnScope ["tree", "folder", "under", "found"] ["tree", "folder", "under"] (defScope s_put) := ⟨rfl, rfl, rfl, by decide +kernel, rfl, by decide +kernel, by decide +kernel⟩
abbrev n_Log_init : List Str := ["self"]
theorem sc_Log_init : FnScope ["self"] ["self"] (defScope s_Log_init) := ⟨rfl, rfl, rfl, by decide +kernel, rfl, by decide +kernel, by decide +kernel⟩
abbrev n_Log_place_of : List Str := ["self", "move", "at"]
theorem sc_Log_place_of : FnScope ["self", "move", "at"] ["self", "move"] (defScope s_Log_place_of) := ⟨rfl, rfl, rfl, by decide +kernel, rfl, by decide +kernel, by decide +kernel⟩
abbrev n_Log_hear : List Str := ["self", "move", "at"]
theorem sc_Log_hear : FnScope ["self", "move", "at"] ["self", "move"] (defScope s_Log_hear) := ⟨rfl, rfl, rfl, by decide +kernel, rfl, by decide +kernel, by decide +kernel⟩
abbrev n_Log_moves : List Str := ["self"]
theorem sc_Log_moves : FnScope ["self"] ["self"] (defScope s_Log_moves) := ⟨rfl, rfl, rfl, by decide +kernel, rfl, by decide +kernel, by decide +kernel⟩
abbrev n_Log_tree : List Str := ["self", "found", "move"]
theorem sc_Log_tree : FnScope ["self", "found", "move"] ["self"] (defScope s_Log_tree) := ⟨rfl, rfl, rfl, by decide +kernel, rfl, by decide +kernel, by decide +kernel⟩
abbrev n_Log_steps : List Str := ["self", "found", "tree", "move", "way"]
theorem sc_Log_steps : FnScope ["self", "found", "tree", "move", "way"] ["self"] (defScope s_Log_steps) := ⟨rfl, rfl, rfl, by decide +kernel, rfl, by decide +kernel, by decide +kernel⟩
abbrev n_Log_settle : List Str := ["self", "time", "many"]
theorem sc_Log_settle : FnScope ["self", "time", "many"] ["self", "time"] (defScope s_Log_settle) := ⟨rfl, rfl, rfl, by decide +kernel, rfl, by decide +kernel, by decide +kernel⟩
abbrev n_Hand_init : List Str := ["self", "number"]
theorem sc_Hand_init : FnScope ["self", "number"] ["self", "number"] (defScope s_Hand_init) := ⟨rfl, rfl, rfl, by decide +kernel, rfl, by decide +kernel, by decide +kernel⟩
abbrev n_Hand_move : List Str := ["self", "folder", "under", "made"]
theorem sc_Hand_move : FnScope ["self", "folder", "under", "made"] ["self", "folder", "under"] (defScope s_Hand_move) := ⟨rfl, rfl, rfl, by decide +kernel, rfl, by decide +kernel, by decide +kernel⟩
abbrev n_Hand_hear : List Str := ["self", "move", "new"]
theorem sc_Hand_hear : FnScope ["self", "move", "new"] ["self", "move"] (defScope s_Hand_hear) := ⟨rfl, rfl, rfl, by decide +kernel, rfl, by decide +kernel, by decide +kernel⟩
abbrev n_Hand_tree : List Str := ["self"]
theorem sc_Hand_tree : FnScope ["self"] ["self"] (defScope s_Hand_tree) := ⟨rfl, rfl, rfl, by decide +kernel, rfl, by decide +kernel, by decide +kernel⟩
abbrev n_Hand_settle : List Str := ["self", "time", "many"]
theorem sc_Hand_settle : FnScope ["self", "time", "many"] ["self", "time"] (defScope s_Hand_settle) := ⟨rfl, rfl, rfl, by decide +kernel, rfl, by decide +kernel, by decide +kernel⟩
abbrev n_Room_init : List Str := ["self", "many", "number"]
theorem sc_Room_init : FnScope ["self", "many", "number"] ["self", "many"] (defScope s_Room_init) := ⟨rfl, rfl, rfl, by decide +kernel, rfl, by decide +kernel, by decide +kernel⟩
abbrev n_Room_line_of : List Str := ["self", "number"]
theorem sc_Room_line_of : FnScope ["self", "number"] ["self", "number"] (defScope s_Room_line_of) := ⟨rfl, rfl, rfl, by decide +kernel, rfl, by decide +kernel, by decide +kernel⟩
abbrev n_Room_move : List Str := ["self", "number", "folder", "under", "own", "made", "other"]
theorem sc_Room_move : FnScope ["self", "number", "folder", "under", "own", "made", "other"] ["self", "number", "folder", "under"] (defScope s_Room_move) := ⟨rfl, rfl, rfl, by decide +kernel, rfl, by decide +kernel, by decide +kernel⟩
abbrev n_Room_waiting : List Str := ["self", "number"]
theorem sc_Room_waiting : FnScope ["self", "number"] ["self", "number"] (defScope s_Room_waiting) := ⟨rfl, rfl, rfl, by decide +kernel, rfl, by decide +kernel, by decide +kernel⟩
abbrev n_Room_carry : List Str := ["self", "number", "place", "line", "move"]
theorem sc_Room_carry : FnScope ["self", "number", "place", "line", "move"] ["self", "number", "place"] (defScope s_Room_carry) := ⟨rfl, rfl, rfl, by decide +kernel, rfl, by decide +kernel, by decide +kernel⟩
abbrev n_Room_double : List Str := ["self", "number", "place", "line", "move"]
theorem sc_Room_double : FnScope ["self", "number", "place", "line", "move"] ["self", "number", "place"] (defScope s_Room_double) := ⟨rfl, rfl, rfl, by decide +kernel, rfl, by decide +kernel, by decide +kernel⟩
abbrev n_Room_settle : List Str := ["self", "line", "hand", "time"]
theorem sc_Room_settle : FnScope ["self", "line", "hand", "time"] ["self"] (defScope s_Room_settle) := ⟨rfl, rfl, rfl, by decide +kernel, rfl, by decide +kernel, by decide +kernel⟩
abbrev n__law_whole : List Str := ["_law_found"]
theorem sc__law_whole : FnScope ["_law_found"] ["_law_found"] (defScope s__law_whole) := ⟨rfl, rfl, rfl, by decide +kernel, rfl, by decide +kernel, by decide +kernel⟩
abbrev n__law_cell_at : List Str := ["_law_script", "_law_k"]
theorem sc__law_cell_at : FnScope ["_law_script", "_law_k"] ["_law_script", "_law_k"] (defScope s__law_cell_at) := ⟨rfl, rfl, rfl, by decide +kernel, rfl, by decide +kernel, by decide +kernel⟩
abbrev n__law_name : List Str := ["_law_k", "_law_cell", "_law_some"]
theorem sc__law_name : FnScope ["_law_k", "_law_cell", "_law_some"] ["_law_k", "_law_cell"] (defScope s__law_name) := ⟨rfl, rfl, rfl, by decide +kernel, rfl, by decide +kernel, by decide +kernel⟩
abbrev n__law_way : List Str := ["_law_tree", "_law_folder", "_law_way_here"]
theorem sc__law_way : FnScope ["_law_tree", "_law_folder", "_law_way_here"] ["_law_tree", "_law_folder"] (defScope s__law_way) := ⟨rfl, rfl, rfl, by decide +kernel, rfl, by decide +kernel, by decide +kernel⟩
abbrev n__law_same_tree : List Str := ["_law_found", "_law_due", "_law_folder"]
theorem sc__law_same_tree : FnScope ["_law_found", "_law_due", "_law_folder"] ["_law_found", "_law_due"] (defScope s__law_same_tree) := ⟨rfl, rfl, rfl, by decide +kernel, rfl, by decide +kernel, by decide +kernel⟩
abbrev n__law_same_move : List Str := ["_law_found", "_law_due", "_law_k"]
theorem sc__law_same_move : FnScope ["_law_found", "_law_due", "_law_k"] ["_law_found", "_law_due"] (defScope s__law_same_move) := ⟨rfl, rfl, rfl, by decide +kernel, rfl, by decide +kernel, by decide +kernel⟩
abbrev n__law_same_moves : List Str := ["_law_found", "_law_due", "_law_k"]
theorem sc__law_same_moves : FnScope ["_law_found", "_law_due", "_law_k"] ["_law_found", "_law_due"] (defScope s__law_same_moves) := ⟨rfl, rfl, rfl, by decide +kernel, rfl, by decide +kernel, by decide +kernel⟩
abbrev n__law_deeds : List Str := ["_law_script", "_law_few", "_law_many", "_law_count", "_law_k"]
theorem sc__law_deeds : FnScope ["_law_script", "_law_few", "_law_many", "_law_count", "_law_k"] ["_law_script", "_law_few", "_law_many"] (defScope s__law_deeds) := ⟨rfl, rfl, rfl, by decide +kernel, rfl, by decide +kernel, by decide +kernel⟩
abbrev n__law_told : List Str := ["_law_moves", "_law_move", "_law_at"]
theorem sc__law_told : FnScope ["_law_moves", "_law_move", "_law_at"] ["_law_moves", "_law_move"] (defScope s__law_told) := ⟨rfl, rfl, rfl, by decide +kernel, rfl, by decide +kernel, by decide +kernel⟩
abbrev n__law_fold : List Str := ["_law_tree", "_law_moves", "_law_found", "_law_move"]
theorem sc__law_fold : FnScope ["_law_tree", "_law_moves", "_law_found", "_law_move"] ["_law_tree", "_law_moves"] (defScope s__law_fold) := ⟨rfl, rfl, rfl, by decide +kernel, rfl, by decide +kernel, by decide +kernel⟩
abbrev n__law_steps_of : List Str := ["_law_base", "_law_moves", "_law_tree", "_law_steps", "_law_move", "_law_way_here"]
theorem sc__law_steps_of : FnScope ["_law_base", "_law_moves", "_law_tree", "_law_steps", "_law_move", "_law_way_here"] ["_law_base", "_law_moves"] (defScope s__law_steps_of) := ⟨rfl, rfl, rfl, by decide +kernel, rfl, by decide +kernel, by decide +kernel⟩
abbrev n__law_same_steps : List Str := ["_law_found", "_law_due", "_law_k", "_law_one"]
theorem sc__law_same_steps : FnScope ["_law_found", "_law_due", "_law_k", "_law_one"] ["_law_found", "_law_due"] (defScope s__law_same_steps) := ⟨rfl, rfl, rfl, by decide +kernel, rfl, by decide +kernel, by decide +kernel⟩
abbrev n__law_steps_asked : List Str := ["_law_log", "_law_base", "_law_moves", "_law_held", "_law_found", "_law_row"]
theorem sc__law_steps_asked : FnScope ["_law_log", "_law_base", "_law_moves", "_law_held", "_law_found", "_law_row"] ["_law_log", "_law_base", "_law_moves", "_law_held"] (defScope s__law_steps_asked) := ⟨rfl, rfl, rfl, by decide +kernel, rfl, by decide +kernel, by decide +kernel⟩
abbrev n__law_no_hand : List Str := ["_law_room", "_law_many", "_law_cell", "_law_number", "_law_count", "e"]
theorem sc__law_no_hand : FnScope ["_law_room", "_law_many", "_law_cell", "_law_number", "_law_count", "e"] ["_law_room", "_law_many", "_law_cell"] (defScope s__law_no_hand) := ⟨rfl, rfl, rfl, by decide +kernel, rfl, by decide +kernel, by decide +kernel⟩
abbrev n__law_no_room : List Str := ["_law_cell"]
theorem sc__law_no_room : FnScope ["_law_cell"] ["_law_cell"] (defScope s__law_no_room) := ⟨rfl, rfl, rfl, by decide +kernel, rfl, by decide +kernel, by decide +kernel⟩
abbrev n__law_no_move : List Str := ["_law_room", "_law_number", "_law_cell"]
theorem sc__law_no_move : FnScope ["_law_room", "_law_number", "_law_cell"] ["_law_room", "_law_number", "_law_cell"] (defScope s__law_no_move) := ⟨rfl, rfl, rfl, by decide +kernel, rfl, by decide +kernel, by decide +kernel⟩
abbrev n__law_hear : List Str := ["_law_state", "_law_number", "_law_move"]
theorem sc__law_hear : FnScope ["_law_state", "_law_number", "_law_move"] ["_law_state", "_law_number", "_law_move"] (defScope s__law_hear) := ⟨rfl, rfl, rfl, by decide +kernel, rfl, by decide +kernel, by decide +kernel⟩
abbrev n__law_moved : List Str := ["_law_room", "_law_state", "_law_number", "_law_deed", "_law_cell", "_law_many", "_law_under", "_law_due", "_law_other"]
theorem sc__law_moved : FnScope ["_law_room", "_law_state", "_law_number", "_law_deed", "_law_cell", "_law_many", "_law_under", "_law_due", "_law_other"] ["_law_room", "_law_state", "_law_number", "_law_deed", "_law_cell"] (defScope s__law_moved) := ⟨rfl, rfl, rfl, by decide +kernel, rfl, by decide +kernel, by decide +kernel⟩
abbrev n__law_carried : List Str := ["_law_room", "_law_state", "_law_number", "_law_place", "_law_twice", "_law_line", "_law_found", "_law_at"]
theorem sc__law_carried : FnScope ["_law_room", "_law_state", "_law_number", "_law_place", "_law_twice", "_law_line", "_law_found", "_law_at"] ["_law_room", "_law_state", "_law_number", "_law_place", "_law_twice"] (defScope s__law_carried) := ⟨rfl, rfl, rfl, by decide +kernel, rfl, by decide +kernel, by decide +kernel⟩
abbrev n__law_emptied : List Str := ["_law_room", "_law_state", "_law_place", "_law_number"]
theorem sc__law_emptied : FnScope ["_law_room", "_law_state", "_law_place", "_law_number"] ["_law_room", "_law_state", "_law_place"] (defScope s__law_emptied) := ⟨rfl, rfl, rfl, by decide +kernel, rfl, by decide +kernel, by decide +kernel⟩
abbrev n__law_settled : List Str := ["_law_room", "_law_state", "_law_found", "_law_idle", "_law_number", "_law_log", "_law_line"]
theorem sc__law_settled : FnScope ["_law_room", "_law_state", "_law_found", "_law_idle", "_law_number", "_law_log", "_law_line"] ["_law_room", "_law_state"] (defScope s__law_settled) := ⟨rfl, rfl, rfl, by decide +kernel, rfl, by decide +kernel, by decide +kernel⟩
abbrev n__law_as_told : List Str := ["_law_room", "_law_state", "_law_number", "_law_hand", "_law_found", "_law_heard"]
theorem sc__law_as_told : FnScope ["_law_room", "_law_state", "_law_number", "_law_hand", "_law_found", "_law_heard"] ["_law_room", "_law_state", "_law_number"] (defScope s__law_as_told) := ⟨rfl, rfl, rfl, by decide +kernel, rfl, by decide +kernel, by decide +kernel⟩
abbrev n__law_all_have : List Str := ["_law_room", "_law_state", "_law_due", "_law_number"]
theorem sc__law_all_have : FnScope ["_law_room", "_law_state", "_law_due", "_law_number"] ["_law_room", "_law_state", "_law_due"] (defScope s__law_all_have) := ⟨rfl, rfl, rfl, by decide +kernel, rfl, by decide +kernel, by decide +kernel⟩
abbrev n__law_done : List Str := ["_law_room", "_law_state", "_law_number", "_law_deed", "_law_cell", "_law_many", "_law_place"]
theorem sc__law_done : FnScope ["_law_room", "_law_state", "_law_number", "_law_deed", "_law_cell", "_law_many", "_law_place"] ["_law_room", "_law_state", "_law_number", "_law_deed", "_law_cell"] (defScope s__law_done) := ⟨rfl, rfl, rfl, by decide +kernel, rfl, by decide +kernel, by decide +kernel⟩
abbrev n_law : List Str := ["_law_script", "_law_cell", "_law_many", "_law_room", "_law_beside", "_law_state", "_law_deed", "_law_number", "_law_due", "_law_pair", "_law_k"]
theorem sc_law : FnScope ["_law_script", "_law_cell", "_law_many", "_law_room", "_law_beside", "_law_state", "_law_deed", "_law_number", "_law_due", "_law_pair", "_law_k"] ["_law_script"] (defScope s_law) := ⟨rfl, rfl, rfl, by decide +kernel, rfl, by decide +kernel, by decide +kernel⟩
/-- where the top has put its defs and classes -/
structure Ad where
  f_whole : Addr
  d_whole : FuncData
  f_is_move : Addr
  d_is_move : FuncData
  f_ahead : Addr
  d_ahead : FuncData
  f_way_up : Addr
  d_way_up : FuncData
  f_closes : Addr
  d_closes : FuncData
  f_put : Addr
  d_put : FuncData
  f_Log_init : Addr
  d_Log_init : FuncData
  f_Log_place_of : Addr
  d_Log_place_of : FuncData
  f_Log_hear : Addr
  d_Log_hear : FuncData
  f_Log_moves : Addr
  d_Log_moves : FuncData
  f_Log_tree : Addr
  d_Log_tree : FuncData
  f_Log_steps : Addr
  d_Log_steps : FuncData
  f_Log_settle : Addr
  d_Log_settle : FuncData
  f_Hand_init : Addr
  d_Hand_init : FuncData
  f_Hand_move : Addr
  d_Hand_move : FuncData
  f_Hand_hear : Addr
  d_Hand_hear : FuncData
  f_Hand_tree : Addr
  d_Hand_tree : FuncData
  f_Hand_settle : Addr
  d_Hand_settle : FuncData
  f_Room_init : Addr
  d_Room_init : FuncData
  f_Room_line_of : Addr
  d_Room_line_of : FuncData
  f_Room_move : Addr
  d_Room_move : FuncData
  f_Room_waiting : Addr
  d_Room_waiting : FuncData
  f_Room_carry : Addr
  d_Room_carry : FuncData
  f_Room_double : Addr
  d_Room_double : FuncData
  f_Room_settle : Addr
  d_Room_settle : FuncData
  f__law_whole : Addr
  d__law_whole : FuncData
  f__law_cell_at : Addr
  d__law_cell_at : FuncData
  f__law_name : Addr
  d__law_name : FuncData
  f__law_way : Addr
  d__law_way : FuncData
  f__law_same_tree : Addr
  d__law_same_tree : FuncData
  f__law_same_move : Addr
  d__law_same_move : FuncData
  f__law_same_moves : Addr
  d__law_same_moves : FuncData
  f__law_deeds : Addr
  d__law_deeds : FuncData
  f__law_told : Addr
  d__law_told : FuncData
  f__law_fold : Addr
  d__law_fold : FuncData
  f__law_steps_of : Addr
  d__law_steps_of : FuncData
  f__law_same_steps : Addr
  d__law_same_steps : FuncData
  f__law_steps_asked : Addr
  d__law_steps_asked : FuncData
  f__law_no_hand : Addr
  d__law_no_hand : FuncData
  f__law_no_room : Addr
  d__law_no_room : FuncData
  f__law_no_move : Addr
  d__law_no_move : FuncData
  f__law_hear : Addr
  d__law_hear : FuncData
  f__law_moved : Addr
  d__law_moved : FuncData
  f__law_carried : Addr
  d__law_carried : FuncData
  f__law_emptied : Addr
  d__law_emptied : FuncData
  f__law_settled : Addr
  d__law_settled : FuncData
  f__law_as_told : Addr
  d__law_as_told : FuncData
  f__law_all_have : Addr
  d__law_all_have : FuncData
  f__law_done : Addr
  d__law_done : FuncData
  f_law : Addr
  d_law : FuncData
  c_Log : Addr
  c_Hand : Addr
  c_Room : Addr
  c_TreeError : Addr
  c_NoMove : Addr
  c_TooLate : Addr
  c_Clash : Addr
  c_NoHand : Addr
  t_MOST : Tok
/-- what the top has left -/
structure Txt (K : PySem.W.Frag) (mg : Str → Option Value) (a : Ad) : Prop where
  F_whole : Fun K "whole" "whole" s_whole a.f_whole a.d_whole
  b_whole : Binds K a.d_whole ["thing", "least"] []
  g_whole : mg "whole" = some (.ref a.f_whole)
  k_whole : PySem.W.keepIn K (.ref a.f_whole) = true
  F_is_move : Fun K "is_move" "is_move" s_is_move a.f_is_move a.d_is_move
  b_is_move : Binds K a.d_is_move ["thing"] []
  g_is_move : mg "is_move" = some (.ref a.f_is_move)
  k_is_move : PySem.W.keepIn K (.ref a.f_is_move) = true
  F_ahead : Fun K "ahead" "ahead" s_ahead a.f_ahead a.d_ahead
  b_ahead : Binds K a.d_ahead ["one", "other"] []
  g_ahead : mg "ahead" = some (.ref a.f_ahead)
  k_ahead : PySem.W.keepIn K (.ref a.f_ahead) = true
  F_way_up : Fun K "way_up" "way_up" s_way_up a.f_way_up a.d_way_up
  b_way_up : Binds K a.d_way_up ["tree", "folder"] []
  g_way_up : mg "way_up" = some (.ref a.f_way_up)
  k_way_up : PySem.W.keepIn K (.ref a.f_way_up) = true
  F_closes : Fun K "closes" "closes" s_closes a.f_closes a.d_closes
  b_closes : Binds K a.d_closes ["tree", "folder", "under"] []
  g_closes : mg "closes" = some (.ref a.f_closes)
  k_closes : PySem.W.keepIn K (.ref a.f_closes) = true
  F_put : Fun K "put" "put" s_put a.f_put a.d_put
  b_put : Binds K a.d_put ["tree", "folder", "under"] []
  g_put : mg "put" = some (.ref a.f_put)
  k_put : PySem.W.keepIn K (.ref a.f_put) = true
  F_Log_init : Fun K "__init__" "Log.__init__" s_Log_init a.f_Log_init a.d_Log_init
  b_Log_init : Binds K a.d_Log_init ["self"] []
  F_Log_place_of : Fun K "place_of" "Log.place_of" s_Log_place_of a.f_Log_place_of a.d_Log_place_of
  b_Log_place_of : Binds K a.d_Log_place_of ["self", "move"] []
  mt_Log_place_of : Meth K a.c_Log "place_of" a.f_Log_place_of
  F_Log_hear : Fun K "hear" "Log.hear" s_Log_hear a.f_Log_hear a.d_Log_hear
  b_Log_hear : Binds K a.d_Log_hear ["self", "move"] []
  mt_Log_hear : Meth K a.c_Log "hear" a.f_Log_hear
  F_Log_moves : Fun K "moves" "Log.moves" s_Log_moves a.f_Log_moves a.d_Log_moves
  b_Log_moves : Binds K a.d_Log_moves ["self"] []
  mt_Log_moves : Meth K a.c_Log "moves" a.f_Log_moves
  F_Log_tree : Fun K "tree" "Log.tree" s_Log_tree a.f_Log_tree a.d_Log_tree
  b_Log_tree : Binds K a.d_Log_tree ["self"] []
  mt_Log_tree : Meth K a.c_Log "tree" a.f_Log_tree
  F_Log_steps : Fun K "steps" "Log.steps" s_Log_steps a.f_Log_steps a.d_Log_steps
  b_Log_steps : Binds K a.d_Log_steps ["self"] []
  mt_Log_steps : Meth K a.c_Log "steps" a.f_Log_steps
  F_Log_settle : Fun K "settle" "Log.settle" s_Log_settle a.f_Log_settle a.d_Log_settle
  b_Log_settle : Binds K a.d_Log_settle ["self", "time"] []
  mt_Log_settle : Meth K a.c_Log "settle" a.f_Log_settle
  F_Hand_init : Fun K "__init__" "Hand.__init__" s_Hand_init a.f_Hand_init a.d_Hand_init
  b_Hand_init : Binds K a.d_Hand_init ["self", "number"] []
  F_Hand_move : Fun K "move" "Hand.move" s_Hand_move a.f_Hand_move a.d_Hand_move
  b_Hand_move : Binds K a.d_Hand_move ["self", "folder", "under"] []
  mt_Hand_move : Meth K a.c_Hand "move" a.f_Hand_move
  F_Hand_hear : Fun K "hear" "Hand.hear" s_Hand_hear a.f_Hand_hear a.d_Hand_hear
  b_Hand_hear : Binds K a.d_Hand_hear ["self", "move"] []
  mt_Hand_hear : Meth K a.c_Hand "hear" a.f_Hand_hear
  F_Hand_tree : Fun K "tree" "Hand.tree" s_Hand_tree a.f_Hand_tree a.d_Hand_tree
  b_Hand_tree : Binds K a.d_Hand_tree ["self"] []
  mt_Hand_tree : Meth K a.c_Hand "tree" a.f_Hand_tree
  F_Hand_settle : Fun K "settle" "Hand.settle" s_Hand_settle a.f_Hand_settle a.d_Hand_settle
  b_Hand_settle : Binds K a.d_Hand_settle ["self", "time"] []
  mt_Hand_settle : Meth K a.c_Hand "settle" a.f_Hand_settle
  F_Room_init : Fun K "__init__" "Room.__init__" s_Room_init a.f_Room_init a.d_Room_init
  b_Room_init : Binds K a.d_Room_init ["self", "many"] []
  F_Room_line_of : Fun K "line_of" "Room.line_of" s_Room_line_of a.f_Room_line_of a.d_Room_line_of
  b_Room_line_of : Binds K a.d_Room_line_of ["self", "number"] []
  mt_Room_line_of : Meth K a.c_Room "line_of" a.f_Room_line_of
  F_Room_move : Fun K "move" "Room.move" s_Room_move a.f_Room_move a.d_Room_move
  b_Room_move : Binds K a.d_Room_move ["self", "number", "folder", "under"] []
  mt_Room_move : Meth K a.c_Room "move" a.f_Room_move
  F_Room_waiting : Fun K "waiting" "Room.waiting" s_Room_waiting a.f_Room_waiting a.d_Room_waiting
  b_Room_waiting : Binds K a.d_Room_waiting ["self", "number"] []
  mt_Room_waiting : Meth K a.c_Room "waiting" a.f_Room_waiting
  F_Room_carry : Fun K "carry" "Room.carry" s_Room_carry a.f_Room_carry a.d_Room_carry
  b_Room_carry : Binds K a.d_Room_carry ["self", "number", "place"] []
  mt_Room_carry : Meth K a.c_Room "carry" a.f_Room_carry
  F_Room_double : Fun K "double" "Room.double" s_Room_double a.f_Room_double a.d_Room_double
  b_Room_double : Binds K a.d_Room_double ["self", "number", "place"] []
  mt_Room_double : Meth K a.c_Room "double" a.f_Room_double
  F_Room_settle : Fun K "settle" "Room.settle" s_Room_settle a.f_Room_settle a.d_Room_settle
  b_Room_settle : Binds K a.d_Room_settle ["self"] []
  mt_Room_settle : Meth K a.c_Room "settle" a.f_Room_settle
  F__law_whole : Fun K "_law_whole" "_law_whole" s__law_whole a.f__law_whole a.d__law_whole
  b__law_whole : Binds K a.d__law_whole ["_law_found"] []
  g__law_whole : mg "_law_whole" = some (.ref a.f__law_whole)
  k__law_whole : PySem.W.keepIn K (.ref a.f__law_whole) = true
  F__law_cell_at : Fun K "_law_cell_at" "_law_cell_at" s__law_cell_at a.f__law_cell_at a.d__law_cell_at
  b__law_cell_at : Binds K a.d__law_cell_at ["_law_script", "_law_k"] []
  g__law_cell_at : mg "_law_cell_at" = some (.ref a.f__law_cell_at)
  k__law_cell_at : PySem.W.keepIn K (.ref a.f__law_cell_at) = true
  F__law_name : Fun K "_law_name" "_law_name" s__law_name a.f__law_name a.d__law_name
  b__law_name : Binds K a.d__law_name ["_law_k", "_law_cell"] []
  g__law_name : mg "_law_name" = some (.ref a.f__law_name)
  k__law_name : PySem.W.keepIn K (.ref a.f__law_name) = true
  F__law_way : Fun K "_law_way" "_law_way" s__law_way a.f__law_way a.d__law_way
  b__law_way : Binds K a.d__law_way ["_law_tree", "_law_folder"] []
  g__law_way : mg "_law_way" = some (.ref a.f__law_way)
  k__law_way : PySem.W.keepIn K (.ref a.f__law_way) = true
  F__law_same_tree : Fun K "_law_same_tree" "_law_same_tree" s__law_same_tree a.f__law_same_tree a.d__law_same_tree
  b__law_same_tree : Binds K a.d__law_same_tree ["_law_found", "_law_due"] []
  g__law_same_tree : mg "_law_same_tree" = some (.ref a.f__law_same_tree)
  k__law_same_tree : PySem.W.keepIn K (.ref a.f__law_same_tree) = true
  F__law_same_move : Fun K "_law_same_move" "_law_same_move" s__law_same_move a.f__law_same_move a.d__law_same_move
  b__law_same_move : Binds K a.d__law_same_move ["_law_found", "_law_due"] []
  g__law_same_move : mg "_law_same_move" = some (.ref a.f__law_same_move)
  k__law_same_move : PySem.W.keepIn K (.ref a.f__law_same_move) = true
  F__law_same_moves : Fun K "_law_same_moves" "_law_same_moves" s__law_same_moves a.f__law_same_moves a.d__law_same_moves
  b__law_same_moves : Binds K a.d__law_same_moves ["_law_found", "_law_due"] []
  g__law_same_moves : mg "_law_same_moves" = some (.ref a.f__law_same_moves)
  k__law_same_moves : PySem.W.keepIn K (.ref a.f__law_same_moves) = true
  F__law_deeds : Fun K "_law_deeds" "_law_deeds" s__law_deeds a.f__law_deeds a.d__law_deeds
  b__law_deeds : Binds K a.d__law_deeds ["_law_script", "_law_few", "_law_many"] []
  g__law_deeds : mg "_law_deeds" = some (.ref a.f__law_deeds)
  k__law_deeds : PySem.W.keepIn K (.ref a.f__law_deeds) = true
  F__law_told : Fun K "_law_told" "_law_told" s__law_told a.f__law_told a.d__law_told
  b__law_told : Binds K a.d__law_told ["_law_moves", "_law_move"] []
  g__law_told : mg "_law_told" = some (.ref a.f__law_told)
  k__law_told : PySem.W.keepIn K (.ref a.f__law_told) = true
  F__law_fold : Fun K "_law_fold" "_law_fold" s__law_fold a.f__law_fold a.d__law_fold
  b__law_fold : Binds K a.d__law_fold ["_law_tree", "_law_moves"] []
  g__law_fold : mg "_law_fold" = some (.ref a.f__law_fold)
  k__law_fold : PySem.W.keepIn K (.ref a.f__law_fold) = true
  F__law_steps_of : Fun K "_law_steps_of" "_law_steps_of" s__law_steps_of a.f__law_steps_of a.d__law_steps_of
  b__law_steps_of : Binds K a.d__law_steps_of ["_law_base", "_law_moves"] []
  g__law_steps_of : mg "_law_steps_of" = some (.ref a.f__law_steps_of)
  k__law_steps_of : PySem.W.keepIn K (.ref a.f__law_steps_of) = true
  F__law_same_steps : Fun K "_law_same_steps" "_law_same_steps" s__law_same_steps a.f__law_same_steps a.d__law_same_steps
  b__law_same_steps : Binds K a.d__law_same_steps ["_law_found", "_law_due"] []
  g__law_same_steps : mg "_law_same_steps" = some (.ref a.f__law_same_steps)
  k__law_same_steps : PySem.W.keepIn K (.ref a.f__law_same_steps) = true
  F__law_steps_asked : Fun K "_law_steps_asked" "_law_steps_asked" s__law_steps_asked a.f__law_steps_asked a.d__law_steps_asked
  b__law_steps_asked : Binds K a.d__law_steps_asked ["_law_log", "_law_base", "_law_moves", "_law_held"] []
  g__law_steps_asked : mg "_law_steps_asked" = some (.ref a.f__law_steps_asked)
  k__law_steps_asked : PySem.W.keepIn K (.ref a.f__law_steps_asked) = true
  F__law_no_hand : Fun K "_law_no_hand" "_law_no_hand" s__law_no_hand a.f__law_no_hand a.d__law_no_hand
  b__law_no_hand : Binds K a.d__law_no_hand ["_law_room", "_law_many", "_law_cell"] []
  g__law_no_hand : mg "_law_no_hand" = some (.ref a.f__law_no_hand)
  k__law_no_hand : PySem.W.keepIn K (.ref a.f__law_no_hand) = true
  F__law_no_room : Fun K "_law_no_room" "_law_no_room" s__law_no_room a.f__law_no_room a.d__law_no_room
  b__law_no_room : Binds K a.d__law_no_room ["_law_cell"] []
  g__law_no_room : mg "_law_no_room" = some (.ref a.f__law_no_room)
  k__law_no_room : PySem.W.keepIn K (.ref a.f__law_no_room) = true
  F__law_no_move : Fun K "_law_no_move" "_law_no_move" s__law_no_move a.f__law_no_move a.d__law_no_move
  b__law_no_move : Binds K a.d__law_no_move ["_law_room", "_law_number", "_law_cell"] []
  g__law_no_move : mg "_law_no_move" = some (.ref a.f__law_no_move)
  k__law_no_move : PySem.W.keepIn K (.ref a.f__law_no_move) = true
  F__law_hear : Fun K "_law_hear" "_law_hear" s__law_hear a.f__law_hear a.d__law_hear
  b__law_hear : Binds K a.d__law_hear ["_law_state", "_law_number", "_law_move"] []
  g__law_hear : mg "_law_hear" = some (.ref a.f__law_hear)
  k__law_hear : PySem.W.keepIn K (.ref a.f__law_hear) = true
  F__law_moved : Fun K "_law_moved" "_law_moved" s__law_moved a.f__law_moved a.d__law_moved
  b__law_moved : Binds K a.d__law_moved ["_law_room", "_law_state", "_law_number", "_law_deed", "_law_cell"] []
  g__law_moved : mg "_law_moved" = some (.ref a.f__law_moved)
  k__law_moved : PySem.W.keepIn K (.ref a.f__law_moved) = true
  F__law_carried : Fun K "_law_carried" "_law_carried" s__law_carried a.f__law_carried a.d__law_carried
  b__law_carried : Binds K a.d__law_carried ["_law_room", "_law_state", "_law_number", "_law_place", "_law_twice"] []
  g__law_carried : mg "_law_carried" = some (.ref a.f__law_carried)
  k__law_carried : PySem.W.keepIn K (.ref a.f__law_carried) = true
  F__law_emptied : Fun K "_law_emptied" "_law_emptied" s__law_emptied a.f__law_emptied a.d__law_emptied
  b__law_emptied : Binds K a.d__law_emptied ["_law_room", "_law_state", "_law_place"] []
  g__law_emptied : mg "_law_emptied" = some (.ref a.f__law_emptied)
  k__law_emptied : PySem.W.keepIn K (.ref a.f__law_emptied) = true
  F__law_settled : Fun K "_law_settled" "_law_settled" s__law_settled a.f__law_settled a.d__law_settled
  b__law_settled : Binds K a.d__law_settled ["_law_room", "_law_state"] []
  g__law_settled : mg "_law_settled" = some (.ref a.f__law_settled)
  k__law_settled : PySem.W.keepIn K (.ref a.f__law_settled) = true
  F__law_as_told : Fun K "_law_as_told" "_law_as_told" s__law_as_told a.f__law_as_told a.d__law_as_told
  b__law_as_told : Binds K a.d__law_as_told ["_law_room", "_law_state", "_law_number"] []
  g__law_as_told : mg "_law_as_told" = some (.ref a.f__law_as_told)
  k__law_as_told : PySem.W.keepIn K (.ref a.f__law_as_told) = true
  F__law_all_have : Fun K "_law_all_have" "_law_all_have" s__law_all_have a.f__law_all_have a.d__law_all_have
  b__law_all_have : Binds K a.d__law_all_have ["_law_room", "_law_state", "_law_due"] []
  g__law_all_have : mg "_law_all_have" = some (.ref a.f__law_all_have)
  k__law_all_have : PySem.W.keepIn K (.ref a.f__law_all_have) = true
  F__law_done : Fun K "_law_done" "_law_done" s__law_done a.f__law_done a.d__law_done
  b__law_done : Binds K a.d__law_done ["_law_room", "_law_state", "_law_number", "_law_deed", "_law_cell"] []
  g__law_done : mg "_law_done" = some (.ref a.f__law_done)
  k__law_done : PySem.W.keepIn K (.ref a.f__law_done) = true
  F_law : Fun K "law" "law" s_law a.f_law a.d_law
  b_law : Binds K a.d_law ["_law_script"] []
  g_law : mg "law" = some (.ref a.f_law)
  k_law : PySem.W.keepIn K (.ref a.f_law) = true
  cl_Log : Cls K a.c_Log
  g_Log : mg "Log" = some (.ref a.c_Log)
  m_Log : Mk K a.c_Log a.f_Log_init
  na_Log_since : NoAttr K a.c_Log "since"
  na_Log_base : NoAttr K a.c_Log "base"
  na_Log_kept : NoAttr K a.c_Log "kept"
  cl_Hand : Cls K a.c_Hand
  g_Hand : mg "Hand" = some (.ref a.c_Hand)
  m_Hand : Mk K a.c_Hand a.f_Hand_init
  na_Hand_number : NoAttr K a.c_Hand "number"
  na_Hand_clock : NoAttr K a.c_Hand "clock"
  na_Hand_log : NoAttr K a.c_Hand "log"
  cl_Room : Cls K a.c_Room
  g_Room : mg "Room" = some (.ref a.c_Room)
  m_Room : Mk K a.c_Room a.f_Room_init
  na_Room_hands : NoAttr K a.c_Room "hands"
  na_Room_lines : NoAttr K a.c_Room "lines"
  g_TreeError : mg "TreeError" = some (.ref a.c_TreeError)
  x_TreeError : PySem.W.excIn K a.c_TreeError [.type "ValueError", .type "Exception", .type "BaseException", .type "object"] "ValueError.__new__" = true
  ke_TreeError : PySem.W.keepIn K (.ref a.c_TreeError) = true
  be_TreeError : PySem.W.subIn K (.ref a.c_TreeError) (.type "BaseException") = some true
  te_TreeError : PySem.W.typeIn K (.ref a.c_TreeError) = some (.type "type")
  g_NoMove : mg "NoMove" = some (.ref a.c_NoMove)
  x_NoMove : PySem.W.excIn K a.c_NoMove [.type "ValueError", .type "Exception", .type "BaseException", .type "object"] "ValueError.__new__" = true
  ke_NoMove : PySem.W.keepIn K (.ref a.c_NoMove) = true
  be_NoMove : PySem.W.subIn K (.ref a.c_NoMove) (.type "BaseException") = some true
  te_NoMove : PySem.W.typeIn K (.ref a.c_NoMove) = some (.type "type")
  g_TooLate : mg "TooLate" = some (.ref a.c_TooLate)
  x_TooLate : PySem.W.excIn K a.c_TooLate [.type "ValueError", .type "Exception", .type "BaseException", .type "object"] "ValueError.__new__" = true
  ke_TooLate : PySem.W.keepIn K (.ref a.c_TooLate) = true
  be_TooLate : PySem.W.subIn K (.ref a.c_TooLate) (.type "BaseException") = some true
  te_TooLate : PySem.W.typeIn K (.ref a.c_TooLate) = some (.type "type")
  g_Clash : mg "Clash" = some (.ref a.c_Clash)
  x_Clash : PySem.W.excIn K a.c_Clash [.type "ValueError", .type "Exception", .type "BaseException", .type "object"] "ValueError.__new__" = true
  ke_Clash : PySem.W.keepIn K (.ref a.c_Clash) = true
  be_Clash : PySem.W.subIn K (.ref a.c_Clash) (.type "BaseException") = some true
  te_Clash : PySem.W.typeIn K (.ref a.c_Clash) = some (.type "type")
  g_NoHand : mg "NoHand" = some (.ref a.c_NoHand)
  x_NoHand : PySem.W.excIn K a.c_NoHand [.type "ValueError", .type "Exception", .type "BaseException", .type "object"] "ValueError.__new__" = true
  ke_NoHand : PySem.W.keepIn K (.ref a.c_NoHand) = true
  be_NoHand : PySem.W.subIn K (.ref a.c_NoHand) (.type "BaseException") = some true
  te_NoHand : PySem.W.typeIn K (.ref a.c_NoHand) = some (.type "type")
  ec_TreeError : ExcC K a.c_TreeError
  kv_TreeError : PySem.W.kitOne K (.ref a.c_TreeError) (.type "ValueError") = some true
  ki_TreeError_TreeError : PySem.W.kitOne K (.ref a.c_TreeError) (.ref a.c_TreeError) = some true
  ki_TreeError_NoMove : PySem.W.kitOne K (.ref a.c_TreeError) (.ref a.c_NoMove) = some false
  ki_TreeError_TooLate : PySem.W.kitOne K (.ref a.c_TreeError) (.ref a.c_TooLate) = some false
  ki_TreeError_Clash : PySem.W.kitOne K (.ref a.c_TreeError) (.ref a.c_Clash) = some false
  ki_TreeError_NoHand : PySem.W.kitOne K (.ref a.c_TreeError) (.ref a.c_NoHand) = some false
  ec_NoMove : ExcC K a.c_NoMove
  kv_NoMove : PySem.W.kitOne K (.ref a.c_NoMove) (.type "ValueError") = some true
  ki_NoMove_TreeError : PySem.W.kitOne K (.ref a.c_NoMove) (.ref a.c_TreeError) = some true
  ki_NoMove_NoMove : PySem.W.kitOne K (.ref a.c_NoMove) (.ref a.c_NoMove) = some true
  ki_NoMove_TooLate : PySem.W.kitOne K (.ref a.c_NoMove) (.ref a.c_TooLate) = some false
  ki_NoMove_Clash : PySem.W.kitOne K (.ref a.c_NoMove) (.ref a.c_Clash) = some false
  ki_NoMove_NoHand : PySem.W.kitOne K (.ref a.c_NoMove) (.ref a.c_NoHand) = some false
  ec_TooLate : ExcC K a.c_TooLate
  kv_TooLate : PySem.W.kitOne K (.ref a.c_TooLate) (.type "ValueError") = some true
  ki_TooLate_TreeError : PySem.W.kitOne K (.ref a.c_TooLate) (.ref a.c_TreeError) = some true
  ki_TooLate_NoMove : PySem.W.kitOne K (.ref a.c_TooLate) (.ref a.c_NoMove) = some false
  ki_TooLate_TooLate : PySem.W.kitOne K (.ref a.c_TooLate) (.ref a.c_TooLate) = some true
  ki_TooLate_Clash : PySem.W.kitOne K (.ref a.c_TooLate) (.ref a.c_Clash) = some false
  ki_TooLate_NoHand : PySem.W.kitOne K (.ref a.c_TooLate) (.ref a.c_NoHand) = some false
  ec_Clash : ExcC K a.c_Clash
  kv_Clash : PySem.W.kitOne K (.ref a.c_Clash) (.type "ValueError") = some true
  ki_Clash_TreeError : PySem.W.kitOne K (.ref a.c_Clash) (.ref a.c_TreeError) = some true
  ki_Clash_NoMove : PySem.W.kitOne K (.ref a.c_Clash) (.ref a.c_NoMove) = some false
  ki_Clash_TooLate : PySem.W.kitOne K (.ref a.c_Clash) (.ref a.c_TooLate) = some false
  ki_Clash_Clash : PySem.W.kitOne K (.ref a.c_Clash) (.ref a.c_Clash) = some true
  ki_Clash_NoHand : PySem.W.kitOne K (.ref a.c_Clash) (.ref a.c_NoHand) = some false
  ec_NoHand : ExcC K a.c_NoHand
  kv_NoHand : PySem.W.kitOne K (.ref a.c_NoHand) (.type "ValueError") = some true
  ki_NoHand_TreeError : PySem.W.kitOne K (.ref a.c_NoHand) (.ref a.c_TreeError) = some true
  ki_NoHand_NoMove : PySem.W.kitOne K (.ref a.c_NoHand) (.ref a.c_NoMove) = some false
  ki_NoHand_TooLate : PySem.W.kitOne K (.ref a.c_NoHand) (.ref a.c_TooLate) = some false
  ki_NoHand_Clash : PySem.W.kitOne K (.ref a.c_NoHand) (.ref a.c_Clash) = some false
  ki_NoHand_NoHand : PySem.W.kitOne K (.ref a.c_NoHand) (.ref a.c_NoHand) = some true
  ex_TreeError_TreeError : PySem.W.exmOne K (.ref a.c_TreeError) (.ref a.c_TreeError) = some true
  ex_TreeError_NoMove : PySem.W.exmOne K (.ref a.c_TreeError) (.ref a.c_NoMove) = some false
  ex_TreeError_TooLate : PySem.W.exmOne K (.ref a.c_TreeError) (.ref a.c_TooLate) = some false
  ex_TreeError_Clash : PySem.W.exmOne K (.ref a.c_TreeError) (.ref a.c_Clash) = some false
  ex_TreeError_NoHand : PySem.W.exmOne K (.ref a.c_TreeError) (.ref a.c_NoHand) = some false
  ex_NoMove_TreeError : PySem.W.exmOne K (.ref a.c_NoMove) (.ref a.c_TreeError) = some true
  ex_NoMove_NoMove : PySem.W.exmOne K (.ref a.c_NoMove) (.ref a.c_NoMove) = some true
  ex_NoMove_TooLate : PySem.W.exmOne K (.ref a.c_NoMove) (.ref a.c_TooLate) = some false
  ex_NoMove_Clash : PySem.W.exmOne K (.ref a.c_NoMove) (.ref a.c_Clash) = some false
  ex_NoMove_NoHand : PySem.W.exmOne K (.ref a.c_NoMove) (.ref a.c_NoHand) = some false
  ex_TooLate_TreeError : PySem.W.exmOne K (.ref a.c_TooLate) (.ref a.c_TreeError) = some true
  ex_TooLate_NoMove : PySem.W.exmOne K (.ref a.c_TooLate) (.ref a.c_NoMove) = some false
  ex_TooLate_TooLate : PySem.W.exmOne K (.ref a.c_TooLate) (.ref a.c_TooLate) = some true
  ex_TooLate_Clash : PySem.W.exmOne K (.ref a.c_TooLate) (.ref a.c_Clash) = some false
  ex_TooLate_NoHand : PySem.W.exmOne K (.ref a.c_TooLate) (.ref a.c_NoHand) = some false
  ex_Clash_TreeError : PySem.W.exmOne K (.ref a.c_Clash) (.ref a.c_TreeError) = some true
  ex_Clash_NoMove : PySem.W.exmOne K (.ref a.c_Clash) (.ref a.c_NoMove) = some false
  ex_Clash_TooLate : PySem.W.exmOne K (.ref a.c_Clash) (.ref a.c_TooLate) = some false
  ex_Clash_Clash : PySem.W.exmOne K (.ref a.c_Clash) (.ref a.c_Clash) = some true
  ex_Clash_NoHand : PySem.W.exmOne K (.ref a.c_Clash) (.ref a.c_NoHand) = some false
  ex_NoHand_TreeError : PySem.W.exmOne K (.ref a.c_NoHand) (.ref a.c_TreeError) = some true
  ex_NoHand_NoMove : PySem.W.exmOne K (.ref a.c_NoHand) (.ref a.c_NoMove) = some false
  ex_NoHand_TooLate : PySem.W.exmOne K (.ref a.c_NoHand) (.ref a.c_TooLate) = some false
  ex_NoHand_Clash : PySem.W.exmOne K (.ref a.c_NoHand) (.ref a.c_Clash) = some false
  ex_NoHand_NoHand : PySem.W.exmOne K (.ref a.c_NoHand) (.ref a.c_NoHand) = some true
  g_MOST : mg "MOST" = some (.int 60 a.t_MOST)
  n_len : mg "len" = none
  n_isinstance : mg "isinstance" = none
  n_range : mg "range" = none
  n_int : mg "int" = none
  n_bool : mg "bool" = none
  n_list : mg "list" = none
  n_tuple : mg "tuple" = none
  n_dict : mg "dict" = none
  n_max : mg "max" = none
  n_min : mg "min" = none
  n_ValueError : mg "ValueError" = none
section
variable {P : Program} {w : World} {K : PySem.W.Frag} {mg : Str → Option Value} {base : Heap} {a : Ad}
theorem ok_cell (T : Txt K mg a) : FnOk P w K mg base (L2.CX P w) 1 a.f__law_cell_at a.d__law_cell_at ["_law_script", "_law_k"] (spCell K) := by
  refine T.F__law_cell_at.okX sc__law_cell_at (fun vs H Q E h => ?_) (fun cdv A outer s H vs Q E hr h => ?_)
  · obtain ⟨p, ns, k, rfl, _⟩ := h
    rfl
  · obtain ⟨p, ns, k, rfl, hS, h0, q⟩ := h
    refine ⟨_, (pss_cons (ps_if (pt_cmpR (op_lt) (pv 1) (pe_callB (call_lenQ) (by rfl) T.n_len (by decide +kernel) (pa_cons (pv 0) pa_nil)) (nomark _)) (pss_one (ps_ret (pe_ix ix_list (pv 0) (pv 1) (fun _ _ => rfl)))) pss_nil)
 (pss_one (ps_ret pe_int))), ?_⟩
    os_names t_st
    change (_ : TS) _ [some _, some _] _
    os_names t_all
    · rename_i c
      exact r_ixL hS (cell_in h0 (by simpa using c)) q
    · rename_i c
      rw [cell_out (by simpa using c)] at q
      exact q
theorem ok_whole1 (T : Txt K mg a) : FnOk P w K mg base (L2.CX P w) 1 a.f__law_whole a.d__law_whole ["_law_found"] spWhole1 := by
  refine T.F__law_whole.okX sc__law_whole (fun vs H Q E h => ?_) (fun cdv A outer s H vs Q E hr h => ?_)
  · obtain ⟨n, rfl, _⟩ := h
    rfl
  · obtain ⟨n, rfl, q⟩ := h
    refine ⟨_, (pss_one (ps_ret (pe_and (pe_callB (call_isi) (by rfl) T.n_isinstance (by decide +kernel) (pa_cons (pv 0) (pa_cons (pe_bltn (v := .ty "int") (by rfl) T.n_int (by decide +kernel) rfl) pa_nil))) (pe_one (pe_not (pe_callB (call_isi) (by rfl) T.n_isinstance (by decide +kernel) (pa_cons (pv 0) (pa_cons (pe_bltn (v := .ty "bool") (by rfl) T.n_bool (by decide +kernel) rfl) pa_nil)))))))), ?_⟩
    os_names t_st
    change (_ : TS) _ [some _] _
    os_names t_all
    exact q
theorem ok_whole (T : Txt K mg a) : FnOk P w K mg base (L2.CX P w) 1 a.f_whole a.d_whole ["thing", "least"] spWhole := by
  refine T.F_whole.okX sc_whole (fun vs H Q E h => ?_) (fun cdv A outer s H vs Q E hr h => ?_)
  · obtain ⟨x, l, rfl, _⟩ := h
    rfl
  · obtain ⟨x, l, rfl, hx, q⟩ := h
    refine ⟨_, (pss_one (ps_ret (pe_and (pe_callB (call_isi) (by rfl) T.n_isinstance (by decide +kernel) (pa_cons (pv 0) (pa_cons (pe_bltn (v := .ty "int") (by rfl) T.n_int (by decide +kernel) rfl) pa_nil))) (pe_and (pe_not (pe_callB (call_isi) (by rfl) T.n_isinstance (by decide +kernel) (pa_cons (pv 0) (pa_cons (pe_bltn (v := .ty "bool") (by rfl) T.n_bool (by decide +kernel) rfl) pa_nil)))) (pe_one (pe_chain (op_le) (op_le) (pv 1) (pv 0) (pe_p10 (m := 1000000000000000000000000000000000000000000000000000000000000) (by decide +kernel)))))))), ?_⟩
    os_names t_st
    change (_ : TS) _ [some _, some _] _
    cases x with
    | int n =>
      os_names t_all
      all_goals exact Qbl q (by simp [isW, E60, *])
    | bl b =>
      os_names t_all
      exact q
    | str b =>
      os_names t_all
      exact q
    | non =>
      os_names t_all
      exact q
    | ref p =>
      rcases hx with ⟨xs, hx⟩ | ⟨xs, hx⟩ | ⟨xs, hx⟩
      all_goals
        os_names t_all
        exact q
    | byt b => exact hx.elim
    | flt b => exact hx.elim
    | ty b => exact hx.elim
theorem ok_isMove (T : Txt K mg a) : FnOk P w K mg base (L2.CX P w) 2 a.f_is_move a.d_is_move ["thing"] spIsMove := by
  have G_whole := ok_whole (P := P) (w := w) (base := base) T
  refine T.F_is_move.okX sc_is_move (fun vs H Q E h => ?_) (fun cdv A outer s H vs Q E hr h => ?_)
  · obtain ⟨x, rfl, _⟩ := h
    rfl
  · obtain ⟨x, rfl, h⟩ := h
    refine ⟨_, (pss_cons (ps_if (PW.pt (pw_or (pt_not (pt_val (pe_callB (call_isi) (by rfl) T.n_isinstance (by decide +kernel) (pa_cons (pv 0) (pa_cons (pe_bltn (v := .ty "tuple") (by rfl) T.n_tuple (by decide +kernel) rfl) pa_nil))))) (pw_or1 (pt_cmpR (op_ne) (pe_callB (call_lenQ) (by rfl) T.n_len (by decide +kernel) (pa_cons (pv 0) pa_nil)) pe_int (nomark _))))) (pss_one (ps_ret pe_bl)) pss_nil)
 (pss_one (ps_ret (pe_and (pe_call G_whole (hr.mono (by decide)) rfl T.g_whole T.k_whole T.b_whole .nil passL (pa_cons (pe_ix ix_tup (pv 0) pe_int (fun _ _ => rfl)) (pa_cons pe_int pa_nil))) (pe_and (pe_call G_whole (hr.mono (by decide)) rfl T.g_whole T.k_whole T.b_whole .nil passL (pa_cons (pe_ix ix_tup (pv 0) pe_int (fun _ _ => rfl)) (pa_cons pe_int pa_nil))) (pe_and (pe_call G_whole (hr.mono (by decide)) rfl T.g_whole T.k_whole T.b_whole .nil passL (pa_cons (pe_ix ix_tup (pv 0) pe_int (fun _ _ => rfl)) (pa_cons pe_int pa_nil))) (pe_one (pe_call G_whole (hr.mono (by decide)) rfl T.g_whole T.k_whole T.b_whole .nil passL (pa_cons (pe_ix ix_tup (pv 0) pe_int (fun _ _ => rfl)) (pa_cons pe_int pa_nil)))))))))), ?_⟩
    os_names t_st
    change (_ : TS) _ [some _] _
    rcases h with ⟨p, xs, rfl, hp, hx, q⟩ | ⟨hx, hn, q⟩
    · by_cases hl : xs.length = 4
      · match xs, hl with
        | [x1, x2, x3, x4], _ =>
          have k1 := hx x1 (by simp)
          have k2 := hx x2 (by simp)
          have k3 := hx x3 (by simp)
          have k4 := hx x4 (by simp)
          os_names t_all
          · exact absurd rfl (by assumption)
          all_goals
            refine c_whole (by assumption) ?_
            os_names t_all
            · refine c_whole (by assumption) ?_
              os_names t_all
              · refine c_whole (by assumption) ?_
                os_names t_all
                · refine c_whole (by assumption) ?_
                  exact Qbl q (by simp [moveB, *])
                · exact Qbl q (by simp [moveB, *])
              · exact Qbl q (by simp [moveB, *])
            · exact Qbl q (by simp [moveB, *])
      · rw [moveB_len hl] at q
        os_names t_go
        refine yes (nd_t (by omega)) ?_
        os_names t_go
        exact q
    · cases x with
      | ref p =>
        rcases hx with ⟨xs, hx⟩ | ⟨xs, hx⟩ | ⟨xs, hx⟩
        · os_names t_all
          exact q
        · exact (hn p xs rfl hx).elim
        · os_names t_all
          exact q
      | byt b => exact hx.elim
      | flt b => exact hx.elim
      | ty b => exact hx.elim
      | _ =>
        os_names t_all
        exact q
theorem ok_ahead (T : Txt K mg a) : FnOk P w K mg base (L2.CX P w) 1 a.f_ahead a.d_ahead ["one", "other"] (spAhead K) := by
  refine T.F_ahead.okX sc_ahead (fun vs H Q E h => ?_) (fun cdv A outer s H vs Q E hr h => ?_)
  · obtain ⟨p, p2, _, _, _, _, _, _, _, _, rfl, _⟩ := h
    rfl
  · obtain ⟨p, p2, t1, h1, t2, h2, x1, y1, x2, y2, rfl, S1, S2, q⟩ := h
    have k10 : atI [V.int t1, .int h1, x1, y1] 0 = some (.int t1) := at_of (j := 0) rfl rfl
    have k11 : atI [V.int t1, .int h1, x1, y1] 1 = some (.int h1) := at_of (j := 1) rfl rfl
    have k20 : atI [V.int t2, .int h2, x2, y2] 0 = some (.int t2) := at_of (j := 0) rfl rfl
    have k21 : atI [V.int t2, .int h2, x2, y2] 1 = some (.int h2) := at_of (j := 1) rfl rfl
    refine ⟨_, (pss_cons (ps_if (pt_cmpR (op_ne) (pe_ix ix_tup (pv 0) pe_int (fun _ _ => rfl)) (pe_ix ix_tup (pv 1) pe_int (fun _ _ => rfl)) (nomark _)) (pss_one (ps_ret (pe_cmpR (op_lt) (pe_ix ix_tup (pv 0) pe_int (fun _ _ => rfl)) (pe_ix ix_tup (pv 1) pe_int (fun _ _ => rfl)) (nomark _)))) pss_nil)
 (pss_one (ps_ret (pe_cmpR (op_lt) (pe_ix ix_tup (pv 0) pe_int (fun _ _ => rfl)) (pe_ix ix_tup (pv 1) pe_int (fun _ _ => rfl)) (nomark _))))), ?_⟩
    os_names t_st
    change (_ : TS) _ [some _, some _] _
    os_names t_all
    all_goals exact Qbl q (by simp [aheadB, *])
theorem ok_way_up (T : Txt K mg a) : FnOk P w K mg base (L2.CX P w) 1 a.f_way_up a.d_way_up ["tree", "folder"] spWay := by
  refine T.F_way_up.okX sc_way_up (fun vs H Q E h => ?_) (fun cdv A outer s H vs Q E hr h => ?_)
  · obtain ⟨d, t, f, rfl, _⟩ := h
    rfl
  · obtain ⟨d, t, f, rfl, hd, hA, hl, q⟩ := h
    have hu := hu_of hr
    refine ⟨_, (pss_cons (ps_set (i := 2) sc_way_up.nd rfl (Or.inl rfl) (pe_lst (pa_cons (pv 1) pa_nil)))
 (pss_cons (ps_while (passes_of rfl) (pt_cmp (pc_din hu (pe_ix ix_list (pv 2) (pe_un un_neg pe_int) (fun _ _ => rfl)) (pv 0))) (pss_one (ps_expr (pe_bm PySem.F.plainAttrs_list PySem.F.slot_list_append PySem.F.type_list_append mt_append (pv 2) (pa_cons (pe_dget hu (pv 0) (pe_ix ix_list (pv 2) (pe_un un_neg pe_int) (fun _ _ => rfl)) (fun _ _ => rfl)) pa_nil)))))
 (pss_one (ps_ret (pv 2))))), ?_⟩
    os_names t_st
    change (_ : TS) _ [some _, some _, none] _
    os_names t_go
    rename_i p hp
    have npd : p ≠ d := fun e => by subst e; rw [hp] at hd; cases hd
    refine r_while (fun m σ H' => ∃ pre x rest, σ = [some (.ref d), some (.int f), some (.ref p)] ∧ H' = upd H p (.lst ((pre ++ [x]).map V.int)) ∧ Path t x rest ∧ way t f = pre ++ rest ∧ m = rest.length) (way t f).length
      ⟨[], f, _, rfl, rfl, hA.path f, rfl, rfl⟩ ?_
    rintro m σ H' ⟨pre, x, rest, rfl, rfl, pa, hw, rfl⟩
    have hlen : (pre ++ rest).length ≤ t.length + 1 := by rw [← hw]; exact way_length hA f
    have ha : atI ((pre ++ [x]).map V.int) (-1) = some (.int x) := by
      rw [List.map_append]
      exact atI_last _ _
    have hd' : ∀ o, upd H p o d = some (.dK (enc t)) := fun o => keep hd hp
    os_names t_go
    rw [valV_enc]
    cases pa with
    | top hx =>
      rw [hx]
      refine r_w (fun z => by cases z) (fun _ => ?_)
      os_names t_go
      rw [← hw]
      exact q p hp
    | @step _ u l hx pl =>
      rw [hx]
      refine r_w (fun _ => ?_) (fun z => by cases z)
      os_names t_go
      refine r_dGet (hd' _) (by rw [valV_enc, hx]; rfl) ?_
      os_names t_go
      refine r_append upd_same (lt_line (by simp at hlen ⊢; omega)) ?_
      rw [upd_upd]
      refine ⟨l.length, by simp, pre ++ [x], u, l, rfl, by simp, pl, by simp [hw], rfl⟩
theorem ok__law_way (T : Txt K mg a) : FnOk P w K mg base (L2.CX P w) 1 a.f__law_way a.d__law_way ["_law_tree", "_law_folder"] spWay := by
  refine T.F__law_way.okX sc__law_way (fun vs H Q E h => ?_) (fun cdv A outer s H vs Q E hr h => ?_)
  · obtain ⟨d, t, f, rfl, _⟩ := h
    rfl
  · obtain ⟨d, t, f, rfl, hd, hA, hl, q⟩ := h
    have hu := hu_of hr
    refine ⟨_, (pss_cons (ps_set (i := 2) sc__law_way.nd rfl (Or.inl rfl) (pe_lst (pa_cons (pv 1) pa_nil)))
 (pss_cons (ps_while (passes_of rfl) (pt_cmp (pc_din hu (pe_ix ix_list (pv 2) (pe_un un_neg pe_int) (fun _ _ => rfl)) (pv 0))) (pss_one (ps_expr (pe_bm PySem.F.plainAttrs_list PySem.F.slot_list_append PySem.F.type_list_append mt_append (pv 2) (pa_cons (pe_dget hu (pv 0) (pe_ix ix_list (pv 2) (pe_un un_neg pe_int) (fun _ _ => rfl)) (fun _ _ => rfl)) pa_nil)))))
 (pss_one (ps_ret (pv 2))))), ?_⟩
    os_names t_st
    change (_ : TS) _ [some _, some _, none] _
    os_names t_go
    rename_i p hp
    have npd : p ≠ d := fun e => by subst e; rw [hp] at hd; cases hd
    refine r_while (fun m σ H' => ∃ pre x rest, σ = [some (.ref d), some (.int f), some (.ref p)] ∧ H' = upd H p (.lst ((pre ++ [x]).map V.int)) ∧ Path t x rest ∧ way t f = pre ++ rest ∧ m = rest.length) (way t f).length
      ⟨[], f, _, rfl, rfl, hA.path f, rfl, rfl⟩ ?_
    rintro m σ H' ⟨pre, x, rest, rfl, rfl, pa, hw, rfl⟩
    have hlen : (pre ++ rest).length ≤ t.length + 1 := by rw [← hw]; exact way_length hA f
    have ha : atI ((pre ++ [x]).map V.int) (-1) = some (.int x) := by
      rw [List.map_append]
      exact atI_last _ _
    have hd' : ∀ o, upd H p o d = some (.dK (enc t)) := fun o => keep hd hp
    os_names t_go
    rw [valV_enc]
    cases pa with
    | top hx =>
      rw [hx]
      refine r_w (fun z => by cases z) (fun _ => ?_)
      os_names t_go
      rw [← hw]
      exact q p hp
    | @step _ u l hx pl =>
      rw [hx]
      refine r_w (fun _ => ?_) (fun z => by cases z)
      os_names t_go
      refine r_dGet (hd' _) (by rw [valV_enc, hx]; rfl) ?_
      os_names t_go
      refine r_append upd_same (lt_line (by simp at hlen ⊢; omega)) ?_
      rw [upd_upd]
      refine ⟨l.length, by simp, pre ++ [x], u, l, rfl, by simp, pl, by simp [hw], rfl⟩
theorem ok_closes (T : Txt K mg a) : FnOk P w K mg base (L2.CX P w) 2 a.f_closes a.d_closes ["tree", "folder", "under"] spCloses := by
  have G_way_up := ok_way_up (P := P) (w := w) (base := base) T
  refine T.F_closes.okX sc_closes (fun vs H Q E h => ?_) (fun cdv A outer s H vs Q E hr h => ?_)
  · obtain ⟨d, t, f, o, rfl, _⟩ := h
    rfl
  · obtain ⟨d, t, f, u, rfl, hd, hA, hl, q⟩ := h
    refine ⟨_, (pss_one (ps_ret (pe_cmpR (op_in_seq) (pv 1) (pe_call G_way_up (hr.mono (by decide)) rfl T.g_way_up T.k_way_up T.b_way_up .nil passL (pa_cons (pv 0) (pa_cons (pv 2) pa_nil))) rfl))), ?_⟩
    os_names t_st
    change (_ : TS) _ [some _, some _, some _] _
    os_names t_goi
    exact q _ (by os_names t_sm)
theorem ok_put (T : Txt K mg a) : FnOk P w K mg base (L2.CX P w) 3 a.f_put a.d_put ["tree", "folder", "under"] spPut := by
  have G_closes := ok_closes (P := P) (w := w) (base := base) T
  refine T.F_put.okX sc_put (fun vs H Q E h => ?_) (fun cdv A outer s H vs Q E hr h => ?_)
  · obtain ⟨d, t, f, o, rfl, _⟩ := h
    rfl
  · obtain ⟨d, t, f, u, rfl, hd, hA, hl, q⟩ := h
    have hu := hu_of hr
    refine ⟨_, (pss_cons (ps_set (i := 3) sc_put.nd rfl (Or.inl rfl) (pe_callTy (call_dictQ) (by rfl) T.n_dict (by decide +kernel) (pa_cons (pv 0) pa_nil)))
 (pss_cons (ps_if (pt_not (pt_val (pe_call G_closes (hr.mono (by decide)) rfl T.g_closes T.k_closes T.b_closes .nil passL (pa_cons (pv 0) (pa_cons (pv 1) (pa_cons (pv 2) pa_nil)))))) (pss_one (ps_dput hu (pv 3) (pv 1) (pv 2) rfl)) pss_nil)
 (pss_one (ps_ret (pv 3))))), ?_⟩
    os_names t_st
    change (_ : TS) _ [some _, some _, some _, none] _
    os_names t_go
    rename_i p hp H' hs
    have hp' : H p = none := hp
    have hH : H' p = some (.dK (enc t)) := hs _ _ upd_same
    by_cases c : f ∈ way t u
    · rw [decide_eq_true c]
      os_names t_goi
      exact q _ _ hp' (by os_names t_sm) (by rw [putT_ring c]; exact hH)
    · rw [decide_eq_false c]
      os_names t_goi
      exact q _ _ hp' (by os_names t_sm) (by rw [putT_put c]; exact upd_same)
theorem ok_LogInit (T : Txt K mg a) : FnOk P w K mg base (L2.CX P w) 1 a.f_Log_init a.d_Log_init ["self"] (spLogInit a.c_Log) := by
  have cLg := T.cl_Log
  have nLs := T.na_Log_since
  have nLb := T.na_Log_base
  have nLk := T.na_Log_kept
  refine T.F_Log_init.okX sc_Log_init (fun vs H Q E h => ?_) (fun cdv A outer s H vs Q E hr h => ?_)
  · obtain ⟨p, dx, rfl, _⟩ := h
    rfl
  · obtain ⟨p, dx, rfl, hp, q⟩ := h
    have hu := hu_of hr
    refine ⟨_, (pss_cons (ps_fld (pv 0) pe_int rfl)
 (pss_cons (ps_fld (pv 0) pe_dnewK rfl)
 (pss_one (ps_fld (pv 0) (pe_lst pa_nil) rfl)))), ?_⟩
    os_names t_st
    change (_ : TS) _ [some _] _
    os_names t_go
    refine r_sFld hp cLg nLs (of_decide_eq_true rfl) ?_
    os_names t_go
    rename_i b hb
    refine r_sFld (by os_names t_hp) cLg nLb (of_decide_eq_true rfl) ?_
    os_names t_go
    rename_i l hl
    refine r_sFld (by os_names t_hp) cLg nLk (of_decide_eq_true rfl) ?_
    rw [put_init]
    obtain ⟨hb', nbp⟩ := new_free hb
    obtain ⟨hl1, nlp⟩ := new_free hl
    obtain ⟨hl2, nlb⟩ := new_free hl1
    obtain ⟨hl', _⟩ := new_free hl2
    refine q b l _ hb' hl' (fun c o n e => ?_) ⟨upd_same, ?_, ?_, rfl⟩
    · have n1 := ne_of_none e hb'
      have n2 := ne_of_none e hl'
      rw [upd_ne n, upd_ne n2, upd_ne n, upd_ne n1, upd_ne n]
      exact e
    · show upd _ p _ b = _
      rw [upd_ne nbp, upd_ne nlb.symm, upd_ne nbp, upd_same]
      rfl
    · show upd _ p _ l = _
      rw [upd_ne nlp, upd_same]
      rfl
theorem ok_place (T : Txt K mg a) : FnOk P w K mg base (L2.CX P w) 2 a.f_Log_place_of a.d_Log_place_of ["self", "move"] (spPlace a.c_Log) := by
  have cLg := T.cl_Log
  have nLs := T.na_Log_since
  have nLb := T.na_Log_base
  have nLk := T.na_Log_kept
  have G_ahead := ok_ahead (P := P) (w := w) (base := base) T
  refine T.F_Log_place_of.okX sc_Log_place_of (fun vs H Q E h => ?_) (fun cdv A outer s H vs Q E hr h => ?_)
  · obtain ⟨p, g, x, m, rfl, _⟩ := h
    rfl
  · obtain ⟨p, g, x, m, rfl, L, hx, hlen, q⟩ := h
    obtain ⟨hp, hb, hl, hm⟩ := L
    have hlm := hm.length
    refine ⟨_, (pss_cons (ps_set (i := 2) sc_Log_place_of.nd rfl (Or.inl rfl) pe_int)
 (pss_cons (ps_while (passes_of rfl) (PW.pt (pw_and (pt_cmpR (op_lt) (pv 2) (pe_callB (call_lenQ) (by rfl) T.n_len (by decide +kernel) (pa_cons (pe_fld (pv 0) rfl) pa_nil)) (nomark _)) (pw_and1 (pt_val (pe_call G_ahead (hr.mono (by decide)) rfl T.g_ahead T.k_ahead T.b_ahead .nil passL (pa_cons (pe_ix ix_list (pe_fld (pv 0) rfl) (pv 2) (fun _ _ => rfl)) (pa_cons (pv 1) pa_nil))))))) (pss_one (ps_set (i := 2) sc_Log_place_of.nd rfl (Or.inl rfl) (pe_op op_add (pv 2) pe_int))))
 (pss_one (ps_ret (pv 2))))), ?_⟩
    os_names t_st
    change (_ : TS) _ [some _, some _, none] _
    os_names t_go
    refine r_while (fun k σ H' => ∃ i : Nat, σ = [some (.ref p), some (.ref x), some (.int i)] ∧ H' = H ∧ i ≤ posM m g.ms ∧ k = posM m g.ms - i) (posM m g.ms) ⟨0, rfl, rfl, Nat.zero_le _, rfl⟩ ?_
    rintro k σ H' ⟨i, rfl, rfl, hi, rfl⟩
    os_names t_go
    by_cases hlt : i < g.ms.length
    · obtain ⟨y, n, hat, hn, _, hy⟩ := atR hm hlt
      refine yes (d_t (by rw [List.length_map]; omega)) ?_
      os_names t_go
      refine c_aheadM hy hx ?_
      by_cases c : Bef n m
      · rw [decide_eq_true c]
        os_names t_go
        refine r_w (fun _ => ?_) (fun z => by cases z)
        os_names t_go
        have := posM_up hi hn c
        exact ⟨posM m g.ms - (i + 1), by omega, i + 1, rfl, rfl, this, rfl⟩
      · rw [decide_eq_false c]
        os_names t_go
        refine r_w (fun z => by cases z) (fun _ => ?_)
        os_names t_go
        rw [posM_end hi hn c]
        exact q
    · refine no (d_f (by rw [List.length_map]; omega)) ?_
      refine r_w (fun z => by cases z) (fun _ => ?_)
      os_names t_go
      rw [posM_full hi hlt]
      exact q
theorem ok_moves (T : Txt K mg a) : FnOk P w K mg base (L2.CX P w) 1 a.f_Log_moves a.d_Log_moves ["self"] (spMoves a.c_Log) := by
  have cLg := T.cl_Log
  have nLs := T.na_Log_since
  have nLb := T.na_Log_base
  have nLk := T.na_Log_kept
  refine T.F_Log_moves.okX sc_Log_moves (fun vs H Q E h => ?_) (fun cdv A outer s H vs Q E hr h => ?_)
  · obtain ⟨p, g, rfl, _⟩ := h
    rfl
  · obtain ⟨p, g, rfl, L, q⟩ := h
    obtain ⟨hp, hb, hl, hm⟩ := L
    refine ⟨_, (pss_one (ps_ret (pe_callTy (call_listQ) (by rfl) T.n_list (by decide +kernel) (pa_cons (pe_fld (pv 0) rfl) pa_nil)))), ?_⟩
    os_names t_st
    change (_ : TS) _ [some _] _
    os_names t_go
    exact q _ (by assumption)
theorem ok_hear (T : Txt K mg a) : FnOk P w K mg base (L2.CX P w) 3 a.f_Log_hear a.d_Log_hear ["self", "move"] (spHear a.c_Log a.c_NoMove a.c_TooLate a.c_Clash) := by
  have cLg := T.cl_Log
  have nLs := T.na_Log_since
  have nLb := T.na_Log_base
  have nLk := T.na_Log_kept
  have G_ahead := ok_ahead (P := P) (w := w) (base := base) T
  have G_is_move := ok_isMove (P := P) (w := w) (base := base) T
  have G_Log_place_of := ok_place (P := P) (w := w) (base := base) T
  refine T.F_Log_hear.okX sc_Log_hear (fun vs H Q E h => ?_) (fun cdv A outer s H vs Q E hr h => ?_)
  · obtain ⟨p, g, x, rfl, _⟩ := h
    rfl
  · obtain ⟨p, g, x, rfl, L, hs, hlen, h⟩ := h
    obtain ⟨hp, hb, hl, hm⟩ := id L
    have hlm := hm.length
    refine ⟨_, (pss_cons (ps_if (pt_not (pt_val (pe_call G_is_move (hr.mono (by decide)) rfl T.g_is_move T.k_is_move T.b_is_move .nil passL (pa_cons (pv 1) pa_nil)))) (pss_one (ps_raiseQ rfl (takes_of rfl rfl rfl rfl) T.x_NoMove T.g_NoMove T.ke_NoMove T.be_NoMove T.te_NoMove)) pss_nil)
 (pss_cons (ps_if (pt_cmpR (op_lt) (pe_ix ix_tup (pv 1) pe_int (fun _ _ => rfl)) (pe_fld (pv 0) rfl) (nomark _)) (pss_one (ps_raiseQ rfl (takes_of rfl rfl rfl rfl) T.x_TooLate T.g_TooLate T.ke_TooLate T.be_TooLate T.te_TooLate)) pss_nil)
 (pss_cons (ps_set (i := 2) sc_Log_hear.nd rfl (Or.inl rfl) (pe_meth (pv 0) T.cl_Log T.mt_Log_place_of G_Log_place_of (hr.mono (by decide)) T.b_Log_place_of .nil passL (pa_cons (pv 1) pa_nil)))
 (pss_cons (ps_if (PW.pt (pw_and (pt_cmpR (op_lt) (pv 2) (pe_callB (call_lenQ) (by rfl) T.n_len (by decide +kernel) (pa_cons (pe_fld (pv 0) rfl) pa_nil)) (nomark _)) (pw_and1 (pt_not (pt_val (pe_call G_ahead (hr.mono (by decide)) rfl T.g_ahead T.k_ahead T.b_ahead .nil passL (pa_cons (pv 1) (pa_cons (pe_ix ix_list (pe_fld (pv 0) rfl) (pv 2) (fun _ _ => rfl)) pa_nil)))))))) (pss_cons (ps_if (pt_cmpR (op_neD (T64 hr)) (pe_ix ix_list (pe_fld (pv 0) rfl) (pv 2) (fun _ _ => rfl)) (pv 1) (nomark _)) (pss_one (ps_raiseQ rfl (takes_of rfl rfl rfl rfl) T.x_Clash T.g_Clash T.ke_Clash T.be_Clash T.te_Clash)) pss_nil)
 (pss_one (ps_ret pe_bl))) pss_nil)
 (pss_cons (ps_expr (pe_bm PySem.F.plainAttrs_list PySem.F.slot_list_insert PySem.F.type_list_insert mt_insQ (pe_fld (pv 0) rfl) (pa_cons (pv 2) (pa_cons (pv 1) pa_nil))))
 (pss_one (ps_ret pe_bl))))))), ?_⟩
    os_names t_st
    change (_ : TS) _ [some _, some _, none] _
    os_names t_go
    rcases h with ⟨hbad, e⟩ | ⟨a', m, rfl, hx, ok, e1, e2, q1, q2⟩
    · rcases hbad with ⟨a', xs, rfl, hx, hk, hb⟩ | ⟨hk, hn⟩
      · refine c_isMove hx hk ?_
        rw [hb]
        os_names t_go
        exact e
      · refine c_isMoveN hk hn ?_
        os_names t_go
        exact e
    · refine c_isMove hx (known_mv _ m) ?_
      rw [moveB_of ok]
      have k0 := m.at0
      os_names t_go
      os_names t_sp
      · os_names t_go
        exact e1 (by assumption)
      · rename_i hge
        have hge : g.s ≤ m.t := by omega
        os_names t_go
        refine c_place L hx hlen ?_
        os_names t_go
        have hpl := posM_le m g.ms
        by_cases hlt : posM m g.ms < g.ms.length
        · obtain ⟨y, n, hat, hn, _, hy⟩ := atR hm hlt
          refine yes (d_t (by rw [List.length_map]; omega)) ?_
          os_names t_go
          refine c_aheadM hx hy ?_
          by_cases c : Bef m n
          · rw [decide_eq_true c]
            os_names t_go
            refine r_ins hl (by rw [List.length_map]; omega) (by omega) ?_
            rw [← insA_map]
            os_names t_go
            exact q2 hge (new_of hs fun x ex => by rw [hn] at ex; exact Option.some.inj ex ▸ c)
          · rw [decide_eq_false c]
            os_names t_go
            refine r_neMv hy hx ?_
            os_names t_go
            by_cases d : n = m
            · refine no (nd_f d) ?_
              os_names t_go
              exact q1 hge (d ▸ List.mem_of_getElem? hn)
            · refine yes (nd_t d) ?_
              os_names t_go
              exact e2 hge (clash_of hn c d)
        · refine no (d_f (by rw [List.length_map]; omega)) ?_
          os_names t_go
          refine r_ins hl (by rw [List.length_map]; omega) (by omega) ?_
          rw [← insA_map]
          os_names t_go
          exact q2 hge (new_of hs fun x ex => by
            have z := (List.getElem?_eq_some_iff.mp ex).1
            omega)
theorem ok_logTree (T : Txt K mg a) : FnOk P w K mg base (L2.CX P w) 4 a.f_Log_tree a.d_Log_tree ["self"] (spLogTree a.c_Log) := by
  have cLg := T.cl_Log
  have nLs := T.na_Log_since
  have nLb := T.na_Log_base
  have nLk := T.na_Log_kept
  have G_put := ok_put (P := P) (w := w) (base := base) T
  refine T.F_Log_tree.okX sc_Log_tree (fun vs H Q E h => ?_) (fun cdv A outer s H vs Q E hr h => ?_)
  · obtain ⟨p, g, rfl, _⟩ := h
    rfl
  · obtain ⟨p, g, rfl, L, hA, hlen, q⟩ := h
    obtain ⟨hp, hb, hl, hm⟩ := L
    have hlm := hm.length
    have hu := hu_of hr
    refine ⟨_, (pss_cons (ps_set (i := 1) sc_Log_tree.nd rfl (Or.inl rfl) (pe_callTy (call_dictQ) (by rfl) T.n_dict (by decide +kernel) (pa_cons (pe_fld (pv 0) rfl) pa_nil)))
 (pss_cons (ps_for (passes_of rfl) rfl (pi_list (pe_fld (pv 0) rfl)) (pg_name (i := 2) sc_Log_tree.nd rfl (Or.inl rfl)) (pss_one (ps_set (i := 1) sc_Log_tree.nd rfl (Or.inl rfl) (pe_call G_put (hr.mono (by decide)) rfl T.g_put T.k_put T.b_put .nil passL (pa_cons (pv 1) (pa_cons (pe_ix ix_tup (pv 2) pe_int (fun _ _ => rfl)) (pa_cons (pe_ix ix_tup (pv 2) pe_int (fun _ _ => rfl)) pa_nil)))))))
 (pss_one (ps_ret (pv 1))))), ?_⟩
    os_names t_st
    change (_ : TS) _ [some _, none, none] _
    os_names t_go
    rename_i d0 hd0
    have hd0 : H d0 = none := hd0
    refine r_forL (xs := g.as.map V.ref) (fun i σ H' => ∃ d v, σ = [some (.ref p), some (.ref d), v] ∧ Same H H' ∧ H d = none ∧ H' d = some (.dK (enc (foldT g.t (g.ms.take i))))) ⟨d0, none, rfl, Same.new (Same.refl _) hd0, hd0, upd_same⟩ (fun i σ H' _ ⟨_, _, _, hs, _⟩ => SqL.of (hs _ _ hl)) ?_ ?_
    · rintro i x σ H' hi ⟨d, v, rfl, hs, hd, hdd⟩
      obtain ⟨y, n, rfl, _, hn, hy⟩ := (hm.same hs).get hi
      have k2 := n.at2
      have k3 := n.at3
      have hA' : Acyc (foldT g.t (g.ms.take i)) := hA.foldT _
      have hl2 : (foldT g.t (g.ms.take i)).length ≤ 100000 := by
        have z := foldT_length g.t (g.ms.take i)
        rw [List.length_take] at z
        omega
      os_names t_go
      rename_i d2 H2 hs2 hH2 hd2
      have hd2 : H' d2 = none := hd2
      exact ⟨d2, _, rfl, hs.trans hs2, hs.free hd2, by rw [take_at hn, foldT_snoc]; exact hH2⟩
    · rintro σ H' ⟨d, v, rfl, hs, hd, hdd⟩
      os_names t_go
      rw [List.length_map, hlm, List.take_length] at hdd
      exact q d H' hd hs hdd
theorem ok_logSteps (T : Txt K mg a) : FnOk P w K mg base (L2.CX P w) 2 a.f_Log_steps a.d_Log_steps ["self"] (spSteps a.c_Log) := by
  have cLg := T.cl_Log
  have nLs := T.na_Log_since
  have nLb := T.na_Log_base
  have nLk := T.na_Log_kept
  have G_way_up := ok_way_up (P := P) (w := w) (base := base) T
  refine T.F_Log_steps.okX sc_Log_steps (fun vs H Q E h => ?_) (fun cdv A outer s H vs Q E hr h => ?_)
  · obtain ⟨p, g, rfl, _⟩ := h
    rfl
  · obtain ⟨p, g, rfl, L, hA, hlen, q⟩ := h
    obtain ⟨hp, hb, hl, hm⟩ := L
    have hlm := hm.length
    have hu := hu_of hr
    refine ⟨_, (pss_cons (ps_set (i := 1) sc_Log_steps.nd rfl (Or.inl rfl) (pe_lst pa_nil))
 (pss_cons (ps_set (i := 2) sc_Log_steps.nd rfl (Or.inl rfl) (pe_callTy (call_dictQ) (by rfl) T.n_dict (by decide +kernel) (pa_cons (pe_fld (pv 0) rfl) pa_nil)))
 (pss_cons (ps_for (passes_of rfl) rfl (pi_list (pe_fld (pv 0) rfl)) (pg_name (i := 3) sc_Log_steps.nd rfl (Or.inl rfl)) (pss_cons (ps_set (i := 4) sc_Log_steps.nd rfl (Or.inl rfl) (pe_call G_way_up (hr.mono (by decide)) rfl T.g_way_up T.k_way_up T.b_way_up .nil passL (pa_cons (pv 2) (pa_cons (pe_ix ix_tup (pv 3) pe_int (fun _ _ => rfl)) pa_nil))))
 (pss_one (ps_if (pt_cmpR (op_in_seq) (pe_ix ix_tup (pv 3) pe_int (fun _ _ => rfl)) (pv 4) rfl) (pss_one (ps_expr (pe_bm PySem.F.plainAttrs_list PySem.F.slot_list_append PySem.F.type_list_append mt_append (pv 1) (pa_cons (pe_tup (pa_cons (pv 3) (pa_cons (pe_slice sl_list (pv 4) po_none (po_some (pe_op op_add (pe_bm PySem.F.plainAttrs_list PySem.F.slot_list_index PySem.F.type_list_index mt_index (pv 4) (pa_cons (pe_ix ix_tup (pv 3) pe_int (fun _ _ => rfl)) pa_nil)) pe_int))) pa_nil))) pa_nil)))) (pss_cons (ps_expr (pe_bm PySem.F.plainAttrs_list PySem.F.slot_list_append PySem.F.type_list_append mt_append (pv 1) (pa_cons (pe_tup (pa_cons (pv 3) (pa_cons (pe_lst pa_nil) pa_nil))) pa_nil)))
 (pss_one (ps_dput hu (pv 2) (pe_ix ix_tup (pv 3) pe_int (fun _ _ => rfl)) (pe_ix ix_tup (pv 3) pe_int (fun _ _ => rfl)) rfl)))))))
 (pss_one (ps_ret (pv 1)))))), ?_⟩
    os_names t_st
    change (_ : TS) _ [some _, none, none, none, none] _
    os_names t_go
    rename_i F hF D hD
    have hF' : H F = none := hF
    have hD' : H D = none := Fresh.back hD (show Same H _ by os_names t_sm)
    have nFD : F ≠ D := (new_free hD).2.symm
    refine r_forL (xs := g.as.map V.ref) (fun i σ H' => ∃ rows v w', σ = [some (.ref p), some (.ref F), some (.ref D), v, w'] ∧ Same H H' ∧ H' F = some (.lst (rows.map rowV)) ∧ H' D = some (.dK (enc (foldT g.t (g.ms.take i)))) ∧ RowsAt H H' F rows (g.ms.take i) (stepW g.t (g.ms.take i)))
      ⟨[], none, none, rfl, by os_names t_sm, by os_names t_hp, upd_same, RowsAt.nil⟩ (fun i σ H' _ ⟨_, _, _, _, hs, _⟩ => SqL.of (hs _ _ hl)) ?_ ?_
    · rintro i x σ H' hi ⟨rows, v, w', rfl, hs, hFr, hDt, R⟩
      obtain ⟨y, n, rfl, hy0, hn, hy⟩ := (hm.same hs).get hi
      have hrl := R.length
      rw [List.length_take] at hrl
      have k2 := n.at2
      have k3 := n.at3
      have hA' : Acyc (foldT g.t (g.ms.take i)) := hA.foldT _
      have hl2 : (foldT g.t (g.ms.take i)).length ≤ 100000 := by
        have z := foldT_length g.t (g.ms.take i)
        rw [List.length_take] at z
        omega
      os_names t_go
      rename_i wy hwy
      have hwy : Fresh H' wy := hwy
      have hrow : (rows.map rowV).length ≤ 100000 := by rw [List.length_map]; omega
      have nyF : y ≠ F := fun z => by rw [z, hFr] at hy; cases hy
      have nyD : y ≠ D := fun z => by rw [z, hDt] at hy; cases hy
      by_cases c : n.f ∈ way (foldT g.t (g.ms.take i)) n.u
      · refine yes (d_t c) ?_
        os_names t_go
        refine r_idx (by os_names t_sql) c ?_
        os_names t_go
        rename_i w2 hw2 r2 hr2
        rw [cutL_up c] at *
        have f2 : Fresh H' w2 := Fresh.back hw2 (by os_names t_sm)
        have f3 : Fresh H' r2 := Fresh.back hr2 (by os_names t_sm)
        refine ⟨rows ++ [⟨r2, y, w2, n, upTo n.f (way (foldT g.t (g.ms.take i)) n.u)⟩], _, _, rfl, by os_names t_sm, by rw [upd_same, List.map_append]; rfl, ?_, ?_⟩
        · rw [take_at hn, foldT_snoc, putT_ring c]
          os_names t_hp
        · rw [take_at hn, stepW_snoc, w1_in c]
          exact R.add hs (by os_names t_sm) (by os_names t_hp) (by os_names t_hp) (by os_names t_hp) f2 f3 hFr
      · refine no (d_f c) ?_
        os_names t_go
        rename_i w2 hw2 r2 hr2
        have f2 : Fresh H' w2 := Fresh.back hw2 (by os_names t_sm)
        have f3 : Fresh H' r2 := Fresh.back hr2 (by os_names t_sm)
        refine ⟨rows ++ [⟨r2, y, w2, n, []⟩], _, _, rfl, by os_names t_sm, by rw [upd_ne nFD, upd_same, List.map_append]; rfl, ?_, ?_⟩
        · rw [take_at hn, foldT_snoc, putT_put c]
          exact upd_same
        · rw [take_at hn, stepW_snoc, w1_out c]
          exact (R.add hs (by os_names t_sm) (by os_names t_hp) (by os_names t_hp) (by os_names t_hp) f2 f3 hFr).dict (by os_names t_hp)
    · rintro σ H' ⟨rows, v, w', rfl, hs, hFr, hDt, R⟩
      os_names t_go
      rw [List.length_map, hlm, List.take_length] at R
      exact q F rows H' hF' hs hFr R
theorem ok_settle (T : Txt K mg a) : FnOk P w K mg base (L2.CX P w) 4 a.f_Log_settle a.d_Log_settle ["self", "time"] (spSettle a.c_Log) := by
  have cLg := T.cl_Log
  have nLs := T.na_Log_since
  have nLb := T.na_Log_base
  have nLk := T.na_Log_kept
  have G_put := ok_put (P := P) (w := w) (base := base) T
  refine T.F_Log_settle.okX sc_Log_settle (fun vs H Q E h => ?_) (fun cdv A outer s H vs Q E hr h => ?_)
  · obtain ⟨p, g, time, rfl, _⟩ := h
    rfl
  · obtain ⟨p, g, time, rfl, L, hA, hlen, q⟩ := h
    obtain ⟨hp, hb, hl, hm⟩ := L
    have hlm := hm.length
    have hu := hu_of hr
    have nlp : g.l ≠ p := fun c => by rw [c, hp] at hl; cases hl
    refine ⟨_, (pss_cons (ps_set (i := 2) sc_Log_settle.nd rfl (Or.inl rfl) pe_int)
 (pss_cons (ps_while (passes_of rfl) (PW.pt (pw_and (pt_cmpR (op_lt) (pv 2) (pe_callB (call_lenQ) (by rfl) T.n_len (by decide +kernel) (pa_cons (pe_fld (pv 0) rfl) pa_nil)) (nomark _)) (pw_and1 (pt_cmpR (op_lt) (pe_ix ix_tup (pe_ix ix_list (pe_fld (pv 0) rfl) (pv 2) (fun _ _ => rfl)) pe_int (fun _ _ => rfl)) (pv 1) (nomark _))))) (pss_cons (ps_fld (pv 0) (pe_call G_put (hr.mono (by decide)) rfl T.g_put T.k_put T.b_put .nil passL (pa_cons (pe_fld (pv 0) rfl) (pa_cons (pe_ix ix_tup (pe_ix ix_list (pe_fld (pv 0) rfl) (pv 2) (fun _ _ => rfl)) pe_int (fun _ _ => rfl)) (pa_cons (pe_ix ix_tup (pe_ix ix_list (pe_fld (pv 0) rfl) (pv 2) (fun _ _ => rfl)) pe_int (fun _ _ => rfl)) pa_nil)))) rfl)
 (pss_one (ps_set (i := 2) sc_Log_settle.nd rfl (Or.inl rfl) (pe_op op_add (pv 2) pe_int)))))
 (pss_cons (ps_fld (pv 0) (pe_slice sl_list (pe_fld (pv 0) rfl) (po_some (pv 2)) po_none) rfl)
 (pss_cons (ps_fld (pv 0) (pe_callB (call_maxQ rfl) (by rfl) T.n_max (by decide +kernel) (pa_cons (pe_fld (pv 0) rfl) (pa_cons (pv 1) pa_nil))) rfl)
 (pss_one (ps_ret (pv 2))))))), ?_⟩
    os_names t_st
    change (_ : TS) _ [some _, some _, none] _
    os_names t_go
    refine r_while (fun k σ H' => ∃ (i : Nat) (b : Addr), σ = [some (.ref p), some (.int time), some (.int i)] ∧ SameP p H H' ∧ H' p = some (.ins a.c_Log g.dx (lgF b g.l g.s)) ∧ H' b = some (.dK (enc (foldT g.t (g.ms.take i)))) ∧ (b = g.b ∨ H b = none) ∧ i ≤ goneM time g.ms ∧ k = goneM time g.ms - i)
      (goneM time g.ms) ⟨0, g.b, rfl, SameP.refl _ _, hp, hb, .inl rfl, Nat.zero_le _, rfl⟩ ?_
    rintro k σ H' ⟨i, b, rfl, sp, hp', hb', hfr, hi, rfl⟩
    have hl' := sp _ _ nlp hl
    have hm' : MvsAt H' g.as g.ms := hm.of fun c vs e => sp _ _ (fun z => by rw [z, hp] at e; cases e) e
    have hA' : Acyc (foldT g.t (g.ms.take i)) := hA.foldT _
    have hgl := goneM_le time g.ms
    have hl2 : (foldT g.t (g.ms.take i)).length ≤ 100000 := by
      have z := foldT_length g.t (g.ms.take i)
      rw [List.length_take] at z
      omega
    refine t_val (decide (i < goneM time g.ms)) (fun B q => ?_) ?_
    · os_names t_go
      by_cases hlt : i < g.ms.length
      · obtain ⟨y, n, hat, hn, _, hy⟩ := atR hm' hlt
        have k0 := n.at0
        refine yes (d_t (by rw [List.length_map]; omega)) ?_
        os_names t_go
        by_cases c : n.t < time
        · rw [decide_eq_true c]
          rw [decide_eq_true (show i < goneM time g.ms from goneM_up hi hn c)] at q
          exact q
        · rw [decide_eq_false c]
          rw [decide_eq_false (show ¬ i < goneM time g.ms from by rw [goneM_end hi hn c]; omega)] at q
          exact q
      · refine no (d_f (by rw [List.length_map]; omega)) ?_
        rw [decide_eq_false (show ¬ i < goneM time g.ms from by omega)] at q
        exact q
    · refine r_w (fun c => ?_) (fun c => ?_)
      · have c := of_decide_eq_true c
        obtain ⟨y, n, hat, hn, _, hy⟩ := atR hm' (show i < g.ms.length by omega)
        have k2 := n.at2
        have k3 := n.at3
        os_names t_go
        rename_i d H2 hs2 hH2 hd
        have hd : H' d = none := hd
        refine r_sFld (hs2 _ _ hp') cLg nLb (of_decide_eq_true rfl) ?_
        rw [put_base]
        os_names t_go
        have ndp : d ≠ p := fun z => by subst z; rw [hp'] at hd; cases hd
        refine ⟨goneM time g.ms - (i + 1), by omega, i + 1, d, rfl, (sp.trans (SameP.of hs2)).mut, upd_same, ?_, .inr ?_, c, rfl⟩
        · rw [upd_ne ndp, hH2, List.take_succ, hn]
          simp [foldT_snoc]
        · cases z : H d with
          | none => rfl
          | some o =>
            have z2 := sp _ _ ndp z
            rw [z2] at hd
            cases hd
      · have c : i = goneM time g.ms := by have := of_decide_eq_false c; omega
        os_names t_go
        rename_i l2 hl2'
        rw [cut_from (by rw [List.length_map]; omega)]
        have hl2' : H' l2 = none := hl2'
        have nl2p : l2 ≠ p := fun z => by subst z; rw [hp'] at hl2'; cases hl2'
        os_names t_go
        refine r_sFld (keep hp' hl2') cLg nLk (of_decide_eq_true rfl) ?_
        rw [put_kept]
        os_names t_go
        refine r_sFld upd_same cLg nLs (of_decide_eq_true rfl) ?_
        rw [put_since]
        os_names t_go
        rw [c]
        have fl : H l2 = none := by
          cases z : H l2 with
          | none => rfl
          | some o =>
            have z2 := sp _ _ nl2p z
            rw [z2] at hl2'
            cases hl2'
        have nbp : b ≠ p := fun z => by rw [z, hp'] at hb'; cases hb'
        refine q b l2 _ hfr fl (((sp.new hl2').mut).mut) ⟨upd_same, ?_, ?_, ?_⟩
        · show upd _ _ _ b = _
          rw [upd_ne nbp, upd_ne nbp, keep hb' hl2', c]
          rfl
        · show upd _ _ _ l2 = _
          rw [upd_ne nl2p, upd_ne nl2p, upd_same, ← List.map_drop]
          rfl
        · refine (hm'.drop _).of fun x vs e => ?_
          have nx : x ≠ p := fun z => by rw [z, hp'] at e; cases e
          rw [upd_ne nx, upd_ne nx]
          exact keep e hl2'
theorem ok_name (T : Txt K mg a) : FnOk P w K mg base (L2.CX P w) 1 a.f__law_name a.d__law_name ["_law_k", "_law_cell"] spName := by
  refine T.F__law_name.okX sc__law_name (fun vs H Q E h => ?_) (fun cdv A outer s H vs Q E hr h => ?_)
  · obtain ⟨k, c, rfl, _⟩ := h
    rfl
  · obtain ⟨k, c, rfl, h0, hk, q⟩ := h
    have h6 := at6 (i := c / 4 % 6) (by omega) (by omega)
    refine ⟨_, (pss_cons (ps_if (pt_cmpR (op_eq) (pe_op op_mod (pv 1) pe_int) pe_int (nomark _)) (pss_one (ps_ret (pe_op op_sub (pe_p10 (m := 1000000000000000000000000000000000000000000000000000000000000) (by decide +kernel)) (pv 0)))) pss_nil)
 (pss_cons (ps_if (pt_cmpR (op_eq) (pe_op op_mod (pv 1) pe_int) pe_int (nomark _)) (pss_cons (ps_set (i := 2) sc__law_name.nd rfl (Or.inl rfl) (pe_lst (pa_cons pe_int (pa_cons (pe_p10 (m := 1000000000) (by decide +kernel)) (pa_cons (pe_p10 (m := 100000000000000000000) (by decide +kernel)) (pa_cons (pe_p10 (m := 1000000000000000000000000000000000) (by decide +kernel)) (pa_cons (pe_p10 (m := 100000000000000000000000000000000000000000000000) (by decide +kernel)) (pa_cons (pe_p10 (m := 1000000000000000000000000000000000000000000000000000000000) (by decide +kernel)) pa_nil))))))))
 (pss_one (ps_ret (pe_op op_add pe_int (pe_op op_mod (pe_op op_add (pe_op op_fdiv (pv 1) pe_int) (pe_op op_mul (pv 0) (pe_ix ix_list (pv 2) (pe_op op_mod (pe_op op_fdiv (pv 1) pe_int) pe_int) (fun _ _ => rfl)))) (pe_p10 (m := 1000000000000000000000000000000000000000000000000000000000000) (by decide +kernel))))))) pss_nil)
 (pss_cons (ps_if (pt_cmpR (op_eq) (pe_op op_mod (pv 1) pe_int) pe_int (nomark _)) (pss_one (ps_ret (pe_op op_add pe_int (pe_op op_mul pe_int (pv 0))))) pss_nil)
 (pss_cons (ps_if (PW.pt (pw_and (pt_cmpR (op_eq) (pe_op op_mod (pe_op op_fdiv (pv 1) pe_int) pe_int) pe_int (nomark _)) (pw_and1 (pt_cmpR (op_eq) (pe_op op_mod (pv 0) pe_int) pe_int (nomark _))))) (pss_one (ps_ret (pe_op op_sub (pe_p10 (m := 1000000000000000000000000000000000000000000000000000000000000) (by decide +kernel)) (pv 0)))) pss_nil)
 (pss_one (ps_ret (pe_op op_add pe_int (pv 0)))))))), ?_⟩
    os_names t_st
    change (_ : TS) _ [some _, some _, none] _
    os_names t_all
    all_goals
      refine Qint (q _ ?_) ?_
      · first
          | exact Same.refl _
          | exact Same.new (Same.refl _) (by assumption)
      · unfold nameF
        simp [E60, *]
theorem ok_deeds (T : Txt K mg a) : FnOk P w K mg base (L2.CX P w) 1 a.f__law_deeds a.d__law_deeds ["_law_script", "_law_few", "_law_many"] (spDeeds K) := by
  refine T.F__law_deeds.okX sc__law_deeds (fun vs H Q E h => ?_) (fun cdv A outer s H vs Q E hr h => ?_)
  · obtain ⟨p, ns, few, many, rfl, _⟩ := h
    rfl
  · obtain ⟨p, ns, few, many, rfl, hS, hl, hf, q⟩ := h
    refine ⟨_, (pss_cons (ps_set (i := 3) sc__law_deeds.nd rfl (Or.inl rfl) (pv 1))
 (pss_cons (ps_if (pt_cmpR (op_gt) (pe_callB (call_lenQ) (by rfl) T.n_len (by decide +kernel) (pa_cons (pv 0) pa_nil)) pe_int (nomark _)) (pss_one (ps_set (i := 3) sc__law_deeds.nd rfl (Or.inl rfl) (pv 2))) pss_nil)
 (pss_one (ps_ret (pe_lc (own := [("_law_k", 4)]) (g := gName 4) rfl sc__law_deeds.nd (pi_range2 rfl T.n_range (pa_cons pe_int (pa_cons (pe_callB (call_minQ rfl) (by rfl) T.n_min (by decide +kernel) (pa_cons (pe_callB (call_lenQ) (by rfl) T.n_len (by decide +kernel) (pa_cons (pv 0) pa_nil)) (pa_cons (pe_op op_add pe_int (pv 3)) pa_nil))) pa_nil))) (blkOk_by (own := [("_law_k", 4)]) (N := n__law_deeds) (sc := defScope s__law_deeds) (by decide +kernel)) (fun _ _ _ _ _ => pg_name (i := 4) sc__law_deeds.nd rfl (Or.inl rfl)) (fun _ _ _ _ _ => pts_nil) (fun _ _ _ _ _ => (pe_op op_mod (pe_op op_mul (pe_op op_add (pe_ix (ix_listK (K := K) rfl) (pv 0) (pv 4) (fun _ _ => rfl)) (pe_op op_mul pe_int (pv 4))) pe_int) pe_int))))))), ?_⟩
    os_names t_st
    change (_ : TS) _ [some _, some _, some _, none, none] _
    os_names t_go
    refine no (d_f (by rw [List.length_map]; omega)) ?_
    os_names t_go
    refine r_lcR2 2 ((min ((ns.map V.int).length : Int) (2 + few) - 2).toNat) (by omega) (by omega) (by omega)
      (fun D i H' => H D = none ∧ ∃ ds : List Int, H' = upd H D (.lst (ds.map V.int)) ∧ ds.length = i ∧ ∀ d ∈ ds, DeedOk d) (fun D hD => ⟨hD, [], rfl, rfl, by simp⟩) ?_ ?_
    · rintro D i H' hi ⟨hD, ds, rfl, hlen, hok⟩
      have hS' := sql_keep (o := .lst (ds.map V.int)) hS hD
      have hix : atI (ns.map V.int) (2 + i) = some (.int (cellAt ns (2 + i))) := cell_in (by omega) (by rw [List.length_map] at hi; omega)
      os_names t_go
      refine r_acc upd_same (lt_line (by rw [List.length_map]; omega)) ?_
      rw [upd_upd]
      refine ⟨hD, ds ++ [_], by rw [List.map_append]; rfl, by simp [hlen], fun d hd => ?_⟩
      rcases List.mem_append.mp hd with hd | hd
      · exact hok d hd
      · rw [List.mem_singleton.mp hd]
        exact ⟨by omega, by omega⟩
    · rintro D H' ⟨hD, ds, rfl, hlen, hok⟩
      os_names t_go
      exact q D ds hD (by omega) hok
theorem ok_sameMove (T : Txt K mg a) : FnOk P w K mg base (L2.CX P w) 2 a.f__law_same_move a.d__law_same_move ["_law_found", "_law_due"] spSameMove := by
  have G__law_whole := ok_whole1 (P := P) (w := w) (base := base) T
  refine T.F__law_same_move.okX sc__law_same_move (fun vs H Q E h => ?_) (fun cdv A outer s H vs Q E hr h => ?_)
  · obtain ⟨p, q, m, rfl, _⟩ := h
    rfl
  · obtain ⟨p, p2, m, rfl, hp, hp2, q⟩ := h
    have l4 : ((m.vs.length : Nat) : Int) = 4 := rfl
    refine ⟨_, (pss_cons (ps_if (PW.pt (pw_or (pt_not (pt_val (pe_callB (call_isi) (by rfl) T.n_isinstance (by decide +kernel) (pa_cons (pv 0) (pa_cons (pe_bltn (v := .ty "tuple") (by rfl) T.n_tuple (by decide +kernel) rfl) pa_nil))))) (pw_or1 (pt_cmpR (op_ne) (pe_callB (call_lenQ) (by rfl) T.n_len (by decide +kernel) (pa_cons (pv 0) pa_nil)) pe_int (nomark _))))) (pss_one (ps_ret pe_bl)) pss_nil)
 (pss_cons (ps_for (passes_of rfl) rfl (pi_range1 rfl T.n_range (pa_cons pe_int pa_nil)) (pg_name (i := 2) sc__law_same_move.nd rfl (Or.inl rfl)) (pss_one (ps_if (PW.pt (pw_or (pt_not (pt_val (pe_call G__law_whole (hr.mono (by decide)) rfl T.g__law_whole T.k__law_whole T.b__law_whole .nil passL (pa_cons (pe_ix ix_tup (pv 0) (pv 2) (fun _ _ => rfl)) pa_nil)))) (pw_or1 (pt_cmpR (op_ne) (pe_ix ix_tup (pv 0) (pv 2) (fun _ _ => rfl)) (pe_ix ix_tup (pv 1) (pv 2) (fun _ _ => rfl)) (nomark _))))) (pss_one (ps_ret pe_bl)) pss_nil)))
 (pss_one (ps_ret pe_bl)))), ?_⟩
    os_names t_st
    change (_ : TS) _ [some _, some _, none] _
    os_names t_goi
    refine r_forR 4 (fun i σ H' => H' = H ∧ ∃ v, σ = [some (.ref p), some (.ref p2), v]) (by omega) ⟨rfl, none, rfl⟩ ?_ ?_
    · rintro i σ H' hi ⟨rfl, v, rfl⟩
      have hx : ∃ x : Int, atI m.vs (i : Int) = some (.int x) := by
        match i, hi with
        | 0, _ => exact ⟨m.t, rfl⟩
        | 1, _ => exact ⟨m.h, rfl⟩
        | 2, _ => exact ⟨m.f, rfl⟩
        | 3, _ => exact ⟨m.u, rfl⟩
      obtain ⟨x, hx⟩ := hx
      os_names t_goi
      exact ⟨rfl, _, rfl⟩
    · rintro σ H' ⟨rfl, v, rfl⟩
      os_names t_goi
      exact q
theorem ok_sameMoves (T : Txt K mg a) : FnOk P w K mg base (L2.CX P w) 3 a.f__law_same_moves a.d__law_same_moves ["_law_found", "_law_due"] spSameMoves := by
  have G__law_same_move := ok_sameMove (P := P) (w := w) (base := base) T
  refine T.F__law_same_moves.okX sc__law_same_moves (fun vs H Q E h => ?_) (fun cdv A outer s H vs Q E hr h => ?_)
  · obtain ⟨p, q, _, _, _, rfl, _⟩ := h
    rfl
  · obtain ⟨p, p2, as, as2, ms, rfl, hp, hp2, hm, hm2, hl, q⟩ := h
    have l1 := hm.length
    have l2 := hm2.length
    have e1 : (((as.map V.ref).length : Nat) : Int) = ms.length := by rw [List.length_map, l1]
    have e2 : (((as2.map V.ref).length : Nat) : Int) = ms.length := by rw [List.length_map, l2]
    refine ⟨_, (pss_cons (ps_if (PW.pt (pw_or (pt_not (pt_val (pe_callB (call_isi) (by rfl) T.n_isinstance (by decide +kernel) (pa_cons (pv 0) (pa_cons (pe_bltn (v := .ty "list") (by rfl) T.n_list (by decide +kernel) rfl) pa_nil))))) (pw_or1 (pt_cmpR (op_ne) (pe_callB (call_lenQ) (by rfl) T.n_len (by decide +kernel) (pa_cons (pv 0) pa_nil)) (pe_callB (call_lenQ) (by rfl) T.n_len (by decide +kernel) (pa_cons (pv 1) pa_nil)) (nomark _))))) (pss_one (ps_ret pe_bl)) pss_nil)
 (pss_cons (ps_for (passes_of rfl) rfl (pi_range1 rfl T.n_range (pa_cons (pe_callB (call_lenQ) (by rfl) T.n_len (by decide +kernel) (pa_cons (pv 1) pa_nil)) pa_nil)) (pg_name (i := 2) sc__law_same_moves.nd rfl (Or.inl rfl)) (pss_one (ps_if (pt_not (pt_val (pe_call G__law_same_move (hr.mono (by decide)) rfl T.g__law_same_move T.k__law_same_move T.b__law_same_move .nil passL (pa_cons (pe_ix ix_list (pv 0) (pv 2) (fun _ _ => rfl)) (pa_cons (pe_ix ix_list (pv 1) (pv 2) (fun _ _ => rfl)) pa_nil))))) (pss_one (ps_ret pe_bl)) pss_nil)))
 (pss_one (ps_ret pe_bl)))), ?_⟩
    os_names t_st
    change (_ : TS) _ [some _, some _, none] _
    os_names t_go
    refine no (nd_f (by rw [e1, e2])) ?_
    os_names t_go
    rw [e2]
    refine r_forR ms.length (fun i σ H' => H' = H ∧ ∃ v, σ = [some (.ref p), some (.ref p2), v]) (by omega) ⟨rfl, none, rfl⟩ ?_ ?_
    · rintro i σ H' hi ⟨rfl, v, rfl⟩
      obtain ⟨x, m, hat, hn, _, hx⟩ := atR hm hi
      obtain ⟨x2, m2, hat2, hn2, _, hx2⟩ := atR hm2 hi
      rw [hn] at hn2
      cases hn2
      os_names t_go
      refine c_sameMove hx hx2 ?_
      os_names t_go
      exact ⟨rfl, _, rfl⟩
    · rintro σ H' ⟨rfl, v, rfl⟩
      os_names t_go
      exact q
theorem ok_sametree (T : Txt K mg a) : FnOk P w K mg base (L2.CX P w) 2 a.f__law_same_tree a.d__law_same_tree ["_law_found", "_law_due"] spSameTree := by
  have G__law_whole := ok_whole1 (P := P) (w := w) (base := base) T
  refine T.F__law_same_tree.okX sc__law_same_tree (fun vs H Q E h => ?_) (fun cdv A outer s H vs Q E hr h => ?_)
  · obtain ⟨p, p2, t, t', rfl, _⟩ := h
    rfl
  · obtain ⟨p, p2, t, t', rfl, hp, hp2, hne, hs, hn, hn', hl, q⟩ := h
    have hu := hu_of hr
    have hlen := nd_keys_len hs hn hn'
    refine ⟨_, (pss_cons (ps_if (PW.pt (pw_or (pt_not (pt_val (pe_callB (call_isi) (by rfl) T.n_isinstance (by decide +kernel) (pa_cons (pv 0) (pa_cons (pe_bltn (v := .ty "dict") (by rfl) T.n_dict (by decide +kernel) rfl) pa_nil))))) (pw_or1 (pt_cmpR (op_ne) (pe_callB (call_lenDQ) (by rfl) T.n_len (by decide +kernel) (pa_cons (pv 0) pa_nil)) (pe_callB (call_lenDQ) (by rfl) T.n_len (by decide +kernel) (pa_cons (pv 1) pa_nil)) (nomark _))))) (pss_one (ps_ret pe_bl)) pss_nil)
 (pss_cons (ps_lock (ps_for (passes_of rfl) rfl (pi_keys (pv 1)) (pg_name (i := 2) sc__law_same_tree.nd rfl (Or.inl rfl)) (pss_one (ps_if (PW.pt (pw_or (pt_cmp (pc_dnotin hu (pv 2) (pv 0))) (pw_or (pt_not (pt_val (pe_call G__law_whole (hr.mono (by decide)) rfl T.g__law_whole T.k__law_whole T.b__law_whole .nil passL (pa_cons (pe_dget hu (pv 0) (pv 2) (fun _ _ => rfl)) pa_nil)))) (pw_or1 (pt_cmpR (op_ne) (pe_dget hu (pv 0) (pv 2) (fun _ _ => rfl)) (pe_dget hu (pv 1) (pv 2) (fun _ _ => rfl)) (nomark _)))))) (pss_one (ps_ret pe_bl)) pss_nil))))
 (pss_cons (ps_lock (ps_for (passes_of rfl) rfl (pi_keys (pv 0)) (pg_name (i := 2) sc__law_same_tree.nd rfl (Or.inl rfl)) (pss_one (ps_if (pt_not (pt_val (pe_call G__law_whole (hr.mono (by decide)) rfl T.g__law_whole T.k__law_whole T.b__law_whole .nil passL (pa_cons (pv 2) pa_nil)))) (pss_one (ps_ret pe_bl)) pss_nil))))
 (pss_one (ps_ret pe_bl))))), ?_⟩
    os_names t_st
    change (_ : TS) _ [some _, some _, none] _
    have hlen2 : ((enc t).length : Int) = ((enc t').length : Int) := by rw [enc_length, enc_length, hlen]
    os_names t_goi
    refine r_forK (t := t') rfl hp2 (fun od i σ H' => H' = upd H p2 (.frz od (.dK (enc t'))) ∧ ∃ v, σ = [some (.ref p), some (.ref p2), v]) (fun od => ⟨rfl, none, rfl⟩) (fun od i σ H' ⟨e, _⟩ => by rw [e]; exact upd_same) ?_ ?_
    · rintro od i pr σ H' hi ⟨rfl, v, rfl⟩
      have h1 : ∀ o, upd H p2 o p = some (.dK (enc t)) := fun o => keep_ne hp hne
      have hk : lk t' pr.1 = some pr.2 := lk_of_mem hn' (List.mem_of_getElem? hi)
      have hk2 : lk t pr.1 = some pr.2 := by rw [hs]; exact hk
      have hv : valV (enc t) (Sum.inl pr.1) = some (.int pr.2) := by rw [valV_enc, hk2]; rfl
      have hv' : valV (enc t') (Sum.inl pr.1) = some (.int pr.2) := by rw [valV_enc, hk]; rfl
      os_names t_goi
      rw [hv]
      os_names t_goi
      refine r_dGet (h1 _) hv ?_
      os_names t_goi
      refine r_dGet (h1 _) hv ?_
      os_names t_goi
      refine r_dGetF upd_same hv' ?_
      os_names t_goi
      exact ⟨rfl, _, rfl⟩
    · rintro od σ H' ⟨rfl, v, rfl⟩
      rw [upd_id hp2]
      os_names t_goi
      refine r_forK (t := t) rfl hp (fun od i σ H' => H' = upd H p (.frz od (.dK (enc t))) ∧ ∃ v, σ = [some (.ref p), some (.ref p2), v]) (fun od => ⟨rfl, v, rfl⟩) (fun od i σ H' ⟨e, _⟩ => by rw [e]; exact upd_same) ?_ ?_
      · rintro od i pr σ H' hi ⟨rfl, v, rfl⟩
        os_names t_goi
        exact ⟨rfl, _, rfl⟩
      · rintro od σ H' ⟨rfl, v, rfl⟩
        rw [upd_id hp]
        os_names t_goi
        exact q
theorem ok_told (T : Txt K mg a) : FnOk P w K mg base (L2.CX P w) 1 a.f__law_told a.d__law_told ["_law_moves", "_law_move"] spTold := by
  refine T.F__law_told.okX sc__law_told (fun vs H Q E h => ?_) (fun cdv A outer s H vs Q E hr h => ?_)
  · obtain ⟨p, x, _, _, _, rfl, _⟩ := h
    rfl
  · obtain ⟨p, x, as, ms, m, rfl, hp, hm, hx, hlen, q⟩ := h
    have hlm := hm.length
    refine ⟨_, (pss_cons (ps_set (i := 2) sc__law_told.nd rfl (Or.inl rfl) pe_int)
 (pss_cons (ps_while (passes_of rfl) (PW.pt (pw_and (pt_cmpR (op_lt) (pv 2) (pe_callB (call_lenQ) (by rfl) T.n_len (by decide +kernel) (pa_cons (pv 0) pa_nil)) (nomark _)) (pw_and1 (pt_cmpR (op_ltT (T0 hr)) (pe_slice sl_tupA (pe_ix ix_list (pv 0) (pv 2) (fun _ _ => rfl)) po_none (po_some pe_int)) (pe_slice sl_tupA (pv 1) po_none (po_some pe_int)) (nomark _))))) (pss_one (ps_set (i := 2) sc__law_told.nd rfl (Or.inl rfl) (pe_op op_add (pv 2) pe_int))))
 (pss_one (ps_ret (pe_op op_cat (pe_op op_cat (pe_slice sl_list (pv 0) po_none (po_some (pv 2))) (pe_lst (pa_cons (pv 1) pa_nil))) (pe_slice sl_list (pv 0) (po_some (pv 2)) po_none)))))), ?_⟩
    os_names t_st
    change (_ : TS) _ [some _, some _, none] _
    os_names t_go
    refine r_while (fun k σ H' => ∃ i : Nat, σ = [some (.ref p), some (.ref x), some (.int i)] ∧ Same H H' ∧ i ≤ posM m ms ∧ k = posM m ms - i) (posM m ms) ⟨0, rfl, Same.refl _, Nat.zero_le _, rfl⟩ ?_
    rintro k σ H' ⟨i, rfl, hs, hi, rfl⟩
    have hp' := hs _ _ hp
    have hx' := hs _ _ hx
    have hm' := hm.same hs
    have hpl := posM_le m ms
    have c2 : ∀ n : Mv, cutV n.vs none (some 2) = [.int n.t, .int n.h] := fun n => rfl
    refine t_valS (decide (i < posM m ms)) (fun B q => ?_) fun H2 hs2 => ?_
    · os_names t_go
      by_cases hlt : i < ms.length
      · obtain ⟨y, n, hat, hn, _, hy⟩ := atR hm' hlt
        refine yes (d_t (by rw [List.length_map]; omega)) ?_
        os_names t_go
        refine r_slTs hy fun u1 H1 s1 e1 => ?_
        os_names t_go
        refine r_slTs (s1 _ _ hx') fun u2 H2 s2 e2 => ?_
        rw [c2] at e1 e2
        os_names t_go
        refine r_ltP (s2 _ _ e1) e2 ?_
        os_names t_go
        have hB := q H2 (s1.trans s2)
        by_cases c : Bef n m
        · rw [decide_eq_true (show i < posM m ms from posM_up hi hn c)] at hB
          rw [decide_eq_true (show n.t < m.t ∨ (n.t = m.t ∧ n.h < m.h) from c)]
          os_names t_go
          exact hB
        · rw [decide_eq_false (show ¬ i < posM m ms from by rw [posM_end hi hn c]; omega)] at hB
          rw [decide_eq_false (show ¬ (n.t < m.t ∨ (n.t = m.t ∧ n.h < m.h)) from c)]
          os_names t_go
          exact hB
      · have hB := q H' (Same.refl _)
        rw [decide_eq_false (show ¬ i < posM m ms from by omega)] at hB
        refine no (d_f (by rw [List.length_map]; omega)) ?_
        exact hB
    · have hs3 := hs.trans hs2
      refine r_w (fun c => ?_) (fun c => ?_)
      · have c := of_decide_eq_true c
        os_names t_go
        exact ⟨posM m ms - (i + 1), by omega, i + 1, rfl, hs3, c, rfl⟩
      · have c : i = posM m ms := by have := of_decide_eq_false c; omega
        subst c
        have hp2 := hs3 _ _ hp
        os_names t_go
        rename_i l1 h1 l2 h2
        rw [cut_to (by rw [List.length_map]; omega)] at *
        refine r_cat (by os_names t_hp) (by os_names t_hp) (le_line (by simp; omega)) ?_
        intro l3 h3
        have h3 : Fresh _ l3 := h3
        os_names t_go
        rename_i l4 h4
        rw [cut_from (by rw [List.length_map]; omega)] at *
        refine r_cat (by os_names t_hp) (by os_names t_hp) (le_line (by simp; omega)) ?_
        intro l5 h5
        have h5 : Fresh _ l5 := h5
        refine q l5 _ (by os_names t_sm) (Fresh.back h5 (by os_names t_sm)) ?_
        rw [upd_same, insA_map]
        rfl
theorem ok_fold (T : Txt K mg a) : FnOk P w K mg base (L2.CX P w) 2 a.f__law_fold a.d__law_fold ["_law_tree", "_law_moves"] spFold := by
  have G__law_way := ok__law_way (P := P) (w := w) (base := base) T
  refine T.F__law_fold.okX sc__law_fold (fun vs H Q E h => ?_) (fun cdv A outer s H vs Q E hr h => ?_)
  · obtain ⟨d, l, t, as, ms, rfl, _⟩ := h
    rfl
  · obtain ⟨d, l, t, as, ms, rfl, hd, hl, hm, hA, hlen, q⟩ := h
    have hlm := hm.length
    have hu := hu_of hr
    refine ⟨_, (pss_cons (ps_set (i := 2) sc__law_fold.nd rfl (Or.inl rfl) (pe_callTy (call_dictQ) (by rfl) T.n_dict (by decide +kernel) (pa_cons (pv 0) pa_nil)))
 (pss_cons (ps_for (passes_of rfl) rfl (pi_list (pv 1)) (pg_name (i := 3) sc__law_fold.nd rfl (Or.inl rfl)) (pss_one (ps_if (pt_cmpR (op_notIn_seq) (pe_ix ix_tup (pv 3) pe_int (fun _ _ => rfl)) (pe_call G__law_way (hr.mono (by decide)) rfl T.g__law_way T.k__law_way T.b__law_way .nil passL (pa_cons (pv 2) (pa_cons (pe_ix ix_tup (pv 3) pe_int (fun _ _ => rfl)) pa_nil))) rfl) (pss_one (ps_dput hu (pv 2) (pe_ix ix_tup (pv 3) pe_int (fun _ _ => rfl)) (pe_ix ix_tup (pv 3) pe_int (fun _ _ => rfl)) rfl)) pss_nil)))
 (pss_one (ps_ret (pv 2))))), ?_⟩
    os_names t_st
    change (_ : TS) _ [some _, some _, none, none] _
    os_names t_go
    rename_i d0 hd0
    have hd0 : H d0 = none := hd0
    refine r_forL (xs := as.map V.ref) (fun i σ H' => ∃ v, σ = [some (.ref d), some (.ref l), some (.ref d0), v] ∧ Same H H' ∧ H' d0 = some (.dK (enc (foldT t (ms.take i))))) ⟨none, rfl, Same.new (Same.refl _) hd0, upd_same⟩ (fun i σ H' _ ⟨_, _, hs, _⟩ => SqL.of (hs _ _ hl)) ?_ ?_
    · rintro i x σ H' hi ⟨v, rfl, hs, hdd⟩
      obtain ⟨y, n, rfl, _, hn, hy⟩ := (hm.same hs).get hi
      have k2 := n.at2
      have k3 := n.at3
      have hA' : Acyc (foldT t (ms.take i)) := hA.foldT _
      have hl2 : (foldT t (ms.take i)).length ≤ 100000 := by
        have z := foldT_length t (ms.take i)
        rw [List.length_take] at z
        omega
      os_names t_go
      rename_i wy hwy
      os_names t_sp
      · rename_i c
        os_names t_go
        exact ⟨_, rfl, Same.mut (Same.new hs hwy) hd0, by rw [take_at hn, foldT_snoc, putT_put c]; exact upd_same⟩
      · rename_i c
        os_names t_go
        exact ⟨_, rfl, Same.new hs hwy, by rw [take_at hn, foldT_snoc, putT_ring c]; exact keep hdd hwy⟩
    · rintro σ H' ⟨v, rfl, hs, hdd⟩
      os_names t_go
      rw [List.length_map, hlm, List.take_length] at hdd
      exact q d0 H' hd0 hs hdd
theorem ok_HandInit (T : Txt K mg a) : FnOk P w K mg base (L2.CX P w) 3 a.f_Hand_init a.d_Hand_init ["self", "number"] (spHandInit a.c_Hand a.c_Log a.c_NoHand) := by
  have cLg := T.cl_Log
  have nLs := T.na_Log_since
  have nLb := T.na_Log_base
  have nLk := T.na_Log_kept
  have cHd := T.cl_Hand
  have nHn := T.na_Hand_number
  have nHc := T.na_Hand_clock
  have nHl := T.na_Hand_log
  have G_whole := ok_whole (P := P) (w := w) (base := base) T
  have G_Log_init := ok_LogInit (P := P) (w := w) (base := base) T
  refine T.F_Hand_init.okX sc_Hand_init (fun vs H Q E h => ?_) (fun cdv A outer s H vs Q E hr h => ?_)
  · obtain ⟨p, dx, x, rfl, _⟩ := h
    rfl
  · obtain ⟨p, dx, x, rfl, hp, hk, he, hq⟩ := h
    have hu := hu_of hr
    refine ⟨_, (pss_cons (ps_if (pt_not (pt_val (pe_call G_whole (hr.mono (by decide)) rfl T.g_whole T.k_whole T.b_whole .nil passL (pa_cons (pv 1) (pa_cons pe_int pa_nil))))) (pss_one (ps_raiseQ rfl (takes_of rfl rfl rfl rfl) T.x_NoHand T.g_NoHand T.ke_NoHand T.be_NoHand T.te_NoHand)) pss_nil)
 (pss_cons (ps_fld (pv 0) (pv 1) rfl)
 (pss_cons (ps_fld (pv 0) pe_int rfl)
 (pss_one (ps_fld (pv 0) (pe_make0 T.m_Log G_Log_init (hr.mono (by decide)) rfl T.g_Log T.b_Log_init .nil passL) rfl))))), ?_⟩
    os_names t_st
    change (_ : TS) _ [some _, some _] _
    os_names t_go
    refine c_whole hk ?_
    cases hw : isW x 0 with
    | false =>
      os_names t_goi
      exact he hw
    | true =>
      obtain ⟨n, rfl⟩ : ∃ n, x = .int n := by
        cases x with
        | int n => exact ⟨n, rfl⟩
        | _ => cases hw
      os_names t_goi
      refine r_sFld hp cHd nHn (of_decide_eq_true rfl) ?_
      os_names t_go
      refine r_sFld upd_same cHd nHc (of_decide_eq_true rfl) ?_
      os_names t_go
      intro lg ldx hlg hldx ndl
      refine ⟨lg, ldx, rfl, upd_same, fun b l H1 hb hl sp L => ⟨rfl, ?_⟩⟩
      obtain ⟨hlg1, nlp⟩ := new_free hlg
      obtain ⟨hlg0, _⟩ := new_free hlg1
      have fl2 := (new_free (new_free hl).1).1
      have fb2 := (new_free (new_free hb).1).1
      have fl0 := (new_free (new_free fl2).1).1
      have fb0 := (new_free (new_free fb2).1).1
      have npl : p ≠ lg := nlp.symm
      have hp1 : H1 p = some (.ins a.c_Hand dx (putF ("clock" : Str) (.int 0) (putF ("number" : Str) (.int n) []))) := sp _ _ npl (keep_ne (keep upd_same hldx) npl)
      os_names t_go
      refine r_sFld hp1 cHd nHl (of_decide_eq_true rfl) ?_
      rw [put_hinit]
      refine hq n rfl hw lg b l ldx _ hlg0 fb0 fl0 (fun x o nx e => ?_) ⟨upd_same, L.mutI hp1 npl.symm, npl⟩
      have nxl : x ≠ lg := ne_of_none e hlg0
      rw [upd_ne nx]
      refine sp _ _ nxl ?_
      rw [upd_ne nxl]
      refine keep ?_ hldx
      rw [upd_ne nx, upd_ne nx]
      exact e
theorem ok_handTree (T : Txt K mg a) : FnOk P w K mg base (L2.CX P w) 5 a.f_Hand_tree a.d_Hand_tree ["self"] (spHandTree a.c_Hand a.c_Log) := by
  have cLg := T.cl_Log
  have nLs := T.na_Log_since
  have nLb := T.na_Log_base
  have nLk := T.na_Log_kept
  have cHd := T.cl_Hand
  have nHn := T.na_Hand_number
  have nHc := T.na_Hand_clock
  have nHl := T.na_Hand_log
  have G_Log_tree := ok_logTree (P := P) (w := w) (base := base) T
  refine T.F_Hand_tree.okX sc_Hand_tree (fun vs H Q E h => ?_) (fun cdv A outer s H vs Q E hr h => ?_)
  · obtain ⟨p, dx, n, c, lg, g, rfl, _⟩ := h
    rfl
  · obtain ⟨p, dx, n, c, lg, g, rfl, D, hA, hl, q⟩ := h
    have hp := D.hp
    have hpl := D.L.hp
    refine ⟨_, (pss_one (ps_ret (pe_meth0 (pe_fld (pv 0) rfl) T.cl_Log T.mt_Log_tree G_Log_tree (hr.mono (by decide)) T.b_Log_tree .nil passL))), ?_⟩
    os_names t_st
    change (_ : TS) _ [some _] _
    os_names t_go
    exact c_logTree D.L hA hl q
theorem ok_handSettle (T : Txt K mg a) : FnOk P w K mg base (L2.CX P w) 5 a.f_Hand_settle a.d_Hand_settle ["self", "time"] (spHandSettle a.c_Hand a.c_Log) := by
  have cLg := T.cl_Log
  have nLs := T.na_Log_since
  have nLb := T.na_Log_base
  have nLk := T.na_Log_kept
  have cHd := T.cl_Hand
  have nHn := T.na_Hand_number
  have nHc := T.na_Hand_clock
  have nHl := T.na_Hand_log
  have G_Log_settle := ok_settle (P := P) (w := w) (base := base) T
  refine T.F_Hand_settle.okX sc_Hand_settle (fun vs H Q E h => ?_) (fun cdv A outer s H vs Q E hr h => ?_)
  · obtain ⟨p, dx, n, c, lg, g, time, rfl, _⟩ := h
    rfl
  · obtain ⟨p, dx, n, c, lg, g, time, rfl, D, hA, hl, q⟩ := h
    have hp := D.hp
    have hpl := D.L.hp
    refine ⟨_, (pss_cons (ps_set (i := 2) sc_Hand_settle.nd rfl (Or.inl rfl) (pe_meth (pe_fld (pv 0) rfl) T.cl_Log T.mt_Log_settle G_Log_settle (hr.mono (by decide)) T.b_Log_settle .nil passL (pa_cons (pv 1) pa_nil)))
 (pss_cons (ps_fld (pv 0) (pe_callB (call_maxQ rfl) (by rfl) T.n_max (by decide +kernel) (pa_cons (pe_fld (pv 0) rfl) (pa_cons (pe_op op_sub (pv 1) pe_int) pa_nil))) rfl)
 (pss_one (ps_ret (pv 2))))), ?_⟩
    os_names t_st
    change (_ : TS) _ [some _, some _, none] _
    os_names t_go
    refine c_settle D.L hA hl fun b l H1 hb hl' sp L => ?_
    have hp1 := sp _ _ D.ne hp
    have D1 : HandAt a.c_Hand a.c_Log H1 p dx n c lg (g.settled b l time) := ⟨hp1, L, D.ne⟩
    os_names t_go
    refine r_sFld hp1 cHd nHc (of_decide_eq_true rfl) ?_
    rw [put_clock]
    os_names t_go
    exact q b l H1 hb hl' sp (D1.clock _)
theorem ok_handHear (T : Txt K mg a) : FnOk P w K mg base (L2.CX P w) 4 a.f_Hand_hear a.d_Hand_hear ["self", "move"] (spHandHear a.c_Hand a.c_Log a.c_NoMove a.c_TooLate a.c_Clash) := by
  have cLg := T.cl_Log
  have nLs := T.na_Log_since
  have nLb := T.na_Log_base
  have nLk := T.na_Log_kept
  have cHd := T.cl_Hand
  have nHn := T.na_Hand_number
  have nHc := T.na_Hand_clock
  have nHl := T.na_Hand_log
  have G_Log_hear := ok_hear (P := P) (w := w) (base := base) T
  refine T.F_Hand_hear.okX sc_Hand_hear (fun vs H Q E h => ?_) (fun cdv A outer s H vs Q E hr h => ?_)
  · obtain ⟨p, dx, n, c, lg, g, x, rfl, _⟩ := h
    rfl
  · obtain ⟨p, dx, n, c, lg, g, x, rfl, D, S, hl, q⟩ := h
    have hp := D.hp
    have hpl := D.L.hp
    refine ⟨_, (pss_cons (ps_set (i := 2) sc_Hand_hear.nd rfl (Or.inl rfl) (pe_meth (pe_fld (pv 0) rfl) T.cl_Log T.mt_Log_hear G_Log_hear (hr.mono (by decide)) T.b_Log_hear .nil (passes_call (takes_of rfl rfl rfl rfl) (fun _ _ _ _ h => h)) (pa_cons (pv 1) pa_nil)))
 (pss_cons (ps_fld (pv 0) (pe_callB (call_maxQ rfl) (by rfl) T.n_max (by decide +kernel) (pa_cons (pe_fld (pv 0) rfl) (pa_cons (pe_ix ix_tup (pv 1) pe_int (fun _ _ => rfl)) pa_nil))) rfl)
 (pss_one (ps_ret (pv 2))))), ?_⟩
    os_names t_st
    change (_ : TS) _ [some _, some _, none] _
    os_names t_go
    rcases q with ⟨hb, e⟩ | ⟨y, m, rfl, hy, ok, e1, e2, q1, q2⟩
    · exact ⟨lg, g, x, rfl, D.L, S, hl, .inl ⟨hb, e⟩⟩
    · have k0 := m.at0
      refine ⟨lg, g, _, rfl, D.L, S, hl, .inr ⟨y, m, rfl, hy, ok, e1, e2, fun c1 c2 => ?_, fun c1 c2 => ?_⟩⟩
      · os_names t_go
        refine r_sFld hp cHd nHc (of_decide_eq_true rfl) ?_
        rw [put_clock]
        os_names t_go
        exact q1 c1 c2
      · have D1 := D.heard (m := m) hy
        have hp1 := D1.hp
        have hy1 : (upd H g.l (.lst ((g.heard y m).as.map V.ref))) y = some (.tup m.vs) := keep_ne hy fun z => by rw [z, D.L.hl] at hy; cases hy
        os_names t_go
        refine r_sFld hp1 cHd nHc (of_decide_eq_true rfl) ?_
        rw [put_clock]
        os_names t_go
        exact q2 c1 c2
theorem ok_handMove (T : Txt K mg a) : FnOk P w K mg base (L2.CX P w) 4 a.f_Hand_move a.d_Hand_move ["self", "folder", "under"] (spHandMove a.c_Hand a.c_Log a.c_NoMove) := by
  have cLg := T.cl_Log
  have nLs := T.na_Log_since
  have nLb := T.na_Log_base
  have nLk := T.na_Log_kept
  have cHd := T.cl_Hand
  have nHn := T.na_Hand_number
  have nHc := T.na_Hand_clock
  have nHl := T.na_Hand_log
  have G_Log_hear := ok_hear (P := P) (w := w) (base := base) T
  refine T.F_Hand_move.okX sc_Hand_move (fun vs H Q E h => ?_) (fun cdv A outer s H vs Q E hr h => ?_)
  · obtain ⟨p, dx, n, c, lg, g, f, u, rfl, _⟩ := h
    rfl
  · obtain ⟨p, dx, n, c, lg, g, f, u, rfl, D, S, hl, kf, ku, n0, n1, c0, cs, hall, q⟩ := h
    have hp := D.hp
    have hpl := D.L.hp
    refine ⟨_, (pss_cons (ps_set (i := 3) sc_Hand_move.nd rfl (Or.inl rfl) (pe_tup (pa_cons (pe_op op_add (pe_fld (pv 0) rfl) pe_int) (pa_cons (pe_fld (pv 0) rfl) (pa_cons (pv 1) (pa_cons (pv 2) pa_nil))))))
 (pss_cons (ps_expr (pe_meth (pe_fld (pv 0) rfl) T.cl_Log T.mt_Log_hear G_Log_hear (hr.mono (by decide)) T.b_Log_hear .nil (passes_call (takes_of rfl rfl rfl rfl) (fun _ _ _ _ h => h)) (pa_cons (pv 3) pa_nil)))
 (pss_cons (ps_fld (pv 0) (pe_ix ix_tup (pv 3) pe_int (fun _ _ => rfl)) rfl)
 (pss_one (ps_ret (pv 3)))))), ?_⟩
    os_names t_st
    change (_ : TS) _ [some _, some _, some _, none] _
    os_names t_go
    rename_i y fy
    have fy : H y = none := fy
    have s1 : Same H (upd H y (.tup [.int (c + 1), .int n, f, u])) := Same.new (Same.refl _) fy
    have D1 := D.same s1
    rcases q with ⟨hb, e⟩ | ⟨fi, ui, rfl, rfl, ok, q⟩
    · refine ⟨lg, g, _, rfl, D1.L, S, hl, .inl ⟨.inl ⟨y, _, rfl, upd_same, fun z hz => ?_, hb⟩, e _ s1⟩⟩
      simp at hz
      rcases hz with rfl | rfl | rfl | rfl
      · trivial
      · trivial
      · exact kf.same s1
      · exact ku.same s1
    · have nw : NewM (Mv.mk (c + 1) n fi ui) g.ms := fun x hx k => by
        have z := hall x hx
        have w : x.t = c + 1 := k.1
        omega
      have hy : (upd H y (.tup [.int (c + 1), .int n, .int fi, .int ui])) y = some (.tup (Mv.mk (c + 1) n fi ui).vs) := upd_same
      refine c_hearNew (m := Mv.mk (c + 1) n fi ui) D1.L S hl hy ok cs nw fun H2 e2 => ?_
      have D2 := D1.heard (m := Mv.mk (c + 1) n fi ui) hy
      rw [← e2] at D2
      have hp2 := D2.hp
      have hy2 : H2 y = some (.tup (Mv.mk (c + 1) n fi ui).vs) := by
        rw [e2]
        exact keep_ne hy fun z => by have w := D1.L.hl; rw [← z, hy] at w; cases w
      have k0 : atI (Mv.mk (c + 1) n fi ui).vs 0 = some (.int (c + 1)) := (Mv.mk (c + 1) n fi ui).at0
      os_names t_go
      refine r_sFld hp2 cHd nHc (of_decide_eq_true rfl) ?_
      rw [put_clock]
      os_names t_go
      exact q y _ _ fy s1 hy (by rw [e2]) (D2.clock _)
theorem ok_sameSteps (T : Txt K mg a) : FnOk P w K mg base (L2.CX P w) 3 a.f__law_same_steps a.d__law_same_steps ["_law_found", "_law_due"] spSameSteps := by
  have G__law_same_move := ok_sameMove (P := P) (w := w) (base := base) T
  have G__law_whole := ok_whole1 (P := P) (w := w) (base := base) T
  refine T.F__law_same_steps.okX sc__law_same_steps (fun vs H Q E h => ?_) (fun cdv A outer s H vs Q E hr h => ?_)
  · obtain ⟨f, d, _, _, _, _, rfl, _⟩ := h
    rfl
  · obtain ⟨f, d, rows, rows2, ms, ws, rfl, hf, hd, h1, h2, m1, m2, l1, l2, hl, hw, q⟩ := h
    have hu := hu_of hr
    have r1 : rows.length = ms.length := by rw [← m1, List.length_map]
    have r2 : rows2.length = ms.length := by rw [← m2, List.length_map]
    have e1 : (((rows.map rowV).length : Nat) : Int) = ms.length := by rw [List.length_map, r1]
    have e2 : (((rows2.map rowV).length : Nat) : Int) = ms.length := by rw [List.length_map, r2]
    refine ⟨_, (pss_cons (ps_if (PW.pt (pw_or (pt_not (pt_val (pe_callB (call_isi) (by rfl) T.n_isinstance (by decide +kernel) (pa_cons (pv 0) (pa_cons (pe_bltn (v := .ty "list") (by rfl) T.n_list (by decide +kernel) rfl) pa_nil))))) (pw_or1 (pt_cmpR (op_ne) (pe_callB (call_lenQ) (by rfl) T.n_len (by decide +kernel) (pa_cons (pv 0) pa_nil)) (pe_callB (call_lenQ) (by rfl) T.n_len (by decide +kernel) (pa_cons (pv 1) pa_nil)) (nomark _))))) (pss_one (ps_ret pe_bl)) pss_nil)
 (pss_cons (ps_for (passes_of rfl) rfl (pi_range1 rfl T.n_range (pa_cons (pe_callB (call_lenQ) (by rfl) T.n_len (by decide +kernel) (pa_cons (pv 1) pa_nil)) pa_nil)) (pg_name (i := 2) sc__law_same_steps.nd rfl (Or.inl rfl)) (pss_cons (ps_if (PW.pt (pw_or (pt_not (pt_val (pe_callB (call_isi) (by rfl) T.n_isinstance (by decide +kernel) (pa_cons (pe_ix ix_list (pv 0) (pv 2) (fun _ _ => rfl)) (pa_cons (pe_bltn (v := .ty "tuple") (by rfl) T.n_tuple (by decide +kernel) rfl) pa_nil))))) (pw_or (pt_cmpR (op_ne) (pe_callB (call_lenQ) (by rfl) T.n_len (by decide +kernel) (pa_cons (pe_ix ix_list (pv 0) (pv 2) (fun _ _ => rfl)) pa_nil)) pe_int (nomark _)) (pw_or1 (pt_not (pt_val (pe_call G__law_same_move (hr.mono (by decide)) rfl T.g__law_same_move T.k__law_same_move T.b__law_same_move .nil passL (pa_cons (pe_ix ix_tup (pe_ix ix_list (pv 0) (pv 2) (fun _ _ => rfl)) pe_int (fun _ _ => rfl)) (pa_cons (pe_ix ix_tup (pe_ix ix_list (pv 1) (pv 2) (fun _ _ => rfl)) pe_int (fun _ _ => rfl)) pa_nil))))))))) (pss_one (ps_ret pe_bl)) pss_nil)
 (pss_cons (ps_if (PW.pt (pw_or (pt_not (pt_val (pe_callB (call_isi) (by rfl) T.n_isinstance (by decide +kernel) (pa_cons (pe_ix ix_tup (pe_ix ix_list (pv 0) (pv 2) (fun _ _ => rfl)) pe_int (fun _ _ => rfl)) (pa_cons (pe_bltn (v := .ty "list") (by rfl) T.n_list (by decide +kernel) rfl) pa_nil))))) (pw_or1 (pt_cmpR (op_neD (T64 hr)) (pe_ix ix_tup (pe_ix ix_list (pv 0) (pv 2) (fun _ _ => rfl)) pe_int (fun _ _ => rfl)) (pe_ix ix_tup (pe_ix ix_list (pv 1) (pv 2) (fun _ _ => rfl)) pe_int (fun _ _ => rfl)) (nomark _))))) (pss_one (ps_ret pe_bl)) pss_nil)
 (pss_one (ps_if (pt_cmpR (op_neD (T64 hr)) (pe_lc (own := [("_law_one", 3)]) (g := gName 3) rfl sc__law_same_steps.nd (pi_list (pe_ix ix_tup (pe_ix ix_list (pv 0) (pv 2) (fun _ _ => rfl)) pe_int (fun _ _ => rfl))) (blkOk_by (own := [("_law_one", 3)]) (N := n__law_same_steps) (sc := defScope s__law_same_steps) (by decide +kernel)) (fun _ _ _ _ _ => pg_name (i := 3) sc__law_same_steps.nd rfl (Or.inl rfl)) (fun _ _ _ _ _ => pts_one (pt_not (pt_val (pe_call G__law_whole (hr.mono (by decide)) rfl T.g__law_whole T.k__law_whole T.b__law_whole .nil passL (pa_cons (pv 3) pa_nil))))) (fun _ _ _ _ _ => (pv 3))) (pe_lst pa_nil) (nomark _)) (pss_one (ps_ret pe_bl)) pss_nil)))))
 (pss_one (ps_ret pe_bl)))), ?_⟩
    os_names t_st
    change (_ : TS) _ [some _, some _, none, none] _
    os_names t_go
    refine no (nd_f (by rw [e1, e2])) ?_
    os_names t_go
    rw [e2]
    refine r_forR ms.length (fun i σ H' => Same H H' ∧ ∃ v, σ = [some (.ref f), some (.ref d), v, none]) (by omega) ⟨Same.refl _, none, rfl⟩ ?_ ?_
    · rintro i σ H' hi ⟨hs, v, rfl⟩
      obtain ⟨x, hx⟩ : ∃ x, rows[i]? = some x := ⟨_, List.getElem?_eq_getElem (by omega)⟩
      obtain ⟨y, hy⟩ : ∃ y, rows2[i]? = some y := ⟨_, List.getElem?_eq_getElem (by omega)⟩
      have ax : atI (rows.map rowV) (i : Int) = some (.ref x.r) := atI_nat (by rw [List.getElem?_map, hx]; rfl)
      have ay : atI (rows2.map rowV) (i : Int) = some (.ref y.r) := atI_nat (by rw [List.getElem?_map, hy]; rfl)
      obtain ⟨x1, x2, x3⟩ := (h1 x (List.mem_of_getElem? hx)).same hs
      obtain ⟨y1, y2, y3⟩ := (h2 y (List.mem_of_getElem? hy)).same hs
      have hf' := hs _ _ hf
      have hd' := hs _ _ hd
      have em : x.m = y.m := by
        have z := congrArg (·[i]?) (m1.trans m2.symm)
        simp only [List.getElem?_map, hx, hy] at z
        exact Option.some.inj z
      have el : x.l = y.l := by
        have z := congrArg (·[i]?) (l1.trans l2.symm)
        simp only [List.getElem?_map, hx, hy] at z
        exact Option.some.inj z
      rw [← em] at y2
      rw [← el] at y3
      os_names t_goi
      refine c_sameMove x2 y2 ?_
      os_names t_goi
      refine r_neIntsL x3 y3 ?_
      os_names t_goi
      refine r_lcL (xs := x.l.map V.int) (fun D j H2 => Same H' H2 ∧ H' D = none ∧ H2 D = some (.lst [])) (fun D hD => ⟨Same.new (Same.refl _) hD, hD, upd_same⟩) (SqL.of x3) (fun D j H2 _ ⟨hs2, _⟩ => SqL.of (hs2 _ _ x3)) ?_ ?_
      · rintro D j z H2 hj ⟨hs2, hD, hDl⟩
        rw [List.getElem?_map] at hj
        obtain ⟨k, ek⟩ : ∃ k, z = .int k := by
          cases e : x.l[j]? with
          | none => rw [e] at hj; cases hj
          | some k => rw [e] at hj; cases hj; exact ⟨k, rfl⟩
        subst ek
        os_names t_go
        exact no rfl ⟨hs2, hD, hDl⟩
      · rintro D H2 ⟨hs2, hD, hDl⟩
        os_names t_go
        refine r_neEmpty (by os_names t_hp) upd_same ?_
        os_names t_goi
        exact ⟨hs.trans (by os_names t_sm), _, rfl⟩
    · rintro σ H' ⟨hs, v, rfl⟩
      os_names t_go
      exact q _ hs
theorem ok_stepsOf (T : Txt K mg a) : FnOk P w K mg base (L2.CX P w) 2 a.f__law_steps_of a.d__law_steps_of ["_law_base", "_law_moves"] spStepsOf := by
  have G__law_way := ok__law_way (P := P) (w := w) (base := base) T
  refine T.F__law_steps_of.okX sc__law_steps_of (fun vs H Q E h => ?_) (fun cdv A outer s H vs Q E hr h => ?_)
  · obtain ⟨bd, l, _, _, _, rfl, _⟩ := h
    rfl
  · obtain ⟨bd, l, bt, as, ms, rfl, hbd, hl, hm, hA, hlen, q⟩ := h
    have hlm := hm.length
    have hu := hu_of hr
    refine ⟨_, (pss_cons (ps_set (i := 2) sc__law_steps_of.nd rfl (Or.inl rfl) (pe_callTy (call_dictQ) (by rfl) T.n_dict (by decide +kernel) (pa_cons (pv 0) pa_nil)))
 (pss_cons (ps_set (i := 3) sc__law_steps_of.nd rfl (Or.inl rfl) (pe_lst pa_nil))
 (pss_cons (ps_for (passes_of rfl) rfl (pi_list (pv 1)) (pg_name (i := 4) sc__law_steps_of.nd rfl (Or.inl rfl)) (pss_cons (ps_set (i := 5) sc__law_steps_of.nd rfl (Or.inl rfl) (pe_call G__law_way (hr.mono (by decide)) rfl T.g__law_way T.k__law_way T.b__law_way .nil passL (pa_cons (pv 2) (pa_cons (pe_ix ix_tup (pv 4) pe_int (fun _ _ => rfl)) pa_nil))))
 (pss_one (ps_if (pt_cmpR (op_in_seq) (pe_ix ix_tup (pv 4) pe_int (fun _ _ => rfl)) (pv 5) rfl) (pss_one (ps_expr (pe_bm PySem.F.plainAttrs_list PySem.F.slot_list_append PySem.F.type_list_append mt_append (pv 3) (pa_cons (pe_tup (pa_cons (pv 4) (pa_cons (pe_slice sl_list (pv 5) po_none (po_some (pe_op op_add (pe_bm PySem.F.plainAttrs_list PySem.F.slot_list_index PySem.F.type_list_index mt_index (pv 5) (pa_cons (pe_ix ix_tup (pv 4) pe_int (fun _ _ => rfl)) pa_nil)) pe_int))) pa_nil))) pa_nil)))) (pss_cons (ps_expr (pe_bm PySem.F.plainAttrs_list PySem.F.slot_list_append PySem.F.type_list_append mt_append (pv 3) (pa_cons (pe_tup (pa_cons (pv 4) (pa_cons (pe_lst pa_nil) pa_nil))) pa_nil)))
 (pss_one (ps_dput hu (pv 2) (pe_ix ix_tup (pv 4) pe_int (fun _ _ => rfl)) (pe_ix ix_tup (pv 4) pe_int (fun _ _ => rfl)) rfl)))))))
 (pss_one (ps_ret (pv 3)))))), ?_⟩
    os_names t_st
    change (_ : TS) _ [some _, some _, none, none, none, none] _
    os_names t_go
    rename_i D hD F hF
    have hF' : H F = none := Fresh.back hF (show Same H _ by os_names t_sm)
    have hD' : H D = none := hD
    have nFD : F ≠ D := (new_free hF).2
    refine r_forL (xs := as.map V.ref) (fun i σ H' => ∃ rows v w', σ = [some (.ref bd), some (.ref l), some (.ref D), some (.ref F), v, w'] ∧ Same H H' ∧ H' F = some (.lst (rows.map rowV)) ∧ H' D = some (.dK (enc (foldT bt (ms.take i)))) ∧ RowsAt H H' F rows (ms.take i) (stepW bt (ms.take i)))
      ⟨[], none, none, rfl, by os_names t_sm, upd_same, by os_names t_hp, RowsAt.nil⟩ (fun i σ H' _ ⟨_, _, _, _, hs, _⟩ => SqL.of (hs _ _ hl)) ?_ ?_
    · rintro i x σ H' hi ⟨rows, v, w', rfl, hs, hFr, hDt, R⟩
      obtain ⟨y, n, rfl, hy0, hn, hy⟩ := (hm.same hs).get hi
      have hrl := R.length
      rw [List.length_take] at hrl
      have k2 := n.at2
      have k3 := n.at3
      have hA' : Acyc (foldT bt (ms.take i)) := hA.foldT _
      have hl2 : (foldT bt (ms.take i)).length ≤ 100000 := by
        have z := foldT_length bt (ms.take i)
        rw [List.length_take] at z
        omega
      os_names t_go
      rename_i wy hwy
      have hwy : Fresh H' wy := hwy
      have hrow : (rows.map rowV).length ≤ 100000 := by rw [List.length_map]; omega
      have nyF : y ≠ F := fun z => by rw [z, hFr] at hy; cases hy
      have nyD : y ≠ D := fun z => by rw [z, hDt] at hy; cases hy
      by_cases c : n.f ∈ way (foldT bt (ms.take i)) n.u
      · refine yes (d_t c) ?_
        os_names t_go
        refine r_idx (by os_names t_sql) c ?_
        os_names t_go
        rename_i w2 hw2 r2 hr2
        rw [cutL_up c] at *
        have f2 : Fresh H' w2 := Fresh.back hw2 (by os_names t_sm)
        have f3 : Fresh H' r2 := Fresh.back hr2 (by os_names t_sm)
        refine ⟨rows ++ [⟨r2, y, w2, n, upTo n.f (way (foldT bt (ms.take i)) n.u)⟩], _, _, rfl, by os_names t_sm, by rw [upd_same, List.map_append]; rfl, ?_, ?_⟩
        · rw [take_at hn, foldT_snoc, putT_ring c]
          os_names t_hp
        · rw [take_at hn, stepW_snoc, w1_in c]
          exact R.add hs (by os_names t_sm) (by os_names t_hp) (by os_names t_hp) (by os_names t_hp) f2 f3 hFr
      · refine no (d_f c) ?_
        os_names t_go
        rename_i w2 hw2 r2 hr2
        have f2 : Fresh H' w2 := Fresh.back hw2 (by os_names t_sm)
        have f3 : Fresh H' r2 := Fresh.back hr2 (by os_names t_sm)
        refine ⟨rows ++ [⟨r2, y, w2, n, []⟩], _, _, rfl, by os_names t_sm, by rw [upd_ne nFD, upd_same, List.map_append]; rfl, ?_, ?_⟩
        · rw [take_at hn, foldT_snoc, putT_put c]
          exact upd_same
        · rw [take_at hn, stepW_snoc, w1_out c]
          exact (R.add hs (by os_names t_sm) (by os_names t_hp) (by os_names t_hp) (by os_names t_hp) f2 f3 hFr).dict (by os_names t_hp)
    · rintro σ H' ⟨rows, v, w', rfl, hs, hFr, hDt, R⟩
      os_names t_go
      rw [List.length_map, hlm, List.take_length] at R
      exact q F rows H' hF' hs hFr R
theorem ok_asked (T : Txt K mg a) : FnOk P w K mg base (L2.CX P w) 4 a.f__law_steps_asked a.d__law_steps_asked ["_law_log", "_law_base", "_law_moves", "_law_held"] (spAsked K a.c_Log) := by
  have cLg := T.cl_Log
  have nLs := T.na_Log_since
  have nLb := T.na_Log_base
  have nLk := T.na_Log_kept
  have cHd := T.cl_Hand
  have nHn := T.na_Hand_number
  have nHc := T.na_Hand_clock
  have nHl := T.na_Hand_log
  have G_Log_steps := ok_logSteps (P := P) (w := w) (base := base) T
  have G__law_steps_of := ok_stepsOf (P := P) (w := w) (base := base) T
  have G__law_same_steps := ok_sameSteps (P := P) (w := w) (base := base) T
  refine T.F__law_steps_asked.okX sc__law_steps_asked (fun vs H Q E h => ?_) (fun cdv A outer s H vs Q E hr h => ?_)
  · obtain ⟨lg, bd, ml, hl, _, _, _, rfl, _⟩ := h
    rfl
  · obtain ⟨lg, bd, ml, hl, g, as, hs, rfl, L, hA, hb, hml, hmm, hlen, hhl, hsl, nlh, q⟩ := h
    have hu := hu_of hr
    have hp := L.hp
    have hlm := L.hm.length
    refine ⟨_, (pss_cons (ps_set (i := 4) sc__law_steps_asked.nd rfl (Or.inl rfl) (pe_meth0 (pv 0) T.cl_Log T.mt_Log_steps G_Log_steps (hr.mono (by decide)) T.b_Log_steps .nil passL))
 (pss_cons (ps_if (pt_not (pt_val (pe_call G__law_same_steps (hr.mono (by decide)) rfl T.g__law_same_steps T.k__law_same_steps T.b__law_same_steps .nil passL (pa_cons (pv 4) (pa_cons (pe_call G__law_steps_of (hr.mono (by decide)) rfl T.g__law_steps_of T.k__law_steps_of T.b__law_steps_of .nil passL (pa_cons (pv 1) (pa_cons (pv 2) pa_nil))) pa_nil))))) (pss_one (ps_ret pe_bl)) pss_nil)
 (pss_cons (ps_for (passes_of rfl) rfl (pi_list (pv 4)) (pg_name (i := 5) sc__law_steps_asked.nd rfl (Or.inl rfl)) (pss_one (ps_expr (pe_bm PySem.F.plainAttrs_list PySem.F.slot_list_append PySem.F.type_list_append mt_append (pe_ix ix_tup (pv 5) pe_int (fun _ _ => rfl)) (pa_cons pe_int pa_nil)))))
 (pss_cons (ps_expr (pe_bm PySem.F.plainAttrs_list PySem.F.slot_list_append PySem.F.type_list_append mt_append (pv 4) (pa_cons pe_non pa_nil)))
 (pss_cons (ps_expr (pe_bm PySem.F.plainAttrs_list PySem.F.slot_list_append PySem.F.type_list_append mt_append (pv 3) (pa_cons (pe_tup (pa_cons (pv 4) (pa_cons (pe_op op_cat (pe_lc (own := [("_law_row", 5)]) (g := gName 5) rfl sc__law_steps_asked.nd (pi_list (pe_slice sl_list (pv 4) po_none (po_some (pe_un un_neg pe_int)))) (blkOk_by (own := [("_law_row", 5)]) (N := n__law_steps_asked) (sc := defScope s__law_steps_asked) (by decide +kernel)) (fun _ _ _ _ _ => pg_name (i := 5) sc__law_steps_asked.nd rfl (Or.inl rfl)) (fun _ _ _ _ _ => pts_nil) (fun _ _ _ _ _ => (pe_tup (pa_cons (pe_ix (ix_tupK (K := K) rfl) (pv 5) pe_int (fun _ _ => rfl)) (pa_cons (pe_callTy ((call_listQK (K := K) rfl)) (by rfl) T.n_list (by decide +kernel) (pa_cons (pe_ix (ix_tupK (K := K) rfl) (pv 5) pe_int (fun _ _ => rfl)) pa_nil)) pa_nil))))) (pe_lst (pa_cons pe_non pa_nil))) pa_nil))) pa_nil)))
 (pss_one (ps_ret pe_bl))))))), ?_⟩
    os_names t_st
    change (_ : TS) _ [some _, some _, some _, some _, none, none] _
    os_names t_go
    refine c_steps L hA (by omega) fun F rows H1 fF s1 eF R => ?_
    have hrl := R.length
    os_names t_go
    refine ⟨bd, ml, g.t, as, g.ms, rfl, s1 _ _ hb, s1 _ _ hml, hmm.same s1, hA, by omega, fun F2 rows2 H2 fF2 s2 eF2 R2 => ?_⟩
    have eF' := s2 _ _ eF
    have R' := R.same s2
    have hw : ∀ w ∈ stepW g.t g.ms, w.length ≤ 20000 := by
      intro w hw
      obtain ⟨j, hj⟩ := List.getElem?_of_mem hw
      have hjl := (List.getElem?_eq_some_iff.mp hj).1
      rw [stepW_length] at hjl
      rw [stepW_at (List.getElem?_eq_getElem hjl)] at hj
      rw [← Option.some.inj hj]
      have z1 := w1_length (t := foldT g.t (g.ms.take j)) (hA.foldT _) g.ms[j]
      have z2 := foldT_length g.t (g.ms.take j)
      rw [List.length_take] at z2
      omega
    os_names t_go
    refine c_sameSteps (rows := rows) (rows2 := rows2) (ms := g.ms) (ws := stepW g.t g.ms) eF' eF2 R'.at_ R2.at_ R.m R2.m R.l R2.l (by omega) (fun w hw' => by have := hw w hw'; omega) fun H3 s3 => ?_
    have s03 : Same H H3 := (s1.trans s2).trans s3
    have R3 := R'.same s3
    have eF3 := s3 _ _ eF'
    os_names t_goi
    refine r_forL (xs := rows.map rowV) (fun i σ H' => ∃ v RI, σ = [some (.ref lg), some (.ref bd), some (.ref ml), some (.ref hl), some (.ref F), v] ∧ Same H H' ∧ H' F = some (.lst (rows.map rowV)) ∧ List.map rowV RI = rows.map rowV ∧ List.map (·.w) RI = rows.map (·.w) ∧ (∀ y ∈ RI, RowAt H' y) ∧ ∀ y ∈ RI, y.l.length ≤ 20000 + i) ⟨none, rows, rfl, s03, eF3, rfl, rfl, R3.at_, fun y hy => ?_⟩ (fun i σ H' _ ⟨_, _, _, _, e, _⟩ => SqL.of e) ?_ ?_
    · have z : y.l ∈ stepW g.t g.ms := by rw [← R.l]; exact List.mem_map_of_mem (f := fun x : Row => x.l) hy
      have := hw _ z
      omega
    · rintro i x σ H' hi ⟨v, RI, rfl, hs', eFx, hv, hwv, hat, hll⟩
      rw [← hv, List.getElem?_map] at hi
      obtain ⟨xr, hxr, ex⟩ : ∃ xr, RI[i]? = some xr ∧ x = .ref xr.r := by
        cases e : RI[i]? with
        | none => rw [e] at hi; cases hi
        | some xr => rw [e] at hi; cases hi; exact ⟨xr, rfl, rfl⟩
      subst ex
      have mx := List.mem_of_getElem? hxr
      obtain ⟨r1, r2, r3⟩ := hat xr mx
      have nd : (List.map (·.w) RI).Nodup := by rw [hwv]; exact R.nd
      obtain ⟨y0, hy0, ey0⟩ : ∃ y0 ∈ rows, y0.w = xr.w := by
        have z : xr.w ∈ List.map (·.w) RI := List.mem_map_of_mem (f := fun x : Row => x.w) mx
        rw [hwv] at z
        exact List.mem_map.mp z
      have fw : H xr.w = none := by rw [← ey0]; exact (R.new y0 hy0).1
      have nwF : xr.w ≠ F := by rw [← ey0]; exact (R.new y0 hy0).2.2
      have hlx := hll xr mx
      have hil : i < RI.length := (List.getElem?_eq_some_iff.mp hxr).1
      have hri : RI.length = rows.length := by have z := congrArg List.length hv; simpa using z
      have hxl : (xr.l.map V.int).length ≤ 100000 := by rw [List.length_map]; omega
      os_names t_go
      have z2 := rows_app hat nd hxr
      rw [List.map_append] at z2
      refine ⟨_, RI.set i xr.app, rfl, Same.mut hs' fw, keep_ne eFx nwF.symm, (set_rowV hxr).trans hv, (set_w hxr).trans hwv, z2, fun y hy => ?_⟩
      rcases List.mem_or_eq_of_mem_set hy with z | z
      · have := hll y z
        omega
      · rw [z]
        show (xr.l ++ [0]).length ≤ _
        simp
        omega
    · rintro σ H4 ⟨v, RI, rfl, hs4, eF4, hv, hwv, hat, hll⟩
      have hri : RI.length = rows.length := by have z := congrArg List.length hv; simpa using z
      have hF4 : (rows.map rowV).length ≤ 100000 := by rw [List.length_map]; omega
      have hhl4 := hs4 _ _ hhl
      have nFh : F ≠ hl := fun z => by rw [z, hhl] at fF; cases fF
      os_names t_go
      rename_i sl fsl
      rw [cut_last]
      have nRF : ∀ y ∈ RI, y.w ≠ F := fun y hy => by
        have z : y.w ∈ List.map (·.w) RI := List.mem_map_of_mem (f := fun x : Row => x.w) hy
        rw [hwv] at z
        obtain ⟨y0, hy0, e⟩ := List.mem_map.mp z
        rw [← e]
        exact (R.new y0 hy0).2.2
      have nRH : ∀ y ∈ RI, H y.w = none := fun y hy => by
        have z : y.w ∈ List.map (·.w) RI := List.mem_map_of_mem (f := fun x : Row => x.w) hy
        rw [hwv] at z
        obtain ⟨y0, hy0, e⟩ := List.mem_map.mp z
        rw [← e]
        exact (R.new y0 hy0).1
      have fsl : Fresh _ sl := fsl
      obtain ⟨H5, eH5⟩ : ∃ H5, H5 = upd (upd H4 F (.lst (rows.map rowV ++ [V.non]))) sl (.lst (rows.map rowV)) := ⟨_, rfl⟩
      have sH5 : Same H H5 := by rw [eH5]; exact Same.new (Same.mut hs4 fF) fsl
      have eF5 : H5 F = some (.lst (rows.map rowV ++ [V.non])) := by rw [eH5]; exact keep upd_same fsl
      have esl5 : H5 sl = some (.lst (rows.map rowV)) := by rw [eH5]; exact upd_same
      have at5 : ∀ y ∈ RI, RowAt H5 y := by
        rw [eH5]
        have z := rows_mut (o := .lst (rows.map rowV ++ [V.non])) hat eF4 nRF
        exact fun y hy => (z y hy).same (Same.new (Same.refl _) fsl)
      rw [← eH5]
      clear eH5
      rw [← hv] at esl5
      have hhl5 := sH5 _ _ hhl
      refine r_lcL (xs := RI.map rowV) (fun D i H' => ∃ R2, Same H5 H' ∧ H5 D = none ∧ H' D = some (.lst (R2.map rowV)) ∧ RowsAt H5 H' D R2 ((RI.map (·.m)).take i) ((RI.map (·.l)).take i)) (fun D hD => ⟨[], Same.new (Same.refl _) hD, hD, upd_same, RowsAt.nil⟩) (SqL.of esl5) (fun D i H' _ ⟨_, hs, _⟩ => SqL.of (hs _ _ esl5)) ?_ ?_
      · rintro D i x H6 hi ⟨R2, hs6, hD, hDl, R6⟩
        rw [List.getElem?_map] at hi
        obtain ⟨xr, hxr, ex⟩ : ∃ xr, RI[i]? = some xr ∧ x = .ref xr.r := by
          cases e : RI[i]? with
          | none => rw [e] at hi; cases hi
          | some xr => rw [e] at hi; cases hi; exact ⟨xr, rfl, rfl⟩
        subst ex
        obtain ⟨r1, r2, r3⟩ := (at5 xr (List.mem_of_getElem? hxr)).same hs6
        have hil : i < RI.length := (List.getElem?_eq_some_iff.mp hxr).1
        have hl6 := R6.length
        rw [List.length_take, List.length_map] at hl6
        have hl6' : R2.length ≤ 20000 := by omega
        os_names t_go
        rename_i w6 fw6 t6 ft6
        have fw6 : Fresh H6 w6 := fw6
        have ft6' : Fresh H6 t6 := Fresh.back ft6 (by os_names t_sm)
        have nDw : D ≠ w6 := fun z => by rw [z, show H6 w6 = none from fw6] at hDl; cases hDl
        refine r_acc (acc := R2.map rowV) (by os_names t_hp) (lt_line (by rw [List.length_map]; omega)) ⟨R2 ++ [⟨t6, xr.a, w6, xr.m, xr.l⟩], Same.mut (hs6.trans (by os_names t_sm)) hD, hD, by rw [upd_same, List.map_append]; rfl, ?_⟩
        rw [take_at (show (RI.map (·.m))[i]? = some xr.m by rw [List.getElem?_map, hxr]; rfl), take_at (show (RI.map (·.l))[i]? = some xr.l by rw [List.getElem?_map, hxr]; rfl)]
        exact R6.add hs6 (by os_names t_sm) (by os_names t_hp) (by os_names t_hp) (by os_names t_hp) fw6 ft6' hDl
      · rintro D H6 ⟨R2, hs6, hD, hDl, R6⟩
        rw [List.length_map, List.take_of_length_le (by rw [List.length_map]; exact Nat.le_refl _), List.take_of_length_le (by rw [List.length_map]; exact Nat.le_refl _)] at R6
        have hl6 := R6.length
        rw [List.length_map] at hl6
        have eF6 := hs6 _ _ eF5
        have hhl6 := hs6 _ _ hhl5
        have at6 : ∀ y ∈ RI, RowAt H6 y := fun y hy => (at5 y hy).same hs6
        os_names t_go
        rename_i b6 fb6
        refine r_cat (by os_names t_hp) (by os_names t_hp) (le_line (by simp; omega)) fun kp fkp => ?_
        have fkp : Fresh _ kp := fkp
        os_names t_go
        rename_i pr fpr
        have sH6 : Same H H6 := sH5.trans hs6
        have s7 : Same H6 (upd (upd (upd H6 b6 (.lst [V.non])) kp (.lst (R2.map rowV ++ [V.non]))) pr (.tup [V.ref F, .ref kp])) := by os_names t_sm
        have sH7 := sH6.trans s7
        have fkp0 : H kp = none := sH6.free (Fresh.back fkp (by os_names t_sm))
        have fpr0 : H pr = none := sH6.free (Fresh.back fpr (by os_names t_sm))
        have eF7 := s7 _ _ eF6
        have ekp7 : (upd (upd (upd H6 b6 (.lst [V.non])) kp (.lst (R2.map rowV ++ [V.non]))) pr (.tup [V.ref F, .ref kp])) kp = some (.lst (R2.map rowV ++ [V.non])) := by os_names t_hp
        have epr7 : (upd (upd (upd H6 b6 (.lst [V.non])) kp (.lst (R2.map rowV ++ [V.non]))) pr (.tup [V.ref F, .ref kp])) pr = some (.tup [V.ref F, .ref kp]) := upd_same
        have a1 : ∀ y ∈ RI, RowAt (upd (upd (upd H6 b6 (.lst [V.non])) kp (.lst (R2.map rowV ++ [V.non]))) pr (.tup [V.ref F, .ref kp])) y := fun y hy => (at6 y hy).same s7
        have a2 : ∀ y ∈ R2, RowAt (upd (upd (upd H6 b6 (.lst [V.non])) kp (.lst (R2.map rowV ++ [V.non]))) pr (.tup [V.ref F, .ref kp])) y := fun y hy => (R6.at_ y hy).same s7
        generalize upd (upd (upd H6 b6 (.lst [V.non])) kp (.lst (R2.map rowV ++ [V.non]))) pr (.tup [V.ref F, .ref kp]) = H7 at *
        have hmapz : (hs ++ [pr]).map V.ref = hs.map V.ref ++ [V.ref pr] := by rw [List.map_append]; rfl
        refine q pr H7 _ sH7 (by rw [hmapz]) fun ex n1 n2 hx H8 k8 => ?_
        have hl7 := sH7 _ _ hhl
        have nb : ∀ b, b ∉ ex → ∀ o, H7 b = some o → H8 b = some o := fun b nb o e => k8 _ _ nb (keep_ne e fun z => nb (z ▸ hx))
        have kx : Kx ex H7 H8 := fun b o e1 e2 => nb b e1 o e2
        have b1 := rows_kx a1 sH7 n1 n2 nRH kx
        have b2 := rows_kx a2 sH7 n1 n2 (fun y hy => sH5.free (R6.new y hy).1) kx
        have ml : RI.map Row.ml = R2.map Row.ml := (ml_of rfl rfl).trans (ml_of R6.m R6.l).symm
        rw [← hv] at eF7
        exact ⟨F, kp, kx _ _ (n1 _ fpr0) epr7, fun Q q => .inl (r_neRows (b := true) (kx _ _ (n1 _ fF) eF7) (kx _ _ (n1 _ fkp0) ekp7) b1 b2 ml q)⟩
theorem ok_RoomInit (T : Txt K mg a) : FnOk P w K mg base (L2.CX P w) 5 a.f_Room_init a.d_Room_init ["self", "many"] (spRoomInit a.c_Room a.c_Hand a.c_Log a.c_NoHand) := by
  have cLg := T.cl_Log
  have nLs := T.na_Log_since
  have nLb := T.na_Log_base
  have nLk := T.na_Log_kept
  have cHd := T.cl_Hand
  have nHn := T.na_Hand_number
  have nHc := T.na_Hand_clock
  have nHl := T.na_Hand_log
  have cRm := T.cl_Room
  have nRh := T.na_Room_hands
  have nRl := T.na_Room_lines
  have G_whole := ok_whole (P := P) (w := w) (base := base) T
  have G_Hand_init := ok_HandInit (P := P) (w := w) (base := base) T
  refine T.F_Room_init.okX sc_Room_init (fun vs H Q E h => ?_) (fun cdv A outer s H vs Q E hr h => ?_)
  · obtain ⟨p, dx, x, rfl, _⟩ := h
    rfl
  · obtain ⟨p, dx, x, rfl, hp, hk, he, q⟩ := h
    refine ⟨_, (pss_cons (ps_if (PW.pt (pw_or (pt_not (pt_val (pe_call G_whole (hr.mono (by decide)) rfl T.g_whole T.k_whole T.b_whole .nil passL (pa_cons (pv 1) (pa_cons pe_int pa_nil))))) (pw_or1 (pt_cmpR (op_gt) (pv 1) (pe_glob (v := .int 60) rfl T.g_MOST ⟨_, rfl⟩) (nomark _))))) (pss_one (ps_raiseQ rfl (takes_of rfl rfl rfl rfl) T.x_NoHand T.g_NoHand T.ke_NoHand T.be_NoHand T.te_NoHand)) pss_nil)
 (pss_cons (ps_fld (pv 0) (pe_lc (own := [("number", 2)]) (g := gName 2) rfl sc_Room_init.nd (pi_range1 rfl T.n_range (pa_cons (pv 1) pa_nil)) (blkOk_by (own := [("number", 2)]) (N := n_Room_init) (sc := defScope s_Room_init) (by decide +kernel)) (fun _ _ _ _ _ => pg_name (i := 2) sc_Room_init.nd rfl (Or.inl rfl)) (fun _ _ _ _ _ => pts_nil) (fun _ _ _ _ _ => (pe_make T.m_Hand G_Hand_init (hr.mono (by decide)) rfl T.g_Hand T.b_Hand_init .nil passL (pa_cons (pv 2) pa_nil)))) rfl)
 (pss_one (ps_fld (pv 0) (pe_lc (own := [("number", 2)]) (g := gName 2) rfl sc_Room_init.nd (pi_range1 rfl T.n_range (pa_cons (pv 1) pa_nil)) (blkOk_by (own := [("number", 2)]) (N := n_Room_init) (sc := defScope s_Room_init) (by decide +kernel)) (fun _ _ _ _ _ => pg_name (i := 2) sc_Room_init.nd rfl (Or.inl rfl)) (fun _ _ _ _ _ => pts_nil) (fun _ _ _ _ _ => (pe_lst pa_nil))) rfl)))), ?_⟩
    os_names t_st
    change (_ : TS) _ [some _, some _, none] _
    os_names t_go
    refine c_whole hk ?_
    cases hw : isW x 1 with
    | false =>
      os_names t_goi
      refine he fun i h1 h2 e => ?_
      rw [e] at hw
      simp [isW] at hw
      have := hw (by omega)
      simp only [E60] at this
      omega
    | true =>
      obtain ⟨z, rfl, z0, z1⟩ := isW_int hw
      os_names t_go
      by_cases c : z > 60
      · refine yes (d_t c) ?_
        os_names t_go
        refine he fun i h1 h2 e => ?_
        cases e
        omega
      · refine no (d_f c) ?_
        obtain ⟨n, rfl⟩ : ∃ n : Nat, z = n := ⟨z.toNat, by omega⟩
        have hn1 : 1 ≤ n := by omega
        have hn2 : n ≤ 60 := by omega
        os_names t_go
        refine r_lcR n (fun D i H' => ∃ τ ph hd lg g, Hds a.c_Hand a.c_Log τ H H' p D i ph hd lg g) (by omega) (fun D hD => ?_) ?_ ?_
        · have npD : p ≠ D := ne_of_none hp hD
          refine ⟨fut (fut (fun _ => (9, 0)) D (4, 0)) p (4, 2), fun _ => p, fun _ => p, fun _ => p, fun _ => lg0 p p p, ⟨Same.new (Same.refl _) hD, upd_same, hD, fun j hj => absurd hj (by omega), fun j hj => absurd hj (by omega), fun j hj => absurd hj (by omega), fun j hj => absurd hj (by omega), fun j hj => absurd hj (by omega), fun j hj => absurd hj (by omega), ?_, fut_at, fun b e => ?_, fun b o n e => ?_⟩⟩
          · rw [fut_ne npD.symm]
            exact fut_at
          · obtain ⟨e0, n0⟩ := new_free e
            rw [fut_ne (fun z => by rw [z, hp] at e0; cases e0), fut_ne n0]
          · rw [fut_ne n, fut_ne (ne_of_none e hD)]
        · rintro D i H' hi ⟨τ, ph, hd, lg, g, h⟩
          os_names t_go
          intro q0 dx0 fq fdx ndq
          refine ⟨q0, dx0, .int i, rfl, upd_same, trivial, (fun z => by rw [isW_ok (by omega) (by simp only [E60]; omega)] at z; cases z), fun n' en hw' lg' b l ldx H2 flg fb fl sp DH => ⟨rfl, ?_⟩⟩
          obtain rfl : (i : Int) = n' := V.int.inj en
          obtain ⟨eD, hh⟩ := h.add hp fq fdx ndq flg fb fl sp DH
          exact r_acc eD (lt_line (by rw [rg_length]; omega)) ⟨_, _, _, _, _, hh⟩
        · rintro D H1 ⟨τ, ph, hd, lg, g, h⟩
          have hp1 := h.s _ _ hp
          os_names t_go
          refine r_sFld hp1 cRm nRh (of_decide_eq_true rfl) ?_
          have hp2 : (upd H1 p (.ins a.c_Room dx (putF ("hands" : Str) (.ref D) []))) p = some (.ins a.c_Room dx (putF ("hands" : Str) (.ref D) [])) := upd_same
          have np : ∀ b o, b ≠ p → H1 b = some o → (upd H1 p (.ins a.c_Room dx (putF ("hands" : Str) (.ref D) []))) b = some o := fun b o n e => keep_ne e n
          have fr : ∀ b, (upd H1 p (.ins a.c_Room dx (putF ("hands" : Str) (.ref D) []))) b = none → H1 b = none ∧ b ≠ p := fun b e => new_free e
          generalize upd H1 p (.ins a.c_Room dx (putF ("hands" : Str) (.ref D) [])) = H2 at *
          os_names t_go
          refine r_lcR n (fun D2 i H' => ∃ τ' ln, Lns τ τ' H2 H' D2 i ln) (by omega) (fun D2 hD => ?_) ?_ ?_
          · refine ⟨fut τ D2 (4, 1), fun _ => p, ⟨Same.new (Same.refl _) hD, upd_same, hD, fun j hj => absurd hj (by omega), fun j hj => absurd hj (by omega), fun j hj => absurd hj (by omega), fut_at, fun b o e => fut_ne (ne_of_none e hD), fun b e => ?_⟩⟩
            obtain ⟨e0, n0⟩ := new_free e
            rw [fut_ne n0]
            exact h.un b (fr b e0).1
          · rintro D2 i H' hi ⟨τ', ln, hl⟩
            os_names t_go
            rename_i x0 fx0
            obtain ⟨eD, hh⟩ := hl.add fx0
            exact r_acc eD (lt_line (by rw [rg_length]; omega)) ⟨_, _, hh⟩
          · rintro D2 H3 ⟨τ', ln, hl⟩
            have hp3 := hl.s _ _ hp2
            os_names t_go
            refine r_sFld hp3 cRm nRl (of_decide_eq_true rfl) ?_
            rw [put_rinit]
            have nb : ∀ b o, b ≠ p → H1 b = some o → (upd H3 p (.ins a.c_Room dx (rmF D D2))) b = some o := fun b o n e => keep_ne (hl.s _ _ (np b o n e)) n
            have n3 : ∀ b o, b ≠ p → H3 b = some o → (upd H3 p (.ins a.c_Room dx (rmF D D2))) b = some o := fun b o n e => keep_ne e n
            have hold : ∀ b, H2 b = none → H b = none := fun b e => h.s.free (fr b e).1
            have nop : ∀ b o, H b = none → H1 b = some o → b ≠ p := fun b o e _ z => by rw [z, hp] at e; cases e
            have nopN : ∀ b, H b = none → b ≠ p := fun b e z => by rw [z, hp] at e; cases e
            have tg2 : ∀ b o, b ≠ p → H1 b = some o → τ' b = τ b := fun b o n e => hl.ag _ _ (np b o n e)
            refine q n rfl hn1 hn2 τ' _ ⟨dx, D, D2, ph, hd, lg, ln, fun _ => 0, g, fun _ => [], fun _ => []⟩ (fun b o n e => nb b o n (h.s _ _ e)) ⟨upd_same, nb _ _ (nopN _ h.nD) h.eD, n3 _ _ (nopN _ (hold _ hl.nD)) hl.eD, fun j hj => ?_, fun j hj => n3 _ _ (nopN _ (hold _ (hl.nw j hj))) (hl.e j hj), fun j hj => rfl, (hl.ag _ _ hp2).trans h.tr, (tg2 _ _ (nopN _ h.nD) h.eD).trans h.tD, hl.tD, fun j hj => (tg2 _ _ (nopN _ (h.nw j hj).1) (h.hd j hj).hp).trans (h.tp j hj), fun j hj => (tg2 _ _ (nopN _ (h.nw j hj).2.1) (h.hd j hj).L.hp).trans (h.tg j hj), fun j hj => (tg2 _ _ (nopN _ (h.nw j hj).2.2.2) (h.hd j hj).L.hl).trans (h.tl j hj), hl.tn⟩
              ⟨fun _ _ => rfl, fun j hj => (h.z j hj).1, fun j hj => (h.z j hj).2.1, fun j hj => (h.z j hj).2.2.1, fun j hj => (h.z j hj).2.2.2, fun _ _ => rfl, fun _ _ => rfl, fun b hb => ?_⟩ (fun b e => ?_) (fun b o n e => ?_)
            · refine (h.hd j hj).mono fun b o e z => nb b o (fun w => ?_) e
              rw [w, hp1] at e
              cases e
              rcases z with z | z | z | z | ⟨vs, z⟩
              · exact nopN _ (h.nw j hj).1 (z.symm.trans w)
              · exact nopN _ (h.nw j hj).2.1 (z.symm.trans w)
              · exact nopN _ (h.nw j hj).2.2.1 (z.symm.trans w)
              · exact nopN _ (h.nw j hj).2.2.2 (z.symm.trans w)
              · cases z
            · rcases hb with z | z | z | ⟨j, hj, z | z | z | z | z⟩
              · exact .inl z
              · exact .inr (z ▸ h.nD)
              · exact .inr (z ▸ hold _ hl.nD)
              · exact .inr (z ▸ (h.nw j hj).1)
              · exact .inr (z ▸ (h.nw j hj).2.1)
              · exact .inr (z ▸ (h.nw j hj).2.2.1)
              · exact .inr (z ▸ (h.nw j hj).2.2.2)
              · exact .inr (z ▸ hold _ (hl.nw j hj))
            · exact hl.un b (new_free e).1
            · rw [tg2 _ _ n (h.s _ _ e)]
              exact h.ol b o n e
theorem ok_lineOf (T : Txt K mg a) : FnOk P w K mg base (L2.CX P w) 2 a.f_Room_line_of a.d_Room_line_of ["self", "number"] (spLineOf a.c_Room a.c_Hand a.c_Log a.c_NoHand) := by
  have cLg := T.cl_Log
  have nLs := T.na_Log_since
  have nLb := T.na_Log_base
  have nLk := T.na_Log_kept
  have cHd := T.cl_Hand
  have nHn := T.na_Hand_number
  have nHc := T.na_Hand_clock
  have nHl := T.na_Hand_log
  have cRm := T.cl_Room
  have nRh := T.na_Room_hands
  have nRl := T.na_Room_lines
  have G_whole := ok_whole (P := P) (w := w) (base := base) T
  refine T.F_Room_line_of.okX sc_Room_line_of (fun vs H Q E h => ?_) (fun cdv A outer s H vs Q E hr h => ?_)
  · obtain ⟨τ, n, rm, R, x, rfl, _⟩ := h
    rfl
  · obtain ⟨τ, n, rm, R, x, rfl, D, hn, hk, q⟩ := h
    have hrm := D.hr
    have hLH := D.hh
    have hLL := D.hl
    have eln : ∀ f : Nat → V, (((rg n f).length : Nat) : Int) = n := fun f => by rw [rg_length]
    refine ⟨_, (pss_cons (ps_if (PW.pt (pw_or (pt_not (pt_val (pe_call G_whole (hr.mono (by decide)) rfl T.g_whole T.k_whole T.b_whole .nil passL (pa_cons (pv 1) (pa_cons pe_int pa_nil))))) (pw_or1 (pt_cmpR (op_ge) (pv 1) (pe_callB (call_lenQ) (by rfl) T.n_len (by decide +kernel) (pa_cons (pe_fld (pv 0) rfl) pa_nil)) (nomark _))))) (pss_one (ps_raiseQ rfl (takes_of rfl rfl rfl rfl) T.x_NoHand T.g_NoHand T.ke_NoHand T.be_NoHand T.te_NoHand)) pss_nil)
 (pss_one (ps_ret (pe_ix ix_list (pe_fld (pv 0) rfl) (pv 1) (fun _ _ => rfl))))), ?_⟩
    os_names t_st
    change (_ : TS) _ [some _, some _] _
    os_names t_go
    refine c_whole hk ?_
    cases hw : isW x 0 with
    | false =>
      os_names t_goi
      rcases q with ⟨_, e⟩ | ⟨i, rfl, hi, _⟩
      · exact e
      · rw [show isW (V.int (i : Int)) 0 = true from isW_ok (by omega) (by simp only [E60]; omega)] at hw
        cases hw
    | true =>
      obtain ⟨z, rfl, z0, z1⟩ := isW_int hw
      os_names t_go
      rw [eln]
      rcases q with ⟨hb, e⟩ | ⟨i, ei, hi, q⟩
      · have hz := hb.big rfl z0
        os_names t_goi
        exact e
      · cases ei
        have ix : atI (rg n fun j => V.ref (R.ln j)) (i : Int) = some (.ref (R.ln i)) := rg_at hi
        os_names t_goi
        exact q
theorem ok_wait (T : Txt K mg a) : FnOk P w K mg base (L2.CX P w) 3 a.f_Room_waiting a.d_Room_waiting ["self", "number"] (spWait a.c_Room a.c_Hand a.c_Log a.c_NoHand) := by
  have cLg := T.cl_Log
  have nLs := T.na_Log_since
  have nLb := T.na_Log_base
  have nLk := T.na_Log_kept
  have cHd := T.cl_Hand
  have nHn := T.na_Hand_number
  have nHc := T.na_Hand_clock
  have nHl := T.na_Hand_log
  have cRm := T.cl_Room
  have nRh := T.na_Room_hands
  have nRl := T.na_Room_lines
  have G_Room_line_of := ok_lineOf (P := P) (w := w) (base := base) T
  refine T.F_Room_waiting.okX sc_Room_waiting (fun vs H Q E h => ?_) (fun cdv A outer s H vs Q E hr h => ?_)
  · obtain ⟨τ, n, rm, R, x, rfl, _⟩ := h
    rfl
  · obtain ⟨τ, n, rm, R, x, rfl, D, hn, hk, q⟩ := h
    have hrm := D.hr
    refine ⟨_, (pss_one (ps_ret (pe_callTy (call_listQ) (by rfl) T.n_list (by decide +kernel) (pa_cons (pe_meth (pv 0) T.cl_Room T.mt_Room_line_of G_Room_line_of (hr.mono (by decide)) T.b_Room_line_of .nil (passes_call (takes_of rfl rfl rfl rfl) (fun _ _ _ _ h => h)) (pa_cons (pv 1) pa_nil)) pa_nil)))), ?_⟩
    os_names t_st
    change (_ : TS) _ [some _, some _] _
    os_names t_go
    rcases q with ⟨hb, e⟩ | ⟨i, rfl, hi, q⟩
    · exact ⟨τ, n, rm, R, x, rfl, D, hn, hk, .inl ⟨hb, e⟩⟩
    · refine c_lineOf D hn hi ?_
      have hw := D.hw i hi
      os_names t_go
      rename_i l hl
      exact q l hl
theorem ok_roomMove (T : Txt K mg a) : FnOk P w K mg base (L2.CX P w) 5 a.f_Room_move a.d_Room_move ["self", "number", "folder", "under"] (spRoomMove a.c_Room a.c_Hand a.c_Log a.c_NoHand a.c_NoMove) := by
  have cLg := T.cl_Log
  have nLs := T.na_Log_since
  have nLb := T.na_Log_base
  have nLk := T.na_Log_kept
  have cHd := T.cl_Hand
  have nHn := T.na_Hand_number
  have nHc := T.na_Hand_clock
  have nHl := T.na_Hand_log
  have cRm := T.cl_Room
  have nRh := T.na_Room_hands
  have nRl := T.na_Room_lines
  have G_Room_line_of := ok_lineOf (P := P) (w := w) (base := base) T
  have G_Hand_move := ok_handMove (P := P) (w := w) (base := base) T
  refine T.F_Room_move.okX sc_Room_move (fun vs H Q E h => ?_) (fun cdv A outer s H vs Q E hr h => ?_)
  · obtain ⟨τ, n, rm, R, x, f, u, rfl, _⟩ := h
    rfl
  · obtain ⟨τ, n, rm, R, x, f, u, rfl, D, hn, hk, kf, ku, q⟩ := h
    have hrm := D.hr
    refine ⟨_, (pss_cons (ps_set (i := 4) sc_Room_move.nd rfl (Or.inl rfl) (pe_meth (pv 0) T.cl_Room T.mt_Room_line_of G_Room_line_of (hr.mono (by decide)) T.b_Room_line_of .nil (passes_call (takes_of rfl rfl rfl rfl) (fun _ _ _ _ h => h)) (pa_cons (pv 1) pa_nil)))
 (pss_cons (ps_set (i := 5) sc_Room_move.nd rfl (Or.inl rfl) (pe_meth (pe_ix ix_list (pe_fld (pv 0) rfl) (pv 1) (fun _ _ => rfl)) T.cl_Hand T.mt_Hand_move G_Hand_move (hr.mono (by decide)) T.b_Hand_move .nil (passes_call (takes_of rfl rfl rfl rfl) (fun _ _ _ _ h => h)) (pa_cons (pv 2) (pa_cons (pv 3) pa_nil))))
 (pss_cons (ps_for (passes_of rfl) rfl (pi_range1 rfl T.n_range (pa_cons (pe_callB (call_lenQ) (by rfl) T.n_len (by decide +kernel) (pa_cons (pe_fld (pv 0) rfl) pa_nil)) pa_nil)) (pg_name (i := 6) sc_Room_move.nd rfl (Or.inl rfl)) (pss_one (ps_if (pt_cmpR (op_ne) (pv 6) (pv 1) (nomark _)) (pss_one (ps_expr (pe_bm PySem.F.plainAttrs_list PySem.F.slot_list_append PySem.F.type_list_append mt_append (pe_ix ix_list (pe_fld (pv 0) rfl) (pv 6) (fun _ _ => rfl)) (pa_cons (pv 5) pa_nil)))) pss_nil)))
 (pss_one (ps_ret (pv 5)))))), ?_⟩
    os_names t_st
    change (_ : TS) _ [some _, some _, some _, some _, none, none, none] _
    os_names t_go
    rcases q with ⟨hb, e⟩ | ⟨i, rfl, hi, hS, hgl, c0, cs, hall, hwa, q⟩
    · exact ⟨τ, n, rm, R, x, rfl, D, hn, hk, .inl ⟨hb, e⟩⟩
    · refine c_lineOf D hn hi ?_
      have hLH := D.hh
      have ix : atI (rg n fun j => V.ref (R.p j)) (i : Int) = some (.ref (R.p i)) := rg_at hi
      have DH := D.hd i hi
      have hpi := DH.hp
      os_names t_go
      refine ⟨_, _, _, _, _, _, f, u, rfl, DH, hS, hgl, kf, ku, by omega, by simp only [E60]; omega, c0, cs, hall, ?_⟩
      rcases q with ⟨hb, e⟩ | ⟨fi, ui, rfl, rfl, ok, q⟩
      · exact .inl ⟨hb, fun H' s => e H' s⟩
      · refine .inr ⟨fi, ui, rfl, rfl, ok, fun b H1 H2 fb s1 eb e2 D2 => ?_⟩
        have hip : R.p i ∈ exR n R := mem_exR.mpr ⟨i, hi, .inl rfl⟩
        have hil : (R.g i).l ∈ exR n R := mem_exR.mpr ⟨i, hi, .inr (.inr (.inl rfl))⟩
        generalize hmv : Mv.mk (R.c i + 1) (i : Int) fi ui = m at *
        have kx2 : Kx (exR n R) H H2 := by rw [e2]; exact Kx.mut hip (Kx.mut hil (Kx.of s1))
        have R2 : RoomAt a.c_Room a.c_Hand a.c_Log τ H2 n rm (R.moved i b m 0) := by
          have z := (D.same s1).hand hi (τ' := τ) (g' := (R.g i).heard b m) (c' := R.c i + 1) (H' := H2) (fun x o n1 n2 n3 e => by rw [e2]; exact keep_ne (keep_ne e n3) n1) D2 (fun _ _ _ => rfl) (D.tl i hi)
          have et : m.t = R.c i + 1 := by rw [← hmv]
          have ez : R.moved i b m 0 = { R with c := fu R.c i (R.c i + 1), g := fu R.g i ((R.g i).heard b m) } := by
            unfold Rm.moved
            rw [et]
            congr 1
            · funext j; rw [if_pos (.inr (Nat.zero_le _))]
            · funext j; rw [if_pos (.inr (Nat.zero_le _))]
          rw [ez]
          exact z
        have eb2 : H2 b = some (.tup m.vs) := by
          have w := (D.same s1).hd i hi
          rw [e2]
          exact keep_ne (keep_ne eb fun z => by have e := w.L.hl; rw [← z, eb] at e; cases e) fun z => by have e := w.hp; rw [← z, eb] at e; cases e
        have hrm2 := R2.hr
        have hLL2 : H2 R.LL = some (.lst (rg n fun j => V.ref (R.ln j))) := R2.hl
        have hrm2 : H2 rm = some (.ins a.c_Room R.dx (rmF R.LH R.LL)) := hrm2
        clear hmv D2 e2 eb s1
        os_names t_go
        rw [rg_length]
        refine r_forR n (fun t σ H' => ∃ v, σ = [some (.ref rm), some (.int i), some (.int fi), some (.int ui), some (.ref (R.ln i)), some (.ref b), v] ∧ RoomAt a.c_Room a.c_Hand a.c_Log τ H' n rm (R.moved i b m t) ∧ Kx (exR n R) H H' ∧ H' b = some (.tup m.vs)) (by omega) ⟨none, rfl, R2, kx2, eb2⟩ ?_ ?_
        · rintro t σ H' ht ⟨v, rfl, Rt, kx, ebt⟩
          have hrt : H' rm = some (.ins a.c_Room R.dx (rmF R.LH R.LL)) := Rt.hr
          have hLt : H' R.LL = some (.lst (rg n fun j => V.ref (R.ln j))) := Rt.hl
          have ixt : atI (rg n fun j => V.ref (R.ln j)) (t : Int) = some (.ref (R.ln t)) := rg_at ht
          have hwt : H' (R.ln t) = some (.lst (((R.moved i b m t).wa t).map V.ref)) := Rt.hw t ht
          have hmt : MvsAt H' ((R.moved i b m t).wa t) ((R.moved i b m t).wm t) := Rt.hm t ht
          have ewt : (R.moved i b m t).wa t = R.wa t := if_pos (.inr (Nat.le_refl _))
          have emt : (R.moved i b m t).wm t = R.wm t := if_pos (.inr (Nat.le_refl _))
          rw [ewt] at hwt hmt
          rw [emt] at hmt
          have hl2 : ((R.wa t).map V.ref).length ≤ 100000 := by rw [List.length_map]; exact hwa t ht
          os_names t_go
          by_cases c : t = i
          · subst c
            refine no (nd_f (by rfl)) ?_
            os_names t_go
            refine ⟨_, rfl, ?_, kx, ebt⟩
            have ez : R.moved t b m (t + 1) = R.moved t b m t := by
              unfold Rm.moved
              congr 1
              · funext j
                by_cases e : j = t ∨ t ≤ j
                · rw [if_pos e, if_pos (by omega)]
                · rw [if_neg e, if_neg (by omega)]
              · funext j
                by_cases e : j = t ∨ t ≤ j
                · rw [if_pos e, if_pos (by omega)]
                · rw [if_neg e, if_neg (by omega)]
            rw [ez]
            exact Rt
          · refine yes (nd_t (by omega)) ?_
            os_names t_go
            rw [show (R.wa t).map V.ref ++ [V.ref b] = (R.wa t ++ [b]).map V.ref by rw [List.map_append]; rfl]
            have z := Rt.line ht (hmt.snoc ebt)
            have ez : R.moved i b m (t + 1) = { R.moved i b m t with wa := fu (R.moved i b m t).wa t (R.wa t ++ [b]), wm := fu (R.moved i b m t).wm t (R.wm t ++ [m]) } := by
              unfold Rm.moved
              congr 1
              · exact step_fun c R.wa fun j => R.wa j ++ [b]
              · exact step_fun c R.wm fun j => R.wm j ++ [m]
            refine ⟨_, rfl, ?_, Kx.mut (mem_exR.mpr ⟨t, ht, .inr (.inr (.inr rfl))⟩) kx, keep_ne ebt fun z => by rw [z, hwt] at ebt; cases ebt⟩
            rw [ez]
            exact z
        · rintro σ H' ⟨v, rfl, Rt, kx, ebt⟩
          os_names t_go
          exact q b H' fb ebt Rt kx
theorem ok_carry (T : Txt K mg a) : FnOk P w K mg base (L2.CX P w) 5 a.f_Room_carry a.d_Room_carry ["self", "number", "place"] (spCarry a.c_Room a.c_Hand a.c_Log a.c_NoHand) := by
  have cLg := T.cl_Log
  have nLs := T.na_Log_since
  have nLb := T.na_Log_base
  have nLk := T.na_Log_kept
  have cHd := T.cl_Hand
  have nHn := T.na_Hand_number
  have nHc := T.na_Hand_clock
  have nHl := T.na_Hand_log
  have cRm := T.cl_Room
  have nRh := T.na_Room_hands
  have nRl := T.na_Room_lines
  have G_Room_line_of := ok_lineOf (P := P) (w := w) (base := base) T
  have G_Hand_hear := ok_handHear (P := P) (w := w) (base := base) T
  refine T.F_Room_carry.okX sc_Room_carry (fun vs H Q E h => ?_) (fun cdv A outer s H vs Q E hr h => ?_)
  · obtain ⟨τ, n, rm, R, x, place, rfl, _⟩ := h
    rfl
  · obtain ⟨τ, n, rm, R, x, place, rfl, D, hn, hk, q⟩ := h
    have hrm := D.hr
    refine ⟨_, (pss_cons (ps_set (i := 3) sc_Room_carry.nd rfl (Or.inl rfl) (pe_meth (pv 0) T.cl_Room T.mt_Room_line_of G_Room_line_of (hr.mono (by decide)) T.b_Room_line_of .nil (passes_call (takes_of rfl rfl rfl rfl) (fun _ _ _ _ h => h)) (pa_cons (pv 1) pa_nil)))
 (pss_cons (ps_if (pt_cmpR (op_eqD (T64 hr)) (pv 3) (pe_lst pa_nil) (nomark _)) (pss_one (ps_ret pe_non)) pss_nil)
 (pss_cons (ps_set (i := 4) sc_Room_carry.nd rfl (Or.inl rfl) (pe_bm PySem.F.plainAttrs_list PySem.F.slot_list_pop PySem.F.type_list_pop mt_popAt (pv 3) (pa_cons (pe_op op_mod (pv 2) (pe_callB (call_lenQ) (by rfl) T.n_len (by decide +kernel) (pa_cons (pv 3) pa_nil))) pa_nil)))
 (pss_cons (ps_expr (pe_meth (pe_ix ix_list (pe_fld (pv 0) rfl) (pv 1) (fun _ _ => rfl)) T.cl_Hand T.mt_Hand_hear G_Hand_hear (hr.mono (by decide)) T.b_Hand_hear .nil (passes_call (takes_of rfl rfl rfl rfl) (fun _ _ _ _ h => h)) (pa_cons (pv 4) pa_nil)))
 (pss_one (ps_ret (pv 4))))))), ?_⟩
    os_names t_st
    change (_ : TS) _ [some _, some _, some _, none, none] _
    os_names t_go
    rcases q with ⟨hb, e⟩ | ⟨i, rfl, hi, hS, hgl, hlen, hok, q0, q⟩
    · exact ⟨τ, n, rm, R, x, rfl, D, hn, hk, .inl ⟨hb, e⟩⟩
    · refine c_lineOf D hn hi ?_
      have hw := D.hw i hi
      have hm := D.hm i hi
      have hwl := hm.length
      os_names t_go
      rename_i e0 fe0
      have fe0 : Fresh H e0 := fe0
      refine r_eqNil (keep hw fe0) (hm.same (Same.new (Same.refl _) fe0)) upd_same (r_qB ?_)
      by_cases c : R.wm i = []
      · refine yes (decide_eq_true c) ?_
        os_names t_go
        exact q0 c _ (Same.new (Same.refl _) fe0)
      · refine no (decide_eq_false c) ?_
        obtain ⟨y, m, e1, e2⟩ := place_at c place
        obtain ⟨b, hb1, hb2⟩ := hm.at_m e2
        have s1 : Same H (upd H e0 (.lst [])) := Same.new (Same.refl _) fe0
        have D1 := D.same s1
        have hw1 := D1.hw i hi
        have hbt := s1 _ _ hb2
        have hm1 := D1.hm i hi
        generalize upd H e0 (.lst []) = H1 at *
        have hlp : 0 < ((R.wa i).map V.ref).length := by rw [List.length_map, hwl]; exact List.length_pos_iff.mpr c
        have hll : (((R.wa i).map V.ref).length : Int) = (R.wm i).length := by rw [List.length_map, hwl]
        have hl2 : ((R.wa i).map V.ref).length ≤ 100000 := by rw [List.length_map, hwl]; exact hlen
        os_names t_go
        refine r_popAt hw1 (show ((R.wa i).map V.ref)[y]? = some (.ref b) by rw [List.getElem?_map, hb1]; rfl) (by rw [hll]; exact e1) (by omega) ?_
        rw [ref_erase]
        have D2 := D1.line hi (hm1.erase y)
        have hin : R.ln i ∈ exR n R := mem_exR.mpr ⟨i, hi, .inr (.inr (.inr rfl))⟩
        have hip : R.p i ∈ exR n R := mem_exR.mpr ⟨i, hi, .inl rfl⟩
        have hil : (R.g i).l ∈ exR n R := mem_exR.mpr ⟨i, hi, .inr (.inr (.inl rfl))⟩
        have kx2 : Kx (exR n R) H (upd H1 (R.ln i) (.lst (((R.wa i).eraseIdx y).map V.ref))) := Kx.mut hin (Kx.of s1)
        have hbt2 : (upd H1 (R.ln i) (.lst (((R.wa i).eraseIdx y).map V.ref))) b = some (.tup m.vs) := keep_ne hbt fun z => by rw [z, hw1] at hbt; cases hbt
        generalize upd H1 (R.ln i) (.lst (((R.wa i).eraseIdx y).map V.ref)) = H2 at *
        have hrm2 := D2.hr
        have hLH2 : H2 R.LH = some (.lst (rg n fun j => V.ref (R.p j))) := D2.hh
        have ix : atI (rg n fun j => V.ref (R.p j)) (i : Int) = some (.ref (R.p i)) := rg_at hi
        have DH : HandAt a.c_Hand a.c_Log H2 (R.p i) (R.hd i) (i : Int) (R.c i) (R.lg i) (R.g i) := D2.hd i hi
        have hp2 := DH.hp
        obtain ⟨ok, ts, ncl⟩ := hok m (List.mem_of_getElem? e2)
        os_names t_go
        refine ⟨_, _, _, _, _, _, _, rfl, DH, hS, hgl, .inr ⟨b, m, rfl, hbt2, ok, fun z => absurd z (by omega), fun _ z => (ncl z).elim, fun _ hmem => ?_, fun _ hnew => ?_⟩⟩
        · os_names t_go
          refine q b m y _ e1 hb1 e2 (keep_ne hbt2 fun z => by rw [z, hp2] at hbt2; cases hbt2) (D.carry hi D2 (fun b o n1 n2 n3 e => keep_ne e n1) ?_) (Kx.mut hip kx2)
          rw [if_pos hmem]
          exact DH.clock _
        · os_names t_go
          have D3 := DH.heard (m := m) hbt2
          refine q b m y _ e1 hb1 e2 (keep_ne (keep_ne hbt2 fun z => by rw [z, DH.L.hl] at hbt2; cases hbt2) fun z => by rw [z, hp2] at hbt2; cases hbt2) (D.carry hi D2 (fun b o n1 n2 n3 e => keep_ne (keep_ne e n3) n1) ?_) (Kx.mut hip (Kx.mut hil kx2))
          rw [if_neg (new_not_mem hnew)]
          exact D3.clock _
theorem ok_double (T : Txt K mg a) : FnOk P w K mg base (L2.CX P w) 3 a.f_Room_double a.d_Room_double ["self", "number", "place"] (spDouble a.c_Room a.c_Hand a.c_Log a.c_NoHand) := by
  have cLg := T.cl_Log
  have nLs := T.na_Log_since
  have nLb := T.na_Log_base
  have nLk := T.na_Log_kept
  have cHd := T.cl_Hand
  have nHn := T.na_Hand_number
  have nHc := T.na_Hand_clock
  have nHl := T.na_Hand_log
  have cRm := T.cl_Room
  have nRh := T.na_Room_hands
  have nRl := T.na_Room_lines
  have G_Room_line_of := ok_lineOf (P := P) (w := w) (base := base) T
  refine T.F_Room_double.okX sc_Room_double (fun vs H Q E h => ?_) (fun cdv A outer s H vs Q E hr h => ?_)
  · obtain ⟨τ, n, rm, R, x, place, rfl, _⟩ := h
    rfl
  · obtain ⟨τ, n, rm, R, x, place, rfl, D, hn, hk, q⟩ := h
    have hrm := D.hr
    refine ⟨_, (pss_cons (ps_set (i := 3) sc_Room_double.nd rfl (Or.inl rfl) (pe_meth (pv 0) T.cl_Room T.mt_Room_line_of G_Room_line_of (hr.mono (by decide)) T.b_Room_line_of .nil (passes_call (takes_of rfl rfl rfl rfl) (fun _ _ _ _ h => h)) (pa_cons (pv 1) pa_nil)))
 (pss_cons (ps_if (pt_cmpR (op_eqD (T64 hr)) (pv 3) (pe_lst pa_nil) (nomark _)) (pss_one (ps_ret pe_non)) pss_nil)
 (pss_cons (ps_set (i := 4) sc_Room_double.nd rfl (Or.inl rfl) (pe_ix ix_list (pv 3) (pe_op op_mod (pv 2) (pe_callB (call_lenQ) (by rfl) T.n_len (by decide +kernel) (pa_cons (pv 3) pa_nil))) (fun _ _ => rfl)))
 (pss_cons (ps_expr (pe_bm PySem.F.plainAttrs_list PySem.F.slot_list_append PySem.F.type_list_append mt_append (pv 3) (pa_cons (pv 4) pa_nil)))
 (pss_one (ps_ret (pv 4))))))), ?_⟩
    os_names t_st
    change (_ : TS) _ [some _, some _, some _, none, none] _
    os_names t_go
    rcases q with ⟨hb, e⟩ | ⟨i, rfl, hi, hlen, q0, q⟩
    · exact ⟨τ, n, rm, R, x, rfl, D, hn, hk, .inl ⟨hb, e⟩⟩
    · refine c_lineOf D hn hi ?_
      have hw := D.hw i hi
      have hm := D.hm i hi
      have hwl := hm.length
      os_names t_go
      rename_i e0 fe0
      have fe0 : Fresh H e0 := fe0
      refine r_eqNil (keep hw fe0) (hm.same (Same.new (Same.refl _) fe0)) upd_same (r_qB ?_)
      by_cases c : R.wm i = []
      · refine yes (decide_eq_true c) ?_
        os_names t_go
        exact q0 c _ (Same.new (Same.refl _) fe0)
      · refine no (decide_eq_false c) ?_
        obtain ⟨y, m, e1, e2⟩ := place_at c place
        obtain ⟨b, hb1, hb2⟩ := hm.at_m e2
        have s1 : Same H (upd H e0 (.lst [])) := Same.new (Same.refl _) fe0
        have D1 := D.same s1
        have hw1 := D1.hw i hi
        have hbt := s1 _ _ hb2
        have hm1 := D1.hm i hi
        generalize upd H e0 (.lst []) = H1 at *
        have hlp : 0 < ((R.wa i).map V.ref).length := by rw [List.length_map, hwl]; exact List.length_pos_iff.mpr c
        have hll : (((R.wa i).map V.ref).length : Int) = (R.wm i).length := by rw [List.length_map, hwl]
        have hl2 : ((R.wa i).map V.ref).length ≤ 100000 := by rw [List.length_map, hwl]; exact hlen
        have hix : atI ((R.wa i).map V.ref) (place % (((R.wa i).map V.ref).length : Int)) = some (.ref b) := by
          rw [hll, ← e1]
          exact atI_nat (by rw [List.getElem?_map, hb1]; rfl)
        os_names t_go
        rw [show (R.wa i).map V.ref ++ [V.ref b] = (R.wa i ++ [b]).map V.ref by rw [List.map_append]; rfl]
        exact q b m y _ e1 hb1 e2 (keep_ne hbt fun z => by rw [z, hw1] at hbt; cases hbt) (D1.line hi (hm1.snoc hbt)) (Kx.mut (mem_exR.mpr ⟨i, hi, .inr (.inr (.inr rfl))⟩) (Kx.of s1))
theorem ok_roomSettle (T : Txt K mg a) : FnOk P w K mg base (L2.CX P w) 6 a.f_Room_settle a.d_Room_settle ["self"] (spRoomSettle a.c_Room a.c_Hand a.c_Log) := by
  have cLg := T.cl_Log
  have nLs := T.na_Log_since
  have nLb := T.na_Log_base
  have nLk := T.na_Log_kept
  have cHd := T.cl_Hand
  have nHn := T.na_Hand_number
  have nHc := T.na_Hand_clock
  have nHl := T.na_Hand_log
  have cRm := T.cl_Room
  have nRh := T.na_Room_hands
  have nRl := T.na_Room_lines
  have G_Hand_settle := ok_handSettle (P := P) (w := w) (base := base) T
  refine T.F_Room_settle.okX sc_Room_settle (fun vs H Q E h => ?_) (fun cdv A outer s H vs Q E hr h => ?_)
  · obtain ⟨τ, n, rm, R, rfl, _⟩ := h
    rfl
  · obtain ⟨τ, n, rm, R, rfl, D, hn0, hn, hA, qf, qt⟩ := h
    have hrm := D.hr
    have hLH := D.hh
    have hLL := D.hl
    refine ⟨_, (pss_cons (ps_for (passes_of rfl) rfl (pi_list (pe_fld (pv 0) rfl)) (pg_name (i := 1) sc_Room_settle.nd rfl (Or.inl rfl)) (pss_one (ps_if (pt_cmpR (op_neD (T64 hr)) (pv 1) (pe_lst pa_nil) (nomark _)) (pss_one (ps_ret pe_bl)) pss_nil)))
 (pss_cons (ps_set (i := 3) sc_Room_settle.nd rfl (Or.inl rfl) (pe_op op_add pe_int (pe_callB (cr_max rfl) (by rfl) T.n_max (by decide +kernel) (pa_cons (pe_lc (own := [("hand", 2)]) (g := gName 2) rfl sc_Room_settle.nd (pi_list (pe_fld (pv 0) rfl)) (blkOk_by (own := [("hand", 2)]) (N := n_Room_settle) (sc := defScope s_Room_settle) (by decide +kernel)) (fun _ _ _ _ _ => pg_name (i := 2) sc_Room_settle.nd rfl (Or.inl rfl)) (fun _ _ _ _ _ => pts_nil) (fun _ _ _ _ _ => (pe_fldK (K := K) rfl (pv 2) rfl))) pa_nil))))
 (pss_cons (ps_for (passes_of rfl) rfl (pi_list (pe_fld (pv 0) rfl)) (pg_name (i := 2) sc_Room_settle.nd rfl (Or.inl rfl)) (pss_one (ps_expr (pe_meth (pv 2) T.cl_Hand T.mt_Hand_settle G_Hand_settle (hr.mono (by decide)) T.b_Hand_settle .nil passL (pa_cons (pv 3) pa_nil)))))
 (pss_one (ps_ret pe_bl))))), ?_⟩
    os_names t_st
    change (_ : TS) _ [some _, none, none, none] _
    os_names t_go
    refine r_forL (xs := rg n fun j => V.ref (R.ln j)) (fun t σ H' => ∃ v, σ = [some (.ref rm), v, none, none] ∧ Same H H' ∧ ∀ j, j < t → R.wm j = []) ⟨none, rfl, Same.refl _, fun j hj => absurd hj (by omega)⟩ (fun i σ H' _ ⟨_, _, s, _⟩ => SqL.of (s _ _ hLL)) ?_ ?_
    · rintro t x σ H' ht0 ⟨v, rfl, s1, hp⟩
      obtain ⟨ht, rfl⟩ := rg_inv ht0
      have hw := s1 _ _ (D.hw t ht)
      have hm := (D.hm t ht).same s1
      os_names t_go
      rename_i e0 fe0
      have fe0 : Fresh H' e0 := fe0
      have s2 : Same H' (upd H' e0 (.lst [])) := Same.new (Same.refl _) fe0
      refine r_neNilM (keep hw fe0) (hm.same s2) upd_same (r_qB ?_)
      by_cases c : R.wm t = []
      · refine no (nd_f c) ?_
        os_names t_go
        refine ⟨_, rfl, s1.trans s2, fun j hj => ?_⟩
        by_cases e : j = t
        · rw [e]; exact c
        · exact hp j (by omega)
      · refine yes (nd_t c) ?_
        os_names t_go
        exact qf ⟨t, ht, c⟩ _ (s1.trans s2)
    · rintro σ H1 ⟨v, rfl, s1, hp⟩
      rw [rg_length] at hp
      have D1 := D.same s1
      have hrm1 := D1.hr
      have hLH1 := D1.hh
      os_names t_go
      refine r_lcL (xs := rg n fun j => V.ref (R.p j)) (fun D i H2 => Same H1 H2 ∧ H1 D = none ∧ H2 D = some (.lst ((rg i R.c).map V.int))) (fun D hD => ⟨Same.new (Same.refl _) hD, hD, upd_same⟩) (SqL.of hLH1) (fun D i H2 _ ⟨s, _⟩ => SqL.of (s _ _ hLH1)) ?_ ?_
      · rintro D0 i x H2 hi0 ⟨s2, hD, eD⟩
        obtain ⟨hi, rfl⟩ := rg_inv hi0
        have hpi := s2 _ _ (D1.hd i hi).hp
        os_names t_go
        refine r_acc eD (lt_line (by rw [List.length_map, rg_length]; omega)) ⟨Same.mut s2 hD, hD, ?_⟩
        rw [upd_same, rg_succ, List.map_append]
        rfl
      · rintro D0 H2 ⟨s2, hD, eD⟩
        rw [rg_length] at eD
        os_names t_go
        refine r_maxL (SqL.of eD) (by rw [rg_length]; exact hn0) fun mx hm1 hm2 => ?_
        have D2 := D1.same s2
        have hrm2 := D2.hr
        have hLH2 := D2.hh
        have s12 := s1.trans s2
        os_names t_go
        refine r_forL (xs := rg n fun j => V.ref (R.p j)) (fun t σ H' => ∃ v v2 c' g' τ', σ = [some (.ref rm), v, v2, some (.int (1 + mx))] ∧ Setg a.c_Room a.c_Hand a.c_Log τ H H' n rm R (1 + mx) t c' g' τ') ?_ (fun i σ H' _ ⟨_, _, _, _, _, _, z⟩ => SqL.of z.R_.hh) ?_ ?_
        rotate_left
        · rintro t x σ H' ht0 ⟨v, v2, c', g', τ', rfl, z⟩
          obtain ⟨ht, rfl⟩ := rg_inv ht0
          obtain ⟨oc, og⟩ := z.od t (Nat.le_refl _)
          have DH : HandAt a.c_Hand a.c_Log H' (R.p t) (R.hd t) (t : Int) (c' t) (R.lg t) (g' t) := z.R_.hd t ht
          have hpt := DH.hp
          have hAt := hA t ht
          rw [← og] at hAt
          os_names t_go
          refine ⟨_, _, _, _, _, _, _, rfl, DH, hAt.1, hAt.2, fun b l H3 hb hl sp D3 => ?_⟩
          os_names t_go
          exact ⟨_, _, _, _, _, rfl, z.step ht hb hl sp D3⟩
        · rintro σ H' ⟨v, v2, c', g', τ', rfl, z⟩
          rw [rg_length] at z
          os_names t_go
          refine qt (fun j hj => hp j hj) mx τ' H' c' g' ?_ (fun j hj => hm2 _ (rg_mem.mpr ⟨j, hj, rfl⟩)) z.ag z.un z.R_ z.dn (z.kx.lo fun b hb => .inl ?_)
          · obtain ⟨j, hj, e⟩ := rg_mem.mp hm1
            exact ⟨j, hj, e⟩
          · obtain ⟨j, hj, e | e⟩ := mem_exP.mp hb
            · exact mem_exR.mpr ⟨j, hj, .inl e⟩
            · exact mem_exR.mpr ⟨j, hj, .inr (.inl e)⟩
        · exact ⟨_, _, R.c, R.g, τ, rfl, ⟨D2, Kx.of s12, fun _ _ _ => rfl, fun un b e => un b (s12.free e), fun j hj => absurd hj (by omega), fun _ _ => ⟨rfl, rfl⟩⟩⟩

theorem ok_hear14 (T : Txt K mg a) : FnOk P w K mg base (L2.CX P w) 2 a.f__law_hear a.d__law_hear ["_law_state", "_law_number", "_law_move"] spHear14 := by
  have G__law_told := ok_told (P := P) (w := w) (base := base) T
  refine T.F__law_hear.okX sc__law_hear (fun vs H Q E h => ?_) (fun cdv A outer s H vs Q E hr h => ?_)
  · obtain ⟨τ, n, st, L, wm, ms, tb, c, i, b, m, rfl, _⟩ := h
    rfl
  · obtain ⟨τ, n, st, L, wm, ms, tb, c, i, b, m, rfl, l, hi, hn, hb, hlen, un, q⟩ := h
    have hu := hu_of hr
    have hst := l.es
    have hHS := l.eH
    have ix : atI (rg n fun j => V.ref (L.hh j)) (i : Int) = some (.ref (L.hh i)) := rg_at hi
    refine ⟨_, (Evl.pss_cut (ps_if (pt_cmpR (op_notInD (T65 hr)) (pv 2) (pe_ix ix_list (pe_dget hu (pv 0) pe_str (fun _ _ => rfl)) (pv 1) (fun _ _ => rfl)) rfl) (pss_one (ps_asg (pe_call G__law_told (hr.mono (by decide)) rfl T.g__law_told T.k__law_told T.b__law_told .nil passL (pa_cons (pe_ix ix_list (pe_dget hu (pv 0) pe_str (fun _ _ => rfl)) (pv 1) (fun _ _ => rfl)) (pa_cons (pv 2) pa_nil))) (pg_sub (pe_dget hu (pv 0) pe_str (fun _ _ => rfl)) (pv 1) set_list))) pss_nil)
 (pss_cons (ps_asg (pe_callB (call_maxQ rfl) (by rfl) T.n_max (by decide +kernel) (pa_cons (pe_ix ix_list (pe_dget hu (pv 0) pe_str (fun _ _ => rfl)) (pv 1) (fun _ _ => rfl)) (pa_cons (pe_ix ix_tup (pv 2) pe_int (fun _ _ => rfl)) pa_nil))) (pg_sub (pe_dget hu (pv 0) pe_str (fun _ _ => rfl)) (pv 1) set_list))
 (pss_one (ps_ret pe_bl)))), ?_⟩
    os_names t_st
    change (_ : TS) _ [some _, some _, some _] _
    os_names t_go
    refine r_cut (fun σ' H' => ∃ hh ha, σ' = [some (.ref st), some (.int i), some (.ref b)] ∧ LawAt τ H' n st { L with hh := hh, ha := ha } wm (fu ms i (hearM m (ms i))) tb c ∧ Kx (exS L) H H') ?_ ?_
    · os_names t_go
      refine r_ninMv hb (l.e2 i hi) (l.m2 i hi) (r_qB ?_)
      by_cases hm : m ∈ ms i
      · refine no (nd_f hm) ?_
        os_names t_go
        refine ⟨L.hh, L.ha, rfl, ?_, Kx.refl⟩
        have e : hearM m (ms i) = ms i := if_pos hm
        rw [e, fu_self]
        exact l
      · refine yes (nd_t hm) ?_
        os_names t_go
        refine c_told (l.e2 i hi) (l.m2 i hi) hb hlen fun x H1 s1 fx ex => ?_
        have l1 := l.same s1
        have hst1 := l1.es
        have hHS1 := l1.eH
        os_names t_go
        refine r_setN hHS1 hi ?_
        refine ⟨fu L.hh i x, fu L.ha i (insA (posM m (ms i)) b (L.ha i)), rfl, ?_, Kx.mut (mem_exS.mpr (.inr (.inl rfl))) (Kx.of s1)⟩
        have e : hearM m (ms i) = insM m (ms i) := if_neg hm
        rw [e]
        exact l1.setH hi (m := insM m (ms i)) ex ((l1.m2 i hi).ins (s1 _ _ hb) _) (un x fx)
    · rintro σ' H' ⟨hh, ha, rfl, l2, kx⟩
      have hst2 := l2.es
      have hCS2 : H' L.CS = some (.lst (rg n fun j => V.int (c j))) := l2.eC
      have ixc : atI (rg n fun j => V.int (c j)) (i : Int) = some (.int (c i)) := rg_at hi
      have k0 := m.at0
      have hb2 : H' b = some (.tup m.vs) := kx _ _ (fun z => by
        obtain ⟨_, xs, e⟩ := l.in_ex z
        rw [hb] at e
        cases e) hb
      os_names t_go
      refine r_setN hCS2 hi ?_
      os_names t_go
      exact q _ hh ha (l2.setC hi) (Kx.mut (mem_exS.mpr (.inr (.inr (.inr (.inl rfl))))) kx)

theorem ok_moved14 (T : Txt K mg a) : FnOk P w K mg base (L2.CX P w) 6 a.f__law_moved a.d__law_moved ["_law_room", "_law_state", "_law_number", "_law_deed", "_law_cell"] (spMoved14 K a.c_Room a.c_Hand a.c_Log) := by
  have cLg := T.cl_Log
  have nLs := T.na_Log_since
  have nLb := T.na_Log_base
  have nLk := T.na_Log_kept
  have cHd := T.cl_Hand
  have nHn := T.na_Hand_number
  have nHc := T.na_Hand_clock
  have nHl := T.na_Hand_log
  have cRm := T.cl_Room
  have nRh := T.na_Room_hands
  have nRl := T.na_Room_lines
  have G__law_name := ok_name (P := P) (w := w) (base := base) T
  have G__law_same_move := ok_sameMove (P := P) (w := w) (base := base) T
  have G_Room_move := ok_roomMove (P := P) (w := w) (base := base) T
  have G__law_hear := ok_hear14 (P := P) (w := w) (base := base) T
  refine T.F__law_moved.okX sc__law_moved (fun vs H Q E h => ?_) (fun cdv A outer s H vs Q E hr h => ?_)
  · obtain ⟨Fr, n, rm, st, G, k, i, deed, cell, rfl, _⟩ := h
    rfl
  · obtain ⟨Fr, n, rm, st, G, k, i, deed, cell, rfl, I, hi, hk, hd0, q⟩ := h
    have hu := hu_of hr
    have hst := I.L_.es
    have hrm := I.R_.hr
    have hn := I.n1
    have hmany : 1 ≤ 1 + cell / 4 % 7 ∧ 1 + cell / 4 % 7 ≤ 7 := by omega
    refine ⟨_, (pss_cons (ps_set (i := 5) sc__law_moved.nd rfl (Or.inl rfl) (pe_op op_add pe_int (pe_op op_mod (pe_op op_fdiv (pv 4) pe_int) pe_int)))
 (pss_cons (ps_set (i := 6) sc__law_moved.nd rfl (Or.inl rfl) pe_int)
 (Evl.pss_cut (ps_if (pt_cmpR (op_gt) (pe_op op_mod (pe_op op_fdiv (pv 3) pe_int) (pe_op op_add (pv 5) pe_int)) pe_int (nomark _)) (pss_one (ps_set (i := 6) sc__law_moved.nd rfl (Or.inl rfl) (pe_call G__law_name (hr.mono (by decide)) rfl T.g__law_name T.k__law_name T.b__law_name .nil passL (pa_cons (pe_op op_sub (pe_op op_mod (pe_op op_fdiv (pv 3) pe_int) (pe_op op_add (pv 5) pe_int)) pe_int) (pa_cons (pv 4) pa_nil))))) pss_nil)
 (pss_cons (ps_set (i := 7) sc__law_moved.nd rfl (Or.inl rfl) (pe_tup (pa_cons (pe_op op_add (pe_ix ix_list (pe_dget hu (pv 1) pe_str (fun _ _ => rfl)) (pv 2) (fun _ _ => rfl)) pe_int) (pa_cons (pv 2) (pa_cons (pe_call G__law_name (hr.mono (by decide)) rfl T.g__law_name T.k__law_name T.b__law_name .nil passL (pa_cons (pe_op op_mod (pe_op op_mod (pv 3) pe_int) (pv 5)) (pa_cons (pv 4) pa_nil))) (pa_cons (pv 6) pa_nil))))))
 (pss_cons (ps_if (pt_not (pt_val (pe_call G__law_same_move (hr.mono (by decide)) rfl T.g__law_same_move T.k__law_same_move T.b__law_same_move .nil passL (pa_cons (pe_meth (pv 0) T.cl_Room T.mt_Room_move G_Room_move (hr.mono (by decide)) T.b_Room_move .nil passL (pa_cons (pv 2) (pa_cons (pe_ix ix_tup (pv 7) pe_int (fun _ _ => rfl)) (pa_cons (pv 6) pa_nil)))) (pa_cons (pv 7) pa_nil))))) (pss_one (ps_ret pe_bl)) pss_nil)
 (pss_cons (ps_for (passes_of rfl) rfl (pi_range1 rfl T.n_range (pa_cons (pe_callB (call_lenQ) (by rfl) T.n_len (by decide +kernel) (pa_cons (pe_dget hu (pv 1) pe_str (fun _ _ => rfl)) pa_nil)) pa_nil)) (pg_name (i := 8) sc__law_moved.nd rfl (Or.inl rfl)) (pss_one (ps_if (pt_cmpR (op_ne) (pv 8) (pv 2) (nomark _)) (pss_one (ps_asg (pe_op op_cat (pe_ix ix_list (pe_dget hu (pv 1) pe_str (fun _ _ => rfl)) (pv 8) (fun _ _ => rfl)) (pe_lst (pa_cons (pv 7) pa_nil))) (pg_sub (pe_dget hu (pv 1) pe_str (fun _ _ => rfl)) (pv 8) set_list))) pss_nil)))
 (pss_one (ps_ret (pe_call G__law_hear (hr.mono (by decide)) rfl T.g__law_hear T.k__law_hear T.b__law_hear .nil passL (pa_cons (pv 1) (pa_cons (pv 2) (pa_cons (pv 7) pa_nil)))))))))))), ?_⟩
    os_names t_st
    change (_ : TS) _ [some _, some _, some _, some _, some _, none, none, none, none] _
    os_names t_go
    generalize 1 + cell / 4 % 7 = many at *
    have m0 := Int.emod_nonneg (deed / 7) (show many + 2 ≠ 0 by omega)
    have m1 := Int.emod_lt_of_pos (deed / 7) (show 0 < many + 2 by omega)
    have m2 := Int.emod_nonneg (deed % 7) (show many ≠ 0 by omega)
    have m3 := Int.emod_lt_of_pos (deed % 7) (show 0 < many by omega)
    refine r_cut (fun σ' H' => ∃ u : Int, σ' = [some (.ref rm), some (.ref st), some (.int i), some (.int deed), some (.int cell), some (.int many), some (.int u), none, none] ∧ Same H H' ∧ 0 ≤ u ∧ u ≤ E60) ?_ ?_
    · os_names t_go
      os_names t_sp
      · have u1 := name_pos (k := deed / 7 % (many + 2) - 1) (c := cell) (by omega) (by omega)
        have u2 := name_le (k := deed / 7 % (many + 2) - 1) (c := cell) (by omega) (by omega)
        os_names t_go
        exact ⟨_, rfl, by os_names t_sm, by omega, u2⟩
      · os_names t_go
        exact ⟨0, rfl, Same.refl _, by omega, by simp only [E60]; omega⟩
    · rintro σ' H1 ⟨u, rfl, s1, u0, u1⟩
      have f1 := name_pos (k := deed % 7 % many) (c := cell) (by omega) (by omega)
      have f2 := name_le (k := deed % 7 % many) (c := cell) (by omega) (by omega)
      have I1 := I.same s1
      have hst1 := I1.L_.es
      have hCS1 := I1.L_.eC
      have ixc : atI (rg n fun j => V.int (G.R.c j)) (i : Int) = some (.int (G.R.c i)) := rg_at hi
      os_names t_go
      rename_i H2 s2 du fdu
      have fdu : Fresh H2 du := fdu
      generalize nameF (deed % 7 % many) cell = f at *
      obtain ⟨c0, c1⟩ := I.P.c0 i hi
      generalize hmv : Mv.mk (G.R.c i + 1) (i : Int) f u = m at *
      have mvs : m.vs = [.int (G.R.c i + 1), .int i, .int f, .int u] := by rw [← hmv]; rfl
      have mt : m.t = G.R.c i + 1 ∧ m.h = i := by rw [← hmv]; exact ⟨rfl, rfl⟩
      have ok : m.Ok := by rw [← hmv]; exact ⟨by show 1 ≤ G.R.c i + 1; omega, by show G.R.c i + 1 ≤ E60; simp only [E60]; omega, by show (0 : Int) ≤ i; omega, by show (i : Int) ≤ E60; simp only [E60]; omega, f1, f2, u0, u1⟩
      have s3 : Same H1 (upd H2 du (.tup [.int (G.R.c i + 1), .int i, .int f, .int u])) := Same.new s2 fdu
      have edu : (upd H2 du (.tup [.int (G.R.c i + 1), .int i, .int f, .int u])) du = some (.tup m.vs) := by rw [mvs]; exact upd_same
      have I3 := I1.same s3
      generalize upd H2 du (.tup [.int (G.R.c i + 1), .int i, .int f, .int u]) = H3 at *
      have hrm3 := I3.R_.hr
      have at2 : atI m.vs 2 = some (.int f) := by rw [mvs]; rfl
      os_names t_go
      have hlw : ∀ j, j < n → (G.R.wa j).length ≤ 100000 := fun j hj => by rw [(I.R_.hm j hj).length]; have := I.P.wl j hj; omega
      have hlg : (G.R.g i).as.length ≤ 100000 := by rw [(I.R_.hd i hi).L.hm.length]; have := I.P.len hi; omega
      refine ⟨G.τ, n, rm, G.R, _, _, _, rfl, I3.R_, by omega, trivial, trivial, trivial, .inr ⟨i, rfl, hi, I.P.srt i hi, hlg, c0, by have := I.P.sc i hi; have := (I.gs i hi).1; omega, I.P.le i hi, hlw, .inr ⟨f, u, rfl, rfl, by rw [hmv]; exact ok, fun b H4 fb eb R4 kx4 => ?_⟩⟩⟩
      rw [hmv] at eb R4
      have edu4 : H4 du = some (.tup m.vs) := kx4 _ _ (fun z => by
        obtain ⟨_, o, h, h1, _⟩ := I3.R_.in_ex z
        rw [edu] at h
        exact h1 _ (Option.some.inj h).symm) edu
      os_names t_go
      refine c_sameMove eb edu4 ?_
      have L4 : LawAt G.τ H4 n st G.L G.R.wm (fun j => (G.R.g j).ms) (fun _ => G.T) G.R.c := I3.L_.kx I3.R_ kx4 fun _ _ _ => rfl
      have hst4 := L4.es
      have hLS4 := L4.eL
      have kxa : Kx (exL n G.R G.L) H3 H4 := kx4.lo fun b hb => .inl (List.mem_append.mpr (.inl hb))
      have un4 := un_of R4 L4 exR_moved rfl kxa I3.un
      os_names t_goi
      rw [rg_length]
      refine r_forR n (fun t σ H' => ∃ v ls la, σ = [some (.ref rm), some (.ref st), some (.int i), some (.int deed), some (.int cell), some (.int many), some (.int u), some (.ref du), v] ∧ LawAt G.τ H' n st { G.L with ls := ls, la := la } (fun j => if j = i ∨ t ≤ j then G.R.wm j else G.R.wm j ++ [m]) (fun j => (G.R.g j).ms) (fun _ => G.T) G.R.c ∧ Kx (exS G.L) H4 H' ∧ H' du = some (.tup m.vs)) (by omega) ?_ ?_ ?_
      · refine ⟨none, G.L.ls, G.L.la, rfl, L4.congr (fun j hj => if_pos (.inr (Nat.zero_le _))) (fun _ _ => rfl) (fun _ _ => rfl) fun _ _ => rfl, Kx.refl, edu4⟩
      · rintro t σ H5 ht ⟨v, ls, la, rfl, L5, kx5, edu5⟩
        have hst5 := L5.es
        have hLS5 := L5.eL
        have ixl : atI (rg n fun j => V.ref (ls j)) (t : Int) = some (.ref (ls t)) := rg_at ht
        have m5 : MvsAt H5 (la t) (G.R.wm t) := by have z := L5.m1 t ht; rw [if_pos (Or.inr (Nat.le_refl t))] at z; exact z
        have e5 := L5.e1 t ht
        have hl5 : (la t).length ≤ 100000 := by have z := m5.length; have := I.P.wl t ht; have z : (la t).length = (G.R.wm t).length := z; omega
        os_names t_go
        by_cases c : t = i
        · subst c
          refine no (nd_f rfl) ?_
          os_names t_go
          refine ⟨_, ls, la, rfl, L5.congr (fun j hj => ?_) (fun _ _ => rfl) (fun _ _ => rfl) fun _ _ => rfl, kx5, edu5⟩
          by_cases e : j = t ∨ t ≤ j
          · rw [if_pos e, if_pos (by omega)]
          · rw [if_neg e, if_neg (by omega)]
        · refine yes (nd_t (by omega)) ?_
          os_names t_go
          rename_i x1 fx1
          have fx1 : Fresh H5 x1 := fx1
          refine r_cat (keep e5 fx1) upd_same (le_line (by simp only [List.length_map, List.length_singleton]; show (la t).length + 1 ≤ _; omega)) fun x2 fx2 => ?_
          have s6 : Same H5 (upd (upd H5 x1 (.lst [V.ref du])) x2 (.lst ((la t).map V.ref ++ [V.ref du]))) := Same.new (Same.new (Same.refl _) fx1) fx2
          have ex2 : (upd (upd H5 x1 (.lst [V.ref du])) x2 (.lst ((la t).map V.ref ++ [V.ref du]))) x2 = some (.lst ((la t ++ [du]).map V.ref)) := by rw [upd_same, List.map_append]; rfl
          have fx20 : H5 x2 = none := (new_free fx2).1
          have edu6 := s6 _ _ edu5
          have L6 := L5.same s6
          have un5 := un_of (R4.kxS L4 kx5) L5 (R := G.R.moved i b m n) (L := G.L) rfl rfl (kx5.lo fun b hb => .inl (List.mem_append.mpr (.inr hb))) un4
          have m6 := (m5.snoc edu5).same s6
          have st6 : Kx (exS G.L) H4 _ := kx5.trans (Kx.of s6)
          generalize upd (upd H5 x1 (.lst [V.ref du])) x2 (.lst ((la t).map V.ref ++ [V.ref du])) = H6 at *
          have hst6 := L6.es
          have hLS6 := L6.eL
          os_names t_go
          refine r_setN hLS6 ht ?_
          have z := L6.setL ht ex2 m6 (un5 x2 fx20)
          refine ⟨_, fu ls t x2, fu la t (la t ++ [du]), rfl, ?_, Kx.mut (mem_exS.mpr (.inl rfl)) st6, keep_ne edu6 fun w => by rw [w, hLS6] at edu6; cases edu6⟩
          rw [step_fun c G.R.wm fun j => G.R.wm j ++ [m]]
          exact z
      · rintro σ H5 ⟨v, ls, la, rfl, L5, kx5, edu5⟩
        have R5 := R4.kxS L4 kx5
        have un5 := un_of R5 L5 (R := G.R.moved i b m n) (L := G.L) rfl rfl (kx5.lo fun b hb => .inl (List.mem_append.mpr (.inr hb))) un4
        os_names t_go
        refine c_hear14 L5 hi (by omega) edu5 (by have := I.P.len hi; omega) un5 fun H6 hh ha L6 kx6 => ?_
        obtain ⟨nw, P'⟩ := I.P.move hi mt ok
        have R6 := R5.kxS L5 kx6
        have ems : (fun j => ((G.R.moved i b m n).g j).ms) = fu (fun j => (G.R.g j).ms) i (insM m (G.R.g i).ms) := (fu_map Lg.ms G.R.g i ((G.R.g i).heard b m)).symm
        rw [hear_new nw, show max (G.R.c i) m.t = m.t by omega] at L6
        have kx36 : Kx (exL n G.R G.L) H3 H6 := (kxa.trans (kx5.lo fun b hb => .inl (List.mem_append.mpr (.inr hb)))).trans (kx6.lo fun b hb => .inl (List.mem_append.mpr (.inr hb)))
        have un6 := un_of R6 L6 (R := G.R) (L := G.L) exR_moved rfl kx36 I3.un
        refine q H6 ⟨G.τ, G.R.moved i b m n, { G.L with ls := ls, la := la, hh := hh, ha := ha }, G.s, G.T, m :: G.al⟩ (I3.next R6 ?_ ?_ (fun j hj => ?_) kx36 (fun x hx => .inl ?_) rfl un6) rfl
        · show LawAt G.τ H6 n st _ _ (fun j => ((G.R.moved i b m n).g j).ms) _ _
          rw [ems]
          exact L6
        · show P14 n G.s G.T _ (fun j => ((G.R.moved i b m n).g j).ms) _ _ _
          rw [ems]
          exact P'
        · show (fu G.R.g i ((G.R.g i).heard b m) j).s = G.s ∧ (fu G.R.g i ((G.R.g i).heard b m) j).t = G.T
          by_cases e : j = i
          · rw [e, fu_at]
            exact I.gs i hi
          · rw [fu_ne e]
            exact I.gs j hj
        · have hx : x ∈ exR n (G.R.moved i b m n) ++ exS G.L := hx
          rw [exR_moved] at hx
          exact hx
theorem ok_carried14 (T : Txt K mg a) : FnOk P w K mg base (L2.CX P w) 6 a.f__law_carried a.d__law_carried ["_law_room", "_law_state", "_law_number", "_law_place", "_law_twice"] (spCarried14 K a.c_Room a.c_Hand a.c_Log) := by
  have cLg := T.cl_Log
  have nLs := T.na_Log_since
  have nLb := T.na_Log_base
  have nLk := T.na_Log_kept
  have cHd := T.cl_Hand
  have nHn := T.na_Hand_number
  have nHc := T.na_Hand_clock
  have nHl := T.na_Hand_log
  have cRm := T.cl_Room
  have nRh := T.na_Room_hands
  have nRl := T.na_Room_lines
  have G__law_same_move := ok_sameMove (P := P) (w := w) (base := base) T
  have G_Room_double := ok_double (P := P) (w := w) (base := base) T
  have G_Room_carry := ok_carry (P := P) (w := w) (base := base) T
  have G__law_hear := ok_hear14 (P := P) (w := w) (base := base) T
  refine T.F__law_carried.okX sc__law_carried (fun vs H Q E h => ?_) (fun cdv A outer s H vs Q E hr h => ?_)
  · obtain ⟨Fr, n, rm, st, G, k, i, place, twice, rfl, _⟩ := h
    rfl
  · obtain ⟨Fr, n, rm, st, G, k, i, place, twice, rfl, I, hi, hk, q⟩ := h
    have hu := hu_of hr
    have hst := I.L_.es
    have hLS := I.L_.eL
    have hrm := I.R_.hr
    have hn := I.n1
    have ixl : atI (rg n fun j => V.ref (G.L.ls j)) (i : Int) = some (.ref (G.L.ls i)) := rg_at hi
    have hwl : (G.R.wm i).length ≤ 100000 := by have := I.P.wl i hi; omega
    refine ⟨_, (pss_cons (ps_set (i := 5) sc__law_carried.nd rfl (Or.inl rfl) (pe_ix ix_list (pe_dget hu (pv 1) pe_str (fun _ _ => rfl)) (pv 2) (fun _ _ => rfl)))
 (pss_cons (ps_set (i := 6) sc__law_carried.nd rfl (Or.inl rfl) pe_non)
 (pss_cons (ps_if (pt_val (pv 4)) (pss_one (ps_set (i := 6) sc__law_carried.nd rfl (Or.inl rfl) (pe_meth (pv 0) T.cl_Room T.mt_Room_double G_Room_double (hr.mono (by decide)) T.b_Room_double .nil passL (pa_cons (pv 2) (pa_cons (pv 3) pa_nil))))) (pss_one (ps_set (i := 6) sc__law_carried.nd rfl (Or.inl rfl) (pe_meth (pv 0) T.cl_Room T.mt_Room_carry G_Room_carry (hr.mono (by decide)) T.b_Room_carry .nil passL (pa_cons (pv 2) (pa_cons (pv 3) pa_nil))))))
 (pss_cons (ps_if (pt_cmpR (op_eqD (T64 hr)) (pv 5) (pe_lst pa_nil) (nomark _)) (pss_one (ps_ret (pe_cmpR (op_isNQ) (pv 6) pe_non (nomark _)))) pss_nil)
 (pss_cons (ps_set (i := 7) sc__law_carried.nd rfl (Or.inl rfl) (pe_op op_mod (pv 3) (pe_callB (call_lenQ) (by rfl) T.n_len (by decide +kernel) (pa_cons (pv 5) pa_nil))))
 (pss_cons (ps_if (pt_not (pt_val (pe_call G__law_same_move (hr.mono (by decide)) rfl T.g__law_same_move T.k__law_same_move T.b__law_same_move .nil passL (pa_cons (pv 6) (pa_cons (pe_ix ix_list (pv 5) (pv 7) (fun _ _ => rfl)) pa_nil))))) (pss_one (ps_ret pe_bl)) pss_nil)
 (pss_cons (ps_if (pt_val (pv 4)) (pss_cons (ps_asg (pe_op op_cat (pv 5) (pe_lst (pa_cons (pe_ix ix_list (pv 5) (pv 7) (fun _ _ => rfl)) pa_nil))) (pg_sub (pe_dget hu (pv 1) pe_str (fun _ _ => rfl)) (pv 2) set_list))
 (pss_one (ps_ret pe_bl))) pss_nil)
 (pss_cons (ps_asg (pe_op op_cat (pe_slice sl_list (pv 5) po_none (po_some (pv 7))) (pe_slice sl_list (pv 5) (po_some (pe_op op_add (pv 7) pe_int)) po_none)) (pg_sub (pe_dget hu (pv 1) pe_str (fun _ _ => rfl)) (pv 2) set_list))
 (pss_one (ps_ret (pe_call G__law_hear (hr.mono (by decide)) rfl T.g__law_hear T.k__law_hear T.b__law_hear .nil passL (pa_cons (pv 1) (pa_cons (pv 2) (pa_cons (pe_ix ix_list (pv 5) (pv 7) (fun _ _ => rfl)) pa_nil)))))))))))))), ?_⟩
    os_names t_st
    change (_ : TS) _ [some _, some _, some _, some _, some _, none, none, none] _
    os_names t_go
    cases twice with
    | true =>
      os_names t_goi
      refine ⟨G.τ, n, rm, G.R, _, place, rfl, I.R_, by omega, trivial, .inr ⟨i, rfl, hi, hwl, fun e0 H1 s1 => ?_, fun b m x H1 ex e1 e2 eb R1 kx1 => ?_⟩⟩
      · have I1 := I.same s1
        os_names t_go
        rename_i y fy
        have fy : Fresh H1 y := fy
        have s2 : Same H1 (upd H1 y (.lst [])) := Same.new (Same.refl _) fy
        have I2 := I1.same s2
        refine r_eqNil (I2.L_.e1 i hi) (I2.L_.m1 i hi) upd_same (r_qB ?_)
        refine yes (decide_eq_true e0) ?_
        os_names t_go
        exact q _ G (I2.up (by simp)) rfl fun z => nomatch z
      · have nil : G.R.wm i ≠ [] := fun z => by rw [z] at e2; cases e2
        have L1 : LawAt G.τ H1 n st G.L G.R.wm (fun j => (G.R.g j).ms) (fun _ => G.T) G.R.c := I.L_.kx I.R_ kx1 fun _ _ _ => rfl
        have kxa : Kx (exL n G.R G.L) H H1 := kx1.lo fun b hb => .inl (List.mem_append.mpr (.inl hb))
        have un1 := un_of R1 L1 (R := G.R) (L := G.L) rfl rfl kxa I.un
        os_names t_go
        rename_i y fy
        have fy : Fresh H1 y := fy
        have s2 : Same H1 (upd H1 y (.lst [])) := Same.new (Same.refl _) fy
        have L2 := L1.same s2
        have R2 := R1.same s2
        refine r_eqNil (L2.e1 i hi) (L2.m1 i hi) upd_same (r_qB ?_)
        refine no (decide_eq_false nil) ?_
        have eb2 := s2 _ _ eb
        have un2 : ∀ b, (upd H1 y (.lst [])) b = none → G.τ b = (9, 0) := fun b e => un1 b (s2.free e)
        have kxb := kxa.trans (Kx.of s2)
        generalize upd H1 y (.lst []) = H2 at *
        obtain ⟨b2, hb2, eb2'⟩ := (L2.m1 i hi).at_m e2
        have hel := L2.e1 i hi
        have hll : (((G.L.la i).map V.ref).length : Int) = (G.R.wm i).length := by rw [List.length_map, (L2.m1 i hi).length]
        have hlp : 0 < ((G.L.la i).map V.ref).length := by have := List.length_pos_iff.mpr nil; omega
        have hix : atI ((G.L.la i).map V.ref) (place % (((G.L.la i).map V.ref).length : Int)) = some (.ref b2) := by
          rw [hll, ← ex]
          exact atI_nat (by rw [List.getElem?_map, hb2]; rfl)
        have hl2 : ((G.L.la i).map V.ref).length ≤ 100000 := by omega
        os_names t_go
        refine c_sameMove eb2 eb2' ?_
        os_names t_goi
        rename_i x1 fx1
        have fx1 : Fresh H2 x1 := fx1
        refine r_cat (keep hel fx1) upd_same (le_line (by simp only [List.length_singleton]; omega)) fun x2 fx2 => ?_
        have s6 : Same H2 (upd (upd H2 x1 (.lst [V.ref b2])) x2 (.lst ((G.L.la i).map V.ref ++ [V.ref b2]))) := Same.new (Same.new (Same.refl _) fx1) fx2
        have ex2 : (upd (upd H2 x1 (.lst [V.ref b2])) x2 (.lst ((G.L.la i).map V.ref ++ [V.ref b2]))) x2 = some (.lst ((G.L.la i ++ [b2]).map V.ref)) := by rw [upd_same, List.map_append]; rfl
        have fx20 : H2 x2 = none := (new_free fx2).1
        have L6 := L2.same s6
        have R6 := R2.same s6
        have m6 := ((L2.m1 i hi).snoc eb2').same s6
        have kxc := kxb.trans (Kx.of s6)
        generalize upd (upd H2 x1 (.lst [V.ref b2])) x2 (.lst ((G.L.la i).map V.ref ++ [V.ref b2])) = H6 at *
        have hst6 := L6.es
        have hLS6 := L6.eL
        os_names t_go
        refine r_setN hLS6 hi ?_
        have z := L6.setL hi ex2 m6 (un2 x2 fx20)
        have kz : Kx (exS G.L) H6 (upd H6 G.L.LS (.lst ((rg n fun j => V.ref (G.L.ls j)).set i (.ref x2)))) := Kx.mut (mem_exS.mpr (.inl rfl)) Kx.refl
        have R7 := R6.kxS L6 kz
        have kxd : Kx (exL n G.R G.L) H _ := kxc.trans (kz.lo fun b hb => .inl (List.mem_append.mpr (.inr hb)))
        have un7 := un_of R7 z (R := G.R) (L := G.L) rfl rfl kxd I.un
        os_names t_go
        refine q _ ⟨G.τ, G.R.doubled i b m, { G.L with ls := fu G.L.ls i x2, la := fu G.L.la i (G.L.la i ++ [b2]) }, G.s, G.T, G.al⟩ (I.next R7 z ?_ I.gs kxd (fun x hx => .inl hx) rfl un7) rfl fun w => nomatch w
        exact (I.P.double hi (List.mem_of_getElem? e2))
    | false =>
      os_names t_goi
      have hlg : (G.R.g i).as.length ≤ 100000 := by rw [(I.R_.hd i hi).L.hm.length]; have := I.P.len hi; omega
      refine ⟨G.τ, n, rm, G.R, _, place, rfl, I.R_, by omega, trivial, .inr ⟨i, rfl, hi, I.P.srt i hi, hlg, hwl, fun m hm => ?_, fun e0 H1 s1 => ?_, fun b m x H1 ex e1 e2 eb R1 kx1 => ?_⟩⟩
      · obtain ⟨o1, o2, o3⟩ := I.P.ok m (I.P.sub2 i hi m hm)
        exact ⟨o1, by rw [(I.gs i hi).1]; exact o2, I.P.noclash hi hm⟩
      · have I1 := I.same s1
        os_names t_go
        rename_i y fy
        have fy : Fresh H1 y := fy
        have s2 : Same H1 (upd H1 y (.lst [])) := Same.new (Same.refl _) fy
        have I2 := I1.same s2
        refine r_eqNil (I2.L_.e1 i hi) (I2.L_.m1 i hi) upd_same (r_qB ?_)
        refine yes (decide_eq_true e0) ?_
        os_names t_go
        exact q _ G (I2.up (by simp)) rfl fun _ => ⟨fun _ _ => rfl, fun z => (z e0).elim⟩
      · have nil : G.R.wm i ≠ [] := fun z => by rw [z] at e2; cases e2
        have L1 : LawAt G.τ H1 n st G.L G.R.wm (fun j => (G.R.g j).ms) (fun _ => G.T) G.R.c := I.L_.kx I.R_ kx1 fun _ _ _ => rfl
        have kxa : Kx (exL n G.R G.L) H H1 := kx1.lo fun b hb => .inl (List.mem_append.mpr (.inl hb))
        have un1 := un_of R1 L1 (R := G.R) (L := G.L) exR_carried rfl kxa I.un
        os_names t_go
        rename_i y fy
        have fy : Fresh H1 y := fy
        have s2 : Same H1 (upd H1 y (.lst [])) := Same.new (Same.refl _) fy
        have L2 := L1.same s2
        have R2 := R1.same s2
        refine r_eqNil (L2.e1 i hi) (L2.m1 i hi) upd_same (r_qB ?_)
        refine no (decide_eq_false nil) ?_
        have eb2 := s2 _ _ eb
        have un2 : ∀ b, (upd H1 y (.lst [])) b = none → G.τ b = (9, 0) := fun b e => un1 b (s2.free e)
        have kxb := kxa.trans (Kx.of s2)
        generalize upd H1 y (.lst []) = H2 at *
        obtain ⟨b2, hb2, eb2'⟩ := (L2.m1 i hi).at_m e2
        have hel := L2.e1 i hi
        have hln := (L2.m1 i hi).length
        have hll : (((G.L.la i).map V.ref).length : Int) = (G.R.wm i).length := by rw [List.length_map, hln]
        have hlp : 0 < ((G.L.la i).map V.ref).length := by have := List.length_pos_iff.mpr nil; omega
        have ex' : place % (((G.L.la i).map V.ref).length : Int) = (x : Int) := by rw [hll, ← ex]
        have hix : atI ((G.L.la i).map V.ref) (x : Int) = some (.ref b2) := atI_nat (by rw [List.getElem?_map, hb2]; rfl)
        have hl2 : ((G.L.la i).map V.ref).length ≤ 100000 := by omega
        have hxl : x < (G.L.la i).length := (List.getElem?_eq_some_iff.mp hb2).1
        os_names t_go
        rw [ex']
        os_names t_go
        refine c_sameMove eb2 eb2' ?_
        os_names t_goi
        rename_i l1 f1 l2 f2
        rw [cut_to (by rw [List.length_map]; omega)] at *
        rw [show (x : Int) + 1 = ((x + 1 : Nat) : Int) by omega, cut_from (by rw [List.length_map]; omega)] at *
        have f1 : Fresh H2 l1 := f1
        have s3 : Same H2 (upd H2 l1 (.lst (((G.L.la i).map V.ref).take x))) := Same.new (Same.refl _) f1
        have f2 : Fresh (upd H2 l1 (.lst (((G.L.la i).map V.ref).take x))) l2 := f2
        refine r_cat (keep upd_same f2) upd_same (le_line (by simp only [List.length_take, List.length_drop]; omega)) fun x2 fx2 => ?_
        have s6 : Same H2 (upd (upd (upd H2 l1 (.lst (((G.L.la i).map V.ref).take x))) l2 (.lst (((G.L.la i).map V.ref).drop (x + 1)))) x2 (.lst (((G.L.la i).map V.ref).take x ++ ((G.L.la i).map V.ref).drop (x + 1)))) := Same.new (Same.new s3 f2) fx2
        have ex2 : (upd (upd (upd H2 l1 (.lst (((G.L.la i).map V.ref).take x))) l2 (.lst (((G.L.la i).map V.ref).drop (x + 1)))) x2 (.lst (((G.L.la i).map V.ref).take x ++ ((G.L.la i).map V.ref).drop (x + 1)))) x2 = some (.lst (((G.L.la i).eraseIdx x).map V.ref)) := by
          rw [upd_same, ← ref_erase, List.eraseIdx_eq_take_drop_succ]
        have fx20 : H2 x2 = none := s3.free (new_free fx2).1
        have L6 := L2.same s6
        have R6 := R2.same s6
        have m6 := ((L2.m1 i hi).erase x).same s6
        have kxc := kxb.trans (Kx.of s6)
        have eb6 := s6 _ _ eb2'
        generalize upd (upd (upd H2 l1 (.lst (((G.L.la i).map V.ref).take x))) l2 (.lst (((G.L.la i).map V.ref).drop (x + 1)))) x2 (.lst (((G.L.la i).map V.ref).take x ++ ((G.L.la i).map V.ref).drop (x + 1))) = H6 at *
        have hst6 := L6.es
        have hLS6 := L6.eL
        os_names t_go
        refine r_setN hLS6 hi ?_
        have z := L6.setL hi ex2 m6 (un2 x2 fx20)
        have kz : Kx (exS G.L) H6 (upd H6 G.L.LS (.lst ((rg n fun j => V.ref (G.L.ls j)).set i (.ref x2)))) := Kx.mut (mem_exS.mpr (.inl rfl)) Kx.refl
        have R7 := R6.kxS L6 kz
        have kxd : Kx (exL n G.R G.L) H _ := kxc.trans (kz.lo fun b hb => .inl (List.mem_append.mpr (.inr hb)))
        have un7 := un_of R7 z (R := G.R) (L := G.L) exR_carried rfl kxd I.un
        have eb7 : (upd H6 G.L.LS (.lst ((rg n fun j => V.ref (G.L.ls j)).set i (.ref x2)))) b2 = some (.tup m.vs) := keep_ne eb6 fun w => by rw [w, hLS6] at eb6; cases eb6
        have el7 : (upd H6 G.L.LS (.lst ((rg n fun j => V.ref (G.L.ls j)).set i (.ref x2)))) (G.L.ls i) = some (.lst ((G.L.la i).map V.ref)) := keep_ne (L6.e1 i hi) (ne_tag (L6.t1 i hi) L6.tL (by simp))
        generalize upd H6 G.L.LS (.lst ((rg n fun j => V.ref (G.L.ls j)).set i (.ref x2))) = H7 at *
        os_names t_go
        refine c_hear14 z hi (by omega) eb7 (by have := I.P.len hi; omega) un7 fun H8 hh ha L8 kx8 => ?_
        have R8 := R7.kxS z kx8
        have kxe : Kx (exL n G.R G.L) H H8 := kxd.trans (kx8.lo fun b hb => .inl (List.mem_append.mpr (.inr hb)))
        have un8 := un_of R8 L8 (R := G.R) (L := G.L) exR_carried rfl kxe I.un
        have ems : (fun j => ((G.R.carried i x b m).g j).ms) = fu (fun j => (G.R.g j).ms) i (hearM m (G.R.g i).ms) := by
          have w := (fu_map Lg.ms G.R.g i (if m ∈ (G.R.g i).ms then G.R.g i else (G.R.g i).heard b m)).symm
          rw [show (if m ∈ (G.R.g i).ms then G.R.g i else (G.R.g i).heard b m).ms = hearM m (G.R.g i).ms by unfold hearM; split <;> rfl] at w
          exact w
        refine q H8 ⟨G.τ, G.R.carried i x b m, { G.L with ls := fu G.L.ls i x2, la := fu G.L.la i ((G.L.la i).eraseIdx x), hh := hh, ha := ha }, G.s, G.T, G.al⟩ (I.next R8 ?_ ?_ (fun j hj => ?_) kxe (fun x hx => .inl ?_) rfl un8) rfl fun _ => ⟨fun j hj => fu_ne hj, fun _ => ?_⟩
        · show LawAt G.τ H8 n st _ _ (fun j => ((G.R.carried i x b m).g j).ms) _ _
          rw [ems]
          exact L8
        · show P14 n G.s G.T _ (fun j => ((G.R.carried i x b m).g j).ms) _ _ _
          rw [ems]
          exact I.P.carry hi e2
        · show (fu G.R.g i (if m ∈ (G.R.g i).ms then G.R.g i else (G.R.g i).heard b m) j).s = G.s ∧ (fu G.R.g i (if m ∈ (G.R.g i).ms then G.R.g i else (G.R.g i).heard b m) j).t = G.T
          by_cases e : j = i
          · rw [e, fu_at]
            split
            · exact I.gs i hi
            · exact I.gs i hi
          · rw [fu_ne e]
            exact I.gs j hj
        · have hx : _ ∈ exR n (G.R.carried i _ b m) ++ exS G.L := hx
          rw [exR_carried] at hx
          exact hx
        · show (fu G.R.wm i ((G.R.wm i).eraseIdx x) i).length < _
          rw [fu_at, List.length_eraseIdx]
          have := (List.getElem?_eq_some_iff.mp e2).1
          rw [if_pos this]
          omega
theorem ok_emptied14 (T : Txt K mg a) : FnOk P w K mg base (L2.CX P w) 7 a.f__law_emptied a.d__law_emptied ["_law_room", "_law_state", "_law_place"] (spEmptied14 K a.c_Room a.c_Hand a.c_Log) := by
  have G__law_carried := ok_carried14 (P := P) (w := w) (base := base) T
  refine T.F__law_emptied.okX sc__law_emptied (fun vs H Q E h => ?_) (fun cdv A outer s H vs Q E hr h => ?_)
  · obtain ⟨Fr, n, rm, st, G, k, place, rfl, _⟩ := h
    rfl
  · obtain ⟨Fr, n, rm, st, G, k, place, rfl, I, hk, q⟩ := h
    have hu := hu_of hr
    have hst := I.L_.es
    have hLS := I.L_.eL
    have hn := I.n1
    refine ⟨_, (pss_cons (ps_for (passes_of rfl) rfl (pi_range1 rfl T.n_range (pa_cons (pe_callB (call_lenQ) (by rfl) T.n_len (by decide +kernel) (pa_cons (pe_dget hu (pv 1) pe_str (fun _ _ => rfl)) pa_nil)) pa_nil)) (pg_name (i := 3) sc__law_emptied.nd rfl (Or.inl rfl)) (pss_one (ps_while (passes_of rfl) (pt_cmpR (op_neD (T64 hr)) (pe_ix ix_list (pe_dget hu (pv 1) pe_str (fun _ _ => rfl)) (pv 3) (fun _ _ => rfl)) (pe_lst pa_nil) (nomark _)) (pss_one (ps_if (pt_not (pt_val (pe_call G__law_carried (hr.mono (by decide)) rfl T.g__law_carried T.k__law_carried T.b__law_carried .nil passL (pa_cons (pv 0) (pa_cons (pv 1) (pa_cons (pv 3) (pa_cons (pv 2) (pa_cons pe_bl pa_nil)))))))) (pss_one (ps_ret pe_bl)) pss_nil)))))
 (pss_one (ps_ret pe_bl))), ?_⟩
    os_names t_st
    change (_ : TS) _ [some _, some _, some _, none] _
    os_names t_go
    rw [rg_length]
    refine r_forR n (fun t σ H' => ∃ v G', σ = [some (.ref rm), some (.ref st), some (.int place), v] ∧ I14 K a.c_Room a.c_Hand a.c_Log Fr H' n rm st G' k ∧ G'.L.hs = G.L.hs ∧ ∀ j, j < t → G'.R.wm j = []) (by omega) ⟨none, G, rfl, I, rfl, fun j hj => absurd hj (by omega)⟩ ?_ ?_
    · rintro t σ H1 ht ⟨v, G1, rfl, I1, e1, h1⟩
      os_names t_go
      refine r_while (fun f σ H' => ∃ G', f = (G'.R.wm t).length ∧ σ = [some (.ref rm), some (.ref st), some (.int place), some (.int t)] ∧ I14 K a.c_Room a.c_Hand a.c_Log Fr H' n rm st G' k ∧ G'.L.hs = G.L.hs ∧ ∀ j, j < t → G'.R.wm j = []) _ ⟨G1, rfl, rfl, I1, e1, h1⟩ ?_
      rintro f σ H2 ⟨G2, rfl, rfl, I2, e2, h2⟩
      have hst2 := I2.L_.es
      have hLS2 := I2.L_.eL
      have ixl : atI (rg n fun j => V.ref (G2.L.ls j)) (t : Int) = some (.ref (G2.L.ls t)) := rg_at ht
      os_names t_go
      rename_i y fy
      have fy : Fresh H2 y := fy
      have s2 : Same H2 (upd H2 y (.lst [])) := Same.new (Same.refl _) fy
      have I3 := I2.same s2
      refine r_neNilM (I3.L_.e1 t ht) (I3.L_.m1 t ht) upd_same (r_qB ?_)
      refine r_w (fun c => ?_) (fun c => ?_)
      · have c : G2.R.wm t ≠ [] := fun z => by rw [decide_eq_true z] at c; cases c
        os_names t_go
        refine ⟨Fr, n, rm, st, G2, k, t, place, false, rfl, I3, ht, hk, fun H4 G4 I4 e4 d4 => ?_⟩
        obtain ⟨d1, d2⟩ := d4 rfl
        os_names t_goi
        exact ⟨_, d2 c, G4, rfl, rfl, I4, e4.trans e2, fun j hj => by rw [d1 j (by omega)]; exact h2 j hj⟩
      · have c : G2.R.wm t = [] := by
          by_cases z : G2.R.wm t = []
          · exact z
          · rw [decide_eq_false z] at c; cases c
        refine ⟨_, G2, rfl, I3, e2, fun j hj => ?_⟩
        by_cases e : j = t
        · rw [e]; exact c
        · exact h2 j (by omega)
    · rintro σ H1 ⟨v, G1, rfl, I1, e1, h1⟩
      os_names t_go
      exact q H1 G1 I1 e1 h1
theorem ok_settled14 (T : Txt K mg a) : FnOk P w K mg base (L2.CX P w) 7 a.f__law_settled a.d__law_settled ["_law_room", "_law_state"] (spSettled14 K a.c_Room a.c_Hand a.c_Log) := by
  have cLg := T.cl_Log
  have nLs := T.na_Log_since
  have nLb := T.na_Log_base
  have nLk := T.na_Log_kept
  have cHd := T.cl_Hand
  have nHn := T.na_Hand_number
  have nHc := T.na_Hand_clock
  have nHl := T.na_Hand_log
  have cRm := T.cl_Room
  have nRh := T.na_Room_hands
  have nRl := T.na_Room_lines
  have G__law_fold := ok_fold (P := P) (w := w) (base := base) T
  have G__law_whole := ok_whole1 (P := P) (w := w) (base := base) T
  have G_Log_moves := ok_moves (P := P) (w := w) (base := base) T
  have G_Room_settle := ok_roomSettle (P := P) (w := w) (base := base) T
  refine T.F__law_settled.okX sc__law_settled (fun vs H Q E h => ?_) (fun cdv A outer s H vs Q E hr h => ?_)
  · obtain ⟨Fr, n, rm, st, G, k, rfl, _⟩ := h
    rfl
  · obtain ⟨Fr, n, rm, st, G, k, rfl, I, hk, q⟩ := h
    have hu := hu_of hr
    have hrm := I.R_.hr
    have hn := I.n1
    refine ⟨_, (pss_cons (ps_set (i := 2) sc__law_settled.nd rfl (Or.inl rfl) (pe_meth0 (pv 0) T.cl_Room T.mt_Room_settle G_Room_settle (hr.mono (by decide)) T.b_Room_settle .nil passL))
 (pss_cons (ps_set (i := 3) sc__law_settled.nd rfl (Or.inl rfl) (pe_cmpR (op_eqX (T65 hr)) (pe_lc (own := [("_law_line", 6)]) (g := gName 6) rfl sc__law_settled.nd (pi_list (pe_dget hu (pv 1) pe_str (fun _ _ => rfl))) (blkOk_by (own := [("_law_line", 6)]) (N := n__law_settled) (sc := defScope s__law_settled) (by decide +kernel)) (fun _ _ _ _ _ => pg_name (i := 6) sc__law_settled.nd rfl (Or.inl rfl)) (fun _ _ _ _ _ => pts_one (pt_cmpR (op_neDK (K := K) rfl (T64 hr)) (pv 6) (pe_lst pa_nil) (nomark _))) (fun _ _ _ _ _ => (pv 6))) (pe_lst pa_nil) (nomark _)))
 (pss_cons (ps_if (PW.pt (pw_or (pt_not (pt_val (pe_callB (call_isi) (by rfl) T.n_isinstance (by decide +kernel) (pa_cons (pv 2) (pa_cons (pe_bltn (v := .ty "bool") (by rfl) T.n_bool (by decide +kernel) rfl) pa_nil))))) (pw_or1 (pt_cmpR (op_ne) (pv 2) (pv 3) (nomark _))))) (pss_one (ps_ret pe_bl)) pss_nil)
 (pss_cons (ps_if (pt_val (pv 3)) (pss_one (ps_for (passes_of rfl) rfl (pi_range1 rfl T.n_range (pa_cons (pe_callB (call_lenQ) (by rfl) T.n_len (by decide +kernel) (pa_cons (pe_dget hu (pv 1) pe_str (fun _ _ => rfl)) pa_nil)) pa_nil)) (pg_name (i := 4) sc__law_settled.nd rfl (Or.inl rfl)) (pss_cons (ps_asg (pe_call G__law_fold (hr.mono (by decide)) rfl T.g__law_fold T.k__law_fold T.b__law_fold .nil passL (pa_cons (pe_ix ix_list (pe_dget hu (pv 1) pe_str (fun _ _ => rfl)) (pv 4) (fun _ _ => rfl)) (pa_cons (pe_ix ix_list (pe_dget hu (pv 1) pe_str (fun _ _ => rfl)) (pv 4) (fun _ _ => rfl)) pa_nil))) (pg_sub (pe_dget hu (pv 1) pe_str (fun _ _ => rfl)) (pv 4) set_list))
 (pss_cons (ps_asg (pe_lst pa_nil) (pg_sub (pe_dget hu (pv 1) pe_str (fun _ _ => rfl)) (pv 4) set_list))
 (pss_cons (ps_asg (pe_callB (cr_max rfl) (by rfl) T.n_max (by decide +kernel) (pa_cons (pe_dget hu (pv 1) pe_str (fun _ _ => rfl)) pa_nil)) (pg_sub (pe_dget hu (pv 1) pe_str (fun _ _ => rfl)) (pv 4) set_list))
 (pss_cons (ps_set (i := 5) sc__law_settled.nd rfl (Or.inl rfl) (pe_fld (pe_ix ix_list (pe_fld (pv 0) rfl) (pv 4) (fun _ _ => rfl)) rfl))
 (pss_one (ps_if (PW.pt (pw_or (pt_not (pt_val (pe_call G__law_whole (hr.mono (by decide)) rfl T.g__law_whole T.k__law_whole T.b__law_whole .nil passL (pa_cons (pe_fld (pv 5) rfl) pa_nil)))) (pw_or (pt_cmpR (op_ne) (pe_fld (pv 5) rfl) (pe_op op_add pe_int (pe_callB (cr_max rfl) (by rfl) T.n_max (by decide +kernel) (pa_cons (pe_dget hu (pv 1) pe_str (fun _ _ => rfl)) pa_nil))) (nomark _)) (pw_or1 (pt_cmpR (op_neD (T64 hr)) (pe_meth0 (pv 5) T.cl_Log T.mt_Log_moves G_Log_moves (hr.mono (by decide)) T.b_Log_moves .nil passL) (pe_lst pa_nil) (nomark _)))))) (pss_one (ps_ret pe_bl)) pss_nil)))))))) pss_nil)
 (pss_one (ps_ret pe_bl)))))), ?_⟩
    os_names t_st
    change (_ : TS) _ [some _, some _, none, none, none, none, none] _
    os_names t_go
    refine ⟨G.τ, n, rm, G.R, rfl, I.R_, by omega, by omega, fun j hj => ?_, fun hne H1 s1 => ?_, fun h0 mx τ' H1 c' g' hx1 hx2 ag un R1 sj kx => ?_⟩
    · rw [(I.gs j hj).2, (I.R_.hd j hj).L.hm.length]
      exact ⟨I.P.ac, by have := I.P.len hj; omega⟩
    · have L1 := I.L_.same s1
      have hst1 := L1.es
      have hLS1 := L1.eL
      os_names t_go
      refine r_lcL (xs := rg n fun j => V.ref (G.L.ls j)) (fun D t H2 => ∃ acc, Same H1 H2 ∧ H1 D = none ∧ H2 D = some (.lst acc) ∧ acc.length ≤ t ∧ ((∃ j, j < t ∧ G.R.wm j ≠ []) → acc ≠ [])) (fun D hD => ⟨[], Same.new (Same.refl _) hD, hD, upd_same, Nat.le_refl _, fun ⟨j, hj, _⟩ => absurd hj (by omega)⟩) (SqL.of hLS1) (fun D t H2 _ ⟨_, s, _⟩ => SqL.of (s _ _ hLS1)) ?_ ?_
      · rintro D t x H2 ht0 ⟨acc, s2, hD, eD, la, ne⟩
        obtain ⟨ht, rfl⟩ := rg_inv ht0
        have L2 := L1.same s2
        os_names t_go
        rename_i y fy
        have fy : Fresh H2 y := fy
        have s3 : Same H2 (upd H2 y (.lst [])) := Same.new (Same.refl _) fy
        refine r_neNilM ((L2.same s3).e1 t ht) ((L2.same s3).m1 t ht) upd_same (r_qB ?_)
        by_cases c : G.R.wm t = []
        · refine no (nd_f c) ⟨acc, s2.trans s3, hD, s3 _ _ eD, by omega, fun ⟨j, hj, w⟩ => ne ⟨j, ?_, w⟩⟩
          by_cases e : j = t
          · rw [e] at w; exact (w c).elim
          · omega
        · refine yes (nd_t c) ?_
          os_names t_go
          refine r_acc (s3 _ _ eD) (lt_line (by omega)) ⟨_, Same.mut (s2.trans s3) hD, hD, upd_same, by simp; omega, fun _ => by simp⟩
      · rintro D H2 ⟨acc, s2, hD, eD, la, ne⟩
        have nz : acc ≠ [] := ne (by rw [rg_length]; exact hne)
        os_names t_go
        rename_i y fy
        have fy : Fresh H2 y := fy
        have s3 : Same H2 (upd H2 y (.lst [])) := Same.new (Same.refl _) fy
        refine r_eqXnil (s3 _ _ eD) upd_same ?_
        rw [decide_eq_false nz]
        os_names t_goi
        refine q _ G (I.same ((s1.trans s2).trans s3)) rfl fun z => ?_
        obtain ⟨j, hj, w⟩ := hne
        exact (w (z j hj)).elim
    · have L1 : LawAt τ' H1 n st G.L G.R.wm (fun j => (G.R.g j).ms) (fun _ => G.T) G.R.c := I.L_.kx I.R_ kx ag
      have hst1 := L1.es
      have hLS1 := L1.eL
      os_names t_go
      refine r_lcL (xs := rg n fun j => V.ref (G.L.ls j)) (fun D t H2 => Same H1 H2 ∧ H1 D = none ∧ H2 D = some (.lst [])) (fun D hD => ⟨Same.new (Same.refl _) hD, hD, upd_same⟩) (SqL.of hLS1) (fun D t H2 _ ⟨s, _⟩ => SqL.of (s _ _ hLS1)) ?_ ?_
      · rintro D t x H2 ht0 ⟨s2, hD, eD⟩
        obtain ⟨ht, rfl⟩ := rg_inv ht0
        have L2 := L1.same s2
        os_names t_go
        rename_i y fy
        have fy : Fresh H2 y := fy
        have s3 : Same H2 (upd H2 y (.lst [])) := Same.new (Same.refl _) fy
        refine r_neNilM ((L2.same s3).e1 t ht) ((L2.same s3).m1 t ht) upd_same (r_qB ?_)
        exact no (nd_f (h0 t ht)) ⟨s2.trans s3, hD, s3 _ _ eD⟩
      · rintro D H2 ⟨s2, hD, eD⟩
        os_names t_go
        rename_i y fy
        have fy : Fresh H2 y := fy
        have s3 : Same H2 (upd H2 y (.lst [])) := Same.new (Same.refl _) fy
        refine r_eqXnil (s3 _ _ eD) upd_same ?_
        rw [decide_eq_true rfl]
        have s2 := s2.trans s3
        have un := un I.un
        clear eD fy s3
        generalize upd _ y (HO.lst []) = H2 at *
        have L2 := L1.same s2
        have R2 := R1.same s2
        have hst2 := L2.es
        have hCS2 := L2.eC
        have un2 : ∀ b, H2 b = none → τ' b = (9, 0) := fun b e => un b (s2.free e)
        have hg : ∀ j, j < n → c' j = mx ∧ (g' j).ms = [] ∧ (g' j).t = foldT G.T (G.R.g j).ms ∧ (g' j).s = 1 + mx := fun j hj => (sj j hj).gone (hx2 j hj) (I.P.sc j hj) (I.gs j hj) (I.P.le j hj)
        have hsm : ∀ j, j < n → (G.R.g j).ms = (G.R.g 0).ms := fun j hj => I.P.same h0 hj (by omega)
        os_names t_goi
        rw [rg_length]
        refine r_forR n (fun t σ H' => ∃ v4 v5 hh bb ha, σ = [some (.ref rm), some (.ref st), some (.bl true), some (.bl true), v4, v5, none] ∧ LawAt τ' H' n st { G.L with hh := hh, bb := bb, ha := ha } G.R.wm (fun j => if j < t then [] else (G.R.g j).ms) (fun j => if j < t then foldT G.T (G.R.g 0).ms else G.T) (fun j => if j < t then mx else G.R.c j) ∧ Kx (exS G.L) H2 H') (by omega) ?_ ?_ ?_
        · exact ⟨none, none, G.L.hh, G.L.bb, G.L.ha, rfl, L2.congr (fun _ _ => rfl) (fun j _ => if_neg (by omega)) (fun j _ => if_neg (by omega)) (fun j _ => if_neg (by omega)), Kx.refl⟩
        · rintro t σ H3 ht ⟨v4, v5, hh, bb, ha, rfl, L3, kx3⟩
          have hst3 := L3.es
          have hBS3 := L3.eB
          have hHS3 := L3.eH
          have ixb : atI (rg n fun j => V.ref (bb j)) (t : Int) = some (.ref (bb t)) := rg_at ht
          have ixh : atI (rg n fun j => V.ref (hh j)) (t : Int) = some (.ref (hh t)) := rg_at ht
          have e3 := L3.e3 t ht
          have m3 := L3.m2 t ht
          rw [if_neg (Nat.lt_irrefl t)] at e3 m3
          rw [hsm t ht] at m3
          os_names t_go
          refine c_fold e3 (L3.e2 t ht) m3 I.P.ac (by have := I.P.len (i := 0) (by omega); omega) fun d H4 fd s4 ed => ?_
          have L4 := L3.same s4
          have hst4 := L4.es
          have hBS4 := L4.eB
          os_names t_go
          refine r_setN hBS4 ht ?_
          have L5 := L4.setB ht ed
          rw [← step_lt (fun _ => foldT G.T (G.R.g 0).ms) fun _ => G.T] at L5
          have kx5 : Kx (exS G.L) H2 (upd H4 G.L.BS (.lst ((rg n fun j => V.ref (bb j)).set t (.ref d)))) := Kx.mut (mem_exS.mpr (.inr (.inr (.inl rfl)))) (kx3.trans (Kx.of s4))
          generalize upd H4 G.L.BS (.lst ((rg n fun j => V.ref (bb j)).set t (.ref d))) = H5 at *
          have R5 := R2.kxS L2 kx5
          have un5 := un_of R5 L5 (R := { G.R with c := c', g := g' }) (L := G.L) rfl rfl (kx5.lo fun b hb => .inl (List.mem_append.mpr (.inr hb))) un2
          have hst5 := L5.es
          os_names t_go
          rename_i y fy
          have fy : Fresh H5 y := fy
          have s6 : Same H5 (upd H5 y (.lst [])) := Same.new (Same.refl _) fy
          have L6 := L5.same s6
          have ey : (upd H5 y (.lst [])) y = some (.lst (([] : List Addr).map V.ref)) := upd_same
          have kx6 := kx5.trans (Kx.of s6)
          generalize upd H5 y (.lst []) = H6 at *
          have hst6 := L6.es
          have hHS6 := L6.eH
          os_names t_go
          refine r_setN hHS6 ht ?_
          have L7 := L6.setH ht ey (MvsAt.nil) (un5 y fy)
          rw [← step_lt (fun _ => ([] : List Mv)) fun j => (G.R.g j).ms] at L7
          have kx7 : Kx (exS G.L) H2 (upd H6 G.L.HS (.lst ((rg n fun j => V.ref (hh j)).set t (.ref y)))) := Kx.mut (mem_exS.mpr (.inr (.inl rfl))) kx6
          generalize upd H6 G.L.HS (.lst ((rg n fun j => V.ref (hh j)).set t (.ref y))) = H7 at *
          have hst7 := L7.es
          have hCS7 := L7.eC
          have eCi : (rg n fun j => V.int (if j < t then mx else G.R.c j)) = (rg n fun j => if j < t then mx else G.R.c j).map V.int := rg_map.symm
          have hCS7' := hCS7
          rw [eCi] at hCS7'
          os_names t_go
          refine r_maxL (SqL.of hCS7') (by rw [rg_length]; omega) fun m hm1 hm2 => ?_
          obtain rfl := max_mix hx1 hx2 hm1 hm2
          os_names t_go
          refine r_setN hCS7 ht ?_
          have L8 := L7.setC ht (x := m)
          rw [← step_lt (fun _ => m) G.R.c] at L8
          have kx8 : Kx (exS G.L) H2 (upd H7 G.L.CS (.lst ((rg n fun j => V.int (if j < t then m else G.R.c j)).set t (.int m)))) := Kx.mut (mem_exS.mpr (.inr (.inr (.inr (.inl rfl))))) kx7
          generalize upd H7 G.L.CS (.lst ((rg n fun j => V.int (if j < t then m else G.R.c j)).set t (.int m))) = H8 at *
          have R8 := R2.kxS L2 kx8
          have hrm8 := R8.hr
          have hLH8 := R8.hh
          have ixp : atI (rg n fun j => V.ref (G.R.p j)) (t : Int) = some (.ref (G.R.p t)) := rg_at ht
          have DH : HandAt a.c_Hand a.c_Log H8 (G.R.p t) (G.R.hd t) (t : Int) (c' t) (G.R.lg t) (g' t) := R8.hd t ht
          have hpt := DH.hp
          have hlg := DH.L.hp
          have hst8 := L8.es
          have hCS8 := L8.eC
          have eCi8 : (rg n fun j => V.int (if j < t + 1 then m else G.R.c j)) = (rg n fun j => if j < t + 1 then m else G.R.c j).map V.int := rg_map.symm
          rw [eCi8] at hCS8
          obtain ⟨g1, g2, g3, g4⟩ := hg t ht
          rw [g4] at hlg
          os_names t_go
          refine r_maxL (SqL.of hCS8) (by rw [rg_length]; omega) fun m' hm1' hm2' => ?_
          obtain rfl : m' = m := max_mix hx1 hx2 hm1' hm2'
          os_names t_goi
          refine c_moves DH.L fun l fl => ?_
          have eas : (g' t).as = [] := by
            have z := DH.L.hm.length
            rw [g2] at z
            exact List.length_eq_zero_iff.mp z
          rw [eas]
          have fl : Fresh H8 l := fl
          os_names t_go
          rename_i y2 fy2
          refine r_neNilM (ms := []) (keep upd_same fy2) MvsAt.nil upd_same ?_
          os_names t_goi
          have s9 : Same H8 (upd (upd H8 l (.lst [])) y2 (.lst [])) := Same.new (Same.new (Same.refl _) fl) fy2
          exact ⟨_, _, _, _, _, rfl, L8.same s9, kx8.trans (Kx.of s9)⟩
        · rintro σ H3 ⟨v4, v5, hh, bb, ha, rfl, L3, kx3⟩
          have R3 := R2.kxS L2 kx3
          have un3 := un_of R3 L3 (R := { G.R with c := c', g := g' }) (L := G.L) rfl rfl (kx3.lo fun b hb => .inl (List.mem_append.mpr (.inr hb))) un2
          os_names t_go
          have ex : ∀ b ∈ exL n { G.R with c := c', g := g' } G.L, b ∈ exL n G.R G.L ∨ H b = none := fun b hb => by
            rcases List.mem_append.mp hb with hb | hb
            · obtain ⟨j, hj, z | z | z | z⟩ := mem_exR.mp hb
              · exact .inl (List.mem_append.mpr (.inl (mem_exR.mpr ⟨j, hj, .inl z⟩)))
              · exact .inl (List.mem_append.mpr (.inl (mem_exR.mpr ⟨j, hj, .inr (.inl z)⟩)))
              · exact .inr (z ▸ (sj j hj).l)
              · exact .inl (List.mem_append.mpr (.inl (mem_exR.mpr ⟨j, hj, .inr (.inr (.inr z))⟩)))
            · exact .inl (List.mem_append.mpr (.inr hb))
          refine q H3 ⟨τ', { G.R with c := c', g := g' }, { G.L with hh := hh, bb := bb, ha := ha }, 1 + mx, foldT G.T (G.R.g 0).ms, []⟩ (I.next R3 ?_ ?_ (fun j hj => ?_) (((kx.trans (Kx.of s2)).lo fun b hb => .inl (List.mem_append.mpr (.inl hb))).trans (kx3.lo fun b hb => .inl (List.mem_append.mpr (.inr hb)))) ex rfl un3) rfl fun _ => ⟨h0, rfl, fun j hj => (hg j hj).2.1⟩
          · exact L3.congr (fun _ _ => rfl) (fun j hj => by rw [if_pos hj]; exact (hg j hj).2.1) (fun j hj => (if_pos hj).symm) (fun j hj => by rw [if_pos hj]; exact (hg j hj).1)
          · exact (I.P.settle (by omega) h0 hx1).congr (fun j hj => (hg j hj).1) (fun j hj => (hg j hj).2.1) (fun _ _ => rfl)
          · exact ⟨(hg j hj).2.2.2, by rw [(hg j hj).2.2.1, hsm j hj]⟩

theorem ok_asTold14 (T : Txt K mg a) : FnOk P w K mg base (L2.CX P w) 6 a.f__law_as_told a.d__law_as_told ["_law_room", "_law_state", "_law_number"] (spAsTold14 K a.c_Room a.c_Hand a.c_Log) := by
  have cLg := T.cl_Log
  have nLs := T.na_Log_since
  have nLb := T.na_Log_base
  have nLk := T.na_Log_kept
  have cHd := T.cl_Hand
  have nHn := T.na_Hand_number
  have nHc := T.na_Hand_clock
  have nHl := T.na_Hand_log
  have cRm := T.cl_Room
  have nRh := T.na_Room_hands
  have nRl := T.na_Room_lines
  have G__law_whole := ok_whole1 (P := P) (w := w) (base := base) T
  have G__law_fold := ok_fold (P := P) (w := w) (base := base) T
  have G_Hand_tree := ok_handTree (P := P) (w := w) (base := base) T
  have G_Log_moves := ok_moves (P := P) (w := w) (base := base) T
  have G__law_same_tree := ok_sametree (P := P) (w := w) (base := base) T
  have G__law_steps_asked := ok_asked (P := P) (w := w) (base := base) T
  have G__law_same_moves := ok_sameMoves (P := P) (w := w) (base := base) T
  have G_Room_waiting := ok_wait (P := P) (w := w) (base := base) T
  refine T.F__law_as_told.okX sc__law_as_told (fun vs H Q E h => ?_) (fun cdv A outer s H vs Q E hr h => ?_)
  · obtain ⟨Fr, n, rm, st, G, k, i, rfl, _⟩ := h
    rfl
  · obtain ⟨Fr, n, rm, st, G, k, i, rfl, I, hi, hk, hhs, q⟩ := h
    have hu := hu_of hr
    have hrm := I.R_.hr
    have hst := I.L_.es
    have hLH := I.R_.hh
    have hCS := I.L_.eC
    have hLS := I.L_.eL
    have hn := I.n1
    have ixp : atI (rg n fun j => V.ref (G.R.p j)) (i : Int) = some (.ref (G.R.p i)) := rg_at hi
    have ixc : atI (rg n fun j => V.int (G.R.c j)) (i : Int) = some (.int (G.R.c i)) := rg_at hi
    have ixl : ∀ f : Nat → Addr, atI (rg n fun j => V.ref (f j)) (i : Int) = some (.ref (f i)) := fun f => rg_at hi
    have DH := I.R_.hd i hi
    have hpt := DH.hp
    have hwl := I.P.wl i hi
    have hln := I.P.len hi
    obtain ⟨gs, gt⟩ := I.gs i hi
    refine ⟨_, (pss_cons (ps_set (i := 3) sc__law_as_told.nd rfl (Or.inl rfl) (pe_ix ix_list (pe_fld (pv 0) rfl) (pv 2) (fun _ _ => rfl)))
 (pss_cons (ps_if (PW.pt (pw_or (pt_not (pt_val (pe_call G__law_whole (hr.mono (by decide)) rfl T.g__law_whole T.k__law_whole T.b__law_whole .nil passL (pa_cons (pe_fld (pv 3) rfl) pa_nil)))) (pw_or (pt_cmpR (op_ne) (pe_fld (pv 3) rfl) (pe_ix ix_list (pe_dget hu (pv 1) pe_str (fun _ _ => rfl)) (pv 2) (fun _ _ => rfl)) (nomark _)) (pw_or1 (pt_cmpR (op_ne) (pe_fld (pv 3) rfl) (pv 2) (nomark _)))))) (pss_one (ps_ret pe_bl)) pss_nil)
 (pss_cons (ps_set (i := 4) sc__law_as_told.nd rfl (Or.inl rfl) (pe_meth (pv 0) T.cl_Room T.mt_Room_waiting G_Room_waiting (hr.mono (by decide)) T.b_Room_waiting .nil passL (pa_cons (pv 2) pa_nil)))
 (pss_cons (ps_if (pt_not (pt_val (pe_call G__law_same_moves (hr.mono (by decide)) rfl T.g__law_same_moves T.k__law_same_moves T.b__law_same_moves .nil passL (pa_cons (pv 4) (pa_cons (pe_ix ix_list (pe_dget hu (pv 1) pe_str (fun _ _ => rfl)) (pv 2) (fun _ _ => rfl)) pa_nil))))) (pss_one (ps_ret pe_bl)) pss_nil)
 (pss_cons (ps_expr (pe_bm PySem.F.plainAttrs_list PySem.F.slot_list_append PySem.F.type_list_append mt_append (pv 4) (pa_cons pe_non pa_nil)))
 (Evl.pss_cut (ps_expr (pe_bm PySem.F.plainAttrs_list PySem.F.slot_list_append PySem.F.type_list_append mt_append (pe_dget hu (pv 1) pe_str (fun _ _ => rfl)) (pa_cons (pe_tup (pa_cons (pv 4) (pa_cons (pe_callTy (call_listQ) (by rfl) T.n_list (by decide +kernel) (pa_cons (pv 4) pa_nil)) pa_nil))) pa_nil)))
 (pss_cons (ps_set (i := 5) sc__law_as_told.nd rfl (Or.inl rfl) (pe_ix ix_list (pe_dget hu (pv 1) pe_str (fun _ _ => rfl)) (pv 2) (fun _ _ => rfl)))
 (pss_cons (ps_if (pt_not (pt_val (pe_call G__law_same_moves (hr.mono (by decide)) rfl T.g__law_same_moves T.k__law_same_moves T.b__law_same_moves .nil passL (pa_cons (pe_meth0 (pe_fld (pv 3) rfl) T.cl_Log T.mt_Log_moves G_Log_moves (hr.mono (by decide)) T.b_Log_moves .nil passL) (pa_cons (pv 5) pa_nil))))) (pss_one (ps_ret pe_bl)) pss_nil)
 (pss_cons (ps_if (pt_not (pt_val (pe_call G__law_steps_asked (hr.mono (by decide)) rfl T.g__law_steps_asked T.k__law_steps_asked T.b__law_steps_asked .nil passL (pa_cons (pe_fld (pv 3) rfl) (pa_cons (pe_ix ix_list (pe_dget hu (pv 1) pe_str (fun _ _ => rfl)) (pv 2) (fun _ _ => rfl)) (pa_cons (pv 5) (pa_cons (pe_dget hu (pv 1) pe_str (fun _ _ => rfl)) pa_nil))))))) (pss_one (ps_ret pe_bl)) pss_nil)
 (pss_cons (ps_set (i := 4) sc__law_as_told.nd rfl (Or.inl rfl) (pe_meth0 (pv 3) T.cl_Hand T.mt_Hand_tree G_Hand_tree (hr.mono (by decide)) T.b_Hand_tree .nil passL))
 (pss_cons (ps_if (pt_not (pt_val (pe_call G__law_same_tree (hr.mono (by decide)) rfl T.g__law_same_tree T.k__law_same_tree T.b__law_same_tree .nil passL (pa_cons (pv 4) (pa_cons (pe_call G__law_fold (hr.mono (by decide)) rfl T.g__law_fold T.k__law_fold T.b__law_fold .nil passL (pa_cons (pe_ix ix_list (pe_dget hu (pv 1) pe_str (fun _ _ => rfl)) (pv 2) (fun _ _ => rfl)) (pa_cons (pe_ix ix_list (pe_dget hu (pv 1) pe_str (fun _ _ => rfl)) (pv 2) (fun _ _ => rfl)) pa_nil))) pa_nil))))) (pss_one (ps_ret pe_bl)) pss_nil)
 (pss_cons (ps_dput hu (pv 4) (pe_op op_sub (pe_p10 (m := 1000000000000000000000000000000000000000000000000000000000000) (by decide +kernel)) pe_int) pe_int rfl)
 (pss_cons (ps_expr (pe_bm PySem.F.plainAttrs_list PySem.F.slot_list_append PySem.F.type_list_append mt_append (pe_dget hu (pv 1) pe_str (fun _ _ => rfl)) (pa_cons (pe_tup (pa_cons (pv 4) (pa_cons (pe_callTy (call_dictQ) (by rfl) T.n_dict (by decide +kernel) (pa_cons (pv 4) pa_nil)) pa_nil))) pa_nil)))
 (pss_one (ps_ret pe_bl))))))))))))))), ?_⟩
    os_names t_st
    change (_ : TS) _ [some _, some _, some _, none, none, none] _
    os_names t_goi
    refine c_wait I.R_ (by omega) hi fun fo ffo => ?_
    have s1 : Same H (upd H fo (.lst ((G.R.wa i).map V.ref))) := Same.new (Same.refl _) ffo
    have I1 := I.same s1
    have efo : (upd H fo (.lst ((G.R.wa i).map V.ref))) fo = some (.lst ((G.R.wa i).map V.ref)) := upd_same
    generalize upd H fo (.lst ((G.R.wa i).map V.ref)) = H1 at *
    have hst1 := I1.L_.es
    have hLS1 := I1.L_.eL
    have ix1 := ixl G.L.ls
    os_names t_go
    refine c_sameMoves efo (I1.L_.e1 i hi) (I1.R_.hm i hi) (I1.L_.m1 i hi) (by omega) ?_
    have wal := (I1.R_.hm i hi).length
    have hl1 : ((G.R.wa i).map V.ref).length ≤ 100000 := by rw [List.length_map]; omega
    os_names t_goi
    have s2 : Same H (upd H1 fo (.lst ((G.R.wa i).map V.ref ++ [V.non]))) := Same.mut s1 ffo
    have I2 := I.same s2
    have efo2 : (upd H1 fo (.lst ((G.R.wa i).map V.ref ++ [V.non]))) fo = some (.lst ((G.R.wa i).map V.ref ++ [V.non])) := upd_same
    generalize upd H1 fo (.lst ((G.R.wa i).map V.ref ++ [V.non])) = H2 at *
    have hst2 := I2.L_.es
    have heh2 := I2.L_.eh
    have lhs : (G.L.hs.map V.ref).length ≤ 100000 := by rw [List.length_map]; omega
    have pk : ∀ {Hx : Hp} {x y : Addr} {o : HO}, Hx y = some o → Hx x = none → x ≠ y := fun e1 e2 z => by rw [z, e1] at e2; cases e2
    refine r_cut (fun σ' H' => ∃ (hs' : List Addr), σ' = [some (.ref rm), some (.ref st), some (.int i), some (.ref (G.R.p i)), some (.ref fo), none] ∧ SameP G.L.hl H H' ∧ hs'.length = G.L.hs.length + 1 ∧ I14 K a.c_Room a.c_Hand a.c_Log Fr H' n rm st { G with L := { G.L with hs := hs' } } k) ?_ ?_
    · os_names t_go
      rename_i cp fcp pr fpr
      have fcp : H2 cp = none := fcp
      have sC : Same H2 (upd H2 cp (.lst ((G.R.wa i).map V.ref ++ [V.non]))) := Same.new (Same.refl _) fcp
      have fpr : (upd H2 cp (.lst ((G.R.wa i).map V.ref ++ [V.non]))) pr = none := fpr
      have fpr2 : H2 pr = none := sC.free fpr
      have sN : Same H2 (upd (upd H2 cp (.lst ((G.R.wa i).map V.ref ++ [V.non]))) pr (.tup [V.ref fo, V.ref cp])) := Same.new sC fpr
      have I3 := I2.same sN
      have n1 := pk heh2 fcp
      have n2 := pk heh2 fpr2
      have n3 : fo ≠ G.L.hl := pk I.L_.eh ffo
      have hm : (G.L.hs ++ [pr]).map V.ref = G.L.hs.map V.ref ++ [V.ref pr] := by rw [List.map_append]; rfl
      refine ⟨G.L.hs ++ [pr], rfl, (SameP.of (s2.trans sN)).mut, by simp, I3.held (a := pr) (SameP.refl _ _).mut (by rw [hm]; exact upd_same) fun H4 kx => ?_⟩
      have nt : ∀ b vs, H2 b = some (.tup vs) → H4 b = some (.tup vs) := fun b vs e => kx _ _ (I2.tup e) (keep_ne (sN _ _ e) fun z => by rw [z, heh2] at e; cases e)
      exact pair_data (kx _ _ (I2.fresh fpr2) (keep_ne upd_same n2)) (dp_mvsN (kx _ _ (I.fresh ffo) (keep_ne (sN _ _ efo2) n3)) ((I2.R_.hm i hi).of nt)) (dp_mvsN (kx _ _ (I2.fresh fcp) (keep_ne (keep upd_same fpr) n1)) ((I2.R_.hm i hi).of nt)) (sh_mvsN _) (eqv_mvsN _)
    · rintro σ' H3 ⟨hs1, rfl, sp3, lh1, I3⟩
      have hst3 := I3.L_.es
      have hHS3 := I3.L_.eH
      have ixh := ixl G.L.hh
      have hpt3 := (I3.R_.hd i hi).hp
      have DL3 : LogAt a.c_Log H3 (G.R.lg i) (G.R.g i) := (I3.R_.hd i hi).L
      have hlg3 := DL3.hp
      os_names t_go
      refine c_moves DL3 fun l fl => ?_
      have s4 : Same H3 (upd H3 l (.lst ((G.R.g i).as.map V.ref))) := Same.new (Same.refl _) fl
      have el : (upd H3 l (.lst ((G.R.g i).as.map V.ref))) l = some (.lst ((G.R.g i).as.map V.ref)) := upd_same
      have I4 := I3.same s4
      generalize upd H3 l (.lst ((G.R.g i).as.map V.ref)) = H4 at *
      have DL4 : LogAt a.c_Log H4 (G.R.lg i) (G.R.g i) := (I4.R_.hd i hi).L
      os_names t_go
      refine c_sameMoves el (I4.L_.e2 i hi) DL4.hm (I4.L_.m2 i hi) (by omega) ?_
      have hst4 := I4.L_.es
      have hBS4 := I4.L_.eB
      have ixb := ixl G.L.bb
      have hpt4 := (I4.R_.hd i hi).hp
      os_names t_goi
      have ebb : H4 (G.L.bb i) = some (.dK (enc (G.R.g i).t)) := by rw [gt]; exact I4.L_.e3 i hi
      refine ⟨G.R.lg i, G.L.bb i, G.L.hh i, G.L.hl, G.R.g i, G.L.ha i, hs1, rfl, DL4, by rw [gt]; exact I.P.ac, ebb, I4.L_.e2 i hi, I4.L_.m2 i hi, by rw [gt]; omega, I4.L_.eh, by omega, ne_tag (I.R_.tl i hi) I.L_.th (by simp), fun a1 H5 H6 s5 e6 hpr => ?_⟩
      have I6 := (I4.same s5).held (a := a1) (H' := H6) (by rw [e6]; exact (SameP.refl _ _).mut) (by rw [e6]; exact upd_same) (hpr _ (fun b e => I4.fresh e) (fun b vs e => I4.tup e) (List.mem_append.mpr (.inr (mem_exS.mpr (.inr (.inr (.inr (.inr rfl))))))))
      have sp6 : SameP G.L.hl H H6 := by rw [e6]; exact (sp3.trans (SameP.of (s4.trans s5))).mut
      have hpt6 := (I6.R_.hd i hi).hp
      os_names t_goi
      have D6 : HandAt a.c_Hand a.c_Log H6 (G.R.p i) (G.R.hd i) (i : Int) (G.R.c i) (G.R.lg i) (G.R.g i) := I6.R_.hd i hi
      refine ⟨_, _, _, _, _, _, rfl, D6, by rw [gt]; exact I.P.ac, by rw [gt, D6.L.hm.length]; omega, fun d H7 fd s7 ed => ?_⟩
      rw [gt] at ed
      have I7 := I6.same s7
      have hst7 := I7.L_.es
      have hBS7 := I7.L_.eB
      have hHS7 := I7.L_.eH
      os_names t_go
      refine c_fold (t := G.T) (ms := (G.R.g i).ms) (I7.L_.e3 i hi) (I7.L_.e2 i hi) (I7.L_.m2 i hi) I.P.ac (by omega) fun d2 H8 fd2 s8 ed2 => ?_
      have ndX : Nd (foldT G.T (G.R.g i).ms) := I.P.nd.foldT _
      have lenX : (foldT G.T (G.R.g i).ms).length ≤ 100000 := by have z := foldT_length G.T (G.R.g i).ms; omega
      have ed8 := s8 _ _ ed
      have I8 := I7.same s8
      os_names t_go
      refine c_sametree ed8 ed2 (ne_of_none ed fd2) (SameT.refl _) ndX ndX lenX ?_
      have lenE : (foldT G.T (G.R.g i).ms).length ≤ 1000000 := by omega
      os_names t_goi
      have fd6 : H6 d = none := fd
      have s68 := s7.trans s8
      generalize (1000000000000000000000000000000000000000000000000000000000000 - 99 : Int) = key
      have sU : Same H6 (upd H8 d (.dK (enc (pt (foldT G.T (G.R.g i).ms) key 0)))) := Same.mut s68 fd6
      have I9 := I6.same sU
      have ed9 : (upd H8 d (.dK (enc (pt (foldT G.T (G.R.g i).ms) key 0)))) d = some (.dK (enc (pt (foldT G.T (G.R.g i).ms) key 0))) := upd_same
      have ndY := ndX.pt key 0
      generalize upd H8 d (.dK (enc (pt (foldT G.T (G.R.g i).ms) key 0))) = H9 at *
      generalize pt (foldT G.T (G.R.g i).ms) key 0 = Y at *
      have hst9 := I9.L_.es
      have heh9 : H9 G.L.hl = some (.lst ((hs1 ++ [a1]).map V.ref)) := I9.L_.eh
      have lhs9 : ((hs1 ++ [a1]).map V.ref).length ≤ 100000 := by simp; omega
      os_names t_go
      rename_i cp fcp pr fpr
      have fcp : H9 cp = none := fcp
      have sC : Same H9 (upd H9 cp (.dK (enc Y))) := Same.new (Same.refl _) fcp
      have fpr : (upd H9 cp (.dK (enc Y))) pr = none := fpr
      have fpr2 : H9 pr = none := sC.free fpr
      have sN : Same H9 (upd (upd H9 cp (.dK (enc Y))) pr (.tup [V.ref d, V.ref cp])) := Same.new sC fpr
      have nn : ∀ b kv, H9 b = some (.dK kv) → b ≠ G.L.hl := fun b kv e z => by rw [z, heh9] at e; cases e
      have n1 := pk heh9 fcp
      have n2 := pk heh9 fpr2
      have hm : ((hs1 ++ [a1]) ++ [pr]).map V.ref = (hs1 ++ [a1]).map V.ref ++ [V.ref pr] := by rw [List.map_append (l₁ := hs1 ++ [a1])]; rfl
      have J := (I9.same sN).held (a := pr) (H' := upd (upd (upd H9 cp (.dK (enc Y))) pr (.tup [V.ref d, V.ref cp])) G.L.hl (.lst ((hs1 ++ [a1]).map V.ref ++ [V.ref pr]))) (SameP.refl _ _).mut (by rw [← hm]; exact upd_same) fun H4 kx => pair_dict (kx _ _ (I9.fresh fpr2) (keep_ne upd_same n2)) (kx _ _ (I6.fresh fd6) (keep_ne (sN _ _ ed9) (nn _ _ ed9))) (kx _ _ (I9.fresh fcp) (keep_ne (keep upd_same fpr) n1)) ndY
      exact q _ _ ((sp6.trans (SameP.of (sU.trans sN))).mut) (by simp; omega) J
theorem ok_allHave14 (T : Txt K mg a) : FnOk P w K mg base (L2.CX P w) 7 a.f__law_all_have a.d__law_all_have ["_law_room", "_law_state", "_law_due"] (spAllHave14 K a.c_Room a.c_Hand a.c_Log) := by
  have cLg := T.cl_Log
  have nLs := T.na_Log_since
  have nLb := T.na_Log_base
  have nLk := T.na_Log_kept
  have cHd := T.cl_Hand
  have nHn := T.na_Hand_number
  have nHc := T.na_Hand_clock
  have nHl := T.na_Hand_log
  have cRm := T.cl_Room
  have nRh := T.na_Room_hands
  have nRl := T.na_Room_lines
  have G__law_as_told := ok_asTold14 (P := P) (w := w) (base := base) T
  have G_Hand_tree := ok_handTree (P := P) (w := w) (base := base) T
  have G__law_same_tree := ok_sametree (P := P) (w := w) (base := base) T
  refine T.F__law_all_have.okX sc__law_all_have (fun vs H Q E h => ?_) (fun cdv A outer s H vs Q E hr h => ?_)
  · obtain ⟨Fr, n, rm, st, d, G, k, D, rfl, _⟩ := h
    rfl
  · obtain ⟨Fr, n, rm, st, d, G, k, D, rfl, I, hk, hhs, hd, hD, q⟩ := h
    have hu := hu_of hr
    have hst := I.L_.es
    have hLS := I.L_.eL
    have hn := I.n1
    refine ⟨_, (pss_cons (ps_for (passes_of rfl) rfl (pi_range1 rfl T.n_range (pa_cons (pe_callB (call_lenQ) (by rfl) T.n_len (by decide +kernel) (pa_cons (pe_dget hu (pv 1) pe_str (fun _ _ => rfl)) pa_nil)) pa_nil)) (pg_name (i := 3) sc__law_all_have.nd rfl (Or.inl rfl)) (pss_one (ps_if (PW.pt (pw_or (pt_not (pt_val (pe_call G__law_as_told (hr.mono (by decide)) rfl T.g__law_as_told T.k__law_as_told T.b__law_as_told .nil passL (pa_cons (pv 0) (pa_cons (pv 1) (pa_cons (pv 3) pa_nil)))))) (pw_or1 (pt_not (pt_val (pe_call G__law_same_tree (hr.mono (by decide)) rfl T.g__law_same_tree T.k__law_same_tree T.b__law_same_tree .nil passL (pa_cons (pe_meth0 (pe_ix ix_list (pe_fld (pv 0) rfl) (pv 3) (fun _ _ => rfl)) T.cl_Hand T.mt_Hand_tree G_Hand_tree (hr.mono (by decide)) T.b_Hand_tree .nil passL) (pa_cons (pv 2) pa_nil)))))))) (pss_one (ps_ret pe_bl)) pss_nil)))
 (pss_one (ps_ret pe_bl))), ?_⟩
    os_names t_st
    change (_ : TS) _ [some _, some _, some _, none] _
    os_names t_go
    rw [rg_length]
    refine r_forR n (fun t σ H' => ∃ v hs', σ = [some (.ref rm), some (.ref st), some (.ref d), v] ∧ SameP G.L.hl H H' ∧ hs'.length = G.L.hs.length + 3 * t ∧ I14 K a.c_Room a.c_Hand a.c_Log Fr H' n rm st { G with L := { G.L with hs := hs' } } k) (by omega) ⟨none, G.L.hs, rfl, SameP.refl _ _, rfl, I⟩ ?_ ?_
    · rintro t σ H1 ht ⟨v, hs1, rfl, sp1, l1, I1⟩
      have hln := I.P.len ht
      have gt := (I.gs t ht).2
      os_names t_go
      refine ⟨Fr, n, rm, st, _, k, t, rfl, I1, ht, hk, by show hs1.length ≤ 9000; omega, fun H2 hs2 sp2 l2 I2 => ?_⟩
      have l2 : hs2.length = hs1.length + 3 := l2
      have sp2 : SameP G.L.hl H1 H2 := sp2
      have hrm2 := I2.R_.hr
      have hLH2 : H2 G.R.LH = some (.lst (rg n fun j => V.ref (G.R.p j))) := I2.R_.hh
      have ixp : atI (rg n fun j => V.ref (G.R.p j)) (t : Int) = some (.ref (G.R.p t)) := rg_at ht
      have DH : HandAt a.c_Hand a.c_Log H2 (G.R.p t) (G.R.hd t) (t : Int) (G.R.c t) (G.R.lg t) (G.R.g t) := I2.R_.hd t ht
      have hpt := DH.hp
      os_names t_goi
      refine ⟨_, _, _, _, _, _, rfl, DH, by rw [gt]; exact I.P.ac, by rw [gt, DH.L.hm.length]; omega, fun d1 H3 fd s3 ed => ?_⟩
      rw [gt, hD t ht] at ed
      have sp3 := (sp1.trans sp2).trans (SameP.of s3)
      have hd3 : H3 d = some (.dK (enc D)) := sp3 _ _ (fun z => by rw [z, I.L_.eh] at hd; cases hd) hd
      have hd2 : H2 d = some (.dK (enc D)) := (sp1.trans sp2) _ _ (fun z => by rw [z, I.L_.eh] at hd; cases hd) hd
      have ndX : Nd D := by rw [← hD t ht]; exact I.P.nd.foldT _
      have lenX : D.length ≤ 100000 := by rw [← hD t ht]; have z := foldT_length G.T (G.R.g t).ms; omega
      os_names t_go
      refine c_sametree ed hd3 (ne_of_none hd2 fd).symm (SameT.refl _) ndX ndX lenX ?_
      os_names t_goi
      exact ⟨_, hs2, rfl, sp3, by omega, I2.same s3⟩
    · rintro σ H1 ⟨v, hs1, rfl, sp1, l1, I1⟩
      os_names t_go
      exact q H1 hs1 sp1 l1 I1
theorem ok_noMove14 (T : Txt K mg a) : FnOk P w K mg base (L2.CX P w) 6 a.f__law_no_move a.d__law_no_move ["_law_room", "_law_number", "_law_cell"] (spNoMove14 a.c_Room a.c_Hand a.c_Log) := by
  have G_Room_move := ok_roomMove (P := P) (w := w) (base := base) T
  refine T.F__law_no_move.okX sc__law_no_move (fun vs H Q E h => ?_) (fun cdv A outer s H vs Q E hr h => ?_)
  · obtain ⟨τ, n, rm, R, i, cell, rfl, _⟩ := h
    rfl
  · obtain ⟨τ, n, rm, R, i, cell, rfl, D, hn, hi, hS, hgl, c0, cs, hall, hwa, q⟩ := h
    have hrm := D.hr
    have at2 : atI [V.int 0, .int 1] (cell % 2) = some (.int (cell % 2)) := by
      have : cell % 2 = 0 ∨ cell % 2 = 1 := by omega
      rcases this with e | e <;> rw [e] <;> rfl
    refine ⟨_, (pss_cons (ps_try_many rfl rfl (takes_of rfl rfl rfl rfl) (fun W pn xe tk _ => (pss_one (ps_expr (pe_methS (pv 0) T.cl_Room T.mt_Room_move G_Room_move (hr.mono (by decide)) T.b_Room_move (fun σ => passAt tk σ) (pa_cons (pv 1) (pa_cons (pe_ix (ix_listK (K := K) rfl) (pe_lst (pa_cons pe_int (pa_cons pe_int pa_nil))) (pe_op op_mod (pv 2) pe_int) (fun _ _ => rfl)) (pa_cons (pe_un un_neg pe_int) pa_nil))))))) (HdsOk.cons ⟨rfl, by decide, .inl T.g_NoHand⟩ (fun a0 oe cls d pn hz hf => (pss_one (ps_ret pe_bl))) (HdsOk.cons ⟨rfl, by decide, .inl T.g_NoMove⟩ (fun a0 oe cls d pn hz hf => (pss_one (ps_ret pe_bl))) HdsOk.nil)))
 (pss_one (ps_ret pe_bl))), ?_⟩
    os_names t_st
    change (_ : TS) _ [some _, some _, some _] _
    os_names t_go
    rename_i x fx
    have fx : Fresh H x := fx
    have s1 : Same H (upd H x (.lst [V.int 0, .int 1])) := Same.new (Same.refl _) fx
    refine ⟨τ, n, rm, R, _, _, _, rfl, D.same s1, hn, trivial, trivial, trivial, .inr ⟨i, rfl, hi, hS, hgl, c0, cs, hall, hwa, .inl ⟨?_, fun H' s2 => ?_⟩⟩⟩
    · simp [moveB, isW]
    · refine w_miss T.ex_NoMove_NoHand (w_hit T.ex_NoMove_NoMove fun a0 fa0 => ?_)
      os_names t_go
      exact q H' (s1.trans s2)
theorem ok_noRoom14 (T : Txt K mg a) : FnOk P w K mg base (L2.CX P w) 7 a.f__law_no_room a.d__law_no_room ["_law_cell"] spNoRoom14 := by
  have G_Room_init := ok_RoomInit (P := P) (w := w) (base := base) T
  refine T.F__law_no_room.okX sc__law_no_room (fun vs H Q E h => ?_) (fun cdv A outer s H vs Q E hr h => ?_)
  · obtain ⟨cell, rfl, _⟩ := h
    rfl
  · obtain ⟨cell, rfl, q⟩ := h
    refine ⟨_, (pss_cons (ps_try_many rfl rfl (takes_of rfl rfl rfl rfl) (fun W pn xe tk _ => (pss_one (ps_expr (pe_makeS T.m_Room G_Room_init (hr.mono (by decide)) rfl T.g_Room T.b_Room_init (fun σ => passAt tk σ) (pa_cons (pe_ix (ix_listK (K := K) rfl) (pe_lst (pa_cons pe_int (pa_cons pe_int (pa_cons (pe_un un_neg pe_int) (pa_cons pe_bl (pa_cons pe_non (pa_cons pe_str (pa_cons (pe_lst (pa_cons pe_int pa_nil)) (pa_cons pe_bl pa_nil))))))))) (pe_op op_mod (pe_op op_fdiv (pv 0) pe_int) pe_int) (fun _ _ => rfl)) pa_nil))))) (HdsOk.cons ⟨rfl, by decide, .inl T.g_NoHand⟩ (fun a0 oe cls d pn hz hf => (pss_one (ps_ret pe_bl))) HdsOk.nil))
 (pss_one (ps_ret pe_bl))), ?_⟩
    os_names t_st
    change (_ : TS) _ [some _] _
    os_names t_go
    rename_i z fz x fx
    have fz : Fresh H z := fz
    obtain ⟨v, hv, hb, hk⟩ := no_rooms z (i := cell / 8 % 8) (Int.emod_nonneg _ (by omega)) (Int.emod_lt_of_pos _ (by omega))
    have s1 : Same H (upd H z (.lst [V.int 1])) := Same.new (Same.refl _) fz
    have s2 : Same H (upd (upd H z (.lst [V.int 1])) x (.lst [V.int 0, .int 61, .int (-1), .bl true, .non, .str "3", .ref z, .bl false])) := Same.new s1 fx
    have ez : (upd (upd H z (.lst [V.int 1])) x (.lst [V.int 0, .int 61, .int (-1), .bl true, .non, .str "3", .ref z, .bl false])) z = some (.lst [V.int 1]) := keep upd_same fx
    refine r_ixL (SqL.of upd_same) hv ?_
    generalize upd (upd H z (.lst [V.int 1])) x (.lst [V.int 0, .int 61, .int (-1), .bl true, .non, .str "3", .ref z, .bl false]) = H2 at *
    os_names t_go
    intro p dx fp fdx nd
    have s3 : Same H2 (upd (upd H2 dx (.own p)) p (.ins a.c_Room dx [])) := Same.new (Same.new (Same.refl _) fdx) (by rw [upd_ne nd.symm]; exact fp)
    refine ⟨p, dx, v, rfl, upd_same, hk _ _ (s3 _ _ ez), fun _ => ?_, fun n e h1 h2 => (hb n h1 h2 e).elim⟩
    refine w_hit T.ex_NoHand_NoHand fun a0 fa0 => ?_
    os_names t_go
    exact q _ (s2.trans s3)
theorem ok_noHand14 (T : Txt K mg a) : FnOk P w K mg base (L2.CX P w) 8 a.f__law_no_hand a.d__law_no_hand ["_law_room", "_law_many", "_law_cell"] (spNoHand14 a.c_Room a.c_Hand a.c_Log) := by
  have G_Room_move := ok_roomMove (P := P) (w := w) (base := base) T
  have G_Room_waiting := ok_wait (P := P) (w := w) (base := base) T
  have G_Room_carry := ok_carry (P := P) (w := w) (base := base) T
  have G_Room_double := ok_double (P := P) (w := w) (base := base) T
  have G__law_no_room := ok_noRoom14 (P := P) (w := w) (base := base) T
  refine T.F__law_no_hand.okX sc__law_no_hand (fun vs H Q E h => ?_) (fun cdv A outer s H vs Q E hr h => ?_)
  · obtain ⟨τ, n, rm, R, cell, rfl, _⟩ := h
    rfl
  · obtain ⟨τ, n, rm, R, cell, rfl, D, hn1, hn2, q⟩ := h
    refine ⟨_, (pss_cons (ps_set (i := 3) sc__law_no_hand.nd rfl (Or.inl rfl) (pe_ix ix_list (pe_lst (pa_cons (pv 1) (pa_cons (pe_un un_neg pe_int) (pa_cons pe_bl (pa_cons pe_non (pa_cons (pe_p10 (m := 1000000000000000000000000000000000000000000000000000000000000) (by decide +kernel)) (pa_cons pe_str (pa_cons (pe_lst (pa_cons pe_int pa_nil)) (pa_cons pe_bl pa_nil))))))))) (pe_op op_mod (pv 2) pe_int) (fun _ _ => rfl)))
 (pss_cons (ps_set (i := 4) sc__law_no_hand.nd rfl (Or.inl rfl) pe_int)
 (pss_cons (ps_try_many rfl rfl (takes_of rfl rfl rfl rfl) (fun W pn xe tk _ => (pss_one (ps_expr (pe_methS (pv 0) T.cl_Room T.mt_Room_move G_Room_move (hr.mono (by decide)) T.b_Room_move (fun σ => passAt tk σ) (pa_cons (pv 3) (pa_cons pe_int (pa_cons pe_int pa_nil))))))) (HdsOk.cons ⟨rfl, by decide, .inl T.g_NoMove⟩ (fun a0 oe cls d pn hz hf => (pss_one (ps_ret pe_bl))) (HdsOk.cons ⟨rfl, by decide, .inl T.g_NoHand⟩ (fun a0 oe cls d pn hz hf => (pss_one (ps_set (i := 4) sc__law_no_hand.nd rfl (Or.inl rfl) (pe_op op_add (pv 4) pe_int)))) HdsOk.nil)))
 (pss_cons (ps_try_as (i := 5) rfl rfl sc__law_no_hand.nd rfl rfl ⟨rfl, by decide, .inl T.g_TreeError⟩ (takes_of rfl rfl rfl rfl) (fun W pn xe tk _ => (pss_one (ps_expr (pe_methS (pv 0) T.cl_Room T.mt_Room_waiting G_Room_waiting (hr.mono (by decide)) T.b_Room_waiting (fun σ => passAt tk σ) (pa_cons (pv 3) pa_nil))))) (fun a0 oe cls d pn hz hf => (pss_one (ps_set (i := 4) sc__law_no_hand.nd rfl (Or.inl rfl) (pe_op op_add (pv 4) (pe_callTy (call_intQ) (by rfl) T.n_int (by decide +kernel) (pa_cons (pe_and (pe_callB (call_isEQ hz hf) (by rfl) T.n_isinstance (by decide +kernel) (pa_cons (pv 5) (pa_cons (pe_glob (v := .ref a.c_NoHand) rfl T.g_NoHand rfl) pa_nil))) (pe_one (pe_callB (call_isEQ hz hf) (by rfl) T.n_isinstance (by decide +kernel) (pa_cons (pv 5) (pa_cons (pe_bltn (v := .ty "ValueError") (by rfl) T.n_ValueError (by decide +kernel) rfl) pa_nil))))) pa_nil)))))))
 (pss_cons (ps_try_many rfl rfl (takes_of rfl rfl rfl rfl) (fun W pn xe tk _ => (pss_one (ps_expr (pe_methS (pv 0) T.cl_Room T.mt_Room_carry G_Room_carry (hr.mono (by decide)) T.b_Room_carry (fun σ => passAt tk σ) (pa_cons (pv 3) (pa_cons pe_int pa_nil)))))) (HdsOk.cons ⟨rfl, by decide, .inl T.g_NoHand⟩ (fun a0 oe cls d pn hz hf => (pss_one (ps_set (i := 4) sc__law_no_hand.nd rfl (Or.inl rfl) (pe_op op_add (pv 4) pe_int)))) HdsOk.nil))
 (pss_cons (ps_try_many rfl rfl (takes_of rfl rfl rfl rfl) (fun W pn xe tk _ => (pss_one (ps_expr (pe_methS (pv 0) T.cl_Room T.mt_Room_double G_Room_double (hr.mono (by decide)) T.b_Room_double (fun σ => passAt tk σ) (pa_cons (pv 3) (pa_cons pe_int pa_nil)))))) (HdsOk.cons ⟨rfl, by decide, .inl T.g_NoHand⟩ (fun a0 oe cls d pn hz hf => (pss_one (ps_set (i := 4) sc__law_no_hand.nd rfl (Or.inl rfl) (pe_op op_add (pv 4) pe_int)))) HdsOk.nil))
 (pss_one (ps_ret (pe_and (pe_cmpR (op_eq) (pv 4) pe_int (nomark _)) (pe_one (pe_call G__law_no_room (hr.mono (by decide)) rfl T.g__law_no_room T.k__law_no_room T.b__law_no_room .nil passL (pa_cons (pv 2) pa_nil)))))))))))), ?_⟩
    os_names t_st
    change (_ : TS) _ [some _, some _, some _, none, none, none] _
    os_names t_go
    rename_i z fz x fx
    have fz : Fresh H z := fz
    obtain ⟨v, hv, hb, hk⟩ := no_numbers z hn2 (i := cell % 8) (Int.emod_nonneg _ (by omega)) (Int.emod_lt_of_pos _ (by omega))
    have s1 : Same H (upd H z (.lst [V.int 0])) := Same.new (Same.refl _) fz
    have s2 : Same H (upd (upd H z (.lst [V.int 0])) x (.lst [V.int n, .int (-1), .bl true, .non, .int 1000000000000000000000000000000000000000000000000000000000000, .str "0", .ref z, .bl false])) := Same.new s1 fx
    have ez : (upd (upd H z (.lst [V.int 0])) x (.lst [V.int n, .int (-1), .bl true, .non, .int 1000000000000000000000000000000000000000000000000000000000000, .str "0", .ref z, .bl false])) z = some (.lst [V.int 0]) := keep upd_same fx
    refine r_ixL (SqL.of upd_same) hv ?_
    generalize upd (upd H z (.lst [V.int 0])) x (.lst [V.int n, .int (-1), .bl true, .non, .int 1000000000000000000000000000000000000000000000000000000000000, .str "0", .ref z, .bl false]) = H2 at *
    have D2 := D.same s2
    have hrm := D2.hr
    have hk2 := hk _ _ ez
    os_names t_go
    refine ⟨τ, n, rm, R, _, _, _, rfl, D2, by omega, hk2, trivial, trivial, .inl ⟨hb, ?_⟩⟩
    refine w_miss T.ex_NoHand_NoMove (w_hit T.ex_NoHand_NoHand fun a0 fa0 => ?_)
    os_names t_go
    refine ⟨τ, n, rm, R, _, rfl, D2, by omega, hk2, .inl ⟨hb, ?_⟩⟩
    refine ⟨true, T.ex_NoHand_TreeError, fun _ a0 ha0 => ?_, fun z => nomatch z⟩
    os_names t_go
    refine s_andV ?_
    os_names t_go
    refine r_isE (c := .ref a.c_NoHand) T.ec_NoHand (fun u h => h) T.ki_NoHand_NoHand ?_
    os_names t_goi
    refine r_isE T.ec_NoHand (fun u h => h) T.kv_NoHand ?_
    os_names t_goi
    refine ⟨τ, n, rm, R, _, _, rfl, D2, by omega, hk2, .inl ⟨hb, ?_⟩⟩
    refine w_hit T.ex_NoHand_NoHand fun a1 fa1 => ?_
    os_names t_goi
    refine ⟨τ, n, rm, R, _, _, rfl, D2, by omega, hk2, .inl ⟨hb, ?_⟩⟩
    refine w_hit T.ex_NoHand_NoHand fun a1 fa1 => ?_
    os_names t_goi
    refine s_andV ?_
    os_names t_goi
    refine ⟨cell, rfl, fun H3 s3 => ?_⟩
    exact q H3 (s2.trans s3)
theorem ok_done14 (T : Txt K mg a) : FnOk P w K mg base (L2.CX P w) 9 a.f__law_done a.d__law_done ["_law_room", "_law_state", "_law_number", "_law_deed", "_law_cell"] (spDone14 K a.c_Room a.c_Hand a.c_Log) := by
  have G__law_moved := ok_moved14 (P := P) (w := w) (base := base) T
  have G__law_carried := ok_carried14 (P := P) (w := w) (base := base) T
  have G__law_emptied := ok_emptied14 (P := P) (w := w) (base := base) T
  have G__law_settled := ok_settled14 (P := P) (w := w) (base := base) T
  have G__law_no_hand := ok_noHand14 (P := P) (w := w) (base := base) T
  have G__law_no_move := ok_noMove14 (P := P) (w := w) (base := base) T
  refine T.F__law_done.okX sc__law_done (fun vs H Q E h => ?_) (fun cdv A outer s H vs Q E hr h => ?_)
  · obtain ⟨Fr, n, rm, st, G, k, i, deed, cell, rfl, _⟩ := h
    rfl
  · obtain ⟨Fr, n, rm, st, G, k, i, deed, cell, rfl, I, hi, hk, hd0, q⟩ := h
    have hu := hu_of hr
    have hst := I.L_.es
    have hLS := I.L_.eL
    have hn := I.n1
    refine ⟨_, (pss_cons (ps_set (i := 5) sc__law_done.nd rfl (Or.inl rfl) (pe_callB (call_lenQ) (by rfl) T.n_len (by decide +kernel) (pa_cons (pe_dget hu (pv 1) pe_str (fun _ _ => rfl)) pa_nil)))
 (pss_cons (ps_if (pt_cmpR (op_lt) (pe_op op_mod (pv 3) pe_int) pe_int (nomark _)) (pss_one (ps_ret (pe_call G__law_moved (hr.mono (by decide)) rfl T.g__law_moved T.k__law_moved T.b__law_moved .nil passL (pa_cons (pv 0) (pa_cons (pv 1) (pa_cons (pv 2) (pa_cons (pe_op op_fdiv (pv 3) pe_int) (pa_cons (pv 4) pa_nil)))))))) pss_nil)
 (pss_cons (ps_if (pt_cmpR (op_lt) (pe_op op_mod (pv 3) pe_int) pe_int (nomark _)) (pss_cons (ps_set (i := 6) sc__law_done.nd rfl (Or.inl rfl) (pe_op op_mul (pe_op op_sub (pe_op op_mod (pe_op op_fdiv (pv 3) pe_int) pe_int) pe_int) (pe_ix ix_list (pe_lst (pa_cons pe_int (pa_cons pe_int (pa_cons (pe_op op_add (pe_p10 (m := 100000000000000000000) (by decide +kernel)) pe_int) pa_nil)))) (pe_op op_mod (pe_op op_fdiv (pv 3) pe_int) pe_int) (fun _ _ => rfl))))
 (pss_one (ps_ret (pe_call G__law_carried (hr.mono (by decide)) rfl T.g__law_carried T.k__law_carried T.b__law_carried .nil passL (pa_cons (pv 0) (pa_cons (pv 1) (pa_cons (pv 2) (pa_cons (pv 6) (pa_cons (pe_cmpR (op_eq) (pe_op op_mod (pv 3) pe_int) pe_int (nomark _)) pa_nil))))))))) pss_nil)
 (pss_cons (ps_if (PW.pt (pw_and (pt_cmpR (op_eq) (pe_op op_mod (pv 3) pe_int) pe_int (nomark _)) (pw_and (pt_cmpR (op_eq) (pe_op op_mod (pe_op op_fdiv (pv 3) pe_int) pe_int) pe_int (nomark _)) (pw_and1 (pt_not (pt_val (pe_call G__law_emptied (hr.mono (by decide)) rfl T.g__law_emptied T.k__law_emptied T.b__law_emptied .nil passL (pa_cons (pv 0) (pa_cons (pv 1) (pa_cons (pe_op op_mod (pe_op op_fdiv (pv 3) pe_int) pe_int) pa_nil)))))))))) (pss_one (ps_ret pe_bl)) pss_nil)
 (pss_cons (ps_if (pt_cmpR (op_eq) (pe_op op_mod (pv 3) pe_int) pe_int (nomark _)) (pss_one (ps_ret (pe_call G__law_settled (hr.mono (by decide)) rfl T.g__law_settled T.k__law_settled T.b__law_settled .nil passL (pa_cons (pv 0) (pa_cons (pv 1) pa_nil))))) pss_nil)
 (pss_one (ps_ret (pe_and (pe_call G__law_no_hand (hr.mono (by decide)) rfl T.g__law_no_hand T.k__law_no_hand T.b__law_no_hand .nil passL (pa_cons (pv 0) (pa_cons (pv 5) (pa_cons (pe_op op_fdiv (pv 3) pe_int) pa_nil)))) (pe_one (pe_call G__law_no_move (hr.mono (by decide)) rfl T.g__law_no_move T.k__law_no_move T.b__law_no_move .nil passL (pa_cons (pv 0) (pa_cons (pv 2) (pa_cons (pe_op op_fdiv (pv 3) pe_int) pa_nil))))))))))))), ?_⟩
    os_names t_st
    change (_ : TS) _ [some _, some _, some _, some _, some _, none, none] _
    os_names t_go
    rw [rg_length]
    os_names t_sp
    · os_names t_go
      exact ⟨Fr, n, rm, st, G, k, i, deed / 480, cell, rfl, I, hi, hk, by omega, fun H1 G1 I1 e1 => q H1 G1 I1 e1⟩
    · os_names t_go
      os_names t_sp
      · os_names t_go
        rename_i x fx
        have fx : Fresh H x := fx
        have s1 : Same H (upd H x (.lst [V.int 1, .int 1, .int (100000000000000000000 + 1)])) := Same.new (Same.refl _) fx
        have ex : (upd H x (.lst [V.int 1, .int 1, .int (100000000000000000000 + 1)])) x = some (.lst [V.int 1, .int 1, .int (100000000000000000000 + 1)]) := upd_same
        obtain ⟨z, hz⟩ : ∃ z : Int, atI [V.int 1, .int 1, .int (100000000000000000000 + 1)] (deed / 4320 % 3) = some (.int z) := by
          have : deed / 4320 % 3 = 0 ∨ deed / 4320 % 3 = 1 ∨ deed / 4320 % 3 = 2 := by omega
          rcases this with e | e | e <;> rw [e] <;> exact ⟨_, rfl⟩
        os_names t_go
        refine ⟨Fr, n, rm, st, G, k, i, _, decide (deed % 8 = 5), rfl, I.same s1, hi, hk, fun H1 G1 I1 e1 _ => ?_⟩
        refine q H1 G1 (I1.up ?_) e1
        split <;> omega
      · os_names t_go
        by_cases c6 : deed % 8 = 6
        · refine yes (d_t c6) ?_
          os_names t_go
          by_cases c2 : deed / 480 % 2 = 0
          · refine yes (d_t c2) ?_
            os_names t_go
            refine ⟨Fr, n, rm, st, G, k, _, rfl, I, hk, fun H1 G1 I1 e1 h0 => ?_⟩
            os_names t_goi
            exact ⟨Fr, n, rm, st, G1, k, rfl, I1, hk, fun H2 G2 I2 e2 _ => q H2 G2 (I2.up (by omega)) (e2.trans e1)⟩
          · refine no (d_f c2) ?_
            os_names t_goi
            exact ⟨Fr, n, rm, st, G, k, rfl, I, hk, fun H2 G2 I2 e2 _ => q H2 G2 (I2.up (by omega)) e2⟩
        · refine no (d_f c6) ?_
          os_names t_goi
          refine s_andV ?_
          os_names t_go
          refine ⟨G.τ, n, rm, G.R, _, rfl, I.R_, hn.1, hn.2, fun H1 s1 => ?_⟩
          have I1 := I.same s1
          os_names t_goi
          have hlw : ∀ j, j < n → (G.R.wa j).length ≤ 100000 := fun j hj => by rw [(I.R_.hm j hj).length]; have := I.P.wl j hj; omega
          have hlg : (G.R.g i).as.length ≤ 100000 := by rw [(I.R_.hd i hi).L.hm.length]; have := I.P.len hi; omega
          refine ⟨G.τ, n, rm, G.R, i, _, rfl, I1.R_, by omega, hi, I.P.srt i hi, hlg, (I.P.c0 i hi).1, by have := I.P.sc i hi; have := (I.gs i hi).1; omega, I.P.le i hi, hlw, fun H2 s2 => ?_⟩
          exact q H2 G ((I1.same s2).up (by omega)) rfl

theorem ok_law (T : Txt K mg a) : FnOk P w K mg base (L2.CX P w) 10 a.f_law a.d_law ["_law_script"] (spLaw K) := by
  have cLg := T.cl_Log
  have nLs := T.na_Log_since
  have nLb := T.na_Log_base
  have nLk := T.na_Log_kept
  have cHd := T.cl_Hand
  have nHn := T.na_Hand_number
  have nHc := T.na_Hand_clock
  have nHl := T.na_Hand_log
  have cRm := T.cl_Room
  have nRh := T.na_Room_hands
  have nRl := T.na_Room_lines
  have G__law_cell_at := ok_cell (P := P) (w := w) (base := base) T
  have G__law_deeds := ok_deeds (P := P) (w := w) (base := base) T
  have G__law_fold := ok_fold (P := P) (w := w) (base := base) T
  have G_Room_init := ok_RoomInit (P := P) (w := w) (base := base) T
  have G_Room_waiting := ok_wait (P := P) (w := w) (base := base) T
  have G_Hand_tree := ok_handTree (P := P) (w := w) (base := base) T
  have G__law_done := ok_done14 (P := P) (w := w) (base := base) T
  have G__law_as_told := ok_asTold14 (P := P) (w := w) (base := base) T
  have G__law_emptied := ok_emptied14 (P := P) (w := w) (base := base) T
  have G__law_all_have := ok_allHave14 (P := P) (w := w) (base := base) T
  have G__law_settled := ok_settled14 (P := P) (w := w) (base := base) T
  refine T.F_law.okX sc_law (fun vs H Q E h => ?_) (fun cdv A outer s H vs Q E hr h => ?_)
  · obtain ⟨p, ns, rfl, _⟩ := h
    rfl
  · obtain ⟨p, ns, rfl, hS, hlen, q⟩ := h
    have hu := hu_of hr
    refine ⟨_, (pss_cons (ps_set (i := 1) sc_law.nd rfl (Or.inl rfl) (pe_call G__law_cell_at (hr.mono (by decide)) rfl T.g__law_cell_at T.k__law_cell_at T.b__law_cell_at .nil passL (pa_cons (pv 0) (pa_cons pe_int pa_nil))))
 (pss_cons (ps_set (i := 2) sc_law.nd rfl (Or.inl rfl) (pe_op op_add pe_int (pe_op op_mod (pe_call G__law_cell_at (hr.mono (by decide)) rfl T.g__law_cell_at T.k__law_cell_at T.b__law_cell_at .nil passL (pa_cons (pv 0) (pa_cons pe_int pa_nil))) pe_int)))
 (Evl.pss_cut (ps_if (pt_cmpR (op_eq) (pe_op op_mod (pe_op op_fdiv (pe_call G__law_cell_at (hr.mono (by decide)) rfl T.g__law_cell_at T.k__law_cell_at T.b__law_cell_at .nil passL (pa_cons (pv 0) (pa_cons pe_int pa_nil))) pe_int) pe_int) pe_int (nomark _)) (pss_one (ps_set (i := 2) sc_law.nd rfl (Or.inl rfl) (pe_op op_add pe_int (pe_op op_mod (pe_op op_fdiv (pe_call G__law_cell_at (hr.mono (by decide)) rfl T.g__law_cell_at T.k__law_cell_at T.b__law_cell_at .nil passL (pa_cons (pv 0) (pa_cons pe_int pa_nil))) pe_int) pe_int)))) pss_nil)
 (pss_cons (ps_set (i := 3) sc_law.nd rfl (Or.inl rfl) (pe_make T.m_Room G_Room_init (hr.mono (by decide)) rfl T.g_Room T.b_Room_init .nil passL (pa_cons (pv 2) pa_nil)))
 (pss_cons (ps_set (i := 4) sc_law.nd rfl (Or.inl rfl) (pe_make T.m_Room G_Room_init (hr.mono (by decide)) rfl T.g_Room T.b_Room_init .nil passL (pa_cons (pv 2) pa_nil)))
 (pss_cons (ps_set (i := 5) sc_law.nd rfl (Or.inl rfl) (pe_disp (pps_cons pe_str (pe_lc (own := [("_law_k", 10)]) (g := gName 10) rfl sc_law.nd (pi_range1 rfl T.n_range (pa_cons (pv 2) pa_nil)) (blkOk_by (own := [("_law_k", 10)]) (N := n_law) (sc := defScope s_law) (by decide +kernel)) (fun _ _ _ _ _ => pg_name (i := 10) sc_law.nd rfl (Or.inl rfl)) (fun _ _ _ _ _ => pts_nil) (fun _ _ _ _ _ => (pe_lst pa_nil))) (pps_cons pe_str (pe_lc (own := [("_law_k", 10)]) (g := gName 10) rfl sc_law.nd (pi_range1 rfl T.n_range (pa_cons (pv 2) pa_nil)) (blkOk_by (own := [("_law_k", 10)]) (N := n_law) (sc := defScope s_law) (by decide +kernel)) (fun _ _ _ _ _ => pg_name (i := 10) sc_law.nd rfl (Or.inl rfl)) (fun _ _ _ _ _ => pts_nil) (fun _ _ _ _ _ => (pe_lst pa_nil))) pps_nil)) (by rfl) (by rfl) (fun z => by cases z) (by decide)))
 (pss_cons (ps_dput hu (pv 5) pe_str (pe_lc (own := [("_law_k", 10)]) (g := gName 10) rfl sc_law.nd (pi_range1 rfl T.n_range (pa_cons (pv 2) pa_nil)) (blkOk_by (own := [("_law_k", 10)]) (N := n_law) (sc := defScope s_law) (by decide +kernel)) (fun _ _ _ _ _ => pg_name (i := 10) sc_law.nd rfl (Or.inl rfl)) (fun _ _ _ _ _ => pts_nil) (fun _ _ _ _ _ => pe_dnewK)) rfl)
 (pss_cons (ps_dput hu (pv 5) pe_str (pe_lc (own := [("_law_k", 10)]) (g := gName 10) rfl sc_law.nd (pi_range1 rfl T.n_range (pa_cons (pv 2) pa_nil)) (blkOk_by (own := [("_law_k", 10)]) (N := n_law) (sc := defScope s_law) (by decide +kernel)) (fun _ _ _ _ _ => pg_name (i := 10) sc_law.nd rfl (Or.inl rfl)) (fun _ _ _ _ _ => pts_nil) (fun _ _ _ _ _ => pe_int)) rfl)
 (pss_cons (ps_dput hu (pv 5) pe_str (pe_lst pa_nil) rfl)
 (pss_cons (ps_if (PW.pt (pw_or (pt_not (pt_val (pe_callB (call_isi) (by rfl) T.n_isinstance (by decide +kernel) (pa_cons (pe_fld (pv 3) rfl) (pa_cons (pe_bltn (v := .ty "list") (by rfl) T.n_list (by decide +kernel) rfl) pa_nil))))) (pw_or1 (pt_cmpR (op_ne) (pe_callB (call_lenQ) (by rfl) T.n_len (by decide +kernel) (pa_cons (pe_fld (pv 3) rfl) pa_nil)) (pv 2) (nomark _))))) (pss_one (ps_ret pe_bl)) pss_nil)
 (pss_cons (ps_for (passes_of rfl) rfl (pi_list (pe_slice sl_list (pe_call G__law_deeds (hr.mono (by decide)) rfl T.g__law_deeds T.k__law_deeds T.b__law_deeds .nil passL (pa_cons (pv 0) (pa_cons pe_int (pa_cons pe_int pa_nil)))) po_none (po_some (pe_ix ix_list (pe_lst (pa_cons pe_int (pa_cons pe_int pa_nil))) (pe_callTy (call_intQ) (by rfl) T.n_int (by decide +kernel) (pa_cons (pe_cmpR (op_gt) (pv 2) pe_int (nomark _)) pa_nil)) (fun _ _ => rfl))))) (pg_name (i := 6) sc_law.nd rfl (Or.inl rfl)) (pss_cons (ps_set (i := 7) sc_law.nd rfl (Or.inl rfl) (pe_op op_mod (pe_op op_mod (pe_op op_fdiv (pv 6) pe_int) pe_int) (pv 2)))
 (pss_one (ps_if (PW.pt (pw_or (pt_not (pt_val (pe_call G__law_done (hr.mono (by decide)) rfl T.g__law_done T.k__law_done T.b__law_done .nil passL (pa_cons (pv 3) (pa_cons (pv 5) (pa_cons (pv 7) (pa_cons (pv 6) (pa_cons (pv 1) pa_nil)))))))) (pw_or1 (pt_not (pt_val (pe_call G__law_as_told (hr.mono (by decide)) rfl T.g__law_as_told T.k__law_as_told T.b__law_as_told .nil passL (pa_cons (pv 3) (pa_cons (pv 5) (pa_cons (pv 7) pa_nil))))))))) (pss_one (ps_ret pe_bl)) pss_nil))))
 (pss_cons (ps_if (pt_not (pt_val (pe_call G__law_emptied (hr.mono (by decide)) rfl T.g__law_emptied T.k__law_emptied T.b__law_emptied .nil passL (pa_cons (pv 3) (pa_cons (pv 5) (pa_cons (pe_op op_mod (pe_op op_fdiv (pv 1) pe_int) pe_int) pa_nil)))))) (pss_one (ps_ret pe_bl)) pss_nil)
 (pss_cons (ps_set (i := 8) sc_law.nd rfl (Or.inl rfl) (pe_call G__law_fold (hr.mono (by decide)) rfl T.g__law_fold T.k__law_fold T.b__law_fold .nil passL (pa_cons (pe_ix ix_list (pe_dget hu (pv 5) pe_str (fun _ _ => rfl)) pe_int (fun _ _ => rfl)) (pa_cons (pe_ix ix_list (pe_dget hu (pv 5) pe_str (fun _ _ => rfl)) pe_int (fun _ _ => rfl)) pa_nil))))
 (pss_cons (ps_if (pt_not (pt_val (pe_call G__law_all_have (hr.mono (by decide)) rfl T.g__law_all_have T.k__law_all_have T.b__law_all_have .nil passL (pa_cons (pv 3) (pa_cons (pv 5) (pa_cons (pv 8) pa_nil)))))) (pss_one (ps_ret pe_bl)) pss_nil)
 (pss_cons (ps_if (PW.pt (pw_or (pt_not (pt_truth (pe_call G__law_settled (hr.mono (by decide)) rfl T.g__law_settled T.k__law_settled T.b__law_settled .nil passL (pa_cons (pv 3) (pa_cons (pv 5) pa_nil))) (by intro _; rfl))) (pw_or1 (pt_not (pt_val (pe_call G__law_all_have (hr.mono (by decide)) rfl T.g__law_all_have T.k__law_all_have T.b__law_all_have .nil passL (pa_cons (pv 3) (pa_cons (pv 5) (pa_cons (pv 8) pa_nil))))))))) (pss_one (ps_ret pe_bl)) pss_nil)
 (pss_cons (ps_for (passes_of rfl) rfl (pi_list (pe_dget hu (pv 5) pe_str (fun _ _ => rfl))) (pg_name (i := 9) sc_law.nd rfl (Or.inl rfl)) (pss_one (ps_if (pt_cmpR (op_neX (T64 hr)) (pe_ix ix_tup (pv 9) pe_int (fun _ _ => rfl)) (pe_ix ix_tup (pv 9) pe_int (fun _ _ => rfl)) (nomark _)) (pss_one (ps_ret pe_bl)) pss_nil)))
 (pss_one (ps_ret (pe_and (pe_cmpR (op_eqX (T65 hr)) (pe_meth (pv 4) T.cl_Room T.mt_Room_waiting G_Room_waiting (hr.mono (by decide)) T.b_Room_waiting .nil passL (pa_cons (pe_op op_sub (pv 2) pe_int) pa_nil)) (pe_lst pa_nil) (nomark _)) (pe_and (pe_cmpR (op_eq) (pe_fld (pe_ix ix_list (pe_fld (pv 4) rfl) pe_int (fun _ _ => rfl)) rfl) pe_int (nomark _)) (pe_one (pe_cmpR (op_eqX (T65 hr)) (pe_meth0 (pe_ix ix_list (pe_fld (pv 4) rfl) pe_int (fun _ _ => rfl)) T.cl_Hand T.mt_Hand_tree G_Hand_tree (hr.mono (by decide)) T.b_Hand_tree .nil passL) pe_dnewK (nomark _))))))))))))))))))))))), ?_⟩
    os_names t_st
    change (_ : TS) _ [some _, none, none, none, none, none, none, none, none, none, none] _
    os_names t_go
    generalize cellAt ns 0 = c at *
    refine r_cut (fun σ' H' => ∃ n : Nat, 1 ≤ n ∧ n ≤ 60 ∧ H' = H ∧ σ' = [some (.ref p), some (.int c), some (.int n), none, none, none, none, none, none, none, none]) ?_ ?_
    · os_names t_go
      os_names t_sp
      · os_names t_go
        exact ⟨(6 + cellAt ns 1 / 40 % 55).toNat, by omega, by omega, rfl, by rw [Int.toNat_of_nonneg (by omega)]; rfl⟩
      · exact ⟨(1 + cellAt ns 1 % 5).toNat, by omega, by omega, rfl, by rw [Int.toNat_of_nonneg (by omega)]; rfl⟩
    rintro σ' H' ⟨n, n1, n2, rfl, rfl⟩
    os_names t_go
    intro rm dx frm fdx ndx
    refine ⟨rm, dx, .int n, rfl, upd_same, trivial, fun bad => (bad n n1 n2 rfl).elim, fun n' en h1 h2 τ H1 R sp1 R_ Z un1 _ => ⟨rfl, ?_⟩⟩
    obtain rfl : n = n' := Int.ofNat.inj (V.int.inj en)
    have sA : Same H' H1 := fun b o e => sp1 _ _ (ne_of_none e frm) (keep_ne (keep_ne e (ne_of_none e fdx)) (ne_of_none e frm))
    clear sp1 fdx ndx
    os_names t_go
    intro bs dx2 fbs fdx2 ndx2
    refine ⟨bs, dx2, .int n, rfl, upd_same, trivial, fun bad => (bad n n1 n2 rfl).elim, fun n' en h1 h2 τ2 H2 B sp2 B_ ZB un2 _ => ⟨rfl, ?_⟩⟩
    obtain rfl : n = n' := Int.ofNat.inj (V.int.inj en)
    have sB : Same H1 H2 := fun b o e => sp2 _ _ (ne_of_none e fbs) (keep_ne (keep_ne e (ne_of_none e fdx2)) (ne_of_none e fbs))
    have hB1 : ∀ b, suppR n bs B b → H1 b = none := fun b hb => by
      rcases ZB.new b hb with e | e
      · rw [e]; exact fbs
      · have nb : b ≠ bs := fun z => by rw [z, upd_same] at e; cases e
        rw [upd_ne nb] at e
        exact (new_free e).1
    have c0 := ZB.c 0 (by omega)
    have cw := ZB.wa (n - 1) (by omega)
    have ct := ZB.t 0 (by omega)
    have cm := ZB.ms 0 (by omega)
    have cas := ZB.as 0 (by omega)
    clear sp2 fdx2 ndx2 ZB
    have R2 := R_.same sB
    have un2 : ∀ b, H2 b = none → τ b = (9, 0) := fun b e => un1 b (sB.free e)
    have hB2 : ∀ b, suppR n bs B b → τ b = (9, 0) := fun b hb => un1 b (hB1 b hb)
    have hS2 : SqL K H2 p (ns.map V.int) := Same.seq (sA.trans sB) hS
    os_names t_go
    intro st fst
    have fst : Fresh H2 st := fst
    show tPairs _ _ _ _
    simp only [tPairs]
    os_names t_go
    have s0 : Same H2 (upd H2 st (.dK [])) := Same.new (Same.refl _) fst
    have est0 : (upd H2 st (.dK [])) st = some (.dK []) := upd_same
    generalize upd H2 st (.dK []) = HA at *
    refine r_lcR n (fun D i H' => ∃ f, Mk0 (.lst []) HA H' D i f) (by omega) (fun D hD => ⟨fun _ => p, Mk0.zero hD⟩) ?_ ?_
    · rintro D i H' hi ⟨f, h⟩
      os_names t_go
      rename_i x fx
      obtain ⟨eD, hh⟩ := h.add fx
      exact r_acc eD (lt_line (by rw [rg_length]; omega)) ⟨_, hh⟩
    rintro LS HB ⟨ls, M1⟩
    os_names t_go
    refine r_lcR n (fun D i H' => ∃ f, Mk0 (.lst []) HB H' D i f) (by omega) (fun D hD => ⟨fun _ => p, Mk0.zero hD⟩) ?_ ?_
    · rintro D i H' hi ⟨f, h⟩
      os_names t_go
      rename_i x fx
      obtain ⟨eD, hh⟩ := h.add fx
      exact r_acc eD (lt_line (by rw [rg_length]; omega)) ⟨_, hh⟩
    rintro HS HC ⟨hh, M2⟩
    os_names t_go
    refine ⟨M2.s _ _ (M1.s _ _ est0), s14a LS HS, s14_map, by show 2 ≤ 15; omega, ?_⟩
    rw [s14_disp]
    have estC : HC st = some (.dK []) := M2.s _ _ (M1.s _ _ est0)
    have spD : SameP st HC (upd HC st (.dK (s14a LS HS))) := (SameP.refl _ _).mut
    have estD : (upd HC st (.dK (s14a LS HS))) st = some (.dK (s14a LS HS)) := upd_same
    have bkD : ∀ b, (upd HC st (.dK (s14a LS HS))) b = none → HC b = none := fun b e => (new_free e).1
    generalize upd HC st (.dK (s14a LS HS)) = HD at *
    os_names t_go
    refine r_lcR n (fun D i H' => ∃ f, Mk0 (.dK []) HD H' D i f) (by omega) (fun D hD => ⟨fun _ => p, Mk0.zero hD⟩) ?_ ?_
    · rintro D i H' hi ⟨f, h⟩
      os_names t_go
      rename_i x fx
      obtain ⟨eD, hh⟩ := h.add fx
      exact r_acc eD (lt_line (by rw [rg_length]; omega)) ⟨_, hh⟩
    rintro BS HE ⟨bb, M3⟩
    have estE := M3.s _ _ estD
    os_names t_go
    refine r_dPutS estE s14_l1 ?_
    rw [s14_1]
    have spF : SameP st HE (upd HE st (.dK (s14b LS HS BS))) := (SameP.refl _ _).mut
    have estF : (upd HE st (.dK (s14b LS HS BS))) st = some (.dK (s14b LS HS BS)) := upd_same
    have bkF : ∀ b, (upd HE st (.dK (s14b LS HS BS))) b = none → HE b = none := fun b e => (new_free e).1
    generalize upd HE st (.dK (s14b LS HS BS)) = HF at *
    os_names t_go
    refine r_lcR n (fun D i H' => Same HF H' ∧ HF D = none ∧ H' D = some (.lst (rg i fun _ => V.int 0))) (by omega) (fun D hD => ⟨Same.new (Same.refl _) hD, hD, upd_same⟩) ?_ ?_
    · rintro D i H' hi ⟨s1, hD, eD⟩
      os_names t_go
      refine r_acc eD (lt_line (by rw [rg_length]; omega)) ⟨Same.mut s1 hD, hD, ?_⟩
      rw [upd_same, rg_succ]
    rintro CS HG ⟨sG, fCS, eCS⟩
    have estG := sG _ _ estF
    os_names t_go
    refine r_dPutS estG s14_l2 ?_
    rw [s14_2]
    have spI : SameP st HG (upd HG st (.dK (s14c LS HS BS CS))) := (SameP.refl _ _).mut
    have estI : (upd HG st (.dK (s14c LS HS BS CS))) st = some (.dK (s14c LS HS BS CS)) := upd_same
    have bkI : ∀ b, (upd HG st (.dK (s14c LS HS BS CS))) b = none → HG b = none := fun b e => (new_free e).1
    generalize upd HG st (.dK (s14c LS HS BS CS)) = HI at *
    os_names t_go
    rename_i hl fhl
    have fhl : HI hl = none := fhl
    have sJ : Same HI (upd HI hl (.lst [])) := Same.new (Same.refl _) fhl
    have ehl : (upd HI hl (.lst [])) hl = some (.lst (([] : List Addr).map V.ref)) := upd_same
    have bkJ : ∀ b, (upd HI hl (.lst [])) b = none → HI b = none := fun b e => (new_free e).1
    generalize upd HI hl (.lst []) = HJ at *
    refine r_dPutS (sJ _ _ estI) s14_l3 ?_
    rw [s14_3]
    have spK : SameP st HJ (upd HJ st (.dK (st14 LS HS BS CS hl))) := (SameP.refl _ _).mut
    have estK : (upd HJ st (.dK (st14 LS HS BS CS hl))) st = some (.dK (st14 LS HS BS CS hl)) := upd_same
    have bkK : ∀ b, (upd HJ st (.dK (st14 LS HS BS CS hl))) b = none → HJ b = none := fun b e => (new_free e).1
    generalize upd HJ st (.dK (st14 LS HS BS CS hl)) = HK at *
    have spIK : SameP st HI HK := (SameP.of sJ).trans spK
    have spGK := spI.trans spIK
    have spFK := (SameP.of sG).trans spGK
    have spEK := spF.trans spFK
    have spDK := (SameP.of M3.s).trans spEK
    have spCK := spD.trans spDK
    have spBK := (SameP.of M2.s).trans spCK
    have spAK := (SameP.of M1.s).trans spBK
    have sK : Same H2 HK := fun b o e => ((SameP.of s0).trans spAK) _ _ (ne_of_none e fst) e
    have dn : ∀ {X : Hp} {b : Addr} {o : HO}, X st = some o → X b = none → b ≠ st := fun e1 e2 z => by rw [z, e1] at e2; cases e2
    have nLS := dn est0 M1.nD
    have estB := M1.s _ _ est0
    have nHS := dn estB M2.nD
    have nBS := dn estD M3.nD
    have nCS := dn estF fCS
    have nhl := dn estI fhl
    have aDI : ∀ b o, b ≠ st → HD b = some o → HF b = some o ∧ HI b = some o := fun b o n e => by
      have e1 := spF _ _ n (M3.s _ _ e)
      exact ⟨e1, spI _ _ n (sG _ _ e1)⟩
    have aCI : ∀ b o, b ≠ st → HC b = some o → b ≠ BS ∧ b ≠ CS ∧ b ≠ hl := fun b o n e => by
      have e1 := spD _ _ n e
      obtain ⟨e2, e3⟩ := aDI b o n e1
      exact ⟨ne_of_none e1 M3.nD, ne_of_none e2 fCS, ne_of_none e3 fhl⟩
    have bHK : ∀ b, HK b = none → H2 b = none := fun b e => s0.free (M1.s.free (M2.s.free (bkD b (M3.s.free (bkF b (sG.free (bkI b (bkJ b (bkK b e)))))))))
    have b2B : ∀ b, HB b = none → H2 b = none := fun b e => s0.free (M1.s.free e)
    have b2D : ∀ b, HD b = none → H2 b = none := fun b e => b2B b (M2.s.free (bkD b e))
    have b2F : ∀ b, HF b = none → H2 b = none := fun b e => b2D b (M3.s.free (bkF b e))
    have b2I : ∀ b, HI b = none → H2 b = none := fun b e => b2F b (sG.free (bkI b e))
    obtain ⟨τk, eτ⟩ : ∃ τk, τk = fut (fut (fut (fut (fut τ LS (5, 0)) HS (5, 1)) BS (5, 2)) CS (5, 3)) hl (5, 4) := ⟨_, rfl⟩
    have tk5 : ∀ b, b ≠ LS → b ≠ HS → b ≠ BS → b ≠ CS → b ≠ hl → τk b = τ b := fun b h1 h2 h3 h4 h5 => by rw [eτ, fut_ne h5, fut_ne h4, fut_ne h3, fut_ne h2, fut_ne h1]
    have tk2 : ∀ b o, H2 b = some o → τk b = τ b := fun b o e => tk5 b (ne_of_none e (s0.free M1.nD)) (ne_of_none e (b2B _ M2.nD)) (ne_of_none e (b2D _ M3.nD)) (ne_of_none e (b2F _ fCS)) (ne_of_none e (b2I _ fhl))
    have RK : RoomAt a.c_Room a.c_Hand a.c_Log τk HK n rm R := (R2.retag tk2).same sK
    have BK : RoomAt a.c_Room a.c_Hand a.c_Log τ2 HK n bs B := B_.same sK
    have hBk : ∀ b, suppR n bs B b → τk b = (9, 0) := fun b hb => by
      obtain ⟨o, e⟩ := B_.supp_some hb
      rw [tk2 b o e]
      exact hB2 b hb
    have LK : LawAt τk HK n st ⟨LS, HS, BS, CS, hl, ls, hh, bb, fun _ => [], fun _ => [], []⟩ (fun _ => []) (fun _ => []) (fun _ => []) (fun _ => 0) := by
      have eLS := M2.s _ _ M1.eD
      obtain ⟨l1, l2, l3⟩ := aCI _ _ nLS eLS
      obtain ⟨h1, h2, h3⟩ := aCI _ _ nHS M2.eD
      have eBF := spF _ _ nBS M3.eD
      have eBI := spI _ _ nBS (sG _ _ eBF)
      have eCI := spI _ _ nCS eCS
      refine ⟨estK, spCK _ _ nLS eLS, spCK _ _ nHS M2.eD, spEK _ _ nBS M3.eD, spGK _ _ nCS eCS, spK _ _ nhl ehl, fun j hj => ?_, fun j hj => MvsAt.nil, fun j hj => ?_, fun j hj => MvsAt.nil, fun j hj => ?_, ?_, ?_, ?_, ?_, ?_, fun j hj => ?_, fun j hj => ?_⟩
      · exact spBK _ _ (dn est0 (M1.nw j hj)) (M1.e j hj)
      · exact spCK _ _ (dn estB (M2.nw j hj)) (M2.e j hj)
      · exact spEK _ _ (dn estD (M3.nw j hj)) (M3.e j hj)
      · show τk LS = _
        rw [eτ, fut_ne l3, fut_ne l2, fut_ne l1, fut_ne (ne_of_none M1.eD M2.nD), fut_at]
      · show τk HS = _
        rw [eτ, fut_ne h3, fut_ne h2, fut_ne h1, fut_at]
      · show τk BS = _
        rw [eτ, fut_ne (ne_of_none eBI fhl), fut_ne (ne_of_none eBF fCS), fut_at]
      · show τk CS = _
        rw [eτ, fut_ne (ne_of_none eCI fhl), fut_at]
      · show τk hl = _
        rw [eτ, fut_at]
      · show τk (ls j) = _
        have e := M1.e j hj
        obtain ⟨x1, x2, x3⟩ := aCI _ _ (dn est0 (M1.nw j hj)) (M2.s _ _ e)
        rw [tk5 _ (M1.ne j hj) (ne_of_none e M2.nD) x1 x2 x3]
        exact un2 _ (s0.free (M1.nw j hj))
      · show τk (hh j) = _
        have e := M2.e j hj
        obtain ⟨x1, x2, x3⟩ := aCI _ _ (dn estB (M2.nw j hj)) e
        rw [tk5 _ (ne_of_none M1.eD (M2.nw j hj)).symm (M2.ne j hj) x1 x2 x3]
        exact un2 _ (b2B _ (M2.nw j hj))
    have unK : ∀ b, HK b = none → τk b = (9, 0) := fun b e => by
      have nn : ∀ x o, HK x = some o → b ≠ x := fun x o e2 z => by rw [z, e2] at e; cases e
      rw [tk5 b (nn _ _ LK.eL) (nn _ _ LK.eH) (nn _ _ LK.eB) (nn _ _ LK.eC) (nn _ _ LK.eh)]
      exact un2 b (bHK b e)
    have I0 : I14 K a.c_Room a.c_Hand a.c_Log (fun H2 => RoomAt a.c_Room a.c_Hand a.c_Log τ2 H2 n bs B) HK n rm st ⟨τk, R, ⟨LS, HS, BS, CS, hl, ls, hh, bb, fun _ => [], fun _ => [], []⟩, 0, [], []⟩ 0 := I14.start RK Z LK rfl unK ⟨n1, n2⟩ (I14.beside RK LK BK hBk)
    have hSK : SqL K HK p (ns.map V.int) := Same.seq sK hS2
    have hG : ([] : List Addr).length = 3 * 0 := rfl
    clear spIK spGK spFK spEK spDK spCK spBK spAK sK dn nLS nHS nBS nCS nhl aDI aCI bHK b2B b2D b2F b2I tk5 tk2 hBk LK unK RK BK eτ spI spK sJ ehl bkJ estI bkI spF estF bkF spD estD bkD estC M1 M2 M3 sG fCS eCS estG estE estB estK bkK fhl est0 s0 fst un2 hB2 hB1 R2 B_ R_ Z un1 sA sB
    generalize hGG : (⟨τk, R, ⟨LS, HS, BS, CS, hl, ls, hh, bb, fun _ => [], fun _ => [], []⟩, 0, [], []⟩ : G14) = G at *
    have hG : G.L.hs.length = 3 * 0 := by rw [← hGG]; rfl
    have hst := I0.L_.es
    have eRLH : G.R = R := by rw [← hGG]
    clear hGG
    have hrm := I0.R_.hr
    have hLH := I0.R_.hh
    os_names t_goi
    refine no (nd_f (by rw [rg_length])) ?_
    os_names t_go
    refine c_deeds (few := 30) (many := 50) hSK hlen (by omega) fun dl ds fdl hdl hds => ?_
    have sm1 : Same HK (upd HK dl (.lst (ds.map V.int))) := Same.new (Same.refl _) fdl
    have I1 := I0.same sm1
    have edl : (upd HK dl (.lst (ds.map V.int))) dl = some (.lst (ds.map V.int)) := upd_same
    generalize upd HK dl (.lst (ds.map V.int)) = H3 at *
    os_names t_go
    rename_i x fx
    have fx : H3 x = none := fx
    have sm2 : Same H3 (upd H3 x (.lst [V.int 50, .int 12])) := Same.new (Same.refl _) fx
    obtain ⟨u, hu2⟩ : ∃ u : Int, atI [V.int 50, .int 12] (if decide ((20 : Int) < n) = true then 1 else 0) = some (.int u) := by
      split <;> exact ⟨_, rfl⟩
    refine r_ixL (SqL.of upd_same) hu2 ?_
    have I2 := I1.same sm2
    have edl2 := sm2 _ _ edl
    generalize upd H3 x (.lst [V.int 50, .int 12]) = H4 at *
    os_names t_go
    rename_i sl fsl
    have fsl : H4 sl = none := fsl
    have hds2 : ∀ d ∈ cutL ds none (some u), DeedOk d := fun d hd => hds d (mem_cutL hd)
    have hdl2 : (cutL ds none (some u)).length ≤ 30 := Nat.le_trans cutL_length hdl
    have sm3 : Same H4 (upd H4 sl (.lst ((cutL ds none (some u)).map V.int))) := Same.new (Same.refl _) fsl
    have I3 := I2.same sm3
    have esl : (upd H4 sl (.lst ((cutL ds none (some u)).map V.int))) sl = some (.lst ((cutL ds none (some u)).map V.int)) := upd_same
    have nsl := I2.fresh fsl
    generalize upd H4 sl (.lst ((cutL ds none (some u)).map V.int)) = H5 at *
    generalize cutL ds none (some u) = ds' at *
    have I4 : I14 K a.c_Room a.c_Hand a.c_Log (fun H2 => RoomAt a.c_Room a.c_Hand a.c_Log τ2 H2 n bs B ∧ H2 sl = some (.lst (ds'.map V.int))) H5 n rm st G 0 := I3.frame fun H2 kx fr => ⟨fr, kx _ _ nsl esl⟩
    clear I0 I1 I2 I3 sm1 sm2 sm3 hrm hLH hst edl edl2 fx fsl fdl esl nsl
    refine r_forL (xs := ds'.map V.int) (fun t σ H' => ∃ (v6 v7 : Option V) (G : G14), σ = [some (.ref p), some (.int c), some (.int n), some (.ref rm), some (.ref bs), some (.ref st), v6, v7, none, none, none] ∧ I14 K a.c_Room a.c_Hand a.c_Log (fun H2 => RoomAt a.c_Room a.c_Hand a.c_Log τ2 H2 n bs B ∧ H2 sl = some (.lst (ds'.map V.int))) H' n rm st G t ∧ G.L.hs.length = 3 * t) ⟨none, none, G, rfl, I4, hG⟩ (fun t σ H' _ ⟨_, _, _, _, I, _⟩ => SqL.of (I.hd H' Kx.refl).2.2) ?_ ?_
    · rintro t y σ H6 ht ⟨v6, v7, G1, rfl, I5, hG1⟩
      obtain ⟨d, ed, hd⟩ : ∃ d, y = .int d ∧ d ∈ ds' := by
        obtain ⟨y, hy, e⟩ := List.mem_map.mp (List.mem_of_getElem? ht)
        exact ⟨y, e.symm, hy⟩
      subst ed
      obtain ⟨d0, d1⟩ := hds2 d hd
      have ht2 : t < ds'.length := by
        have z := (List.getElem?_eq_some_iff.mp ht).1
        rw [List.length_map] at z
        exact z
      have z0 := Int.emod_nonneg (d / 8 % 60) (show (n : Int) ≠ 0 by omega)
      have z1 := Int.emod_lt_of_pos (d / 8 % 60) (show 0 < (n : Int) by omega)
      os_names t_go
      obtain ⟨i, hi⟩ : ∃ i : Nat, d / 8 % 60 % (n : Int) = i := ⟨(d / 8 % 60 % (n : Int)).toNat, by omega⟩
      rw [hi]
      have hin : i < n := by omega
      os_names t_go
      refine ⟨_, n, rm, st, G1, t, i, d, c, rfl, I5, hin, by omega, d0, fun H7 G2 I6 e6 => ?_⟩
      os_names t_goi
      refine ⟨_, n, rm, st, G2, t + 1, i, rfl, I6, hin, by omega, by rw [e6]; omega, fun H8 hs8 sp8 l8 I7 => ?_⟩
      os_names t_goi
      exact ⟨_, _, _, rfl, I7, by show hs8.length = _; rw [l8, e6]; omega⟩
    · rintro σ H6 ⟨v6, v7, G1, rfl, I5, hG1⟩
      rw [List.length_map] at I5 hG1
      os_names t_go
      refine ⟨_, n, rm, st, G1, ds'.length, _, rfl, I5, by omega, fun H7 G2 I6 e6 h0 => ?_⟩
      have hst6 := I6.L_.es
      have hBS6 := I6.L_.eB
      have hHS6 := I6.L_.eH
      have ix0 : ∀ f : Nat → Addr, atI (rg n fun j => V.ref (f j)) 0 = some (.ref (f 0)) := fun f => rg_at (i := 0) (by omega)
      have ixb := ix0 G2.L.bb
      have ixh := ix0 G2.L.hh
      os_names t_goi
      refine c_fold (I6.L_.e3 0 (by omega)) (I6.L_.e2 0 (by omega)) (I6.L_.m2 0 (by omega)) I6.P.ac (by have := I6.P.len (i := 0) (by omega); omega) fun du H8 fdu s8 edu => ?_
      have I7 := I6.same s8
      have hsm : ∀ j, j < n → foldT G2.T (G2.R.g j).ms = foldT G2.T (G2.R.g 0).ms := fun j hj => by rw [show (G2.R.g j).ms = (G2.R.g 0).ms from I6.P.same h0 hj (by omega)]
      have hl2 : G2.L.hs.length ≤ 90 := by rw [e6]; omega
      os_names t_go
      refine ⟨_, n, rm, st, du, G2, ds'.length, _, rfl, I7, by omega, by omega, edu, hsm, fun H9 hs9 sp9 l9 I8 => ?_⟩
      have hd9 : H9 du = some (.dK (enc (foldT G2.T (G2.R.g 0).ms))) := sp9 _ _ (fun z => by have w := I7.L_.eh; rw [← z, edu] at w; cases w) edu
      have ndu := I8.dict hd9
      have I9 := I8.frame (Fr' := fun H2 => RoomAt a.c_Room a.c_Hand a.c_Log τ2 H2 n bs B ∧ H2 du = some (.dK (enc (foldT G2.T (G2.R.g 0).ms)))) fun H2 kx fr => ⟨fr.1, kx _ _ ndu hd9⟩
      os_names t_goi
      refine ⟨_, n, rm, st, _, ds'.length, rfl, I9, by omega, fun H10 G3 I10 e10 h10 => ?_⟩
      obtain ⟨w3, t3, m3⟩ := h10 h0
      have hd10 := (I10.hd H10 Kx.refl).2.2
      have e10 : G3.L.hs = hs9 := e10
      have hsm3 : ∀ j, j < n → foldT G3.T (G3.R.g j).ms = foldT G2.T (G2.R.g 0).ms := fun j hj => by rw [m3 j hj, foldT_nil]; exact t3
      refine ⟨true, rfl, ?_⟩
      os_names t_goi
      refine ⟨_, n, rm, st, du, G3, ds'.length, _, rfl, I10, by omega, by rw [e10]; omega, hd10, hsm3, fun H11 hs11 sp11 l11 I11 => ?_⟩
      have hst11 := I11.L_.es
      have heh11 : H11 G3.L.hl = some (.lst (hs11.map V.ref)) := I11.L_.eh
      obtain ⟨hpr, BF, _⟩ := I11.hd H11 Kx.refl
      have hpr : ∀ a ∈ hs11, PairAt K H11 a := hpr
      os_names t_goi
      refine r_forL (xs := hs11.map V.ref) (fun i σ H2 => ∃ v, σ = [some (.ref p), some (.int c), some (.int n), some (.ref rm), some (.ref bs), some (.ref st), v6, v7, some (.ref du), v, none] ∧ H2 = H11) ⟨_, rfl, rfl⟩ (fun _ _ _ _ ⟨_, _, e⟩ => e ▸ SqL.of heh11) ?_ ?_
      · rintro t y σ H12 ht ⟨v, rfl, rfl⟩
        obtain ⟨b, eb, hb⟩ : ∃ b, y = .ref b ∧ b ∈ hs11 := by
          obtain ⟨y, hy, e⟩ := List.mem_map.mp (List.mem_of_getElem? ht)
          exact ⟨y, e.symm, hy⟩
        subst eb
        obtain ⟨x1, y1, e1, q1⟩ := hpr b hb
        os_names t_go
        refine q1 _ ?_
        os_names t_goi
        exact ⟨_, rfl, rfl⟩
      · rintro σ H12 ⟨v, rfl, rfl⟩
        have hbs := BF.hr
        os_names t_go
        refine s_andV ?_
        os_names t_go
        rw [show (n : Int) - 1 = ((n - 1 : Nat) : Int) by omega]
        refine c_wait BF (by omega) (by omega) fun l fl => ?_
        rw [cw]
        os_names t_go
        rename_i e0 fe0
        have fl : Fresh H12 l := fl
        refine r_eqXnil (xs := []) (keep upd_same fe0) upd_same ?_
        have s13 : Same H12 (upd (upd H12 l (.lst (([] : List Addr).map V.ref))) e0 (.lst [])) := Same.new (Same.new (Same.refl _) fl) fe0
        have B2 := BF.same s13
        generalize upd (upd H12 l (.lst (([] : List Addr).map V.ref))) e0 (.lst []) = H13 at *
        rw [decide_eq_true rfl]
        have hbs2 := B2.hr
        have hLH2 := B2.hh
        have ixp : atI (rg n fun j => V.ref (B.p j)) 0 = some (.ref (B.p 0)) := rg_at (i := 0) (by omega)
        have DH := B2.hd 0 (by omega)
        have hp0 := DH.hp
        rw [c0] at hp0
        os_names t_goi
        refine s_andV ?_
        os_names t_goi
        refine ⟨_, _, _, _, _, _, rfl, DH, by rw [ct]; exact Acyc.nil, by rw [ct, cas]; simp, fun d H14 fd s14 ed => ?_⟩
        rw [ct, cm] at ed
        have ed : H14 d = some (.dK []) := ed
        os_names t_go
        rename_i e1 fe1
        refine r_eqXdict (keep ed fe1) upd_same ?_
        exact q _
end
theorem all_mk {l : PySem.W.OpenLaw} {w : World} {K : PySem.W.Frag} {h : Heap} {mg : Str → Option Value} {fa : Addr} (X : K.In h) (G : h.Ns mainGlobals mg) (hfa : mg "law" = some (.ref fa))
    {f_whole f_is_move f_ahead f_way_up f_closes f_put f_Log_init f_Log_place_of f_Log_hear f_Log_moves f_Log_tree f_Log_steps f_Log_settle f_Hand_init f_Hand_move f_Hand_hear f_Hand_tree f_Hand_settle f_Room_init f_Room_line_of f_Room_move f_Room_waiting f_Room_carry f_Room_double f_Room_settle f__law_whole f__law_cell_at f__law_name f__law_way f__law_same_tree f__law_same_move f__law_same_moves f__law_deeds f__law_told f__law_fold f__law_steps_of f__law_same_steps f__law_steps_asked f__law_no_hand f__law_no_room f__law_no_move f__law_hear f__law_moved f__law_carried f__law_emptied f__law_settled f__law_as_told f__law_all_have f__law_done f_law c_Log c_Hand c_Room c_TreeError c_NoMove c_TooLate c_Clash c_NoHand : Addr}
    {t_MOST : Tok}
    {od_whole an_whole od_is_move an_is_move od_ahead an_ahead od_way_up an_way_up od_closes an_closes od_put an_put od_Log_init an_Log_init od_Log_place_of an_Log_place_of od_Log_hear an_Log_hear od_Log_moves an_Log_moves od_Log_tree an_Log_tree od_Log_steps an_Log_steps od_Log_settle an_Log_settle od_Hand_init an_Hand_init od_Hand_move an_Hand_move od_Hand_hear an_Hand_hear od_Hand_tree an_Hand_tree od_Hand_settle an_Hand_settle od_Room_init an_Room_init od_Room_line_of an_Room_line_of od_Room_move an_Room_move od_Room_waiting an_Room_waiting od_Room_carry an_Room_carry od_Room_double an_Room_double od_Room_settle an_Room_settle od__law_whole an__law_whole od__law_cell_at an__law_cell_at od__law_name an__law_name od__law_way an__law_way od__law_same_tree an__law_same_tree od__law_same_move an__law_same_move od__law_same_moves an__law_same_moves od__law_deeds an__law_deeds od__law_told an__law_told od__law_fold an__law_fold od__law_steps_of an__law_steps_of od__law_same_steps an__law_same_steps od__law_steps_asked an__law_steps_asked od__law_no_hand an__law_no_hand od__law_no_room an__law_no_room od__law_no_move an__law_no_move od__law_hear an__law_hear od__law_moved an__law_moved od__law_carried an__law_carried od__law_emptied an__law_emptied od__law_settled an__law_settled od__law_as_told an__law_as_told od__law_all_have an__law_all_have od__law_done an__law_done od_law an_law : Option Addr}
    {sl_whole sl_is_move sl_ahead sl_way_up sl_closes sl_put sl_Log_init sl_Log_place_of sl_Log_hear sl_Log_moves sl_Log_tree sl_Log_steps sl_Log_settle sl_Hand_init sl_Hand_move sl_Hand_hear sl_Hand_tree sl_Hand_settle sl_Room_init sl_Room_line_of sl_Room_move sl_Room_waiting sl_Room_carry sl_Room_double sl_Room_settle sl__law_whole sl__law_cell_at sl__law_name sl__law_way sl__law_same_tree sl__law_same_move sl__law_same_moves sl__law_deeds sl__law_told sl__law_fold sl__law_steps_of sl__law_same_steps sl__law_steps_asked sl__law_no_hand sl__law_no_room sl__law_no_move sl__law_hear sl__law_moved sl__law_carried sl__law_emptied sl__law_settled sl__law_as_told sl__law_all_have sl__law_done sl_law : Array (Option Value)}
    {oc_whole kV_whole dc_whole pm_whole cd_whole ct_whole oc_is_move kV_is_move dc_is_move pm_is_move cd_is_move ct_is_move oc_ahead kV_ahead dc_ahead pm_ahead cd_ahead ct_ahead oc_way_up kV_way_up dc_way_up pm_way_up cd_way_up ct_way_up oc_closes kV_closes dc_closes pm_closes cd_closes ct_closes oc_put kV_put dc_put pm_put cd_put ct_put oc_Log_init kV_Log_init dc_Log_init pm_Log_init cd_Log_init ct_Log_init oc_Log_place_of kV_Log_place_of dc_Log_place_of pm_Log_place_of cd_Log_place_of ct_Log_place_of oc_Log_hear kV_Log_hear dc_Log_hear pm_Log_hear cd_Log_hear ct_Log_hear oc_Log_moves kV_Log_moves dc_Log_moves pm_Log_moves cd_Log_moves ct_Log_moves oc_Log_tree kV_Log_tree dc_Log_tree pm_Log_tree cd_Log_tree ct_Log_tree oc_Log_steps kV_Log_steps dc_Log_steps pm_Log_steps cd_Log_steps ct_Log_steps oc_Log_settle kV_Log_settle dc_Log_settle pm_Log_settle cd_Log_settle ct_Log_settle oc_Hand_init kV_Hand_init dc_Hand_init pm_Hand_init cd_Hand_init ct_Hand_init oc_Hand_move kV_Hand_move dc_Hand_move pm_Hand_move cd_Hand_move ct_Hand_move oc_Hand_hear kV_Hand_hear dc_Hand_hear pm_Hand_hear cd_Hand_hear ct_Hand_hear oc_Hand_tree kV_Hand_tree dc_Hand_tree pm_Hand_tree cd_Hand_tree ct_Hand_tree oc_Hand_settle kV_Hand_settle dc_Hand_settle pm_Hand_settle cd_Hand_settle ct_Hand_settle oc_Room_init kV_Room_init dc_Room_init pm_Room_init cd_Room_init ct_Room_init oc_Room_line_of kV_Room_line_of dc_Room_line_of pm_Room_line_of cd_Room_line_of ct_Room_line_of oc_Room_move kV_Room_move dc_Room_move pm_Room_move cd_Room_move ct_Room_move oc_Room_waiting kV_Room_waiting dc_Room_waiting pm_Room_waiting cd_Room_waiting ct_Room_waiting oc_Room_carry kV_Room_carry dc_Room_carry pm_Room_carry cd_Room_carry ct_Room_carry oc_Room_double kV_Room_double dc_Room_double pm_Room_double cd_Room_double ct_Room_double oc_Room_settle kV_Room_settle dc_Room_settle pm_Room_settle cd_Room_settle ct_Room_settle oc__law_whole kV__law_whole dc__law_whole pm__law_whole cd__law_whole ct__law_whole oc__law_cell_at kV__law_cell_at dc__law_cell_at pm__law_cell_at cd__law_cell_at ct__law_cell_at oc__law_name kV__law_name dc__law_name pm__law_name cd__law_name ct__law_name oc__law_way kV__law_way dc__law_way pm__law_way cd__law_way ct__law_way oc__law_same_tree kV__law_same_tree dc__law_same_tree pm__law_same_tree cd__law_same_tree ct__law_same_tree oc__law_same_move kV__law_same_move dc__law_same_move pm__law_same_move cd__law_same_move ct__law_same_move oc__law_same_moves kV__law_same_moves dc__law_same_moves pm__law_same_moves cd__law_same_moves ct__law_same_moves oc__law_deeds kV__law_deeds dc__law_deeds pm__law_deeds cd__law_deeds ct__law_deeds oc__law_told kV__law_told dc__law_told pm__law_told cd__law_told ct__law_told oc__law_fold kV__law_fold dc__law_fold pm__law_fold cd__law_fold ct__law_fold oc__law_steps_of kV__law_steps_of dc__law_steps_of pm__law_steps_of cd__law_steps_of ct__law_steps_of oc__law_same_steps kV__law_same_steps dc__law_same_steps pm__law_same_steps cd__law_same_steps ct__law_same_steps oc__law_steps_asked kV__law_steps_asked dc__law_steps_asked pm__law_steps_asked cd__law_steps_asked ct__law_steps_asked oc__law_no_hand kV__law_no_hand dc__law_no_hand pm__law_no_hand cd__law_no_hand ct__law_no_hand oc__law_no_room kV__law_no_room dc__law_no_room pm__law_no_room cd__law_no_room ct__law_no_room oc__law_no_move kV__law_no_move dc__law_no_move pm__law_no_move cd__law_no_move ct__law_no_move oc__law_hear kV__law_hear dc__law_hear pm__law_hear cd__law_hear ct__law_hear oc__law_moved kV__law_moved dc__law_moved pm__law_moved cd__law_moved ct__law_moved oc__law_carried kV__law_carried dc__law_carried pm__law_carried cd__law_carried ct__law_carried oc__law_emptied kV__law_emptied dc__law_emptied pm__law_emptied cd__law_emptied ct__law_emptied oc__law_settled kV__law_settled dc__law_settled pm__law_settled cd__law_settled ct__law_settled oc__law_as_told kV__law_as_told dc__law_as_told pm__law_as_told cd__law_as_told ct__law_as_told oc__law_all_have kV__law_all_have dc__law_all_have pm__law_all_have cd__law_all_have ct__law_all_have oc__law_done kV__law_done dc__law_done pm__law_done cd__law_done ct__law_done oc_law kV_law dc_law pm_law cd_law ct_law : Value}
    (aC_Log : PySem.W.nsIn K mainGlobals "Log" = some (some (.ref c_Log)))
    (aC_Hand : PySem.W.nsIn K mainGlobals "Hand" = some (some (.ref c_Hand)))
    (aC_Room : PySem.W.nsIn K mainGlobals "Room" = some (some (.ref c_Room)))
    (aC_TreeError : PySem.W.nsIn K mainGlobals "TreeError" = some (some (.ref c_TreeError)))
    (aC_NoMove : PySem.W.nsIn K mainGlobals "NoMove" = some (some (.ref c_NoMove)))
    (aC_TooLate : PySem.W.nsIn K mainGlobals "TooLate" = some (some (.ref c_TooLate)))
    (aC_Clash : PySem.W.nsIn K mainGlobals "Clash" = some (some (.ref c_Clash)))
    (aC_NoHand : PySem.W.nsIn K mainGlobals "NoHand" = some (some (.ref c_NoHand)))
    (a_whole : PySem.W.nsIn K mainGlobals "whole" = some (some (.ref f_whole)))
    (l_whole : K.lookup f_whole = some ⟨oc_whole, od_whole, .func (PySem.W.fnOf "whole" "whole" (defArgs s_whole) (defBody s_whole) (defScope s_whole) .none kV_whole dc_whole pm_whole an_whole cd_whole ct_whole), sl_whole⟩)
    (c_whole : PySem.W.codeIn K cd_whole "whole" = true)
    (k_whole : PySem.W.keepIn K (.ref f_whole) = true)
    (a_is_move : PySem.W.nsIn K mainGlobals "is_move" = some (some (.ref f_is_move)))
    (l_is_move : K.lookup f_is_move = some ⟨oc_is_move, od_is_move, .func (PySem.W.fnOf "is_move" "is_move" (defArgs s_is_move) (defBody s_is_move) (defScope s_is_move) .none kV_is_move dc_is_move pm_is_move an_is_move cd_is_move ct_is_move), sl_is_move⟩)
    (c_is_move : PySem.W.codeIn K cd_is_move "is_move" = true)
    (k_is_move : PySem.W.keepIn K (.ref f_is_move) = true)
    (a_ahead : PySem.W.nsIn K mainGlobals "ahead" = some (some (.ref f_ahead)))
    (l_ahead : K.lookup f_ahead = some ⟨oc_ahead, od_ahead, .func (PySem.W.fnOf "ahead" "ahead" (defArgs s_ahead) (defBody s_ahead) (defScope s_ahead) .none kV_ahead dc_ahead pm_ahead an_ahead cd_ahead ct_ahead), sl_ahead⟩)
    (c_ahead : PySem.W.codeIn K cd_ahead "ahead" = true)
    (k_ahead : PySem.W.keepIn K (.ref f_ahead) = true)
    (a_way_up : PySem.W.nsIn K mainGlobals "way_up" = some (some (.ref f_way_up)))
    (l_way_up : K.lookup f_way_up = some ⟨oc_way_up, od_way_up, .func (PySem.W.fnOf "way_up" "way_up" (defArgs s_way_up) (defBody s_way_up) (defScope s_way_up) .none kV_way_up dc_way_up pm_way_up an_way_up cd_way_up ct_way_up), sl_way_up⟩)
    (c_way_up : PySem.W.codeIn K cd_way_up "way_up" = true)
    (k_way_up : PySem.W.keepIn K (.ref f_way_up) = true)
    (a_closes : PySem.W.nsIn K mainGlobals "closes" = some (some (.ref f_closes)))
    (l_closes : K.lookup f_closes = some ⟨oc_closes, od_closes, .func (PySem.W.fnOf "closes" "closes" (defArgs s_closes) (defBody s_closes) (defScope s_closes) .none kV_closes dc_closes pm_closes an_closes cd_closes ct_closes), sl_closes⟩)
    (c_closes : PySem.W.codeIn K cd_closes "closes" = true)
    (k_closes : PySem.W.keepIn K (.ref f_closes) = true)
    (a_put : PySem.W.nsIn K mainGlobals "put" = some (some (.ref f_put)))
    (l_put : K.lookup f_put = some ⟨oc_put, od_put, .func (PySem.W.fnOf "put" "put" (defArgs s_put) (defBody s_put) (defScope s_put) .none kV_put dc_put pm_put an_put cd_put ct_put), sl_put⟩)
    (c_put : PySem.W.codeIn K cd_put "put" = true)
    (k_put : PySem.W.keepIn K (.ref f_put) = true)
    (a_Log_init : PySem.W.findIn K (.ref c_Log) "__init__" = some (some (.ref f_Log_init)))
    (i_Log_init : PySem.W.isFn K (.ref f_Log_init) = true)
    (l_Log_init : K.lookup f_Log_init = some ⟨oc_Log_init, od_Log_init, .func (PySem.W.fnOf "__init__" "Log.__init__" (defArgs s_Log_init) (defBody s_Log_init) (defScope s_Log_init) .none kV_Log_init dc_Log_init pm_Log_init an_Log_init cd_Log_init ct_Log_init), sl_Log_init⟩)
    (c_Log_init : PySem.W.codeIn K cd_Log_init "Log.__init__" = true)
    (k_Log_init : PySem.W.keepIn K (.ref f_Log_init) = true)
    (a_Log_place_of : PySem.W.findIn K (.ref c_Log) "place_of" = some (some (.ref f_Log_place_of)))
    (i_Log_place_of : PySem.W.isFn K (.ref f_Log_place_of) = true)
    (l_Log_place_of : K.lookup f_Log_place_of = some ⟨oc_Log_place_of, od_Log_place_of, .func (PySem.W.fnOf "place_of" "Log.place_of" (defArgs s_Log_place_of) (defBody s_Log_place_of) (defScope s_Log_place_of) .none kV_Log_place_of dc_Log_place_of pm_Log_place_of an_Log_place_of cd_Log_place_of ct_Log_place_of), sl_Log_place_of⟩)
    (c_Log_place_of : PySem.W.codeIn K cd_Log_place_of "Log.place_of" = true)
    (k_Log_place_of : PySem.W.keepIn K (.ref f_Log_place_of) = true)
    (a_Log_hear : PySem.W.findIn K (.ref c_Log) "hear" = some (some (.ref f_Log_hear)))
    (i_Log_hear : PySem.W.isFn K (.ref f_Log_hear) = true)
    (l_Log_hear : K.lookup f_Log_hear = some ⟨oc_Log_hear, od_Log_hear, .func (PySem.W.fnOf "hear" "Log.hear" (defArgs s_Log_hear) (defBody s_Log_hear) (defScope s_Log_hear) .none kV_Log_hear dc_Log_hear pm_Log_hear an_Log_hear cd_Log_hear ct_Log_hear), sl_Log_hear⟩)
    (c_Log_hear : PySem.W.codeIn K cd_Log_hear "Log.hear" = true)
    (k_Log_hear : PySem.W.keepIn K (.ref f_Log_hear) = true)
    (a_Log_moves : PySem.W.findIn K (.ref c_Log) "moves" = some (some (.ref f_Log_moves)))
    (i_Log_moves : PySem.W.isFn K (.ref f_Log_moves) = true)
    (l_Log_moves : K.lookup f_Log_moves = some ⟨oc_Log_moves, od_Log_moves, .func (PySem.W.fnOf "moves" "Log.moves" (defArgs s_Log_moves) (defBody s_Log_moves) (defScope s_Log_moves) .none kV_Log_moves dc_Log_moves pm_Log_moves an_Log_moves cd_Log_moves ct_Log_moves), sl_Log_moves⟩)
    (c_Log_moves : PySem.W.codeIn K cd_Log_moves "Log.moves" = true)
    (k_Log_moves : PySem.W.keepIn K (.ref f_Log_moves) = true)
    (a_Log_tree : PySem.W.findIn K (.ref c_Log) "tree" = some (some (.ref f_Log_tree)))
    (i_Log_tree : PySem.W.isFn K (.ref f_Log_tree) = true)
    (l_Log_tree : K.lookup f_Log_tree = some ⟨oc_Log_tree, od_Log_tree, .func (PySem.W.fnOf "tree" "Log.tree" (defArgs s_Log_tree) (defBody s_Log_tree) (defScope s_Log_tree) .none kV_Log_tree dc_Log_tree pm_Log_tree an_Log_tree cd_Log_tree ct_Log_tree), sl_Log_tree⟩)
    (c_Log_tree : PySem.W.codeIn K cd_Log_tree "Log.tree" = true)
    (k_Log_tree : PySem.W.keepIn K (.ref f_Log_tree) = true)
    (a_Log_steps : PySem.W.findIn K (.ref c_Log) "steps" = some (some (.ref f_Log_steps)))
    (i_Log_steps : PySem.W.isFn K (.ref f_Log_steps) = true)
    (l_Log_steps : K.lookup f_Log_steps = some ⟨oc_Log_steps, od_Log_steps, .func (PySem.W.fnOf "steps" "Log.steps" (defArgs s_Log_steps) (defBody s_Log_steps) (defScope s_Log_steps) .none kV_Log_steps dc_Log_steps pm_Log_steps an_Log_steps cd_Log_steps ct_Log_steps), sl_Log_steps⟩)
    (c_Log_steps : PySem.W.codeIn K cd_Log_steps "Log.steps" = true)
    (k_Log_steps : PySem.W.keepIn K (.ref f_Log_steps) = true)
    (a_Log_settle : PySem.W.findIn K (.ref c_Log) "settle" = some (some (.ref f_Log_settle)))
    (i_Log_settle : PySem.W.isFn K (.ref f_Log_settle) = true)
    (l_Log_settle : K.lookup f_Log_settle = some ⟨oc_Log_settle, od_Log_settle, .func (PySem.W.fnOf "settle" "Log.settle" (defArgs s_Log_settle) (defBody s_Log_settle) (defScope s_Log_settle) .none kV_Log_settle dc_Log_settle pm_Log_settle an_Log_settle cd_Log_settle ct_Log_settle), sl_Log_settle⟩)
    (c_Log_settle : PySem.W.codeIn K cd_Log_settle "Log.settle" = true)
    (k_Log_settle : PySem.W.keepIn K (.ref f_Log_settle) = true)
    (a_Hand_init : PySem.W.findIn K (.ref c_Hand) "__init__" = some (some (.ref f_Hand_init)))
    (i_Hand_init : PySem.W.isFn K (.ref f_Hand_init) = true)
    (l_Hand_init : K.lookup f_Hand_init = some ⟨oc_Hand_init, od_Hand_init, .func (PySem.W.fnOf "__init__" "Hand.__init__" (defArgs s_Hand_init) (defBody s_Hand_init) (defScope s_Hand_init) .none kV_Hand_init dc_Hand_init pm_Hand_init an_Hand_init cd_Hand_init ct_Hand_init), sl_Hand_init⟩)
    (c_Hand_init : PySem.W.codeIn K cd_Hand_init "Hand.__init__" = true)
    (k_Hand_init : PySem.W.keepIn K (.ref f_Hand_init) = true)
    (a_Hand_move : PySem.W.findIn K (.ref c_Hand) "move" = some (some (.ref f_Hand_move)))
    (i_Hand_move : PySem.W.isFn K (.ref f_Hand_move) = true)
    (l_Hand_move : K.lookup f_Hand_move = some ⟨oc_Hand_move, od_Hand_move, .func (PySem.W.fnOf "move" "Hand.move" (defArgs s_Hand_move) (defBody s_Hand_move) (defScope s_Hand_move) .none kV_Hand_move dc_Hand_move pm_Hand_move an_Hand_move cd_Hand_move ct_Hand_move), sl_Hand_move⟩)
    (c_Hand_move : PySem.W.codeIn K cd_Hand_move "Hand.move" = true)
    (k_Hand_move : PySem.W.keepIn K (.ref f_Hand_move) = true)
    (a_Hand_hear : PySem.W.findIn K (.ref c_Hand) "hear" = some (some (.ref f_Hand_hear)))
    (i_Hand_hear : PySem.W.isFn K (.ref f_Hand_hear) = true)
    (l_Hand_hear : K.lookup f_Hand_hear = some ⟨oc_Hand_hear, od_Hand_hear, .func (PySem.W.fnOf "hear" "Hand.hear" (defArgs s_Hand_hear) (defBody s_Hand_hear) (defScope s_Hand_hear) .none kV_Hand_hear dc_Hand_hear pm_Hand_hear an_Hand_hear cd_Hand_hear ct_Hand_hear), sl_Hand_hear⟩)
    (c_Hand_hear : PySem.W.codeIn K cd_Hand_hear "Hand.hear" = true)
    (k_Hand_hear : PySem.W.keepIn K (.ref f_Hand_hear) = true)
    (a_Hand_tree : PySem.W.findIn K (.ref c_Hand) "tree" = some (some (.ref f_Hand_tree)))
    (i_Hand_tree : PySem.W.isFn K (.ref f_Hand_tree) = true)
    (l_Hand_tree : K.lookup f_Hand_tree = some ⟨oc_Hand_tree, od_Hand_tree, .func (PySem.W.fnOf "tree" "Hand.tree" (defArgs s_Hand_tree) (defBody s_Hand_tree) (defScope s_Hand_tree) .none kV_Hand_tree dc_Hand_tree pm_Hand_tree an_Hand_tree cd_Hand_tree ct_Hand_tree), sl_Hand_tree⟩)
    (c_Hand_tree : PySem.W.codeIn K cd_Hand_tree "Hand.tree" = true)
    (k_Hand_tree : PySem.W.keepIn K (.ref f_Hand_tree) = true)
    (a_Hand_settle : PySem.W.findIn K (.ref c_Hand) "settle" = some (some (.ref f_Hand_settle)))
    (i_Hand_settle : PySem.W.isFn K (.ref f_Hand_settle) = true)
    (l_Hand_settle : K.lookup f_Hand_settle = some ⟨oc_Hand_settle, od_Hand_settle, .func (PySem.W.fnOf "settle" "Hand.settle" (defArgs s_Hand_settle) (defBody s_Hand_settle) (defScope s_Hand_settle) .none kV_Hand_settle dc_Hand_settle pm_Hand_settle an_Hand_settle cd_Hand_settle ct_Hand_settle), sl_Hand_settle⟩)
    (c_Hand_settle : PySem.W.codeIn K cd_Hand_settle "Hand.settle" = true)
    (k_Hand_settle : PySem.W.keepIn K (.ref f_Hand_settle) = true)
    (a_Room_init : PySem.W.findIn K (.ref c_Room) "__init__" = some (some (.ref f_Room_init)))
    (i_Room_init : PySem.W.isFn K (.ref f_Room_init) = true)
    (l_Room_init : K.lookup f_Room_init = some ⟨oc_Room_init, od_Room_init, .func (PySem.W.fnOf "__init__" "Room.__init__" (defArgs s_Room_init) (defBody s_Room_init) (defScope s_Room_init) .none kV_Room_init dc_Room_init pm_Room_init an_Room_init cd_Room_init ct_Room_init), sl_Room_init⟩)
    (c_Room_init : PySem.W.codeIn K cd_Room_init "Room.__init__" = true)
    (k_Room_init : PySem.W.keepIn K (.ref f_Room_init) = true)
    (a_Room_line_of : PySem.W.findIn K (.ref c_Room) "line_of" = some (some (.ref f_Room_line_of)))
    (i_Room_line_of : PySem.W.isFn K (.ref f_Room_line_of) = true)
    (l_Room_line_of : K.lookup f_Room_line_of = some ⟨oc_Room_line_of, od_Room_line_of, .func (PySem.W.fnOf "line_of" "Room.line_of" (defArgs s_Room_line_of) (defBody s_Room_line_of) (defScope s_Room_line_of) .none kV_Room_line_of dc_Room_line_of pm_Room_line_of an_Room_line_of cd_Room_line_of ct_Room_line_of), sl_Room_line_of⟩)
    (c_Room_line_of : PySem.W.codeIn K cd_Room_line_of "Room.line_of" = true)
    (k_Room_line_of : PySem.W.keepIn K (.ref f_Room_line_of) = true)
    (a_Room_move : PySem.W.findIn K (.ref c_Room) "move" = some (some (.ref f_Room_move)))
    (i_Room_move : PySem.W.isFn K (.ref f_Room_move) = true)
    (l_Room_move : K.lookup f_Room_move = some ⟨oc_Room_move, od_Room_move, .func (PySem.W.fnOf "move" "Room.move" (defArgs s_Room_move) (defBody s_Room_move) (defScope s_Room_move) .none kV_Room_move dc_Room_move pm_Room_move an_Room_move cd_Room_move ct_Room_move), sl_Room_move⟩)
    (c_Room_move : PySem.W.codeIn K cd_Room_move "Room.move" = true)
    (k_Room_move : PySem.W.keepIn K (.ref f_Room_move) = true)
    (a_Room_waiting : PySem.W.findIn K (.ref c_Room) "waiting" = some (some (.ref f_Room_waiting)))
    (i_Room_waiting : PySem.W.isFn K (.ref f_Room_waiting) = true)
    (l_Room_waiting : K.lookup f_Room_waiting = some ⟨oc_Room_waiting, od_Room_waiting, .func (PySem.W.fnOf "waiting" "Room.waiting" (defArgs s_Room_waiting) (defBody s_Room_waiting) (defScope s_Room_waiting) .none kV_Room_waiting dc_Room_waiting pm_Room_waiting an_Room_waiting cd_Room_waiting ct_Room_waiting), sl_Room_waiting⟩)
    (c_Room_waiting : PySem.W.codeIn K cd_Room_waiting "Room.waiting" = true)
    (k_Room_waiting : PySem.W.keepIn K (.ref f_Room_waiting) = true)
    (a_Room_carry : PySem.W.findIn K (.ref c_Room) "carry" = some (some (.ref f_Room_carry)))
    (i_Room_carry : PySem.W.isFn K (.ref f_Room_carry) = true)
    (l_Room_carry : K.lookup f_Room_carry = some ⟨oc_Room_carry, od_Room_carry, .func (PySem.W.fnOf "carry" "Room.carry" (defArgs s_Room_carry) (defBody s_Room_carry) (defScope s_Room_carry) .none kV_Room_carry dc_Room_carry pm_Room_carry an_Room_carry cd_Room_carry ct_Room_carry), sl_Room_carry⟩)
    (c_Room_carry : PySem.W.codeIn K cd_Room_carry "Room.carry" = true)
    (k_Room_carry : PySem.W.keepIn K (.ref f_Room_carry) = true)
    (a_Room_double : PySem.W.findIn K (.ref c_Room) "double" = some (some (.ref f_Room_double)))
    (i_Room_double : PySem.W.isFn K (.ref f_Room_double) = true)
    (l_Room_double : K.lookup f_Room_double = some ⟨oc_Room_double, od_Room_double, .func (PySem.W.fnOf "double" "Room.double" (defArgs s_Room_double) (defBody s_Room_double) (defScope s_Room_double) .none kV_Room_double dc_Room_double pm_Room_double an_Room_double cd_Room_double ct_Room_double), sl_Room_double⟩)
    (c_Room_double : PySem.W.codeIn K cd_Room_double "Room.double" = true)
    (k_Room_double : PySem.W.keepIn K (.ref f_Room_double) = true)
    (a_Room_settle : PySem.W.findIn K (.ref c_Room) "settle" = some (some (.ref f_Room_settle)))
    (i_Room_settle : PySem.W.isFn K (.ref f_Room_settle) = true)
    (l_Room_settle : K.lookup f_Room_settle = some ⟨oc_Room_settle, od_Room_settle, .func (PySem.W.fnOf "settle" "Room.settle" (defArgs s_Room_settle) (defBody s_Room_settle) (defScope s_Room_settle) .none kV_Room_settle dc_Room_settle pm_Room_settle an_Room_settle cd_Room_settle ct_Room_settle), sl_Room_settle⟩)
    (c_Room_settle : PySem.W.codeIn K cd_Room_settle "Room.settle" = true)
    (k_Room_settle : PySem.W.keepIn K (.ref f_Room_settle) = true)
    (a__law_whole : PySem.W.nsIn K mainGlobals "_law_whole" = some (some (.ref f__law_whole)))
    (l__law_whole : K.lookup f__law_whole = some ⟨oc__law_whole, od__law_whole, .func (PySem.W.fnOf "_law_whole" "_law_whole" (defArgs s__law_whole) (defBody s__law_whole) (defScope s__law_whole) .none kV__law_whole dc__law_whole pm__law_whole an__law_whole cd__law_whole ct__law_whole), sl__law_whole⟩)
    (c__law_whole : PySem.W.codeIn K cd__law_whole "_law_whole" = true)
    (k__law_whole : PySem.W.keepIn K (.ref f__law_whole) = true)
    (a__law_cell_at : PySem.W.nsIn K mainGlobals "_law_cell_at" = some (some (.ref f__law_cell_at)))
    (l__law_cell_at : K.lookup f__law_cell_at = some ⟨oc__law_cell_at, od__law_cell_at, .func (PySem.W.fnOf "_law_cell_at" "_law_cell_at" (defArgs s__law_cell_at) (defBody s__law_cell_at) (defScope s__law_cell_at) .none kV__law_cell_at dc__law_cell_at pm__law_cell_at an__law_cell_at cd__law_cell_at ct__law_cell_at), sl__law_cell_at⟩)
    (c__law_cell_at : PySem.W.codeIn K cd__law_cell_at "_law_cell_at" = true)
    (k__law_cell_at : PySem.W.keepIn K (.ref f__law_cell_at) = true)
    (a__law_name : PySem.W.nsIn K mainGlobals "_law_name" = some (some (.ref f__law_name)))
    (l__law_name : K.lookup f__law_name = some ⟨oc__law_name, od__law_name, .func (PySem.W.fnOf "_law_name" "_law_name" (defArgs s__law_name) (defBody s__law_name) (defScope s__law_name) .none kV__law_name dc__law_name pm__law_name an__law_name cd__law_name ct__law_name), sl__law_name⟩)
    (c__law_name : PySem.W.codeIn K cd__law_name "_law_name" = true)
    (k__law_name : PySem.W.keepIn K (.ref f__law_name) = true)
    (a__law_way : PySem.W.nsIn K mainGlobals "_law_way" = some (some (.ref f__law_way)))
    (l__law_way : K.lookup f__law_way = some ⟨oc__law_way, od__law_way, .func (PySem.W.fnOf "_law_way" "_law_way" (defArgs s__law_way) (defBody s__law_way) (defScope s__law_way) .none kV__law_way dc__law_way pm__law_way an__law_way cd__law_way ct__law_way), sl__law_way⟩)
    (c__law_way : PySem.W.codeIn K cd__law_way "_law_way" = true)
    (k__law_way : PySem.W.keepIn K (.ref f__law_way) = true)
    (a__law_same_tree : PySem.W.nsIn K mainGlobals "_law_same_tree" = some (some (.ref f__law_same_tree)))
    (l__law_same_tree : K.lookup f__law_same_tree = some ⟨oc__law_same_tree, od__law_same_tree, .func (PySem.W.fnOf "_law_same_tree" "_law_same_tree" (defArgs s__law_same_tree) (defBody s__law_same_tree) (defScope s__law_same_tree) .none kV__law_same_tree dc__law_same_tree pm__law_same_tree an__law_same_tree cd__law_same_tree ct__law_same_tree), sl__law_same_tree⟩)
    (c__law_same_tree : PySem.W.codeIn K cd__law_same_tree "_law_same_tree" = true)
    (k__law_same_tree : PySem.W.keepIn K (.ref f__law_same_tree) = true)
    (a__law_same_move : PySem.W.nsIn K mainGlobals "_law_same_move" = some (some (.ref f__law_same_move)))
    (l__law_same_move : K.lookup f__law_same_move = some ⟨oc__law_same_move, od__law_same_move, .func (PySem.W.fnOf "_law_same_move" "_law_same_move" (defArgs s__law_same_move) (defBody s__law_same_move) (defScope s__law_same_move) .none kV__law_same_move dc__law_same_move pm__law_same_move an__law_same_move cd__law_same_move ct__law_same_move), sl__law_same_move⟩)
    (c__law_same_move : PySem.W.codeIn K cd__law_same_move "_law_same_move" = true)
    (k__law_same_move : PySem.W.keepIn K (.ref f__law_same_move) = true)
    (a__law_same_moves : PySem.W.nsIn K mainGlobals "_law_same_moves" = some (some (.ref f__law_same_moves)))
    (l__law_same_moves : K.lookup f__law_same_moves = some ⟨oc__law_same_moves, od__law_same_moves, .func (PySem.W.fnOf "_law_same_moves" "_law_same_moves" (defArgs s__law_same_moves) (defBody s__law_same_moves) (defScope s__law_same_moves) .none kV__law_same_moves dc__law_same_moves pm__law_same_moves an__law_same_moves cd__law_same_moves ct__law_same_moves), sl__law_same_moves⟩)
    (c__law_same_moves : PySem.W.codeIn K cd__law_same_moves "_law_same_moves" = true)
    (k__law_same_moves : PySem.W.keepIn K (.ref f__law_same_moves) = true)
    (a__law_deeds : PySem.W.nsIn K mainGlobals "_law_deeds" = some (some (.ref f__law_deeds)))
    (l__law_deeds : K.lookup f__law_deeds = some ⟨oc__law_deeds, od__law_deeds, .func (PySem.W.fnOf "_law_deeds" "_law_deeds" (defArgs s__law_deeds) (defBody s__law_deeds) (defScope s__law_deeds) .none kV__law_deeds dc__law_deeds pm__law_deeds an__law_deeds cd__law_deeds ct__law_deeds), sl__law_deeds⟩)
    (c__law_deeds : PySem.W.codeIn K cd__law_deeds "_law_deeds" = true)
    (k__law_deeds : PySem.W.keepIn K (.ref f__law_deeds) = true)
    (a__law_told : PySem.W.nsIn K mainGlobals "_law_told" = some (some (.ref f__law_told)))
    (l__law_told : K.lookup f__law_told = some ⟨oc__law_told, od__law_told, .func (PySem.W.fnOf "_law_told" "_law_told" (defArgs s__law_told) (defBody s__law_told) (defScope s__law_told) .none kV__law_told dc__law_told pm__law_told an__law_told cd__law_told ct__law_told), sl__law_told⟩)
    (c__law_told : PySem.W.codeIn K cd__law_told "_law_told" = true)
    (k__law_told : PySem.W.keepIn K (.ref f__law_told) = true)
    (a__law_fold : PySem.W.nsIn K mainGlobals "_law_fold" = some (some (.ref f__law_fold)))
    (l__law_fold : K.lookup f__law_fold = some ⟨oc__law_fold, od__law_fold, .func (PySem.W.fnOf "_law_fold" "_law_fold" (defArgs s__law_fold) (defBody s__law_fold) (defScope s__law_fold) .none kV__law_fold dc__law_fold pm__law_fold an__law_fold cd__law_fold ct__law_fold), sl__law_fold⟩)
    (c__law_fold : PySem.W.codeIn K cd__law_fold "_law_fold" = true)
    (k__law_fold : PySem.W.keepIn K (.ref f__law_fold) = true)
    (a__law_steps_of : PySem.W.nsIn K mainGlobals "_law_steps_of" = some (some (.ref f__law_steps_of)))
    (l__law_steps_of : K.lookup f__law_steps_of = some ⟨oc__law_steps_of, od__law_steps_of, .func (PySem.W.fnOf "_law_steps_of" "_law_steps_of" (defArgs s__law_steps_of) (defBody s__law_steps_of) (defScope s__law_steps_of) .none kV__law_steps_of dc__law_steps_of pm__law_steps_of an__law_steps_of cd__law_steps_of ct__law_steps_of), sl__law_steps_of⟩)
    (c__law_steps_of : PySem.W.codeIn K cd__law_steps_of "_law_steps_of" = true)
    (k__law_steps_of : PySem.W.keepIn K (.ref f__law_steps_of) = true)
    (a__law_same_steps : PySem.W.nsIn K mainGlobals "_law_same_steps" = some (some (.ref f__law_same_steps)))
    (l__law_same_steps : K.lookup f__law_same_steps = some ⟨oc__law_same_steps, od__law_same_steps, .func (PySem.W.fnOf "_law_same_steps" "_law_same_steps" (defArgs s__law_same_steps) (defBody s__law_same_steps) (defScope s__law_same_steps) .none kV__law_same_steps dc__law_same_steps pm__law_same_steps an__law_same_steps cd__law_same_steps ct__law_same_steps), sl__law_same_steps⟩)
    (c__law_same_steps : PySem.W.codeIn K cd__law_same_steps "_law_same_steps" = true)
    (k__law_same_steps : PySem.W.keepIn K (.ref f__law_same_steps) = true)
    (a__law_steps_asked : PySem.W.nsIn K mainGlobals "_law_steps_asked" = some (some (.ref f__law_steps_asked)))
    (l__law_steps_asked : K.lookup f__law_steps_asked = some ⟨oc__law_steps_asked, od__law_steps_asked, .func (PySem.W.fnOf "_law_steps_asked" "_law_steps_asked" (defArgs s__law_steps_asked) (defBody s__law_steps_asked) (defScope s__law_steps_asked) .none kV__law_steps_asked dc__law_steps_asked pm__law_steps_asked an__law_steps_asked cd__law_steps_asked ct__law_steps_asked), sl__law_steps_asked⟩)
    (c__law_steps_asked : PySem.W.codeIn K cd__law_steps_asked "_law_steps_asked" = true)
    (k__law_steps_asked : PySem.W.keepIn K (.ref f__law_steps_asked) = true)
    (a__law_no_hand : PySem.W.nsIn K mainGlobals "_law_no_hand" = some (some (.ref f__law_no_hand)))
    (l__law_no_hand : K.lookup f__law_no_hand = some ⟨oc__law_no_hand, od__law_no_hand, .func (PySem.W.fnOf "_law_no_hand" "_law_no_hand" (defArgs s__law_no_hand) (defBody s__law_no_hand) (defScope s__law_no_hand) .none kV__law_no_hand dc__law_no_hand pm__law_no_hand an__law_no_hand cd__law_no_hand ct__law_no_hand), sl__law_no_hand⟩)
    (c__law_no_hand : PySem.W.codeIn K cd__law_no_hand "_law_no_hand" = true)
    (k__law_no_hand : PySem.W.keepIn K (.ref f__law_no_hand) = true)
    (a__law_no_room : PySem.W.nsIn K mainGlobals "_law_no_room" = some (some (.ref f__law_no_room)))
    (l__law_no_room : K.lookup f__law_no_room = some ⟨oc__law_no_room, od__law_no_room, .func (PySem.W.fnOf "_law_no_room" "_law_no_room" (defArgs s__law_no_room) (defBody s__law_no_room) (defScope s__law_no_room) .none kV__law_no_room dc__law_no_room pm__law_no_room an__law_no_room cd__law_no_room ct__law_no_room), sl__law_no_room⟩)
    (c__law_no_room : PySem.W.codeIn K cd__law_no_room "_law_no_room" = true)
    (k__law_no_room : PySem.W.keepIn K (.ref f__law_no_room) = true)
    (a__law_no_move : PySem.W.nsIn K mainGlobals "_law_no_move" = some (some (.ref f__law_no_move)))
    (l__law_no_move : K.lookup f__law_no_move = some ⟨oc__law_no_move, od__law_no_move, .func (PySem.W.fnOf "_law_no_move" "_law_no_move" (defArgs s__law_no_move) (defBody s__law_no_move) (defScope s__law_no_move) .none kV__law_no_move dc__law_no_move pm__law_no_move an__law_no_move cd__law_no_move ct__law_no_move), sl__law_no_move⟩)
    (c__law_no_move : PySem.W.codeIn K cd__law_no_move "_law_no_move" = true)
    (k__law_no_move : PySem.W.keepIn K (.ref f__law_no_move) = true)
    (a__law_hear : PySem.W.nsIn K mainGlobals "_law_hear" = some (some (.ref f__law_hear)))
    (l__law_hear : K.lookup f__law_hear = some ⟨oc__law_hear, od__law_hear, .func (PySem.W.fnOf "_law_hear" "_law_hear" (defArgs s__law_hear) (defBody s__law_hear) (defScope s__law_hear) .none kV__law_hear dc__law_hear pm__law_hear an__law_hear cd__law_hear ct__law_hear), sl__law_hear⟩)
    (c__law_hear : PySem.W.codeIn K cd__law_hear "_law_hear" = true)
    (k__law_hear : PySem.W.keepIn K (.ref f__law_hear) = true)
    (a__law_moved : PySem.W.nsIn K mainGlobals "_law_moved" = some (some (.ref f__law_moved)))
    (l__law_moved : K.lookup f__law_moved = some ⟨oc__law_moved, od__law_moved, .func (PySem.W.fnOf "_law_moved" "_law_moved" (defArgs s__law_moved) (defBody s__law_moved) (defScope s__law_moved) .none kV__law_moved dc__law_moved pm__law_moved an__law_moved cd__law_moved ct__law_moved), sl__law_moved⟩)
    (c__law_moved : PySem.W.codeIn K cd__law_moved "_law_moved" = true)
    (k__law_moved : PySem.W.keepIn K (.ref f__law_moved) = true)
    (a__law_carried : PySem.W.nsIn K mainGlobals "_law_carried" = some (some (.ref f__law_carried)))
    (l__law_carried : K.lookup f__law_carried = some ⟨oc__law_carried, od__law_carried, .func (PySem.W.fnOf "_law_carried" "_law_carried" (defArgs s__law_carried) (defBody s__law_carried) (defScope s__law_carried) .none kV__law_carried dc__law_carried pm__law_carried an__law_carried cd__law_carried ct__law_carried), sl__law_carried⟩)
    (c__law_carried : PySem.W.codeIn K cd__law_carried "_law_carried" = true)
    (k__law_carried : PySem.W.keepIn K (.ref f__law_carried) = true)
    (a__law_emptied : PySem.W.nsIn K mainGlobals "_law_emptied" = some (some (.ref f__law_emptied)))
    (l__law_emptied : K.lookup f__law_emptied = some ⟨oc__law_emptied, od__law_emptied, .func (PySem.W.fnOf "_law_emptied" "_law_emptied" (defArgs s__law_emptied) (defBody s__law_emptied) (defScope s__law_emptied) .none kV__law_emptied dc__law_emptied pm__law_emptied an__law_emptied cd__law_emptied ct__law_emptied), sl__law_emptied⟩)
    (c__law_emptied : PySem.W.codeIn K cd__law_emptied "_law_emptied" = true)
    (k__law_emptied : PySem.W.keepIn K (.ref f__law_emptied) = true)
    (a__law_settled : PySem.W.nsIn K mainGlobals "_law_settled" = some (some (.ref f__law_settled)))
    (l__law_settled : K.lookup f__law_settled = some ⟨oc__law_settled, od__law_settled, .func (PySem.W.fnOf "_law_settled" "_law_settled" (defArgs s__law_settled) (defBody s__law_settled) (defScope s__law_settled) .none kV__law_settled dc__law_settled pm__law_settled an__law_settled cd__law_settled ct__law_settled), sl__law_settled⟩)
    (c__law_settled : PySem.W.codeIn K cd__law_settled "_law_settled" = true)
    (k__law_settled : PySem.W.keepIn K (.ref f__law_settled) = true)
    (a__law_as_told : PySem.W.nsIn K mainGlobals "_law_as_told" = some (some (.ref f__law_as_told)))
    (l__law_as_told : K.lookup f__law_as_told = some ⟨oc__law_as_told, od__law_as_told, .func (PySem.W.fnOf "_law_as_told" "_law_as_told" (defArgs s__law_as_told) (defBody s__law_as_told) (defScope s__law_as_told) .none kV__law_as_told dc__law_as_told pm__law_as_told an__law_as_told cd__law_as_told ct__law_as_told), sl__law_as_told⟩)
    (c__law_as_told : PySem.W.codeIn K cd__law_as_told "_law_as_told" = true)
    (k__law_as_told : PySem.W.keepIn K (.ref f__law_as_told) = true)
    (a__law_all_have : PySem.W.nsIn K mainGlobals "_law_all_have" = some (some (.ref f__law_all_have)))
    (l__law_all_have : K.lookup f__law_all_have = some ⟨oc__law_all_have, od__law_all_have, .func (PySem.W.fnOf "_law_all_have" "_law_all_have" (defArgs s__law_all_have) (defBody s__law_all_have) (defScope s__law_all_have) .none kV__law_all_have dc__law_all_have pm__law_all_have an__law_all_have cd__law_all_have ct__law_all_have), sl__law_all_have⟩)
    (c__law_all_have : PySem.W.codeIn K cd__law_all_have "_law_all_have" = true)
    (k__law_all_have : PySem.W.keepIn K (.ref f__law_all_have) = true)
    (a__law_done : PySem.W.nsIn K mainGlobals "_law_done" = some (some (.ref f__law_done)))
    (l__law_done : K.lookup f__law_done = some ⟨oc__law_done, od__law_done, .func (PySem.W.fnOf "_law_done" "_law_done" (defArgs s__law_done) (defBody s__law_done) (defScope s__law_done) .none kV__law_done dc__law_done pm__law_done an__law_done cd__law_done ct__law_done), sl__law_done⟩)
    (c__law_done : PySem.W.codeIn K cd__law_done "_law_done" = true)
    (k__law_done : PySem.W.keepIn K (.ref f__law_done) = true)
    (a_law : PySem.W.nsIn K mainGlobals "law" = some (some (.ref f_law)))
    (l_law : K.lookup f_law = some ⟨oc_law, od_law, .func (PySem.W.fnOf "law" "law" (defArgs s_law) (defBody s_law) (defScope s_law) .none kV_law dc_law pm_law an_law cd_law ct_law), sl_law⟩)
    (c_law : PySem.W.codeIn K cd_law "law" = true)
    (k_law : PySem.W.keepIn K (.ref f_law) = true)
    (pg_Log : PySem.W.plainGet K c_Log Str.empty = true)
    (hd_Log : PySem.W.hasDictIn K c_Log = true)
    (po_Log : PySem.W.plainOver K c_Log = true)
    (sa_Log : PySem.W.findIn K (.ref c_Log) "__setattr__" = some (some (.builtin "object.__setattr__")))
    (mk_Log : PySem.W.makesIn K c_Log = true)
    (kc_Log : PySem.W.keepIn K (.ref c_Log) = true)
    (na_Log_since : PySem.W.findIn K (.ref c_Log) "since" = some none)
    (na_Log_base : PySem.W.findIn K (.ref c_Log) "base" = some none)
    (na_Log_kept : PySem.W.findIn K (.ref c_Log) "kept" = some none)
    (pg_Hand : PySem.W.plainGet K c_Hand Str.empty = true)
    (hd_Hand : PySem.W.hasDictIn K c_Hand = true)
    (po_Hand : PySem.W.plainOver K c_Hand = true)
    (sa_Hand : PySem.W.findIn K (.ref c_Hand) "__setattr__" = some (some (.builtin "object.__setattr__")))
    (mk_Hand : PySem.W.makesIn K c_Hand = true)
    (kc_Hand : PySem.W.keepIn K (.ref c_Hand) = true)
    (na_Hand_number : PySem.W.findIn K (.ref c_Hand) "number" = some none)
    (na_Hand_clock : PySem.W.findIn K (.ref c_Hand) "clock" = some none)
    (na_Hand_log : PySem.W.findIn K (.ref c_Hand) "log" = some none)
    (pg_Room : PySem.W.plainGet K c_Room Str.empty = true)
    (hd_Room : PySem.W.hasDictIn K c_Room = true)
    (po_Room : PySem.W.plainOver K c_Room = true)
    (sa_Room : PySem.W.findIn K (.ref c_Room) "__setattr__" = some (some (.builtin "object.__setattr__")))
    (mk_Room : PySem.W.makesIn K c_Room = true)
    (kc_Room : PySem.W.keepIn K (.ref c_Room) = true)
    (na_Room_hands : PySem.W.findIn K (.ref c_Room) "hands" = some none)
    (na_Room_lines : PySem.W.findIn K (.ref c_Room) "lines" = some none)
    (x_TreeError : PySem.W.excIn K c_TreeError [.type "ValueError", .type "Exception", .type "BaseException", .type "object"] "ValueError.__new__" = true)
    (ke_TreeError : PySem.W.keepIn K (.ref c_TreeError) = true)
    (be_TreeError : PySem.W.subIn K (.ref c_TreeError) (.type "BaseException") = some true)
    (te_TreeError : PySem.W.typeIn K (.ref c_TreeError) = some (.type "type"))
    (ic_TreeError : PySem.W.isClsIn K c_TreeError = true)
    (x_NoMove : PySem.W.excIn K c_NoMove [.type "ValueError", .type "Exception", .type "BaseException", .type "object"] "ValueError.__new__" = true)
    (ke_NoMove : PySem.W.keepIn K (.ref c_NoMove) = true)
    (be_NoMove : PySem.W.subIn K (.ref c_NoMove) (.type "BaseException") = some true)
    (te_NoMove : PySem.W.typeIn K (.ref c_NoMove) = some (.type "type"))
    (ic_NoMove : PySem.W.isClsIn K c_NoMove = true)
    (x_TooLate : PySem.W.excIn K c_TooLate [.type "ValueError", .type "Exception", .type "BaseException", .type "object"] "ValueError.__new__" = true)
    (ke_TooLate : PySem.W.keepIn K (.ref c_TooLate) = true)
    (be_TooLate : PySem.W.subIn K (.ref c_TooLate) (.type "BaseException") = some true)
    (te_TooLate : PySem.W.typeIn K (.ref c_TooLate) = some (.type "type"))
    (ic_TooLate : PySem.W.isClsIn K c_TooLate = true)
    (x_Clash : PySem.W.excIn K c_Clash [.type "ValueError", .type "Exception", .type "BaseException", .type "object"] "ValueError.__new__" = true)
    (ke_Clash : PySem.W.keepIn K (.ref c_Clash) = true)
    (be_Clash : PySem.W.subIn K (.ref c_Clash) (.type "BaseException") = some true)
    (te_Clash : PySem.W.typeIn K (.ref c_Clash) = some (.type "type"))
    (ic_Clash : PySem.W.isClsIn K c_Clash = true)
    (x_NoHand : PySem.W.excIn K c_NoHand [.type "ValueError", .type "Exception", .type "BaseException", .type "object"] "ValueError.__new__" = true)
    (ke_NoHand : PySem.W.keepIn K (.ref c_NoHand) = true)
    (be_NoHand : PySem.W.subIn K (.ref c_NoHand) (.type "BaseException") = some true)
    (te_NoHand : PySem.W.typeIn K (.ref c_NoHand) = some (.type "type"))
    (ic_NoHand : PySem.W.isClsIn K c_NoHand = true)
    (eg_TreeError : PySem.W.findIn K (.ref c_TreeError) "__getattribute__" = some (some (.builtin "BaseException.__getattribute__")))
    (ek_TreeError : PySem.W.findIn K (.ref c_TreeError) "__getattr__" = some none)
    (eh_TreeError : PySem.W.hasDictIn K c_TreeError = true)
    (ea_TreeError : PySem.W.findIn K (.ref c_TreeError) "__class__" = some (some (.builtin "object.__class__")))
    (em_TreeError : PySem.W.mroIn K c_TreeError (.type "object") = some true)
    (ev_TreeError : PySem.W.subIn K (.ref c_TreeError) (.type "ValueError") = some true)
    (eg_NoMove : PySem.W.findIn K (.ref c_NoMove) "__getattribute__" = some (some (.builtin "BaseException.__getattribute__")))
    (ek_NoMove : PySem.W.findIn K (.ref c_NoMove) "__getattr__" = some none)
    (eh_NoMove : PySem.W.hasDictIn K c_NoMove = true)
    (ea_NoMove : PySem.W.findIn K (.ref c_NoMove) "__class__" = some (some (.builtin "object.__class__")))
    (em_NoMove : PySem.W.mroIn K c_NoMove (.type "object") = some true)
    (ev_NoMove : PySem.W.subIn K (.ref c_NoMove) (.type "ValueError") = some true)
    (eg_TooLate : PySem.W.findIn K (.ref c_TooLate) "__getattribute__" = some (some (.builtin "BaseException.__getattribute__")))
    (ek_TooLate : PySem.W.findIn K (.ref c_TooLate) "__getattr__" = some none)
    (eh_TooLate : PySem.W.hasDictIn K c_TooLate = true)
    (ea_TooLate : PySem.W.findIn K (.ref c_TooLate) "__class__" = some (some (.builtin "object.__class__")))
    (em_TooLate : PySem.W.mroIn K c_TooLate (.type "object") = some true)
    (ev_TooLate : PySem.W.subIn K (.ref c_TooLate) (.type "ValueError") = some true)
    (eg_Clash : PySem.W.findIn K (.ref c_Clash) "__getattribute__" = some (some (.builtin "BaseException.__getattribute__")))
    (ek_Clash : PySem.W.findIn K (.ref c_Clash) "__getattr__" = some none)
    (eh_Clash : PySem.W.hasDictIn K c_Clash = true)
    (ea_Clash : PySem.W.findIn K (.ref c_Clash) "__class__" = some (some (.builtin "object.__class__")))
    (em_Clash : PySem.W.mroIn K c_Clash (.type "object") = some true)
    (ev_Clash : PySem.W.subIn K (.ref c_Clash) (.type "ValueError") = some true)
    (eg_NoHand : PySem.W.findIn K (.ref c_NoHand) "__getattribute__" = some (some (.builtin "BaseException.__getattribute__")))
    (ek_NoHand : PySem.W.findIn K (.ref c_NoHand) "__getattr__" = some none)
    (eh_NoHand : PySem.W.hasDictIn K c_NoHand = true)
    (ea_NoHand : PySem.W.findIn K (.ref c_NoHand) "__class__" = some (some (.builtin "object.__class__")))
    (em_NoHand : PySem.W.mroIn K c_NoHand (.type "object") = some true)
    (ev_NoHand : PySem.W.subIn K (.ref c_NoHand) (.type "ValueError") = some true)
    (es_ : PySem.W.specialIn K (.builtin "object.__class__") "__get__" = some (some (.builtin "getset_descriptor.__get__")))
    (et_ : PySem.W.takesIn K (.builtin "object.__class__") = some true)
    (nq_TreeError_NoMove : (c_TreeError == c_NoMove) = false)
    (nq_TreeError_TooLate : (c_TreeError == c_TooLate) = false)
    (nq_TreeError_Clash : (c_TreeError == c_Clash) = false)
    (nq_TreeError_NoHand : (c_TreeError == c_NoHand) = false)
    (nq_NoMove_TooLate : (c_NoMove == c_TooLate) = false)
    (nq_NoMove_Clash : (c_NoMove == c_Clash) = false)
    (nq_NoMove_NoHand : (c_NoMove == c_NoHand) = false)
    (nq_TooLate_Clash : (c_TooLate == c_Clash) = false)
    (nq_TooLate_NoHand : (c_TooLate == c_NoHand) = false)
    (nq_Clash_NoHand : (c_Clash == c_NoHand) = false)
    (su_TreeError_TreeError : PySem.W.subIn K (.ref c_TreeError) (.ref c_TreeError) = some true)
    (su_TreeError_NoMove : PySem.W.subIn K (.ref c_TreeError) (.ref c_NoMove) = some false)
    (su_TreeError_TooLate : PySem.W.subIn K (.ref c_TreeError) (.ref c_TooLate) = some false)
    (su_TreeError_Clash : PySem.W.subIn K (.ref c_TreeError) (.ref c_Clash) = some false)
    (su_TreeError_NoHand : PySem.W.subIn K (.ref c_TreeError) (.ref c_NoHand) = some false)
    (su_NoMove_TreeError : PySem.W.subIn K (.ref c_NoMove) (.ref c_TreeError) = some true)
    (su_NoMove_NoMove : PySem.W.subIn K (.ref c_NoMove) (.ref c_NoMove) = some true)
    (su_NoMove_TooLate : PySem.W.subIn K (.ref c_NoMove) (.ref c_TooLate) = some false)
    (su_NoMove_Clash : PySem.W.subIn K (.ref c_NoMove) (.ref c_Clash) = some false)
    (su_NoMove_NoHand : PySem.W.subIn K (.ref c_NoMove) (.ref c_NoHand) = some false)
    (su_TooLate_TreeError : PySem.W.subIn K (.ref c_TooLate) (.ref c_TreeError) = some true)
    (su_TooLate_NoMove : PySem.W.subIn K (.ref c_TooLate) (.ref c_NoMove) = some false)
    (su_TooLate_TooLate : PySem.W.subIn K (.ref c_TooLate) (.ref c_TooLate) = some true)
    (su_TooLate_Clash : PySem.W.subIn K (.ref c_TooLate) (.ref c_Clash) = some false)
    (su_TooLate_NoHand : PySem.W.subIn K (.ref c_TooLate) (.ref c_NoHand) = some false)
    (su_Clash_TreeError : PySem.W.subIn K (.ref c_Clash) (.ref c_TreeError) = some true)
    (su_Clash_NoMove : PySem.W.subIn K (.ref c_Clash) (.ref c_NoMove) = some false)
    (su_Clash_TooLate : PySem.W.subIn K (.ref c_Clash) (.ref c_TooLate) = some false)
    (su_Clash_Clash : PySem.W.subIn K (.ref c_Clash) (.ref c_Clash) = some true)
    (su_Clash_NoHand : PySem.W.subIn K (.ref c_Clash) (.ref c_NoHand) = some false)
    (su_NoHand_TreeError : PySem.W.subIn K (.ref c_NoHand) (.ref c_TreeError) = some true)
    (su_NoHand_NoMove : PySem.W.subIn K (.ref c_NoHand) (.ref c_NoMove) = some false)
    (su_NoHand_TooLate : PySem.W.subIn K (.ref c_NoHand) (.ref c_TooLate) = some false)
    (su_NoHand_Clash : PySem.W.subIn K (.ref c_NoHand) (.ref c_Clash) = some false)
    (su_NoHand_NoHand : PySem.W.subIn K (.ref c_NoHand) (.ref c_NoHand) = some true)
    (g_MOST : PySem.W.nsIn K mainGlobals "MOST" = some (some (.int 60 t_MOST)))
    (n_len : PySem.W.nsIn K mainGlobals "len" = some none)
    (n_isinstance : PySem.W.nsIn K mainGlobals "isinstance" = some none)
    (n_range : PySem.W.nsIn K mainGlobals "range" = some none)
    (n_int : PySem.W.nsIn K mainGlobals "int" = some none)
    (n_bool : PySem.W.nsIn K mainGlobals "bool" = some none)
    (n_list : PySem.W.nsIn K mainGlobals "list" = some none)
    (n_tuple : PySem.W.nsIn K mainGlobals "tuple" = some none)
    (n_dict : PySem.W.nsIn K mainGlobals "dict" = some none)
    (n_max : PySem.W.nsIn K mainGlobals "max" = some none)
    (n_min : PySem.W.nsIn K mainGlobals "min" = some none)
    (n_ValueError : PySem.W.nsIn K mainGlobals "ValueError" = some none)
    : ∃ fd : FuncData, (∀ (s : Shared) (v : Value), BindsTo s fd ⟨[v], []⟩ [("_law_script", v)]) ∧ ∀ base : Heap, K.In base → base.Ns mainGlobals mg → FnOk l.prog w K mg base (L2.CX l.prog w) 10 fa fd ["_law_script"] (spLaw K) := by
  have e := hfa.symm.trans (PySem.W.mg_of X G a_law)
  have e2 : f_law = fa := by injection e with z; injection z with z; exact z.symm
  subst e2
  have F_whole := fun_mk (st := s_whole) l_whole c_whole k_whole
  have F_is_move := fun_mk (st := s_is_move) l_is_move c_is_move k_is_move
  have F_ahead := fun_mk (st := s_ahead) l_ahead c_ahead k_ahead
  have F_way_up := fun_mk (st := s_way_up) l_way_up c_way_up k_way_up
  have F_closes := fun_mk (st := s_closes) l_closes c_closes k_closes
  have F_put := fun_mk (st := s_put) l_put c_put k_put
  have F_Log_init := fun_mk (st := s_Log_init) l_Log_init c_Log_init k_Log_init
  have F_Log_place_of := fun_mk (st := s_Log_place_of) l_Log_place_of c_Log_place_of k_Log_place_of
  have F_Log_hear := fun_mk (st := s_Log_hear) l_Log_hear c_Log_hear k_Log_hear
  have F_Log_moves := fun_mk (st := s_Log_moves) l_Log_moves c_Log_moves k_Log_moves
  have F_Log_tree := fun_mk (st := s_Log_tree) l_Log_tree c_Log_tree k_Log_tree
  have F_Log_steps := fun_mk (st := s_Log_steps) l_Log_steps c_Log_steps k_Log_steps
  have F_Log_settle := fun_mk (st := s_Log_settle) l_Log_settle c_Log_settle k_Log_settle
  have F_Hand_init := fun_mk (st := s_Hand_init) l_Hand_init c_Hand_init k_Hand_init
  have F_Hand_move := fun_mk (st := s_Hand_move) l_Hand_move c_Hand_move k_Hand_move
  have F_Hand_hear := fun_mk (st := s_Hand_hear) l_Hand_hear c_Hand_hear k_Hand_hear
  have F_Hand_tree := fun_mk (st := s_Hand_tree) l_Hand_tree c_Hand_tree k_Hand_tree
  have F_Hand_settle := fun_mk (st := s_Hand_settle) l_Hand_settle c_Hand_settle k_Hand_settle
  have F_Room_init := fun_mk (st := s_Room_init) l_Room_init c_Room_init k_Room_init
  have F_Room_line_of := fun_mk (st := s_Room_line_of) l_Room_line_of c_Room_line_of k_Room_line_of
  have F_Room_move := fun_mk (st := s_Room_move) l_Room_move c_Room_move k_Room_move
  have F_Room_waiting := fun_mk (st := s_Room_waiting) l_Room_waiting c_Room_waiting k_Room_waiting
  have F_Room_carry := fun_mk (st := s_Room_carry) l_Room_carry c_Room_carry k_Room_carry
  have F_Room_double := fun_mk (st := s_Room_double) l_Room_double c_Room_double k_Room_double
  have F_Room_settle := fun_mk (st := s_Room_settle) l_Room_settle c_Room_settle k_Room_settle
  have F__law_whole := fun_mk (st := s__law_whole) l__law_whole c__law_whole k__law_whole
  have F__law_cell_at := fun_mk (st := s__law_cell_at) l__law_cell_at c__law_cell_at k__law_cell_at
  have F__law_name := fun_mk (st := s__law_name) l__law_name c__law_name k__law_name
  have F__law_way := fun_mk (st := s__law_way) l__law_way c__law_way k__law_way
  have F__law_same_tree := fun_mk (st := s__law_same_tree) l__law_same_tree c__law_same_tree k__law_same_tree
  have F__law_same_move := fun_mk (st := s__law_same_move) l__law_same_move c__law_same_move k__law_same_move
  have F__law_same_moves := fun_mk (st := s__law_same_moves) l__law_same_moves c__law_same_moves k__law_same_moves
  have F__law_deeds := fun_mk (st := s__law_deeds) l__law_deeds c__law_deeds k__law_deeds
  have F__law_told := fun_mk (st := s__law_told) l__law_told c__law_told k__law_told
  have F__law_fold := fun_mk (st := s__law_fold) l__law_fold c__law_fold k__law_fold
  have F__law_steps_of := fun_mk (st := s__law_steps_of) l__law_steps_of c__law_steps_of k__law_steps_of
  have F__law_same_steps := fun_mk (st := s__law_same_steps) l__law_same_steps c__law_same_steps k__law_same_steps
  have F__law_steps_asked := fun_mk (st := s__law_steps_asked) l__law_steps_asked c__law_steps_asked k__law_steps_asked
  have F__law_no_hand := fun_mk (st := s__law_no_hand) l__law_no_hand c__law_no_hand k__law_no_hand
  have F__law_no_room := fun_mk (st := s__law_no_room) l__law_no_room c__law_no_room k__law_no_room
  have F__law_no_move := fun_mk (st := s__law_no_move) l__law_no_move c__law_no_move k__law_no_move
  have F__law_hear := fun_mk (st := s__law_hear) l__law_hear c__law_hear k__law_hear
  have F__law_moved := fun_mk (st := s__law_moved) l__law_moved c__law_moved k__law_moved
  have F__law_carried := fun_mk (st := s__law_carried) l__law_carried c__law_carried k__law_carried
  have F__law_emptied := fun_mk (st := s__law_emptied) l__law_emptied c__law_emptied k__law_emptied
  have F__law_settled := fun_mk (st := s__law_settled) l__law_settled c__law_settled k__law_settled
  have F__law_as_told := fun_mk (st := s__law_as_told) l__law_as_told c__law_as_told k__law_as_told
  have F__law_all_have := fun_mk (st := s__law_all_have) l__law_all_have c__law_all_have k__law_all_have
  have F__law_done := fun_mk (st := s__law_done) l__law_done c__law_done k__law_done
  have F_law := fun_mk (st := s_law) l_law c_law k_law
  let a : Ad := {
    f_whole := f_whole, d_whole := PySem.W.fnOf "whole" "whole" (defArgs s_whole) (defBody s_whole) (defScope s_whole) .none kV_whole dc_whole pm_whole an_whole cd_whole ct_whole,
    f_is_move := f_is_move, d_is_move := PySem.W.fnOf "is_move" "is_move" (defArgs s_is_move) (defBody s_is_move) (defScope s_is_move) .none kV_is_move dc_is_move pm_is_move an_is_move cd_is_move ct_is_move,
    f_ahead := f_ahead, d_ahead := PySem.W.fnOf "ahead" "ahead" (defArgs s_ahead) (defBody s_ahead) (defScope s_ahead) .none kV_ahead dc_ahead pm_ahead an_ahead cd_ahead ct_ahead,
    f_way_up := f_way_up, d_way_up := PySem.W.fnOf "way_up" "way_up" (defArgs s_way_up) (defBody s_way_up) (defScope s_way_up) .none kV_way_up dc_way_up pm_way_up an_way_up cd_way_up ct_way_up,
    f_closes := f_closes, d_closes := PySem.W.fnOf "closes" "closes" (defArgs s_closes) (defBody s_closes) (defScope s_closes) .none kV_closes dc_closes pm_closes an_closes cd_closes ct_closes,
    f_put := f_put, d_put := PySem.W.fnOf "put" "put" (defArgs s_put) (defBody s_put) (defScope s_put) .none kV_put dc_put pm_put an_put cd_put ct_put,
    f_Log_init := f_Log_init, d_Log_init := PySem.W.fnOf "__init__" "Log.__init__" (defArgs s_Log_init) (defBody s_Log_init) (defScope s_Log_init) .none kV_Log_init dc_Log_init pm_Log_init an_Log_init cd_Log_init ct_Log_init,
    f_Log_place_of := f_Log_place_of, d_Log_place_of := PySem.W.fnOf "place_of" "Log.place_of" (defArgs s_Log_place_of) (defBody s_Log_place_of) (defScope s_Log_place_of) .none kV_Log_place_of dc_Log_place_of pm_Log_place_of an_Log_place_of cd_Log_place_of ct_Log_place_of,
    f_Log_hear := f_Log_hear, d_Log_hear := PySem.W.fnOf "hear" "Log.hear" (defArgs s_Log_hear) (defBody s_Log_hear) (defScope s_Log_hear) .none kV_Log_hear dc_Log_hear pm_Log_hear an_Log_hear cd_Log_hear ct_Log_hear,
    f_Log_moves := f_Log_moves, d_Log_moves := PySem.W.fnOf "moves" "Log.moves" (defArgs s_Log_moves) (defBody s_Log_moves) (defScope s_Log_moves) .none kV_Log_moves dc_Log_moves pm_Log_moves an_Log_moves cd_Log_moves ct_Log_moves,
    f_Log_tree := f_Log_tree, d_Log_tree := PySem.W.fnOf "tree" "Log.tree" (defArgs s_Log_tree) (defBody s_Log_tree) (defScope s_Log_tree) .none kV_Log_tree dc_Log_tree pm_Log_tree an_Log_tree cd_Log_tree ct_Log_tree,
    f_Log_steps := f_Log_steps, d_Log_steps := PySem.W.fnOf "steps" "Log.steps" (defArgs s_Log_steps) (defBody s_Log_steps) (defScope s_Log_steps) .none kV_Log_steps dc_Log_steps pm_Log_steps an_Log_steps cd_Log_steps ct_Log_steps,
    f_Log_settle := f_Log_settle, d_Log_settle := PySem.W.fnOf "settle" "Log.settle" (defArgs s_Log_settle) (defBody s_Log_settle) (defScope s_Log_settle) .none kV_Log_settle dc_Log_settle pm_Log_settle an_Log_settle cd_Log_settle ct_Log_settle,
    f_Hand_init := f_Hand_init, d_Hand_init := PySem.W.fnOf "__init__" "Hand.__init__" (defArgs s_Hand_init) (defBody s_Hand_init) (defScope s_Hand_init) .none kV_Hand_init dc_Hand_init pm_Hand_init an_Hand_init cd_Hand_init ct_Hand_init,
    f_Hand_move := f_Hand_move, d_Hand_move := PySem.W.fnOf "move" "Hand.move" (defArgs s_Hand_move) (defBody s_Hand_move) (defScope s_Hand_move) .none kV_Hand_move dc_Hand_move pm_Hand_move an_Hand_move cd_Hand_move ct_Hand_move,
    f_Hand_hear := f_Hand_hear, d_Hand_hear := PySem.W.fnOf "hear" "Hand.hear" (defArgs s_Hand_hear) (defBody s_Hand_hear) (defScope s_Hand_hear) .none kV_Hand_hear dc_Hand_hear pm_Hand_hear an_Hand_hear cd_Hand_hear ct_Hand_hear,
    f_Hand_tree := f_Hand_tree, d_Hand_tree := PySem.W.fnOf "tree" "Hand.tree" (defArgs s_Hand_tree) (defBody s_Hand_tree) (defScope s_Hand_tree) .none kV_Hand_tree dc_Hand_tree pm_Hand_tree an_Hand_tree cd_Hand_tree ct_Hand_tree,
    f_Hand_settle := f_Hand_settle, d_Hand_settle := PySem.W.fnOf "settle" "Hand.settle" (defArgs s_Hand_settle) (defBody s_Hand_settle) (defScope s_Hand_settle) .none kV_Hand_settle dc_Hand_settle pm_Hand_settle an_Hand_settle cd_Hand_settle ct_Hand_settle,
    f_Room_init := f_Room_init, d_Room_init := PySem.W.fnOf "__init__" "Room.__init__" (defArgs s_Room_init) (defBody s_Room_init) (defScope s_Room_init) .none kV_Room_init dc_Room_init pm_Room_init an_Room_init cd_Room_init ct_Room_init,
    f_Room_line_of := f_Room_line_of, d_Room_line_of := PySem.W.fnOf "line_of" "Room.line_of" (defArgs s_Room_line_of) (defBody s_Room_line_of) (defScope s_Room_line_of) .none kV_Room_line_of dc_Room_line_of pm_Room_line_of an_Room_line_of cd_Room_line_of ct_Room_line_of,
    f_Room_move := f_Room_move, d_Room_move := PySem.W.fnOf "move" "Room.move" (defArgs s_Room_move) (defBody s_Room_move) (defScope s_Room_move) .none kV_Room_move dc_Room_move pm_Room_move an_Room_move cd_Room_move ct_Room_move,
    f_Room_waiting := f_Room_waiting, d_Room_waiting := PySem.W.fnOf "waiting" "Room.waiting" (defArgs s_Room_waiting) (defBody s_Room_waiting) (defScope s_Room_waiting) .none kV_Room_waiting dc_Room_waiting pm_Room_waiting an_Room_waiting cd_Room_waiting ct_Room_waiting,
    f_Room_carry := f_Room_carry, d_Room_carry := PySem.W.fnOf "carry" "Room.carry" (defArgs s_Room_carry) (defBody s_Room_carry) (defScope s_Room_carry) .none kV_Room_carry dc_Room_carry pm_Room_carry an_Room_carry cd_Room_carry ct_Room_carry,
    f_Room_double := f_Room_double, d_Room_double := PySem.W.fnOf "double" "Room.double" (defArgs s_Room_double) (defBody s_Room_double) (defScope s_Room_double) .none kV_Room_double dc_Room_double pm_Room_double an_Room_double cd_Room_double ct_Room_double,
    f_Room_settle := f_Room_settle, d_Room_settle := PySem.W.fnOf "settle" "Room.settle" (defArgs s_Room_settle) (defBody s_Room_settle) (defScope s_Room_settle) .none kV_Room_settle dc_Room_settle pm_Room_settle an_Room_settle cd_Room_settle ct_Room_settle,
    f__law_whole := f__law_whole, d__law_whole := PySem.W.fnOf "_law_whole" "_law_whole" (defArgs s__law_whole) (defBody s__law_whole) (defScope s__law_whole) .none kV__law_whole dc__law_whole pm__law_whole an__law_whole cd__law_whole ct__law_whole,
    f__law_cell_at := f__law_cell_at, d__law_cell_at := PySem.W.fnOf "_law_cell_at" "_law_cell_at" (defArgs s__law_cell_at) (defBody s__law_cell_at) (defScope s__law_cell_at) .none kV__law_cell_at dc__law_cell_at pm__law_cell_at an__law_cell_at cd__law_cell_at ct__law_cell_at,
    f__law_name := f__law_name, d__law_name := PySem.W.fnOf "_law_name" "_law_name" (defArgs s__law_name) (defBody s__law_name) (defScope s__law_name) .none kV__law_name dc__law_name pm__law_name an__law_name cd__law_name ct__law_name,
    f__law_way := f__law_way, d__law_way := PySem.W.fnOf "_law_way" "_law_way" (defArgs s__law_way) (defBody s__law_way) (defScope s__law_way) .none kV__law_way dc__law_way pm__law_way an__law_way cd__law_way ct__law_way,
    f__law_same_tree := f__law_same_tree, d__law_same_tree := PySem.W.fnOf "_law_same_tree" "_law_same_tree" (defArgs s__law_same_tree) (defBody s__law_same_tree) (defScope s__law_same_tree) .none kV__law_same_tree dc__law_same_tree pm__law_same_tree an__law_same_tree cd__law_same_tree ct__law_same_tree,
    f__law_same_move := f__law_same_move, d__law_same_move := PySem.W.fnOf "_law_same_move" "_law_same_move" (defArgs s__law_same_move) (defBody s__law_same_move) (defScope s__law_same_move) .none kV__law_same_move dc__law_same_move pm__law_same_move an__law_same_move cd__law_same_move ct__law_same_move,
    f__law_same_moves := f__law_same_moves, d__law_same_moves := PySem.W.fnOf "_law_same_moves" "_law_same_moves" (defArgs s__law_same_moves) (defBody s__law_same_moves) (defScope s__law_same_moves) .none kV__law_same_moves dc__law_same_moves pm__law_same_moves an__law_same_moves cd__law_same_moves ct__law_same_moves,
    f__law_deeds := f__law_deeds, d__law_deeds := PySem.W.fnOf "_law_deeds" "_law_deeds" (defArgs s__law_deeds) (defBody s__law_deeds) (defScope s__law_deeds) .none kV__law_deeds dc__law_deeds pm__law_deeds an__law_deeds cd__law_deeds ct__law_deeds,
    f__law_told := f__law_told, d__law_told := PySem.W.fnOf "_law_told" "_law_told" (defArgs s__law_told) (defBody s__law_told) (defScope s__law_told) .none kV__law_told dc__law_told pm__law_told an__law_told cd__law_told ct__law_told,
    f__law_fold := f__law_fold, d__law_fold := PySem.W.fnOf "_law_fold" "_law_fold" (defArgs s__law_fold) (defBody s__law_fold) (defScope s__law_fold) .none kV__law_fold dc__law_fold pm__law_fold an__law_fold cd__law_fold ct__law_fold,
    f__law_steps_of := f__law_steps_of, d__law_steps_of := PySem.W.fnOf "_law_steps_of" "_law_steps_of" (defArgs s__law_steps_of) (defBody s__law_steps_of) (defScope s__law_steps_of) .none kV__law_steps_of dc__law_steps_of pm__law_steps_of an__law_steps_of cd__law_steps_of ct__law_steps_of,
    f__law_same_steps := f__law_same_steps, d__law_same_steps := PySem.W.fnOf "_law_same_steps" "_law_same_steps" (defArgs s__law_same_steps) (defBody s__law_same_steps) (defScope s__law_same_steps) .none kV__law_same_steps dc__law_same_steps pm__law_same_steps an__law_same_steps cd__law_same_steps ct__law_same_steps,
    f__law_steps_asked := f__law_steps_asked, d__law_steps_asked := PySem.W.fnOf "_law_steps_asked" "_law_steps_asked" (defArgs s__law_steps_asked) (defBody s__law_steps_asked) (defScope s__law_steps_asked) .none kV__law_steps_asked dc__law_steps_asked pm__law_steps_asked an__law_steps_asked cd__law_steps_asked ct__law_steps_asked,
    f__law_no_hand := f__law_no_hand, d__law_no_hand := PySem.W.fnOf "_law_no_hand" "_law_no_hand" (defArgs s__law_no_hand) (defBody s__law_no_hand) (defScope s__law_no_hand) .none kV__law_no_hand dc__law_no_hand pm__law_no_hand an__law_no_hand cd__law_no_hand ct__law_no_hand,
    f__law_no_room := f__law_no_room, d__law_no_room := PySem.W.fnOf "_law_no_room" "_law_no_room" (defArgs s__law_no_room) (defBody s__law_no_room) (defScope s__law_no_room) .none kV__law_no_room dc__law_no_room pm__law_no_room an__law_no_room cd__law_no_room ct__law_no_room,
    f__law_no_move := f__law_no_move, d__law_no_move := PySem.W.fnOf "_law_no_move" "_law_no_move" (defArgs s__law_no_move) (defBody s__law_no_move) (defScope s__law_no_move) .none kV__law_no_move dc__law_no_move pm__law_no_move an__law_no_move cd__law_no_move ct__law_no_move,
    f__law_hear := f__law_hear, d__law_hear := PySem.W.fnOf "_law_hear" "_law_hear" (defArgs s__law_hear) (defBody s__law_hear) (defScope s__law_hear) .none kV__law_hear dc__law_hear pm__law_hear an__law_hear cd__law_hear ct__law_hear,
    f__law_moved := f__law_moved, d__law_moved := PySem.W.fnOf "_law_moved" "_law_moved" (defArgs s__law_moved) (defBody s__law_moved) (defScope s__law_moved) .none kV__law_moved dc__law_moved pm__law_moved an__law_moved cd__law_moved ct__law_moved,
    f__law_carried := f__law_carried, d__law_carried := PySem.W.fnOf "_law_carried" "_law_carried" (defArgs s__law_carried) (defBody s__law_carried) (defScope s__law_carried) .none kV__law_carried dc__law_carried pm__law_carried an__law_carried cd__law_carried ct__law_carried,
    f__law_emptied := f__law_emptied, d__law_emptied := PySem.W.fnOf "_law_emptied" "_law_emptied" (defArgs s__law_emptied) (defBody s__law_emptied) (defScope s__law_emptied) .none kV__law_emptied dc__law_emptied pm__law_emptied an__law_emptied cd__law_emptied ct__law_emptied,
    f__law_settled := f__law_settled, d__law_settled := PySem.W.fnOf "_law_settled" "_law_settled" (defArgs s__law_settled) (defBody s__law_settled) (defScope s__law_settled) .none kV__law_settled dc__law_settled pm__law_settled an__law_settled cd__law_settled ct__law_settled,
    f__law_as_told := f__law_as_told, d__law_as_told := PySem.W.fnOf "_law_as_told" "_law_as_told" (defArgs s__law_as_told) (defBody s__law_as_told) (defScope s__law_as_told) .none kV__law_as_told dc__law_as_told pm__law_as_told an__law_as_told cd__law_as_told ct__law_as_told,
    f__law_all_have := f__law_all_have, d__law_all_have := PySem.W.fnOf "_law_all_have" "_law_all_have" (defArgs s__law_all_have) (defBody s__law_all_have) (defScope s__law_all_have) .none kV__law_all_have dc__law_all_have pm__law_all_have an__law_all_have cd__law_all_have ct__law_all_have,
    f__law_done := f__law_done, d__law_done := PySem.W.fnOf "_law_done" "_law_done" (defArgs s__law_done) (defBody s__law_done) (defScope s__law_done) .none kV__law_done dc__law_done pm__law_done an__law_done cd__law_done ct__law_done,
    f_law := f_law, d_law := PySem.W.fnOf "law" "law" (defArgs s_law) (defBody s_law) (defScope s_law) .none kV_law dc_law pm_law an_law cd_law ct_law,
    c_Log := c_Log,
    c_Hand := c_Hand,
    c_Room := c_Room,
    c_TreeError := c_TreeError,
    c_NoMove := c_NoMove,
    c_TooLate := c_TooLate,
    c_Clash := c_Clash,
    c_NoHand := c_NoHand,
    t_MOST := t_MOST }
  have T : Txt K mg a := {
    F_whole := F_whole,
    b_whole := F_whole.binds (ps := ["thing", "least"]) fun _ _ _ _ _ _ us hl => match us, hl with | [_, _], _ => rfl,
    g_whole := PySem.W.mg_of X G a_whole,
    k_whole := k_whole,
    F_is_move := F_is_move,
    b_is_move := F_is_move.binds (ps := ["thing"]) fun _ _ _ _ _ _ us hl => match us, hl with | [_], _ => rfl,
    g_is_move := PySem.W.mg_of X G a_is_move,
    k_is_move := k_is_move,
    F_ahead := F_ahead,
    b_ahead := F_ahead.binds (ps := ["one", "other"]) fun _ _ _ _ _ _ us hl => match us, hl with | [_, _], _ => rfl,
    g_ahead := PySem.W.mg_of X G a_ahead,
    k_ahead := k_ahead,
    F_way_up := F_way_up,
    b_way_up := F_way_up.binds (ps := ["tree", "folder"]) fun _ _ _ _ _ _ us hl => match us, hl with | [_, _], _ => rfl,
    g_way_up := PySem.W.mg_of X G a_way_up,
    k_way_up := k_way_up,
    F_closes := F_closes,
    b_closes := F_closes.binds (ps := ["tree", "folder", "under"]) fun _ _ _ _ _ _ us hl => match us, hl with | [_, _, _], _ => rfl,
    g_closes := PySem.W.mg_of X G a_closes,
    k_closes := k_closes,
    F_put := F_put,
    b_put := F_put.binds (ps := ["tree", "folder", "under"]) fun _ _ _ _ _ _ us hl => match us, hl with | [_, _, _], _ => rfl,
    g_put := PySem.W.mg_of X G a_put,
    k_put := k_put,
    F_Log_init := F_Log_init,
    b_Log_init := F_Log_init.binds (ps := ["self"]) fun _ _ _ _ _ _ us hl => match us, hl with | [_], _ => rfl,
    F_Log_place_of := F_Log_place_of,
    b_Log_place_of := F_Log_place_of.binds (ps := ["self", "move"]) fun _ _ _ _ _ _ us hl => match us, hl with | [_, _], _ => rfl,
    mt_Log_place_of := ⟨a_Log_place_of, i_Log_place_of, k_Log_place_of⟩,
    F_Log_hear := F_Log_hear,
    b_Log_hear := F_Log_hear.binds (ps := ["self", "move"]) fun _ _ _ _ _ _ us hl => match us, hl with | [_, _], _ => rfl,
    mt_Log_hear := ⟨a_Log_hear, i_Log_hear, k_Log_hear⟩,
    F_Log_moves := F_Log_moves,
    b_Log_moves := F_Log_moves.binds (ps := ["self"]) fun _ _ _ _ _ _ us hl => match us, hl with | [_], _ => rfl,
    mt_Log_moves := ⟨a_Log_moves, i_Log_moves, k_Log_moves⟩,
    F_Log_tree := F_Log_tree,
    b_Log_tree := F_Log_tree.binds (ps := ["self"]) fun _ _ _ _ _ _ us hl => match us, hl with | [_], _ => rfl,
    mt_Log_tree := ⟨a_Log_tree, i_Log_tree, k_Log_tree⟩,
    F_Log_steps := F_Log_steps,
    b_Log_steps := F_Log_steps.binds (ps := ["self"]) fun _ _ _ _ _ _ us hl => match us, hl with | [_], _ => rfl,
    mt_Log_steps := ⟨a_Log_steps, i_Log_steps, k_Log_steps⟩,
    F_Log_settle := F_Log_settle,
    b_Log_settle := F_Log_settle.binds (ps := ["self", "time"]) fun _ _ _ _ _ _ us hl => match us, hl with | [_, _], _ => rfl,
    mt_Log_settle := ⟨a_Log_settle, i_Log_settle, k_Log_settle⟩,
    F_Hand_init := F_Hand_init,
    b_Hand_init := F_Hand_init.binds (ps := ["self", "number"]) fun _ _ _ _ _ _ us hl => match us, hl with | [_, _], _ => rfl,
    F_Hand_move := F_Hand_move,
    b_Hand_move := F_Hand_move.binds (ps := ["self", "folder", "under"]) fun _ _ _ _ _ _ us hl => match us, hl with | [_, _, _], _ => rfl,
    mt_Hand_move := ⟨a_Hand_move, i_Hand_move, k_Hand_move⟩,
    F_Hand_hear := F_Hand_hear,
    b_Hand_hear := F_Hand_hear.binds (ps := ["self", "move"]) fun _ _ _ _ _ _ us hl => match us, hl with | [_, _], _ => rfl,
    mt_Hand_hear := ⟨a_Hand_hear, i_Hand_hear, k_Hand_hear⟩,
    F_Hand_tree := F_Hand_tree,
    b_Hand_tree := F_Hand_tree.binds (ps := ["self"]) fun _ _ _ _ _ _ us hl => match us, hl with | [_], _ => rfl,
    mt_Hand_tree := ⟨a_Hand_tree, i_Hand_tree, k_Hand_tree⟩,
    F_Hand_settle := F_Hand_settle,
    b_Hand_settle := F_Hand_settle.binds (ps := ["self", "time"]) fun _ _ _ _ _ _ us hl => match us, hl with | [_, _], _ => rfl,
    mt_Hand_settle := ⟨a_Hand_settle, i_Hand_settle, k_Hand_settle⟩,
    F_Room_init := F_Room_init,
    b_Room_init := F_Room_init.binds (ps := ["self", "many"]) fun _ _ _ _ _ _ us hl => match us, hl with | [_, _], _ => rfl,
    F_Room_line_of := F_Room_line_of,
    b_Room_line_of := F_Room_line_of.binds (ps := ["self", "number"]) fun _ _ _ _ _ _ us hl => match us, hl with | [_, _], _ => rfl,
    mt_Room_line_of := ⟨a_Room_line_of, i_Room_line_of, k_Room_line_of⟩,
    F_Room_move := F_Room_move,
    b_Room_move := F_Room_move.binds (ps := ["self", "number", "folder", "under"]) fun _ _ _ _ _ _ us hl => match us, hl with | [_, _, _, _], _ => rfl,
    mt_Room_move := ⟨a_Room_move, i_Room_move, k_Room_move⟩,
    F_Room_waiting := F_Room_waiting,
    b_Room_waiting := F_Room_waiting.binds (ps := ["self", "number"]) fun _ _ _ _ _ _ us hl => match us, hl with | [_, _], _ => rfl,
    mt_Room_waiting := ⟨a_Room_waiting, i_Room_waiting, k_Room_waiting⟩,
    F_Room_carry := F_Room_carry,
    b_Room_carry := F_Room_carry.binds (ps := ["self", "number", "place"]) fun _ _ _ _ _ _ us hl => match us, hl with | [_, _, _], _ => rfl,
    mt_Room_carry := ⟨a_Room_carry, i_Room_carry, k_Room_carry⟩,
    F_Room_double := F_Room_double,
    b_Room_double := F_Room_double.binds (ps := ["self", "number", "place"]) fun _ _ _ _ _ _ us hl => match us, hl with | [_, _, _], _ => rfl,
    mt_Room_double := ⟨a_Room_double, i_Room_double, k_Room_double⟩,
    F_Room_settle := F_Room_settle,
    b_Room_settle := F_Room_settle.binds (ps := ["self"]) fun _ _ _ _ _ _ us hl => match us, hl with | [_], _ => rfl,
    mt_Room_settle := ⟨a_Room_settle, i_Room_settle, k_Room_settle⟩,
    F__law_whole := F__law_whole,
    b__law_whole := F__law_whole.binds (ps := ["_law_found"]) fun _ _ _ _ _ _ us hl => match us, hl with | [_], _ => rfl,
    g__law_whole := PySem.W.mg_of X G a__law_whole,
    k__law_whole := k__law_whole,
    F__law_cell_at := F__law_cell_at,
    b__law_cell_at := F__law_cell_at.binds (ps := ["_law_script", "_law_k"]) fun _ _ _ _ _ _ us hl => match us, hl with | [_, _], _ => rfl,
    g__law_cell_at := PySem.W.mg_of X G a__law_cell_at,
    k__law_cell_at := k__law_cell_at,
    F__law_name := F__law_name,
    b__law_name := F__law_name.binds (ps := ["_law_k", "_law_cell"]) fun _ _ _ _ _ _ us hl => match us, hl with | [_, _], _ => rfl,
    g__law_name := PySem.W.mg_of X G a__law_name,
    k__law_name := k__law_name,
    F__law_way := F__law_way,
    b__law_way := F__law_way.binds (ps := ["_law_tree", "_law_folder"]) fun _ _ _ _ _ _ us hl => match us, hl with | [_, _], _ => rfl,
    g__law_way := PySem.W.mg_of X G a__law_way,
    k__law_way := k__law_way,
    F__law_same_tree := F__law_same_tree,
    b__law_same_tree := F__law_same_tree.binds (ps := ["_law_found", "_law_due"]) fun _ _ _ _ _ _ us hl => match us, hl with | [_, _], _ => rfl,
    g__law_same_tree := PySem.W.mg_of X G a__law_same_tree,
    k__law_same_tree := k__law_same_tree,
    F__law_same_move := F__law_same_move,
    b__law_same_move := F__law_same_move.binds (ps := ["_law_found", "_law_due"]) fun _ _ _ _ _ _ us hl => match us, hl with | [_, _], _ => rfl,
    g__law_same_move := PySem.W.mg_of X G a__law_same_move,
    k__law_same_move := k__law_same_move,
    F__law_same_moves := F__law_same_moves,
    b__law_same_moves := F__law_same_moves.binds (ps := ["_law_found", "_law_due"]) fun _ _ _ _ _ _ us hl => match us, hl with | [_, _], _ => rfl,
    g__law_same_moves := PySem.W.mg_of X G a__law_same_moves,
    k__law_same_moves := k__law_same_moves,
    F__law_deeds := F__law_deeds,
    b__law_deeds := F__law_deeds.binds (ps := ["_law_script", "_law_few", "_law_many"]) fun _ _ _ _ _ _ us hl => match us, hl with | [_, _, _], _ => rfl,
    g__law_deeds := PySem.W.mg_of X G a__law_deeds,
    k__law_deeds := k__law_deeds,
    F__law_told := F__law_told,
    b__law_told := F__law_told.binds (ps := ["_law_moves", "_law_move"]) fun _ _ _ _ _ _ us hl => match us, hl with | [_, _], _ => rfl,
    g__law_told := PySem.W.mg_of X G a__law_told,
    k__law_told := k__law_told,
    F__law_fold := F__law_fold,
    b__law_fold := F__law_fold.binds (ps := ["_law_tree", "_law_moves"]) fun _ _ _ _ _ _ us hl => match us, hl with | [_, _], _ => rfl,
    g__law_fold := PySem.W.mg_of X G a__law_fold,
    k__law_fold := k__law_fold,
    F__law_steps_of := F__law_steps_of,
    b__law_steps_of := F__law_steps_of.binds (ps := ["_law_base", "_law_moves"]) fun _ _ _ _ _ _ us hl => match us, hl with | [_, _], _ => rfl,
    g__law_steps_of := PySem.W.mg_of X G a__law_steps_of,
    k__law_steps_of := k__law_steps_of,
    F__law_same_steps := F__law_same_steps,
    b__law_same_steps := F__law_same_steps.binds (ps := ["_law_found", "_law_due"]) fun _ _ _ _ _ _ us hl => match us, hl with | [_, _], _ => rfl,
    g__law_same_steps := PySem.W.mg_of X G a__law_same_steps,
    k__law_same_steps := k__law_same_steps,
    F__law_steps_asked := F__law_steps_asked,
    b__law_steps_asked := F__law_steps_asked.binds (ps := ["_law_log", "_law_base", "_law_moves", "_law_held"]) fun _ _ _ _ _ _ us hl => match us, hl with | [_, _, _, _], _ => rfl,
    g__law_steps_asked := PySem.W.mg_of X G a__law_steps_asked,
    k__law_steps_asked := k__law_steps_asked,
    F__law_no_hand := F__law_no_hand,
    b__law_no_hand := F__law_no_hand.binds (ps := ["_law_room", "_law_many", "_law_cell"]) fun _ _ _ _ _ _ us hl => match us, hl with | [_, _, _], _ => rfl,
    g__law_no_hand := PySem.W.mg_of X G a__law_no_hand,
    k__law_no_hand := k__law_no_hand,
    F__law_no_room := F__law_no_room,
    b__law_no_room := F__law_no_room.binds (ps := ["_law_cell"]) fun _ _ _ _ _ _ us hl => match us, hl with | [_], _ => rfl,
    g__law_no_room := PySem.W.mg_of X G a__law_no_room,
    k__law_no_room := k__law_no_room,
    F__law_no_move := F__law_no_move,
    b__law_no_move := F__law_no_move.binds (ps := ["_law_room", "_law_number", "_law_cell"]) fun _ _ _ _ _ _ us hl => match us, hl with | [_, _, _], _ => rfl,
    g__law_no_move := PySem.W.mg_of X G a__law_no_move,
    k__law_no_move := k__law_no_move,
    F__law_hear := F__law_hear,
    b__law_hear := F__law_hear.binds (ps := ["_law_state", "_law_number", "_law_move"]) fun _ _ _ _ _ _ us hl => match us, hl with | [_, _, _], _ => rfl,
    g__law_hear := PySem.W.mg_of X G a__law_hear,
    k__law_hear := k__law_hear,
    F__law_moved := F__law_moved,
    b__law_moved := F__law_moved.binds (ps := ["_law_room", "_law_state", "_law_number", "_law_deed", "_law_cell"]) fun _ _ _ _ _ _ us hl => match us, hl with | [_, _, _, _, _], _ => rfl,
    g__law_moved := PySem.W.mg_of X G a__law_moved,
    k__law_moved := k__law_moved,
    F__law_carried := F__law_carried,
    b__law_carried := F__law_carried.binds (ps := ["_law_room", "_law_state", "_law_number", "_law_place", "_law_twice"]) fun _ _ _ _ _ _ us hl => match us, hl with | [_, _, _, _, _], _ => rfl,
    g__law_carried := PySem.W.mg_of X G a__law_carried,
    k__law_carried := k__law_carried,
    F__law_emptied := F__law_emptied,
    b__law_emptied := F__law_emptied.binds (ps := ["_law_room", "_law_state", "_law_place"]) fun _ _ _ _ _ _ us hl => match us, hl with | [_, _, _], _ => rfl,
    g__law_emptied := PySem.W.mg_of X G a__law_emptied,
    k__law_emptied := k__law_emptied,
    F__law_settled := F__law_settled,
    b__law_settled := F__law_settled.binds (ps := ["_law_room", "_law_state"]) fun _ _ _ _ _ _ us hl => match us, hl with | [_, _], _ => rfl,
    g__law_settled := PySem.W.mg_of X G a__law_settled,
    k__law_settled := k__law_settled,
    F__law_as_told := F__law_as_told,
    b__law_as_told := F__law_as_told.binds (ps := ["_law_room", "_law_state", "_law_number"]) fun _ _ _ _ _ _ us hl => match us, hl with | [_, _, _], _ => rfl,
    g__law_as_told := PySem.W.mg_of X G a__law_as_told,
    k__law_as_told := k__law_as_told,
    F__law_all_have := F__law_all_have,
    b__law_all_have := F__law_all_have.binds (ps := ["_law_room", "_law_state", "_law_due"]) fun _ _ _ _ _ _ us hl => match us, hl with | [_, _, _], _ => rfl,
    g__law_all_have := PySem.W.mg_of X G a__law_all_have,
    k__law_all_have := k__law_all_have,
    F__law_done := F__law_done,
    b__law_done := F__law_done.binds (ps := ["_law_room", "_law_state", "_law_number", "_law_deed", "_law_cell"]) fun _ _ _ _ _ _ us hl => match us, hl with | [_, _, _, _, _], _ => rfl,
    g__law_done := PySem.W.mg_of X G a__law_done,
    k__law_done := k__law_done,
    F_law := F_law,
    b_law := F_law.binds (ps := ["_law_script"]) fun _ _ _ _ _ _ us hl => match us, hl with | [_], _ => rfl,
    g_law := PySem.W.mg_of X G a_law,
    k_law := k_law,
    cl_Log := ⟨pg_Log, hd_Log, po_Log, sa_Log⟩,
    g_Log := PySem.W.mg_of X G aC_Log,
    m_Log := ⟨mk_Log, a_Log_init, i_Log_init, kc_Log⟩,
    na_Log_since := na_Log_since,
    na_Log_base := na_Log_base,
    na_Log_kept := na_Log_kept,
    cl_Hand := ⟨pg_Hand, hd_Hand, po_Hand, sa_Hand⟩,
    g_Hand := PySem.W.mg_of X G aC_Hand,
    m_Hand := ⟨mk_Hand, a_Hand_init, i_Hand_init, kc_Hand⟩,
    na_Hand_number := na_Hand_number,
    na_Hand_clock := na_Hand_clock,
    na_Hand_log := na_Hand_log,
    cl_Room := ⟨pg_Room, hd_Room, po_Room, sa_Room⟩,
    g_Room := PySem.W.mg_of X G aC_Room,
    m_Room := ⟨mk_Room, a_Room_init, i_Room_init, kc_Room⟩,
    na_Room_hands := na_Room_hands,
    na_Room_lines := na_Room_lines,
    g_TreeError := PySem.W.mg_of X G aC_TreeError,
    x_TreeError := x_TreeError,
    ke_TreeError := ke_TreeError,
    be_TreeError := be_TreeError,
    te_TreeError := te_TreeError,
    g_NoMove := PySem.W.mg_of X G aC_NoMove,
    x_NoMove := x_NoMove,
    ke_NoMove := ke_NoMove,
    be_NoMove := be_NoMove,
    te_NoMove := te_NoMove,
    g_TooLate := PySem.W.mg_of X G aC_TooLate,
    x_TooLate := x_TooLate,
    ke_TooLate := ke_TooLate,
    be_TooLate := be_TooLate,
    te_TooLate := te_TooLate,
    g_Clash := PySem.W.mg_of X G aC_Clash,
    x_Clash := x_Clash,
    ke_Clash := ke_Clash,
    be_Clash := be_Clash,
    te_Clash := te_Clash,
    g_NoHand := PySem.W.mg_of X G aC_NoHand,
    x_NoHand := x_NoHand,
    ke_NoHand := ke_NoHand,
    be_NoHand := be_NoHand,
    te_NoHand := te_NoHand,
    ec_TreeError := ⟨eg_TreeError, ek_TreeError, be_TreeError, eh_TreeError, ea_TreeError, es_, et_, em_TreeError⟩,
    kv_TreeError := kit_val ev_TreeError,
    ki_TreeError_TreeError := kit_own ic_TreeError te_TreeError su_TreeError_TreeError (fun _ => rfl),
    ki_TreeError_NoMove := kit_own ic_NoMove te_NoMove su_TreeError_NoMove (fun e => absurd e (by have z := nq_TreeError_NoMove; simpa using z)),
    ki_TreeError_TooLate := kit_own ic_TooLate te_TooLate su_TreeError_TooLate (fun e => absurd e (by have z := nq_TreeError_TooLate; simpa using z)),
    ki_TreeError_Clash := kit_own ic_Clash te_Clash su_TreeError_Clash (fun e => absurd e (by have z := nq_TreeError_Clash; simpa using z)),
    ki_TreeError_NoHand := kit_own ic_NoHand te_NoHand su_TreeError_NoHand (fun e => absurd e (by have z := nq_TreeError_NoHand; simpa using z)),
    ec_NoMove := ⟨eg_NoMove, ek_NoMove, be_NoMove, eh_NoMove, ea_NoMove, es_, et_, em_NoMove⟩,
    kv_NoMove := kit_val ev_NoMove,
    ki_NoMove_TreeError := kit_own ic_TreeError te_TreeError su_NoMove_TreeError (fun _ => rfl),
    ki_NoMove_NoMove := kit_own ic_NoMove te_NoMove su_NoMove_NoMove (fun _ => rfl),
    ki_NoMove_TooLate := kit_own ic_TooLate te_TooLate su_NoMove_TooLate (fun e => absurd e (by have z := nq_NoMove_TooLate; simpa using z)),
    ki_NoMove_Clash := kit_own ic_Clash te_Clash su_NoMove_Clash (fun e => absurd e (by have z := nq_NoMove_Clash; simpa using z)),
    ki_NoMove_NoHand := kit_own ic_NoHand te_NoHand su_NoMove_NoHand (fun e => absurd e (by have z := nq_NoMove_NoHand; simpa using z)),
    ec_TooLate := ⟨eg_TooLate, ek_TooLate, be_TooLate, eh_TooLate, ea_TooLate, es_, et_, em_TooLate⟩,
    kv_TooLate := kit_val ev_TooLate,
    ki_TooLate_TreeError := kit_own ic_TreeError te_TreeError su_TooLate_TreeError (fun _ => rfl),
    ki_TooLate_NoMove := kit_own ic_NoMove te_NoMove su_TooLate_NoMove (fun e => absurd e.symm (by have z := nq_NoMove_TooLate; simpa using z)),
    ki_TooLate_TooLate := kit_own ic_TooLate te_TooLate su_TooLate_TooLate (fun _ => rfl),
    ki_TooLate_Clash := kit_own ic_Clash te_Clash su_TooLate_Clash (fun e => absurd e (by have z := nq_TooLate_Clash; simpa using z)),
    ki_TooLate_NoHand := kit_own ic_NoHand te_NoHand su_TooLate_NoHand (fun e => absurd e (by have z := nq_TooLate_NoHand; simpa using z)),
    ec_Clash := ⟨eg_Clash, ek_Clash, be_Clash, eh_Clash, ea_Clash, es_, et_, em_Clash⟩,
    kv_Clash := kit_val ev_Clash,
    ki_Clash_TreeError := kit_own ic_TreeError te_TreeError su_Clash_TreeError (fun _ => rfl),
    ki_Clash_NoMove := kit_own ic_NoMove te_NoMove su_Clash_NoMove (fun e => absurd e.symm (by have z := nq_NoMove_Clash; simpa using z)),
    ki_Clash_TooLate := kit_own ic_TooLate te_TooLate su_Clash_TooLate (fun e => absurd e.symm (by have z := nq_TooLate_Clash; simpa using z)),
    ki_Clash_Clash := kit_own ic_Clash te_Clash su_Clash_Clash (fun _ => rfl),
    ki_Clash_NoHand := kit_own ic_NoHand te_NoHand su_Clash_NoHand (fun e => absurd e (by have z := nq_Clash_NoHand; simpa using z)),
    ec_NoHand := ⟨eg_NoHand, ek_NoHand, be_NoHand, eh_NoHand, ea_NoHand, es_, et_, em_NoHand⟩,
    kv_NoHand := kit_val ev_NoHand,
    ki_NoHand_TreeError := kit_own ic_TreeError te_TreeError su_NoHand_TreeError (fun _ => rfl),
    ki_NoHand_NoMove := kit_own ic_NoMove te_NoMove su_NoHand_NoMove (fun e => absurd e.symm (by have z := nq_NoMove_NoHand; simpa using z)),
    ki_NoHand_TooLate := kit_own ic_TooLate te_TooLate su_NoHand_TooLate (fun e => absurd e.symm (by have z := nq_TooLate_NoHand; simpa using z)),
    ki_NoHand_Clash := kit_own ic_Clash te_Clash su_NoHand_Clash (fun e => absurd e.symm (by have z := nq_Clash_NoHand; simpa using z)),
    ki_NoHand_NoHand := kit_own ic_NoHand te_NoHand su_NoHand_NoHand (fun _ => rfl),
    ex_TreeError_TreeError := exm_at be_TreeError ic_TreeError te_TreeError su_TreeError_TreeError,
    ex_TreeError_NoMove := exm_at be_NoMove ic_NoMove te_NoMove su_TreeError_NoMove,
    ex_TreeError_TooLate := exm_at be_TooLate ic_TooLate te_TooLate su_TreeError_TooLate,
    ex_TreeError_Clash := exm_at be_Clash ic_Clash te_Clash su_TreeError_Clash,
    ex_TreeError_NoHand := exm_at be_NoHand ic_NoHand te_NoHand su_TreeError_NoHand,
    ex_NoMove_TreeError := exm_at be_TreeError ic_TreeError te_TreeError su_NoMove_TreeError,
    ex_NoMove_NoMove := exm_at be_NoMove ic_NoMove te_NoMove su_NoMove_NoMove,
    ex_NoMove_TooLate := exm_at be_TooLate ic_TooLate te_TooLate su_NoMove_TooLate,
    ex_NoMove_Clash := exm_at be_Clash ic_Clash te_Clash su_NoMove_Clash,
    ex_NoMove_NoHand := exm_at be_NoHand ic_NoHand te_NoHand su_NoMove_NoHand,
    ex_TooLate_TreeError := exm_at be_TreeError ic_TreeError te_TreeError su_TooLate_TreeError,
    ex_TooLate_NoMove := exm_at be_NoMove ic_NoMove te_NoMove su_TooLate_NoMove,
    ex_TooLate_TooLate := exm_at be_TooLate ic_TooLate te_TooLate su_TooLate_TooLate,
    ex_TooLate_Clash := exm_at be_Clash ic_Clash te_Clash su_TooLate_Clash,
    ex_TooLate_NoHand := exm_at be_NoHand ic_NoHand te_NoHand su_TooLate_NoHand,
    ex_Clash_TreeError := exm_at be_TreeError ic_TreeError te_TreeError su_Clash_TreeError,
    ex_Clash_NoMove := exm_at be_NoMove ic_NoMove te_NoMove su_Clash_NoMove,
    ex_Clash_TooLate := exm_at be_TooLate ic_TooLate te_TooLate su_Clash_TooLate,
    ex_Clash_Clash := exm_at be_Clash ic_Clash te_Clash su_Clash_Clash,
    ex_Clash_NoHand := exm_at be_NoHand ic_NoHand te_NoHand su_Clash_NoHand,
    ex_NoHand_TreeError := exm_at be_TreeError ic_TreeError te_TreeError su_NoHand_TreeError,
    ex_NoHand_NoMove := exm_at be_NoMove ic_NoMove te_NoMove su_NoHand_NoMove,
    ex_NoHand_TooLate := exm_at be_TooLate ic_TooLate te_TooLate su_NoHand_TooLate,
    ex_NoHand_Clash := exm_at be_Clash ic_Clash te_Clash su_NoHand_Clash,
    ex_NoHand_NoHand := exm_at be_NoHand ic_NoHand te_NoHand su_NoHand_NoHand,
    g_MOST := PySem.W.mg_of X G g_MOST,
    n_len := PySem.W.mg_none_of X G n_len,
    n_isinstance := PySem.W.mg_none_of X G n_isinstance,
    n_range := PySem.W.mg_none_of X G n_range,
    n_int := PySem.W.mg_none_of X G n_int,
    n_bool := PySem.W.mg_none_of X G n_bool,
    n_list := PySem.W.mg_none_of X G n_list,
    n_tuple := PySem.W.mg_none_of X G n_tuple,
    n_dict := PySem.W.mg_none_of X G n_dict,
    n_max := PySem.W.mg_none_of X G n_max,
    n_min := PySem.W.mg_none_of X G n_min,
    n_ValueError := PySem.W.mg_none_of X G n_ValueError }
  exact ⟨a.d_law, fun s v => .of_eq rfl, fun base _ _ => ok_law T⟩
theorem walk {l : PySem.W.OpenLaw} {q : Program} {loose : List Str} {XP : (Str → Option Value) → Heap → Prop} {YP : World → Heap → Prop} {d : DefRec} {K : Params → PySem.W.Frag} (hn : l.most = some 63) (hdf : d.params.defaults = [])
    (hY : ∀ (w : World) (h : Heap), YP w h → (K w.params).In h)
    (F : ∀ (w : World) (mg : Str → Option Value) (fa : Addr) (h : Heap), (K w.params).In h → h.Ns mainGlobals mg → mg d.name = some (.ref fa) →
      ∃ fd : FuncData, (∀ (s : Shared) (u : Value), BindsTo s fd ⟨[u], []⟩ [("_law_script", u)]) ∧ ∀ base : Heap, (K w.params).In base → base.Ns mainGlobals mg → FnOk l.prog w (K w.params) mg base (L2.CX l.prog w) 10 fa fd ["_law_script"] (spLaw (K w.params))) :
    PySem.W.WalkO q loose XP YP l.row.toRowW d [] (fun f vs => PySem.call f vs) :=
  L2.walk_of (n := 63) (k := 10) (x := "_law_script") (CX := fun w => L2.CX l.prog w) (sp := fun w => spLaw (K w.params)) hn (by decide) hdf ⟨rfl, by decide, by decide⟩ hY F (fun _ _ a ns hl _ hS => ⟨a, ns, rfl, hS, hl, fun _ => rfl⟩) fun _ _ _ _ _ z => cx_none z
end Tm
open PySem PySem.W PyProof.Rows
set_option maxRecDepth 100000 in
set_option maxHeartbeats 0 in
theorem PySem.Challenge.cw_treemove_k14_whole_room_holds : PySem.Challenge.rw_treemove_k14_whole_room.Holds := by
  w_on; o_law; k_head; (case hw => w_witness2)
  k_fill
  refine Tm.walk (l := PySem.Challenge.rw_treemove_k14_whole_room) rfl rfl (fun w h Y => PySem.W.kIn_of Y) ?F
  case F =>
    intro w mg fa h KX G hmg
    refine' Tm.all_mk KX G hmg ?aC_Log ?aC_Hand ?aC_Room ?aC_TreeError ?aC_NoMove ?aC_TooLate ?aC_Clash ?aC_NoHand ?a_whole ?l_whole ?c_whole ?k_whole ?a_is_move ?l_is_move ?c_is_move ?k_is_move ?a_ahead ?l_ahead ?c_ahead ?k_ahead ?a_way_up ?l_way_up ?c_way_up ?k_way_up ?a_closes ?l_closes ?c_closes ?k_closes ?a_put ?l_put ?c_put ?k_put ?a_Log_init ?i_Log_init ?l_Log_init ?c_Log_init ?k_Log_init ?a_Log_place_of ?i_Log_place_of ?l_Log_place_of ?c_Log_place_of ?k_Log_place_of ?a_Log_hear ?i_Log_hear ?l_Log_hear ?c_Log_hear ?k_Log_hear ?a_Log_moves ?i_Log_moves ?l_Log_moves ?c_Log_moves ?k_Log_moves ?a_Log_tree ?i_Log_tree ?l_Log_tree ?c_Log_tree ?k_Log_tree ?a_Log_steps ?i_Log_steps ?l_Log_steps ?c_Log_steps ?k_Log_steps ?a_Log_settle ?i_Log_settle ?l_Log_settle ?c_Log_settle ?k_Log_settle ?a_Hand_init ?i_Hand_init ?l_Hand_init ?c_Hand_init ?k_Hand_init ?a_Hand_move ?i_Hand_move ?l_Hand_move ?c_Hand_move ?k_Hand_move ?a_Hand_hear ?i_Hand_hear ?l_Hand_hear ?c_Hand_hear ?k_Hand_hear ?a_Hand_tree ?i_Hand_tree ?l_Hand_tree ?c_Hand_tree ?k_Hand_tree ?a_Hand_settle ?i_Hand_settle ?l_Hand_settle ?c_Hand_settle ?k_Hand_settle ?a_Room_init ?i_Room_init ?l_Room_init ?c_Room_init ?k_Room_init ?a_Room_line_of ?i_Room_line_of ?l_Room_line_of ?c_Room_line_of ?k_Room_line_of ?a_Room_move ?i_Room_move ?l_Room_move ?c_Room_move ?k_Room_move ?a_Room_waiting ?i_Room_waiting ?l_Room_waiting ?c_Room_waiting ?k_Room_waiting ?a_Room_carry ?i_Room_carry ?l_Room_carry ?c_Room_carry ?k_Room_carry ?a_Room_double ?i_Room_double ?l_Room_double ?c_Room_double ?k_Room_double ?a_Room_settle ?i_Room_settle ?l_Room_settle ?c_Room_settle ?k_Room_settle ?a__law_whole ?l__law_whole ?c__law_whole ?k__law_whole ?a__law_cell_at ?l__law_cell_at ?c__law_cell_at ?k__law_cell_at ?a__law_name ?l__law_name ?c__law_name ?k__law_name ?a__law_way ?l__law_way ?c__law_way ?k__law_way ?a__law_same_tree ?l__law_same_tree ?c__law_same_tree ?k__law_same_tree ?a__law_same_move ?l__law_same_move ?c__law_same_move ?k__law_same_move ?a__law_same_moves ?l__law_same_moves ?c__law_same_moves ?k__law_same_moves ?a__law_deeds ?l__law_deeds ?c__law_deeds ?k__law_deeds ?a__law_told ?l__law_told ?c__law_told ?k__law_told ?a__law_fold ?l__law_fold ?c__law_fold ?k__law_fold ?a__law_steps_of ?l__law_steps_of ?c__law_steps_of ?k__law_steps_of ?a__law_same_steps ?l__law_same_steps ?c__law_same_steps ?k__law_same_steps ?a__law_steps_asked ?l__law_steps_asked ?c__law_steps_asked ?k__law_steps_asked ?a__law_no_hand ?l__law_no_hand ?c__law_no_hand ?k__law_no_hand ?a__law_no_room ?l__law_no_room ?c__law_no_room ?k__law_no_room ?a__law_no_move ?l__law_no_move ?c__law_no_move ?k__law_no_move ?a__law_hear ?l__law_hear ?c__law_hear ?k__law_hear ?a__law_moved ?l__law_moved ?c__law_moved ?k__law_moved ?a__law_carried ?l__law_carried ?c__law_carried ?k__law_carried ?a__law_emptied ?l__law_emptied ?c__law_emptied ?k__law_emptied ?a__law_settled ?l__law_settled ?c__law_settled ?k__law_settled ?a__law_as_told ?l__law_as_told ?c__law_as_told ?k__law_as_told ?a__law_all_have ?l__law_all_have ?c__law_all_have ?k__law_all_have ?a__law_done ?l__law_done ?c__law_done ?k__law_done ?a_law ?l_law ?c_law ?k_law ?pg_Log ?hd_Log ?po_Log ?sa_Log ?mk_Log ?kc_Log ?na_Log_since ?na_Log_base ?na_Log_kept ?pg_Hand ?hd_Hand ?po_Hand ?sa_Hand ?mk_Hand ?kc_Hand ?na_Hand_number ?na_Hand_clock ?na_Hand_log ?pg_Room ?hd_Room ?po_Room ?sa_Room ?mk_Room ?kc_Room ?na_Room_hands ?na_Room_lines ?x_TreeError ?ke_TreeError ?be_TreeError ?te_TreeError ?ic_TreeError ?x_NoMove ?ke_NoMove ?be_NoMove ?te_NoMove ?ic_NoMove ?x_TooLate ?ke_TooLate ?be_TooLate ?te_TooLate ?ic_TooLate ?x_Clash ?ke_Clash ?be_Clash ?te_Clash ?ic_Clash ?x_NoHand ?ke_NoHand ?be_NoHand ?te_NoHand ?ic_NoHand ?eg_TreeError ?ek_TreeError ?eh_TreeError ?ea_TreeError ?em_TreeError ?ev_TreeError ?eg_NoMove ?ek_NoMove ?eh_NoMove ?ea_NoMove ?em_NoMove ?ev_NoMove ?eg_TooLate ?ek_TooLate ?eh_TooLate ?ea_TooLate ?em_TooLate ?ev_TooLate ?eg_Clash ?ek_Clash ?eh_Clash ?ea_Clash ?em_Clash ?ev_Clash ?eg_NoHand ?ek_NoHand ?eh_NoHand ?ea_NoHand ?em_NoHand ?ev_NoHand ?es_ ?et_ ?nq_TreeError_NoMove ?nq_TreeError_TooLate ?nq_TreeError_Clash ?nq_TreeError_NoHand ?nq_NoMove_TooLate ?nq_NoMove_Clash ?nq_NoMove_NoHand ?nq_TooLate_Clash ?nq_TooLate_NoHand ?nq_Clash_NoHand ?su_TreeError_TreeError ?su_TreeError_NoMove ?su_TreeError_TooLate ?su_TreeError_Clash ?su_TreeError_NoHand ?su_NoMove_TreeError ?su_NoMove_NoMove ?su_NoMove_TooLate ?su_NoMove_Clash ?su_NoMove_NoHand ?su_TooLate_TreeError ?su_TooLate_NoMove ?su_TooLate_TooLate ?su_TooLate_Clash ?su_TooLate_NoHand ?su_Clash_TreeError ?su_Clash_NoMove ?su_Clash_TooLate ?su_Clash_Clash ?su_Clash_NoHand ?su_NoHand_TreeError ?su_NoHand_NoMove ?su_NoHand_TooLate ?su_NoHand_Clash ?su_NoHand_NoHand ?g_MOST ?n_len ?n_isinstance ?n_range ?n_int ?n_bool ?n_list ?n_tuple ?n_dict ?n_max ?n_min ?n_ValueError
    (case aC_Log => k_is)
    (case aC_Hand => k_is)
    (case aC_Room => k_is)
    (case aC_TreeError => k_is)
    (case aC_NoMove => k_is)
    (case aC_TooLate => k_is)
    (case aC_Clash => k_is)
    (case aC_NoHand => k_is)
    (case a_whole => k_is)
    (case l_whole => k_is)
    (case c_whole => k_is)
    (case k_whole => k_is)
    (case a_is_move => k_is)
    (case l_is_move => k_is)
    (case c_is_move => k_is)
    (case k_is_move => k_is)
    (case a_ahead => k_is)
    (case l_ahead => k_is)
    (case c_ahead => k_is)
    (case k_ahead => k_is)
    (case a_way_up => k_is)
    (case l_way_up => k_is)
    (case c_way_up => k_is)
    (case k_way_up => k_is)
    (case a_closes => k_is)
    (case l_closes => k_is)
    (case c_closes => k_is)
    (case k_closes => k_is)
    (case a_put => k_is)
    (case l_put => k_is)
    (case c_put => k_is)
    (case k_put => k_is)
    (case a_Log_init => k_is)
    (case i_Log_init => k_is)
    (case l_Log_init => k_is)
    (case c_Log_init => k_is)
    (case k_Log_init => k_is)
    (case a_Log_place_of => k_is)
    (case i_Log_place_of => k_is)
    (case l_Log_place_of => k_is)
    (case c_Log_place_of => k_is)
    (case k_Log_place_of => k_is)
    (case a_Log_hear => k_is)
    (case i_Log_hear => k_is)
    (case l_Log_hear => k_is)
    (case c_Log_hear => k_is)
    (case k_Log_hear => k_is)
    (case a_Log_moves => k_is)
    (case i_Log_moves => k_is)
    (case l_Log_moves => k_is)
    (case c_Log_moves => k_is)
    (case k_Log_moves => k_is)
    (case a_Log_tree => k_is)
    (case i_Log_tree => k_is)
    (case l_Log_tree => k_is)
    (case c_Log_tree => k_is)
    (case k_Log_tree => k_is)
    (case a_Log_steps => k_is)
    (case i_Log_steps => k_is)
    (case l_Log_steps => k_is)
    (case c_Log_steps => k_is)
    (case k_Log_steps => k_is)
    (case a_Log_settle => k_is)
    (case i_Log_settle => k_is)
    (case l_Log_settle => k_is)
    (case c_Log_settle => k_is)
    (case k_Log_settle => k_is)
    (case a_Hand_init => k_is)
    (case i_Hand_init => k_is)
    (case l_Hand_init => k_is)
    (case c_Hand_init => k_is)
    (case k_Hand_init => k_is)
    (case a_Hand_move => k_is)
    (case i_Hand_move => k_is)
    (case l_Hand_move => k_is)
    (case c_Hand_move => k_is)
    (case k_Hand_move => k_is)
    (case a_Hand_hear => k_is)
    (case i_Hand_hear => k_is)
    (case l_Hand_hear => k_is)
    (case c_Hand_hear => k_is)
    (case k_Hand_hear => k_is)
    (case a_Hand_tree => k_is)
    (case i_Hand_tree => k_is)
    (case l_Hand_tree => k_is)
    (case c_Hand_tree => k_is)
    (case k_Hand_tree => k_is)
    (case a_Hand_settle => k_is)
    (case i_Hand_settle => k_is)
    (case l_Hand_settle => k_is)
    (case c_Hand_settle => k_is)
    (case k_Hand_settle => k_is)
    (case a_Room_init => k_is)
    (case i_Room_init => k_is)
    (case l_Room_init => k_is)
    (case c_Room_init => k_is)
    (case k_Room_init => k_is)
    (case a_Room_line_of => k_is)
    (case i_Room_line_of => k_is)
    (case l_Room_line_of => k_is)
    (case c_Room_line_of => k_is)
    (case k_Room_line_of => k_is)
    (case a_Room_move => k_is)
    (case i_Room_move => k_is)
    (case l_Room_move => k_is)
    (case c_Room_move => k_is)
    (case k_Room_move => k_is)
    (case a_Room_waiting => k_is)
    (case i_Room_waiting => k_is)
    (case l_Room_waiting => k_is)
    (case c_Room_waiting => k_is)
    (case k_Room_waiting => k_is)
    (case a_Room_carry => k_is)
    (case i_Room_carry => k_is)
    (case l_Room_carry => k_is)
    (case c_Room_carry => k_is)
    (case k_Room_carry => k_is)
    (case a_Room_double => k_is)
    (case i_Room_double => k_is)
    (case l_Room_double => k_is)
    (case c_Room_double => k_is)
    (case k_Room_double => k_is)
    (case a_Room_settle => k_is)
    (case i_Room_settle => k_is)
    (case l_Room_settle => k_is)
    (case c_Room_settle => k_is)
    (case k_Room_settle => k_is)
    (case a__law_whole => k_is)
    (case l__law_whole => k_is)
    (case c__law_whole => k_is)
    (case k__law_whole => k_is)
    (case a__law_cell_at => k_is)
    (case l__law_cell_at => k_is)
    (case c__law_cell_at => k_is)
    (case k__law_cell_at => k_is)
    (case a__law_name => k_is)
    (case l__law_name => k_is)
    (case c__law_name => k_is)
    (case k__law_name => k_is)
    (case a__law_way => k_is)
    (case l__law_way => k_is)
    (case c__law_way => k_is)
    (case k__law_way => k_is)
    (case a__law_same_tree => k_is)
    (case l__law_same_tree => k_is)
    (case c__law_same_tree => k_is)
    (case k__law_same_tree => k_is)
    (case a__law_same_move => k_is)
    (case l__law_same_move => k_is)
    (case c__law_same_move => k_is)
    (case k__law_same_move => k_is)
    (case a__law_same_moves => k_is)
    (case l__law_same_moves => k_is)
    (case c__law_same_moves => k_is)
    (case k__law_same_moves => k_is)
    (case a__law_deeds => k_is)
    (case l__law_deeds => k_is)
    (case c__law_deeds => k_is)
    (case k__law_deeds => k_is)
    (case a__law_told => k_is)
    (case l__law_told => k_is)
    (case c__law_told => k_is)
    (case k__law_told => k_is)
    (case a__law_fold => k_is)
    (case l__law_fold => k_is)
    (case c__law_fold => k_is)
    (case k__law_fold => k_is)
    (case a__law_steps_of => k_is)
    (case l__law_steps_of => k_is)
    (case c__law_steps_of => k_is)
    (case k__law_steps_of => k_is)
    (case a__law_same_steps => k_is)
    (case l__law_same_steps => k_is)
    (case c__law_same_steps => k_is)
    (case k__law_same_steps => k_is)
    (case a__law_steps_asked => k_is)
    (case l__law_steps_asked => k_is)
    (case c__law_steps_asked => k_is)
    (case k__law_steps_asked => k_is)
    (case a__law_no_hand => k_is)
    (case l__law_no_hand => k_is)
    (case c__law_no_hand => k_is)
    (case k__law_no_hand => k_is)
    (case a__law_no_room => k_is)
    (case l__law_no_room => k_is)
    (case c__law_no_room => k_is)
    (case k__law_no_room => k_is)
    (case a__law_no_move => k_is)
    (case l__law_no_move => k_is)
    (case c__law_no_move => k_is)
    (case k__law_no_move => k_is)
    (case a__law_hear => k_is)
    (case l__law_hear => k_is)
    (case c__law_hear => k_is)
    (case k__law_hear => k_is)
    (case a__law_moved => k_is)
    (case l__law_moved => k_is)
    (case c__law_moved => k_is)
    (case k__law_moved => k_is)
    (case a__law_carried => k_is)
    (case l__law_carried => k_is)
    (case c__law_carried => k_is)
    (case k__law_carried => k_is)
    (case a__law_emptied => k_is)
    (case l__law_emptied => k_is)
    (case c__law_emptied => k_is)
    (case k__law_emptied => k_is)
    (case a__law_settled => k_is)
    (case l__law_settled => k_is)
    (case c__law_settled => k_is)
    (case k__law_settled => k_is)
    (case a__law_as_told => k_is)
    (case l__law_as_told => k_is)
    (case c__law_as_told => k_is)
    (case k__law_as_told => k_is)
    (case a__law_all_have => k_is)
    (case l__law_all_have => k_is)
    (case c__law_all_have => k_is)
    (case k__law_all_have => k_is)
    (case a__law_done => k_is)
    (case l__law_done => k_is)
    (case c__law_done => k_is)
    (case k__law_done => k_is)
    (case a_law => k_is)
    (case l_law => k_is)
    (case c_law => k_is)
    (case k_law => k_is)
    (case pg_Log => k_is)
    (case hd_Log => k_is)
    (case po_Log => k_is)
    (case sa_Log => k_is)
    (case mk_Log => k_is)
    (case kc_Log => k_is)
    (case na_Log_since => k_is)
    (case na_Log_base => k_is)
    (case na_Log_kept => k_is)
    (case pg_Hand => k_is)
    (case hd_Hand => k_is)
    (case po_Hand => k_is)
    (case sa_Hand => k_is)
    (case mk_Hand => k_is)
    (case kc_Hand => k_is)
    (case na_Hand_number => k_is)
    (case na_Hand_clock => k_is)
    (case na_Hand_log => k_is)
    (case pg_Room => k_is)
    (case hd_Room => k_is)
    (case po_Room => k_is)
    (case sa_Room => k_is)
    (case mk_Room => k_is)
    (case kc_Room => k_is)
    (case na_Room_hands => k_is)
    (case na_Room_lines => k_is)
    (case x_TreeError => k_exc)
    (case ke_TreeError => k_is)
    (case be_TreeError => k_is)
    (case te_TreeError => k_is)
    (case ic_TreeError => k_is)
    (case x_NoMove => k_exc)
    (case ke_NoMove => k_is)
    (case be_NoMove => k_is)
    (case te_NoMove => k_is)
    (case ic_NoMove => k_is)
    (case x_TooLate => k_exc)
    (case ke_TooLate => k_is)
    (case be_TooLate => k_is)
    (case te_TooLate => k_is)
    (case ic_TooLate => k_is)
    (case x_Clash => k_exc)
    (case ke_Clash => k_is)
    (case be_Clash => k_is)
    (case te_Clash => k_is)
    (case ic_Clash => k_is)
    (case x_NoHand => k_exc)
    (case ke_NoHand => k_is)
    (case be_NoHand => k_is)
    (case te_NoHand => k_is)
    (case ic_NoHand => k_is)
    (case eg_TreeError => k_is)
    (case ek_TreeError => k_is)
    (case eh_TreeError => k_is)
    (case ea_TreeError => k_is)
    (case em_TreeError => k_is)
    (case ev_TreeError => k_is)
    (case eg_NoMove => k_is)
    (case ek_NoMove => k_is)
    (case eh_NoMove => k_is)
    (case ea_NoMove => k_is)
    (case em_NoMove => k_is)
    (case ev_NoMove => k_is)
    (case eg_TooLate => k_is)
    (case ek_TooLate => k_is)
    (case eh_TooLate => k_is)
    (case ea_TooLate => k_is)
    (case em_TooLate => k_is)
    (case ev_TooLate => k_is)
    (case eg_Clash => k_is)
    (case ek_Clash => k_is)
    (case eh_Clash => k_is)
    (case ea_Clash => k_is)
    (case em_Clash => k_is)
    (case ev_Clash => k_is)
    (case eg_NoHand => k_is)
    (case ek_NoHand => k_is)
    (case eh_NoHand => k_is)
    (case ea_NoHand => k_is)
    (case em_NoHand => k_is)
    (case ev_NoHand => k_is)
    (case es_ => k_is)
    (case et_ => k_is)
    (case nq_TreeError_NoMove => first | rfl | decide)
    (case nq_TreeError_TooLate => first | rfl | decide)
    (case nq_TreeError_Clash => first | rfl | decide)
    (case nq_TreeError_NoHand => first | rfl | decide)
    (case nq_NoMove_TooLate => first | rfl | decide)
    (case nq_NoMove_Clash => first | rfl | decide)
    (case nq_NoMove_NoHand => first | rfl | decide)
    (case nq_TooLate_Clash => first | rfl | decide)
    (case nq_TooLate_NoHand => first | rfl | decide)
    (case nq_Clash_NoHand => first | rfl | decide)
    (case su_TreeError_TreeError => first | rfl | k_is)
    (case su_TreeError_NoMove => first | rfl | k_is)
    (case su_TreeError_TooLate => first | rfl | k_is)
    (case su_TreeError_Clash => first | rfl | k_is)
    (case su_TreeError_NoHand => first | rfl | k_is)
    (case su_NoMove_TreeError => first | rfl | k_is)
    (case su_NoMove_NoMove => first | rfl | k_is)
    (case su_NoMove_TooLate => first | rfl | k_is)
    (case su_NoMove_Clash => first | rfl | k_is)
    (case su_NoMove_NoHand => first | rfl | k_is)
    (case su_TooLate_TreeError => first | rfl | k_is)
    (case su_TooLate_NoMove => first | rfl | k_is)
    (case su_TooLate_TooLate => first | rfl | k_is)
    (case su_TooLate_Clash => first | rfl | k_is)
    (case su_TooLate_NoHand => first | rfl | k_is)
    (case su_Clash_TreeError => first | rfl | k_is)
    (case su_Clash_NoMove => first | rfl | k_is)
    (case su_Clash_TooLate => first | rfl | k_is)
    (case su_Clash_Clash => first | rfl | k_is)
    (case su_Clash_NoHand => first | rfl | k_is)
    (case su_NoHand_TreeError => first | rfl | k_is)
    (case su_NoHand_NoMove => first | rfl | k_is)
    (case su_NoHand_TooLate => first | rfl | k_is)
    (case su_NoHand_Clash => first | rfl | k_is)
    (case su_NoHand_NoHand => first | rfl | k_is)
    (case g_MOST => k_is)
    (case n_len => k_is)
    (case n_isinstance => k_is)
    (case n_range => k_is)
    (case n_int => k_is)
    (case n_bool => k_is)
    (case n_list => k_is)
    (case n_tuple => k_is)
    (case n_dict => k_is)
    (case n_max => k_is)
    (case n_min => k_is)
    (case n_ValueError => k_is)
