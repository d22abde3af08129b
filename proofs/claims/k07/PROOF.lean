import PyProof.Rows.All
import Wide.All
import OpenK.AllK
import Wide.FinOn
import HandS.ForMost
import HandS.Exc
import HandS.TryMany
import HandS.ExcOwn
import HandS.WordsExc
import HandS.ExcIs
import HandS.IsInst
import HandS.Deep
import HandS.DeepEq
import HandS.TupLe
import HandS.TupAny
import HandS.More
import HandS.SortInts
import KE.OsMirror
import KE.IntTextLaws
import HandS.Evl
import PySem.Challenge.RW_treemove_k07_read


set_option Elab.async false
set_option linter.all false
set_option maxRecDepth 100000
set_option maxHeartbeats 4000000
namespace Tm
open PySem PySem.Spec PyProof.Rows L2
/-! what all laws lean on -/
theorem cx_none {P : Program} {w : World} {outer : List Env} {H : Hp} {s : Shared} {e : Value} {s' : Shared} (h : L2.CX P w outer H s (fun _ _ _ => False) e s') : False := by
  obtain ⟨_, _, _, _, _, _, _, _, _, _, _, _, z⟩ := h
  exact z
/-- law's: a list of at most 63 ints is handed in, True comes out -/
def spLaw (K : PySem.W.Frag) : Sp := fun vs H Q _ => ∃ (p : Addr) (ns : List Int), vs = [.ref p] ∧ SqL K H p (ns.map V.int) ∧ ns.length ≤ 63 ∧ ∀ H', Q (.bl true) H'
theorem T0 {k : Nat} {A : Around} (hr : Room k A) : A.units < cLine := Nat.lt_of_le_of_lt (Nat.le_add_right _ _) hr.units
theorem T64 {k : Nat} {A : Around} (hr : Room k A) : A.units + 64 < cLine := hr.units
theorem exm_at {K : PySem.W.Frag} {S C : Addr} (h1 : PySem.W.subIn K (.ref S) (.type "BaseException") = some true) (h2 : PySem.W.isClsIn K S = true) (h3 : PySem.W.typeIn K (.ref S) = some (.type "type")) {b : Bool} (h4 : PySem.W.subIn K (.ref C) (.ref S) = some b) :
    PySem.W.exmOne K (.ref C) (.ref S) = some b := by
  have e1 : (PySem.W.subIn K (.ref S) (.type "BaseException") == some true) = true := by rw [h1] <;> rfl
  have e2 : ((PySem.W.clsIn K S).isSome && PySem.W.typeIn K (.ref S) == some (.type "type")) = true := by
    have h2' : (PySem.W.clsIn K S).isSome = true := h2
    rw [h2', h3] <;> rfl
  show (if (PySem.W.subIn K (.ref S) (.type "BaseException") == some true) = true then (if ((PySem.W.clsIn K S).isSome && PySem.W.typeIn K (.ref S) == some (.type "type")) = true then PySem.W.subIn K (.ref C) (.ref S) else none) else none) = some b
  rw [if_pos e1, if_pos e2]
  exact h4
/-- ten to a written power -/
theorem pe_p10 {X : Cx} {n m : Int} {j1 j2 : Nat} {p1 p2 pos : Pos} (h : 0 ≤ n ∧ n ≤ 1000000 ∧ (10 : Int) ^ n.toNat = m) : PE X (.BinOp (.Constant (.int 10) j1 p1) .Pow (.Constant (.int n) j2 p2) pos) (tC (.int m)) := by
  obtain ⟨h0, h1, h2⟩ := h
  refine ⟨fun pins s σ H Q I q => (pe_op op_pow pe_int pe_int).run pins s σ H Q I ⟨10, n, rfl, rfl, ⟨h0, h1, by decide⟩, ?_⟩⟩
  show Q (.int (10 ^ n.toNat)) H
  rw [h2]
  exact q
abbrev E60 : Int := 1000000000000000000000000000000000000000000000000000000000000
/-- the cell of a script -/
def cellAt (ns : List Int) (k : Int) : Int := ns.getD k.toNat 0
def spCell (K : PySem.W.Frag) : Sp := fun vs H Q _ => ∃ (p : Addr) (ns : List Int) (k : Int), vs = [.ref p, .int k] ∧ SqL K H p (ns.map V.int) ∧ 0 ≤ k ∧ Q (.int (cellAt ns k)) H
theorem cell_in {ns : List Int} {k : Int} (h0 : 0 ≤ k) (h : k < ns.length) : atI (ns.map V.int) k = some (.int (cellAt ns k)) := by
  refine at_of (j := k.toNat) (by omega) ?_
  have hk : k.toNat < ns.length := by omega
  simp [cellAt, List.getD_eq_getElem?_getD, hk]
theorem cell_out {ns : List Int} {k : Int} (h : ¬ k < ns.length) : cellAt ns k = 0 := by
  have hk : ¬ k.toNat < ns.length := by omega
  simp [cellAt, List.getD_eq_getElem?_getD, List.getElem?_eq_none (Nat.le_of_not_lt hk)]
end Tm
namespace Tm
open PySem PySem.Spec PyProof.Rows L2
theorem yes {c : Bool} {A B : Prop} (h : c = true) (q : A) : if c = true then A else B := by
  rw [if_pos h]
  exact q
theorem no {c : Bool} {A B : Prop} (h : c = false) (q : B) : if c = true then A else B := by
  rw [h, if_neg Bool.false_ne_true]
  exact q
theorem ite_eqI {x y : Int} {A B : Prop} (h1 : x = y → A) (h2 : ¬ x = y → B) : if decide (V.int x = V.int y) = true then A else B :=
  ite2 (fun c => h1 (V.int.inj (of_decide_eq_true c))) fun c => h2 fun e => c (decide_eq_true (congrArg V.int e))
theorem ite_neI {x y : Int} {A B : Prop} (h1 : ¬ x = y → A) (h2 : x = y → B) : if (!decide (V.int x = V.int y)) = true then A else B := by
  by_cases e : x = y
  · subst e
    exact no (by simp) (h2 rfl)
  · exact yes (by simp [e]) (h1 e)
theorem ite_d {p : Prop} [Decidable p] {A B : Prop} (h1 : p → A) (h2 : ¬ p → B) : if decide p = true then A else B :=
  ite2 (fun c => h1 (of_decide_eq_true c)) fun c => h2 fun e => c (decide_eq_true e)
theorem ite_dn {p : Prop} [Decidable p] {A B : Prop} (h1 : ¬ p → A) (h2 : p → B) : if (!decide p) = true then A else B := by
  by_cases e : p
  · exact no (by simp [e]) (h2 e)
  · exact yes (by simp [e]) (h1 e)
theorem ite_b {b : Bool} {A B : Prop} (h1 : b = true → A) (h2 : b = false → B) : if b = true then A else B := by
  cases b
  · exact no rfl (h2 rfl)
  · exact yes rfl (h1 rfl)
theorem cdiv {i j : Int} (h : 0 < j ∧ j < 1073741824) : CDiv i j := h
theorem Qint {Q : VK} {H : Hp} {i j : Int} (q : Q (.int i) H) (e : j = i) : Q (.int j) H := e ▸ q
theorem Qbl {Q : VK} {H : Hp} {i j : Bool} (q : Q (.bl i) H) (e : j = i) : Q (.bl j) H := e ▸ q
end Tm
namespace Tm
open PySem PySem.Spec PyProof.Rows L2
section
variable {K : PySem.W.Frag} {H : Hp} {Q : VK}
theorem isi_int_int {x : Int} (q : Q (.bl true) H) : rIsi K [.int x, .ty "int"] H Q := ⟨_, _, _, _, _, rfl, .ty _, .base (.int x), kit_ty (by decide +kernel), q⟩
theorem isi_int_bool {x : Int} (q : Q (.bl false) H) : rIsi K [.int x, .ty "bool"] H Q := ⟨_, _, _, _, _, rfl, .ty _, .base (.int x), kit_ty (by decide +kernel), q⟩
theorem isi_int_str {x : Int} (q : Q (.bl false) H) : rIsi K [.int x, .ty "str"] H Q := ⟨_, _, _, _, _, rfl, .ty _, .base (.int x), kit_ty (by decide +kernel), q⟩
theorem isi_int_list {x : Int} (q : Q (.bl false) H) : rIsi K [.int x, .ty "list"] H Q := ⟨_, _, _, _, _, rfl, .ty _, .base (.int x), kit_ty (by decide +kernel), q⟩
theorem isi_int_tuple {x : Int} (q : Q (.bl false) H) : rIsi K [.int x, .ty "tuple"] H Q := ⟨_, _, _, _, _, rfl, .ty _, .base (.int x), kit_ty (by decide +kernel), q⟩
theorem isi_int_dict {x : Int} (q : Q (.bl false) H) : rIsi K [.int x, .ty "dict"] H Q := ⟨_, _, _, _, _, rfl, .ty _, .base (.int x), kit_ty (by decide +kernel), q⟩
theorem isi_bool_int {x : Bool} (q : Q (.bl true) H) : rIsi K [.bl x, .ty "int"] H Q := ⟨_, _, _, _, _, rfl, .ty _, .base (.bl x), kit_ty (by decide +kernel), q⟩
theorem isi_bool_bool {x : Bool} (q : Q (.bl true) H) : rIsi K [.bl x, .ty "bool"] H Q := ⟨_, _, _, _, _, rfl, .ty _, .base (.bl x), kit_ty (by decide +kernel), q⟩
theorem isi_bool_str {x : Bool} (q : Q (.bl false) H) : rIsi K [.bl x, .ty "str"] H Q := ⟨_, _, _, _, _, rfl, .ty _, .base (.bl x), kit_ty (by decide +kernel), q⟩
theorem isi_bool_list {x : Bool} (q : Q (.bl false) H) : rIsi K [.bl x, .ty "list"] H Q := ⟨_, _, _, _, _, rfl, .ty _, .base (.bl x), kit_ty (by decide +kernel), q⟩
theorem isi_bool_tuple {x : Bool} (q : Q (.bl false) H) : rIsi K [.bl x, .ty "tuple"] H Q := ⟨_, _, _, _, _, rfl, .ty _, .base (.bl x), kit_ty (by decide +kernel), q⟩
theorem isi_bool_dict {x : Bool} (q : Q (.bl false) H) : rIsi K [.bl x, .ty "dict"] H Q := ⟨_, _, _, _, _, rfl, .ty _, .base (.bl x), kit_ty (by decide +kernel), q⟩
theorem isi_str_int {x : Str} (q : Q (.bl false) H) : rIsi K [.str x, .ty "int"] H Q := ⟨_, _, _, _, _, rfl, .ty _, .base (.str x), kit_ty (by decide +kernel), q⟩
theorem isi_str_bool {x : Str} (q : Q (.bl false) H) : rIsi K [.str x, .ty "bool"] H Q := ⟨_, _, _, _, _, rfl, .ty _, .base (.str x), kit_ty (by decide +kernel), q⟩
theorem isi_str_str {x : Str} (q : Q (.bl true) H) : rIsi K [.str x, .ty "str"] H Q := ⟨_, _, _, _, _, rfl, .ty _, .base (.str x), kit_ty (by decide +kernel), q⟩
theorem isi_str_list {x : Str} (q : Q (.bl false) H) : rIsi K [.str x, .ty "list"] H Q := ⟨_, _, _, _, _, rfl, .ty _, .base (.str x), kit_ty (by decide +kernel), q⟩
theorem isi_str_tuple {x : Str} (q : Q (.bl false) H) : rIsi K [.str x, .ty "tuple"] H Q := ⟨_, _, _, _, _, rfl, .ty _, .base (.str x), kit_ty (by decide +kernel), q⟩
theorem isi_str_dict {x : Str} (q : Q (.bl false) H) : rIsi K [.str x, .ty "dict"] H Q := ⟨_, _, _, _, _, rfl, .ty _, .base (.str x), kit_ty (by decide +kernel), q⟩
theorem isi_NoneType_int (q : Q (.bl false) H) : rIsi K [.non, .ty "int"] H Q := ⟨_, _, _, _, _, rfl, .ty _, .base (.non), kit_ty (by decide +kernel), q⟩
theorem isi_NoneType_bool (q : Q (.bl false) H) : rIsi K [.non, .ty "bool"] H Q := ⟨_, _, _, _, _, rfl, .ty _, .base (.non), kit_ty (by decide +kernel), q⟩
theorem isi_NoneType_str (q : Q (.bl false) H) : rIsi K [.non, .ty "str"] H Q := ⟨_, _, _, _, _, rfl, .ty _, .base (.non), kit_ty (by decide +kernel), q⟩
theorem isi_NoneType_list (q : Q (.bl false) H) : rIsi K [.non, .ty "list"] H Q := ⟨_, _, _, _, _, rfl, .ty _, .base (.non), kit_ty (by decide +kernel), q⟩
theorem isi_NoneType_tuple (q : Q (.bl false) H) : rIsi K [.non, .ty "tuple"] H Q := ⟨_, _, _, _, _, rfl, .ty _, .base (.non), kit_ty (by decide +kernel), q⟩
theorem isi_NoneType_dict (q : Q (.bl false) H) : rIsi K [.non, .ty "dict"] H Q := ⟨_, _, _, _, _, rfl, .ty _, .base (.non), kit_ty (by decide +kernel), q⟩
theorem isi_list_int {a : Addr} {xs : List V} (h : H a = some (.lst xs)) (q : Q (.bl false) H) : rIsi K [.ref a, .ty "int"] H Q := ⟨_, _, _, _, _, rfl, .ty _, .base (.lst h), kit_ty (by decide +kernel), q⟩
theorem isi_list_bool {a : Addr} {xs : List V} (h : H a = some (.lst xs)) (q : Q (.bl false) H) : rIsi K [.ref a, .ty "bool"] H Q := ⟨_, _, _, _, _, rfl, .ty _, .base (.lst h), kit_ty (by decide +kernel), q⟩
theorem isi_list_str {a : Addr} {xs : List V} (h : H a = some (.lst xs)) (q : Q (.bl false) H) : rIsi K [.ref a, .ty "str"] H Q := ⟨_, _, _, _, _, rfl, .ty _, .base (.lst h), kit_ty (by decide +kernel), q⟩
theorem isi_list_list {a : Addr} {xs : List V} (h : H a = some (.lst xs)) (q : Q (.bl true) H) : rIsi K [.ref a, .ty "list"] H Q := ⟨_, _, _, _, _, rfl, .ty _, .base (.lst h), kit_ty (by decide +kernel), q⟩
theorem isi_list_tuple {a : Addr} {xs : List V} (h : H a = some (.lst xs)) (q : Q (.bl false) H) : rIsi K [.ref a, .ty "tuple"] H Q := ⟨_, _, _, _, _, rfl, .ty _, .base (.lst h), kit_ty (by decide +kernel), q⟩
theorem isi_list_dict {a : Addr} {xs : List V} (h : H a = some (.lst xs)) (q : Q (.bl false) H) : rIsi K [.ref a, .ty "dict"] H Q := ⟨_, _, _, _, _, rfl, .ty _, .base (.lst h), kit_ty (by decide +kernel), q⟩
theorem isi_tuple_int {a : Addr} {xs : List V} (h : H a = some (.tup xs)) (q : Q (.bl false) H) : rIsi K [.ref a, .ty "int"] H Q := ⟨_, _, _, _, _, rfl, .ty _, .base (.tup h), kit_ty (by decide +kernel), q⟩
theorem isi_tuple_bool {a : Addr} {xs : List V} (h : H a = some (.tup xs)) (q : Q (.bl false) H) : rIsi K [.ref a, .ty "bool"] H Q := ⟨_, _, _, _, _, rfl, .ty _, .base (.tup h), kit_ty (by decide +kernel), q⟩
theorem isi_tuple_str {a : Addr} {xs : List V} (h : H a = some (.tup xs)) (q : Q (.bl false) H) : rIsi K [.ref a, .ty "str"] H Q := ⟨_, _, _, _, _, rfl, .ty _, .base (.tup h), kit_ty (by decide +kernel), q⟩
theorem isi_tuple_list {a : Addr} {xs : List V} (h : H a = some (.tup xs)) (q : Q (.bl false) H) : rIsi K [.ref a, .ty "list"] H Q := ⟨_, _, _, _, _, rfl, .ty _, .base (.tup h), kit_ty (by decide +kernel), q⟩
theorem isi_tuple_tuple {a : Addr} {xs : List V} (h : H a = some (.tup xs)) (q : Q (.bl true) H) : rIsi K [.ref a, .ty "tuple"] H Q := ⟨_, _, _, _, _, rfl, .ty _, .base (.tup h), kit_ty (by decide +kernel), q⟩
theorem isi_tuple_dict {a : Addr} {xs : List V} (h : H a = some (.tup xs)) (q : Q (.bl false) H) : rIsi K [.ref a, .ty "dict"] H Q := ⟨_, _, _, _, _, rfl, .ty _, .base (.tup h), kit_ty (by decide +kernel), q⟩
theorem isi_dict_int {a : Addr} {xs : List (Key × V)} (h : H a = some (.dK xs)) (q : Q (.bl false) H) : rIsi K [.ref a, .ty "int"] H Q := ⟨_, _, _, _, _, rfl, .ty _, .base (.dK h), kit_ty (by decide +kernel), q⟩
theorem isi_dict_bool {a : Addr} {xs : List (Key × V)} (h : H a = some (.dK xs)) (q : Q (.bl false) H) : rIsi K [.ref a, .ty "bool"] H Q := ⟨_, _, _, _, _, rfl, .ty _, .base (.dK h), kit_ty (by decide +kernel), q⟩
theorem isi_dict_str {a : Addr} {xs : List (Key × V)} (h : H a = some (.dK xs)) (q : Q (.bl false) H) : rIsi K [.ref a, .ty "str"] H Q := ⟨_, _, _, _, _, rfl, .ty _, .base (.dK h), kit_ty (by decide +kernel), q⟩
theorem isi_dict_list {a : Addr} {xs : List (Key × V)} (h : H a = some (.dK xs)) (q : Q (.bl false) H) : rIsi K [.ref a, .ty "list"] H Q := ⟨_, _, _, _, _, rfl, .ty _, .base (.dK h), kit_ty (by decide +kernel), q⟩
theorem isi_dict_tuple {a : Addr} {xs : List (Key × V)} (h : H a = some (.dK xs)) (q : Q (.bl false) H) : rIsi K [.ref a, .ty "tuple"] H Q := ⟨_, _, _, _, _, rfl, .ty _, .base (.dK h), kit_ty (by decide +kernel), q⟩
theorem isi_dict_dict {a : Addr} {xs : List (Key × V)} (h : H a = some (.dK xs)) (q : Q (.bl true) H) : rIsi K [.ref a, .ty "dict"] H Q := ⟨_, _, _, _, _, rfl, .ty _, .base (.dK h), kit_ty (by decide +kernel), q⟩
end
end Tm
namespace Tm
open PySem PySem.Spec PyProof.Rows L2
theorem c_cell {K : PySem.W.Frag} {H : Hp} {p : Addr} {ns : List Int} {k : Int} {Q : VK} {E : XK} (hS : SqL K H p (ns.map V.int)) (h0 : 0 ≤ k) (h : Q (.int (cellAt ns k)) H) : spCell K [.ref p, .int k] H Q E := ⟨p, ns, k, rfl, hS, h0, h⟩
end Tm
namespace Tm
open PySem PySem.Spec PyProof.Rows L2
/-! readings, step by step: each step's head is a constant, so that a wrong step falls at once -/
section
variable {K : PySem.W.Frag} {σ : L2.St} {H : Hp} {Q : VK} {B : Bool → Hp → Prop} {R : List V → Hp → Prop} {v x y z : V} {ta tb te td ty tx tl : TE} {ts : TA} {tt tu : TT} {t1 t2 : TS} {i j n : Nat} {nx bk ct : L2.St → Hp → Prop} {rt : VK} {r : R2} {p q d : Addr} {f : Str} {E : XK} {vs : List V}
def qB (B : Bool → Hp → Prop) : VK := fun x H' => ∃ k, x = .bl k ∧ B k H'
theorem r_qB {b : Bool} (h : B b H) : qB B (.bl b) H := ⟨b, rfl, h⟩
theorem s_var (e : σ[i]? = some (some v)) (h : Q v H) : tVar i σ H Q := ⟨v, e, h⟩
/-- an expression's value once, whatever follows -/
theorem s_val (v : V) (h : ∀ Q : VK, Q v H → te σ H Q) (q : Q v H) : te σ H Q := h Q q
theorem s_C (h : Q v H) : tC v σ H Q := h
theorem s_op (h : ta σ H fun x H1 => tb σ H1 fun y H2 => r x y H2 Q) : tOp r ta tb σ H Q := h
theorem s_un {u : V → Hp → VK → Prop} (h : ta σ H fun x H1 => u x H1 Q) : tUn u ta σ H Q := h
theorem s_test (h : te σ H (qB B)) : tTest te σ H B := h
theorem s_tB (h : te σ H (qB B)) : tB te σ H B := h
theorem s_not (h : tt σ H fun c H1 => B (!c) H1) : tNot tt σ H B := h
theorem s_and (h : tt σ H fun c H1 => if c = true then tu σ H1 B else B false H1) : tAnd tt tu σ H B := h
theorem s_or (h : tt σ H fun c H1 => if c = true then B true H1 else tu σ H1 B) : tOr tt tu σ H B := h
theorem s_andV (h : ta σ H (qB fun c H1 => if c = true then tb σ H1 Q else Q (.bl false) H1)) : tAndV ta tb σ H Q := h
theorem s_orV (h : ta σ H (qB fun c H1 => if c = true then Q (.bl true) H1 else tb σ H1 Q)) : tOrV ta tb σ H Q := h
theorem s_notV (h : ta σ H (qB fun c H1 => Q (.bl (!c)) H1)) : tNotV ta σ H Q := h
theorem s_if (h : tt σ H fun c H1 => if c = true then ta σ H1 Q else tb σ H1 Q) : tIf tt ta tb σ H Q := h
theorem s_chain {r r' : R2} {tc : TE} (h : ta σ H fun x H1 => tb σ H1 fun y H2 => r x y H2 (qB fun k H3 => if k = true then tc σ H3 fun w' H4 => r' y w' H4 Q else Q (.bl false) H3)) : tChain r r' ta tb tc σ H Q := h
theorem s_nil (h : R [] H) : tNil σ H R := h
theorem s_cons (h : te σ H fun x H1 => ts σ H1 fun xs H2 => R (x :: xs) H2) : tCons te ts σ H R := h
def qNew (mk : List V → HO) (Q : VK) : List V → Hp → Prop := fun xs H1 => xs.length ≤ sizeLine ∧ ∀ p, H1 p = none → Q (.ref p) (upd H1 p (mk xs))
theorem r_new {mk : List V → HO} {xs : List V} (hl : xs.length ≤ 1000000) (h : ∀ p, H p = none → Q (.ref p) (upd H p (mk xs))) : qNew mk Q xs H := ⟨Nat.le_trans hl (by decide), h⟩
theorem s_tup (h : ts σ H (qNew .tup Q)) : tTup ts σ H Q := h
theorem s_lst (h : ts σ H (qNew .lst Q)) : tLst ts σ H Q := h
theorem s_call {sp : Sp} (h : ts σ H fun vs H1 => sp vs H1 Q E) : tCall sp [] E ts σ H Q := by
  unfold tCall
  simpa only [List.append_nil] using h
theorem s_callS {sp : Sp} {E : L2.St → XK} (h : ts σ H fun vs H1 => sp vs H1 Q (E σ)) : tCallS sp E ts σ H Q := h
theorem s_CB {c : List V → Hp → VK → Prop} (h : ts σ H fun vs H1 => c vs H1 Q) : tCB c ts σ H Q := h
theorem s_noPart {O : Option Int → Hp → Prop} (h : O none H) : tNoPart σ H O := h
def qPart (O : Option Int → Hp → Prop) : VK := fun x H1 => ∃ i, x = .int i ∧ O (some i) H1
theorem r_part {O : Option Int → Hp → Prop} {i : Int} (h : O (some i) H) : qPart O (.int i) H := ⟨i, rfl, h⟩
theorem s_part {O : Option Int → Hp → Prop} (h : te σ H (qPart O)) : tPart te σ H O := h
theorem s_sl {c : V → Option Int → Option Int → Hp → VK → Prop} {a b : TO} (h : te σ H fun x H1 => a σ H1 fun l H2 => b σ H2 fun u H3 => c x l u H3 Q) : tSl c te a b σ H Q := h
theorem s_yes (h : B true H) : tYes σ H B := h
/-! statements -/
theorem s_seq (h : t1 ⟨t2 ⟨nx, rt, bk, ct⟩, rt, bk, ct⟩ σ H) : tSeq t1 t2 ⟨nx, rt, bk, ct⟩ σ H := h
theorem s_next (h : nx σ H) : tNext ⟨nx, rt, bk, ct⟩ σ H := h
theorem s_asg {g : TG} (h : te σ H fun x H1 => g x σ H1 nx) : tAsg te g ⟨nx, rt, bk, ct⟩ σ H := h
theorem s_gName {N : L2.St → Hp → Prop} (h : N (σ.set i (some v)) H) : gName i v σ H N := h
theorem s_drop (h : te σ H fun _ H1 => nx σ H1) : tDrop te ⟨nx, rt, bk, ct⟩ σ H := h
theorem s_ret (h : te σ H rt) : tRet te ⟨nx, rt, bk, ct⟩ σ H := h
theorem s_ifS (h : tt σ H fun b H1 => if b = true then t1 ⟨nx, rt, bk, ct⟩ σ H1 else t2 ⟨nx, rt, bk, ct⟩ σ H1) : tIfS tt t1 t2 ⟨nx, rt, bk, ct⟩ σ H := h
/-! operators on ints -/
theorem r_I0 {g : Int → Int → V} {i j : Int} (h : Q (g i j) H) : rI0 g (.int i) (.int j) H Q := ⟨i, j, rfl, rfl, h⟩
theorem r_I {C : Int → Int → Prop} {g : Int → Int → V} {i j : Int} (c : C i j) (h : Q (g i j) H) : rI C g (.int i) (.int j) H Q := ⟨i, j, rfl, rfl, c, h⟩
theorem r_mod {g : Int → Int → V} {i j : Int} (c : 0 < j) (h : Q (g i j) H) : rI (fun _ j => 0 < j) g (.int i) (.int j) H Q := ⟨i, j, rfl, rfl, c, h⟩
theorem r_div {g : Int → Int → V} {i j : Int} (c : 0 < j ∧ j < 1073741824) (h : Q (g i j) H) : rI CDiv g (.int i) (.int j) H Q := ⟨i, j, rfl, rfl, c, h⟩
theorem r_mul {g : Int → Int → V} {i j : Int} (c : (-18446744073709551616 < i ∧ i < 18446744073709551616) ∨ (-18446744073709551616 < j ∧ j < 18446744073709551616)) (h : Q (g i j) H) : rI CMul g (.int i) (.int j) H Q := ⟨i, j, rfl, rfl, c, h⟩
theorem r_U {g : Int → V} {i : Int} (h : Q (g i) H) : rU g (.int i) H Q := ⟨i, rfl, h⟩
theorem r_eqI {i j : Int} (h : Q (.bl (decide (i = j))) H) : rEq (.int i) (.int j) H Q := ⟨rfl, by
  have e : decide (V.int i = V.int j) = decide (i = j) := by by_cases c : i = j <;> simp [c]
  rw [e]; exact h⟩
theorem r_neI {i j : Int} (h : Q (.bl (!decide (i = j))) H) : rNe (.int i) (.int j) H Q := ⟨rfl, by
  have e : decide (V.int i = V.int j) = decide (i = j) := by by_cases c : i = j <;> simp [c]
  rw [e]; exact h⟩
theorem r_eqB {i j : Bool} (h : Q (.bl (decide (i = j))) H) : rEq (.bl i) (.bl j) H Q := ⟨rfl, by
  have e : decide (V.bl i = V.bl j) = decide (i = j) := by by_cases c : i = j <;> simp [c]
  rw [e]; exact h⟩
theorem r_neB {i j : Bool} (h : Q (.bl (!decide (i = j))) H) : rNe (.bl i) (.bl j) H Q := ⟨rfl, by
  have e : decide (V.bl i = V.bl j) = decide (i = j) := by by_cases c : i = j <;> simp [c]
  rw [e]; exact h⟩
theorem r_eqS {i j : Str} (h : Q (.bl (decide (i = j))) H) : rEq (.str i) (.str j) H Q := ⟨rfl, by
  have e : decide (V.str i = V.str j) = decide (i = j) := by by_cases c : i = j <;> simp [c]
  rw [e]; exact h⟩
theorem r_neS {i j : Str} (h : Q (.bl (!decide (i = j))) H) : rNe (.str i) (.str j) H Q := ⟨rfl, by
  have e : decide (V.str i = V.str j) = decide (i = j) := by by_cases c : i = j <;> simp [c]
  rw [e]; exact h⟩
/-! items, lengths -/
theorem r_ixT {xs : List V} {i : Int} (hs : SqT K H p xs) (ha : atI xs i = some v) (h : Q v H) : rIxT K (.ref p) (.int i) H Q := ⟨p, xs, i, v, rfl, rfl, hs, ha, h⟩
theorem r_ixL {xs : List V} {i : Int} (hs : SqL K H p xs) (ha : atI xs i = some v) (h : Q v H) : rIxL K (.ref p) (.int i) H Q := ⟨p, xs, i, v, rfl, rfl, hs, ha, h⟩
def rLenQ (K : PySem.W.Frag) : List V → Hp → VK → Prop := fun xs H Q => ∃ p ys, xs = [.ref p] ∧ (SqL K H p ys ∨ SqT K H p ys) ∧ Q (.int ys.length) H
theorem call_lenQ {X : Cx} : CallR X (.builtin "len") (rLenQ X.K) := call_len_seq
theorem r_lenL {xs : List V} (hs : SqL K H p xs) (h : Q (.int xs.length) H) : rLenQ K [.ref p] H Q := ⟨p, xs, rfl, .inl hs, h⟩
theorem r_lenT {xs : List V} (hs : SqT K H p xs) (h : Q (.int xs.length) H) : rLenQ K [.ref p] H Q := ⟨p, xs, rfl, .inr hs, h⟩
def rLenDQ : List V → Hp → VK → Prop := fun xs H Q => ∃ a kvs, xs = [V.ref a] ∧ H a = some (.dK kvs) ∧ Q (.int kvs.length) H
theorem call_lenDQ {X : Cx} : CallR X (.builtin "len") rLenDQ := call_lenD
theorem r_lenD {kvs : List (Key × V)} (hs : H p = some (.dK kvs)) (h : Q (.int kvs.length) H) : rLenDQ [.ref p] H Q := ⟨p, kvs, rfl, hs, h⟩
def rMaxQ : List V → Hp → VK → Prop := fun xs H Q => ∃ i j, xs = [.int i, .int j] ∧ Q (.int (if j > i then j else i)) H
theorem call_maxQ {X : Cx} (hc : X.calm = true) : CallR X (.builtin "max") rMaxQ := call_max2 hc
theorem r_max {i j : Int} (h : Q (.int (max i j)) H) : rMaxQ [.int i, .int j] H Q := ⟨i, j, rfl, by
  have e : (if j > i then j else i) = max i j := by omega
  rw [e]; exact h⟩
def rMinQ : List V → Hp → VK → Prop := fun xs H Q => ∃ i j, xs = [.int i, .int j] ∧ Q (.int (if j < i then j else i)) H
theorem call_minQ {X : Cx} (hc : X.calm = true) : CallR X (.builtin "min") rMinQ := call_min2 hc
theorem r_min {i j : Int} (h : Q (.int (min i j)) H) : rMinQ [.int i, .int j] H Q := ⟨i, j, rfl, by
  have e : (if j < i then j else i) = min i j := by omega
  rw [e]; exact h⟩
def rListQ (K : PySem.W.Frag) : List V → Hp → VK → Prop := fun xs H Q => ∃ p ys, xs = [.ref p] ∧ (SqL K H p ys ∨ SqT K H p ys) ∧ ∀ l, H l = none → Q (.ref l) (upd H l (.lst ys))
theorem call_listQ {X : Cx} : CallR X (.type "list") (rListQ X.K) := call_list_of
theorem r_list {xs : List V} (hs : SqL K H p xs) (h : ∀ l, H l = none → Q (.ref l) (upd H l (.lst xs))) : rListQ K [.ref p] H Q := ⟨p, xs, rfl, .inl hs, h⟩
theorem r_listT {xs : List V} (hs : SqT K H p xs) (h : ∀ l, H l = none → Q (.ref l) (upd H l (.lst xs))) : rListQ K [.ref p] H Q := ⟨p, xs, rfl, .inr hs, h⟩
def rTupQ (K : PySem.W.Frag) : List V → Hp → VK → Prop := fun xs H Q => ∃ p ys, xs = [.ref p] ∧ ((SqL K H p ys ∧ ∀ l, H l = none → Q (.ref l) (upd H l (.tup ys))) ∨ (SqT K H p ys ∧ Q (.ref p) H))
theorem call_tupQ {X : Cx} : CallR X (.type "tuple") (rTupQ X.K) := call_tuple_of
theorem r_tupL {xs : List V} (hs : SqL K H p xs) (h : ∀ l, H l = none → Q (.ref l) (upd H l (.tup xs))) : rTupQ K [.ref p] H Q := ⟨p, xs, rfl, .inl ⟨hs, h⟩⟩
def rDictQ : List V → Hp → VK → Prop := fun xs H Q => ∃ (a : Addr) (kvs : List (Key × V)), xs = [.ref a] ∧ Rd H a (.dK kvs) ∧ ∀ p, H p = none → Q (.ref p) (upd H p (.dK kvs))
theorem call_dictQ {X : Cx} : CallR X (.type "dict") rDictQ := call_dictD
theorem r_dict {kvs : List (Key × V)} (hs : H p = some (.dK kvs)) (h : ∀ l, H l = none → Q (.ref l) (upd H l (.dK kvs))) : rDictQ [.ref p] H Q := ⟨p, kvs, rfl, .inl hs, h⟩
def rIntQ : List V → Hp → VK → Prop := fun xs H Q => (∃ i, xs = [.int i] ∧ Q (.int i) H) ∨ ∃ k, xs = [.bl k] ∧ Q (.int (if k then 1 else 0)) H
theorem call_intQ {X : Cx} : CallR X (.type "int") rIntQ := call_int1
theorem r_int {b : Bool} (h : Q (.int (if b then 1 else 0)) H) : rIntQ [.bl b] H Q := .inr ⟨b, rfl, h⟩
/-! methods of lists -/
def qTy (K : PySem.W.Frag) (T : String) (m : V → List V → Hp → VK → Prop) (ts : TA) (σ : L2.St) (Q : VK) : VK := fun x H1 => tyV K T x H1 ∧ ts σ H1 fun xs H2 => m x xs H2 Q
theorem s_BM {T : String} {m : V → List V → Hp → VK → Prop} (h : te σ H (qTy K T m ts σ Q)) : tBM K T m te ts σ H Q := h
theorem r_tyL {m : V → List V → Hp → VK → Prop} {xs : List V} (hs : H p = some (.lst xs)) (h : ts σ H fun xs H2 => m (.ref p) xs H2 Q) : qTy K "list" m ts σ Q (.ref p) H := ⟨.inl ⟨rfl, xs, .inl (.inl hs)⟩, h⟩
theorem r_append {xs : List V} (hs : H p = some (.lst xs)) (hl : xs.length < sizeLine) (h : Q .non (upd H p (.lst (xs ++ [y])))) : rAppend (.ref p) [y] H Q := ⟨p, xs, y, rfl, rfl, hs, hl, h⟩
/-! slices, concatenation -/
theorem r_slL {xs : List V} {lo hi : Option Int} (hs : SqL K H p xs) (h : ∀ l, H l = none → Q (.ref l) (upd H l (.lst (cutV xs lo hi)))) : rSlL K (.ref p) lo hi H Q := ⟨p, xs, rfl, hs, h⟩
theorem r_cat {xs ys : List V} (hs : H p = some (.lst xs)) (hq : H q = some (.lst ys)) (hl : xs.length + ys.length ≤ sizeLine) (h : ∀ l, H l = none → Q (.ref l) (upd H l (.lst (xs ++ ys)))) : rCat (.ref p) (.ref q) H Q := ⟨p, q, xs, ys, rfl, rfl, hs, hq, hl, h⟩
theorem r_slT {xs : List V} {lo hi : Option Int} (hs : SqT K H p xs) (hne : ¬ (HT.sIx xs.length 0 lo = 0 ∧ HT.sIx xs.length xs.length hi = xs.length)) (h : ∀ l, H l = none → Q (.ref l) (upd H l (.tup (cutV xs lo hi)))) : rSlA K (.ref p) lo hi H Q := ⟨p, xs, rfl, hs, fun e => (hne e).elim, fun _ => h⟩
theorem r_catT {xs ys : List V} (hs : SqT K H p xs) (hq : SqT K H q ys) (hx : xs ≠ []) (hy : ys ≠ []) (hl : xs.length + ys.length ≤ sizeLine) (h : ∀ l, H l = none → Q (.ref l) (upd H l (.tup (xs ++ ys)))) : rCatA K (.ref p) (.ref q) H Q := ⟨p, q, xs, ys, rfl, rfl, hs, hq, hl, fun e => (hx e).elim, fun _ e => (hy e).elim, fun _ _ => h⟩
theorem r_in {xs : List V} (hs : SqL K H p xs) (hf : flatV x = true) (ha : xs.all flatV = true) (h : Q (.bl (inV x xs)) H) : rIn K false x (.ref p) H Q := ⟨p, xs, rfl, .inl hs, hf, ha, h⟩
theorem r_inT {xs : List V} (hs : SqT K H p xs) (hf : flatV x = true) (ha : xs.all flatV = true) (h : Q (.bl (inV x xs)) H) : rIn K false x (.ref p) H Q := ⟨p, xs, rfl, .inr hs, hf, ha, h⟩
theorem r_nin {xs : List V} (hs : SqL K H p xs) (hf : flatV x = true) (ha : xs.all flatV = true) (h : Q (.bl (!inV x xs)) H) : rIn K true x (.ref p) H Q := ⟨p, xs, rfl, .inl hs, hf, ha, h⟩
/-! fields, methods, instances -/
def qFld (K : PySem.W.Frag) (f : Str) (Q : VK) : VK := fun x H1 => ∃ a C dx fs v, x = .ref a ∧ H1 a = some (.ins C dx fs) ∧ Cls K C ∧ NoAttr K C f ∧ fs.lookup f = some v ∧ Q v H1
theorem s_fld (h : te σ H (qFld K f Q)) : tFld K te f σ H Q := h
theorem r_fld {C dx : Addr} {fs : List (Str × V)} (hs : H p = some (.ins C dx fs)) (c : Cls K C) (na : NoAttr K C f) (l : fs.lookup f = some v) (h : Q v H) : qFld K f Q (.ref p) H := ⟨p, C, dx, fs, v, rfl, hs, c, na, l, h⟩
def qSFld (K : PySem.W.Frag) (f : Str) (nx : L2.St → Hp → Prop) (σ : L2.St) (y : V) : VK := fun x H2 => ∃ a C dx fs, x = .ref a ∧ H2 a = some (.ins C dx fs) ∧ Cls K C ∧ NoAttr K C f ∧ fs.length < 1000 ∧ nx σ (upd H2 a (.ins C dx (putF f y fs)))
theorem s_sFld (h : te σ H fun y H1 => ta σ H1 (qSFld K f nx σ y)) : sFld K ta te f ⟨nx, rt, bk, ct⟩ σ H := h
theorem r_sFld {C dx : Addr} {fs : List (Str × V)} (hs : H p = some (.ins C dx fs)) (c : Cls K C) (na : NoAttr K C f) (l : fs.length < 1000) (h : nx σ (upd H p (.ins C dx (putF f y fs)))) : qSFld K f nx σ y (.ref p) H := ⟨p, C, dx, fs, rfl, hs, c, na, l, h⟩
def qMeth (C : Addr) (m : Str) (sp : Sp) (E : XK) (ts : TA) (σ : L2.St) (Q : VK) : VK := fun x H1 => ∃ a dx fs, x = .ref a ∧ H1 a = some (.ins C dx fs) ∧ fs.lookup m = none ∧ ts σ H1 fun vs H2 => sp (x :: vs) H2 Q E
theorem s_meth {C : Addr} {m : Str} {sp : Sp} (h : te σ H (qMeth C m sp E ts σ Q)) : tMeth C m sp [] E te ts σ H Q := by
  unfold qMeth at h
  unfold tMeth
  simpa only [List.append_nil] using h
theorem r_meth {C dx : Addr} {m : Str} {sp : Sp} {fs : List (Str × V)} (hs : H p = some (.ins C dx fs)) (l : fs.lookup m = none) (h : ts σ H fun vs H2 => sp (.ref p :: vs) H2 Q E) : qMeth C m sp E ts σ Q (.ref p) H := ⟨p, dx, fs, rfl, hs, l, h⟩
theorem s_make {C : Addr} {sp : Sp} (h : ts σ H fun vs H1 => ∀ x dx, H1 x = none → H1 dx = none → dx ≠ x → sp (.ref x :: vs) (upd (upd H1 dx (.own x)) x (.ins C dx [])) (fun v H2 => v = .non ∧ Q (.ref x) H2) E) : tMake C sp [] E ts σ H Q := by
  unfold tMake
  simpa only [List.append_nil] using h
/-! dicts -/
def qDGet (Q : VK) (y : V) : V → Hp → Prop := fun x H2 => ∃ a v, x = .ref a ∧ DGet H2 a y (some v) ∧ Q v H2
theorem s_dNew (h : ∀ p, H p = none → Q (.ref p) (upd H p (.dK []))) : tDNewK σ H Q := h
theorem s_dGet (h : td σ H fun x H1 => ty σ H1 fun y H2 => qDGet Q y x H2) : tDGet td ty σ H Q := h
theorem r_dGet {kvs : List (Key × V)} {k : Int} (hs : H d = some (.dK kvs)) (hv : valV kvs (Sum.inl k) = some v) (h : Q v H) : qDGet Q (.int k) (.ref d) H := ⟨d, v, rfl, by rw [← hv]; exact DGet.k (k := Sum.inl k) hs, h⟩
theorem r_dGetS {kvs : List (Key × V)} {k : Str} (hs : H d = some (.dK kvs)) (hv : valV kvs (Sum.inr k) = some v) (h : Q v H) : qDGet Q (.str k) (.ref d) H := ⟨d, v, rfl, by rw [← hv]; exact DGet.k (k := Sum.inr k) hs, h⟩
theorem r_dGetF {o : Obj} {kvs : List (Key × V)} {k : Int} (hs : H d = some (.frz o (.dK kvs))) (hv : valV kvs (Sum.inl k) = some v) (h : Q v H) : qDGet Q (.int k) (.ref d) H := ⟨d, v, rfl, by rw [← hv]; exact .inl ⟨kvs, Sum.inl k, .inr ⟨o, hs⟩, rfl, rfl⟩, h⟩
def qDIn (Q : VK) (y : V) : V → Hp → Prop := fun x H2 => ∃ a o, x = .ref a ∧ DGet H2 a y o ∧ Q (.bl o.isSome) H2
theorem s_dIn (h : ty σ H fun y H1 => td σ H1 fun x H2 => qDIn Q y x H2) : tDIn ty td σ H Q := h
theorem r_dIn {kvs : List (Key × V)} {k : Int} (hs : H d = some (.dK kvs)) (h : Q (.bl (valV kvs (Sum.inl k)).isSome) H) : qDIn Q (.int k) (.ref d) H := ⟨d, _, rfl, DGet.k (k := Sum.inl k) hs, h⟩
def qDNotIn (Q : VK) (y : V) : V → Hp → Prop := fun x H2 => ∃ a o, x = .ref a ∧ DGet H2 a y o ∧ Q (.bl (!o.isSome)) H2
theorem s_dNotIn (h : ty σ H fun y H1 => td σ H1 fun x H2 => qDNotIn Q y x H2) : tDNotIn ty td σ H Q := h
theorem r_dNotIn {kvs : List (Key × V)} {k : Int} (hs : H d = some (.dK kvs)) (h : Q (.bl (!(valV kvs (Sum.inl k)).isSome)) H) : qDNotIn Q (.int k) (.ref d) H := ⟨d, _, rfl, DGet.k (k := Sum.inl k) hs, h⟩
def qDPut (nx : L2.St → Hp → Prop) (σ : L2.St) (v y : V) : V → Hp → Prop := fun x H3 => ∃ a H4, x = .ref a ∧ DPut H3 a y v H4 ∧ nx σ H4
theorem s_dPut (h : te σ H fun v H1 => td σ H1 fun x H2 => ty σ H2 fun y H3 => qDPut nx σ v y x H3) : sDPut td ty te ⟨nx, rt, bk, ct⟩ σ H := h
theorem r_dPut {kvs : List (Key × V)} {k : Int} (hs : H d = some (.dK kvs)) (hl : kvs.length < sizeLine) (h : nx σ (upd H d (.dK (putK kvs (Sum.inl k) v)))) : qDPut nx σ v (.int k) (.ref d) H := ⟨d, _, rfl, DPut.k (k := Sum.inl k) hs hl, h⟩
theorem r_dPutS {kvs : List (Key × V)} {k : Str} (hs : H d = some (.dK kvs)) (hl : kvs.length < sizeLine) (h : nx σ (upd H d (.dK (putK kvs (Sum.inr k) v)))) : qDPut nx σ v (.str k) (.ref d) H := ⟨d, _, rfl, DPut.k (k := Sum.inr k) hs hl, h⟩
/-! loops -/
def qFor {ι : Type} (go stop : Nat → Hp → Prop) (yld : Nat → Hp → V → Hp → Prop) (g : TG) (tb : TS) (nx : L2.St → Hp → Prop) (rt : VK) (σ : L2.St) (H1 : Hp) : Prop := ∃ W : Nat → Nat → L2.St → Hp → Prop, (∃ m, W 0 m σ H1) ∧ ∀ i m σ H, W i m σ H →
  (stop i H ∧ nx σ H) ∨ (go i H ∧ ∃ N : L2.St → Hp → Prop, (∀ σ' H', N σ' H' → ∃ m', m' < m ∧ W (i + 1) m' σ' H') ∧ ∀ x H', yld i H x H' → g x σ H' fun σ2 H2 => tb ⟨N, rt, nx, N⟩ σ2 H2)
def qForL (K : PySem.W.Frag) (g : TG) (tb : TS) (nx : L2.St → Hp → Prop) (rt : VK) (σ : L2.St) : VK := fun x H1 => ∃ a, x = .ref a ∧ (∃ xs, SqL K H1 a xs) ∧ qFor (ι := Unit) (Itl K a).go (Itl K a).stop (Itl K a).yld g tb nx rt σ H1
theorem s_forL {g : TG} {tb : TS} (h : tl σ H (qForL K g tb nx rt σ)) : tFor (iList K tl) g tb ⟨nx, rt, bk, ct⟩ σ H := h
/-- for x in a list: the invariant Pv (turn, slots, heap) -/
theorem r_forL {tb : TS} {xs : List V} (Pv : Nat → L2.St → Hp → Prop) (h0 : Pv 0 σ H) (hl : ∀ i σ H, i ≤ xs.length → Pv i σ H → SqL K H p xs)
    (hs : ∀ i x σ H, xs[i]? = some x → Pv i σ H → tb ⟨Pv (i + 1), rt, nx, Pv (i + 1)⟩ (σ.set j (some x)) H) (hd : ∀ σ H, Pv xs.length σ H → nx σ H) : qForL K (gName j) tb nx rt σ (.ref p) H :=
  ⟨p, rfl, ⟨xs, hl 0 σ H (Nat.zero_le _) h0⟩, for_list (D := ⟨nx, rt, fun _ _ => False, fun _ _ => False⟩) Pv h0 hl hs hd⟩
def qForR (g : TG) (tb : TS) (nx : L2.St → Hp → Prop) (rt : VK) (σ : L2.St) : List V → Hp → Prop := fun vs H1 => ∃ n : Int, vs = [.int n] ∧ -(2 ^ 62) ≤ n ∧ n < 2 ^ 62 ∧ qFor (ι := Unit) (Itr 0 n.toNat).go (Itr 0 n.toNat).stop (Itr 0 n.toNat).yld g tb nx rt σ H1
theorem s_forR {g : TG} {tb : TS} (h : ts σ H (qForR g tb nx rt σ)) : tFor (iRng1 ts) g tb ⟨nx, rt, bk, ct⟩ σ H := h
/-- for k in range(n) -/
theorem r_forR {tb : TS} (n : Nat) (Pv : Nat → L2.St → Hp → Prop) (hn : n ≤ 1000000000) (h0 : Pv 0 σ H)
    (hs : ∀ (i : Nat) σ H, i < n → Pv i σ H → tb ⟨Pv (i + 1), rt, nx, Pv (i + 1)⟩ (σ.set j (some (.int (i : Int)))) H) (hd : ∀ σ H, Pv n σ H → nx σ H) : qForR (gName j) tb nx rt σ [.int (n : Int)] H :=
  ⟨n, rfl, by omega, by omega, by
    have e : ((n : Int)).toNat = n := Int.toNat_natCast n
    rw [e]
    exact for_range (lo := 0) (D := ⟨nx, rt, fun _ _ => False, fun _ _ => False⟩) Pv h0 (fun i σ H hi p => by
      have q := hs i σ H hi p
      show tb ⟨Pv (i + 1), rt, nx, Pv (i + 1)⟩ (σ.set j (some (.int ((0 : Int) + (i : Int))))) H
      rw [Int.zero_add]
      exact q) hd⟩
def qForV (K : PySem.W.Frag) (g : TG) (tb : TS) (nx : L2.St → Hp → Prop) (rt : VK) (σ : L2.St) : List V → Hp → Prop := fun vs H1 => ∃ (a : Addr) (xs : List V), vs = [.ref a] ∧ SqL K H1 a xs ∧ qFor (ι := Unit) (Itv K a xs.length).go (Itv K a xs.length).stop (Itv K a xs.length).yld g tb nx rt σ H1
theorem s_forV {g : TG} {tb : TS} (h : ts σ H (qForV K g tb nx rt σ)) : tFor (iRev K ts) g tb ⟨nx, rt, bk, ct⟩ σ H := h
/-- for x in reversed(a list) -/
theorem r_forV {tb : TS} {xs : List V} (Pv : Nat → L2.St → Hp → Prop) (h0 : Pv 0 σ H) (hl : ∀ i σ H, i ≤ xs.length → Pv i σ H → SqL K H p xs)
    (hs : ∀ i x σ H, xs.reverse[i]? = some x → Pv i σ H → tb ⟨Pv (i + 1), rt, nx, Pv (i + 1)⟩ (σ.set j (some x)) H) (hd : ∀ σ H, Pv xs.length σ H → nx σ H) : qForV K (gName j) tb nx rt σ [.ref p] H := by
  have hq := hl 0 σ H (Nat.zero_le _) h0
  refine ⟨p, xs, rfl, hq, fun i m σ H => m = xs.length - i ∧ i ≤ xs.length ∧ Pv i σ H, ⟨xs.length, by simp, Nat.zero_le _, h0⟩, ?_⟩
  rintro i m σ H ⟨rfl, hi, q⟩
  have hq := hl i σ H hi q
  by_cases hlt : i < xs.length
  · have e : xs[xs.length - 1 - i]? = some (xs[xs.length - 1 - i]'(by omega)) := List.getElem?_eq_getElem (by omega)
    refine .inr ⟨⟨hlt, xs, _, hq, e⟩, Pv (i + 1), fun σ' H' p' => ⟨xs.length - (i + 1), by omega, rfl, hlt, p'⟩, fun x H' y => ?_⟩
    obtain ⟨eH, y⟩ := y
    subst eH
    refine hs i x σ _ ?_ q
    rw [List.getElem?_reverse hlt]
    exact y xs hq
  · have e : i = xs.length := by omega
    subst e
    exact .inl ⟨Nat.le_refl _, hd σ H q⟩
def qForS (g : TG) (tb : TS) (nx : L2.St → Hp → Prop) (rt : VK) (σ : L2.St) : VK := fun v H1 => ∃ x, v = .str x ∧ qFor (ι := Unit) (Its x).go (Its x).stop (Its x).yld g tb nx rt σ H1
theorem s_forS {g : TG} {tb : TS} (h : te σ H (qForS g tb nx rt σ)) : tFor (iStr te) g tb ⟨nx, rt, bk, ct⟩ σ H := h
/-- while -/
def qWhile (W : Nat → L2.St → Hp → Prop) (m : Nat) (tb : TS) (nx : L2.St → Hp → Prop) (rt : VK) (σ : L2.St) : Bool → Hp → Prop := fun b H1 =>
  if b = true then ∃ N : L2.St → Hp → Prop, (∀ σ' H', N σ' H' → ∃ m', m' < m ∧ W m' σ' H') ∧ tb ⟨N, rt, nx, N⟩ σ H1 else nx σ H1
/-- while: the invariant Pv (a number that falls, slots, heap) -/
theorem r_while {tb : TS} (Pv : Nat → L2.St → Hp → Prop) (m : Nat) (h0 : Pv m σ H) (hs : ∀ m σ H, Pv m σ H → tt σ H (qWhile Pv m tb nx rt σ)) : tWhile tt tb ⟨nx, rt, bk, ct⟩ σ H := ⟨Pv, ⟨m, h0⟩, hs⟩
theorem r_w {W : Nat → L2.St → Hp → Prop} {m : Nat} {tb : TS} {b : Bool} (h1 : b = true → tb ⟨fun σ' H' => ∃ m', m' < m ∧ W m' σ' H', rt, nx, fun σ' H' => ∃ m', m' < m ∧ W m' σ' H'⟩ σ H) (h2 : b = false → nx σ H) : qWhile W m tb nx rt σ b H := by
  cases b with
  | true => exact ⟨_, fun _ _ z => z, h1 rfl⟩
  | false => exact h2 rfl
/-! comprehensions -/
def qAcc (D : Addr) (Nx : Hp → Prop) : VK := fun y H4 => ∃ acc, H4 D = some (.lst acc) ∧ acc.length < sizeLine ∧ Nx (upd H4 D (.lst (acc ++ [y])))
def qLcT (te : TE) (σ : L2.St) (D : Addr) (Nx : Hp → Prop) : Bool → Hp → Prop := fun b H3 => if b = true then te σ H3 (qAcc D Nx) else Nx H3
theorem r_acc {acc : List V} {Nx : Hp → Prop} (hs : H d = some (.lst acc)) (hl : acc.length < sizeLine) (h : Nx (upd H d (.lst (acc ++ [y])))) : qAcc d Nx y H := ⟨acc, hs, hl, h⟩
theorem r_lcY {Nx : Hp → Prop} (h : te σ H (qAcc d Nx)) : qLcT te σ d Nx true H := yes rfl h
def qLc (go stop : Nat → Hp → Prop) (yld : Nat → Hp → V → Hp → Prop) (g : TG) (tt : TT) (te : TE) (vs : List Nat) (σ : L2.St) (Q : VK) (H1 : Hp) : Prop := ∀ D, H1 D = none → ∃ W : Nat → Nat → Hp → Prop, (∃ m, W 0 m (upd H1 D (.lst []))) ∧ ∀ i m H, W i m H →
  (stop i H ∧ Q (.ref D) H) ∨ (go i H ∧ ∃ Nx : Hp → Prop, (∀ H', Nx H' → ∃ m', m' < m ∧ W (i + 1) m' H') ∧ ∀ x H', yld i H x H' → g x (wipe σ vs) H' fun σ2 H2 => wipe σ2 vs = wipe σ vs ∧ tt σ2 H2 (qLcT te σ2 D Nx))
def qLcL (K : PySem.W.Frag) (g : TG) (tt : TT) (te : TE) (vs : List Nat) (σ : L2.St) (Q : VK) : VK := fun x H1 => ∃ a, x = .ref a ∧ (∃ xs, SqL K H1 a xs) ∧ qLc (Itl K a).go (Itl K a).stop (Itl K a).yld g tt te vs σ Q H1
theorem s_lcL {g : TG} {vs : List Nat} (h : tl σ H (qLcL K g tt te vs σ Q)) : tLc (iList K tl) g tt te vs σ H Q := h
theorem r_lcL {xs : List V} (Pv : Addr → Nat → Hp → Prop) (h0 : ∀ D, H D = none → Pv D 0 (upd H D (.lst []))) (hx : SqL K H p xs) (hl : ∀ D i H, i ≤ xs.length → Pv D i H → SqL K H p xs)
    (hs : ∀ D i x H, xs[i]? = some x → Pv D i H → tt ((σ.set j none).set j (some x)) H (qLcT te ((σ.set j none).set j (some x)) D (Pv D (i + 1)))) (hd : ∀ D H, Pv D xs.length H → Q (.ref D) H) : qLcL K (gName j) tt te [j] σ Q (.ref p) H :=
  ⟨p, rfl, ⟨xs, hx⟩, fun D nD => lc_list (K := K) (Pv D) (h0 D nD) (hl D) (fun i x H hi q => ⟨by
    show (((σ.set j none).set j (some x)).set j none) = σ.set j none
    rw [List.set_set, List.set_set], hs D i x H hi q⟩) (hd D)⟩
def qLcR (g : TG) (tt : TT) (te : TE) (vs : List Nat) (σ : L2.St) (Q : VK) : List V → Hp → Prop := fun ws H1 => ∃ n : Int, ws = [.int n] ∧ -(2 ^ 62) ≤ n ∧ n < 2 ^ 62 ∧ qLc (Itr 0 n.toNat).go (Itr 0 n.toNat).stop (Itr 0 n.toNat).yld g tt te vs σ Q H1
theorem s_lcR {g : TG} {vs : List Nat} (h : ts σ H (qLcR g tt te vs σ Q)) : tLc (iRng1 ts) g tt te vs σ H Q := h
theorem r_lcR (n : Nat) (Pv : Addr → Nat → Hp → Prop) (hn : n ≤ 1000000000) (h0 : ∀ D, H D = none → Pv D 0 (upd H D (.lst [])))
    (hs : ∀ D (i : Nat) H, i < n → Pv D i H → tt ((σ.set j none).set j (some (.int i))) H (qLcT te ((σ.set j none).set j (some (.int i))) D (Pv D (i + 1)))) (hd : ∀ D H, Pv D n H → Q (.ref D) H) : qLcR (gName j) tt te [j] σ Q [.int (n : Int)] H :=
  ⟨n, rfl, by omega, by omega, by
    have e : ((n : Int)).toNat = n := Int.toNat_natCast n
    rw [e]
    intro D nD
    refine ⟨fun i m H => m = n - i ∧ i ≤ n ∧ Pv D i H, ⟨n, by simp, Nat.zero_le _, h0 D nD⟩, ?_⟩
    rintro i m H ⟨rfl, hi, q⟩
    by_cases hlt : i < n
    · refine .inr ⟨hlt, Pv D (i + 1), fun H' p' => ⟨n - (i + 1), by omega, rfl, hlt, p'⟩, fun x H' y => ?_⟩
      obtain ⟨eH, y⟩ := y
      subst eH
      have ex : x = .int (i : Int) := by rw [y]; simp
      subst ex
      exact ⟨by
        show (((σ.set j none).set j (some _)).set j none) = σ.set j none
        rw [List.set_set, List.set_set], hs D i _ hlt q⟩
    · have e : i = n := by omega
      subst e
      exact .inl ⟨Nat.le_refl _, hd D H q⟩⟩
end
/-! heaps -/
/-- p is new to H -/
def Fresh (H : Hp) (p : Addr) : Prop := H p = none
theorem keep {H : Hp} {p q : Addr} {o o' : HO} (hq : H q = some o') (hp : H p = none) : upd H p o q = some o' := by
  rw [upd_ne (ne_of_none hq hp)]
  exact hq
theorem keep_ne {H : Hp} {p q : Addr} {o o' : HO} (hq : H q = some o') (hp : q ≠ p) : upd H p o q = some o' := by
  rw [upd_ne hp]
  exact hq
theorem Same.new {H0 H : Hp} {p : Addr} {o : HO} (s : Same H0 H) (hp : H p = none) : Same H0 (upd H p o) := fun b u e => keep (s b u e) hp
theorem Same.mut {H0 H : Hp} {p : Addr} {o : HO} (s : Same H0 H) (hp : H0 p = none) : Same H0 (upd H p o) := fun b u e => keep_ne (s b u e) (ne_of_none e hp)
theorem new_free {H : Hp} {p q : Addr} {o : HO} (h : upd H p o q = none) : H q = none ∧ q ≠ p := by
  by_cases e : q = p
  · subst e; rw [upd_same] at h; cases h
  · rw [upd_ne e] at h; exact ⟨h, e⟩
theorem sql_keep {K : PySem.W.Frag} {H : Hp} {p a : Addr} {o : HO} {xs : List V} (h : SqL K H a xs) (hp : H p = none) : SqL K (upd H p o) a xs := (Same.new (Same.refl H) hp).seq h
theorem Same.sqt {K : PySem.W.Frag} {H H' : Hp} {a : Addr} {xs : List V} (e : Same H H') (h : SqT K H a xs) : SqT K H' a xs := by
  rcases h with (h | ⟨o, h⟩) | h
  · exact .inl (.inl (e _ _ h))
  · exact .inl (.inr ⟨o, e _ _ h⟩)
  · exact .inr h
theorem sqt_keep {K : PySem.W.Frag} {H : Hp} {p a : Addr} {o : HO} {xs : List V} (h : SqT K H a xs) (hp : H p = none) : SqT K (upd H p o) a xs := Same.sqt (Same.new (Same.refl H) hp) h
theorem le_line {n : Nat} (h : n ≤ 1000000) : n ≤ sizeLine := Nat.le_trans h (by decide)
theorem lt_line {n : Nat} (h : n ≤ 1000000) : n < sizeLine := Nat.lt_of_le_of_lt h (by decide)
theorem cxK {CX : CXT} {P : Program} {w : World} {K : PySem.W.Frag} {mg : Str → Option Value} {base : Heap} {N : List Str} {qual : Str} {scope : Scope} {f : Addr} {cd : Value} {A : Around} {outer : List Env} {s : Shared} {H : Hp} {E : XK} : (cxOf CX P w K mg base N qual scope f cd A outer s H E).K = K := rfl
end Tm
namespace Tm
open PySem PySem.Spec PyProof.Rows L2
/-- a step without a question: q is left of p -/
class Step (p : Prop) (q : outParam Prop) : Prop where
  imp : q → p
section
variable {K : PySem.W.Frag} {σ : L2.St} {H : Hp} {Q : VK} {B : Bool → Hp → Prop} {R : List V → Hp → Prop} {v x y z : V} {ta tb te td ty tx tl : TE} {ts : TA} {tt tu : TT} {t1 t2 : TS} {i j n : Nat} {nx bk ct : L2.St → Hp → Prop} {rt : VK} {r : R2} {p q d : Addr} {f : Str} {E : XK} {vs : List V}
instance : Step (tC v σ H Q) (Q v H) := ⟨s_C⟩
instance : Step (tOp r ta tb σ H Q) (ta σ H fun x H1 => tb σ H1 fun y H2 => r x y H2 Q) := ⟨s_op⟩
instance {u : V → Hp → VK → Prop} : Step (tUn u ta σ H Q) (ta σ H fun x H1 => u x H1 Q) := ⟨s_un⟩
instance : Step (tTest te σ H B) (te σ H (qB B)) := ⟨s_test⟩
instance : Step (tB te σ H B) (te σ H (qB B)) := ⟨s_tB⟩
instance {b : Bool} : Step (qB B (.bl b) H) (B b H) := ⟨r_qB⟩
instance : Step (tNot tt σ H B) (tt σ H fun c H1 => B (!c) H1) := ⟨s_not⟩
instance : Step (tAnd tt tu σ H B) (tt σ H fun c H1 => if c = true then tu σ H1 B else B false H1) := ⟨s_and⟩
instance : Step (tOr tt tu σ H B) (tt σ H fun c H1 => if c = true then B true H1 else tu σ H1 B) := ⟨s_or⟩
instance : Step (tNotV ta σ H Q) (ta σ H (qB fun c H1 => Q (.bl (!c)) H1)) := ⟨s_notV⟩
instance : Step (tNil σ H R) (R [] H) := ⟨s_nil⟩
instance : Step (tCons te ts σ H R) (te σ H fun x H1 => ts σ H1 fun xs H2 => R (x :: xs) H2) := ⟨s_cons⟩
instance : Step (tTup ts σ H Q) (ts σ H (qNew .tup Q)) := ⟨s_tup⟩
instance : Step (tLst ts σ H Q) (ts σ H (qNew .lst Q)) := ⟨s_lst⟩
instance {sp : Sp} : Step (tCall sp [] E ts σ H Q) (ts σ H fun vs H1 => sp vs H1 Q E) := ⟨s_call⟩
instance {sp : Sp} {E : L2.St → XK} : Step (tCallS sp E ts σ H Q) (ts σ H fun vs H1 => sp vs H1 Q (E σ)) := ⟨s_callS⟩
instance {c : List V → Hp → VK → Prop} : Step (tCB c ts σ H Q) (ts σ H fun vs H1 => c vs H1 Q) := ⟨s_CB⟩
instance {O : Option Int → Hp → Prop} : Step (tNoPart σ H O) (O none H) := ⟨s_noPart⟩
instance {O : Option Int → Hp → Prop} {i : Int} : Step (qPart O (.int i) H) (O (some i) H) := ⟨r_part⟩
instance {O : Option Int → Hp → Prop} : Step (tPart te σ H O) (te σ H (qPart O)) := ⟨s_part⟩
instance {c : V → Option Int → Option Int → Hp → VK → Prop} {a b : TO} : Step (tSl c te a b σ H Q) (te σ H fun x H1 => a σ H1 fun l H2 => b σ H2 fun u H3 => c x l u H3 Q) := ⟨s_sl⟩
instance : Step (tYes σ H B) (B true H) := ⟨s_yes⟩
instance : Step (tSeq t1 t2 ⟨nx, rt, bk, ct⟩ σ H) (t1 ⟨t2 ⟨nx, rt, bk, ct⟩, rt, bk, ct⟩ σ H) := ⟨s_seq⟩
instance : Step (tNext ⟨nx, rt, bk, ct⟩ σ H) (nx σ H) := ⟨s_next⟩
instance {g : TG} : Step (tAsg te g ⟨nx, rt, bk, ct⟩ σ H) (te σ H fun x H1 => g x σ H1 nx) := ⟨s_asg⟩
instance {N : L2.St → Hp → Prop} : Step (gName i v σ H N) (N (σ.set i (some v)) H) := ⟨s_gName⟩
instance : Step (tDrop te ⟨nx, rt, bk, ct⟩ σ H) (te σ H fun _ H1 => nx σ H1) := ⟨s_drop⟩
instance : Step (tRet te ⟨nx, rt, bk, ct⟩ σ H) (te σ H rt) := ⟨s_ret⟩
instance : Step (tIfS tt t1 t2 ⟨nx, rt, bk, ct⟩ σ H) (tt σ H fun b H1 => if b = true then t1 ⟨nx, rt, bk, ct⟩ σ H1 else t2 ⟨nx, rt, bk, ct⟩ σ H1) := ⟨s_ifS⟩
instance {g : Int → Int → V} {i j : Int} : Step (rI0 g (.int i) (.int j) H Q) (Q (g i j) H) := ⟨r_I0⟩
instance {g : Int → V} {i : Int} : Step (rU g (.int i) H Q) (Q (g i) H) := ⟨r_U⟩
instance {i j : Int} : Step (rEq (.int i) (.int j) H Q) (Q (.bl (decide (i = j))) H) := ⟨r_eqI⟩
instance {i j : Int} : Step (rNe (.int i) (.int j) H Q) (Q (.bl (!decide (i = j))) H) := ⟨r_neI⟩
instance {i j : Bool} : Step (rEq (.bl i) (.bl j) H Q) (Q (.bl (decide (i = j))) H) := ⟨r_eqB⟩
instance {i j : Bool} : Step (rNe (.bl i) (.bl j) H Q) (Q (.bl (!decide (i = j))) H) := ⟨r_neB⟩
instance {i j : Str} : Step (rEq (.str i) (.str j) H Q) (Q (.bl (decide (i = j))) H) := ⟨r_eqS⟩
instance {i j : Str} : Step (rNe (.str i) (.str j) H Q) (Q (.bl (!decide (i = j))) H) := ⟨r_neS⟩
instance {i j : Int} : Step (rMaxQ [.int i, .int j] H Q) (Q (.int (max i j)) H) := ⟨r_max⟩
instance {i j : Int} : Step (rMinQ [.int i, .int j] H Q) (Q (.int (min i j)) H) := ⟨r_min⟩
instance {b : Bool} : Step (rIntQ [.bl b] H Q) (Q (.int (if b then 1 else 0)) H) := ⟨r_int⟩
instance {T : String} {m : V → List V → Hp → VK → Prop} : Step (tBM K T m te ts σ H Q) (te σ H (qTy K T m ts σ Q)) := ⟨s_BM⟩
instance : Step (tFld K te f σ H Q) (te σ H (qFld K f Q)) := ⟨s_fld⟩
instance : Step (sFld K ta te f ⟨nx, rt, bk, ct⟩ σ H) (te σ H fun y H1 => ta σ H1 (qSFld K f nx σ y)) := ⟨s_sFld⟩
instance {C : Addr} {m : Str} {sp : Sp} : Step (tMeth C m sp [] E te ts σ H Q) (te σ H (qMeth C m sp E ts σ Q)) := ⟨s_meth⟩
instance {C : Addr} {sp : Sp} : Step (tMake C sp [] E ts σ H Q) (ts σ H fun vs H1 => ∀ x dx, H1 x = none → H1 dx = none → dx ≠ x → sp (.ref x :: vs) (upd (upd H1 dx (.own x)) x (.ins C dx [])) (fun v H2 => v = .non ∧ Q (.ref x) H2) E) := ⟨s_make⟩
instance : Step (tDGet td ty σ H Q) (td σ H fun x H1 => ty σ H1 fun y H2 => qDGet Q y x H2) := ⟨s_dGet⟩
instance : Step (tDIn ty td σ H Q) (ty σ H fun y H1 => td σ H1 fun x H2 => qDIn Q y x H2) := ⟨s_dIn⟩
instance : Step (tDNotIn ty td σ H Q) (ty σ H fun y H1 => td σ H1 fun x H2 => qDNotIn Q y x H2) := ⟨s_dNotIn⟩
instance : Step (sDPut td ty te ⟨nx, rt, bk, ct⟩ σ H) (te σ H fun v H1 => td σ H1 fun x H2 => ty σ H2 fun y H3 => qDPut nx σ v y x H3) := ⟨s_dPut⟩
instance {g : TG} {tb : TS} : Step (tFor (iList K tl) g tb ⟨nx, rt, bk, ct⟩ σ H) (tl σ H (qForL K g tb nx rt σ)) := ⟨s_forL⟩
instance {g : TG} {tb : TS} : Step (tFor (iRng1 ts) g tb ⟨nx, rt, bk, ct⟩ σ H) (ts σ H (qForR g tb nx rt σ)) := ⟨s_forR⟩
instance {g : TG} {tb : TS} : Step (tFor (iRev K ts) g tb ⟨nx, rt, bk, ct⟩ σ H) (ts σ H (qForV K g tb nx rt σ)) := ⟨s_forV⟩
instance {g : TG} {tb : TS} : Step (tFor (iStr te) g tb ⟨nx, rt, bk, ct⟩ σ H) (te σ H (qForS g tb nx rt σ)) := ⟨s_forS⟩
instance {g : TG} {vs : List Nat} : Step (tLc (iList K tl) g tt te vs σ H Q) (tl σ H (qLcL K g tt te vs σ Q)) := ⟨s_lcL⟩
instance {g : TG} {vs : List Nat} : Step (tLc (iRng1 ts) g tt te vs σ H Q) (ts σ H (qLcR g tt te vs σ Q)) := ⟨s_lcR⟩
instance {Nx : Hp → Prop} : Step (qLcT te σ d Nx true H) (te σ H (qAcc d Nx)) := ⟨r_lcY⟩
instance {A C : Prop} : Step (if true = true then A else C) A := ⟨iteT⟩
instance {A C : Prop} : Step (if false = true then A else C) C := ⟨iteF⟩
instance {A C : Prop} : Step (if (!true) = true then A else C) C := ⟨fun h => h⟩
instance {A C : Prop} : Step (if (!false) = true then A else C) A := ⟨fun h => h⟩
instance {x : Int} : Step (rIsi K [.int x, .ty "int"] H Q) (Q (.bl true) H) := ⟨isi_int_int⟩
instance {x : Int} : Step (rIsi K [.int x, .ty "bool"] H Q) (Q (.bl false) H) := ⟨isi_int_bool⟩
instance {x : Int} : Step (rIsi K [.int x, .ty "str"] H Q) (Q (.bl false) H) := ⟨isi_int_str⟩
instance {x : Int} : Step (rIsi K [.int x, .ty "list"] H Q) (Q (.bl false) H) := ⟨isi_int_list⟩
instance {x : Int} : Step (rIsi K [.int x, .ty "tuple"] H Q) (Q (.bl false) H) := ⟨isi_int_tuple⟩
instance {x : Int} : Step (rIsi K [.int x, .ty "dict"] H Q) (Q (.bl false) H) := ⟨isi_int_dict⟩
instance {x : Bool} : Step (rIsi K [.bl x, .ty "int"] H Q) (Q (.bl true) H) := ⟨isi_bool_int⟩
instance {x : Bool} : Step (rIsi K [.bl x, .ty "bool"] H Q) (Q (.bl true) H) := ⟨isi_bool_bool⟩
instance {x : Bool} : Step (rIsi K [.bl x, .ty "str"] H Q) (Q (.bl false) H) := ⟨isi_bool_str⟩
instance {x : Bool} : Step (rIsi K [.bl x, .ty "list"] H Q) (Q (.bl false) H) := ⟨isi_bool_list⟩
instance {x : Bool} : Step (rIsi K [.bl x, .ty "tuple"] H Q) (Q (.bl false) H) := ⟨isi_bool_tuple⟩
instance {x : Bool} : Step (rIsi K [.bl x, .ty "dict"] H Q) (Q (.bl false) H) := ⟨isi_bool_dict⟩
instance {x : Str} : Step (rIsi K [.str x, .ty "int"] H Q) (Q (.bl false) H) := ⟨isi_str_int⟩
instance {x : Str} : Step (rIsi K [.str x, .ty "bool"] H Q) (Q (.bl false) H) := ⟨isi_str_bool⟩
instance {x : Str} : Step (rIsi K [.str x, .ty "str"] H Q) (Q (.bl true) H) := ⟨isi_str_str⟩
instance {x : Str} : Step (rIsi K [.str x, .ty "list"] H Q) (Q (.bl false) H) := ⟨isi_str_list⟩
instance {x : Str} : Step (rIsi K [.str x, .ty "tuple"] H Q) (Q (.bl false) H) := ⟨isi_str_tuple⟩
instance {x : Str} : Step (rIsi K [.str x, .ty "dict"] H Q) (Q (.bl false) H) := ⟨isi_str_dict⟩
instance : Step (rIsi K [.non, .ty "int"] H Q) (Q (.bl false) H) := ⟨isi_NoneType_int⟩
instance : Step (rIsi K [.non, .ty "bool"] H Q) (Q (.bl false) H) := ⟨isi_NoneType_bool⟩
instance : Step (rIsi K [.non, .ty "str"] H Q) (Q (.bl false) H) := ⟨isi_NoneType_str⟩
instance : Step (rIsi K [.non, .ty "list"] H Q) (Q (.bl false) H) := ⟨isi_NoneType_list⟩
instance : Step (rIsi K [.non, .ty "tuple"] H Q) (Q (.bl false) H) := ⟨isi_NoneType_tuple⟩
instance : Step (rIsi K [.non, .ty "dict"] H Q) (Q (.bl false) H) := ⟨isi_NoneType_dict⟩
end
end Tm
namespace Tm
open PySem PySem.Spec PyProof.Rows L2
/-! trees: pairs of a folder and that under which it stands -/
abbrev Tr := List (Int × Int)
def enc (t : Tr) : List (Key × V) := t.map fun p => (Sum.inl p.1, .int p.2)
def lk (t : Tr) (k : Int) : Option Int := (t.find? fun p => decide (p.1 = k)).map (·.2)
def pt (t : Tr) (k v : Int) : Tr := if (lk t k).isSome = true then t.map (fun p => if p.1 = k then (p.1, v) else p) else t ++ [(k, v)]
def Nd (t : Tr) : Prop := (t.map (·.1)).Nodup
theorem key_inj {a b : Int} : ((Sum.inl a : Key) = Sum.inl b) ↔ a = b := ⟨fun e => Sum.inl.inj e, fun e => congrArg _ e⟩
theorem enc_length (t : Tr) : (enc t).length = t.length := by simp [enc]
theorem valV_enc (t : Tr) (k : Int) : valV (enc t) (Sum.inl k) = (lk t k).map V.int := by
  induction t with
  | nil => rfl
  | cons p r ih =>
    by_cases e : p.1 = k
    · rw [show enc (p :: r) = (Sum.inl p.1, V.int p.2) :: enc r from rfl, valV_pos (by rw [e])]
      simp [lk, e]
    · rw [show enc (p :: r) = (Sum.inl p.1, V.int p.2) :: enc r from rfl, valV_neg (fun z => e (key_inj.mp z)), ih]
      simp [lk, e]
theorem putK_enc (t : Tr) (k v : Int) : putK (enc t) (Sum.inl k) (.int v) = enc (pt t k v) := by
  unfold putK pt
  rw [valV_any, valV_enc]
  cases e : lk t k with
  | none => simp [enc]
  | some u =>
    simp only [Option.map_some, Option.isSome_some, if_true]
    simp only [enc, List.map_map]
    apply List.map_congr_left
    intro p _
    by_cases c : p.1 = k <;> simp [c]
theorem lk_pt (t : Tr) (k v j : Int) : lk (pt t k v) j = if j = k then some v else lk t j := by
  have h := valV_put (enc t) (Sum.inl k) (Sum.inl j) (.int v)
  rw [putK_enc, valV_enc, valV_enc] at h
  by_cases e : j = k
  · subst e
    rw [if_pos rfl] at h ⊢
    cases q : lk (pt t j v) j with
    | none => rw [q] at h; cases h
    | some u => rw [q] at h; simpa using h
  · rw [if_neg (fun z => e (key_inj.mp z))] at h
    rw [if_neg e]
    cases q : lk (pt t k v) j <;> cases q2 : lk t j <;> rw [q, q2] at h <;> simp_all
theorem lk_mem {t : Tr} {k v : Int} (h : lk t k = some v) : (k, v) ∈ t := by
  unfold lk at h
  cases q : t.find? fun p => decide (p.1 = k) with
  | none => rw [q] at h; cases h
  | some p =>
    rw [q] at h
    have e1 := List.find?_some q
    have e2 := List.mem_of_find?_eq_some q
    simp at e1 h
    subst e1 h
    exact e2
theorem lk_key {t : Tr} {k : Int} : (lk t k).isSome = true ↔ k ∈ t.map (·.1) := by
  unfold lk
  simp [List.find?_isSome]
theorem lk_of_mem {t : Tr} (hn : Nd t) {k v : Int} (h : (k, v) ∈ t) : lk t k = some v := by
  induction t with
  | nil => cases h
  | cons p r ih =>
    have hn' : p.1 ∉ r.map (·.1) ∧ Nd r := by
      have := hn
      unfold Nd at this
      rw [List.map_cons, List.nodup_cons] at this
      exact this
    rcases List.mem_cons.mp h with e | h
    · subst e
      simp [lk]
    · have ne : ¬ p.1 = k := fun e => hn'.1 (e ▸ List.mem_map.mpr ⟨(k, v), h, rfl⟩)
      have := ih hn'.2 h
      unfold lk at this ⊢
      simpa [List.find?_cons, ne] using this
theorem pt_keys (t : Tr) (k v : Int) : (pt t k v).map (·.1) = if (lk t k).isSome = true then t.map (·.1) else t.map (·.1) ++ [k] := by
  unfold pt
  by_cases e : (lk t k).isSome = true
  · rw [if_pos e, if_pos e, List.map_map]
    apply List.map_congr_left
    intro p _
    by_cases c : p.1 = k <;> simp [c]
  · rw [if_neg e, if_neg e, List.map_append]
    rfl
theorem Nd.pt {t : Tr} (h : Nd t) (k v : Int) : Nd (pt t k v) := by
  unfold Nd
  rw [pt_keys]
  split
  · exact h
  · rename_i e
    rw [List.nodup_append]
    refine ⟨h, by simp, ?_⟩
    intro a ha b hb
    simp at hb
    subst hb
    intro z
    subst z
    exact e (lk_key.mpr ha)
theorem pt_length (t : Tr) (k v : Int) : (pt t k v).length ≤ t.length + 1 := by
  have := congrArg List.length (pt_keys t k v)
  rw [List.length_map] at this
  rw [this]
  split <;> simp
/-- the way up -/
inductive Path (t : Tr) : Int → List Int → Prop where
  | top {f : Int} (h : lk t f = none) : Path t f [f]
  | step {f u : Int} {l : List Int} (h : lk t f = some u) (p : Path t u l) : Path t f (f :: l)
theorem Path.uniq {t : Tr} {f : Int} {l l' : List Int} (p : Path t f l) (p' : Path t f l') : l = l' := by
  induction p generalizing l' with
  | top h =>
    cases p' with
    | top _ => rfl
    | step h' _ => rw [h] at h'; cases h'
  | step h _ ih =>
    cases p' with
    | top h' => rw [h] at h'; cases h'
    | step h' q =>
      rw [h] at h'
      cases h'
      rw [ih q]
theorem Path.head {t : Tr} {f : Int} {l : List Int} (p : Path t f l) : ∃ r, l = f :: r := by
  cases p with
  | top _ => exact ⟨[], rfl⟩
  | step _ _ => exact ⟨_, rfl⟩
theorem Path.at {t : Tr} {f : Int} {l : List Int} (p : Path t f l) {x : Int} (hx : x ∈ l) : ∃ l2, Path t x l2 ∧ l2.length ≤ l.length ∧ (x ∈ l.tail → l2.length < l.length) ∧ ∀ y ∈ l2, y ∈ l := by
  induction p with
  | @top f h =>
    simp at hx
    subst hx
    exact ⟨_, .top h, Nat.le_refl _, fun z => by simp at z, fun _ z => z⟩
  | @step f u l h p ih =>
    by_cases e : x ∈ l
    · obtain ⟨l2, q, h1, _, h3⟩ := ih e
      exact ⟨l2, q, by simp; omega, fun _ => by simp; omega, fun y hy => List.mem_cons_of_mem _ (h3 y hy)⟩
    · rcases List.mem_cons.mp hx with rfl | hx
      · exact ⟨_, .step h p, Nat.le_refl _, fun z => (e z).elim, fun _ z => z⟩
      · exact (e hx).elim
theorem Path.nodup {t : Tr} {f : Int} {l : List Int} (p : Path t f l) : l.Nodup := by
  induction p with
  | top _ => simp
  | @step f u l h p ih =>
    refine List.nodup_cons.mpr ⟨fun hm => ?_, ih⟩
    have q := Path.step h p
    obtain ⟨l2, q2, _, h2, _⟩ := q.at (x := f) (List.mem_cons_of_mem _ hm)
    have e := q2.uniq q
    have := h2 hm
    rw [e] at this
    exact Nat.lt_irrefl _ this
theorem Path.keys {t : Tr} {f : Int} {l : List Int} (p : Path t f l) : ∀ x ∈ l.dropLast, x ∈ t.map (·.1) := by
  induction p with
  | top _ => simp
  | @step f u l h p ih =>
    obtain ⟨r, e⟩ := p.head
    subst e
    intro x hx
    rw [List.dropLast_cons₂] at hx
    rcases List.mem_cons.mp hx with rfl | hx
    · exact lk_key.mp (by rw [h]; rfl)
    · exact ih x hx
theorem le_of_subset {l m : List Int} (hn : l.Nodup) (hs : ∀ x ∈ l, x ∈ m) : l.length ≤ m.length := by
  induction l generalizing m with
  | nil => simp
  | cons a l ih =>
    have ha := hs a List.mem_cons_self
    obtain ⟨h1, h2⟩ := List.nodup_cons.mp hn
    have := ih (m := m.erase a) h2 fun x hx => (List.mem_erase_of_ne (by intro e; subst e; exact h1 hx)).mpr (hs x (List.mem_cons_of_mem _ hx))
    rw [List.length_erase_of_mem ha] at this
    have hp : 0 < m.length := List.length_pos_of_mem ha
    simp
    omega
theorem Path.length {t : Tr} {f : Int} {l : List Int} (p : Path t f l) : l.length ≤ t.length + 1 := by
  have h := le_of_subset (l := l.dropLast) (m := t.map (·.1)) (p.nodup.sublist (List.dropLast_sublist l)) p.keys
  rw [List.length_dropLast, List.length_map] at h
  omega
/-- no ring -/
def Acyc (t : Tr) : Prop := ∀ f, ∃ l, Path t f l
theorem Acyc.nil : Acyc [] := fun f => ⟨[f], .top rfl⟩
noncomputable def way (t : Tr) (f : Int) : List Int := by
  classical
  exact if h : ∃ l, Path t f l then Classical.choose h else [f]
theorem Path.way {t : Tr} {f : Int} {l : List Int} (p : Path t f l) : way t f = l := by
  have h : ∃ l, Path t f l := ⟨l, p⟩
  unfold Tm.way
  rw [dif_pos h]
  exact (Classical.choose_spec h).uniq p
theorem Acyc.path {t : Tr} (h : Acyc t) (f : Int) : Path t f (way t f) := by
  obtain ⟨l, p⟩ := h f
  rw [p.way]
  exact p
theorem Path.put {t : Tr} {f u : Int} {x : Int} {l : List Int} (p : Path t x l) (h : f ∉ l) : Path (pt t f u) x l := by
  induction p with
  | @top g hg =>
    have ne : ¬ g = f := fun e => h (by simp [e])
    exact .top (by rw [lk_pt, if_neg ne]; exact hg)
  | @step g v l hg p ih =>
    have ne : ¬ g = f := fun e => h (by simp [e])
    exact .step (u := v) (by rw [lk_pt, if_neg ne]; exact hg) (ih fun hm => h (List.mem_cons_of_mem _ hm))
theorem Acyc.put {t : Tr} (h : Acyc t) {f u : Int} (hu : f ∉ way t u) : Acyc (pt t f u) := by
  intro x
  have p := h.path x
  have pu : Path (pt t f u) u (way t u) := (h.path u).put hu
  generalize way t x = l at p
  induction p with
  | @top g hg =>
    by_cases e : g = f
    · subst e
      exact ⟨_, .step (by rw [lk_pt, if_pos rfl]) pu⟩
    · exact ⟨_, .top (by rw [lk_pt, if_neg e]; exact hg)⟩
  | @step g v l hg p ih =>
    by_cases e : g = f
    · subst e
      exact ⟨_, .step (by rw [lk_pt, if_pos rfl]) pu⟩
    · obtain ⟨l', q⟩ := ih
      exact ⟨_, .step (u := v) (by rw [lk_pt, if_neg e]; exact hg) q⟩
theorem way_length {t : Tr} (h : Acyc t) (f : Int) : (way t f).length ≤ t.length + 1 := (h.path f).length
theorem way_head {t : Tr} (h : Acyc t) (f : Int) : ∃ r, way t f = f :: r := (h.path f).head
/-- the tree behind putting -/
noncomputable def putT (t : Tr) (f u : Int) : Tr := if f ∈ way t u then t else pt t f u
theorem Acyc.putT {t : Tr} (h : Acyc t) (f u : Int) : Acyc (putT t f u) := by
  unfold Tm.putT
  split
  · exact h
  · rename_i e
    exact h.put e
theorem Nd.putT {t : Tr} (h : Nd t) (f u : Int) : Nd (putT t f u) := by
  unfold Tm.putT
  split
  · exact h
  · exact h.pt f u
theorem putT_length (t : Tr) (f u : Int) : (putT t f u).length ≤ t.length + 1 := by
  unfold putT
  split
  · omega
  · exact pt_length t f u
/-- two trees with the same content -/
def SameT (t t' : Tr) : Prop := ∀ k, lk t k = lk t' k
theorem flat_ints (l : List Int) : (l.map V.int).all flatV = true := by simp [flatV]
theorem inV_ints (x : Int) (l : List Int) : inV (.int x) (l.map V.int) = decide (x ∈ l) := by
  unfold inV
  rw [List.any_map]
  have e : ((fun y => eqV y (V.int x)) ∘ V.int) = fun y => decide (y = x) := by
    funext y
    show (y == x) = decide (y = x)
    by_cases c : y = x <;> simp [c]
  rw [e]
  by_cases c : x ∈ l
  · rw [decide_eq_true c]
    exact List.any_eq_true.mpr ⟨x, c, by simp⟩
  · rw [decide_eq_false c]
    refine List.any_eq_false.mpr fun y hy => ?_
    simp
    intro e
    exact c (e ▸ hy)
end Tm
namespace Tm
open PySem PySem.Spec PyProof.Rows L2
/-- a def that tells the way up: a new list -/
def spWay : Sp := fun vs H Q _ => ∃ (d : Addr) (t : Tr) (f : Int), vs = [.ref d, .int f] ∧ H d = some (.dK (enc t)) ∧ Acyc t ∧ t.length ≤ 100000 ∧ ∀ p, H p = none → Q (.ref p) (upd H p (.lst ((way t f).map V.int)))
def spBelow : Sp := fun vs H Q _ => ∃ (d : Addr) (t : Tr) (f o : Int), vs = [.ref d, .int f, .int o] ∧ H d = some (.dK (enc t)) ∧ Acyc t ∧ t.length ≤ 100000 ∧ ∀ H', Same H H' → Q (.bl (decide (o ∈ (way t f).tail))) H'
theorem c_way {H : Hp} {d : Addr} {t : Tr} {f : Int} {Q : VK} {E : XK} (hd : H d = some (.dK (enc t))) (hA : Acyc t) (hl : t.length ≤ 100000) (h : ∀ p, H p = none → Q (.ref p) (upd H p (.lst ((way t f).map V.int)))) : spWay [.ref d, .int f] H Q E := ⟨d, t, f, rfl, hd, hA, hl, h⟩
theorem c_below {H : Hp} {d : Addr} {t : Tr} {f o : Int} {Q : VK} {E : XK} (hd : H d = some (.dK (enc t))) (hA : Acyc t) (hl : t.length ≤ 100000) (h : ∀ H', Same H H' → Q (.bl (decide (o ∈ (way t f).tail))) H') : spBelow [.ref d, .int f, .int o] H Q E := ⟨d, t, f, o, rfl, hd, hA, hl, h⟩
theorem cut1 (xs : List V) : cutV xs (some 1) none = xs.tail := by
  unfold cutV
  rw [show HT.sIx xs.length 0 (some 1) = min 1 xs.length from HT.sIx_nat xs.length 0 1, HT.sIx_none]
  cases xs with
  | nil => rfl
  | cons x r =>
    have e : min 1 (x :: r).length = 1 := by simp
    rw [e]
    simp
def spCloses : Sp := fun vs H Q _ => ∃ (d : Addr) (t : Tr) (f u : Int), vs = [.ref d, .int f, .int u] ∧ H d = some (.dK (enc t)) ∧ Acyc t ∧ t.length ≤ 100000 ∧ ∀ H', Same H H' → Q (.bl (decide (f ∈ way t u))) H'
def spPut : Sp := fun vs H Q _ => ∃ (d : Addr) (t : Tr) (f u : Int), vs = [.ref d, .int f, .int u] ∧ H d = some (.dK (enc t)) ∧ Acyc t ∧ t.length ≤ 100000 ∧ ∀ p H', H p = none → Same H H' → H' p = some (.dK (enc (putT t f u))) → Q (.ref p) H'
theorem c_closes {H : Hp} {d : Addr} {t : Tr} {f u : Int} {Q : VK} {E : XK} (hd : H d = some (.dK (enc t))) (hA : Acyc t) (hl : t.length ≤ 100000) (h : ∀ H', Same H H' → Q (.bl (decide (f ∈ way t u))) H') : spCloses [.ref d, .int f, .int u] H Q E := ⟨d, t, f, u, rfl, hd, hA, hl, h⟩
theorem c_put {H : Hp} {d : Addr} {t : Tr} {f u : Int} {Q : VK} {E : XK} (hd : H d = some (.dK (enc t))) (hA : Acyc t) (hl : t.length ≤ 100000) (h : ∀ p H', H p = none → Same H H' → H' p = some (.dK (enc (putT t f u))) → Q (.ref p) H') : spPut [.ref d, .int f, .int u] H Q E := ⟨d, t, f, u, rfl, hd, hA, hl, h⟩
theorem putT_ring {t : Tr} {f u : Int} (h : f ∈ way t u) : putT t f u = t := if_pos h
theorem putT_put {t : Tr} {f u : Int} (h : ¬ f ∈ way t u) : putT t f u = pt t f u := if_neg h
theorem SameT.refl (t : Tr) : SameT t t := fun _ => rfl
end Tm
namespace Tm
open PySem PySem.Spec PyProof.Rows L2
/-! the laws' names of folders, and their tree -/
def some6 (i : Int) : Int := if i = 0 then 1 else if i = 1 then 1000000000 else if i = 2 then 100000000000000000000 else if i = 3 then 1000000000000000000000000000000000 else if i = 4 then 100000000000000000000000000000000000000000000000 else 1000000000000000000000000000000000000000000000000000000000
theorem lt6 {i : Int} (h0 : 0 ≤ i) (h : i < 6) : i = 0 ∨ i = 1 ∨ i = 2 ∨ i = 3 ∨ i = 4 ∨ i = 5 := by omega
theorem at6 {i : Int} (h0 : 0 ≤ i) (h : i < 6) : atI [V.int 1, .int 1000000000, .int 100000000000000000000, .int 1000000000000000000000000000000000, .int 100000000000000000000000000000000000000000000000, .int 1000000000000000000000000000000000000000000000000000000000] i = some (.int (some6 i)) := by
  rcases lt6 h0 h with e | e | e | e | e | e <;> subst e <;> rfl
def nameF (k c : Int) : Int :=
  if c % 4 = 1 then E60 - k else if c % 4 = 2 then 1 + (c / 24 + k * some6 (c / 4 % 6)) % E60 else if c % 4 = 3 then 1 + 7 * k else if c / 224 % 2 = 1 ∧ k % 2 = 1 then E60 - k else 1 + k
theorem name_pos {k c : Int} (h0 : 0 ≤ k) (h : k ≤ 1000) : 1 ≤ nameF k c := by
  unfold nameF
  repeat' split
  all_goals (try simp only [E60] at *); omega
theorem name_le {k c : Int} (h0 : 0 ≤ k) (h : k ≤ 1000) : nameF k c ≤ E60 := by
  unfold nameF
  repeat' split
  all_goals (try simp only [E60] at *); omega
theorem name_inj {k j c : Int} (h0 : 0 ≤ k) (h : k ≤ 100) (g0 : 0 ≤ j) (g : j ≤ 100) (e : nameF k c = nameF j c) : k = j := by
  unfold nameF at e
  by_cases c1 : c % 4 = 1
  · rw [if_pos c1, if_pos c1] at e
    omega
  · rw [if_neg c1, if_neg c1] at e
    by_cases c2 : c % 4 = 2
    · rw [if_pos c2, if_pos c2] at e
      generalize c / 24 = m at e
      rcases lt6 (i := c / 4 % 6) (by omega) (by omega) with i | i | i | i | i | i <;> rw [i] at e <;> simp only [some6, E60] at e <;> simp at e <;> omega
    · rw [if_neg c2, if_neg c2] at e
      by_cases c3 : c % 4 = 3
      · rw [if_pos c3, if_pos c3] at e
        omega
      · rw [if_neg c3, if_neg c3] at e
        split at e <;> split at e <;> (try simp only [E60] at e) <;> omega
def pickF (p n c : Int) : Int := if p = 0 then 0 else if p > n then nameF (n + 5) c else nameF (p - 1) c
def pickK (ns : List Int) (wide : Bool) (k : Int) : Int := if k > 8 then (if wide = true then 2 * (k % 3 % 2) else k + 1 - cellAt ns 3 % 2) else cellAt ns (3 + k) % (k + 2)
theorem pickK_range {ns : List Int} {wide : Bool} {k : Int} (h : 0 ≤ k) : 0 ≤ pickK ns wide k ∧ pickK ns wide k ≤ k + 1 := by
  unfold pickK
  repeat' split
  · omega
  · omega
  · refine ⟨Int.emod_nonneg _ (by omega), ?_⟩
    have := Int.emod_lt_of_pos (cellAt ns (3 + k)) (show 0 < k + 2 by omega)
    omega
def treeStep (ns : List Int) (wide : Bool) (c : Int) (t : Tr) (k : Nat) : Tr :=
  if pickK ns wide k = 0 then pt t (nameF k c) 0 else if pickK ns wide k > 1 then pt t (nameF k c) (nameF (pickK ns wide k - 2) c) else t
def lawTree (ns : List Int) (wide : Bool) (c : Int) : Nat → Tr
  | 0 => []
  | k + 1 => treeStep ns wide c (lawTree ns wide c k) k
/-- what is told ahead of the k-th -/
def Told (c : Int) (k : Nat) (x : Int) : Prop := ∃ j : Nat, j < k ∧ x = nameF j c
structure TreeOk (c : Int) (k : Nat) (t : Tr) : Prop where
  nd : Nd t
  ac : Acyc t
  len : t.length ≤ k
  mem : ∀ p ∈ t, Told c k p.1 ∧ (p.2 = 0 ∨ Told c k p.2)
theorem Told.mono {c : Int} {k j : Nat} {x : Int} (h : Told c k x) (e : k ≤ j) : Told c j x := by
  obtain ⟨i, hi, r⟩ := h
  exact ⟨i, by omega, r⟩
theorem Told.new {c : Int} {k : Nat} (hk : k ≤ 100) : ¬ Told c k (nameF k c) := fun ⟨j, hj, e⟩ => by
  have := name_inj (by omega) (by omega) (by omega) (by omega) e
  omega
theorem path_told {c : Int} {k : Nat} {t : Tr} (h : TreeOk c k t) {u : Int} {l : List Int} (p : Path t u l) (hu : u = 0 ∨ Told c k u) : ∀ x ∈ l, x = 0 ∨ Told c k x := by
  induction p with
  | top _ =>
    intro x hx
    simp at hx
    subst hx
    exact hu
  | step hl _ ih =>
    intro x hx
    rcases List.mem_cons.mp hx with rfl | hx
    · exact hu
    · exact ih (h.mem _ (lk_mem hl)).2 x hx
theorem lk_new {c : Int} {k : Nat} {t : Tr} (h : TreeOk c k t) (hk : k ≤ 100) : lk t (nameF k c) = none := by
  cases e : lk t (nameF k c) with
  | none => rfl
  | some v => exact (Told.new hk (h.mem _ (lk_mem e)).1).elim
theorem TreeOk.put {c : Int} {k : Nat} {t : Tr} (h : TreeOk c k t) (hk : k ≤ 100) {u : Int} (hu : u = 0 ∨ Told c k u) : TreeOk c (k + 1) (pt t (nameF k c) u) := by
  have hn := lk_new h hk
  have e : pt t (nameF k c) u = t ++ [(nameF k c, u)] := by unfold pt; rw [hn]; rfl
  refine ⟨h.nd.pt _ _, h.ac.put fun hm => ?_, ?_, ?_⟩
  · rcases path_told h (h.ac.path u) hu _ hm with z | z
    · have := name_pos (k := k) (c := c) (by omega) (by omega)
      omega
    · exact Told.new hk z
  · rw [e, List.length_append]
    have := h.len
    simp
    omega
  · rw [e]
    intro p hp
    rcases List.mem_append.mp hp with hp | hp
    · obtain ⟨h1, h2⟩ := h.mem p hp
      exact ⟨h1.mono (by omega), h2.imp id fun z => z.mono (by omega)⟩
    · simp at hp
      subst hp
      exact ⟨⟨k, by omega, rfl⟩, hu.imp id fun z => z.mono (by omega)⟩
theorem lawTree_ok (ns : List Int) (wide : Bool) (c : Int) : ∀ k : Nat, k ≤ 100 → TreeOk c k (lawTree ns wide c k)
  | 0, _ => ⟨List.nodup_nil, Acyc.nil, by simp [lawTree], by simp [lawTree]⟩
  | k + 1, hk => by
    have ih := lawTree_ok ns wide c k (by omega)
    have hr := pickK_range (ns := ns) (wide := wide) (k := (k : Int)) (by omega)
    show TreeOk c (k + 1) (treeStep ns wide c (lawTree ns wide c k) k)
    unfold treeStep
    split
    · exact ih.put (by omega) (.inl rfl)
    · split
      · refine ih.put (by omega) (.inr ⟨(pickK ns wide k - 2).toNat, by omega, ?_⟩)
        congr 1
        omega
      · exact ⟨ih.nd, ih.ac, Nat.le_succ_of_le ih.len, fun p hp => ⟨(ih.mem p hp).1.mono (by omega), (ih.mem p hp).2.imp id fun z => z.mono (by omega)⟩⟩
/-! promises -/
def spWhole1 : Sp := fun vs H Q _ => ∃ n : Int, vs = [.int n] ∧ Q (.bl true) H
def spName : Sp := fun vs H Q _ => ∃ k c : Int, vs = [.int k, .int c] ∧ 0 ≤ k ∧ k ≤ 1000 ∧ ∀ H', Same H H' → Q (.int (nameF k c)) H'
def spPick : Sp := fun vs H Q _ => ∃ p n c : Int, vs = [.int p, .int n, .int c] ∧ 0 ≤ p ∧ 0 ≤ n ∧ n ≤ 100 ∧ ∀ H', Same H H' → Q (.int (pickF p n c)) H'
def spTree (K : PySem.W.Frag) : Sp := fun vs H Q _ => ∃ (p : Addr) (ns : List Int) (n : Nat) (wide : Bool) (c : Int), vs = [.ref p, .int n, .bl wide, .int c] ∧ SqL K H p (ns.map V.int) ∧ n ≤ 100 ∧
  ∀ d H', H d = none → Same H H' → H' d = some (.dK (enc (lawTree ns wide c n))) → Q (.ref d) H'
/-- two lists of the same numbers -/
def spNumbers (K : PySem.W.Frag) : Sp := fun vs H Q _ => ∃ (p q : Addr) (l : List Int), vs = [.ref p, .ref q] ∧ H p = some (.lst (l.map V.int)) ∧ H q = some (.lst (l.map V.int)) ∧ l.length ≤ 100000 ∧ Q (.bl true) H
/-- two dicts of the same content -/
def spSameTree : Sp := fun vs H Q _ => ∃ (p q : Addr) (t t' : Tr), vs = [.ref p, .ref q] ∧ H p = some (.dK (enc t)) ∧ H q = some (.dK (enc t')) ∧ p ≠ q ∧ SameT t t' ∧ Nd t ∧ Nd t' ∧ t.length ≤ 100000 ∧ Q (.bl true) H
theorem nd_keys_len {t t' : Tr} (h : SameT t t') (hn : Nd t) (hn' : Nd t') : t.length = t'.length := by
  have a := le_of_subset (l := t.map (·.1)) (m := t'.map (·.1)) (show (t.map (·.1)).Nodup from hn) fun x hx => lk_key.mp (by rw [← h x]; exact lk_key.mpr hx)
  have b := le_of_subset (l := t'.map (·.1)) (m := t.map (·.1)) (show (t'.map (·.1)).Nodup from hn') fun x hx => lk_key.mp (by rw [h x]; exact lk_key.mpr hx)
  simp at a b
  omega
theorem same_at {H H' : Hp} {b : Addr} {o : HO} (s : Same H H') (h : H b = some o) : H' b = some o := s b o h
theorem sql_same {K : PySem.W.Frag} {H H' : Hp} {p : Addr} {xs : List V} (s : Same H H') (h : SqL K H p xs) : SqL K H' p xs := s.seq h
theorem sqt_same {K : PySem.W.Frag} {H H' : Hp} {p : Addr} {xs : List V} (s : Same H H') (h : SqT K H p xs) : SqT K H' p xs := Same.sqt s h
theorem upd_id {H : Hp} {b : Addr} {o o' : HO} (h : H b = some o) : upd (upd H b o') b o = H := by
  rw [upd_upd]
  funext x
  by_cases e : x = b
  · subst e; rw [upd_same, h]
  · rw [upd_ne e]
theorem c_tree {K : PySem.W.Frag} {H : Hp} {p : Addr} {ns : List Int} {n : Nat} {wide : Bool} {c : Int} {Q : VK} {E : XK} (hS : SqL K H p (ns.map V.int)) (hn : n ≤ 100) (h : ∀ d H', H d = none → Same H H' → H' d = some (.dK (enc (lawTree ns wide c n))) → Q (.ref d) H') : spTree K [.ref p, .int n, .bl wide, .int c] H Q E := ⟨p, ns, n, wide, c, rfl, hS, hn, h⟩
theorem c_numbers {K : PySem.W.Frag} {H : Hp} {p q : Addr} {l : List Int} {Q : VK} {E : XK} (hp : H p = some (.lst (l.map V.int))) (hq : H q = some (.lst (l.map V.int))) (hl : l.length ≤ 100000) (h : Q (.bl true) H) : spNumbers K [.ref p, .ref q] H Q E := ⟨p, q, l, rfl, hp, hq, hl, h⟩
theorem c_sametree {H : Hp} {p q : Addr} {t t' : Tr} {Q : VK} {E : XK} (hp : H p = some (.dK (enc t))) (hq : H q = some (.dK (enc t'))) (hne : p ≠ q) (hs : SameT t t') (hn : Nd t) (hn' : Nd t') (hl : t.length ≤ 100000) (h : Q (.bl true) H) : spSameTree [.ref p, .ref q] H Q E := ⟨p, q, t, t', rfl, hp, hq, hne, hs, hn, hn', hl, h⟩
theorem c_whole1 {H : Hp} {n : Int} {Q : VK} {E : XK} (h : Q (.bl true) H) : spWhole1 [.int n] H Q E := ⟨n, rfl, h⟩
theorem c_name {H : Hp} {k c : Int} {Q : VK} {E : XK} (h0 : 0 ≤ k) (hk : k ≤ 1000) (h : ∀ H', Same H H' → Q (.int (nameF k c)) H') : spName [.int k, .int c] H Q E := ⟨k, c, rfl, h0, hk, h⟩
theorem c_pick {H : Hp} {p n c : Int} {Q : VK} {E : XK} (h0 : 0 ≤ p) (hn : 0 ≤ n) (hn2 : n ≤ 100) (h : ∀ H', Same H H' → Q (.int (pickF p n c)) H') : spPick [.int p, .int n, .int c] H Q E := ⟨p, n, c, rfl, h0, hn, hn2, h⟩
end Tm
namespace Tm
open PySem PySem.Spec PyProof.Rows L2
section
variable {K : PySem.W.Frag} {σ : L2.St} {H : Hp} {Q : VK} {te : TE} {tt : TT} {tb : TS} {i j : Nat} {nx bk ct : L2.St → Hp → Prop} {rt : VK} {d : Addr} {t : Tr}
/-- for k in a dict: the dict is locked meanwhile -/
theorem r_forK (e : σ[i]? = some (some (.ref d))) (hd : H d = some (.dK (enc t))) (Pv : Obj → Nat → L2.St → Hp → Prop) (h0 : ∀ od, Pv od 0 σ (upd H d (.frz od (.dK (enc t))))) (hl : ∀ od i σ H, Pv od i σ H → H d = some (.frz od (.dK (enc t))))
    (hs : ∀ od i p σ H, t[i]? = some p → Pv od i σ H → tb ⟨Pv od (i + 1), fun v H' => H' d = some (.frz od (.dK (enc t))) ∧ rt v (upd H' d (.dK (enc t))), fun σ' H' => H' d = some (.frz od (.dK (enc t))) ∧ nx σ' (upd H' d (.dK (enc t))), Pv od (i + 1)⟩ (σ.set j (some (.int p.1))) H)
    (hn : ∀ od σ H, Pv od t.length σ H → nx σ (upd H d (.dK (enc t)))) : tLock (tFor (iKeys (tVar i)) (gName j) tb) ⟨nx, rt, bk, ct⟩ σ H := by
  refine ⟨d, _, hd, trivial, fun od => ?_⟩
  refine ⟨_, e, d, od, rfl, .inl ⟨enc t, upd_same, ?_⟩⟩
  refine ⟨fun i m σ H => m = t.length - i ∧ i ≤ t.length ∧ Pv od i σ H, ⟨t.length, by simp, Nat.zero_le _, h0 od⟩, ?_⟩
  rintro i m σ H ⟨rfl, hi, q⟩
  have hq := hl od i σ H q
  by_cases hlt : i < t.length
  · refine .inr ⟨⟨hq, by rw [enc_length]; exact hlt⟩, Pv od (i + 1), fun σ' H' p' => ⟨t.length - (i + 1), by omega, rfl, hlt, p'⟩, fun x H' y => ?_⟩
    obtain ⟨eH, k, v, e1, e2⟩ := y
    subst eH
    have et : t[i]? = some t[i] := List.getElem?_eq_getElem hlt
    have e3 : (enc t)[i]? = some (Sum.inl t[i].1, V.int t[i].2) := by
      unfold enc
      rw [List.getElem?_map, et]
      rfl
    rw [e3] at e1
    cases e1
    subst e2
    exact hs od i t[i] σ _ et q
  · have e : i = t.length := by omega
    subst e
    exact .inl ⟨⟨hq, by rw [enc_length]; exact Nat.le_refl _⟩, hq, hn od σ H q⟩
def qLocked (d : Addr) (od : Obj) (u : HO) (Q : VK) : VK := fun v H' => H' d = some (.frz od u) ∧ Q v (upd H' d u)
/-- [.. for k in a dict] -/
theorem r_lcK (e : σ[i]? = some (some (.ref d))) (hd : H d = some (.dK (enc t))) (Pv : Obj → Addr → Nat → Hp → Prop) (h0 : ∀ od D, H D = none → D ≠ d → Pv od D 0 (upd (upd H d (.frz od (.dK (enc t)))) D (.lst []))) (hl : ∀ od D i H, Pv od D i H → H d = some (.frz od (.dK (enc t))))
    (hs : ∀ od D i p H, t[i]? = some p → Pv od D i H → tt ((σ.set j none).set j (some (.int p.1))) H (qLcT te ((σ.set j none).set j (some (.int p.1))) D (Pv od D (i + 1))))
    (hn : ∀ od D H, Pv od D t.length H → Q (.ref D) (upd H d (.dK (enc t)))) : tLockE (tLc (iKeys (tVar i)) (gName j) tt te [j]) σ H Q := by
  refine ⟨d, _, hd, trivial, fun od => ?_⟩
  refine ⟨_, e, d, od, rfl, .inl ⟨enc t, upd_same, ?_⟩⟩
  intro D nD
  obtain ⟨nD, neD⟩ := new_free nD
  refine ⟨fun i m H => m = t.length - i ∧ i ≤ t.length ∧ Pv od D i H, ⟨t.length, by simp, Nat.zero_le _, h0 od D nD neD⟩, ?_⟩
  rintro i m H ⟨rfl, hi, q⟩
  have hq := hl od D i H q
  by_cases hlt : i < t.length
  · refine .inr ⟨⟨hq, by rw [enc_length]; exact hlt⟩, Pv od D (i + 1), fun H' p' => ⟨t.length - (i + 1), by omega, rfl, hlt, p'⟩, fun x H' y => ?_⟩
    obtain ⟨eH, k, v, e1, e2⟩ := y
    subst eH
    have et : t[i]? = some t[i] := List.getElem?_eq_getElem hlt
    have e3 : (enc t)[i]? = some (Sum.inl t[i].1, V.int t[i].2) := by
      unfold enc
      rw [List.getElem?_map, et]
      rfl
    rw [e3] at e1
    cases e1
    subst e2
    refine ⟨?_, hs od D i t[i] _ et q⟩
    show (((σ.set j none).set j (some _)).set j none) = σ.set j none
    rw [List.set_set, List.set_set]
  · have e : i = t.length := by omega
    subst e
    exact .inl ⟨⟨hq, by rw [enc_length]; exact Nat.le_refl _⟩, hq, hn od D H q⟩
end
theorem iteNT {A B : Prop} (h : B) : if (!true) = true then A else B := h
theorem iteNF {A B : Prop} (h : A) : if (!false) = true then A else B := h
theorem nd_f {p : Prop} [Decidable p] (h : p) : (!decide p) = false := by rw [decide_eq_true h]; rfl
theorem nd_t {p : Prop} [Decidable p] (h : ¬ p) : (!decide p) = true := by rw [decide_eq_false h]; rfl
theorem d_t {p : Prop} [Decidable p] (h : p) : decide p = true := decide_eq_true h
theorem d_f {p : Prop} [Decidable p] (h : ¬ p) : decide p = false := decide_eq_false h
/-! lists of numbers -/
def cutL {α : Type} (xs : List α) (lo hi : Option Int) : List α := (xs.drop (HT.sIx xs.length 0 lo)).take (HT.sIx xs.length xs.length hi - HT.sIx xs.length 0 lo)
theorem cutV_map {α : Type} (f : α → V) (xs : List α) (lo hi : Option Int) : cutV (xs.map f) lo hi = (cutL xs lo hi).map f := by
  unfold cutV cutL
  rw [List.length_map, List.map_take, List.map_drop]
theorem cutL_tail {α : Type} (xs : List α) : cutL xs (some 1) none = xs.tail := by
  unfold cutL
  rw [show HT.sIx xs.length 0 (some 1) = min 1 xs.length from HT.sIx_nat xs.length 0 1, HT.sIx_none]
  cases xs with
  | nil => rfl
  | cons x r =>
    have e : min 1 (x :: r).length = 1 := by simp
    rw [e]
    simp
theorem r_slI {K : PySem.W.Frag} {H : Hp} {Q : VK} {p : Addr} {xs : List Int} {lo hi : Option Int} (hs : SqL K H p (xs.map V.int)) (h : ∀ l, H l = none → Q (.ref l) (upd H l (.lst ((cutL xs lo hi).map V.int)))) : rSlL K (.ref p) lo hi H Q := r_slL hs (by rw [cutV_map]; exact h)
theorem r_inI {K : PySem.W.Frag} {H : Hp} {Q : VK} {p : Addr} {xs : List Int} {x : Int} (hs : SqL K H p (xs.map V.int)) (h : Q (.bl (decide (x ∈ xs))) H) : rIn K false (.int x) (.ref p) H Q := r_in hs rfl (flat_ints _) (by rw [inV_ints]; exact h)
theorem r_ninI {K : PySem.W.Frag} {H : Hp} {Q : VK} {p : Addr} {xs : List Int} {x : Int} (hs : SqL K H p (xs.map V.int)) (h : Q (.bl (!decide (x ∈ xs))) H) : rIn K true (.int x) (.ref p) H Q := r_nin hs rfl (flat_ints _) (by rw [inV_ints]; exact h)
theorem ne_new {H : Hp} {p q : Addr} {o : HO} (hp : Fresh H p) (hq : H q = some o) : p ≠ q := (ne_of_none hq hp).symm
theorem ne_new' {H : Hp} {p q : Addr} {o : HO} (hp : Fresh H p) (hq : H q = some o) : q ≠ p := ne_of_none hq hp
theorem keepR {H : Hp} {p q : Addr} {o o' : HO} (hp : Fresh H p) (hq : H q = some o') : upd H p o q = some o' := keep hq hp
theorem keep_neR {H : Hp} {p q : Addr} {o o' : HO} (hp : q ≠ p) (hq : H q = some o') : upd H p o q = some o' := keep_ne hq hp
theorem sql_keepR {K : PySem.W.Frag} {H : Hp} {p a : Addr} {o : HO} {xs : List V} (hp : Fresh H p) (h : SqL K H a xs) : SqL K (upd H p o) a xs := sql_keep h hp
theorem sqt_keepR {K : PySem.W.Frag} {H : Hp} {p a : Addr} {o : HO} {xs : List V} (hp : Fresh H p) (h : SqT K H a xs) : SqT K (upd H p o) a xs := sqt_keep h hp
theorem r_dPutI {nx : L2.St → Hp → Prop} {σ : L2.St} {H : Hp} {d : Addr} {t : Tr} {k v : Int} (hs : H d = some (.dK (enc t))) (hl : t.length ≤ 1000000) (h : nx σ (upd H d (.dK (enc (pt t k v))))) : qDPut nx σ (.int v) (.int k) (.ref d) H := r_dPut hs (by rw [enc_length]; exact lt_line hl) (by rw [putK_enc]; exact h)
theorem sm_new {H0 H : Hp} {p : Addr} {o : HO} (hp : Fresh H p) (s : Same H0 H) : Same H0 (upd H p o) := Same.new s hp
theorem sm_mut {H0 H : Hp} {p : Addr} {o : HO} (hp : Fresh H0 p) (s : Same H0 H) : Same H0 (upd H p o) := Same.mut s hp
theorem sm_trans {H0 H H' : Hp} (h : Same H H') (s : Same H0 H) : Same H0 H' := s.trans h
theorem Fresh.back {H H' : Hp} {p : Addr} (h : Fresh H' p) (s : Same H H') : Fresh H p := s.free h
def qLcU (K : PySem.W.Frag) (g : TG) (tt : TT) (te : TE) (vs : List Nat) (σ : L2.St) (Q : VK) : VK := fun x H1 => ∃ a, x = .ref a ∧ (∃ xs, SqT K H1 a xs) ∧ qLc (Itt K a).go (Itt K a).stop (Itt K a).yld g tt te vs σ Q H1
instance {K : PySem.W.Frag} {σ : L2.St} {H : Hp} {Q : VK} {te tl : TE} {tt : TT} {g : TG} {vs : List Nat} : Step (tLc (iTup K tl) g tt te vs σ H Q) (tl σ H (qLcU K g tt te vs σ Q)) := ⟨fun h => h⟩
theorem r_lcU {K : PySem.W.Frag} {σ : L2.St} {H : Hp} {Q : VK} {te : TE} {tt : TT} {j : Nat} {p : Addr} {xs : List V} (Pv : Addr → Nat → Hp → Prop) (h0 : ∀ D, H D = none → Pv D 0 (upd H D (.lst []))) (hx : SqT K H p xs) (hl : ∀ D i H, i ≤ xs.length → Pv D i H → SqT K H p xs)
    (hs : ∀ D i x H, xs[i]? = some x → Pv D i H → tt ((σ.set j none).set j (some x)) H (qLcT te ((σ.set j none).set j (some x)) D (Pv D (i + 1)))) (hd : ∀ D H, Pv D xs.length H → Q (.ref D) H) : qLcU K (gName j) tt te [j] σ Q (.ref p) H :=
  ⟨p, rfl, ⟨xs, hx⟩, fun D nD => lc_tup (K := K) (Pv D) (h0 D nD) (hl D) (fun i x H hi q => ⟨by
    show (((σ.set j none).set j (some x)).set j none) = σ.set j none
    rw [List.set_set, List.set_set], hs D i x H hi q⟩) (hd D)⟩
theorem r_cut {t u : TS} {nx bk ct : L2.St → Hp → Prop} {rt : VK} {σ : L2.St} {H : Hp} (Mid : L2.St → Hp → Prop) (h : t ⟨Mid, rt, bk, ct⟩ σ H) (h2 : ∀ σ' H', Mid σ' H' → u ⟨nx, rt, bk, ct⟩ σ' H') : Evl.tCut t u ⟨nx, rt, bk, ct⟩ σ H := ⟨Mid, h, h2⟩
instance {to ti : TE} {t : TSet} {v : V} {σ : L2.St} {H : Hp} {N : L2.St → Hp → Prop} : Step (gSub to ti t v σ H N) (to σ H fun o H1 => ti σ H1 fun i H2 => t o i v H2 fun H3 => N σ H3) := ⟨fun h => h⟩
theorem r_setL {p : Addr} {xs : List V} {k : Int} {v : V} {H : Hp} {Q : Hp → Prop} (hs : H p = some (.lst xs)) (h0 : 0 ≤ k ∧ k < xs.length) (h : Q (upd H p (.lst (xs.set k.toNat v)))) : rSetL (.ref p) (.int k) v H Q := ⟨p, xs, k, k.toNat, rfl, rfl, hs, by
  unfold ixN
  rw [if_pos h0.1, if_pos h0.2], h⟩
end Tm
namespace Tm
open PySem PySem.Spec PyProof.Rows L2
/-! moves -/
/-- a thing of a kind that isinstance knows -/
def KnownV (H : Hp) : V → Prop
  | .int _ => True
  | .bl _ => True
  | .str _ => True
  | .non => True
  | .ref a => (∃ xs, H a = some (.lst xs)) ∨ (∃ xs, H a = some (.tup xs)) ∨ ∃ kvs, H a = some (.dK kvs)
  | _ => False
theorem KnownV.same {H H' : Hp} {x : V} (s : Same H H') (h : KnownV H x) : KnownV H' x := by
  cases x <;> try exact h
  rename_i a
  rcases h with ⟨xs, h⟩ | ⟨xs, h⟩ | ⟨xs, h⟩
  · exact .inl ⟨xs, s _ _ h⟩
  · exact .inr (.inl ⟨xs, s _ _ h⟩)
  · exact .inr (.inr ⟨xs, s _ _ h⟩)
theorem KnownV.lst {H : Hp} {x : V} {l : Addr} {xs : List V} (h : KnownV H x) : KnownV (upd H l (.lst xs)) x := by
  cases x <;> try exact h
  rename_i a
  by_cases e : a = l
  · subst e
    exact .inl ⟨xs, upd_same⟩
  · show (∃ ys, upd H l (.lst xs) a = some (.lst ys)) ∨ (∃ ys, upd H l (.lst xs) a = some (.tup ys)) ∨ ∃ kvs, upd H l (.lst xs) a = some (.dK kvs)
    rw [upd_ne e]
    exact h
def isW (x : V) (l : Int) : Bool := match x with
  | .int n => decide (l ≤ n) && decide (n ≤ E60)
  | _ => false
def moveB : List V → Bool
  | [t, h, f, u] => isW t 1 && (isW h 0 && (isW f 1 && isW u 0))
  | _ => false
theorem moveB_len {xs : List V} (h : xs.length ≠ 4) : moveB xs = false := by
  match xs, h with
  | [], _ => rfl
  | [_], _ => rfl
  | [_, _], _ => rfl
  | [_, _, _], _ => rfl
  | [_, _, _, _], h => exact (h rfl).elim
  | _ :: _ :: _ :: _ :: _ :: _, _ => rfl
def spWhole : Sp := fun vs H Q _ => ∃ (x : V) (l : Int), vs = [x, .int l] ∧ KnownV H x ∧ Q (.bl (isW x l)) H
def spIsMove : Sp := fun vs H Q _ => ∃ x : V, vs = [x] ∧ ((∃ (p : Addr) (xs : List V), x = .ref p ∧ H p = some (.tup xs) ∧ (∀ y ∈ xs, KnownV H y) ∧ Q (.bl (moveB xs)) H) ∨ (KnownV H x ∧ (∀ p xs, x = .ref p → H p ≠ some (.tup xs)) ∧ Q (.bl false) H))
theorem c_whole {H : Hp} {x : V} {l : Int} {Q : VK} {E : XK} (hx : KnownV H x) (h : Q (.bl (isW x l)) H) : spWhole [x, .int l] H Q E := ⟨x, l, rfl, hx, h⟩
theorem c_isMove {H : Hp} {p : Addr} {xs : List V} {Q : VK} {E : XK} (hp : H p = some (.tup xs)) (hx : ∀ y ∈ xs, KnownV H y) (h : Q (.bl (moveB xs)) H) : spIsMove [.ref p] H Q E := ⟨_, rfl, .inl ⟨p, xs, rfl, hp, hx, h⟩⟩
theorem c_isMoveN {H : Hp} {x : V} {Q : VK} {E : XK} (hx : KnownV H x) (hn : ∀ p xs, x = .ref p → H p ≠ some (.tup xs)) (h : Q (.bl false) H) : spIsMove [x] H Q E := ⟨_, rfl, .inr ⟨hx, hn, h⟩⟩
/-- each part where it may be -/
def goodL : List V → Int → Bool
  | [], _ => true
  | x :: r, k => isW x (1 - k % 2) && goodL r (k + 1)
theorem goodL_snoc (y : V) : ∀ (xs : List V) (k : Int), goodL (xs ++ [y]) k = (goodL xs k && isW y (1 - (k + xs.length) % 2))
  | [], k => by simp [goodL]
  | x :: r, k => by
    show (isW x (1 - k % 2) && goodL (r ++ [y]) (k + 1)) = _
    rw [goodL_snoc y r (k + 1)]
    have e : k + 1 + (r.length : Int) = k + ((x :: r).length : Int) := by simp; omega
    rw [e]
    simp [goodL, Bool.and_assoc]
theorem goodL_four {xs : List V} (h : xs.length = 4) : goodL xs 0 = moveB xs := by
  match xs, h with
  | [_, _, _, _], _ => simp [goodL, moveB]
def spPart : Sp := fun vs H Q _ => ∃ c l : Int, vs = [.int c, .int l] ∧ (l = 0 ∨ l = 1) ∧ ∀ x H', Same H H' → KnownV H' x → Q x H'
theorem c_part {H : Hp} {c l : Int} {Q : VK} {E : XK} (hl : l = 0 ∨ l = 1) (h : ∀ x H', Same H H' → KnownV H' x → Q x H') : spPart [.int c, .int l] H Q E := ⟨c, l, rfl, hl, h⟩
end Tm
namespace Tm
open PySem PySem.Spec PyProof.Rows L2 TL
/-! texts and errors -/
def tRaiseQ (C : Addr) (E : XK) : TS := fun _ _ H => E (.ref C) none H
theorem ps_raiseQ {X : Cx} {E : XK} {C : Addr} {x m : Str} {j : Nat} {p p2 pos pos2 : Pos} (hc : X.calm = true) (tk : Takes X (fun cls d _ H => E cls d H)) (q : PySem.W.excIn X.K C [.type "ValueError", .type "Exception", .type "BaseException", .type "object"] "ValueError.__new__" = true) (gC : X.mg x = some (.ref C)) (kC : PySem.W.keepIn X.K (.ref C) = true)
    (hb : PySem.W.subIn X.K (.ref C) (.type "BaseException") = some true) (ht : PySem.W.typeIn X.K (.ref C) = some (.type "type")) (hg : Gl X x := by rfl) (hdb : (x == ("__debug__" : Str)) = false := by decide) :
    PS X (.Raise (some (.Call (.Name x p) [.Constant (.str m) j p2] [] pos)) none pos2) (tRaiseQ C E) := ps_raise hc tk (pmk_own PySem.F.excBase_ValueError q gC kC (raises_own hb ht) hg hdb)
section
variable {K : PySem.W.Frag} {σ : L2.St} {H : Hp} {Q : VK} {te to : TE} {nx bk ct : L2.St → Hp → Prop} {rt : VK} {E : XK} {C : Addr} {j : Nat} {y z : Str}
instance : Step (tRaiseQ C E ⟨nx, rt, bk, ct⟩ σ H) (E (.ref C) none H) := ⟨fun h => h⟩
def rInSQ : R2 := fun x y H Q => ∃ (c : Nat) (z : Str), x = .str ⟨#[c]⟩ ∧ y = .str z ∧ Q (.bl (decide (c ∈ tl z))) H
def rNotInSQ : R2 := fun x y H Q => ∃ (c : Nat) (z : Str), x = .str ⟨#[c]⟩ ∧ y = .str z ∧ Q (.bl (!decide (c ∈ tl z))) H
theorem op_inSQ {X : Cx} : OpR X (compareOp .In) rInSQ := op_in_sign
theorem op_notInSQ {X : Cx} : OpR X (compareOp .NotIn) rNotInSQ := op_notIn_sign
instance {c : Nat} : Step (rInSQ (.str ⟨#[c]⟩) (.str z) H Q) (Q (.bl (decide (c ∈ tl z))) H) := ⟨fun h => ⟨c, z, rfl, rfl, h⟩⟩
instance {c : Nat} : Step (rNotInSQ (.str ⟨#[c]⟩) (.str z) H Q) (Q (.bl (!decide (c ∈ tl z))) H) := ⟨fun h => ⟨c, z, rfl, rfl, h⟩⟩
def rAddSQ : R2 := fun x y H Q => ∃ i j, x = .str i ∧ y = .str j ∧ i.length + j.length ≤ sizeLine ∧ Q (.str (i ++ j)) H
theorem op_addSQ {X : Cx} : OpR X (binaryOp .Add) rAddSQ := op_add_str
theorem r_addS (hl : y.length + z.length ≤ 1000000) (h : Q (.str (y ++ z)) H) : rAddSQ (.str y) (.str z) H Q := ⟨y, z, rfl, rfl, Nat.le_trans hl (by decide), h⟩
def rLenSQ : List V → Hp → VK → Prop := fun xs H Q => ∃ z : Str, xs = [.str z] ∧ z.length ≤ sizeLine ∧ Q (.int z.length) H
theorem call_lenSQ {X : Cx} : CallR X (.builtin "len") rLenSQ := call_len_str
theorem r_lenS (hl : z.length ≤ 1000000) (h : Q (.int z.length) H) : rLenSQ [.str z] H Q := ⟨z, rfl, Nat.le_trans hl (by decide), h⟩
def rStrQ : List V → Hp → VK → Prop := fun xs H Q => ∃ i, xs = [.int i] ∧ i.natAbs.log2 < 1920 ∧ Q (.str (toString i)) H
theorem call_strQ {X : Cx} : CallR X (.type "str") rStrQ := call_str_int
theorem r_str {n : Nat} (hl : n.log2 < 1920) (h : Q (.str (Str.ofString (toString (n : Int)))) H) : rStrQ [.int (n : Int)] H Q := ⟨n, rfl, by rw [Int.natAbs_natCast]; exact hl, h⟩
def rIntSQ : List V → Hp → VK → Prop := fun xs H Q => ∃ a n, xs = [.str a] ∧ PySem.intText? a = some n ∧ a.length ≤ 640 ∧ Q (.int n) H
theorem call_intSQ {X : Cx} : CallR X (.type "int") rIntSQ := call_int_str
theorem r_intS {n : Int} (e : PySem.intText? z = some n) (hl : z.length ≤ 640) (h : Q (.int n) H) : rIntSQ [.str z] H Q := ⟨z, n, rfl, e, hl, h⟩
theorem r_ixS {i : Int} {c : Nat} (hl : z.length ≤ 1000000) (ha : atI (tl z) i = some c) (h : Q (.str ⟨#[c]⟩) H) : rIxS (.str z) (.int i) H Q := ⟨z, i, c, rfl, rfl, Nat.le_trans hl (by decide), ha, h⟩
theorem r_slS {lo hi : Option Int} (hl : z.length ≤ 1000000) (h : Q (.str (cutS z lo hi)) H) : rSlS (.str z) lo hi H Q := ⟨z, rfl, Nat.le_trans hl (by decide), h⟩
def rSplitQ : V → List V → Hp → VK → Prop := fun x xs H Q => ∃ a b, x = .str a ∧ xs = [.str b] ∧ (b.length == 0) = false ∧ a.length + 2 ≤ sizeLine ∧ rNewStrs (Txt.split a b) H Q
def qStr (m : V → List V → Hp → VK → Prop) (te : TE) (σ : L2.St) (Q : VK) : VK := fun x H1 => (∃ a, x = .str a) ∧ te σ H1 fun y H2 => m x [y] H2 Q
instance {m : V → List V → Hp → VK → Prop} : Step (tM1 m to te σ H Q) (to σ H (qStr m te σ Q)) := ⟨fun h => h⟩
instance {m : V → List V → Hp → VK → Prop} : Step (qStr m te σ Q (.str z) H) (te σ H fun y H2 => m (.str z) [y] H2 Q) := ⟨fun h => ⟨⟨z, rfl⟩, h⟩⟩
theorem pe_splitQ {X : Cx} {e o : Expr} {apos pos : Pos} (ho : PE X o to) (he : PE X e te) (hs : starEach [e] X.env = [(false, eval e X.env)] := by rfl) (hbase : attributeBase o "split" X.env (eval o X.env) = eval o X.env := by rfl) (hline : (apos.endLine == pos.line) = true := by rfl) :
    PE X (.Call (.Attribute o "split" apos) [e] [] pos) (tM1 rSplitQ to te) := pe_split ho he hs hbase hline
theorem r_split (hb : (y.length == 0) = false) (hl : z.length ≤ 1000000) (h : ∀ p, H p = none → Q (.ref p) (upd H p (.lst ((Txt.split z y).map V.str)))) : rSplitQ (.str z) [.str y] H Q := ⟨z, y, rfl, rfl, hb, Nat.le_trans (Nat.add_le_add_right hl 2) (by decide), h⟩
def rJoinQ (K : PySem.W.Frag) : V → List V → Hp → VK → Prop := fun x xs H Q => ∃ a p, ∃ ys : List Str, x = .str a ∧ xs = [.ref p] ∧ (SqL K H p (ys.map V.str) ∨ SqT K H p (ys.map V.str)) ∧ (ys.map (·.length)).sum + ys.length * a.length ≤ 16777216 ∧ Q (.str (Txt.join a ys)) H
theorem pe_joinQ {X : Cx} {e o : Expr} {apos pos : Pos} (ho : PE X o to) (he : PE X e te) (hs : starEach [e] X.env = [(false, eval e X.env)] := by rfl) (hbase : attributeBase o "join" X.env (eval o X.env) = eval o X.env := by rfl) (hline : (apos.endLine == pos.line) = true := by rfl) :
    PE X (.Call (.Attribute o "join" apos) [e] [] pos) (tM1 (rJoinQ X.K) to te) := pe_join ho he hs hbase hline
theorem r_join {p : Addr} {ys : List Str} (hs : SqL K H p (ys.map V.str)) (hl : (ys.map (·.length)).sum + ys.length * z.length ≤ 16777216) (h : Q (.str (Txt.join z ys)) H) : rJoinQ K (.str z) [.ref p] H Q := ⟨z, p, ys, rfl, rfl, .inl hs, hl, h⟩
/-- for c in a text -/
theorem r_forS {tb : TS} (Pv : Nat → L2.St → Hp → Prop) (h0 : Pv 0 σ H) (hs : ∀ i c σ H, (tl z)[i]? = some c → Pv i σ H → tb ⟨Pv (i + 1), rt, nx, Pv (i + 1)⟩ (σ.set j (some (.str ⟨#[c]⟩))) H) (hd : ∀ σ H, Pv z.length σ H → nx σ H) : qForS (gName j) tb nx rt σ (.str z) H := by
  refine ⟨z, rfl, fun i m σ H => m = z.length - i ∧ i ≤ z.length ∧ Pv i σ H, ⟨z.length, by simp, Nat.zero_le _, h0⟩, ?_⟩
  rintro i m σ H ⟨rfl, hi, q⟩
  by_cases hlt : i < z.length
  · refine .inr ⟨hlt, Pv (i + 1), fun σ' H' p' => ⟨z.length - (i + 1), by omega, rfl, hlt, p'⟩, fun x H' y => ?_⟩
    obtain ⟨eH, c, e1, e2⟩ := y
    subst eH
    subst e2
    refine hs i c σ _ ?_ q
    show z.cps.toList[i]? = some c
    rw [Array.getElem?_toList]
    exact e1
  · have e : i = z.length := by omega
    subst e
    exact .inl ⟨Nat.le_refl _, hd σ H q⟩
end
theorem tl_length (z : Str) : (tl z).length = z.length := by
  show z.cps.toList.length = z.cps.size
  simp
/-- a word that is a number written -/
def OkW (z : Str) : Prop := NumText.AllDigits (tl z) ∧ tl z ≠ [] ∧ ¬ (1 < z.length ∧ (tl z).head? = some 48) ∧ z.length ≤ 61
def numV (z : Str) : Int := ((NumText.digitsVal (tl z) : Nat) : Int)
theorem numV_text {z : Str} (h : OkW z) : PySem.intText? z = some (numV z) := PySem.intText_digits h.1 h.2.1 (by have := h.2.2.2; omega)
theorem numV_nonneg (z : Str) : 0 ≤ numV z := by unfold numV; omega
theorem fig_mem {c : Nat} : c ∈ tl ("0123456789" : Str) ↔ 48 ≤ c ∧ c ≤ 57 := by
  have e : tl ("0123456789" : Str) = [48, 49, 50, 51, 52, 53, 54, 55, 56, 57] := by decide +kernel
  rw [e]
  simp
  omega
def spNum (C : Addr) : Sp := fun vs H Q E => ∃ z : Str, vs = [.str z] ∧ z.length ≤ 100000 ∧ (OkW z → Q (.int (numV z)) H) ∧ (¬ OkW z → E (.ref C) none H)
theorem one_zero {c : Nat} : ((⟨#[c]⟩ : Str) = "0") ↔ c = 48 := by
  have e : ("0" : Str) = ⟨#[48]⟩ := by decide +kernel
  rw [e]
  constructor
  · intro h
    injection h with h
    injection h with h
    injection h
  · intro h
    rw [h]
theorem c_num {C : Addr} {H : Hp} {z : Str} {Q : VK} {E : XK} (hl : z.length ≤ 100000) (h : OkW z → Q (.int (numV z)) H) (h2 : ¬ OkW z → E (.ref C) none H) : spNum C [.str z] H Q E := ⟨z, rfl, hl, h, h2⟩
/-- a line that is read: its words, each a number, in their bounds -/
def LineOk (z : Str) : Prop := ∃ w1 w2 w3 w4 : Str, Txt.split z " " = [w1, w2, w3, w4] ∧ OkW w1 ∧ OkW w2 ∧ OkW w3 ∧ OkW w4 ∧ 1 ≤ numV w1 ∧ 1 ≤ numV w3 ∧ numV w1 ≤ E60 ∧ numV w2 ≤ E60 ∧ numV w3 ≤ E60 ∧ numV w4 ≤ E60
def spRead (C : Addr) : Sp := fun vs H Q E => ∃ z : Str, vs = [.str z] ∧ z.length ≤ 10000 ∧
  (∀ w1 w2 w3 w4 p H', Txt.split z " " = [w1, w2, w3, w4] → LineOk z → H p = none → Same H H' → H' p = some (.tup [.int (numV w1), .int (numV w2), .int (numV w3), .int (numV w4)]) → Q (.ref p) H') ∧ (¬ LineOk z → ∀ H', Same H H' → E (.ref C) none H')
theorem joinL_le {S : List Nat} {p : List Nat} : ∀ {parts : List (List Nat)}, p ∈ parts → p.length ≤ (joinL S parts).length
  | [q], h => by
    rw [List.mem_singleton.mp h]
    exact Nat.le_refl _
  | q :: r :: t, h => by
    show p.length ≤ (q ++ (S ++ joinL S (r :: t))).length
    rw [List.length_append, List.length_append]
    rcases List.mem_cons.mp h with rfl | h
    · omega
    · have := joinL_le (S := S) h
      omega
theorem split_le {z y w : Str} (h : w ∈ Txt.split z y) : w.length ≤ z.length := by
  have e := PySem.StrLaws.join_split z y
  have e2 := congrArg tl e
  rw [tl_join] at e2
  have := joinL_le (S := tl y) (p := tl w) (List.mem_map.mpr ⟨w, h, rfl⟩)
  rw [e2, tl_length, tl_length] at this
  exact this
def txt (n : Int) : Str := Str.ofString (toString n)
theorem tl_txt {n : Int} (h : 0 ≤ n) : tl (txt n) = numL n.toNat := by
  have e : n = ((n.toNat : Nat) : Int) := by omega
  rw [e]
  exact tl_num n.toNat
theorem lt_pow {n : Nat} (h : n ≤ 1000000000000000000000000000000000000000000000000000000000000) : n < 10 ^ 61 := Nat.lt_of_le_of_lt h (by decide)
theorem txt_len {n : Int} (h : 0 ≤ n) (h2 : n ≤ E60) : (txt n).length ≤ 61 := by
  rw [← tl_length, tl_txt h]
  refine numL_len (by decide) (lt_pow ?_)
  simp [E60] at h2
  omega
theorem numL_nozero : ∀ n : Nat, 1 < (numL n).length → (numL n).head? ≠ some 48 := fun n => by
  induction n using Nat.strongRecOn with
  | _ n ih =>
    intro h
    by_cases h10 : n < 10
    · rw [numL_lt h10] at h
      simp at h
    · rw [numL_step (by omega)]
      have hne := numL_ne (n / 10)
      rw [List.head?_append, show (numL (n / 10)).head?.or ([48 + n % 10] : List Nat).head? = (numL (n / 10)).head? from by
        cases hz : numL (n / 10) with
        | nil => exact (hne hz).elim
        | cons x r => rfl]
      by_cases h2 : n / 10 < 10
      · rw [numL_lt h2]
        simp
        omega
      · refine ih (n / 10) (by omega) ?_
        rw [numL_step (by omega), List.length_append]
        have := List.length_pos_iff.mpr (numL_ne (n / 10 / 10))
        simp
        omega
theorem txt_ok {n : Int} (h : 0 ≤ n) (h2 : n ≤ E60) : OkW (txt n) := by
  have e := tl_txt h
  refine ⟨by rw [e]; exact numL_digits _, by rw [e]; exact numL_ne _, ?_, txt_len h h2⟩
  rintro ⟨h1, h3⟩
  rw [e] at h3
  rw [← tl_length, e] at h1
  exact numL_nozero _ h1 h3
theorem txt_val {n : Int} (h : 0 ≤ n) : numV (txt n) = n := by
  unfold numV
  rw [tl_txt h, numL_val]
  omega
theorem txt_nosp {n : Int} (h : 0 ≤ n) : (32 : Nat) ∉ tl (txt n) := by
  rw [tl_txt h]
  exact numL_free (by omega)
theorem split_four {a b c d : Int} (ha : 0 ≤ a) (hb : 0 ≤ b) (hc : 0 ≤ c) (hd : 0 ≤ d) : Txt.split (Txt.join " " [txt a, txt b, txt c, txt d]) " " = [txt a, txt b, txt c, txt d] := by
  refine split_join (s := 32) (S := []) (by decide +kernel) (by decide +kernel) (by simp) ?_
  intro p hp
  simp at hp
  rcases hp with rfl | rfl | rfl | rfl
  · exact txt_nosp ha
  · exact txt_nosp hb
  · exact txt_nosp hc
  · exact txt_nosp hd
theorem log_ok {n : Int} (h : 0 ≤ n) (h2 : n ≤ E60) : n.natAbs.log2 < 1920 := by
  have h3 : n.natAbs < 2 ^ 1920 := by
    simp [E60] at h2
    have : n.natAbs ≤ 1000000000000000000000000000000000000000000000000000000000000 := by omega
    exact Nat.lt_of_le_of_lt this (by decide +kernel)
  by_cases h0 : n.natAbs = 0
  · rw [h0]
    decide
  · exact (Nat.log2_lt h0).mpr h3
theorem r_strI {n : Int} {H : Hp} {Q : VK} (h0 : 0 ≤ n) (h1 : n ≤ E60) (h : Q (.str (txt n)) H) : rStrQ [.int n] H Q := ⟨n, rfl, log_ok h0 h1, h⟩
/-- a move's four numbers -/
structure Mv where
  t : Int
  h : Int
  f : Int
  u : Int
deriving DecidableEq
def Mv.vs (m : Mv) : List V := [.int m.t, .int m.h, .int m.f, .int m.u]
structure Mv.Ok (m : Mv) : Prop where
  t1 : 1 ≤ m.t
  t2 : m.t ≤ E60
  h1 : 0 ≤ m.h
  h2 : m.h ≤ E60
  f1 : 1 ≤ m.f
  f2 : m.f ≤ E60
  u1 : 0 ≤ m.u
  u2 : m.u ≤ E60
def spWritten : Sp := fun vs H Q _ => ∃ (p : Addr) (m : Mv), vs = [.ref p] ∧ H p = some (.tup m.vs) ∧ m.Ok ∧ ∀ H', Same H H' → Q (.str (Txt.join " " [txt m.t, txt m.h, txt m.f, txt m.u])) H'
def spSameMove : Sp := fun vs H Q _ => ∃ (p q : Addr) (m : Mv), vs = [.ref p, .ref q] ∧ H p = some (.tup m.vs) ∧ H q = some (.tup m.vs) ∧ Q (.bl true) H
theorem c_sameMove {H : Hp} {p q : Addr} {m : Mv} {Q : VK} {E : XK} (hp : H p = some (.tup m.vs)) (hq : H q = some (.tup m.vs)) (h : Q (.bl true) H) : spSameMove [.ref p, .ref q] H Q E := ⟨p, q, m, rfl, hp, hq, h⟩
theorem len_app (x y : Str) : (x ++ y : Str).length = x.length + y.length := by
  rw [← tl_length, tl_append, List.length_append, tl_length, tl_length]
theorem join_four (a b c d : Str) : a ++ " " ++ b ++ " " ++ c ++ " " ++ d = Txt.join " " [a, b, c, d] := by
  refine ext_tl ?_
  rw [join_eq, tl_join]
  simp [tl_append, joinL]
theorem len_blank : (" " : Str).length = 1 := by decide +kernel
theorem c_written {H : Hp} {p : Addr} {m : Mv} {Q : VK} {E : XK} (hp : H p = some (.tup m.vs)) (ok : m.Ok) (h : ∀ H', Same H H' → Q (.str (Txt.join " " [txt m.t, txt m.h, txt m.f, txt m.u])) H') : spWritten [.ref p] H Q E := ⟨p, m, rfl, hp, ok, h⟩
/-- isinstance(e, c), e the error that a suite holds -/
def rIsEQ (K : PySem.W.Frag) (a : Addr) (cls : Value) (d : Option Addr) : List V → Hp → VK → Prop := fun xs H Q => ∃ D, cls = .ref D ∧ d = none ∧ ExcC K D ∧ rIsE K D a xs H Q
theorem call_isEQ {X : Cx} {a : Addr} {oe : Obj} {pn : List (Addr × Obj)} {cls : Value} {d : Option Addr} (hz : Zc cls d oe) (hf : ∃ vs, oe.data = .fields vs) : CallR (X.suite a ((a, oe) :: pn)) (.builtin "isinstance") (rIsEQ X.K a cls d) := by
  intro pins s σ H xs us Q I r h
  obtain ⟨D, rfl, rfl, hC, h⟩ := h
  exact call_isE hC hz hf pins s σ H xs us Q I r h
theorem kit_val {K : PySem.W.Frag} {D : Addr} (h : PySem.W.subIn K (.ref D) (.type "ValueError") = some true) : PySem.W.kitOne K (.ref D) (.type "ValueError") = some true := by
  have m : PySem.W.kitMeta "ValueError" = true := by decide +kernel
  show (if ((Value.ref D) == (Value.type "ValueError")) = true then some true else if PySem.W.kitMeta "ValueError" = true then PySem.W.subIn K (.ref D) (.type "ValueError") else none) = some true
  rw [m, h]
  split <;> rfl
theorem kit_own {K : PySem.W.Frag} {S C : Addr} {b : Bool} (h2 : PySem.W.isClsIn K S = true) (h3 : PySem.W.typeIn K (.ref S) = some (.type "type")) (h4 : PySem.W.subIn K (.ref C) (.ref S) = some b) (hb : (C = S → b = true)) : PySem.W.kitOne K (.ref C) (.ref S) = some b := by
  have e2 : ((PySem.W.clsIn K S).isSome && PySem.W.typeIn K (.ref S) == some (.type "type")) = true := by
    have h2' : (PySem.W.clsIn K S).isSome = true := h2
    rw [h2', h3] <;> rfl
  show (if (Value.ref C == Value.ref S) = true then some true else if ((PySem.W.clsIn K S).isSome && PySem.W.typeIn K (.ref S) == some (.type "type")) = true then PySem.W.subIn K (.ref C) (.ref S) else none) = some b
  by_cases e : C = S
  · rw [hb e, e]
    simp
  · rw [if_neg (by simpa using e), if_pos e2]
    exact h4
theorem r_isE {K : PySem.W.Frag} {a D : Addr} {c : V} {cv : Value} {b : Bool} {H : Hp} {Q : VK} (hC : ExcC K D) (hc : ∀ u, RelV c u → u = cv) (hk : PySem.W.kitOne K (.ref D) cv = some b) (h : Q (.bl b) H) : rIsEQ K a (.ref D) none [.ref a, c] H Q := ⟨D, rfl, rfl, hC, c, cv, b, rfl, hc, hk, h⟩
def spDue : Sp := fun vs H Q _ => ∃ z : Str, vs = [.str z] ∧ z.length ≤ 10000 ∧
  (∀ w1 w2 w3 w4 p H', Txt.split z " " = [w1, w2, w3, w4] → LineOk z → H p = none → Same H H' → H' p = some (.tup [.int (numV w1), .int (numV w2), .int (numV w3), .int (numV w4)]) → Q (.ref p) H') ∧ (¬ LineOk z → ∀ H', Same H H' → Q .non H')
def OkAt (ws : List Str) (k : Nat) : Prop := ∃ w, ws[k]? = some w ∧ OkW w ∧ 1 - (k : Int) % 2 ≤ numV w ∧ numV w ≤ E60
theorem line_iff {z : Str} {w1 w2 w3 w4 : Str} (h : Txt.split z " " = [w1, w2, w3, w4]) : LineOk z ↔ ∀ k < 4, OkAt [w1, w2, w3, w4] k := by
  constructor
  · rintro ⟨v1, v2, v3, v4, hv, o1, o2, o3, o4, b1, b3, c1, c2, c3, c4⟩
    rw [h] at hv
    simp at hv
    obtain ⟨rfl, rfl, rfl, rfl⟩ := hv
    intro k hk
    match k, hk with
    | 0, _ => exact ⟨_, rfl, o1, b1, c1⟩
    | 1, _ => exact ⟨_, rfl, o2, numV_nonneg _, c2⟩
    | 2, _ => exact ⟨_, rfl, o3, b3, c3⟩
    | 3, _ => exact ⟨_, rfl, o4, numV_nonneg _, c4⟩
  · intro H
    obtain ⟨v1, e1, o1, b1, c1⟩ := H 0 (by omega)
    obtain ⟨v2, e2, o2, b2, c2⟩ := H 1 (by omega)
    obtain ⟨v3, e3, o3, b3, c3⟩ := H 2 (by omega)
    obtain ⟨v4, e4, o4, b4, c4⟩ := H 3 (by omega)
    simp at e1 e2 e3 e4
    subst e1 e2 e3 e4
    exact ⟨_, _, _, _, h, o1, o2, o3, o4, b1, b3, c1, c2, c3, c4⟩
def rRepSQ : R2 := fun x y H Q => ∃ (z : Str) (n : Int), x = .str z ∧ y = .int n ∧ PySem.MulOk z n ∧ Q (.str (PySem.Txt.mul z n)) H
theorem op_repSQ {X : Cx} : OpR X (binaryOp .Mult) rRepSQ := by
  intro pins s σ H x y v u Q I rx ry h
  obtain ⟨i, j, rfl, rfl, hz, q⟩ := h
  obtain ⟨t, rfl⟩ := rx
  obtain ⟨t', rfl⟩ := ry
  exact PySem.SB.mul hz (fun t' tk => ⟨.str (PySem.Txt.mul i j), H, I.tok _, ⟨_, rfl⟩, q⟩)
theorem foldl_size (x : Array Nat) : ∀ (n : Nat) (acc : Array Nat), ((List.replicate n x).foldl (· ++ ·) acc).size = acc.size + n * x.size
  | 0, acc => by simp
  | n + 1, acc => by
    rw [List.replicate_succ, List.foldl_cons, foldl_size x n (acc ++ x), Array.size_append, Nat.succ_mul]
    omega
theorem mul_len {z : Str} {n : Int} (h : z.length = 1) : (PySem.Txt.mul z n).length ≤ n.toNat + 1 := by
  unfold PySem.Txt.mul
  split
  · exact Nat.zero_le _
  · split
    · rw [h]
      omega
    · show ((List.replicate n.toNat z.cps).foldl (· ++ ·) #[]).size ≤ n.toNat + 1
      rw [foldl_size]
      have : z.cps.size = 1 := h
      rw [this]
      simp
theorem r_repS {z : Str} {n : Int} {H : Hp} {Q : VK} (h1 : z.length = 1) (h2 : 1 < n) (h3 : n ≤ 100000) (h : ∀ y : Str, y.length ≤ n.toNat + 1 → Q (.str y) H) : rRepSQ (.str z) (.int n) H Q := by
  refine ⟨z, n, rfl, rfl, ⟨by simp; omega, fun _ _ => ?_, fun _ _ => ?_⟩, h _ (mul_len h1)⟩
  · rw [h1]
    have : 1 ≤ (2 ^ 63 - 1) / n := by
      rw [Int.le_ediv_iff_mul_le (by omega)]
      omega
    omega
  · rw [h1]
    unfold PySem.Builtin.Str.tooLong
    have : (1 * n.toNat : Nat) ≤ sizeLine := Nat.le_trans (show 1 * n.toNat ≤ 1000000 by omega) (by decide)
    simp at this ⊢
    omega
theorem at_some {α : Type} {xs : List α} {i : Int} (h0 : 0 ≤ i) (h : i < xs.length) : ∃ v, v ∈ xs ∧ atI xs i = some v := by
  have hk : i.toNat < xs.length := by omega
  refine ⟨xs[i.toNat], List.getElem_mem _, ?_⟩
  have e := atI_nat (xs := xs) (j := i.toNat) (v := xs[i.toNat]) (List.getElem?_eq_getElem hk)
  rwa [Int.toNat_of_nonneg h0] at e
theorem r_strB {n : Int} {H : Hp} {Q : VK} (h0 : 0 ≤ n) (h1 : n ≤ E60 + 1) (h : ∀ z : Str, z.length ≤ 100 → Q (.str z) H) : rStrQ [.int n] H Q := by
  have hb : n.natAbs ≤ 1000000000000000000000000000000000000000000000000000000000001 := by
    simp only [E60] at h1
    omega
  have h3 : n.natAbs.log2 < 1920 := by
    by_cases h0 : n.natAbs = 0
    · rw [h0]
      decide
    · exact (Nat.log2_lt h0).mpr (Nat.lt_of_le_of_lt hb (by decide +kernel))
  refine ⟨n, rfl, h3, h (txt n) ?_⟩
  rw [← tl_length, tl_txt h0]
  exact Nat.le_trans (numL_len (k := 61) (by decide) (Nat.lt_of_le_of_lt (show n.toNat ≤ 1000000000000000000000000000000000000000000000000000000000001 by omega) (by decide))) (by decide)
theorem c_read {C : Addr} {H : Hp} {z : Str} {Q : VK} {E : XK} (hl : z.length ≤ 10000) (h1 : ∀ w1 w2 w3 w4 p H', Txt.split z " " = [w1, w2, w3, w4] → LineOk z → H p = none → Same H H' → H' p = some (.tup [.int (numV w1), .int (numV w2), .int (numV w3), .int (numV w4)]) → Q (.ref p) H') (h2 : ¬ LineOk z → ∀ H', Same H H' → E (.ref C) none H') : spRead C [.str z] H Q E := ⟨z, rfl, hl, h1, h2⟩
theorem c_due {H : Hp} {z : Str} {Q : VK} {E : XK} (hl : z.length ≤ 10000) (h1 : ∀ w1 w2 w3 w4 p H', Txt.split z " " = [w1, w2, w3, w4] → LineOk z → H p = none → Same H H' → H' p = some (.tup [.int (numV w1), .int (numV w2), .int (numV w3), .int (numV w4)]) → Q (.ref p) H') (h2 : ¬ LineOk z → ∀ H', Same H H' → Q .non H') : spDue [.str z] H Q E := ⟨z, rfl, hl, h1, h2⟩
theorem r_ixL_any {K : PySem.W.Frag} {H : Hp} {Q : VK} {p : Addr} {xs : List V} {i : Int} (hs : SqL K H p xs) (h0 : 0 ≤ i) (h1 : i < xs.length) (h : ∀ v ∈ xs, Q v H) : rIxL K (.ref p) (.int i) H Q := by
  obtain ⟨v, hv, ha⟩ := at_some h0 h1
  exact r_ixL hs ha (h v hv)
theorem cutS_len (z : Str) (lo hi : Option Int) : (cutS z lo hi).length ≤ z.length := by
  rw [← tl_length, ← tl_length]
  show ((((z.cps.toList.drop _).take _).toArray).toList).length ≤ z.cps.toList.length
  rw [List.length_take, List.length_drop]
  omega
theorem join_len4 {xs : List Str} (hx : xs.length = 4) (hb : ∀ z ∈ xs, z.length ≤ 101) : (xs.map (·.length)).sum + xs.length * (" " : Str).length ≤ 16777216 ∧ (Txt.join " " xs).length ≤ 500 ∧ 3 ≤ (Txt.join " " xs).length := by
  match xs, hx with
  | [a, b, c, d], _ =>
    have h1 := hb a (by simp)
    have h2 := hb b (by simp)
    have h3 := hb c (by simp)
    have h4 := hb d (by simp)
    rw [← join_four]
    simp only [len_app, len_blank, List.map_cons, List.map_nil, List.sum_cons, List.sum_nil, List.length_cons, List.length_nil]
    omega
theorem len_one (c : Nat) : (⟨#[c]⟩ : Str).length = 1 := rfl
theorem len_zero : ("0" : Str).length = 1 := by decide +kernel
def rIsNQ : R2 := fun x y H Q => y = .non ∧ Q (.bl (decide (x = .non))) H
def rNotNQ : R2 := fun x y H Q => y = .non ∧ Q (.bl (!decide (x = .non))) H
theorem op_isNQ {X : Cx} : OpR X (compareOp .Is) rIsNQ := op_isN
theorem op_notNQ {X : Cx} : OpR X (compareOp .IsNot) rNotNQ := op_notN
section
variable {H : Hp} {Q : VK} {p : Addr} {i : Int} {b : Bool} {z : Str}
instance : Step (rIsNQ .non .non H Q) (Q (.bl true) H) := ⟨fun h => ⟨rfl, h⟩⟩
instance : Step (rIsNQ (.ref p) .non H Q) (Q (.bl false) H) := ⟨fun h => ⟨rfl, h⟩⟩
instance : Step (rIsNQ (.int i) .non H Q) (Q (.bl false) H) := ⟨fun h => ⟨rfl, h⟩⟩
instance : Step (rIsNQ (.bl b) .non H Q) (Q (.bl false) H) := ⟨fun h => ⟨rfl, h⟩⟩
instance : Step (rIsNQ (.str z) .non H Q) (Q (.bl false) H) := ⟨fun h => ⟨rfl, h⟩⟩
instance : Step (rNotNQ .non .non H Q) (Q (.bl false) H) := ⟨fun h => ⟨rfl, h⟩⟩
instance : Step (rNotNQ (.ref p) .non H Q) (Q (.bl true) H) := ⟨fun h => ⟨rfl, h⟩⟩
end
end Tm
local macro_rules | `(tactic| os_names t_isi) => `(tactic| ((with_reducible show L2.rIsi _ _ _ _); first
  | ((with_reducible refine' Tm.isi_list_int ?h ?_); (case h => os_names t_hp))
  | ((with_reducible refine' Tm.isi_list_bool ?h ?_); (case h => os_names t_hp))
  | ((with_reducible refine' Tm.isi_list_str ?h ?_); (case h => os_names t_hp))
  | ((with_reducible refine' Tm.isi_list_list ?h ?_); (case h => os_names t_hp))
  | ((with_reducible refine' Tm.isi_list_tuple ?h ?_); (case h => os_names t_hp))
  | ((with_reducible refine' Tm.isi_list_dict ?h ?_); (case h => os_names t_hp))
  | ((with_reducible refine' Tm.isi_tuple_int ?h ?_); (case h => os_names t_hp))
  | ((with_reducible refine' Tm.isi_tuple_bool ?h ?_); (case h => os_names t_hp))
  | ((with_reducible refine' Tm.isi_tuple_str ?h ?_); (case h => os_names t_hp))
  | ((with_reducible refine' Tm.isi_tuple_list ?h ?_); (case h => os_names t_hp))
  | ((with_reducible refine' Tm.isi_tuple_tuple ?h ?_); (case h => os_names t_hp))
  | ((with_reducible refine' Tm.isi_tuple_dict ?h ?_); (case h => os_names t_hp))
  | ((with_reducible refine' Tm.isi_dict_int ?h ?_); (case h => os_names t_hp))
  | ((with_reducible refine' Tm.isi_dict_bool ?h ?_); (case h => os_names t_hp))
  | ((with_reducible refine' Tm.isi_dict_str ?h ?_); (case h => os_names t_hp))
  | ((with_reducible refine' Tm.isi_dict_list ?h ?_); (case h => os_names t_hp))
  | ((with_reducible refine' Tm.isi_dict_tuple ?h ?_); (case h => os_names t_hp))
  | ((with_reducible refine' Tm.isi_dict_dict ?h ?_); (case h => os_names t_hp))
  | fail "no isinstance"))
/-- what stands at an address -/
local macro_rules | `(tactic| os_names t_hp) => `(tactic| first
  | with_reducible assumption | with_reducible exact L2.upd_same | ((with_reducible (show L2.upd _ _ _ _ = _)); first | exact Tm.keepR (by with_reducible assumption) (by os_names t_hp) | exact Tm.keep_neR (by os_names t_ne) (by os_names t_hp)) | exact Tm.same_at (by with_reducible assumption) (by os_names t_hp) | exact L2.upd_same | fail "not in the heap")
local macro_rules | `(tactic| os_names t_sql) => `(tactic| first
  | with_reducible assumption | exact L2.SqL.of (by os_names t_hp) | ((with_reducible (show L2.SqL _ (L2.upd _ _ _) _ _)); exact Tm.sql_keepR (by with_reducible assumption) (by os_names t_sql)) | exact Tm.sql_same (by with_reducible assumption) (by os_names t_sql) | fail "no list")
local macro_rules | `(tactic| os_names t_sqt) => `(tactic| first
  | with_reducible assumption | exact L2.SqT.of (by os_names t_hp) | ((with_reducible (show L2.SqT _ (L2.upd _ _ _) _ _)); exact Tm.sqt_keepR (by with_reducible assumption) (by os_names t_sqt)) | exact Tm.sqt_same (by with_reducible assumption) (by os_names t_sqt) | fail "no tuple")
local macro_rules | `(tactic| os_names t_at) => `(tactic| first
  | assumption | rfl | fail "no item")
local macro_rules | `(tactic| os_names t_pos) => `(tactic| first
  | decide | omega | exact Int.emod_nonneg _ (by omega) | fail "not above 0")
/-- one step of a reading: "s"; steps as far as they go: "go"; with both ways of an open test: "all" -/
local macro_rules | `(tactic| os_names t_s) => `(tactic| first
  | with_reducible refine Tm.Step.imp ?_
  | (with_reducible refine Tm.s_var (by with_unfolding_all rfl) ?_)
  | os_names t_sA | os_names t_sB | os_names t_sC | os_names t_sD | os_names t_sE | os_names t_isi | os_names t_u | fail "no step")
local macro_rules | `(tactic| os_names t_sA) => `(tactic| ((with_reducible (show L2.rI _ _ _ _ _ _)); first
  | ((with_reducible refine' Tm.r_mod ?c ?_); (case c => os_names t_pos)) | ((with_reducible refine' Tm.r_div ?c ?_); (case c => os_names t_pos)) | ((with_reducible refine' Tm.r_mul ?c ?_); (case c => os_names t_pos)) | fail "no int"))
local macro_rules | `(tactic| os_names t_sB) => `(tactic| first
  | ((with_reducible refine Tm.r_new ?l ?_); (case l => exact of_decide_eq_true rfl); intro p0 h0; (change Tm.Fresh _ _ at h0))
  | ((with_reducible refine' Tm.r_ixT ?h ?i ?_); (case h => os_names t_sqt); (case i => os_names t_at)) | ((with_reducible refine' Tm.r_ixL ?h ?i ?_); (case h => os_names t_sql); (case i => os_names t_at))
  | ((with_reducible refine' Tm.r_lenL ?h ?_); (case h => os_names t_sql)) | ((with_reducible refine' Tm.r_lenT ?h ?_); (case h => os_names t_sqt))
  | ((with_reducible refine' Tm.r_tyL ?h ?_); (case h => os_names t_hp))
  | ((with_reducible refine' Tm.r_append ?h ?l ?_); (case h => os_names t_hp); (case l => exact Tm.lt_line (by first | omega | (simp only [List.length_append, List.length_map, List.length_cons, List.length_nil]; omega))))
  | ((with_reducible refine' Tm.r_tupL ?h ?_); (case h => os_names t_sql); intro p0 h0; (change Tm.Fresh _ _ at h0))
  | ((with_reducible refine' Tm.r_slT ?h ?l ?_); (case h => os_names t_sqt); (case l => decide); intro p0 h0; (change Tm.Fresh _ _ at h0))
  | fail "no step")
local macro_rules | `(tactic| os_names t_sC) => `(tactic| first
  | ((with_reducible refine Tm.s_dNew ?_); intro p0 h0; (change Tm.Fresh _ _ at h0))
  | ((with_reducible refine' Tm.r_lenD ?h ?_); (case h => os_names t_hp))
  | ((with_reducible refine' Tm.r_dict ?h ?_); (case h => os_names t_hp); intro p0 h0; (change Tm.Fresh _ _ at h0))
  | ((with_reducible refine' Tm.r_dIn ?h ?_); (case h => os_names t_hp)) | ((with_reducible refine' Tm.r_dNotIn ?h ?_); (case h => os_names t_hp))
  | ((with_reducible refine' Tm.r_dPutI ?h ?l ?_); (case h => os_names t_hp); (case l => first | assumption | omega))
  | ((with_reducible refine' Tm.r_dPut ?h ?l ?_); (case h => os_names t_hp); (case l => os_names t_dlen))
  | fail "no step")
local macro_rules | `(tactic| os_names t_sD) => `(tactic| first
  | ((with_reducible refine' Tm.r_list ?h ?_); (case h => os_names t_sql); intro p0 h0; (change Tm.Fresh _ _ at h0))
  | ((with_reducible refine' Tm.r_slI ?h ?_); (case h => os_names t_sql); intro p0 h0; (change Tm.Fresh _ _ at h0))
  | ((with_reducible refine' Tm.r_slL ?h ?_); (case h => os_names t_sql); intro p0 h0; (change Tm.Fresh _ _ at h0))
  | ((with_reducible refine' Tm.r_inI ?h ?_); (case h => os_names t_sql)) | ((with_reducible refine' Tm.r_ninI ?h ?_); (case h => os_names t_sql))
  | fail "no step")
local macro_rules | `(tactic| os_names t_slen) => `(tactic| first | assumption | omega | (simp only [Tm.len_app, Tm.len_blank, Tm.len_one, Tm.len_zero]; omega) | decide | fail "a text's length")
local macro_rules | `(tactic| os_names t_sE) => `(tactic| first
  | ((with_reducible refine Tm.r_lenS ?l ?_); (case l => os_names t_slen))
  | ((with_reducible refine Tm.r_addS ?l ?_); (case l => os_names t_slen))
  | ((with_reducible refine' Tm.r_ixS ?l ?i ?_); (case l => os_names t_slen); (case i => os_names t_at))
  | ((with_reducible refine Tm.r_slS ?l ?_); (case l => os_names t_slen))
  | ((with_reducible refine Tm.r_split ?b ?l ?_); (case b => decide +kernel); (case l => os_names t_slen); intro p0 h0; (change Tm.Fresh _ _ at h0))
  | fail "no step")
/-- calls of the laws' common defs -/
local macro_rules | `(tactic| os_names t_c1) => `(tactic| first
  | ((with_reducible refine' Tm.c_cell ?h ?k ?_); (case h => os_names t_sql); (case k => os_names t_pos))
  | with_reducible refine Tm.c_whole1 ?_
  | ((with_reducible refine Tm.c_name ?k ?l ?_); (case k => os_names t_pos); (case l => os_names t_pos); intro _ _)
  | ((with_reducible refine Tm.c_pick ?k ?l ?m ?_); (case k => os_names t_pos); (case l => os_names t_pos); (case m => os_names t_pos); intro _ _)
  | ((with_reducible refine' Tm.c_way ?h ?k ?l ?_); (case h => os_names t_hp); (case k => assumption); (case l => first | assumption | omega); intro p0 h0; (change Tm.Fresh _ _ at h0))
  | ((with_reducible refine' Tm.c_tree ?h ?k ?_); (case h => os_names t_sql); (case k => os_names t_pos); intro d0 H0 h0 _ _; (change Tm.Fresh _ _ at h0))
  | ((with_reducible refine' Tm.c_numbers ?h ?k ?l ?_); (case h => os_names t_hp); (case k => os_names t_hp); (case l => first | assumption | exact (by assumption : ∀ f, (Tm.way _ f).length ≤ 100000) _ | omega))
  | ((with_reducible refine' Tm.c_below ?h ?k ?l ?_); (case h => os_names t_hp); (case k => assumption); (case l => first | assumption | omega); intro _ _)
  | ((with_reducible refine' Tm.c_closes ?h ?k ?l ?_); (case h => os_names t_hp); (case k => assumption); (case l => first | assumption | omega); intro _ _)
  | ((with_reducible refine' Tm.c_put ?h ?k ?l ?_); (case h => os_names t_hp); (case k => assumption); (case l => first | assumption | omega); intro d0 H0 h0 _ _; (change Tm.Fresh _ _ at h0))
  | fail "no call of these")
/-- further steps of a law's own -/
local macro_rules | `(tactic| os_names t_u) => `(tactic| os_names t_c1)
local macro_rules | `(tactic| os_names t_go) => `(tactic| repeat' (os_names t_s))
local macro_rules | `(tactic| os_names t_all) => `(tactic| repeat' (first | os_names t_s | os_names t_v | os_names t_sp | fail "no step"))
/-- what a test's two ways know -/
local macro_rules | `(tactic| os_names t_sp) => `(tactic| first
  | with_reducible refine Tm.ite_dn (fun _ => ?_) (fun _ => ?_)
  | with_reducible refine Tm.ite_d (fun _ => ?_) (fun _ => ?_) | with_reducible refine Tm.ite_b (fun _ => ?_) (fun _ => ?_) | fail "no test")
local macro_rules | `(tactic| os_names t_st) => `(tactic| try simp only [Tm.cxK])
/-- values whose making branches -/
local macro_rules | `(tactic| os_names t_v) => `(tactic| first
  | with_reducible refine Tm.s_andV ?_ | with_reducible refine Tm.s_orV ?_ | with_reducible refine Tm.s_if ?_ | with_reducible refine Tm.s_chain ?_ | fail "no value")
/-- a test that what is known decides -/
local macro_rules | `(tactic| os_names t_fact) => `(tactic| first | with_reducible assumption | with_reducible rfl | omega | fail "not known")
local macro_rules | `(tactic| os_names t_ff) => `(tactic| first | with_reducible rfl | with_reducible assumption | ((with_reducible refine Tm.nd_f ?_); os_names t_fact) | ((with_reducible refine Tm.d_f ?_); os_names t_fact) | rfl | fail "not false")
local macro_rules | `(tactic| os_names t_tt) => `(tactic| first | with_reducible rfl | with_reducible assumption | ((with_reducible refine Tm.d_t ?_); os_names t_fact) | ((with_reducible refine Tm.nd_t ?_); os_names t_fact) | rfl | fail "not true")
local macro_rules | `(tactic| os_names t_if) => `(tactic| first
  | ((with_reducible refine Tm.no ?c ?_); (case c => os_names t_ff)) | ((with_reducible refine Tm.yes ?c ?_); (case c => os_names t_tt)) | fail "not decided")
local macro_rules | `(tactic| os_names t_goi) => `(tactic| repeat' (first | os_names t_s | os_names t_if | fail "no step"))
local macro_rules | `(tactic| os_names t_dlen) => `(tactic| exact Tm.lt_line (by first | (rw [Tm.enc_length]; omega) | omega))
/-- what was tracked stands -/
local macro_rules | `(tactic| os_names t_sm) => `(tactic| first
  | exact L2.Same.refl _ | with_reducible assumption | exact Tm.sm_new (by with_reducible assumption) (by os_names t_sm) | exact Tm.sm_mut (by os_names t_fr) (by os_names t_sm) | exact Tm.sm_trans (by with_reducible assumption) (by os_names t_sm) | fail "not the same")
local macro_rules | `(tactic| os_names t_fr) => `(tactic| first
  | with_reducible assumption | exact Tm.Fresh.back (by with_reducible assumption) (by os_names t_sm) | fail "not new")
local macro_rules | `(tactic| os_names t_ne) => `(tactic| first
  | with_reducible assumption | exact Ne.symm (by with_reducible assumption) | exact Tm.ne_new (by with_reducible assumption) (by os_names t_hp) | exact Tm.ne_new' (by with_reducible assumption) (by os_names t_hp) | fail "not known to differ")

namespace Tm
open PySem PySem.Spec PyProof.Rows L2 TL
/-! the text by its places -/
def top (i : Nat) : Stmt := PySem.Challenge.pw_treemove_k07_read.main.body.getD i (.Pass ⟨0, 0, 0, 0⟩)
abbrev s_whole : Stmt := top 6
abbrev s_is_move : Stmt := top 7
abbrev s_number_of : Stmt := top 8
abbrev s_read : Stmt := top 9
abbrev s__law_whole : Stmt := top 11
abbrev s__law_cell_at : Stmt := top 12
abbrev s__law_same_move : Stmt := top 13
abbrev s__law_sign_by : Stmt := top 14
abbrev s__law_number : Stmt := top 15
abbrev s__law_odd_line : Stmt := top 16
abbrev s__law_due_of : Stmt := top 17
abbrev s__law_refused_by_any : Stmt := top 18
abbrev s_law : Stmt := top 19
abbrev n_whole : List Str := ["thing", "least"]
theorem sc_whole : FnScope ["thing", "least"] ["thing", "least"] (defScope s_whole) := ⟨rfl, rfl, rfl, by decide +kernel, rfl, by decide +kernel, by decide +kernel⟩
abbrev n_is_move : List Str := ["thing"]
theorem sc_is_move : FnScope ["thing"] ["thing"] (defScope s_is_move) := ⟨rfl, rfl, rfl, by decide +kernel, rfl, by decide +kernel, by decide +kernel⟩
abbrev n_number_of : List Str := ["word", "sign"]
theorem sc_number_of : FnScope ["word", "sign"] ["word"] (defScope s_number_of) := ⟨rfl, rfl, rfl, by decide +kernel, rfl, by decide +kernel, by decide +kernel⟩
abbrev n_read : List Str := ["line", "words", "move"]
theorem sc_read : FnScope ["line", "words", "move"] ["line"] (defScope s_read) := ⟨rfl, rfl, rfl, by decide +kernel, rfl, by decide +kernel, by decide +kernel⟩
abbrev n__law_whole : List Str := ["_law_found"]
theorem sc__law_whole : FnScope ["_law_found"] ["_law_found"] (defScope s__law_whole) := ⟨rfl, rfl, rfl, by decide +kernel, rfl, by decide +kernel, by decide +kernel⟩
abbrev n__law_cell_at : List Str := ["_law_script", "_law_k"]
theorem sc__law_cell_at : FnScope ["_law_script", "_law_k"] ["_law_script", "_law_k"] (defScope s__law_cell_at) := ⟨rfl, rfl, rfl, by decide +kernel, rfl, by decide +kernel, by decide +kernel⟩
abbrev n__law_same_move : List Str := ["_law_found", "_law_due", "_law_k"]
theorem sc__law_same_move : FnScope ["_law_found", "_law_due", "_law_k"] ["_law_found", "_law_due"] (defScope s__law_same_move) := ⟨rfl, rfl, rfl, by decide +kernel, rfl, by decide +kernel, by decide +kernel⟩
abbrev n__law_sign_by : List Str := ["_law_cell", "_law_some"]
theorem sc__law_sign_by : FnScope ["_law_cell", "_law_some"] ["_law_cell"] (defScope s__law_sign_by) := ⟨rfl, rfl, rfl, by decide +kernel, rfl, by decide +kernel, by decide +kernel⟩
abbrev n__law_number : List Str := ["_law_cell"]
theorem sc__law_number : FnScope ["_law_cell"] ["_law_cell"] (defScope s__law_number) := ⟨rfl, rfl, rfl, by decide +kernel, rfl, by decide +kernel, by decide +kernel⟩
abbrev n__law_odd_line : List Str := ["_law_cell", "_law_some"]
theorem sc__law_odd_line : FnScope ["_law_cell", "_law_some"] ["_law_cell"] (defScope s__law_odd_line) := ⟨rfl, rfl, rfl, by decide +kernel, rfl, by decide +kernel, by decide +kernel⟩
abbrev n__law_due_of : List Str := ["_law_line", "_law_words", "_law_move", "_law_k", "_law_sign"]
theorem sc__law_due_of : FnScope ["_law_line", "_law_words", "_law_move", "_law_k", "_law_sign"] ["_law_line"] (defScope s__law_due_of) := ⟨rfl, rfl, rfl, by decide +kernel, rfl, by decide +kernel, by decide +kernel⟩
abbrev n__law_refused_by_any : List Str := ["_law_line", "e"]
theorem sc__law_refused_by_any : FnScope ["_law_line", "e"] ["_law_line"] (defScope s__law_refused_by_any) := ⟨rfl, rfl, rfl, by decide +kernel, rfl, by decide +kernel, by decide +kernel⟩
abbrev n_law : List Str := ["_law_script", "_law_words", "_law_way", "_law_at", "_law_line", "_law_due", "_law_found", "_law_refused", "_law_k"]
theorem sc_law : FnScope ["_law_script", "_law_words", "_law_way", "_law_at", "_law_line", "_law_due", "_law_found", "_law_refused", "_law_k"] ["_law_script"] (defScope s_law) := ⟨rfl, rfl, rfl, by decide +kernel, rfl, by decide +kernel, by decide +kernel⟩
/-- where the top has put its defs and classes -/
structure Ad where
  f_whole : Addr
  d_whole : FuncData
  f_is_move : Addr
  d_is_move : FuncData
  f_number_of : Addr
  d_number_of : FuncData
  f_read : Addr
  d_read : FuncData
  f__law_whole : Addr
  d__law_whole : FuncData
  f__law_cell_at : Addr
  d__law_cell_at : FuncData
  f__law_same_move : Addr
  d__law_same_move : FuncData
  f__law_sign_by : Addr
  d__law_sign_by : FuncData
  f__law_number : Addr
  d__law_number : FuncData
  f__law_odd_line : Addr
  d__law_odd_line : FuncData
  f__law_due_of : Addr
  d__law_due_of : FuncData
  f__law_refused_by_any : Addr
  d__law_refused_by_any : FuncData
  f_law : Addr
  d_law : FuncData
  c_TreeError : Addr
  c_NoMove : Addr
  t_FIGURES : Tok
  t_LONGEST : Tok
/-- what the top has left -/
structure Txt (K : PySem.W.Frag) (mg : Str → Option Value) (a : Ad) : Prop where
  F_whole : Fun K "whole" "whole" s_whole a.f_whole a.d_whole
  b_whole : Binds K a.d_whole ["thing", "least"] []
  g_whole : mg "whole" = some (.ref a.f_whole)
  k_whole : PySem.W.keepIn K (.ref a.f_whole) = true
  F_is_move : Fun K "is_move" "is_move" s_is_move a.f_is_move a.d_is_move
  b_is_move : Binds K a.d_is_move ["thing"] []
  g_is_move : mg "is_move" = some (.ref a.f_is_move)
  k_is_move : PySem.W.keepIn K (.ref a.f_is_move) = true
  F_number_of : Fun K "number_of" "number_of" s_number_of a.f_number_of a.d_number_of
  b_number_of : Binds K a.d_number_of ["word"] []
  g_number_of : mg "number_of" = some (.ref a.f_number_of)
  k_number_of : PySem.W.keepIn K (.ref a.f_number_of) = true
  F_read : Fun K "read" "read" s_read a.f_read a.d_read
  b_read : Binds K a.d_read ["line"] []
  g_read : mg "read" = some (.ref a.f_read)
  k_read : PySem.W.keepIn K (.ref a.f_read) = true
  F__law_whole : Fun K "_law_whole" "_law_whole" s__law_whole a.f__law_whole a.d__law_whole
  b__law_whole : Binds K a.d__law_whole ["_law_found"] []
  g__law_whole : mg "_law_whole" = some (.ref a.f__law_whole)
  k__law_whole : PySem.W.keepIn K (.ref a.f__law_whole) = true
  F__law_cell_at : Fun K "_law_cell_at" "_law_cell_at" s__law_cell_at a.f__law_cell_at a.d__law_cell_at
  b__law_cell_at : Binds K a.d__law_cell_at ["_law_script", "_law_k"] []
  g__law_cell_at : mg "_law_cell_at" = some (.ref a.f__law_cell_at)
  k__law_cell_at : PySem.W.keepIn K (.ref a.f__law_cell_at) = true
  F__law_same_move : Fun K "_law_same_move" "_law_same_move" s__law_same_move a.f__law_same_move a.d__law_same_move
  b__law_same_move : Binds K a.d__law_same_move ["_law_found", "_law_due"] []
  g__law_same_move : mg "_law_same_move" = some (.ref a.f__law_same_move)
  k__law_same_move : PySem.W.keepIn K (.ref a.f__law_same_move) = true
  F__law_sign_by : Fun K "_law_sign_by" "_law_sign_by" s__law_sign_by a.f__law_sign_by a.d__law_sign_by
  b__law_sign_by : Binds K a.d__law_sign_by ["_law_cell"] []
  g__law_sign_by : mg "_law_sign_by" = some (.ref a.f__law_sign_by)
  k__law_sign_by : PySem.W.keepIn K (.ref a.f__law_sign_by) = true
  F__law_number : Fun K "_law_number" "_law_number" s__law_number a.f__law_number a.d__law_number
  b__law_number : Binds K a.d__law_number ["_law_cell"] []
  g__law_number : mg "_law_number" = some (.ref a.f__law_number)
  k__law_number : PySem.W.keepIn K (.ref a.f__law_number) = true
  F__law_odd_line : Fun K "_law_odd_line" "_law_odd_line" s__law_odd_line a.f__law_odd_line a.d__law_odd_line
  b__law_odd_line : Binds K a.d__law_odd_line ["_law_cell"] []
  g__law_odd_line : mg "_law_odd_line" = some (.ref a.f__law_odd_line)
  k__law_odd_line : PySem.W.keepIn K (.ref a.f__law_odd_line) = true
  F__law_due_of : Fun K "_law_due_of" "_law_due_of" s__law_due_of a.f__law_due_of a.d__law_due_of
  b__law_due_of : Binds K a.d__law_due_of ["_law_line"] []
  g__law_due_of : mg "_law_due_of" = some (.ref a.f__law_due_of)
  k__law_due_of : PySem.W.keepIn K (.ref a.f__law_due_of) = true
  F__law_refused_by_any : Fun K "_law_refused_by_any" "_law_refused_by_any" s__law_refused_by_any a.f__law_refused_by_any a.d__law_refused_by_any
  b__law_refused_by_any : Binds K a.d__law_refused_by_any ["_law_line"] []
  g__law_refused_by_any : mg "_law_refused_by_any" = some (.ref a.f__law_refused_by_any)
  k__law_refused_by_any : PySem.W.keepIn K (.ref a.f__law_refused_by_any) = true
  F_law : Fun K "law" "law" s_law a.f_law a.d_law
  b_law : Binds K a.d_law ["_law_script"] []
  g_law : mg "law" = some (.ref a.f_law)
  k_law : PySem.W.keepIn K (.ref a.f_law) = true
  g_TreeError : mg "TreeError" = some (.ref a.c_TreeError)
  x_TreeError : PySem.W.excIn K a.c_TreeError [.type "ValueError", .type "Exception", .type "BaseException", .type "object"] "ValueError.__new__" = true
  ke_TreeError : PySem.W.keepIn K (.ref a.c_TreeError) = true
  be_TreeError : PySem.W.subIn K (.ref a.c_TreeError) (.type "BaseException") = some true
  te_TreeError : PySem.W.typeIn K (.ref a.c_TreeError) = some (.type "type")
  g_NoMove : mg "NoMove" = some (.ref a.c_NoMove)
  x_NoMove : PySem.W.excIn K a.c_NoMove [.type "ValueError", .type "Exception", .type "BaseException", .type "object"] "ValueError.__new__" = true
  ke_NoMove : PySem.W.keepIn K (.ref a.c_NoMove) = true
  be_NoMove : PySem.W.subIn K (.ref a.c_NoMove) (.type "BaseException") = some true
  te_NoMove : PySem.W.typeIn K (.ref a.c_NoMove) = some (.type "type")
  ec_TreeError : ExcC K a.c_TreeError
  kv_TreeError : PySem.W.kitOne K (.ref a.c_TreeError) (.type "ValueError") = some true
  ki_TreeError_TreeError : PySem.W.kitOne K (.ref a.c_TreeError) (.ref a.c_TreeError) = some true
  ki_TreeError_NoMove : PySem.W.kitOne K (.ref a.c_TreeError) (.ref a.c_NoMove) = some false
  ec_NoMove : ExcC K a.c_NoMove
  kv_NoMove : PySem.W.kitOne K (.ref a.c_NoMove) (.type "ValueError") = some true
  ki_NoMove_TreeError : PySem.W.kitOne K (.ref a.c_NoMove) (.ref a.c_TreeError) = some true
  ki_NoMove_NoMove : PySem.W.kitOne K (.ref a.c_NoMove) (.ref a.c_NoMove) = some true
  ex_TreeError_TreeError : PySem.W.exmOne K (.ref a.c_TreeError) (.ref a.c_TreeError) = some true
  ex_TreeError_NoMove : PySem.W.exmOne K (.ref a.c_TreeError) (.ref a.c_NoMove) = some false
  ex_NoMove_TreeError : PySem.W.exmOne K (.ref a.c_NoMove) (.ref a.c_TreeError) = some true
  ex_NoMove_NoMove : PySem.W.exmOne K (.ref a.c_NoMove) (.ref a.c_NoMove) = some true
  g_FIGURES : mg "FIGURES" = some (.str "0123456789" a.t_FIGURES)
  g_LONGEST : mg "LONGEST" = some (.int 61 a.t_LONGEST)
  n_len : mg "len" = none
  n_isinstance : mg "isinstance" = none
  n_range : mg "range" = none
  n_int : mg "int" = none
  n_bool : mg "bool" = none
  n_str : mg "str" = none
  n_tuple : mg "tuple" = none
  n_ValueError : mg "ValueError" = none
def spSign : Sp := fun vs H Q _ => ∃ c : Int, vs = [.int c] ∧ ∀ x : Nat, Q (.str ⟨#[x]⟩) H
def spNumber : Sp := fun vs H Q _ => ∃ c : Int, vs = [.int c] ∧ ∀ n, 0 ≤ n → n ≤ E60 + 1 → Q (.int n) H
def spOdd : Sp := fun vs H Q _ => ∃ c : Int, vs = [.int c] ∧ ∀ z : Str, ∀ H', z.length ≤ 6000 → Same H H' → Q (.str z) H'
def spRefused : Sp := fun vs H Q _ => ∃ z : Str, vs = [.str z] ∧ z.length ≤ 10000 ∧ ¬ LineOk z ∧ ∀ H', Q (.bl true) H'
section
variable {P : Program} {w : World} {K : PySem.W.Frag} {mg : Str → Option Value} {base : Heap} {a : Ad}
theorem ok_cell (T : Txt K mg a) : FnOk P w K mg base (L2.CX P w) 1 a.f__law_cell_at a.d__law_cell_at ["_law_script", "_law_k"] (spCell K) := by
  refine T.F__law_cell_at.okX sc__law_cell_at (fun vs H Q E h => ?_) (fun cdv A outer s H vs Q E hr h => ?_)
  · obtain ⟨p, ns, k, rfl, _⟩ := h
    rfl
  · obtain ⟨p, ns, k, rfl, hS, h0, q⟩ := h
    refine ⟨_, (pss_cons (ps_if (pt_cmpR (op_lt) (pv 1) (pe_callB (call_lenQ) (by rfl) T.n_len (by decide +kernel) (pa_cons (pv 0) pa_nil)) (nomark _)) (pss_one (ps_ret (pe_ix ix_list (pv 0) (pv 1) (fun _ _ => rfl)))) pss_nil)
 (pss_one (ps_ret pe_int))), ?_⟩
    os_names t_st
    change (_ : TS) _ [some _, some _] _
    os_names t_all
    · rename_i c
      exact r_ixL hS (cell_in h0 (by simpa using c)) q
    · rename_i c
      rw [cell_out (by simpa using c)] at q
      exact q
theorem ok_whole1 (T : Txt K mg a) : FnOk P w K mg base (L2.CX P w) 1 a.f__law_whole a.d__law_whole ["_law_found"] spWhole1 := by
  refine T.F__law_whole.okX sc__law_whole (fun vs H Q E h => ?_) (fun cdv A outer s H vs Q E hr h => ?_)
  · obtain ⟨n, rfl, _⟩ := h
    rfl
  · obtain ⟨n, rfl, q⟩ := h
    refine ⟨_, (pss_one (ps_ret (pe_and (pe_callB (call_isi) (by rfl) T.n_isinstance (by decide +kernel) (pa_cons (pv 0) (pa_cons (pe_bltn (v := .ty "int") (by rfl) T.n_int (by decide +kernel) rfl) pa_nil))) (pe_one (pe_not (pe_callB (call_isi) (by rfl) T.n_isinstance (by decide +kernel) (pa_cons (pv 0) (pa_cons (pe_bltn (v := .ty "bool") (by rfl) T.n_bool (by decide +kernel) rfl) pa_nil)))))))), ?_⟩
    os_names t_st
    change (_ : TS) _ [some _] _
    os_names t_all
    exact q
theorem ok_whole (T : Txt K mg a) : FnOk P w K mg base (L2.CX P w) 1 a.f_whole a.d_whole ["thing", "least"] spWhole := by
  refine T.F_whole.okX sc_whole (fun vs H Q E h => ?_) (fun cdv A outer s H vs Q E hr h => ?_)
  · obtain ⟨x, l, rfl, _⟩ := h
    rfl
  · obtain ⟨x, l, rfl, hx, q⟩ := h
    refine ⟨_, (pss_one (ps_ret (pe_and (pe_callB (call_isi) (by rfl) T.n_isinstance (by decide +kernel) (pa_cons (pv 0) (pa_cons (pe_bltn (v := .ty "int") (by rfl) T.n_int (by decide +kernel) rfl) pa_nil))) (pe_and (pe_not (pe_callB (call_isi) (by rfl) T.n_isinstance (by decide +kernel) (pa_cons (pv 0) (pa_cons (pe_bltn (v := .ty "bool") (by rfl) T.n_bool (by decide +kernel) rfl) pa_nil)))) (pe_one (pe_chain (op_le) (op_le) (pv 1) (pv 0) (pe_p10 (m := 1000000000000000000000000000000000000000000000000000000000000) (by decide +kernel)))))))), ?_⟩
    os_names t_st
    change (_ : TS) _ [some _, some _] _
    cases x with
    | int n =>
      os_names t_all
      all_goals exact Qbl q (by simp [isW, E60, *])
    | bl b =>
      os_names t_all
      exact q
    | str b =>
      os_names t_all
      exact q
    | non =>
      os_names t_all
      exact q
    | ref p =>
      rcases hx with ⟨xs, hx⟩ | ⟨xs, hx⟩ | ⟨xs, hx⟩
      all_goals
        os_names t_all
        exact q
    | byt b => exact hx.elim
    | flt b => exact hx.elim
    | ty b => exact hx.elim
theorem ok_isMove (T : Txt K mg a) : FnOk P w K mg base (L2.CX P w) 2 a.f_is_move a.d_is_move ["thing"] spIsMove := by
  have G_whole := ok_whole (P := P) (w := w) (base := base) T
  refine T.F_is_move.okX sc_is_move (fun vs H Q E h => ?_) (fun cdv A outer s H vs Q E hr h => ?_)
  · obtain ⟨x, rfl, _⟩ := h
    rfl
  · obtain ⟨x, rfl, h⟩ := h
    refine ⟨_, (pss_cons (ps_if (PW.pt (pw_or (pt_not (pt_val (pe_callB (call_isi) (by rfl) T.n_isinstance (by decide +kernel) (pa_cons (pv 0) (pa_cons (pe_bltn (v := .ty "tuple") (by rfl) T.n_tuple (by decide +kernel) rfl) pa_nil))))) (pw_or1 (pt_cmpR (op_ne) (pe_callB (call_lenQ) (by rfl) T.n_len (by decide +kernel) (pa_cons (pv 0) pa_nil)) pe_int (nomark _))))) (pss_one (ps_ret pe_bl)) pss_nil)
 (pss_one (ps_ret (pe_and (pe_call G_whole (hr.mono (by decide)) rfl T.g_whole T.k_whole T.b_whole .nil passL (pa_cons (pe_ix ix_tup (pv 0) pe_int (fun _ _ => rfl)) (pa_cons pe_int pa_nil))) (pe_and (pe_call G_whole (hr.mono (by decide)) rfl T.g_whole T.k_whole T.b_whole .nil passL (pa_cons (pe_ix ix_tup (pv 0) pe_int (fun _ _ => rfl)) (pa_cons pe_int pa_nil))) (pe_and (pe_call G_whole (hr.mono (by decide)) rfl T.g_whole T.k_whole T.b_whole .nil passL (pa_cons (pe_ix ix_tup (pv 0) pe_int (fun _ _ => rfl)) (pa_cons pe_int pa_nil))) (pe_one (pe_call G_whole (hr.mono (by decide)) rfl T.g_whole T.k_whole T.b_whole .nil passL (pa_cons (pe_ix ix_tup (pv 0) pe_int (fun _ _ => rfl)) (pa_cons pe_int pa_nil)))))))))), ?_⟩
    os_names t_st
    change (_ : TS) _ [some _] _
    rcases h with ⟨p, xs, rfl, hp, hx, q⟩ | ⟨hx, hn, q⟩
    · by_cases hl : xs.length = 4
      · match xs, hl with
        | [x1, x2, x3, x4], _ =>
          have k1 := hx x1 (by simp)
          have k2 := hx x2 (by simp)
          have k3 := hx x3 (by simp)
          have k4 := hx x4 (by simp)
          os_names t_all
          · exact absurd rfl (by assumption)
          all_goals
            refine c_whole (by assumption) ?_
            os_names t_all
            · refine c_whole (by assumption) ?_
              os_names t_all
              · refine c_whole (by assumption) ?_
                os_names t_all
                · refine c_whole (by assumption) ?_
                  exact Qbl q (by simp [moveB, *])
                · exact Qbl q (by simp [moveB, *])
              · exact Qbl q (by simp [moveB, *])
            · exact Qbl q (by simp [moveB, *])
      · rw [moveB_len hl] at q
        os_names t_go
        refine yes (nd_t (by omega)) ?_
        os_names t_go
        exact q
    · cases x with
      | ref p =>
        rcases hx with ⟨xs, hx⟩ | ⟨xs, hx⟩ | ⟨xs, hx⟩
        · os_names t_all
          exact q
        · exact (hn p xs rfl hx).elim
        · os_names t_all
          exact q
      | byt b => exact hx.elim
      | flt b => exact hx.elim
      | ty b => exact hx.elim
      | _ =>
        os_names t_all
        exact q
theorem ok_number_of (T : Txt K mg a) : FnOk P w K mg base (L2.CX P w) 1 a.f_number_of a.d_number_of ["word"] (spNum a.c_NoMove) := by
  refine T.F_number_of.okX sc_number_of (fun vs H Q E h => ?_) (fun cdv A outer s H vs Q E hr h => ?_)
  · obtain ⟨z, rfl, _⟩ := h
    rfl
  · obtain ⟨z, rfl, hl, hQ, hE⟩ := h
    refine ⟨_, (pss_cons (ps_for (passes_of rfl) rfl (pi_str (pv 0)) (pg_name (i := 1) sc_number_of.nd rfl (Or.inl rfl)) (pss_one (ps_if (pt_cmpR (op_notInSQ) (pv 1) (pe_glob (v := .str "0123456789") rfl T.g_FIGURES ⟨_, rfl⟩) rfl) (pss_one (ps_raiseQ rfl (takes_of rfl rfl rfl rfl) T.x_NoMove T.g_NoMove T.ke_NoMove T.be_NoMove T.te_NoMove)) pss_nil)))
 (pss_cons (ps_if (PW.pt (pw_or (pt_cmpR (op_eq) (pv 0) pe_str (nomark _)) (pw_or (PW.pt (pw_and (pt_cmpR (op_gt) (pe_callB (call_lenSQ) (by rfl) T.n_len (by decide +kernel) (pa_cons (pv 0) pa_nil)) pe_int (nomark _)) (pw_and1 (pt_cmpR (op_eq) (pe_ix ix_str (pv 0) pe_int (fun _ _ => rfl)) pe_str (nomark _))))) (pw_or1 (pt_cmpR (op_gt) (pe_callB (call_lenSQ) (by rfl) T.n_len (by decide +kernel) (pa_cons (pv 0) pa_nil)) (pe_glob (v := .int 61) rfl T.g_LONGEST ⟨_, rfl⟩) (nomark _)))))) (pss_one (ps_raiseQ rfl (takes_of rfl rfl rfl rfl) T.x_NoMove T.g_NoMove T.ke_NoMove T.be_NoMove T.te_NoMove)) pss_nil)
 (pss_one (ps_ret (pe_callTy (call_intSQ) (by rfl) T.n_int (by decide +kernel) (pa_cons (pv 0) pa_nil)))))), ?_⟩
    os_names t_st
    change (_ : TS) _ [some _, none] _
    os_names t_go
    refine r_forS (fun i σ H' => H' = H ∧ (∀ c ∈ (tl z).take i, 48 ≤ c ∧ c ≤ 57) ∧ ∃ v, σ = [some (.str z), v]) ⟨rfl, by simp, none, rfl⟩ ?_ ?_
    · rintro i c σ H' hc ⟨rfl, hd, v, rfl⟩
      os_names t_go
      by_cases hc' : 48 ≤ c ∧ c ≤ 57
      · refine no (nd_f (fig_mem.mpr hc')) ?_
        os_names t_go
        refine ⟨rfl, ?_, _, rfl⟩
        intro c2 hc2
        rw [List.take_succ, hc] at hc2
        rcases List.mem_append.mp hc2 with hc2 | hc2
        · exact hd c2 hc2
        · simp at hc2
          rw [hc2]
          exact hc'
      · refine yes (nd_t fun e => hc' (fig_mem.mp e)) ?_
        os_names t_go
        exact hE fun ok => hc' (ok.1 c (List.mem_of_getElem? hc))
    · rintro σ H' ⟨rfl, hd, v, rfl⟩
      have had : NumText.AllDigits (tl z) := fun c hc => hd c (by rw [← tl_length z, List.take_length]; exact hc)
      os_names t_go
      by_cases e : z = ""
      · refine yes (d_t e) ?_
        os_names t_go
        refine hE fun ok => ok.2.1 ?_
        rw [e]
        decide +kernel
      · refine no (d_f e) ?_
        have hne : tl z ≠ [] := fun h => e (ext_tl (by rw [h]; decide +kernel))
        have hpos : 0 < z.length := by rw [← tl_length]; exact List.length_pos_iff.mpr hne
        have h0 : atI (tl z) 0 = some ((tl z)[0]'(by rw [tl_length]; exact hpos)) := atI_nat (xs := tl z) (j := 0) (List.getElem?_eq_getElem _)
        have hh : (tl z).head? = some ((tl z)[0]'(by rw [tl_length]; exact hpos)) := by rw [List.head?_eq_getElem?]; exact List.getElem?_eq_getElem _
        have fin : ¬ (1 < z.length ∧ (tl z).head? = some 48) → tTest (tOp (rI0 fun i j => V.bl (decide (j < i))) (tCB rLenSQ (tCons (tVar 0) tNil)) (tC (V.int 61))) [some (V.str z), v] H' (fun b H1 => if b = true then tRaiseQ a.c_NoMove E { nx := tRet (tCB rIntSQ (tCons (tVar 0) tNil)) { nx := fun x H' => Q V.non H', rt := Q }, rt := Q } [some (V.str z), v] H1 else tNext { nx := tRet (tCB rIntSQ (tCons (tVar 0) tNil)) { nx := fun x H' => Q V.non H', rt := Q }, rt := Q } [some (V.str z), v] H1) := by
          intro h48
          os_names t_all
          · rename_i h61
            exact hE fun ok => by have := ok.2.2.2; omega
          · rename_i h61
            have ok : OkW z := ⟨had, hne, h48, by omega⟩
            exact r_intS (numV_text ok) (by have := ok.2.2.2; omega) (hQ ok)
        os_names t_go
        os_names t_sp
        · rename_i h1
          os_names t_go
          by_cases c0 : (tl z)[0]'(by rw [tl_length]; exact hpos) = 48
          · refine yes (d_t (one_zero.mpr c0)) ?_
            os_names t_go
            exact hE fun ok => ok.2.2.1 ⟨by omega, by rw [hh, c0]⟩
          · refine no (d_f fun e => c0 (one_zero.mp e)) ?_
            refine fin fun h => ?_
            rw [hh] at h
            exact c0 (Option.some.inj h.2)
        · rename_i h1
          os_names t_all
          · rename_i h61
            exact hE fun ok => by have := ok.2.2.2; omega
          · rename_i h61
            have ok : OkW z := ⟨had, hne, fun h => h1 (by omega), by omega⟩
            exact r_intS (numV_text ok) (by have := ok.2.2.2; omega) (hQ ok)
theorem ok_read (T : Txt K mg a) : FnOk P w K mg base (L2.CX P w) 3 a.f_read a.d_read ["line"] (spRead a.c_NoMove) := by
  have G_number_of := ok_number_of (P := P) (w := w) (base := base) T
  have G_is_move := ok_isMove (P := P) (w := w) (base := base) T
  refine T.F_read.okX sc_read (fun vs H Q E h => ?_) (fun cdv A outer s H vs Q E hr h => ?_)
  · obtain ⟨z, rfl, _⟩ := h
    rfl
  · obtain ⟨z, rfl, hl, hQ, hE⟩ := h
    refine ⟨_, (pss_cons (ps_set (i := 1) sc_read.nd rfl (Or.inl rfl) (pe_splitQ (pv 0) pe_str))
 (pss_cons (ps_if (pt_cmpR (op_ne) (pe_callB (call_lenQ) (by rfl) T.n_len (by decide +kernel) (pa_cons (pv 1) pa_nil)) pe_int (nomark _)) (pss_one (ps_raiseQ rfl (takes_of rfl rfl rfl rfl) T.x_NoMove T.g_NoMove T.ke_NoMove T.be_NoMove T.te_NoMove)) pss_nil)
 (pss_cons (ps_set (i := 2) sc_read.nd rfl (Or.inl rfl) (pe_tup (pa_cons (pe_call G_number_of (hr.mono (by decide)) rfl T.g_number_of T.k_number_of T.b_number_of .nil (passes_call (takes_of rfl rfl rfl rfl) (fun _ _ _ _ h => h)) (pa_cons (pe_ix ix_list (pv 1) pe_int (fun _ _ => rfl)) pa_nil)) (pa_cons (pe_call G_number_of (hr.mono (by decide)) rfl T.g_number_of T.k_number_of T.b_number_of .nil (passes_call (takes_of rfl rfl rfl rfl) (fun _ _ _ _ h => h)) (pa_cons (pe_ix ix_list (pv 1) pe_int (fun _ _ => rfl)) pa_nil)) (pa_cons (pe_call G_number_of (hr.mono (by decide)) rfl T.g_number_of T.k_number_of T.b_number_of .nil (passes_call (takes_of rfl rfl rfl rfl) (fun _ _ _ _ h => h)) (pa_cons (pe_ix ix_list (pv 1) pe_int (fun _ _ => rfl)) pa_nil)) (pa_cons (pe_call G_number_of (hr.mono (by decide)) rfl T.g_number_of T.k_number_of T.b_number_of .nil (passes_call (takes_of rfl rfl rfl rfl) (fun _ _ _ _ h => h)) (pa_cons (pe_ix ix_list (pv 1) pe_int (fun _ _ => rfl)) pa_nil)) pa_nil))))))
 (pss_cons (ps_if (pt_not (pt_val (pe_call G_is_move (hr.mono (by decide)) rfl T.g_is_move T.k_is_move T.b_is_move .nil passL (pa_cons (pv 2) pa_nil)))) (pss_one (ps_raiseQ rfl (takes_of rfl rfl rfl rfl) T.x_NoMove T.g_NoMove T.ke_NoMove T.be_NoMove T.te_NoMove)) pss_nil)
 (pss_one (ps_ret (pv 2))))))), ?_⟩
    os_names t_st
    change (_ : TS) _ [some _, none, none] _
    os_names t_go
    rename_i p hp
    have hfail : ¬ LineOk z → E (.ref a.c_NoMove) none (upd H p (.lst ((Txt.split z " ").map V.str))) := fun h => hE h _ (by os_names t_sm)
    have hlw : ∀ w ∈ Txt.split z " ", w.length ≤ 100000 := fun w hw => by have := split_le hw; omega
    by_cases h4 : (Txt.split z " ").length = 4
    · have hw4 : ∃ w1 w2 w3 w4, Txt.split z " " = [w1, w2, w3, w4] := by
        match Txt.split z " ", h4 with
        | [w1, w2, w3, w4], _ => exact ⟨w1, w2, w3, w4, rfl⟩
      obtain ⟨w1, w2, w3, w4, hw⟩ := hw4
      have iff : LineOk z ↔ OkW w1 ∧ OkW w2 ∧ OkW w3 ∧ OkW w4 ∧ 1 ≤ numV w1 ∧ 1 ≤ numV w3 ∧ numV w1 ≤ E60 ∧ numV w2 ≤ E60 ∧ numV w3 ≤ E60 ∧ numV w4 ≤ E60 := by
        constructor
        · rintro ⟨v1, v2, v3, v4, hv, r⟩
          rw [hw] at hv
          simp at hv
          obtain ⟨rfl, rfl, rfl, rfl⟩ := hv
          exact r
        · intro r
          exact ⟨w1, w2, w3, w4, hw, r⟩
      rw [hw] at hlw hfail ⊢
      refine no (nd_f rfl) ?_
      os_names t_go
      refine c_num (hlw _ (by simp)) (fun o1 => ?_) fun o => hfail fun l => o (iff.mp l).1
      os_names t_go
      refine c_num (hlw _ (by simp)) (fun o2 => ?_) fun o => hfail fun l => o (iff.mp l).2.1
      os_names t_go
      refine c_num (hlw _ (by simp)) (fun o3 => ?_) fun o => hfail fun l => o (iff.mp l).2.2.1
      os_names t_go
      refine c_num (hlw _ (by simp)) (fun o4 => ?_) fun o => hfail fun l => o (iff.mp l).2.2.2.1
      os_names t_go
      rename_i t ht
      have k2 := numV_nonneg w2
      have k4 := numV_nonneg w4
      refine c_isMove (by os_names t_hp) (by intro y hy; simp at hy; rcases hy with rfl | rfl | rfl | rfl <;> trivial) ?_
      by_cases hok : LineOk z
      · have hb : moveB [.int (numV w1), .int (numV w2), .int (numV w3), .int (numV w4)] = true := by
          have := (iff.mp hok).2.2.2.2
          simp [moveB, isW, this, k2, k4]
        rw [hb]
        os_names t_go
        exact hQ w1 w2 w3 w4 _ _ hw hok (Fresh.back ht (by os_names t_sm)) (by os_names t_sm) (by os_names t_hp)
      · have hb : moveB [.int (numV w1), .int (numV w2), .int (numV w3), .int (numV w4)] = false := by
          refine Bool.eq_false_iff.mpr fun e => hok (iff.mpr ⟨o1, o2, o3, o4, ?_⟩)
          simp [moveB, isW, E60] at e
          simp [E60]
          omega
        rw [hb]
        os_names t_go
        exact hE hok _ (by os_names t_sm)
    · refine yes (nd_t (by rw [List.length_map]; omega)) ?_
      os_names t_go
      refine hfail ?_
      rintro ⟨w1, w2, w3, w4, hw, _⟩
      rw [hw] at h4
      exact h4 rfl
theorem ok_sameMove (T : Txt K mg a) : FnOk P w K mg base (L2.CX P w) 2 a.f__law_same_move a.d__law_same_move ["_law_found", "_law_due"] spSameMove := by
  have G__law_whole := ok_whole1 (P := P) (w := w) (base := base) T
  refine T.F__law_same_move.okX sc__law_same_move (fun vs H Q E h => ?_) (fun cdv A outer s H vs Q E hr h => ?_)
  · obtain ⟨p, q, m, rfl, _⟩ := h
    rfl
  · obtain ⟨p, p2, m, rfl, hp, hp2, q⟩ := h
    have l4 : ((m.vs.length : Nat) : Int) = 4 := rfl
    refine ⟨_, (pss_cons (ps_if (PW.pt (pw_or (pt_not (pt_val (pe_callB (call_isi) (by rfl) T.n_isinstance (by decide +kernel) (pa_cons (pv 0) (pa_cons (pe_bltn (v := .ty "tuple") (by rfl) T.n_tuple (by decide +kernel) rfl) pa_nil))))) (pw_or1 (pt_cmpR (op_ne) (pe_callB (call_lenQ) (by rfl) T.n_len (by decide +kernel) (pa_cons (pv 0) pa_nil)) pe_int (nomark _))))) (pss_one (ps_ret pe_bl)) pss_nil)
 (pss_cons (ps_for (passes_of rfl) rfl (pi_range1 rfl T.n_range (pa_cons pe_int pa_nil)) (pg_name (i := 2) sc__law_same_move.nd rfl (Or.inl rfl)) (pss_one (ps_if (PW.pt (pw_or (pt_not (pt_val (pe_call G__law_whole (hr.mono (by decide)) rfl T.g__law_whole T.k__law_whole T.b__law_whole .nil passL (pa_cons (pe_ix ix_tup (pv 0) (pv 2) (fun _ _ => rfl)) pa_nil)))) (pw_or1 (pt_cmpR (op_ne) (pe_ix ix_tup (pv 0) (pv 2) (fun _ _ => rfl)) (pe_ix ix_tup (pv 1) (pv 2) (fun _ _ => rfl)) (nomark _))))) (pss_one (ps_ret pe_bl)) pss_nil)))
 (pss_one (ps_ret pe_bl)))), ?_⟩
    os_names t_st
    change (_ : TS) _ [some _, some _, none] _
    os_names t_goi
    refine r_forR 4 (fun i σ H' => H' = H ∧ ∃ v, σ = [some (.ref p), some (.ref p2), v]) (by omega) ⟨rfl, none, rfl⟩ ?_ ?_
    · rintro i σ H' hi ⟨rfl, v, rfl⟩
      have hx : ∃ x : Int, atI m.vs (i : Int) = some (.int x) := by
        match i, hi with
        | 0, _ => exact ⟨m.t, rfl⟩
        | 1, _ => exact ⟨m.h, rfl⟩
        | 2, _ => exact ⟨m.f, rfl⟩
        | 3, _ => exact ⟨m.u, rfl⟩
      obtain ⟨x, hx⟩ := hx
      os_names t_goi
      exact ⟨rfl, _, rfl⟩
    · rintro σ H' ⟨rfl, v, rfl⟩
      os_names t_goi
      exact q
theorem ok_due (T : Txt K mg a) : FnOk P w K mg base (L2.CX P w) 1 a.f__law_due_of a.d__law_due_of ["_law_line"] spDue := by
  refine T.F__law_due_of.okX sc__law_due_of (fun vs H Q E h => ?_) (fun cdv A outer s H vs Q E hr h => ?_)
  · obtain ⟨z, rfl, _⟩ := h
    rfl
  · obtain ⟨z, rfl, hl, hQ, hE⟩ := h
    refine ⟨_, (pss_cons (ps_set (i := 1) sc__law_due_of.nd rfl (Or.inl rfl) (pe_splitQ (pv 0) pe_str))
 (pss_cons (ps_if (pt_cmpR (op_ne) (pe_callB (call_lenQ) (by rfl) T.n_len (by decide +kernel) (pa_cons (pv 1) pa_nil)) pe_int (nomark _)) (pss_one (ps_ret pe_non)) pss_nil)
 (pss_cons (ps_set (i := 2) sc__law_due_of.nd rfl (Or.inl rfl) (pe_lst pa_nil))
 (pss_cons (ps_for (passes_of rfl) rfl (pi_range1 rfl T.n_range (pa_cons pe_int pa_nil)) (pg_name (i := 3) sc__law_due_of.nd rfl (Or.inl rfl)) (pss_cons (ps_if (PW.pt (pw_or (pt_cmpR (op_eq) (pe_ix ix_list (pv 1) (pv 3) (fun _ _ => rfl)) pe_str (nomark _)) (pw_or1 (PW.pt (pw_and (pt_cmpR (op_eq) (pe_ix ix_str (pe_ix ix_list (pv 1) (pv 3) (fun _ _ => rfl)) pe_int (fun _ _ => rfl)) pe_str (nomark _)) (pw_and1 (pt_cmpR (op_gt) (pe_callB (call_lenSQ) (by rfl) T.n_len (by decide +kernel) (pa_cons (pe_ix ix_list (pv 1) (pv 3) (fun _ _ => rfl)) pa_nil)) pe_int (nomark _)))))))) (pss_one (ps_ret pe_non)) pss_nil)
 (pss_cons (ps_for (passes_of rfl) rfl (pi_str (pe_ix ix_list (pv 1) (pv 3) (fun _ _ => rfl))) (pg_name (i := 4) sc__law_due_of.nd rfl (Or.inl rfl)) (pss_one (ps_if (pt_cmpR (op_notInSQ) (pv 4) pe_str rfl) (pss_one (ps_ret pe_non)) pss_nil)))
 (pss_cons (ps_if (PW.pt (pw_or (pt_cmpR (op_gt) (pe_callB (call_lenSQ) (by rfl) T.n_len (by decide +kernel) (pa_cons (pe_ix ix_list (pv 1) (pv 3) (fun _ _ => rfl)) pa_nil)) pe_int (nomark _)) (pw_or (pt_cmpR (op_gt) (pe_callTy (call_intSQ) (by rfl) T.n_int (by decide +kernel) (pa_cons (pe_ix ix_list (pv 1) (pv 3) (fun _ _ => rfl)) pa_nil)) (pe_p10 (m := 1000000000000000000000000000000000000000000000000000000000000) (by decide +kernel)) (nomark _)) (pw_or1 (pt_cmpR (op_lt) (pe_callTy (call_intSQ) (by rfl) T.n_int (by decide +kernel) (pa_cons (pe_ix ix_list (pv 1) (pv 3) (fun _ _ => rfl)) pa_nil)) (pe_op op_sub pe_int (pe_op op_mod (pv 3) pe_int)) (nomark _)))))) (pss_one (ps_ret pe_non)) pss_nil)
 (pss_one (ps_expr (pe_bm PySem.F.plainAttrs_list PySem.F.slot_list_append PySem.F.type_list_append mt_append (pv 2) (pa_cons (pe_callTy (call_intSQ) (by rfl) T.n_int (by decide +kernel) (pa_cons (pe_ix ix_list (pv 1) (pv 3) (fun _ _ => rfl)) pa_nil)) pa_nil))))))))
 (pss_one (ps_ret (pe_callTy (call_tupQ) (by rfl) T.n_tuple (by decide +kernel) (pa_cons (pv 2) pa_nil)))))))), ?_⟩
    os_names t_st
    change (_ : TS) _ [some _, none, none, none, none] _
    os_names t_go
    rename_i p hp
    have hlw : ∀ w ∈ Txt.split z " ", w.length ≤ 100000 := fun w hw => by have := split_le hw; omega
    by_cases h4 : (Txt.split z " ").length = 4
    · have hw4 : ∃ w1 w2 w3 w4, Txt.split z " " = [w1, w2, w3, w4] := by
        match Txt.split z " ", h4 with
        | [w1, w2, w3, w4], _ => exact ⟨w1, w2, w3, w4, rfl⟩
      obtain ⟨w1, w2, w3, w4, hw⟩ := hw4
      have iff := line_iff hw
      rw [hw] at hlw ⊢
      generalize hws : [w1, w2, w3, w4] = ws at hlw iff ⊢
      have hwl : ws.length = 4 := by rw [← hws]; rfl
      refine no (nd_f (by rw [List.length_map, hwl]; rfl)) ?_
      os_names t_go
      rename_i l hlf
      have npl : p ≠ l := by os_names t_ne
      refine r_forR 4 (fun i σ H' => Same H H' ∧ H' p = some (.lst (ws.map V.str)) ∧ (∃ v1 v2, σ = [some (.str z), some (.ref p), some (.ref l), v1, v2]) ∧ (∀ k < i, OkAt ws k) ∧ H' l = some (.lst ((ws.take i).map fun w => V.int (numV w)))) (by omega)
        ⟨by os_names t_sm, by os_names t_hp, ⟨none, none, rfl⟩, by omega, by rw [List.take_zero]; exact upd_same⟩ ?_ ?_
      · rintro i σ H' hi ⟨hs, hP, ⟨v1, v2, rfl⟩, hok, hL⟩
        obtain ⟨wd, hwd⟩ : ∃ wd, ws[i]? = some wd := ⟨_, List.getElem?_eq_getElem (by omega)⟩
        have hat : atI (ws.map V.str) (i : Int) = some (.str wd) := atI_nat (by rw [List.getElem?_map, hwd]; rfl)
        have hlen := hlw wd (List.mem_of_getElem? hwd)
        have bad : ¬ OkAt ws i → Q .non H' := fun h => hE (fun l => h (iff.mp l i (by omega))) _ hs
        have bad1 : ¬ OkW wd → Q .non H' := fun h => bad fun ⟨w', e, o, _⟩ => by rw [hwd] at e; cases e; exact h o
        os_names t_go
        by_cases e : wd = ""
        · refine yes (d_t e) ?_
          os_names t_go
          refine bad1 fun ok => ok.2.1 ?_
          rw [e]
          decide +kernel
        · refine no (d_f e) ?_
          have hne : tl wd ≠ [] := fun h => e (ext_tl (by rw [h]; decide +kernel))
          have hpos : 0 < wd.length := by rw [← tl_length]; exact List.length_pos_iff.mpr hne
          have h0 : atI (tl wd) 0 = some ((tl wd)[0]'(by rw [tl_length]; exact hpos)) := atI_nat (xs := tl wd) (j := 0) (List.getElem?_eq_getElem _)
          have hh : (tl wd).head? = some ((tl wd)[0]'(by rw [tl_length]; exact hpos)) := by rw [List.head?_eq_getElem?]; exact List.getElem?_eq_getElem _
          os_names t_go
          by_cases h48 : 1 < wd.length ∧ (tl wd).head? = some 48
          · have c0 : (tl wd)[0]'(by rw [tl_length]; exact hpos) = 48 := Option.some.inj (hh.symm.trans h48.2)
            refine yes (d_t (one_zero.mpr c0)) ?_
            os_names t_go
            refine yes (d_t (by have := h48.1; omega)) ?_
            os_names t_go
            exact bad1 fun ok => ok.2.2.1 h48
          · by_cases c0 : (tl wd)[0]'(by rw [tl_length]; exact hpos) = 48
            · refine yes (d_t (one_zero.mpr c0)) ?_
              os_names t_go
              refine no (d_f fun h => h48 ⟨by omega, by rw [hh, c0]⟩) ?_
              os_names t_go
              refine r_forS (fun j σ' H2 => H2 = H' ∧ (∀ c ∈ (tl wd).take j, 48 ≤ c ∧ c ≤ 57) ∧ ∃ v, σ' = [some (.str z), some (.ref p), some (.ref l), some (.int i), v]) ⟨rfl, by simp, _, rfl⟩ ?_ ?_
              · rintro j c σ' H2 hc ⟨rfl, hd, v, rfl⟩
                os_names t_go
                by_cases hc' : 48 ≤ c ∧ c ≤ 57
                · refine no (nd_f (fig_mem.mpr hc')) ?_
                  os_names t_go
                  refine ⟨rfl, ?_, _, rfl⟩
                  intro c2 hc2
                  rw [List.take_succ, hc] at hc2
                  rcases List.mem_append.mp hc2 with hc2 | hc2
                  · exact hd c2 hc2
                  · simp at hc2
                    rw [hc2]
                    exact hc'
                · refine yes (nd_t fun e => hc' (fig_mem.mp e)) ?_
                  os_names t_go
                  exact bad1 fun ok => hc' (ok.1 c (List.mem_of_getElem? hc))
              · rintro σ' H2 ⟨rfl, hd, v, rfl⟩
                have had : NumText.AllDigits (tl wd) := fun c hc => hd c (by rw [← tl_length wd, List.take_length]; exact hc)
                os_names t_go
                by_cases h61 : 61 < wd.length
                · refine yes (d_t (by omega)) ?_
                  os_names t_go
                  exact bad1 fun ok => by have := ok.2.2.2; omega
                · have ok : OkW wd := ⟨had, hne, h48, by omega⟩
                  have num : ∀ {Q : VK} {H : Hp}, Q (.int (numV wd)) H → rIntSQ [.str wd] H Q := fun h => r_intS (numV_text ok) (by omega) h
                  refine no (d_f (by omega)) ?_
                  os_names t_go
                  refine num ?_
                  os_names t_go
                  os_names t_sp
                  · rename_i hx
                    os_names t_go
                    exact bad fun ⟨w', e, _, _, b⟩ => by rw [hwd] at e; cases e; simp only [E60] at b; omega
                  · rename_i hx
                    os_names t_go
                    refine num ?_
                    os_names t_go
                    os_names t_sp
                    · rename_i hy
                      os_names t_go
                      exact bad fun ⟨w', e, _, b, _⟩ => by rw [hwd] at e; cases e; omega
                    · rename_i hy
                      os_names t_go
                      refine num ?_
                      os_names t_go
                      refine r_append hL (lt_line (by simp; omega)) ?_
                      refine ⟨by os_names t_sm, by os_names t_hp, ⟨_, _, rfl⟩, ?_, ?_⟩
                      · intro k hk
                        by_cases e : k = i
                        · subst e
                          exact ⟨wd, hwd, ok, by omega, by simp only [E60]; omega⟩
                        · exact hok k (by omega)
                      · rw [upd_same, List.take_succ, hwd]
                        simp
            · refine no (d_f fun e => c0 (one_zero.mp e)) ?_
              os_names t_go
              refine r_forS (fun j σ' H2 => H2 = H' ∧ (∀ c ∈ (tl wd).take j, 48 ≤ c ∧ c ≤ 57) ∧ ∃ v, σ' = [some (.str z), some (.ref p), some (.ref l), some (.int i), v]) ⟨rfl, by simp, _, rfl⟩ ?_ ?_
              · rintro j c σ' H2 hc ⟨rfl, hd, v, rfl⟩
                os_names t_go
                by_cases hc' : 48 ≤ c ∧ c ≤ 57
                · refine no (nd_f (fig_mem.mpr hc')) ?_
                  os_names t_go
                  refine ⟨rfl, ?_, _, rfl⟩
                  intro c2 hc2
                  rw [List.take_succ, hc] at hc2
                  rcases List.mem_append.mp hc2 with hc2 | hc2
                  · exact hd c2 hc2
                  · simp at hc2
                    rw [hc2]
                    exact hc'
                · refine yes (nd_t fun e => hc' (fig_mem.mp e)) ?_
                  os_names t_go
                  exact bad1 fun ok => hc' (ok.1 c (List.mem_of_getElem? hc))
              · rintro σ' H2 ⟨rfl, hd, v, rfl⟩
                have had : NumText.AllDigits (tl wd) := fun c hc => hd c (by rw [← tl_length wd, List.take_length]; exact hc)
                os_names t_go
                by_cases h61 : 61 < wd.length
                · refine yes (d_t (by omega)) ?_
                  os_names t_go
                  exact bad1 fun ok => by have := ok.2.2.2; omega
                · have ok : OkW wd := ⟨had, hne, h48, by omega⟩
                  have num : ∀ {Q : VK} {H : Hp}, Q (.int (numV wd)) H → rIntSQ [.str wd] H Q := fun h => r_intS (numV_text ok) (by omega) h
                  refine no (d_f (by omega)) ?_
                  os_names t_go
                  refine num ?_
                  os_names t_go
                  os_names t_sp
                  · rename_i hx
                    os_names t_go
                    exact bad fun ⟨w', e, _, _, b⟩ => by rw [hwd] at e; cases e; simp only [E60] at b; omega
                  · rename_i hx
                    os_names t_go
                    refine num ?_
                    os_names t_go
                    os_names t_sp
                    · rename_i hy
                      os_names t_go
                      exact bad fun ⟨w', e, _, b, _⟩ => by rw [hwd] at e; cases e; omega
                    · rename_i hy
                      os_names t_go
                      refine num ?_
                      os_names t_go
                      refine r_append hL (lt_line (by simp; omega)) ?_
                      refine ⟨by os_names t_sm, by os_names t_hp, ⟨_, _, rfl⟩, ?_, ?_⟩
                      · intro k hk
                        by_cases e : k = i
                        · subst e
                          exact ⟨wd, hwd, ok, by omega, by simp only [E60]; omega⟩
                        · exact hok k (by omega)
                      · rw [upd_same, List.take_succ, hwd]
                        simp
      · rintro σ H' ⟨hs, hP, ⟨v1, v2, rfl⟩, hok, hL⟩
        os_names t_go
        rename_i t ht
        refine hQ w1 w2 w3 w4 _ _ hw (iff.mpr hok) (Fresh.back ht hs) (by os_names t_sm) ?_
        rw [upd_same, ← hws]
        rfl
    · refine yes (nd_t (by rw [List.length_map]; omega)) ?_
      os_names t_go
      refine hE ?_ _ (by os_names t_sm)
      rintro ⟨w1, w2, w3, w4, hw, _⟩
      rw [hw] at h4
      exact h4 rfl
theorem ok_sign (T : Txt K mg a) : FnOk P w K mg base (L2.CX P w) 1 a.f__law_sign_by a.d__law_sign_by ["_law_cell"] spSign := by
  refine T.F__law_sign_by.okX sc__law_sign_by (fun vs H Q E h => ?_) (fun cdv A outer s H vs Q E hr h => ?_)
  · obtain ⟨c, rfl, _⟩ := h
    rfl
  · obtain ⟨c, rfl, q⟩ := h
    refine ⟨_, (pss_cons (ps_set (i := 1) sc__law_sign_by.nd rfl (Or.inl rfl) pe_str)
 (pss_cons (ps_set (i := 1) sc__law_sign_by.nd rfl (Or.inl rfl) (pe_op op_addSQ (pv 1) pe_str))
 (pss_one (ps_ret (pe_ix ix_str (pv 1) (pe_op op_mod (pv 0) pe_int) (fun _ _ => rfl)))))), ?_⟩
    os_names t_st
    change (_ : TS) _ [some _, none] _
    os_names t_go
    obtain ⟨x, _, hx⟩ := at_some (xs := tl ((" !\"#$&'()*+,-./0123456789:;<=>?@ABCDEFGHIJKLMNOPQRSTUVWXYZ[\\]^_`" : Str) ++ ("abcdefghijklmnopqrstuvwxyz{|}~\n\t" : Str))) (i := c % 96) (by omega) (by
      have e : (tl ((" !\"#$&'()*+,-./0123456789:;<=>?@ABCDEFGHIJKLMNOPQRSTUVWXYZ[\\]^_`" : Str) ++ ("abcdefghijklmnopqrstuvwxyz{|}~\n\t" : Str))).length = 96 := by decide +kernel
      rw [e]
      omega)
    refine r_ixS (by decide +kernel) hx ?_
    exact q x
theorem ok_number (T : Txt K mg a) : FnOk P w K mg base (L2.CX P w) 1 a.f__law_number a.d__law_number ["_law_cell"] spNumber := by
  refine T.F__law_number.okX sc__law_number (fun vs H Q E h => ?_) (fun cdv A outer s H vs Q E hr h => ?_)
  · obtain ⟨c, rfl, _⟩ := h
    rfl
  · obtain ⟨c, rfl, q⟩ := h
    refine ⟨_, (pss_cons (ps_if (pt_cmpR (op_eq) (pe_op op_mod (pv 0) pe_int) pe_int (nomark _)) (pss_one (ps_ret pe_int)) pss_nil)
 (pss_cons (ps_if (pt_cmpR (op_eq) (pe_op op_mod (pv 0) pe_int) pe_int (nomark _)) (pss_one (ps_ret (pe_op op_add (pe_p10 (m := 1000000000000000000000000000000000000000000000000000000000000) (by decide +kernel)) (pe_op op_mod (pe_op op_fdiv (pv 0) pe_int) pe_int)))) pss_nil)
 (pss_one (ps_ret (pe_op op_add pe_int (pe_op op_mod (pe_op op_fdiv (pv 0) pe_int) pe_int)))))), ?_⟩
    os_names t_st
    change (_ : TS) _ [some _] _
    os_names t_all
    · exact q 0 (by decide) (by decide)
    · exact q _ (by omega) (by simp only [E60]; omega)
    · exact q _ (by omega) (by simp only [E60]; omega)
theorem ok_odd (T : Txt K mg a) : FnOk P w K mg base (L2.CX P w) 1 a.f__law_odd_line a.d__law_odd_line ["_law_cell"] spOdd := by
  refine T.F__law_odd_line.okX sc__law_odd_line (fun vs H Q E h => ?_) (fun cdv A outer s H vs Q E hr h => ?_)
  · obtain ⟨c, rfl, _⟩ := h
    rfl
  · obtain ⟨c, rfl, q⟩ := h
    refine ⟨_, (pss_cons (ps_set (i := 1) sc__law_odd_line.nd rfl (Or.inl rfl) (pe_lst (pa_cons pe_str (pa_cons pe_str (pa_cons pe_str (pa_cons pe_str (pa_cons pe_str (pa_cons pe_str (pa_cons pe_str (pa_cons pe_str pa_nil))))))))))
 (pss_cons (ps_set (i := 1) sc__law_odd_line.nd rfl (Or.inl rfl) (pe_op op_cat (pv 1) (pe_lst (pa_cons pe_str (pa_cons pe_str (pa_cons pe_str (pa_cons pe_str (pa_cons pe_str (pa_cons pe_str pa_nil)))))))))
 (pss_cons (ps_set (i := 1) sc__law_odd_line.nd rfl (Or.inl rfl) (pe_op op_cat (pv 1) (pe_lst (pa_cons (pe_op op_addSQ pe_str (pe_op op_repSQ pe_str pe_int)) (pa_cons (pe_op op_addSQ (pe_op op_addSQ pe_str (pe_op op_repSQ pe_str pe_int)) pe_str) (pa_cons pe_str (pa_cons pe_str pa_nil)))))))
 (pss_one (ps_ret (pe_ix ix_list (pv 1) (pe_op op_mod (pv 0) pe_int) (fun _ _ => rfl))))))), ?_⟩
    os_names t_st
    change (_ : TS) _ [some _, none] _
    os_names t_go
    refine r_cat (by os_names t_hp) (by os_names t_hp) (le_line (by decide)) ?_
    intro l1 hl1
    have hl1 : Fresh _ l1 := hl1
    os_names t_go
    refine r_repS (by decide +kernel) (by decide) (by decide) fun y hy => ?_
    os_names t_go
    refine r_addS (by rw [show (("1 2 3 " : Str)).length = 6 from by decide +kernel]; omega) ?_
    os_names t_go
    refine r_repS (by decide +kernel) (by decide) (by decide) fun y2 hy2 => ?_
    os_names t_go
    refine r_addS (by rw [show (("1" : Str)).length = 1 from by decide +kernel]; omega) ?_
    os_names t_go
    refine r_addS (by rw [len_app, show (("1" : Str)).length = 1 from by decide +kernel, show ((" 2 3 4" : Str)).length = 6 from by decide +kernel]; omega) ?_
    os_names t_go
    rename_i l2 hl2
    refine r_cat (by os_names t_hp) (by os_names t_hp) (le_line (by simp)) ?_
    intro l3 hl3
    have hl3 : Fresh _ l3 := hl3
    os_names t_go
    refine r_ixL_any (SqL.of upd_same) (by omega) (by simp; omega) fun v hv => ?_
    have hz : ∃ z : Str, v = .str z ∧ z.length ≤ 6000 := by
      simp only [List.mem_append, List.mem_cons, List.not_mem_nil, or_false] at hv
      have e1 : ("1 2 3 " : Str).length = 6 := by decide +kernel
      have e2 : ("1" : Str).length = 1 := by decide +kernel
      have e3 : (" 2 3 4" : Str).length = 6 := by decide +kernel
      rcases hv with ((h | h | h | h | h | h | h | h) | h | h | h | h | h | h) | h | h | h | h
      all_goals
        refine ⟨_, h, ?_⟩
        first
          | decide +kernel
          | (simp only [len_app, e1, e2, e3]; omega)
    obtain ⟨z, rfl, hz⟩ := hz
    exact q z _ hz (by os_names t_sm)
theorem ok_refused (T : Txt K mg a) : FnOk P w K mg base (L2.CX P w) 4 a.f__law_refused_by_any a.d__law_refused_by_any ["_law_line"] spRefused := by
  have G_read := ok_read (P := P) (w := w) (base := base) T
  refine T.F__law_refused_by_any.okX sc__law_refused_by_any (fun vs H Q E h => ?_) (fun cdv A outer s H vs Q E hr h => ?_)
  · obtain ⟨c, rfl, _⟩ := h
    rfl
  · obtain ⟨z, rfl, hl, hn, q⟩ := h
    refine ⟨_, (pss_cons (ps_try_as (i := 1) rfl rfl sc__law_refused_by_any.nd rfl rfl ⟨rfl, by decide, .inl T.g_TreeError⟩ (takes_of rfl rfl rfl rfl) (fun W pn xe tk _ => (pss_one (ps_expr (pe_callS G_read (hr.mono (by decide)) rfl T.g_read T.k_read T.b_read (fun σ => passAt tk σ) (pa_cons (pv 0) pa_nil))))) (fun a0 oe cls d pn hz hf => (pss_one (ps_ret (pe_callB (call_isEQ hz hf) (by rfl) T.n_isinstance (by decide +kernel) (pa_cons (pv 1) (pa_cons (pe_bltn (v := .ty "ValueError") (by rfl) T.n_ValueError (by decide +kernel) rfl) pa_nil)))))))
 (pss_one (ps_ret pe_bl))), ?_⟩
    os_names t_st
    change (_ : TS) _ [some _, none] _
    os_names t_go
    refine c_read hl (fun _ _ _ _ _ _ _ hlo _ _ _ => (hn hlo).elim) fun _ H' hs => ?_
    refine ⟨true, T.ex_NoMove_TreeError, fun _ a0 ha0 => ?_, fun z => nomatch z⟩
    os_names t_go
    exact r_isE T.ec_NoMove (fun u h => h) T.kv_NoMove (q _)
theorem ok_law (T : Txt K mg a) : FnOk P w K mg base (L2.CX P w) 5 a.f_law a.d_law ["_law_script"] (spLaw K) := by
  have G__law_cell_at := ok_cell (P := P) (w := w) (base := base) T
  have G__law_number := ok_number (P := P) (w := w) (base := base) T
  have G__law_sign_by := ok_sign (P := P) (w := w) (base := base) T
  have G__law_odd_line := ok_odd (P := P) (w := w) (base := base) T
  have G__law_due_of := ok_due (P := P) (w := w) (base := base) T
  have G__law_same_move := ok_sameMove (P := P) (w := w) (base := base) T
  have G__law_refused_by_any := ok_refused (P := P) (w := w) (base := base) T
  have G_read := ok_read (P := P) (w := w) (base := base) T
  refine T.F_law.okX sc_law (fun vs H Q E h => ?_) (fun cdv A outer s H vs Q E hr h => ?_)
  · obtain ⟨p, ns, rfl, _⟩ := h
    rfl
  · obtain ⟨p, ns, rfl, hS, hlen, q⟩ := h
    have hu := hu_of hr
    refine ⟨_, (pss_cons (ps_setLc (i := 1) (own := [("_law_k", 8)]) (g := gName 8) rfl sc_law.nd rfl rfl (sw_true rfl rfl rfl (by decide +kernel)) (pi_range1 rfl T.n_range (pa_cons pe_int pa_nil)) (blkOk_by (own := [("_law_k", 8)]) (N := n_law) (sc := defScope s_law) (by decide +kernel)) (fun _ _ _ _ _ => pg_name (i := 8) sc_law.nd rfl (Or.inl rfl)) (fun _ _ _ _ _ => pts_nil) (fun _ _ _ _ _ => (pe_callTy (call_strQ) (by rfl) T.n_str (by decide +kernel) (pa_cons (pe_call G__law_number (hr.mono (by decide)) rfl T.g__law_number T.k__law_number T.b__law_number .nil passL (pa_cons (pe_call G__law_cell_at (hr.mono (by decide)) rfl T.g__law_cell_at T.k__law_cell_at T.b__law_cell_at .nil passL (pa_cons (pv 0) (pa_cons (pe_op op_add pe_int (pv 8)) pa_nil))) pa_nil)) pa_nil))))
 (pss_cons (ps_set (i := 2) sc_law.nd rfl (Or.inl rfl) (pe_op op_mod (pe_call G__law_cell_at (hr.mono (by decide)) rfl T.g__law_cell_at T.k__law_cell_at T.b__law_cell_at .nil passL (pa_cons (pv 0) (pa_cons pe_int pa_nil))) pe_int))
 (pss_cons (ps_set (i := 3) sc_law.nd rfl (Or.inl rfl) (pe_call G__law_cell_at (hr.mono (by decide)) rfl T.g__law_cell_at T.k__law_cell_at T.b__law_cell_at .nil passL (pa_cons (pv 0) (pa_cons pe_int pa_nil))))
 (Evl.pss_cut (ps_if (pt_cmpR (op_eq) (pv 2) pe_int (nomark _)) (pss_one (ps_asg (pe_op op_addSQ pe_str (pe_ix ix_list (pv 1) (pe_op op_mod (pv 3) pe_int) (fun _ _ => rfl))) (pg_sub (pv 1) (pe_op op_mod (pv 3) pe_int) set_list))) pss_nil)
 (pss_cons (ps_set (i := 4) sc_law.nd rfl (Or.inl rfl) (pe_joinQ pe_str (pv 1)))
 (Evl.pss_cut (ps_if (pt_cmpR (op_eq) (pv 2) pe_int (nomark _)) (pss_cons (ps_set (i := 3) sc_law.nd rfl (Or.inl rfl) (pe_op op_mod (pv 3) (pe_op op_add (pe_callB (call_lenSQ) (by rfl) T.n_len (by decide +kernel) (pa_cons (pv 4) pa_nil)) pe_int)))
 (pss_one (ps_set (i := 4) sc_law.nd rfl (Or.inl rfl) (pe_op op_addSQ (pe_op op_addSQ (pe_slice sl_str (pv 4) po_none (po_some (pv 3))) (pe_call G__law_sign_by (hr.mono (by decide)) rfl T.g__law_sign_by T.k__law_sign_by T.b__law_sign_by .nil passL (pa_cons (pe_call G__law_cell_at (hr.mono (by decide)) rfl T.g__law_cell_at T.k__law_cell_at T.b__law_cell_at .nil passL (pa_cons (pv 0) (pa_cons pe_int pa_nil))) pa_nil))) (pe_slice sl_str (pv 4) (po_some (pv 3)) po_none))))) pss_nil)
 (Evl.pss_cut (ps_if (pt_cmpR (op_eq) (pv 2) pe_int (nomark _)) (pss_cons (ps_set (i := 3) sc_law.nd rfl (Or.inl rfl) (pe_op op_mod (pv 3) (pe_callB (call_lenSQ) (by rfl) T.n_len (by decide +kernel) (pa_cons (pv 4) pa_nil))))
 (pss_one (ps_set (i := 4) sc_law.nd rfl (Or.inl rfl) (pe_op op_addSQ (pe_slice sl_str (pv 4) po_none (po_some (pv 3))) (pe_slice sl_str (pv 4) (po_some (pe_op op_add (pv 3) pe_int)) po_none))))) pss_nil)
 (Evl.pss_cut (ps_if (pt_cmpR (op_eq) (pv 2) pe_int (nomark _)) (pss_one (ps_set (i := 4) sc_law.nd rfl (Or.inl rfl) (pe_call G__law_odd_line (hr.mono (by decide)) rfl T.g__law_odd_line T.k__law_odd_line T.b__law_odd_line .nil passL (pa_cons (pv 3) pa_nil)))) pss_nil)
 (pss_cons (ps_set (i := 5) sc_law.nd rfl (Or.inl rfl) (pe_call G__law_due_of (hr.mono (by decide)) rfl T.g__law_due_of T.k__law_due_of T.b__law_due_of .nil passL (pa_cons (pv 4) pa_nil)))
 (pss_cons (ps_set (i := 6) sc_law.nd rfl (Or.inl rfl) pe_non)
 (pss_cons (ps_set (i := 7) sc_law.nd rfl (Or.inl rfl) pe_bl)
 (pss_cons (ps_try_many rfl rfl (takes_of rfl rfl rfl rfl) (fun W pn xe tk _ => (pss_one (ps_set (i := 6) sc_law.nd rfl (Or.inl rfl) (pe_callS G_read (hr.mono (by decide)) rfl T.g_read T.k_read T.b_read (fun σ => passAt tk σ) (pa_cons (pv 4) pa_nil))))) (HdsOk.cons ⟨rfl, by decide, .inl T.g_NoMove⟩ (fun a0 oe cls d pn hz hf => (pss_one (ps_set (i := 7) sc_law.nd rfl (Or.inl rfl) pe_bl))) HdsOk.nil))
 (pss_cons (ps_if (pt_cmpR (op_isNQ) (pv 5) pe_non (nomark _)) (pss_one (ps_ret (pe_and (pv 7) (pe_one (pe_call G__law_refused_by_any (hr.mono (by decide)) rfl T.g__law_refused_by_any T.k__law_refused_by_any T.b__law_refused_by_any .nil passL (pa_cons (pv 4) pa_nil)))))) pss_nil)
 (pss_one (ps_ret (pe_and (pe_not (pv 7)) (pe_one (pe_call G__law_same_move (hr.mono (by decide)) rfl T.g__law_same_move T.k__law_same_move T.b__law_same_move .nil passL (pa_cons (pv 6) (pa_cons (pv 5) pa_nil)))))))))))))))))))), ?_⟩
    os_names t_st
    change (_ : TS) _ [some _, none, none, none, none, none, none, none, none] _
    os_names t_go
    refine r_lcR 4 (fun D i H' => H D = none ∧ ∃ xs : List Str, H' = upd H D (.lst (xs.map V.str)) ∧ xs.length = i ∧ ∀ z ∈ xs, z.length ≤ 100) (by omega) (fun D hD => ⟨hD, [], rfl, rfl, by simp⟩) ?_ ?_
    · rintro D i H' hi ⟨hD, xs, rfl, rfl, hb⟩
      have hD' : Fresh H D := hD
      os_names t_go
      refine ⟨_, rfl, fun n h0 h1 => ?_⟩
      os_names t_go
      refine r_strB h0 h1 fun z hz => ?_
      refine r_acc upd_same (lt_line (by simp; omega)) ?_
      refine ⟨hD, xs ++ [z], by rw [upd_upd, List.map_append]; rfl, by simp, ?_⟩
      intro y hy
      rcases List.mem_append.mp hy with hy | hy
      · exact hb y hy
      · rw [List.mem_singleton.mp hy]
        exact hz
    · rintro D H' ⟨hD, xs, rfl, hx, hb⟩
      have hD' : Fresh H D := hD
      os_names t_go
      refine r_cut (fun σ' H' => ∃ xs : List Str, σ' = [some (.ref p), some (.ref D), some (.int (cellAt ns 0 % 6)), some (.int (cellAt ns 5)), none, none, none, none, none] ∧ Same H H' ∧ H' D = some (.lst (xs.map V.str)) ∧ xs.length = 4 ∧ ∀ z ∈ xs, z.length ≤ 101) ?_ ?_
      · os_names t_go
        os_names t_sp
        · os_names t_go
          have hj : (cellAt ns 5 % 4).toNat < xs.length := by omega
          have hat : atI (xs.map V.str) (cellAt ns 5 % 4) = some (.str xs[(cellAt ns 5 % 4).toNat]) := by
            have e := atI_nat (xs := xs.map V.str) (j := (cellAt ns 5 % 4).toNat) (v := .str xs[(cellAt ns 5 % 4).toNat]) (by rw [List.getElem?_map, List.getElem?_eq_getElem hj]; rfl)
            rwa [Int.toNat_of_nonneg (by omega)] at e
          have hlj := hb _ (List.getElem_mem hj)
          refine r_ixL (SqL.of upd_same) hat ?_
          os_names t_go
          refine r_setL upd_same ⟨by omega, by simp; omega⟩ ?_
          refine ⟨xs.set (cellAt ns 5 % 4).toNat ("0" ++ xs[(cellAt ns 5 % 4).toNat]), rfl, ?_, ?_, by simp [hx], ?_⟩
          · rw [upd_upd]
            exact Same.new (Same.refl _) hD
          · rw [upd_same, List.map_set]
          · intro z hz
            rcases List.mem_or_eq_of_mem_set hz with hz | hz
            · have := hb z hz
              omega
            · rw [hz]
              simp only [len_app, len_zero]
              omega
        · os_names t_go
          exact ⟨xs, rfl, Same.new (Same.refl _) hD, upd_same, hx, fun z hz => Nat.le_succ_of_le (hb z hz)⟩
      rintro σ' H' ⟨xs, rfl, hs, hw, hx, hb⟩
      os_names t_go
      obtain ⟨hj1, hj2, hj3⟩ := join_len4 hx hb
      refine r_join (SqL.of hw) hj1 ?_
      generalize Txt.join " " xs = z at hj2 hj3
      have hS1 : ∀ {H2}, Same H H2 → SqL K H2 p (ns.map V.int) := fun h => h.seq hS
      os_names t_go
      refine r_cut (fun σ' H' => ∃ (at' : Int) (z : Str), σ' = [some (.ref p), some (.ref D), some (.int (cellAt ns 0 % 6)), some (.int at'), some (.str z), none, none, none, none] ∧ Same H H' ∧ z.length ≤ 1100 ∧ (cellAt ns 0 % 6 ≠ 1 → 3 ≤ z.length)) ?_ ?_
      · have hS' := hS1 hs
        os_names t_go
        os_names t_sp
        · rename_i h1
          os_names t_go
          refine ⟨_, rfl, fun x => ?_⟩
          have c1 := cutS_len z none (some (cellAt ns 5 % ((z.length : Int) + 1)))
          have c2 := cutS_len z (some (cellAt ns 5 % ((z.length : Int) + 1))) none
          refine r_addS ?_ ?_
          · simp only [len_one]
            omega
          os_names t_go
          exact ⟨_, _, rfl, hs, by simp only [len_app, len_one]; omega, fun h => (h h1).elim⟩
        · os_names t_go
          exact ⟨_, z, rfl, hs, by omega, fun _ => hj3⟩
      clear hj1 hj2 hj3 hs hw hx hb
      rintro σ' H' ⟨at', z, rfl, hs, hz, hz2⟩
      refine r_cut (fun σ' H' => ∃ (at' : Int) (z : Str), σ' = [some (.ref p), some (.ref D), some (.int (cellAt ns 0 % 6)), some (.int at'), some (.str z), none, none, none, none] ∧ Same H H' ∧ z.length ≤ 2200) ?_ ?_
      · os_names t_go
        os_names t_sp
        · rename_i h2
          have h3 := hz2 (by omega)
          os_names t_go
          have c1 := cutS_len z none (some (at' % (z.length : Int)))
          have c2 := cutS_len z (some (at' % (z.length : Int) + 1)) none
          refine r_addS ?_ ?_
          · omega
          exact ⟨_, _, rfl, hs, by simp only [len_app]; omega⟩
        · os_names t_go
          exact ⟨_, z, rfl, hs, by omega⟩
      clear hs hz hz2
      rintro σ' H' ⟨at2, z, rfl, hs, hz⟩
      refine r_cut (fun σ' H' => ∃ (at' : Int) (z : Str), σ' = [some (.ref p), some (.ref D), some (.int (cellAt ns 0 % 6)), some (.int at'), some (.str z), none, none, none, none] ∧ Same H H' ∧ z.length ≤ 10000) ?_ ?_
      · os_names t_go
        os_names t_sp
        · os_names t_go
          refine ⟨_, rfl, fun y H2 hy hs2 => ?_⟩
          os_names t_go
          exact ⟨_, y, rfl, hs.trans hs2, by omega⟩
        · os_names t_go
          exact ⟨_, z, rfl, hs, by omega⟩
      clear hs hz
      rintro σ' H' ⟨at3, z, rfl, hs, hz⟩
      os_names t_go
      by_cases hlo : LineOk z
      · refine c_due hz (fun w1 w2 w3 w4 p1 H1 hw _ hf1 hs1 hp1 => ?_) fun h => (h hlo).elim
        os_names t_go
        refine c_read hz (fun v1 v2 v3 v4 p2 H2 hv _ hf2 hs2 hp2 => ?_) fun h => (h hlo).elim
        rw [hw] at hv
        simp at hv
        obtain ⟨rfl, rfl, rfl, rfl⟩ := hv
        os_names t_go
        os_names t_v
        os_names t_go
        refine c_sameMove (m := ⟨numV w1, numV w2, numV w3, numV w4⟩) hp2 (hs2 _ _ hp1) ?_
        exact q _
      · refine c_due hz (fun _ _ _ _ _ _ _ h _ _ _ => (hlo h).elim) fun _ H1 hs1 => ?_
        os_names t_go
        refine c_read hz (fun _ _ _ _ _ _ _ h _ _ _ => (hlo h).elim) fun _ H2 hs2 => ?_
        refine ⟨true, T.ex_NoMove_NoMove, fun _ a0 ha0 => ?_, fun z => nomatch z⟩
        os_names t_go
        os_names t_v
        os_names t_go
        exact ⟨z, rfl, hz, hlo, q⟩
end
theorem all_mk {l : PySem.W.OpenLaw} {w : World} {K : PySem.W.Frag} {h : Heap} {mg : Str → Option Value} {fa : Addr} (X : K.In h) (G : h.Ns mainGlobals mg) (hfa : mg "law" = some (.ref fa))
    {f_whole f_is_move f_number_of f_read f__law_whole f__law_cell_at f__law_same_move f__law_sign_by f__law_number f__law_odd_line f__law_due_of f__law_refused_by_any f_law c_TreeError c_NoMove : Addr}
    {t_FIGURES t_LONGEST : Tok}
    {od_whole an_whole od_is_move an_is_move od_number_of an_number_of od_read an_read od__law_whole an__law_whole od__law_cell_at an__law_cell_at od__law_same_move an__law_same_move od__law_sign_by an__law_sign_by od__law_number an__law_number od__law_odd_line an__law_odd_line od__law_due_of an__law_due_of od__law_refused_by_any an__law_refused_by_any od_law an_law : Option Addr}
    {sl_whole sl_is_move sl_number_of sl_read sl__law_whole sl__law_cell_at sl__law_same_move sl__law_sign_by sl__law_number sl__law_odd_line sl__law_due_of sl__law_refused_by_any sl_law : Array (Option Value)}
    {oc_whole kV_whole dc_whole pm_whole cd_whole ct_whole oc_is_move kV_is_move dc_is_move pm_is_move cd_is_move ct_is_move oc_number_of kV_number_of dc_number_of pm_number_of cd_number_of ct_number_of oc_read kV_read dc_read pm_read cd_read ct_read oc__law_whole kV__law_whole dc__law_whole pm__law_whole cd__law_whole ct__law_whole oc__law_cell_at kV__law_cell_at dc__law_cell_at pm__law_cell_at cd__law_cell_at ct__law_cell_at oc__law_same_move kV__law_same_move dc__law_same_move pm__law_same_move cd__law_same_move ct__law_same_move oc__law_sign_by kV__law_sign_by dc__law_sign_by pm__law_sign_by cd__law_sign_by ct__law_sign_by oc__law_number kV__law_number dc__law_number pm__law_number cd__law_number ct__law_number oc__law_odd_line kV__law_odd_line dc__law_odd_line pm__law_odd_line cd__law_odd_line ct__law_odd_line oc__law_due_of kV__law_due_of dc__law_due_of pm__law_due_of cd__law_due_of ct__law_due_of oc__law_refused_by_any kV__law_refused_by_any dc__law_refused_by_any pm__law_refused_by_any cd__law_refused_by_any ct__law_refused_by_any oc_law kV_law dc_law pm_law cd_law ct_law : Value}
    (aC_TreeError : PySem.W.nsIn K mainGlobals "TreeError" = some (some (.ref c_TreeError)))
    (aC_NoMove : PySem.W.nsIn K mainGlobals "NoMove" = some (some (.ref c_NoMove)))
    (a_whole : PySem.W.nsIn K mainGlobals "whole" = some (some (.ref f_whole)))
    (l_whole : K.lookup f_whole = some ⟨oc_whole, od_whole, .func (PySem.W.fnOf "whole" "whole" (defArgs s_whole) (defBody s_whole) (defScope s_whole) .none kV_whole dc_whole pm_whole an_whole cd_whole ct_whole), sl_whole⟩)
    (c_whole : PySem.W.codeIn K cd_whole "whole" = true)
    (k_whole : PySem.W.keepIn K (.ref f_whole) = true)
    (a_is_move : PySem.W.nsIn K mainGlobals "is_move" = some (some (.ref f_is_move)))
    (l_is_move : K.lookup f_is_move = some ⟨oc_is_move, od_is_move, .func (PySem.W.fnOf "is_move" "is_move" (defArgs s_is_move) (defBody s_is_move) (defScope s_is_move) .none kV_is_move dc_is_move pm_is_move an_is_move cd_is_move ct_is_move), sl_is_move⟩)
    (c_is_move : PySem.W.codeIn K cd_is_move "is_move" = true)
    (k_is_move : PySem.W.keepIn K (.ref f_is_move) = true)
    (a_number_of : PySem.W.nsIn K mainGlobals "number_of" = some (some (.ref f_number_of)))
    (l_number_of : K.lookup f_number_of = some ⟨oc_number_of, od_number_of, .func (PySem.W.fnOf "number_of" "number_of" (defArgs s_number_of) (defBody s_number_of) (defScope s_number_of) .none kV_number_of dc_number_of pm_number_of an_number_of cd_number_of ct_number_of), sl_number_of⟩)
    (c_number_of : PySem.W.codeIn K cd_number_of "number_of" = true)
    (k_number_of : PySem.W.keepIn K (.ref f_number_of) = true)
    (a_read : PySem.W.nsIn K mainGlobals "read" = some (some (.ref f_read)))
    (l_read : K.lookup f_read = some ⟨oc_read, od_read, .func (PySem.W.fnOf "read" "read" (defArgs s_read) (defBody s_read) (defScope s_read) .none kV_read dc_read pm_read an_read cd_read ct_read), sl_read⟩)
    (c_read : PySem.W.codeIn K cd_read "read" = true)
    (k_read : PySem.W.keepIn K (.ref f_read) = true)
    (a__law_whole : PySem.W.nsIn K mainGlobals "_law_whole" = some (some (.ref f__law_whole)))
    (l__law_whole : K.lookup f__law_whole = some ⟨oc__law_whole, od__law_whole, .func (PySem.W.fnOf "_law_whole" "_law_whole" (defArgs s__law_whole) (defBody s__law_whole) (defScope s__law_whole) .none kV__law_whole dc__law_whole pm__law_whole an__law_whole cd__law_whole ct__law_whole), sl__law_whole⟩)
    (c__law_whole : PySem.W.codeIn K cd__law_whole "_law_whole" = true)
    (k__law_whole : PySem.W.keepIn K (.ref f__law_whole) = true)
    (a__law_cell_at : PySem.W.nsIn K mainGlobals "_law_cell_at" = some (some (.ref f__law_cell_at)))
    (l__law_cell_at : K.lookup f__law_cell_at = some ⟨oc__law_cell_at, od__law_cell_at, .func (PySem.W.fnOf "_law_cell_at" "_law_cell_at" (defArgs s__law_cell_at) (defBody s__law_cell_at) (defScope s__law_cell_at) .none kV__law_cell_at dc__law_cell_at pm__law_cell_at an__law_cell_at cd__law_cell_at ct__law_cell_at), sl__law_cell_at⟩)
    (c__law_cell_at : PySem.W.codeIn K cd__law_cell_at "_law_cell_at" = true)
    (k__law_cell_at : PySem.W.keepIn K (.ref f__law_cell_at) = true)
    (a__law_same_move : PySem.W.nsIn K mainGlobals "_law_same_move" = some (some (.ref f__law_same_move)))
    (l__law_same_move : K.lookup f__law_same_move = some ⟨oc__law_same_move, od__law_same_move, .func (PySem.W.fnOf "_law_same_move" "_law_same_move" (defArgs s__law_same_move) (defBody s__law_same_move) (defScope s__law_same_move) .none kV__law_same_move dc__law_same_move pm__law_same_move an__law_same_move cd__law_same_move ct__law_same_move), sl__law_same_move⟩)
    (c__law_same_move : PySem.W.codeIn K cd__law_same_move "_law_same_move" = true)
    (k__law_same_move : PySem.W.keepIn K (.ref f__law_same_move) = true)
    (a__law_sign_by : PySem.W.nsIn K mainGlobals "_law_sign_by" = some (some (.ref f__law_sign_by)))
    (l__law_sign_by : K.lookup f__law_sign_by = some ⟨oc__law_sign_by, od__law_sign_by, .func (PySem.W.fnOf "_law_sign_by" "_law_sign_by" (defArgs s__law_sign_by) (defBody s__law_sign_by) (defScope s__law_sign_by) .none kV__law_sign_by dc__law_sign_by pm__law_sign_by an__law_sign_by cd__law_sign_by ct__law_sign_by), sl__law_sign_by⟩)
    (c__law_sign_by : PySem.W.codeIn K cd__law_sign_by "_law_sign_by" = true)
    (k__law_sign_by : PySem.W.keepIn K (.ref f__law_sign_by) = true)
    (a__law_number : PySem.W.nsIn K mainGlobals "_law_number" = some (some (.ref f__law_number)))
    (l__law_number : K.lookup f__law_number = some ⟨oc__law_number, od__law_number, .func (PySem.W.fnOf "_law_number" "_law_number" (defArgs s__law_number) (defBody s__law_number) (defScope s__law_number) .none kV__law_number dc__law_number pm__law_number an__law_number cd__law_number ct__law_number), sl__law_number⟩)
    (c__law_number : PySem.W.codeIn K cd__law_number "_law_number" = true)
    (k__law_number : PySem.W.keepIn K (.ref f__law_number) = true)
    (a__law_odd_line : PySem.W.nsIn K mainGlobals "_law_odd_line" = some (some (.ref f__law_odd_line)))
    (l__law_odd_line : K.lookup f__law_odd_line = some ⟨oc__law_odd_line, od__law_odd_line, .func (PySem.W.fnOf "_law_odd_line" "_law_odd_line" (defArgs s__law_odd_line) (defBody s__law_odd_line) (defScope s__law_odd_line) .none kV__law_odd_line dc__law_odd_line pm__law_odd_line an__law_odd_line cd__law_odd_line ct__law_odd_line), sl__law_odd_line⟩)
    (c__law_odd_line : PySem.W.codeIn K cd__law_odd_line "_law_odd_line" = true)
    (k__law_odd_line : PySem.W.keepIn K (.ref f__law_odd_line) = true)
    (a__law_due_of : PySem.W.nsIn K mainGlobals "_law_due_of" = some (some (.ref f__law_due_of)))
    (l__law_due_of : K.lookup f__law_due_of = some ⟨oc__law_due_of, od__law_due_of, .func (PySem.W.fnOf "_law_due_of" "_law_due_of" (defArgs s__law_due_of) (defBody s__law_due_of) (defScope s__law_due_of) .none kV__law_due_of dc__law_due_of pm__law_due_of an__law_due_of cd__law_due_of ct__law_due_of), sl__law_due_of⟩)
    (c__law_due_of : PySem.W.codeIn K cd__law_due_of "_law_due_of" = true)
    (k__law_due_of : PySem.W.keepIn K (.ref f__law_due_of) = true)
    (a__law_refused_by_any : PySem.W.nsIn K mainGlobals "_law_refused_by_any" = some (some (.ref f__law_refused_by_any)))
    (l__law_refused_by_any : K.lookup f__law_refused_by_any = some ⟨oc__law_refused_by_any, od__law_refused_by_any, .func (PySem.W.fnOf "_law_refused_by_any" "_law_refused_by_any" (defArgs s__law_refused_by_any) (defBody s__law_refused_by_any) (defScope s__law_refused_by_any) .none kV__law_refused_by_any dc__law_refused_by_any pm__law_refused_by_any an__law_refused_by_any cd__law_refused_by_any ct__law_refused_by_any), sl__law_refused_by_any⟩)
    (c__law_refused_by_any : PySem.W.codeIn K cd__law_refused_by_any "_law_refused_by_any" = true)
    (k__law_refused_by_any : PySem.W.keepIn K (.ref f__law_refused_by_any) = true)
    (a_law : PySem.W.nsIn K mainGlobals "law" = some (some (.ref f_law)))
    (l_law : K.lookup f_law = some ⟨oc_law, od_law, .func (PySem.W.fnOf "law" "law" (defArgs s_law) (defBody s_law) (defScope s_law) .none kV_law dc_law pm_law an_law cd_law ct_law), sl_law⟩)
    (c_law : PySem.W.codeIn K cd_law "law" = true)
    (k_law : PySem.W.keepIn K (.ref f_law) = true)
    (x_TreeError : PySem.W.excIn K c_TreeError [.type "ValueError", .type "Exception", .type "BaseException", .type "object"] "ValueError.__new__" = true)
    (ke_TreeError : PySem.W.keepIn K (.ref c_TreeError) = true)
    (be_TreeError : PySem.W.subIn K (.ref c_TreeError) (.type "BaseException") = some true)
    (te_TreeError : PySem.W.typeIn K (.ref c_TreeError) = some (.type "type"))
    (ic_TreeError : PySem.W.isClsIn K c_TreeError = true)
    (x_NoMove : PySem.W.excIn K c_NoMove [.type "ValueError", .type "Exception", .type "BaseException", .type "object"] "ValueError.__new__" = true)
    (ke_NoMove : PySem.W.keepIn K (.ref c_NoMove) = true)
    (be_NoMove : PySem.W.subIn K (.ref c_NoMove) (.type "BaseException") = some true)
    (te_NoMove : PySem.W.typeIn K (.ref c_NoMove) = some (.type "type"))
    (ic_NoMove : PySem.W.isClsIn K c_NoMove = true)
    (eg_TreeError : PySem.W.findIn K (.ref c_TreeError) "__getattribute__" = some (some (.builtin "BaseException.__getattribute__")))
    (ek_TreeError : PySem.W.findIn K (.ref c_TreeError) "__getattr__" = some none)
    (eh_TreeError : PySem.W.hasDictIn K c_TreeError = true)
    (ea_TreeError : PySem.W.findIn K (.ref c_TreeError) "__class__" = some (some (.builtin "object.__class__")))
    (em_TreeError : PySem.W.mroIn K c_TreeError (.type "object") = some true)
    (ev_TreeError : PySem.W.subIn K (.ref c_TreeError) (.type "ValueError") = some true)
    (eg_NoMove : PySem.W.findIn K (.ref c_NoMove) "__getattribute__" = some (some (.builtin "BaseException.__getattribute__")))
    (ek_NoMove : PySem.W.findIn K (.ref c_NoMove) "__getattr__" = some none)
    (eh_NoMove : PySem.W.hasDictIn K c_NoMove = true)
    (ea_NoMove : PySem.W.findIn K (.ref c_NoMove) "__class__" = some (some (.builtin "object.__class__")))
    (em_NoMove : PySem.W.mroIn K c_NoMove (.type "object") = some true)
    (ev_NoMove : PySem.W.subIn K (.ref c_NoMove) (.type "ValueError") = some true)
    (es_ : PySem.W.specialIn K (.builtin "object.__class__") "__get__" = some (some (.builtin "getset_descriptor.__get__")))
    (et_ : PySem.W.takesIn K (.builtin "object.__class__") = some true)
    (nq_TreeError_NoMove : (c_TreeError == c_NoMove) = false)
    (su_TreeError_TreeError : PySem.W.subIn K (.ref c_TreeError) (.ref c_TreeError) = some true)
    (su_TreeError_NoMove : PySem.W.subIn K (.ref c_TreeError) (.ref c_NoMove) = some false)
    (su_NoMove_TreeError : PySem.W.subIn K (.ref c_NoMove) (.ref c_TreeError) = some true)
    (su_NoMove_NoMove : PySem.W.subIn K (.ref c_NoMove) (.ref c_NoMove) = some true)
    (g_FIGURES : PySem.W.nsIn K mainGlobals "FIGURES" = some (some (.str "0123456789" t_FIGURES)))
    (g_LONGEST : PySem.W.nsIn K mainGlobals "LONGEST" = some (some (.int 61 t_LONGEST)))
    (n_len : PySem.W.nsIn K mainGlobals "len" = some none)
    (n_isinstance : PySem.W.nsIn K mainGlobals "isinstance" = some none)
    (n_range : PySem.W.nsIn K mainGlobals "range" = some none)
    (n_int : PySem.W.nsIn K mainGlobals "int" = some none)
    (n_bool : PySem.W.nsIn K mainGlobals "bool" = some none)
    (n_str : PySem.W.nsIn K mainGlobals "str" = some none)
    (n_tuple : PySem.W.nsIn K mainGlobals "tuple" = some none)
    (n_ValueError : PySem.W.nsIn K mainGlobals "ValueError" = some none)
    : ∃ fd : FuncData, (∀ (s : Shared) (v : Value), BindsTo s fd ⟨[v], []⟩ [("_law_script", v)]) ∧ ∀ base : Heap, K.In base → base.Ns mainGlobals mg → FnOk l.prog w K mg base (L2.CX l.prog w) 5 fa fd ["_law_script"] (spLaw K) := by
  have e := hfa.symm.trans (PySem.W.mg_of X G a_law)
  have e2 : f_law = fa := by injection e with z; injection z with z; exact z.symm
  subst e2
  have F_whole := fun_mk (st := s_whole) l_whole c_whole k_whole
  have F_is_move := fun_mk (st := s_is_move) l_is_move c_is_move k_is_move
  have F_number_of := fun_mk (st := s_number_of) l_number_of c_number_of k_number_of
  have F_read := fun_mk (st := s_read) l_read c_read k_read
  have F__law_whole := fun_mk (st := s__law_whole) l__law_whole c__law_whole k__law_whole
  have F__law_cell_at := fun_mk (st := s__law_cell_at) l__law_cell_at c__law_cell_at k__law_cell_at
  have F__law_same_move := fun_mk (st := s__law_same_move) l__law_same_move c__law_same_move k__law_same_move
  have F__law_sign_by := fun_mk (st := s__law_sign_by) l__law_sign_by c__law_sign_by k__law_sign_by
  have F__law_number := fun_mk (st := s__law_number) l__law_number c__law_number k__law_number
  have F__law_odd_line := fun_mk (st := s__law_odd_line) l__law_odd_line c__law_odd_line k__law_odd_line
  have F__law_due_of := fun_mk (st := s__law_due_of) l__law_due_of c__law_due_of k__law_due_of
  have F__law_refused_by_any := fun_mk (st := s__law_refused_by_any) l__law_refused_by_any c__law_refused_by_any k__law_refused_by_any
  have F_law := fun_mk (st := s_law) l_law c_law k_law
  let a : Ad := {
    f_whole := f_whole, d_whole := PySem.W.fnOf "whole" "whole" (defArgs s_whole) (defBody s_whole) (defScope s_whole) .none kV_whole dc_whole pm_whole an_whole cd_whole ct_whole,
    f_is_move := f_is_move, d_is_move := PySem.W.fnOf "is_move" "is_move" (defArgs s_is_move) (defBody s_is_move) (defScope s_is_move) .none kV_is_move dc_is_move pm_is_move an_is_move cd_is_move ct_is_move,
    f_number_of := f_number_of, d_number_of := PySem.W.fnOf "number_of" "number_of" (defArgs s_number_of) (defBody s_number_of) (defScope s_number_of) .none kV_number_of dc_number_of pm_number_of an_number_of cd_number_of ct_number_of,
    f_read := f_read, d_read := PySem.W.fnOf "read" "read" (defArgs s_read) (defBody s_read) (defScope s_read) .none kV_read dc_read pm_read an_read cd_read ct_read,
    f__law_whole := f__law_whole, d__law_whole := PySem.W.fnOf "_law_whole" "_law_whole" (defArgs s__law_whole) (defBody s__law_whole) (defScope s__law_whole) .none kV__law_whole dc__law_whole pm__law_whole an__law_whole cd__law_whole ct__law_whole,
    f__law_cell_at := f__law_cell_at, d__law_cell_at := PySem.W.fnOf "_law_cell_at" "_law_cell_at" (defArgs s__law_cell_at) (defBody s__law_cell_at) (defScope s__law_cell_at) .none kV__law_cell_at dc__law_cell_at pm__law_cell_at an__law_cell_at cd__law_cell_at ct__law_cell_at,
    f__law_same_move := f__law_same_move, d__law_same_move := PySem.W.fnOf "_law_same_move" "_law_same_move" (defArgs s__law_same_move) (defBody s__law_same_move) (defScope s__law_same_move) .none kV__law_same_move dc__law_same_move pm__law_same_move an__law_same_move cd__law_same_move ct__law_same_move,
    f__law_sign_by := f__law_sign_by, d__law_sign_by := PySem.W.fnOf "_law_sign_by" "_law_sign_by" (defArgs s__law_sign_by) (defBody s__law_sign_by) (defScope s__law_sign_by) .none kV__law_sign_by dc__law_sign_by pm__law_sign_by an__law_sign_by cd__law_sign_by ct__law_sign_by,
    f__law_number := f__law_number, d__law_number := PySem.W.fnOf "_law_number" "_law_number" (defArgs s__law_number) (defBody s__law_number) (defScope s__law_number) .none kV__law_number dc__law_number pm__law_number an__law_number cd__law_number ct__law_number,
    f__law_odd_line := f__law_odd_line, d__law_odd_line := PySem.W.fnOf "_law_odd_line" "_law_odd_line" (defArgs s__law_odd_line) (defBody s__law_odd_line) (defScope s__law_odd_line) .none kV__law_odd_line dc__law_odd_line pm__law_odd_line an__law_odd_line cd__law_odd_line ct__law_odd_line,
    f__law_due_of := f__law_due_of, d__law_due_of := PySem.W.fnOf "_law_due_of" "_law_due_of" (defArgs s__law_due_of) (defBody s__law_due_of) (defScope s__law_due_of) .none kV__law_due_of dc__law_due_of pm__law_due_of an__law_due_of cd__law_due_of ct__law_due_of,
    f__law_refused_by_any := f__law_refused_by_any, d__law_refused_by_any := PySem.W.fnOf "_law_refused_by_any" "_law_refused_by_any" (defArgs s__law_refused_by_any) (defBody s__law_refused_by_any) (defScope s__law_refused_by_any) .none kV__law_refused_by_any dc__law_refused_by_any pm__law_refused_by_any an__law_refused_by_any cd__law_refused_by_any ct__law_refused_by_any,
    f_law := f_law, d_law := PySem.W.fnOf "law" "law" (defArgs s_law) (defBody s_law) (defScope s_law) .none kV_law dc_law pm_law an_law cd_law ct_law,
    c_TreeError := c_TreeError,
    c_NoMove := c_NoMove,
    t_FIGURES := t_FIGURES,
    t_LONGEST := t_LONGEST }
  have T : Txt K mg a := {
    F_whole := F_whole,
    b_whole := F_whole.binds (ps := ["thing", "least"]) fun _ _ _ _ _ _ us hl => match us, hl with | [_, _], _ => rfl,
    g_whole := PySem.W.mg_of X G a_whole,
    k_whole := k_whole,
    F_is_move := F_is_move,
    b_is_move := F_is_move.binds (ps := ["thing"]) fun _ _ _ _ _ _ us hl => match us, hl with | [_], _ => rfl,
    g_is_move := PySem.W.mg_of X G a_is_move,
    k_is_move := k_is_move,
    F_number_of := F_number_of,
    b_number_of := F_number_of.binds (ps := ["word"]) fun _ _ _ _ _ _ us hl => match us, hl with | [_], _ => rfl,
    g_number_of := PySem.W.mg_of X G a_number_of,
    k_number_of := k_number_of,
    F_read := F_read,
    b_read := F_read.binds (ps := ["line"]) fun _ _ _ _ _ _ us hl => match us, hl with | [_], _ => rfl,
    g_read := PySem.W.mg_of X G a_read,
    k_read := k_read,
    F__law_whole := F__law_whole,
    b__law_whole := F__law_whole.binds (ps := ["_law_found"]) fun _ _ _ _ _ _ us hl => match us, hl with | [_], _ => rfl,
    g__law_whole := PySem.W.mg_of X G a__law_whole,
    k__law_whole := k__law_whole,
    F__law_cell_at := F__law_cell_at,
    b__law_cell_at := F__law_cell_at.binds (ps := ["_law_script", "_law_k"]) fun _ _ _ _ _ _ us hl => match us, hl with | [_, _], _ => rfl,
    g__law_cell_at := PySem.W.mg_of X G a__law_cell_at,
    k__law_cell_at := k__law_cell_at,
    F__law_same_move := F__law_same_move,
    b__law_same_move := F__law_same_move.binds (ps := ["_law_found", "_law_due"]) fun _ _ _ _ _ _ us hl => match us, hl with | [_, _], _ => rfl,
    g__law_same_move := PySem.W.mg_of X G a__law_same_move,
    k__law_same_move := k__law_same_move,
    F__law_sign_by := F__law_sign_by,
    b__law_sign_by := F__law_sign_by.binds (ps := ["_law_cell"]) fun _ _ _ _ _ _ us hl => match us, hl with | [_], _ => rfl,
    g__law_sign_by := PySem.W.mg_of X G a__law_sign_by,
    k__law_sign_by := k__law_sign_by,
    F__law_number := F__law_number,
    b__law_number := F__law_number.binds (ps := ["_law_cell"]) fun _ _ _ _ _ _ us hl => match us, hl with | [_], _ => rfl,
    g__law_number := PySem.W.mg_of X G a__law_number,
    k__law_number := k__law_number,
    F__law_odd_line := F__law_odd_line,
    b__law_odd_line := F__law_odd_line.binds (ps := ["_law_cell"]) fun _ _ _ _ _ _ us hl => match us, hl with | [_], _ => rfl,
    g__law_odd_line := PySem.W.mg_of X G a__law_odd_line,
    k__law_odd_line := k__law_odd_line,
    F__law_due_of := F__law_due_of,
    b__law_due_of := F__law_due_of.binds (ps := ["_law_line"]) fun _ _ _ _ _ _ us hl => match us, hl with | [_], _ => rfl,
    g__law_due_of := PySem.W.mg_of X G a__law_due_of,
    k__law_due_of := k__law_due_of,
    F__law_refused_by_any := F__law_refused_by_any,
    b__law_refused_by_any := F__law_refused_by_any.binds (ps := ["_law_line"]) fun _ _ _ _ _ _ us hl => match us, hl with | [_], _ => rfl,
    g__law_refused_by_any := PySem.W.mg_of X G a__law_refused_by_any,
    k__law_refused_by_any := k__law_refused_by_any,
    F_law := F_law,
    b_law := F_law.binds (ps := ["_law_script"]) fun _ _ _ _ _ _ us hl => match us, hl with | [_], _ => rfl,
    g_law := PySem.W.mg_of X G a_law,
    k_law := k_law,
    g_TreeError := PySem.W.mg_of X G aC_TreeError,
    x_TreeError := x_TreeError,
    ke_TreeError := ke_TreeError,
    be_TreeError := be_TreeError,
    te_TreeError := te_TreeError,
    g_NoMove := PySem.W.mg_of X G aC_NoMove,
    x_NoMove := x_NoMove,
    ke_NoMove := ke_NoMove,
    be_NoMove := be_NoMove,
    te_NoMove := te_NoMove,
    ec_TreeError := ⟨eg_TreeError, ek_TreeError, be_TreeError, eh_TreeError, ea_TreeError, es_, et_, em_TreeError⟩,
    kv_TreeError := kit_val ev_TreeError,
    ki_TreeError_TreeError := kit_own ic_TreeError te_TreeError su_TreeError_TreeError (fun _ => rfl),
    ki_TreeError_NoMove := kit_own ic_NoMove te_NoMove su_TreeError_NoMove (fun e => absurd e (by have z := nq_TreeError_NoMove; simpa using z)),
    ec_NoMove := ⟨eg_NoMove, ek_NoMove, be_NoMove, eh_NoMove, ea_NoMove, es_, et_, em_NoMove⟩,
    kv_NoMove := kit_val ev_NoMove,
    ki_NoMove_TreeError := kit_own ic_TreeError te_TreeError su_NoMove_TreeError (fun _ => rfl),
    ki_NoMove_NoMove := kit_own ic_NoMove te_NoMove su_NoMove_NoMove (fun _ => rfl),
    ex_TreeError_TreeError := exm_at be_TreeError ic_TreeError te_TreeError su_TreeError_TreeError,
    ex_TreeError_NoMove := exm_at be_NoMove ic_NoMove te_NoMove su_TreeError_NoMove,
    ex_NoMove_TreeError := exm_at be_TreeError ic_TreeError te_TreeError su_NoMove_TreeError,
    ex_NoMove_NoMove := exm_at be_NoMove ic_NoMove te_NoMove su_NoMove_NoMove,
    g_FIGURES := PySem.W.mg_of X G g_FIGURES,
    g_LONGEST := PySem.W.mg_of X G g_LONGEST,
    n_len := PySem.W.mg_none_of X G n_len,
    n_isinstance := PySem.W.mg_none_of X G n_isinstance,
    n_range := PySem.W.mg_none_of X G n_range,
    n_int := PySem.W.mg_none_of X G n_int,
    n_bool := PySem.W.mg_none_of X G n_bool,
    n_str := PySem.W.mg_none_of X G n_str,
    n_tuple := PySem.W.mg_none_of X G n_tuple,
    n_ValueError := PySem.W.mg_none_of X G n_ValueError }
  exact ⟨a.d_law, fun s v => .of_eq rfl, fun base _ _ => ok_law T⟩
theorem walk {l : PySem.W.OpenLaw} {q : Program} {loose : List Str} {XP : (Str → Option Value) → Heap → Prop} {YP : World → Heap → Prop} {d : DefRec} {K : Params → PySem.W.Frag} (hn : l.most = some 63) (hdf : d.params.defaults = [])
    (hY : ∀ (w : World) (h : Heap), YP w h → (K w.params).In h)
    (F : ∀ (w : World) (mg : Str → Option Value) (fa : Addr) (h : Heap), (K w.params).In h → h.Ns mainGlobals mg → mg d.name = some (.ref fa) →
      ∃ fd : FuncData, (∀ (s : Shared) (u : Value), BindsTo s fd ⟨[u], []⟩ [("_law_script", u)]) ∧ ∀ base : Heap, (K w.params).In base → base.Ns mainGlobals mg → FnOk l.prog w (K w.params) mg base (L2.CX l.prog w) 5 fa fd ["_law_script"] (spLaw (K w.params))) :
    PySem.W.WalkO q loose XP YP l.row.toRowW d [] (fun f vs => PySem.call f vs) :=
  L2.walk_of (n := 63) (k := 5) (x := "_law_script") (CX := fun w => L2.CX l.prog w) (sp := fun w => spLaw (K w.params)) hn (by decide) hdf ⟨rfl, by decide, by decide⟩ hY F (fun _ _ a ns hl _ hS => ⟨a, ns, rfl, hS, hl, fun _ => rfl⟩) fun _ _ _ _ _ z => cx_none z
end Tm
open PySem PySem.W PyProof.Rows
set_option maxRecDepth 100000 in
set_option maxHeartbeats 0 in
theorem PySem.Challenge.cw_treemove_k07_read_holds : PySem.Challenge.rw_treemove_k07_read.Holds := by
  w_on; o_law; k_head; (case hw => w_witness2)
  k_fill
  refine Tm.walk (l := PySem.Challenge.rw_treemove_k07_read) rfl rfl (fun w h Y => PySem.W.kIn_of Y) ?F
  case F =>
    intro w mg fa h KX G hmg
    refine' Tm.all_mk KX G hmg ?aC_TreeError ?aC_NoMove ?a_whole ?l_whole ?c_whole ?k_whole ?a_is_move ?l_is_move ?c_is_move ?k_is_move ?a_number_of ?l_number_of ?c_number_of ?k_number_of ?a_read ?l_read ?c_read ?k_read ?a__law_whole ?l__law_whole ?c__law_whole ?k__law_whole ?a__law_cell_at ?l__law_cell_at ?c__law_cell_at ?k__law_cell_at ?a__law_same_move ?l__law_same_move ?c__law_same_move ?k__law_same_move ?a__law_sign_by ?l__law_sign_by ?c__law_sign_by ?k__law_sign_by ?a__law_number ?l__law_number ?c__law_number ?k__law_number ?a__law_odd_line ?l__law_odd_line ?c__law_odd_line ?k__law_odd_line ?a__law_due_of ?l__law_due_of ?c__law_due_of ?k__law_due_of ?a__law_refused_by_any ?l__law_refused_by_any ?c__law_refused_by_any ?k__law_refused_by_any ?a_law ?l_law ?c_law ?k_law ?x_TreeError ?ke_TreeError ?be_TreeError ?te_TreeError ?ic_TreeError ?x_NoMove ?ke_NoMove ?be_NoMove ?te_NoMove ?ic_NoMove ?eg_TreeError ?ek_TreeError ?eh_TreeError ?ea_TreeError ?em_TreeError ?ev_TreeError ?eg_NoMove ?ek_NoMove ?eh_NoMove ?ea_NoMove ?em_NoMove ?ev_NoMove ?es_ ?et_ ?nq_TreeError_NoMove ?su_TreeError_TreeError ?su_TreeError_NoMove ?su_NoMove_TreeError ?su_NoMove_NoMove ?g_FIGURES ?g_LONGEST ?n_len ?n_isinstance ?n_range ?n_int ?n_bool ?n_str ?n_tuple ?n_ValueError
    (case aC_TreeError => k_is)
    (case aC_NoMove => k_is)
    (case a_whole => k_is)
    (case l_whole => k_is)
    (case c_whole => k_is)
    (case k_whole => k_is)
    (case a_is_move => k_is)
    (case l_is_move => k_is)
    (case c_is_move => k_is)
    (case k_is_move => k_is)
    (case a_number_of => k_is)
    (case l_number_of => k_is)
    (case c_number_of => k_is)
    (case k_number_of => k_is)
    (case a_read => k_is)
    (case l_read => k_is)
    (case c_read => k_is)
    (case k_read => k_is)
    (case a__law_whole => k_is)
    (case l__law_whole => k_is)
    (case c__law_whole => k_is)
    (case k__law_whole => k_is)
    (case a__law_cell_at => k_is)
    (case l__law_cell_at => k_is)
    (case c__law_cell_at => k_is)
    (case k__law_cell_at => k_is)
    (case a__law_same_move => k_is)
    (case l__law_same_move => k_is)
    (case c__law_same_move => k_is)
    (case k__law_same_move => k_is)
    (case a__law_sign_by => k_is)
    (case l__law_sign_by => k_is)
    (case c__law_sign_by => k_is)
    (case k__law_sign_by => k_is)
    (case a__law_number => k_is)
    (case l__law_number => k_is)
    (case c__law_number => k_is)
    (case k__law_number => k_is)
    (case a__law_odd_line => k_is)
    (case l__law_odd_line => k_is)
    (case c__law_odd_line => k_is)
    (case k__law_odd_line => k_is)
    (case a__law_due_of => k_is)
    (case l__law_due_of => k_is)
    (case c__law_due_of => k_is)
    (case k__law_due_of => k_is)
    (case a__law_refused_by_any => k_is)
    (case l__law_refused_by_any => k_is)
    (case c__law_refused_by_any => k_is)
    (case k__law_refused_by_any => k_is)
    (case a_law => k_is)
    (case l_law => k_is)
    (case c_law => k_is)
    (case k_law => k_is)
    (case x_TreeError => k_exc)
    (case ke_TreeError => k_is)
    (case be_TreeError => k_is)
    (case te_TreeError => k_is)
    (case ic_TreeError => k_is)
    (case x_NoMove => k_exc)
    (case ke_NoMove => k_is)
    (case be_NoMove => k_is)
    (case te_NoMove => k_is)
    (case ic_NoMove => k_is)
    (case eg_TreeError => k_is)
    (case ek_TreeError => k_is)
    (case eh_TreeError => k_is)
    (case ea_TreeError => k_is)
    (case em_TreeError => k_is)
    (case ev_TreeError => k_is)
    (case eg_NoMove => k_is)
    (case ek_NoMove => k_is)
    (case eh_NoMove => k_is)
    (case ea_NoMove => k_is)
    (case em_NoMove => k_is)
    (case ev_NoMove => k_is)
    (case es_ => k_is)
    (case et_ => k_is)
    (case nq_TreeError_NoMove => first | rfl | decide)
    (case su_TreeError_TreeError => first | rfl | k_is)
    (case su_TreeError_NoMove => first | rfl | k_is)
    (case su_NoMove_TreeError => first | rfl | k_is)
    (case su_NoMove_NoMove => first | rfl | k_is)
    (case g_FIGURES => k_is)
    (case g_LONGEST => k_is)
    (case n_len => k_is)
    (case n_isinstance => k_is)
    (case n_range => k_is)
    (case n_int => k_is)
    (case n_bool => k_is)
    (case n_str => k_is)
    (case n_tuple => k_is)
    (case n_ValueError => k_is)
