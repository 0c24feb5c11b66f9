/-
  A logic of values for Go's functions (part 16): all rules of the steps in one.
-/
import Derived.Test.YtolfjeedgedblaaK15
namespace Go.Proofs.Ytolfjeedgedblaa
open Go
set_option linter.unusedVariables false

theorem K.run0 :
    (((((type_of% @K.W.eq_1) ∧ (type_of% @K.W.eq_2)) ∧ ((type_of% @K.W.eq_3) ∧ (type_of% @K.W.eq_4))) ∧ (((type_of% @K.W.eq_5) ∧ (type_of% @K.W.eq_6)) ∧ ((type_of% @K.W.eq_7) ∧ (type_of% @K.W.eq_8)))) ∧ ((((type_of% @K.W.eq_9) ∧ (type_of% @K.Wc_true)) ∧ ((type_of% @K.Wc_false) ∧ (type_of% @K.R.eq_1))) ∧ (((type_of% @K.R.eq_2) ∧ (type_of% @K.Rg_true)) ∧ ((type_of% @K.Rg_false) ∧ (type_of% @K.Rg_none))))) :=
  ⟨⟨⟨⟨@K.W.eq_1, @K.W.eq_2⟩, ⟨@K.W.eq_3, @K.W.eq_4⟩⟩, ⟨⟨@K.W.eq_5, @K.W.eq_6⟩, ⟨@K.W.eq_7, @K.W.eq_8⟩⟩⟩, ⟨⟨⟨@K.W.eq_9, @K.Wc_true⟩, ⟨@K.Wc_false, @K.R.eq_1⟩⟩, ⟨⟨@K.R.eq_2, @K.Rg_true⟩, ⟨@K.Rg_false, @K.Rg_none⟩⟩⟩⟩

theorem K.run1 :
    (((((type_of% @K.Rs_some) ∧ (type_of% @K.Rs_none)) ∧ ((type_of% @K.guardA.eq_1) ∧ (type_of% @K.stepD.eq_1))) ∧ (((type_of% @K.app_A) ∧ (type_of% @K.app_B)) ∧ ((type_of% @K.app_C) ∧ (type_of% @K.kindP.eq_1)))) ∧ ((((type_of% @K.kindP.eq_2) ∧ (type_of% @K.kindP.eq_3)) ∧ ((type_of% @K.kindP.eq_4) ∧ (type_of% @K.kindP.eq_5))) ∧ (((type_of% @K.kindP.eq_6) ∧ (type_of% @K.kindP.eq_7)) ∧ ((type_of% @K.kindP.eq_8) ∧ (type_of% @K.kindP.eq_9))))) :=
  ⟨⟨⟨⟨@K.Rs_some, @K.Rs_none⟩, ⟨@K.guardA.eq_1, @K.stepD.eq_1⟩⟩, ⟨⟨@K.app_A, @K.app_B⟩, ⟨@K.app_C, @K.kindP.eq_1⟩⟩⟩, ⟨⟨⟨@K.kindP.eq_2, @K.kindP.eq_3⟩, ⟨@K.kindP.eq_4, @K.kindP.eq_5⟩⟩, ⟨⟨@K.kindP.eq_6, @K.kindP.eq_7⟩, ⟨@K.kindP.eq_8, @K.kindP.eq_9⟩⟩⟩⟩

theorem K.run2 :
    (((((type_of% @K.kindP.eq_10) ∧ (type_of% @K.kindP.eq_11)) ∧ ((type_of% @K.kindP.eq_12) ∧ (type_of% @K.kindP.eq_13))) ∧ (((type_of% @K.kindP.eq_14) ∧ (type_of% @K.kindP.eq_15)) ∧ ((type_of% @K.kindP.eq_16) ∧ (type_of% @K.kindP.eq_17)))) ∧ ((((type_of% @K.kindP.eq_18) ∧ (type_of% @K.kindP.eq_19)) ∧ ((type_of% @K.le_A) ∧ (type_of% @K.le_any))) ∧ (((type_of% @K.le_BB) ∧ (type_of% @K.le_BC)) ∧ ((type_of% @K.le_CC) ∧ (type_of% @K.kindE.eq_1))))) :=
  ⟨⟨⟨⟨@K.kindP.eq_10, @K.kindP.eq_11⟩, ⟨@K.kindP.eq_12, @K.kindP.eq_13⟩⟩, ⟨⟨@K.kindP.eq_14, @K.kindP.eq_15⟩, ⟨@K.kindP.eq_16, @K.kindP.eq_17⟩⟩⟩, ⟨⟨⟨@K.kindP.eq_18, @K.kindP.eq_19⟩, ⟨@K.le_A, @K.le_any⟩⟩, ⟨⟨@K.le_BB, @K.le_BC⟩, ⟨@K.le_CC, @K.kindE.eq_1⟩⟩⟩⟩

theorem K.run3 :
    (((((type_of% @K.pureA.eq_1) ∧ (type_of% @K.pureA.eq_2)) ∧ ((type_of% @K.pureA.eq_3) ∧ (type_of% @K.pureA.eq_4))) ∧ (((type_of% @K.pureA.eq_5) ∧ (type_of% @K.pureA.eq_6)) ∧ ((type_of% @K.pureA.eq_7) ∧ (type_of% @K.pureA.eq_8)))) ∧ ((((type_of% @K.pureA.eq_9) ∧ (type_of% @K.pureA.eq_10)) ∧ ((type_of% @K.pureA.eq_11) ∧ (type_of% @K.pureA.eq_12))) ∧ (((type_of% @K.pureA.eq_13) ∧ (type_of% @K.pureA.eq_14)) ∧ ((type_of% @K.pureA.eq_15) ∧ (type_of% @K.pureA.eq_16))))) :=
  ⟨⟨⟨⟨@K.pureA.eq_1, @K.pureA.eq_2⟩, ⟨@K.pureA.eq_3, @K.pureA.eq_4⟩⟩, ⟨⟨@K.pureA.eq_5, @K.pureA.eq_6⟩, ⟨@K.pureA.eq_7, @K.pureA.eq_8⟩⟩⟩, ⟨⟨⟨@K.pureA.eq_9, @K.pureA.eq_10⟩, ⟨@K.pureA.eq_11, @K.pureA.eq_12⟩⟩, ⟨⟨@K.pureA.eq_13, @K.pureA.eq_14⟩, ⟨@K.pureA.eq_15, @K.pureA.eq_16⟩⟩⟩⟩

theorem K.run4 :
    (((((type_of% @K.pureA.eq_17) ∧ (type_of% @K.pureA.eq_18)) ∧ ((type_of% @K.St.put.eq_1) ∧ (type_of% @K.St.put.eq_2))) ∧ (((type_of% @K.St.ev.eq_1) ∧ (type_of% @K.St.ev.eq_2)) ∧ ((type_of% @K.St.ev.eq_3) ∧ (type_of% @K.St.ev.eq_4)))) ∧ ((((type_of% @List.set_cons_zero.{0}) ∧ (type_of% @List.set_cons_succ.{0})) ∧ ((type_of% @K.absV.eq_1) ∧ (type_of% @K.absV.eq_2))) ∧ (((type_of% @K.absV.eq_3) ∧ (type_of% @K.absV.eq_4)) ∧ ((type_of% @List.getD_cons_zero.{0}) ∧ (type_of% @List.getD_cons_succ.{0}))))) :=
  ⟨⟨⟨⟨@K.pureA.eq_17, @K.pureA.eq_18⟩, ⟨@K.St.put.eq_1, @K.St.put.eq_2⟩⟩, ⟨⟨@K.St.ev.eq_1, @K.St.ev.eq_2⟩, ⟨@K.St.ev.eq_3, @K.St.ev.eq_4⟩⟩⟩, ⟨⟨⟨@List.set_cons_zero.{0}, @List.set_cons_succ.{0}⟩, ⟨@K.absV.eq_1, @K.absV.eq_2⟩⟩, ⟨⟨@K.absV.eq_3, @K.absV.eq_4⟩, ⟨@List.getD_cons_zero.{0}, @List.getD_cons_succ.{0}⟩⟩⟩⟩

theorem K.run5 :
    (((((type_of% @K.binA.eq_1) ∧ (type_of% @K.binA.eq_2)) ∧ ((type_of% @K.binA.eq_3) ∧ (type_of% @K.binA.eq_4))) ∧ (((type_of% @K.binA.eq_5) ∧ (type_of% @K.binA.eq_6)) ∧ ((type_of% @K.binA.eq_7) ∧ (type_of% @K.binA.eq_8)))) ∧ ((((type_of% @K.binA.eq_9) ∧ (type_of% @K.intA.eq_1)) ∧ ((type_of% @K.intA.eq_2) ∧ (type_of% @K.intA.eq_3))) ∧ (((type_of% @K.intA.eq_4) ∧ (type_of% @K.intA.eq_5)) ∧ ((type_of% @K.intA.eq_6) ∧ (type_of% @K.intA.eq_7))))) :=
  ⟨⟨⟨⟨@K.binA.eq_1, @K.binA.eq_2⟩, ⟨@K.binA.eq_3, @K.binA.eq_4⟩⟩, ⟨⟨@K.binA.eq_5, @K.binA.eq_6⟩, ⟨@K.binA.eq_7, @K.binA.eq_8⟩⟩⟩, ⟨⟨⟨@K.binA.eq_9, @K.intA.eq_1⟩, ⟨@K.intA.eq_2, @K.intA.eq_3⟩⟩, ⟨⟨@K.intA.eq_4, @K.intA.eq_5⟩, ⟨@K.intA.eq_6, @K.intA.eq_7⟩⟩⟩⟩

theorem K.run6 :
    (((((type_of% @K.intA.eq_8) ∧ (type_of% @K.intA.eq_9)) ∧ ((type_of% @K.intA.eq_10) ∧ (type_of% @K.intA.eq_11))) ∧ (((type_of% @K.intA.eq_12) ∧ (type_of% @K.intA.eq_13)) ∧ ((type_of% @K.intA.eq_14) ∧ (type_of% @K.intA.eq_15)))) ∧ ((((type_of% @K.intA.eq_16) ∧ (type_of% @K.unA.eq_1)) ∧ ((type_of% @K.unA.eq_2) ∧ (type_of% @K.unA.eq_3))) ∧ (((type_of% @K.unA.eq_4) ∧ (type_of% @K.unA.eq_5)) ∧ ((type_of% @K.unA.eq_6) ∧ (type_of% @if_true.{1}))))) :=
  ⟨⟨⟨⟨@K.intA.eq_8, @K.intA.eq_9⟩, ⟨@K.intA.eq_10, @K.intA.eq_11⟩⟩, ⟨⟨@K.intA.eq_12, @K.intA.eq_13⟩, ⟨@K.intA.eq_14, @K.intA.eq_15⟩⟩⟩, ⟨⟨⟨@K.intA.eq_16, @K.unA.eq_1⟩, ⟨@K.unA.eq_2, @K.unA.eq_3⟩⟩, ⟨⟨@K.unA.eq_4, @K.unA.eq_5⟩, ⟨@K.unA.eq_6, @if_true.{1}⟩⟩⟩⟩

theorem K.run7 :
    (((((type_of% @if_true.{0}) ∧ (type_of% @K.ExThen_normal)) ∧ ((type_of% @K.ExThen_ret) ∧ (type_of% @K.ExThen_exit))) ∧ (((type_of% @K.ExBlock_normal) ∧ (type_of% @K.ExBlock_ret)) ∧ ((type_of% @K.ExBlock_exit) ∧ (type_of% @K.St.init.eq_1)))) ∧ ((((type_of% @List.length_cons.{0}) ∧ (type_of% @List.length_nil.{0})) ∧ ((type_of% @List.replicate.eq_1.{0}) ∧ (type_of% @List.replicate.eq_2.{0}))) ∧ (((type_of% @List.cons_append.{0}) ∧ (type_of% @List.nil_append.{0})) ∧ ((type_of% @List.getElem?_cons_zero.{0}) ∧ (type_of% @List.getElem?_cons_succ.{0}))))) :=
  ⟨⟨⟨⟨@if_true.{0}, @K.ExThen_normal⟩, ⟨@K.ExThen_ret, @K.ExThen_exit⟩⟩, ⟨⟨@K.ExBlock_normal, @K.ExBlock_ret⟩, ⟨@K.ExBlock_exit, @K.St.init.eq_1⟩⟩⟩, ⟨⟨⟨@List.length_cons.{0}, @List.length_nil.{0}⟩, ⟨@List.replicate.eq_1.{0}, @List.replicate.eq_2.{0}⟩⟩, ⟨⟨@List.cons_append.{0}, @List.nil_append.{0}⟩, ⟨@List.getElem?_cons_zero.{0}, @List.getElem?_cons_succ.{0}⟩⟩⟩⟩

theorem K.run8 :
    (((((type_of% @K.FnEnd_normal) ∧ (type_of% @K.FnEnd_ret)) ∧ ((type_of% @K.resA.eq_1) ∧ (type_of% @K.resOne.eq_1))) ∧ (((type_of% @K.resOne.eq_2) ∧ (type_of% @if_false.{1})) ∧ ((type_of% @if_false.{0}) ∧ (type_of% @Option.bind_some.{0, 0})))) ∧ ((((type_of% @K.AV.solid.eq_1) ∧ (type_of% @K.AV.solid.eq_2)) ∧ ((type_of% @K.AV.solid.eq_3) ∧ (type_of% @K.AV.cells.eq_1))) ∧ (((type_of% @K.AV.cells.eq_2) ∧ (type_of% @K.storeA.eq_1)) ∧ ((type_of% @K.storeA.eq_2) ∧ (type_of% @K.loadA.eq_1))))) :=
  ⟨⟨⟨⟨@K.FnEnd_normal, @K.FnEnd_ret⟩, ⟨@K.resA.eq_1, @K.resOne.eq_1⟩⟩, ⟨⟨@K.resOne.eq_2, @if_false.{1}⟩, ⟨@if_false.{0}, @Option.bind_some.{0, 0}⟩⟩⟩, ⟨⟨⟨@K.AV.solid.eq_1, @K.AV.solid.eq_2⟩, ⟨@K.AV.solid.eq_3, @K.AV.cells.eq_1⟩⟩, ⟨⟨@K.AV.cells.eq_2, @K.storeA.eq_1⟩, ⟨@K.storeA.eq_2, @K.loadA.eq_1⟩⟩⟩⟩

theorem K.run9 :
    (((((type_of% @K.loadA.eq_2) ∧ (type_of% @K.loadA.eq_3)) ∧ ((type_of% @K.loadA.eq_4) ∧ (type_of% @K.takeA.eq_1))) ∧ (((type_of% @K.pickA.eq_1) ∧ (type_of% @K.pickA.eq_2)) ∧ ((type_of% @K.funcA.eq_1) ∧ (type_of% @K.funcA.eq_2)))) ∧ ((((type_of% @K.callA.eq_1) ∧ (type_of% @K.extractA.eq_1)) ∧ ((type_of% @K.extractA.eq_2) ∧ (type_of% @Option.some.injEq.{0}))) ∧ (((type_of% @exists_eq_left'.{1}) ∧ (type_of% @exists_eq_left'.{0})) ∧ ((type_of% @true_and) ∧ (type_of% @and_true))))) :=
  ⟨⟨⟨⟨@K.loadA.eq_2, @K.loadA.eq_3⟩, ⟨@K.loadA.eq_4, @K.takeA.eq_1⟩⟩, ⟨⟨@K.pickA.eq_1, @K.pickA.eq_2⟩, ⟨@K.funcA.eq_1, @K.funcA.eq_2⟩⟩⟩, ⟨⟨⟨@K.callA.eq_1, @K.extractA.eq_1⟩, ⟨@K.extractA.eq_2, @Option.some.injEq.{0}⟩⟩, ⟨⟨@exists_eq_left'.{1}, @exists_eq_left'.{0}⟩, ⟨@true_and, @and_true⟩⟩⟩⟩

theorem K.run10 :
    (((((type_of% @forall_const.{1}) ∧ (type_of% @forall_const.{0})) ∧ ((type_of% @true_implies) ∧ (type_of% @List.map_cons.{0, 0}))) ∧ (((type_of% @List.map_nil.{0, 0}) ∧ (type_of% @List.getElem?_toArray.{0})) ∧ ((type_of% @beq_true) ∧ (type_of% @beq_false)))) ∧ ((((type_of% @Bool.not_eq_true') ∧ (type_of% @Bool.not_eq_false')) ∧ ((type_of% @Option.isSome_some.{0}) ∧ (type_of% @Option.isSome_none.{0}))) ∧ (((type_of% @Bool.cond_false_right) ∧ (type_of% @Bool.cond_true_left)) ∧ ((type_of% @Bool.not_not) ∧ (type_of% @false_implies))))) :=
  ⟨⟨⟨⟨@forall_const.{1}, @forall_const.{0}⟩, ⟨@true_implies, @List.map_cons.{0, 0}⟩⟩, ⟨⟨@List.map_nil.{0, 0}, @List.getElem?_toArray.{0}⟩, ⟨@beq_true, @beq_false⟩⟩⟩, ⟨⟨⟨@Bool.not_eq_true', @Bool.not_eq_false'⟩, ⟨@Option.isSome_some.{0}, @Option.isSome_none.{0}⟩⟩, ⟨⟨@Bool.cond_false_right, @Bool.cond_true_left⟩, ⟨@Bool.not_not, @false_implies⟩⟩⟩⟩

theorem K.run11 :
    (((((type_of% @implies_true.{1}) ∧ (type_of% @implies_true.{0})) ∧ ((type_of% @Bool.true_eq_false) ∧ (type_of% @Bool.false_eq_true))) ∧ (((type_of% @beq_self_eq_true.{0}) ∧ (type_of% @Bool.not_true)) ∧ ((type_of% @Bool.not_false) ∧ (type_of% @Bool.true_beq)))) ∧ ((((type_of% @Bool.false_beq) ∧ (type_of% @and_self)) ∧ ((type_of% @List.drop_zero.{0}) ∧ (type_of% @List.drop_succ_cons.{0}))) ∧ (((type_of% @List.take_zero.{0}) ∧ (type_of% @List.take_succ_cons.{0})) ∧ ((type_of% @List.drop_nil.{0}) ∧ (type_of% @List.take_nil.{0}))))) :=
  ⟨⟨⟨⟨@implies_true.{1}, @implies_true.{0}⟩, ⟨@Bool.true_eq_false, @Bool.false_eq_true⟩⟩, ⟨⟨@beq_self_eq_true.{0}, @Bool.not_true⟩, ⟨@Bool.not_false, @Bool.true_beq⟩⟩⟩, ⟨⟨⟨@Bool.false_beq, @and_self⟩, ⟨@List.drop_zero.{0}, @List.drop_succ_cons.{0}⟩⟩, ⟨⟨@List.take_zero.{0}, @List.take_succ_cons.{0}⟩, ⟨@List.drop_nil.{0}, @List.take_nil.{0}⟩⟩⟩⟩

theorem K.run12 :
    (((((type_of% @Nat.zero_add) ∧ (type_of% @Nat.add_zero)) ∧ ((type_of% @K.fieldAddrA.eq_1) ∧ (type_of% @K.fieldA.eq_1))) ∧ (((type_of% @K.fieldA.eq_2) ∧ (type_of% @List.set_nil.{0})) ∧ ((type_of% @cond_true.{1}) ∧ (type_of% @cond_true.{0})))) ∧ ((((type_of% @cond_false.{1}) ∧ (type_of% @cond_false.{0})) ∧ ((type_of% @Nat.le_refl) ∧ (type_of% @K.buildA.eq_1))) ∧ (((type_of% @K.fillA.eq_1) ∧ (type_of% @K.fillA.eq_2)) ∧ ((type_of% @List.all_cons.{0}) ∧ (type_of% @List.all_nil.{0}))))) :=
  ⟨⟨⟨⟨@Nat.zero_add, @Nat.add_zero⟩, ⟨@K.fieldAddrA.eq_1, @K.fieldA.eq_1⟩⟩, ⟨⟨@K.fieldA.eq_2, @List.set_nil.{0}⟩, ⟨@cond_true.{1}, @cond_true.{0}⟩⟩⟩, ⟨⟨⟨@cond_false.{1}, @cond_false.{0}⟩, ⟨@Nat.le_refl, @K.buildA.eq_1⟩⟩, ⟨⟨@K.fillA.eq_1, @K.fillA.eq_2⟩, ⟨@List.all_cons.{0}, @List.all_nil.{0}⟩⟩⟩⟩

theorem K.run13 :
    (((((type_of% @List.getElem?_nil.{0}) ∧ (type_of% @Option.map_some.{0, 0})) ∧ ((type_of% @decide_true) ∧ (type_of% @decide_false))) ∧ (((type_of% @ne_eq.{1}) ∧ (type_of% @ne_eq.{0})) ∧ ((type_of% @not_true_eq_false) ∧ (type_of% @not_false_eq_true)))) ∧ ((((type_of% @or_self) ∧ (type_of% @or_false)) ∧ ((type_of% @false_or) ∧ (type_of% @and_false))) ∧ (((type_of% @false_and) ∧ (type_of% @Nat.not_lt_zero)) ∧ ((type_of% @gt_iff_lt.{0}) ∧ (type_of% @List.length_append.{0}))))) :=
  ⟨⟨⟨⟨@List.getElem?_nil.{0}, @Option.map_some.{0, 0}⟩, ⟨@decide_true, @decide_false⟩⟩, ⟨⟨@ne_eq.{1}, @ne_eq.{0}⟩, ⟨@not_true_eq_false, @not_false_eq_true⟩⟩⟩, ⟨⟨⟨@or_self, @or_false⟩, ⟨@false_or, @and_false⟩⟩, ⟨⟨@false_and, @Nat.not_lt_zero⟩, ⟨@gt_iff_lt.{0}, @List.length_append.{0}⟩⟩⟩⟩

theorem K.run14 :
    (((((type_of% @List.length_take.{0}) ∧ (type_of% @List.length_drop.{0})) ∧ ((type_of% @List.length_map.{0, 0}) ∧ (type_of% @List.length_set.{0}))) ∧ (((type_of% @K.mmA.eq_1) ∧ (type_of% @K.mmA.eq_2)) ∧ ((type_of% @K.lenA.eq_1) ∧ (type_of% @K.lenA.eq_2)))) ∧ ((((type_of% @K.lenA.eq_3) ∧ (type_of% @K.lenA.eq_4)) ∧ ((type_of% @K.lenA.eq_5) ∧ (type_of% @Bool.and_true))) ∧ (((type_of% @Bool.and_self) ∧ (type_of% @List.append_nil.{0})) ∧ ((type_of% @Option.map_none.{0, 0}) ∧ (type_of% @K.boundA.eq_1))))) :=
  ⟨⟨⟨⟨@List.length_take.{0}, @List.length_drop.{0}⟩, ⟨@List.length_map.{0, 0}, @List.length_set.{0}⟩⟩, ⟨⟨@K.mmA.eq_1, @K.mmA.eq_2⟩, ⟨@K.lenA.eq_1, @K.lenA.eq_2⟩⟩⟩, ⟨⟨⟨@K.lenA.eq_3, @K.lenA.eq_4⟩, ⟨@K.lenA.eq_5, @Bool.and_true⟩⟩, ⟨⟨@Bool.and_self, @List.append_nil.{0}⟩, ⟨@Option.map_none.{0, 0}, @K.boundA.eq_1⟩⟩⟩⟩

theorem K.run15 :
    (((((type_of% @K.boundA.eq_2) ∧ (type_of% @K.boundA.eq_3)) ∧ ((type_of% @List.all_toArray.{0}) ∧ (type_of% @List.all_toArray'.{0}))) ∧ (((type_of% @List.size_toArray.{0}) ∧ (type_of% @Go.Value.cells.eq_1)) ∧ ((type_of% @Go.Value.cells.eq_2) ∧ (type_of% @Go.Value.oneCell'.eq_1)))) ∧ ((((type_of% @Go.Value.oneCell'.eq_2) ∧ (type_of% @Go.Value.oneCell'.eq_3)) ∧ ((type_of% @List.mapM_cons.{0, 0, 0}) ∧ (type_of% @List.mapM_nil.{0, 0, 0}))) ∧ (((type_of% @Option.pure_def.{0}) ∧ (type_of% @Option.bind_eq_bind.{0})) ∧ ((type_of% @K.litA.eq_1) ∧ (type_of% @K.elemA.eq_1))))) :=
  ⟨⟨⟨⟨@K.boundA.eq_2, @K.boundA.eq_3⟩, ⟨@List.all_toArray.{0}, @List.all_toArray'.{0}⟩⟩, ⟨⟨@List.size_toArray.{0}, @Go.Value.cells.eq_1⟩, ⟨@Go.Value.cells.eq_2, @Go.Value.oneCell'.eq_1⟩⟩⟩, ⟨⟨⟨@Go.Value.oneCell'.eq_2, @Go.Value.oneCell'.eq_3⟩, ⟨@List.mapM_cons.{0, 0, 0}, @List.mapM_nil.{0, 0, 0}⟩⟩, ⟨⟨@Option.pure_def.{0}, @Option.bind_eq_bind.{0}⟩, ⟨@K.litA.eq_1, @K.elemA.eq_1⟩⟩⟩⟩

theorem K.run16 :
    (((((type_of% @K.elemA.eq_2) ∧ (type_of% @K.upTo.eq_1)) ∧ ((type_of% @K.upTo.eq_2) ∧ (type_of% @K.noOwn_nil))) ∧ (((type_of% @K.noOwn_cons) ∧ (type_of% @K.noOwn1.eq_1)) ∧ ((type_of% @K.eptrNow.eq_1) ∧ (type_of% @K.sliceA.eq_1)))) ∧ ((((type_of% @K.sliceA.eq_2) ∧ (type_of% @K.sliceA.eq_3)) ∧ ((type_of% @K.sliceA.eq_4) ∧ (type_of% @K.sliceA.eq_5))) ∧ (((type_of% @K.sub.eq_1) ∧ (type_of% @K.sub.eq_2)) ∧ ((type_of% @K.eview.eq_1) ∧ (type_of% @Option.map_eq_some_iff.{0, 0}))))) :=
  ⟨⟨⟨⟨@K.elemA.eq_2, @K.upTo.eq_1⟩, ⟨@K.upTo.eq_2, @K.noOwn_nil⟩⟩, ⟨⟨@K.noOwn_cons, @K.noOwn1.eq_1⟩, ⟨@K.eptrNow.eq_1, @K.sliceA.eq_1⟩⟩⟩, ⟨⟨⟨@K.sliceA.eq_2, @K.sliceA.eq_3⟩, ⟨@K.sliceA.eq_4, @K.sliceA.eq_5⟩⟩, ⟨⟨@K.sub.eq_1, @K.sub.eq_2⟩, ⟨@K.eview.eq_1, @Option.map_eq_some_iff.{0, 0}⟩⟩⟩⟩

theorem K.run17 :
    (((((type_of% @List.append_assoc.{0}) ∧ (type_of% @List.singleton_append.{0})) ∧ ((type_of% @K.litK.eq_1) ∧ (type_of% @K.anyK.eq_1))) ∧ (((type_of% @K.ownedDst.eq_1) ∧ (type_of% @List.contains_nil.{0})) ∧ ((type_of% @List.contains_cons.{0}) ∧ (type_of% @Bool.or_false)))) ∧ ((((type_of% @Bool.false_or) ∧ (type_of% @Bool.or_self)) ∧ ((type_of% @Bool.true_or) ∧ (type_of% @Bool.or_true))) ∧ (((type_of% @K.srcA.eq_1) ∧ (type_of% @K.srcA.eq_2)) ∧ ((type_of% @K.srcA.eq_3) ∧ (type_of% @K.srcA.eq_4))))) :=
  ⟨⟨⟨⟨@List.append_assoc.{0}, @List.singleton_append.{0}⟩, ⟨@K.litK.eq_1, @K.anyK.eq_1⟩⟩, ⟨⟨@K.ownedDst.eq_1, @List.contains_nil.{0}⟩, ⟨@List.contains_cons.{0}, @Bool.or_false⟩⟩⟩, ⟨⟨⟨@Bool.false_or, @Bool.or_self⟩, ⟨@Bool.true_or, @Bool.or_true⟩⟩, ⟨⟨@K.srcA.eq_1, @K.srcA.eq_2⟩, ⟨@K.srcA.eq_3, @K.srcA.eq_4⟩⟩⟩⟩

theorem K.run18 :
    (((((type_of% @K.srcA.eq_5) ∧ (type_of% @K.makeA.eq_1)) ∧ ((type_of% @K.asI.eq_1) ∧ (type_of% @K.asI.eq_2))) ∧ (((type_of% @K.makeA.isTup.eq_1) ∧ (type_of% @K.makeA.isTup.eq_2)) ∧ ((type_of% @K.storeE.eq_1) ∧ (type_of% @K.storeE.eq_2)))) ∧ ((((type_of% @K.setE.eq_1) ∧ (type_of% @K.setE.eq_2)) ∧ ((type_of% @K.aggB.eq_1) ∧ (type_of% @K.aggB.eq_2))) ∧ (((type_of% @K.litElems.eq_1) ∧ (type_of% @K.zeroE.eq_1)) ∧ ((type_of% @K.zeroE.eq_2) ∧ (type_of% @List.isEmpty_nil.{0}))))) :=
  ⟨⟨⟨⟨@K.srcA.eq_5, @K.makeA.eq_1⟩, ⟨@K.asI.eq_1, @K.asI.eq_2⟩⟩, ⟨⟨@K.makeA.isTup.eq_1, @K.makeA.isTup.eq_2⟩, ⟨@K.storeE.eq_1, @K.storeE.eq_2⟩⟩⟩, ⟨⟨⟨@K.setE.eq_1, @K.setE.eq_2⟩, ⟨@K.aggB.eq_1, @K.aggB.eq_2⟩⟩, ⟨⟨@K.litElems.eq_1, @K.zeroE.eq_1⟩, ⟨@K.zeroE.eq_2, @List.isEmpty_nil.{0}⟩⟩⟩⟩

theorem K.run19 :
    (((((type_of% @List.take_length.{0}) ∧ (type_of% @K.isStrA_sl)) ∧ ((type_of% @K.isStrA_ref) ∧ (type_of% @K.isStrA_lit))) ∧ (((type_of% @K.isStrA_str) ∧ (type_of% @List.length_replicate.{0})) ∧ ((type_of% @K.getX0) ∧ (type_of% @K.getX1)))) ∧ ((((type_of% @K.getX2) ∧ (type_of% @K.getX3)) ∧ ((type_of% @K.getXn) ∧ (type_of% @K.setX0))) ∧ (((type_of% @K.setX1) ∧ (type_of% @K.setX2)) ∧ ((type_of% @K.setX3) ∧ (type_of% @K.Wd_true))))) :=
  ⟨⟨⟨⟨@List.take_length.{0}, @K.isStrA_sl⟩, ⟨@K.isStrA_ref, @K.isStrA_lit⟩⟩, ⟨⟨@K.isStrA_str, @List.length_replicate.{0}⟩, ⟨@K.getX0, @K.getX1⟩⟩⟩, ⟨⟨⟨@K.getX2, @K.getX3⟩, ⟨@K.getXn, @K.setX0⟩⟩, ⟨⟨@K.setX1, @K.setX2⟩, ⟨@K.setX3, @K.Wd_true⟩⟩⟩⟩

theorem K.run20 :
    (((((type_of% @K.Wd_false) ∧ (type_of% @K.app_W)) ∧ ((type_of% @K.le_WW) ∧ (type_of% @K.KCW))) ∧ (((type_of% @K.KWW) ∧ (type_of% @K.KAW)) ∧ ((type_of% @K.KCA) ∧ (type_of% @K.KAA)))) ∧ ((((type_of% @K.storeW.eq_1) ∧ (type_of% @K.storeW.eq_2)) ∧ ((type_of% @K.rdA.eq_1) ∧ (type_of% @K.rdA.eq_2))) ∧ (((type_of% @K.rdA.eq_3) ∧ (type_of% @K.rdA.eq_4)) ∧ ((type_of% @K.rdB.eq_1) ∧ (type_of% @K.rdB.eq_2))))) :=
  ⟨⟨⟨⟨@K.Wd_false, @K.app_W⟩, ⟨@K.le_WW, @K.KCW⟩⟩, ⟨⟨@K.KWW, @K.KAW⟩, ⟨@K.KCA, @K.KAA⟩⟩⟩, ⟨⟨⟨@K.storeW.eq_1, @K.storeW.eq_2⟩, ⟨@K.rdA.eq_1, @K.rdA.eq_2⟩⟩, ⟨⟨@K.rdA.eq_3, @K.rdA.eq_4⟩, ⟨@K.rdB.eq_1, @K.rdB.eq_2⟩⟩⟩⟩

theorem K.run21 :
    (((((type_of% @K.rdB.eq_3) ∧ (type_of% @K.rdB.eq_4)) ∧ ((type_of% @K.rdB.eq_5) ∧ (type_of% @K.rdB.eq_6))) ∧ (((type_of% @K.rdB.eq_7) ∧ (type_of% @K.isW_range)) ∧ ((type_of% @K.isW_none) ∧ (type_of% @K.isW_any)))) ∧ ((((type_of% @K.rangeW.eq_1) ∧ (type_of% @K.rangeW.eq_2)) ∧ ((type_of% @K.appW.eq_1) ∧ (type_of% @K.appW.eq_2))) ∧ (((type_of% @K.rowsW_E) ∧ (type_of% @K.rowsW_any)) ∧ ((type_of% @Bool.false_and) ∧ (type_of% @Bool.true_and))))) :=
  ⟨⟨⟨⟨@K.rdB.eq_3, @K.rdB.eq_4⟩, ⟨@K.rdB.eq_5, @K.rdB.eq_6⟩⟩, ⟨⟨@K.rdB.eq_7, @K.isW_range⟩, ⟨@K.isW_none, @K.isW_any⟩⟩⟩, ⟨⟨⟨@K.rangeW.eq_1, @K.rangeW.eq_2⟩, ⟨@K.appW.eq_1, @K.appW.eq_2⟩⟩, ⟨⟨@K.rowsW_E, @K.rowsW_any⟩, ⟨@Bool.false_and, @Bool.true_and⟩⟩⟩⟩

theorem K.run22 :
    (((type_of% @List.filterMap_cons.{0, 0}) ∧ (type_of% @List.filterMap_nil.{0, 0})) ∧ ((type_of% @K.eqIs.eq_1) ∧ ((type_of% @K.eqIs.eq_2) ∧ (type_of% @K.eqIs.eq_3)))) :=
  ⟨⟨@List.filterMap_cons.{0, 0}, @List.filterMap_nil.{0, 0}⟩, ⟨@K.eqIs.eq_1, ⟨@K.eqIs.eq_2, @K.eqIs.eq_3⟩⟩⟩

end Go.Proofs.Ytolfjeedgedblaa
