/- That functions of the program compute what the plain functions say: printed by a program of the prover's own (tool/dec.py). Conditions: each theorem's own. -/
import Derived.Test.YtkdaohfkphodeaaMDeedOk
import Derived.Test.YtkdaohfkphodeaaGDeedOk
set_option linter.unusedVariables false
set_option maxRecDepth 100000
namespace Go.AW
open Go.Proofs

theorem c_laws_toDeed {a1 : TDeed} {r : TDeed} (H : m_laws_toDeed a1 = some r) : Fn Try.prog k_laws_toDeed (lent [(.agg (d_TDeed a1))]) true [(.agg (d_TDeed r))] := by
  refine i_laws_toDeed_fn (Nat.le_of_ble_eq_true rfl) ?_
  rw [init_mk]
  refine AW.weaken (wk_mk [] (SL.cons (v := (.agg [(.d (.int .i64 a1.Kind)), (.d (.int .i64 a1.At)), (.d (.int .i64 a1.To)), (.d (.int .i64 a1.Lo)), (.d (.int .i64 a1.Hi)), (.d (.int .i64 a1.Key)), (.d (.int .i64 a1.Value))])) eZ rfl VWk.rfl SL.nil) BL.nil BK.nil) ?_
  unfold m_laws_toDeed at H
  unfold i_laws_toDeed
  refine AW.seq ?_
  refine AW.regs ?_
  refine oBox (n := 64) (m := 7) (cs := [(.d (.int .i64 a1.Kind)), (.d (.int .i64 a1.At)), (.d (.int .i64 a1.To)), (.d (.int .i64 a1.Lo)), (.d (.int .i64 a1.Hi)), (.d (.int .i64 a1.Key)), (.d (.int .i64 a1.Value))]) rfl eZ rfl rfl nZ ?_
  refine oVar (n := 128) (m := 7) rfl rfl (nS rfl nZ) ?_
  refine xNil ?_
  refine TQ.qn ?_
  refine AW.seq ?_
  refine AW.regs ?_
  refine oVar (n := 192) (m := 7) rfl rfl (nS rfl (nS rfl nZ)) ?_
  refine xNil ?_
  refine TQ.qn ?_
  refine AW.seq ?_
  refine AW.regs ?_
  refine oFaddrN (m := 0) (eS rfl (eS rfl eZ)) rfl ?_
  refine oLoadV (q := 0) (c := (.d (.int .i64 a1.Kind))) eZ (bS rfl (bS rfl bZ)) rfl rfl ?_
  refine oFaddrN (m := 0) (eS rfl (eS rfl eZ)) rfl ?_
  refine oStoreV (es := [(.d (.int .i64 a1.Kind)), (.d (.int .i64 0)), (.d (.int .i64 0)), (.d (.int .i64 0)), (.d (.int .i64 0)), (.d (.int .i64 0)), (.d (.int .i64 0))]) eZ (eS rfl eZ) rfl rfl bZ rfl ?_
  refine xNil ?_
  refine TQ.qn ?_
  refine AW.seq ?_
  refine AW.regs ?_
  refine oFaddrN (m := 1) (eS rfl (eS rfl (eS rfl (eS rfl (eS rfl eZ))))) rfl ?_
  refine oLoadV (q := 1) (c := (.d (.int .i64 a1.At))) eZ (bS rfl (bS rfl (bS rfl bZ))) rfl rfl ?_
  refine oFaddrN (m := 1) (eS rfl (eS rfl (eS rfl (eS rfl (eS rfl eZ))))) rfl ?_
  refine oStoreV (es := [(.d (.int .i64 a1.Kind)), (.d (.int .i64 a1.At)), (.d (.int .i64 0)), (.d (.int .i64 0)), (.d (.int .i64 0)), (.d (.int .i64 0)), (.d (.int .i64 0))]) eZ (eS rfl eZ) rfl rfl bZ rfl ?_
  refine xNil ?_
  refine TQ.qn ?_
  refine AW.seq ?_
  refine AW.regs ?_
  refine oFaddrN (m := 2) (eS rfl (eS rfl (eS rfl (eS rfl (eS rfl (eS rfl (eS rfl (eS rfl eZ)))))))) rfl ?_
  refine oLoadV (q := 2) (c := (.d (.int .i64 a1.To))) eZ (bS rfl (bS rfl (bS rfl (bS rfl bZ)))) rfl rfl ?_
  refine oFaddrN (m := 2) (eS rfl (eS rfl (eS rfl (eS rfl (eS rfl (eS rfl (eS rfl (eS rfl eZ)))))))) rfl ?_
  refine oStoreV (es := [(.d (.int .i64 a1.Kind)), (.d (.int .i64 a1.At)), (.d (.int .i64 a1.To)), (.d (.int .i64 0)), (.d (.int .i64 0)), (.d (.int .i64 0)), (.d (.int .i64 0))]) eZ (eS rfl eZ) rfl rfl bZ rfl ?_
  refine xNil ?_
  refine TQ.qn ?_
  refine AW.seq ?_
  refine AW.regs ?_
  refine oFaddrN (m := 3) (eS rfl (eS rfl (eS rfl (eS rfl (eS rfl (eS rfl (eS rfl (eS rfl (eS rfl (eS rfl (eS rfl eZ))))))))))) rfl ?_
  refine oLoadV (q := 3) (c := (.d (.int .i64 a1.Lo))) eZ (bS rfl (bS rfl (bS rfl (bS rfl (bS rfl bZ))))) rfl rfl ?_
  refine oFaddrN (m := 3) (eS rfl (eS rfl (eS rfl (eS rfl (eS rfl (eS rfl (eS rfl (eS rfl (eS rfl (eS rfl (eS rfl eZ))))))))))) rfl ?_
  refine oStoreV (es := [(.d (.int .i64 a1.Kind)), (.d (.int .i64 a1.At)), (.d (.int .i64 a1.To)), (.d (.int .i64 a1.Lo)), (.d (.int .i64 0)), (.d (.int .i64 0)), (.d (.int .i64 0))]) eZ (eS rfl eZ) rfl rfl bZ rfl ?_
  refine xNil ?_
  refine TQ.qn ?_
  refine AW.weaken (wk_mk [] (SL.cons (k := 3) (eS rfl (eS rfl (eS rfl (eS rfl (eS rfl (eS rfl (eS rfl (eS rfl (eS rfl (eS rfl (eS rfl (eS rfl eZ)))))))))))) rfl VWk.rfl (SL.cons (k := 2) (eS rfl (eS rfl (eS rfl (eS rfl (eS rfl (eS rfl (eS rfl (eS rfl (eS rfl (eS rfl (eS rfl (eS rfl (eS rfl eZ))))))))))))) rfl VWk.rfl (SL.cons (k := 1) (eS rfl (eS rfl (eS rfl (eS rfl (eS rfl (eS rfl (eS rfl (eS rfl (eS rfl (eS rfl (eS rfl (eS rfl (eS rfl (eS rfl eZ)))))))))))))) rfl VWk.rfl SL.nil))) (BL.keep rfl (BL.keep rfl (BL.keep rfl (BL.keep rfl (BL.keep rfl (BL.keep rfl (BL.keep rfl BL.nil))))))) (BK.cons (n := 192) rfl bZ rfl rfl (BK.cons (n := 128) rfl (bS rfl (bS rfl (bS rfl (bS rfl (bS rfl bZ))))) rfl rfl (BK.cons (n := 64) rfl (bS rfl (bS rfl (bS rfl (bS rfl (bS rfl (bS rfl bZ)))))) rfl rfl BK.nil)))) ?_
  refine AW.seq ?_
  refine AW.regs ?_
  refine oFaddrN (m := 4) (eS rfl (eS rfl eZ)) rfl ?_
  refine oLoadV (q := 4) (c := (.d (.int .i64 a1.Hi))) eZ (bS rfl (bS rfl bZ)) rfl rfl ?_
  refine oFaddrN (m := 4) (eS rfl (eS rfl eZ)) rfl ?_
  refine oStoreV (es := [(.d (.int .i64 a1.Kind)), (.d (.int .i64 a1.At)), (.d (.int .i64 a1.To)), (.d (.int .i64 a1.Lo)), (.d (.int .i64 a1.Hi)), (.d (.int .i64 0)), (.d (.int .i64 0))]) eZ (eS rfl eZ) rfl rfl bZ rfl ?_
  refine xNil ?_
  refine TQ.qn ?_
  refine AW.seq ?_
  refine AW.regs ?_
  refine oFaddrN (m := 5) (eS rfl (eS rfl (eS rfl (eS rfl (eS rfl eZ))))) rfl ?_
  refine oLoadV (q := 5) (c := (.d (.int .i64 a1.Key))) eZ (bS rfl (bS rfl (bS rfl bZ))) rfl rfl ?_
  refine oFaddrN (m := 5) (eS rfl (eS rfl (eS rfl (eS rfl (eS rfl eZ))))) rfl ?_
  refine oStoreV (es := [(.d (.int .i64 a1.Kind)), (.d (.int .i64 a1.At)), (.d (.int .i64 a1.To)), (.d (.int .i64 a1.Lo)), (.d (.int .i64 a1.Hi)), (.d (.int .i64 a1.Key)), (.d (.int .i64 0))]) eZ (eS rfl eZ) rfl rfl bZ rfl ?_
  refine xNil ?_
  refine TQ.qn ?_
  refine AW.seq ?_
  refine AW.regs ?_
  refine oFaddrN (m := 6) (eS rfl (eS rfl (eS rfl (eS rfl (eS rfl (eS rfl (eS rfl (eS rfl eZ)))))))) rfl ?_
  refine oLoadV (q := 6) (c := (.d (.int .i64 a1.Value))) eZ (bS rfl (bS rfl (bS rfl (bS rfl bZ)))) rfl rfl ?_
  refine oFaddrN (m := 6) (eS rfl (eS rfl (eS rfl (eS rfl (eS rfl (eS rfl (eS rfl (eS rfl eZ)))))))) rfl ?_
  refine oStoreV (es := [(.d (.int .i64 a1.Kind)), (.d (.int .i64 a1.At)), (.d (.int .i64 a1.To)), (.d (.int .i64 a1.Lo)), (.d (.int .i64 a1.Hi)), (.d (.int .i64 a1.Key)), (.d (.int .i64 a1.Value))]) eZ (eS rfl eZ) rfl rfl bZ rfl ?_
  refine xNil ?_
  refine TQ.qn ?_
  refine AW.seq ?_
  refine AW.regs ?_
  refine oLoadVA (es := [(.d (.int .i64 a1.Kind)), (.d (.int .i64 a1.At)), (.d (.int .i64 a1.To)), (.d (.int .i64 a1.Lo)), (.d (.int .i64 a1.Hi)), (.d (.int .i64 a1.Key)), (.d (.int .i64 a1.Value))]) (eS rfl (eS rfl (eS rfl (eS rfl (eS rfl (eS rfl (eS rfl (eS rfl (eS rfl eZ))))))))) bZ rfl ?_
  refine oStoreV (es := [(.d (.int .i64 a1.Kind)), (.d (.int .i64 a1.At)), (.d (.int .i64 a1.To)), (.d (.int .i64 a1.Lo)), (.d (.int .i64 a1.Hi)), (.d (.int .i64 a1.Key)), (.d (.int .i64 a1.Value))]) (eS rfl (eS rfl (eS rfl (eS rfl (eS rfl (eS rfl (eS rfl (eS rfl (eS rfl (eS rfl (eS rfl eZ))))))))))) eZ rfl rfl (bS rfl (bS rfl (bS rfl (bS rfl bZ)))) rfl ?_
  refine xNil ?_
  refine TQ.qn ?_
  refine AW.ret ?_
  obtain rfl := Option.some.inj H
  exact endsR (RL.cons (RV.cellA (es := [(.d (.int .i64 a1.Kind)), (.d (.int .i64 a1.At)), (.d (.int .i64 a1.To)), (.d (.int .i64 a1.Lo)), (.d (.int .i64 a1.Hi)), (.d (.int .i64 a1.Key)), (.d (.int .i64 a1.Value))]) (eS rfl (eS rfl (eS rfl (eS rfl (eS rfl (eS rfl (eS rfl (eS rfl (eS rfl (eS rfl (eS rfl eZ))))))))))) bZ rfl) (VO.agg (ds := [(.int .i64 a1.Kind), (.int .i64 a1.At), (.int .i64 a1.To), (.int .i64 a1.Lo), (.int .i64 a1.Hi), (.int .i64 a1.Key), (.int .i64 a1.Value)]) rfl rfl) RL.nil) List.nodup_nil

theorem c_spec_l1In {a1 : Int} {a2 : Int} {a3 : Int} {r : Bool} (H : m_spec_l1In a1 a2 a3 = some r) : Fn Try.prog k_spec_l1In (lent [(.int .i64 a1), (.int .i64 a2), (.int .i64 a3)]) true [(.bool r)] := by
  refine i_spec_l1In_fn (Nat.le_of_ble_eq_true rfl) ?_
  rw [init_mk]
  refine AW.weaken (wk_mk [] (SL.cons (v := (.one (.d (.int .i64 a1)))) eZ rfl VWk.rfl (SL.cons (v := (.one (.d (.int .i64 a2)))) (eS rfl eZ) rfl VWk.rfl (SL.cons (v := (.one (.d (.int .i64 a3)))) (eS rfl (eS rfl eZ)) rfl VWk.rfl SL.nil))) BL.nil BK.nil) ?_
  unfold m_spec_l1In at H
  unfold i_spec_l1In
  refine AW.seq ?_
  refine AW.regs ?_
  refine oMov eC ?_
  refine xNil ?_
  refine TQ.qn ?_
  refine AW.seq ?_
  refine AW.regs ?_
  refine oMov (eS rfl eZ) ?_
  refine oMov (eS rfl (eS rfl (eS rfl eZ))) ?_
  refine oGeq (eS rfl eZ) eZ ?_
  refine oMov eZ ?_
  rcases oite H with ⟨h4, H⟩ | ⟨h4, H⟩
  · refine gDo eZ (decide_eq_true h4) ?_
    refine oMov (eS rfl (eS rfl (eS rfl (eS rfl (eS rfl eZ))))) ?_
    refine gDo (eS rfl eZ) (decide_eq_true h4) ?_
    refine oMov (eS rfl (eS rfl (eS rfl (eS rfl (eS rfl (eS rfl (eS rfl (eS rfl eZ)))))))) ?_
    refine gDo (eS rfl (eS rfl eZ)) (decide_eq_true h4) ?_
    refine oLeq (eS rfl eZ) eZ ?_
    refine oPickT (eS rfl (eS rfl (eS rfl eZ))) (decide_eq_true h4) eZ ?_
    refine oMov eZ ?_
    refine xNil ?_
    refine TQ.qn ?_
    refine AW.ret ?_
    obtain rfl := Option.some.inj H
    exact endsR (RL.cons (RV.tmp eZ) (VO.flat rfl) RL.nil) List.nodup_nil
  · refine gSkip eZ (decide_eq_false h4) rfl ?_
    refine gSkip (eS rfl eZ) (decide_eq_false h4) rfl ?_
    refine gSkip (eS rfl (eS rfl eZ)) (decide_eq_false h4) rfl ?_
    refine oPickF (eS rfl (eS rfl (eS rfl eZ))) (decide_eq_false h4) eC ?_
    refine oMov eZ ?_
    refine xNil ?_
    refine TQ.qn ?_
    refine AW.ret ?_
    obtain rfl := Option.some.inj H
    exact endsR (RL.cons (RV.tmp eZ) (VO.flat rfl) RL.nil) List.nodup_nil

theorem c_spec_RangeOk {a1 : TRange} {r : Bool} (H : m_spec_RangeOk a1 = some r) : Fn Try.prog k_spec_RangeOk (lent [(.agg (d_TRange a1))]) true [(.bool r)] := by
  refine i_spec_RangeOk_fn (Nat.le_of_ble_eq_true rfl) ?_
  rw [init_mk]
  refine AW.weaken (wk_mk [] (SL.cons (v := (.agg [(.d (.int .i64 a1.Lo)), (.d (.int .i64 a1.Hi))])) eZ rfl VWk.rfl SL.nil) BL.nil BK.nil) ?_
  unfold m_spec_RangeOk at H
  unfold i_spec_RangeOk
  refine AW.seq ?_
  refine AW.regs ?_
  refine oBox (n := 64) (m := 2) (cs := [(.d (.int .i64 a1.Lo)), (.d (.int .i64 a1.Hi))]) rfl eZ rfl rfl nZ ?_
  refine oMov eC ?_
  refine xNil ?_
  refine TQ.qn ?_
  refine AW.seq ?_
  refine AW.regs ?_
  refine oFaddrN (m := 0) (eS rfl eZ) rfl ?_
  refine oLoadV (q := 0) (c := (.d (.int .i64 a1.Lo))) eZ bZ rfl rfl ?_
  refine oGeq eZ eC ?_
  refine oMov eZ ?_
  rcases oite H with ⟨h2, H⟩ | ⟨h2, H⟩
  · refine gDo eZ (decide_eq_true h2) ?_
    refine oFaddrN (m := 0) (eS rfl (eS rfl (eS rfl (eS rfl (eS rfl eZ))))) rfl ?_
    refine gDo (eS rfl eZ) (decide_eq_true h2) ?_
    refine oLoadV (q := 0) (c := (.d (.int .i64 a1.Lo))) eZ bZ rfl rfl ?_
    refine gDo (eS rfl (eS rfl eZ)) (decide_eq_true h2) ?_
    refine oFaddrN (m := 1) (eS rfl (eS rfl (eS rfl (eS rfl (eS rfl (eS rfl (eS rfl eZ))))))) rfl ?_
    refine gDo (eS rfl (eS rfl (eS rfl eZ))) (decide_eq_true h2) ?_
    refine oLoadV (q := 1) (c := (.d (.int .i64 a1.Hi))) eZ bZ rfl rfl ?_
    refine gDo (eS rfl (eS rfl (eS rfl (eS rfl eZ)))) (decide_eq_true h2) ?_
    refine oLss (eS rfl (eS rfl eZ)) eZ ?_
    refine oPickT (eS rfl (eS rfl (eS rfl (eS rfl (eS rfl eZ))))) (decide_eq_true h2) eZ ?_
    refine oMov eZ ?_
    rcases oite H with ⟨h3, H⟩ | ⟨h3, H⟩
    · refine gDo eZ (decide_eq_true h3) ?_
      refine oFaddrN (m := 1) (eS rfl (eS rfl (eS rfl (eS rfl (eS rfl (eS rfl (eS rfl (eS rfl (eS rfl (eS rfl (eS rfl (eS rfl eZ)))))))))))) rfl ?_
      refine gDo (eS rfl eZ) (decide_eq_true h3) ?_
      refine oLoadV (q := 1) (c := (.d (.int .i64 a1.Hi))) eZ bZ rfl rfl ?_
      refine gDo (eS rfl (eS rfl eZ)) (decide_eq_true h3) ?_
      refine oLeq eZ eC ?_
      refine oPickT (eS rfl (eS rfl (eS rfl eZ))) (decide_eq_true h3) eZ ?_
      refine oMov eZ ?_
      refine xNil ?_
      refine TQ.qn ?_
      refine AW.weaken (wk_mk [64] (SL.cons (k := 2) eZ rfl VWk.rfl SL.nil) (BL.drop rfl BL.nil) BK.nil) ?_
      refine AW.ret ?_
      obtain rfl := Option.some.inj H
      exact endsR (RL.cons (RV.tmp eZ) (VO.flat rfl) RL.nil) List.nodup_nil
    · refine gSkip eZ (decide_eq_false h3) rfl ?_
      refine gSkip (eS rfl eZ) (decide_eq_false h3) rfl ?_
      refine gSkip (eS rfl (eS rfl eZ)) (decide_eq_false h3) rfl ?_
      refine oPickF (eS rfl (eS rfl (eS rfl eZ))) (decide_eq_false h3) eC ?_
      refine oMov eZ ?_
      refine xNil ?_
      refine TQ.qn ?_
      refine AW.weaken (wk_mk [64] (SL.cons (k := 2) eZ rfl VWk.rfl SL.nil) (BL.drop rfl BL.nil) BK.nil) ?_
      refine AW.ret ?_
      obtain rfl := Option.some.inj H
      exact endsR (RL.cons (RV.tmp eZ) (VO.flat rfl) RL.nil) List.nodup_nil
  · refine gSkip eZ (decide_eq_false h2) rfl ?_
    refine gSkip (eS rfl eZ) (decide_eq_false h2) rfl ?_
    refine gSkip (eS rfl (eS rfl eZ)) (decide_eq_false h2) rfl ?_
    refine gSkip (eS rfl (eS rfl (eS rfl eZ))) (decide_eq_false h2) rfl ?_
    refine gSkip (eS rfl (eS rfl (eS rfl (eS rfl eZ)))) (decide_eq_false h2) rfl ?_
    refine oPickF (eS rfl (eS rfl (eS rfl (eS rfl (eS rfl eZ))))) (decide_eq_false h2) eC ?_
    refine oMov eZ ?_
    refine gSkip eZ rfl rfl ?_
    refine gSkip (eS rfl eZ) rfl rfl ?_
    refine gSkip (eS rfl (eS rfl eZ)) rfl rfl ?_
    refine oPickF (eS rfl (eS rfl (eS rfl eZ))) rfl eC ?_
    refine oMov eZ ?_
    refine xNil ?_
    refine TQ.qn ?_
    refine AW.weaken (wk_mk [64] (SL.cons (k := 2) eZ rfl VWk.rfl SL.nil) (BL.drop rfl BL.nil) BK.nil) ?_
    refine AW.ret ?_
    obtain rfl := Option.some.inj H
    exact endsR (RL.cons (RV.tmp eZ) (VO.flat rfl) RL.nil) List.nodup_nil

theorem c_spec_l16RangeOk {a1 : Int} {a2 : Int} {r : Bool} (H : m_spec_l16RangeOk a1 a2 = some r) : Fn Try.prog k_spec_l16RangeOk (lent [(.int .i64 a1), (.int .i64 a2)]) true [(.bool r)] := by
  refine i_spec_l16RangeOk_fn (Nat.le_of_ble_eq_true rfl) ?_
  rw [init_mk]
  refine AW.weaken (wk_mk [] (SL.cons (v := (.one (.d (.int .i64 a1)))) eZ rfl VWk.rfl (SL.cons (v := (.one (.d (.int .i64 a2)))) (eS rfl eZ) rfl VWk.rfl SL.nil)) BL.nil BK.nil) ?_
  unfold m_spec_l16RangeOk at H
  unfold i_spec_l16RangeOk
  refine AW.seq ?_
  refine AW.regs ?_
  refine oMov eC ?_
  refine xNil ?_
  refine TQ.qn ?_
  refine AW.seq ?_
  refine AW.regs ?_
  refine oMov (eS rfl eZ) ?_
  refine oMov (eS rfl (eS rfl (eS rfl eZ))) ?_
  refine oBuild (cs := [(.d (.int .i64 a1)), (.d (.int .i64 a2))]) (PsCons (eS rfl eZ) (PsCons eZ PsNil)) rfl ?_
  obtain ⟨v3, h4, H⟩ := obind H
  refine oCall (u := (.one (.d (.bool v3)))) eC Cl.fn (c_spec_RangeOk h4) (Evs.cons eZ Evs.nil) (VDs.cons (VD.agg rfl) VDs.nil) rfl ?_
  refine oMov eZ ?_
  refine xNil ?_
  refine TQ.qn ?_
  refine AW.ret ?_
  obtain rfl := Option.some.inj H
  exact endsR (RL.cons (RV.tmp eZ) (VO.flat rfl) RL.nil) List.nodup_nil

theorem c_spec_l10Key {a1 : Int} {r : Bool} (H : m_spec_l10Key a1 = some r) : Fn Try.prog k_spec_l10Key (lent [(.int .i64 a1)]) true [(.bool r)] := by
  refine i_spec_l10Key_fn (Nat.le_of_ble_eq_true rfl) ?_
  rw [init_mk]
  refine AW.weaken (wk_mk [] (SL.cons (v := (.one (.d (.int .i64 a1)))) eZ rfl VWk.rfl SL.nil) BL.nil BK.nil) ?_
  unfold m_spec_l10Key at H
  unfold i_spec_l10Key
  refine AW.seq ?_
  refine AW.regs ?_
  refine oMov eC ?_
  refine xNil ?_
  refine TQ.qn ?_
  refine AW.seq ?_
  refine AW.regs ?_
  refine oMov (eS rfl eZ) ?_
  obtain ⟨v2, h3, H⟩ := obind H
  refine oCall (u := (.one (.d (.bool v2)))) eC Cl.fn (c_spec_l1In h3) (Evs.cons eZ (Evs.cons eC (Evs.cons eC Evs.nil))) (VDs.cons VD.plain (VDs.cons VD.plain (VDs.cons VD.plain VDs.nil))) rfl ?_
  refine oMov eZ ?_
  refine xNil ?_
  refine TQ.qn ?_
  refine AW.ret ?_
  obtain rfl := Option.some.inj H
  exact endsR (RL.cons (RV.tmp eZ) (VO.flat rfl) RL.nil) List.nodup_nil

theorem c_spec_l12Tx {a1 : Int} {r : Bool} (H : m_spec_l12Tx a1 = some r) : Fn Try.prog k_spec_l12Tx (lent [(.int .i64 a1)]) true [(.bool r)] := by
  refine i_spec_l12Tx_fn (Nat.le_of_ble_eq_true rfl) ?_
  rw [init_mk]
  refine AW.weaken (wk_mk [] (SL.cons (v := (.one (.d (.int .i64 a1)))) eZ rfl VWk.rfl SL.nil) BL.nil BK.nil) ?_
  unfold m_spec_l12Tx at H
  unfold i_spec_l12Tx
  refine AW.seq ?_
  refine AW.regs ?_
  refine oMov eC ?_
  refine xNil ?_
  refine TQ.qn ?_
  refine AW.seq ?_
  refine AW.regs ?_
  refine oMov (eS rfl eZ) ?_
  obtain ⟨v2, h3, H⟩ := obind H
  refine oCall (u := (.one (.d (.bool v2)))) eC Cl.fn (c_spec_l1In h3) (Evs.cons eZ (Evs.cons eC (Evs.cons eC Evs.nil))) (VDs.cons VD.plain (VDs.cons VD.plain (VDs.cons VD.plain VDs.nil))) rfl ?_
  refine oMov eZ ?_
  refine xNil ?_
  refine TQ.qn ?_
  refine AW.ret ?_
  obtain rfl := Option.some.inj H
  exact endsR (RL.cons (RV.tmp eZ) (VO.flat rfl) RL.nil) List.nodup_nil

theorem c_spec_l15Group {a1 : Int} {r : Bool} (H : m_spec_l15Group a1 = some r) : Fn Try.prog k_spec_l15Group (lent [(.int .i64 a1)]) true [(.bool r)] := by
  refine i_spec_l15Group_fn (Nat.le_of_ble_eq_true rfl) ?_
  rw [init_mk]
  refine AW.weaken (wk_mk [] (SL.cons (v := (.one (.d (.int .i64 a1)))) eZ rfl VWk.rfl SL.nil) BL.nil BK.nil) ?_
  unfold m_spec_l15Group at H
  unfold i_spec_l15Group
  refine AW.seq ?_
  refine AW.regs ?_
  refine oMov eC ?_
  refine xNil ?_
  refine TQ.qn ?_
  refine AW.seq ?_
  refine AW.regs ?_
  refine oMov (eS rfl eZ) ?_
  obtain ⟨v2, h3, H⟩ := obind H
  refine oCall (u := (.one (.d (.bool v2)))) eC Cl.fn (c_spec_l1In h3) (Evs.cons eZ (Evs.cons eC (Evs.cons eC Evs.nil))) (VDs.cons VD.plain (VDs.cons VD.plain (VDs.cons VD.plain VDs.nil))) rfl ?_
  refine oMov eZ ?_
  refine xNil ?_
  refine TQ.qn ?_
  refine AW.ret ?_
  obtain rfl := Option.some.inj H
  exact endsR (RL.cons (RV.tmp eZ) (VO.flat rfl) RL.nil) List.nodup_nil

theorem c_spec_DeedOk {a1 : TDeed} {r : Bool} (H : m_spec_DeedOk a1 = some r) : Fn Try.prog k_spec_DeedOk (lent [(.agg (d_TDeed a1))]) true [(.bool r)] := by
  refine i_spec_DeedOk_fn (Nat.le_of_ble_eq_true rfl) ?_
  rw [init_mk]
  refine AW.weaken (wk_mk [] (SL.cons (v := (.agg [(.d (.int .i64 a1.Kind)), (.d (.int .i64 a1.At)), (.d (.int .i64 a1.To)), (.d (.int .i64 a1.Lo)), (.d (.int .i64 a1.Hi)), (.d (.int .i64 a1.Key)), (.d (.int .i64 a1.Value))])) eZ rfl VWk.rfl SL.nil) BL.nil BK.nil) ?_
  unfold m_spec_DeedOk at H
  unfold i_spec_DeedOk
  refine AW.seq ?_
  refine AW.regs ?_
  refine oBox (n := 64) (m := 7) (cs := [(.d (.int .i64 a1.Kind)), (.d (.int .i64 a1.At)), (.d (.int .i64 a1.To)), (.d (.int .i64 a1.Lo)), (.d (.int .i64 a1.Hi)), (.d (.int .i64 a1.Key)), (.d (.int .i64 a1.Value))]) rfl eZ rfl rfl nZ ?_
  refine oMov eC ?_
  refine xNil ?_
  refine TQ.qn ?_
  refine AW.seq ?_
  refine AW.regs ?_
  refine oFaddrN (m := 1) (eS rfl eZ) rfl ?_
  refine oLoadV (q := 1) (c := (.d (.int .i64 a1.At))) eZ bZ rfl rfl ?_
  obtain ⟨v2, h3, H⟩ := obind H
  refine oCall (u := (.one (.d (.bool v2)))) eC Cl.fn (c_spec_l1In h3) (Evs.cons eZ (Evs.cons eC (Evs.cons eC Evs.nil))) (VDs.cons VD.plain (VDs.cons VD.plain (VDs.cons VD.plain VDs.nil))) rfl ?_
  refine oMov eZ ?_
  refine xNil ?_
  refine TQ.qn ?_
  refine AW.seq ?_
  refine AW.regs ?_
  refine oFaddrN (m := 1) (eS rfl (eS rfl (eS rfl (eS rfl (eS rfl eZ))))) rfl ?_
  refine oLoadV (q := 1) (c := (.d (.int .i64 a1.At))) eZ bZ rfl rfl ?_
  obtain ⟨v4, h5, H⟩ := obind H
  refine oCall (u := (.one (.d (.bool v4)))) eC Cl.fn (c_spec_l1In h5) (Evs.cons eZ (Evs.cons eC (Evs.cons eC Evs.nil))) (VDs.cons VD.plain (VDs.cons VD.plain (VDs.cons VD.plain VDs.nil))) rfl ?_
  refine oMov eZ ?_
  refine xNil ?_
  refine TQ.qn ?_
  refine AW.seq ?_
  refine AW.regs ?_
  refine oFaddrN (m := 0) (eS rfl (eS rfl (eS rfl (eS rfl (eS rfl (eS rfl (eS rfl (eS rfl (eS rfl eZ))))))))) rfl ?_
  refine oLoadV (q := 0) (c := (.d (.int .i64 a1.Kind))) eZ bZ rfl rfl ?_
  refine oBuild (cs := [(.d (.int .i64 a1.Kind)), (.d (.int .i64 0)), (.d (.int .i64 0)), (.d (.int .i64 0)), (.d (.int .i64 0)), (.d (.int .i64 0)), (.d (.int .i64 0))]) (PsCons eZ PsNil) rfl ?_
  refine oVar (n := 320) (m := 7) rfl rfl (nS rfl nZ) ?_
  refine oStoreV (es := [(.d (.int .i64 a1.Kind)), (.d (.int .i64 0)), (.d (.int .i64 0)), (.d (.int .i64 0)), (.d (.int .i64 0)), (.d (.int .i64 0)), (.d (.int .i64 0))]) eZ (eS rfl eZ) rfl rfl bZ rfl ?_
  refine xNil ?_
  refine TQ.qn ?_
  refine AW.seq ?_
  refine AW.seq ?_
  refine AW.regs ?_
  refine oFaddrN (m := 0) (eS rfl (eS rfl (eS rfl (eS rfl (eS rfl (eS rfl (eS rfl (eS rfl (eS rfl (eS rfl (eS rfl (eS rfl (eS rfl eZ))))))))))))) rfl ?_
  refine oLoadV (q := 0) (c := (.d (.int .i64 a1.Kind))) eZ (bS rfl (bS rfl bZ)) rfl rfl ?_
  refine xNil ?_
  refine TQ.qn ?_
  refine AW.weaken (wk_mk [] (SL.cons (k := 16) eZ rfl VWk.rfl (SL.cons (k := 5) (eS rfl (eS rfl eZ)) rfl VWk.rfl (SL.cons (k := 4) (eS rfl (eS rfl (eS rfl (eS rfl (eS rfl (eS rfl eZ)))))) rfl VWk.rfl (SL.cons (k := 3) (eS rfl (eS rfl (eS rfl (eS rfl (eS rfl (eS rfl (eS rfl (eS rfl (eS rfl (eS rfl eZ)))))))))) rfl VWk.rfl (SL.cons (k := 1) (eS rfl (eS rfl (eS rfl (eS rfl (eS rfl (eS rfl (eS rfl (eS rfl (eS rfl (eS rfl (eS rfl (eS rfl (eS rfl (eS rfl (eS rfl eZ))))))))))))))) rfl VWk.rfl SL.nil))))) (BL.keep rfl (BL.keep rfl (BL.keep rfl BL.nil))) (BK.cons (n := 320) rfl bZ rfl rfl (BK.cons (n := 64) rfl (bS rfl (bS rfl bZ)) rfl rfl BK.nil))) ?_
  refine AW.block ?_
  refine AW.seqJ (fun t6 : Bool => (spec_DeedOk_j6 v2 a1 v4) t6 = some r) (fun t6 => mk [(1, (.one (.ptr (.nm 64 0 0)))), (3, (.one (.d (.bool v2)))), (4, (.one (.d (.bool v4)))), (5, (.one (.ptr (.nm 320 0 0)))), (16, (.one (.d (.int .i64 a1.Kind)))), (17, (.one (.d (.bool t6))))] [(64, (.vars 7 [(.d (.int .i64 a1.Kind)), (.d (.int .i64 a1.At)), (.d (.int .i64 a1.To)), (.d (.int .i64 a1.Lo)), (.d (.int .i64 a1.Hi)), (.d (.int .i64 a1.Key)), (.d (.int .i64 a1.Value))])), (320, (.vars 7 [(.d (.int .i64 a1.Kind)), (.d (.int .i64 0)), (.d (.int .i64 0)), (.d (.int .i64 0)), (.d (.int .i64 0)), (.d (.int .i64 0)), (.d (.int .i64 0))]))] noG) ?_ ?_
  · intro t6 H
    unfold spec_DeedOk_j6 at H
    rcases oite H with ⟨h8, H⟩ | ⟨h8, H⟩
    · refine AW.condT (eS rfl (eS rfl (eS rfl (eS rfl (eS rfl eZ))))) h8 ?_
      refine AW.seq ?_
      refine AW.regs ?_
      refine oFaddrN (m := 1) eZ rfl ?_
      refine oLoadV (q := 1) (c := (.d (.int .i64 a1.At))) eZ bZ rfl rfl ?_
      refine oFaddrN (m := 1) (eS rfl (eS rfl (eS rfl (eS rfl (eS rfl eZ))))) rfl ?_
      refine oStoreV (es := [(.d (.int .i64 a1.Kind)), (.d (.int .i64 a1.At)), (.d (.int .i64 0)), (.d (.int .i64 0)), (.d (.int .i64 0)), (.d (.int .i64 0)), (.d (.int .i64 0))]) eZ (eS rfl eZ) rfl rfl (bS rfl bZ) rfl ?_
      refine xNil ?_
      refine TQ.qn ?_
      refine AW.seq ?_
      refine AW.regs ?_
      refine oMov (eS rfl (eS rfl (eS rfl (eS rfl eZ)))) ?_
      refine oMov eZ ?_
      rcases oite H with ⟨h9, H⟩ | ⟨h9, H⟩
      · refine gDo eZ h9 ?_
        refine oLoadVA (es := [(.d (.int .i64 a1.Kind)), (.d (.int .i64 a1.At)), (.d (.int .i64 a1.To)), (.d (.int .i64 a1.Lo)), (.d (.int .i64 a1.Hi)), (.d (.int .i64 a1.Key)), (.d (.int .i64 a1.Value))]) (eS rfl (eS rfl (eS rfl (eS rfl (eS rfl eZ))))) (bS rfl bZ) rfl ?_
        refine gDo (eS rfl eZ) h9 ?_
        refine oLoadVA (es := [(.d (.int .i64 a1.Kind)), (.d (.int .i64 a1.At)), (.d (.int .i64 0)), (.d (.int .i64 0)), (.d (.int .i64 0)), (.d (.int .i64 0)), (.d (.int .i64 0))]) (eS rfl (eS rfl (eS rfl (eS rfl (eS rfl (eS rfl (eS rfl (eS rfl (eS rfl eZ))))))))) bZ rfl ?_
        refine gDo (eS rfl (eS rfl eZ)) h9 ?_
        refine oSeql (b := (decide (a1.Kind = a1.Kind) && (decide (a1.At = a1.At) && (decide (a1.To = 0) && (decide (a1.Lo = 0) && (decide (a1.Hi = 0) && (decide (a1.Key = 0) && (decide (a1.Value = 0) && true)))))))) (eS rfl eZ) eZ rfl rfl rfl ?_
        refine oPickT (eS rfl (eS rfl (eS rfl eZ))) h9 eZ ?_
        refine oMov eZ ?_
        refine xNil ?_
        refine TQ.qn ?_
        refine AW.weaken (wk_mk [320, 64] (SL.cons (k := 2) eZ rfl VWk.rfl SL.nil) (BL.drop rfl (BL.drop rfl (BL.drop rfl BL.nil))) BK.nil) ?_
        refine AW.ret ?_
        refine BQ.qr ?_
        refine TQ.qr ?_
        obtain rfl := Option.some.inj H
        exact endsR (RL.cons (RV.tmp eZ) (VO.flat rfl) RL.nil) List.nodup_nil
      · refine gSkip eZ (nt h9) rfl ?_
        refine gSkip (eS rfl eZ) (nt h9) rfl ?_
        refine gSkip (eS rfl (eS rfl eZ)) (nt h9) rfl ?_
        refine oPickF (eS rfl (eS rfl (eS rfl eZ))) (nt h9) eC ?_
        refine oMov eZ ?_
        refine xNil ?_
        refine TQ.qn ?_
        refine AW.weaken (wk_mk [320, 64] (SL.cons (k := 2) eZ rfl VWk.rfl SL.nil) (BL.drop rfl (BL.drop rfl (BL.drop rfl BL.nil))) BK.nil) ?_
        refine AW.ret ?_
        refine BQ.qr ?_
        refine TQ.qr ?_
        obtain rfl := Option.some.inj H
        exact endsR (RL.cons (RV.tmp eZ) (VO.flat rfl) RL.nil) List.nodup_nil
    · refine AW.condF (eS rfl (eS rfl (eS rfl (eS rfl (eS rfl eZ))))) (nt h8) ?_
      refine AW.seq ?_
      refine AW.regs ?_
      refine oEql (eS rfl (eS rfl (eS rfl (eS rfl eZ)))) eC ?_
      refine oMov eZ ?_
      refine xNil ?_
      refine TQ.qn ?_
      rcases oite H with ⟨h10, H⟩ | ⟨h10, H⟩
      · refine AW.condT eZ (decide_eq_true h10) ?_
        refine AW.seq ?_
        refine AW.regs ?_
        refine oFaddrN (m := 1) (eS rfl (eS rfl eZ)) rfl ?_
        refine oLoadV (q := 1) (c := (.d (.int .i64 a1.At))) eZ bZ rfl rfl ?_
        refine oFaddrN (m := 1) (eS rfl (eS rfl (eS rfl (eS rfl (eS rfl (eS rfl (eS rfl eZ))))))) rfl ?_
        refine oStoreV (es := [(.d (.int .i64 a1.Kind)), (.d (.int .i64 a1.At)), (.d (.int .i64 0)), (.d (.int .i64 0)), (.d (.int .i64 0)), (.d (.int .i64 0)), (.d (.int .i64 0))]) eZ (eS rfl eZ) rfl rfl (bS rfl bZ) rfl ?_
        refine xNil ?_
        refine TQ.qn ?_
        refine AW.seq ?_
        refine AW.regs ?_
        refine oFaddrN (m := 3) (eS rfl (eS rfl (eS rfl (eS rfl (eS rfl eZ))))) rfl ?_
        refine oLoadV (q := 3) (c := (.d (.int .i64 a1.Lo))) eZ (bS rfl bZ) rfl rfl ?_
        refine oFaddrN (m := 3) (eS rfl (eS rfl (eS rfl (eS rfl (eS rfl (eS rfl (eS rfl (eS rfl (eS rfl (eS rfl eZ)))))))))) rfl ?_
        refine oStoreV (es := [(.d (.int .i64 a1.Kind)), (.d (.int .i64 a1.At)), (.d (.int .i64 0)), (.d (.int .i64 a1.Lo)), (.d (.int .i64 0)), (.d (.int .i64 0)), (.d (.int .i64 0))]) eZ (eS rfl eZ) rfl rfl bZ rfl ?_
        refine xNil ?_
        refine TQ.qn ?_
        refine AW.seq ?_
        refine AW.regs ?_
        refine oFaddrN (m := 4) (eS rfl (eS rfl (eS rfl (eS rfl (eS rfl (eS rfl (eS rfl (eS rfl eZ)))))))) rfl ?_
        refine oLoadV (q := 4) (c := (.d (.int .i64 a1.Hi))) eZ (bS rfl (bS rfl bZ)) rfl rfl ?_
        refine oFaddrN (m := 4) (eS rfl (eS rfl (eS rfl (eS rfl (eS rfl (eS rfl (eS rfl (eS rfl (eS rfl (eS rfl (eS rfl (eS rfl (eS rfl eZ))))))))))))) rfl ?_
        refine oStoreV (es := [(.d (.int .i64 a1.Kind)), (.d (.int .i64 a1.At)), (.d (.int .i64 0)), (.d (.int .i64 a1.Lo)), (.d (.int .i64 a1.Hi)), (.d (.int .i64 0)), (.d (.int .i64 0))]) eZ (eS rfl eZ) rfl rfl bZ rfl ?_
        refine xNil ?_
        refine TQ.qn ?_
        refine AW.weaken (wk_mk [] (SL.cons (k := 1) (eS rfl (eS rfl (eS rfl (eS rfl (eS rfl (eS rfl (eS rfl (eS rfl (eS rfl (eS rfl (eS rfl eZ))))))))))) rfl VWk.rfl (SL.cons (k := 3) (eS rfl (eS rfl (eS rfl (eS rfl (eS rfl (eS rfl (eS rfl (eS rfl (eS rfl (eS rfl (eS rfl (eS rfl eZ)))))))))))) rfl VWk.rfl (SL.cons (k := 5) (eS rfl (eS rfl (eS rfl (eS rfl (eS rfl (eS rfl (eS rfl (eS rfl (eS rfl (eS rfl (eS rfl (eS rfl (eS rfl (eS rfl eZ)))))))))))))) rfl VWk.rfl SL.nil))) (BL.keep rfl (BL.keep rfl (BL.keep rfl (BL.keep rfl (BL.keep rfl BL.nil))))) (BK.cons (n := 320) rfl bZ rfl rfl (BK.cons (n := 64) rfl (bS rfl (bS rfl (bS rfl bZ))) rfl rfl BK.nil))) ?_
        refine AW.seq ?_
        refine AW.regs ?_
        refine oMov (eS rfl eZ) ?_
        refine oMov eZ ?_
        rcases oite H with ⟨h11, H⟩ | ⟨h11, H⟩
        · refine gDo eZ h11 ?_
          refine oFaddrN (m := 3) (eS rfl (eS rfl eZ)) rfl ?_
          refine gDo (eS rfl eZ) h11 ?_
          refine oLoadV (q := 3) (c := (.d (.int .i64 a1.Lo))) eZ (bS rfl bZ) rfl rfl ?_
          refine gDo (eS rfl (eS rfl eZ)) h11 ?_
          refine oFaddrN (m := 4) (eS rfl (eS rfl (eS rfl (eS rfl eZ)))) rfl ?_
          refine gDo (eS rfl (eS rfl (eS rfl eZ))) h11 ?_
          refine oLoadV (q := 4) (c := (.d (.int .i64 a1.Hi))) eZ (bS rfl bZ) rfl rfl ?_
          refine gDo (eS rfl (eS rfl (eS rfl (eS rfl eZ)))) h11 ?_
          obtain ⟨v12, h13, H⟩ := obind H
          refine oCall (u := (.one (.d (.bool v12)))) eC Cl.fn (c_spec_l16RangeOk h13) (Evs.cons (eS rfl (eS rfl eZ)) (Evs.cons eZ Evs.nil)) (VDs.cons VD.plain (VDs.cons VD.plain VDs.nil)) rfl ?_
          refine oPickT (eS rfl (eS rfl (eS rfl (eS rfl (eS rfl eZ))))) h11 eZ ?_
          refine oMov eZ ?_
          rcases oite H with ⟨h14, H⟩ | ⟨h14, H⟩
          · refine gDo eZ h14 ?_
            refine oLoadVA (es := [(.d (.int .i64 a1.Kind)), (.d (.int .i64 a1.At)), (.d (.int .i64 a1.To)), (.d (.int .i64 a1.Lo)), (.d (.int .i64 a1.Hi)), (.d (.int .i64 a1.Key)), (.d (.int .i64 a1.Value))]) (eS rfl (eS rfl (eS rfl (eS rfl (eS rfl (eS rfl (eS rfl (eS rfl (eS rfl eZ))))))))) (bS rfl bZ) rfl ?_
            refine gDo (eS rfl eZ) h14 ?_
            refine oLoadVA (es := [(.d (.int .i64 a1.Kind)), (.d (.int .i64 a1.At)), (.d (.int .i64 0)), (.d (.int .i64 a1.Lo)), (.d (.int .i64 a1.Hi)), (.d (.int .i64 0)), (.d (.int .i64 0))]) (eS rfl (eS rfl (eS rfl (eS rfl (eS rfl (eS rfl (eS rfl (eS rfl (eS rfl (eS rfl (eS rfl (eS rfl eZ)))))))))))) bZ rfl ?_
            refine gDo (eS rfl (eS rfl eZ)) h14 ?_
            refine oSeql (b := (decide (a1.Kind = a1.Kind) && (decide (a1.At = a1.At) && (decide (a1.To = 0) && (decide (a1.Lo = a1.Lo) && (decide (a1.Hi = a1.Hi) && (decide (a1.Key = 0) && (decide (a1.Value = 0) && true)))))))) (eS rfl eZ) eZ rfl rfl rfl ?_
            refine oPickT (eS rfl (eS rfl (eS rfl eZ))) h14 eZ ?_
            refine oMov eZ ?_
            refine xNil ?_
            refine TQ.qn ?_
            refine AW.weaken (wk_mk [320, 64] (SL.cons (k := 2) eZ rfl VWk.rfl SL.nil) (BL.drop rfl (BL.drop rfl BL.nil)) BK.nil) ?_
            refine AW.ret ?_
            refine BQ.qr ?_
            refine TQ.qr ?_
            obtain rfl := Option.some.inj H
            exact endsR (RL.cons (RV.tmp eZ) (VO.flat rfl) RL.nil) List.nodup_nil
          · refine gSkip eZ (nt h14) rfl ?_
            refine gSkip (eS rfl eZ) (nt h14) rfl ?_
            refine gSkip (eS rfl (eS rfl eZ)) (nt h14) rfl ?_
            refine oPickF (eS rfl (eS rfl (eS rfl eZ))) (nt h14) eC ?_
            refine oMov eZ ?_
            refine xNil ?_
            refine TQ.qn ?_
            refine AW.weaken (wk_mk [320, 64] (SL.cons (k := 2) eZ rfl VWk.rfl SL.nil) (BL.drop rfl (BL.drop rfl BL.nil)) BK.nil) ?_
            refine AW.ret ?_
            refine BQ.qr ?_
            refine TQ.qr ?_
            obtain rfl := Option.some.inj H
            exact endsR (RL.cons (RV.tmp eZ) (VO.flat rfl) RL.nil) List.nodup_nil
        · refine gSkip eZ (nt h11) rfl ?_
          refine gSkip (eS rfl eZ) (nt h11) rfl ?_
          refine gSkip (eS rfl (eS rfl eZ)) (nt h11) rfl ?_
          refine gSkip (eS rfl (eS rfl (eS rfl eZ))) (nt h11) rfl ?_
          refine gSkip (eS rfl (eS rfl (eS rfl (eS rfl eZ)))) (nt h11) rfl ?_
          refine oPickF (eS rfl (eS rfl (eS rfl (eS rfl (eS rfl eZ))))) (nt h11) eC ?_
          refine oMov eZ ?_
          refine gSkip eZ rfl rfl ?_
          refine gSkip (eS rfl eZ) rfl rfl ?_
          refine gSkip (eS rfl (eS rfl eZ)) rfl rfl ?_
          refine oPickF (eS rfl (eS rfl (eS rfl eZ))) rfl eC ?_
          refine oMov eZ ?_
          refine xNil ?_
          refine TQ.qn ?_
          refine AW.weaken (wk_mk [320, 64] (SL.cons (k := 2) eZ rfl VWk.rfl SL.nil) (BL.drop rfl (BL.drop rfl BL.nil)) BK.nil) ?_
          refine AW.ret ?_
          refine BQ.qr ?_
          refine TQ.qr ?_
          obtain rfl := Option.some.inj H
          exact endsR (RL.cons (RV.tmp eZ) (VO.flat rfl) RL.nil) List.nodup_nil
      · refine AW.condF eZ (decide_eq_false h10) ?_
        refine AW.seq ?_
        refine AW.regs ?_
        refine oEql (eS rfl (eS rfl (eS rfl (eS rfl (eS rfl (eS rfl eZ)))))) eC ?_
        refine oMov eZ ?_
        refine xNil ?_
        refine TQ.qn ?_
        rcases oite H with ⟨h15, H⟩ | ⟨h15, H⟩
        · refine AW.condT eZ (decide_eq_true h15) ?_
          refine AW.seq ?_
          refine AW.regs ?_
          refine oFaddrN (m := 1) (eS rfl (eS rfl (eS rfl (eS rfl eZ)))) rfl ?_
          refine oLoadV (q := 1) (c := (.d (.int .i64 a1.At))) eZ bZ rfl rfl ?_
          refine oFaddrN (m := 1) (eS rfl (eS rfl (eS rfl (eS rfl (eS rfl (eS rfl (eS rfl (eS rfl (eS rfl eZ))))))))) rfl ?_
          refine oStoreV (es := [(.d (.int .i64 a1.Kind)), (.d (.int .i64 a1.At)), (.d (.int .i64 0)), (.d (.int .i64 0)), (.d (.int .i64 0)), (.d (.int .i64 0)), (.d (.int .i64 0))]) eZ (eS rfl eZ) rfl rfl (bS rfl bZ) rfl ?_
          refine xNil ?_
          refine TQ.qn ?_
          refine AW.seq ?_
          refine AW.regs ?_
          refine oFaddrN (m := 5) (eS rfl (eS rfl (eS rfl (eS rfl (eS rfl (eS rfl (eS rfl eZ))))))) rfl ?_
          refine oLoadV (q := 5) (c := (.d (.int .i64 a1.Key))) eZ (bS rfl bZ) rfl rfl ?_
          refine oFaddrN (m := 5) (eS rfl (eS rfl (eS rfl (eS rfl (eS rfl (eS rfl (eS rfl (eS rfl (eS rfl (eS rfl (eS rfl (eS rfl eZ)))))))))))) rfl ?_
          refine oStoreV (es := [(.d (.int .i64 a1.Kind)), (.d (.int .i64 a1.At)), (.d (.int .i64 0)), (.d (.int .i64 0)), (.d (.int .i64 0)), (.d (.int .i64 a1.Key)), (.d (.int .i64 0))]) eZ (eS rfl eZ) rfl rfl bZ rfl ?_
          refine xNil ?_
          refine TQ.qn ?_
          refine AW.weaken (wk_mk [] (SL.cons (k := 1) (eS rfl (eS rfl (eS rfl (eS rfl (eS rfl (eS rfl (eS rfl (eS rfl (eS rfl (eS rfl eZ)))))))))) rfl VWk.rfl (SL.cons (k := 3) (eS rfl (eS rfl (eS rfl (eS rfl (eS rfl (eS rfl (eS rfl (eS rfl (eS rfl (eS rfl (eS rfl eZ))))))))))) rfl VWk.rfl (SL.cons (k := 5) (eS rfl (eS rfl (eS rfl (eS rfl (eS rfl (eS rfl (eS rfl (eS rfl (eS rfl (eS rfl (eS rfl (eS rfl (eS rfl eZ))))))))))))) rfl VWk.rfl SL.nil))) (BL.keep rfl (BL.keep rfl (BL.keep rfl (BL.keep rfl BL.nil)))) (BK.cons (n := 320) rfl bZ rfl rfl (BK.cons (n := 64) rfl (bS rfl (bS rfl bZ)) rfl rfl BK.nil))) ?_
          refine AW.seq ?_
          refine AW.regs ?_
          refine oFaddrN (m := 6) eZ rfl ?_
          refine oLoadV (q := 6) (c := (.d (.int .i64 a1.Value))) eZ (bS rfl bZ) rfl rfl ?_
          refine oFaddrN (m := 6) (eS rfl (eS rfl (eS rfl (eS rfl eZ)))) rfl ?_
          refine oStoreV (es := [(.d (.int .i64 a1.Kind)), (.d (.int .i64 a1.At)), (.d (.int .i64 0)), (.d (.int .i64 0)), (.d (.int .i64 0)), (.d (.int .i64 a1.Key)), (.d (.int .i64 a1.Value))]) eZ (eS rfl eZ) rfl rfl bZ rfl ?_
          refine xNil ?_
          refine TQ.qn ?_
          refine AW.seq ?_
          refine AW.regs ?_
          refine oMov (eS rfl (eS rfl (eS rfl (eS rfl eZ)))) ?_
          refine oMov eZ ?_
          rcases oite H with ⟨h16, H⟩ | ⟨h16, H⟩
          · refine gDo eZ h16 ?_
            refine oFaddrN (m := 5) (eS rfl (eS rfl (eS rfl (eS rfl (eS rfl eZ))))) rfl ?_
            refine gDo (eS rfl eZ) h16 ?_
            refine oLoadV (q := 5) (c := (.d (.int .i64 a1.Key))) eZ (bS rfl (bS rfl bZ)) rfl rfl ?_
            refine gDo (eS rfl (eS rfl eZ)) h16 ?_
            obtain ⟨v17, h18, H⟩ := obind H
            refine oCall (u := (.one (.d (.bool v17)))) eC Cl.fn (c_spec_l10Key h18) (Evs.cons eZ Evs.nil) (VDs.cons VD.plain VDs.nil) rfl ?_
            refine oPickT (eS rfl (eS rfl (eS rfl eZ))) h16 eZ ?_
            refine oMov eZ ?_
            rcases oite H with ⟨h19, H⟩ | ⟨h19, H⟩
            · refine gDo eZ h19 ?_
              refine oFaddrN (m := 6) (eS rfl (eS rfl (eS rfl (eS rfl (eS rfl (eS rfl (eS rfl (eS rfl (eS rfl (eS rfl eZ)))))))))) rfl ?_
              refine gDo (eS rfl eZ) h19 ?_
              refine oLoadV (q := 6) (c := (.d (.int .i64 a1.Value))) eZ (bS rfl (bS rfl bZ)) rfl rfl ?_
              refine gDo (eS rfl (eS rfl eZ)) h19 ?_
              obtain ⟨v20, h21, H⟩ := obind H
              refine oCall (u := (.one (.d (.bool v20)))) eC Cl.fn (c_spec_l1In h21) (Evs.cons eZ (Evs.cons eC (Evs.cons eC Evs.nil))) (VDs.cons VD.plain (VDs.cons VD.plain (VDs.cons VD.plain VDs.nil))) rfl ?_
              refine oPickT (eS rfl (eS rfl (eS rfl eZ))) h19 eZ ?_
              refine oMov eZ ?_
              rcases oite H with ⟨h22, H⟩ | ⟨h22, H⟩
              · refine gDo eZ h22 ?_
                refine oLoadVA (es := [(.d (.int .i64 a1.Kind)), (.d (.int .i64 a1.At)), (.d (.int .i64 a1.To)), (.d (.int .i64 a1.Lo)), (.d (.int .i64 a1.Hi)), (.d (.int .i64 a1.Key)), (.d (.int .i64 a1.Value))]) (eS rfl (eS rfl (eS rfl (eS rfl (eS rfl (eS rfl (eS rfl (eS rfl (eS rfl (eS rfl (eS rfl (eS rfl (eS rfl (eS rfl (eS rfl eZ))))))))))))))) (bS rfl (bS rfl bZ)) rfl ?_
                refine gDo (eS rfl eZ) h22 ?_
                refine oLoadVA (es := [(.d (.int .i64 a1.Kind)), (.d (.int .i64 a1.At)), (.d (.int .i64 0)), (.d (.int .i64 0)), (.d (.int .i64 0)), (.d (.int .i64 a1.Key)), (.d (.int .i64 a1.Value))]) (eS rfl (eS rfl (eS rfl (eS rfl (eS rfl (eS rfl (eS rfl (eS rfl (eS rfl (eS rfl (eS rfl (eS rfl (eS rfl (eS rfl (eS rfl (eS rfl (eS rfl (eS rfl eZ)))))))))))))))))) bZ rfl ?_
                refine gDo (eS rfl (eS rfl eZ)) h22 ?_
                refine oSeql (b := (decide (a1.Kind = a1.Kind) && (decide (a1.At = a1.At) && (decide (a1.To = 0) && (decide (a1.Lo = 0) && (decide (a1.Hi = 0) && (decide (a1.Key = a1.Key) && (decide (a1.Value = a1.Value) && true)))))))) (eS rfl eZ) eZ rfl rfl rfl ?_
                refine oPickT (eS rfl (eS rfl (eS rfl eZ))) h22 eZ ?_
                refine oMov eZ ?_
                refine xNil ?_
                refine TQ.qn ?_
                refine AW.weaken (wk_mk [320, 64] (SL.cons (k := 2) eZ rfl VWk.rfl SL.nil) (BL.drop rfl (BL.drop rfl (BL.drop rfl BL.nil))) BK.nil) ?_
                refine AW.ret ?_
                refine BQ.qr ?_
                refine TQ.qr ?_
                obtain rfl := Option.some.inj H
                exact endsR (RL.cons (RV.tmp eZ) (VO.flat rfl) RL.nil) List.nodup_nil
              · refine gSkip eZ (nt h22) rfl ?_
                refine gSkip (eS rfl eZ) (nt h22) rfl ?_
                refine gSkip (eS rfl (eS rfl eZ)) (nt h22) rfl ?_
                refine oPickF (eS rfl (eS rfl (eS rfl eZ))) (nt h22) eC ?_
                refine oMov eZ ?_
                refine xNil ?_
                refine TQ.qn ?_
                refine AW.weaken (wk_mk [320, 64] (SL.cons (k := 2) eZ rfl VWk.rfl SL.nil) (BL.drop rfl (BL.drop rfl (BL.drop rfl BL.nil))) BK.nil) ?_
                refine AW.ret ?_
                refine BQ.qr ?_
                refine TQ.qr ?_
                obtain rfl := Option.some.inj H
                exact endsR (RL.cons (RV.tmp eZ) (VO.flat rfl) RL.nil) List.nodup_nil
            · refine gSkip eZ (nt h19) rfl ?_
              refine gSkip (eS rfl eZ) (nt h19) rfl ?_
              refine gSkip (eS rfl (eS rfl eZ)) (nt h19) rfl ?_
              refine oPickF (eS rfl (eS rfl (eS rfl eZ))) (nt h19) eC ?_
              refine oMov eZ ?_
              refine gSkip eZ rfl rfl ?_
              refine gSkip (eS rfl eZ) rfl rfl ?_
              refine gSkip (eS rfl (eS rfl eZ)) rfl rfl ?_
              refine oPickF (eS rfl (eS rfl (eS rfl eZ))) rfl eC ?_
              refine oMov eZ ?_
              refine xNil ?_
              refine TQ.qn ?_
              refine AW.weaken (wk_mk [320, 64] (SL.cons (k := 2) eZ rfl VWk.rfl SL.nil) (BL.drop rfl (BL.drop rfl (BL.drop rfl BL.nil))) BK.nil) ?_
              refine AW.ret ?_
              refine BQ.qr ?_
              refine TQ.qr ?_
              obtain rfl := Option.some.inj H
              exact endsR (RL.cons (RV.tmp eZ) (VO.flat rfl) RL.nil) List.nodup_nil
          · refine gSkip eZ (nt h16) rfl ?_
            refine gSkip (eS rfl eZ) (nt h16) rfl ?_
            refine gSkip (eS rfl (eS rfl eZ)) (nt h16) rfl ?_
            refine oPickF (eS rfl (eS rfl (eS rfl eZ))) (nt h16) eC ?_
            refine oMov eZ ?_
            refine gSkip eZ rfl rfl ?_
            refine gSkip (eS rfl eZ) rfl rfl ?_
            refine gSkip (eS rfl (eS rfl eZ)) rfl rfl ?_
            refine oPickF (eS rfl (eS rfl (eS rfl eZ))) rfl eC ?_
            refine oMov eZ ?_
            refine gSkip eZ rfl rfl ?_
            refine gSkip (eS rfl eZ) rfl rfl ?_
            refine gSkip (eS rfl (eS rfl eZ)) rfl rfl ?_
            refine oPickF (eS rfl (eS rfl (eS rfl eZ))) rfl eC ?_
            refine oMov eZ ?_
            refine xNil ?_
            refine TQ.qn ?_
            refine AW.weaken (wk_mk [320, 64] (SL.cons (k := 2) eZ rfl VWk.rfl SL.nil) (BL.drop rfl (BL.drop rfl (BL.drop rfl BL.nil))) BK.nil) ?_
            refine AW.ret ?_
            refine BQ.qr ?_
            refine TQ.qr ?_
            obtain rfl := Option.some.inj H
            exact endsR (RL.cons (RV.tmp eZ) (VO.flat rfl) RL.nil) List.nodup_nil
        · refine AW.condF eZ (decide_eq_false h15) ?_
          refine AW.seqJ (fun t23 : Bool => (spec_DeedOk_j23 v4 a1) t23 = some r) (fun t23 => mk [(1, (.one (.ptr (.nm 64 0 0)))), (4, (.one (.d (.bool v4)))), (5, (.one (.ptr (.nm 320 0 0)))), (16, (.one (.d (.int .i64 a1.Kind)))), (82, (.one (.d (.bool t23))))] [(64, (.vars 7 [(.d (.int .i64 a1.Kind)), (.d (.int .i64 a1.At)), (.d (.int .i64 a1.To)), (.d (.int .i64 a1.Lo)), (.d (.int .i64 a1.Hi)), (.d (.int .i64 a1.Key)), (.d (.int .i64 a1.Value))])), (320, (.vars 7 [(.d (.int .i64 a1.Kind)), (.d (.int .i64 0)), (.d (.int .i64 0)), (.d (.int .i64 0)), (.d (.int .i64 0)), (.d (.int .i64 0)), (.d (.int .i64 0))]))] noG) ?_ ?_
          · intro t23 H
            unfold spec_DeedOk_j23 at H
            rcases oite H with ⟨h25, H⟩ | ⟨h25, H⟩
            · refine AW.condT (eS rfl (eS rfl (eS rfl (eS rfl eZ)))) h25 ?_
              refine AW.seq ?_
              refine AW.regs ?_
              refine oFaddrN (m := 1) eZ rfl ?_
              refine oLoadV (q := 1) (c := (.d (.int .i64 a1.At))) eZ bZ rfl rfl ?_
              refine oFaddrN (m := 1) (eS rfl (eS rfl (eS rfl (eS rfl eZ)))) rfl ?_
              refine oStoreV (es := [(.d (.int .i64 a1.Kind)), (.d (.int .i64 a1.At)), (.d (.int .i64 0)), (.d (.int .i64 0)), (.d (.int .i64 0)), (.d (.int .i64 0)), (.d (.int .i64 0))]) eZ (eS rfl eZ) rfl rfl (bS rfl bZ) rfl ?_
              refine xNil ?_
              refine TQ.qn ?_
              refine AW.seq ?_
              refine AW.regs ?_
              refine oMov (eS rfl (eS rfl (eS rfl (eS rfl eZ)))) ?_
              refine oMov eZ ?_
              rcases oite H with ⟨h26, H⟩ | ⟨h26, H⟩
              · refine gDo eZ h26 ?_
                refine oLoadVA (es := [(.d (.int .i64 a1.Kind)), (.d (.int .i64 a1.At)), (.d (.int .i64 a1.To)), (.d (.int .i64 a1.Lo)), (.d (.int .i64 a1.Hi)), (.d (.int .i64 a1.Key)), (.d (.int .i64 a1.Value))]) (eS rfl (eS rfl (eS rfl (eS rfl (eS rfl eZ))))) (bS rfl bZ) rfl ?_
                refine gDo (eS rfl eZ) h26 ?_
                refine oLoadVA (es := [(.d (.int .i64 a1.Kind)), (.d (.int .i64 a1.At)), (.d (.int .i64 0)), (.d (.int .i64 0)), (.d (.int .i64 0)), (.d (.int .i64 0)), (.d (.int .i64 0))]) (eS rfl (eS rfl (eS rfl (eS rfl (eS rfl (eS rfl (eS rfl (eS rfl eZ)))))))) bZ rfl ?_
                refine gDo (eS rfl (eS rfl eZ)) h26 ?_
                refine oSeql (b := (decide (a1.Kind = a1.Kind) && (decide (a1.At = a1.At) && (decide (a1.To = 0) && (decide (a1.Lo = 0) && (decide (a1.Hi = 0) && (decide (a1.Key = 0) && (decide (a1.Value = 0) && true)))))))) (eS rfl eZ) eZ rfl rfl rfl ?_
                refine oPickT (eS rfl (eS rfl (eS rfl eZ))) h26 eZ ?_
                refine oMov eZ ?_
                refine xNil ?_
                refine TQ.qn ?_
                refine AW.ret ?_
                refine BQ.qr ?_
                refine TQ.qr ?_
                obtain rfl := Option.some.inj H
                exact endsR (RL.cons (RV.tmp eZ) (VO.flat rfl) RL.nil) List.nodup_nil
              · refine gSkip eZ (nt h26) rfl ?_
                refine gSkip (eS rfl eZ) (nt h26) rfl ?_
                refine gSkip (eS rfl (eS rfl eZ)) (nt h26) rfl ?_
                refine oPickF (eS rfl (eS rfl (eS rfl eZ))) (nt h26) eC ?_
                refine oMov eZ ?_
                refine xNil ?_
                refine TQ.qn ?_
                refine AW.ret ?_
                refine BQ.qr ?_
                refine TQ.qr ?_
                obtain rfl := Option.some.inj H
                exact endsR (RL.cons (RV.tmp eZ) (VO.flat rfl) RL.nil) List.nodup_nil
            · refine AW.condF (eS rfl (eS rfl (eS rfl (eS rfl eZ)))) (nt h25) ?_
              refine AW.seq ?_
              refine AW.regs ?_
              refine oEql (eS rfl (eS rfl (eS rfl eZ))) eC ?_
              refine oMov eZ ?_
              refine xNil ?_
              refine TQ.qn ?_
              rcases oite H with ⟨h27, H⟩ | ⟨h27, H⟩
              · refine AW.condT eZ (decide_eq_true h27) ?_
                refine AW.seq ?_
                refine AW.regs ?_
                refine oFaddrN (m := 1) (eS rfl (eS rfl eZ)) rfl ?_
                refine oLoadV (q := 1) (c := (.d (.int .i64 a1.At))) eZ bZ rfl rfl ?_
                refine oFaddrN (m := 1) (eS rfl (eS rfl (eS rfl (eS rfl (eS rfl (eS rfl eZ)))))) rfl ?_
                refine oStoreV (es := [(.d (.int .i64 a1.Kind)), (.d (.int .i64 a1.At)), (.d (.int .i64 0)), (.d (.int .i64 0)), (.d (.int .i64 0)), (.d (.int .i64 0)), (.d (.int .i64 0))]) eZ (eS rfl eZ) rfl rfl (bS rfl bZ) rfl ?_
                refine xNil ?_
                refine TQ.qn ?_
                refine AW.seq ?_
                refine AW.regs ?_
                refine oFaddrN (m := 2) (eS rfl (eS rfl (eS rfl (eS rfl (eS rfl eZ))))) rfl ?_
                refine oLoadV (q := 2) (c := (.d (.int .i64 a1.To))) eZ (bS rfl bZ) rfl rfl ?_
                refine oFaddrN (m := 2) (eS rfl (eS rfl (eS rfl (eS rfl (eS rfl (eS rfl (eS rfl (eS rfl (eS rfl eZ))))))))) rfl ?_
                refine oStoreV (es := [(.d (.int .i64 a1.Kind)), (.d (.int .i64 a1.At)), (.d (.int .i64 a1.To)), (.d (.int .i64 0)), (.d (.int .i64 0)), (.d (.int .i64 0)), (.d (.int .i64 0))]) eZ (eS rfl eZ) rfl rfl bZ rfl ?_
                refine xNil ?_
                refine TQ.qn ?_
                refine AW.seq ?_
                refine AW.regs ?_
                refine oMov (eS rfl (eS rfl (eS rfl (eS rfl (eS rfl (eS rfl (eS rfl (eS rfl (eS rfl eZ))))))))) ?_
                refine oMov eZ ?_
                rcases oite H with ⟨h28, H⟩ | ⟨h28, H⟩
                · refine gDo eZ h28 ?_
                  refine oFaddrN (m := 2) (eS rfl (eS rfl (eS rfl (eS rfl (eS rfl (eS rfl (eS rfl (eS rfl (eS rfl (eS rfl eZ)))))))))) rfl ?_
                  refine gDo (eS rfl eZ) h28 ?_
                  refine oLoadV (q := 2) (c := (.d (.int .i64 a1.To))) eZ (bS rfl (bS rfl bZ)) rfl rfl ?_
                  refine gDo (eS rfl (eS rfl eZ)) h28 ?_
                  obtain ⟨v29, h30, H⟩ := obind H
                  refine oCall (u := (.one (.d (.bool v29)))) eC Cl.fn (c_spec_l1In h30) (Evs.cons eZ (Evs.cons eC (Evs.cons eC Evs.nil))) (VDs.cons VD.plain (VDs.cons VD.plain (VDs.cons VD.plain VDs.nil))) rfl ?_
                  refine oPickT (eS rfl (eS rfl (eS rfl eZ))) h28 eZ ?_
                  refine oMov eZ ?_
                  rcases oite H with ⟨h31, H⟩ | ⟨h31, H⟩
                  · refine gDo eZ h31 ?_
                    refine oLoadVA (es := [(.d (.int .i64 a1.Kind)), (.d (.int .i64 a1.At)), (.d (.int .i64 a1.To)), (.d (.int .i64 a1.Lo)), (.d (.int .i64 a1.Hi)), (.d (.int .i64 a1.Key)), (.d (.int .i64 a1.Value))]) (eS rfl (eS rfl (eS rfl (eS rfl (eS rfl (eS rfl (eS rfl (eS rfl (eS rfl (eS rfl (eS rfl (eS rfl (eS rfl (eS rfl (eS rfl eZ))))))))))))))) (bS rfl (bS rfl bZ)) rfl ?_
                    refine gDo (eS rfl eZ) h31 ?_
                    refine oLoadVA (es := [(.d (.int .i64 a1.Kind)), (.d (.int .i64 a1.At)), (.d (.int .i64 a1.To)), (.d (.int .i64 0)), (.d (.int .i64 0)), (.d (.int .i64 0)), (.d (.int .i64 0))]) (eS rfl (eS rfl (eS rfl (eS rfl (eS rfl (eS rfl (eS rfl (eS rfl (eS rfl (eS rfl (eS rfl (eS rfl (eS rfl (eS rfl (eS rfl (eS rfl (eS rfl (eS rfl eZ)))))))))))))))))) bZ rfl ?_
                    refine gDo (eS rfl (eS rfl eZ)) h31 ?_
                    refine oSeql (b := (decide (a1.Kind = a1.Kind) && (decide (a1.At = a1.At) && (decide (a1.To = a1.To) && (decide (a1.Lo = 0) && (decide (a1.Hi = 0) && (decide (a1.Key = 0) && (decide (a1.Value = 0) && true)))))))) (eS rfl eZ) eZ rfl rfl rfl ?_
                    refine oPickT (eS rfl (eS rfl (eS rfl eZ))) h31 eZ ?_
                    refine oMov eZ ?_
                    refine xNil ?_
                    refine TQ.qn ?_
                    refine AW.weaken (wk_mk [320, 64] (SL.cons (k := 2) eZ rfl VWk.rfl SL.nil) (BL.drop rfl (BL.drop rfl (BL.drop rfl (BL.drop rfl BL.nil)))) BK.nil) ?_
                    refine AW.ret ?_
                    refine BQ.qr ?_
                    refine TQ.qr ?_
                    obtain rfl := Option.some.inj H
                    exact endsR (RL.cons (RV.tmp eZ) (VO.flat rfl) RL.nil) List.nodup_nil
                  · refine gSkip eZ (nt h31) rfl ?_
                    refine gSkip (eS rfl eZ) (nt h31) rfl ?_
                    refine gSkip (eS rfl (eS rfl eZ)) (nt h31) rfl ?_
                    refine oPickF (eS rfl (eS rfl (eS rfl eZ))) (nt h31) eC ?_
                    refine oMov eZ ?_
                    refine xNil ?_
                    refine TQ.qn ?_
                    refine AW.weaken (wk_mk [320, 64] (SL.cons (k := 2) eZ rfl VWk.rfl SL.nil) (BL.drop rfl (BL.drop rfl (BL.drop rfl (BL.drop rfl BL.nil)))) BK.nil) ?_
                    refine AW.ret ?_
                    refine BQ.qr ?_
                    refine TQ.qr ?_
                    obtain rfl := Option.some.inj H
                    exact endsR (RL.cons (RV.tmp eZ) (VO.flat rfl) RL.nil) List.nodup_nil
                · refine gSkip eZ (nt h28) rfl ?_
                  refine gSkip (eS rfl eZ) (nt h28) rfl ?_
                  refine gSkip (eS rfl (eS rfl eZ)) (nt h28) rfl ?_
                  refine oPickF (eS rfl (eS rfl (eS rfl eZ))) (nt h28) eC ?_
                  refine oMov eZ ?_
                  refine gSkip eZ rfl rfl ?_
                  refine gSkip (eS rfl eZ) rfl rfl ?_
                  refine gSkip (eS rfl (eS rfl eZ)) rfl rfl ?_
                  refine oPickF (eS rfl (eS rfl (eS rfl eZ))) rfl eC ?_
                  refine oMov eZ ?_
                  refine xNil ?_
                  refine TQ.qn ?_
                  refine AW.weaken (wk_mk [320, 64] (SL.cons (k := 2) eZ rfl VWk.rfl SL.nil) (BL.drop rfl (BL.drop rfl (BL.drop rfl (BL.drop rfl BL.nil)))) BK.nil) ?_
                  refine AW.ret ?_
                  refine BQ.qr ?_
                  refine TQ.qr ?_
                  obtain rfl := Option.some.inj H
                  exact endsR (RL.cons (RV.tmp eZ) (VO.flat rfl) RL.nil) List.nodup_nil
              · refine AW.condF eZ (decide_eq_false h27) ?_
                refine AW.seqJ (fun t32 : Bool => (spec_DeedOk_j32 a1) t32 = some r) (fun t32 => mk [(1, (.one (.ptr (.nm 64 0 0)))), (5, (.one (.ptr (.nm 320 0 0)))), (16, (.one (.d (.int .i64 a1.Kind)))), (114, (.one (.d (.bool t32))))] [(64, (.vars 7 [(.d (.int .i64 a1.Kind)), (.d (.int .i64 a1.At)), (.d (.int .i64 a1.To)), (.d (.int .i64 a1.Lo)), (.d (.int .i64 a1.Hi)), (.d (.int .i64 a1.Key)), (.d (.int .i64 a1.Value))])), (320, (.vars 7 [(.d (.int .i64 a1.Kind)), (.d (.int .i64 0)), (.d (.int .i64 0)), (.d (.int .i64 0)), (.d (.int .i64 0)), (.d (.int .i64 0)), (.d (.int .i64 0))]))] noG) ?_ ?_
                · intro t32 H
                  unfold spec_DeedOk_j32 at H
                  rcases oite H with ⟨h34, H⟩ | ⟨h34, H⟩
                  · refine AW.condT (eS rfl (eS rfl (eS rfl eZ))) h34 ?_
                    refine AW.seq ?_
                    refine AW.regs ?_
                    refine oFaddrN (m := 1) eZ rfl ?_
                    refine oLoadV (q := 1) (c := (.d (.int .i64 a1.At))) eZ bZ rfl rfl ?_
                    refine oFaddrN (m := 1) (eS rfl (eS rfl (eS rfl eZ))) rfl ?_
                    refine oStoreV (es := [(.d (.int .i64 a1.Kind)), (.d (.int .i64 a1.At)), (.d (.int .i64 0)), (.d (.int .i64 0)), (.d (.int .i64 0)), (.d (.int .i64 0)), (.d (.int .i64 0))]) eZ (eS rfl eZ) rfl rfl (bS rfl bZ) rfl ?_
                    refine xNil ?_
                    refine TQ.qn ?_
                    refine AW.seq ?_
                    refine AW.regs ?_
                    refine oFaddrN (m := 1) (eS rfl (eS rfl (eS rfl eZ))) rfl ?_
                    refine oLoadV (q := 1) (c := (.d (.int .i64 a1.At))) eZ (bS rfl bZ) rfl rfl ?_
                    obtain ⟨v35, h36, H⟩ := obind H
                    refine oCall (u := (.one (.d (.bool v35)))) eC Cl.fn (c_spec_l12Tx h36) (Evs.cons eZ Evs.nil) (VDs.cons VD.plain VDs.nil) rfl ?_
                    refine oMov eZ ?_
                    rcases oite H with ⟨h37, H⟩ | ⟨h37, H⟩
                    · refine gDo eZ h37 ?_
                      refine oLoadVA (es := [(.d (.int .i64 a1.Kind)), (.d (.int .i64 a1.At)), (.d (.int .i64 a1.To)), (.d (.int .i64 a1.Lo)), (.d (.int .i64 a1.Hi)), (.d (.int .i64 a1.Key)), (.d (.int .i64 a1.Value))]) (eS rfl (eS rfl (eS rfl (eS rfl (eS rfl (eS rfl (eS rfl eZ))))))) (bS rfl bZ) rfl ?_
                      refine gDo (eS rfl eZ) h37 ?_
                      refine oLoadVA (es := [(.d (.int .i64 a1.Kind)), (.d (.int .i64 a1.At)), (.d (.int .i64 0)), (.d (.int .i64 0)), (.d (.int .i64 0)), (.d (.int .i64 0)), (.d (.int .i64 0))]) (eS rfl (eS rfl (eS rfl (eS rfl (eS rfl (eS rfl (eS rfl (eS rfl (eS rfl eZ))))))))) bZ rfl ?_
                      refine gDo (eS rfl (eS rfl eZ)) h37 ?_
                      refine oSeql (b := (decide (a1.Kind = a1.Kind) && (decide (a1.At = a1.At) && (decide (a1.To = 0) && (decide (a1.Lo = 0) && (decide (a1.Hi = 0) && (decide (a1.Key = 0) && (decide (a1.Value = 0) && true)))))))) (eS rfl eZ) eZ rfl rfl rfl ?_
                      refine oPickT (eS rfl (eS rfl (eS rfl eZ))) h37 eZ ?_
                      refine oMov eZ ?_
                      refine xNil ?_
                      refine TQ.qn ?_
                      refine AW.weaken (wk_mk [320, 64] (SL.cons (k := 2) eZ rfl VWk.rfl SL.nil) (BL.drop rfl (BL.drop rfl (BL.drop rfl BL.nil))) BK.nil) ?_
                      refine AW.ret ?_
                      refine BQ.qr ?_
                      refine TQ.qr ?_
                      obtain rfl := Option.some.inj H
                      exact endsR (RL.cons (RV.tmp eZ) (VO.flat rfl) RL.nil) List.nodup_nil
                    · refine gSkip eZ (nt h37) rfl ?_
                      refine gSkip (eS rfl eZ) (nt h37) rfl ?_
                      refine gSkip (eS rfl (eS rfl eZ)) (nt h37) rfl ?_
                      refine oPickF (eS rfl (eS rfl (eS rfl eZ))) (nt h37) eC ?_
                      refine oMov eZ ?_
                      refine xNil ?_
                      refine TQ.qn ?_
                      refine AW.weaken (wk_mk [320, 64] (SL.cons (k := 2) eZ rfl VWk.rfl SL.nil) (BL.drop rfl (BL.drop rfl (BL.drop rfl BL.nil))) BK.nil) ?_
                      refine AW.ret ?_
                      refine BQ.qr ?_
                      refine TQ.qr ?_
                      obtain rfl := Option.some.inj H
                      exact endsR (RL.cons (RV.tmp eZ) (VO.flat rfl) RL.nil) List.nodup_nil
                  · refine AW.condF (eS rfl (eS rfl (eS rfl eZ))) (nt h34) ?_
                    refine AW.seq ?_
                    refine AW.regs ?_
                    refine oEql (eS rfl (eS rfl eZ)) eC ?_
                    refine oMov eZ ?_
                    refine xNil ?_
                    refine TQ.qn ?_
                    rcases oite H with ⟨h38, H⟩ | ⟨h38, H⟩
                    · refine AW.condT eZ (decide_eq_true h38) ?_
                      refine AW.seq ?_
                      refine AW.regs ?_
                      refine oFaddrN (m := 5) (eS rfl (eS rfl eZ)) rfl ?_
                      refine oLoadV (q := 5) (c := (.d (.int .i64 a1.Key))) eZ bZ rfl rfl ?_
                      refine oFaddrN (m := 5) (eS rfl (eS rfl (eS rfl (eS rfl (eS rfl eZ))))) rfl ?_
                      refine oStoreV (es := [(.d (.int .i64 a1.Kind)), (.d (.int .i64 0)), (.d (.int .i64 0)), (.d (.int .i64 0)), (.d (.int .i64 0)), (.d (.int .i64 a1.Key)), (.d (.int .i64 0))]) eZ (eS rfl eZ) rfl rfl (bS rfl bZ) rfl ?_
                      refine xNil ?_
                      refine TQ.qn ?_
                      refine AW.seq ?_
                      refine AW.regs ?_
                      refine oFaddrN (m := 5) (eS rfl (eS rfl (eS rfl (eS rfl (eS rfl eZ))))) rfl ?_
                      refine oLoadV (q := 5) (c := (.d (.int .i64 a1.Key))) eZ (bS rfl bZ) rfl rfl ?_
                      obtain ⟨v39, h40, H⟩ := obind H
                      refine oCall (u := (.one (.d (.bool v39)))) eC Cl.fn (c_spec_l10Key h40) (Evs.cons eZ Evs.nil) (VDs.cons VD.plain VDs.nil) rfl ?_
                      refine oMov eZ ?_
                      rcases oite H with ⟨h41, H⟩ | ⟨h41, H⟩
                      · refine gDo eZ h41 ?_
                        refine oLoadVA (es := [(.d (.int .i64 a1.Kind)), (.d (.int .i64 a1.At)), (.d (.int .i64 a1.To)), (.d (.int .i64 a1.Lo)), (.d (.int .i64 a1.Hi)), (.d (.int .i64 a1.Key)), (.d (.int .i64 a1.Value))]) (eS rfl (eS rfl (eS rfl (eS rfl (eS rfl (eS rfl (eS rfl (eS rfl (eS rfl eZ))))))))) (bS rfl bZ) rfl ?_
                        refine gDo (eS rfl eZ) h41 ?_
                        refine oLoadVA (es := [(.d (.int .i64 a1.Kind)), (.d (.int .i64 0)), (.d (.int .i64 0)), (.d (.int .i64 0)), (.d (.int .i64 0)), (.d (.int .i64 a1.Key)), (.d (.int .i64 0))]) (eS rfl (eS rfl (eS rfl (eS rfl (eS rfl (eS rfl (eS rfl (eS rfl (eS rfl (eS rfl (eS rfl eZ))))))))))) bZ rfl ?_
                        refine gDo (eS rfl (eS rfl eZ)) h41 ?_
                        refine oSeql (b := (decide (a1.Kind = a1.Kind) && (decide (a1.At = 0) && (decide (a1.To = 0) && (decide (a1.Lo = 0) && (decide (a1.Hi = 0) && (decide (a1.Key = a1.Key) && (decide (a1.Value = 0) && true)))))))) (eS rfl eZ) eZ rfl rfl rfl ?_
                        refine oPickT (eS rfl (eS rfl (eS rfl eZ))) h41 eZ ?_
                        refine oMov eZ ?_
                        refine xNil ?_
                        refine TQ.qn ?_
                        refine AW.weaken (wk_mk [320, 64] (SL.cons (k := 2) eZ rfl VWk.rfl SL.nil) (BL.drop rfl (BL.drop rfl (BL.drop rfl BL.nil))) BK.nil) ?_
                        refine AW.ret ?_
                        refine BQ.qr ?_
                        refine TQ.qr ?_
                        obtain rfl := Option.some.inj H
                        exact endsR (RL.cons (RV.tmp eZ) (VO.flat rfl) RL.nil) List.nodup_nil
                      · refine gSkip eZ (nt h41) rfl ?_
                        refine gSkip (eS rfl eZ) (nt h41) rfl ?_
                        refine gSkip (eS rfl (eS rfl eZ)) (nt h41) rfl ?_
                        refine oPickF (eS rfl (eS rfl (eS rfl eZ))) (nt h41) eC ?_
                        refine oMov eZ ?_
                        refine xNil ?_
                        refine TQ.qn ?_
                        refine AW.weaken (wk_mk [320, 64] (SL.cons (k := 2) eZ rfl VWk.rfl SL.nil) (BL.drop rfl (BL.drop rfl (BL.drop rfl BL.nil))) BK.nil) ?_
                        refine AW.ret ?_
                        refine BQ.qr ?_
                        refine TQ.qr ?_
                        obtain rfl := Option.some.inj H
                        exact endsR (RL.cons (RV.tmp eZ) (VO.flat rfl) RL.nil) List.nodup_nil
                    · refine AW.condF eZ (decide_eq_false h38) ?_
                      refine AW.seq ?_
                      refine AW.regs ?_
                      refine oEql (eS rfl (eS rfl (eS rfl (eS rfl eZ)))) eC ?_
                      refine oMov eZ ?_
                      refine xNil ?_
                      refine TQ.qn ?_
                      rcases oite H with ⟨h42, H⟩ | ⟨h42, H⟩
                      · refine AW.condT eZ (decide_eq_true h42) ?_
                        refine AW.seq ?_
                        refine AW.regs ?_
                        refine oFaddrN (m := 5) (eS rfl (eS rfl (eS rfl (eS rfl eZ)))) rfl ?_
                        refine oLoadV (q := 5) (c := (.d (.int .i64 a1.Key))) eZ bZ rfl rfl ?_
                        refine oFaddrN (m := 5) (eS rfl (eS rfl (eS rfl (eS rfl (eS rfl (eS rfl (eS rfl eZ))))))) rfl ?_
                        refine oStoreV (es := [(.d (.int .i64 a1.Kind)), (.d (.int .i64 0)), (.d (.int .i64 0)), (.d (.int .i64 0)), (.d (.int .i64 0)), (.d (.int .i64 a1.Key)), (.d (.int .i64 0))]) eZ (eS rfl eZ) rfl rfl (bS rfl bZ) rfl ?_
                        refine xNil ?_
                        refine TQ.qn ?_
                        refine AW.seq ?_
                        refine AW.regs ?_
                        refine oFaddrN (m := 2) (eS rfl (eS rfl (eS rfl (eS rfl (eS rfl (eS rfl (eS rfl eZ))))))) rfl ?_
                        refine oLoadV (q := 2) (c := (.d (.int .i64 a1.To))) eZ (bS rfl bZ) rfl rfl ?_
                        refine oFaddrN (m := 2) (eS rfl (eS rfl (eS rfl (eS rfl (eS rfl (eS rfl (eS rfl (eS rfl (eS rfl (eS rfl eZ)))))))))) rfl ?_
                        refine oStoreV (es := [(.d (.int .i64 a1.Kind)), (.d (.int .i64 0)), (.d (.int .i64 a1.To)), (.d (.int .i64 0)), (.d (.int .i64 0)), (.d (.int .i64 a1.Key)), (.d (.int .i64 0))]) eZ (eS rfl eZ) rfl rfl bZ rfl ?_
                        refine xNil ?_
                        refine TQ.qn ?_
                        refine AW.seq ?_
                        refine AW.regs ?_
                        refine oFaddrN (m := 5) (eS rfl (eS rfl (eS rfl (eS rfl (eS rfl (eS rfl (eS rfl (eS rfl (eS rfl (eS rfl eZ)))))))))) rfl ?_
                        refine oLoadV (q := 5) (c := (.d (.int .i64 a1.Key))) eZ (bS rfl (bS rfl bZ)) rfl rfl ?_
                        obtain ⟨v43, h44, H⟩ := obind H
                        refine oCall (u := (.one (.d (.bool v43)))) eC Cl.fn (c_spec_l10Key h44) (Evs.cons eZ Evs.nil) (VDs.cons VD.plain VDs.nil) rfl ?_
                        refine oMov eZ ?_
                        rcases oite H with ⟨h45, H⟩ | ⟨h45, H⟩
                        · refine gDo eZ h45 ?_
                          refine oFaddrN (m := 2) (eS rfl (eS rfl (eS rfl (eS rfl (eS rfl (eS rfl (eS rfl (eS rfl (eS rfl (eS rfl (eS rfl (eS rfl (eS rfl (eS rfl eZ)))))))))))))) rfl ?_
                          refine gDo (eS rfl eZ) h45 ?_
                          refine oLoadV (q := 2) (c := (.d (.int .i64 a1.To))) eZ (bS rfl (bS rfl bZ)) rfl rfl ?_
                          refine gDo (eS rfl (eS rfl eZ)) h45 ?_
                          obtain ⟨v46, h47, H⟩ := obind H
                          refine oCall (u := (.one (.d (.bool v46)))) eC Cl.fn (c_spec_l15Group h47) (Evs.cons eZ Evs.nil) (VDs.cons VD.plain VDs.nil) rfl ?_
                          refine oPickT (eS rfl (eS rfl (eS rfl eZ))) h45 eZ ?_
                          refine oMov eZ ?_
                          rcases oite H with ⟨h48, H⟩ | ⟨h48, H⟩
                          · refine gDo eZ h48 ?_
                            refine oLoadVA (es := [(.d (.int .i64 a1.Kind)), (.d (.int .i64 a1.At)), (.d (.int .i64 a1.To)), (.d (.int .i64 a1.Lo)), (.d (.int .i64 a1.Hi)), (.d (.int .i64 a1.Key)), (.d (.int .i64 a1.Value))]) (eS rfl (eS rfl (eS rfl (eS rfl (eS rfl (eS rfl (eS rfl (eS rfl (eS rfl (eS rfl (eS rfl (eS rfl (eS rfl (eS rfl (eS rfl (eS rfl (eS rfl (eS rfl (eS rfl eZ))))))))))))))))))) (bS rfl (bS rfl bZ)) rfl ?_
                            refine gDo (eS rfl eZ) h48 ?_
                            refine oLoadVA (es := [(.d (.int .i64 a1.Kind)), (.d (.int .i64 0)), (.d (.int .i64 a1.To)), (.d (.int .i64 0)), (.d (.int .i64 0)), (.d (.int .i64 a1.Key)), (.d (.int .i64 0))]) (eS rfl (eS rfl (eS rfl (eS rfl (eS rfl (eS rfl (eS rfl (eS rfl (eS rfl (eS rfl (eS rfl (eS rfl (eS rfl (eS rfl (eS rfl (eS rfl (eS rfl (eS rfl (eS rfl (eS rfl (eS rfl eZ))))))))))))))))))))) bZ rfl ?_
                            refine gDo (eS rfl (eS rfl eZ)) h48 ?_
                            refine oSeql (b := (decide (a1.Kind = a1.Kind) && (decide (a1.At = 0) && (decide (a1.To = a1.To) && (decide (a1.Lo = 0) && (decide (a1.Hi = 0) && (decide (a1.Key = a1.Key) && (decide (a1.Value = 0) && true)))))))) (eS rfl eZ) eZ rfl rfl rfl ?_
                            refine oPickT (eS rfl (eS rfl (eS rfl eZ))) h48 eZ ?_
                            refine oMov eZ ?_
                            refine xNil ?_
                            refine TQ.qn ?_
                            refine AW.weaken (wk_mk [320, 64] (SL.cons (k := 2) eZ rfl VWk.rfl SL.nil) (BL.drop rfl (BL.drop rfl (BL.drop rfl (BL.drop rfl BL.nil)))) BK.nil) ?_
                            refine AW.ret ?_
                            refine BQ.qr ?_
                            refine TQ.qr ?_
                            obtain rfl := Option.some.inj H
                            exact endsR (RL.cons (RV.tmp eZ) (VO.flat rfl) RL.nil) List.nodup_nil
                          · refine gSkip eZ (nt h48) rfl ?_
                            refine gSkip (eS rfl eZ) (nt h48) rfl ?_
                            refine gSkip (eS rfl (eS rfl eZ)) (nt h48) rfl ?_
                            refine oPickF (eS rfl (eS rfl (eS rfl eZ))) (nt h48) eC ?_
                            refine oMov eZ ?_
                            refine xNil ?_
                            refine TQ.qn ?_
                            refine AW.weaken (wk_mk [320, 64] (SL.cons (k := 2) eZ rfl VWk.rfl SL.nil) (BL.drop rfl (BL.drop rfl (BL.drop rfl (BL.drop rfl BL.nil)))) BK.nil) ?_
                            refine AW.ret ?_
                            refine BQ.qr ?_
                            refine TQ.qr ?_
                            obtain rfl := Option.some.inj H
                            exact endsR (RL.cons (RV.tmp eZ) (VO.flat rfl) RL.nil) List.nodup_nil
                        · refine gSkip eZ (nt h45) rfl ?_
                          refine gSkip (eS rfl eZ) (nt h45) rfl ?_
                          refine gSkip (eS rfl (eS rfl eZ)) (nt h45) rfl ?_
                          refine oPickF (eS rfl (eS rfl (eS rfl eZ))) (nt h45) eC ?_
                          refine oMov eZ ?_
                          refine gSkip eZ rfl rfl ?_
                          refine gSkip (eS rfl eZ) rfl rfl ?_
                          refine gSkip (eS rfl (eS rfl eZ)) rfl rfl ?_
                          refine oPickF (eS rfl (eS rfl (eS rfl eZ))) rfl eC ?_
                          refine oMov eZ ?_
                          refine xNil ?_
                          refine TQ.qn ?_
                          refine AW.weaken (wk_mk [320, 64] (SL.cons (k := 2) eZ rfl VWk.rfl SL.nil) (BL.drop rfl (BL.drop rfl (BL.drop rfl (BL.drop rfl BL.nil)))) BK.nil) ?_
                          refine AW.ret ?_
                          refine BQ.qr ?_
                          refine TQ.qr ?_
                          obtain rfl := Option.some.inj H
                          exact endsR (RL.cons (RV.tmp eZ) (VO.flat rfl) RL.nil) List.nodup_nil
                      · refine AW.condF eZ (decide_eq_false h42) ?_
                        refine AW.seq ?_
                        refine AW.regs ?_
                        refine oEql (eS rfl (eS rfl (eS rfl (eS rfl (eS rfl (eS rfl eZ)))))) eC ?_
                        refine oMov eZ ?_
                        refine xNil ?_
                        refine TQ.qn ?_
                        rcases oite H with ⟨h49, H⟩ | ⟨h49, H⟩
                        · refine AW.condT eZ (decide_eq_true h49) ?_
                          refine AW.seq ?_
                          refine AW.regs ?_
                          refine oLoadVA (es := [(.d (.int .i64 a1.Kind)), (.d (.int .i64 a1.At)), (.d (.int .i64 a1.To)), (.d (.int .i64 a1.Lo)), (.d (.int .i64 a1.Hi)), (.d (.int .i64 a1.Key)), (.d (.int .i64 a1.Value))]) (eS rfl (eS rfl (eS rfl (eS rfl (eS rfl (eS rfl eZ)))))) bZ rfl ?_
                          refine oLoadVA (es := [(.d (.int .i64 a1.Kind)), (.d (.int .i64 0)), (.d (.int .i64 0)), (.d (.int .i64 0)), (.d (.int .i64 0)), (.d (.int .i64 0)), (.d (.int .i64 0))]) (eS rfl (eS rfl (eS rfl (eS rfl (eS rfl (eS rfl (eS rfl (eS rfl eZ)))))))) (bS rfl bZ) rfl ?_
                          refine oSeql (b := (decide (a1.Kind = a1.Kind) && (decide (a1.At = 0) && (decide (a1.To = 0) && (decide (a1.Lo = 0) && (decide (a1.Hi = 0) && (decide (a1.Key = 0) && (decide (a1.Value = 0) && true)))))))) (eS rfl eZ) eZ rfl rfl rfl ?_
                          refine oMov eZ ?_
                          refine xNil ?_
                          refine TQ.qn ?_
                          refine AW.ret ?_
                          refine BQ.qr ?_
                          refine TQ.qr ?_
                          obtain rfl := Option.some.inj H
                          exact endsR (RL.cons (RV.tmp eZ) (VO.flat rfl) RL.nil) List.nodup_nil
                        · refine AW.condF eZ (decide_eq_false h49) ?_
                          refine AW.skip ?_
                          refine BQ.qn ?_
                          refine TQ.qn ?_
                          refine AW.seq ?_
                          refine AW.regs ?_
                          refine oMov eC ?_
                          refine xNil ?_
                          refine TQ.qn ?_
                          refine AW.ret ?_
                          obtain rfl := Option.some.inj H
                          exact endsR (RL.cons (RV.tmp eZ) (VO.flat rfl) RL.nil) List.nodup_nil
                · refine AW.seq ?_
                  refine AW.regs ?_
                  refine oEql (eS rfl (eS rfl (eS rfl (eS rfl (eS rfl eZ))))) eC ?_
                  refine oMov eZ ?_
                  refine xNil ?_
                  refine TQ.qn ?_
                  rcases oite H with ⟨h50, H⟩ | ⟨h50, H⟩
                  · refine AW.condT eZ (decide_eq_true h50) ?_
                    refine AW.skip ?_
                    exact TQ.qn ⟨(decide (a1.Kind = 11)), H, (wk_mk [] (SL.cons (eS rfl (eS rfl (eS rfl (eS rfl eZ)))) rfl VWk.rfl (SL.cons (eS rfl (eS rfl (eS rfl (eS rfl (eS rfl (eS rfl eZ)))))) rfl VWk.rfl (SL.cons (eS rfl (eS rfl (eS rfl (eS rfl (eS rfl (eS rfl (eS rfl eZ))))))) rfl VWk.rfl (SL.cons eZ rfl VWk.rfl SL.nil)))) (BL.keep rfl (BL.keep rfl BL.nil)) (BK.cons rfl bZ rfl rfl (BK.cons rfl (bS rfl bZ) rfl rfl BK.nil)))⟩
                  · refine AW.condF eZ (decide_eq_false h50) ?_
                    refine AW.regs ?_
                    refine oEql (eS rfl (eS rfl (eS rfl (eS rfl (eS rfl (eS rfl (eS rfl eZ))))))) eC ?_
                    refine oMov eZ ?_
                    refine xNil ?_
                    exact TQ.qn ⟨(decide (a1.Kind = 12)), H, (wk_mk [] (SL.cons (eS rfl (eS rfl (eS rfl (eS rfl (eS rfl (eS rfl eZ)))))) rfl VWk.rfl (SL.cons (eS rfl (eS rfl (eS rfl (eS rfl (eS rfl (eS rfl (eS rfl (eS rfl eZ)))))))) rfl VWk.rfl (SL.cons (eS rfl (eS rfl (eS rfl (eS rfl (eS rfl (eS rfl (eS rfl (eS rfl (eS rfl eZ))))))))) rfl VWk.rfl (SL.cons eZ rfl VWk.rfl SL.nil)))) (BL.keep rfl (BL.keep rfl BL.nil)) (BK.cons rfl bZ rfl rfl (BK.cons rfl (bS rfl bZ) rfl rfl BK.nil)))⟩
          · refine AW.seq ?_
            refine AW.regs ?_
            refine oEql (eS rfl (eS rfl (eS rfl (eS rfl (eS rfl (eS rfl (eS rfl (eS rfl eZ)))))))) eC ?_
            refine oMov eZ ?_
            refine xNil ?_
            refine TQ.qn ?_
            rcases oite H with ⟨h51, H⟩ | ⟨h51, H⟩
            · refine AW.condT eZ (decide_eq_true h51) ?_
              refine AW.skip ?_
              exact TQ.qn ⟨(decide (a1.Kind = 7)), H, (wk_mk [] (SL.cons (eS rfl (eS rfl (eS rfl (eS rfl (eS rfl (eS rfl eZ)))))) rfl VWk.rfl (SL.cons (eS rfl (eS rfl (eS rfl (eS rfl (eS rfl (eS rfl (eS rfl (eS rfl eZ)))))))) rfl VWk.rfl (SL.cons (eS rfl (eS rfl (eS rfl (eS rfl (eS rfl (eS rfl (eS rfl (eS rfl (eS rfl eZ))))))))) rfl VWk.rfl (SL.cons (eS rfl (eS rfl (eS rfl (eS rfl (eS rfl (eS rfl (eS rfl (eS rfl (eS rfl (eS rfl eZ)))))))))) rfl VWk.rfl (SL.cons eZ rfl VWk.rfl SL.nil))))) (BL.keep rfl (BL.keep rfl BL.nil)) (BK.cons rfl bZ rfl rfl (BK.cons rfl (bS rfl bZ) rfl rfl BK.nil)))⟩
            · refine AW.condF eZ (decide_eq_false h51) ?_
              refine AW.seq ?_
              refine AW.regs ?_
              refine oEql (eS rfl (eS rfl (eS rfl (eS rfl (eS rfl (eS rfl (eS rfl (eS rfl (eS rfl (eS rfl eZ)))))))))) eC ?_
              refine oMov eZ ?_
              refine xNil ?_
              refine TQ.qn ?_
              rcases oite H with ⟨h52, H⟩ | ⟨h52, H⟩
              · refine AW.condT eZ (decide_eq_true h52) ?_
                refine AW.skip ?_
                exact TQ.qn ⟨(decide (a1.Kind = 8)), H, (wk_mk [] (SL.cons (eS rfl (eS rfl (eS rfl (eS rfl (eS rfl (eS rfl (eS rfl (eS rfl eZ)))))))) rfl VWk.rfl (SL.cons (eS rfl (eS rfl (eS rfl (eS rfl (eS rfl (eS rfl (eS rfl (eS rfl (eS rfl (eS rfl eZ)))))))))) rfl VWk.rfl (SL.cons (eS rfl (eS rfl (eS rfl (eS rfl (eS rfl (eS rfl (eS rfl (eS rfl (eS rfl (eS rfl (eS rfl eZ))))))))))) rfl VWk.rfl (SL.cons (eS rfl (eS rfl (eS rfl (eS rfl (eS rfl (eS rfl (eS rfl (eS rfl (eS rfl (eS rfl (eS rfl (eS rfl eZ)))))))))))) rfl VWk.rfl (SL.cons eZ rfl VWk.rfl SL.nil))))) (BL.keep rfl (BL.keep rfl BL.nil)) (BK.cons rfl bZ rfl rfl (BK.cons rfl (bS rfl bZ) rfl rfl BK.nil)))⟩
              · refine AW.condF eZ (decide_eq_false h52) ?_
                refine AW.regs ?_
                refine oEql (eS rfl (eS rfl (eS rfl (eS rfl (eS rfl (eS rfl (eS rfl (eS rfl (eS rfl (eS rfl (eS rfl (eS rfl eZ)))))))))))) eC ?_
                refine oMov eZ ?_
                refine xNil ?_
                exact TQ.qn ⟨(decide (a1.Kind = 9)), H, (wk_mk [] (SL.cons (eS rfl (eS rfl (eS rfl (eS rfl (eS rfl (eS rfl (eS rfl (eS rfl (eS rfl (eS rfl eZ)))))))))) rfl VWk.rfl (SL.cons (eS rfl (eS rfl (eS rfl (eS rfl (eS rfl (eS rfl (eS rfl (eS rfl (eS rfl (eS rfl (eS rfl (eS rfl eZ)))))))))))) rfl VWk.rfl (SL.cons (eS rfl (eS rfl (eS rfl (eS rfl (eS rfl (eS rfl (eS rfl (eS rfl (eS rfl (eS rfl (eS rfl (eS rfl (eS rfl eZ))))))))))))) rfl VWk.rfl (SL.cons (eS rfl (eS rfl (eS rfl (eS rfl (eS rfl (eS rfl (eS rfl (eS rfl (eS rfl (eS rfl (eS rfl (eS rfl (eS rfl (eS rfl eZ)))))))))))))) rfl VWk.rfl (SL.cons eZ rfl VWk.rfl SL.nil))))) (BL.keep rfl (BL.keep rfl BL.nil)) (BK.cons rfl bZ rfl rfl (BK.cons rfl (bS rfl bZ) rfl rfl BK.nil)))⟩
  · refine AW.seq ?_
    refine AW.regs ?_
    refine oEql eZ eC ?_
    refine oMov eZ ?_
    refine xNil ?_
    refine TQ.qn ?_
    rcases oite H with ⟨h53, H⟩ | ⟨h53, H⟩
    · refine AW.condT eZ (decide_eq_true h53) ?_
      refine AW.skip ?_
      exact TQ.qn ⟨(decide (a1.Kind = 1)), H, (wk_mk [] (SL.cons (eS rfl (eS rfl (eS rfl (eS rfl (eS rfl (eS rfl eZ)))))) rfl VWk.rfl (SL.cons (eS rfl (eS rfl (eS rfl (eS rfl (eS rfl eZ))))) rfl VWk.rfl (SL.cons (eS rfl (eS rfl (eS rfl (eS rfl eZ)))) rfl VWk.rfl (SL.cons (eS rfl (eS rfl (eS rfl eZ))) rfl VWk.rfl (SL.cons (eS rfl (eS rfl eZ)) rfl VWk.rfl (SL.cons eZ rfl VWk.rfl SL.nil)))))) (BL.keep rfl (BL.keep rfl BL.nil)) (BK.cons rfl (bS rfl bZ) rfl rfl (BK.cons rfl bZ rfl rfl BK.nil)))⟩
    · refine AW.condF eZ (decide_eq_false h53) ?_
      refine AW.seq ?_
      refine AW.regs ?_
      refine oEql (eS rfl (eS rfl eZ)) eC ?_
      refine oMov eZ ?_
      refine xNil ?_
      refine TQ.qn ?_
      rcases oite H with ⟨h54, H⟩ | ⟨h54, H⟩
      · refine AW.condT eZ (decide_eq_true h54) ?_
        refine AW.skip ?_
        exact TQ.qn ⟨(decide (a1.Kind = 4)), H, (wk_mk [] (SL.cons (eS rfl (eS rfl (eS rfl (eS rfl (eS rfl (eS rfl (eS rfl (eS rfl eZ)))))))) rfl VWk.rfl (SL.cons (eS rfl (eS rfl (eS rfl (eS rfl (eS rfl (eS rfl (eS rfl eZ))))))) rfl VWk.rfl (SL.cons (eS rfl (eS rfl (eS rfl (eS rfl (eS rfl (eS rfl eZ)))))) rfl VWk.rfl (SL.cons (eS rfl (eS rfl (eS rfl (eS rfl (eS rfl eZ))))) rfl VWk.rfl (SL.cons (eS rfl (eS rfl (eS rfl (eS rfl eZ)))) rfl VWk.rfl (SL.cons eZ rfl VWk.rfl SL.nil)))))) (BL.keep rfl (BL.keep rfl BL.nil)) (BK.cons rfl (bS rfl bZ) rfl rfl (BK.cons rfl bZ rfl rfl BK.nil)))⟩
      · refine AW.condF eZ (decide_eq_false h54) ?_
        refine AW.seq ?_
        refine AW.regs ?_
        refine oEql (eS rfl (eS rfl (eS rfl (eS rfl eZ)))) eC ?_
        refine oMov eZ ?_
        refine xNil ?_
        refine TQ.qn ?_
        rcases oite H with ⟨h55, H⟩ | ⟨h55, H⟩
        · refine AW.condT eZ (decide_eq_true h55) ?_
          refine AW.skip ?_
          exact TQ.qn ⟨(decide (a1.Kind = 5)), H, (wk_mk [] (SL.cons (eS rfl (eS rfl (eS rfl (eS rfl (eS rfl (eS rfl (eS rfl (eS rfl (eS rfl (eS rfl eZ)))))))))) rfl VWk.rfl (SL.cons (eS rfl (eS rfl (eS rfl (eS rfl (eS rfl (eS rfl (eS rfl (eS rfl (eS rfl eZ))))))))) rfl VWk.rfl (SL.cons (eS rfl (eS rfl (eS rfl (eS rfl (eS rfl (eS rfl (eS rfl (eS rfl eZ)))))))) rfl VWk.rfl (SL.cons (eS rfl (eS rfl (eS rfl (eS rfl (eS rfl (eS rfl (eS rfl eZ))))))) rfl VWk.rfl (SL.cons (eS rfl (eS rfl (eS rfl (eS rfl (eS rfl (eS rfl eZ)))))) rfl VWk.rfl (SL.cons eZ rfl VWk.rfl SL.nil)))))) (BL.keep rfl (BL.keep rfl BL.nil)) (BK.cons rfl (bS rfl bZ) rfl rfl (BK.cons rfl bZ rfl rfl BK.nil)))⟩
        · refine AW.condF eZ (decide_eq_false h55) ?_
          refine AW.regs ?_
          refine oEql (eS rfl (eS rfl (eS rfl (eS rfl (eS rfl (eS rfl eZ)))))) eC ?_
          refine oMov eZ ?_
          refine xNil ?_
          exact TQ.qn ⟨(decide (a1.Kind = 6)), H, (wk_mk [] (SL.cons (eS rfl (eS rfl (eS rfl (eS rfl (eS rfl (eS rfl (eS rfl (eS rfl (eS rfl (eS rfl (eS rfl (eS rfl eZ)))))))))))) rfl VWk.rfl (SL.cons (eS rfl (eS rfl (eS rfl (eS rfl (eS rfl (eS rfl (eS rfl (eS rfl (eS rfl (eS rfl (eS rfl eZ))))))))))) rfl VWk.rfl (SL.cons (eS rfl (eS rfl (eS rfl (eS rfl (eS rfl (eS rfl (eS rfl (eS rfl (eS rfl (eS rfl eZ)))))))))) rfl VWk.rfl (SL.cons (eS rfl (eS rfl (eS rfl (eS rfl (eS rfl (eS rfl (eS rfl (eS rfl (eS rfl eZ))))))))) rfl VWk.rfl (SL.cons (eS rfl (eS rfl (eS rfl (eS rfl (eS rfl (eS rfl (eS rfl (eS rfl eZ)))))))) rfl VWk.rfl (SL.cons eZ rfl VWk.rfl SL.nil)))))) (BL.keep rfl (BL.keep rfl BL.nil)) (BK.cons rfl (bS rfl bZ) rfl rfl (BK.cons rfl bZ rfl rfl BK.nil)))⟩

theorem c_impl_from {a1 : Int} {a2 : Int} {a3 : Int} {r : Bool} (H : m_impl_from a1 a2 a3 = some r) : Fn Try.prog k_impl_from (lent [(.int .i64 a1), (.int .i64 a2), (.int .i64 a3)]) true [(.bool r)] := by
  refine i_impl_from_fn (Nat.le_of_ble_eq_true rfl) ?_
  rw [init_mk]
  refine AW.weaken (wk_mk [] (SL.cons (v := (.one (.d (.int .i64 a1)))) eZ rfl VWk.rfl (SL.cons (v := (.one (.d (.int .i64 a2)))) (eS rfl eZ) rfl VWk.rfl (SL.cons (v := (.one (.d (.int .i64 a3)))) (eS rfl (eS rfl eZ)) rfl VWk.rfl SL.nil))) BL.nil BK.nil) ?_
  unfold m_impl_from at H
  unfold i_impl_from
  refine AW.seq ?_
  refine AW.regs ?_
  refine oMov eC ?_
  refine xNil ?_
  refine TQ.qn ?_
  refine AW.seq ?_
  refine AW.regs ?_
  refine oMov (eS rfl eZ) ?_
  refine oMov (eS rfl (eS rfl (eS rfl eZ))) ?_
  refine oGeq (eS rfl eZ) eZ ?_
  refine oMov eZ ?_
  rcases oite H with ⟨h4, H⟩ | ⟨h4, H⟩
  · refine gDo eZ (decide_eq_true h4) ?_
    refine oMov (eS rfl (eS rfl (eS rfl (eS rfl (eS rfl eZ))))) ?_
    refine gDo (eS rfl eZ) (decide_eq_true h4) ?_
    refine oMov (eS rfl (eS rfl (eS rfl (eS rfl (eS rfl (eS rfl (eS rfl (eS rfl eZ)))))))) ?_
    refine gDo (eS rfl (eS rfl eZ)) (decide_eq_true h4) ?_
    refine oLeq (eS rfl eZ) eZ ?_
    refine oPickT (eS rfl (eS rfl (eS rfl eZ))) (decide_eq_true h4) eZ ?_
    refine oMov eZ ?_
    refine xNil ?_
    refine TQ.qn ?_
    refine AW.ret ?_
    obtain rfl := Option.some.inj H
    exact endsR (RL.cons (RV.tmp eZ) (VO.flat rfl) RL.nil) List.nodup_nil
  · refine gSkip eZ (decide_eq_false h4) rfl ?_
    refine gSkip (eS rfl eZ) (decide_eq_false h4) rfl ?_
    refine gSkip (eS rfl (eS rfl eZ)) (decide_eq_false h4) rfl ?_
    refine oPickF (eS rfl (eS rfl (eS rfl eZ))) (decide_eq_false h4) eC ?_
    refine oMov eZ ?_
    refine xNil ?_
    refine TQ.qn ?_
    refine AW.ret ?_
    obtain rfl := Option.some.inj H
    exact endsR (RL.cons (RV.tmp eZ) (VO.flat rfl) RL.nil) List.nodup_nil

theorem c_impl_RangeOk {a1 : TRange} {r : Bool} (H : m_impl_RangeOk a1 = some r) : Fn Try.prog k_impl_RangeOk (lent [(.agg (d_TRange a1))]) true [(.bool r)] := by
  refine i_impl_RangeOk_fn (Nat.le_of_ble_eq_true rfl) ?_
  rw [init_mk]
  refine AW.weaken (wk_mk [] (SL.cons (v := (.agg [(.d (.int .i64 a1.Lo)), (.d (.int .i64 a1.Hi))])) eZ rfl VWk.rfl SL.nil) BL.nil BK.nil) ?_
  unfold m_impl_RangeOk at H
  unfold i_impl_RangeOk
  refine AW.seq ?_
  refine AW.regs ?_
  refine oBox (n := 64) (m := 2) (cs := [(.d (.int .i64 a1.Lo)), (.d (.int .i64 a1.Hi))]) rfl eZ rfl rfl nZ ?_
  refine oMov eC ?_
  refine xNil ?_
  refine TQ.qn ?_
  refine AW.seq ?_
  refine AW.regs ?_
  refine oFaddrN (m := 0) (eS rfl eZ) rfl ?_
  refine oLoadV (q := 0) (c := (.d (.int .i64 a1.Lo))) eZ bZ rfl rfl ?_
  refine oGeq eZ eC ?_
  refine oMov eZ ?_
  rcases oite H with ⟨h2, H⟩ | ⟨h2, H⟩
  · refine gDo eZ (decide_eq_true h2) ?_
    refine oFaddrN (m := 0) (eS rfl (eS rfl (eS rfl (eS rfl (eS rfl eZ))))) rfl ?_
    refine gDo (eS rfl eZ) (decide_eq_true h2) ?_
    refine oLoadV (q := 0) (c := (.d (.int .i64 a1.Lo))) eZ bZ rfl rfl ?_
    refine gDo (eS rfl (eS rfl eZ)) (decide_eq_true h2) ?_
    refine oFaddrN (m := 1) (eS rfl (eS rfl (eS rfl (eS rfl (eS rfl (eS rfl (eS rfl eZ))))))) rfl ?_
    refine gDo (eS rfl (eS rfl (eS rfl eZ))) (decide_eq_true h2) ?_
    refine oLoadV (q := 1) (c := (.d (.int .i64 a1.Hi))) eZ bZ rfl rfl ?_
    refine gDo (eS rfl (eS rfl (eS rfl (eS rfl eZ)))) (decide_eq_true h2) ?_
    refine oLss (eS rfl (eS rfl eZ)) eZ ?_
    refine oPickT (eS rfl (eS rfl (eS rfl (eS rfl (eS rfl eZ))))) (decide_eq_true h2) eZ ?_
    refine oMov eZ ?_
    rcases oite H with ⟨h3, H⟩ | ⟨h3, H⟩
    · refine gDo eZ (decide_eq_true h3) ?_
      refine oFaddrN (m := 1) (eS rfl (eS rfl (eS rfl (eS rfl (eS rfl (eS rfl (eS rfl (eS rfl (eS rfl (eS rfl (eS rfl (eS rfl eZ)))))))))))) rfl ?_
      refine gDo (eS rfl eZ) (decide_eq_true h3) ?_
      refine oLoadV (q := 1) (c := (.d (.int .i64 a1.Hi))) eZ bZ rfl rfl ?_
      refine gDo (eS rfl (eS rfl eZ)) (decide_eq_true h3) ?_
      refine oLeq eZ eC ?_
      refine oPickT (eS rfl (eS rfl (eS rfl eZ))) (decide_eq_true h3) eZ ?_
      refine oMov eZ ?_
      refine xNil ?_
      refine TQ.qn ?_
      refine AW.weaken (wk_mk [64] (SL.cons (k := 2) eZ rfl VWk.rfl SL.nil) (BL.drop rfl BL.nil) BK.nil) ?_
      refine AW.ret ?_
      obtain rfl := Option.some.inj H
      exact endsR (RL.cons (RV.tmp eZ) (VO.flat rfl) RL.nil) List.nodup_nil
    · refine gSkip eZ (decide_eq_false h3) rfl ?_
      refine gSkip (eS rfl eZ) (decide_eq_false h3) rfl ?_
      refine gSkip (eS rfl (eS rfl eZ)) (decide_eq_false h3) rfl ?_
      refine oPickF (eS rfl (eS rfl (eS rfl eZ))) (decide_eq_false h3) eC ?_
      refine oMov eZ ?_
      refine xNil ?_
      refine TQ.qn ?_
      refine AW.weaken (wk_mk [64] (SL.cons (k := 2) eZ rfl VWk.rfl SL.nil) (BL.drop rfl BL.nil) BK.nil) ?_
      refine AW.ret ?_
      obtain rfl := Option.some.inj H
      exact endsR (RL.cons (RV.tmp eZ) (VO.flat rfl) RL.nil) List.nodup_nil
  · refine gSkip eZ (decide_eq_false h2) rfl ?_
    refine gSkip (eS rfl eZ) (decide_eq_false h2) rfl ?_
    refine gSkip (eS rfl (eS rfl eZ)) (decide_eq_false h2) rfl ?_
    refine gSkip (eS rfl (eS rfl (eS rfl eZ))) (decide_eq_false h2) rfl ?_
    refine gSkip (eS rfl (eS rfl (eS rfl (eS rfl eZ)))) (decide_eq_false h2) rfl ?_
    refine oPickF (eS rfl (eS rfl (eS rfl (eS rfl (eS rfl eZ))))) (decide_eq_false h2) eC ?_
    refine oMov eZ ?_
    refine gSkip eZ rfl rfl ?_
    refine gSkip (eS rfl eZ) rfl rfl ?_
    refine gSkip (eS rfl (eS rfl eZ)) rfl rfl ?_
    refine oPickF (eS rfl (eS rfl (eS rfl eZ))) rfl eC ?_
    refine oMov eZ ?_
    refine xNil ?_
    refine TQ.qn ?_
    refine AW.weaken (wk_mk [64] (SL.cons (k := 2) eZ rfl VWk.rfl SL.nil) (BL.drop rfl BL.nil) BK.nil) ?_
    refine AW.ret ?_
    obtain rfl := Option.some.inj H
    exact endsR (RL.cons (RV.tmp eZ) (VO.flat rfl) RL.nil) List.nodup_nil

theorem c_impl_isKey {a1 : Int} {r : Bool} (H : m_impl_isKey a1 = some r) : Fn Try.prog k_impl_isKey (lent [(.int .i64 a1)]) true [(.bool r)] := by
  refine i_impl_isKey_fn (Nat.le_of_ble_eq_true rfl) ?_
  rw [init_mk]
  refine AW.weaken (wk_mk [] (SL.cons (v := (.one (.d (.int .i64 a1)))) eZ rfl VWk.rfl SL.nil) BL.nil BK.nil) ?_
  unfold m_impl_isKey at H
  unfold i_impl_isKey
  refine AW.seq ?_
  refine AW.regs ?_
  refine oMov eC ?_
  refine xNil ?_
  refine TQ.qn ?_
  refine AW.seq ?_
  refine AW.regs ?_
  refine oMov (eS rfl eZ) ?_
  obtain ⟨v2, h3, H⟩ := obind H
  refine oCall (u := (.one (.d (.bool v2)))) eC Cl.fn (c_impl_from h3) (Evs.cons eZ (Evs.cons eC (Evs.cons eC Evs.nil))) (VDs.cons VD.plain (VDs.cons VD.plain (VDs.cons VD.plain VDs.nil))) rfl ?_
  refine oMov eZ ?_
  refine xNil ?_
  refine TQ.qn ?_
  refine AW.ret ?_
  obtain rfl := Option.some.inj H
  exact endsR (RL.cons (RV.tmp eZ) (VO.flat rfl) RL.nil) List.nodup_nil

theorem c_impl_isAnswer {a1 : Int} {r : Bool} (H : m_impl_isAnswer a1 = some r) : Fn Try.prog k_impl_isAnswer (lent [(.int .i64 a1)]) true [(.bool r)] := by
  refine i_impl_isAnswer_fn (Nat.le_of_ble_eq_true rfl) ?_
  rw [init_mk]
  refine AW.weaken (wk_mk [] (SL.cons (v := (.one (.d (.int .i64 a1)))) eZ rfl VWk.rfl SL.nil) BL.nil BK.nil) ?_
  unfold m_impl_isAnswer at H
  unfold i_impl_isAnswer
  refine AW.seq ?_
  refine AW.regs ?_
  refine oMov eC ?_
  refine xNil ?_
  refine TQ.qn ?_
  refine AW.seq ?_
  refine AW.regs ?_
  refine oMov (eS rfl eZ) ?_
  obtain ⟨v2, h3, H⟩ := obind H
  refine oCall (u := (.one (.d (.bool v2)))) eC Cl.fn (c_impl_from h3) (Evs.cons eZ (Evs.cons eC (Evs.cons eC Evs.nil))) (VDs.cons VD.plain (VDs.cons VD.plain (VDs.cons VD.plain VDs.nil))) rfl ?_
  refine oMov eZ ?_
  refine xNil ?_
  refine TQ.qn ?_
  refine AW.ret ?_
  obtain rfl := Option.some.inj H
  exact endsR (RL.cons (RV.tmp eZ) (VO.flat rfl) RL.nil) List.nodup_nil

theorem c_impl_isTx {a1 : Int} {r : Bool} (H : m_impl_isTx a1 = some r) : Fn Try.prog k_impl_isTx (lent [(.int .i64 a1)]) true [(.bool r)] := by
  refine i_impl_isTx_fn (Nat.le_of_ble_eq_true rfl) ?_
  rw [init_mk]
  refine AW.weaken (wk_mk [] (SL.cons (v := (.one (.d (.int .i64 a1)))) eZ rfl VWk.rfl SL.nil) BL.nil BK.nil) ?_
  unfold m_impl_isTx at H
  unfold i_impl_isTx
  refine AW.seq ?_
  refine AW.regs ?_
  refine oMov eC ?_
  refine xNil ?_
  refine TQ.qn ?_
  refine AW.seq ?_
  refine AW.regs ?_
  refine oMov (eS rfl eZ) ?_
  obtain ⟨v2, h3, H⟩ := obind H
  refine oCall (u := (.one (.d (.bool v2)))) eC Cl.fn (c_impl_from h3) (Evs.cons eZ (Evs.cons eC (Evs.cons eC Evs.nil))) (VDs.cons VD.plain (VDs.cons VD.plain (VDs.cons VD.plain VDs.nil))) rfl ?_
  refine oMov eZ ?_
  refine xNil ?_
  refine TQ.qn ?_
  refine AW.ret ?_
  obtain rfl := Option.some.inj H
  exact endsR (RL.cons (RV.tmp eZ) (VO.flat rfl) RL.nil) List.nodup_nil

theorem c_impl_isGroup {a1 : Int} {r : Bool} (H : m_impl_isGroup a1 = some r) : Fn Try.prog k_impl_isGroup (lent [(.int .i64 a1)]) true [(.bool r)] := by
  refine i_impl_isGroup_fn (Nat.le_of_ble_eq_true rfl) ?_
  rw [init_mk]
  refine AW.weaken (wk_mk [] (SL.cons (v := (.one (.d (.int .i64 a1)))) eZ rfl VWk.rfl SL.nil) BL.nil BK.nil) ?_
  unfold m_impl_isGroup at H
  unfold i_impl_isGroup
  refine AW.seq ?_
  refine AW.regs ?_
  refine oMov eC ?_
  refine xNil ?_
  refine TQ.qn ?_
  refine AW.seq ?_
  refine AW.regs ?_
  refine oMov (eS rfl eZ) ?_
  obtain ⟨v2, h3, H⟩ := obind H
  refine oCall (u := (.one (.d (.bool v2)))) eC Cl.fn (c_impl_from h3) (Evs.cons eZ (Evs.cons eC (Evs.cons eC Evs.nil))) (VDs.cons VD.plain (VDs.cons VD.plain (VDs.cons VD.plain VDs.nil))) rfl ?_
  refine oMov eZ ?_
  refine xNil ?_
  refine TQ.qn ?_
  refine AW.ret ?_
  obtain rfl := Option.some.inj H
  exact endsR (RL.cons (RV.tmp eZ) (VO.flat rfl) RL.nil) List.nodup_nil

theorem c_impl_DeedOk {a1 : TDeed} {r : Bool} (H : m_impl_DeedOk a1 = some r) : Fn Try.prog k_impl_DeedOk (lent [(.agg (d_TDeed a1))]) true [(.bool r)] := by
  refine i_impl_DeedOk_fn (Nat.le_of_ble_eq_true rfl) ?_
  rw [init_mk]
  refine AW.weaken (wk_mk [] (SL.cons (v := (.agg [(.d (.int .i64 a1.Kind)), (.d (.int .i64 a1.At)), (.d (.int .i64 a1.To)), (.d (.int .i64 a1.Lo)), (.d (.int .i64 a1.Hi)), (.d (.int .i64 a1.Key)), (.d (.int .i64 a1.Value))])) eZ rfl VWk.rfl SL.nil) BL.nil BK.nil) ?_
  unfold m_impl_DeedOk at H
  unfold i_impl_DeedOk
  refine AW.seq ?_
  refine AW.regs ?_
  refine oBox (n := 64) (m := 7) (cs := [(.d (.int .i64 a1.Kind)), (.d (.int .i64 a1.At)), (.d (.int .i64 a1.To)), (.d (.int .i64 a1.Lo)), (.d (.int .i64 a1.Hi)), (.d (.int .i64 a1.Key)), (.d (.int .i64 a1.Value))]) rfl eZ rfl rfl nZ ?_
  refine oMov eC ?_
  refine xNil ?_
  refine TQ.qn ?_
  refine AW.seq ?_
  refine AW.regs ?_
  refine oLoadVA (es := [(.d (.int .i64 a1.Kind)), (.d (.int .i64 a1.At)), (.d (.int .i64 a1.To)), (.d (.int .i64 a1.Lo)), (.d (.int .i64 a1.Hi)), (.d (.int .i64 a1.Key)), (.d (.int .i64 a1.Value))]) (eS rfl eZ) bZ rfl ?_
  refine oVar (n := 192) (m := 7) rfl rfl (nS rfl nZ) ?_
  refine oStoreV (es := [(.d (.int .i64 a1.Kind)), (.d (.int .i64 a1.At)), (.d (.int .i64 a1.To)), (.d (.int .i64 a1.Lo)), (.d (.int .i64 a1.Hi)), (.d (.int .i64 a1.Key)), (.d (.int .i64 a1.Value))]) eZ (eS rfl eZ) rfl rfl bZ rfl ?_
  refine xNil ?_
  refine TQ.qn ?_
  refine AW.seq ?_
  refine AW.regs ?_
  refine oFaddrN (m := 0) eZ rfl ?_
  refine oStoreV (es := [(.d (.int .i64 0)), (.d (.int .i64 a1.At)), (.d (.int .i64 a1.To)), (.d (.int .i64 a1.Lo)), (.d (.int .i64 a1.Hi)), (.d (.int .i64 a1.Key)), (.d (.int .i64 a1.Value))]) eZ eC rfl rfl bZ rfl ?_
  refine xNil ?_
  refine TQ.qn ?_
  refine AW.seq ?_
  refine AW.regs ?_
  refine oMov eC ?_
  refine xNil ?_
  refine TQ.qn ?_
  refine AW.seqJ (fun t2 : (Bool × Int × Int × Int × Int × Int × Int) => impl_DeedOk_j2 t2 = some r) (fun t2 => mk [(3, (.one (.ptr (.nm 192 0 0)))), (4, (.one (.d (.bool t2.1))))] [(192, (.vars 7 [(.d (.int .i64 0)), (.d (.int .i64 t2.2.1)), (.d (.int .i64 t2.2.2.1)), (.d (.int .i64 t2.2.2.2.1)), (.d (.int .i64 t2.2.2.2.2.1)), (.d (.int .i64 t2.2.2.2.2.2.1)), (.d (.int .i64 t2.2.2.2.2.2.2))]))] noG) ?_ ?_
  · intro t2 H
    unfold impl_DeedOk_j2 at H
    refine AW.seq ?_
    refine AW.regs ?_
    refine oMov (eS rfl eZ) ?_
    refine oMov eZ ?_
    rcases oite H with ⟨h4, H⟩ | ⟨h4, H⟩
    · refine gDo eZ h4 ?_
      refine oLoadVA (es := [(.d (.int .i64 0)), (.d (.int .i64 t2.2.1)), (.d (.int .i64 t2.2.2.1)), (.d (.int .i64 t2.2.2.2.1)), (.d (.int .i64 t2.2.2.2.2.1)), (.d (.int .i64 t2.2.2.2.2.2.1)), (.d (.int .i64 t2.2.2.2.2.2.2))]) (eS rfl (eS rfl eZ)) bZ rfl ?_
      refine gDo (eS rfl eZ) h4 ?_
      refine oBuild (cs := [(.d (.int .i64 0)), (.d (.int .i64 0)), (.d (.int .i64 0)), (.d (.int .i64 0)), (.d (.int .i64 0)), (.d (.int .i64 0)), (.d (.int .i64 0))]) PsNil rfl ?_
      refine gDo (eS rfl (eS rfl eZ)) h4 ?_
      refine oSeql (b := (decide (0 = 0) && (decide (t2.2.1 = 0) && (decide (t2.2.2.1 = 0) && (decide (t2.2.2.2.1 = 0) && (decide (t2.2.2.2.2.1 = 0) && (decide (t2.2.2.2.2.2.1 = 0) && (decide (t2.2.2.2.2.2.2 = 0) && true)))))))) (eS rfl eZ) eZ rfl rfl rfl ?_
      refine oPickT (eS rfl (eS rfl (eS rfl eZ))) h4 eZ ?_
      refine oMov eZ ?_
      refine xNil ?_
      refine TQ.qn ?_
      refine AW.ret ?_
      obtain rfl := Option.some.inj H
      exact endsR (RL.cons (RV.tmp eZ) (VO.flat rfl) RL.nil) List.nodup_nil
    · refine gSkip eZ (nt h4) rfl ?_
      refine gSkip (eS rfl eZ) (nt h4) rfl ?_
      refine gSkip (eS rfl (eS rfl eZ)) (nt h4) rfl ?_
      refine oPickF (eS rfl (eS rfl (eS rfl eZ))) (nt h4) eC ?_
      refine oMov eZ ?_
      refine xNil ?_
      refine TQ.qn ?_
      refine AW.ret ?_
      obtain rfl := Option.some.inj H
      exact endsR (RL.cons (RV.tmp eZ) (VO.flat rfl) RL.nil) List.nodup_nil
  · refine AW.seq ?_
    refine AW.regs ?_
    refine oFaddrN (m := 0) (eS rfl (eS rfl (eS rfl (eS rfl (eS rfl eZ))))) rfl ?_
    refine oLoadV (q := 0) (c := (.d (.int .i64 a1.Kind))) eZ (bS rfl (bS rfl (bS rfl bZ))) rfl rfl ?_
    refine xNil ?_
    refine TQ.qn ?_
    refine AW.block ?_
    refine AW.seqJ (fun t5 : Bool => (impl_DeedOk_j5 a1 impl_DeedOk_j2) t5 = some r) (fun t5 => mk [(1, (.one (.ptr (.nm 64 0 0)))), (3, (.one (.ptr (.nm 192 0 0)))), (4, (.one (.d (.bool false)))), (8, (.one (.d (.int .i64 a1.Kind)))), (9, (.one (.d (.bool t5))))] [(64, (.vars 7 [(.d (.int .i64 a1.Kind)), (.d (.int .i64 a1.At)), (.d (.int .i64 a1.To)), (.d (.int .i64 a1.Lo)), (.d (.int .i64 a1.Hi)), (.d (.int .i64 a1.Key)), (.d (.int .i64 a1.Value))])), (192, (.vars 7 [(.d (.int .i64 0)), (.d (.int .i64 a1.At)), (.d (.int .i64 a1.To)), (.d (.int .i64 a1.Lo)), (.d (.int .i64 a1.Hi)), (.d (.int .i64 a1.Key)), (.d (.int .i64 a1.Value))]))] noG) ?_ ?_
    · intro t5 H
      unfold impl_DeedOk_j5 at H
      rcases oite H with ⟨h7, H⟩ | ⟨h7, H⟩
      · refine AW.condT (eS rfl (eS rfl (eS rfl (eS rfl eZ)))) h7 ?_
        refine AW.seq ?_
        refine AW.regs ?_
        refine oFaddrN (m := 1) eZ rfl ?_
        refine oLoadV (q := 1) (c := (.d (.int .i64 a1.At))) eZ bZ rfl rfl ?_
        obtain ⟨v8, h9, H⟩ := obind H
        refine oCall (u := (.one (.d (.bool v8)))) eC Cl.fn (c_impl_from h9) (Evs.cons eZ (Evs.cons eC (Evs.cons eC Evs.nil))) (VDs.cons VD.plain (VDs.cons VD.plain (VDs.cons VD.plain VDs.nil))) rfl ?_
        refine oMov eZ ?_
        refine xNil ?_
        refine TQ.qn ?_
        refine AW.regs ?_
        refine oFaddrN (m := 1) (eS rfl (eS rfl (eS rfl (eS rfl (eS rfl eZ))))) rfl ?_
        refine oStoreV (es := [(.d (.int .i64 0)), (.d (.int .i64 0)), (.d (.int .i64 a1.To)), (.d (.int .i64 a1.Lo)), (.d (.int .i64 a1.Hi)), (.d (.int .i64 a1.Key)), (.d (.int .i64 a1.Value))]) eZ eC rfl rfl (bS rfl bZ) rfl ?_
        refine xNil ?_
        refine BQ.qn ?_
        exact TQ.qn ⟨(v8, 0, a1.To, a1.Lo, a1.Hi, a1.Key, a1.Value), H, (wk_mk [64] (SL.cons (eS rfl (eS rfl (eS rfl (eS rfl (eS rfl (eS rfl eZ)))))) rfl VWk.rfl (SL.cons (eS rfl eZ) rfl VWk.rfl SL.nil)) (BL.keep rfl (BL.drop rfl (BL.keep rfl BL.nil))) (BK.cons rfl bZ rfl rfl BK.nil))⟩
      · refine AW.condF (eS rfl (eS rfl (eS rfl (eS rfl eZ)))) (nt h7) ?_
        refine AW.seq ?_
        refine AW.regs ?_
        refine oEql (eS rfl (eS rfl (eS rfl eZ))) eC ?_
        refine oMov eZ ?_
        refine xNil ?_
        refine TQ.qn ?_
        rcases oite H with ⟨h10, H⟩ | ⟨h10, H⟩
        · refine AW.condT eZ (decide_eq_true h10) ?_
          refine AW.seqJ (fun t11 : Bool => (impl_DeedOk_j11 impl_DeedOk_j2 a1) t11 = some r) (fun t11 => mk [(3, (.one (.ptr (.nm 192 0 0)))), (4, (.one (.d (.bool t11))))] [(192, (.vars 7 [(.d (.int .i64 0)), (.d (.int .i64 a1.At)), (.d (.int .i64 a1.To)), (.d (.int .i64 a1.Lo)), (.d (.int .i64 a1.Hi)), (.d (.int .i64 a1.Key)), (.d (.int .i64 a1.Value))]))] noG) ?_ ?_
          · intro t11 H
            unfold impl_DeedOk_j11 at H
            refine AW.regs ?_
            refine oFaddrN (m := 1) eZ rfl ?_
            refine oStoreV (es := [(.d (.int .i64 0)), (.d (.int .i64 0)), (.d (.int .i64 a1.To)), (.d (.int .i64 a1.Lo)), (.d (.int .i64 a1.Hi)), (.d (.int .i64 a1.Key)), (.d (.int .i64 a1.Value))]) eZ eC rfl rfl bZ rfl ?_
            refine oFaddrN (m := 3) (eS rfl eZ) rfl ?_
            refine oStoreV (es := [(.d (.int .i64 0)), (.d (.int .i64 0)), (.d (.int .i64 a1.To)), (.d (.int .i64 0)), (.d (.int .i64 a1.Hi)), (.d (.int .i64 a1.Key)), (.d (.int .i64 a1.Value))]) eZ eC rfl rfl bZ rfl ?_
            refine oFaddrN (m := 4) (eS rfl (eS rfl eZ)) rfl ?_
            refine oStoreV (es := [(.d (.int .i64 0)), (.d (.int .i64 0)), (.d (.int .i64 a1.To)), (.d (.int .i64 0)), (.d (.int .i64 0)), (.d (.int .i64 a1.Key)), (.d (.int .i64 a1.Value))]) eZ eC rfl rfl bZ rfl ?_
            refine xNil ?_
            refine BQ.qn ?_
            exact TQ.qn ⟨(t11, 0, a1.To, 0, 0, a1.Key, a1.Value), H, (wk_mk [] (SL.cons (eS rfl (eS rfl (eS rfl eZ))) rfl VWk.rfl (SL.cons (eS rfl (eS rfl (eS rfl (eS rfl eZ)))) rfl VWk.rfl SL.nil)) (BL.keep rfl (BL.keep rfl (BL.keep rfl (BL.keep rfl BL.nil)))) (BK.cons rfl bZ rfl rfl BK.nil))⟩
          · refine AW.regs ?_
            refine oFaddrN (m := 1) (eS rfl (eS rfl eZ)) rfl ?_
            refine oLoadV (q := 1) (c := (.d (.int .i64 a1.At))) eZ bZ rfl rfl ?_
            obtain ⟨v13, h14, H⟩ := obind H
            refine oCall (u := (.one (.d (.bool v13)))) eC Cl.fn (c_impl_from h14) (Evs.cons eZ (Evs.cons eC (Evs.cons eC Evs.nil))) (VDs.cons VD.plain (VDs.cons VD.plain (VDs.cons VD.plain VDs.nil))) rfl ?_
            refine oMov eZ ?_
            rcases oite H with ⟨h15, H⟩ | ⟨h15, H⟩
            · refine gDo eZ h15 ?_
              refine oFaddrN (m := 3) (eS rfl (eS rfl (eS rfl (eS rfl (eS rfl (eS rfl eZ)))))) rfl ?_
              refine gDo (eS rfl eZ) h15 ?_
              refine oLoadV (q := 3) (c := (.d (.int .i64 a1.Lo))) eZ bZ rfl rfl ?_
              refine gDo (eS rfl (eS rfl eZ)) h15 ?_
              refine oFaddrN (m := 4) (eS rfl (eS rfl (eS rfl (eS rfl (eS rfl (eS rfl (eS rfl (eS rfl eZ)))))))) rfl ?_
              refine gDo (eS rfl (eS rfl (eS rfl eZ))) h15 ?_
              refine oLoadV (q := 4) (c := (.d (.int .i64 a1.Hi))) eZ bZ rfl rfl ?_
              refine gDo (eS rfl (eS rfl (eS rfl (eS rfl eZ)))) h15 ?_
              refine oBuild (cs := [(.d (.int .i64 a1.Lo)), (.d (.int .i64 a1.Hi))]) (PsCons (eS rfl (eS rfl eZ)) (PsCons eZ PsNil)) rfl ?_
              refine gDo (eS rfl (eS rfl (eS rfl (eS rfl (eS rfl eZ))))) h15 ?_
              obtain ⟨v16, h17, H⟩ := obind H
              refine oCall (u := (.one (.d (.bool v16)))) eC Cl.fn (c_impl_RangeOk h17) (Evs.cons eZ Evs.nil) (VDs.cons (VD.agg rfl) VDs.nil) rfl ?_
              refine oPickT (eS rfl (eS rfl (eS rfl (eS rfl (eS rfl (eS rfl eZ)))))) h15 eZ ?_
              refine oMov eZ ?_
              refine xNil ?_
              exact TQ.qn ⟨v16, H, (wk_mk [64] (SL.cons (eS rfl (eS rfl (eS rfl (eS rfl (eS rfl (eS rfl (eS rfl (eS rfl (eS rfl (eS rfl (eS rfl (eS rfl (eS rfl (eS rfl (eS rfl eZ))))))))))))))) rfl VWk.rfl (SL.cons eZ rfl VWk.rfl SL.nil)) (BL.drop rfl (BL.keep rfl BL.nil)) (BK.cons rfl (bS rfl bZ) rfl rfl BK.nil))⟩
            · refine gSkip eZ (nt h15) rfl ?_
              refine gSkip (eS rfl eZ) (nt h15) rfl ?_
              refine gSkip (eS rfl (eS rfl eZ)) (nt h15) rfl ?_
              refine gSkip (eS rfl (eS rfl (eS rfl eZ))) (nt h15) rfl ?_
              refine gSkip (eS rfl (eS rfl (eS rfl (eS rfl eZ)))) (nt h15) rfl ?_
              refine gSkip (eS rfl (eS rfl (eS rfl (eS rfl (eS rfl eZ))))) (nt h15) rfl ?_
              refine oPickF (eS rfl (eS rfl (eS rfl (eS rfl (eS rfl (eS rfl eZ)))))) (nt h15) eC ?_
              refine oMov eZ ?_
              refine xNil ?_
              exact TQ.qn ⟨false, H, (wk_mk [64] (SL.cons (eS rfl (eS rfl (eS rfl (eS rfl (eS rfl (eS rfl (eS rfl (eS rfl (eS rfl (eS rfl (eS rfl (eS rfl (eS rfl (eS rfl (eS rfl eZ))))))))))))))) rfl VWk.rfl (SL.cons eZ rfl VWk.rfl SL.nil)) (BL.drop rfl (BL.keep rfl BL.nil)) (BK.cons rfl (bS rfl bZ) rfl rfl BK.nil))⟩
        · refine AW.condF eZ (decide_eq_false h10) ?_
          refine AW.seq ?_
          refine AW.regs ?_
          refine oEql (eS rfl (eS rfl (eS rfl (eS rfl (eS rfl eZ))))) eC ?_
          refine oMov eZ ?_
          refine xNil ?_
          refine TQ.qn ?_
          rcases oite H with ⟨h18, H⟩ | ⟨h18, H⟩
          · refine AW.condT eZ (decide_eq_true h18) ?_
            refine AW.seqJ (fun t19 : Bool => (impl_DeedOk_j19 impl_DeedOk_j2 a1) t19 = some r) (fun t19 => mk [(3, (.one (.ptr (.nm 192 0 0)))), (4, (.one (.d (.bool t19))))] [(192, (.vars 7 [(.d (.int .i64 0)), (.d (.int .i64 a1.At)), (.d (.int .i64 a1.To)), (.d (.int .i64 a1.Lo)), (.d (.int .i64 a1.Hi)), (.d (.int .i64 a1.Key)), (.d (.int .i64 a1.Value))]))] noG) ?_ ?_
            · intro t19 H
              unfold impl_DeedOk_j19 at H
              refine AW.regs ?_
              refine oFaddrN (m := 1) eZ rfl ?_
              refine oStoreV (es := [(.d (.int .i64 0)), (.d (.int .i64 0)), (.d (.int .i64 a1.To)), (.d (.int .i64 a1.Lo)), (.d (.int .i64 a1.Hi)), (.d (.int .i64 a1.Key)), (.d (.int .i64 a1.Value))]) eZ eC rfl rfl bZ rfl ?_
              refine oFaddrN (m := 5) (eS rfl eZ) rfl ?_
              refine oStoreV (es := [(.d (.int .i64 0)), (.d (.int .i64 0)), (.d (.int .i64 a1.To)), (.d (.int .i64 a1.Lo)), (.d (.int .i64 a1.Hi)), (.d (.int .i64 0)), (.d (.int .i64 a1.Value))]) eZ eC rfl rfl bZ rfl ?_
              refine oFaddrN (m := 6) (eS rfl (eS rfl eZ)) rfl ?_
              refine oStoreV (es := [(.d (.int .i64 0)), (.d (.int .i64 0)), (.d (.int .i64 a1.To)), (.d (.int .i64 a1.Lo)), (.d (.int .i64 a1.Hi)), (.d (.int .i64 0)), (.d (.int .i64 0))]) eZ eC rfl rfl bZ rfl ?_
              refine xNil ?_
              refine BQ.qn ?_
              exact TQ.qn ⟨(t19, 0, a1.To, a1.Lo, a1.Hi, 0, 0), H, (wk_mk [] (SL.cons (eS rfl (eS rfl (eS rfl eZ))) rfl VWk.rfl (SL.cons (eS rfl (eS rfl (eS rfl (eS rfl eZ)))) rfl VWk.rfl SL.nil)) (BL.keep rfl (BL.keep rfl (BL.keep rfl (BL.keep rfl BL.nil)))) (BK.cons rfl bZ rfl rfl BK.nil))⟩
            · refine AW.regs ?_
              refine oFaddrN (m := 1) (eS rfl (eS rfl (eS rfl (eS rfl eZ)))) rfl ?_
              refine oLoadV (q := 1) (c := (.d (.int .i64 a1.At))) eZ bZ rfl rfl ?_
              obtain ⟨v21, h22, H⟩ := obind H
              refine oCall (u := (.one (.d (.bool v21)))) eC Cl.fn (c_impl_from h22) (Evs.cons eZ (Evs.cons eC (Evs.cons eC Evs.nil))) (VDs.cons VD.plain (VDs.cons VD.plain (VDs.cons VD.plain VDs.nil))) rfl ?_
              refine oMov eZ ?_
              rcases oite H with ⟨h23, H⟩ | ⟨h23, H⟩
              · refine gDo eZ h23 ?_
                refine oFaddrN (m := 5) (eS rfl (eS rfl (eS rfl (eS rfl (eS rfl (eS rfl (eS rfl (eS rfl eZ)))))))) rfl ?_
                refine gDo (eS rfl eZ) h23 ?_
                refine oLoadV (q := 5) (c := (.d (.int .i64 a1.Key))) eZ bZ rfl rfl ?_
                refine gDo (eS rfl (eS rfl eZ)) h23 ?_
                obtain ⟨v24, h25, H⟩ := obind H
                refine oCall (u := (.one (.d (.bool v24)))) eC Cl.fn (c_impl_isKey h25) (Evs.cons eZ Evs.nil) (VDs.cons VD.plain VDs.nil) rfl ?_
                refine oPickT (eS rfl (eS rfl (eS rfl eZ))) h23 eZ ?_
                refine oMov eZ ?_
                rcases oite H with ⟨h26, H⟩ | ⟨h26, H⟩
                · refine gDo eZ h26 ?_
                  refine oFaddrN (m := 6) (eS rfl (eS rfl (eS rfl (eS rfl (eS rfl (eS rfl (eS rfl (eS rfl (eS rfl (eS rfl (eS rfl (eS rfl (eS rfl eZ))))))))))))) rfl ?_
                  refine gDo (eS rfl eZ) h26 ?_
                  refine oLoadV (q := 6) (c := (.d (.int .i64 a1.Value))) eZ bZ rfl rfl ?_
                  refine gDo (eS rfl (eS rfl eZ)) h26 ?_
                  obtain ⟨v27, h28, H⟩ := obind H
                  refine oCall (u := (.one (.d (.bool v27)))) eC Cl.fn (c_impl_isAnswer h28) (Evs.cons eZ Evs.nil) (VDs.cons VD.plain VDs.nil) rfl ?_
                  refine oPickT (eS rfl (eS rfl (eS rfl eZ))) h26 eZ ?_
                  refine oMov eZ ?_
                  refine xNil ?_
                  exact TQ.qn ⟨v27, H, (wk_mk [64] (SL.cons (eS rfl (eS rfl (eS rfl (eS rfl (eS rfl (eS rfl (eS rfl (eS rfl (eS rfl (eS rfl (eS rfl (eS rfl (eS rfl (eS rfl (eS rfl (eS rfl (eS rfl (eS rfl (eS rfl eZ))))))))))))))))))) rfl VWk.rfl (SL.cons eZ rfl VWk.rfl SL.nil)) (BL.drop rfl (BL.keep rfl BL.nil)) (BK.cons rfl (bS rfl bZ) rfl rfl BK.nil))⟩
                · refine gSkip eZ (nt h26) rfl ?_
                  refine gSkip (eS rfl eZ) (nt h26) rfl ?_
                  refine gSkip (eS rfl (eS rfl eZ)) (nt h26) rfl ?_
                  refine oPickF (eS rfl (eS rfl (eS rfl eZ))) (nt h26) eC ?_
                  refine oMov eZ ?_
                  refine xNil ?_
                  exact TQ.qn ⟨false, H, (wk_mk [64] (SL.cons (eS rfl (eS rfl (eS rfl (eS rfl (eS rfl (eS rfl (eS rfl (eS rfl (eS rfl (eS rfl (eS rfl (eS rfl (eS rfl (eS rfl (eS rfl (eS rfl (eS rfl (eS rfl (eS rfl eZ))))))))))))))))))) rfl VWk.rfl (SL.cons eZ rfl VWk.rfl SL.nil)) (BL.drop rfl (BL.keep rfl BL.nil)) (BK.cons rfl (bS rfl bZ) rfl rfl BK.nil))⟩
              · refine gSkip eZ (nt h23) rfl ?_
                refine gSkip (eS rfl eZ) (nt h23) rfl ?_
                refine gSkip (eS rfl (eS rfl eZ)) (nt h23) rfl ?_
                refine oPickF (eS rfl (eS rfl (eS rfl eZ))) (nt h23) eC ?_
                refine oMov eZ ?_
                refine gSkip eZ rfl rfl ?_
                refine gSkip (eS rfl eZ) rfl rfl ?_
                refine gSkip (eS rfl (eS rfl eZ)) rfl rfl ?_
                refine oPickF (eS rfl (eS rfl (eS rfl eZ))) rfl eC ?_
                refine oMov eZ ?_
                refine xNil ?_
                exact TQ.qn ⟨false, H, (wk_mk [64] (SL.cons (eS rfl (eS rfl (eS rfl (eS rfl (eS rfl (eS rfl (eS rfl (eS rfl (eS rfl (eS rfl (eS rfl (eS rfl (eS rfl (eS rfl (eS rfl (eS rfl (eS rfl (eS rfl (eS rfl eZ))))))))))))))))))) rfl VWk.rfl (SL.cons eZ rfl VWk.rfl SL.nil)) (BL.drop rfl (BL.keep rfl BL.nil)) (BK.cons rfl (bS rfl bZ) rfl rfl BK.nil))⟩
          · refine AW.condF eZ (decide_eq_false h18) ?_
            refine AW.seqJ (fun t29 : Bool => (impl_DeedOk_j29 a1 impl_DeedOk_j2) t29 = some r) (fun t29 => mk [(1, (.one (.ptr (.nm 64 0 0)))), (3, (.one (.ptr (.nm 192 0 0)))), (4, (.one (.d (.bool false)))), (8, (.one (.d (.int .i64 a1.Kind)))), (52, (.one (.d (.bool t29))))] [(64, (.vars 7 [(.d (.int .i64 a1.Kind)), (.d (.int .i64 a1.At)), (.d (.int .i64 a1.To)), (.d (.int .i64 a1.Lo)), (.d (.int .i64 a1.Hi)), (.d (.int .i64 a1.Key)), (.d (.int .i64 a1.Value))])), (192, (.vars 7 [(.d (.int .i64 0)), (.d (.int .i64 a1.At)), (.d (.int .i64 a1.To)), (.d (.int .i64 a1.Lo)), (.d (.int .i64 a1.Hi)), (.d (.int .i64 a1.Key)), (.d (.int .i64 a1.Value))]))] noG) ?_ ?_
            · intro t29 H
              unfold impl_DeedOk_j29 at H
              rcases oite H with ⟨h31, H⟩ | ⟨h31, H⟩
              · refine AW.condT (eS rfl (eS rfl (eS rfl (eS rfl eZ)))) h31 ?_
                refine AW.seq ?_
                refine AW.regs ?_
                refine oFaddrN (m := 1) eZ rfl ?_
                refine oLoadV (q := 1) (c := (.d (.int .i64 a1.At))) eZ bZ rfl rfl ?_
                obtain ⟨v32, h33, H⟩ := obind H
                refine oCall (u := (.one (.d (.bool v32)))) eC Cl.fn (c_impl_from h33) (Evs.cons eZ (Evs.cons eC (Evs.cons eC Evs.nil))) (VDs.cons VD.plain (VDs.cons VD.plain (VDs.cons VD.plain VDs.nil))) rfl ?_
                refine oMov eZ ?_
                refine xNil ?_
                refine TQ.qn ?_
                refine AW.regs ?_
                refine oFaddrN (m := 1) (eS rfl (eS rfl (eS rfl (eS rfl (eS rfl eZ))))) rfl ?_
                refine oStoreV (es := [(.d (.int .i64 0)), (.d (.int .i64 0)), (.d (.int .i64 a1.To)), (.d (.int .i64 a1.Lo)), (.d (.int .i64 a1.Hi)), (.d (.int .i64 a1.Key)), (.d (.int .i64 a1.Value))]) eZ eC rfl rfl (bS rfl bZ) rfl ?_
                refine xNil ?_
                refine BQ.qn ?_
                exact TQ.qn ⟨(v32, 0, a1.To, a1.Lo, a1.Hi, a1.Key, a1.Value), H, (wk_mk [64] (SL.cons (eS rfl (eS rfl (eS rfl (eS rfl (eS rfl (eS rfl eZ)))))) rfl VWk.rfl (SL.cons (eS rfl eZ) rfl VWk.rfl SL.nil)) (BL.keep rfl (BL.drop rfl (BL.keep rfl BL.nil))) (BK.cons rfl bZ rfl rfl BK.nil))⟩
              · refine AW.condF (eS rfl (eS rfl (eS rfl (eS rfl eZ)))) (nt h31) ?_
                refine AW.seq ?_
                refine AW.regs ?_
                refine oEql (eS rfl (eS rfl (eS rfl eZ))) eC ?_
                refine oMov eZ ?_
                refine xNil ?_
                refine TQ.qn ?_
                rcases oite H with ⟨h34, H⟩ | ⟨h34, H⟩
                · refine AW.condT eZ (decide_eq_true h34) ?_
                  refine AW.seqJ (fun t35 : Bool => (impl_DeedOk_j35 impl_DeedOk_j2 a1) t35 = some r) (fun t35 => mk [(3, (.one (.ptr (.nm 192 0 0)))), (4, (.one (.d (.bool t35))))] [(192, (.vars 7 [(.d (.int .i64 0)), (.d (.int .i64 a1.At)), (.d (.int .i64 a1.To)), (.d (.int .i64 a1.Lo)), (.d (.int .i64 a1.Hi)), (.d (.int .i64 a1.Key)), (.d (.int .i64 a1.Value))]))] noG) ?_ ?_
                  · intro t35 H
                    unfold impl_DeedOk_j35 at H
                    refine AW.regs ?_
                    refine oFaddrN (m := 1) eZ rfl ?_
                    refine oStoreV (es := [(.d (.int .i64 0)), (.d (.int .i64 0)), (.d (.int .i64 a1.To)), (.d (.int .i64 a1.Lo)), (.d (.int .i64 a1.Hi)), (.d (.int .i64 a1.Key)), (.d (.int .i64 a1.Value))]) eZ eC rfl rfl bZ rfl ?_
                    refine oFaddrN (m := 2) (eS rfl eZ) rfl ?_
                    refine oStoreV (es := [(.d (.int .i64 0)), (.d (.int .i64 0)), (.d (.int .i64 0)), (.d (.int .i64 a1.Lo)), (.d (.int .i64 a1.Hi)), (.d (.int .i64 a1.Key)), (.d (.int .i64 a1.Value))]) eZ eC rfl rfl bZ rfl ?_
                    refine xNil ?_
                    refine BQ.qn ?_
                    exact TQ.qn ⟨(t35, 0, 0, a1.Lo, a1.Hi, a1.Key, a1.Value), H, (wk_mk [] (SL.cons (eS rfl (eS rfl eZ)) rfl VWk.rfl (SL.cons (eS rfl (eS rfl (eS rfl eZ))) rfl VWk.rfl SL.nil)) (BL.keep rfl (BL.keep rfl (BL.keep rfl BL.nil))) (BK.cons rfl bZ rfl rfl BK.nil))⟩
                  · refine AW.regs ?_
                    refine oFaddrN (m := 1) (eS rfl (eS rfl eZ)) rfl ?_
                    refine oLoadV (q := 1) (c := (.d (.int .i64 a1.At))) eZ bZ rfl rfl ?_
                    obtain ⟨v37, h38, H⟩ := obind H
                    refine oCall (u := (.one (.d (.bool v37)))) eC Cl.fn (c_impl_from h38) (Evs.cons eZ (Evs.cons eC (Evs.cons eC Evs.nil))) (VDs.cons VD.plain (VDs.cons VD.plain (VDs.cons VD.plain VDs.nil))) rfl ?_
                    refine oMov eZ ?_
                    rcases oite H with ⟨h39, H⟩ | ⟨h39, H⟩
                    · refine gDo eZ h39 ?_
                      refine oFaddrN (m := 2) (eS rfl (eS rfl (eS rfl (eS rfl (eS rfl (eS rfl eZ)))))) rfl ?_
                      refine gDo (eS rfl eZ) h39 ?_
                      refine oLoadV (q := 2) (c := (.d (.int .i64 a1.To))) eZ bZ rfl rfl ?_
                      refine gDo (eS rfl (eS rfl eZ)) h39 ?_
                      obtain ⟨v40, h41, H⟩ := obind H
                      refine oCall (u := (.one (.d (.bool v40)))) eC Cl.fn (c_impl_from h41) (Evs.cons eZ (Evs.cons eC (Evs.cons eC Evs.nil))) (VDs.cons VD.plain (VDs.cons VD.plain (VDs.cons VD.plain VDs.nil))) rfl ?_
                      refine oPickT (eS rfl (eS rfl (eS rfl eZ))) h39 eZ ?_
                      refine oMov eZ ?_
                      refine xNil ?_
                      exact TQ.qn ⟨v40, H, (wk_mk [64] (SL.cons (eS rfl (eS rfl (eS rfl (eS rfl (eS rfl (eS rfl (eS rfl (eS rfl (eS rfl (eS rfl (eS rfl (eS rfl eZ)))))))))))) rfl VWk.rfl (SL.cons eZ rfl VWk.rfl SL.nil)) (BL.drop rfl (BL.keep rfl BL.nil)) (BK.cons rfl (bS rfl bZ) rfl rfl BK.nil))⟩
                    · refine gSkip eZ (nt h39) rfl ?_
                      refine gSkip (eS rfl eZ) (nt h39) rfl ?_
                      refine gSkip (eS rfl (eS rfl eZ)) (nt h39) rfl ?_
                      refine oPickF (eS rfl (eS rfl (eS rfl eZ))) (nt h39) eC ?_
                      refine oMov eZ ?_
                      refine xNil ?_
                      exact TQ.qn ⟨false, H, (wk_mk [64] (SL.cons (eS rfl (eS rfl (eS rfl (eS rfl (eS rfl (eS rfl (eS rfl (eS rfl (eS rfl (eS rfl (eS rfl (eS rfl eZ)))))))))))) rfl VWk.rfl (SL.cons eZ rfl VWk.rfl SL.nil)) (BL.drop rfl (BL.keep rfl BL.nil)) (BK.cons rfl (bS rfl bZ) rfl rfl BK.nil))⟩
                · refine AW.condF eZ (decide_eq_false h34) ?_
                  refine AW.seqJ (fun t42 : Bool => (impl_DeedOk_j42 a1 impl_DeedOk_j2) t42 = some r) (fun t42 => mk [(1, (.one (.ptr (.nm 64 0 0)))), (3, (.one (.ptr (.nm 192 0 0)))), (4, (.one (.d (.bool false)))), (8, (.one (.d (.int .i64 a1.Kind)))), (72, (.one (.d (.bool t42))))] [(64, (.vars 7 [(.d (.int .i64 a1.Kind)), (.d (.int .i64 a1.At)), (.d (.int .i64 a1.To)), (.d (.int .i64 a1.Lo)), (.d (.int .i64 a1.Hi)), (.d (.int .i64 a1.Key)), (.d (.int .i64 a1.Value))])), (192, (.vars 7 [(.d (.int .i64 0)), (.d (.int .i64 a1.At)), (.d (.int .i64 a1.To)), (.d (.int .i64 a1.Lo)), (.d (.int .i64 a1.Hi)), (.d (.int .i64 a1.Key)), (.d (.int .i64 a1.Value))]))] noG) ?_ ?_
                  · intro t42 H
                    unfold impl_DeedOk_j42 at H
                    rcases oite H with ⟨h44, H⟩ | ⟨h44, H⟩
                    · refine AW.condT (eS rfl (eS rfl (eS rfl (eS rfl eZ)))) h44 ?_
                      refine AW.seq ?_
                      refine AW.regs ?_
                      refine oFaddrN (m := 1) eZ rfl ?_
                      refine oLoadV (q := 1) (c := (.d (.int .i64 a1.At))) eZ bZ rfl rfl ?_
                      obtain ⟨v45, h46, H⟩ := obind H
                      refine oCall (u := (.one (.d (.bool v45)))) eC Cl.fn (c_impl_isTx h46) (Evs.cons eZ Evs.nil) (VDs.cons VD.plain VDs.nil) rfl ?_
                      refine oMov eZ ?_
                      refine xNil ?_
                      refine TQ.qn ?_
                      refine AW.regs ?_
                      refine oFaddrN (m := 1) (eS rfl (eS rfl (eS rfl (eS rfl (eS rfl eZ))))) rfl ?_
                      refine oStoreV (es := [(.d (.int .i64 0)), (.d (.int .i64 0)), (.d (.int .i64 a1.To)), (.d (.int .i64 a1.Lo)), (.d (.int .i64 a1.Hi)), (.d (.int .i64 a1.Key)), (.d (.int .i64 a1.Value))]) eZ eC rfl rfl (bS rfl bZ) rfl ?_
                      refine xNil ?_
                      refine BQ.qn ?_
                      exact TQ.qn ⟨(v45, 0, a1.To, a1.Lo, a1.Hi, a1.Key, a1.Value), H, (wk_mk [64] (SL.cons (eS rfl (eS rfl (eS rfl (eS rfl (eS rfl (eS rfl eZ)))))) rfl VWk.rfl (SL.cons (eS rfl eZ) rfl VWk.rfl SL.nil)) (BL.keep rfl (BL.drop rfl (BL.keep rfl BL.nil))) (BK.cons rfl bZ rfl rfl BK.nil))⟩
                    · refine AW.condF (eS rfl (eS rfl (eS rfl (eS rfl eZ)))) (nt h44) ?_
                      refine AW.seq ?_
                      refine AW.regs ?_
                      refine oEql (eS rfl (eS rfl (eS rfl eZ))) eC ?_
                      refine oMov eZ ?_
                      refine xNil ?_
                      refine TQ.qn ?_
                      rcases oite H with ⟨h47, H⟩ | ⟨h47, H⟩
                      · refine AW.condT eZ (decide_eq_true h47) ?_
                        refine AW.seq ?_
                        refine AW.regs ?_
                        refine oFaddrN (m := 5) (eS rfl (eS rfl eZ)) rfl ?_
                        refine oLoadV (q := 5) (c := (.d (.int .i64 a1.Key))) eZ bZ rfl rfl ?_
                        obtain ⟨v48, h49, H⟩ := obind H
                        refine oCall (u := (.one (.d (.bool v48)))) eC Cl.fn (c_impl_isKey h49) (Evs.cons eZ Evs.nil) (VDs.cons VD.plain VDs.nil) rfl ?_
                        refine oMov eZ ?_
                        refine xNil ?_
                        refine TQ.qn ?_
                        refine AW.regs ?_
                        refine oFaddrN (m := 5) (eS rfl (eS rfl (eS rfl (eS rfl (eS rfl (eS rfl (eS rfl eZ))))))) rfl ?_
                        refine oStoreV (es := [(.d (.int .i64 0)), (.d (.int .i64 a1.At)), (.d (.int .i64 a1.To)), (.d (.int .i64 a1.Lo)), (.d (.int .i64 a1.Hi)), (.d (.int .i64 0)), (.d (.int .i64 a1.Value))]) eZ eC rfl rfl (bS rfl bZ) rfl ?_
                        refine xNil ?_
                        refine BQ.qn ?_
                        exact TQ.qn ⟨(v48, a1.At, a1.To, a1.Lo, a1.Hi, 0, a1.Value), H, (wk_mk [64] (SL.cons (eS rfl (eS rfl (eS rfl (eS rfl (eS rfl (eS rfl (eS rfl (eS rfl eZ)))))))) rfl VWk.rfl (SL.cons (eS rfl eZ) rfl VWk.rfl SL.nil)) (BL.keep rfl (BL.drop rfl (BL.keep rfl BL.nil))) (BK.cons rfl bZ rfl rfl BK.nil))⟩
                      · refine AW.condF eZ (decide_eq_false h47) ?_
                        refine AW.seq ?_
                        refine AW.regs ?_
                        refine oEql (eS rfl (eS rfl (eS rfl (eS rfl (eS rfl eZ))))) eC ?_
                        refine oMov eZ ?_
                        refine xNil ?_
                        refine TQ.qn ?_
                        rcases oite H with ⟨h50, H⟩ | ⟨h50, H⟩
                        · refine AW.condT eZ (decide_eq_true h50) ?_
                          refine AW.seqJ (fun t51 : Bool => (impl_DeedOk_j51 impl_DeedOk_j2 a1) t51 = some r) (fun t51 => mk [(3, (.one (.ptr (.nm 192 0 0)))), (4, (.one (.d (.bool t51))))] [(192, (.vars 7 [(.d (.int .i64 0)), (.d (.int .i64 a1.At)), (.d (.int .i64 a1.To)), (.d (.int .i64 a1.Lo)), (.d (.int .i64 a1.Hi)), (.d (.int .i64 a1.Key)), (.d (.int .i64 a1.Value))]))] noG) ?_ ?_
                          · intro t51 H
                            unfold impl_DeedOk_j51 at H
                            refine AW.regs ?_
                            refine oFaddrN (m := 5) eZ rfl ?_
                            refine oStoreV (es := [(.d (.int .i64 0)), (.d (.int .i64 a1.At)), (.d (.int .i64 a1.To)), (.d (.int .i64 a1.Lo)), (.d (.int .i64 a1.Hi)), (.d (.int .i64 0)), (.d (.int .i64 a1.Value))]) eZ eC rfl rfl bZ rfl ?_
                            refine oFaddrN (m := 2) (eS rfl eZ) rfl ?_
                            refine oStoreV (es := [(.d (.int .i64 0)), (.d (.int .i64 a1.At)), (.d (.int .i64 0)), (.d (.int .i64 a1.Lo)), (.d (.int .i64 a1.Hi)), (.d (.int .i64 0)), (.d (.int .i64 a1.Value))]) eZ eC rfl rfl bZ rfl ?_
                            refine xNil ?_
                            refine BQ.qn ?_
                            exact TQ.qn ⟨(t51, a1.At, 0, a1.Lo, a1.Hi, 0, a1.Value), H, (wk_mk [] (SL.cons (eS rfl (eS rfl eZ)) rfl VWk.rfl (SL.cons (eS rfl (eS rfl (eS rfl eZ))) rfl VWk.rfl SL.nil)) (BL.keep rfl (BL.keep rfl (BL.keep rfl BL.nil))) (BK.cons rfl bZ rfl rfl BK.nil))⟩
                          · refine AW.regs ?_
                            refine oFaddrN (m := 5) (eS rfl (eS rfl (eS rfl (eS rfl eZ)))) rfl ?_
                            refine oLoadV (q := 5) (c := (.d (.int .i64 a1.Key))) eZ bZ rfl rfl ?_
                            obtain ⟨v53, h54, H⟩ := obind H
                            refine oCall (u := (.one (.d (.bool v53)))) eC Cl.fn (c_impl_isKey h54) (Evs.cons eZ Evs.nil) (VDs.cons VD.plain VDs.nil) rfl ?_
                            refine oMov eZ ?_
                            rcases oite H with ⟨h55, H⟩ | ⟨h55, H⟩
                            · refine gDo eZ h55 ?_
                              refine oFaddrN (m := 2) (eS rfl (eS rfl (eS rfl (eS rfl (eS rfl (eS rfl (eS rfl (eS rfl eZ)))))))) rfl ?_
                              refine gDo (eS rfl eZ) h55 ?_
                              refine oLoadV (q := 2) (c := (.d (.int .i64 a1.To))) eZ bZ rfl rfl ?_
                              refine gDo (eS rfl (eS rfl eZ)) h55 ?_
                              obtain ⟨v56, h57, H⟩ := obind H
                              refine oCall (u := (.one (.d (.bool v56)))) eC Cl.fn (c_impl_isGroup h57) (Evs.cons eZ Evs.nil) (VDs.cons VD.plain VDs.nil) rfl ?_
                              refine oPickT (eS rfl (eS rfl (eS rfl eZ))) h55 eZ ?_
                              refine oMov eZ ?_
                              refine xNil ?_
                              exact TQ.qn ⟨v56, H, (wk_mk [64] (SL.cons (eS rfl (eS rfl (eS rfl (eS rfl (eS rfl (eS rfl (eS rfl (eS rfl (eS rfl (eS rfl (eS rfl (eS rfl (eS rfl (eS rfl eZ)))))))))))))) rfl VWk.rfl (SL.cons eZ rfl VWk.rfl SL.nil)) (BL.drop rfl (BL.keep rfl BL.nil)) (BK.cons rfl (bS rfl bZ) rfl rfl BK.nil))⟩
                            · refine gSkip eZ (nt h55) rfl ?_
                              refine gSkip (eS rfl eZ) (nt h55) rfl ?_
                              refine gSkip (eS rfl (eS rfl eZ)) (nt h55) rfl ?_
                              refine oPickF (eS rfl (eS rfl (eS rfl eZ))) (nt h55) eC ?_
                              refine oMov eZ ?_
                              refine xNil ?_
                              exact TQ.qn ⟨false, H, (wk_mk [64] (SL.cons (eS rfl (eS rfl (eS rfl (eS rfl (eS rfl (eS rfl (eS rfl (eS rfl (eS rfl (eS rfl (eS rfl (eS rfl (eS rfl (eS rfl eZ)))))))))))))) rfl VWk.rfl (SL.cons eZ rfl VWk.rfl SL.nil)) (BL.drop rfl (BL.keep rfl BL.nil)) (BK.cons rfl (bS rfl bZ) rfl rfl BK.nil))⟩
                        · refine AW.condF eZ (decide_eq_false h50) ?_
                          refine AW.seq ?_
                          refine AW.regs ?_
                          refine oEql (eS rfl (eS rfl (eS rfl (eS rfl (eS rfl (eS rfl (eS rfl eZ))))))) eC ?_
                          refine oMov eZ ?_
                          refine xNil ?_
                          refine TQ.qn ?_
                          rcases oite H with ⟨h58, H⟩ | ⟨h58, H⟩
                          · refine AW.condT eZ (decide_eq_true h58) ?_
                            refine AW.regs ?_
                            refine oMov eC ?_
                            refine xNil ?_
                            refine BQ.qn ?_
                            exact TQ.qn ⟨(true, a1.At, a1.To, a1.Lo, a1.Hi, a1.Key, a1.Value), H, (wk_mk [64] (SL.cons (eS rfl (eS rfl (eS rfl (eS rfl (eS rfl (eS rfl (eS rfl (eS rfl eZ)))))))) rfl VWk.rfl (SL.cons eZ rfl VWk.rfl SL.nil)) (BL.drop rfl (BL.keep rfl BL.nil)) (BK.cons rfl (bS rfl bZ) rfl rfl BK.nil))⟩
                          · refine AW.condF eZ (decide_eq_false h58) ?_
                            refine AW.skip ?_
                            refine BQ.qn ?_
                            exact TQ.qn ⟨(false, a1.At, a1.To, a1.Lo, a1.Hi, a1.Key, a1.Value), H, (wk_mk [64] (SL.cons (eS rfl (eS rfl (eS rfl (eS rfl (eS rfl (eS rfl (eS rfl eZ))))))) rfl VWk.rfl (SL.cons (eS rfl (eS rfl (eS rfl (eS rfl (eS rfl (eS rfl (eS rfl (eS rfl eZ)))))))) rfl VWk.rfl SL.nil)) (BL.drop rfl (BL.keep rfl BL.nil)) (BK.cons rfl (bS rfl bZ) rfl rfl BK.nil))⟩
                  · refine AW.seq ?_
                    refine AW.regs ?_
                    refine oEql (eS rfl (eS rfl (eS rfl (eS rfl (eS rfl eZ))))) eC ?_
                    refine oMov eZ ?_
                    refine xNil ?_
                    refine TQ.qn ?_
                    rcases oite H with ⟨h59, H⟩ | ⟨h59, H⟩
                    · refine AW.condT eZ (decide_eq_true h59) ?_
                      refine AW.skip ?_
                      exact TQ.qn ⟨(decide (a1.Kind = 11)), H, (wk_mk [] (SL.cons (eS rfl (eS rfl (eS rfl (eS rfl eZ)))) rfl VWk.rfl (SL.cons (eS rfl (eS rfl (eS rfl (eS rfl (eS rfl eZ))))) rfl VWk.rfl (SL.cons (eS rfl (eS rfl (eS rfl (eS rfl (eS rfl (eS rfl eZ)))))) rfl VWk.rfl (SL.cons (eS rfl (eS rfl (eS rfl (eS rfl (eS rfl (eS rfl (eS rfl eZ))))))) rfl VWk.rfl (SL.cons eZ rfl VWk.rfl SL.nil))))) (BL.keep rfl (BL.keep rfl BL.nil)) (BK.cons rfl bZ rfl rfl (BK.cons rfl (bS rfl bZ) rfl rfl BK.nil)))⟩
                    · refine AW.condF eZ (decide_eq_false h59) ?_
                      refine AW.regs ?_
                      refine oEql (eS rfl (eS rfl (eS rfl (eS rfl (eS rfl (eS rfl (eS rfl eZ))))))) eC ?_
                      refine oMov eZ ?_
                      refine xNil ?_
                      exact TQ.qn ⟨(decide (a1.Kind = 12)), H, (wk_mk [] (SL.cons (eS rfl (eS rfl (eS rfl (eS rfl (eS rfl (eS rfl eZ)))))) rfl VWk.rfl (SL.cons (eS rfl (eS rfl (eS rfl (eS rfl (eS rfl (eS rfl (eS rfl eZ))))))) rfl VWk.rfl (SL.cons (eS rfl (eS rfl (eS rfl (eS rfl (eS rfl (eS rfl (eS rfl (eS rfl eZ)))))))) rfl VWk.rfl (SL.cons (eS rfl (eS rfl (eS rfl (eS rfl (eS rfl (eS rfl (eS rfl (eS rfl (eS rfl eZ))))))))) rfl VWk.rfl (SL.cons eZ rfl VWk.rfl SL.nil))))) (BL.keep rfl (BL.keep rfl BL.nil)) (BK.cons rfl bZ rfl rfl (BK.cons rfl (bS rfl bZ) rfl rfl BK.nil)))⟩
            · refine AW.seq ?_
              refine AW.regs ?_
              refine oEql (eS rfl (eS rfl (eS rfl (eS rfl (eS rfl (eS rfl (eS rfl eZ))))))) eC ?_
              refine oMov eZ ?_
              refine xNil ?_
              refine TQ.qn ?_
              rcases oite H with ⟨h60, H⟩ | ⟨h60, H⟩
              · refine AW.condT eZ (decide_eq_true h60) ?_
                refine AW.skip ?_
                exact TQ.qn ⟨(decide (a1.Kind = 7)), H, (wk_mk [] (SL.cons (eS rfl (eS rfl (eS rfl (eS rfl (eS rfl (eS rfl eZ)))))) rfl VWk.rfl (SL.cons (eS rfl (eS rfl (eS rfl (eS rfl (eS rfl (eS rfl (eS rfl eZ))))))) rfl VWk.rfl (SL.cons (eS rfl (eS rfl (eS rfl (eS rfl (eS rfl (eS rfl (eS rfl (eS rfl eZ)))))))) rfl VWk.rfl (SL.cons (eS rfl (eS rfl (eS rfl (eS rfl (eS rfl (eS rfl (eS rfl (eS rfl (eS rfl eZ))))))))) rfl VWk.rfl (SL.cons eZ rfl VWk.rfl SL.nil))))) (BL.keep rfl (BL.keep rfl BL.nil)) (BK.cons rfl bZ rfl rfl (BK.cons rfl (bS rfl bZ) rfl rfl BK.nil)))⟩
              · refine AW.condF eZ (decide_eq_false h60) ?_
                refine AW.seq ?_
                refine AW.regs ?_
                refine oEql (eS rfl (eS rfl (eS rfl (eS rfl (eS rfl (eS rfl (eS rfl (eS rfl (eS rfl eZ))))))))) eC ?_
                refine oMov eZ ?_
                refine xNil ?_
                refine TQ.qn ?_
                rcases oite H with ⟨h61, H⟩ | ⟨h61, H⟩
                · refine AW.condT eZ (decide_eq_true h61) ?_
                  refine AW.skip ?_
                  exact TQ.qn ⟨(decide (a1.Kind = 8)), H, (wk_mk [] (SL.cons (eS rfl (eS rfl (eS rfl (eS rfl (eS rfl (eS rfl (eS rfl (eS rfl eZ)))))))) rfl VWk.rfl (SL.cons (eS rfl (eS rfl (eS rfl (eS rfl (eS rfl (eS rfl (eS rfl (eS rfl (eS rfl eZ))))))))) rfl VWk.rfl (SL.cons (eS rfl (eS rfl (eS rfl (eS rfl (eS rfl (eS rfl (eS rfl (eS rfl (eS rfl (eS rfl eZ)))))))))) rfl VWk.rfl (SL.cons (eS rfl (eS rfl (eS rfl (eS rfl (eS rfl (eS rfl (eS rfl (eS rfl (eS rfl (eS rfl (eS rfl eZ))))))))))) rfl VWk.rfl (SL.cons eZ rfl VWk.rfl SL.nil))))) (BL.keep rfl (BL.keep rfl BL.nil)) (BK.cons rfl bZ rfl rfl (BK.cons rfl (bS rfl bZ) rfl rfl BK.nil)))⟩
                · refine AW.condF eZ (decide_eq_false h61) ?_
                  refine AW.regs ?_
                  refine oEql (eS rfl (eS rfl (eS rfl (eS rfl (eS rfl (eS rfl (eS rfl (eS rfl (eS rfl (eS rfl (eS rfl eZ))))))))))) eC ?_
                  refine oMov eZ ?_
                  refine xNil ?_
                  exact TQ.qn ⟨(decide (a1.Kind = 9)), H, (wk_mk [] (SL.cons (eS rfl (eS rfl (eS rfl (eS rfl (eS rfl (eS rfl (eS rfl (eS rfl (eS rfl (eS rfl eZ)))))))))) rfl VWk.rfl (SL.cons (eS rfl (eS rfl (eS rfl (eS rfl (eS rfl (eS rfl (eS rfl (eS rfl (eS rfl (eS rfl (eS rfl eZ))))))))))) rfl VWk.rfl (SL.cons (eS rfl (eS rfl (eS rfl (eS rfl (eS rfl (eS rfl (eS rfl (eS rfl (eS rfl (eS rfl (eS rfl (eS rfl eZ)))))))))))) rfl VWk.rfl (SL.cons (eS rfl (eS rfl (eS rfl (eS rfl (eS rfl (eS rfl (eS rfl (eS rfl (eS rfl (eS rfl (eS rfl (eS rfl (eS rfl eZ))))))))))))) rfl VWk.rfl (SL.cons eZ rfl VWk.rfl SL.nil))))) (BL.keep rfl (BL.keep rfl BL.nil)) (BK.cons rfl bZ rfl rfl (BK.cons rfl (bS rfl bZ) rfl rfl BK.nil)))⟩
    · refine AW.seq ?_
      refine AW.regs ?_
      refine oEql eZ eC ?_
      refine oMov eZ ?_
      refine xNil ?_
      refine TQ.qn ?_
      rcases oite H with ⟨h62, H⟩ | ⟨h62, H⟩
      · refine AW.condT eZ (decide_eq_true h62) ?_
        refine AW.skip ?_
        exact TQ.qn ⟨(decide (a1.Kind = 1)), H, (wk_mk [] (SL.cons (eS rfl (eS rfl (eS rfl (eS rfl (eS rfl (eS rfl (eS rfl (eS rfl (eS rfl eZ))))))))) rfl VWk.rfl (SL.cons (eS rfl (eS rfl (eS rfl (eS rfl (eS rfl (eS rfl eZ)))))) rfl VWk.rfl (SL.cons (eS rfl (eS rfl (eS rfl (eS rfl eZ)))) rfl VWk.rfl (SL.cons (eS rfl (eS rfl eZ)) rfl VWk.rfl (SL.cons eZ rfl VWk.rfl SL.nil))))) (BL.keep rfl (BL.keep rfl (BL.keep rfl (BL.keep rfl BL.nil)))) (BK.cons rfl (bS rfl (bS rfl (bS rfl bZ))) rfl rfl (BK.cons rfl bZ rfl rfl BK.nil)))⟩
      · refine AW.condF eZ (decide_eq_false h62) ?_
        refine AW.seq ?_
        refine AW.regs ?_
        refine oEql (eS rfl (eS rfl eZ)) eC ?_
        refine oMov eZ ?_
        refine xNil ?_
        refine TQ.qn ?_
        rcases oite H with ⟨h63, H⟩ | ⟨h63, H⟩
        · refine AW.condT eZ (decide_eq_true h63) ?_
          refine AW.skip ?_
          exact TQ.qn ⟨(decide (a1.Kind = 4)), H, (wk_mk [] (SL.cons (eS rfl (eS rfl (eS rfl (eS rfl (eS rfl (eS rfl (eS rfl (eS rfl (eS rfl (eS rfl (eS rfl eZ))))))))))) rfl VWk.rfl (SL.cons (eS rfl (eS rfl (eS rfl (eS rfl (eS rfl (eS rfl (eS rfl (eS rfl eZ)))))))) rfl VWk.rfl (SL.cons (eS rfl (eS rfl (eS rfl (eS rfl (eS rfl (eS rfl eZ)))))) rfl VWk.rfl (SL.cons (eS rfl (eS rfl (eS rfl (eS rfl eZ)))) rfl VWk.rfl (SL.cons eZ rfl VWk.rfl SL.nil))))) (BL.keep rfl (BL.keep rfl (BL.keep rfl (BL.keep rfl BL.nil)))) (BK.cons rfl (bS rfl (bS rfl (bS rfl bZ))) rfl rfl (BK.cons rfl bZ rfl rfl BK.nil)))⟩
        · refine AW.condF eZ (decide_eq_false h63) ?_
          refine AW.seq ?_
          refine AW.regs ?_
          refine oEql (eS rfl (eS rfl (eS rfl (eS rfl eZ)))) eC ?_
          refine oMov eZ ?_
          refine xNil ?_
          refine TQ.qn ?_
          rcases oite H with ⟨h64, H⟩ | ⟨h64, H⟩
          · refine AW.condT eZ (decide_eq_true h64) ?_
            refine AW.skip ?_
            exact TQ.qn ⟨(decide (a1.Kind = 5)), H, (wk_mk [] (SL.cons (eS rfl (eS rfl (eS rfl (eS rfl (eS rfl (eS rfl (eS rfl (eS rfl (eS rfl (eS rfl (eS rfl (eS rfl (eS rfl eZ))))))))))))) rfl VWk.rfl (SL.cons (eS rfl (eS rfl (eS rfl (eS rfl (eS rfl (eS rfl (eS rfl (eS rfl (eS rfl (eS rfl eZ)))))))))) rfl VWk.rfl (SL.cons (eS rfl (eS rfl (eS rfl (eS rfl (eS rfl (eS rfl (eS rfl (eS rfl eZ)))))))) rfl VWk.rfl (SL.cons (eS rfl (eS rfl (eS rfl (eS rfl (eS rfl (eS rfl eZ)))))) rfl VWk.rfl (SL.cons eZ rfl VWk.rfl SL.nil))))) (BL.keep rfl (BL.keep rfl (BL.keep rfl (BL.keep rfl BL.nil)))) (BK.cons rfl (bS rfl (bS rfl (bS rfl bZ))) rfl rfl (BK.cons rfl bZ rfl rfl BK.nil)))⟩
          · refine AW.condF eZ (decide_eq_false h64) ?_
            refine AW.regs ?_
            refine oEql (eS rfl (eS rfl (eS rfl (eS rfl (eS rfl (eS rfl eZ)))))) eC ?_
            refine oMov eZ ?_
            refine xNil ?_
            exact TQ.qn ⟨(decide (a1.Kind = 6)), H, (wk_mk [] (SL.cons (eS rfl (eS rfl (eS rfl (eS rfl (eS rfl (eS rfl (eS rfl (eS rfl (eS rfl (eS rfl (eS rfl (eS rfl (eS rfl (eS rfl (eS rfl eZ))))))))))))))) rfl VWk.rfl (SL.cons (eS rfl (eS rfl (eS rfl (eS rfl (eS rfl (eS rfl (eS rfl (eS rfl (eS rfl (eS rfl (eS rfl (eS rfl eZ)))))))))))) rfl VWk.rfl (SL.cons (eS rfl (eS rfl (eS rfl (eS rfl (eS rfl (eS rfl (eS rfl (eS rfl (eS rfl (eS rfl eZ)))))))))) rfl VWk.rfl (SL.cons (eS rfl (eS rfl (eS rfl (eS rfl (eS rfl (eS rfl (eS rfl (eS rfl eZ)))))))) rfl VWk.rfl (SL.cons eZ rfl VWk.rfl SL.nil))))) (BL.keep rfl (BL.keep rfl (BL.keep rfl (BL.keep rfl BL.nil)))) (BK.cons rfl (bS rfl (bS rfl (bS rfl bZ))) rfl rfl (BK.cons rfl bZ rfl rfl BK.nil)))⟩

theorem c_laws_FnExactDeedOk {a1 : TDeed} {r : Bool} (H : m_laws_FnExactDeedOk a1 = some r) : Fn Try.prog k_laws_FnExactDeedOk (lent [(.agg (d_TDeed a1))]) true [(.bool r)] := by
  refine i_laws_FnExactDeedOk_fn (Nat.le_of_ble_eq_true rfl) ?_
  rw [init_mk]
  refine AW.weaken (wk_mk [] (SL.cons (v := (.agg [(.d (.int .i64 a1.Kind)), (.d (.int .i64 a1.At)), (.d (.int .i64 a1.To)), (.d (.int .i64 a1.Lo)), (.d (.int .i64 a1.Hi)), (.d (.int .i64 a1.Key)), (.d (.int .i64 a1.Value))])) eZ rfl VWk.rfl SL.nil) BL.nil BK.nil) ?_
  unfold m_laws_FnExactDeedOk at H
  unfold i_laws_FnExactDeedOk
  refine AW.seq ?_
  refine AW.regs ?_
  refine oBox (n := 64) (m := 7) (cs := [(.d (.int .i64 a1.Kind)), (.d (.int .i64 a1.At)), (.d (.int .i64 a1.To)), (.d (.int .i64 a1.Lo)), (.d (.int .i64 a1.Hi)), (.d (.int .i64 a1.Key)), (.d (.int .i64 a1.Value))]) rfl eZ rfl rfl nZ ?_
  refine oMov eC ?_
  refine xNil ?_
  refine TQ.qn ?_
  refine AW.seq ?_
  refine AW.regs ?_
  refine oLoadVA (es := [(.d (.int .i64 a1.Kind)), (.d (.int .i64 a1.At)), (.d (.int .i64 a1.To)), (.d (.int .i64 a1.Lo)), (.d (.int .i64 a1.Hi)), (.d (.int .i64 a1.Key)), (.d (.int .i64 a1.Value))]) (eS rfl eZ) bZ rfl ?_
  obtain ⟨v2, h3, H⟩ := obind H
  refine oCall (u := (.agg [(.d (.int .i64 v2.Kind)), (.d (.int .i64 v2.At)), (.d (.int .i64 v2.To)), (.d (.int .i64 v2.Lo)), (.d (.int .i64 v2.Hi)), (.d (.int .i64 v2.Key)), (.d (.int .i64 v2.Value))])) eC Cl.fn (c_laws_toDeed h3) (Evs.cons eZ Evs.nil) (VDs.cons (VD.agg rfl) VDs.nil) rfl ?_
  obtain ⟨v4, h5, H⟩ := obind H
  refine oCall (u := (.one (.d (.bool v4)))) eC Cl.fn (c_spec_DeedOk h5) (Evs.cons eZ Evs.nil) (VDs.cons (VD.agg rfl) VDs.nil) rfl ?_
  refine oMov eZ ?_
  refine xNil ?_
  refine TQ.qn ?_
  refine AW.seq ?_
  refine AW.regs ?_
  refine oLoadVA (es := [(.d (.int .i64 a1.Kind)), (.d (.int .i64 a1.At)), (.d (.int .i64 a1.To)), (.d (.int .i64 a1.Lo)), (.d (.int .i64 a1.Hi)), (.d (.int .i64 a1.Key)), (.d (.int .i64 a1.Value))]) (eS rfl (eS rfl (eS rfl (eS rfl (eS rfl eZ))))) bZ rfl ?_
  obtain ⟨v6, h7, H⟩ := obind H
  refine oCall (u := (.agg [(.d (.int .i64 v6.Kind)), (.d (.int .i64 v6.At)), (.d (.int .i64 v6.To)), (.d (.int .i64 v6.Lo)), (.d (.int .i64 v6.Hi)), (.d (.int .i64 v6.Key)), (.d (.int .i64 v6.Value))])) eC Cl.fn (c_laws_toDeed h7) (Evs.cons eZ Evs.nil) (VDs.cons (VD.agg rfl) VDs.nil) rfl ?_
  obtain ⟨v8, h9, H⟩ := obind H
  refine oCall (u := (.one (.d (.bool v8)))) eC Cl.fn (c_impl_DeedOk h9) (Evs.cons eZ Evs.nil) (VDs.cons (VD.agg rfl) VDs.nil) rfl ?_
  refine oMov eZ ?_
  refine xNil ?_
  refine TQ.qn ?_
  refine AW.seq ?_
  refine AW.seq ?_
  refine AW.regs ?_
  refine oMov eZ ?_
  refine oMov (eS rfl (eS rfl (eS rfl (eS rfl (eS rfl eZ))))) ?_
  refine oBne (eS rfl eZ) eZ ?_
  refine xNil ?_
  refine TQ.qn ?_
  rcases oite H with ⟨h10, H⟩ | ⟨h10, H⟩
  · refine AW.condT eZ h10 ?_
    refine AW.seq ?_
    refine AW.regs ?_
    refine oMov eC ?_
    refine xNil ?_
    refine TQ.qn ?_
    refine AW.ret ?_
    refine TQ.qr ?_
    obtain rfl := Option.some.inj H
    exact endsR (RL.cons (RV.tmp eZ) (VO.flat rfl) RL.nil) List.nodup_nil
  · refine AW.condF eZ (nt h10) ?_
    refine AW.skip ?_
    refine TQ.qn ?_
    refine AW.seq ?_
    refine AW.regs ?_
    refine oMov eC ?_
    refine xNil ?_
    refine TQ.qn ?_
    refine AW.ret ?_
    obtain rfl := Option.some.inj H
    exact endsR (RL.cons (RV.tmp eZ) (VO.flat rfl) RL.nil) List.nodup_nil

end Go.AW
