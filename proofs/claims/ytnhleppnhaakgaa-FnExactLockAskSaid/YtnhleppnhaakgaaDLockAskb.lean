/- That functions of the program compute what the plain functions say: printed by a program of the prover's own (tool/dec.py). Conditions: each theorem's own. -/
import Derived.Test.YtnhleppnhaakgaaMLockAsk
import Derived.Test.YtnhleppnhaakgaaGLockAsk
import Derived.Test.YtnhleppnhaakgaaDLockAska
set_option linter.unusedVariables false
set_option linter.unusedSimpArgs false
set_option maxRecDepth 100000
namespace Go.AW
open Go.Proofs

theorem c_impl_clashing {a1 : (List TLock)} {a2 : (List Int)} {a3 : TLock} {r : ((List Int) × (List Int))} (H : m_impl_clashing a1 a2 a3 = some r) : Fn Try.prog k_impl_clashing (lent [(.sl 4 (List.map d_TLock a1)), (.sl 1 (List.map d_i64 a2)), (.agg (d_TLock a3))]) true [(.sl 1 (List.map d_i64 r.1)), (.sl 1 (List.map d_i64 r.2))] := by
  refine i_impl_clashing_fn (Nat.le_of_ble_eq_true rfl) ?_
  rw [init_mk]
  refine AW.weaken (t := mk [(0, (.one (.d (.sl 4 (List.map d_TLock a1))))), (1, (.one (.d (.sl 1 (List.map d_i64 a2))))), (2, (.agg [(.d (.int .i64 a3.Tx)), (.d (.int .i64 a3.Lo)), (.d (.int .i64 a3.Hi)), (.d (.int .i64 a3.Mode))]))] [] (lk [])) (wk_mk [] (SL.cons (v := (.one (.d (.sl 4 (List.map d_TLock a1))))) eZ rfl VWk.rfl (SL.cons (v := (.one (.d (.sl 1 (List.map d_i64 a2))))) (eS rfl eZ) rfl VWk.rfl (SL.cons (v := (.agg [(.d (.int .i64 a3.Tx)), (.d (.int .i64 a3.Lo)), (.d (.int .i64 a3.Hi)), (.d (.int .i64 a3.Mode))])) (eS rfl (eS rfl eZ)) rfl VWk.rfl SL.nil))) BL.nil BK.nil) ?_
  unfold m_impl_clashing at H
  unfold i_impl_clashing
  refine AW.seq ?_
  refine AW.regs ?_
  refine oBox (n := 320) (m := 4) (cs := [(.d (.int .i64 a3.Tx)), (.d (.int .i64 a3.Lo)), (.d (.int .i64 a3.Hi)), (.d (.int .i64 a3.Mode))]) rfl (eR rfl) rfl rfl nZ ?_
  refine oMov eC ?_
  refine oMov eC ?_
  refine xNil ?_
  refine TQ.qn ?_
  refine AW.seq ?_
  refine AW.regs ?_
  refine oBsliceZ (m := 768) rfl (nS rfl nZ) ?_
  refine oBsliceZ (m := 832) rfl (nS rfl nZ) ?_
  refine oMov (eS rfl eZ) ?_
  refine oMov (eS rfl eZ) ?_
  refine xNil ?_
  refine TQ.qn ?_
  refine AW.seqJ (fun t4 : ((List Int) × (List Int)) => impl_clashing_j4 t4 = some r) (fun t4 => mk [(8, (.one (.sl 320192 0 t4.1.length))), (9, (.one (.sl 320256 0 t4.2.length)))] [(320192, (.data 1 (List.map d_i64 t4.1) true none)), (320256, (.data 1 (List.map d_i64 t4.2) true none))] (lk [])) ?_ ?_
  · intro t4 H
    unfold impl_clashing_j4 at H
    refine AW.seq ?_
    refine AW.regs ?_
    refine oMov eZ ?_
    refine oMov (eR rfl) ?_
    refine oMov (eS rfl eZ) ?_
    refine oMov (eS rfl eZ) ?_
    refine xNil ?_
    refine TQ.qn ?_
    refine AW.ret ?_
    obtain rfl := Option.some.inj H
    exact endsR (RL.cons (RV.tmp (eS rfl eZ)) (VO.sl bZ (List.length_map _) (allFlat fun _ => rfl)) (RL.cons (RV.tmp eZ) (VO.sl (bS rfl bZ) (List.length_map _) (allFlat fun _ => rfl)) RL.nil)) (by decide)
  · refine AW.seq ?_
    refine AW.regs ?_
    refine oMov (eR rfl) ?_
    refine oLenD eZ (n := a1.length) (List.length_map _) ?_
    refine oMov eC ?_
    refine xNil ?_
    refine TQ.qn ?_
    refine AW.block ?_
    refine AW.iter (fun s6 : ((List Int) × (List Int) × Int) => mk [(1, (.one (.d (.sl 1 (List.map d_i64 a2))))), (5, (.one (.ptr (.nm 320 0 0)))), (8, (.one (.sl 320320 0 s6.1.length))), (9, (.one (.sl 320384 0 s6.2.1.length))), (14, (.one (.d (.sl 4 (List.map d_TLock a1))))), (15, (.one (.d (.int .i64 (a1.length : Int))))), (16, (.one (.d (.int .i64 s6.2.2))))] [(320320, (.data 1 (List.map d_i64 s6.1) true none)), (320384, (.data 1 (List.map d_i64 s6.2.1) true none)), (320, (.vars 4 [(.d (.int .i64 a3.Tx)), (.d (.int .i64 a3.Lo)), (.d (.int .i64 a3.Hi)), (.d (.int .i64 a3.Mode))]))] (lk [])) H (((wk_mkG [] (SL.cons (eR rfl) rfl VWk.rfl (SL.cons (eR rfl) rfl VWk.rfl (SL.cons (eS rfl eZ) rfl (VWk.one (CWk.len (by first | (simp; done) | (simp; omega) | omega))) (SL.cons eZ rfl (VWk.one (CWk.len (by first | (simp; done) | (simp; omega) | omega))) (SL.cons (eR rfl) rfl VWk.rfl (SL.cons (eR rfl) rfl VWk.rfl (SL.cons (eR rfl) rfl VWk.rfl SL.nil))))))) (BL.keep rfl (BL.keep rfl (BL.keep rfl BL.nil))) (BK.cons rfl (bS rfl bZ) rfl rfl (BK.cons rfl bZ rfl rfl (BK.cons rfl (bS rfl (bS rfl bZ)) rfl rfl BK.nil))) GK.nil).trans (wk_zs0 320384 1 9 true (eR rfl) (nS rfl (nS rfl nZ)))).trans (wk_zs0 320320 1 8 true (eR rfl) (nS rfl nZ))) ?_
    intro kb7 s6 H
    unfold impl_clashing_b6 at H
    refine AW.seq ?_
    refine AW.regs ?_
    refine oLss (eR rfl) (eR rfl) ?_
    refine xNil ?_
    refine TQ.qn ?_
    refine AW.seq ?_
    rcases oite H with ⟨h8, H⟩ | ⟨h8, H⟩
    · refine AW.condT eZ (decide_eq_true h8) ?_
      refine AW.skip ?_
      refine TQ.qn ?_
      refine AW.seq ?_
      refine AW.block ?_
      refine AW.seq ?_
      refine AW.regs ?_
      obtain ⟨v9, h10, H⟩ := obind H
      refine oAtD (eR rfl) (eR rfl) h10 ?_
      refine oLoadBA (es := [(.d (.int .i64 v9.Tx)), (.d (.int .i64 v9.Lo)), (.d (.int .i64 v9.Hi)), (.d (.int .i64 v9.Mode))]) eZ rfl ?_
      refine oVar (n := 704) (m := 4) rfl rfl (nS rfl (nS rfl (nS rfl nZ))) ?_
      refine oStoreV (es := [(.d (.int .i64 v9.Tx)), (.d (.int .i64 v9.Lo)), (.d (.int .i64 v9.Hi)), (.d (.int .i64 v9.Mode))]) eZ (eS rfl eZ) rfl rfl bZ rfl ?_
      refine xNil ?_
      refine TQ.qn ?_
      refine AW.seq ?_
      refine AW.seq ?_
      refine AW.regs ?_
      refine oLoadVA (es := [(.d (.int .i64 a3.Tx)), (.d (.int .i64 a3.Lo)), (.d (.int .i64 a3.Hi)), (.d (.int .i64 a3.Mode))]) (eR rfl) (bS rfl (bS rfl (bS rfl (bS rfl bZ)))) rfl ?_
      refine oLoadVA (es := [(.d (.int .i64 v9.Tx)), (.d (.int .i64 v9.Lo)), (.d (.int .i64 v9.Hi)), (.d (.int .i64 v9.Mode))]) (eS rfl eZ) bZ rfl ?_
      obtain ⟨v11, h12, H⟩ := obind H
      refine oCall (u := (.one (.d (.bool v11)))) eC Cl.fn (c_impl_clash h12) (Evs.cons (eS rfl eZ) (Evs.cons eZ Evs.nil)) (VDs.cons (VD.agg rfl) (VDs.cons (VD.agg rfl) VDs.nil)) rfl ?_
      refine oInv eZ ?_
      refine xNil ?_
      refine TQ.qn ?_
      rcases oite H with ⟨h13, H⟩ | ⟨h13, H⟩
      · refine AW.condF eZ (congrArg Bool.not h13) ?_
        refine AW.skip ?_
        refine TQ.qn ?_
        refine AW.seq ?_
        refine AW.regm ?_
        refine rmOne ?_
        refine oMov (eR rfl) ?_
        refine xNil ?_
        refine rmOne ?_
        refine oFaddrN (m := 0) (eR rfl) rfl ?_
        refine xNil ?_
        refine rmOne ?_
        refine oLoadV (q := 0) (c := (.d (.int .i64 v9.Tx))) eZ bZ rfl rfl ?_
        refine xNil ?_
        obtain ⟨v14, h15, H⟩ := obind H
        refine rmCall (ON := [320320]) (ls := []) (G := [320320]) (E := [320320]) (MB := []) (u := (.one (.sl 1728 0 v14.length))) (bs := [(1728, (.data 1 (List.map d_i64 v14) true none))]) eC Cl.fn (c_impl_inserted h15) (Evs.cons (eR rfl) (Evs.cons eZ Evs.nil)) (AO.give (VO.sl (bS rfl (bS rfl bZ)) (List.length_map _) (allFlat fun _ => rfl)) (AO.lent VD.plain rfl AO.nil)) rfl rfl rfl SZ.nil (erL.cons (v' := (.one (.d (.int .i64 v9.Tx)))) rfl (erL.cons (v' := (.one (.ptr (.nm 704 0 0)))) rfl (erL.cons (v' := (.one .any)) rfl (erL.cons (v' := (.one (.d (.bool (!v11))))) rfl (erL.cons (v' := (.one (.d (.bool v11)))) rfl (erL.cons (v' := (.agg [(.d (.int .i64 v9.Tx)), (.d (.int .i64 v9.Lo)), (.d (.int .i64 v9.Hi)), (.d (.int .i64 v9.Mode))])) rfl (erL.cons (v' := (.agg [(.d (.int .i64 a3.Tx)), (.d (.int .i64 a3.Lo)), (.d (.int .i64 a3.Hi)), (.d (.int .i64 a3.Mode))])) rfl (erL.cons (v' := (.one (.ptr (.nm 704 0 0)))) rfl (erL.cons (v' := (.agg [(.d (.int .i64 v9.Tx)), (.d (.int .i64 v9.Lo)), (.d (.int .i64 v9.Hi)), (.d (.int .i64 v9.Mode))])) rfl (erL.cons (v' := (.one (.ptr (.bd (d_TLock v9) 0)))) rfl (erL.cons (v' := (.one (.d (.bool (decide (s6.2.2 < (a1.length : Int))))))) rfl (erL.cons (v' := (.one (.d (.sl 1 (List.map d_i64 a2))))) rfl (erL.cons (v' := (.one (.ptr (.nm 320 0 0)))) rfl (erL.cons (v' := (.one .any)) rfl (erL.cons (v' := (.one (.sl 320384 0 s6.2.1.length))) rfl (erL.cons (v' := (.one (.d (.sl 4 (List.map d_TLock a1))))) rfl (erL.cons (v' := (.one (.d (.int .i64 (a1.length : Int))))) rfl (erL.cons (v' := (.one (.d (.int .i64 s6.2.2)))) rfl erL.nil)))))))))))))))))) (erH.cons (v' := (.vars 4 [(.d (.int .i64 v9.Tx)), (.d (.int .i64 v9.Lo)), (.d (.int .i64 v9.Hi)), (.d (.int .i64 v9.Mode))])) rfl rfl (erH.cons (v' := (.vars 4 [(.d (.int .i64 0)), (.d (.int .i64 0)), (.d (.int .i64 0)), (.d (.int .i64 0))])) rfl rfl (erH.drop rfl (erH.cons (v' := (.data 1 (List.map d_i64 s6.2.1) true none)) rfl rfl (erH.cons (v' := (.vars 4 [(.d (.int .i64 a3.Tx)), (.d (.int .i64 a3.Lo)), (.d (.int .i64 a3.Hi)), (.d (.int .i64 a3.Mode))])) rfl rfl erH.nil))))) erL.nil (by simp [bindR, bindV, bindVs, bindC, bindCs]) rfl (fC (nS rfl (nS rfl (nS rfl (nS rfl nZ)))) rfl (fC (nS rfl (nS rfl (nS rfl (nS rfl nZ)))) rfl fN)) ?_
        refine rmRest ?_
        refine oMov eZ ?_
        refine xNil ?_
        refine TQ.qn ?_
        refine AW.weaken (wk_mkG [] (SL.cons (k := 8) eZ rfl VWk.rfl (SL.cons (k := 11) (eR rfl) rfl VWk.rfl (SL.cons (k := 1) (eR rfl) rfl VWk.rfl (SL.cons (k := 5) (eR rfl) rfl VWk.rfl (SL.cons (k := 9) (eR rfl) rfl VWk.rfl (SL.cons (k := 14) (eR rfl) rfl VWk.rfl (SL.cons (k := 15) (eR rfl) rfl VWk.rfl (SL.cons (k := 16) (eR rfl) rfl VWk.rfl SL.nil)))))))) (BL.keep rfl (BL.keep rfl (BL.keep rfl (BL.keep rfl (BL.keep rfl BL.nil))))) (BK.cons (n := 1728) rfl bZ rfl rfl (BK.cons (n := 704) rfl (bS rfl bZ) rfl rfl (BK.cons (n := 320384) rfl (bS rfl (bS rfl (bS rfl bZ))) rfl rfl (BK.cons (n := 320) rfl (bS rfl (bS rfl (bS rfl (bS rfl bZ)))) rfl rfl BK.nil)))) GK.nil) ?_
        refine AW.seqJ (fun t16 : Bool => (impl_clashing_j16 s6 v9 kb7 v14) t16 = some r) (fun t16 => mk [(1, (.one (.d (.sl 1 (List.map d_i64 a2))))), (5, (.one (.ptr (.nm 320 0 0)))), (8, (.one (.sl 1728 0 v14.length))), (9, (.one (.sl 320384 0 s6.2.1.length))), (11, (.one (.ptr (.nm 704 0 0)))), (14, (.one (.d (.sl 4 (List.map d_TLock a1))))), (15, (.one (.d (.int .i64 (a1.length : Int))))), (16, (.one (.d (.int .i64 s6.2.2)))), (38, (.one (.d (.bool t16))))] [(320, (.vars 4 [(.d (.int .i64 a3.Tx)), (.d (.int .i64 a3.Lo)), (.d (.int .i64 a3.Hi)), (.d (.int .i64 a3.Mode))])), (704, (.vars 4 [(.d (.int .i64 v9.Tx)), (.d (.int .i64 v9.Lo)), (.d (.int .i64 v9.Hi)), (.d (.int .i64 v9.Mode))])), (1728, (.data 1 (List.map d_i64 v14) true none)), (320384, (.data 1 (List.map d_i64 s6.2.1) true none))] (lk [])) ?_ ?_
        · intro t16 H
          unfold impl_clashing_j16 at H
          rcases oite H with ⟨h18, H⟩ | ⟨h18, H⟩
          · refine AW.condT (eR rfl) h18 ?_
            refine AW.regm ?_
            refine rmOne ?_
            refine oMov (eR rfl) ?_
            refine xNil ?_
            refine rmOne ?_
            refine oFaddrN (m := 0) (eR rfl) rfl ?_
            refine xNil ?_
            refine rmOne ?_
            refine oLoadV (q := 0) (c := (.d (.int .i64 v9.Tx))) eZ (bS rfl bZ) rfl rfl ?_
            refine xNil ?_
            obtain ⟨v19, h20, H⟩ := obind H
            refine rmCall (ON := [320384]) (ls := []) (G := [320384]) (E := [320384]) (MB := []) (u := (.one (.sl 2688 0 v19.length))) (bs := [(2688, (.data 1 (List.map d_i64 v19) true none))]) eC Cl.fn (c_impl_inserted h20) (Evs.cons (eR rfl) (Evs.cons eZ Evs.nil)) (AO.give (VO.sl (bS rfl (bS rfl (bS rfl bZ))) (List.length_map _) (allFlat fun _ => rfl)) (AO.lent VD.plain rfl AO.nil)) rfl rfl rfl SZ.nil (erL.cons (v' := (.one (.d (.int .i64 v9.Tx)))) rfl (erL.cons (v' := (.one (.ptr (.nm 704 0 0)))) rfl (erL.cons (v' := (.one .any)) rfl (erL.cons (v' := (.one (.d (.sl 1 (List.map d_i64 a2))))) rfl (erL.cons (v' := (.one (.ptr (.nm 320 0 0)))) rfl (erL.cons (v' := (.one (.sl 1728 0 v14.length))) rfl (erL.cons (v' := (.one .any)) rfl (erL.cons (v' := (.one (.ptr (.nm 704 0 0)))) rfl (erL.cons (v' := (.one (.d (.sl 4 (List.map d_TLock a1))))) rfl (erL.cons (v' := (.one (.d (.int .i64 (a1.length : Int))))) rfl (erL.cons (v' := (.one (.d (.int .i64 s6.2.2)))) rfl (erL.cons (v' := (.one (.d (.bool t16)))) rfl erL.nil)))))))))))) (erH.cons (v' := (.vars 4 [(.d (.int .i64 a3.Tx)), (.d (.int .i64 a3.Lo)), (.d (.int .i64 a3.Hi)), (.d (.int .i64 a3.Mode))])) rfl rfl (erH.cons (v' := (.vars 4 [(.d (.int .i64 v9.Tx)), (.d (.int .i64 v9.Lo)), (.d (.int .i64 v9.Hi)), (.d (.int .i64 v9.Mode))])) rfl rfl (erH.cons (v' := (.data 1 (List.map d_i64 v14) true none)) rfl rfl (erH.drop rfl erH.nil)))) erL.nil (by simp [bindR, bindV, bindVs, bindC, bindCs]) rfl (fC (nS rfl (nS rfl (nS rfl nZ))) rfl (fC (nS rfl (nS rfl (nS rfl nZ))) rfl fN)) ?_
            refine rmRest ?_
            refine oMov eZ ?_
            refine xNil ?_
            refine BQ.qn ?_
            refine TQ.qn ?_
            refine AW.regs ?_
            refine oAdd (eR rfl) eC ?_
            refine oMov eZ ?_
            refine xNil ?_
            exact TQ.qn ⟨(v14, v19, (IntKind.wrap .i64 (s6.2.2 + 1))), H, (Wk.trans (s := mk [(16, (.one (.d (.int .i64 (IntKind.wrap .i64 (s6.2.2 + 1)))))), (43, (.one (.d (.int .i64 (IntKind.wrap .i64 (s6.2.2 + 1)))))), (9, (.one (.sl 2688 0 v19.length))), (42, (.one (.sl 2688 0 v19.length))), (41, (.one (.d (.int .i64 v9.Tx)))), (40, (.one (.ptr (.nm 704 0 0)))), (39, (.one .any)), (1, (.one (.d (.sl 1 (List.map d_i64 a2))))), (5, (.one (.ptr (.nm 320 0 0)))), (8, (.one (.sl 320320 0 v14.length))), (9, (.one .any)), (11, (.one (.ptr (.nm 704 0 0)))), (14, (.one (.d (.sl 4 (List.map d_TLock a1))))), (15, (.one (.d (.int .i64 (a1.length : Int))))), (16, (.one (.d (.int .i64 s6.2.2)))), (38, (.one (.d (.bool t16))))] [(2688, (.data 1 (List.map d_i64 v19) true none)), (320, (.vars 4 [(.d (.int .i64 a3.Tx)), (.d (.int .i64 a3.Lo)), (.d (.int .i64 a3.Hi)), (.d (.int .i64 a3.Mode))])), (704, (.vars 4 [(.d (.int .i64 v9.Tx)), (.d (.int .i64 v9.Lo)), (.d (.int .i64 v9.Hi)), (.d (.int .i64 v9.Mode))])), (320320, (.data 1 (List.map d_i64 v14) true none))] (lk [])) (Wk.trans (s := mk [(16, (.one (.d (.int .i64 (IntKind.wrap .i64 (s6.2.2 + 1)))))), (43, (.one (.d (.int .i64 (IntKind.wrap .i64 (s6.2.2 + 1)))))), (9, (.one (.sl 320384 0 v19.length))), (42, (.one (.sl 320384 0 v19.length))), (41, (.one (.d (.int .i64 v9.Tx)))), (40, (.one (.ptr (.nm 704 0 0)))), (39, (.one .any)), (1, (.one (.d (.sl 1 (List.map d_i64 a2))))), (5, (.one (.ptr (.nm 320 0 0)))), (8, (.one (.sl 320320 0 v14.length))), (9, (.one .any)), (11, (.one (.ptr (.nm 704 0 0)))), (14, (.one (.d (.sl 4 (List.map d_TLock a1))))), (15, (.one (.d (.int .i64 (a1.length : Int))))), (16, (.one (.d (.int .i64 s6.2.2)))), (38, (.one (.d (.bool t16))))] [(320384, (.data 1 (List.map d_i64 v19) true none)), (320, (.vars 4 [(.d (.int .i64 a3.Tx)), (.d (.int .i64 a3.Lo)), (.d (.int .i64 a3.Hi)), (.d (.int .i64 a3.Mode))])), (704, (.vars 4 [(.d (.int .i64 v9.Tx)), (.d (.int .i64 v9.Lo)), (.d (.int .i64 v9.Hi)), (.d (.int .i64 v9.Mode))])), (320320, (.data 1 (List.map d_i64 v14) true none))] (lk [])) (wk_mkG [704] (SL.cons (eR rfl) rfl VWk.rfl (SL.cons (eR rfl) rfl VWk.rfl (SL.cons (eR rfl) rfl VWk.rfl (SL.cons (eR rfl) rfl VWk.rfl (SL.cons (eR rfl) rfl VWk.rfl (SL.cons (eR rfl) rfl VWk.rfl (SL.cons eZ rfl VWk.rfl SL.nil))))))) (BL.keep rfl (BL.keep rfl (BL.drop rfl (BL.keep rfl BL.nil)))) (BK.cons rfl (bS rfl (bS rfl (bS rfl bZ))) rfl rfl (BK.cons rfl bZ rfl rfl (BK.cons rfl (bS rfl bZ) rfl rfl BK.nil))) GK.nil) (wk_renG 2688 320384 rfl rfl (nS rfl (nS rfl (nS rfl (nS rfl nZ)))) GR.nil)) (wk_renG 1728 320320 rfl rfl (nS rfl (nS rfl (nS rfl (nS rfl nZ)))) GR.nil))⟩
          · refine AW.condF (eR rfl) (nt h18) ?_
            refine AW.skip ?_
            refine BQ.qn ?_
            refine TQ.qn ?_
            refine AW.regs ?_
            refine oAdd (eR rfl) eC ?_
            refine oMov eZ ?_
            refine xNil ?_
            exact TQ.qn ⟨(v14, s6.2.1, (IntKind.wrap .i64 (s6.2.2 + 1))), H, ((wk_mkG [704] (SL.cons (eR rfl) rfl VWk.rfl (SL.cons (eR rfl) rfl VWk.rfl (SL.cons (eR rfl) rfl VWk.rfl (SL.cons (eR rfl) rfl VWk.rfl (SL.cons (eR rfl) rfl VWk.rfl (SL.cons (eR rfl) rfl VWk.rfl (SL.cons eZ rfl VWk.rfl SL.nil))))))) (BL.keep rfl (BL.drop rfl (BL.keep rfl (BL.keep rfl BL.nil)))) (BK.cons rfl (bS rfl (bS rfl bZ)) rfl rfl (BK.cons rfl (bS rfl (bS rfl (bS rfl bZ))) rfl rfl (BK.cons rfl bZ rfl rfl BK.nil))) GK.nil).trans (wk_renG 1728 320320 rfl rfl (nS rfl (nS rfl (nS rfl (nS rfl nZ)))) GR.nil))⟩
        · refine AW.regs ?_
          refine oFaddrN (m := 0) (eS rfl eZ) rfl ?_
          refine oLoadV (q := 0) (c := (.d (.int .i64 v9.Tx))) eZ (bS rfl bZ) rfl rfl ?_
          refine oFaddrN (m := 0) (eR rfl) rfl ?_
          refine oLoadV (q := 0) (c := (.d (.int .i64 a3.Tx))) eZ (bS rfl (bS rfl (bS rfl bZ))) rfl rfl ?_
          refine oLss (eR rfl) eZ ?_
          refine oMov eZ ?_
          rcases oite H with ⟨h21, H⟩ | ⟨h21, H⟩
          · refine gSkip eZ (decide_eq_true h21) rfl ?_
            refine gSkip (eS rfl eZ) (decide_eq_true h21) rfl ?_
            refine gSkip (eR rfl) (decide_eq_true h21) rfl ?_
            refine gSkip (eR rfl) (decide_eq_true h21) rfl ?_
            refine oPickT (eR rfl) (decide_eq_true h21) eC ?_
            refine xNil ?_
            exact TQ.qn ⟨true, H, (wk_mkG [] (SL.cons (eR rfl) rfl VWk.rfl (SL.cons (eR rfl) rfl VWk.rfl (SL.cons (eR rfl) rfl VWk.rfl (SL.cons (eR rfl) rfl VWk.rfl (SL.cons (eR rfl) rfl VWk.rfl (SL.cons (eR rfl) rfl VWk.rfl (SL.cons (eR rfl) rfl VWk.rfl (SL.cons (eR rfl) rfl VWk.rfl (SL.cons eZ rfl VWk.rfl SL.nil))))))))) (BL.keep rfl (BL.keep rfl (BL.keep rfl (BL.keep rfl BL.nil)))) (BK.cons rfl (bS rfl (bS rfl (bS rfl bZ))) rfl rfl (BK.cons rfl (bS rfl bZ) rfl rfl (BK.cons rfl bZ rfl rfl (BK.cons rfl (bS rfl (bS rfl bZ)) rfl rfl BK.nil)))) GK.nil)⟩
          · refine gDo eZ (decide_eq_false h21) ?_
            refine oMov (eR rfl) ?_
            refine gDo (eS rfl eZ) (decide_eq_false h21) ?_
            refine oFaddrN (m := 0) (eR rfl) rfl ?_
            refine gDo (eR rfl) (decide_eq_false h21) ?_
            refine oLoadV (q := 0) (c := (.d (.int .i64 v9.Tx))) eZ (bS rfl bZ) rfl rfl ?_
            refine gDo (eR rfl) (decide_eq_false h21) ?_
            obtain ⟨v22, h23, H⟩ := obind H
            refine oCall (u := (.one (.d (.bool v22)))) eC Cl.fn (c_slices_Contains_int h23) (Evs.cons (eR rfl) (Evs.cons eZ Evs.nil)) (VDs.cons VD.plain (VDs.cons VD.plain VDs.nil)) rfl ?_
            refine oPickF (eR rfl) (decide_eq_false h21) eZ ?_
            refine xNil ?_
            exact TQ.qn ⟨v22, H, (wk_mkG [] (SL.cons (eR rfl) rfl VWk.rfl (SL.cons (eR rfl) rfl VWk.rfl (SL.cons (eR rfl) rfl VWk.rfl (SL.cons (eR rfl) rfl VWk.rfl (SL.cons (eR rfl) rfl VWk.rfl (SL.cons (eR rfl) rfl VWk.rfl (SL.cons (eR rfl) rfl VWk.rfl (SL.cons (eR rfl) rfl VWk.rfl (SL.cons eZ rfl VWk.rfl SL.nil))))))))) (BL.keep rfl (BL.keep rfl (BL.keep rfl (BL.keep rfl BL.nil)))) (BK.cons rfl (bS rfl (bS rfl (bS rfl bZ))) rfl rfl (BK.cons rfl (bS rfl bZ) rfl rfl (BK.cons rfl bZ rfl rfl (BK.cons rfl (bS rfl (bS rfl bZ)) rfl rfl BK.nil)))) GK.nil)⟩
      · refine AW.condT eZ (congrArg Bool.not (nt h13)) ?_
        refine AW.exit ?_
        refine TQ.qe ?_
        refine BQ.qe ?_
        refine TQ.qn ?_
        refine AW.regs ?_
        refine oAdd (eR rfl) eC ?_
        refine oMov eZ ?_
        refine xNil ?_
        exact TQ.qn ⟨(s6.1, s6.2.1, (IntKind.wrap .i64 (s6.2.2 + 1))), H, (wk_mkG [704] (SL.cons (eR rfl) rfl VWk.rfl (SL.cons (eR rfl) rfl VWk.rfl (SL.cons (eR rfl) rfl VWk.rfl (SL.cons (eR rfl) rfl VWk.rfl (SL.cons (eR rfl) rfl VWk.rfl (SL.cons (eR rfl) rfl VWk.rfl (SL.cons eZ rfl VWk.rfl SL.nil))))))) (BL.drop rfl (BL.drop rfl (BL.keep rfl (BL.keep rfl (BL.keep rfl BL.nil))))) (BK.cons rfl (bS rfl (bS rfl bZ)) rfl rfl (BK.cons rfl (bS rfl (bS rfl (bS rfl bZ))) rfl rfl (BK.cons rfl (bS rfl (bS rfl (bS rfl (bS rfl bZ)))) rfl rfl BK.nil))) GK.nil)⟩
    · refine AW.condF eZ (decide_eq_false h8) ?_
      refine AW.exit ?_
      refine TQ.qe ?_
      refine TQ.qe ?_
      refine BQ.qe ?_
      exact TQ.qn ⟨(s6.1, s6.2.1), H, (Wk.trans (s := mk [(17, (.one (.d (.bool (decide (s6.2.2 < (a1.length : Int))))))), (1, (.one (.d (.sl 1 (List.map d_i64 a2))))), (5, (.one (.ptr (.nm 320 0 0)))), (8, (.one (.sl 320192 0 s6.1.length))), (9, (.one (.sl 320384 0 s6.2.1.length))), (14, (.one (.d (.sl 4 (List.map d_TLock a1))))), (15, (.one (.d (.int .i64 (a1.length : Int))))), (16, (.one (.d (.int .i64 s6.2.2))))] [(320192, (.data 1 (List.map d_i64 s6.1) true none)), (320384, (.data 1 (List.map d_i64 s6.2.1) true none)), (320, (.vars 4 [(.d (.int .i64 a3.Tx)), (.d (.int .i64 a3.Lo)), (.d (.int .i64 a3.Hi)), (.d (.int .i64 a3.Mode))]))] (lk [])) (Wk.trans (s := mk [(17, (.one (.d (.bool (decide (s6.2.2 < (a1.length : Int))))))), (1, (.one (.d (.sl 1 (List.map d_i64 a2))))), (5, (.one (.ptr (.nm 320 0 0)))), (8, (.one (.sl 320192 0 s6.1.length))), (9, (.one (.sl 320256 0 s6.2.1.length))), (14, (.one (.d (.sl 4 (List.map d_TLock a1))))), (15, (.one (.d (.int .i64 (a1.length : Int))))), (16, (.one (.d (.int .i64 s6.2.2))))] [(320192, (.data 1 (List.map d_i64 s6.1) true none)), (320256, (.data 1 (List.map d_i64 s6.2.1) true none)), (320, (.vars 4 [(.d (.int .i64 a3.Tx)), (.d (.int .i64 a3.Lo)), (.d (.int .i64 a3.Hi)), (.d (.int .i64 a3.Mode))]))] (lk [])) (wk_mkG [320] (SL.cons (eR rfl) rfl VWk.rfl (SL.cons (eR rfl) rfl VWk.rfl SL.nil)) (BL.keep rfl (BL.keep rfl (BL.drop rfl BL.nil))) (BK.cons rfl bZ rfl rfl (BK.cons rfl (bS rfl bZ) rfl rfl BK.nil)) GK.nil) (wk_renG 320384 320256 rfl rfl (nS rfl (nS rfl (nS rfl nZ))) GR.nil)) (wk_renG 320320 320192 rfl rfl (nS rfl (nS rfl (nS rfl nZ))) GR.nil))⟩

theorem c_impl_LockAsk_1 {a1 : TLock} {a2 : (List Int)} {r : Bool} (H : m_impl_LockAsk_1 a1 a2 = some r) : Fn Try.prog k_impl_LockAsk_1 (lent [(.agg (d_TLock a1)), (.ptr (dS_i64 a2))]) true [(.bool r)] := by
  refine i_impl_LockAsk_1_fn (Nat.le_of_ble_eq_true rfl) ?_
  rw [init_mk]
  refine AW.weaken (wk_mk [] (SL.cons (v := (.agg [(.d (.int .i64 a1.Tx)), (.d (.int .i64 a1.Lo)), (.d (.int .i64 a1.Hi)), (.d (.int .i64 a1.Mode))])) eZ rfl VWk.rfl (SL.cons (v := (.one (.ptr (.bd (dS_i64 a2) 0)))) (eS rfl eZ) rfl (VWk.one CWk.ptr) SL.nil)) BL.nil BK.nil) ?_
  unfold m_impl_LockAsk_1 at H
  unfold i_impl_LockAsk_1
  refine AW.seq ?_
  refine AW.regs ?_
  refine oBox (n := 128) (m := 4) (cs := [(.d (.int .i64 a1.Tx)), (.d (.int .i64 a1.Lo)), (.d (.int .i64 a1.Hi)), (.d (.int .i64 a1.Mode))]) rfl eZ rfl rfl nZ ?_
  refine oMov eC ?_
  refine xNil ?_
  refine TQ.qn ?_
  refine AW.seq ?_
  refine AW.regs ?_
  refine oLoadB (e := (.sl 1 (List.map d_i64 a2))) (eR rfl) rfl ?_
  refine oFaddrN (m := 0) (eR rfl) rfl ?_
  refine oLoadV (q := 0) (c := (.d (.int .i64 a1.Tx))) eZ bZ rfl rfl ?_
  obtain ⟨v3, h4, H⟩ := obind H
  refine oCall (u := (.one (.d (.bool v3)))) eC Cl.fn (c_slices_Contains_int h4) (Evs.cons (eR rfl) (Evs.cons eZ Evs.nil)) (VDs.cons VD.plain (VDs.cons VD.plain VDs.nil)) rfl ?_
  refine oMov eZ ?_
  refine xNil ?_
  refine TQ.qn ?_
  refine AW.ret ?_
  obtain rfl := Option.some.inj H
  exact endsR (RL.cons (RV.tmp eZ) (VO.flat rfl) RL.nil) List.nodup_nil

theorem c_slices_IndexFunc_Lock__LockAsk_1 {a1 : (List TLock)} {a2 : (List Int)} {r : Int} (H : m_slices_IndexFunc_Lock__LockAsk_1 a1 a2 = some r) : Fn Try.prog k_slices_IndexFunc___impl_Lock_impl_Lock_ (lent [(.sl 4 (List.map d_TLock a1)), (.fn k_impl_LockAsk_1 [.ptr (dS_i64 a2)])]) true [(.int .i64 r)] := by
  refine i_slices_IndexFunc___impl_Lock_impl_Lock__fn (Nat.le_of_ble_eq_true rfl) ?_
  rw [init_mk]
  refine AW.weaken (wk_mk [] (SL.cons (v := (.one (.d (.sl 4 (List.map d_TLock a1))))) eZ rfl VWk.rfl (SL.cons (v := (.one (.fn k_impl_LockAsk_1 [(.bd (dS_i64 a2) 0)]))) (eS rfl eZ) rfl (VWk.one (CWk.fn (css := [dS_i64 a2]))) SL.nil)) BL.nil BK.nil) ?_
  unfold m_slices_IndexFunc_Lock__LockAsk_1 at H
  unfold i_slices_IndexFunc___impl_Lock_impl_Lock_
  refine AW.seq ?_
  refine AW.regs ?_
  refine oMov eC ?_
  refine xNil ?_
  refine TQ.qn ?_
  refine AW.seqJ (fun t3 : Unit => slices_IndexFunc_Lock__LockAsk_1_j3 t3 = some r) (fun t3 => mk [] [] noG) ?_ ?_
  · intro t3 H
    unfold slices_IndexFunc_Lock__LockAsk_1_j3 at H
    refine AW.seq ?_
    refine AW.regs ?_
    refine oMov eC ?_
    refine xNil ?_
    refine TQ.qn ?_
    refine AW.ret ?_
    obtain rfl := Option.some.inj H
    exact endsR (RL.cons (RV.tmp eZ) (VO.flat rfl) RL.nil) List.nodup_nil
  · refine AW.seq ?_
    refine AW.regs ?_
    refine oMov (eS rfl eZ) ?_
    refine oLenD eZ (n := a1.length) (List.length_map _) ?_
    refine oMov eC ?_
    refine xNil ?_
    refine TQ.qn ?_
    refine AW.block ?_
    refine AW.iter (fun s5 : Int => mk [(0, (.one (.d (.sl 4 (List.map d_TLock a1))))), (1, (.one (.fn k_impl_LockAsk_1 [(.bd (dS_i64 a2) 0)]))), (7, (.one (.d (.int .i64 (a1.length : Int))))), (8, (.one (.d (.int .i64 s5))))] [] noG) H (wk_mk [] (SL.cons (eR rfl) rfl VWk.rfl (SL.cons (eR rfl) rfl VWk.rfl (SL.cons (eS rfl eZ) rfl VWk.rfl (SL.cons eZ rfl VWk.rfl SL.nil)))) BL.nil BK.nil) ?_
    intro kb6 s5 H
    unfold slices_IndexFunc_Lock__LockAsk_1_b5 at H
    refine AW.seq ?_
    refine AW.regs ?_
    refine oLss (eR rfl) (eR rfl) ?_
    refine xNil ?_
    refine TQ.qn ?_
    refine AW.seq ?_
    rcases oite H with ⟨h7, H⟩ | ⟨h7, H⟩
    · refine AW.condT eZ (decide_eq_true h7) ?_
      refine AW.skip ?_
      refine TQ.qn ?_
      refine AW.seq ?_
      refine AW.block ?_
      refine AW.seq ?_
      refine AW.regs ?_
      refine oMov (eR rfl) ?_
      refine oMov eZ ?_
      refine xNil ?_
      refine TQ.qn ?_
      refine AW.seq ?_
      refine AW.regs ?_
      refine oMov (eR rfl) ?_
      refine oMov (eR rfl) ?_
      refine oMov (eR rfl) ?_
      obtain ⟨v8, h9, H⟩ := obind H
      refine oAtD (eS rfl eZ) eZ h9 ?_
      refine oLoadBA (es := [(.d (.int .i64 v8.Tx)), (.d (.int .i64 v8.Lo)), (.d (.int .i64 v8.Hi)), (.d (.int .i64 v8.Mode))]) eZ rfl ?_
      obtain ⟨v10, h11, H⟩ := obind H
      refine oCall (u := (.one (.d (.bool v10)))) (eR rfl) Cl.fn (c_impl_LockAsk_1 h11) (Evs.cons eZ Evs.nil) (VDs.cons (VD.agg rfl) (VDs.cons VD.ptrB VDs.nil)) rfl ?_
      refine xNil ?_
      refine TQ.qn ?_
      rcases oite H with ⟨h12, H⟩ | ⟨h12, H⟩
      · refine AW.condT eZ h12 ?_
        refine AW.seq ?_
        refine AW.regs ?_
        refine oMov (eR rfl) ?_
        refine oMov eZ ?_
        refine xNil ?_
        refine TQ.qn ?_
        refine AW.ret ?_
        refine BQ.qr ?_
        refine TQ.qr ?_
        refine TQ.qr ?_
        refine BQ.qr ?_
        refine TQ.qr ?_
        obtain rfl := Option.some.inj H
        exact endsR (RL.cons (RV.tmp eZ) (VO.flat rfl) RL.nil) List.nodup_nil
      · refine AW.condF eZ (nt h12) ?_
        refine AW.skip ?_
        refine BQ.qn ?_
        refine TQ.qn ?_
        refine AW.regs ?_
        refine oAdd (eR rfl) eC ?_
        refine oMov eZ ?_
        refine xNil ?_
        exact TQ.qn ⟨(IntKind.wrap .i64 (s5 + 1)), H, (wk_mk [] (SL.cons (eR rfl) rfl VWk.rfl (SL.cons (eR rfl) rfl VWk.rfl (SL.cons (eR rfl) rfl VWk.rfl (SL.cons eZ rfl VWk.rfl SL.nil)))) BL.nil BK.nil)⟩
    · refine AW.condF eZ (decide_eq_false h7) ?_
      refine AW.exit ?_
      refine TQ.qe ?_
      refine TQ.qe ?_
      refine BQ.qe ?_
      exact TQ.qn ⟨(), H, (wk_mk [] SL.nil BL.nil BK.nil)⟩

theorem c_slices_DeleteFunc_Lock__LockAsk_1 {a1 : (List TLock)} {a2 : (List Int)} {r : (List TLock)} (H : m_slices_DeleteFunc_Lock__LockAsk_1 a1 a2 = some r) : Fn Try.prog k_slices_DeleteFunc___impl_Lock_impl_Lock_ [⟨(.sl 4 (List.map d_TLock a1)), .g⟩, ⟨(.fn k_impl_LockAsk_1 [.ptr (dS_i64 a2)]), .b⟩] true [(.sl 4 (List.map d_TLock r))] := by
  refine i_slices_DeleteFunc___impl_Lock_impl_Lock__fnM (Nat.le_of_ble_eq_true rfl) (fC nZ rfl fN) rfl ?_
  rw [initM_mk]
  refine AW.weaken (t := mk [(0, (.one (.sl 0 0 a1.length))), (1, (.one (.fn k_impl_LockAsk_1 [(.bd (dS_i64 a2) 0)])))] [(0, (.data 4 (List.map d_TLock a1) true none))] (lk [])) (wk_mkG (gl := []) [] (SL.cons (v := (.one (.sl 0 0 a1.length))) eZ rfl (VWk.one (CWk.len (List.length_map _))) (SL.cons (v := (.one (.fn k_impl_LockAsk_1 [(.bd (dS_i64 a2) 0)]))) (eS rfl eZ) rfl (VWk.one (CWk.fn (css := [dS_i64 a2]))) SL.nil)) (BL.keep rfl BL.nil) (BK.cons (n := 0) rfl bZ rfl rfl BK.nil) GK.nil) ?_
  unfold m_slices_DeleteFunc_Lock__LockAsk_1 at H
  unfold i_slices_DeleteFunc___impl_Lock_impl_Lock_
  refine AW.seq ?_
  refine AW.regs ?_
  refine oMov eC ?_
  refine xNil ?_
  refine TQ.qn ?_
  refine AW.seq ?_
  refine AW.regs ?_
  refine oMov (eS rfl eZ) ?_
  refine oMov (eR rfl) ?_
  obtain ⟨v3, h4, H⟩ := obind H
  refine oCall (u := (.one (.d (.int .i64 v3)))) eC Cl.fn (c_slices_IndexFunc_Lock__LockAsk_1 h4) (Evs.cons (eS rfl eZ) (Evs.cons eZ Evs.nil)) (VDs.cons (VD.sl bZ (List.length_map _)) (VDs.cons (VD.fn (PDs.cons VD.ptrB PDs.nil)) VDs.nil)) rfl ?_
  refine oMov eZ ?_
  refine xNil ?_
  refine TQ.qn ?_
  refine AW.seq ?_
  refine AW.seq ?_
  refine AW.regs ?_
  refine oMov eZ ?_
  refine oEql eZ eC ?_
  refine xNil ?_
  refine TQ.qn ?_
  rcases oite H with ⟨h5, H⟩ | ⟨h5, H⟩
  · refine AW.condT eZ (decide_eq_true h5) ?_
    refine AW.seq ?_
    refine AW.regs ?_
    refine oMov (eR rfl) ?_
    refine oMov eZ ?_
    refine xNil ?_
    refine TQ.qn ?_
    refine AW.ret ?_
    refine TQ.qr ?_
    obtain rfl := Option.some.inj H
    exact endsRM (RL.cons (RV.tmp eZ) (VO.sl bZ (List.length_map _) (allFlat fun _ => rfl)) RL.nil) (ML.give (ML.lent ML.nil)) (by decide)
  · refine AW.condF eZ (decide_eq_false h5) ?_
    refine AW.skip ?_
    refine TQ.qn ?_
    refine AW.seqJ (fun t6 : ((List TLock) × Int) => slices_DeleteFunc_Lock__LockAsk_1_j6 t6 = some r) (fun t6 => mk [(0, (.one (.sl 320128 0 t6.1.length))), (5, (.one (.d (.int .i64 t6.2))))] [(320128, (.data 4 (List.map d_TLock t6.1) true none))] (lk [])) ?_ ?_
    · intro t6 H
      unfold slices_DeleteFunc_Lock__LockAsk_1_j6 at H
      refine AW.seq ?_
      refine AW.regs ?_
      refine oMov eZ ?_
      refine oMov (eR rfl) ?_
      obtain ⟨h8, H⟩ := oguard H
      refine oCutN (r := (Int.toNat t6.2)) (s := (Int.toNat ((t6.1.length : Nat) : Int) - Int.toNat t6.2)) (eS rfl eZ) bZ rfl (Bd.at eZ) Bd.no rfl rfl h8 ?_
      obtain ⟨h9, H⟩ := oguard H
      refine oClear (zv := (TLock.mk 0 0 0 0)) eZ bZ rfl rfl h9 ?_
      refine xNil ?_
      refine TQ.qn ?_
      refine AW.seq ?_
      refine AW.regs ?_
      refine oMov (eR rfl) ?_
      refine oMov (eR rfl) ?_
      obtain ⟨h10, H⟩ := oguard H
      refine oCutN (r := 0) (s := (Int.toNat t6.2)) (eS rfl eZ) bZ rfl Bd.no (Bd.at eZ) rfl rfl h10 ?_
      refine oMov eZ ?_
      refine xNil ?_
      refine TQ.qn ?_
      refine AW.weaken (wk_take 320128 (Int.toNat t6.2) bZ) ?_
      refine AW.ret ?_
      obtain rfl := Option.some.inj H
      exact endsRM (RL.cons (RV.tmp eZ) (VO.sl bZ (by first | (simp; done) | (simp; omega) | omega) (allFlat fun _ => rfl)) RL.nil) (ML.give (ML.lent ML.nil)) (by decide)
    · refine AW.seq ?_
      refine AW.regs ?_
      refine oMov (eR rfl) ?_
      refine oAdd eZ eC ?_
      refine oMov eZ ?_
      refine xNil ?_
      refine TQ.qn ?_
      refine AW.block ?_
      refine AW.iter (fun s11 : ((List TLock) × Int × Int) => mk [(0, (.one (.sl 320192 0 s11.1.length))), (1, (.one (.fn k_impl_LockAsk_1 [(.bd (dS_i64 a2) 0)]))), (5, (.one (.d (.int .i64 s11.2.1)))), (6, (.one (.d (.int .i64 s11.2.2))))] [(320192, (.data 4 (List.map d_TLock s11.1) true none))] (lk [])) H ((wk_mkG [] (SL.cons (eR rfl) rfl VWk.rfl (SL.cons (eR rfl) rfl VWk.rfl (SL.cons (eR rfl) rfl VWk.rfl (SL.cons eZ rfl VWk.rfl SL.nil)))) (BL.keep rfl BL.nil) (BK.cons rfl bZ rfl rfl BK.nil) GK.nil).trans (wk_renG 0 320192 rfl rfl (nS rfl nZ) GR.nil)) ?_
      intro kb12 s11 H
      unfold slices_DeleteFunc_Lock__LockAsk_1_b11 at H
      refine AW.seq ?_
      refine AW.seq ?_
      refine AW.regs ?_
      refine oMov (eR rfl) ?_
      refine oMov (eS rfl eZ) ?_
      refine oLenN eZ ?_
      refine oLss (eR rfl) eZ ?_
      refine xNil ?_
      refine TQ.qn ?_
      rcases oite H with ⟨h13, H⟩ | ⟨h13, H⟩
      · refine AW.condT eZ (decide_eq_true h13) ?_
        refine AW.skip ?_
        refine TQ.qn ?_
        refine AW.seq ?_
        refine AW.block ?_
        refine AW.seq ?_
        refine AW.regs ?_
        refine oMov (eR rfl) ?_
        refine oMov (eR rfl) ?_
        obtain ⟨v14, h15, H⟩ := obind H
        refine oAtN (eS rfl eZ) eZ bZ rfl h15 ?_
        refine oLoadDA (t := v14) (es := [(.int .i64 v14.Tx), (.int .i64 v14.Lo), (.int .i64 v14.Hi), (.int .i64 v14.Mode)]) (cs := [(.d (.int .i64 v14.Tx)), (.d (.int .i64 v14.Lo)), (.d (.int .i64 v14.Hi)), (.d (.int .i64 v14.Mode))]) eZ bZ (idx_at h15) rfl rfl rfl ?_
        refine oVar (n := 448) (m := 4) rfl rfl (nS rfl nZ) ?_
        refine oStoreV (es := [(.d (.int .i64 v14.Tx)), (.d (.int .i64 v14.Lo)), (.d (.int .i64 v14.Hi)), (.d (.int .i64 v14.Mode))]) eZ (eS rfl eZ) rfl rfl bZ rfl ?_
        refine xNil ?_
        refine TQ.qn ?_
        refine AW.seq ?_
        refine AW.regs ?_
        refine oMov (eR rfl) ?_
        refine oLoadVA (es := [(.d (.int .i64 v14.Tx)), (.d (.int .i64 v14.Lo)), (.d (.int .i64 v14.Hi)), (.d (.int .i64 v14.Mode))]) (eS rfl eZ) bZ rfl ?_
        obtain ⟨v16, h17, H⟩ := obind H
        refine oCall (u := (.one (.d (.bool v16)))) (eS rfl eZ) Cl.fn (c_impl_LockAsk_1 h17) (Evs.cons eZ Evs.nil) (VDs.cons (VD.agg rfl) (VDs.cons VD.ptrB VDs.nil)) rfl ?_
        refine oInv eZ ?_
        refine xNil ?_
        refine TQ.qn ?_
        refine AW.weaken (wk_mkG [] (SL.cons (k := 29) eZ rfl VWk.rfl (SL.cons (k := 7) (eR rfl) rfl VWk.rfl (SL.cons (k := 0) (eR rfl) rfl VWk.rfl (SL.cons (k := 1) (eR rfl) rfl VWk.rfl (SL.cons (k := 5) (eR rfl) rfl VWk.rfl (SL.cons (k := 6) (eR rfl) rfl VWk.rfl SL.nil)))))) (BL.keep rfl (BL.keep rfl (BL.keep rfl BL.nil))) (BK.cons (n := 448) rfl bZ rfl rfl (BK.cons (n := 320192) rfl (bS rfl (bS rfl bZ)) rfl rfl BK.nil)) GK.nil) ?_
        rcases oite H with ⟨h18, H⟩ | ⟨h18, H⟩
        · refine AW.condF eZ (congrArg Bool.not h18) ?_
          refine AW.skip ?_
          refine BQ.qn ?_
          refine TQ.qn ?_
          refine AW.regs ?_
          refine oMov (eR rfl) ?_
          refine oAdd eZ eC ?_
          refine oMov eZ ?_
          refine xNil ?_
          exact TQ.qn ⟨(s11.1, s11.2.1, (IntKind.wrap .i64 (s11.2.2 + 1))), H, (wk_mkG [448] (SL.cons (eR rfl) rfl VWk.rfl (SL.cons (eR rfl) rfl VWk.rfl (SL.cons (eR rfl) rfl VWk.rfl (SL.cons eZ rfl VWk.rfl SL.nil)))) (BL.drop rfl (BL.keep rfl BL.nil)) (BK.cons rfl (bS rfl bZ) rfl rfl BK.nil) GK.nil)⟩
        · refine AW.condT eZ (congrArg Bool.not (nt h18)) ?_
          refine AW.seq ?_
          refine AW.regs ?_
          refine oMov (eR rfl) ?_
          refine oMov (eR rfl) ?_
          refine oLoadVA (es := [(.d (.int .i64 v14.Tx)), (.d (.int .i64 v14.Lo)), (.d (.int .i64 v14.Hi)), (.d (.int .i64 v14.Mode))]) (eR rfl) bZ rfl ?_
          obtain ⟨v19, h20, H⟩ := obind H
          refine oAtN (eR rfl) (eS rfl eZ) (bS rfl bZ) rfl h20 ?_
          refine oStoreD (t := v19) (t' := v14) (es := [(.int .i64 v14.Tx), (.int .i64 v14.Lo), (.int .i64 v14.Hi), (.int .i64 v14.Mode)]) eZ (eS rfl eZ) rfl rfl (bS rfl bZ) (idx_at h20) rfl rfl ?_
          refine xNil ?_
          refine TQ.qn ?_
          refine AW.regs ?_
          refine oMov (eR rfl) ?_
          refine oAdd eZ eC ?_
          refine oMov eZ ?_
          refine xNil ?_
          refine BQ.qn ?_
          refine TQ.qn ?_
          refine AW.regs ?_
          refine oMov (eR rfl) ?_
          refine oAdd eZ eC ?_
          refine oMov eZ ?_
          refine xNil ?_
          exact TQ.qn ⟨(s11.1.set (Int.toNat s11.2.1) v14, (IntKind.wrap .i64 (s11.2.1 + 1)), (IntKind.wrap .i64 (s11.2.2 + 1))), H, (wk_mkG [448] (SL.cons (eR rfl) rfl (VWk.one (CWk.len (by first | (simp; done) | (simp; omega) | omega))) (SL.cons (eR rfl) rfl VWk.rfl (SL.cons (eR rfl) rfl VWk.rfl (SL.cons eZ rfl VWk.rfl SL.nil)))) (BL.keep rfl (BL.drop rfl (BL.keep rfl BL.nil))) (BK.cons rfl bZ rfl rfl BK.nil) GK.nil)⟩
      · refine AW.condF eZ (decide_eq_false h13) ?_
        refine AW.exit ?_
        refine TQ.qe ?_
        refine TQ.qe ?_
        refine BQ.qe ?_
        exact TQ.qn ⟨(s11.1, s11.2.1), H, ((wk_mkG [] (SL.cons (eR rfl) rfl VWk.rfl (SL.cons (eR rfl) rfl VWk.rfl SL.nil)) (BL.keep rfl BL.nil) (BK.cons rfl bZ rfl rfl BK.nil) GK.nil).trans (wk_renG 320192 320128 rfl rfl (nS rfl nZ) GR.nil))⟩

theorem c_impl_LockAsk {a1 : (List TLock)} {a2 : (List Int)} {a3 : Int} {a4 : TRange} {a5 : Int} {r : ((List TLock) × (List Int) × Int)} (H : m_impl_LockAsk a1 a2 a3 a4 a5 = some r) : Fn Try.prog k_impl_LockAsk (lent [(.sl 4 (List.map d_TLock a1)), (.sl 1 (List.map d_i64 a2)), (.int .i64 a3), (.agg (d_TRange a4)), (.int .i64 a5)]) true [(.sl 4 (List.map d_TLock r.1)), (.sl 1 (List.map d_i64 r.2.1)), (.int .i64 r.2.2)] := by
  refine i_impl_LockAsk_fn (Nat.le_of_ble_eq_true rfl) ?_
  rw [init_mk]
  refine AW.weaken (t := mk [(0, (.one (.d (.sl 4 (List.map d_TLock a1))))), (1, (.one (.d (.sl 1 (List.map d_i64 a2))))), (2, (.one (.d (.int .i64 a3)))), (3, (.agg [(.d (.int .i64 a4.Lo)), (.d (.int .i64 a4.Hi))])), (4, (.one (.d (.int .i64 a5))))] [] (lk [])) (wk_mk [] (SL.cons (v := (.one (.d (.sl 4 (List.map d_TLock a1))))) eZ rfl VWk.rfl (SL.cons (v := (.one (.d (.sl 1 (List.map d_i64 a2))))) (eS rfl eZ) rfl VWk.rfl (SL.cons (v := (.one (.d (.int .i64 a3)))) (eS rfl (eS rfl eZ)) rfl VWk.rfl (SL.cons (v := (.agg [(.d (.int .i64 a4.Lo)), (.d (.int .i64 a4.Hi))])) (eS rfl (eS rfl (eS rfl eZ))) rfl VWk.rfl (SL.cons (v := (.one (.d (.int .i64 a5)))) (eS rfl (eS rfl (eS rfl (eS rfl eZ)))) rfl VWk.rfl SL.nil))))) BL.nil BK.nil) ?_
  unfold m_impl_LockAsk at H
  unfold i_impl_LockAsk
  refine AW.seq ?_
  refine AW.regs ?_
  refine oBox (n := 512) (m := 2) (cs := [(.d (.int .i64 a4.Lo)), (.d (.int .i64 a4.Hi))]) rfl (eR rfl) rfl rfl nZ ?_
  refine oMov eC ?_
  refine oMov eC ?_
  refine oMov eC ?_
  refine xNil ?_
  refine TQ.qn ?_
  refine AW.seq ?_
  refine AW.seqJ (fun t6 : Bool => (impl_LockAsk_j6 a1 a3 a4 a5 a2) t6 = some r) (fun t6 => mk [(0, (.one (.d (.sl 4 (List.map d_TLock a1))))), (1, (.one (.d (.sl 1 (List.map d_i64 a2))))), (2, (.one (.d (.int .i64 a3)))), (4, (.one (.d (.int .i64 a5)))), (8, (.one (.ptr (.nm 512 0 0)))), (40, (.one (.d (.bool t6))))] [(512, (.vars 2 [(.d (.int .i64 a4.Lo)), (.d (.int .i64 a4.Hi))]))] (lk [])) ?_ ?_
  · intro t6 H
    unfold impl_LockAsk_j6 at H
    rcases oite H with ⟨h8, H⟩ | ⟨h8, H⟩
    · refine AW.condT (eR rfl) h8 ?_
      refine AW.seq ?_
      refine AW.regs ?_
      refine oMov eC ?_
      refine oMov eC ?_
      refine oMov eC ?_
      refine xNil ?_
      refine TQ.qn ?_
      refine AW.ret ?_
      refine TQ.qr ?_
      obtain rfl := Option.some.inj H
      exact endsR (RL.cons (RV.tmp (eR rfl)) VO.zs (RL.cons (RV.tmp (eS rfl eZ)) VO.zs (RL.cons (RV.tmp eZ) (VO.flat rfl) RL.nil))) List.nodup_nil
    · refine AW.condF (eR rfl) (nt h8) ?_
      refine AW.skip ?_
      refine TQ.qn ?_
      refine AW.seq ?_
      refine AW.regs ?_
      refine oMov eZ ?_
      obtain ⟨v9, h10, H⟩ := obind H
      refine oCallN (u := (.one (.sl 2688 0 v9.length))) (bs := [(2688, (.data 4 (List.map d_TLock v9) true none))]) eC Cl.fn (c_slices_Clone_Lock h10) (Evs.cons eZ Evs.nil) (VDs.cons VD.plain VDs.nil) (by simp [bindR, bindV, bindVs, bindC, bindCs]) rfl (fC (nS rfl nZ) rfl (fC (nS rfl nZ) rfl fN)) ?_
      refine oMov eZ ?_
      refine xNil ?_
      refine TQ.qn ?_
      refine AW.seq ?_
      refine AW.seq ?_
      refine AW.regs ?_
      refine oMov (eR rfl) ?_
      refine oMov (eR rfl) ?_
      refine oLoadVA (es := [(.d (.int .i64 a4.Lo)), (.d (.int .i64 a4.Hi))]) (eR rfl) (bS rfl bZ) rfl ?_
      refine oMov (eR rfl) ?_
      obtain ⟨v11, h12, H⟩ := obind H
      refine oCall (u := (.one (.d (.bool v11)))) eC Cl.fn (c_impl_LocksHold h12) (Evs.cons (eR rfl) (Evs.cons (eR rfl) (Evs.cons (eS rfl eZ) (Evs.cons eZ Evs.nil)))) (VDs.cons VD.plain (VDs.cons VD.plain (VDs.cons (VD.agg rfl) (VDs.cons VD.plain VDs.nil)))) rfl ?_
      refine xNil ?_
      refine TQ.qn ?_
      rcases oite H with ⟨h13, H⟩ | ⟨h13, H⟩
      · refine AW.condT eZ h13 ?_
        refine AW.seq ?_
        refine AW.regs ?_
        refine oMov (eR rfl) ?_
        refine oMov eZ ?_
        refine oMov eC ?_
        refine oMov eC ?_
        refine xNil ?_
        refine TQ.qn ?_
        refine AW.weaken (wk_mkG [512] (SL.cons (k := 12) eZ rfl VWk.rfl (SL.cons (k := 11) (eS rfl eZ) rfl VWk.rfl (SL.cons (k := 10) (eR rfl) rfl VWk.rfl SL.nil))) (BL.keep rfl (BL.drop rfl BL.nil)) (BK.cons (n := 2688) rfl bZ rfl rfl BK.nil) GK.nil) ?_
        refine AW.ret ?_
        refine TQ.qr ?_
        obtain rfl := Option.some.inj H
        exact endsR (RL.cons (RV.tmp (eR rfl)) (VO.sl bZ (List.length_map _) (allFlat fun _ => rfl)) (RL.cons (RV.tmp (eS rfl eZ)) VO.zs (RL.cons (RV.tmp eZ) (VO.flat rfl) RL.nil))) (by decide)
      · refine AW.condF eZ (nt h13) ?_
        refine AW.skip ?_
        refine TQ.qn ?_
        refine AW.seq ?_
        refine AW.regs ?_
        refine oMov (eR rfl) ?_
        refine oFaddrN (m := 0) (eR rfl) rfl ?_
        refine oLoadV (q := 0) (c := (.d (.int .i64 a4.Lo))) eZ (bS rfl bZ) rfl rfl ?_
        refine oFaddrN (m := 1) (eR rfl) rfl ?_
        refine oLoadV (q := 1) (c := (.d (.int .i64 a4.Hi))) eZ (bS rfl bZ) rfl rfl ?_
        refine oMov (eR rfl) ?_
        refine oBuild (cs := [(.d (.int .i64 a3)), (.d (.int .i64 a4.Lo)), (.d (.int .i64 a4.Hi)), (.d (.int .i64 a5))]) (PsCons (eR rfl) (PsCons (eR rfl) (PsCons (eS rfl eZ) (PsCons eZ PsNil)))) rfl ?_
        refine oVar (n := 896) (m := 4) rfl rfl (nS rfl (nS rfl nZ)) ?_
        refine oStoreV (es := [(.d (.int .i64 a3)), (.d (.int .i64 a4.Lo)), (.d (.int .i64 a4.Hi)), (.d (.int .i64 a5))]) eZ (eS rfl eZ) rfl rfl bZ rfl ?_
        refine xNil ?_
        refine TQ.qn ?_
        refine AW.weaken (wk_mkG [512] (SL.cons (k := 14) eZ rfl VWk.rfl (SL.cons (k := 13) (eR rfl) rfl VWk.rfl (SL.cons (k := 0) (eR rfl) rfl VWk.rfl (SL.cons (k := 1) (eR rfl) rfl VWk.rfl SL.nil)))) (BL.keep rfl (BL.keep rfl (BL.keep rfl (BL.drop rfl BL.nil)))) (BK.cons (n := 896) rfl bZ rfl rfl (BK.cons (n := 2688) rfl (bS rfl (bS rfl bZ)) rfl rfl BK.nil)) GK.nil) ?_
        refine AW.seq ?_
        refine AW.regs ?_
        refine oMov (eR rfl) ?_
        refine oMov (eR rfl) ?_
        refine oLoadVA (es := [(.d (.int .i64 a3)), (.d (.int .i64 a4.Lo)), (.d (.int .i64 a4.Hi)), (.d (.int .i64 a5))]) (eR rfl) bZ rfl ?_
        obtain ⟨v14, h15, H⟩ := obind H
        refine oCallN (u := (.tup [(.one (.sl 3840 0 v14.1.length)), (.one (.sl 3856 0 v14.2.length))])) (bs := [(3840, (.data 1 (List.map d_i64 v14.1) true none)), (3856, (.data 1 (List.map d_i64 v14.2) true none))]) eC Cl.fn (c_impl_clashing h15) (Evs.cons (eR rfl) (Evs.cons (eS rfl eZ) (Evs.cons eZ Evs.nil))) (VDs.cons VD.plain (VDs.cons VD.plain (VDs.cons (VD.agg rfl) VDs.nil))) (by simp [bindR, bindV, bindVs, bindC, bindCs]) rfl (fC (nS rfl (nS rfl nZ)) rfl (fC (nS rfl (nS rfl nZ)) rfl (fC (nS rfl (nS rfl nZ)) rfl fN))) ?_
        refine oMov eZ ?_
        refine oExt (v := (.one (.sl 3840 0 v14.1.length))) eZ rfl ?_
        refine oExt (v := (.one (.sl 3856 0 v14.2.length))) (eS rfl eZ) rfl ?_
        refine oVar (n := 960) (m := 1) rfl rfl (nS rfl (nS rfl (nS rfl (nS rfl nZ)))) ?_
        refine oStoreV (es := [(.sl 3840 0 v14.1.length)]) eZ (eR rfl) rfl rfl bZ rfl ?_
        refine oMov (eS rfl eZ) ?_
        refine xNil ?_
        refine TQ.qn ?_
        refine AW.seq ?_
        refine AW.seq ?_
        refine AW.regs ?_
        refine oMov eZ ?_
        refine oLenN eZ ?_
        refine oGtr eZ eC ?_
        refine xNil ?_
        refine TQ.qn ?_
        refine AW.weaken (wk_mkG [3856] (SL.cons (k := 65) eZ rfl VWk.rfl (SL.cons (k := 15) (eR rfl) rfl VWk.rfl (SL.cons (k := 14) (eR rfl) rfl VWk.rfl (SL.cons (k := 13) (eR rfl) rfl VWk.rfl (SL.cons (k := 0) (eR rfl) rfl VWk.rfl SL.nil))))) (BL.keep rfl (BL.keep rfl (BL.drop rfl (BL.keep rfl (BL.keep rfl (BL.keep rfl BL.nil)))))) (BK.cons (n := 960) rfl bZ rfl rfl (BK.cons (n := 3840) rfl (bS rfl (bS rfl (bS rfl bZ))) rfl rfl (BK.cons (n := 896) rfl (bS rfl (bS rfl (bS rfl (bS rfl bZ)))) rfl rfl (BK.cons (n := 2688) rfl (bS rfl (bS rfl (bS rfl (bS rfl (bS rfl bZ))))) rfl rfl BK.nil)))) GK.nil) ?_
        rcases oite H with ⟨h16, H⟩ | ⟨h16, H⟩
        · refine AW.condT eZ (decide_eq_true h16) ?_
          refine AW.seq ?_
          refine AW.regs ?_
          refine oMov (eR rfl) ?_
          refine oMov eZ ?_
          refine oMov eC ?_
          refine oMov eC ?_
          refine xNil ?_
          refine TQ.qn ?_
          refine AW.ret ?_
          refine TQ.qr ?_
          obtain rfl := Option.some.inj H
          exact endsR (RL.cons (RV.tmp (eR rfl)) (VO.sl (bS rfl (bS rfl (bS rfl bZ))) (List.length_map _) (allFlat fun _ => rfl)) (RL.cons (RV.tmp (eS rfl eZ)) VO.zs (RL.cons (RV.tmp eZ) (VO.flat rfl) RL.nil))) (by decide)
        · refine AW.condF eZ (decide_eq_false h16) ?_
          refine AW.skip ?_
          refine TQ.qn ?_
          refine AW.seq ?_
          refine AW.regm ?_
          refine rmOne ?_
          refine oMov (eR rfl) ?_
          refine xNil ?_
          refine rmOne ?_
          obtain ⟨v17, h18, H⟩ := obind H
          refine oCallN (u := (.one (.sl 4352 0 v17.length))) (bs := [(4352, (.data 4 (List.map d_TLock v17) true none))]) eC Cl.fn (c_slices_Clone_Lock h18) (Evs.cons eZ Evs.nil) (VDs.cons VD.plain VDs.nil) (by simp [bindR, bindV, bindVs, bindC, bindCs]) rfl (fC (nS rfl (nS rfl (nS rfl (nS rfl nZ)))) rfl (fC (nS rfl (nS rfl (nS rfl (nS rfl nZ)))) rfl fN)) ?_
          refine xNil ?_
          refine rmOne ?_
          refine oMkfn (ps := [(.nm 960 0 0)]) (Evs.cons (eR rfl) Evs.nil) ?_
          refine xNil ?_
          obtain ⟨v19, h20, H⟩ := obind H
          refine rmCall (ON := [4352]) (ls := [960, 3840]) (G := [4352]) (E := [4352]) (MB := []) (u := (.one (.sl 4480 0 v19.length))) (bs := [(4480, (.data 4 (List.map d_TLock v19) true none))]) eC Cl.fn (c_slices_DeleteFunc_Lock__LockAsk_1 h20) (Evs.cons (eS rfl eZ) (Evs.cons eZ Evs.nil)) (AO.give (VO.sl bZ (List.length_map _) (allFlat fun _ => rfl)) (AO.lent (VD.fn (PDs.cons (VD.ptrN (bS rfl bZ) (CDs.sl (bS rfl (bS rfl bZ)) (List.length_map _) CDs.nil)) PDs.nil)) rfl AO.nil)) rfl rfl rfl SZ.nil (erL.cons (v' := (.one (.fn k_impl_LockAsk_1 [(.nm 960 0 0)]))) rfl (erL.cons (v' := (.one .any)) rfl (erL.cons (v' := (.one (.d (.sl 4 (List.map d_TLock a1))))) rfl (erL.cons (v' := (.one (.d (.bool (decide (0 < ((v14.2.length : Nat) : Int))))))) rfl (erL.cons (v' := (.one (.ptr (.nm 960 0 0)))) rfl (erL.cons (v' := (.one (.ptr (.nm 896 0 0)))) rfl (erL.cons (v' := (.one (.sl 2688 0 v9.length))) rfl (erL.cons (v' := (.one (.d (.sl 4 (List.map d_TLock a1))))) rfl erL.nil)))))))) (erH.drop rfl (erH.cons (v' := (.vars 1 [(.sl 3840 0 v14.1.length)])) rfl rfl (erH.cons (v' := (.data 1 (List.map d_i64 v14.1) true none)) rfl rfl (erH.cons (v' := (.vars 4 [(.d (.int .i64 a3)), (.d (.int .i64 a4.Lo)), (.d (.int .i64 a4.Hi)), (.d (.int .i64 a5))])) rfl rfl (erH.cons (v' := (.data 4 (List.map d_TLock v9) true none)) rfl rfl erH.nil))))) erL.nil (by simp [bindR, bindV, bindVs, bindC, bindCs]) rfl (fC (nS rfl (nS rfl (nS rfl (nS rfl nZ)))) rfl (fC (nS rfl (nS rfl (nS rfl (nS rfl nZ)))) rfl fN)) ?_
          refine rmRest ?_
          refine oMov eZ ?_
          refine xNil ?_
          refine TQ.qn ?_
          refine AW.seq ?_
          refine AW.seq ?_
          refine AW.regs ?_
          refine oMov eZ ?_
          refine oLenN eZ ?_
          refine oEql eZ eC ?_
          refine xNil ?_
          refine TQ.qn ?_
          rcases oite H with ⟨h21, H⟩ | ⟨h21, H⟩
          · refine AW.condT eZ (decide_eq_true h21) ?_
            refine AW.seq ?_
            refine AW.regs ?_
            refine oMov (eR rfl) ?_
            refine oMov eZ ?_
            refine oMov eC ?_
            refine oMov eC ?_
            refine xNil ?_
            refine TQ.qn ?_
            refine AW.weaken (wk_mkG [4480, 960, 3840, 896] (SL.cons (k := 12) eZ rfl VWk.rfl (SL.cons (k := 11) (eS rfl eZ) rfl VWk.rfl (SL.cons (k := 10) (eR rfl) rfl VWk.rfl SL.nil))) (BL.drop rfl (BL.drop rfl (BL.drop rfl (BL.drop rfl (BL.keep rfl BL.nil))))) (BK.cons (n := 2688) rfl (bS rfl (bS rfl (bS rfl (bS rfl bZ)))) rfl rfl BK.nil) GK.nil) ?_
            refine AW.ret ?_
            refine TQ.qr ?_
            obtain rfl := Option.some.inj H
            exact endsR (RL.cons (RV.tmp (eR rfl)) (VO.sl bZ (List.length_map _) (allFlat fun _ => rfl)) (RL.cons (RV.tmp (eS rfl eZ)) VO.zs (RL.cons (RV.tmp eZ) (VO.flat rfl) RL.nil))) (by decide)
          · refine AW.condF eZ (decide_eq_false h21) ?_
            refine AW.skip ?_
            refine TQ.qn ?_
            refine AW.seq ?_
            refine AW.regl [4480] ?_
            refine reOne rfl rfl ?_
            refine oMov (eR rfl) ?_
            refine xNil ?_
            refine reOne rfl rfl ?_
            refine oLoadVA (es := [(.d (.int .i64 a3)), (.d (.int .i64 a4.Lo)), (.d (.int .i64 a4.Hi)), (.d (.int .i64 a5))]) (eR rfl) (bS rfl (bS rfl (bS rfl bZ))) rfl ?_
            refine xNil ?_
            refine reOne rfl rfl ?_
            refine oBslice (m := 4928) (q := 1) (cs := [(.d (.int .i64 a3)), (.d (.int .i64 a4.Lo)), (.d (.int .i64 a4.Hi)), (.d (.int .i64 a5))]) rfl (PsCons eZ PsNil) rfl (List.cons_ne_nil _ _) (by simp) (nS rfl (nS rfl (nS rfl (nS rfl (nS rfl nZ))))) ?_
            refine xNil ?_
            obtain ⟨h22, H⟩ := oguard H
            refine reAppN (f := d_TLock) (xs := v19) (ys := [(TLock.mk a3 a4.Lo a4.Hi a5)]) (q := (v19 ++ ([(TLock.mk a3 a4.Lo a4.Hi a5)])).length) rfl rfl (eR rfl) eZ (bS rfl bZ) rfl (El.one (f := d_TLock) (t := (TLock.mk a3 a4.Lo a4.Hi a5)) (es := [(.int .i64 a3), (.int .i64 a4.Lo), (.int .i64 a4.Hi), (.int .i64 a5)]) bZ rfl rfl rfl) rfl h22 (by decide) (by decide) (erL.cons (v' := (.one (.sl 4928 0 1))) rfl (erL.cons (v' := (.agg [(.d (.int .i64 a3)), (.d (.int .i64 a4.Lo)), (.d (.int .i64 a4.Hi)), (.d (.int .i64 a5))])) rfl (erL.cons (v' := (.one .any)) rfl (erL.cons (v' := (.one (.d (.bool (decide (((v19.length : Nat) : Int) = 40)))))) rfl (erL.cons (v' := (.one (.d (.int .i64 ((v19.length : Nat) : Int))))) rfl (erL.cons (v' := (.one .any)) rfl (erL.cons (v' := (.one .any)) rfl (erL.cons (v' := (.one .any)) rfl (erL.cons (v' := (.one (.fn k_impl_LockAsk_1 [(.nm 960 0 0)]))) rfl (erL.cons (v' := (.one .any)) rfl (erL.cons (v' := (.one (.d (.sl 4 (List.map d_TLock a1))))) rfl (erL.cons (v' := (.one (.d (.bool (decide (0 < ((v14.2.length : Nat) : Int))))))) rfl (erL.cons (v' := (.one (.ptr (.nm 960 0 0)))) rfl (erL.cons (v' := (.one (.ptr (.nm 896 0 0)))) rfl (erL.cons (v' := (.one (.sl 2688 0 v9.length))) rfl (erL.cons (v' := (.one (.d (.sl 4 (List.map d_TLock a1))))) rfl erL.nil)))))))))))))))) (erH.cons (v' := (.vars 4 [(.d (.int .i64 a3)), (.d (.int .i64 a4.Lo)), (.d (.int .i64 a4.Hi)), (.d (.int .i64 a5))])) rfl rfl (erH.drop rfl (erH.cons (v' := (.vars 1 [(.sl 3840 0 v14.1.length)])) rfl rfl (erH.cons (v' := (.data 1 (List.map d_i64 v14.1) true none)) rfl rfl (erH.cons (v' := (.vars 4 [(.d (.int .i64 a3)), (.d (.int .i64 a4.Lo)), (.d (.int .i64 a4.Hi)), (.d (.int .i64 a5))])) rfl rfl (erH.cons (v' := (.data 4 (List.map d_TLock v9) true none)) rfl rfl erH.nil)))))) GK.nil ?_
            refine reLoadV (q := 0) (c := (.sl 3840 0 v14.1.length)) rfl (eR rfl) rfl rfl (bS rfl (bS rfl bZ)) rfl rfl rfl ?_
            refine reOne rfl rfl ?_
            refine oMov (eS rfl eZ) ?_
            refine xNil ?_
            refine reOne rfl rfl ?_
            refine oMov (eS rfl eZ) ?_
            refine xNil ?_
            refine reOne rfl rfl ?_
            refine oMov eC ?_
            refine xNil ?_
            refine reNil ?_
            refine TQ.qn ?_
            refine AW.weaken (wk_mkG [4928, 960, 896, 2688] (SL.cons (k := 12) eZ rfl VWk.rfl (SL.cons (k := 11) (eS rfl eZ) rfl VWk.rfl (SL.cons (k := 10) (eR rfl) rfl VWk.rfl SL.nil))) (BL.keep rfl (BL.drop rfl (BL.drop rfl (BL.keep rfl (BL.drop rfl (BL.drop rfl BL.nil)))))) (BK.cons (n := 4480) rfl bZ rfl rfl (BK.cons (n := 3840) rfl (bS rfl (bS rfl (bS rfl bZ))) rfl rfl BK.nil)) GK.nil) ?_
            refine AW.ret ?_
            obtain rfl := Option.some.inj H
            exact endsR (RL.cons (RV.tmp (eR rfl)) (VO.sl bZ (List.length_map _) (allFlat fun _ => rfl)) (RL.cons (RV.tmp (eS rfl eZ)) (VO.sl (bS rfl bZ) (List.length_map _) (allFlat fun _ => rfl)) (RL.cons (RV.tmp eZ) (VO.flat rfl) RL.nil))) (by decide)
  · refine AW.regs ?_
    refine oMov (eR rfl) ?_
    obtain ⟨v23, h24, H⟩ := obind H
    refine oCall (u := (.one (.d (.bool v23)))) eC Cl.fn (c_impl_LocksOk h24) (Evs.cons eZ Evs.nil) (VDs.cons VD.plain VDs.nil) rfl ?_
    refine oInv eZ ?_
    refine oMov eZ ?_
    rcases oite H with ⟨h25, H⟩ | ⟨h25, H⟩
    · refine gDo eZ (congrArg Bool.not h25) ?_
      refine oMov (eR rfl) ?_
      refine gDo (eS rfl eZ) (congrArg Bool.not h25) ?_
      refine oLenD eZ (n := a2.length) (List.length_map _) ?_
      refine gDo (eR rfl) (congrArg Bool.not h25) ?_
      refine oGtr eZ eC ?_
      refine oPickF (eR rfl) (congrArg Bool.not h25) eZ ?_
      refine oMov eZ ?_
      rcases oite H with ⟨h26, H⟩ | ⟨h26, H⟩
      · refine gSkip eZ (decide_eq_true h26) rfl ?_
        refine gSkip (eS rfl eZ) (decide_eq_true h26) rfl ?_
        refine gSkip (eR rfl) (decide_eq_true h26) rfl ?_
        refine oPickT (eR rfl) (decide_eq_true h26) eC ?_
        refine oMov eZ ?_
        refine gSkip eZ rfl rfl ?_
        refine gSkip (eS rfl eZ) rfl rfl ?_
        refine gSkip (eR rfl) rfl rfl ?_
        refine oPickT (eR rfl) rfl eC ?_
        refine oMov eZ ?_
        refine gSkip eZ rfl rfl ?_
        refine gSkip (eS rfl eZ) rfl rfl ?_
        refine gSkip (eR rfl) rfl rfl ?_
        refine oPickT (eR rfl) rfl eC ?_
        refine xNil ?_
        exact TQ.qn ⟨true, H, (wk_mkG [] (SL.cons (eR rfl) rfl VWk.rfl (SL.cons (eR rfl) rfl VWk.rfl (SL.cons (eR rfl) rfl VWk.rfl (SL.cons (eR rfl) rfl VWk.rfl (SL.cons (eR rfl) rfl VWk.rfl (SL.cons eZ rfl VWk.rfl SL.nil)))))) (BL.keep rfl BL.nil) (BK.cons rfl bZ rfl rfl BK.nil) GK.nil)⟩
      · refine gDo eZ (decide_eq_false h26) ?_
        refine oMov (eR rfl) ?_
        refine gDo (eS rfl eZ) (decide_eq_false h26) ?_
        obtain ⟨v27, h28, H⟩ := obind H
        refine oCall (u := (.one (.d (.bool v27)))) eC Cl.fn (c_impl_isTx h28) (Evs.cons eZ Evs.nil) (VDs.cons VD.plain VDs.nil) rfl ?_
        refine gDo (eR rfl) (decide_eq_false h26) ?_
        refine oInv eZ ?_
        refine oPickF (eR rfl) (decide_eq_false h26) eZ ?_
        refine oMov eZ ?_
        rcases oite H with ⟨h29, H⟩ | ⟨h29, H⟩
        · refine gDo eZ (congrArg Bool.not h29) ?_
          refine oLoadVA (es := [(.d (.int .i64 a4.Lo)), (.d (.int .i64 a4.Hi))]) (eR rfl) bZ rfl ?_
          refine gDo (eS rfl eZ) (congrArg Bool.not h29) ?_
          obtain ⟨v30, h31, H⟩ := obind H
          refine oCall (u := (.one (.d (.bool v30)))) eC Cl.fn (c_impl_RangeOk h31) (Evs.cons eZ Evs.nil) (VDs.cons (VD.agg rfl) VDs.nil) rfl ?_
          refine gDo (eR rfl) (congrArg Bool.not h29) ?_
          refine oInv eZ ?_
          refine oPickF (eR rfl) (congrArg Bool.not h29) eZ ?_
          refine oMov eZ ?_
          rcases oite H with ⟨h32, H⟩ | ⟨h32, H⟩
          · refine gDo eZ (congrArg Bool.not h32) ?_
            refine oMov (eR rfl) ?_
            refine gDo (eS rfl eZ) (congrArg Bool.not h32) ?_
            obtain ⟨v33, h34, H⟩ := obind H
            refine oCall (u := (.one (.d (.bool v33)))) eC Cl.fn (c_impl_isMode h34) (Evs.cons eZ Evs.nil) (VDs.cons VD.plain VDs.nil) rfl ?_
            refine gDo (eR rfl) (congrArg Bool.not h32) ?_
            refine oInv eZ ?_
            refine oPickF (eR rfl) (congrArg Bool.not h32) eZ ?_
            refine xNil ?_
            exact TQ.qn ⟨(!v33), H, (wk_mkG [] (SL.cons (eR rfl) rfl VWk.rfl (SL.cons (eR rfl) rfl VWk.rfl (SL.cons (eR rfl) rfl VWk.rfl (SL.cons (eR rfl) rfl VWk.rfl (SL.cons (eR rfl) rfl VWk.rfl (SL.cons eZ rfl VWk.rfl SL.nil)))))) (BL.keep rfl BL.nil) (BK.cons rfl bZ rfl rfl BK.nil) GK.nil)⟩
          · refine gSkip eZ (congrArg Bool.not (nt h32)) rfl ?_
            refine gSkip (eS rfl eZ) (congrArg Bool.not (nt h32)) rfl ?_
            refine gSkip (eR rfl) (congrArg Bool.not (nt h32)) rfl ?_
            refine oPickT (eR rfl) (congrArg Bool.not (nt h32)) eC ?_
            refine xNil ?_
            exact TQ.qn ⟨true, H, (wk_mkG [] (SL.cons (eR rfl) rfl VWk.rfl (SL.cons (eR rfl) rfl VWk.rfl (SL.cons (eR rfl) rfl VWk.rfl (SL.cons (eR rfl) rfl VWk.rfl (SL.cons (eR rfl) rfl VWk.rfl (SL.cons eZ rfl VWk.rfl SL.nil)))))) (BL.keep rfl BL.nil) (BK.cons rfl bZ rfl rfl BK.nil) GK.nil)⟩
        · refine gSkip eZ (congrArg Bool.not (nt h29)) rfl ?_
          refine gSkip (eS rfl eZ) (congrArg Bool.not (nt h29)) rfl ?_
          refine gSkip (eR rfl) (congrArg Bool.not (nt h29)) rfl ?_
          refine oPickT (eR rfl) (congrArg Bool.not (nt h29)) eC ?_
          refine oMov eZ ?_
          refine gSkip eZ rfl rfl ?_
          refine gSkip (eS rfl eZ) rfl rfl ?_
          refine gSkip (eR rfl) rfl rfl ?_
          refine oPickT (eR rfl) rfl eC ?_
          refine xNil ?_
          exact TQ.qn ⟨true, H, (wk_mkG [] (SL.cons (eR rfl) rfl VWk.rfl (SL.cons (eR rfl) rfl VWk.rfl (SL.cons (eR rfl) rfl VWk.rfl (SL.cons (eR rfl) rfl VWk.rfl (SL.cons (eR rfl) rfl VWk.rfl (SL.cons eZ rfl VWk.rfl SL.nil)))))) (BL.keep rfl BL.nil) (BK.cons rfl bZ rfl rfl BK.nil) GK.nil)⟩
    · refine gSkip eZ (congrArg Bool.not (nt h25)) rfl ?_
      refine gSkip (eS rfl eZ) (congrArg Bool.not (nt h25)) rfl ?_
      refine gSkip (eR rfl) (congrArg Bool.not (nt h25)) rfl ?_
      refine oPickT (eR rfl) (congrArg Bool.not (nt h25)) eC ?_
      refine oMov eZ ?_
      refine gSkip eZ rfl rfl ?_
      refine gSkip (eS rfl eZ) rfl rfl ?_
      refine gSkip (eR rfl) rfl rfl ?_
      refine oPickT (eR rfl) rfl eC ?_
      refine oMov eZ ?_
      refine gSkip eZ rfl rfl ?_
      refine gSkip (eS rfl eZ) rfl rfl ?_
      refine gSkip (eR rfl) rfl rfl ?_
      refine oPickT (eR rfl) rfl eC ?_
      refine oMov eZ ?_
      refine gSkip eZ rfl rfl ?_
      refine gSkip (eS rfl eZ) rfl rfl ?_
      refine gSkip (eR rfl) rfl rfl ?_
      refine oPickT (eR rfl) rfl eC ?_
      refine xNil ?_
      exact TQ.qn ⟨true, H, (wk_mkG [] (SL.cons (eR rfl) rfl VWk.rfl (SL.cons (eR rfl) rfl VWk.rfl (SL.cons (eR rfl) rfl VWk.rfl (SL.cons (eR rfl) rfl VWk.rfl (SL.cons (eR rfl) rfl VWk.rfl (SL.cons eZ rfl VWk.rfl SL.nil)))))) (BL.keep rfl BL.nil) (BK.cons rfl bZ rfl rfl BK.nil) GK.nil)⟩

theorem c_laws_eqLock {a1 : TLock} {a2 : TLock} {r : Bool} (H : m_laws_eqLock a1 a2 = some r) : Fn Try.prog k_laws_eqLock (lent [(.agg (d_TLock a1)), (.agg (d_TLock a2))]) true [(.bool r)] := by
  refine i_laws_eqLock_fn (Nat.le_of_ble_eq_true rfl) ?_
  rw [init_mk]
  refine AW.weaken (wk_mk [] (SL.cons (v := (.agg [(.d (.int .i64 a1.Tx)), (.d (.int .i64 a1.Lo)), (.d (.int .i64 a1.Hi)), (.d (.int .i64 a1.Mode))])) eZ rfl VWk.rfl (SL.cons (v := (.agg [(.d (.int .i64 a2.Tx)), (.d (.int .i64 a2.Lo)), (.d (.int .i64 a2.Hi)), (.d (.int .i64 a2.Mode))])) (eS rfl eZ) rfl VWk.rfl SL.nil)) BL.nil BK.nil) ?_
  unfold m_laws_eqLock at H
  unfold i_laws_eqLock
  refine AW.seq ?_
  refine AW.regs ?_
  refine oBox (n := 128) (m := 4) (cs := [(.d (.int .i64 a1.Tx)), (.d (.int .i64 a1.Lo)), (.d (.int .i64 a1.Hi)), (.d (.int .i64 a1.Mode))]) rfl eZ rfl rfl nZ ?_
  refine oBox (n := 192) (m := 4) (cs := [(.d (.int .i64 a2.Tx)), (.d (.int .i64 a2.Lo)), (.d (.int .i64 a2.Hi)), (.d (.int .i64 a2.Mode))]) rfl (eR rfl) rfl rfl (nS rfl nZ) ?_
  refine oMov eC ?_
  refine xNil ?_
  refine TQ.qn ?_
  refine AW.seq ?_
  refine AW.seq ?_
  refine AW.regs ?_
  refine oFaddrN (m := 0) (eR rfl) rfl ?_
  refine oLoadV (q := 0) (c := (.d (.int .i64 a1.Tx))) eZ (bS rfl bZ) rfl rfl ?_
  refine oFaddrN (m := 0) (eR rfl) rfl ?_
  refine oLoadV (q := 0) (c := (.d (.int .i64 a2.Tx))) eZ bZ rfl rfl ?_
  refine oNeq (eR rfl) eZ ?_
  refine xNil ?_
  refine TQ.qn ?_
  rcases oite H with ⟨h3, H⟩ | ⟨h3, H⟩
  · refine AW.condT eZ (decide_eq_true h3) ?_
    refine AW.seq ?_
    refine AW.regs ?_
    refine oMov eC ?_
    refine xNil ?_
    refine TQ.qn ?_
    refine AW.ret ?_
    refine TQ.qr ?_
    obtain rfl := Option.some.inj H
    exact endsR (RL.cons (RV.tmp eZ) (VO.flat rfl) RL.nil) List.nodup_nil
  · refine AW.condF eZ (decide_eq_false h3) ?_
    refine AW.skip ?_
    refine TQ.qn ?_
    refine AW.seq ?_
    refine AW.seq ?_
    refine AW.regs ?_
    refine oFaddrN (m := 1) (eR rfl) rfl ?_
    refine oLoadV (q := 1) (c := (.d (.int .i64 a1.Lo))) eZ (bS rfl bZ) rfl rfl ?_
    refine oFaddrN (m := 1) (eR rfl) rfl ?_
    refine oLoadV (q := 1) (c := (.d (.int .i64 a2.Lo))) eZ bZ rfl rfl ?_
    refine oNeq (eR rfl) eZ ?_
    refine xNil ?_
    refine TQ.qn ?_
    rcases oite H with ⟨h4, H⟩ | ⟨h4, H⟩
    · refine AW.condT eZ (decide_eq_true h4) ?_
      refine AW.seq ?_
      refine AW.regs ?_
      refine oMov eC ?_
      refine xNil ?_
      refine TQ.qn ?_
      refine AW.weaken (wk_mk [192, 128] (SL.cons (k := 4) eZ rfl VWk.rfl SL.nil) (BL.drop rfl (BL.drop rfl BL.nil)) BK.nil) ?_
      refine AW.ret ?_
      refine TQ.qr ?_
      obtain rfl := Option.some.inj H
      exact endsR (RL.cons (RV.tmp eZ) (VO.flat rfl) RL.nil) List.nodup_nil
    · refine AW.condF eZ (decide_eq_false h4) ?_
      refine AW.skip ?_
      refine TQ.qn ?_
      refine AW.seq ?_
      refine AW.seq ?_
      refine AW.regs ?_
      refine oFaddrN (m := 2) (eR rfl) rfl ?_
      refine oLoadV (q := 2) (c := (.d (.int .i64 a1.Hi))) eZ (bS rfl bZ) rfl rfl ?_
      refine oFaddrN (m := 2) (eR rfl) rfl ?_
      refine oLoadV (q := 2) (c := (.d (.int .i64 a2.Hi))) eZ bZ rfl rfl ?_
      refine oNeq (eR rfl) eZ ?_
      refine xNil ?_
      refine TQ.qn ?_
      refine AW.weaken (wk_mk [] (SL.cons (k := 19) eZ rfl VWk.rfl (SL.cons (k := 3) (eR rfl) rfl VWk.rfl (SL.cons (k := 2) (eR rfl) rfl VWk.rfl SL.nil))) (BL.keep rfl (BL.keep rfl BL.nil)) (BK.cons (n := 192) rfl bZ rfl rfl (BK.cons (n := 128) rfl (bS rfl bZ) rfl rfl BK.nil))) ?_
      rcases oite H with ⟨h5, H⟩ | ⟨h5, H⟩
      · refine AW.condT eZ (decide_eq_true h5) ?_
        refine AW.seq ?_
        refine AW.regs ?_
        refine oMov eC ?_
        refine xNil ?_
        refine TQ.qn ?_
        refine AW.ret ?_
        refine TQ.qr ?_
        obtain rfl := Option.some.inj H
        exact endsR (RL.cons (RV.tmp eZ) (VO.flat rfl) RL.nil) List.nodup_nil
      · refine AW.condF eZ (decide_eq_false h5) ?_
        refine AW.skip ?_
        refine TQ.qn ?_
        refine AW.seq ?_
        refine AW.seq ?_
        refine AW.regs ?_
        refine oFaddrN (m := 3) (eR rfl) rfl ?_
        refine oLoadV (q := 3) (c := (.d (.int .i64 a1.Mode))) eZ (bS rfl bZ) rfl rfl ?_
        refine oFaddrN (m := 3) (eR rfl) rfl ?_
        refine oLoadV (q := 3) (c := (.d (.int .i64 a2.Mode))) eZ bZ rfl rfl ?_
        refine oNeq (eR rfl) eZ ?_
        refine xNil ?_
        refine TQ.qn ?_
        rcases oite H with ⟨h6, H⟩ | ⟨h6, H⟩
        · refine AW.condT eZ (decide_eq_true h6) ?_
          refine AW.seq ?_
          refine AW.regs ?_
          refine oMov eC ?_
          refine xNil ?_
          refine TQ.qn ?_
          refine AW.ret ?_
          refine TQ.qr ?_
          obtain rfl := Option.some.inj H
          exact endsR (RL.cons (RV.tmp eZ) (VO.flat rfl) RL.nil) List.nodup_nil
        · refine AW.condF eZ (decide_eq_false h6) ?_
          refine AW.skip ?_
          refine TQ.qn ?_
          refine AW.seq ?_
          refine AW.regs ?_
          refine oMov eC ?_
          refine xNil ?_
          refine TQ.qn ?_
          refine AW.ret ?_
          obtain rfl := Option.some.inj H
          exact endsR (RL.cons (RV.tmp eZ) (VO.flat rfl) RL.nil) List.nodup_nil

theorem c_laws_eqLockS {a1 : (List TLock)} {a2 : (List TLock)} {r : Bool} (H : m_laws_eqLockS a1 a2 = some r) : Fn Try.prog k_laws_eqLockS (lent [(.sl 4 (List.map d_TLock a1)), (.sl 4 (List.map d_TLock a2))]) true [(.bool r)] := by
  refine i_laws_eqLockS_fn (Nat.le_of_ble_eq_true rfl) ?_
  rw [init_mk]
  refine AW.weaken (wk_mk [] (SL.cons (v := (.one (.d (.sl 4 (List.map d_TLock a1))))) eZ rfl VWk.rfl (SL.cons (v := (.one (.d (.sl 4 (List.map d_TLock a2))))) (eS rfl eZ) rfl VWk.rfl SL.nil)) BL.nil BK.nil) ?_
  unfold m_laws_eqLockS at H
  unfold i_laws_eqLockS
  refine AW.seq ?_
  refine AW.regs ?_
  refine oMov eC ?_
  refine xNil ?_
  refine TQ.qn ?_
  refine AW.seq ?_
  refine AW.seq ?_
  refine AW.regs ?_
  refine oMov (eS rfl eZ) ?_
  refine oLenD eZ (n := a1.length) (List.length_map _) ?_
  refine oMov (eR rfl) ?_
  refine oLenD eZ (n := a2.length) (List.length_map _) ?_
  refine oNeq (eR rfl) eZ ?_
  refine xNil ?_
  refine TQ.qn ?_
  rcases oite H with ⟨h3, H⟩ | ⟨h3, H⟩
  · refine AW.condT eZ (decide_eq_true h3) ?_
    refine AW.seq ?_
    refine AW.regs ?_
    refine oMov eC ?_
    refine xNil ?_
    refine TQ.qn ?_
    refine AW.ret ?_
    refine TQ.qr ?_
    obtain rfl := Option.some.inj H
    exact endsR (RL.cons (RV.tmp eZ) (VO.flat rfl) RL.nil) List.nodup_nil
  · refine AW.condF eZ (decide_eq_false h3) ?_
    refine AW.skip ?_
    refine TQ.qn ?_
    refine AW.seqJ (fun t4 : Unit => laws_eqLockS_j4 t4 = some r) (fun t4 => mk [] [] noG) ?_ ?_
    · intro t4 H
      unfold laws_eqLockS_j4 at H
      refine AW.seq ?_
      refine AW.regs ?_
      refine oMov eC ?_
      refine xNil ?_
      refine TQ.qn ?_
      refine AW.ret ?_
      obtain rfl := Option.some.inj H
      exact endsR (RL.cons (RV.tmp eZ) (VO.flat rfl) RL.nil) List.nodup_nil
    · refine AW.seq ?_
      refine AW.regs ?_
      refine oMov eC ?_
      refine xNil ?_
      refine TQ.qn ?_
      refine AW.block ?_
      refine AW.iter (fun s6 : Int => mk [(0, (.one (.d (.sl 4 (List.map d_TLock a1))))), (1, (.one (.d (.sl 4 (List.map d_TLock a2))))), (5, (.one (.d (.int .i64 s6))))] [] noG) H (wk_mk [] (SL.cons (eR rfl) rfl VWk.rfl (SL.cons (eR rfl) rfl VWk.rfl (SL.cons eZ rfl VWk.rfl SL.nil))) BL.nil BK.nil) ?_
      intro kb7 s6 H
      unfold laws_eqLockS_b6 at H
      refine AW.seq ?_
      refine AW.seq ?_
      refine AW.regs ?_
      refine oMov (eR rfl) ?_
      refine oMov (eS rfl eZ) ?_
      refine oLenD eZ (n := a1.length) (List.length_map _) ?_
      refine oLss (eR rfl) eZ ?_
      refine xNil ?_
      refine TQ.qn ?_
      rcases oite H with ⟨h8, H⟩ | ⟨h8, H⟩
      · refine AW.condT eZ (decide_eq_true h8) ?_
        refine AW.skip ?_
        refine TQ.qn ?_
        refine AW.seq ?_
        refine AW.block ?_
        refine AW.seq ?_
        refine AW.regd ?_
        refine oMov (eR rfl) ?_
        refine oMov (eR rfl) ?_
        obtain ⟨v9, h10, H⟩ := obind H
        refine oAtD (eS rfl eZ) eZ h10 ?_
        refine oLoadBA (es := [(.d (.int .i64 v9.Tx)), (.d (.int .i64 v9.Lo)), (.d (.int .i64 v9.Hi)), (.d (.int .i64 v9.Mode))]) eZ rfl ?_
        refine oMov (eR rfl) ?_
        refine oMov (eR rfl) ?_
        obtain ⟨v11, h12, H⟩ := obind H
        refine oAtD (eS rfl eZ) eZ h12 ?_
        refine oLoadBA (es := [(.d (.int .i64 v11.Tx)), (.d (.int .i64 v11.Lo)), (.d (.int .i64 v11.Hi)), (.d (.int .i64 v11.Mode))]) eZ rfl ?_
        obtain ⟨v13, h14, H⟩ := obind H
        refine oCall (u := (.one (.d (.bool v13)))) eC Cl.fn (c_laws_eqLock h14) (Evs.cons (eR rfl) (Evs.cons eZ Evs.nil)) (VDs.cons (VD.agg rfl) (VDs.cons (VD.agg rfl) VDs.nil)) rfl ?_
        refine oInv eZ ?_
        refine xNil ?_
        refine TQ.qn ?_
        refine AW.weaken (wk_mk [] (SL.cons (k := 26) eZ rfl VWk.rfl (SL.cons (k := 0) (eR rfl) rfl VWk.rfl (SL.cons (k := 1) (eR rfl) rfl VWk.rfl (SL.cons (k := 5) (eR rfl) rfl VWk.rfl SL.nil)))) BL.nil BK.nil) ?_
        rcases oite H with ⟨h15, H⟩ | ⟨h15, H⟩
        · refine AW.condF eZ (congrArg Bool.not h15) ?_
          refine AW.skip ?_
          refine BQ.qn ?_
          refine TQ.qn ?_
          refine AW.regs ?_
          refine oMov (eR rfl) ?_
          refine oAdd eZ eC ?_
          refine oMov eZ ?_
          refine xNil ?_
          exact TQ.qn ⟨(IntKind.wrap .i64 (s6 + 1)), H, (wk_mk [] (SL.cons (eR rfl) rfl VWk.rfl (SL.cons (eR rfl) rfl VWk.rfl (SL.cons eZ rfl VWk.rfl SL.nil))) BL.nil BK.nil)⟩
        · refine AW.condT eZ (congrArg Bool.not (nt h15)) ?_
          refine AW.seq ?_
          refine AW.regs ?_
          refine oMov eC ?_
          refine xNil ?_
          refine TQ.qn ?_
          refine AW.ret ?_
          refine BQ.qr ?_
          refine TQ.qr ?_
          refine TQ.qr ?_
          refine BQ.qr ?_
          refine TQ.qr ?_
          obtain rfl := Option.some.inj H
          exact endsR (RL.cons (RV.tmp eZ) (VO.flat rfl) RL.nil) List.nodup_nil
      · refine AW.condF eZ (decide_eq_false h8) ?_
        refine AW.exit ?_
        refine TQ.qe ?_
        refine TQ.qe ?_
        refine BQ.qe ?_
        exact TQ.qn ⟨(), H, (wk_mk [] SL.nil BL.nil BK.nil)⟩

theorem c_laws_eqIntS {a1 : (List Int)} {a2 : (List Int)} {r : Bool} (H : m_laws_eqIntS a1 a2 = some r) : Fn Try.prog k_laws_eqIntS (lent [(.sl 1 (List.map d_i64 a1)), (.sl 1 (List.map d_i64 a2))]) true [(.bool r)] := by
  refine i_laws_eqIntS_fn (Nat.le_of_ble_eq_true rfl) ?_
  rw [init_mk]
  refine AW.weaken (wk_mk [] (SL.cons (v := (.one (.d (.sl 1 (List.map d_i64 a1))))) eZ rfl VWk.rfl (SL.cons (v := (.one (.d (.sl 1 (List.map d_i64 a2))))) (eS rfl eZ) rfl VWk.rfl SL.nil)) BL.nil BK.nil) ?_
  unfold m_laws_eqIntS at H
  unfold i_laws_eqIntS
  refine AW.seq ?_
  refine AW.regs ?_
  refine oMov eC ?_
  refine xNil ?_
  refine TQ.qn ?_
  refine AW.seq ?_
  refine AW.seq ?_
  refine AW.regs ?_
  refine oMov (eS rfl eZ) ?_
  refine oLenD eZ (n := a1.length) (List.length_map _) ?_
  refine oMov (eR rfl) ?_
  refine oLenD eZ (n := a2.length) (List.length_map _) ?_
  refine oNeq (eR rfl) eZ ?_
  refine xNil ?_
  refine TQ.qn ?_
  rcases oite H with ⟨h3, H⟩ | ⟨h3, H⟩
  · refine AW.condT eZ (decide_eq_true h3) ?_
    refine AW.seq ?_
    refine AW.regs ?_
    refine oMov eC ?_
    refine xNil ?_
    refine TQ.qn ?_
    refine AW.ret ?_
    refine TQ.qr ?_
    obtain rfl := Option.some.inj H
    exact endsR (RL.cons (RV.tmp eZ) (VO.flat rfl) RL.nil) List.nodup_nil
  · refine AW.condF eZ (decide_eq_false h3) ?_
    refine AW.skip ?_
    refine TQ.qn ?_
    refine AW.seqJ (fun t4 : Unit => laws_eqIntS_j4 t4 = some r) (fun t4 => mk [] [] noG) ?_ ?_
    · intro t4 H
      unfold laws_eqIntS_j4 at H
      refine AW.seq ?_
      refine AW.regs ?_
      refine oMov eC ?_
      refine xNil ?_
      refine TQ.qn ?_
      refine AW.ret ?_
      obtain rfl := Option.some.inj H
      exact endsR (RL.cons (RV.tmp eZ) (VO.flat rfl) RL.nil) List.nodup_nil
    · refine AW.seq ?_
      refine AW.regs ?_
      refine oMov eC ?_
      refine xNil ?_
      refine TQ.qn ?_
      refine AW.block ?_
      refine AW.iter (fun s6 : Int => mk [(0, (.one (.d (.sl 1 (List.map d_i64 a1))))), (1, (.one (.d (.sl 1 (List.map d_i64 a2))))), (5, (.one (.d (.int .i64 s6))))] [] noG) H (wk_mk [] (SL.cons (eR rfl) rfl VWk.rfl (SL.cons (eR rfl) rfl VWk.rfl (SL.cons eZ rfl VWk.rfl SL.nil))) BL.nil BK.nil) ?_
      intro kb7 s6 H
      unfold laws_eqIntS_b6 at H
      refine AW.seq ?_
      refine AW.seq ?_
      refine AW.regs ?_
      refine oMov (eR rfl) ?_
      refine oMov (eS rfl eZ) ?_
      refine oLenD eZ (n := a1.length) (List.length_map _) ?_
      refine oLss (eR rfl) eZ ?_
      refine xNil ?_
      refine TQ.qn ?_
      rcases oite H with ⟨h8, H⟩ | ⟨h8, H⟩
      · refine AW.condT eZ (decide_eq_true h8) ?_
        refine AW.skip ?_
        refine TQ.qn ?_
        refine AW.seq ?_
        refine AW.block ?_
        refine AW.seq ?_
        refine AW.regd ?_
        refine oMov (eR rfl) ?_
        refine oMov (eR rfl) ?_
        obtain ⟨v9, h10, H⟩ := obind H
        refine oAtD (eS rfl eZ) eZ h10 ?_
        refine oLoadB (e := (.int .i64 v9)) eZ rfl ?_
        refine oMov (eR rfl) ?_
        refine oMov (eR rfl) ?_
        obtain ⟨v11, h12, H⟩ := obind H
        refine oAtD (eS rfl eZ) eZ h12 ?_
        refine oLoadB (e := (.int .i64 v11)) eZ rfl ?_
        refine oNeq (eR rfl) eZ ?_
        refine xNil ?_
        refine TQ.qn ?_
        refine AW.weaken (wk_mk [] (SL.cons (k := 25) eZ rfl VWk.rfl (SL.cons (k := 0) (eR rfl) rfl VWk.rfl (SL.cons (k := 1) (eR rfl) rfl VWk.rfl (SL.cons (k := 5) (eR rfl) rfl VWk.rfl SL.nil)))) BL.nil BK.nil) ?_
        rcases oite H with ⟨h13, H⟩ | ⟨h13, H⟩
        · refine AW.condT eZ (decide_eq_true h13) ?_
          refine AW.seq ?_
          refine AW.regs ?_
          refine oMov eC ?_
          refine xNil ?_
          refine TQ.qn ?_
          refine AW.ret ?_
          refine BQ.qr ?_
          refine TQ.qr ?_
          refine TQ.qr ?_
          refine BQ.qr ?_
          refine TQ.qr ?_
          obtain rfl := Option.some.inj H
          exact endsR (RL.cons (RV.tmp eZ) (VO.flat rfl) RL.nil) List.nodup_nil
        · refine AW.condF eZ (decide_eq_false h13) ?_
          refine AW.skip ?_
          refine BQ.qn ?_
          refine TQ.qn ?_
          refine AW.regs ?_
          refine oMov (eR rfl) ?_
          refine oAdd eZ eC ?_
          refine oMov eZ ?_
          refine xNil ?_
          exact TQ.qn ⟨(IntKind.wrap .i64 (s6 + 1)), H, (wk_mk [] (SL.cons (eR rfl) rfl VWk.rfl (SL.cons (eR rfl) rfl VWk.rfl (SL.cons eZ rfl VWk.rfl SL.nil))) BL.nil BK.nil)⟩
      · refine AW.condF eZ (decide_eq_false h8) ?_
        refine AW.exit ?_
        refine TQ.qe ?_
        refine TQ.qe ?_
        refine BQ.qe ?_
        exact TQ.qn ⟨(), H, (wk_mk [] SL.nil BL.nil BK.nil)⟩

theorem c_laws_markLockS {a1 : (List TLock)} {a2 : Int} {r : (Int × (List TLock))} (H : m_laws_markLockS a1 a2 = some r) : Fn Try.prog k_laws_markLockS [⟨(.sl 4 (List.map d_TLock a1)), .m (.sl 4 (List.map d_TLock r.2))⟩, ⟨(.int .i64 a2), .b⟩] true [(.int .i64 r.1)] := by
  refine i_laws_markLockS_fnM (Nat.le_of_ble_eq_true rfl) (fC nZ rfl fN) rfl ?_
  rw [initM_mk]
  refine AW.weaken (t := mk [(0, (.one (.sl 0 0 a1.length))), (1, (.one (.d (.int .i64 a2))))] [(0, (.data 4 (List.map d_TLock a1) true none))] (lk [(0, (.one (.sl 0 0 ((List.map d_TLock a1).length))))])) (wk_mkG (gl := [(0, (.one (.sl 0 0 ((List.map d_TLock a1).length))))]) [] (SL.cons (v := (.one (.sl 0 0 a1.length))) eZ rfl (VWk.one (CWk.len (List.length_map _))) (SL.cons (v := (.one (.d (.int .i64 a2)))) (eS rfl eZ) rfl VWk.rfl SL.nil)) (BL.keep rfl BL.nil) (BK.cons (n := 0) rfl bZ rfl rfl BK.nil) (GK.cons rfl GK.nil)) ?_
  unfold m_laws_markLockS at H
  unfold i_laws_markLockS
  refine AW.seq ?_
  refine AW.regs ?_
  refine oMov eC ?_
  refine xNil ?_
  refine TQ.qn ?_
  refine AW.seqJ (fun t3 : ((List TLock) × Int) => (laws_markLockS_j3 a1) t3 = some r) (fun t3 => mk [(1, (.one (.d (.int .i64 t3.2))))] [(0, (.data 4 (List.map d_TLock t3.1) true none))] (lk [(0, (.one (.sl 0 0 ((List.map d_TLock a1).length))))])) ?_ ?_
  · intro t3 H
    unfold laws_markLockS_j3 at H
    refine AW.seq ?_
    refine AW.regs ?_
    refine oMov eZ ?_
    refine oMov eZ ?_
    refine xNil ?_
    refine TQ.qn ?_
    refine AW.ret ?_
    obtain ⟨h5, H⟩ := oguard H
    obtain rfl := Option.some.inj H
    exact endsRM (RL.cons (RV.tmp eZ) (VO.flat rfl) RL.nil) (ML.mut eZ (VO.sl bZ (by first | (simp; done) | (simp; omega) | omega) (allFlat fun _ => rfl)) (ML.lent ML.nil)) (by decide)
  · refine AW.seq ?_
    refine AW.regs ?_
    refine oMov eC ?_
    refine xNil ?_
    refine TQ.qn ?_
    refine AW.block ?_
    refine AW.iter (fun s6 : ((List TLock) × Int × Int) => mk [(0, (.one (.sl 0 0 s6.1.length))), (1, (.one (.d (.int .i64 s6.2.1)))), (5, (.one (.d (.int .i64 s6.2.2))))] [(0, (.data 4 (List.map d_TLock s6.1) true none))] (lk [(0, (.one (.sl 0 0 ((List.map d_TLock a1).length))))])) H (wk_mkG [] (SL.cons (eR rfl) rfl VWk.rfl (SL.cons (eR rfl) rfl VWk.rfl (SL.cons eZ rfl VWk.rfl SL.nil))) (BL.keep rfl BL.nil) (BK.cons rfl bZ rfl rfl BK.nil) (GK.cons rfl GK.nil)) ?_
    intro kb7 s6 H
    unfold laws_markLockS_b6 at H
    refine AW.seq ?_
    refine AW.seq ?_
    refine AW.regs ?_
    refine oMov (eR rfl) ?_
    refine oMov (eS rfl eZ) ?_
    refine oLenN eZ ?_
    refine oLss (eR rfl) eZ ?_
    refine xNil ?_
    refine TQ.qn ?_
    rcases oite H with ⟨h8, H⟩ | ⟨h8, H⟩
    · refine AW.condT eZ (decide_eq_true h8) ?_
      refine AW.skip ?_
      refine TQ.qn ?_
      refine AW.seq ?_
      refine AW.block ?_
      refine AW.seq ?_
      refine AW.regs ?_
      refine oMov (eR rfl) ?_
      refine oMov (eR rfl) ?_
      refine oMov (eR rfl) ?_
      obtain ⟨v9, h10, H⟩ := obind H
      refine oAtN (eR rfl) (eS rfl eZ) bZ rfl h10 ?_
      refine oFaddrN (m := 0) eZ rfl ?_
      refine oStoreD (t := v9) (t' := (TLock.mk s6.2.1 v9.Lo v9.Hi v9.Mode)) (es := [(.int .i64 s6.2.1)]) eZ (eR rfl) rfl rfl bZ (idx_at h10) rfl rfl ?_
      refine xNil ?_
      refine TQ.qn ?_
      refine AW.seq ?_
      refine AW.regs ?_
      refine oMov (eR rfl) ?_
      refine oAdd eZ eC ?_
      refine oMov eZ ?_
      refine xNil ?_
      refine TQ.qn ?_
      refine AW.seq ?_
      refine AW.regs ?_
      refine oMov (eR rfl) ?_
      refine oMov (eR rfl) ?_
      refine oMov (eR rfl) ?_
      obtain ⟨v11, h12, H⟩ := obind H
      refine oAtN (eR rfl) (eS rfl eZ) bZ (by first | (simp; done) | (simp; omega) | omega) h12 ?_
      refine oFaddrN (m := 1) eZ rfl ?_
      refine oStoreD (t := v11) (t' := (TLock.mk v11.Tx (IntKind.wrap .i64 (s6.2.1 + 1)) v11.Hi v11.Mode)) (es := [(.int .i64 (IntKind.wrap .i64 (s6.2.1 + 1)))]) eZ (eR rfl) rfl rfl bZ (idx_at h12) rfl rfl ?_
      refine xNil ?_
      refine TQ.qn ?_
      refine AW.weaken (wk_mkG [] (SL.cons (k := 1) (eR rfl) rfl VWk.rfl (SL.cons (k := 0) (eR rfl) rfl VWk.rfl (SL.cons (k := 5) (eR rfl) rfl VWk.rfl SL.nil))) (BL.keep rfl (BL.keep rfl (BL.keep rfl BL.nil))) (BK.cons (n := 0) rfl bZ rfl rfl BK.nil) (GK.cons rfl GK.nil)) ?_
      refine AW.seq ?_
      refine AW.regs ?_
      refine oMov eZ ?_
      refine oAdd eZ eC ?_
      refine oMov eZ ?_
      refine xNil ?_
      refine TQ.qn ?_
      refine AW.seq ?_
      refine AW.regs ?_
      refine oMov (eR rfl) ?_
      refine oMov (eR rfl) ?_
      refine oMov (eR rfl) ?_
      obtain ⟨v13, h14, H⟩ := obind H
      refine oAtN (eR rfl) (eS rfl eZ) bZ (by first | (simp; done) | (simp; omega) | omega) h14 ?_
      refine oFaddrN (m := 2) eZ rfl ?_
      refine oStoreD (t := v13) (t' := (TLock.mk v13.Tx v13.Lo (IntKind.wrap .i64 ((IntKind.wrap .i64 (s6.2.1 + 1)) + 1)) v13.Mode)) (es := [(.int .i64 (IntKind.wrap .i64 ((IntKind.wrap .i64 (s6.2.1 + 1)) + 1)))]) eZ (eR rfl) rfl rfl bZ (idx_at h14) rfl rfl ?_
      refine xNil ?_
      refine TQ.qn ?_
      refine AW.seq ?_
      refine AW.regs ?_
      refine oMov (eR rfl) ?_
      refine oAdd eZ eC ?_
      refine oMov eZ ?_
      refine xNil ?_
      refine TQ.qn ?_
      refine AW.seq ?_
      refine AW.regs ?_
      refine oMov (eR rfl) ?_
      refine oMov (eR rfl) ?_
      refine oMov (eR rfl) ?_
      obtain ⟨v15, h16, H⟩ := obind H
      refine oAtN (eR rfl) (eS rfl eZ) bZ (by first | (simp; done) | (simp; omega) | omega) h16 ?_
      refine oFaddrN (m := 3) eZ rfl ?_
      refine oStoreD (t := v15) (t' := (TLock.mk v15.Tx v15.Lo v15.Hi (IntKind.wrap .i64 ((IntKind.wrap .i64 ((IntKind.wrap .i64 (s6.2.1 + 1)) + 1)) + 1)))) (es := [(.int .i64 (IntKind.wrap .i64 ((IntKind.wrap .i64 ((IntKind.wrap .i64 (s6.2.1 + 1)) + 1)) + 1)))]) eZ (eR rfl) rfl rfl bZ (idx_at h16) rfl rfl ?_
      refine xNil ?_
      refine TQ.qn ?_
      refine AW.weaken (wk_mkG [] (SL.cons (k := 1) (eR rfl) rfl VWk.rfl (SL.cons (k := 0) (eR rfl) rfl VWk.rfl (SL.cons (k := 5) (eR rfl) rfl VWk.rfl SL.nil))) (BL.keep rfl (BL.keep rfl (BL.keep rfl BL.nil))) (BK.cons (n := 0) rfl bZ rfl rfl BK.nil) (GK.cons rfl GK.nil)) ?_
      refine AW.regs ?_
      refine oMov eZ ?_
      refine oAdd eZ eC ?_
      refine oMov eZ ?_
      refine xNil ?_
      refine BQ.qn ?_
      refine TQ.qn ?_
      refine AW.regs ?_
      refine oMov (eR rfl) ?_
      refine oAdd eZ eC ?_
      refine oMov eZ ?_
      refine xNil ?_
      exact TQ.qn ⟨((((s6.1.set (Int.toNat s6.2.2) (TLock.mk s6.2.1 v9.Lo v9.Hi v9.Mode)).set (Int.toNat s6.2.2) (TLock.mk v11.Tx (IntKind.wrap .i64 (s6.2.1 + 1)) v11.Hi v11.Mode)).set (Int.toNat s6.2.2) (TLock.mk v13.Tx v13.Lo (IntKind.wrap .i64 ((IntKind.wrap .i64 (s6.2.1 + 1)) + 1)) v13.Mode)).set (Int.toNat s6.2.2) (TLock.mk v15.Tx v15.Lo v15.Hi (IntKind.wrap .i64 ((IntKind.wrap .i64 ((IntKind.wrap .i64 (s6.2.1 + 1)) + 1)) + 1))), (IntKind.wrap .i64 ((IntKind.wrap .i64 ((IntKind.wrap .i64 ((IntKind.wrap .i64 (s6.2.1 + 1)) + 1)) + 1)) + 1)), (IntKind.wrap .i64 (s6.2.2 + 1))), H, (wk_mkG [] (SL.cons (eR rfl) rfl (VWk.one (CWk.len (by first | (simp; done) | (simp; omega) | omega))) (SL.cons (eR rfl) rfl VWk.rfl (SL.cons eZ rfl VWk.rfl SL.nil))) (BL.keep rfl BL.nil) (BK.cons rfl bZ rfl rfl BK.nil) (GK.cons rfl GK.nil))⟩
    · refine AW.condF eZ (decide_eq_false h8) ?_
      refine AW.exit ?_
      refine TQ.qe ?_
      refine TQ.qe ?_
      refine BQ.qe ?_
      exact TQ.qn ⟨(s6.1, s6.2.1), H, (wk_mkG [] (SL.cons (eR rfl) rfl VWk.rfl SL.nil) (BL.keep rfl BL.nil) (BK.cons rfl bZ rfl rfl BK.nil) (GK.cons rfl GK.nil))⟩

theorem c_laws_markIntS {a1 : (List Int)} {a2 : Int} {r : (Int × (List Int))} (H : m_laws_markIntS a1 a2 = some r) : Fn Try.prog k_laws_markIntS [⟨(.sl 1 (List.map d_i64 a1)), .m (.sl 1 (List.map d_i64 r.2))⟩, ⟨(.int .i64 a2), .b⟩] true [(.int .i64 r.1)] := by
  refine i_laws_markIntS_fnM (Nat.le_of_ble_eq_true rfl) (fC nZ rfl fN) rfl ?_
  rw [initM_mk]
  refine AW.weaken (t := mk [(0, (.one (.sl 0 0 a1.length))), (1, (.one (.d (.int .i64 a2))))] [(0, (.data 1 (List.map d_i64 a1) true none))] (lk [(0, (.one (.sl 0 0 ((List.map d_i64 a1).length))))])) (wk_mkG (gl := [(0, (.one (.sl 0 0 ((List.map d_i64 a1).length))))]) [] (SL.cons (v := (.one (.sl 0 0 a1.length))) eZ rfl (VWk.one (CWk.len (List.length_map _))) (SL.cons (v := (.one (.d (.int .i64 a2)))) (eS rfl eZ) rfl VWk.rfl SL.nil)) (BL.keep rfl BL.nil) (BK.cons (n := 0) rfl bZ rfl rfl BK.nil) (GK.cons rfl GK.nil)) ?_
  unfold m_laws_markIntS at H
  unfold i_laws_markIntS
  refine AW.seq ?_
  refine AW.regs ?_
  refine oMov eC ?_
  refine xNil ?_
  refine TQ.qn ?_
  refine AW.seqJ (fun t3 : ((List Int) × Int) => (laws_markIntS_j3 a1) t3 = some r) (fun t3 => mk [(1, (.one (.d (.int .i64 t3.2))))] [(0, (.data 1 (List.map d_i64 t3.1) true none))] (lk [(0, (.one (.sl 0 0 ((List.map d_i64 a1).length))))])) ?_ ?_
  · intro t3 H
    unfold laws_markIntS_j3 at H
    refine AW.seq ?_
    refine AW.regs ?_
    refine oMov eZ ?_
    refine oMov eZ ?_
    refine xNil ?_
    refine TQ.qn ?_
    refine AW.ret ?_
    obtain ⟨h5, H⟩ := oguard H
    obtain rfl := Option.some.inj H
    exact endsRM (RL.cons (RV.tmp eZ) (VO.flat rfl) RL.nil) (ML.mut eZ (VO.sl bZ (by first | (simp; done) | (simp; omega) | omega) (allFlat fun _ => rfl)) (ML.lent ML.nil)) (by decide)
  · refine AW.seq ?_
    refine AW.regs ?_
    refine oMov eC ?_
    refine xNil ?_
    refine TQ.qn ?_
    refine AW.block ?_
    refine AW.iter (fun s6 : ((List Int) × Int × Int) => mk [(0, (.one (.sl 0 0 s6.1.length))), (1, (.one (.d (.int .i64 s6.2.1)))), (5, (.one (.d (.int .i64 s6.2.2))))] [(0, (.data 1 (List.map d_i64 s6.1) true none))] (lk [(0, (.one (.sl 0 0 ((List.map d_i64 a1).length))))])) H (wk_mkG [] (SL.cons (eR rfl) rfl VWk.rfl (SL.cons (eR rfl) rfl VWk.rfl (SL.cons eZ rfl VWk.rfl SL.nil))) (BL.keep rfl BL.nil) (BK.cons rfl bZ rfl rfl BK.nil) (GK.cons rfl GK.nil)) ?_
    intro kb7 s6 H
    unfold laws_markIntS_b6 at H
    refine AW.seq ?_
    refine AW.seq ?_
    refine AW.regs ?_
    refine oMov (eR rfl) ?_
    refine oMov (eS rfl eZ) ?_
    refine oLenN eZ ?_
    refine oLss (eR rfl) eZ ?_
    refine xNil ?_
    refine TQ.qn ?_
    rcases oite H with ⟨h8, H⟩ | ⟨h8, H⟩
    · refine AW.condT eZ (decide_eq_true h8) ?_
      refine AW.skip ?_
      refine TQ.qn ?_
      refine AW.seq ?_
      refine AW.block ?_
      refine AW.seq ?_
      refine AW.regs ?_
      refine oMov (eR rfl) ?_
      refine oMov (eR rfl) ?_
      refine oMov (eR rfl) ?_
      obtain ⟨v9, h10, H⟩ := obind H
      refine oAtN (eR rfl) (eS rfl eZ) bZ rfl h10 ?_
      refine oStoreD (t := v9) (t' := s6.2.1) (es := [(.int .i64 s6.2.1)]) eZ (eS rfl eZ) rfl rfl bZ (idx_at h10) rfl rfl ?_
      refine xNil ?_
      refine TQ.qn ?_
      refine AW.regs ?_
      refine oMov (eR rfl) ?_
      refine oAdd eZ eC ?_
      refine oMov eZ ?_
      refine xNil ?_
      refine BQ.qn ?_
      refine TQ.qn ?_
      refine AW.regs ?_
      refine oMov (eR rfl) ?_
      refine oAdd eZ eC ?_
      refine oMov eZ ?_
      refine xNil ?_
      exact TQ.qn ⟨(s6.1.set (Int.toNat s6.2.2) s6.2.1, (IntKind.wrap .i64 (s6.2.1 + 1)), (IntKind.wrap .i64 (s6.2.2 + 1))), H, (wk_mkG [] (SL.cons (eR rfl) rfl (VWk.one (CWk.len (by first | (simp; done) | (simp; omega) | omega))) (SL.cons (eR rfl) rfl VWk.rfl (SL.cons eZ rfl VWk.rfl SL.nil))) (BL.keep rfl (BL.keep rfl BL.nil)) (BK.cons rfl bZ rfl rfl BK.nil) (GK.cons rfl GK.nil))⟩
    · refine AW.condF eZ (decide_eq_false h8) ?_
      refine AW.exit ?_
      refine TQ.qe ?_
      refine TQ.qe ?_
      refine BQ.qe ?_
      exact TQ.qn ⟨(s6.1, s6.2.1), H, (wk_mkG [] (SL.cons (eR rfl) rfl VWk.rfl SL.nil) (BL.keep rfl BL.nil) (BK.cons rfl bZ rfl rfl BK.nil) (GK.cons rfl GK.nil))⟩

theorem c_laws_heldLockS {a1 : (List TLock)} {a2 : Int} {r : Int} (H : m_laws_heldLockS a1 a2 = some r) : Fn Try.prog k_laws_heldLockS (lent [(.sl 4 (List.map d_TLock a1)), (.int .i64 a2)]) true [(.int .i64 r)] := by
  refine i_laws_heldLockS_fn (Nat.le_of_ble_eq_true rfl) ?_
  rw [init_mk]
  refine AW.weaken (wk_mk [] (SL.cons (v := (.one (.d (.sl 4 (List.map d_TLock a1))))) eZ rfl VWk.rfl (SL.cons (v := (.one (.d (.int .i64 a2)))) (eS rfl eZ) rfl VWk.rfl SL.nil)) BL.nil BK.nil) ?_
  unfold m_laws_heldLockS at H
  unfold i_laws_heldLockS
  refine AW.seq ?_
  refine AW.regs ?_
  refine oMov eC ?_
  refine xNil ?_
  refine TQ.qn ?_
  refine AW.seqJ (fun t3 : Int => laws_heldLockS_j3 t3 = some r) (fun t3 => mk [(1, (.one (.d (.int .i64 t3))))] [] noG) ?_ ?_
  · intro t3 H
    unfold laws_heldLockS_j3 at H
    refine AW.seq ?_
    refine AW.regs ?_
    refine oMov eZ ?_
    refine oMov eZ ?_
    refine xNil ?_
    refine TQ.qn ?_
    refine AW.ret ?_
    obtain rfl := Option.some.inj H
    exact endsR (RL.cons (RV.tmp eZ) (VO.flat rfl) RL.nil) List.nodup_nil
  · refine AW.seq ?_
    refine AW.regs ?_
    refine oMov eC ?_
    refine xNil ?_
    refine TQ.qn ?_
    refine AW.block ?_
    refine AW.iter (fun s5 : (Int × Int) => mk [(0, (.one (.d (.sl 4 (List.map d_TLock a1))))), (1, (.one (.d (.int .i64 s5.1)))), (5, (.one (.d (.int .i64 s5.2))))] [] noG) H (wk_mk [] (SL.cons (eR rfl) rfl VWk.rfl (SL.cons (eR rfl) rfl VWk.rfl (SL.cons eZ rfl VWk.rfl SL.nil))) BL.nil BK.nil) ?_
    intro kb6 s5 H
    unfold laws_heldLockS_b5 at H
    refine AW.seq ?_
    refine AW.seq ?_
    refine AW.regs ?_
    refine oMov (eR rfl) ?_
    refine oMov (eS rfl eZ) ?_
    refine oLenD eZ (n := a1.length) (List.length_map _) ?_
    refine oLss (eR rfl) eZ ?_
    refine xNil ?_
    refine TQ.qn ?_
    rcases oite H with ⟨h7, H⟩ | ⟨h7, H⟩
    · refine AW.condT eZ (decide_eq_true h7) ?_
      refine AW.skip ?_
      refine TQ.qn ?_
      refine AW.seq ?_
      refine AW.block ?_
      refine AW.seq ?_
      refine AW.seq ?_
      refine AW.regs ?_
      refine oMov (eR rfl) ?_
      refine oMov (eR rfl) ?_
      obtain ⟨v8, h9, H⟩ := obind H
      refine oAtD (eS rfl eZ) eZ h9 ?_
      refine oFaddrB (m := 0) eZ rfl ?_
      refine oLoadB (e := (.int .i64 v8.Tx)) eZ rfl ?_
      refine oMov (eR rfl) ?_
      refine oNeq (eS rfl eZ) eZ ?_
      refine xNil ?_
      refine TQ.qn ?_
      rcases oite H with ⟨h10, H⟩ | ⟨h10, H⟩
      · refine AW.condT eZ (decide_eq_true h10) ?_
        refine AW.seq ?_
        refine AW.regs ?_
        refine oMov eC ?_
        refine xNil ?_
        refine TQ.qn ?_
        refine AW.ret ?_
        refine TQ.qr ?_
        refine BQ.qr ?_
        refine TQ.qr ?_
        refine TQ.qr ?_
        refine BQ.qr ?_
        refine TQ.qr ?_
        obtain rfl := Option.some.inj H
        exact endsR (RL.cons (RV.tmp eZ) (VO.flat rfl) RL.nil) List.nodup_nil
      · refine AW.condF eZ (decide_eq_false h10) ?_
        refine AW.skip ?_
        refine TQ.qn ?_
        refine AW.seq ?_
        refine AW.regs ?_
        refine oMov (eR rfl) ?_
        refine oAdd eZ eC ?_
        refine oMov eZ ?_
        refine xNil ?_
        refine TQ.qn ?_
        refine AW.weaken (wk_mk [] (SL.cons (k := 1) eZ rfl VWk.rfl (SL.cons (k := 0) (eR rfl) rfl VWk.rfl (SL.cons (k := 5) (eR rfl) rfl VWk.rfl SL.nil))) BL.nil BK.nil) ?_
        refine AW.seq ?_
        refine AW.seq ?_
        refine AW.regs ?_
        refine oMov (eS rfl eZ) ?_
        refine oMov (eR rfl) ?_
        obtain ⟨v11, h12, H⟩ := obind H
        refine oAtD (eS rfl eZ) eZ h12 ?_
        refine oFaddrB (m := 1) eZ rfl ?_
        refine oLoadB (e := (.int .i64 v11.Lo)) eZ rfl ?_
        refine oMov (eR rfl) ?_
        refine oNeq (eS rfl eZ) eZ ?_
        refine xNil ?_
        refine TQ.qn ?_
        rcases oite H with ⟨h13, H⟩ | ⟨h13, H⟩
        · refine AW.condT eZ (decide_eq_true h13) ?_
          refine AW.seq ?_
          refine AW.regs ?_
          refine oMov eC ?_
          refine xNil ?_
          refine TQ.qn ?_
          refine AW.ret ?_
          refine TQ.qr ?_
          refine BQ.qr ?_
          refine TQ.qr ?_
          refine TQ.qr ?_
          refine BQ.qr ?_
          refine TQ.qr ?_
          obtain rfl := Option.some.inj H
          exact endsR (RL.cons (RV.tmp eZ) (VO.flat rfl) RL.nil) List.nodup_nil
        · refine AW.condF eZ (decide_eq_false h13) ?_
          refine AW.skip ?_
          refine TQ.qn ?_
          refine AW.seq ?_
          refine AW.regs ?_
          refine oMov (eR rfl) ?_
          refine oAdd eZ eC ?_
          refine oMov eZ ?_
          refine xNil ?_
          refine TQ.qn ?_
          refine AW.seq ?_
          refine AW.seq ?_
          refine AW.regs ?_
          refine oMov (eR rfl) ?_
          refine oMov (eR rfl) ?_
          obtain ⟨v14, h15, H⟩ := obind H
          refine oAtD (eS rfl eZ) eZ h15 ?_
          refine oFaddrB (m := 2) eZ rfl ?_
          refine oLoadB (e := (.int .i64 v14.Hi)) eZ rfl ?_
          refine oMov (eR rfl) ?_
          refine oNeq (eS rfl eZ) eZ ?_
          refine xNil ?_
          refine TQ.qn ?_
          refine AW.weaken (wk_mk [] (SL.cons (k := 36) eZ rfl VWk.rfl (SL.cons (k := 1) (eR rfl) rfl VWk.rfl (SL.cons (k := 0) (eR rfl) rfl VWk.rfl (SL.cons (k := 5) (eR rfl) rfl VWk.rfl SL.nil)))) BL.nil BK.nil) ?_
          rcases oite H with ⟨h16, H⟩ | ⟨h16, H⟩
          · refine AW.condT eZ (decide_eq_true h16) ?_
            refine AW.seq ?_
            refine AW.regs ?_
            refine oMov eC ?_
            refine xNil ?_
            refine TQ.qn ?_
            refine AW.ret ?_
            refine TQ.qr ?_
            refine BQ.qr ?_
            refine TQ.qr ?_
            refine TQ.qr ?_
            refine BQ.qr ?_
            refine TQ.qr ?_
            obtain rfl := Option.some.inj H
            exact endsR (RL.cons (RV.tmp eZ) (VO.flat rfl) RL.nil) List.nodup_nil
          · refine AW.condF eZ (decide_eq_false h16) ?_
            refine AW.skip ?_
            refine TQ.qn ?_
            refine AW.seq ?_
            refine AW.regs ?_
            refine oMov (eS rfl eZ) ?_
            refine oAdd eZ eC ?_
            refine oMov eZ ?_
            refine xNil ?_
            refine TQ.qn ?_
            refine AW.seq ?_
            refine AW.seq ?_
            refine AW.regs ?_
            refine oMov (eR rfl) ?_
            refine oMov (eR rfl) ?_
            obtain ⟨v17, h18, H⟩ := obind H
            refine oAtD (eS rfl eZ) eZ h18 ?_
            refine oFaddrB (m := 3) eZ rfl ?_
            refine oLoadB (e := (.int .i64 v17.Mode)) eZ rfl ?_
            refine oMov (eR rfl) ?_
            refine oNeq (eS rfl eZ) eZ ?_
            refine xNil ?_
            refine TQ.qn ?_
            rcases oite H with ⟨h19, H⟩ | ⟨h19, H⟩
            · refine AW.condT eZ (decide_eq_true h19) ?_
              refine AW.seq ?_
              refine AW.regs ?_
              refine oMov eC ?_
              refine xNil ?_
              refine TQ.qn ?_
              refine AW.ret ?_
              refine TQ.qr ?_
              refine BQ.qr ?_
              refine TQ.qr ?_
              refine TQ.qr ?_
              refine BQ.qr ?_
              refine TQ.qr ?_
              obtain rfl := Option.some.inj H
              exact endsR (RL.cons (RV.tmp eZ) (VO.flat rfl) RL.nil) List.nodup_nil
            · refine AW.condF eZ (decide_eq_false h19) ?_
              refine AW.skip ?_
              refine TQ.qn ?_
              refine AW.regs ?_
              refine oMov (eR rfl) ?_
              refine oAdd eZ eC ?_
              refine oMov eZ ?_
              refine xNil ?_
              refine BQ.qn ?_
              refine TQ.qn ?_
              refine AW.weaken (wk_mk [] (SL.cons (k := 1) eZ rfl VWk.rfl (SL.cons (k := 0) (eR rfl) rfl VWk.rfl (SL.cons (k := 5) (eR rfl) rfl VWk.rfl SL.nil))) BL.nil BK.nil) ?_
              refine AW.regs ?_
              refine oMov (eR rfl) ?_
              refine oAdd eZ eC ?_
              refine oMov eZ ?_
              refine xNil ?_
              exact TQ.qn ⟨((IntKind.wrap .i64 ((IntKind.wrap .i64 ((IntKind.wrap .i64 ((IntKind.wrap .i64 (s5.1 + 1)) + 1)) + 1)) + 1)), (IntKind.wrap .i64 (s5.2 + 1))), H, (wk_mk [] (SL.cons (eR rfl) rfl VWk.rfl (SL.cons (eR rfl) rfl VWk.rfl (SL.cons eZ rfl VWk.rfl SL.nil))) BL.nil BK.nil)⟩
    · refine AW.condF eZ (decide_eq_false h7) ?_
      refine AW.exit ?_
      refine TQ.qe ?_
      refine TQ.qe ?_
      refine BQ.qe ?_
      exact TQ.qn ⟨s5.1, H, (wk_mk [] (SL.cons (eR rfl) rfl VWk.rfl SL.nil) BL.nil BK.nil)⟩

theorem c_laws_heldIntS {a1 : (List Int)} {a2 : Int} {r : Int} (H : m_laws_heldIntS a1 a2 = some r) : Fn Try.prog k_laws_heldIntS (lent [(.sl 1 (List.map d_i64 a1)), (.int .i64 a2)]) true [(.int .i64 r)] := by
  refine i_laws_heldIntS_fn (Nat.le_of_ble_eq_true rfl) ?_
  rw [init_mk]
  refine AW.weaken (wk_mk [] (SL.cons (v := (.one (.d (.sl 1 (List.map d_i64 a1))))) eZ rfl VWk.rfl (SL.cons (v := (.one (.d (.int .i64 a2)))) (eS rfl eZ) rfl VWk.rfl SL.nil)) BL.nil BK.nil) ?_
  unfold m_laws_heldIntS at H
  unfold i_laws_heldIntS
  refine AW.seq ?_
  refine AW.regs ?_
  refine oMov eC ?_
  refine xNil ?_
  refine TQ.qn ?_
  refine AW.seqJ (fun t3 : Int => laws_heldIntS_j3 t3 = some r) (fun t3 => mk [(1, (.one (.d (.int .i64 t3))))] [] noG) ?_ ?_
  · intro t3 H
    unfold laws_heldIntS_j3 at H
    refine AW.seq ?_
    refine AW.regs ?_
    refine oMov eZ ?_
    refine oMov eZ ?_
    refine xNil ?_
    refine TQ.qn ?_
    refine AW.ret ?_
    obtain rfl := Option.some.inj H
    exact endsR (RL.cons (RV.tmp eZ) (VO.flat rfl) RL.nil) List.nodup_nil
  · refine AW.seq ?_
    refine AW.regs ?_
    refine oMov eC ?_
    refine xNil ?_
    refine TQ.qn ?_
    refine AW.block ?_
    refine AW.iter (fun s5 : (Int × Int) => mk [(0, (.one (.d (.sl 1 (List.map d_i64 a1))))), (1, (.one (.d (.int .i64 s5.1)))), (5, (.one (.d (.int .i64 s5.2))))] [] noG) H (wk_mk [] (SL.cons (eR rfl) rfl VWk.rfl (SL.cons (eR rfl) rfl VWk.rfl (SL.cons eZ rfl VWk.rfl SL.nil))) BL.nil BK.nil) ?_
    intro kb6 s5 H
    unfold laws_heldIntS_b5 at H
    refine AW.seq ?_
    refine AW.seq ?_
    refine AW.regs ?_
    refine oMov (eR rfl) ?_
    refine oMov (eS rfl eZ) ?_
    refine oLenD eZ (n := a1.length) (List.length_map _) ?_
    refine oLss (eR rfl) eZ ?_
    refine xNil ?_
    refine TQ.qn ?_
    rcases oite H with ⟨h7, H⟩ | ⟨h7, H⟩
    · refine AW.condT eZ (decide_eq_true h7) ?_
      refine AW.skip ?_
      refine TQ.qn ?_
      refine AW.seq ?_
      refine AW.block ?_
      refine AW.seq ?_
      refine AW.seq ?_
      refine AW.regs ?_
      refine oMov (eR rfl) ?_
      refine oMov (eR rfl) ?_
      obtain ⟨v8, h9, H⟩ := obind H
      refine oAtD (eS rfl eZ) eZ h9 ?_
      refine oLoadB (e := (.int .i64 v8)) eZ rfl ?_
      refine oMov (eR rfl) ?_
      refine oNeq (eS rfl eZ) eZ ?_
      refine xNil ?_
      refine TQ.qn ?_
      rcases oite H with ⟨h10, H⟩ | ⟨h10, H⟩
      · refine AW.condT eZ (decide_eq_true h10) ?_
        refine AW.seq ?_
        refine AW.regs ?_
        refine oMov eC ?_
        refine xNil ?_
        refine TQ.qn ?_
        refine AW.ret ?_
        refine TQ.qr ?_
        refine BQ.qr ?_
        refine TQ.qr ?_
        refine TQ.qr ?_
        refine BQ.qr ?_
        refine TQ.qr ?_
        obtain rfl := Option.some.inj H
        exact endsR (RL.cons (RV.tmp eZ) (VO.flat rfl) RL.nil) List.nodup_nil
      · refine AW.condF eZ (decide_eq_false h10) ?_
        refine AW.skip ?_
        refine TQ.qn ?_
        refine AW.regs ?_
        refine oMov (eR rfl) ?_
        refine oAdd eZ eC ?_
        refine oMov eZ ?_
        refine xNil ?_
        refine BQ.qn ?_
        refine TQ.qn ?_
        refine AW.weaken (wk_mk [] (SL.cons (k := 1) eZ rfl VWk.rfl (SL.cons (k := 0) (eR rfl) rfl VWk.rfl (SL.cons (k := 5) (eR rfl) rfl VWk.rfl SL.nil))) BL.nil BK.nil) ?_
        refine AW.regs ?_
        refine oMov (eR rfl) ?_
        refine oAdd eZ eC ?_
        refine oMov eZ ?_
        refine xNil ?_
        exact TQ.qn ⟨((IntKind.wrap .i64 (s5.1 + 1)), (IntKind.wrap .i64 (s5.2 + 1))), H, (wk_mk [] (SL.cons (eR rfl) rfl VWk.rfl (SL.cons (eR rfl) rfl VWk.rfl (SL.cons eZ rfl VWk.rfl SL.nil))) BL.nil BK.nil)⟩
    · refine AW.condF eZ (decide_eq_false h7) ?_
      refine AW.exit ?_
      refine TQ.qe ?_
      refine TQ.qe ?_
      refine BQ.qe ?_
      exact TQ.qn ⟨s5.1, H, (wk_mk [] (SL.cons (eR rfl) rfl VWk.rfl SL.nil) BL.nil BK.nil)⟩

theorem c_laws_FnExactLockAsk {a1 : (List TLock)} {a2 : (List Int)} {a3 : Int} {a4 : TRange} {a5 : Int} {r : Bool} (H : m_laws_FnExactLockAsk a1 a2 a3 a4 a5 = some r) : Fn Try.prog k_laws_FnExactLockAsk (lent [(.sl 4 (List.map d_TLock a1)), (.sl 1 (List.map d_i64 a2)), (.int .i64 a3), (.agg (d_TRange a4)), (.int .i64 a5)]) true [(.bool r)] := by
  refine i_laws_FnExactLockAsk_fn (Nat.le_of_ble_eq_true rfl) ?_
  rw [init_mk]
  refine AW.weaken (t := mk [(0, (.one (.d (.sl 4 (List.map d_TLock a1))))), (1, (.one (.d (.sl 1 (List.map d_i64 a2))))), (2, (.one (.d (.int .i64 a3)))), (3, (.agg [(.d (.int .i64 a4.Lo)), (.d (.int .i64 a4.Hi))])), (4, (.one (.d (.int .i64 a5))))] [] (lk [])) (wk_mk [] (SL.cons (v := (.one (.d (.sl 4 (List.map d_TLock a1))))) eZ rfl VWk.rfl (SL.cons (v := (.one (.d (.sl 1 (List.map d_i64 a2))))) (eS rfl eZ) rfl VWk.rfl (SL.cons (v := (.one (.d (.int .i64 a3)))) (eS rfl (eS rfl eZ)) rfl VWk.rfl (SL.cons (v := (.agg [(.d (.int .i64 a4.Lo)), (.d (.int .i64 a4.Hi))])) (eS rfl (eS rfl (eS rfl eZ))) rfl VWk.rfl (SL.cons (v := (.one (.d (.int .i64 a5)))) (eS rfl (eS rfl (eS rfl (eS rfl eZ)))) rfl VWk.rfl SL.nil))))) BL.nil BK.nil) ?_
  unfold m_laws_FnExactLockAsk at H
  unfold i_laws_FnExactLockAsk
  refine AW.seq ?_
  refine AW.regs ?_
  refine oBox (n := 512) (m := 2) (cs := [(.d (.int .i64 a4.Lo)), (.d (.int .i64 a4.Hi))]) rfl (eR rfl) rfl rfl nZ ?_
  refine oMov eC ?_
  refine xNil ?_
  refine TQ.qn ?_
  refine AW.seq ?_
  refine AW.seq ?_
  refine AW.regs ?_
  refine oMov (eR rfl) ?_
  refine oLenD eZ (n := a2.length) (List.length_map _) ?_
  refine oGtr eZ eC ?_
  refine xNil ?_
  refine TQ.qn ?_
  rcases oite H with ⟨h6, H⟩ | ⟨h6, H⟩
  · refine AW.condT eZ (decide_eq_true h6) ?_
    refine AW.seq ?_
    refine AW.regs ?_
    refine oMov eC ?_
    refine xNil ?_
    refine TQ.qn ?_
    refine AW.ret ?_
    refine TQ.qr ?_
    obtain rfl := Option.some.inj H
    exact endsR (RL.cons (RV.tmp eZ) (VO.flat rfl) RL.nil) List.nodup_nil
  · refine AW.condF eZ (decide_eq_false h6) ?_
    refine AW.skip ?_
    refine TQ.qn ?_
    refine AW.seq ?_
    refine AW.regs ?_
    refine oMov eC ?_
    refine xNil ?_
    refine TQ.qn ?_
    refine AW.seq ?_
    refine AW.regs ?_
    refine oMov (eR rfl) ?_
    refine oMov (eS rfl eZ) ?_
    obtain ⟨v7, h8, H⟩ := obind H
    refine oCall (u := (.one (.d (.int .i64 v7)))) eC Cl.fn (c_laws_szLockS h8) (Evs.cons (eS rfl eZ) (Evs.cons eZ Evs.nil)) (VDs.cons VD.plain (VDs.cons VD.plain VDs.nil)) rfl ?_
    refine oMov eZ ?_
    refine xNil ?_
    refine TQ.qn ?_
    refine AW.seq ?_
    refine AW.seq ?_
    refine AW.regs ?_
    refine oMov eZ ?_
    refine oLss eZ eC ?_
    refine xNil ?_
    refine TQ.qn ?_
    refine AW.weaken (wk_mkG [] (SL.cons (k := 33) eZ rfl VWk.rfl (SL.cons (k := 8) (eR rfl) rfl VWk.rfl (SL.cons (k := 0) (eR rfl) rfl VWk.rfl (SL.cons (k := 1) (eR rfl) rfl VWk.rfl (SL.cons (k := 2) (eR rfl) rfl VWk.rfl (SL.cons (k := 4) (eR rfl) rfl VWk.rfl SL.nil)))))) (BL.keep rfl BL.nil) (BK.cons (n := 512) rfl bZ rfl rfl BK.nil) GK.nil) ?_
    rcases oite H with ⟨h9, H⟩ | ⟨h9, H⟩
    · refine AW.condT eZ (decide_eq_true h9) ?_
      refine AW.seq ?_
      refine AW.regs ?_
      refine oMov eC ?_
      refine xNil ?_
      refine TQ.qn ?_
      refine AW.ret ?_
      refine TQ.qr ?_
      obtain rfl := Option.some.inj H
      exact endsR (RL.cons (RV.tmp eZ) (VO.flat rfl) RL.nil) List.nodup_nil
    · refine AW.condF eZ (decide_eq_false h9) ?_
      refine AW.skip ?_
      refine TQ.qn ?_
      refine AW.seq ?_
      refine AW.regd ?_
      refine oMov (eR rfl) ?_
      obtain ⟨v10, h11, H⟩ := obind H
      refine oCall (u := (.one (.d (.sl 4 (List.map d_TLock v10))))) eC Cl.fn (c_laws_toLockS h11) (Evs.cons eZ Evs.nil) (VDs.cons VD.plain VDs.nil) rfl ?_
      refine oMov (eR rfl) ?_
      obtain ⟨v12, h13, H⟩ := obind H
      refine oCall (u := (.one (.d (.sl 1 (List.map d_i64 v12))))) eC Cl.fn (c_laws_toIntS h13) (Evs.cons eZ Evs.nil) (VDs.cons VD.plain VDs.nil) rfl ?_
      refine oMov (eR rfl) ?_
      refine oLoadVA (es := [(.d (.int .i64 a4.Lo)), (.d (.int .i64 a4.Hi))]) (eR rfl) (hB rfl bZ) rfl ?_
      obtain ⟨v14, h15, H⟩ := obind H
      refine oCall (u := (.agg [(.d (.int .i64 v14.Lo)), (.d (.int .i64 v14.Hi))])) eC Cl.fn (c_laws_toRange h15) (Evs.cons eZ Evs.nil) (VDs.cons (VD.agg rfl) VDs.nil) rfl ?_
      refine oMov (eR rfl) ?_
      obtain ⟨v16, h17, H⟩ := obind H
      refine oCall (u := (.tup [(.one (.d (.sl 4 (List.map d_TLock v16.1)))), (.one (.d (.sl 1 (List.map d_i64 v16.2.1)))), (.one (.d (.int .i64 v16.2.2)))])) eC Cl.fn (c_spec_LockAsk h17) (Evs.cons (eR rfl) (Evs.cons (eR rfl) (Evs.cons (eR rfl) (Evs.cons (eS rfl eZ) (Evs.cons eZ Evs.nil))))) (VDs.cons VD.plain (VDs.cons VD.plain (VDs.cons VD.plain (VDs.cons (VD.agg rfl) (VDs.cons VD.plain VDs.nil))))) rfl ?_
      refine oMov eZ ?_
      refine oExt (v := (.one (.d (.sl 4 (List.map d_TLock v16.1))))) eZ rfl ?_
      refine oExt (v := (.one (.d (.sl 1 (List.map d_i64 v16.2.1))))) (eS rfl eZ) rfl ?_
      refine oExt (v := (.one (.d (.int .i64 v16.2.2)))) (eR rfl) rfl ?_
      refine oMov (eR rfl) ?_
      refine oMov (eR rfl) ?_
      refine oMov (eR rfl) ?_
      refine xNil ?_
      refine TQ.qn ?_
      refine AW.weaken (wk_mkG [] (SL.cons (k := 14) eZ rfl VWk.rfl (SL.cons (k := 13) (eS rfl eZ) rfl VWk.rfl (SL.cons (k := 12) (eR rfl) rfl VWk.rfl (SL.cons (k := 8) (eR rfl) rfl VWk.rfl (SL.cons (k := 0) (eR rfl) rfl VWk.rfl (SL.cons (k := 1) (eR rfl) rfl VWk.rfl (SL.cons (k := 2) (eR rfl) rfl VWk.rfl (SL.cons (k := 4) (eR rfl) rfl VWk.rfl SL.nil)))))))) (BL.keep rfl BL.nil) (BK.cons (n := 512) rfl bZ rfl rfl BK.nil) GK.nil) ?_
      refine AW.seq ?_
      refine AW.regs ?_
      refine oMov (eR rfl) ?_
      obtain ⟨v18, h19, H⟩ := obind H
      refine oCallN (u := (.one (.sl 3072 0 v18.length))) (bs := [(3072, (.data 4 (List.map d_TLock v18) true none))]) eC Cl.fn (c_laws_toLockS h19) (Evs.cons eZ Evs.nil) (VDs.cons VD.plain VDs.nil) (by simp [bindR, bindV, bindVs, bindC, bindCs]) rfl (fC (nS rfl nZ) rfl (fC (nS rfl nZ) rfl fN)) ?_
      refine oMov eZ ?_
      refine xNil ?_
      refine TQ.qn ?_
      refine AW.seq ?_
      refine AW.regs ?_
      refine oMov (eR rfl) ?_
      obtain ⟨v20, h21, H⟩ := obind H
      refine oCallN (u := (.one (.sl 3200 0 v20.length))) (bs := [(3200, (.data 1 (List.map d_i64 v20) true none))]) eC Cl.fn (c_laws_toIntS h21) (Evs.cons eZ Evs.nil) (VDs.cons VD.plain VDs.nil) (by simp [bindR, bindV, bindVs, bindC, bindCs]) rfl (fC (nS rfl (nS rfl nZ)) rfl (fC (nS rfl (nS rfl nZ)) rfl fN)) ?_
      refine oMov eZ ?_
      refine xNil ?_
      refine TQ.qn ?_
      refine AW.seq ?_
      refine AW.regs ?_
      refine oMov (eR rfl) ?_
      refine oMov (eS rfl eZ) ?_
      refine oMov (eR rfl) ?_
      refine oLoadVA (es := [(.d (.int .i64 a4.Lo)), (.d (.int .i64 a4.Hi))]) (eR rfl) (bS rfl (bS rfl bZ)) rfl ?_
      obtain ⟨v22, h23, H⟩ := obind H
      refine oCall (u := (.agg [(.d (.int .i64 v22.Lo)), (.d (.int .i64 v22.Hi))])) eC Cl.fn (c_laws_toRange h23) (Evs.cons eZ Evs.nil) (VDs.cons (VD.agg rfl) VDs.nil) rfl ?_
      refine oMov (eR rfl) ?_
      obtain ⟨v24, h25, H⟩ := obind H
      refine oCallN (u := (.tup [(.one (.sl 3712 0 v24.1.length)), (.one (.sl 3728 0 v24.2.1.length)), (.one (.d (.int .i64 v24.2.2)))])) (bs := [(3712, (.data 4 (List.map d_TLock v24.1) true none)), (3728, (.data 1 (List.map d_i64 v24.2.1) true none))]) eC Cl.fn (c_impl_LockAsk h25) (Evs.cons (eR rfl) (Evs.cons (eR rfl) (Evs.cons (eR rfl) (Evs.cons (eS rfl eZ) (Evs.cons eZ Evs.nil))))) (VDs.cons (VD.sl (bS rfl bZ) (List.length_map _)) (VDs.cons (VD.sl bZ (List.length_map _)) (VDs.cons VD.plain (VDs.cons (VD.agg rfl) (VDs.cons VD.plain VDs.nil))))) (by simp [bindR, bindV, bindVs, bindC, bindCs]) rfl (fC (nS rfl (nS rfl (nS rfl nZ))) rfl (fC (nS rfl (nS rfl (nS rfl nZ))) rfl (fC (nS rfl (nS rfl (nS rfl nZ))) rfl fN))) ?_
      refine oMov eZ ?_
      refine oExt (v := (.one (.sl 3712 0 v24.1.length))) eZ rfl ?_
      refine oExt (v := (.one (.sl 3728 0 v24.2.1.length))) (eS rfl eZ) rfl ?_
      refine oExt (v := (.one (.d (.int .i64 v24.2.2)))) (eR rfl) rfl ?_
      refine oMov (eR rfl) ?_
      refine oMov (eR rfl) ?_
      refine oMov (eR rfl) ?_
      refine xNil ?_
      refine TQ.qn ?_
      refine AW.weaken (wk_mkG [] (SL.cons (k := 19) eZ rfl VWk.rfl (SL.cons (k := 18) (eS rfl eZ) rfl VWk.rfl (SL.cons (k := 17) (eR rfl) rfl VWk.rfl (SL.cons (k := 16) (eR rfl) rfl VWk.rfl (SL.cons (k := 15) (eR rfl) rfl VWk.rfl (SL.cons (k := 14) (eR rfl) rfl VWk.rfl (SL.cons (k := 13) (eR rfl) rfl VWk.rfl (SL.cons (k := 12) (eR rfl) rfl VWk.rfl (SL.cons (k := 8) (eR rfl) rfl VWk.rfl (SL.cons (k := 0) (eR rfl) rfl VWk.rfl (SL.cons (k := 1) (eR rfl) rfl VWk.rfl (SL.cons (k := 2) (eR rfl) rfl VWk.rfl (SL.cons (k := 4) (eR rfl) rfl VWk.rfl SL.nil))))))))))))) (BL.keep rfl (BL.keep rfl (BL.keep rfl (BL.keep rfl (BL.keep rfl BL.nil))))) (BK.cons (n := 3728) rfl bZ rfl rfl (BK.cons (n := 3712) rfl (bS rfl bZ) rfl rfl (BK.cons (n := 3200) rfl (bS rfl (bS rfl bZ)) rfl rfl (BK.cons (n := 3072) rfl (bS rfl (bS rfl (bS rfl bZ))) rfl rfl (BK.cons (n := 512) rfl (bS rfl (bS rfl (bS rfl (bS rfl bZ)))) rfl rfl BK.nil))))) GK.nil) ?_
      refine AW.seq ?_
      refine AW.seqJ (fun t26 : Bool => (laws_FnExactLockAsk_j26 a1 v18 a2 v20 v24 a4 a3 a5 v16) t26 = some r) (fun t26 => mk [(0, (.one (.d (.sl 4 (List.map d_TLock a1))))), (1, (.one (.d (.sl 1 (List.map d_i64 a2))))), (2, (.one (.d (.int .i64 a3)))), (4, (.one (.d (.int .i64 a5)))), (8, (.one (.ptr (.nm 512 0 0)))), (12, (.one (.d (.sl 4 (List.map d_TLock v16.1))))), (13, (.one (.d (.sl 1 (List.map d_i64 v16.2.1))))), (14, (.one (.d (.int .i64 v16.2.2)))), (15, (.one (.sl 3072 0 v18.length))), (16, (.one (.sl 3200 0 v20.length))), (17, (.one (.sl 3712 0 v24.1.length))), (18, (.one (.sl 3728 0 v24.2.1.length))), (19, (.one (.d (.int .i64 v24.2.2)))), (76, (.one (.d (.bool t26))))] [(512, (.vars 2 [(.d (.int .i64 a4.Lo)), (.d (.int .i64 a4.Hi))])), (3072, (.data 4 (List.map d_TLock v18) true none)), (3200, (.data 1 (List.map d_i64 v20) true none)), (3712, (.data 4 (List.map d_TLock v24.1) true none)), (3728, (.data 1 (List.map d_i64 v24.2.1) true none))] (lk [])) ?_ ?_
      · intro t26 H
        unfold laws_FnExactLockAsk_j26 at H
        rcases oite H with ⟨h28, H⟩ | ⟨h28, H⟩
        · refine AW.condT (eR rfl) h28 ?_
          refine AW.seq ?_
          refine AW.regs ?_
          refine oMov eC ?_
          refine xNil ?_
          refine TQ.qn ?_
          refine AW.ret ?_
          refine TQ.qr ?_
          obtain rfl := Option.some.inj H
          exact endsR (RL.cons (RV.tmp eZ) (VO.flat rfl) RL.nil) List.nodup_nil
        · refine AW.condF (eR rfl) (nt h28) ?_
          refine AW.skip ?_
          refine TQ.qn ?_
          refine AW.seq ?_
          refine AW.seq ?_
          refine AW.regs ?_
          refine oMov (eR rfl) ?_
          refine oMov (eS rfl eZ) ?_
          obtain ⟨v29, h30, H⟩ := obind H
          refine oCall (u := (.one (.d (.sl 4 (List.map d_TLock v29))))) eC Cl.fn (c_laws_toLockS h30) (Evs.cons eZ Evs.nil) (VDs.cons VD.plain VDs.nil) rfl ?_
          obtain ⟨v31, h32, H⟩ := obind H
          refine oCall (u := (.one (.d (.bool v31)))) eC Cl.fn (c_laws_eqLockS h32) (Evs.cons (eR rfl) (Evs.cons eZ Evs.nil)) (VDs.cons (VD.sl (bS rfl bZ) (List.length_map _)) (VDs.cons VD.plain VDs.nil)) rfl ?_
          refine oInv eZ ?_
          refine xNil ?_
          refine TQ.qn ?_
          refine AW.weaken (wk_mkG [] (SL.cons (k := 81) eZ rfl VWk.rfl (SL.cons (k := 0) (eR rfl) rfl VWk.rfl (SL.cons (k := 1) (eR rfl) rfl VWk.rfl (SL.cons (k := 2) (eR rfl) rfl VWk.rfl (SL.cons (k := 4) (eR rfl) rfl VWk.rfl (SL.cons (k := 8) (eR rfl) rfl VWk.rfl (SL.cons (k := 12) (eR rfl) rfl VWk.rfl (SL.cons (k := 13) (eR rfl) rfl VWk.rfl (SL.cons (k := 14) (eR rfl) rfl VWk.rfl (SL.cons (k := 15) (eR rfl) rfl VWk.rfl (SL.cons (k := 16) (eR rfl) rfl VWk.rfl (SL.cons (k := 17) (eR rfl) rfl VWk.rfl (SL.cons (k := 18) (eR rfl) rfl VWk.rfl (SL.cons (k := 19) (eR rfl) rfl VWk.rfl SL.nil)))))))))))))) (BL.keep rfl (BL.keep rfl (BL.keep rfl (BL.keep rfl (BL.keep rfl BL.nil))))) (BK.cons (n := 512) rfl bZ rfl rfl (BK.cons (n := 3072) rfl (bS rfl bZ) rfl rfl (BK.cons (n := 3200) rfl (bS rfl (bS rfl bZ)) rfl rfl (BK.cons (n := 3712) rfl (bS rfl (bS rfl (bS rfl bZ))) rfl rfl (BK.cons (n := 3728) rfl (bS rfl (bS rfl (bS rfl (bS rfl bZ)))) rfl rfl BK.nil))))) GK.nil) ?_
          rcases oite H with ⟨h33, H⟩ | ⟨h33, H⟩
          · refine AW.condF eZ (congrArg Bool.not h33) ?_
            refine AW.skip ?_
            refine TQ.qn ?_
            refine AW.seq ?_
            refine AW.seq ?_
            refine AW.regs ?_
            refine oMov (eR rfl) ?_
            refine oMov (eR rfl) ?_
            obtain ⟨v34, h35, H⟩ := obind H
            refine oCall (u := (.one (.d (.sl 1 (List.map d_i64 v34))))) eC Cl.fn (c_laws_toIntS h35) (Evs.cons eZ Evs.nil) (VDs.cons VD.plain VDs.nil) rfl ?_
            obtain ⟨v36, h37, H⟩ := obind H
            refine oCall (u := (.one (.d (.bool v36)))) eC Cl.fn (c_laws_eqIntS h37) (Evs.cons (eR rfl) (Evs.cons eZ Evs.nil)) (VDs.cons (VD.sl (bS rfl (bS rfl bZ)) (List.length_map _)) (VDs.cons VD.plain VDs.nil)) rfl ?_
            refine oInv eZ ?_
            refine xNil ?_
            refine TQ.qn ?_
            refine AW.weaken (wk_mkG [] (SL.cons (k := 86) eZ rfl VWk.rfl (SL.cons (k := 0) (eR rfl) rfl VWk.rfl (SL.cons (k := 1) (eR rfl) rfl VWk.rfl (SL.cons (k := 2) (eR rfl) rfl VWk.rfl (SL.cons (k := 4) (eR rfl) rfl VWk.rfl (SL.cons (k := 8) (eR rfl) rfl VWk.rfl (SL.cons (k := 12) (eR rfl) rfl VWk.rfl (SL.cons (k := 13) (eR rfl) rfl VWk.rfl (SL.cons (k := 14) (eR rfl) rfl VWk.rfl (SL.cons (k := 15) (eR rfl) rfl VWk.rfl (SL.cons (k := 16) (eR rfl) rfl VWk.rfl (SL.cons (k := 17) (eR rfl) rfl VWk.rfl (SL.cons (k := 18) (eR rfl) rfl VWk.rfl (SL.cons (k := 19) (eR rfl) rfl VWk.rfl SL.nil)))))))))))))) (BL.keep rfl (BL.keep rfl (BL.keep rfl (BL.keep rfl (BL.keep rfl BL.nil))))) (BK.cons (n := 512) rfl bZ rfl rfl (BK.cons (n := 3072) rfl (bS rfl bZ) rfl rfl (BK.cons (n := 3200) rfl (bS rfl (bS rfl bZ)) rfl rfl (BK.cons (n := 3712) rfl (bS rfl (bS rfl (bS rfl bZ))) rfl rfl (BK.cons (n := 3728) rfl (bS rfl (bS rfl (bS rfl (bS rfl bZ)))) rfl rfl BK.nil))))) GK.nil) ?_
            rcases oite H with ⟨h38, H⟩ | ⟨h38, H⟩
            · refine AW.condF eZ (congrArg Bool.not h38) ?_
              refine AW.skip ?_
              refine TQ.qn ?_
              refine AW.seq ?_
              refine AW.regs ?_
              refine oMov eC ?_
              refine xNil ?_
              refine TQ.qn ?_
              refine AW.seq ?_
              refine AW.regm ?_
              refine rmOne ?_
              refine oMov (eR rfl) ?_
              refine xNil ?_
              refine rmOne ?_
              refine oMov (eS rfl eZ) ?_
              refine xNil ?_
              obtain ⟨v39, h40, H⟩ := obind H
              obtain ⟨h41, H⟩ := oguard H
              refine rmCallI (ON := [3072]) (ls := []) (G := []) (E := [subKey 3072]) (MB := [(3072, (.data 4 (List.map d_TLock v39.2) true none))]) (u := (.one (.d (.int .i64 v39.1)))) eC Cl.fn (c_laws_markLockS h40) (Evs.cons (eS rfl eZ) (Evs.cons eZ Evs.nil)) (AO.mut (VO.sl (bS rfl bZ) (List.length_map _) (allFlat fun _ => rfl)) (AO.lent VD.plain rfl AO.nil)) rfl rfl rfl (SZ.cons (bS rfl bZ) (allFlat fun _ => rfl) SZ.nil) (erL.cons (v' := (.one (.d (.int .i64 1)))) rfl (erL.cons (v' := (.one (.sl 3072 0 v18.length))) rfl (erL.cons (v' := (.one (.d (.int .i64 1)))) rfl (erL.cons (v' := (.one (.d (.bool (!v36))))) rfl (erL.cons (v' := (.one (.d (.sl 4 (List.map d_TLock a1))))) rfl (erL.cons (v' := (.one (.d (.sl 1 (List.map d_i64 a2))))) rfl (erL.cons (v' := (.one (.d (.int .i64 a3)))) rfl (erL.cons (v' := (.one (.d (.int .i64 a5)))) rfl (erL.cons (v' := (.one (.ptr (.nm 512 0 0)))) rfl (erL.cons (v' := (.one (.d (.sl 4 (List.map d_TLock v16.1))))) rfl (erL.cons (v' := (.one (.d (.sl 1 (List.map d_i64 v16.2.1))))) rfl (erL.cons (v' := (.one (.d (.int .i64 v16.2.2)))) rfl (erL.cons (v' := (.one (.sl 3072 0 v18.length))) rfl (erL.cons (v' := (.one (.sl 3200 0 v20.length))) rfl (erL.cons (v' := (.one (.sl 3712 0 v24.1.length))) rfl (erL.cons (v' := (.one (.sl 3728 0 v24.2.1.length))) rfl (erL.cons (v' := (.one (.d (.int .i64 v24.2.2)))) rfl erL.nil))))))))))))))))) (erH.cons (v' := (.vars 2 [(.d (.int .i64 a4.Lo)), (.d (.int .i64 a4.Hi))])) rfl rfl (erH.cons (v' := (.data 4 (List.map d_TLock v18) true none)) rfl rfl (erH.cons (v' := (.data 1 (List.map d_i64 v20) true none)) rfl rfl (erH.cons (v' := (.data 4 (List.map d_TLock v24.1) true none)) rfl rfl (erH.cons (v' := (.data 1 (List.map d_i64 v24.2.1) true none)) rfl rfl erH.nil))))) erL.nil rfl rfl ?_
              refine rmRest ?_
              refine oMov eZ ?_
              refine xNil ?_
              refine TQ.qn ?_
              refine AW.weaken (wk_mkG [3072] (SL.cons (k := 20) eZ rfl VWk.rfl (SL.cons (k := 0) (eR rfl) rfl VWk.rfl (SL.cons (k := 1) (eR rfl) rfl VWk.rfl (SL.cons (k := 2) (eR rfl) rfl VWk.rfl (SL.cons (k := 4) (eR rfl) rfl VWk.rfl (SL.cons (k := 8) (eR rfl) rfl VWk.rfl (SL.cons (k := 12) (eR rfl) rfl VWk.rfl (SL.cons (k := 13) (eR rfl) rfl VWk.rfl (SL.cons (k := 14) (eR rfl) rfl VWk.rfl (SL.cons (k := 16) (eR rfl) rfl VWk.rfl (SL.cons (k := 17) (eR rfl) rfl VWk.rfl (SL.cons (k := 18) (eR rfl) rfl VWk.rfl (SL.cons (k := 19) (eR rfl) rfl VWk.rfl SL.nil))))))))))))) (BL.drop rfl (BL.keep rfl (BL.drop rfl (BL.keep rfl (BL.keep rfl (BL.keep rfl BL.nil)))))) (BK.cons (n := 512) rfl (bS rfl bZ) rfl rfl (BK.cons (n := 3200) rfl (bS rfl (bS rfl (bS rfl bZ))) rfl rfl (BK.cons (n := 3712) rfl (bS rfl (bS rfl (bS rfl (bS rfl bZ)))) rfl rfl (BK.cons (n := 3728) rfl (bS rfl (bS rfl (bS rfl (bS rfl (bS rfl bZ))))) rfl rfl BK.nil)))) GK.nil) ?_
              refine AW.seq ?_
              refine AW.regm ?_
              refine rmOne ?_
              refine oMov (eR rfl) ?_
              refine xNil ?_
              refine rmOne ?_
              refine oMov (eS rfl eZ) ?_
              refine xNil ?_
              obtain ⟨v42, h43, H⟩ := obind H
              obtain ⟨h44, H⟩ := oguard H
              refine rmCallI (ON := [3200]) (ls := []) (G := []) (E := [subKey 3200]) (MB := [(3200, (.data 1 (List.map d_i64 v42.2) true none))]) (u := (.one (.d (.int .i64 v42.1)))) eC Cl.fn (c_laws_markIntS h43) (Evs.cons (eS rfl eZ) (Evs.cons eZ Evs.nil)) (AO.mut (VO.sl (bS rfl bZ) (List.length_map _) (allFlat fun _ => rfl)) (AO.lent VD.plain rfl AO.nil)) rfl rfl rfl (SZ.cons (bS rfl bZ) (allFlat fun _ => rfl) SZ.nil) (erL.cons (v' := (.one (.d (.int .i64 v39.1)))) rfl (erL.cons (v' := (.one (.sl 3200 0 v20.length))) rfl (erL.cons (v' := (.one (.d (.int .i64 v39.1)))) rfl (erL.cons (v' := (.one (.d (.sl 4 (List.map d_TLock a1))))) rfl (erL.cons (v' := (.one (.d (.sl 1 (List.map d_i64 a2))))) rfl (erL.cons (v' := (.one (.d (.int .i64 a3)))) rfl (erL.cons (v' := (.one (.d (.int .i64 a5)))) rfl (erL.cons (v' := (.one (.ptr (.nm 512 0 0)))) rfl (erL.cons (v' := (.one (.d (.sl 4 (List.map d_TLock v16.1))))) rfl (erL.cons (v' := (.one (.d (.sl 1 (List.map d_i64 v16.2.1))))) rfl (erL.cons (v' := (.one (.d (.int .i64 v16.2.2)))) rfl (erL.cons (v' := (.one (.sl 3200 0 v20.length))) rfl (erL.cons (v' := (.one (.sl 3712 0 v24.1.length))) rfl (erL.cons (v' := (.one (.sl 3728 0 v24.2.1.length))) rfl (erL.cons (v' := (.one (.d (.int .i64 v24.2.2)))) rfl erL.nil))))))))))))))) (erH.cons (v' := (.vars 2 [(.d (.int .i64 a4.Lo)), (.d (.int .i64 a4.Hi))])) rfl rfl (erH.cons (v' := (.data 1 (List.map d_i64 v20) true none)) rfl rfl (erH.cons (v' := (.data 4 (List.map d_TLock v24.1) true none)) rfl rfl (erH.cons (v' := (.data 1 (List.map d_i64 v24.2.1) true none)) rfl rfl erH.nil)))) erL.nil rfl rfl ?_
              refine rmRest ?_
              refine oMov eZ ?_
              refine xNil ?_
              refine TQ.qn ?_
              refine AW.weaken (wk_mkG [3200] (SL.cons (k := 20) eZ rfl VWk.rfl (SL.cons (k := 0) (eR rfl) rfl VWk.rfl (SL.cons (k := 1) (eR rfl) rfl VWk.rfl (SL.cons (k := 2) (eR rfl) rfl VWk.rfl (SL.cons (k := 4) (eR rfl) rfl VWk.rfl (SL.cons (k := 8) (eR rfl) rfl VWk.rfl (SL.cons (k := 12) (eR rfl) rfl VWk.rfl (SL.cons (k := 13) (eR rfl) rfl VWk.rfl (SL.cons (k := 14) (eR rfl) rfl VWk.rfl (SL.cons (k := 17) (eR rfl) rfl VWk.rfl (SL.cons (k := 18) (eR rfl) rfl VWk.rfl (SL.cons (k := 19) (eR rfl) rfl VWk.rfl SL.nil)))))))))))) (BL.drop rfl (BL.keep rfl (BL.drop rfl (BL.keep rfl (BL.keep rfl BL.nil))))) (BK.cons (n := 512) rfl (bS rfl bZ) rfl rfl (BK.cons (n := 3712) rfl (bS rfl (bS rfl (bS rfl bZ))) rfl rfl (BK.cons (n := 3728) rfl (bS rfl (bS rfl (bS rfl (bS rfl bZ)))) rfl rfl BK.nil))) GK.nil) ?_
              refine AW.seq ?_
              refine AW.seqJ (fun t45 : Bool => (laws_FnExactLockAsk_j45 v24 a1 a2 a4 a3 a5 v16) t45 = some r) (fun t45 => mk [(0, (.one (.d (.sl 4 (List.map d_TLock a1))))), (1, (.one (.d (.sl 1 (List.map d_i64 a2))))), (2, (.one (.d (.int .i64 a3)))), (4, (.one (.d (.int .i64 a5)))), (8, (.one (.ptr (.nm 512 0 0)))), (12, (.one (.d (.sl 4 (List.map d_TLock v16.1))))), (13, (.one (.d (.sl 1 (List.map d_i64 v16.2.1))))), (14, (.one (.d (.int .i64 v16.2.2)))), (17, (.one (.sl 3712 0 v24.1.length))), (18, (.one (.sl 3728 0 v24.2.1.length))), (111, (.one (.d (.bool t45))))] [(512, (.vars 2 [(.d (.int .i64 a4.Lo)), (.d (.int .i64 a4.Hi))])), (3712, (.data 4 (List.map d_TLock v24.1) true none)), (3728, (.data 1 (List.map d_i64 v24.2.1) true none))] (lk [])) ?_ ?_
              · intro t45 H
                unfold laws_FnExactLockAsk_j45 at H
                rcases oite H with ⟨h47, H⟩ | ⟨h47, H⟩
                · refine AW.condT (eR rfl) h47 ?_
                  refine AW.seq ?_
                  refine AW.regs ?_
                  refine oMov eC ?_
                  refine xNil ?_
                  refine TQ.qn ?_
                  refine AW.ret ?_
                  refine TQ.qr ?_
                  obtain rfl := Option.some.inj H
                  exact endsR (RL.cons (RV.tmp eZ) (VO.flat rfl) RL.nil) List.nodup_nil
                · refine AW.condF (eR rfl) (nt h47) ?_
                  refine AW.skip ?_
                  refine TQ.qn ?_
                  refine AW.seq ?_
                  refine AW.regs ?_
                  refine oMov eC ?_
                  refine xNil ?_
                  refine TQ.qn ?_
                  refine AW.seq ?_
                  refine AW.regm ?_
                  refine rmOne ?_
                  refine oMov (eR rfl) ?_
                  refine xNil ?_
                  refine rmOne ?_
                  refine oMov (eS rfl eZ) ?_
                  refine xNil ?_
                  obtain ⟨v48, h49, H⟩ := obind H
                  obtain ⟨h50, H⟩ := oguard H
                  refine rmCallI (ON := [3712]) (ls := []) (G := []) (E := [subKey 3712]) (MB := [(3712, (.data 4 (List.map d_TLock v48.2) true none))]) (u := (.one (.d (.int .i64 v48.1)))) eC Cl.fn (c_laws_markLockS h49) (Evs.cons (eS rfl eZ) (Evs.cons eZ Evs.nil)) (AO.mut (VO.sl (bS rfl bZ) (List.length_map _) (allFlat fun _ => rfl)) (AO.lent VD.plain rfl AO.nil)) rfl rfl rfl (SZ.cons (bS rfl bZ) (allFlat fun _ => rfl) SZ.nil) (erL.cons (v' := (.one (.d (.int .i64 1)))) rfl (erL.cons (v' := (.one (.sl 3712 0 v24.1.length))) rfl (erL.cons (v' := (.one (.d (.int .i64 1)))) rfl (erL.cons (v' := (.one (.d (.sl 4 (List.map d_TLock a1))))) rfl (erL.cons (v' := (.one (.d (.sl 1 (List.map d_i64 a2))))) rfl (erL.cons (v' := (.one (.d (.int .i64 a3)))) rfl (erL.cons (v' := (.one (.d (.int .i64 a5)))) rfl (erL.cons (v' := (.one (.ptr (.nm 512 0 0)))) rfl (erL.cons (v' := (.one (.d (.sl 4 (List.map d_TLock v16.1))))) rfl (erL.cons (v' := (.one (.d (.sl 1 (List.map d_i64 v16.2.1))))) rfl (erL.cons (v' := (.one (.d (.int .i64 v16.2.2)))) rfl (erL.cons (v' := (.one (.sl 3712 0 v24.1.length))) rfl (erL.cons (v' := (.one (.sl 3728 0 v24.2.1.length))) rfl (erL.cons (v' := (.one (.d (.bool t45)))) rfl erL.nil)))))))))))))) (erH.cons (v' := (.vars 2 [(.d (.int .i64 a4.Lo)), (.d (.int .i64 a4.Hi))])) rfl rfl (erH.cons (v' := (.data 4 (List.map d_TLock v24.1) true none)) rfl rfl (erH.cons (v' := (.data 1 (List.map d_i64 v24.2.1) true none)) rfl rfl erH.nil))) erL.nil rfl rfl ?_
                  refine rmRest ?_
                  refine oMov eZ ?_
                  refine xNil ?_
                  refine TQ.qn ?_
                  refine AW.weaken (wk_mkG [] (SL.cons (k := 21) eZ rfl VWk.rfl (SL.cons (k := 0) (eR rfl) rfl VWk.rfl (SL.cons (k := 1) (eR rfl) rfl VWk.rfl (SL.cons (k := 2) (eR rfl) rfl VWk.rfl (SL.cons (k := 4) (eR rfl) rfl VWk.rfl (SL.cons (k := 8) (eR rfl) rfl VWk.rfl (SL.cons (k := 12) (eR rfl) rfl VWk.rfl (SL.cons (k := 13) (eR rfl) rfl VWk.rfl (SL.cons (k := 14) (eR rfl) rfl VWk.rfl (SL.cons (k := 17) (eR rfl) rfl VWk.rfl (SL.cons (k := 18) (eR rfl) rfl VWk.rfl SL.nil))))))))))) (BL.keep rfl (BL.keep rfl (BL.keep rfl (BL.keep rfl BL.nil)))) (BK.cons (n := 3712) rfl bZ rfl rfl (BK.cons (n := 512) rfl (bS rfl bZ) rfl rfl (BK.cons (n := 3728) rfl (bS rfl (bS rfl (bS rfl bZ))) rfl rfl BK.nil))) GK.nil) ?_
                  refine AW.seq ?_
                  refine AW.regm ?_
                  refine rmOne ?_
                  refine oMov (eR rfl) ?_
                  refine xNil ?_
                  refine rmOne ?_
                  refine oMov (eS rfl eZ) ?_
                  refine xNil ?_
                  obtain ⟨v51, h52, H⟩ := obind H
                  obtain ⟨h53, H⟩ := oguard H
                  refine rmCallI (ON := [3728]) (ls := []) (G := []) (E := [subKey 3728]) (MB := [(3728, (.data 1 (List.map d_i64 v51.2) true none))]) (u := (.one (.d (.int .i64 v51.1)))) eC Cl.fn (c_laws_markIntS h52) (Evs.cons (eS rfl eZ) (Evs.cons eZ Evs.nil)) (AO.mut (VO.sl (bS rfl (bS rfl bZ)) (List.length_map _) (allFlat fun _ => rfl)) (AO.lent VD.plain rfl AO.nil)) rfl rfl rfl (SZ.cons (bS rfl (bS rfl bZ)) (allFlat fun _ => rfl) SZ.nil) (erL.cons (v' := (.one (.d (.int .i64 v48.1)))) rfl (erL.cons (v' := (.one (.sl 3728 0 v24.2.1.length))) rfl (erL.cons (v' := (.one (.d (.int .i64 v48.1)))) rfl (erL.cons (v' := (.one (.d (.sl 4 (List.map d_TLock a1))))) rfl (erL.cons (v' := (.one (.d (.sl 1 (List.map d_i64 a2))))) rfl (erL.cons (v' := (.one (.d (.int .i64 a3)))) rfl (erL.cons (v' := (.one (.d (.int .i64 a5)))) rfl (erL.cons (v' := (.one (.ptr (.nm 512 0 0)))) rfl (erL.cons (v' := (.one (.d (.sl 4 (List.map d_TLock v16.1))))) rfl (erL.cons (v' := (.one (.d (.sl 1 (List.map d_i64 v16.2.1))))) rfl (erL.cons (v' := (.one (.d (.int .i64 v16.2.2)))) rfl (erL.cons (v' := (.one (.sl 3712 0 v24.1.length))) rfl (erL.cons (v' := (.one (.sl 3728 0 v24.2.1.length))) rfl erL.nil))))))))))))) (erH.cons (v' := (.data 4 (List.map d_TLock v48.2) true none)) rfl rfl (erH.cons (v' := (.vars 2 [(.d (.int .i64 a4.Lo)), (.d (.int .i64 a4.Hi))])) rfl rfl (erH.cons (v' := (.data 1 (List.map d_i64 v24.2.1) true none)) rfl rfl erH.nil))) erL.nil rfl rfl ?_
                  refine rmRest ?_
                  refine oMov eZ ?_
                  refine xNil ?_
                  refine TQ.qn ?_
                  refine AW.seq ?_
                  refine AW.regs ?_
                  refine oMov eC ?_
                  refine xNil ?_
                  refine TQ.qn ?_
                  refine AW.weaken (wk_mkG [] (SL.cons (k := 22) eZ rfl VWk.rfl (SL.cons (k := 21) (eS rfl eZ) rfl VWk.rfl (SL.cons (k := 0) (eR rfl) rfl VWk.rfl (SL.cons (k := 1) (eR rfl) rfl VWk.rfl (SL.cons (k := 2) (eR rfl) rfl VWk.rfl (SL.cons (k := 4) (eR rfl) rfl VWk.rfl (SL.cons (k := 8) (eR rfl) rfl VWk.rfl (SL.cons (k := 12) (eR rfl) rfl VWk.rfl (SL.cons (k := 13) (eR rfl) rfl VWk.rfl (SL.cons (k := 14) (eR rfl) rfl VWk.rfl (SL.cons (k := 17) (eR rfl) rfl VWk.rfl (SL.cons (k := 18) (eR rfl) rfl VWk.rfl SL.nil)))))))))))) (BL.keep rfl (BL.keep rfl (BL.keep rfl (BL.keep rfl BL.nil)))) (BK.cons (n := 3728) rfl bZ rfl rfl (BK.cons (n := 3712) rfl (bS rfl bZ) rfl rfl (BK.cons (n := 512) rfl (bS rfl (bS rfl bZ)) rfl rfl BK.nil))) GK.nil) ?_
                  refine AW.seq ?_
                  refine AW.regs ?_
                  refine oMov (eR rfl) ?_
                  refine oMov (eS rfl eZ) ?_
                  obtain ⟨v54, h55, H⟩ := obind H
                  refine oCall (u := (.one (.d (.int .i64 v54)))) eC Cl.fn (c_laws_heldLockS h55) (Evs.cons (eS rfl eZ) (Evs.cons eZ Evs.nil)) (VDs.cons (VD.sl (bS rfl bZ) (by first | (simp; done) | (simp; omega) | omega)) (VDs.cons VD.plain VDs.nil)) rfl ?_
                  refine oMov eZ ?_
                  refine xNil ?_
                  refine TQ.qn ?_
                  refine AW.weaken (wk_mkG [] (SL.cons (k := 22) eZ rfl VWk.rfl (SL.cons (k := 21) (eR rfl) rfl VWk.rfl (SL.cons (k := 0) (eR rfl) rfl VWk.rfl (SL.cons (k := 1) (eR rfl) rfl VWk.rfl (SL.cons (k := 2) (eR rfl) rfl VWk.rfl (SL.cons (k := 4) (eR rfl) rfl VWk.rfl (SL.cons (k := 8) (eR rfl) rfl VWk.rfl (SL.cons (k := 12) (eR rfl) rfl VWk.rfl (SL.cons (k := 13) (eR rfl) rfl VWk.rfl (SL.cons (k := 14) (eR rfl) rfl VWk.rfl (SL.cons (k := 17) (eR rfl) rfl VWk.rfl (SL.cons (k := 18) (eR rfl) rfl VWk.rfl SL.nil)))))))))))) (BL.keep rfl (BL.keep rfl (BL.keep rfl BL.nil))) (BK.cons (n := 3728) rfl bZ rfl rfl (BK.cons (n := 3712) rfl (bS rfl bZ) rfl rfl (BK.cons (n := 512) rfl (bS rfl (bS rfl bZ)) rfl rfl BK.nil))) GK.nil) ?_
                  refine AW.seq ?_
                  refine AW.seq ?_
                  refine AW.regs ?_
                  refine oMov eZ ?_
                  refine oLss eZ eC ?_
                  refine xNil ?_
                  refine TQ.qn ?_
                  rcases oite H with ⟨h56, H⟩ | ⟨h56, H⟩
                  · refine AW.condT eZ (decide_eq_true h56) ?_
                    refine AW.seq ?_
                    refine AW.regs ?_
                    refine oMov eC ?_
                    refine xNil ?_
                    refine TQ.qn ?_
                    refine AW.ret ?_
                    refine TQ.qr ?_
                    obtain rfl := Option.some.inj H
                    exact endsR (RL.cons (RV.tmp eZ) (VO.flat rfl) RL.nil) List.nodup_nil
                  · refine AW.condF eZ (decide_eq_false h56) ?_
                    refine AW.skip ?_
                    refine TQ.qn ?_
                    refine AW.seq ?_
                    refine AW.regs ?_
                    refine oMov (eR rfl) ?_
                    refine oMov (eR rfl) ?_
                    obtain ⟨v57, h58, H⟩ := obind H
                    refine oCall (u := (.one (.d (.int .i64 v57)))) eC Cl.fn (c_laws_heldIntS h58) (Evs.cons (eS rfl eZ) (Evs.cons eZ Evs.nil)) (VDs.cons (VD.sl bZ (by first | (simp; done) | (simp; omega) | omega)) (VDs.cons VD.plain VDs.nil)) rfl ?_
                    refine oMov eZ ?_
                    refine xNil ?_
                    refine TQ.qn ?_
                    refine AW.weaken (wk_mkG [] (SL.cons (k := 22) eZ rfl VWk.rfl (SL.cons (k := 21) (eR rfl) rfl VWk.rfl (SL.cons (k := 0) (eR rfl) rfl VWk.rfl (SL.cons (k := 1) (eR rfl) rfl VWk.rfl (SL.cons (k := 2) (eR rfl) rfl VWk.rfl (SL.cons (k := 4) (eR rfl) rfl VWk.rfl (SL.cons (k := 8) (eR rfl) rfl VWk.rfl (SL.cons (k := 12) (eR rfl) rfl VWk.rfl (SL.cons (k := 13) (eR rfl) rfl VWk.rfl (SL.cons (k := 14) (eR rfl) rfl VWk.rfl (SL.cons (k := 17) (eR rfl) rfl VWk.rfl (SL.cons (k := 18) (eR rfl) rfl VWk.rfl SL.nil)))))))))))) (BL.keep rfl (BL.keep rfl (BL.keep rfl BL.nil))) (BK.cons (n := 3728) rfl bZ rfl rfl (BK.cons (n := 3712) rfl (bS rfl bZ) rfl rfl (BK.cons (n := 512) rfl (bS rfl (bS rfl bZ)) rfl rfl BK.nil))) GK.nil) ?_
                    refine AW.seq ?_
                    refine AW.seq ?_
                    refine AW.regs ?_
                    refine oMov eZ ?_
                    refine oLss eZ eC ?_
                    refine xNil ?_
                    refine TQ.qn ?_
                    rcases oite H with ⟨h59, H⟩ | ⟨h59, H⟩
                    · refine AW.condT eZ (decide_eq_true h59) ?_
                      refine AW.seq ?_
                      refine AW.regs ?_
                      refine oMov eC ?_
                      refine xNil ?_
                      refine TQ.qn ?_
                      refine AW.ret ?_
                      refine TQ.qr ?_
                      obtain rfl := Option.some.inj H
                      exact endsR (RL.cons (RV.tmp eZ) (VO.flat rfl) RL.nil) List.nodup_nil
                    · refine AW.condF eZ (decide_eq_false h59) ?_
                      refine AW.skip ?_
                      refine TQ.qn ?_
                      refine AW.seq ?_
                      refine AW.seq ?_
                      refine AW.regs ?_
                      refine oMov (eR rfl) ?_
                      refine oMov (eR rfl) ?_
                      refine oNeq (eS rfl eZ) eZ ?_
                      refine xNil ?_
                      refine TQ.qn ?_
                      refine AW.weaken (wk_mkG [] (SL.cons (k := 130) eZ rfl VWk.rfl (SL.cons (k := 21) (eR rfl) rfl VWk.rfl (SL.cons (k := 0) (eR rfl) rfl VWk.rfl (SL.cons (k := 1) (eR rfl) rfl VWk.rfl (SL.cons (k := 2) (eR rfl) rfl VWk.rfl (SL.cons (k := 4) (eR rfl) rfl VWk.rfl (SL.cons (k := 8) (eR rfl) rfl VWk.rfl (SL.cons (k := 12) (eR rfl) rfl VWk.rfl (SL.cons (k := 13) (eR rfl) rfl VWk.rfl (SL.cons (k := 14) (eR rfl) rfl VWk.rfl (SL.cons (k := 17) (eR rfl) rfl VWk.rfl (SL.cons (k := 18) (eR rfl) rfl VWk.rfl SL.nil)))))))))))) (BL.keep rfl (BL.keep rfl (BL.keep rfl BL.nil))) (BK.cons (n := 3728) rfl bZ rfl rfl (BK.cons (n := 3712) rfl (bS rfl bZ) rfl rfl (BK.cons (n := 512) rfl (bS rfl (bS rfl bZ)) rfl rfl BK.nil))) GK.nil) ?_
                      rcases oite H with ⟨h60, H⟩ | ⟨h60, H⟩
                      · refine AW.condT eZ (decide_eq_true h60) ?_
                        refine AW.seq ?_
                        refine AW.regs ?_
                        refine oMov eC ?_
                        refine xNil ?_
                        refine TQ.qn ?_
                        refine AW.ret ?_
                        refine TQ.qr ?_
                        obtain rfl := Option.some.inj H
                        exact endsR (RL.cons (RV.tmp eZ) (VO.flat rfl) RL.nil) List.nodup_nil
                      · refine AW.condF eZ (decide_eq_false h60) ?_
                        refine AW.skip ?_
                        refine TQ.qn ?_
                        refine AW.seq ?_
                        refine AW.regd ?_
                        refine oMov (eR rfl) ?_
                        obtain ⟨v61, h62, H⟩ := obind H
                        refine oCall (u := (.one (.d (.sl 4 (List.map d_TLock v61))))) eC Cl.fn (c_laws_toLockS h62) (Evs.cons eZ Evs.nil) (VDs.cons VD.plain VDs.nil) rfl ?_
                        refine oMov (eR rfl) ?_
                        obtain ⟨v63, h64, H⟩ := obind H
                        refine oCall (u := (.one (.d (.sl 1 (List.map d_i64 v63))))) eC Cl.fn (c_laws_toIntS h64) (Evs.cons eZ Evs.nil) (VDs.cons VD.plain VDs.nil) rfl ?_
                        refine oMov (eR rfl) ?_
                        refine oLoadVA (es := [(.d (.int .i64 a4.Lo)), (.d (.int .i64 a4.Hi))]) (eR rfl) (hB rfl (bS rfl (bS rfl bZ))) rfl ?_
                        obtain ⟨v65, h66, H⟩ := obind H
                        refine oCall (u := (.agg [(.d (.int .i64 v65.Lo)), (.d (.int .i64 v65.Hi))])) eC Cl.fn (c_laws_toRange h66) (Evs.cons eZ Evs.nil) (VDs.cons (VD.agg rfl) VDs.nil) rfl ?_
                        refine oMov (eR rfl) ?_
                        obtain ⟨v67, h68, H⟩ := obind H
                        refine oCall (u := (.tup [(.one (.d (.sl 4 (List.map d_TLock v67.1)))), (.one (.d (.sl 1 (List.map d_i64 v67.2.1)))), (.one (.d (.int .i64 v67.2.2)))])) eC Cl.fn (c_impl_LockAsk h68) (Evs.cons (eR rfl) (Evs.cons (eR rfl) (Evs.cons (eR rfl) (Evs.cons (eS rfl eZ) (Evs.cons eZ Evs.nil))))) (VDs.cons VD.plain (VDs.cons VD.plain (VDs.cons VD.plain (VDs.cons (VD.agg rfl) (VDs.cons VD.plain VDs.nil))))) rfl ?_
                        refine oMov eZ ?_
                        refine oExt (v := (.one (.d (.sl 4 (List.map d_TLock v67.1))))) eZ rfl ?_
                        refine oExt (v := (.one (.d (.sl 1 (List.map d_i64 v67.2.1))))) (eS rfl eZ) rfl ?_
                        refine oExt (v := (.one (.d (.int .i64 v67.2.2)))) (eR rfl) rfl ?_
                        refine oMov (eR rfl) ?_
                        refine oMov (eR rfl) ?_
                        refine oMov (eR rfl) ?_
                        refine xNil ?_
                        refine TQ.qn ?_
                        refine AW.weaken (wk_mkG [512] (SL.cons (k := 25) eZ rfl VWk.rfl (SL.cons (k := 24) (eS rfl eZ) rfl VWk.rfl (SL.cons (k := 23) (eR rfl) rfl VWk.rfl (SL.cons (k := 21) (eR rfl) rfl VWk.rfl (SL.cons (k := 12) (eR rfl) rfl VWk.rfl (SL.cons (k := 13) (eR rfl) rfl VWk.rfl (SL.cons (k := 14) (eR rfl) rfl VWk.rfl (SL.cons (k := 17) (eR rfl) rfl VWk.rfl (SL.cons (k := 18) (eR rfl) rfl VWk.rfl SL.nil))))))))) (BL.keep rfl (BL.keep rfl (BL.drop rfl BL.nil))) (BK.cons (n := 3728) rfl bZ rfl rfl (BK.cons (n := 3712) rfl (bS rfl bZ) rfl rfl BK.nil)) GK.nil) ?_
                        refine AW.seq ?_
                        refine AW.seqJ (fun t69 : Bool => (laws_FnExactLockAsk_j69 v48 v51) t69 = some r) (fun t69 => mk [(17, (.one (.sl 3712 0 v24.1.length))), (18, (.one (.sl 3728 0 v24.2.1.length))), (21, (.one (.d (.int .i64 v51.1)))), (158, (.one (.d (.bool t69))))] [(3712, (.data 4 (List.map d_TLock v48.2) true none)), (3728, (.data 1 (List.map d_i64 v51.2) true none))] (lk [])) ?_ ?_
                        · intro t69 H
                          unfold laws_FnExactLockAsk_j69 at H
                          rcases oite H with ⟨h71, H⟩ | ⟨h71, H⟩
                          · refine AW.condT (eR rfl) h71 ?_
                            refine AW.seq ?_
                            refine AW.regs ?_
                            refine oMov eC ?_
                            refine xNil ?_
                            refine TQ.qn ?_
                            refine AW.ret ?_
                            refine TQ.qr ?_
                            obtain rfl := Option.some.inj H
                            exact endsR (RL.cons (RV.tmp eZ) (VO.flat rfl) RL.nil) List.nodup_nil
                          · refine AW.condF (eR rfl) (nt h71) ?_
                            refine AW.skip ?_
                            refine TQ.qn ?_
                            refine AW.seq ?_
                            refine AW.regs ?_
                            refine oMov eC ?_
                            refine xNil ?_
                            refine TQ.qn ?_
                            refine AW.seq ?_
                            refine AW.regs ?_
                            refine oMov (eS rfl eZ) ?_
                            refine oMov (eS rfl eZ) ?_
                            obtain ⟨v72, h73, H⟩ := obind H
                            refine oCall (u := (.one (.d (.int .i64 v72)))) eC Cl.fn (c_laws_heldLockS h73) (Evs.cons (eS rfl eZ) (Evs.cons eZ Evs.nil)) (VDs.cons (VD.sl bZ (by first | (simp; done) | (simp; omega) | omega)) (VDs.cons VD.plain VDs.nil)) rfl ?_
                            refine oMov eZ ?_
                            refine xNil ?_
                            refine TQ.qn ?_
                            refine AW.seq ?_
                            refine AW.seq ?_
                            refine AW.regs ?_
                            refine oMov eZ ?_
                            refine oLss eZ eC ?_
                            refine xNil ?_
                            refine TQ.qn ?_
                            rcases oite H with ⟨h74, H⟩ | ⟨h74, H⟩
                            · refine AW.condT eZ (decide_eq_true h74) ?_
                              refine AW.seq ?_
                              refine AW.regs ?_
                              refine oMov eC ?_
                              refine xNil ?_
                              refine TQ.qn ?_
                              refine AW.ret ?_
                              refine TQ.qr ?_
                              obtain rfl := Option.some.inj H
                              exact endsR (RL.cons (RV.tmp eZ) (VO.flat rfl) RL.nil) List.nodup_nil
                            · refine AW.condF eZ (decide_eq_false h74) ?_
                              refine AW.skip ?_
                              refine TQ.qn ?_
                              refine AW.seq ?_
                              refine AW.regs ?_
                              refine oMov (eR rfl) ?_
                              refine oMov (eR rfl) ?_
                              obtain ⟨v75, h76, H⟩ := obind H
                              refine oCall (u := (.one (.d (.int .i64 v75)))) eC Cl.fn (c_laws_heldIntS h76) (Evs.cons (eS rfl eZ) (Evs.cons eZ Evs.nil)) (VDs.cons (VD.sl (bS rfl bZ) (by first | (simp; done) | (simp; omega) | omega)) (VDs.cons VD.plain VDs.nil)) rfl ?_
                              refine oMov eZ ?_
                              refine xNil ?_
                              refine TQ.qn ?_
                              refine AW.seq ?_
                              refine AW.seq ?_
                              refine AW.regs ?_
                              refine oMov eZ ?_
                              refine oLss eZ eC ?_
                              refine xNil ?_
                              refine TQ.qn ?_
                              refine AW.weaken (wk_mkG [3712, 3728] (SL.cons (k := 168) eZ rfl VWk.rfl (SL.cons (k := 22) (eR rfl) rfl VWk.rfl (SL.cons (k := 21) (eR rfl) rfl VWk.rfl SL.nil))) (BL.drop rfl (BL.drop rfl BL.nil)) BK.nil GK.nil) ?_
                              rcases oite H with ⟨h77, H⟩ | ⟨h77, H⟩
                              · refine AW.condT eZ (decide_eq_true h77) ?_
                                refine AW.seq ?_
                                refine AW.regs ?_
                                refine oMov eC ?_
                                refine xNil ?_
                                refine TQ.qn ?_
                                refine AW.ret ?_
                                refine TQ.qr ?_
                                obtain rfl := Option.some.inj H
                                exact endsR (RL.cons (RV.tmp eZ) (VO.flat rfl) RL.nil) List.nodup_nil
                              · refine AW.condF eZ (decide_eq_false h77) ?_
                                refine AW.skip ?_
                                refine TQ.qn ?_
                                refine AW.seq ?_
                                refine AW.seq ?_
                                refine AW.regs ?_
                                refine oMov (eS rfl eZ) ?_
                                refine oMov (eR rfl) ?_
                                refine oNeq (eS rfl eZ) eZ ?_
                                refine xNil ?_
                                refine TQ.qn ?_
                                rcases oite H with ⟨h78, H⟩ | ⟨h78, H⟩
                                · refine AW.condT eZ (decide_eq_true h78) ?_
                                  refine AW.seq ?_
                                  refine AW.regs ?_
                                  refine oMov eC ?_
                                  refine xNil ?_
                                  refine TQ.qn ?_
                                  refine AW.ret ?_
                                  refine TQ.qr ?_
                                  obtain rfl := Option.some.inj H
                                  exact endsR (RL.cons (RV.tmp eZ) (VO.flat rfl) RL.nil) List.nodup_nil
                                · refine AW.condF eZ (decide_eq_false h78) ?_
                                  refine AW.skip ?_
                                  refine TQ.qn ?_
                                  refine AW.seq ?_
                                  refine AW.regs ?_
                                  refine oMov eC ?_
                                  refine xNil ?_
                                  refine TQ.qn ?_
                                  refine AW.ret ?_
                                  obtain rfl := Option.some.inj H
                                  exact endsR (RL.cons (RV.tmp eZ) (VO.flat rfl) RL.nil) List.nodup_nil
                        · refine AW.regs ?_
                          refine oMov (eR rfl) ?_
                          refine oMov (eR rfl) ?_
                          obtain ⟨v79, h80, H⟩ := obind H
                          refine oCall (u := (.one (.d (.bool v79)))) eC Cl.fn (c_laws_eqLockS h80) (Evs.cons (eS rfl eZ) (Evs.cons eZ Evs.nil)) (VDs.cons VD.plain (VDs.cons VD.plain VDs.nil)) rfl ?_
                          refine oInv eZ ?_
                          refine oMov eZ ?_
                          rcases oite H with ⟨h81, H⟩ | ⟨h81, H⟩
                          · refine gDo eZ (congrArg Bool.not h81) ?_
                            refine oMov (eR rfl) ?_
                            refine gDo (eS rfl eZ) (congrArg Bool.not h81) ?_
                            refine oMov (eR rfl) ?_
                            refine gDo (eR rfl) (congrArg Bool.not h81) ?_
                            obtain ⟨v82, h83, H⟩ := obind H
                            refine oCall (u := (.one (.d (.bool v82)))) eC Cl.fn (c_laws_eqIntS h83) (Evs.cons (eS rfl eZ) (Evs.cons eZ Evs.nil)) (VDs.cons VD.plain (VDs.cons VD.plain VDs.nil)) rfl ?_
                            refine gDo (eR rfl) (congrArg Bool.not h81) ?_
                            refine oInv eZ ?_
                            refine oPickF (eR rfl) (congrArg Bool.not h81) eZ ?_
                            refine oMov eZ ?_
                            rcases oite H with ⟨h84, H⟩ | ⟨h84, H⟩
                            · refine gDo eZ (congrArg Bool.not h84) ?_
                              refine oMov (eR rfl) ?_
                              refine gDo (eS rfl eZ) (congrArg Bool.not h84) ?_
                              refine oMov (eR rfl) ?_
                              refine gDo (eR rfl) (congrArg Bool.not h84) ?_
                              refine oNeq (eS rfl eZ) eZ ?_
                              refine oPickF (eR rfl) (congrArg Bool.not h84) eZ ?_
                              refine xNil ?_
                              exact TQ.qn ⟨(decide (¬ v67.2.2 = v16.2.2)), H, (wk_mkG [] (SL.cons (eR rfl) rfl VWk.rfl (SL.cons (eR rfl) rfl VWk.rfl (SL.cons (eR rfl) rfl VWk.rfl (SL.cons eZ rfl VWk.rfl SL.nil)))) (BL.keep rfl (BL.keep rfl BL.nil)) (BK.cons rfl (bS rfl bZ) rfl rfl (BK.cons rfl bZ rfl rfl BK.nil)) GK.nil)⟩
                            · refine gSkip eZ (congrArg Bool.not (nt h84)) rfl ?_
                              refine gSkip (eS rfl eZ) (congrArg Bool.not (nt h84)) rfl ?_
                              refine gSkip (eR rfl) (congrArg Bool.not (nt h84)) rfl ?_
                              refine oPickT (eR rfl) (congrArg Bool.not (nt h84)) eC ?_
                              refine xNil ?_
                              exact TQ.qn ⟨true, H, (wk_mkG [] (SL.cons (eR rfl) rfl VWk.rfl (SL.cons (eR rfl) rfl VWk.rfl (SL.cons (eR rfl) rfl VWk.rfl (SL.cons eZ rfl VWk.rfl SL.nil)))) (BL.keep rfl (BL.keep rfl BL.nil)) (BK.cons rfl (bS rfl bZ) rfl rfl (BK.cons rfl bZ rfl rfl BK.nil)) GK.nil)⟩
                          · refine gSkip eZ (congrArg Bool.not (nt h81)) rfl ?_
                            refine gSkip (eS rfl eZ) (congrArg Bool.not (nt h81)) rfl ?_
                            refine gSkip (eR rfl) (congrArg Bool.not (nt h81)) rfl ?_
                            refine gSkip (eR rfl) (congrArg Bool.not (nt h81)) rfl ?_
                            refine oPickT (eR rfl) (congrArg Bool.not (nt h81)) eC ?_
                            refine oMov eZ ?_
                            refine gSkip eZ rfl rfl ?_
                            refine gSkip (eS rfl eZ) rfl rfl ?_
                            refine gSkip (eR rfl) rfl rfl ?_
                            refine oPickT (eR rfl) rfl eC ?_
                            refine xNil ?_
                            exact TQ.qn ⟨true, H, (wk_mkG [] (SL.cons (eR rfl) rfl VWk.rfl (SL.cons (eR rfl) rfl VWk.rfl (SL.cons (eR rfl) rfl VWk.rfl (SL.cons eZ rfl VWk.rfl SL.nil)))) (BL.keep rfl (BL.keep rfl BL.nil)) (BK.cons rfl (bS rfl bZ) rfl rfl (BK.cons rfl bZ rfl rfl BK.nil)) GK.nil)⟩
              · refine AW.regs ?_
                refine oMov eZ ?_
                refine oLss eZ eC ?_
                refine oMov eZ ?_
                rcases oite H with ⟨h85, H⟩ | ⟨h85, H⟩
                · refine gSkip eZ (decide_eq_true h85) rfl ?_
                  refine gSkip (eS rfl eZ) (decide_eq_true h85) rfl ?_
                  refine gSkip (eR rfl) (decide_eq_true h85) rfl ?_
                  refine gSkip (eR rfl) (decide_eq_true h85) rfl ?_
                  refine oPickT (eR rfl) (decide_eq_true h85) eC ?_
                  refine oMov eZ ?_
                  refine gSkip eZ rfl rfl ?_
                  refine gSkip (eS rfl eZ) rfl rfl ?_
                  refine gSkip (eR rfl) rfl rfl ?_
                  refine gSkip (eR rfl) rfl rfl ?_
                  refine oPickT (eR rfl) rfl eC ?_
                  refine oMov eZ ?_
                  refine gSkip eZ rfl rfl ?_
                  refine gSkip (eS rfl eZ) rfl rfl ?_
                  refine gSkip (eR rfl) rfl rfl ?_
                  refine oPickT (eR rfl) rfl eC ?_
                  refine xNil ?_
                  exact TQ.qn ⟨true, H, (wk_mkG [] (SL.cons (eR rfl) rfl VWk.rfl (SL.cons (eR rfl) rfl VWk.rfl (SL.cons (eR rfl) rfl VWk.rfl (SL.cons (eR rfl) rfl VWk.rfl (SL.cons (eR rfl) rfl VWk.rfl (SL.cons (eR rfl) rfl VWk.rfl (SL.cons (eR rfl) rfl VWk.rfl (SL.cons (eR rfl) rfl VWk.rfl (SL.cons (eR rfl) rfl VWk.rfl (SL.cons (eR rfl) rfl VWk.rfl (SL.cons eZ rfl VWk.rfl SL.nil))))))))))) (BL.keep rfl (BL.keep rfl (BL.keep rfl BL.nil))) (BK.cons rfl bZ rfl rfl (BK.cons rfl (bS rfl bZ) rfl rfl (BK.cons rfl (bS rfl (bS rfl bZ)) rfl rfl BK.nil))) GK.nil)⟩
                · refine gDo eZ (decide_eq_false h85) ?_
                  refine oMov (eR rfl) ?_
                  refine gDo (eS rfl eZ) (decide_eq_false h85) ?_
                  refine oMov (eR rfl) ?_
                  refine gDo (eR rfl) (decide_eq_false h85) ?_
                  obtain ⟨v86, h87, H⟩ := obind H
                  refine oCall (u := (.one (.d (.bool v86)))) eC Cl.fn (c_laws_eqLockS h87) (Evs.cons (eS rfl eZ) (Evs.cons eZ Evs.nil)) (VDs.cons (VD.sl (bS rfl bZ) (List.length_map _)) (VDs.cons VD.plain VDs.nil)) rfl ?_
                  refine gDo (eR rfl) (decide_eq_false h85) ?_
                  refine oInv eZ ?_
                  refine oPickF (eR rfl) (decide_eq_false h85) eZ ?_
                  refine oMov eZ ?_
                  rcases oite H with ⟨h88, H⟩ | ⟨h88, H⟩
                  · refine gDo eZ (congrArg Bool.not h88) ?_
                    refine oMov (eR rfl) ?_
                    refine gDo (eS rfl eZ) (congrArg Bool.not h88) ?_
                    refine oMov (eR rfl) ?_
                    refine gDo (eR rfl) (congrArg Bool.not h88) ?_
                    obtain ⟨v89, h90, H⟩ := obind H
                    refine oCall (u := (.one (.d (.bool v89)))) eC Cl.fn (c_laws_eqIntS h90) (Evs.cons (eS rfl eZ) (Evs.cons eZ Evs.nil)) (VDs.cons (VD.sl (bS rfl (bS rfl bZ)) (List.length_map _)) (VDs.cons VD.plain VDs.nil)) rfl ?_
                    refine gDo (eR rfl) (congrArg Bool.not h88) ?_
                    refine oInv eZ ?_
                    refine oPickF (eR rfl) (congrArg Bool.not h88) eZ ?_
                    refine oMov eZ ?_
                    rcases oite H with ⟨h91, H⟩ | ⟨h91, H⟩
                    · refine gDo eZ (congrArg Bool.not h91) ?_
                      refine oMov (eR rfl) ?_
                      refine gDo (eS rfl eZ) (congrArg Bool.not h91) ?_
                      refine oMov (eR rfl) ?_
                      refine gDo (eR rfl) (congrArg Bool.not h91) ?_
                      refine oNeq (eS rfl eZ) eZ ?_
                      refine oPickF (eR rfl) (congrArg Bool.not h91) eZ ?_
                      refine xNil ?_
                      exact TQ.qn ⟨(decide (¬ v24.2.2 = v16.2.2)), H, (wk_mkG [] (SL.cons (eR rfl) rfl VWk.rfl (SL.cons (eR rfl) rfl VWk.rfl (SL.cons (eR rfl) rfl VWk.rfl (SL.cons (eR rfl) rfl VWk.rfl (SL.cons (eR rfl) rfl VWk.rfl (SL.cons (eR rfl) rfl VWk.rfl (SL.cons (eR rfl) rfl VWk.rfl (SL.cons (eR rfl) rfl VWk.rfl (SL.cons (eR rfl) rfl VWk.rfl (SL.cons (eR rfl) rfl VWk.rfl (SL.cons eZ rfl VWk.rfl SL.nil))))))))))) (BL.keep rfl (BL.keep rfl (BL.keep rfl BL.nil))) (BK.cons rfl bZ rfl rfl (BK.cons rfl (bS rfl bZ) rfl rfl (BK.cons rfl (bS rfl (bS rfl bZ)) rfl rfl BK.nil))) GK.nil)⟩
                    · refine gSkip eZ (congrArg Bool.not (nt h91)) rfl ?_
                      refine gSkip (eS rfl eZ) (congrArg Bool.not (nt h91)) rfl ?_
                      refine gSkip (eR rfl) (congrArg Bool.not (nt h91)) rfl ?_
                      refine oPickT (eR rfl) (congrArg Bool.not (nt h91)) eC ?_
                      refine xNil ?_
                      exact TQ.qn ⟨true, H, (wk_mkG [] (SL.cons (eR rfl) rfl VWk.rfl (SL.cons (eR rfl) rfl VWk.rfl (SL.cons (eR rfl) rfl VWk.rfl (SL.cons (eR rfl) rfl VWk.rfl (SL.cons (eR rfl) rfl VWk.rfl (SL.cons (eR rfl) rfl VWk.rfl (SL.cons (eR rfl) rfl VWk.rfl (SL.cons (eR rfl) rfl VWk.rfl (SL.cons (eR rfl) rfl VWk.rfl (SL.cons (eR rfl) rfl VWk.rfl (SL.cons eZ rfl VWk.rfl SL.nil))))))))))) (BL.keep rfl (BL.keep rfl (BL.keep rfl BL.nil))) (BK.cons rfl bZ rfl rfl (BK.cons rfl (bS rfl bZ) rfl rfl (BK.cons rfl (bS rfl (bS rfl bZ)) rfl rfl BK.nil))) GK.nil)⟩
                  · refine gSkip eZ (congrArg Bool.not (nt h88)) rfl ?_
                    refine gSkip (eS rfl eZ) (congrArg Bool.not (nt h88)) rfl ?_
                    refine gSkip (eR rfl) (congrArg Bool.not (nt h88)) rfl ?_
                    refine gSkip (eR rfl) (congrArg Bool.not (nt h88)) rfl ?_
                    refine oPickT (eR rfl) (congrArg Bool.not (nt h88)) eC ?_
                    refine oMov eZ ?_
                    refine gSkip eZ rfl rfl ?_
                    refine gSkip (eS rfl eZ) rfl rfl ?_
                    refine gSkip (eR rfl) rfl rfl ?_
                    refine oPickT (eR rfl) rfl eC ?_
                    refine xNil ?_
                    exact TQ.qn ⟨true, H, (wk_mkG [] (SL.cons (eR rfl) rfl VWk.rfl (SL.cons (eR rfl) rfl VWk.rfl (SL.cons (eR rfl) rfl VWk.rfl (SL.cons (eR rfl) rfl VWk.rfl (SL.cons (eR rfl) rfl VWk.rfl (SL.cons (eR rfl) rfl VWk.rfl (SL.cons (eR rfl) rfl VWk.rfl (SL.cons (eR rfl) rfl VWk.rfl (SL.cons (eR rfl) rfl VWk.rfl (SL.cons (eR rfl) rfl VWk.rfl (SL.cons eZ rfl VWk.rfl SL.nil))))))))))) (BL.keep rfl (BL.keep rfl (BL.keep rfl BL.nil))) (BK.cons rfl bZ rfl rfl (BK.cons rfl (bS rfl bZ) rfl rfl (BK.cons rfl (bS rfl (bS rfl bZ)) rfl rfl BK.nil))) GK.nil)⟩
            · refine AW.condT eZ (congrArg Bool.not (nt h38)) ?_
              refine AW.seq ?_
              refine AW.regs ?_
              refine oMov eC ?_
              refine xNil ?_
              refine TQ.qn ?_
              refine AW.ret ?_
              refine TQ.qr ?_
              obtain rfl := Option.some.inj H
              exact endsR (RL.cons (RV.tmp eZ) (VO.flat rfl) RL.nil) List.nodup_nil
          · refine AW.condT eZ (congrArg Bool.not (nt h33)) ?_
            refine AW.seq ?_
            refine AW.regs ?_
            refine oMov eC ?_
            refine xNil ?_
            refine TQ.qn ?_
            refine AW.ret ?_
            refine TQ.qr ?_
            obtain rfl := Option.some.inj H
            exact endsR (RL.cons (RV.tmp eZ) (VO.flat rfl) RL.nil) List.nodup_nil
      · refine AW.regs ?_
        refine oMov (eR rfl) ?_
        refine oMov (eR rfl) ?_
        obtain ⟨v92, h93, H⟩ := obind H
        refine oCall (u := (.one (.d (.bool v92)))) eC Cl.fn (c_laws_eqLockS h93) (Evs.cons (eS rfl eZ) (Evs.cons eZ Evs.nil)) (VDs.cons (VD.sl (bS rfl bZ) (List.length_map _)) (VDs.cons VD.plain VDs.nil)) rfl ?_
        refine oInv eZ ?_
        refine oMov eZ ?_
        rcases oite H with ⟨h94, H⟩ | ⟨h94, H⟩
        · refine gDo eZ (congrArg Bool.not h94) ?_
          refine oMov (eR rfl) ?_
          refine gDo (eS rfl eZ) (congrArg Bool.not h94) ?_
          refine oMov (eR rfl) ?_
          refine gDo (eR rfl) (congrArg Bool.not h94) ?_
          obtain ⟨v95, h96, H⟩ := obind H
          refine oCall (u := (.one (.d (.bool v95)))) eC Cl.fn (c_laws_eqIntS h96) (Evs.cons (eS rfl eZ) (Evs.cons eZ Evs.nil)) (VDs.cons (VD.sl bZ (List.length_map _)) (VDs.cons VD.plain VDs.nil)) rfl ?_
          refine gDo (eR rfl) (congrArg Bool.not h94) ?_
          refine oInv eZ ?_
          refine oPickF (eR rfl) (congrArg Bool.not h94) eZ ?_
          refine oMov eZ ?_
          rcases oite H with ⟨h97, H⟩ | ⟨h97, H⟩
          · refine gDo eZ (congrArg Bool.not h97) ?_
            refine oMov (eR rfl) ?_
            refine gDo (eS rfl eZ) (congrArg Bool.not h97) ?_
            refine oMov (eR rfl) ?_
            refine gDo (eR rfl) (congrArg Bool.not h97) ?_
            refine oNeq (eS rfl eZ) eZ ?_
            refine oPickF (eR rfl) (congrArg Bool.not h97) eZ ?_
            refine xNil ?_
            exact TQ.qn ⟨(decide (¬ v24.2.2 = v16.2.2)), H, (wk_mkG [] (SL.cons (eR rfl) rfl VWk.rfl (SL.cons (eR rfl) rfl VWk.rfl (SL.cons (eR rfl) rfl VWk.rfl (SL.cons (eR rfl) rfl VWk.rfl (SL.cons (eR rfl) rfl VWk.rfl (SL.cons (eR rfl) rfl VWk.rfl (SL.cons (eR rfl) rfl VWk.rfl (SL.cons (eR rfl) rfl VWk.rfl (SL.cons (eR rfl) rfl VWk.rfl (SL.cons (eR rfl) rfl VWk.rfl (SL.cons (eR rfl) rfl VWk.rfl (SL.cons (eR rfl) rfl VWk.rfl (SL.cons (eR rfl) rfl VWk.rfl (SL.cons eZ rfl VWk.rfl SL.nil)))))))))))))) (BL.keep rfl (BL.keep rfl (BL.keep rfl (BL.keep rfl (BL.keep rfl BL.nil))))) (BK.cons rfl (bS rfl (bS rfl (bS rfl (bS rfl bZ)))) rfl rfl (BK.cons rfl (bS rfl (bS rfl (bS rfl bZ))) rfl rfl (BK.cons rfl (bS rfl (bS rfl bZ)) rfl rfl (BK.cons rfl (bS rfl bZ) rfl rfl (BK.cons rfl bZ rfl rfl BK.nil))))) GK.nil)⟩
          · refine gSkip eZ (congrArg Bool.not (nt h97)) rfl ?_
            refine gSkip (eS rfl eZ) (congrArg Bool.not (nt h97)) rfl ?_
            refine gSkip (eR rfl) (congrArg Bool.not (nt h97)) rfl ?_
            refine oPickT (eR rfl) (congrArg Bool.not (nt h97)) eC ?_
            refine xNil ?_
            exact TQ.qn ⟨true, H, (wk_mkG [] (SL.cons (eR rfl) rfl VWk.rfl (SL.cons (eR rfl) rfl VWk.rfl (SL.cons (eR rfl) rfl VWk.rfl (SL.cons (eR rfl) rfl VWk.rfl (SL.cons (eR rfl) rfl VWk.rfl (SL.cons (eR rfl) rfl VWk.rfl (SL.cons (eR rfl) rfl VWk.rfl (SL.cons (eR rfl) rfl VWk.rfl (SL.cons (eR rfl) rfl VWk.rfl (SL.cons (eR rfl) rfl VWk.rfl (SL.cons (eR rfl) rfl VWk.rfl (SL.cons (eR rfl) rfl VWk.rfl (SL.cons (eR rfl) rfl VWk.rfl (SL.cons eZ rfl VWk.rfl SL.nil)))))))))))))) (BL.keep rfl (BL.keep rfl (BL.keep rfl (BL.keep rfl (BL.keep rfl BL.nil))))) (BK.cons rfl (bS rfl (bS rfl (bS rfl (bS rfl bZ)))) rfl rfl (BK.cons rfl (bS rfl (bS rfl (bS rfl bZ))) rfl rfl (BK.cons rfl (bS rfl (bS rfl bZ)) rfl rfl (BK.cons rfl (bS rfl bZ) rfl rfl (BK.cons rfl bZ rfl rfl BK.nil))))) GK.nil)⟩
        · refine gSkip eZ (congrArg Bool.not (nt h94)) rfl ?_
          refine gSkip (eS rfl eZ) (congrArg Bool.not (nt h94)) rfl ?_
          refine gSkip (eR rfl) (congrArg Bool.not (nt h94)) rfl ?_
          refine gSkip (eR rfl) (congrArg Bool.not (nt h94)) rfl ?_
          refine oPickT (eR rfl) (congrArg Bool.not (nt h94)) eC ?_
          refine oMov eZ ?_
          refine gSkip eZ rfl rfl ?_
          refine gSkip (eS rfl eZ) rfl rfl ?_
          refine gSkip (eR rfl) rfl rfl ?_
          refine oPickT (eR rfl) rfl eC ?_
          refine xNil ?_
          exact TQ.qn ⟨true, H, (wk_mkG [] (SL.cons (eR rfl) rfl VWk.rfl (SL.cons (eR rfl) rfl VWk.rfl (SL.cons (eR rfl) rfl VWk.rfl (SL.cons (eR rfl) rfl VWk.rfl (SL.cons (eR rfl) rfl VWk.rfl (SL.cons (eR rfl) rfl VWk.rfl (SL.cons (eR rfl) rfl VWk.rfl (SL.cons (eR rfl) rfl VWk.rfl (SL.cons (eR rfl) rfl VWk.rfl (SL.cons (eR rfl) rfl VWk.rfl (SL.cons (eR rfl) rfl VWk.rfl (SL.cons (eR rfl) rfl VWk.rfl (SL.cons (eR rfl) rfl VWk.rfl (SL.cons eZ rfl VWk.rfl SL.nil)))))))))))))) (BL.keep rfl (BL.keep rfl (BL.keep rfl (BL.keep rfl (BL.keep rfl BL.nil))))) (BK.cons rfl (bS rfl (bS rfl (bS rfl (bS rfl bZ)))) rfl rfl (BK.cons rfl (bS rfl (bS rfl (bS rfl bZ))) rfl rfl (BK.cons rfl (bS rfl (bS rfl bZ)) rfl rfl (BK.cons rfl (bS rfl bZ) rfl rfl (BK.cons rfl bZ rfl rfl BK.nil))))) GK.nil)⟩

end Go.AW
