/- That functions of the program compute what the plain functions say: printed by a program of the prover's own (tool/dec.py). Conditions: each theorem's own. -/
import Derived.Test.YtkjjdnfbaejdkaaMAtlasInstalled
import Derived.Test.YtkjjdnfbaejdkaaGAtlasInstalled
import Derived.Test.YtkjjdnfbaejdkaaDAtlasInstalleda
import Derived.Test.YtkjjdnfbaejdkaaDAtlasInstalledb
set_option linter.unusedVariables false
set_option linter.unusedSimpArgs false
set_option maxRecDepth 100000
namespace Go.AW
open Go.Proofs

theorem c_laws_FnExactAtlasInstalled {a1 : TAtlas} {a2 : Int} {a3 : Bool} {r : Bool} (H : m_laws_FnExactAtlasInstalled a1 a2 a3 = some r) : Fn Try.prog k_laws_FnExactAtlasInstalled (lent [(.agg (d_TAtlas a1)), (.int .i64 a2), (.bool a3)]) true [(.bool r)] := by
  refine i_laws_FnExactAtlasInstalled_fn (Nat.le_of_ble_eq_true rfl) ?_
  rw [init_mk]
  refine AW.weaken (t := mk [(0, (.agg [(.d (.int .i64 a1.Epoch)), (.d (.sl 3 (List.map d_TPart a1.Parts))), (.d (.int .i64 a1.Move.No)), (.d (.int .i64 a1.Move.Stage)), (.d (.int .i64 a1.Move.Lo)), (.d (.int .i64 a1.Move.Hi)), (.d (.int .i64 a1.Move.From)), (.d (.int .i64 a1.Move.To)), (.d (.sl 2 (List.map d_TCell a1.Move.Cells)))])), (1, (.one (.d (.int .i64 a2)))), (2, (.one (.d (.bool a3))))] [] (lk [])) (wk_mk [] (SL.cons (v := (.agg [(.d (.int .i64 a1.Epoch)), (.d (.sl 3 (List.map d_TPart a1.Parts))), (.d (.int .i64 a1.Move.No)), (.d (.int .i64 a1.Move.Stage)), (.d (.int .i64 a1.Move.Lo)), (.d (.int .i64 a1.Move.Hi)), (.d (.int .i64 a1.Move.From)), (.d (.int .i64 a1.Move.To)), (.d (.sl 2 (List.map d_TCell a1.Move.Cells)))])) eZ rfl VWk.rfl (SL.cons (v := (.one (.d (.int .i64 a2)))) (eS rfl eZ) rfl VWk.rfl (SL.cons (v := (.one (.d (.bool a3)))) (eS rfl (eS rfl eZ)) rfl VWk.rfl SL.nil))) BL.nil BK.nil) ?_
  unfold m_laws_FnExactAtlasInstalled at H
  unfold i_laws_FnExactAtlasInstalled
  refine AW.seq ?_
  refine AW.regs ?_
  refine oBox (n := 192) (m := 9) (cs := [(.d (.int .i64 a1.Epoch)), (.d (.sl 3 (List.map d_TPart a1.Parts))), (.d (.int .i64 a1.Move.No)), (.d (.int .i64 a1.Move.Stage)), (.d (.int .i64 a1.Move.Lo)), (.d (.int .i64 a1.Move.Hi)), (.d (.int .i64 a1.Move.From)), (.d (.int .i64 a1.Move.To)), (.d (.sl 2 (List.map d_TCell a1.Move.Cells)))]) rfl eZ rfl rfl nZ ?_
  refine oMov eC ?_
  refine xNil ?_
  refine TQ.qn ?_
  refine AW.seq ?_
  refine AW.regs ?_
  refine oMov eC ?_
  refine xNil ?_
  refine TQ.qn ?_
  refine AW.seq ?_
  refine AW.regs ?_
  refine oLoadVA (es := [(.d (.int .i64 a1.Epoch)), (.d (.sl 3 (List.map d_TPart a1.Parts))), (.d (.int .i64 a1.Move.No)), (.d (.int .i64 a1.Move.Stage)), (.d (.int .i64 a1.Move.Lo)), (.d (.int .i64 a1.Move.Hi)), (.d (.int .i64 a1.Move.From)), (.d (.int .i64 a1.Move.To)), (.d (.sl 2 (List.map d_TCell a1.Move.Cells)))]) (eS rfl (eS rfl eZ)) bZ rfl ?_
  refine oMov (eS rfl eZ) ?_
  obtain ⟨v4, h5, H⟩ := obind H
  refine oCall (u := (.one (.d (.int .i64 v4)))) eC Cl.fn (c_laws_szAtlas h5) (Evs.cons (eS rfl eZ) (Evs.cons eZ Evs.nil)) (VDs.cons (VD.agg rfl) (VDs.cons VD.plain VDs.nil)) rfl ?_
  refine oMov eZ ?_
  refine xNil ?_
  refine TQ.qn ?_
  refine AW.seq ?_
  refine AW.seq ?_
  refine AW.regs ?_
  refine oMov eZ ?_
  refine oLss eZ eC ?_
  refine xNil ?_
  refine TQ.qn ?_
  rcases oite H with ⟨h6, H⟩ | ⟨h6, H⟩
  · refine AW.condT eZ (decide_eq_true h6) ?_
    refine AW.seq ?_
    refine AW.regs ?_
    refine oMov eC ?_
    refine xNil ?_
    refine TQ.qn ?_
    refine AW.ret ?_
    refine TQ.qr ?_
    obtain rfl := Option.some.inj H
    exact endsR (RL.cons (RV.tmp eZ) (VO.flat rfl) RL.nil) List.nodup_nil
  · refine AW.condF eZ (decide_eq_false h6) ?_
    refine AW.skip ?_
    refine TQ.qn ?_
    refine AW.seq ?_
    refine AW.regs ?_
    refine oLoadVA (es := [(.d (.int .i64 a1.Epoch)), (.d (.sl 3 (List.map d_TPart a1.Parts))), (.d (.int .i64 a1.Move.No)), (.d (.int .i64 a1.Move.Stage)), (.d (.int .i64 a1.Move.Lo)), (.d (.int .i64 a1.Move.Hi)), (.d (.int .i64 a1.Move.From)), (.d (.int .i64 a1.Move.To)), (.d (.sl 2 (List.map d_TCell a1.Move.Cells)))]) (eS rfl (eS rfl (eS rfl (eS rfl (eS rfl (eS rfl (eS rfl (eS rfl eZ)))))))) bZ rfl ?_
    obtain ⟨v7, h8, H⟩ := obind H
    refine oCall (u := (.agg [(.d (.int .i64 v7.Epoch)), (.d (.sl 3 (List.map d_TPart v7.Parts))), (.d (.int .i64 v7.Move.No)), (.d (.int .i64 v7.Move.Stage)), (.d (.int .i64 v7.Move.Lo)), (.d (.int .i64 v7.Move.Hi)), (.d (.int .i64 v7.Move.From)), (.d (.int .i64 v7.Move.To)), (.d (.sl 2 (List.map d_TCell v7.Move.Cells)))])) eC Cl.fn (c_laws_toAtlas h8) (Evs.cons eZ Evs.nil) (VDs.cons (VD.agg rfl) VDs.nil) rfl ?_
    refine oMov (eS rfl (eS rfl (eS rfl (eS rfl (eS rfl (eS rfl (eS rfl (eS rfl (eS rfl (eS rfl (eS rfl (eS rfl eZ)))))))))))) ?_
    refine oMov (eS rfl (eS rfl (eS rfl (eS rfl (eS rfl (eS rfl (eS rfl (eS rfl (eS rfl (eS rfl (eS rfl (eS rfl (eS rfl (eS rfl eZ)))))))))))))) ?_
    obtain ⟨v9, h10, H⟩ := obind H
    refine oCall (u := (.tup [(.agg [(.d (.int .i64 v9.1.Epoch)), (.d (.sl 3 (List.map d_TPart v9.1.Parts))), (.d (.int .i64 v9.1.Move.No)), (.d (.int .i64 v9.1.Move.Stage)), (.d (.int .i64 v9.1.Move.Lo)), (.d (.int .i64 v9.1.Move.Hi)), (.d (.int .i64 v9.1.Move.From)), (.d (.int .i64 v9.1.Move.To)), (.d (.sl 2 (List.map d_TCell v9.1.Move.Cells)))]), (.one (.d (.int .i64 v9.2)))])) eC Cl.fn (c_spec_AtlasInstalled h10) (Evs.cons (eS rfl (eS rfl eZ)) (Evs.cons (eS rfl eZ) (Evs.cons eZ Evs.nil))) (VDs.cons (VD.agg rfl) (VDs.cons VD.plain (VDs.cons VD.plain VDs.nil))) rfl ?_
    refine oMov eZ ?_
    refine oExt (v := (.agg [(.d (.int .i64 v9.1.Epoch)), (.d (.sl 3 (List.map d_TPart v9.1.Parts))), (.d (.int .i64 v9.1.Move.No)), (.d (.int .i64 v9.1.Move.Stage)), (.d (.int .i64 v9.1.Move.Lo)), (.d (.int .i64 v9.1.Move.Hi)), (.d (.int .i64 v9.1.Move.From)), (.d (.int .i64 v9.1.Move.To)), (.d (.sl 2 (List.map d_TCell v9.1.Move.Cells)))])) eZ rfl ?_
    refine oExt (v := (.one (.d (.int .i64 v9.2)))) (eS rfl eZ) rfl ?_
    refine oVar (n := 512) (m := 9) rfl rfl (nS rfl nZ) ?_
    refine oStoreV (es := [(.d (.int .i64 v9.1.Epoch)), (.d (.sl 3 (List.map d_TPart v9.1.Parts))), (.d (.int .i64 v9.1.Move.No)), (.d (.int .i64 v9.1.Move.Stage)), (.d (.int .i64 v9.1.Move.Lo)), (.d (.int .i64 v9.1.Move.Hi)), (.d (.int .i64 v9.1.Move.From)), (.d (.int .i64 v9.1.Move.To)), (.d (.sl 2 (List.map d_TCell v9.1.Move.Cells)))]) eZ (eS rfl (eS rfl eZ)) rfl rfl bZ rfl ?_
    refine oMov (eS rfl eZ) ?_
    refine xNil ?_
    refine TQ.qn ?_
    refine AW.weaken (wk_mkG [] (SL.cons (k := 9) eZ rfl VWk.rfl (SL.cons (k := 8) (eS rfl eZ) rfl VWk.rfl (SL.cons (k := 3) (eS rfl (eS rfl (eS rfl (eS rfl (eS rfl (eS rfl (eS rfl (eS rfl (eS rfl (eS rfl (eS rfl (eS rfl (eS rfl (eS rfl (eS rfl (eS rfl (eS rfl (eS rfl eZ)))))))))))))))))) rfl VWk.rfl (SL.cons (k := 1) (eS rfl (eS rfl (eS rfl (eS rfl (eS rfl (eS rfl (eS rfl (eS rfl (eS rfl (eS rfl (eS rfl (eS rfl (eS rfl (eS rfl (eS rfl (eS rfl (eS rfl (eS rfl (eS rfl (eS rfl eZ)))))))))))))))))))) rfl VWk.rfl (SL.cons (k := 2) (eS rfl (eS rfl (eS rfl (eS rfl (eS rfl (eS rfl (eS rfl (eS rfl (eS rfl (eS rfl (eS rfl (eS rfl (eS rfl (eS rfl (eS rfl (eS rfl (eS rfl (eS rfl (eS rfl (eS rfl (eS rfl eZ))))))))))))))))))))) rfl VWk.rfl SL.nil))))) (BL.keep rfl (BL.keep rfl (BL.keep rfl BL.nil))) (BK.cons (n := 512) rfl bZ rfl rfl (BK.cons (n := 192) rfl (bS rfl (bS rfl bZ)) rfl rfl BK.nil)) GK.nil) ?_
    refine AW.seq ?_
    refine AW.regs ?_
    refine oLoadVA (es := [(.d (.int .i64 a1.Epoch)), (.d (.sl 3 (List.map d_TPart a1.Parts))), (.d (.int .i64 a1.Move.No)), (.d (.int .i64 a1.Move.Stage)), (.d (.int .i64 a1.Move.Lo)), (.d (.int .i64 a1.Move.Hi)), (.d (.int .i64 a1.Move.From)), (.d (.int .i64 a1.Move.To)), (.d (.sl 2 (List.map d_TCell a1.Move.Cells)))]) (eS rfl (eS rfl eZ)) (bS rfl bZ) rfl ?_
    obtain ⟨v11, h12, H⟩ := obind H
    refine oCallN (u := (.agg [(.d (.int .i64 v11.Epoch)), (.sl 2049 0 v11.Parts.length), (.d (.int .i64 v11.Move.No)), (.d (.int .i64 v11.Move.Stage)), (.d (.int .i64 v11.Move.Lo)), (.d (.int .i64 v11.Move.Hi)), (.d (.int .i64 v11.Move.From)), (.d (.int .i64 v11.Move.To)), (.sl 2056 0 v11.Move.Cells.length)])) (bs := [(2049, (.data 3 (List.map d_TPart v11.Parts) true none)), (2056, (.data 2 (List.map d_TCell v11.Move.Cells) true none))]) eC Cl.fn (c_laws_toAtlas h12) (Evs.cons eZ Evs.nil) (VDs.cons (VD.agg rfl) VDs.nil) (by simp [bindR, bindV, bindVs, bindC, bindCs]) rfl (fC (nS rfl (nS rfl nZ)) rfl (fC (nS rfl (nS rfl nZ)) rfl (fC (nS rfl (nS rfl nZ)) rfl fN))) ?_
    refine oVar (n := 640) (m := 9) rfl rfl (nS rfl (nS rfl (nS rfl (nS rfl nZ)))) ?_
    refine oStoreV (es := [(.d (.int .i64 v11.Epoch)), (.sl 2049 0 v11.Parts.length), (.d (.int .i64 v11.Move.No)), (.d (.int .i64 v11.Move.Stage)), (.d (.int .i64 v11.Move.Lo)), (.d (.int .i64 v11.Move.Hi)), (.d (.int .i64 v11.Move.From)), (.d (.int .i64 v11.Move.To)), (.sl 2056 0 v11.Move.Cells.length)]) eZ (eS rfl eZ) rfl rfl bZ rfl ?_
    refine xNil ?_
    refine TQ.qn ?_
    refine AW.seq ?_
    refine AW.regs ?_
    refine oLoadVA (es := [(.d (.int .i64 v11.Epoch)), (.sl 2049 0 v11.Parts.length), (.d (.int .i64 v11.Move.No)), (.d (.int .i64 v11.Move.Stage)), (.d (.int .i64 v11.Move.Lo)), (.d (.int .i64 v11.Move.Hi)), (.d (.int .i64 v11.Move.From)), (.d (.int .i64 v11.Move.To)), (.sl 2056 0 v11.Move.Cells.length)]) eZ bZ rfl ?_
    refine oMov (eS rfl (eS rfl (eS rfl (eS rfl (eS rfl (eS rfl (eS rfl eZ))))))) ?_
    refine oMov (eS rfl (eS rfl (eS rfl (eS rfl (eS rfl (eS rfl (eS rfl (eS rfl (eS rfl eZ))))))))) ?_
    obtain ⟨v13, h14, H⟩ := obind H
    refine oCallN (u := (.tup [(.agg [(.d (.int .i64 v13.1.Epoch)), (.sl 2369 0 v13.1.Parts.length), (.d (.int .i64 v13.1.Move.No)), (.d (.int .i64 v13.1.Move.Stage)), (.d (.int .i64 v13.1.Move.Lo)), (.d (.int .i64 v13.1.Move.Hi)), (.d (.int .i64 v13.1.Move.From)), (.d (.int .i64 v13.1.Move.To)), (.sl 2376 0 v13.1.Move.Cells.length)]), (.one (.d (.int .i64 v13.2)))])) (bs := [(2369, (.data 3 (List.map d_TPart v13.1.Parts) true none)), (2376, (.data 2 (List.map d_TCell v13.1.Move.Cells) true none))]) eC Cl.fn (c_impl_AtlasInstalled h14) (Evs.cons (eS rfl (eS rfl eZ)) (Evs.cons (eS rfl eZ) (Evs.cons eZ Evs.nil))) (VDs.cons (VD.aggs (CDs.plain (CDs.sl (bS rfl (bS rfl (bS rfl bZ))) (List.length_map _) (CDs.plain (CDs.plain (CDs.plain (CDs.plain (CDs.plain (CDs.plain (CDs.sl (bS rfl (bS rfl bZ)) (List.length_map _) CDs.nil)))))))))) (VDs.cons VD.plain (VDs.cons VD.plain VDs.nil))) (by simp [bindR, bindV, bindVs, bindC, bindCs]) rfl (fC (nS rfl (nS rfl (nS rfl (nS rfl (nS rfl (nS rfl nZ)))))) rfl (fC (nS rfl (nS rfl (nS rfl (nS rfl (nS rfl (nS rfl nZ)))))) rfl (fC (nS rfl (nS rfl (nS rfl (nS rfl (nS rfl (nS rfl nZ)))))) rfl fN))) ?_
    refine oMov eZ ?_
    refine oExt (v := (.agg [(.d (.int .i64 v13.1.Epoch)), (.sl 2369 0 v13.1.Parts.length), (.d (.int .i64 v13.1.Move.No)), (.d (.int .i64 v13.1.Move.Stage)), (.d (.int .i64 v13.1.Move.Lo)), (.d (.int .i64 v13.1.Move.Hi)), (.d (.int .i64 v13.1.Move.From)), (.d (.int .i64 v13.1.Move.To)), (.sl 2376 0 v13.1.Move.Cells.length)])) eZ rfl ?_
    refine oExt (v := (.one (.d (.int .i64 v13.2)))) (eS rfl eZ) rfl ?_
    refine oVar (n := 704) (m := 9) rfl rfl (nS rfl (nS rfl (nS rfl (nS rfl (nS rfl (nS rfl (nS rfl (nS rfl nZ)))))))) ?_
    refine oStoreV (es := [(.d (.int .i64 v13.1.Epoch)), (.sl 2369 0 v13.1.Parts.length), (.d (.int .i64 v13.1.Move.No)), (.d (.int .i64 v13.1.Move.Stage)), (.d (.int .i64 v13.1.Move.Lo)), (.d (.int .i64 v13.1.Move.Hi)), (.d (.int .i64 v13.1.Move.From)), (.d (.int .i64 v13.1.Move.To)), (.sl 2376 0 v13.1.Move.Cells.length)]) eZ (eS rfl (eS rfl eZ)) rfl rfl bZ rfl ?_
    refine oMov (eS rfl eZ) ?_
    refine xNil ?_
    refine TQ.qn ?_
    refine AW.weaken (wk_mkG [] (SL.cons (k := 12) eZ rfl VWk.rfl (SL.cons (k := 11) (eS rfl eZ) rfl VWk.rfl (SL.cons (k := 10) (eS rfl (eS rfl (eS rfl (eS rfl (eS rfl (eS rfl (eS rfl (eS rfl (eS rfl eZ))))))))) rfl VWk.rfl (SL.cons (k := 9) (eS rfl (eS rfl (eS rfl (eS rfl (eS rfl (eS rfl (eS rfl (eS rfl (eS rfl (eS rfl (eS rfl (eS rfl eZ)))))))))))) rfl VWk.rfl (SL.cons (k := 8) (eS rfl (eS rfl (eS rfl (eS rfl (eS rfl (eS rfl (eS rfl (eS rfl (eS rfl (eS rfl (eS rfl (eS rfl (eS rfl eZ))))))))))))) rfl VWk.rfl (SL.cons (k := 3) (eS rfl (eS rfl (eS rfl (eS rfl (eS rfl (eS rfl (eS rfl (eS rfl (eS rfl (eS rfl (eS rfl (eS rfl (eS rfl (eS rfl eZ)))))))))))))) rfl VWk.rfl (SL.cons (k := 1) (eS rfl (eS rfl (eS rfl (eS rfl (eS rfl (eS rfl (eS rfl (eS rfl (eS rfl (eS rfl (eS rfl (eS rfl (eS rfl (eS rfl (eS rfl eZ))))))))))))))) rfl VWk.rfl (SL.cons (k := 2) (eS rfl (eS rfl (eS rfl (eS rfl (eS rfl (eS rfl (eS rfl (eS rfl (eS rfl (eS rfl (eS rfl (eS rfl (eS rfl (eS rfl (eS rfl (eS rfl eZ)))))))))))))))) rfl VWk.rfl SL.nil)))))))) (BL.keep rfl (BL.keep rfl (BL.keep rfl (BL.keep rfl (BL.keep rfl (BL.keep rfl (BL.keep rfl (BL.keep rfl (BL.keep rfl (BL.keep rfl BL.nil)))))))))) (BK.cons (n := 704) rfl bZ rfl rfl (BK.cons (n := 2376) rfl (bS rfl (bS rfl bZ)) rfl rfl (BK.cons (n := 2369) rfl (bS rfl (bS rfl (bS rfl bZ))) rfl rfl (BK.cons (n := 640) rfl (bS rfl (bS rfl (bS rfl (bS rfl bZ)))) rfl rfl (BK.cons (n := 2056) rfl (bS rfl (bS rfl (bS rfl (bS rfl (bS rfl (bS rfl bZ)))))) rfl rfl (BK.cons (n := 2049) rfl (bS rfl (bS rfl (bS rfl (bS rfl (bS rfl (bS rfl (bS rfl bZ))))))) rfl rfl (BK.cons (n := 512) rfl (bS rfl (bS rfl (bS rfl (bS rfl (bS rfl (bS rfl (bS rfl (bS rfl bZ)))))))) rfl rfl (BK.cons (n := 192) rfl (bS rfl (bS rfl (bS rfl (bS rfl (bS rfl (bS rfl (bS rfl (bS rfl (bS rfl bZ))))))))) rfl rfl BK.nil)))))))) GK.nil) ?_
    refine AW.seq ?_
    refine AW.seqJ (fun t15 : Bool => (laws_FnExactAtlasInstalled_j15 a1 v11 v13 a2 a3 v9) t15 = some r) (fun t15 => mk [(1, (.one (.d (.int .i64 a2)))), (2, (.one (.d (.bool a3)))), (3, (.one (.ptr (.nm 192 0 0)))), (8, (.one (.ptr (.nm 512 0 0)))), (9, (.one (.d (.int .i64 v9.2)))), (10, (.one (.ptr (.nm 640 0 0)))), (11, (.one (.ptr (.nm 704 0 0)))), (12, (.one (.d (.int .i64 v13.2)))), (48, (.one (.d (.bool t15))))] [(192, (.vars 9 [(.d (.int .i64 a1.Epoch)), (.d (.sl 3 (List.map d_TPart a1.Parts))), (.d (.int .i64 a1.Move.No)), (.d (.int .i64 a1.Move.Stage)), (.d (.int .i64 a1.Move.Lo)), (.d (.int .i64 a1.Move.Hi)), (.d (.int .i64 a1.Move.From)), (.d (.int .i64 a1.Move.To)), (.d (.sl 2 (List.map d_TCell a1.Move.Cells)))])), (512, (.vars 9 [(.d (.int .i64 v9.1.Epoch)), (.d (.sl 3 (List.map d_TPart v9.1.Parts))), (.d (.int .i64 v9.1.Move.No)), (.d (.int .i64 v9.1.Move.Stage)), (.d (.int .i64 v9.1.Move.Lo)), (.d (.int .i64 v9.1.Move.Hi)), (.d (.int .i64 v9.1.Move.From)), (.d (.int .i64 v9.1.Move.To)), (.d (.sl 2 (List.map d_TCell v9.1.Move.Cells)))])), (640, (.vars 9 [(.d (.int .i64 v11.Epoch)), (.sl 2049 0 v11.Parts.length), (.d (.int .i64 v11.Move.No)), (.d (.int .i64 v11.Move.Stage)), (.d (.int .i64 v11.Move.Lo)), (.d (.int .i64 v11.Move.Hi)), (.d (.int .i64 v11.Move.From)), (.d (.int .i64 v11.Move.To)), (.sl 2056 0 v11.Move.Cells.length)])), (704, (.vars 9 [(.d (.int .i64 v13.1.Epoch)), (.sl 2369 0 v13.1.Parts.length), (.d (.int .i64 v13.1.Move.No)), (.d (.int .i64 v13.1.Move.Stage)), (.d (.int .i64 v13.1.Move.Lo)), (.d (.int .i64 v13.1.Move.Hi)), (.d (.int .i64 v13.1.Move.From)), (.d (.int .i64 v13.1.Move.To)), (.sl 2376 0 v13.1.Move.Cells.length)])), (2049, (.data 3 (List.map d_TPart v11.Parts) true none)), (2056, (.data 2 (List.map d_TCell v11.Move.Cells) true none)), (2369, (.data 3 (List.map d_TPart v13.1.Parts) true none)), (2376, (.data 2 (List.map d_TCell v13.1.Move.Cells) true none))] (lk [])) ?_ ?_
    · intro t15 H
      unfold laws_FnExactAtlasInstalled_j15 at H
      rcases oite H with ⟨h17, H⟩ | ⟨h17, H⟩
      · refine AW.condT (eS rfl (eS rfl (eS rfl (eS rfl (eS rfl (eS rfl (eS rfl (eS rfl eZ)))))))) h17 ?_
        refine AW.seq ?_
        refine AW.regs ?_
        refine oMov eC ?_
        refine xNil ?_
        refine TQ.qn ?_
        refine AW.ret ?_
        refine TQ.qr ?_
        obtain rfl := Option.some.inj H
        exact endsR (RL.cons (RV.tmp eZ) (VO.flat rfl) RL.nil) List.nodup_nil
      · refine AW.condF (eS rfl (eS rfl (eS rfl (eS rfl (eS rfl (eS rfl (eS rfl (eS rfl eZ)))))))) (nt h17) ?_
        refine AW.skip ?_
        refine TQ.qn ?_
        refine AW.seq ?_
        refine AW.seq ?_
        refine AW.regd ?_
        refine oLoadVA (es := [(.d (.int .i64 v11.Epoch)), (.sl 2049 0 v11.Parts.length), (.d (.int .i64 v11.Move.No)), (.d (.int .i64 v11.Move.Stage)), (.d (.int .i64 v11.Move.Lo)), (.d (.int .i64 v11.Move.Hi)), (.d (.int .i64 v11.Move.From)), (.d (.int .i64 v11.Move.To)), (.sl 2056 0 v11.Move.Cells.length)]) (eS rfl (eS rfl (eS rfl (eS rfl (eS rfl eZ))))) (hB rfl (bS rfl (bS rfl bZ))) rfl ?_
        refine oLoadVA (es := [(.d (.int .i64 a1.Epoch)), (.d (.sl 3 (List.map d_TPart a1.Parts))), (.d (.int .i64 a1.Move.No)), (.d (.int .i64 a1.Move.Stage)), (.d (.int .i64 a1.Move.Lo)), (.d (.int .i64 a1.Move.Hi)), (.d (.int .i64 a1.Move.From)), (.d (.int .i64 a1.Move.To)), (.d (.sl 2 (List.map d_TCell a1.Move.Cells)))]) (eS rfl (eS rfl (eS rfl eZ))) bZ rfl ?_
        obtain ⟨v18, h19, H⟩ := obind H
        refine oCall (u := (.agg [(.d (.int .i64 v18.Epoch)), (.d (.sl 3 (List.map d_TPart v18.Parts))), (.d (.int .i64 v18.Move.No)), (.d (.int .i64 v18.Move.Stage)), (.d (.int .i64 v18.Move.Lo)), (.d (.int .i64 v18.Move.Hi)), (.d (.int .i64 v18.Move.From)), (.d (.int .i64 v18.Move.To)), (.d (.sl 2 (List.map d_TCell v18.Move.Cells)))])) eC Cl.fn (c_laws_toAtlas h19) (Evs.cons eZ Evs.nil) (VDs.cons (VD.agg rfl) VDs.nil) rfl ?_
        obtain ⟨v20, h21, H⟩ := obind H
        refine oCall (u := (.one (.d (.bool v20)))) eC Cl.fn (c_laws_eqAtlas h21) (Evs.cons (eS rfl (eS rfl eZ)) (Evs.cons eZ Evs.nil)) (VDs.cons (VD.aggs (CDs.plain (CDs.sl (bS rfl (bS rfl (bS rfl (bS rfl bZ)))) (List.length_map _) (CDs.plain (CDs.plain (CDs.plain (CDs.plain (CDs.plain (CDs.plain (CDs.sl (bS rfl (bS rfl (bS rfl (bS rfl (bS rfl bZ))))) (List.length_map _) CDs.nil)))))))))) (VDs.cons (VD.agg rfl) VDs.nil)) rfl ?_
        refine oInv eZ ?_
        refine xNil ?_
        refine TQ.qn ?_
        rcases oite H with ⟨h22, H⟩ | ⟨h22, H⟩
        · refine AW.condF eZ (congrArg Bool.not h22) ?_
          refine AW.skip ?_
          refine TQ.qn ?_
          refine AW.seq ?_
          refine AW.regs ?_
          refine oMov eC ?_
          refine xNil ?_
          refine TQ.qn ?_
          refine AW.seq ?_
          refine AW.regm ?_
          refine rmOne ?_
          refine oLoadVA (es := [(.d (.int .i64 v11.Epoch)), (.sl 2049 0 v11.Parts.length), (.d (.int .i64 v11.Move.No)), (.d (.int .i64 v11.Move.Stage)), (.d (.int .i64 v11.Move.Lo)), (.d (.int .i64 v11.Move.Hi)), (.d (.int .i64 v11.Move.From)), (.d (.int .i64 v11.Move.To)), (.sl 2056 0 v11.Move.Cells.length)]) (eS rfl (eS rfl (eS rfl (eS rfl (eS rfl (eS rfl (eS rfl (eS rfl (eS rfl (eS rfl (eS rfl eZ))))))))))) (bS rfl (bS rfl bZ)) rfl ?_
          refine xNil ?_
          refine rmOne ?_
          refine oMov (eS rfl eZ) ?_
          refine xNil ?_
          obtain ⟨v23, h24, H⟩ := obind H
          obtain ⟨h25, H⟩ := oguard H
          obtain ⟨h26, H⟩ := oguard H
          refine rmCallI (ON := [2049, 2056]) (ls := []) (G := []) (E := [subKey 2049, subKey 2056]) (MB := [(2049, (.data 3 (List.map d_TPart v23.2.Parts) true none)), (2056, (.data 2 (List.map d_TCell v23.2.Move.Cells) true none))]) (u := (.one (.d (.int .i64 v23.1)))) eC Cl.fn (c_laws_markAtlas h24) (Evs.cons (eS rfl eZ) (Evs.cons eZ Evs.nil)) (AO.mut (VO.aggs (VOs.cons (VO.flat rfl) (VOs.cons (VO.sl (bS rfl (bS rfl (bS rfl (bS rfl bZ)))) (List.length_map _) (allFlat fun _ => rfl)) (VOs.cons (VO.flat rfl) (VOs.cons (VO.flat rfl) (VOs.cons (VO.flat rfl) (VOs.cons (VO.flat rfl) (VOs.cons (VO.flat rfl) (VOs.cons (VO.flat rfl) (VOs.cons (VO.sl (bS rfl (bS rfl (bS rfl (bS rfl (bS rfl bZ))))) (List.length_map _) (allFlat fun _ => rfl)) VOs.nil)))))))))) (AO.lent VD.plain rfl AO.nil)) rfl rfl rfl (SZ.cons (bS rfl (bS rfl (bS rfl (bS rfl bZ)))) (allFlat fun _ => rfl) (SZ.cons (bS rfl (bS rfl (bS rfl (bS rfl (bS rfl bZ))))) (allFlat fun _ => rfl) SZ.nil)) (erL.cons (v' := (.one (.d (.int .i64 1)))) rfl (erL.cons (v' := (.agg [(.d (.int .i64 v11.Epoch)), (.sl 2049 0 v11.Parts.length), (.d (.int .i64 v11.Move.No)), (.d (.int .i64 v11.Move.Stage)), (.d (.int .i64 v11.Move.Lo)), (.d (.int .i64 v11.Move.Hi)), (.d (.int .i64 v11.Move.From)), (.d (.int .i64 v11.Move.To)), (.sl 2056 0 v11.Move.Cells.length)])) rfl (erL.cons (v' := (.one (.d (.int .i64 1)))) rfl (erL.cons (v' := (.one (.d (.bool (!v20))))) rfl (erL.cons (v' := (.one (.d (.bool v20)))) rfl (erL.cons (v' := (.agg [(.d (.int .i64 v18.Epoch)), (.d (.sl 3 (List.map d_TPart v18.Parts))), (.d (.int .i64 v18.Move.No)), (.d (.int .i64 v18.Move.Stage)), (.d (.int .i64 v18.Move.Lo)), (.d (.int .i64 v18.Move.Hi)), (.d (.int .i64 v18.Move.From)), (.d (.int .i64 v18.Move.To)), (.d (.sl 2 (List.map d_TCell v18.Move.Cells)))])) rfl (erL.cons (v' := (.agg [(.d (.int .i64 a1.Epoch)), (.d (.sl 3 (List.map d_TPart a1.Parts))), (.d (.int .i64 a1.Move.No)), (.d (.int .i64 a1.Move.Stage)), (.d (.int .i64 a1.Move.Lo)), (.d (.int .i64 a1.Move.Hi)), (.d (.int .i64 a1.Move.From)), (.d (.int .i64 a1.Move.To)), (.d (.sl 2 (List.map d_TCell a1.Move.Cells)))])) rfl (erL.cons (v' := (.agg [(.d (.int .i64 v11.Epoch)), (.sl 2049 0 v11.Parts.length), (.d (.int .i64 v11.Move.No)), (.d (.int .i64 v11.Move.Stage)), (.d (.int .i64 v11.Move.Lo)), (.d (.int .i64 v11.Move.Hi)), (.d (.int .i64 v11.Move.From)), (.d (.int .i64 v11.Move.To)), (.sl 2056 0 v11.Move.Cells.length)])) rfl (erL.cons (v' := (.one (.d (.int .i64 a2)))) rfl (erL.cons (v' := (.one (.d (.bool a3)))) rfl (erL.cons (v' := (.one (.ptr (.nm 192 0 0)))) rfl (erL.cons (v' := (.one (.ptr (.nm 512 0 0)))) rfl (erL.cons (v' := (.one (.d (.int .i64 v9.2)))) rfl (erL.cons (v' := (.one (.ptr (.nm 640 0 0)))) rfl (erL.cons (v' := (.one (.ptr (.nm 704 0 0)))) rfl (erL.cons (v' := (.one (.d (.int .i64 v13.2)))) rfl (erL.cons (v' := (.one (.d (.bool t15)))) rfl erL.nil))))))))))))))))) (erH.cons (v' := (.vars 9 [(.d (.int .i64 a1.Epoch)), (.d (.sl 3 (List.map d_TPart a1.Parts))), (.d (.int .i64 a1.Move.No)), (.d (.int .i64 a1.Move.Stage)), (.d (.int .i64 a1.Move.Lo)), (.d (.int .i64 a1.Move.Hi)), (.d (.int .i64 a1.Move.From)), (.d (.int .i64 a1.Move.To)), (.d (.sl 2 (List.map d_TCell a1.Move.Cells)))])) rfl rfl (erH.cons (v' := (.vars 9 [(.d (.int .i64 v9.1.Epoch)), (.d (.sl 3 (List.map d_TPart v9.1.Parts))), (.d (.int .i64 v9.1.Move.No)), (.d (.int .i64 v9.1.Move.Stage)), (.d (.int .i64 v9.1.Move.Lo)), (.d (.int .i64 v9.1.Move.Hi)), (.d (.int .i64 v9.1.Move.From)), (.d (.int .i64 v9.1.Move.To)), (.d (.sl 2 (List.map d_TCell v9.1.Move.Cells)))])) rfl rfl (erH.cons (v' := (.vars 9 [(.d (.int .i64 v11.Epoch)), (.sl 2049 0 v11.Parts.length), (.d (.int .i64 v11.Move.No)), (.d (.int .i64 v11.Move.Stage)), (.d (.int .i64 v11.Move.Lo)), (.d (.int .i64 v11.Move.Hi)), (.d (.int .i64 v11.Move.From)), (.d (.int .i64 v11.Move.To)), (.sl 2056 0 v11.Move.Cells.length)])) rfl rfl (erH.cons (v' := (.vars 9 [(.d (.int .i64 v13.1.Epoch)), (.sl 2369 0 v13.1.Parts.length), (.d (.int .i64 v13.1.Move.No)), (.d (.int .i64 v13.1.Move.Stage)), (.d (.int .i64 v13.1.Move.Lo)), (.d (.int .i64 v13.1.Move.Hi)), (.d (.int .i64 v13.1.Move.From)), (.d (.int .i64 v13.1.Move.To)), (.sl 2376 0 v13.1.Move.Cells.length)])) rfl rfl (erH.cons (v' := (.data 3 (List.map d_TPart v11.Parts) true none)) rfl rfl (erH.cons (v' := (.data 2 (List.map d_TCell v11.Move.Cells) true none)) rfl rfl (erH.cons (v' := (.data 3 (List.map d_TPart v13.1.Parts) true none)) rfl rfl (erH.cons (v' := (.data 2 (List.map d_TCell v13.1.Move.Cells) true none)) rfl rfl erH.nil)))))))) erL.nil rfl rfl ?_
          refine rmRest ?_
          refine oMov eZ ?_
          refine xNil ?_
          refine TQ.qn ?_
          refine AW.weaken (wk_mkG [2056, 2049, 640] (SL.cons (k := 13) eZ rfl VWk.rfl (SL.cons (k := 1) (eS rfl (eS rfl (eS rfl (eS rfl (eS rfl (eS rfl (eS rfl (eS rfl (eS rfl (eS rfl eZ)))))))))) rfl VWk.rfl (SL.cons (k := 2) (eS rfl (eS rfl (eS rfl (eS rfl (eS rfl (eS rfl (eS rfl (eS rfl (eS rfl (eS rfl (eS rfl eZ))))))))))) rfl VWk.rfl (SL.cons (k := 3) (eS rfl (eS rfl (eS rfl (eS rfl (eS rfl (eS rfl (eS rfl (eS rfl (eS rfl (eS rfl (eS rfl (eS rfl eZ)))))))))))) rfl VWk.rfl (SL.cons (k := 8) (eS rfl (eS rfl (eS rfl (eS rfl (eS rfl (eS rfl (eS rfl (eS rfl (eS rfl (eS rfl (eS rfl (eS rfl (eS rfl eZ))))))))))))) rfl VWk.rfl (SL.cons (k := 9) (eS rfl (eS rfl (eS rfl (eS rfl (eS rfl (eS rfl (eS rfl (eS rfl (eS rfl (eS rfl (eS rfl (eS rfl (eS rfl (eS rfl eZ)))))))))))))) rfl VWk.rfl (SL.cons (k := 11) (eS rfl (eS rfl (eS rfl (eS rfl (eS rfl (eS rfl (eS rfl (eS rfl (eS rfl (eS rfl (eS rfl (eS rfl (eS rfl (eS rfl (eS rfl (eS rfl eZ)))))))))))))))) rfl VWk.rfl (SL.cons (k := 12) (eS rfl (eS rfl (eS rfl (eS rfl (eS rfl (eS rfl (eS rfl (eS rfl (eS rfl (eS rfl (eS rfl (eS rfl (eS rfl (eS rfl (eS rfl (eS rfl (eS rfl eZ))))))))))))))))) rfl VWk.rfl SL.nil)))))))) (BL.drop rfl (BL.drop rfl (BL.keep rfl (BL.keep rfl (BL.drop rfl (BL.keep rfl (BL.drop rfl (BL.drop rfl (BL.keep rfl (BL.keep rfl BL.nil)))))))))) (BK.cons (n := 192) rfl (bS rfl (bS rfl bZ)) rfl rfl (BK.cons (n := 512) rfl (bS rfl (bS rfl (bS rfl bZ))) rfl rfl (BK.cons (n := 704) rfl (bS rfl (bS rfl (bS rfl (bS rfl (bS rfl bZ))))) rfl rfl (BK.cons (n := 2369) rfl (bS rfl (bS rfl (bS rfl (bS rfl (bS rfl (bS rfl (bS rfl (bS rfl bZ)))))))) rfl rfl (BK.cons (n := 2376) rfl (bS rfl (bS rfl (bS rfl (bS rfl (bS rfl (bS rfl (bS rfl (bS rfl (bS rfl bZ))))))))) rfl rfl BK.nil))))) GK.nil) ?_
          refine AW.seq ?_
          refine AW.seqJ (fun t27 : Bool => (laws_FnExactAtlasInstalled_j27 v13 a1 a2 a3 v9) t27 = some r) (fun t27 => mk [(1, (.one (.d (.int .i64 a2)))), (2, (.one (.d (.bool a3)))), (3, (.one (.ptr (.nm 192 0 0)))), (8, (.one (.ptr (.nm 512 0 0)))), (9, (.one (.d (.int .i64 v9.2)))), (11, (.one (.ptr (.nm 704 0 0)))), (69, (.one (.d (.bool t27))))] [(192, (.vars 9 [(.d (.int .i64 a1.Epoch)), (.d (.sl 3 (List.map d_TPart a1.Parts))), (.d (.int .i64 a1.Move.No)), (.d (.int .i64 a1.Move.Stage)), (.d (.int .i64 a1.Move.Lo)), (.d (.int .i64 a1.Move.Hi)), (.d (.int .i64 a1.Move.From)), (.d (.int .i64 a1.Move.To)), (.d (.sl 2 (List.map d_TCell a1.Move.Cells)))])), (512, (.vars 9 [(.d (.int .i64 v9.1.Epoch)), (.d (.sl 3 (List.map d_TPart v9.1.Parts))), (.d (.int .i64 v9.1.Move.No)), (.d (.int .i64 v9.1.Move.Stage)), (.d (.int .i64 v9.1.Move.Lo)), (.d (.int .i64 v9.1.Move.Hi)), (.d (.int .i64 v9.1.Move.From)), (.d (.int .i64 v9.1.Move.To)), (.d (.sl 2 (List.map d_TCell v9.1.Move.Cells)))])), (704, (.vars 9 [(.d (.int .i64 v13.1.Epoch)), (.sl 2369 0 v13.1.Parts.length), (.d (.int .i64 v13.1.Move.No)), (.d (.int .i64 v13.1.Move.Stage)), (.d (.int .i64 v13.1.Move.Lo)), (.d (.int .i64 v13.1.Move.Hi)), (.d (.int .i64 v13.1.Move.From)), (.d (.int .i64 v13.1.Move.To)), (.sl 2376 0 v13.1.Move.Cells.length)])), (2369, (.data 3 (List.map d_TPart v13.1.Parts) true none)), (2376, (.data 2 (List.map d_TCell v13.1.Move.Cells) true none))] (lk [])) ?_ ?_
          · intro t27 H
            unfold laws_FnExactAtlasInstalled_j27 at H
            rcases oite H with ⟨h29, H⟩ | ⟨h29, H⟩
            · refine AW.condT (eS rfl (eS rfl (eS rfl (eS rfl (eS rfl (eS rfl eZ)))))) h29 ?_
              refine AW.seq ?_
              refine AW.regs ?_
              refine oMov eC ?_
              refine xNil ?_
              refine TQ.qn ?_
              refine AW.ret ?_
              refine TQ.qr ?_
              obtain rfl := Option.some.inj H
              exact endsR (RL.cons (RV.tmp eZ) (VO.flat rfl) RL.nil) List.nodup_nil
            · refine AW.condF (eS rfl (eS rfl (eS rfl (eS rfl (eS rfl (eS rfl eZ)))))) (nt h29) ?_
              refine AW.skip ?_
              refine TQ.qn ?_
              refine AW.seq ?_
              refine AW.regs ?_
              refine oMov eC ?_
              refine xNil ?_
              refine TQ.qn ?_
              refine AW.seq ?_
              refine AW.regm ?_
              refine rmOne ?_
              refine oLoadVA (es := [(.d (.int .i64 v13.1.Epoch)), (.sl 2369 0 v13.1.Parts.length), (.d (.int .i64 v13.1.Move.No)), (.d (.int .i64 v13.1.Move.Stage)), (.d (.int .i64 v13.1.Move.Lo)), (.d (.int .i64 v13.1.Move.Hi)), (.d (.int .i64 v13.1.Move.From)), (.d (.int .i64 v13.1.Move.To)), (.sl 2376 0 v13.1.Move.Cells.length)]) (eS rfl (eS rfl (eS rfl (eS rfl (eS rfl (eS rfl eZ)))))) (bS rfl (bS rfl bZ)) rfl ?_
              refine xNil ?_
              refine rmOne ?_
              refine oMov (eS rfl eZ) ?_
              refine xNil ?_
              obtain ⟨v30, h31, H⟩ := obind H
              obtain ⟨h32, H⟩ := oguard H
              obtain ⟨h33, H⟩ := oguard H
              refine rmCallI (ON := [2369, 2376]) (ls := []) (G := []) (E := [subKey 2369, subKey 2376]) (MB := [(2369, (.data 3 (List.map d_TPart v30.2.Parts) true none)), (2376, (.data 2 (List.map d_TCell v30.2.Move.Cells) true none))]) (u := (.one (.d (.int .i64 v30.1)))) eC Cl.fn (c_laws_markAtlas h31) (Evs.cons (eS rfl eZ) (Evs.cons eZ Evs.nil)) (AO.mut (VO.aggs (VOs.cons (VO.flat rfl) (VOs.cons (VO.sl (bS rfl (bS rfl (bS rfl bZ))) (List.length_map _) (allFlat fun _ => rfl)) (VOs.cons (VO.flat rfl) (VOs.cons (VO.flat rfl) (VOs.cons (VO.flat rfl) (VOs.cons (VO.flat rfl) (VOs.cons (VO.flat rfl) (VOs.cons (VO.flat rfl) (VOs.cons (VO.sl (bS rfl (bS rfl (bS rfl (bS rfl bZ)))) (List.length_map _) (allFlat fun _ => rfl)) VOs.nil)))))))))) (AO.lent VD.plain rfl AO.nil)) rfl rfl rfl (SZ.cons (bS rfl (bS rfl (bS rfl bZ))) (allFlat fun _ => rfl) (SZ.cons (bS rfl (bS rfl (bS rfl (bS rfl bZ)))) (allFlat fun _ => rfl) SZ.nil)) (erL.cons (v' := (.one (.d (.int .i64 1)))) rfl (erL.cons (v' := (.agg [(.d (.int .i64 v13.1.Epoch)), (.sl 2369 0 v13.1.Parts.length), (.d (.int .i64 v13.1.Move.No)), (.d (.int .i64 v13.1.Move.Stage)), (.d (.int .i64 v13.1.Move.Lo)), (.d (.int .i64 v13.1.Move.Hi)), (.d (.int .i64 v13.1.Move.From)), (.d (.int .i64 v13.1.Move.To)), (.sl 2376 0 v13.1.Move.Cells.length)])) rfl (erL.cons (v' := (.one (.d (.int .i64 1)))) rfl (erL.cons (v' := (.one (.d (.int .i64 a2)))) rfl (erL.cons (v' := (.one (.d (.bool a3)))) rfl (erL.cons (v' := (.one (.ptr (.nm 192 0 0)))) rfl (erL.cons (v' := (.one (.ptr (.nm 512 0 0)))) rfl (erL.cons (v' := (.one (.d (.int .i64 v9.2)))) rfl (erL.cons (v' := (.one (.ptr (.nm 704 0 0)))) rfl (erL.cons (v' := (.one (.d (.bool t27)))) rfl erL.nil)))))))))) (erH.cons (v' := (.vars 9 [(.d (.int .i64 a1.Epoch)), (.d (.sl 3 (List.map d_TPart a1.Parts))), (.d (.int .i64 a1.Move.No)), (.d (.int .i64 a1.Move.Stage)), (.d (.int .i64 a1.Move.Lo)), (.d (.int .i64 a1.Move.Hi)), (.d (.int .i64 a1.Move.From)), (.d (.int .i64 a1.Move.To)), (.d (.sl 2 (List.map d_TCell a1.Move.Cells)))])) rfl rfl (erH.cons (v' := (.vars 9 [(.d (.int .i64 v9.1.Epoch)), (.d (.sl 3 (List.map d_TPart v9.1.Parts))), (.d (.int .i64 v9.1.Move.No)), (.d (.int .i64 v9.1.Move.Stage)), (.d (.int .i64 v9.1.Move.Lo)), (.d (.int .i64 v9.1.Move.Hi)), (.d (.int .i64 v9.1.Move.From)), (.d (.int .i64 v9.1.Move.To)), (.d (.sl 2 (List.map d_TCell v9.1.Move.Cells)))])) rfl rfl (erH.cons (v' := (.vars 9 [(.d (.int .i64 v13.1.Epoch)), (.sl 2369 0 v13.1.Parts.length), (.d (.int .i64 v13.1.Move.No)), (.d (.int .i64 v13.1.Move.Stage)), (.d (.int .i64 v13.1.Move.Lo)), (.d (.int .i64 v13.1.Move.Hi)), (.d (.int .i64 v13.1.Move.From)), (.d (.int .i64 v13.1.Move.To)), (.sl 2376 0 v13.1.Move.Cells.length)])) rfl rfl (erH.cons (v' := (.data 3 (List.map d_TPart v13.1.Parts) true none)) rfl rfl (erH.cons (v' := (.data 2 (List.map d_TCell v13.1.Move.Cells) true none)) rfl rfl erH.nil))))) erL.nil rfl rfl ?_
              refine rmRest ?_
              refine oMov eZ ?_
              refine xNil ?_
              refine TQ.qn ?_
              refine AW.seq ?_
              refine AW.regs ?_
              refine oMov eC ?_
              refine xNil ?_
              refine TQ.qn ?_
              refine AW.seq ?_
              refine AW.regs ?_
              refine oLoadVA (es := [(.d (.int .i64 v13.1.Epoch)), (.sl 2369 0 v13.1.Parts.length), (.d (.int .i64 v13.1.Move.No)), (.d (.int .i64 v13.1.Move.Stage)), (.d (.int .i64 v13.1.Move.Lo)), (.d (.int .i64 v13.1.Move.Hi)), (.d (.int .i64 v13.1.Move.From)), (.d (.int .i64 v13.1.Move.To)), (.sl 2376 0 v13.1.Move.Cells.length)]) (eS rfl (eS rfl (eS rfl (eS rfl (eS rfl (eS rfl (eS rfl (eS rfl (eS rfl (eS rfl (eS rfl eZ))))))))))) (bS rfl (bS rfl (bS rfl (bS rfl bZ)))) rfl ?_
              refine oMov (eS rfl eZ) ?_
              obtain ⟨v34, h35, H⟩ := obind H
              refine oCall (u := (.one (.d (.int .i64 v34)))) eC Cl.fn (c_laws_heldAtlas h35) (Evs.cons (eS rfl eZ) (Evs.cons eZ Evs.nil)) (VDs.cons (VD.aggs (CDs.plain (CDs.sl (bS rfl bZ) (by first | (simp; done) | (simp; omega) | omega) (CDs.plain (CDs.plain (CDs.plain (CDs.plain (CDs.plain (CDs.plain (CDs.sl bZ (by first | (simp; done) | (simp; omega) | omega) CDs.nil)))))))))) (VDs.cons VD.plain VDs.nil)) rfl ?_
              refine oMov eZ ?_
              refine xNil ?_
              refine TQ.qn ?_
              refine AW.weaken (wk_mkG [] (SL.cons (k := 15) eZ rfl VWk.rfl (SL.cons (k := 14) (eS rfl (eS rfl (eS rfl (eS rfl (eS rfl eZ))))) rfl VWk.rfl (SL.cons (k := 1) (eS rfl (eS rfl (eS rfl (eS rfl (eS rfl (eS rfl (eS rfl (eS rfl (eS rfl (eS rfl eZ)))))))))) rfl VWk.rfl (SL.cons (k := 2) (eS rfl (eS rfl (eS rfl (eS rfl (eS rfl (eS rfl (eS rfl (eS rfl (eS rfl (eS rfl (eS rfl eZ))))))))))) rfl VWk.rfl (SL.cons (k := 3) (eS rfl (eS rfl (eS rfl (eS rfl (eS rfl (eS rfl (eS rfl (eS rfl (eS rfl (eS rfl (eS rfl (eS rfl eZ)))))))))))) rfl VWk.rfl (SL.cons (k := 8) (eS rfl (eS rfl (eS rfl (eS rfl (eS rfl (eS rfl (eS rfl (eS rfl (eS rfl (eS rfl (eS rfl (eS rfl (eS rfl eZ))))))))))))) rfl VWk.rfl (SL.cons (k := 9) (eS rfl (eS rfl (eS rfl (eS rfl (eS rfl (eS rfl (eS rfl (eS rfl (eS rfl (eS rfl (eS rfl (eS rfl (eS rfl (eS rfl eZ)))))))))))))) rfl VWk.rfl (SL.cons (k := 11) (eS rfl (eS rfl (eS rfl (eS rfl (eS rfl (eS rfl (eS rfl (eS rfl (eS rfl (eS rfl (eS rfl (eS rfl (eS rfl (eS rfl (eS rfl eZ))))))))))))))) rfl VWk.rfl SL.nil)))))))) (BL.keep rfl (BL.keep rfl (BL.keep rfl (BL.keep rfl (BL.keep rfl (BL.keep rfl (BL.keep rfl BL.nil))))))) (BK.cons (n := 2376) rfl bZ rfl rfl (BK.cons (n := 2369) rfl (bS rfl bZ) rfl rfl (BK.cons (n := 192) rfl (bS rfl (bS rfl bZ)) rfl rfl (BK.cons (n := 512) rfl (bS rfl (bS rfl (bS rfl bZ))) rfl rfl (BK.cons (n := 704) rfl (bS rfl (bS rfl (bS rfl (bS rfl bZ)))) rfl rfl BK.nil))))) GK.nil) ?_
              refine AW.seq ?_
              refine AW.seq ?_
              refine AW.regs ?_
              refine oMov eZ ?_
              refine oLss eZ eC ?_
              refine xNil ?_
              refine TQ.qn ?_
              rcases oite H with ⟨h36, H⟩ | ⟨h36, H⟩
              · refine AW.condT eZ (decide_eq_true h36) ?_
                refine AW.seq ?_
                refine AW.regs ?_
                refine oMov eC ?_
                refine xNil ?_
                refine TQ.qn ?_
                refine AW.ret ?_
                refine TQ.qr ?_
                obtain rfl := Option.some.inj H
                exact endsR (RL.cons (RV.tmp eZ) (VO.flat rfl) RL.nil) List.nodup_nil
              · refine AW.condF eZ (decide_eq_false h36) ?_
                refine AW.skip ?_
                refine TQ.qn ?_
                refine AW.seq ?_
                refine AW.seq ?_
                refine AW.regs ?_
                refine oMov (eS rfl (eS rfl eZ)) ?_
                refine oMov (eS rfl (eS rfl (eS rfl (eS rfl eZ)))) ?_
                refine oNeq (eS rfl eZ) eZ ?_
                refine xNil ?_
                refine TQ.qn ?_
                rcases oite H with ⟨h37, H⟩ | ⟨h37, H⟩
                · refine AW.condT eZ (decide_eq_true h37) ?_
                  refine AW.seq ?_
                  refine AW.regs ?_
                  refine oMov eC ?_
                  refine xNil ?_
                  refine TQ.qn ?_
                  refine AW.ret ?_
                  refine TQ.qr ?_
                  obtain rfl := Option.some.inj H
                  exact endsR (RL.cons (RV.tmp eZ) (VO.flat rfl) RL.nil) List.nodup_nil
                · refine AW.condF eZ (decide_eq_false h37) ?_
                  refine AW.skip ?_
                  refine TQ.qn ?_
                  refine AW.seq ?_
                  refine AW.regs ?_
                  refine oLoadVA (es := [(.d (.int .i64 a1.Epoch)), (.d (.sl 3 (List.map d_TPart a1.Parts))), (.d (.int .i64 a1.Move.No)), (.d (.int .i64 a1.Move.Stage)), (.d (.int .i64 a1.Move.Lo)), (.d (.int .i64 a1.Move.Hi)), (.d (.int .i64 a1.Move.From)), (.d (.int .i64 a1.Move.To)), (.d (.sl 2 (List.map d_TCell a1.Move.Cells)))]) (eS rfl (eS rfl (eS rfl (eS rfl (eS rfl (eS rfl (eS rfl (eS rfl (eS rfl eZ))))))))) (bS rfl (bS rfl bZ)) rfl ?_
                  obtain ⟨v38, h39, H⟩ := obind H
                  refine oCall (u := (.agg [(.d (.int .i64 v38.Epoch)), (.d (.sl 3 (List.map d_TPart v38.Parts))), (.d (.int .i64 v38.Move.No)), (.d (.int .i64 v38.Move.Stage)), (.d (.int .i64 v38.Move.Lo)), (.d (.int .i64 v38.Move.Hi)), (.d (.int .i64 v38.Move.From)), (.d (.int .i64 v38.Move.To)), (.d (.sl 2 (List.map d_TCell v38.Move.Cells)))])) eC Cl.fn (c_laws_toAtlas h39) (Evs.cons eZ Evs.nil) (VDs.cons (VD.agg rfl) VDs.nil) rfl ?_
                  refine oMov (eS rfl (eS rfl (eS rfl (eS rfl (eS rfl (eS rfl (eS rfl (eS rfl (eS rfl eZ))))))))) ?_
                  refine oMov (eS rfl (eS rfl (eS rfl (eS rfl (eS rfl (eS rfl (eS rfl (eS rfl (eS rfl (eS rfl (eS rfl eZ))))))))))) ?_
                  obtain ⟨v40, h41, H⟩ := obind H
                  refine oCall (u := (.tup [(.agg [(.d (.int .i64 v40.1.Epoch)), (.d (.sl 3 (List.map d_TPart v40.1.Parts))), (.d (.int .i64 v40.1.Move.No)), (.d (.int .i64 v40.1.Move.Stage)), (.d (.int .i64 v40.1.Move.Lo)), (.d (.int .i64 v40.1.Move.Hi)), (.d (.int .i64 v40.1.Move.From)), (.d (.int .i64 v40.1.Move.To)), (.d (.sl 2 (List.map d_TCell v40.1.Move.Cells)))]), (.one (.d (.int .i64 v40.2)))])) eC Cl.fn (c_impl_AtlasInstalled h41) (Evs.cons (eS rfl (eS rfl eZ)) (Evs.cons (eS rfl eZ) (Evs.cons eZ Evs.nil))) (VDs.cons (VD.agg rfl) (VDs.cons VD.plain (VDs.cons VD.plain VDs.nil))) rfl ?_
                  refine oMov eZ ?_
                  refine oExt (v := (.agg [(.d (.int .i64 v40.1.Epoch)), (.d (.sl 3 (List.map d_TPart v40.1.Parts))), (.d (.int .i64 v40.1.Move.No)), (.d (.int .i64 v40.1.Move.Stage)), (.d (.int .i64 v40.1.Move.Lo)), (.d (.int .i64 v40.1.Move.Hi)), (.d (.int .i64 v40.1.Move.From)), (.d (.int .i64 v40.1.Move.To)), (.d (.sl 2 (List.map d_TCell v40.1.Move.Cells)))])) eZ rfl ?_
                  refine oExt (v := (.one (.d (.int .i64 v40.2)))) (eS rfl eZ) rfl ?_
                  refine oVar (n := 1024) (m := 9) rfl rfl (nS rfl (nS rfl (nS rfl (nS rfl (nS rfl nZ))))) ?_
                  refine oStoreV (es := [(.d (.int .i64 v40.1.Epoch)), (.d (.sl 3 (List.map d_TPart v40.1.Parts))), (.d (.int .i64 v40.1.Move.No)), (.d (.int .i64 v40.1.Move.Stage)), (.d (.int .i64 v40.1.Move.Lo)), (.d (.int .i64 v40.1.Move.Hi)), (.d (.int .i64 v40.1.Move.From)), (.d (.int .i64 v40.1.Move.To)), (.d (.sl 2 (List.map d_TCell v40.1.Move.Cells)))]) eZ (eS rfl (eS rfl eZ)) rfl rfl bZ rfl ?_
                  refine oMov (eS rfl eZ) ?_
                  refine xNil ?_
                  refine TQ.qn ?_
                  refine AW.weaken (wk_mkG [192] (SL.cons (k := 17) eZ rfl VWk.rfl (SL.cons (k := 16) (eS rfl eZ) rfl VWk.rfl (SL.cons (k := 14) (eS rfl (eS rfl (eS rfl (eS rfl (eS rfl (eS rfl (eS rfl (eS rfl (eS rfl (eS rfl (eS rfl (eS rfl (eS rfl (eS rfl (eS rfl (eS rfl eZ)))))))))))))))) rfl VWk.rfl (SL.cons (k := 8) (eS rfl (eS rfl (eS rfl (eS rfl (eS rfl (eS rfl (eS rfl (eS rfl (eS rfl (eS rfl (eS rfl (eS rfl (eS rfl (eS rfl (eS rfl (eS rfl (eS rfl (eS rfl (eS rfl (eS rfl eZ)))))))))))))))))))) rfl VWk.rfl (SL.cons (k := 9) (eS rfl (eS rfl (eS rfl (eS rfl (eS rfl (eS rfl (eS rfl (eS rfl (eS rfl (eS rfl (eS rfl (eS rfl (eS rfl (eS rfl (eS rfl (eS rfl (eS rfl (eS rfl (eS rfl (eS rfl (eS rfl eZ))))))))))))))))))))) rfl VWk.rfl (SL.cons (k := 11) (eS rfl (eS rfl (eS rfl (eS rfl (eS rfl (eS rfl (eS rfl (eS rfl (eS rfl (eS rfl (eS rfl (eS rfl (eS rfl (eS rfl (eS rfl (eS rfl (eS rfl (eS rfl (eS rfl (eS rfl (eS rfl (eS rfl eZ)))))))))))))))))))))) rfl VWk.rfl SL.nil)))))) (BL.keep rfl (BL.keep rfl (BL.keep rfl (BL.keep rfl (BL.drop rfl (BL.keep rfl (BL.keep rfl BL.nil))))))) (BK.cons (n := 1024) rfl bZ rfl rfl (BK.cons (n := 2376) rfl (bS rfl (bS rfl bZ)) rfl rfl (BK.cons (n := 2369) rfl (bS rfl (bS rfl (bS rfl bZ))) rfl rfl (BK.cons (n := 512) rfl (bS rfl (bS rfl (bS rfl (bS rfl (bS rfl bZ))))) rfl rfl (BK.cons (n := 704) rfl (bS rfl (bS rfl (bS rfl (bS rfl (bS rfl (bS rfl bZ)))))) rfl rfl BK.nil))))) GK.nil) ?_
                  refine AW.seq ?_
                  refine AW.seqJ (fun t42 : Bool => (laws_FnExactAtlasInstalled_j42 v13 v30) t42 = some r) (fun t42 => mk [(11, (.one (.ptr (.nm 704 0 0)))), (14, (.one (.d (.int .i64 v30.1)))), (97, (.one (.d (.bool t42))))] [(704, (.vars 9 [(.d (.int .i64 v13.1.Epoch)), (.sl 2369 0 v13.1.Parts.length), (.d (.int .i64 v13.1.Move.No)), (.d (.int .i64 v13.1.Move.Stage)), (.d (.int .i64 v13.1.Move.Lo)), (.d (.int .i64 v13.1.Move.Hi)), (.d (.int .i64 v13.1.Move.From)), (.d (.int .i64 v13.1.Move.To)), (.sl 2376 0 v13.1.Move.Cells.length)])), (2369, (.data 3 (List.map d_TPart v30.2.Parts) true none)), (2376, (.data 2 (List.map d_TCell v30.2.Move.Cells) true none))] (lk [])) ?_ ?_
                  · intro t42 H
                    unfold laws_FnExactAtlasInstalled_j42 at H
                    rcases oite H with ⟨h44, H⟩ | ⟨h44, H⟩
                    · refine AW.condT (eS rfl (eS rfl eZ)) h44 ?_
                      refine AW.seq ?_
                      refine AW.regs ?_
                      refine oMov eC ?_
                      refine xNil ?_
                      refine TQ.qn ?_
                      refine AW.ret ?_
                      refine TQ.qr ?_
                      obtain rfl := Option.some.inj H
                      exact endsR (RL.cons (RV.tmp eZ) (VO.flat rfl) RL.nil) List.nodup_nil
                    · refine AW.condF (eS rfl (eS rfl eZ)) (nt h44) ?_
                      refine AW.skip ?_
                      refine TQ.qn ?_
                      refine AW.seq ?_
                      refine AW.regs ?_
                      refine oMov eC ?_
                      refine xNil ?_
                      refine TQ.qn ?_
                      refine AW.seq ?_
                      refine AW.regs ?_
                      refine oLoadVA (es := [(.d (.int .i64 v13.1.Epoch)), (.sl 2369 0 v13.1.Parts.length), (.d (.int .i64 v13.1.Move.No)), (.d (.int .i64 v13.1.Move.Stage)), (.d (.int .i64 v13.1.Move.Lo)), (.d (.int .i64 v13.1.Move.Hi)), (.d (.int .i64 v13.1.Move.From)), (.d (.int .i64 v13.1.Move.To)), (.sl 2376 0 v13.1.Move.Cells.length)]) (eS rfl eZ) bZ rfl ?_
                      refine oMov (eS rfl eZ) ?_
                      obtain ⟨v45, h46, H⟩ := obind H
                      refine oCall (u := (.one (.d (.int .i64 v45)))) eC Cl.fn (c_laws_heldAtlas h46) (Evs.cons (eS rfl eZ) (Evs.cons eZ Evs.nil)) (VDs.cons (VD.aggs (CDs.plain (CDs.sl (bS rfl bZ) (by first | (simp; done) | (simp; omega) | omega) (CDs.plain (CDs.plain (CDs.plain (CDs.plain (CDs.plain (CDs.plain (CDs.sl (bS rfl (bS rfl bZ)) (by first | (simp; done) | (simp; omega) | omega) CDs.nil)))))))))) (VDs.cons VD.plain VDs.nil)) rfl ?_
                      refine oMov eZ ?_
                      refine xNil ?_
                      refine TQ.qn ?_
                      refine AW.seq ?_
                      refine AW.seq ?_
                      refine AW.regs ?_
                      refine oMov eZ ?_
                      refine oLss eZ eC ?_
                      refine xNil ?_
                      refine TQ.qn ?_
                      rcases oite H with ⟨h47, H⟩ | ⟨h47, H⟩
                      · refine AW.condT eZ (decide_eq_true h47) ?_
                        refine AW.seq ?_
                        refine AW.regs ?_
                        refine oMov eC ?_
                        refine xNil ?_
                        refine TQ.qn ?_
                        refine AW.ret ?_
                        refine TQ.qr ?_
                        obtain rfl := Option.some.inj H
                        exact endsR (RL.cons (RV.tmp eZ) (VO.flat rfl) RL.nil) List.nodup_nil
                      · refine AW.condF eZ (decide_eq_false h47) ?_
                        refine AW.skip ?_
                        refine TQ.qn ?_
                        refine AW.seq ?_
                        refine AW.seq ?_
                        refine AW.regs ?_
                        refine oMov (eS rfl (eS rfl eZ)) ?_
                        refine oMov (eS rfl (eS rfl (eS rfl (eS rfl (eS rfl (eS rfl (eS rfl (eS rfl (eS rfl eZ))))))))) ?_
                        refine oNeq (eS rfl eZ) eZ ?_
                        refine xNil ?_
                        refine TQ.qn ?_
                        rcases oite H with ⟨h48, H⟩ | ⟨h48, H⟩
                        · refine AW.condT eZ (decide_eq_true h48) ?_
                          refine AW.seq ?_
                          refine AW.regs ?_
                          refine oMov eC ?_
                          refine xNil ?_
                          refine TQ.qn ?_
                          refine AW.ret ?_
                          refine TQ.qr ?_
                          obtain rfl := Option.some.inj H
                          exact endsR (RL.cons (RV.tmp eZ) (VO.flat rfl) RL.nil) List.nodup_nil
                        · refine AW.condF eZ (decide_eq_false h48) ?_
                          refine AW.skip ?_
                          refine TQ.qn ?_
                          refine AW.seq ?_
                          refine AW.regs ?_
                          refine oMov eC ?_
                          refine xNil ?_
                          refine TQ.qn ?_
                          refine AW.ret ?_
                          obtain rfl := Option.some.inj H
                          exact endsR (RL.cons (RV.tmp eZ) (VO.flat rfl) RL.nil) List.nodup_nil
                  · refine AW.regs ?_
                    refine oLoadVA (es := [(.d (.int .i64 v40.1.Epoch)), (.d (.sl 3 (List.map d_TPart v40.1.Parts))), (.d (.int .i64 v40.1.Move.No)), (.d (.int .i64 v40.1.Move.Stage)), (.d (.int .i64 v40.1.Move.Lo)), (.d (.int .i64 v40.1.Move.Hi)), (.d (.int .i64 v40.1.Move.From)), (.d (.int .i64 v40.1.Move.To)), (.d (.sl 2 (List.map d_TCell v40.1.Move.Cells)))]) (eS rfl eZ) bZ rfl ?_
                    refine oLoadVA (es := [(.d (.int .i64 v9.1.Epoch)), (.d (.sl 3 (List.map d_TPart v9.1.Parts))), (.d (.int .i64 v9.1.Move.No)), (.d (.int .i64 v9.1.Move.Stage)), (.d (.int .i64 v9.1.Move.Lo)), (.d (.int .i64 v9.1.Move.Hi)), (.d (.int .i64 v9.1.Move.From)), (.d (.int .i64 v9.1.Move.To)), (.d (.sl 2 (List.map d_TCell v9.1.Move.Cells)))]) (eS rfl (eS rfl (eS rfl (eS rfl eZ)))) (bS rfl (bS rfl (bS rfl bZ))) rfl ?_
                    obtain ⟨v49, h50, H⟩ := obind H
                    refine oCall (u := (.one (.d (.bool v49)))) eC Cl.fn (c_laws_eqAtlas h50) (Evs.cons (eS rfl eZ) (Evs.cons eZ Evs.nil)) (VDs.cons (VD.agg rfl) (VDs.cons (VD.agg rfl) VDs.nil)) rfl ?_
                    refine oInv eZ ?_
                    refine oMov eZ ?_
                    rcases oite H with ⟨h51, H⟩ | ⟨h51, H⟩
                    · refine gDo eZ (congrArg Bool.not h51) ?_
                      refine oMov (eS rfl (eS rfl (eS rfl (eS rfl (eS rfl eZ))))) ?_
                      refine gDo (eS rfl eZ) (congrArg Bool.not h51) ?_
                      refine oMov (eS rfl (eS rfl (eS rfl (eS rfl (eS rfl (eS rfl (eS rfl (eS rfl (eS rfl (eS rfl eZ)))))))))) ?_
                      refine gDo (eS rfl (eS rfl eZ)) (congrArg Bool.not h51) ?_
                      refine oNeq (eS rfl eZ) eZ ?_
                      refine oPickF (eS rfl (eS rfl (eS rfl eZ))) (congrArg Bool.not h51) eZ ?_
                      refine xNil ?_
                      exact TQ.qn ⟨(decide (¬ v40.2 = v9.2)), H, (wk_mkG [1024, 512] (SL.cons (eS rfl (eS rfl (eS rfl (eS rfl (eS rfl (eS rfl (eS rfl (eS rfl (eS rfl (eS rfl (eS rfl (eS rfl (eS rfl (eS rfl eZ)))))))))))))) rfl VWk.rfl (SL.cons (eS rfl (eS rfl (eS rfl (eS rfl (eS rfl (eS rfl (eS rfl (eS rfl (eS rfl (eS rfl (eS rfl eZ))))))))))) rfl VWk.rfl (SL.cons eZ rfl VWk.rfl SL.nil))) (BL.drop rfl (BL.keep rfl (BL.keep rfl (BL.drop rfl (BL.keep rfl BL.nil))))) (BK.cons rfl (bS rfl (bS rfl (bS rfl (bS rfl bZ)))) rfl (by first | rfl | simp) (BK.cons rfl (bS rfl (bS rfl bZ)) rfl rfl (BK.cons rfl (bS rfl bZ) rfl rfl BK.nil))) GK.nil)⟩
                    · refine gSkip eZ (congrArg Bool.not (nt h51)) rfl ?_
                      refine gSkip (eS rfl eZ) (congrArg Bool.not (nt h51)) rfl ?_
                      refine gSkip (eS rfl (eS rfl eZ)) (congrArg Bool.not (nt h51)) rfl ?_
                      refine oPickT (eS rfl (eS rfl (eS rfl eZ))) (congrArg Bool.not (nt h51)) eC ?_
                      refine xNil ?_
                      exact TQ.qn ⟨true, H, (wk_mkG [1024, 512] (SL.cons (eS rfl (eS rfl (eS rfl (eS rfl (eS rfl (eS rfl (eS rfl (eS rfl (eS rfl (eS rfl (eS rfl (eS rfl (eS rfl (eS rfl eZ)))))))))))))) rfl VWk.rfl (SL.cons (eS rfl (eS rfl (eS rfl (eS rfl (eS rfl (eS rfl (eS rfl (eS rfl (eS rfl (eS rfl (eS rfl eZ))))))))))) rfl VWk.rfl (SL.cons eZ rfl VWk.rfl SL.nil))) (BL.drop rfl (BL.keep rfl (BL.keep rfl (BL.drop rfl (BL.keep rfl BL.nil))))) (BK.cons rfl (bS rfl (bS rfl (bS rfl (bS rfl bZ)))) rfl (by first | rfl | simp) (BK.cons rfl (bS rfl (bS rfl bZ)) rfl rfl (BK.cons rfl (bS rfl bZ) rfl rfl BK.nil))) GK.nil)⟩
          · refine AW.regs ?_
            refine oMov eZ ?_
            refine oLss eZ eC ?_
            refine oMov eZ ?_
            rcases oite H with ⟨h52, H⟩ | ⟨h52, H⟩
            · refine gSkip eZ (decide_eq_true h52) rfl ?_
              refine gSkip (eS rfl eZ) (decide_eq_true h52) rfl ?_
              refine gSkip (eS rfl (eS rfl eZ)) (decide_eq_true h52) rfl ?_
              refine gSkip (eS rfl (eS rfl (eS rfl eZ))) (decide_eq_true h52) rfl ?_
              refine oPickT (eS rfl (eS rfl (eS rfl (eS rfl eZ)))) (decide_eq_true h52) eC ?_
              refine oMov eZ ?_
              refine gSkip eZ rfl rfl ?_
              refine gSkip (eS rfl eZ) rfl rfl ?_
              refine gSkip (eS rfl (eS rfl eZ)) rfl rfl ?_
              refine oPickT (eS rfl (eS rfl (eS rfl eZ))) rfl eC ?_
              refine xNil ?_
              exact TQ.qn ⟨true, H, (wk_mkG [] (SL.cons (eS rfl (eS rfl (eS rfl (eS rfl (eS rfl (eS rfl (eS rfl (eS rfl (eS rfl (eS rfl (eS rfl (eS rfl (eS rfl (eS rfl eZ)))))))))))))) rfl VWk.rfl (SL.cons (eS rfl (eS rfl (eS rfl (eS rfl (eS rfl (eS rfl (eS rfl (eS rfl (eS rfl (eS rfl (eS rfl (eS rfl (eS rfl (eS rfl (eS rfl eZ))))))))))))))) rfl VWk.rfl (SL.cons (eS rfl (eS rfl (eS rfl (eS rfl (eS rfl (eS rfl (eS rfl (eS rfl (eS rfl (eS rfl (eS rfl (eS rfl (eS rfl (eS rfl (eS rfl (eS rfl eZ)))))))))))))))) rfl VWk.rfl (SL.cons (eS rfl (eS rfl (eS rfl (eS rfl (eS rfl (eS rfl (eS rfl (eS rfl (eS rfl (eS rfl (eS rfl (eS rfl (eS rfl (eS rfl (eS rfl (eS rfl (eS rfl eZ))))))))))))))))) rfl VWk.rfl (SL.cons (eS rfl (eS rfl (eS rfl (eS rfl (eS rfl (eS rfl (eS rfl (eS rfl (eS rfl (eS rfl (eS rfl (eS rfl (eS rfl (eS rfl (eS rfl (eS rfl (eS rfl (eS rfl eZ)))))))))))))))))) rfl VWk.rfl (SL.cons (eS rfl (eS rfl (eS rfl (eS rfl (eS rfl (eS rfl (eS rfl (eS rfl (eS rfl (eS rfl (eS rfl (eS rfl (eS rfl (eS rfl (eS rfl (eS rfl (eS rfl (eS rfl (eS rfl eZ))))))))))))))))))) rfl VWk.rfl (SL.cons eZ rfl VWk.rfl SL.nil))))))) (BL.keep rfl (BL.keep rfl (BL.keep rfl (BL.keep rfl (BL.keep rfl BL.nil))))) (BK.cons rfl bZ rfl rfl (BK.cons rfl (bS rfl bZ) rfl rfl (BK.cons rfl (bS rfl (bS rfl bZ)) rfl (by first | rfl | simp) (BK.cons rfl (bS rfl (bS rfl (bS rfl bZ))) rfl rfl (BK.cons rfl (bS rfl (bS rfl (bS rfl (bS rfl bZ)))) rfl rfl BK.nil))))) GK.nil)⟩
            · refine gDo eZ (decide_eq_false h52) ?_
              refine oLoadVA (es := [(.d (.int .i64 v13.1.Epoch)), (.sl 2369 0 v13.1.Parts.length), (.d (.int .i64 v13.1.Move.No)), (.d (.int .i64 v13.1.Move.Stage)), (.d (.int .i64 v13.1.Move.Lo)), (.d (.int .i64 v13.1.Move.Hi)), (.d (.int .i64 v13.1.Move.From)), (.d (.int .i64 v13.1.Move.To)), (.sl 2376 0 v13.1.Move.Cells.length)]) (eS rfl (eS rfl (eS rfl (eS rfl (eS rfl (eS rfl (eS rfl (eS rfl (eS rfl eZ))))))))) (bS rfl (bS rfl bZ)) rfl ?_
              refine gDo (eS rfl eZ) (decide_eq_false h52) ?_
              refine oLoadVA (es := [(.d (.int .i64 v9.1.Epoch)), (.d (.sl 3 (List.map d_TPart v9.1.Parts))), (.d (.int .i64 v9.1.Move.No)), (.d (.int .i64 v9.1.Move.Stage)), (.d (.int .i64 v9.1.Move.Lo)), (.d (.int .i64 v9.1.Move.Hi)), (.d (.int .i64 v9.1.Move.From)), (.d (.int .i64 v9.1.Move.To)), (.d (.sl 2 (List.map d_TCell v9.1.Move.Cells)))]) (eS rfl (eS rfl (eS rfl (eS rfl (eS rfl (eS rfl (eS rfl (eS rfl eZ)))))))) (bS rfl bZ) rfl ?_
              refine gDo (eS rfl (eS rfl eZ)) (decide_eq_false h52) ?_
              obtain ⟨v53, h54, H⟩ := obind H
              refine oCall (u := (.one (.d (.bool v53)))) eC Cl.fn (c_laws_eqAtlas h54) (Evs.cons (eS rfl eZ) (Evs.cons eZ Evs.nil)) (VDs.cons (VD.aggs (CDs.plain (CDs.sl (bS rfl (bS rfl (bS rfl bZ))) (List.length_map _) (CDs.plain (CDs.plain (CDs.plain (CDs.plain (CDs.plain (CDs.plain (CDs.sl (bS rfl (bS rfl (bS rfl (bS rfl bZ)))) (List.length_map _) CDs.nil)))))))))) (VDs.cons (VD.agg rfl) VDs.nil)) rfl ?_
              refine gDo (eS rfl (eS rfl (eS rfl eZ))) (decide_eq_false h52) ?_
              refine oInv eZ ?_
              refine oPickF (eS rfl (eS rfl (eS rfl (eS rfl eZ)))) (decide_eq_false h52) eZ ?_
              refine oMov eZ ?_
              rcases oite H with ⟨h55, H⟩ | ⟨h55, H⟩
              · refine gDo eZ (congrArg Bool.not h55) ?_
                refine oMov (eS rfl (eS rfl (eS rfl (eS rfl (eS rfl (eS rfl (eS rfl (eS rfl (eS rfl (eS rfl (eS rfl (eS rfl (eS rfl (eS rfl (eS rfl (eS rfl eZ)))))))))))))))) ?_
                refine gDo (eS rfl eZ) (congrArg Bool.not h55) ?_
                refine oMov (eS rfl (eS rfl (eS rfl (eS rfl (eS rfl (eS rfl (eS rfl (eS rfl (eS rfl (eS rfl (eS rfl (eS rfl (eS rfl (eS rfl (eS rfl eZ))))))))))))))) ?_
                refine gDo (eS rfl (eS rfl eZ)) (congrArg Bool.not h55) ?_
                refine oNeq (eS rfl eZ) eZ ?_
                refine oPickF (eS rfl (eS rfl (eS rfl eZ))) (congrArg Bool.not h55) eZ ?_
                refine xNil ?_
                exact TQ.qn ⟨(decide (¬ v13.2 = v9.2)), H, (wk_mkG [] (SL.cons (eS rfl (eS rfl (eS rfl (eS rfl (eS rfl (eS rfl (eS rfl (eS rfl (eS rfl (eS rfl (eS rfl (eS rfl (eS rfl (eS rfl eZ)))))))))))))) rfl VWk.rfl (SL.cons (eS rfl (eS rfl (eS rfl (eS rfl (eS rfl (eS rfl (eS rfl (eS rfl (eS rfl (eS rfl (eS rfl (eS rfl (eS rfl (eS rfl (eS rfl eZ))))))))))))))) rfl VWk.rfl (SL.cons (eS rfl (eS rfl (eS rfl (eS rfl (eS rfl (eS rfl (eS rfl (eS rfl (eS rfl (eS rfl (eS rfl (eS rfl (eS rfl (eS rfl (eS rfl (eS rfl eZ)))))))))))))))) rfl VWk.rfl (SL.cons (eS rfl (eS rfl (eS rfl (eS rfl (eS rfl (eS rfl (eS rfl (eS rfl (eS rfl (eS rfl (eS rfl (eS rfl (eS rfl (eS rfl (eS rfl (eS rfl (eS rfl eZ))))))))))))))))) rfl VWk.rfl (SL.cons (eS rfl (eS rfl (eS rfl (eS rfl (eS rfl (eS rfl (eS rfl (eS rfl (eS rfl (eS rfl (eS rfl (eS rfl (eS rfl (eS rfl (eS rfl (eS rfl (eS rfl (eS rfl eZ)))))))))))))))))) rfl VWk.rfl (SL.cons (eS rfl (eS rfl (eS rfl (eS rfl (eS rfl (eS rfl (eS rfl (eS rfl (eS rfl (eS rfl (eS rfl (eS rfl (eS rfl (eS rfl (eS rfl (eS rfl (eS rfl (eS rfl (eS rfl eZ))))))))))))))))))) rfl VWk.rfl (SL.cons eZ rfl VWk.rfl SL.nil))))))) (BL.keep rfl (BL.keep rfl (BL.keep rfl (BL.keep rfl (BL.keep rfl BL.nil))))) (BK.cons rfl bZ rfl rfl (BK.cons rfl (bS rfl bZ) rfl rfl (BK.cons rfl (bS rfl (bS rfl bZ)) rfl (by first | rfl | simp) (BK.cons rfl (bS rfl (bS rfl (bS rfl bZ))) rfl rfl (BK.cons rfl (bS rfl (bS rfl (bS rfl (bS rfl bZ)))) rfl rfl BK.nil))))) GK.nil)⟩
              · refine gSkip eZ (congrArg Bool.not (nt h55)) rfl ?_
                refine gSkip (eS rfl eZ) (congrArg Bool.not (nt h55)) rfl ?_
                refine gSkip (eS rfl (eS rfl eZ)) (congrArg Bool.not (nt h55)) rfl ?_
                refine oPickT (eS rfl (eS rfl (eS rfl eZ))) (congrArg Bool.not (nt h55)) eC ?_
                refine xNil ?_
                exact TQ.qn ⟨true, H, (wk_mkG [] (SL.cons (eS rfl (eS rfl (eS rfl (eS rfl (eS rfl (eS rfl (eS rfl (eS rfl (eS rfl (eS rfl (eS rfl (eS rfl (eS rfl (eS rfl eZ)))))))))))))) rfl VWk.rfl (SL.cons (eS rfl (eS rfl (eS rfl (eS rfl (eS rfl (eS rfl (eS rfl (eS rfl (eS rfl (eS rfl (eS rfl (eS rfl (eS rfl (eS rfl (eS rfl eZ))))))))))))))) rfl VWk.rfl (SL.cons (eS rfl (eS rfl (eS rfl (eS rfl (eS rfl (eS rfl (eS rfl (eS rfl (eS rfl (eS rfl (eS rfl (eS rfl (eS rfl (eS rfl (eS rfl (eS rfl eZ)))))))))))))))) rfl VWk.rfl (SL.cons (eS rfl (eS rfl (eS rfl (eS rfl (eS rfl (eS rfl (eS rfl (eS rfl (eS rfl (eS rfl (eS rfl (eS rfl (eS rfl (eS rfl (eS rfl (eS rfl (eS rfl eZ))))))))))))))))) rfl VWk.rfl (SL.cons (eS rfl (eS rfl (eS rfl (eS rfl (eS rfl (eS rfl (eS rfl (eS rfl (eS rfl (eS rfl (eS rfl (eS rfl (eS rfl (eS rfl (eS rfl (eS rfl (eS rfl (eS rfl eZ)))))))))))))))))) rfl VWk.rfl (SL.cons (eS rfl (eS rfl (eS rfl (eS rfl (eS rfl (eS rfl (eS rfl (eS rfl (eS rfl (eS rfl (eS rfl (eS rfl (eS rfl (eS rfl (eS rfl (eS rfl (eS rfl (eS rfl (eS rfl eZ))))))))))))))))))) rfl VWk.rfl (SL.cons eZ rfl VWk.rfl SL.nil))))))) (BL.keep rfl (BL.keep rfl (BL.keep rfl (BL.keep rfl (BL.keep rfl BL.nil))))) (BK.cons rfl bZ rfl rfl (BK.cons rfl (bS rfl bZ) rfl rfl (BK.cons rfl (bS rfl (bS rfl bZ)) rfl (by first | rfl | simp) (BK.cons rfl (bS rfl (bS rfl (bS rfl bZ))) rfl rfl (BK.cons rfl (bS rfl (bS rfl (bS rfl (bS rfl bZ)))) rfl rfl BK.nil))))) GK.nil)⟩
        · refine AW.condT eZ (congrArg Bool.not (nt h22)) ?_
          refine AW.seq ?_
          refine AW.regs ?_
          refine oMov eC ?_
          refine xNil ?_
          refine TQ.qn ?_
          refine AW.ret ?_
          refine TQ.qr ?_
          obtain rfl := Option.some.inj H
          exact endsR (RL.cons (RV.tmp eZ) (VO.flat rfl) RL.nil) List.nodup_nil
    · refine AW.regs ?_
      refine oLoadVA (es := [(.d (.int .i64 v13.1.Epoch)), (.sl 2369 0 v13.1.Parts.length), (.d (.int .i64 v13.1.Move.No)), (.d (.int .i64 v13.1.Move.Stage)), (.d (.int .i64 v13.1.Move.Lo)), (.d (.int .i64 v13.1.Move.Hi)), (.d (.int .i64 v13.1.Move.From)), (.d (.int .i64 v13.1.Move.To)), (.sl 2376 0 v13.1.Move.Cells.length)]) (eS rfl eZ) bZ rfl ?_
      refine oLoadVA (es := [(.d (.int .i64 v9.1.Epoch)), (.d (.sl 3 (List.map d_TPart v9.1.Parts))), (.d (.int .i64 v9.1.Move.No)), (.d (.int .i64 v9.1.Move.Stage)), (.d (.int .i64 v9.1.Move.Lo)), (.d (.int .i64 v9.1.Move.Hi)), (.d (.int .i64 v9.1.Move.From)), (.d (.int .i64 v9.1.Move.To)), (.d (.sl 2 (List.map d_TCell v9.1.Move.Cells)))]) (eS rfl (eS rfl (eS rfl (eS rfl (eS rfl eZ))))) (bS rfl (bS rfl (bS rfl (bS rfl (bS rfl (bS rfl bZ)))))) rfl ?_
      obtain ⟨v56, h57, H⟩ := obind H
      refine oCall (u := (.one (.d (.bool v56)))) eC Cl.fn (c_laws_eqAtlas h57) (Evs.cons (eS rfl eZ) (Evs.cons eZ Evs.nil)) (VDs.cons (VD.aggs (CDs.plain (CDs.sl (bS rfl (bS rfl bZ)) (List.length_map _) (CDs.plain (CDs.plain (CDs.plain (CDs.plain (CDs.plain (CDs.plain (CDs.sl (bS rfl bZ) (List.length_map _) CDs.nil)))))))))) (VDs.cons (VD.agg rfl) VDs.nil)) rfl ?_
      refine oInv eZ ?_
      refine oMov eZ ?_
      rcases oite H with ⟨h58, H⟩ | ⟨h58, H⟩
      · refine gDo eZ (congrArg Bool.not h58) ?_
        refine oMov (eS rfl (eS rfl (eS rfl (eS rfl (eS rfl eZ))))) ?_
        refine gDo (eS rfl eZ) (congrArg Bool.not h58) ?_
        refine oMov (eS rfl (eS rfl (eS rfl (eS rfl (eS rfl (eS rfl (eS rfl (eS rfl (eS rfl eZ))))))))) ?_
        refine gDo (eS rfl (eS rfl eZ)) (congrArg Bool.not h58) ?_
        refine oNeq (eS rfl eZ) eZ ?_
        refine oPickF (eS rfl (eS rfl (eS rfl eZ))) (congrArg Bool.not h58) eZ ?_
        refine xNil ?_
        exact TQ.qn ⟨(decide (¬ v13.2 = v9.2)), H, (wk_mkG [] (SL.cons (eS rfl (eS rfl (eS rfl (eS rfl (eS rfl (eS rfl (eS rfl (eS rfl (eS rfl (eS rfl (eS rfl (eS rfl (eS rfl (eS rfl (eS rfl eZ))))))))))))))) rfl VWk.rfl (SL.cons (eS rfl (eS rfl (eS rfl (eS rfl (eS rfl (eS rfl (eS rfl (eS rfl (eS rfl (eS rfl (eS rfl (eS rfl (eS rfl (eS rfl (eS rfl (eS rfl eZ)))))))))))))))) rfl VWk.rfl (SL.cons (eS rfl (eS rfl (eS rfl (eS rfl (eS rfl (eS rfl (eS rfl (eS rfl (eS rfl (eS rfl (eS rfl (eS rfl (eS rfl (eS rfl eZ)))))))))))))) rfl VWk.rfl (SL.cons (eS rfl (eS rfl (eS rfl (eS rfl (eS rfl (eS rfl (eS rfl (eS rfl (eS rfl (eS rfl (eS rfl (eS rfl (eS rfl eZ))))))))))))) rfl VWk.rfl (SL.cons (eS rfl (eS rfl (eS rfl (eS rfl (eS rfl (eS rfl (eS rfl (eS rfl (eS rfl (eS rfl (eS rfl (eS rfl eZ)))))))))))) rfl VWk.rfl (SL.cons (eS rfl (eS rfl (eS rfl (eS rfl (eS rfl (eS rfl (eS rfl (eS rfl (eS rfl (eS rfl (eS rfl eZ))))))))))) rfl VWk.rfl (SL.cons (eS rfl (eS rfl (eS rfl (eS rfl (eS rfl (eS rfl (eS rfl (eS rfl (eS rfl (eS rfl eZ)))))))))) rfl VWk.rfl (SL.cons (eS rfl (eS rfl (eS rfl (eS rfl (eS rfl (eS rfl (eS rfl (eS rfl (eS rfl eZ))))))))) rfl VWk.rfl (SL.cons eZ rfl VWk.rfl SL.nil))))))))) (BL.keep rfl (BL.keep rfl (BL.keep rfl (BL.keep rfl (BL.keep rfl (BL.keep rfl (BL.keep rfl (BL.keep rfl BL.nil)))))))) (BK.cons rfl (bS rfl (bS rfl (bS rfl (bS rfl (bS rfl (bS rfl (bS rfl bZ))))))) rfl rfl (BK.cons rfl (bS rfl (bS rfl (bS rfl (bS rfl (bS rfl (bS rfl bZ)))))) rfl rfl (BK.cons rfl (bS rfl (bS rfl (bS rfl bZ))) rfl (by first | rfl | simp) (BK.cons rfl bZ rfl (by first | rfl | simp) (BK.cons rfl (bS rfl (bS rfl (bS rfl (bS rfl (bS rfl bZ))))) rfl rfl (BK.cons rfl (bS rfl (bS rfl (bS rfl (bS rfl bZ)))) rfl rfl (BK.cons rfl (bS rfl (bS rfl bZ)) rfl rfl (BK.cons rfl (bS rfl bZ) rfl rfl BK.nil)))))))) GK.nil)⟩
      · refine gSkip eZ (congrArg Bool.not (nt h58)) rfl ?_
        refine gSkip (eS rfl eZ) (congrArg Bool.not (nt h58)) rfl ?_
        refine gSkip (eS rfl (eS rfl eZ)) (congrArg Bool.not (nt h58)) rfl ?_
        refine oPickT (eS rfl (eS rfl (eS rfl eZ))) (congrArg Bool.not (nt h58)) eC ?_
        refine xNil ?_
        exact TQ.qn ⟨true, H, (wk_mkG [] (SL.cons (eS rfl (eS rfl (eS rfl (eS rfl (eS rfl (eS rfl (eS rfl (eS rfl (eS rfl (eS rfl (eS rfl (eS rfl (eS rfl (eS rfl (eS rfl eZ))))))))))))))) rfl VWk.rfl (SL.cons (eS rfl (eS rfl (eS rfl (eS rfl (eS rfl (eS rfl (eS rfl (eS rfl (eS rfl (eS rfl (eS rfl (eS rfl (eS rfl (eS rfl (eS rfl (eS rfl eZ)))))))))))))))) rfl VWk.rfl (SL.cons (eS rfl (eS rfl (eS rfl (eS rfl (eS rfl (eS rfl (eS rfl (eS rfl (eS rfl (eS rfl (eS rfl (eS rfl (eS rfl (eS rfl eZ)))))))))))))) rfl VWk.rfl (SL.cons (eS rfl (eS rfl (eS rfl (eS rfl (eS rfl (eS rfl (eS rfl (eS rfl (eS rfl (eS rfl (eS rfl (eS rfl (eS rfl eZ))))))))))))) rfl VWk.rfl (SL.cons (eS rfl (eS rfl (eS rfl (eS rfl (eS rfl (eS rfl (eS rfl (eS rfl (eS rfl (eS rfl (eS rfl (eS rfl eZ)))))))))))) rfl VWk.rfl (SL.cons (eS rfl (eS rfl (eS rfl (eS rfl (eS rfl (eS rfl (eS rfl (eS rfl (eS rfl (eS rfl (eS rfl eZ))))))))))) rfl VWk.rfl (SL.cons (eS rfl (eS rfl (eS rfl (eS rfl (eS rfl (eS rfl (eS rfl (eS rfl (eS rfl (eS rfl eZ)))))))))) rfl VWk.rfl (SL.cons (eS rfl (eS rfl (eS rfl (eS rfl (eS rfl (eS rfl (eS rfl (eS rfl (eS rfl eZ))))))))) rfl VWk.rfl (SL.cons eZ rfl VWk.rfl SL.nil))))))))) (BL.keep rfl (BL.keep rfl (BL.keep rfl (BL.keep rfl (BL.keep rfl (BL.keep rfl (BL.keep rfl (BL.keep rfl BL.nil)))))))) (BK.cons rfl (bS rfl (bS rfl (bS rfl (bS rfl (bS rfl (bS rfl (bS rfl bZ))))))) rfl rfl (BK.cons rfl (bS rfl (bS rfl (bS rfl (bS rfl (bS rfl (bS rfl bZ)))))) rfl rfl (BK.cons rfl (bS rfl (bS rfl (bS rfl bZ))) rfl (by first | rfl | simp) (BK.cons rfl bZ rfl (by first | rfl | simp) (BK.cons rfl (bS rfl (bS rfl (bS rfl (bS rfl (bS rfl bZ))))) rfl rfl (BK.cons rfl (bS rfl (bS rfl (bS rfl (bS rfl bZ)))) rfl rfl (BK.cons rfl (bS rfl (bS rfl bZ)) rfl rfl (BK.cons rfl (bS rfl bZ) rfl rfl BK.nil)))))))) GK.nil)⟩

end Go.AW
