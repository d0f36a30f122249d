/- That functions of the program compute what the plain functions say. Conditions: each theorem's own. -/
import Derived.Test.YtnpbflgkgjnljaaMFnWaits
import Derived.Test.YtnpbflgkgjnljaaGFnWaits
import Derived.Test.YtnpbflgkgjnljaaDFnWaitsa
set_option linter.unusedVariables false
set_option linter.unusedSimpArgs false
set_option maxRecDepth 100000
namespace Go.AW
open Go.Proofs
theorem c_spec_l12DrawAsk {pv : Value} {cb1 : (List Int)} {r : ((List TLock) × (List Int) × Int × TRange × Int)} (H : m_spec_l12DrawAsk cb1 = some r) : FnC Try.prog pv (.sl 1 (List.map d_u8 cb1)) 58 [⟨(.pin pv), .b⟩] [(.sl 4 (List.map d_TLock r.1)), (.sl 1 (List.map d_i64 r.2.1)), (.int .i64 r.2.2.1), (.agg (d_TRange r.2.2.2.1)), (.int .i64 r.2.2.2.2)] := by
 refine n58 (fle rfl) (fle rfl) trivial rfl ?_
 rw [initC_mk]
 refine AW.weaken (t := mk [(0, (.one (.d (.pin pv))))] [] (lk [(63, (.one (.d (.both pv (.sl 1 (List.map d_u8 cb1))))))])) (wk_mkG (gl := [(63, (.one (.d (.both pv (.sl 1 (List.map d_u8 cb1))))))]) [] (kv 0 (.one (.d (.pin pv))) rfl rfl SL.nil) BL.nil BK.nil (GK.cons rfl GK.nil)) ?_
 unfold m_spec_l12DrawAsk at H
 unfold i58
 refine aV (oMov eC (oMov eC (oMov eC (oVar (n := 320) (m := 2) rfl rfl nZ (oMov eC (xQ (aS (AW.regm (rmOne (oMov (eR rfl) (xNil ?_)))))))))))
 obtain ⟨v2, h3, H⟩ := obind H
 refine rmCallC (v0 := pv) (hg := by exact rfl) (ON := []) (ls := []) (G := []) (E := []) (MB := []) (u := (.one (.ptr (.nm 1024 0 0)))) (bs := [(1024, (.vars 3 [(.d (.pin pv)), (dI v2.1), (dI v2.2)]))]) eC Cl.fn (c_spec_l1New h3) (Evs.cons eZ Evs.nil) (AO.lent VD.plain rfl AO.nil) rfl rfl rfl SZ.nil (erL.cons (v' := (.one (.d (.pin pv)))) rfl (erL.cons (v' := (oI 0)) rfl (erL.cons (v' := (.one (.ptr (.nm 320 0 0)))) rfl (erL.cons (v' := (oI 0)) rfl (erL.cons (v' := (.one .zs)) rfl (erL.cons (v' := (.one .zs)) rfl (erL.cons (v' := (.one (.d (.pin pv)))) rfl erL.nil))))))) (erH.cons (v' := (.vars 2 [(dI 0), (dI 0)])) rfl rfl erH.nil) (erL.cons (v' := (.one (.d (.both pv (.sl 1 (List.map d_u8 cb1)))))) rfl erL.nil) (by simp [bindR, bindV, bindVs, bindC, bindCs, D.flat]) rfl (fC (nS rfl nZ) rfl (fC (nS rfl nZ) rfl fN)) (rmRest (oMov eZ (xQ (aS (AW.regm (rmOne (oMov eZ (xNil (rmOne (oMov (eR rfl) (xNil ?_)))))))))))
 obtain ⟨v4, h5, H⟩ := obind H
 refine rmCallIC (v0 := pv) (hg := by exact rfl) (ON := []) (ls := []) (G := []) (E := []) (MB := []) (u := (oI v4)) eC Cl.fn (c_spec_l1Size h5) (Evs.cons eZ (Evs.cons eC Evs.nil)) (AO.lent VD.plain rfl (AO.lent VD.plain rfl AO.nil)) rfl rfl rfl SZ.nil (erL.cons (v' := (.one (.d (.pin pv)))) rfl (erL.cons (v' := (.one (.ptr (.nm 1024 0 0)))) rfl (erL.cons (v' := (.one (.ptr (.nm 1024 0 0)))) rfl (erL.cons (v' := (.one (.ptr (.nm 1024 0 0)))) rfl (erL.cons (v' := (.one (.d (.pin pv)))) rfl (erL.cons (v' := (oI 0)) rfl (erL.cons (v' := (.one (.ptr (.nm 320 0 0)))) rfl (erL.cons (v' := (oI 0)) rfl (erL.cons (v' := (.one .zs)) rfl (erL.cons (v' := (.one .zs)) rfl (erL.cons (v' := (.one (.d (.pin pv)))) rfl erL.nil))))))))))) (erH.cons (v' := (.vars 3 [(.d (.pin pv)), (dI v2.1), (dI v2.2)])) rfl rfl (erH.cons (v' := (.vars 2 [(dI 0), (dI 0)])) rfl rfl erH.nil)) (erL.cons (v' := (.one (.d (.both pv (.sl 1 (List.map d_u8 cb1)))))) rfl erL.nil) rfl rfl ?_
 obtain ⟨v6, h7, H⟩ := obind H
 refine rmCallC (v0 := pv) (hg := by exact rfl) (ON := [1024]) (ls := []) (G := []) (E := [subKey 1024]) (MB := [(1024, (.vars 3 [(.d (.pin pv)), (dI v6.2.1), (dI v6.2.2)]))]) (u := (.one (.sl 1280 0 v6.1.length))) (bs := [(1280, (.data 4 (List.map d_TLock v6.1) true none))]) eC Cl.fn (c_spec_l12DrawAny h7) (Evs.cons (eR rfl) (Evs.cons eZ Evs.nil)) (AO.mut (VO.ptr (es := [(.pin pv), (.int .i64 v2.1), (.int .i64 v2.2)]) bZ rfl rfl rfl) (AO.lent VD.plain rfl AO.nil)) rfl rfl rfl (SZ.consP bZ rfl SZ.nil) (erL.cons (v' := (oI v4)) rfl (erL.cons (v' := (.one (.d (.pin pv)))) rfl (erL.cons (v' := (.one (.ptr (.nm 1024 0 0)))) rfl (erL.cons (v' := (.one (.ptr (.nm 1024 0 0)))) rfl (erL.cons (v' := (.one (.ptr (.nm 1024 0 0)))) rfl (erL.cons (v' := (.one (.d (.pin pv)))) rfl (erL.cons (v' := (oI 0)) rfl (erL.cons (v' := (.one (.ptr (.nm 320 0 0)))) rfl (erL.cons (v' := (oI 0)) rfl (erL.cons (v' := (.one .zs)) rfl (erL.cons (v' := (.one .zs)) rfl (erL.cons (v' := (.one (.d (.pin pv)))) rfl erL.nil)))))))))))) (erH.cons (v' := (.vars 3 [(.d (.pin pv)), (dI v2.1), (dI v2.2)])) rfl rfl (erH.cons (v' := (.vars 2 [(dI 0), (dI 0)])) rfl rfl erH.nil)) (erL.cons (v' := (.one (.d (.both pv (.sl 1 (List.map d_u8 cb1)))))) rfl erL.nil) (by simp [bindR, bindV, bindVs, bindC, bindCs]) rfl (fC (nS rfl (nS rfl (nS rfl nZ))) rfl (fC (nS rfl (nS rfl (nS rfl nZ))) rfl fN)) (rmRest (oMov eZ (xQ (aV (oBsliceZ (m := 1344) rfl (nS rfl (nS rfl (nS rfl (nS rfl nZ)))) (oMov eZ (xQ (AW.weaken (wk_mkG [] (kr 9 rfl rfl (kr 8 rfl rfl (kr 7 rfl rfl (kr 5 rfl rfl SL.nil)))) (BL.keep rfl (BL.keep rfl (BL.keep rfl (BL.keep rfl BL.nil)))) (BK.cons (n := 1280) rfl bZ rfl rfl (BK.cons (n := 1024) rfl (bS rfl bZ) rfl rfl (BK.cons (n := 320) rfl (bS rfl (bS rfl (bS rfl bZ))) rfl rfl BK.nil))) (GK.cons rfl GK.nil)) (AW.seqJ (fun t8 : ((List Int) × Int × Int) => (spec_l12DrawAsk_j8 cb1 v6) t8 = some r) (fun t8 => mk [(5, (.one (.ptr (.nm 320 0 0)))), (7, (.one (.ptr (.nm 1024 0 0)))), (8, (.one (.sl 1280 0 v6.1.length))), (9, (.one (.sl 320128 0 t8.1.length)))] [(320128, (.data 1 (List.map d_i64 t8.1) true none)), (320, (.vars 2 [(dI 0), (dI 0)])), (1024, (.vars 3 [(.d (.pin pv)), (dI t8.2.1), (dI t8.2.2)])), (1280, (.data 4 (List.map d_TLock v6.1) true none))] (lk [(63, (.one (.d (.both pv (.sl 1 (List.map d_u8 cb1))))))])) ?_ ?_)))))))))
 ·intro t8 H
  unfold spec_l12DrawAsk_j8 at H
  refine AW.seqJ (fun t10 : ((List Int) × Int × Int) => (spec_l12DrawAsk_j10 cb1 v6) t10 = some r) (fun t10 => mk [(5, (.one (.ptr (.nm 320 0 0)))), (7, (.one (.ptr (.nm 1024 0 0)))), (8, (.one (.sl 1280 0 v6.1.length))), (9, (.one (.sl 320192 0 t10.1.length)))] [(320192, (.data 1 (List.map d_i64 t10.1) true none)), (320, (.vars 2 [(dI 0), (dI 0)])), (1024, (.vars 3 [(.d (.pin pv)), (dI t10.2.1), (dI t10.2.2)])), (1280, (.data 4 (List.map d_TLock v6.1) true none))] (lk [(63, (.one (.d (.both pv (.sl 1 (List.map d_u8 cb1))))))])) ?_ ?_
  ·intro t10 H
   unfold spec_l12DrawAsk_j10 at H
   refine aS (AW.regm (rmOne (oMov (eR rfl) (xNil ?_))))
   obtain ⟨v12, h13, H⟩ := obind H
   refine rmCallIC (v0 := pv) (hg := by exact rfl) (ON := [1024]) (ls := []) (G := []) (E := [subKey 1024]) (MB := [(1024, (.vars 3 [(.d (.pin pv)), (dI v12.2.1), (dI v12.2.2)]))]) (u := (oI v12.1)) eC Cl.fn (c_spec_l1Below h13) (Evs.cons eZ (Evs.cons eC Evs.nil)) (AO.mut (VO.ptr (es := [(.pin pv), (.int .i64 t10.2.1), (.int .i64 t10.2.2)]) (bS rfl (bS rfl bZ)) rfl rfl rfl) (AO.lent VD.plain rfl AO.nil)) rfl rfl rfl (SZ.consP (bS rfl (bS rfl bZ)) rfl SZ.nil) (erL.cons (v' := (.one (.ptr (.nm 1024 0 0)))) rfl (erL.cons (v' := (.one (.ptr (.nm 320 0 0)))) rfl (erL.cons (v' := (.one (.ptr (.nm 1024 0 0)))) rfl (erL.cons (v' := (.one (.sl 1280 0 v6.1.length))) rfl (erL.cons (v' := (.one (.sl 320192 0 t10.1.length))) rfl erL.nil))))) (erH.cons (v' := (.data 1 (List.map d_i64 t10.1) true none)) rfl rfl (erH.cons (v' := (.vars 2 [(dI 0), (dI 0)])) rfl rfl (erH.cons (v' := (.vars 3 [(.d (.pin pv)), (dI t10.2.1), (dI t10.2.2)])) rfl rfl (erH.cons (v' := (.data 4 (List.map d_TLock v6.1) true none)) rfl rfl erH.nil)))) (erL.cons (v' := (.one (.d (.both pv (.sl 1 (List.map d_u8 cb1)))))) rfl erL.nil) rfl rfl (rmRest (oMov eZ (xQ (aS (AW.regm (rmOne (oMov eZ (xNil (rmOne (oMov (eR rfl) (xNil (rmOne (oAdd eZ eC (xNil (rmOne (oMov (eR rfl) (xNil ?_)))))))))))))))))
   obtain ⟨v14, h15, H⟩ := obind H
   refine rmCallIC (v0 := pv) (hg := by exact rfl) (ON := [1024]) (ls := []) (G := []) (E := [subKey 1024]) (MB := [(1024, (.vars 3 [(.d (.pin pv)), (dI v14.2.1), (dI v14.2.2)]))]) (u := (oI v14.1)) eC Cl.fn (c_spec_l1Below h15) (Evs.cons eZ (Evs.cons eC Evs.nil)) (AO.mut (VO.ptr (es := [(.pin pv), (.int .i64 v12.2.1), (.int .i64 v12.2.2)]) bZ rfl rfl rfl) (AO.lent VD.plain rfl AO.nil)) rfl rfl rfl (SZ.consP bZ rfl SZ.nil) (erL.cons (v' := (.one (.ptr (.nm 1024 0 0)))) rfl (erL.cons (v' := (oI (IntKind.wrap .i64 (v12.1 + 1)))) rfl (erL.cons (v' := (oI v12.1)) rfl (erL.cons (v' := (oI v12.1)) rfl (erL.cons (v' := (oI v12.1)) rfl (erL.cons (v' := (oI v12.1)) rfl (erL.cons (v' := (.one (.ptr (.nm 1024 0 0)))) rfl (erL.cons (v' := (.one (.ptr (.nm 320 0 0)))) rfl (erL.cons (v' := (.one (.ptr (.nm 1024 0 0)))) rfl (erL.cons (v' := (.one (.sl 1280 0 v6.1.length))) rfl (erL.cons (v' := (.one (.sl 320192 0 t10.1.length))) rfl erL.nil))))))))))) (erH.cons (v' := (.vars 3 [(.d (.pin pv)), (dI v12.2.1), (dI v12.2.2)])) rfl rfl (erH.cons (v' := (.data 1 (List.map d_i64 t10.1) true none)) rfl rfl (erH.cons (v' := (.vars 2 [(dI 0), (dI 0)])) rfl rfl (erH.cons (v' := (.vars 3 [(.d (.pin pv)), (dI t10.2.1), (dI t10.2.2)])) rfl rfl (erH.cons (v' := (.data 4 (List.map d_TLock v6.1) true none)) rfl rfl erH.nil))))) (erL.cons (v' := (.one (.d (.both pv (.sl 1 (List.map d_u8 cb1)))))) rfl erL.nil) rfl rfl (rmRest (oAdd (eR rfl) eZ (oBuild (cs := [(dI v12.1), (dI (IntKind.wrap .i64 ((IntKind.wrap .i64 (v12.1 + 1)) + v14.1)))]) (PsCons (eR rfl) (PsCons eZ PsNil)) rfl (oVar (n := 768) (m := 2) rfl rfl (nS rfl (nS rfl (nS rfl (nS rfl (nS rfl (nS rfl nZ)))))) (oStoreV (es := [(dI v12.1), (dI (IntKind.wrap .i64 ((IntKind.wrap .i64 (v12.1 + 1)) + v14.1)))]) eZ (eR rfl) rfl rfl bZ rfl (xQ (AW.seqJ (fun t16 : (Int × Int × Int × Int) => (spec_l12DrawAsk_j16 cb1 v6 t10) t16 = some r) (fun t16 => mk [(5, (.one (.ptr (.nm 320 0 0)))), (7, (.one (.ptr (.nm 1024 0 0)))), (8, (.one (.sl 1280 0 v6.1.length))), (9, (.one (.sl 320192 0 t10.1.length))), (12, (.one (.ptr (.nm 768 0 0))))] [(320, (.vars 2 [(dI 0), (dI 0)])), (768, (.vars 2 [(dI t16.1), (dI t16.2.1)])), (1024, (.vars 3 [(.d (.pin pv)), (dI t16.2.2.1), (dI t16.2.2.2)])), (1280, (.data 4 (List.map d_TLock v6.1) true none)), (320192, (.data 1 (List.map d_i64 t10.1) true none))] (lk [(63, (.one (.d (.both pv (.sl 1 (List.map d_u8 cb1))))))])) ?_ ?_)))))))
   ·intro t16 H
    unfold spec_l12DrawAsk_j16 at H
    refine aS (AW.regm (rmOne (oMov (eR rfl) (xNil ?_))))
    obtain ⟨v18, h19, H⟩ := obind H
    refine rmCallIC (v0 := pv) (hg := by exact rfl) (ON := [1024]) (ls := []) (G := []) (E := [subKey 1024]) (MB := [(1024, (.vars 3 [(.d (.pin pv)), (dI v18.2.1), (dI v18.2.2)]))]) (u := (oI v18.1)) eC Cl.fn (c_spec_l1Below h19) (Evs.cons eZ (Evs.cons eC Evs.nil)) (AO.mut (VO.ptr (es := [(.pin pv), (.int .i64 t16.2.2.1), (.int .i64 t16.2.2.2)]) (bS rfl (bS rfl bZ)) rfl rfl rfl) (AO.lent VD.plain rfl AO.nil)) rfl rfl rfl (SZ.consP (bS rfl (bS rfl bZ)) rfl SZ.nil) (erL.cons (v' := (.one (.ptr (.nm 1024 0 0)))) rfl (erL.cons (v' := (.one (.ptr (.nm 320 0 0)))) rfl (erL.cons (v' := (.one (.ptr (.nm 1024 0 0)))) rfl (erL.cons (v' := (.one (.sl 1280 0 v6.1.length))) rfl (erL.cons (v' := (.one (.sl 320192 0 t10.1.length))) rfl (erL.cons (v' := (.one (.ptr (.nm 768 0 0)))) rfl erL.nil)))))) (erH.cons (v' := (.vars 2 [(dI 0), (dI 0)])) rfl rfl (erH.cons (v' := (.vars 2 [(dI t16.1), (dI t16.2.1)])) rfl rfl (erH.cons (v' := (.vars 3 [(.d (.pin pv)), (dI t16.2.2.1), (dI t16.2.2.2)])) rfl rfl (erH.cons (v' := (.data 4 (List.map d_TLock v6.1) true none)) rfl rfl (erH.cons (v' := (.data 1 (List.map d_i64 t10.1) true none)) rfl rfl erH.nil))))) (erL.cons (v' := (.one (.d (.both pv (.sl 1 (List.map d_u8 cb1)))))) rfl erL.nil) rfl rfl (rmRest (oAdd eC eZ (oMov eZ (xQ (AW.seqJ (fun t20 : (Int × Int × Int) => (spec_l12DrawAsk_j20 cb1 v6 t10 t16) t20 = some r) (fun t20 => mk [(5, (.one (.ptr (.nm 320 0 0)))), (7, (.one (.ptr (.nm 1024 0 0)))), (8, (.one (.sl 1280 0 v6.1.length))), (9, (.one (.sl 320192 0 t10.1.length))), (12, (.one (.ptr (.nm 768 0 0)))), (13, (oI t20.1))] [(320, (.vars 2 [(dI 0), (dI 0)])), (768, (.vars 2 [(dI t16.1), (dI t16.2.1)])), (1024, (.vars 3 [(.d (.pin pv)), (dI t20.2.1), (dI t20.2.2)])), (1280, (.data 4 (List.map d_TLock v6.1) true none)), (320192, (.data 1 (List.map d_i64 t10.1) true none))] (lk [(63, (.one (.d (.both pv (.sl 1 (List.map d_u8 cb1))))))])) ?_ ?_)))))
    ·intro t20 H
     unfold spec_l12DrawAsk_j20 at H
     refine aS (AW.regm (rmOne (oMov (eR rfl) (xNil ?_))))
     obtain ⟨v22, h23, H⟩ := obind H
     refine rmCallIC (v0 := pv) (hg := by exact rfl) (ON := [1024]) (ls := []) (G := []) (E := [subKey 1024]) (MB := [(1024, (.vars 3 [(.d (.pin pv)), (dI v22.2.1), (dI v22.2.2)]))]) (u := (oI v22.1)) eC Cl.fn (c_spec_l1Below h23) (Evs.cons eZ (Evs.cons eC Evs.nil)) (AO.mut (VO.ptr (es := [(.pin pv), (.int .i64 t20.2.1), (.int .i64 t20.2.2)]) (bS rfl (bS rfl bZ)) rfl rfl rfl) (AO.lent VD.plain rfl AO.nil)) rfl rfl rfl (SZ.consP (bS rfl (bS rfl bZ)) rfl SZ.nil) (erL.cons (v' := (.one (.ptr (.nm 1024 0 0)))) rfl (erL.cons (v' := (.one (.ptr (.nm 320 0 0)))) rfl (erL.cons (v' := (.one (.ptr (.nm 1024 0 0)))) rfl (erL.cons (v' := (.one (.sl 1280 0 v6.1.length))) rfl (erL.cons (v' := (.one (.sl 320192 0 t10.1.length))) rfl (erL.cons (v' := (.one (.ptr (.nm 768 0 0)))) rfl (erL.cons (v' := (oI t20.1)) rfl erL.nil))))))) (erH.cons (v' := (.vars 2 [(dI 0), (dI 0)])) rfl rfl (erH.cons (v' := (.vars 2 [(dI t16.1), (dI t16.2.1)])) rfl rfl (erH.cons (v' := (.vars 3 [(.d (.pin pv)), (dI t20.2.1), (dI t20.2.2)])) rfl rfl (erH.cons (v' := (.data 4 (List.map d_TLock v6.1) true none)) rfl rfl (erH.cons (v' := (.data 1 (List.map d_i64 t10.1) true none)) rfl rfl erH.nil))))) (erL.cons (v' := (.one (.d (.both pv (.sl 1 (List.map d_u8 cb1)))))) rfl erL.nil) rfl rfl (rmRest (oAdd eC eZ (oMov eZ (xQ (AW.seqJ (fun t24 : Int => (spec_l12DrawAsk_j24 v6 t10 t16 t20) t24 = some r) (fun t24 => mk [(5, (.one (.ptr (.nm 320 0 0)))), (8, (.one (.sl 1280 0 v6.1.length))), (9, (.one (.sl 320192 0 t10.1.length))), (12, (.one (.ptr (.nm 768 0 0)))), (13, (oI t20.1)), (14, (oI t24))] [(320, (.vars 2 [(dI 0), (dI 0)])), (768, (.vars 2 [(dI t16.1), (dI t16.2.1)])), (1280, (.data 4 (List.map d_TLock v6.1) true none)), (320192, (.data 1 (List.map d_i64 t10.1) true none))] (lk [(63, (.one (.d (.both pv (.sl 1 (List.map d_u8 cb1))))))])) ?_ ?_)))))
     ·intro t24 H
      unfold spec_l12DrawAsk_j24 at H
      refine aS (AW.regd (oMov (eR rfl) (oMov (eR rfl) (oMov (eR rfl) (oLoadVA (es := [(dI t16.1), (dI t16.2.1)]) (eR rfl) (bS rfl bZ) rfl (oMov (eR rfl) (oMov (eR rfl) (oMov (eR rfl) (oMov (eR rfl) (oStoreV (es := [(dI t16.1), (dI t16.2.1)]) (eR rfl) (eR rfl) rfl rfl bZ rfl (oMov (eR rfl) (xQ (AW.ret ?_)))))))))))))
      cases H
      exact endsRM (RL.cons (RV.tmp (eR rfl)) (VO.sl (bS rfl (bS rfl (bS rfl bZ))) (List.length_map _) (allFlat fun _ => rfl)) (RL.cons (RV.tmp (eR rfl)) (VO.sl (bS rfl (bS rfl (bS rfl (bS rfl bZ)))) (List.length_map _) (allFlat fun _ => rfl)) (RL.cons (RV.tmp (eR rfl)) (VO.flat rfl) (RL.cons (RV.cellA (es := [(dI t16.1), (dI t16.2.1)]) (eR rfl) bZ rfl) (VO.agg (ds := [(.int .i64 t16.1), (.int .i64 t16.2.1)]) rfl rfl) (RL.cons (RV.tmp eZ) (VO.flat rfl) RL.nil))))) (ML.lent ML.nil) (by decide)
     ·refine aS (AW.regm (rmOne (oMov (eR rfl) (xNil ?_))))
      obtain ⟨v26, h27, H⟩ := obind H
      refine rmCallIC (v0 := pv) (hg := by exact rfl) (ON := [1024]) (ls := []) (G := []) (E := [subKey 1024]) (MB := [(1024, (.vars 3 [(.d (.pin pv)), (dI v26.2.1), (dI v26.2.2)]))]) (u := (oB v26.1)) eC Cl.fn (c_spec_l1Once h27) (Evs.cons eZ (Evs.cons eC Evs.nil)) (AO.mut (VO.ptr (es := [(.pin pv), (.int .i64 v22.2.1), (.int .i64 v22.2.2)]) bZ rfl rfl rfl) (AO.lent VD.plain rfl AO.nil)) rfl rfl rfl (SZ.consP bZ rfl SZ.nil) (erL.cons (v' := (.one (.ptr (.nm 1024 0 0)))) rfl (erL.cons (v' := (oI (IntKind.wrap .i64 (1 + v22.1)))) rfl (erL.cons (v' := (oI (IntKind.wrap .i64 (1 + v22.1)))) rfl (erL.cons (v' := (oI v22.1)) rfl (erL.cons (v' := (.one (.ptr (.nm 1024 0 0)))) rfl (erL.cons (v' := (.one (.ptr (.nm 320 0 0)))) rfl (erL.cons (v' := (.one (.ptr (.nm 1024 0 0)))) rfl (erL.cons (v' := (.one (.sl 1280 0 v6.1.length))) rfl (erL.cons (v' := (.one (.sl 320192 0 t10.1.length))) rfl (erL.cons (v' := (.one (.ptr (.nm 768 0 0)))) rfl (erL.cons (v' := (oI t20.1)) rfl erL.nil))))))))))) (erH.cons (v' := (.vars 3 [(.d (.pin pv)), (dI v22.2.1), (dI v22.2.2)])) rfl rfl (erH.cons (v' := (.vars 2 [(dI 0), (dI 0)])) rfl rfl (erH.cons (v' := (.vars 2 [(dI t16.1), (dI t16.2.1)])) rfl rfl (erH.cons (v' := (.vars 3 [(.d (.pin pv)), (dI t20.2.1), (dI t20.2.2)])) rfl rfl (erH.cons (v' := (.data 4 (List.map d_TLock v6.1) true none)) rfl rfl (erH.cons (v' := (.data 1 (List.map d_i64 t10.1) true none)) rfl rfl erH.nil)))))) (erL.cons (v' := (.one (.d (.both pv (.sl 1 (List.map d_u8 cb1)))))) rfl erL.nil) rfl rfl (rmRest (xQ ?_))
      rcases oite H with ⟨h28, H⟩ | ⟨h28, H⟩
      ·refine AW.condT eZ h28 (AW.regm (rmOne (oMov (eR rfl) (xNil (rmOne (oBslice (m := 4096) (q := 3) (cs := [(dI 0), (dI 60), (dI 61)]) rfl (PsCons eC (PsCons eC (PsCons eC PsNil))) rfl (List.cons_ne_nil _ _) (by simp) (nS rfl (nS rfl (nS rfl (nS rfl (nS rfl (nS rfl (nS rfl nZ))))))) (xNil ?_)))))))
       obtain ⟨v29, h30, H⟩ := obind H
       exact rmCallIC (v0 := pv) (hg := by exact rfl) (ON := [1024]) (ls := [4096]) (G := []) (E := [subKey 1024]) (MB := [(1024, (.vars 3 [(.d (.pin pv)), (dI v29.2.1), (dI v29.2.2)]))]) (u := (oI v29.1)) eC Cl.fn (c_spec_l1PickInt h30) (Evs.cons (eR rfl) (Evs.cons eZ Evs.nil)) (AO.mut (VO.ptr (es := [(.pin pv), (.int .i64 v26.2.1), (.int .i64 v26.2.2)]) (bS rfl bZ) rfl rfl rfl) (AO.lent (VD.vars [(.int .i64 0), (.int .i64 60), (.int .i64 61)] bZ rfl rfl) rfl AO.nil)) rfl rfl rfl (SZ.consP (bS rfl bZ) rfl SZ.nil) (erL.cons (v' := (.one (.sl 4096 0 3))) rfl (erL.cons (v' := (.one (.ptr (.nm 1024 0 0)))) rfl (erL.cons (v' := (oB v26.1)) rfl (erL.cons (v' := (.one (.ptr (.nm 1024 0 0)))) rfl (erL.cons (v' := (oI (IntKind.wrap .i64 (1 + v22.1)))) rfl (erL.cons (v' := (oI (IntKind.wrap .i64 (1 + v22.1)))) rfl (erL.cons (v' := (oI v22.1)) rfl (erL.cons (v' := (.one (.ptr (.nm 1024 0 0)))) rfl (erL.cons (v' := (.one (.ptr (.nm 320 0 0)))) rfl (erL.cons (v' := (.one (.ptr (.nm 1024 0 0)))) rfl (erL.cons (v' := (.one (.sl 1280 0 v6.1.length))) rfl (erL.cons (v' := (.one (.sl 320192 0 t10.1.length))) rfl (erL.cons (v' := (.one (.ptr (.nm 768 0 0)))) rfl (erL.cons (v' := (oI t20.1)) rfl erL.nil)))))))))))))) (erH.cons (v' := (.vars 1 [(dI 0), (dI 60), (dI 61)])) rfl rfl (erH.cons (v' := (.vars 3 [(.d (.pin pv)), (dI v26.2.1), (dI v26.2.2)])) rfl rfl (erH.cons (v' := (.vars 3 [(.d (.pin pv)), (dI v22.2.1), (dI v22.2.2)])) rfl rfl (erH.cons (v' := (.vars 2 [(dI 0), (dI 0)])) rfl rfl (erH.cons (v' := (.vars 2 [(dI t16.1), (dI t16.2.1)])) rfl rfl (erH.cons (v' := (.vars 3 [(.d (.pin pv)), (dI t20.2.1), (dI t20.2.2)])) rfl rfl (erH.cons (v' := (.data 4 (List.map d_TLock v6.1) true none)) rfl rfl (erH.cons (v' := (.data 1 (List.map d_i64 t10.1) true none)) rfl rfl erH.nil)))))))) (erL.cons (v' := (.one (.d (.both pv (.sl 1 (List.map d_u8 cb1)))))) rfl erL.nil) rfl rfl (rmRest (oMov eZ (xNil (TQ.qn ⟨v29.1, H, (wk_mkG [1024, 4096] (kR rfl rfl (kR rfl rfl (kR rfl rfl (kR rfl rfl (kR rfl rfl (kR rfl rfl SL.nil)))))) (BL.drop rfl (BL.drop rfl (BL.drop rfl (BL.drop rfl (BL.keep rfl (BL.keep rfl (BL.drop rfl (BL.keep rfl (BL.keep rfl BL.nil))))))))) (BK.cons rfl (bS rfl (bS rfl (bS rfl (bS rfl bZ)))) rfl rfl (BK.cons rfl (bS rfl (bS rfl (bS rfl (bS rfl (bS rfl bZ))))) rfl rfl (BK.cons rfl (bS rfl (bS rfl (bS rfl (bS rfl (bS rfl (bS rfl (bS rfl bZ))))))) rfl rfl (BK.cons rfl (bS rfl (bS rfl (bS rfl (bS rfl (bS rfl (bS rfl (bS rfl (bS rfl bZ)))))))) rfl rfl BK.nil)))) (GK.cons rfl GK.nil))⟩))))
      ·exact AW.condF eZ (nt h28) (AW.skip (TQ.qn ⟨(IntKind.wrap .i64 (1 + v22.1)), H, (wk_mkG [1024] (kR rfl rfl (kR rfl rfl (kR rfl rfl (kR rfl rfl (kR rfl rfl (kR rfl rfl SL.nil)))))) (BL.drop rfl (BL.drop rfl (BL.keep rfl (BL.keep rfl (BL.drop rfl (BL.keep rfl (BL.keep rfl BL.nil))))))) (BK.cons rfl (bS rfl (bS rfl bZ)) rfl rfl (BK.cons rfl (bS rfl (bS rfl (bS rfl bZ))) rfl rfl (BK.cons rfl (bS rfl (bS rfl (bS rfl (bS rfl (bS rfl bZ))))) rfl rfl (BK.cons rfl (bS rfl (bS rfl (bS rfl (bS rfl (bS rfl (bS rfl bZ)))))) rfl rfl BK.nil)))) (GK.cons rfl GK.nil))⟩))
    ·refine aS (AW.regm (rmOne (oMov (eR rfl) (xNil ?_))))
     obtain ⟨v31, h32, H⟩ := obind H
     refine rmCallIC (v0 := pv) (hg := by exact rfl) (ON := [1024]) (ls := []) (G := []) (E := [subKey 1024]) (MB := [(1024, (.vars 3 [(.d (.pin pv)), (dI v31.2.1), (dI v31.2.2)]))]) (u := (oB v31.1)) eC Cl.fn (c_spec_l1Once h32) (Evs.cons eZ (Evs.cons eC Evs.nil)) (AO.mut (VO.ptr (es := [(.pin pv), (.int .i64 v18.2.1), (.int .i64 v18.2.2)]) bZ rfl rfl rfl) (AO.lent VD.plain rfl AO.nil)) rfl rfl rfl (SZ.consP bZ rfl SZ.nil) (erL.cons (v' := (.one (.ptr (.nm 1024 0 0)))) rfl (erL.cons (v' := (oI (IntKind.wrap .i64 (1 + v18.1)))) rfl (erL.cons (v' := (oI (IntKind.wrap .i64 (1 + v18.1)))) rfl (erL.cons (v' := (oI v18.1)) rfl (erL.cons (v' := (.one (.ptr (.nm 1024 0 0)))) rfl (erL.cons (v' := (.one (.ptr (.nm 320 0 0)))) rfl (erL.cons (v' := (.one (.ptr (.nm 1024 0 0)))) rfl (erL.cons (v' := (.one (.sl 1280 0 v6.1.length))) rfl (erL.cons (v' := (.one (.sl 320192 0 t10.1.length))) rfl (erL.cons (v' := (.one (.ptr (.nm 768 0 0)))) rfl erL.nil)))))))))) (erH.cons (v' := (.vars 3 [(.d (.pin pv)), (dI v18.2.1), (dI v18.2.2)])) rfl rfl (erH.cons (v' := (.vars 2 [(dI 0), (dI 0)])) rfl rfl (erH.cons (v' := (.vars 2 [(dI t16.1), (dI t16.2.1)])) rfl rfl (erH.cons (v' := (.vars 3 [(.d (.pin pv)), (dI t16.2.2.1), (dI t16.2.2.2)])) rfl rfl (erH.cons (v' := (.data 4 (List.map d_TLock v6.1) true none)) rfl rfl (erH.cons (v' := (.data 1 (List.map d_i64 t10.1) true none)) rfl rfl erH.nil)))))) (erL.cons (v' := (.one (.d (.both pv (.sl 1 (List.map d_u8 cb1)))))) rfl erL.nil) rfl rfl (rmRest (xQ ?_))
     rcases oite H with ⟨h33, H⟩ | ⟨h33, H⟩
     ·refine AW.condT eZ h33 (AW.regm (rmOne (oMov (eR rfl) (xNil ?_))))
      obtain ⟨v34, h35, H⟩ := obind H
      exact rmCallIC (v0 := pv) (hg := by exact rfl) (ON := [1024]) (ls := []) (G := []) (E := [subKey 1024]) (MB := [(1024, (.vars 3 [(.d (.pin pv)), (dI v34.2.1), (dI v34.2.2)]))]) (u := (oI v34.1)) eC Cl.fn (c_spec_l1Below h35) (Evs.cons eZ (Evs.cons eC Evs.nil)) (AO.mut (VO.ptr (es := [(.pin pv), (.int .i64 v31.2.1), (.int .i64 v31.2.2)]) bZ rfl rfl rfl) (AO.lent VD.plain rfl AO.nil)) rfl rfl rfl (SZ.consP bZ rfl SZ.nil) (erL.cons (v' := (.one (.ptr (.nm 1024 0 0)))) rfl (erL.cons (v' := (oB v31.1)) rfl (erL.cons (v' := (.one (.ptr (.nm 1024 0 0)))) rfl (erL.cons (v' := (oI (IntKind.wrap .i64 (1 + v18.1)))) rfl (erL.cons (v' := (oI (IntKind.wrap .i64 (1 + v18.1)))) rfl (erL.cons (v' := (oI v18.1)) rfl (erL.cons (v' := (.one (.ptr (.nm 1024 0 0)))) rfl (erL.cons (v' := (.one (.ptr (.nm 320 0 0)))) rfl (erL.cons (v' := (.one (.ptr (.nm 1024 0 0)))) rfl (erL.cons (v' := (.one (.sl 1280 0 v6.1.length))) rfl (erL.cons (v' := (.one (.sl 320192 0 t10.1.length))) rfl (erL.cons (v' := (.one (.ptr (.nm 768 0 0)))) rfl erL.nil)))))))))))) (erH.cons (v' := (.vars 3 [(.d (.pin pv)), (dI v31.2.1), (dI v31.2.2)])) rfl rfl (erH.cons (v' := (.vars 3 [(.d (.pin pv)), (dI v18.2.1), (dI v18.2.2)])) rfl rfl (erH.cons (v' := (.vars 2 [(dI 0), (dI 0)])) rfl rfl (erH.cons (v' := (.vars 2 [(dI t16.1), (dI t16.2.1)])) rfl rfl (erH.cons (v' := (.vars 3 [(.d (.pin pv)), (dI t16.2.2.1), (dI t16.2.2.2)])) rfl rfl (erH.cons (v' := (.data 4 (List.map d_TLock v6.1) true none)) rfl rfl (erH.cons (v' := (.data 1 (List.map d_i64 t10.1) true none)) rfl rfl erH.nil))))))) (erL.cons (v' := (.one (.d (.both pv (.sl 1 (List.map d_u8 cb1)))))) rfl erL.nil) rfl rfl (rmRest (oMov eZ (xNil (TQ.qn ⟨(v34.1, v34.2.1, v34.2.2), H, (wk_mkG [] (kR rfl rfl (kR rfl rfl (kR rfl rfl (kR rfl rfl (kR rfl rfl (kR rfl rfl SL.nil)))))) (BL.keep rfl (BL.keep rfl (BL.keep rfl (BL.keep rfl (BL.keep rfl (BL.keep rfl (BL.keep rfl (BL.keep rfl BL.nil)))))))) (BK.cons rfl (bS rfl (bS rfl (bS rfl bZ))) rfl rfl (BK.cons rfl (bS rfl (bS rfl (bS rfl (bS rfl bZ)))) rfl rfl (BK.cons rfl bZ rfl rfl (BK.cons rfl (bS rfl (bS rfl (bS rfl (bS rfl (bS rfl (bS rfl bZ)))))) rfl rfl (BK.cons rfl (bS rfl (bS rfl (bS rfl (bS rfl (bS rfl (bS rfl (bS rfl bZ))))))) rfl rfl BK.nil))))) (GK.cons rfl GK.nil))⟩))))
     ·exact AW.condF eZ (nt h33) (AW.skip (TQ.qn ⟨((IntKind.wrap .i64 (1 + v18.1)), v31.2.1, v31.2.2), H, (wk_mkG [] (kR rfl rfl (kR rfl rfl (kR rfl rfl (kR rfl rfl (kR rfl rfl (kR rfl rfl SL.nil)))))) (BL.keep rfl (BL.keep rfl (BL.keep rfl (BL.keep rfl (BL.keep rfl (BL.keep rfl (BL.keep rfl BL.nil))))))) (BK.cons rfl (bS rfl (bS rfl bZ)) rfl rfl (BK.cons rfl (bS rfl (bS rfl (bS rfl bZ))) rfl rfl (BK.cons rfl bZ rfl rfl (BK.cons rfl (bS rfl (bS rfl (bS rfl (bS rfl (bS rfl bZ))))) rfl rfl (BK.cons rfl (bS rfl (bS rfl (bS rfl (bS rfl (bS rfl (bS rfl bZ)))))) rfl rfl BK.nil))))) (GK.cons rfl GK.nil))⟩))
   ·refine aS (AW.regm (rmOne (oMov (eR rfl) (xNil ?_))))
    obtain ⟨v36, h37, H⟩ := obind H
    refine rmCallIC (v0 := pv) (hg := by exact rfl) (ON := [1024]) (ls := []) (G := []) (E := [subKey 1024]) (MB := [(1024, (.vars 3 [(.d (.pin pv)), (dI v36.2.1), (dI v36.2.2)]))]) (u := (oB v36.1)) eC Cl.fn (c_spec_l1Once h37) (Evs.cons eZ (Evs.cons eC Evs.nil)) (AO.mut (VO.ptr (es := [(.pin pv), (.int .i64 v14.2.1), (.int .i64 v14.2.2)]) (bS rfl (bS rfl bZ)) rfl rfl rfl) (AO.lent VD.plain rfl AO.nil)) rfl rfl rfl (SZ.consP (bS rfl (bS rfl bZ)) rfl SZ.nil) (erL.cons (v' := (.one (.ptr (.nm 1024 0 0)))) rfl (erL.cons (v' := (.one (.ptr (.nm 768 0 0)))) rfl (erL.cons (v' := (.agg [(dI v12.1), (dI (IntKind.wrap .i64 ((IntKind.wrap .i64 (v12.1 + 1)) + v14.1)))])) rfl (erL.cons (v' := (oI (IntKind.wrap .i64 ((IntKind.wrap .i64 (v12.1 + 1)) + v14.1)))) rfl (erL.cons (v' := (oI v14.1)) rfl (erL.cons (v' := (.one (.ptr (.nm 1024 0 0)))) rfl (erL.cons (v' := (oI (IntKind.wrap .i64 (v12.1 + 1)))) rfl (erL.cons (v' := (oI v12.1)) rfl (erL.cons (v' := (oI v12.1)) rfl (erL.cons (v' := (oI v12.1)) rfl (erL.cons (v' := (oI v12.1)) rfl (erL.cons (v' := (.one (.ptr (.nm 1024 0 0)))) rfl (erL.cons (v' := (.one (.ptr (.nm 320 0 0)))) rfl (erL.cons (v' := (.one (.ptr (.nm 1024 0 0)))) rfl (erL.cons (v' := (.one (.sl 1280 0 v6.1.length))) rfl (erL.cons (v' := (.one (.sl 320192 0 t10.1.length))) rfl erL.nil)))))))))))))))) (erH.cons (v' := (.vars 2 [(dI v12.1), (dI (IntKind.wrap .i64 ((IntKind.wrap .i64 (v12.1 + 1)) + v14.1)))])) rfl rfl (erH.cons (v' := (.vars 2 [(dI 0), (dI 0)])) rfl rfl (erH.cons (v' := (.vars 3 [(.d (.pin pv)), (dI v14.2.1), (dI v14.2.2)])) rfl rfl (erH.cons (v' := (.vars 3 [(.d (.pin pv)), (dI v12.2.1), (dI v12.2.2)])) rfl rfl (erH.cons (v' := (.data 1 (List.map d_i64 t10.1) true none)) rfl rfl (erH.cons (v' := (.vars 2 [(dI 0), (dI 0)])) rfl rfl (erH.cons (v' := (.vars 3 [(.d (.pin pv)), (dI t10.2.1), (dI t10.2.2)])) rfl rfl (erH.cons (v' := (.data 4 (List.map d_TLock v6.1) true none)) rfl rfl erH.nil)))))))) (erL.cons (v' := (.one (.d (.both pv (.sl 1 (List.map d_u8 cb1)))))) rfl erL.nil) rfl rfl (rmRest (xQ (AW.weaken (wk_mkG [] (kr 48 rfl rfl (kr 12 rfl rfl (kr 5 rfl rfl (kr 7 rfl rfl (kr 8 rfl rfl (kr 9 rfl rfl SL.nil)))))) (BL.keep rfl (BL.keep rfl (BL.keep rfl (BL.keep rfl (BL.keep rfl (BL.keep rfl (BL.keep rfl (BL.keep rfl (BL.keep rfl BL.nil))))))))) (BK.cons (n := 1024) rfl bZ rfl rfl (BK.cons (n := 768) rfl (bS rfl bZ) rfl rfl (BK.cons (n := 320192) rfl (bS rfl (bS rfl (bS rfl (bS rfl (bS rfl bZ))))) rfl rfl (BK.cons (n := 320) rfl (bS rfl (bS rfl (bS rfl (bS rfl (bS rfl (bS rfl bZ)))))) rfl rfl (BK.cons (n := 1280) rfl (bS rfl (bS rfl (bS rfl (bS rfl (bS rfl (bS rfl (bS rfl (bS rfl bZ)))))))) rfl rfl BK.nil))))) (GK.cons rfl GK.nil)) ?_)))
    rcases oite H with ⟨h38, H⟩ | ⟨h38, H⟩
    ·refine AW.condT eZ h38 (AW.regm (rmOne (oMov (eR rfl) (xNil ?_))))
     obtain ⟨v39, h40, H⟩ := obind H
     exact rmCallIC (v0 := pv) (hg := by exact rfl) (ON := [1024]) (ls := []) (G := []) (E := [subKey 1024]) (MB := [(1024, (.vars 3 [(.d (.pin pv)), (dI v39.2.1), (dI v39.2.2)]))]) (u := (.agg [(dI v39.1.Lo), (dI v39.1.Hi)])) eC Cl.fn (c_spec_l10DrawRange h40) (Evs.cons eZ Evs.nil) (AO.mut (VO.ptr (es := [(.pin pv), (.int .i64 v36.2.1), (.int .i64 v36.2.2)]) bZ rfl rfl rfl) AO.nil) rfl rfl rfl (SZ.consP bZ rfl SZ.nil) (erL.cons (v' := (.one (.ptr (.nm 1024 0 0)))) rfl (erL.cons (v' := (oB v36.1)) rfl (erL.cons (v' := (.one (.ptr (.nm 768 0 0)))) rfl (erL.cons (v' := (.one (.ptr (.nm 320 0 0)))) rfl (erL.cons (v' := (.one (.ptr (.nm 1024 0 0)))) rfl (erL.cons (v' := (.one (.sl 1280 0 v6.1.length))) rfl (erL.cons (v' := (.one (.sl 320192 0 t10.1.length))) rfl erL.nil))))))) (erH.cons (v' := (.vars 3 [(.d (.pin pv)), (dI v36.2.1), (dI v36.2.2)])) rfl rfl (erH.cons (v' := (.vars 2 [(dI v12.1), (dI (IntKind.wrap .i64 ((IntKind.wrap .i64 (v12.1 + 1)) + v14.1)))])) rfl rfl (erH.cons (v' := (.data 1 (List.map d_i64 t10.1) true none)) rfl rfl (erH.cons (v' := (.vars 2 [(dI 0), (dI 0)])) rfl rfl (erH.cons (v' := (.data 4 (List.map d_TLock v6.1) true none)) rfl rfl erH.nil))))) (erL.cons (v' := (.one (.d (.both pv (.sl 1 (List.map d_u8 cb1)))))) rfl erL.nil) rfl rfl (rmRest (oStoreV (es := [(dI v39.1.Lo), (dI v39.1.Hi)]) (eR rfl) eZ rfl rfl (bS rfl (bS rfl bZ)) rfl (xNil (TQ.qn ⟨(v39.1.Lo, v39.1.Hi, v39.2.1, v39.2.2), H, (wk_mkG [] (kR rfl rfl (kR rfl rfl (kR rfl rfl (kR rfl rfl (kR rfl rfl SL.nil))))) (BL.keep rfl (BL.keep rfl (BL.keep rfl (BL.keep rfl (BL.keep rfl (BL.keep rfl (BL.keep rfl BL.nil))))))) (BK.cons rfl (bS rfl (bS rfl (bS rfl (bS rfl (bS rfl bZ))))) rfl rfl (BK.cons rfl bZ rfl rfl (BK.cons rfl (bS rfl bZ) rfl rfl (BK.cons rfl (bS rfl (bS rfl (bS rfl (bS rfl (bS rfl (bS rfl bZ)))))) rfl rfl (BK.cons rfl (bS rfl (bS rfl (bS rfl (bS rfl bZ)))) rfl rfl BK.nil))))) (GK.cons rfl GK.nil))⟩))))
    ·exact AW.condF eZ (nt h38) (AW.skip (TQ.qn ⟨(v12.1, (IntKind.wrap .i64 ((IntKind.wrap .i64 (v12.1 + 1)) + v14.1)), v36.2.1, v36.2.2), H, (wk_mkG [] (kR rfl rfl (kR rfl rfl (kR rfl rfl (kR rfl rfl (kR rfl rfl SL.nil))))) (BL.keep rfl (BL.keep rfl (BL.keep rfl (BL.keep rfl (BL.keep rfl BL.nil))))) (BK.cons rfl (bS rfl (bS rfl (bS rfl bZ))) rfl rfl (BK.cons rfl (bS rfl bZ) rfl rfl (BK.cons rfl bZ rfl rfl (BK.cons rfl (bS rfl (bS rfl (bS rfl (bS rfl bZ)))) rfl rfl (BK.cons rfl (bS rfl (bS rfl bZ)) rfl rfl BK.nil))))) (GK.cons rfl GK.nil))⟩))
  ·refine aS (AW.regm (rmOne (oMov (eR rfl) (xNil ?_))))
   obtain ⟨v41, h42, H⟩ := obind H
   refine rmCallIC (v0 := pv) (hg := by exact rfl) (ON := [1024]) (ls := []) (G := []) (E := [subKey 1024]) (MB := [(1024, (.vars 3 [(.d (.pin pv)), (dI v41.2.1), (dI v41.2.2)]))]) (u := (oB v41.1)) eC Cl.fn (c_spec_l1Once h42) (Evs.cons eZ (Evs.cons eC Evs.nil)) (AO.mut (VO.ptr (es := [(.pin pv), (.int .i64 t8.2.1), (.int .i64 t8.2.2)]) (bS rfl (bS rfl bZ)) rfl rfl rfl) (AO.lent VD.plain rfl AO.nil)) rfl rfl rfl (SZ.consP (bS rfl (bS rfl bZ)) rfl SZ.nil) (erL.cons (v' := (.one (.ptr (.nm 1024 0 0)))) rfl (erL.cons (v' := (.one (.ptr (.nm 320 0 0)))) rfl (erL.cons (v' := (.one (.ptr (.nm 1024 0 0)))) rfl (erL.cons (v' := (.one (.sl 1280 0 v6.1.length))) rfl (erL.cons (v' := (.one (.sl 320128 0 t8.1.length))) rfl erL.nil))))) (erH.cons (v' := (.data 1 (List.map d_i64 t8.1) true none)) rfl rfl (erH.cons (v' := (.vars 2 [(dI 0), (dI 0)])) rfl rfl (erH.cons (v' := (.vars 3 [(.d (.pin pv)), (dI t8.2.1), (dI t8.2.2)])) rfl rfl (erH.cons (v' := (.data 4 (List.map d_TLock v6.1) true none)) rfl rfl erH.nil)))) (erL.cons (v' := (.one (.d (.both pv (.sl 1 (List.map d_u8 cb1)))))) rfl erL.nil) rfl rfl (rmRest (xQ ?_))
   rcases oite H with ⟨h43, H⟩ | ⟨h43, H⟩
   ·refine AW.condT eZ h43 (AW.regm (rmOne (oMov (eR rfl) (xNil ?_))))
    obtain ⟨v44, h45, H⟩ := obind H
    refine rmCallIC (v0 := pv) (hg := by exact rfl) (ON := [1024]) (ls := []) (G := []) (E := [subKey 1024]) (MB := [(1024, (.vars 3 [(.d (.pin pv)), (dI v44.2.1), (dI v44.2.2)]))]) (u := (oI v44.1)) eC Cl.fn (c_spec_l1Below h45) (Evs.cons eZ (Evs.cons eC Evs.nil)) (AO.mut (VO.ptr (es := [(.pin pv), (.int .i64 v41.2.1), (.int .i64 v41.2.2)]) bZ rfl rfl rfl) (AO.lent VD.plain rfl AO.nil)) rfl rfl rfl (SZ.consP bZ rfl SZ.nil) (erL.cons (v' := (.one (.ptr (.nm 1024 0 0)))) rfl (erL.cons (v' := (oB v41.1)) rfl (erL.cons (v' := (.one (.ptr (.nm 1024 0 0)))) rfl (erL.cons (v' := (.one (.ptr (.nm 320 0 0)))) rfl (erL.cons (v' := (.one (.ptr (.nm 1024 0 0)))) rfl (erL.cons (v' := (.one (.sl 1280 0 v6.1.length))) rfl (erL.cons (v' := (.one (.sl 320128 0 t8.1.length))) rfl erL.nil))))))) (erH.cons (v' := (.vars 3 [(.d (.pin pv)), (dI v41.2.1), (dI v41.2.2)])) rfl rfl (erH.cons (v' := (.data 1 (List.map d_i64 t8.1) true none)) rfl rfl (erH.cons (v' := (.vars 2 [(dI 0), (dI 0)])) rfl rfl (erH.cons (v' := (.vars 3 [(.d (.pin pv)), (dI t8.2.1), (dI t8.2.2)])) rfl rfl (erH.cons (v' := (.data 4 (List.map d_TLock v6.1) true none)) rfl rfl erH.nil))))) (erL.cons (v' := (.one (.d (.both pv (.sl 1 (List.map d_u8 cb1)))))) rfl erL.nil) rfl rfl (rmRest (oAdd eC eZ ?_))
    obtain ⟨h46, H⟩ := oguard H
    exact oMksl (f := d_i64) (zv := 0) (own := true) (m := 2368) (q := (Int.toNat (IntKind.wrap .i64 (60 + v44.1)))) rfl rfl eZ eZ h46.1 h46.2 rfl (by decide) rfl (nS rfl (nS rfl (nS rfl (nS rfl (nS rfl (nS rfl nZ)))))) (oMov eZ (xNil (TQ.qn ⟨((List.replicate (Int.toNat (IntKind.wrap .i64 (60 + v44.1))) 0), v44.2.1, v44.2.2), H, ((wk_mkG [320128] (kR rfl rfl (kR rfl rfl (kR rfl rfl (SL.cons eZ rfl (VWk.one (CWk.len (by first | (simp; done) | (simp; omega) | omega | (simp only [List.length_map]; omega)))) SL.nil)))) (BL.keep rfl (BL.keep rfl (BL.keep rfl (BL.drop rfl (BL.keep rfl (BL.keep rfl (BL.keep rfl BL.nil))))))) (BK.cons rfl bZ rfl rfl (BK.cons rfl (bS rfl (bS rfl (bS rfl (bS rfl bZ)))) rfl rfl (BK.cons rfl (bS rfl bZ) rfl rfl (BK.cons rfl (bS rfl (bS rfl (bS rfl (bS rfl (bS rfl (bS rfl bZ)))))) rfl rfl BK.nil)))) (GK.cons rfl GK.nil)).trans (wk_renG 2368 320192 rfl rfl (nS rfl (nS rfl (nS rfl (nS rfl (nS rfl (nS rfl (nS rfl nZ))))))) (GR.cons rfl GR.nil)))⟩)))
   ·exact AW.condF eZ (nt h43) (AW.skip (TQ.qn ⟨(t8.1, v41.2.1, v41.2.2), H, ((wk_mkG [] (kR rfl rfl (kR rfl rfl (kR rfl rfl (kR rfl rfl SL.nil)))) (BL.keep rfl (BL.keep rfl (BL.keep rfl (BL.keep rfl (BL.keep rfl BL.nil))))) (BK.cons rfl (bS rfl bZ) rfl rfl (BK.cons rfl (bS rfl (bS rfl bZ)) rfl rfl (BK.cons rfl bZ rfl rfl (BK.cons rfl (bS rfl (bS rfl (bS rfl (bS rfl bZ)))) rfl rfl BK.nil)))) (GK.cons rfl GK.nil)).trans (wk_renG 320128 320192 rfl rfl (nS rfl (nS rfl (nS rfl (nS rfl (nS rfl nZ))))) (GR.cons rfl GR.nil)))⟩))
 ·refine aV (oMov eC (xQ (AW.block (AW.iter (fun s47 : ((List Int) × Int × Int × Int) => mk [(5, (.one (.ptr (.nm 320 0 0)))), (7, (.one (.ptr (.nm 1024 0 0)))), (8, (.one (.sl 1280 0 v6.1.length))), (9, (.one (.sl 320256 0 s47.1.length))), (10, (oI s47.2.1))] [(320256, (.data 1 (List.map d_i64 s47.1) true none)), (320, (.vars 2 [(dI 0), (dI 0)])), (1024, (.vars 3 [(.d (.pin pv)), (dI s47.2.2.1), (dI s47.2.2.2)])), (1280, (.data 4 (List.map d_TLock v6.1) true none))] (lk [(63, (.one (.d (.both pv (.sl 1 (List.map d_u8 cb1))))))])) H ((wk_mkG [] (kR rfl rfl (kR rfl rfl (kR rfl rfl (SL.cons eZ rfl (VWk.one (CWk.len (by first | (simp; done) | (simp; omega) | omega | (simp only [List.length_map]; omega)))) (kR rfl rfl SL.nil))))) (BL.keep rfl (BL.keep rfl (BL.keep rfl (BL.keep rfl BL.nil)))) (BK.cons rfl bZ rfl rfl (BK.cons rfl (bS rfl (bS rfl (bS rfl bZ))) rfl rfl (BK.cons rfl (bS rfl (bS rfl bZ)) rfl rfl (BK.cons rfl (bS rfl bZ) rfl rfl BK.nil)))) (GK.cons rfl GK.nil)).trans (wk_zs0 320256 1 9 true (eR rfl) (nS rfl (nS rfl (nS rfl nZ))))) ?_))))
  intro kb48 s47 H
  unfold spec_l12DrawAsk_b47 at H
  refine aS (aV (oMov (eR rfl) (oLss eZ eC (xQ ?_))))
  rcases oite H with ⟨h49, H⟩ | ⟨h49, H⟩
  ·refine AW.condT eZ (dT h49) (AW.skip (TQ.qn (aS (AW.block (aS (AW.regm (rmOne (oMov (eR rfl) (xNil ?_)))))))))
   obtain ⟨v50, h51, H⟩ := obind H
   refine rmCallIC (v0 := pv) (hg := by exact rfl) (ON := [1024]) (ls := []) (G := []) (E := [subKey 1024]) (MB := [(1024, (.vars 3 [(.d (.pin pv)), (dI v50.2.1), (dI v50.2.2)]))]) (u := (oB v50.1)) eC Cl.fn (c_spec_l1Once h51) (Evs.cons eZ (Evs.cons eC Evs.nil)) (AO.mut (VO.ptr (es := [(.pin pv), (.int .i64 s47.2.2.1), (.int .i64 s47.2.2.2)]) (bS rfl (bS rfl bZ)) rfl rfl rfl) (AO.lent VD.plain rfl AO.nil)) rfl rfl rfl (SZ.consP (bS rfl (bS rfl bZ)) rfl SZ.nil) (erL.cons (v' := (.one (.ptr (.nm 1024 0 0)))) rfl (erL.cons (v' := (oB (decide (s47.2.1 < 9)))) rfl (erL.cons (v' := (oI s47.2.1)) rfl (erL.cons (v' := (.one (.ptr (.nm 320 0 0)))) rfl (erL.cons (v' := (.one (.ptr (.nm 1024 0 0)))) rfl (erL.cons (v' := (.one (.sl 1280 0 v6.1.length))) rfl (erL.cons (v' := (.one (.sl 320256 0 s47.1.length))) rfl (erL.cons (v' := (oI s47.2.1)) rfl erL.nil)))))))) (erH.cons (v' := (.data 1 (List.map d_i64 s47.1) true none)) rfl rfl (erH.cons (v' := (.vars 2 [(dI 0), (dI 0)])) rfl rfl (erH.cons (v' := (.vars 3 [(.d (.pin pv)), (dI s47.2.2.1), (dI s47.2.2.2)])) rfl rfl (erH.cons (v' := (.data 4 (List.map d_TLock v6.1) true none)) rfl rfl erH.nil)))) (erL.cons (v' := (.one (.d (.both pv (.sl 1 (List.map d_u8 cb1)))))) rfl erL.nil) rfl rfl (rmRest (xQ ?_))
   rcases oite H with ⟨h52, H⟩ | ⟨h52, H⟩
   ·refine AW.condT eZ h52 (aR (oMov (eR rfl) (oMov (eR rfl) (oBslice (m := 1920) (q := 1) (cs := [(dI s47.2.1)]) rfl (PsCons eZ PsNil) rfl (List.cons_ne_nil _ _) (by simp) (nS rfl (nS rfl (nS rfl (nS rfl (nS rfl nZ))))) ?_))))
    obtain ⟨h53, H⟩ := oguard H
    exact oAppNG (f := d_i64) (xs := s47.1) (ys := [s47.2.1]) (q := (s47.1 ++ ([s47.2.1])).length) (eR rfl) eZ (bS rfl (bS rfl bZ)) rfl (El.one (f := d_i64) (t := s47.2.1) (es := [(.int .i64 s47.2.1)]) bZ rfl rfl rfl) rfl h53 (by decide) (by decide) (erL.cons (v' := (.one (.sl 1920 0 1))) rfl (erL.cons (v' := (oI s47.2.1)) rfl (erL.cons (v' := (.one .any)) rfl (erL.cons (v' := (oB v50.1)) rfl (erL.cons (v' := (.one (.ptr (.nm 1024 0 0)))) rfl (erL.cons (v' := (oB (decide (s47.2.1 < 9)))) rfl (erL.cons (v' := (oI s47.2.1)) rfl (erL.cons (v' := (.one (.ptr (.nm 320 0 0)))) rfl (erL.cons (v' := (.one (.ptr (.nm 1024 0 0)))) rfl (erL.cons (v' := (.one (.sl 1280 0 v6.1.length))) rfl (erL.cons (v' := (.one .any)) rfl (erL.cons (v' := (oI s47.2.1)) rfl erL.nil)))))))))))) (erH.cons (v' := (.vars 1 [(dI s47.2.1)])) rfl rfl (erH.cons (v' := (.vars 3 [(.d (.pin pv)), (dI v50.2.1), (dI v50.2.2)])) rfl rfl (erH.drop rfl (erH.cons (v' := (.vars 2 [(dI 0), (dI 0)])) rfl rfl (erH.cons (v' := (.vars 3 [(.d (.pin pv)), (dI s47.2.2.1), (dI s47.2.2.2)])) rfl rfl (erH.cons (v' := (.data 4 (List.map d_TLock v6.1) true none)) rfl rfl erH.nil)))))) (GK.cons rfl GK.nil) (oMov eZ (xNil (BQ.qn (TQ.qn (aR (oMov (eR rfl) (oAdd eZ eC (oMov eZ (xNil (TQ.qn ⟨((s47.1 ++ ([s47.2.1])), (IntKind.wrap .i64 (s47.2.1 + 1)), v50.2.1, v50.2.2), H, (wk_mkG [1920] (kR rfl rfl (kR rfl rfl (kR rfl rfl (kR rfl rfl (kR rfl rfl SL.nil))))) (BL.keep rfl (BL.drop rfl (BL.keep rfl (BL.keep rfl (BL.keep rfl (BL.keep rfl BL.nil)))))) (BK.cons rfl bZ rfl rfl (BK.cons rfl (bS rfl (bS rfl (bS rfl bZ))) rfl rfl (BK.cons rfl (bS rfl (bS rfl bZ)) rfl rfl (BK.cons rfl (bS rfl (bS rfl (bS rfl (bS rfl (bS rfl bZ))))) rfl rfl BK.nil)))) (GK.cons rfl GK.nil))⟩))))))))))
   ·exact AW.condF eZ (nt h52) (AW.skip (BQ.qn (TQ.qn (aR (oMov (eR rfl) (oAdd eZ eC (oMov eZ (xNil (TQ.qn ⟨(s47.1, (IntKind.wrap .i64 (s47.2.1 + 1)), v50.2.1, v50.2.2), H, (wk_mkG [] (kR rfl rfl (kR rfl rfl (kR rfl rfl (kR rfl rfl (kR rfl rfl SL.nil))))) (BL.keep rfl (BL.keep rfl (BL.keep rfl (BL.keep rfl (BL.keep rfl BL.nil))))) (BK.cons rfl (bS rfl bZ) rfl rfl (BK.cons rfl (bS rfl (bS rfl bZ)) rfl rfl (BK.cons rfl bZ rfl rfl (BK.cons rfl (bS rfl (bS rfl (bS rfl (bS rfl bZ)))) rfl rfl BK.nil)))) (GK.cons rfl GK.nil))⟩)))))))))
  ·exact AW.condF eZ (dF h49) (AW.exit (TQ.qe (TQ.qe (BQ.qe (TQ.qn ⟨(s47.1, s47.2.2.1, s47.2.2.2), H, ((wk_mkG [] (kR rfl rfl (kR rfl rfl (kR rfl rfl (kR rfl rfl SL.nil)))) (BL.keep rfl (BL.keep rfl (BL.keep rfl (BL.keep rfl BL.nil)))) (BK.cons rfl bZ rfl rfl (BK.cons rfl (bS rfl bZ) rfl rfl (BK.cons rfl (bS rfl (bS rfl bZ)) rfl rfl (BK.cons rfl (bS rfl (bS rfl (bS rfl bZ))) rfl rfl BK.nil)))) (GK.cons rfl GK.nil)).trans (wk_renG 320256 320128 rfl rfl (nS rfl (nS rfl (nS rfl (nS rfl nZ)))) (GR.cons rfl GR.nil)))⟩)))))
theorem c0_spec_DrawLocksWaits {pv : Value} {cb1 : (List Int)} {r : ((List TLock) × (List Int) × Int × TRange × Int)} (H : m_spec_DrawLocksWaits cb1 = some r) : FnC Try.prog pv (.sl 1 (List.map d_u8 cb1)) 33 [⟨(.pin pv), .b⟩] [(.sl 4 (List.map d_TLock r.1)), (.sl 1 (List.map d_i64 r.2.1)), (.int .i64 r.2.2.1), (.agg (d_TRange r.2.2.2.1)), (.int .i64 r.2.2.2.2)] := by
 refine n33 (fle rfl) (fle rfl) trivial rfl ?_
 rw [initC_mk]
 refine AW.weaken (t := mk [(0, (.one (.d (.pin pv))))] [] (lk [(63, (.one (.d (.both pv (.sl 1 (List.map d_u8 cb1))))))])) (wk_mkG (gl := [(63, (.one (.d (.both pv (.sl 1 (List.map d_u8 cb1))))))]) [] (kv 0 (.one (.d (.pin pv))) rfl rfl SL.nil) BL.nil BK.nil (GK.cons rfl GK.nil)) ?_
 unfold m_spec_DrawLocksWaits at H
 unfold i33
 refine aV (oMov eC (oMov eC (oMov eC (oVar (n := 320) (m := 2) rfl rfl nZ (oMov eC (xQ (aS (AW.regm (rmOne (oMov (eR rfl) (xNil ?_)))))))))))
 obtain ⟨v2, h3, H⟩ := obind H
 refine rmCallC (v0 := pv) (hg := by exact rfl) (ON := []) (ls := []) (G := []) (E := []) (MB := []) (u := (.tup [(.one (.sl 896 0 v2.1.length)), (.one (.sl 912 0 v2.2.1.length)), (oI v2.2.2.1), (.agg [(dI v2.2.2.2.1.Lo), (dI v2.2.2.2.1.Hi)]), (oI v2.2.2.2.2)])) (bs := [(896, (.data 4 (List.map d_TLock v2.1) true none)), (912, (.data 1 (List.map d_i64 v2.2.1) true none))]) eC Cl.fn (c_spec_l12DrawAsk h3) (Evs.cons eZ Evs.nil) (AO.lent VD.plain rfl AO.nil) rfl rfl rfl SZ.nil (erL.cons (v' := (.one (.d (.pin pv)))) rfl (erL.cons (v' := (oI 0)) rfl (erL.cons (v' := (.one (.ptr (.nm 320 0 0)))) rfl (erL.cons (v' := (oI 0)) rfl (erL.cons (v' := (.one .zs)) rfl (erL.cons (v' := (.one .zs)) rfl (erL.cons (v' := (.one (.d (.pin pv)))) rfl erL.nil))))))) (erH.cons (v' := (.vars 2 [(dI 0), (dI 0)])) rfl rfl erH.nil) (erL.cons (v' := (.one (.d (.both pv (.sl 1 (List.map d_u8 cb1)))))) rfl erL.nil) (by simp [bindR, bindV, bindVs, bindC, bindCs]) rfl (fC (nS rfl nZ) rfl (fC (nS rfl nZ) rfl (fC (nS rfl nZ) rfl fN))) (rmRest (oMov eZ (oExt (v := (.one (.sl 896 0 v2.1.length))) eZ rfl (oExt (v := (.one (.sl 912 0 v2.2.1.length))) (eR rfl) rfl (oExt (v := (oI v2.2.2.1)) (eR rfl) rfl (oExt (v := (.agg [(dI v2.2.2.2.1.Lo), (dI v2.2.2.2.1.Hi)])) (eR rfl) rfl (oExt (v := (oI v2.2.2.2.2)) (eR rfl) rfl (oVar (n := 640) (m := 2) rfl rfl (nS rfl (nS rfl (nS rfl nZ))) (oMov (eR rfl) (oMov (eR rfl) (oMov (eR rfl) (oStoreV (es := [(dI v2.2.2.2.1.Lo), (dI v2.2.2.2.1.Hi)]) (eR rfl) (eR rfl) rfl rfl bZ rfl (oMov (eR rfl) (xQ (AW.weaken (wk_mkG [] (kr 11 rfl rfl (kr 9 rfl rfl (kr 8 rfl rfl (kr 7 rfl rfl (kr 10 rfl rfl (kr 5 rfl rfl SL.nil)))))) (BL.keep rfl (BL.keep rfl (BL.keep rfl (BL.keep rfl (BL.keep rfl BL.nil))))) (BK.cons (n := 640) rfl bZ rfl rfl (BK.cons (n := 912) rfl (bS rfl (bS rfl bZ)) rfl rfl (BK.cons (n := 896) rfl (bS rfl (bS rfl (bS rfl bZ))) rfl rfl (BK.cons (n := 320) rfl (bS rfl (bS rfl (bS rfl (bS rfl bZ)))) rfl rfl BK.nil)))) (GK.cons rfl GK.nil)) (aS (AW.regd (oMov (eR rfl) (oMov (eR rfl) (oMov (eR rfl) (oLoadVA (es := [(dI v2.2.2.2.1.Lo), (dI v2.2.2.2.1.Hi)]) (eR rfl) bZ rfl (oMov (eR rfl) (oMov (eR rfl) (oMov (eR rfl) (oMov (eR rfl) (oStoreV (es := [(dI v2.2.2.2.1.Lo), (dI v2.2.2.2.1.Hi)]) (eR rfl) (eR rfl) rfl rfl (bS rfl (bS rfl (bS rfl bZ))) rfl (oMov (eR rfl) (xQ (AW.ret ?_)))))))))))))))))))))))))))))
 cases H
 exact endsRM (RL.cons (RV.tmp (eR rfl)) (VO.sl (bS rfl (bS rfl (bS rfl bZ))) (List.length_map _) (allFlat fun _ => rfl)) (RL.cons (RV.tmp (eR rfl)) (VO.sl (bS rfl (bS rfl bZ)) (List.length_map _) (allFlat fun _ => rfl)) (RL.cons (RV.tmp (eR rfl)) (VO.flat rfl) (RL.cons (RV.cellA (es := [(dI v2.2.2.2.1.Lo), (dI v2.2.2.2.1.Hi)]) (eR rfl) bZ rfl) (VO.agg (ds := [(.int .i64 v2.2.2.2.1.Lo), (.int .i64 v2.2.2.2.1.Hi)]) rfl rfl) (RL.cons (RV.tmp eZ) (VO.flat rfl) RL.nil))))) (ML.lent ML.nil) (by decide)
theorem c_spec_DrawLocksWaits {cb1 : (List Int)} {r : ((List TLock) × (List Int) × Int × TRange × Int)} (H : m_spec_DrawLocksWaits cb1 = some r) : Fn Try.prog 33 (lent [(.sl 1 (List.map d_u8 cb1))]) true [(.sl 4 (List.map d_TLock r.1)), (.sl 1 (List.map d_i64 r.2.1)), (.int .i64 r.2.2.1), (.agg (d_TRange r.2.2.2.1)), (.int .i64 r.2.2.2.2)] :=
 FnC.fn fun pv => c0_spec_DrawLocksWaits (pv := pv) H
theorem c_impl_from {a1 : Int} {a2 : Int} {a3 : Int} {r : Bool} (H : m_impl_from a1 a2 a3 = some r) : Fn Try.prog 45 (lent [(.int .i64 a1), (.int .i64 a2), (.int .i64 a3)]) true [(.bool r)] := by
 refine f45 (fle rfl) ?_
 rw [init_mk]
 refine AW.weaken (wk_mk [] (kv 0 (oI a1) rfl rfl (kv 1 (oI a2) rfl rfl (kv 2 (oI a3) rfl rfl SL.nil))) BL.nil BK.nil) ?_
 unfold m_impl_from at H
 unfold i45
 refine aV (oMov eC (xQ (aV (oMov (eR rfl) (oMov (eR rfl) (oGeq (eR rfl) eZ (oMov eZ ?_)))))))
 rcases oite H with ⟨h4, H⟩ | ⟨h4, H⟩
 ·refine gDo eZ (dT h4) (oMov (eR rfl) (gDo (eR rfl) (dT h4) (oMov (eR rfl) (gDo (eR rfl) (dT h4) (oLeq (eR rfl) eZ (oPickT (eR rfl) (dT h4) eZ (oMov eZ (xQ (AW.ret ?_)))))))))
  cases H
  exact eE rfl rfl
 ·refine gSkip eZ (dF h4) rfl (gSkip (eR rfl) (dF h4) rfl (gSkip (eR rfl) (dF h4) rfl (oPickF (eR rfl) (dF h4) eC (oMov eZ (xQ (AW.ret ?_))))))
  cases H
  exact eE rfl rfl
theorem c_impl_isTx {a1 : Int} {r : Bool} (H : m_impl_isTx a1 = some r) : Fn Try.prog 59 (lent [(.int .i64 a1)]) true [(.bool r)] := by
 refine f59 (fle rfl) ?_
 rw [init_mk]
 refine AW.weaken (wk_mk [] (kv 0 (oI a1) rfl rfl SL.nil) BL.nil BK.nil) ?_
 unfold m_impl_isTx at H
 unfold i59
 refine aV (oMov eC (xQ (aV (oMov (eR rfl) ?_))))
 obtain ⟨v2, h3, H⟩ := obind H
 refine oCall (u := (oB v2)) eC Cl.fn (c_impl_from h3) (Evs.cons eZ (Evs.cons eC (Evs.cons eC Evs.nil))) (VDs.cons VD.plain (VDs.cons VD.plain (VDs.cons VD.plain VDs.nil))) rfl (oMov eZ (xQ (AW.ret ?_)))
 cases H
 exact eE rfl rfl
theorem c_impl_Lock_keys {a1 : TLock} {r : TRange} (H : m_impl_Lock_keys a1 = some r) : Fn Try.prog 71 (lent [(.agg (d_TLock a1))]) true [(.agg (d_TRange r))] := by
 refine f71 (fle rfl) ?_
 rw [init_mk]
 refine AW.weaken (wk_mk [] (kv 0 (.agg [(dI a1.Tx), (dI a1.Lo), (dI a1.Hi), (dI a1.Mode)]) rfl rfl SL.nil) BL.nil BK.nil) ?_
 unfold m_impl_Lock_keys at H
 unfold i71
 refine aV (oBox (n := 64) (m := 4) (cs := [(dI a1.Tx), (dI a1.Lo), (dI a1.Hi), (dI a1.Mode)]) rfl eZ rfl rfl nZ (oVar (n := 128) (m := 2) rfl rfl (nS rfl nZ) (xQ (aV (oFaddrN (m := 1) (eR rfl) rfl (oLoadV (q := 1) (c := (dI a1.Lo)) eZ (bS rfl bZ) rfl rfl (oFaddrN (m := 2) (eR rfl) rfl (oLoadV (q := 2) (c := (dI a1.Hi)) eZ (bS rfl bZ) rfl rfl (oBuild (cs := [(dI a1.Lo), (dI a1.Hi)]) (PsCons (eR rfl) (PsCons eZ PsNil)) rfl (oStoreV (es := [(dI a1.Lo), (dI a1.Hi)]) (eR rfl) eZ rfl rfl bZ rfl (xQ (AW.ret ?_))))))))))))
 cases H
 exact endsR (RL.cons (RV.cellA (es := [(dI a1.Lo), (dI a1.Hi)]) (eR rfl) bZ rfl) (VO.agg (ds := [(.int .i64 a1.Lo), (.int .i64 a1.Hi)]) rfl rfl) RL.nil) List.nodup_nil
theorem c_impl_RangeOk {a1 : TRange} {r : Bool} (H : m_impl_RangeOk a1 = some r) : Fn Try.prog 60 (lent [(.agg (d_TRange a1))]) true [(.bool r)] := by
 refine f60 (fle rfl) ?_
 rw [init_mk]
 refine AW.weaken (wk_mk [] (kv 0 (.agg [(dI a1.Lo), (dI a1.Hi)]) rfl rfl SL.nil) BL.nil BK.nil) ?_
 unfold m_impl_RangeOk at H
 unfold i60
 refine aV (oBox (n := 64) (m := 2) (cs := [(dI a1.Lo), (dI a1.Hi)]) rfl eZ rfl rfl nZ (oMov eC (xQ (aV (oFaddrN (m := 0) (eR rfl) rfl (oLoadV (q := 0) (c := (dI a1.Lo)) eZ bZ rfl rfl (oGeq eZ eC (oMov eZ ?_))))))))
 rcases oite H with ⟨h2, H⟩ | ⟨h2, H⟩
 ·refine gDo eZ (dT h2) (oFaddrN (m := 0) (eR rfl) rfl (gDo (eR rfl) (dT h2) (oLoadV (q := 0) (c := (dI a1.Lo)) eZ bZ rfl rfl (gDo (eR rfl) (dT h2) (oFaddrN (m := 1) (eR rfl) rfl (gDo (eR rfl) (dT h2) (oLoadV (q := 1) (c := (dI a1.Hi)) eZ bZ rfl rfl (gDo (eR rfl) (dT h2) (oLss (eR rfl) eZ (oPickT (eR rfl) (dT h2) eZ (oMov eZ ?_)))))))))))
  rcases oite H with ⟨h3, H⟩ | ⟨h3, H⟩
  ·refine gDo eZ (dT h3) (oFaddrN (m := 1) (eR rfl) rfl (gDo (eR rfl) (dT h3) (oLoadV (q := 1) (c := (dI a1.Hi)) eZ bZ rfl rfl (gDo (eR rfl) (dT h3) (oLeq eZ eC (oPickT (eR rfl) (dT h3) eZ (oMov eZ (xQ (AW.weaken (wk_mk [64] (kr 2 rfl rfl SL.nil) (BL.drop rfl BL.nil) BK.nil) (AW.ret ?_))))))))))
   cases H
   exact eE rfl rfl
  ·refine gSkip eZ (dF h3) rfl (gSkip (eR rfl) (dF h3) rfl (gSkip (eR rfl) (dF h3) rfl (oPickF (eR rfl) (dF h3) eC (oMov eZ (xQ (AW.weaken (wk_mk [64] (kr 2 rfl rfl SL.nil) (BL.drop rfl BL.nil) BK.nil) (AW.ret ?_)))))))
   cases H
   exact eE rfl rfl
 ·refine gSkip eZ (dF h2) rfl (gSkip (eR rfl) (dF h2) rfl (gSkip (eR rfl) (dF h2) rfl (gSkip (eR rfl) (dF h2) rfl (gSkip (eR rfl) (dF h2) rfl (oPickF (eR rfl) (dF h2) eC (oMov eZ (gSkip eZ rfl rfl (gSkip (eR rfl) rfl rfl (gSkip (eR rfl) rfl rfl (oPickF (eR rfl) rfl eC (oMov eZ (xQ (AW.weaken (wk_mk [64] (kr 2 rfl rfl SL.nil) (BL.drop rfl BL.nil) BK.nil) (AW.ret ?_))))))))))))))
  cases H
  exact eE rfl rfl
theorem c_impl_isMode {a1 : Int} {r : Bool} (H : m_impl_isMode a1 = some r) : Fn Try.prog 61 (lent [(.int .i64 a1)]) true [(.bool r)] := by
 refine f61 (fle rfl) ?_
 rw [init_mk]
 refine AW.weaken (wk_mk [] (kv 0 (oI a1) rfl rfl SL.nil) BL.nil BK.nil) ?_
 unfold m_impl_isMode at H
 unfold i61
 refine aV (oMov eC (xQ (aV (oMov (eR rfl) (oEql eZ eC (oMov eZ ?_))))))
 rcases oite H with ⟨h2, H⟩ | ⟨h2, H⟩
 ·refine gSkip eZ (dT h2) rfl (gSkip (eR rfl) (dT h2) rfl (oPickT (eR rfl) (dT h2) eC (oMov eZ (xQ (AW.ret ?_)))))
  cases H
  exact eE rfl rfl
 ·refine gDo eZ (dF h2) (oMov (eR rfl) (gDo (eR rfl) (dF h2) (oEql eZ eC (oPickF (eR rfl) (dF h2) eZ (oMov eZ (xQ (AW.ret ?_)))))))
  cases H
  exact eE rfl rfl
theorem c_impl_meets {a1 : TRange} {a2 : TRange} {r : Bool} (H : m_impl_meets a1 a2 = some r) : Fn Try.prog 112 (lent [(.agg (d_TRange a1)), (.agg (d_TRange a2))]) true [(.bool r)] := by
 refine f112 (fle rfl) ?_
 rw [init_mk]
 refine AW.weaken (wk_mk [] (kv 0 (.agg [(dI a1.Lo), (dI a1.Hi)]) rfl rfl (kv 1 (.agg [(dI a2.Lo), (dI a2.Hi)]) rfl rfl SL.nil)) BL.nil BK.nil) ?_
 unfold m_impl_meets at H
 unfold i112
 refine aV (oBox (n := 128) (m := 2) (cs := [(dI a1.Lo), (dI a1.Hi)]) rfl eZ rfl rfl nZ (oBox (n := 192) (m := 2) (cs := [(dI a2.Lo), (dI a2.Hi)]) rfl (eR rfl) rfl rfl (nS rfl nZ) (oMov eC (xQ (aV (oFaddrN (m := 0) (eR rfl) rfl (oLoadV (q := 0) (c := (dI a1.Lo)) eZ (bS rfl bZ) rfl rfl (oFaddrN (m := 1) (eR rfl) rfl (oLoadV (q := 1) (c := (dI a2.Hi)) eZ bZ rfl rfl (oLss (eR rfl) eZ (oMov eZ ?_)))))))))))
 rcases oite H with ⟨h3, H⟩ | ⟨h3, H⟩
 ·refine gDo eZ (dT h3) (oFaddrN (m := 0) (eR rfl) rfl (gDo (eR rfl) (dT h3) (oLoadV (q := 0) (c := (dI a2.Lo)) eZ bZ rfl rfl (gDo (eR rfl) (dT h3) (oFaddrN (m := 1) (eR rfl) rfl (gDo (eR rfl) (dT h3) (oLoadV (q := 1) (c := (dI a1.Hi)) eZ (bS rfl bZ) rfl rfl (gDo (eR rfl) (dT h3) (oLss (eR rfl) eZ (oPickT (eR rfl) (dT h3) eZ (oMov eZ (xQ (AW.weaken (wk_mk [192, 128] (kr 4 rfl rfl SL.nil) (BL.drop rfl (BL.drop rfl BL.nil)) BK.nil) (AW.ret ?_))))))))))))))
  cases H
  exact eE rfl rfl
 ·refine gSkip eZ (dF h3) rfl (gSkip (eR rfl) (dF h3) rfl (gSkip (eR rfl) (dF h3) rfl (gSkip (eR rfl) (dF h3) rfl (gSkip (eR rfl) (dF h3) rfl (oPickF (eR rfl) (dF h3) eC (oMov eZ (xQ (AW.weaken (wk_mk [192, 128] (kr 4 rfl rfl SL.nil) (BL.drop rfl (BL.drop rfl BL.nil)) BK.nil) (AW.ret ?_)))))))))
  cases H
  exact eE rfl rfl
theorem c_impl_clash {a1 : TLock} {a2 : TLock} {r : Bool} (H : m_impl_clash a1 a2 = some r) : Fn Try.prog 74 (lent [(.agg (d_TLock a1)), (.agg (d_TLock a2))]) true [(.bool r)] := by
 refine f74 (fle rfl) ?_
 rw [init_mk]
 refine AW.weaken (wk_mk [] (kv 0 (.agg [(dI a1.Tx), (dI a1.Lo), (dI a1.Hi), (dI a1.Mode)]) rfl rfl (kv 1 (.agg [(dI a2.Tx), (dI a2.Lo), (dI a2.Hi), (dI a2.Mode)]) rfl rfl SL.nil)) BL.nil BK.nil) ?_
 unfold m_impl_clash at H
 unfold i74
 refine aV (oBox (n := 128) (m := 4) (cs := [(dI a1.Tx), (dI a1.Lo), (dI a1.Hi), (dI a1.Mode)]) rfl eZ rfl rfl nZ (oBox (n := 192) (m := 4) (cs := [(dI a2.Tx), (dI a2.Lo), (dI a2.Hi), (dI a2.Mode)]) rfl (eR rfl) rfl rfl (nS rfl nZ) (oMov eC (xQ (aS (AW.regd (oFaddrN (m := 0) (eR rfl) rfl (oLoadV (q := 0) (c := (dI a1.Tx)) eZ (bS rfl bZ) rfl rfl (oFaddrN (m := 0) (eR rfl) rfl (oLoadV (q := 0) (c := (dI a2.Tx)) eZ bZ rfl rfl (oNeq (eR rfl) eZ (oMov eZ ?_))))))))))))
 rcases oite H with ⟨h3, H⟩ | ⟨h3, H⟩
 ·refine gDo eZ (dT h3) (oFaddrN (m := 3) (eR rfl) rfl (gDo (eR rfl) (dT h3) (oLoadV (q := 3) (c := (dI a1.Mode)) eZ (bS rfl bZ) rfl rfl (gDo (eR rfl) (dT h3) (oEql eZ eC (gDo (eR rfl) (dT h3) (oMov eZ ?_)))))))
  rcases oite H with ⟨h4, H⟩ | ⟨h4, H⟩
  ·refine gSkip eZ (dT h4) rfl (gSkip (eR rfl) (dT h4) rfl (gSkip (eR rfl) (dT h4) rfl (gDo (eR rfl) (dT h3) (oPickT (eR rfl) (dT h4) eC (oPickT (eR rfl) (dT h3) eZ (oMov eZ (gDo eZ rfl (oLoadVA (es := [(dI a1.Tx), (dI a1.Lo), (dI a1.Hi), (dI a1.Mode)]) (eR rfl) (bS rfl bZ) rfl (gDo (eR rfl) rfl ?_)))))))))
   obtain ⟨v5, h6, H⟩ := obind H
   refine oCall (u := (.agg [(dI v5.Lo), (dI v5.Hi)])) eC Cl.fn (c_impl_Lock_keys h6) (Evs.cons eZ Evs.nil) (VDs.cons (VD.agg rfl) VDs.nil) rfl (gDo (eR rfl) rfl (oLoadVA (es := [(dI a2.Tx), (dI a2.Lo), (dI a2.Hi), (dI a2.Mode)]) (eR rfl) (hB rfl bZ) rfl (gDo (eR rfl) rfl ?_)))
   obtain ⟨v7, h8, H⟩ := obind H
   refine oCall (u := (.agg [(dI v7.Lo), (dI v7.Hi)])) eC Cl.fn (c_impl_Lock_keys h8) (Evs.cons eZ Evs.nil) (VDs.cons (VD.agg rfl) VDs.nil) rfl (gDo (eR rfl) rfl ?_)
   obtain ⟨v9, h10, H⟩ := obind H
   refine oCall (u := (oB v9)) eC Cl.fn (c_impl_meets h10) (Evs.cons (eR rfl) (Evs.cons eZ Evs.nil)) (VDs.cons (VD.agg rfl) (VDs.cons (VD.agg rfl) VDs.nil)) rfl (oPickT (eR rfl) rfl eZ (oMov eZ (xQ (AW.weaken (wk_mk [192, 128] (kr 4 rfl rfl SL.nil) (BL.drop rfl (BL.drop rfl BL.nil)) BK.nil) (AW.ret ?_)))))
   cases H
   exact eE rfl rfl
  ·refine gDo eZ (dF h4) (oFaddrN (m := 3) (eR rfl) rfl (gDo (eR rfl) (dF h4) (oLoadV (q := 3) (c := (dI a2.Mode)) eZ bZ rfl rfl (gDo (eR rfl) (dF h4) (oEql eZ eC (gDo (eR rfl) (dT h3) (oPickF (eR rfl) (dF h4) eZ (oPickT (eR rfl) (dT h3) eZ (oMov eZ ?_)))))))))
   rcases oite H with ⟨h11, H⟩ | ⟨h11, H⟩
   ·refine gDo eZ (dT h11) (oLoadVA (es := [(dI a1.Tx), (dI a1.Lo), (dI a1.Hi), (dI a1.Mode)]) (eR rfl) (bS rfl bZ) rfl (gDo (eR rfl) (dT h11) ?_))
    obtain ⟨v12, h13, H⟩ := obind H
    refine oCall (u := (.agg [(dI v12.Lo), (dI v12.Hi)])) eC Cl.fn (c_impl_Lock_keys h13) (Evs.cons eZ Evs.nil) (VDs.cons (VD.agg rfl) VDs.nil) rfl (gDo (eR rfl) (dT h11) (oLoadVA (es := [(dI a2.Tx), (dI a2.Lo), (dI a2.Hi), (dI a2.Mode)]) (eR rfl) (hB rfl bZ) rfl (gDo (eR rfl) (dT h11) ?_)))
    obtain ⟨v14, h15, H⟩ := obind H
    refine oCall (u := (.agg [(dI v14.Lo), (dI v14.Hi)])) eC Cl.fn (c_impl_Lock_keys h15) (Evs.cons eZ Evs.nil) (VDs.cons (VD.agg rfl) VDs.nil) rfl (gDo (eR rfl) (dT h11) ?_)
    obtain ⟨v16, h17, H⟩ := obind H
    refine oCall (u := (oB v16)) eC Cl.fn (c_impl_meets h17) (Evs.cons (eR rfl) (Evs.cons eZ Evs.nil)) (VDs.cons (VD.agg rfl) (VDs.cons (VD.agg rfl) VDs.nil)) rfl (oPickT (eR rfl) (dT h11) eZ (oMov eZ (xQ (AW.weaken (wk_mk [192, 128] (kr 4 rfl rfl SL.nil) (BL.drop rfl (BL.drop rfl BL.nil)) BK.nil) (AW.ret ?_)))))
    cases H
    exact eE rfl rfl
   ·refine gSkip eZ (dF h11) rfl (gSkip (eR rfl) (dF h11) rfl (gSkip (eR rfl) (dF h11) rfl (gSkip (eR rfl) (dF h11) rfl (gSkip (eR rfl) (dF h11) rfl (oPickF (eR rfl) (dF h11) eC (oMov eZ (xQ (AW.weaken (wk_mk [192, 128] (kr 4 rfl rfl SL.nil) (BL.drop rfl (BL.drop rfl BL.nil)) BK.nil) (AW.ret ?_)))))))))
    cases H
    exact eE rfl rfl
 ·refine gSkip eZ (dF h3) rfl (gSkip (eR rfl) (dF h3) rfl (gSkip (eR rfl) (dF h3) rfl (gSkip (eR rfl) (dF h3) rfl (gSkipU eZ rfl (gSkipU (eR rfl) rfl (gSkipU (eR rfl) rfl (gSkip (eR rfl) (dF h3) rfl (oPickF (eR rfl) (dF h3) eC (oMov eZ (gSkip eZ rfl rfl (gSkip (eR rfl) rfl rfl (gSkip (eR rfl) rfl rfl (gSkip (eR rfl) rfl rfl (gSkip (eR rfl) rfl rfl (oPickF (eR rfl) rfl eC (oMov eZ (xQ (AW.weaken (wk_mk [192, 128] (kr 4 rfl rfl SL.nil) (BL.drop rfl (BL.drop rfl BL.nil)) BK.nil) (AW.ret ?_)))))))))))))))))))
  cases H
  exact eE rfl rfl
theorem c_impl_LocksOk_1 {a1 : TLock} {a2 : TLock} {r : Bool} (H : m_impl_LocksOk_1 a1 a2 = some r) : Fn Try.prog 73 (lent [(.agg (d_TLock a1)), (.ptr (d_TLock a2))]) true [(.bool r)] := by
 refine f73 (fle rfl) ?_
 rw [init_mk]
 refine AW.weaken (wk_mk [] (kv 0 (.agg [(dI a1.Tx), (dI a1.Lo), (dI a1.Hi), (dI a1.Mode)]) rfl rfl (SL.cons (v := (.one (.ptr (.bd (d_TLock a2) 0)))) (eS rfl eZ) rfl (VWk.one CWk.ptr) SL.nil)) BL.nil BK.nil) ?_
 unfold m_impl_LocksOk_1 at H
 unfold i73
 refine aV (oBox (n := 128) (m := 4) (cs := [(dI a1.Tx), (dI a1.Lo), (dI a1.Hi), (dI a1.Mode)]) rfl eZ rfl rfl nZ (oMov eC (xQ (aV (oLoadBA (es := [(dI a2.Tx), (dI a2.Lo), (dI a2.Hi), (dI a2.Mode)]) (eR rfl) rfl (oLoadVA (es := [(dI a1.Tx), (dI a1.Lo), (dI a1.Hi), (dI a1.Mode)]) (eR rfl) bZ rfl ?_))))))
 obtain ⟨v3, h4, H⟩ := obind H
 refine oCall (u := (oB v3)) eC Cl.fn (c_impl_clash h4) (Evs.cons (eR rfl) (Evs.cons eZ Evs.nil)) (VDs.cons (VD.agg rfl) (VDs.cons (VD.agg rfl) VDs.nil)) rfl (oMov eZ (xQ (AW.ret ?_)))
 cases H
 exact eE rfl rfl
theorem c_slices_IndexFunc_Lock__LocksOk_1 {a1 : (List TLock)} {a2 : TLock} {r : Int} (H : m_slices_IndexFunc_Lock__LocksOk_1 a1 a2 = some r) : Fn Try.prog 103 (lent [(.sl 4 (List.map d_TLock a1)), (.fn 73 [.ptr (d_TLock a2)])]) true [(.int .i64 r)] := by
 refine f103 (fle rfl) ?_
 rw [init_mk]
 refine AW.weaken (wk_mk [] (kv 0 (.one (.d (.sl 4 (List.map d_TLock a1)))) rfl rfl (SL.cons (v := (.one (.fn 73 [(.bd (d_TLock a2) 0)]))) (eS rfl eZ) rfl (VWk.one (CWk.fn (css := [d_TLock a2]))) SL.nil)) BL.nil BK.nil) ?_
 unfold m_slices_IndexFunc_Lock__LocksOk_1 at H
 unfold i103
 refine aV (oMov eC (xQ (AW.seqJ (fun t3 : Unit => slices_IndexFunc_Lock__LocksOk_1_j3 t3 = some r) (fun t3 => mk [] [] noG) ?_ ?_)))
 ·intro t3 H
  unfold slices_IndexFunc_Lock__LocksOk_1_j3 at H
  refine aV (oMov eC (xQ (AW.ret ?_)))
  cases H
  exact eE rfl rfl
 ·refine aV (oMov (eR rfl) (oLenD eZ (n := a1.length) (List.length_map _) (oMov eC (xQ (AW.block (AW.iter (fun s5 : Int => mk [(0, (.one (.d (.sl 4 (List.map d_TLock a1))))), (1, (.one (.fn 73 [(.bd (d_TLock a2) 0)]))), (7, (oI (a1.length : Int))), (8, (oI s5))] [] noG) H (wk_mk [] (kR rfl rfl (kR rfl rfl (kR rfl rfl (kR rfl rfl SL.nil)))) BL.nil BK.nil) ?_))))))
  intro kb6 s5 H
  unfold slices_IndexFunc_Lock__LocksOk_1_b5 at H
  refine aV (oLss (eR rfl) (eR rfl) (xQ (aS ?_)))
  rcases oite H with ⟨h7, H⟩ | ⟨h7, H⟩
  ·refine AW.condT eZ (dT h7) (AW.skip (TQ.qn (aS (AW.block (aV (oMov (eR rfl) (oMov eZ (xQ (aV (oMov (eR rfl) (oMov (eR rfl) (oMov (eR rfl) ?_))))))))))))
   obtain ⟨v8, h9, H⟩ := obind H
   refine oAtD (eR rfl) eZ h9 (oLoadBA (es := [(dI v8.Tx), (dI v8.Lo), (dI v8.Hi), (dI v8.Mode)]) eZ rfl ?_)
   obtain ⟨v10, h11, H⟩ := obind H
   refine oCall (u := (oB v10)) (eR rfl) Cl.fn (c_impl_LocksOk_1 h11) (Evs.cons eZ Evs.nil) (VDs.cons (VD.agg rfl) (VDs.cons VD.ptrB VDs.nil)) rfl (xQ ?_)
   rcases oite H with ⟨h12, H⟩ | ⟨h12, H⟩
   ·refine AW.condT eZ h12 (aV (oMov (eR rfl) (oMov eZ (xQ (AW.ret (BQ.qr (TQ.qr (TQ.qr (BQ.qr (TQ.qr ?_))))))))))
    cases H
    exact eE rfl rfl
   ·exact AW.condF eZ (nt h12) (AW.skip (BQ.qn (TQ.qn (aR (oAdd (eR rfl) eC (oMov eZ (xNil (TQ.qn ⟨(IntKind.wrap .i64 (s5 + 1)), H, (wk_mk [] (kR rfl rfl (kR rfl rfl (kR rfl rfl (kR rfl rfl SL.nil)))) BL.nil BK.nil)⟩))))))))
  ·exact AW.condF eZ (dF h7) (AW.exit (TQ.qe (TQ.qe (BQ.qe (TQ.qn ⟨(), H, (wk_mk [] SL.nil BL.nil BK.nil)⟩)))))
theorem c_slices_ContainsFunc_Lock__LocksOk_1 {a1 : (List TLock)} {a2 : TLock} {r : Bool} (H : m_slices_ContainsFunc_Lock__LocksOk_1 a1 a2 = some r) : Fn Try.prog 72 (lent [(.sl 4 (List.map d_TLock a1)), (.fn 73 [.ptr (d_TLock a2)])]) true [(.bool r)] := by
 refine f72 (fle rfl) ?_
 rw [init_mk]
 refine AW.weaken (wk_mk [] (kv 0 (.one (.d (.sl 4 (List.map d_TLock a1)))) rfl rfl (SL.cons (v := (.one (.fn 73 [(.bd (d_TLock a2) 0)]))) (eS rfl eZ) rfl (VWk.one (CWk.fn (css := [d_TLock a2]))) SL.nil)) BL.nil BK.nil) ?_
 unfold m_slices_ContainsFunc_Lock__LocksOk_1 at H
 unfold i72
 refine aV (oMov eC (xQ (aV (oMov (eR rfl) (oMov (eR rfl) ?_)))))
 obtain ⟨v3, h4, H⟩ := obind H
 refine oCall (u := (oI v3)) eC Cl.fn (c_slices_IndexFunc_Lock__LocksOk_1 h4) (Evs.cons (eR rfl) (Evs.cons eZ Evs.nil)) (VDs.cons VD.plain (VDs.cons (VD.fn (PDs.cons VD.ptrB PDs.nil)) VDs.nil)) rfl (oGeq eZ eC (oMov eZ (xQ (AW.ret ?_))))
 cases H
 exact eE rfl rfl
theorem c_impl_LocksOk {a1 : (List TLock)} {r : Bool} (H : m_impl_LocksOk a1 = some r) : Fn Try.prog 27 (lent [(.sl 4 (List.map d_TLock a1))]) true [(.bool r)] := by
 refine f27 (fle rfl) ?_
 rw [init_mk]
 refine AW.weaken (wk_mk [] (kv 0 (.one (.d (.sl 4 (List.map d_TLock a1)))) rfl rfl SL.nil) BL.nil BK.nil) ?_
 unfold m_impl_LocksOk at H
 unfold i27
 refine aV (oMov eC (xQ (AW.seqJ (fun t2 : Unit => (impl_LocksOk_j2 a1) t2 = some r) (fun t2 => mk [(0, (.one (.d (.sl 4 (List.map d_TLock a1)))))] [] noG) ?_ ?_)))
 ·intro t2 H
  unfold impl_LocksOk_j2 at H
  refine aV (oMov eZ (oLenD eZ (n := a1.length) (List.length_map _) (oLeq eZ eC (oMov eZ (xQ (AW.ret ?_))))))
  cases H
  exact eE rfl rfl
 ·refine aV (oMov (eR rfl) (oLenD eZ (n := a1.length) (List.length_map _) (oMov eC (xQ (AW.block (AW.iter (fun s4 : Int => mk [(0, (.one (.d (.sl 4 (List.map d_TLock a1))))), (5, (.one (.d (.sl 4 (List.map d_TLock a1))))), (6, (oI (a1.length : Int))), (7, (oI s4))] [] noG) H (wk_mk [] (kR rfl rfl (kR rfl rfl (kR rfl rfl (kR rfl rfl SL.nil)))) BL.nil BK.nil) ?_))))))
  intro kb5 s4 H
  unfold impl_LocksOk_b4 at H
  refine aV (oLss (eR rfl) (eR rfl) (xQ (aS ?_)))
  rcases oite H with ⟨h6, H⟩ | ⟨h6, H⟩
  ·refine AW.condT eZ (dT h6) (AW.skip (TQ.qn (aS (AW.block (aV (oMov (eR rfl) ?_))))))
   obtain ⟨v7, h8, H⟩ := obind H
   refine oAtD (eR rfl) (eR rfl) h8 (oLoadBA (es := [(dI v7.Tx), (dI v7.Lo), (dI v7.Hi), (dI v7.Mode)]) eZ rfl (oVar (n := 256) (m := 4) rfl rfl nZ (oMov (eR rfl) (oStoreV (es := [(dI v7.Tx), (dI v7.Lo), (dI v7.Hi), (dI v7.Mode)]) (eR rfl) (eR rfl) rfl rfl bZ rfl (xQ (AW.seqJ (fun t9 : Bool => (impl_LocksOk_j9 kb5 s4) t9 = some r) (fun t9 => mk [(0, (.one (.d (.sl 4 (List.map d_TLock a1))))), (5, (.one (.d (.sl 4 (List.map d_TLock a1))))), (6, (oI (a1.length : Int))), (7, (oI s4)), (34, (oB t9))] [] noG) ?_ ?_))))))
   ·intro t9 H
    unfold impl_LocksOk_j9 at H
    rcases oite H with ⟨h11, H⟩ | ⟨h11, H⟩
    ·refine AW.condT (eR rfl) h11 (aV (oMov eC (xQ (AW.ret (BQ.qr (TQ.qr (TQ.qr (BQ.qr (TQ.qr ?_)))))))))
     cases H
     exact eE rfl rfl
    ·exact AW.condF (eR rfl) (nt h11) (AW.skip (BQ.qn (TQ.qn (aR (oAdd (eR rfl) eC (oMov eZ (xNil (TQ.qn ⟨(IntKind.wrap .i64 (s4 + 1)), H, (wk_mk [] (kR rfl rfl (kR rfl rfl (kR rfl rfl (kR rfl rfl SL.nil)))) BL.nil BK.nil)⟩))))))))
   ·refine aR (oFaddrN (m := 0) (eR rfl) rfl (oLoadV (q := 0) (c := (dI v7.Tx)) eZ bZ rfl rfl ?_))
    obtain ⟨v12, h13, H⟩ := obind H
    refine oCall (u := (oB v12)) eC Cl.fn (c_impl_isTx h13) (Evs.cons eZ Evs.nil) (VDs.cons VD.plain VDs.nil) rfl (oInv eZ (oMov eZ ?_))
    rcases oite H with ⟨h14, H⟩ | ⟨h14, H⟩
    ·refine gDo eZ (cN h14) (oLoadVA (es := [(dI v7.Tx), (dI v7.Lo), (dI v7.Hi), (dI v7.Mode)]) (eR rfl) bZ rfl (gDo (eR rfl) (cN h14) ?_))
     obtain ⟨v15, h16, H⟩ := obind H
     refine oCall (u := (.agg [(dI v15.Lo), (dI v15.Hi)])) eC Cl.fn (c_impl_Lock_keys h16) (Evs.cons eZ Evs.nil) (VDs.cons (VD.agg rfl) VDs.nil) rfl (gDo (eR rfl) (cN h14) ?_)
     obtain ⟨v17, h18, H⟩ := obind H
     refine oCall (u := (oB v17)) eC Cl.fn (c_impl_RangeOk h18) (Evs.cons eZ Evs.nil) (VDs.cons (VD.agg rfl) VDs.nil) rfl (gDo (eR rfl) (cN h14) (oInv eZ (oPickF (eR rfl) (cN h14) eZ (oMov eZ ?_))))
     rcases oite H with ⟨h19, H⟩ | ⟨h19, H⟩
     ·refine gDo eZ (cN h19) (oFaddrN (m := 3) (eR rfl) rfl (gDo (eR rfl) (cN h19) (oLoadV (q := 3) (c := (dI v7.Mode)) eZ bZ rfl rfl (gDo (eR rfl) (cN h19) ?_))))
      obtain ⟨v20, h21, H⟩ := obind H
      refine oCall (u := (oB v20)) eC Cl.fn (c_impl_isMode h21) (Evs.cons eZ Evs.nil) (VDs.cons VD.plain VDs.nil) rfl (gDo (eR rfl) (cN h19) (oInv eZ (oPickF (eR rfl) (cN h19) eZ (oMov eZ ?_))))
      rcases oite H with ⟨h22, H⟩ | ⟨h22, H⟩
      ·refine gDo eZ (cN h22) (oMov (eR rfl) (gDo (eR rfl) (cN h22) (oMov (eR rfl) (gDo (eR rfl) (cN h22) ?_))))
       obtain ⟨v23, h24, H⟩ := obind H
       refine oCutD (eR rfl) Bd.no (n := (a1.length : Int)) rfl (Bd.at eZ) h24 (gDo (eR rfl) (cN h22) (oMkfn (ps := [(.nm 256 0 0)]) (Evs.cons (eR rfl) Evs.nil) (gDo (eR rfl) (cN h22) ?_)))
       obtain ⟨v25, h26, H⟩ := obind H
       exact oCall (u := (oB v25)) eC Cl.fn (c_slices_ContainsFunc_Lock__LocksOk_1 h26) (Evs.cons (eR rfl) (Evs.cons eZ Evs.nil)) (VDs.cons VD.plain (VDs.cons (VD.fn (PDs.cons (VD.ptrN bZ (CDs.plain (CDs.plain (CDs.plain (CDs.plain CDs.nil))))) PDs.nil)) VDs.nil)) rfl (oPickF (eR rfl) (cN h22) eZ (xNil (TQ.qn ⟨v25, H, (wk_mk [256] (kR rfl rfl (kR rfl rfl (kR rfl rfl (kR rfl rfl (kR rfl rfl SL.nil))))) (BL.drop rfl (BL.drop rfl BL.nil)) BK.nil)⟩)))
      ·exact gSkip eZ (cN (nt h22)) rfl (gSkip (eR rfl) (cN (nt h22)) rfl (gSkip (eR rfl) (cN (nt h22)) rfl (gSkip (eR rfl) (cN (nt h22)) rfl (gSkip (eR rfl) (cN (nt h22)) rfl (oPickT (eR rfl) (cN (nt h22)) eC (xNil (TQ.qn ⟨true, H, (wk_mk [256] (kR rfl rfl (kR rfl rfl (kR rfl rfl (kR rfl rfl (kR rfl rfl SL.nil))))) (BL.drop rfl (BL.drop rfl BL.nil)) BK.nil)⟩)))))))
     ·exact gSkip eZ (cN (nt h19)) rfl (gSkip (eR rfl) (cN (nt h19)) rfl (gSkip (eR rfl) (cN (nt h19)) rfl (gSkip (eR rfl) (cN (nt h19)) rfl (oPickT (eR rfl) (cN (nt h19)) eC (oMov eZ (gSkip eZ rfl rfl (gSkip (eR rfl) rfl rfl (gSkip (eR rfl) rfl rfl (gSkip (eR rfl) rfl rfl (gSkip (eR rfl) rfl rfl (oPickT (eR rfl) rfl eC (xNil (TQ.qn ⟨true, H, (wk_mk [256] (kR rfl rfl (kR rfl rfl (kR rfl rfl (kR rfl rfl (kR rfl rfl SL.nil))))) (BL.drop rfl (BL.drop rfl BL.nil)) BK.nil)⟩)))))))))))))
    ·exact gSkip eZ (cN (nt h14)) rfl (gSkip (eR rfl) (cN (nt h14)) rfl (gSkip (eR rfl) (cN (nt h14)) rfl (gSkip (eR rfl) (cN (nt h14)) rfl (oPickT (eR rfl) (cN (nt h14)) eC (oMov eZ (gSkip eZ rfl rfl (gSkip (eR rfl) rfl rfl (gSkip (eR rfl) rfl rfl (gSkip (eR rfl) rfl rfl (oPickT (eR rfl) rfl eC (oMov eZ (gSkip eZ rfl rfl (gSkip (eR rfl) rfl rfl (gSkip (eR rfl) rfl rfl (gSkip (eR rfl) rfl rfl (gSkip (eR rfl) rfl rfl (oPickT (eR rfl) rfl eC (xNil (TQ.qn ⟨true, H, (wk_mk [256] (kR rfl rfl (kR rfl rfl (kR rfl rfl (kR rfl rfl (kR rfl rfl SL.nil))))) (BL.drop rfl (BL.drop rfl BL.nil)) BK.nil)⟩)))))))))))))))))))
  ·exact AW.condF eZ (dF h6) (AW.exit (TQ.qe (TQ.qe (BQ.qe (TQ.qn ⟨(), H, (wk_mk [] (kR rfl rfl SL.nil) BL.nil BK.nil)⟩)))))
theorem c_slices_Clone_Lock {a1 : (List TLock)} {r : (List TLock)} (H : m_slices_Clone_Lock a1 = some r) : Fn Try.prog 62 (lent [(.sl 4 (List.map d_TLock a1))]) true [(.sl 4 (List.map d_TLock r))] := by
 refine f62 (fle rfl) ?_
 rw [init_mk]
 refine AW.weaken (wk_mk [] (kv 0 (.one (.d (.sl 4 (List.map d_TLock a1)))) rfl rfl SL.nil) BL.nil BK.nil) ?_
 unfold m_slices_Clone_Lock at H
 unfold i62
 refine aV (oMov eC (xQ (AW.seqJ (fun t2 : Unit => (slices_Clone_Lock_j2 a1) t2 = some r) (fun t2 => mk [(0, (.one (.d (.sl 4 (List.map d_TLock a1)))))] [] noG) ?_ ?_)))
 ·intro t2 H
  unfold slices_Clone_Lock_j2 at H
  refine aV (oBsliceZ (m := 320) rfl nZ (oMov (eR rfl) ?_))
  obtain ⟨h4, H⟩ := oguard H
  refine oAppZ (f := d_TLock) (m := 448) (own := true) (ys := a1) (q := a1.length) rfl rfl (eR rfl) eZ (El.lent fun _ _ => rfl) rfl h4 (by decide) nZ (oMov eZ (xQ (AW.ret ?_)))
  cases H
  exact endsR (RL.cons (RV.tmp eZ) (VO.sl bZ (List.length_map _) (allFlat fun _ => rfl)) RL.nil) (by decide)
 ·refine aV (oMov (eR rfl) ?_)
  rcases oite H with ⟨h5, H⟩ | ⟨h5, H⟩
  ·refine oNilD0 eZ h5 (xQ (AW.condU eZ ?_ ?_))
   ·have H : (some ([] : (List TLock))) = some r := by rw [← H]; simp [List.eq_nil_of_length_eq_zero h5, slices_Clone_Lock_j2]
    refine aV (oMov eC (xQ (AW.ret (TQ.qr ?_))))
    cases H
    exact endsR (RL.cons (RV.tmp eZ) VO.zs RL.nil) List.nodup_nil
   ·exact AW.skip (TQ.qn ⟨(), H, (wk_mk [] (kR rfl rfl SL.nil) BL.nil BK.nil)⟩)
  ·exact oNilD eZ h5 (xQ (AW.condF eZ rfl (AW.skip (TQ.qn ⟨(), H, (wk_mk [] (kR rfl rfl SL.nil) BL.nil BK.nil)⟩))))
theorem c_impl_LocksHold_1 {a1 : TLock} {a2 : Int} {a3 : Int} {a4 : TRange} {r : Bool} (H : m_impl_LocksHold_1 a1 a2 a3 a4 = some r) : Fn Try.prog 75 (lent [(.agg (d_TLock a1)), (.ptr (d_i64 a2)), (.ptr (d_i64 a3)), (.ptr (d_TRange a4))]) true [(.bool r)] := by
 refine f75 (fle rfl) ?_
 rw [init_mk]
 refine AW.weaken (wk_mk [] (kv 0 (.agg [(dI a1.Tx), (dI a1.Lo), (dI a1.Hi), (dI a1.Mode)]) rfl rfl (SL.cons (v := (.one (.ptr (.bd (d_i64 a2) 0)))) (eS rfl eZ) rfl (VWk.one CWk.ptr) (SL.cons (v := (.one (.ptr (.bd (d_i64 a3) 0)))) (eS rfl (eS rfl eZ)) rfl (VWk.one CWk.ptr) (SL.cons (v := (.one (.ptr (.bd (d_TRange a4) 0)))) (eS rfl (eS rfl (eS rfl eZ))) rfl (VWk.one CWk.ptr) SL.nil)))) BL.nil BK.nil) ?_
 unfold m_impl_LocksHold_1 at H
 unfold i75
 refine aV (oBox (n := 256) (m := 4) (cs := [(dI a1.Tx), (dI a1.Lo), (dI a1.Hi), (dI a1.Mode)]) rfl eZ rfl rfl nZ (oMov eC (xQ (aV (oFaddrN (m := 0) (eR rfl) rfl (oLoadV (q := 0) (c := (dI a1.Tx)) eZ bZ rfl rfl (oLoadB (e := (.int .i64 a2)) (eR rfl) rfl (oEql (eR rfl) eZ (oMov eZ ?_)))))))))
 rcases oite H with ⟨h5, H⟩ | ⟨h5, H⟩
 ·refine gDo eZ (dT h5) (oFaddrN (m := 3) (eR rfl) rfl (gDo (eR rfl) (dT h5) (oLoadV (q := 3) (c := (dI a1.Mode)) eZ bZ rfl rfl (gDo (eR rfl) (dT h5) (oLoadB (e := (.int .i64 a3)) (eR rfl) rfl (gDo (eR rfl) (dT h5) (oEql (eR rfl) eZ (gDo (eR rfl) (dT h5) (oMov eZ ?_)))))))))
  rcases oite H with ⟨h6, H⟩ | ⟨h6, H⟩
  ·refine gSkip eZ (dT h6) rfl (gSkip (eR rfl) (dT h6) rfl (gSkip (eR rfl) (dT h6) rfl (gDo (eR rfl) (dT h5) (oPickT (eR rfl) (dT h6) eC (oPickT (eR rfl) (dT h5) eZ (oMov eZ (gDo eZ rfl (oFaddrN (m := 1) (eR rfl) rfl (gDo (eR rfl) rfl (oLoadV (q := 1) (c := (dI a1.Lo)) eZ bZ rfl rfl (gDo (eR rfl) rfl (oFaddrB (m := 0) (eR rfl) rfl (gDo (eR rfl) rfl (oLoadB (e := (.int .i64 a4.Lo)) eZ rfl (gDo (eR rfl) rfl (oLeq (eR rfl) eZ (oPickT (eR rfl) rfl eZ (oMov eZ ?_))))))))))))))))))
   rcases oite H with ⟨h7, H⟩ | ⟨h7, H⟩
   ·refine gDo eZ (dT h7) (oFaddrB (m := 1) (eR rfl) rfl (gDo (eR rfl) (dT h7) (oLoadB (e := (.int .i64 a4.Hi)) eZ rfl (gDo (eR rfl) (dT h7) (oFaddrN (m := 2) (eR rfl) rfl (gDo (eR rfl) (dT h7) (oLoadV (q := 2) (c := (dI a1.Hi)) eZ bZ rfl rfl (gDo (eR rfl) (dT h7) (oLeq (eR rfl) eZ (oPickT (eR rfl) (dT h7) eZ (oMov eZ (xQ (AW.weaken (wk_mk [256] (kr 5 rfl rfl SL.nil) (BL.drop rfl BL.nil) BK.nil) (AW.ret ?_))))))))))))))
    cases H
    exact eE rfl rfl
   ·refine gSkip eZ (dF h7) rfl (gSkip (eR rfl) (dF h7) rfl (gSkip (eR rfl) (dF h7) rfl (gSkip (eR rfl) (dF h7) rfl (gSkip (eR rfl) (dF h7) rfl (oPickF (eR rfl) (dF h7) eC (oMov eZ (xQ (AW.weaken (wk_mk [256] (kr 5 rfl rfl SL.nil) (BL.drop rfl BL.nil) BK.nil) (AW.ret ?_)))))))))
    cases H
    exact eE rfl rfl
  ·refine gDo eZ (dF h6) (oFaddrN (m := 3) (eR rfl) rfl (gDo (eR rfl) (dF h6) (oLoadV (q := 3) (c := (dI a1.Mode)) eZ bZ rfl rfl (gDo (eR rfl) (dF h6) (oEql eZ eC (gDo (eR rfl) (dT h5) (oPickF (eR rfl) (dF h6) eZ (oPickT (eR rfl) (dT h5) eZ (oMov eZ ?_)))))))))
   rcases oite H with ⟨h8, H⟩ | ⟨h8, H⟩
   ·refine gDo eZ (dT h8) (oFaddrN (m := 1) (eR rfl) rfl (gDo (eR rfl) (dT h8) (oLoadV (q := 1) (c := (dI a1.Lo)) eZ bZ rfl rfl (gDo (eR rfl) (dT h8) (oFaddrB (m := 0) (eR rfl) rfl (gDo (eR rfl) (dT h8) (oLoadB (e := (.int .i64 a4.Lo)) eZ rfl (gDo (eR rfl) (dT h8) (oLeq (eR rfl) eZ (oPickT (eR rfl) (dT h8) eZ (oMov eZ ?_)))))))))))
    rcases oite H with ⟨h9, H⟩ | ⟨h9, H⟩
    ·refine gDo eZ (dT h9) (oFaddrB (m := 1) (eR rfl) rfl (gDo (eR rfl) (dT h9) (oLoadB (e := (.int .i64 a4.Hi)) eZ rfl (gDo (eR rfl) (dT h9) (oFaddrN (m := 2) (eR rfl) rfl (gDo (eR rfl) (dT h9) (oLoadV (q := 2) (c := (dI a1.Hi)) eZ bZ rfl rfl (gDo (eR rfl) (dT h9) (oLeq (eR rfl) eZ (oPickT (eR rfl) (dT h9) eZ (oMov eZ (xQ (AW.weaken (wk_mk [256] (kr 5 rfl rfl SL.nil) (BL.drop rfl BL.nil) BK.nil) (AW.ret ?_))))))))))))))
     cases H
     exact eE rfl rfl
    ·refine gSkip eZ (dF h9) rfl (gSkip (eR rfl) (dF h9) rfl (gSkip (eR rfl) (dF h9) rfl (gSkip (eR rfl) (dF h9) rfl (gSkip (eR rfl) (dF h9) rfl (oPickF (eR rfl) (dF h9) eC (oMov eZ (xQ (AW.weaken (wk_mk [256] (kr 5 rfl rfl SL.nil) (BL.drop rfl BL.nil) BK.nil) (AW.ret ?_)))))))))
     cases H
     exact eE rfl rfl
   ·refine gSkip eZ (dF h8) rfl (gSkip (eR rfl) (dF h8) rfl (gSkip (eR rfl) (dF h8) rfl (gSkip (eR rfl) (dF h8) rfl (gSkip (eR rfl) (dF h8) rfl (oPickF (eR rfl) (dF h8) eC (oMov eZ (gSkip eZ rfl rfl (gSkip (eR rfl) rfl rfl (gSkip (eR rfl) rfl rfl (gSkip (eR rfl) rfl rfl (gSkip (eR rfl) rfl rfl (oPickF (eR rfl) rfl eC (oMov eZ (xQ (AW.weaken (wk_mk [256] (kr 5 rfl rfl SL.nil) (BL.drop rfl BL.nil) BK.nil) (AW.ret ?_))))))))))))))))
    cases H
    exact eE rfl rfl
 ·refine gSkip eZ (dF h5) rfl (gSkip (eR rfl) (dF h5) rfl (gSkip (eR rfl) (dF h5) rfl (gSkip (eR rfl) (dF h5) rfl (gSkip (eR rfl) (dF h5) rfl (gSkipU eZ rfl (gSkipU (eR rfl) rfl (gSkipU (eR rfl) rfl (gSkip (eR rfl) (dF h5) rfl (oPickF (eR rfl) (dF h5) eC (oMov eZ (gSkip eZ rfl rfl (gSkip (eR rfl) rfl rfl (gSkip (eR rfl) rfl rfl (gSkip (eR rfl) rfl rfl (gSkip (eR rfl) rfl rfl (oPickF (eR rfl) rfl eC (oMov eZ (gSkip eZ rfl rfl (gSkip (eR rfl) rfl rfl (gSkip (eR rfl) rfl rfl (gSkip (eR rfl) rfl rfl (gSkip (eR rfl) rfl rfl (oPickF (eR rfl) rfl eC (oMov eZ (xQ (AW.weaken (wk_mk [256] (kr 5 rfl rfl SL.nil) (BL.drop rfl BL.nil) BK.nil) (AW.ret ?_)))))))))))))))))))))))))))
  cases H
  exact eE rfl rfl
theorem c_slices_IndexFunc_Lock__LocksHold_1 {a1 : (List TLock)} {a2 : Int} {a3 : Int} {a4 : TRange} {r : Int} (H : m_slices_IndexFunc_Lock__LocksHold_1 a1 a2 a3 a4 = some r) : Fn Try.prog 103 (lent [(.sl 4 (List.map d_TLock a1)), (.fn 75 [.ptr (d_i64 a2), .ptr (d_i64 a3), .ptr (d_TRange a4)])]) true [(.int .i64 r)] := by
 refine f103 (fle rfl) ?_
 rw [init_mk]
 refine AW.weaken (wk_mk [] (kv 0 (.one (.d (.sl 4 (List.map d_TLock a1)))) rfl rfl (SL.cons (v := (.one (.fn 75 [(.bd (d_i64 a2) 0), (.bd (d_i64 a3) 0), (.bd (d_TRange a4) 0)]))) (eS rfl eZ) rfl (VWk.one (CWk.fn (css := [d_i64 a2, d_i64 a3, d_TRange a4]))) SL.nil)) BL.nil BK.nil) ?_
 unfold m_slices_IndexFunc_Lock__LocksHold_1 at H
 unfold i103
 refine aV (oMov eC (xQ (AW.seqJ (fun t5 : Unit => slices_IndexFunc_Lock__LocksHold_1_j5 t5 = some r) (fun t5 => mk [] [] noG) ?_ ?_)))
 ·intro t5 H
  unfold slices_IndexFunc_Lock__LocksHold_1_j5 at H
  refine aV (oMov eC (xQ (AW.ret ?_)))
  cases H
  exact eE rfl rfl
 ·refine aV (oMov (eR rfl) (oLenD eZ (n := a1.length) (List.length_map _) (oMov eC (xQ (AW.block (AW.iter (fun s7 : Int => mk [(0, (.one (.d (.sl 4 (List.map d_TLock a1))))), (1, (.one (.fn 75 [(.bd (d_i64 a2) 0), (.bd (d_i64 a3) 0), (.bd (d_TRange a4) 0)]))), (7, (oI (a1.length : Int))), (8, (oI s7))] [] noG) H (wk_mk [] (kR rfl rfl (kR rfl rfl (kR rfl rfl (kR rfl rfl SL.nil)))) BL.nil BK.nil) ?_))))))
  intro kb8 s7 H
  unfold slices_IndexFunc_Lock__LocksHold_1_b7 at H
  refine aV (oLss (eR rfl) (eR rfl) (xQ (aS ?_)))
  rcases oite H with ⟨h9, H⟩ | ⟨h9, H⟩
  ·refine AW.condT eZ (dT h9) (AW.skip (TQ.qn (aS (AW.block (aV (oMov (eR rfl) (oMov eZ (xQ (aV (oMov (eR rfl) (oMov (eR rfl) (oMov (eR rfl) ?_))))))))))))
   obtain ⟨v10, h11, H⟩ := obind H
   refine oAtD (eR rfl) eZ h11 (oLoadBA (es := [(dI v10.Tx), (dI v10.Lo), (dI v10.Hi), (dI v10.Mode)]) eZ rfl ?_)
   obtain ⟨v12, h13, H⟩ := obind H
   refine oCall (u := (oB v12)) (eR rfl) Cl.fn (c_impl_LocksHold_1 h13) (Evs.cons eZ Evs.nil) (VDs.cons (VD.agg rfl) (VDs.cons VD.ptrB (VDs.cons VD.ptrB (VDs.cons VD.ptrB VDs.nil)))) rfl (xQ ?_)
   rcases oite H with ⟨h14, H⟩ | ⟨h14, H⟩
   ·refine AW.condT eZ h14 (aV (oMov (eR rfl) (oMov eZ (xQ (AW.ret (BQ.qr (TQ.qr (TQ.qr (BQ.qr (TQ.qr ?_))))))))))
    cases H
    exact eE rfl rfl
   ·exact AW.condF eZ (nt h14) (AW.skip (BQ.qn (TQ.qn (aR (oAdd (eR rfl) eC (oMov eZ (xNil (TQ.qn ⟨(IntKind.wrap .i64 (s7 + 1)), H, (wk_mk [] (kR rfl rfl (kR rfl rfl (kR rfl rfl (kR rfl rfl SL.nil)))) BL.nil BK.nil)⟩))))))))
  ·exact AW.condF eZ (dF h9) (AW.exit (TQ.qe (TQ.qe (BQ.qe (TQ.qn ⟨(), H, (wk_mk [] SL.nil BL.nil BK.nil)⟩)))))
theorem c_slices_ContainsFunc_Lock__LocksHold_1 {a1 : (List TLock)} {a2 : Int} {a3 : Int} {a4 : TRange} {r : Bool} (H : m_slices_ContainsFunc_Lock__LocksHold_1 a1 a2 a3 a4 = some r) : Fn Try.prog 72 (lent [(.sl 4 (List.map d_TLock a1)), (.fn 75 [.ptr (d_i64 a2), .ptr (d_i64 a3), .ptr (d_TRange a4)])]) true [(.bool r)] := by
 refine f72 (fle rfl) ?_
 rw [init_mk]
 refine AW.weaken (wk_mk [] (kv 0 (.one (.d (.sl 4 (List.map d_TLock a1)))) rfl rfl (SL.cons (v := (.one (.fn 75 [(.bd (d_i64 a2) 0), (.bd (d_i64 a3) 0), (.bd (d_TRange a4) 0)]))) (eS rfl eZ) rfl (VWk.one (CWk.fn (css := [d_i64 a2, d_i64 a3, d_TRange a4]))) SL.nil)) BL.nil BK.nil) ?_
 unfold m_slices_ContainsFunc_Lock__LocksHold_1 at H
 unfold i72
 refine aV (oMov eC (xQ (aV (oMov (eR rfl) (oMov (eR rfl) ?_)))))
 obtain ⟨v5, h6, H⟩ := obind H
 refine oCall (u := (oI v5)) eC Cl.fn (c_slices_IndexFunc_Lock__LocksHold_1 h6) (Evs.cons (eR rfl) (Evs.cons eZ Evs.nil)) (VDs.cons VD.plain (VDs.cons (VD.fn (PDs.cons VD.ptrB (PDs.cons VD.ptrB (PDs.cons VD.ptrB PDs.nil)))) VDs.nil)) rfl (oGeq eZ eC (oMov eZ (xQ (AW.ret ?_))))
 cases H
 exact eE rfl rfl
theorem c_impl_LocksHold {a1 : (List TLock)} {a2 : Int} {a3 : TRange} {a4 : Int} {r : Bool} (H : m_impl_LocksHold a1 a2 a3 a4 = some r) : Fn Try.prog 29 (lent [(.sl 4 (List.map d_TLock a1)), (.int .i64 a2), (.agg (d_TRange a3)), (.int .i64 a4)]) true [(.bool r)] := by
 refine f29 (fle rfl) ?_
 rw [init_mk]
 refine AW.weaken (wk_mk [] (kv 0 (.one (.d (.sl 4 (List.map d_TLock a1)))) rfl rfl (kv 1 (oI a2) rfl rfl (kv 2 (.agg [(dI a3.Lo), (dI a3.Hi)]) rfl rfl (kv 3 (oI a4) rfl rfl SL.nil)))) BL.nil BK.nil) ?_
 unfold m_impl_LocksHold at H
 unfold i29
 refine aV (oBox (n := 320) (m := 1) (cs := [(dI a2)]) rfl (eR rfl) rfl rfl nZ (oBox (n := 384) (m := 2) (cs := [(dI a3.Lo), (dI a3.Hi)]) rfl (eR rfl) rfl rfl (nS rfl nZ) (oBox (n := 448) (m := 1) (cs := [(dI a4)]) rfl (eR rfl) rfl rfl (nS rfl (nS rfl nZ)) (oMov eC (xQ (aV (oMov (eR rfl) ?_)))))))
 obtain ⟨v5, h6, H⟩ := obind H
 refine oCall (u := (oB v5)) eC Cl.fn (c_impl_LocksOk h6) (Evs.cons eZ Evs.nil) (VDs.cons VD.plain VDs.nil) rfl (oMov eZ ?_)
 rcases oite H with ⟨h7, H⟩ | ⟨h7, H⟩
 ·refine gDo eZ h7 (oLoadVA (es := [(dI a3.Lo), (dI a3.Hi)]) (eR rfl) (bS rfl bZ) rfl (gDo (eR rfl) h7 ?_))
  obtain ⟨v8, h9, H⟩ := obind H
  refine oCall (u := (oB v8)) eC Cl.fn (c_impl_RangeOk h9) (Evs.cons eZ Evs.nil) (VDs.cons (VD.agg rfl) VDs.nil) rfl (oPickT (eR rfl) h7 eZ (oMov eZ ?_))
  rcases oite H with ⟨h10, H⟩ | ⟨h10, H⟩
  ·refine gDo eZ h10 (oLoadV (q := 0) (c := (dI a4)) (eR rfl) bZ rfl rfl (gDo (eR rfl) h10 ?_))
   obtain ⟨v11, h12, H⟩ := obind H
   refine oCall (u := (oB v11)) eC Cl.fn (c_impl_isMode h12) (Evs.cons eZ Evs.nil) (VDs.cons VD.plain VDs.nil) rfl (oPickT (eR rfl) h10 eZ (oMov eZ ?_))
   rcases oite H with ⟨h13, H⟩ | ⟨h13, H⟩
   ·refine gDo eZ h13 (oMov (eR rfl) (gDo (eR rfl) h13 (oMkfn (ps := [(.nm 320 0 0), (.nm 448 0 0), (.nm 384 0 0)]) (Evs.cons (eR rfl) (Evs.cons (eR rfl) (Evs.cons (eR rfl) Evs.nil))) (gDo (eR rfl) h13 ?_))))
    obtain ⟨v14, h15, H⟩ := obind H
    refine oCall (u := (oB v14)) eC Cl.fn (c_slices_ContainsFunc_Lock__LocksHold_1 h15) (Evs.cons (eR rfl) (Evs.cons eZ Evs.nil)) (VDs.cons VD.plain (VDs.cons (VD.fn (PDs.cons (VD.ptrN (bS rfl (bS rfl bZ)) (CDs.plain CDs.nil)) (PDs.cons (VD.ptrN bZ (CDs.plain CDs.nil)) (PDs.cons (VD.ptrN (bS rfl bZ) (CDs.plain (CDs.plain CDs.nil))) PDs.nil)))) VDs.nil)) rfl (oPickT (eR rfl) h13 eZ (oMov eZ (xQ (AW.weaken (wk_mk [448, 384, 320] (kr 8 rfl rfl SL.nil) (BL.drop rfl (BL.drop rfl (BL.drop rfl BL.nil))) BK.nil) (AW.ret ?_)))))
    cases H
    exact eE rfl rfl
   ·refine gSkip eZ (nt h13) rfl (gSkip (eR rfl) (nt h13) rfl (gSkip (eR rfl) (nt h13) rfl (oPickF (eR rfl) (nt h13) eC (oMov eZ (xQ (AW.weaken (wk_mk [448, 384, 320] (kr 8 rfl rfl SL.nil) (BL.drop rfl (BL.drop rfl (BL.drop rfl BL.nil))) BK.nil) (AW.ret ?_)))))))
    cases H
    exact eE rfl rfl
  ·refine gSkip eZ (nt h10) rfl (gSkip (eR rfl) (nt h10) rfl (oPickF (eR rfl) (nt h10) eC (oMov eZ (gSkip eZ rfl rfl (gSkip (eR rfl) rfl rfl (gSkip (eR rfl) rfl rfl (oPickF (eR rfl) rfl eC (oMov eZ (xQ (AW.weaken (wk_mk [448, 384, 320] (kr 8 rfl rfl SL.nil) (BL.drop rfl (BL.drop rfl (BL.drop rfl BL.nil))) BK.nil) (AW.ret ?_)))))))))))
   cases H
   exact eE rfl rfl
 ·refine gSkip eZ (nt h7) rfl (gSkip (eR rfl) (nt h7) rfl (oPickF (eR rfl) (nt h7) eC (oMov eZ (gSkip eZ rfl rfl (gSkip (eR rfl) rfl rfl (oPickF (eR rfl) rfl eC (oMov eZ (gSkip eZ rfl rfl (gSkip (eR rfl) rfl rfl (gSkip (eR rfl) rfl rfl (oPickF (eR rfl) rfl eC (oMov eZ (xQ (AW.weaken (wk_mk [448, 384, 320] (kr 8 rfl rfl SL.nil) (BL.drop rfl (BL.drop rfl (BL.drop rfl BL.nil))) BK.nil) (AW.ret ?_)))))))))))))))
  cases H
  exact eE rfl rfl
theorem c_cmp_isNaN_int {a1 : Int} {r : Bool} (H : m_cmp_isNaN_int a1 = some r) : Fn Try.prog 140 (lent [(.int .i64 a1)]) true [(.bool r)] := by
 refine f140 (fle rfl) ?_
 rw [init_mk]
 refine AW.weaken (wk_mk [] (kv 0 (oI a1) rfl rfl SL.nil) BL.nil BK.nil) ?_
 unfold m_cmp_isNaN_int at H
 unfold i140
 refine aV (oMov eC (xQ (aV (oMov (eR rfl) (oMov (eR rfl) (oNeq (eR rfl) eZ (oMov eZ (xQ (AW.ret ?_)))))))))
 cases H
 exact eE rfl rfl
theorem c_cmp_Less_int {a1 : Int} {a2 : Int} {r : Bool} (H : m_cmp_Less_int a1 a2 = some r) : Fn Try.prog 134 (lent [(.int .i64 a1), (.int .i64 a2)]) true [(.bool r)] := by
 refine f134 (fle rfl) ?_
 rw [init_mk]
 refine AW.weaken (wk_mk [] (kv 0 (oI a1) rfl rfl (kv 1 (oI a2) rfl rfl SL.nil)) BL.nil BK.nil) ?_
 unfold m_cmp_Less_int at H
 unfold i134
 refine aV (oMov eC (xQ (aV (oMov (eR rfl) ?_))))
 obtain ⟨v3, h4, H⟩ := obind H
 refine oCall (u := (oB v3)) eC Cl.fn (c_cmp_isNaN_int h4) (Evs.cons eZ Evs.nil) (VDs.cons VD.plain VDs.nil) rfl (oMov eZ ?_)
 rcases oite H with ⟨h5, H⟩ | ⟨h5, H⟩
 ·refine gDo eZ h5 (oMov (eR rfl) (gDo (eR rfl) h5 ?_))
  obtain ⟨v6, h7, H⟩ := obind H
  refine oCall (u := (oB v6)) eC Cl.fn (c_cmp_isNaN_int h7) (Evs.cons eZ Evs.nil) (VDs.cons VD.plain VDs.nil) rfl (gDo (eR rfl) h5 (oInv eZ (oPickT (eR rfl) h5 eZ (oMov eZ ?_))))
  rcases oite H with ⟨h8, H⟩ | ⟨h8, H⟩
  ·refine gDo eZ (cN h8) (oMov (eR rfl) (gDo (eR rfl) (cN h8) (oMov (eR rfl) (gDo (eR rfl) (cN h8) (oLss (eR rfl) eZ (oPickF (eR rfl) (cN h8) eZ (oMov eZ (xQ (AW.weaken (wk_mk [] (kr 4 rfl rfl SL.nil) BL.nil BK.nil) (AW.ret ?_))))))))))
   cases H
   exact eE rfl rfl
  ·refine gSkip eZ (cN (nt h8)) rfl (gSkip (eR rfl) (cN (nt h8)) rfl (gSkip (eR rfl) (cN (nt h8)) rfl (oPickT (eR rfl) (cN (nt h8)) eC (oMov eZ (xQ (AW.weaken (wk_mk [] (kr 4 rfl rfl SL.nil) BL.nil BK.nil) (AW.ret ?_)))))))
   cases H
   exact eE rfl rfl
 ·refine gSkip eZ (nt h5) rfl (gSkip (eR rfl) (nt h5) rfl (gSkip (eR rfl) (nt h5) rfl (oPickF (eR rfl) (nt h5) eC (oMov eZ (gDo eZ rfl (oMov (eR rfl) (gDo (eR rfl) rfl (oMov (eR rfl) (gDo (eR rfl) rfl (oLss (eR rfl) eZ (oPickF (eR rfl) rfl eZ (oMov eZ (xQ (AW.weaken (wk_mk [] (kr 4 rfl rfl SL.nil) BL.nil BK.nil) (AW.ret ?_)))))))))))))))
  cases H
  exact eE rfl rfl
theorem c_slices_isNaN_int {a1 : Int} {r : Bool} (H : m_slices_isNaN_int a1 = some r) : Fn Try.prog 135 (lent [(.int .i64 a1)]) true [(.bool r)] := by
 refine f135 (fle rfl) ?_
 rw [init_mk]
 refine AW.weaken (wk_mk [] (kv 0 (oI a1) rfl rfl SL.nil) BL.nil BK.nil) ?_
 unfold m_slices_isNaN_int at H
 unfold i135
 refine aV (oMov eC (xQ (aV (oMov (eR rfl) (oMov (eR rfl) (oNeq (eR rfl) eZ (oMov eZ (xQ (AW.ret ?_)))))))))
 cases H
 exact eE rfl rfl
theorem c_slices_BinarySearch_int {a1 : (List Int)} {a2 : Int} {r : (Int × Bool)} (H : m_slices_BinarySearch_int a1 a2 = some r) : Fn Try.prog 127 (lent [(.sl 1 (List.map d_i64 a1)), (.int .i64 a2)]) true [(.int .i64 r.1), (.bool r.2)] := by
 refine f127 (fle rfl) ?_
 rw [init_mk]
 refine AW.weaken (wk_mk [] (kv 0 (.one (.d (.sl 1 (List.map d_i64 a1)))) rfl rfl (kv 1 (oI a2) rfl rfl SL.nil)) BL.nil BK.nil) ?_
 unfold m_slices_BinarySearch_int at H
 unfold i127
 refine aV (oMov eC (oMov eC (xQ (aV (oMov (eR rfl) (oLenD eZ (n := a1.length) (List.length_map _) (oMov eZ (xQ (aV (oMov eZ (oMov eC (oMov (eR rfl) (xQ (AW.seqJ (fun t3 : Int => (slices_BinarySearch_int_j3 a1 a2) t3 = some r) (fun t3 => mk [(0, (.one (.d (.sl 1 (List.map d_i64 a1))))), (1, (oI a2)), (6, (oI (a1.length : Int))), (7, (oI t3))] [] noG) ?_ ?_))))))))))))))
 ·intro t3 H
  unfold slices_BinarySearch_int_j3 at H
  refine aV (oMov (eR rfl) (oMov (eR rfl) (oMov (eR rfl) (oLss (eR rfl) eZ (oMov eZ ?_)))))
  rcases oite H with ⟨h5, H⟩ | ⟨h5, H⟩
  ·refine gDo eZ (dT h5) (oMov (eR rfl) (gDo (eR rfl) (dT h5) (oMov (eR rfl) (gDo (eR rfl) (dT h5) ?_))))
   obtain ⟨v6, h7, H⟩ := obind H
   refine oAtD (eR rfl) eZ h7 (gDo (eR rfl) (dT h5) (oLoadB (e := (.int .i64 v6)) eZ rfl (gDo (eR rfl) (dT h5) (oMov (eR rfl) (gDo (eR rfl) (dT h5) (oEql (eR rfl) eZ (gDo (eR rfl) (dT h5) (oMov eZ ?_))))))))
   rcases oite H with ⟨h8, H⟩ | ⟨h8, H⟩
   ·refine gSkip eZ (dT h8) rfl (gSkip (eR rfl) (dT h8) rfl (gSkip (eR rfl) (dT h8) rfl (gSkip (eR rfl) (dT h8) rfl (gSkip (eR rfl) (dT h8) rfl (gSkip (eR rfl) (dT h8) rfl (gSkipU eZ rfl (gSkipU (eR rfl) rfl (gSkip (eR rfl) (dT h8) rfl (gDo (eR rfl) (dT h5) (oPickT (eR rfl) (dT h8) eC (oPickT (eR rfl) (dT h5) eZ (oMov (eR rfl) (oMov (eR rfl) (xQ (AW.weaken (wk_mk [] (kr 5 rfl rfl (kr 4 rfl rfl SL.nil)) BL.nil BK.nil) (AW.ret ?_))))))))))))))))
    cases H
    exact endsR (RL.cons (RV.tmp (eR rfl)) (VO.flat rfl) (RL.cons (RV.tmp eZ) (VO.flat rfl) RL.nil)) List.nodup_nil
   ·refine gDo eZ (dF h8) (oMov (eR rfl) (gDo (eR rfl) (dF h8) (oMov (eR rfl) (gDo (eR rfl) (dF h8) ?_))))
    obtain ⟨v9, h10, H⟩ := obind H
    refine oAtD (eR rfl) eZ h10 (gDo (eR rfl) (dF h8) (oLoadB (e := (.int .i64 v9)) eZ rfl (gDo (eR rfl) (dF h8) ?_)))
    obtain ⟨v11, h12, H⟩ := obind H
    refine oCall (u := (oB v11)) eC Cl.fn (c_slices_isNaN_int h12) (Evs.cons eZ Evs.nil) (VDs.cons VD.plain VDs.nil) rfl (gDo (eR rfl) (dF h8) (oMov eZ ?_))
    rcases oite H with ⟨h13, H⟩ | ⟨h13, H⟩
    ·refine gDo eZ h13 (oMov (eR rfl) (gDo (eR rfl) h13 ?_))
     obtain ⟨v14, h15, H⟩ := obind H
     refine oCall (u := (oB v14)) eC Cl.fn (c_slices_isNaN_int h15) (Evs.cons eZ Evs.nil) (VDs.cons VD.plain VDs.nil) rfl (gDo (eR rfl) (dF h8) (oPickT (eR rfl) h13 eZ (gDo (eR rfl) (dT h5) (oPickF (eR rfl) (dF h8) eZ (oPickT (eR rfl) (dT h5) eZ (oMov (eR rfl) (oMov (eR rfl) (xQ (AW.weaken (wk_mk [] (kr 5 rfl rfl (kr 4 rfl rfl SL.nil)) BL.nil BK.nil) (AW.ret ?_))))))))))
     cases H
     exact endsR (RL.cons (RV.tmp (eR rfl)) (VO.flat rfl) (RL.cons (RV.tmp eZ) (VO.flat rfl) RL.nil)) List.nodup_nil
    ·refine gSkip eZ (nt h13) rfl (gSkip (eR rfl) (nt h13) rfl (gDo (eR rfl) (dF h8) (oPickF (eR rfl) (nt h13) eC (gDo (eR rfl) (dT h5) (oPickF (eR rfl) (dF h8) eZ (oPickT (eR rfl) (dT h5) eZ (oMov (eR rfl) (oMov (eR rfl) (xQ (AW.weaken (wk_mk [] (kr 5 rfl rfl (kr 4 rfl rfl SL.nil)) BL.nil BK.nil) (AW.ret ?_)))))))))))
     cases H
     exact endsR (RL.cons (RV.tmp (eR rfl)) (VO.flat rfl) (RL.cons (RV.tmp eZ) (VO.flat rfl) RL.nil)) List.nodup_nil
  ·refine gSkip eZ (dF h5) rfl (gSkip (eR rfl) (dF h5) rfl (gSkip (eR rfl) (dF h5) rfl (gSkip (eR rfl) (dF h5) rfl (gSkip (eR rfl) (dF h5) rfl (gSkip (eR rfl) (dF h5) rfl (gSkip (eR rfl) (dF h5) rfl (gSkipU eZ rfl (gSkipU (eR rfl) rfl (gSkipU (eR rfl) rfl (gSkipU (eR rfl) rfl (gSkipU (eR rfl) rfl (gSkipU (eR rfl) rfl (gSkipU eZ rfl (gSkipU (eR rfl) rfl (gSkipU (eR rfl) rfl (gSkip (eR rfl) (dF h5) rfl (oPickF (eR rfl) (dF h5) eC (oMov (eR rfl) (oMov (eR rfl) (xQ (AW.weaken (wk_mk [] (kr 5 rfl rfl (kr 4 rfl rfl SL.nil)) BL.nil BK.nil) (AW.ret ?_))))))))))))))))))))))
   cases H
   exact endsR (RL.cons (RV.tmp (eR rfl)) (VO.flat rfl) (RL.cons (RV.tmp eZ) (VO.flat rfl) RL.nil)) List.nodup_nil
 ·refine AW.block (AW.iter (fun s16 : (Int × Int) => mk [(0, (.one (.d (.sl 1 (List.map d_i64 a1))))), (1, (oI a2)), (6, (oI (a1.length : Int))), (7, (oI s16.1)), (8, (oI s16.2))] [] noG) H (wk_mk [] (kR rfl rfl (kR rfl rfl (kR rfl rfl (kR rfl rfl (kR rfl rfl SL.nil))))) BL.nil BK.nil) ?_)
  intro kb17 s16 H
  unfold slices_BinarySearch_int_b16 at H
  refine aS (aV (oMov (eR rfl) (oMov (eR rfl) (oLss (eR rfl) eZ (xQ ?_)))))
  rcases oite H with ⟨h18, H⟩ | ⟨h18, H⟩
  ·refine AW.condT eZ (dT h18) (AW.skip (TQ.qn (AW.block (aV (oMov (eR rfl) (oMov (eR rfl) (oAdd (eR rfl) eZ (oConv eZ (oShr eZ eC (by decide) (oConv eZ (oMov eZ (xQ (aV (oMov (eR rfl) (oMov (eR rfl) ?_)))))))))))))))
   obtain ⟨v19, h20, H⟩ := obind H
   refine oAtD (eR rfl) eZ h20 (oLoadB (e := (.int .i64 v19)) eZ rfl (oMov (eR rfl) ?_))
   obtain ⟨v21, h22, H⟩ := obind H
   refine oCall (u := (oB v21)) eC Cl.fn (c_cmp_Less_int h22) (Evs.cons (eR rfl) (Evs.cons eZ Evs.nil)) (VDs.cons VD.plain (VDs.cons VD.plain VDs.nil)) rfl (xQ (AW.weaken (wk_mk [] (kr 27 rfl rfl (kr 9 rfl rfl (kr 0 rfl rfl (kr 1 rfl rfl (kr 6 rfl rfl (kr 7 rfl rfl (kr 8 rfl rfl SL.nil))))))) BL.nil BK.nil) ?_))
   rcases oite H with ⟨h23, H⟩ | ⟨h23, H⟩
   ·exact AW.condT eZ h23 (aR (oMov (eR rfl) (oAdd eZ eC (oMov eZ (xNil (BQ.qn (TQ.qn ⟨((IntKind.wrap .i64 ((IntKind.wrap .i64 (Int.fdiv (IntKind.wrap .u64 (IntKind.wrap .i64 (s16.1 + s16.2))) (2 ^ (min (Int.toNat 1) (IntKind.bits .u64))))) + 1)), s16.2), H, (wk_mk [] (kR rfl rfl (kR rfl rfl (kR rfl rfl (kR rfl rfl (kR rfl rfl SL.nil))))) BL.nil BK.nil)⟩)))))))
   ·exact AW.condF eZ (nt h23) (aR (oMov (eR rfl) (oMov eZ (xNil (BQ.qn (TQ.qn ⟨(s16.1, (IntKind.wrap .i64 (Int.fdiv (IntKind.wrap .u64 (IntKind.wrap .i64 (s16.1 + s16.2))) (2 ^ (min (Int.toNat 1) (IntKind.bits .u64)))))), H, (wk_mk [] (kR rfl rfl (kR rfl rfl (kR rfl rfl (kR rfl rfl (kR rfl rfl SL.nil))))) BL.nil BK.nil)⟩))))))
  ·exact AW.condF eZ (dF h18) (AW.exit (TQ.qe (TQ.qe (BQ.qe (TQ.qn ⟨s16.1, H, (wk_mk [] (kR rfl rfl (kR rfl rfl (kR rfl rfl (kR rfl rfl SL.nil)))) BL.nil BK.nil)⟩)))))
theorem c_slices_Clone_int {a1 : (List Int)} {r : (List Int)} (H : m_slices_Clone_int a1 = some r) : Fn Try.prog 129 (lent [(.sl 1 (List.map d_i64 a1))]) true [(.sl 1 (List.map d_i64 r))] := by
 refine f129 (fle rfl) ?_
 rw [init_mk]
 refine AW.weaken (wk_mk [] (kv 0 (.one (.d (.sl 1 (List.map d_i64 a1)))) rfl rfl SL.nil) BL.nil BK.nil) ?_
 unfold m_slices_Clone_int at H
 unfold i129
 refine aV (oMov eC (xQ (AW.seqJ (fun t2 : Unit => (slices_Clone_int_j2 a1) t2 = some r) (fun t2 => mk [(0, (.one (.d (.sl 1 (List.map d_i64 a1)))))] [] noG) ?_ ?_)))
 ·intro t2 H
  unfold slices_Clone_int_j2 at H
  refine aV (oBsliceZ (m := 320) rfl nZ (oMov (eR rfl) ?_))
  obtain ⟨h4, H⟩ := oguard H
  refine oAppZ (f := d_i64) (m := 448) (own := true) (ys := a1) (q := a1.length) rfl rfl (eR rfl) eZ (El.lent fun _ _ => rfl) rfl h4 (by decide) nZ (oMov eZ (xQ (AW.ret ?_)))
  cases H
  exact endsR (RL.cons (RV.tmp eZ) (VO.sl bZ (List.length_map _) (allFlat fun _ => rfl)) RL.nil) (by decide)
 ·refine aV (oMov (eR rfl) ?_)
  rcases oite H with ⟨h5, H⟩ | ⟨h5, H⟩
  ·refine oNilD0 eZ h5 (xQ (AW.condU eZ ?_ ?_))
   ·have H : (some ([] : (List Int))) = some r := by rw [← H]; simp [List.eq_nil_of_length_eq_zero h5, slices_Clone_int_j2]
    refine aV (oMov eC (xQ (AW.ret (TQ.qr ?_))))
    cases H
    exact endsR (RL.cons (RV.tmp eZ) VO.zs RL.nil) List.nodup_nil
   ·exact AW.skip (TQ.qn ⟨(), H, (wk_mk [] (kR rfl rfl SL.nil) BL.nil BK.nil)⟩)
  ·exact oNilD eZ h5 (xQ (AW.condF eZ rfl (AW.skip (TQ.qn ⟨(), H, (wk_mk [] (kR rfl rfl SL.nil) BL.nil BK.nil)⟩))))
theorem c_slices_Insert_int {a1 : List Int} {a2 : Int} {a3 r : List Int} (H : m_slices_Insert_int a1 a2 a3 = some r) : Fn Try.prog 128 [⟨(.sl 1 (List.map d_i64 a1)), .g⟩, ⟨(.int .i64 a2), .b⟩, ⟨(.sl 1 (List.map d_i64 a3)), .g⟩] true [(.sl 1 (List.map d_i64 r))] := by
 obtain ⟨⟨h1, h2, h3, h4⟩, H⟩ := oguard H
 cases H
 obtain ⟨i, rfl⟩ : ∃ i : Nat, a2 = (i : Int) := ⟨Int.toNat a2, by omega⟩
 obtain ⟨x, rfl⟩ := List.length_eq_one_iff.1 h3
 rw [Int.toNat_natCast]
 refine m128 (fle rfl) (fC nZ rfl (fC nZ rfl fN)) rfl ?_
 rw [initM_mk]
 exact AW.weaken (t := mk [(0, .one (.sl 0 0 a1.length)), (1, .one (dI (i : Int))), (2, .one (.sl 128 0 1))] [(128, .data 1 (List.map d_i64 [x]) true none), (0, .data 1 (List.map d_i64 a1) true none)] (lk [])) (wk_mkG (gl := []) [] (SL.cons (v := (.one (.sl 0 0 a1.length))) eZ rfl (VWk.one (CWk.len (by simp))) (SL.cons (v := (oI (i : Int))) (eS rfl eZ) rfl VWk.rfl (SL.cons (v := (.one (.sl 128 0 1))) (eS rfl (eS rfl eZ)) rfl (VWk.one (CWk.len (by simp))) SL.nil))) (BL.keep rfl (BL.keep rfl BL.nil)) (BK.cons (n := 128) rfl bZ rfl rfl (BK.cons (n := 0) rfl (bS rfl bZ) rfl rfl BK.nil)) GK.nil) (insAW (f := d_i64) (zv := 0) (sz := 1) (bytes := 8) (zs := [(.int .i64 0)]) (ov := 136) (sx := 137) (fun _ => rfl) rfl (by decide) (by decide) (by omega) (by omega) (ovlOk (fn := Try.f136) (tS := 43) (tR := 4) (e := 3) Try.func136 (by kernel_rfl) (by kernel_rfl) (by kernel_rfl) (by kernel_rfl) Try.underlying43 (Option.some_get (by kernel_rfl : (Try.prog.info? 3).isSome = true)).symm))
theorem c_impl_inserted {a1 : (List Int)} {a2 : Int} {r : (List Int)} (H : m_impl_inserted a1 a2 = some r) : Fn Try.prog 102 [⟨(.sl 1 (List.map d_i64 a1)), .g⟩, ⟨(.int .i64 a2), .b⟩] true [(.sl 1 (List.map d_i64 r))] := by
 refine m102 (fle rfl) (fC nZ rfl fN) rfl ?_
 rw [initM_mk]
 refine AW.weaken (t := mk [(0, (.one (.sl 0 0 a1.length))), (1, (oI a2))] [(0, (.data 1 (List.map d_i64 a1) true none))] (lk [])) (wk_mkG (gl := []) [] (SL.cons (v := (.one (.sl 0 0 a1.length))) eZ rfl (VWk.one (CWk.len (List.length_map _))) (kv 1 (oI a2) rfl rfl SL.nil)) (BL.keep rfl BL.nil) (BK.cons (n := 0) rfl bZ rfl rfl BK.nil) GK.nil) ?_
 unfold m_impl_inserted at H
 unfold i102
 refine aV (oMov eC (xQ (aV (oMov (eR rfl) (oMov (eR rfl) ?_)))))
 obtain ⟨v3, h4, H⟩ := obind H
 refine oCall (u := (.tup [(oI v3.1), (oB v3.2)])) eC Cl.fn (c_slices_BinarySearch_int h4) (Evs.cons (eR rfl) (Evs.cons eZ Evs.nil)) (VDs.cons (VD.sl bZ (List.length_map _)) (VDs.cons VD.plain VDs.nil)) rfl (oMov eZ (oExt (v := (oI v3.1)) eZ rfl (oExt (v := (oB v3.2)) (eR rfl) rfl (oMov (eR rfl) (oMov (eR rfl) (xQ (aS (aV (oMov eZ (xQ ?_))))))))))
 rcases oite H with ⟨h5, H⟩ | ⟨h5, H⟩
 ·refine AW.condT eZ h5 (aV (oMov (eR rfl) (oMov eZ (xQ (AW.ret (TQ.qr ?_))))))
  cases H
  exact endsRM (RL.cons (RV.tmp eZ) (VO.sl bZ (List.length_map _) (allFlat fun _ => rfl)) RL.nil) (ML.give (ML.lent ML.nil)) (by decide)
 ·refine AW.condF eZ (nt h5) (AW.skip (TQ.qn (aS (AW.regm (rmOne (oMov (eR rfl) (xNil (rmOne ?_))))))))
  obtain ⟨v6, h7, H⟩ := obind H
  refine oCallN (u := (.one (.sl 1024 0 v6.length))) (bs := [(1024, (.data 1 (List.map d_i64 v6) true none))]) eC Cl.fn (c_slices_Clone_int h7) (Evs.cons eZ Evs.nil) (VDs.cons (VD.sl bZ (List.length_map _)) VDs.nil) (by simp [bindR, bindV, bindVs, bindC, bindCs]) rfl (fC (nS rfl nZ) rfl (fC (nS rfl nZ) rfl fN)) (xNil (rmOne (oMov (eR rfl) (xNil (rmOne (oMov (eR rfl) (xNil (rmOne (oBslice (m := 1216) (q := 1) (cs := [(dI a2)]) rfl (PsCons eZ PsNil) rfl (List.cons_ne_nil _ _) (by simp) (nS rfl (nS rfl nZ)) (xNil ?_))))))))))
  obtain ⟨v8, h9, H⟩ := obind H
  refine rmWeaken (wk_dataF 1216 (zs := []) (f := d_i64) (t := a2) bZ rfl rfl) (rmCall (ON := [1024, 1216]) (ls := []) (G := [1024, 1216]) (E := [1024, 1216]) (MB := []) (u := (.one (.sl 1280 0 v8.length))) (bs := [(1280, (.data 1 (List.map d_i64 v8) true none))]) eC Cl.fn (c_slices_Insert_int h9) (Evs.cons (eR rfl) (Evs.cons (eR rfl) (Evs.cons eZ Evs.nil))) (AO.give (VO.sl (bS rfl (bS rfl bZ)) (List.length_map _) (allFlat fun _ => rfl)) (AO.lent VD.plain rfl (AO.give (VO.sl bZ rfl (allFlat fun _ => rfl)) AO.nil))) rfl rfl rfl SZ.nil (erL.cons (v' := (.one .any)) rfl (erL.cons (v' := (oI a2)) rfl (erL.cons (v' := (oI v3.1)) rfl (erL.cons (v' := (.one .any)) rfl (erL.cons (v' := (.one (.sl 0 0 a1.length))) rfl (erL.cons (v' := (oB v3.2)) rfl (erL.cons (v' := (oB v3.2)) rfl (erL.cons (v' := (oI v3.1)) rfl (erL.cons (v' := (oB v3.2)) rfl (erL.cons (v' := (oI v3.1)) rfl (erL.cons (v' := (.tup [(oI v3.1), (oB v3.2)])) rfl (erL.cons (v' := (.tup [(oI v3.1), (oB v3.2)])) rfl (erL.cons (v' := (oI a2)) rfl (erL.cons (v' := (.one (.sl 0 0 a1.length))) rfl (erL.cons (v' := (.one .zs)) rfl (erL.cons (v' := (.one (.sl 0 0 a1.length))) rfl (erL.cons (v' := (oI a2)) rfl erL.nil))))))))))))))))) (erH.drop rfl (erH.drop rfl (erH.drop rfl (erH.cons (v' := (.data 1 (List.map d_i64 a1) true none)) rfl rfl erH.nil)))) erL.nil (by simp [bindR, bindV, bindVs, bindC, bindCs]) rfl (fC (nS rfl nZ) rfl (fC (nS rfl nZ) rfl fN)) (rmRest (oMov eZ (xQ (AW.weaken (wk_mkG [0] (kr 4 rfl rfl SL.nil) (BL.keep rfl (BL.drop rfl BL.nil)) (BK.cons (n := 1280) rfl bZ rfl rfl BK.nil) GK.nil) (AW.ret ?_))))))
  cases H
  exact endsRM (RL.cons (RV.tmp eZ) (VO.sl bZ (List.length_map _) (allFlat fun _ => rfl)) RL.nil) (ML.give (ML.lent ML.nil)) (by decide)
theorem c_slices_Index_int {a1 : (List Int)} {a2 : Int} {r : Int} (H : m_slices_Index_int a1 a2 = some r) : Fn Try.prog 104 (lent [(.sl 1 (List.map d_i64 a1)), (.int .i64 a2)]) true [(.int .i64 r)] := by
 refine f104 (fle rfl) ?_
 rw [init_mk]
 refine AW.weaken (wk_mk [] (kv 0 (.one (.d (.sl 1 (List.map d_i64 a1)))) rfl rfl (kv 1 (oI a2) rfl rfl SL.nil)) BL.nil BK.nil) ?_
 unfold m_slices_Index_int at H
 unfold i104
 refine aV (oMov eC (xQ (AW.seqJ (fun t3 : Unit => slices_Index_int_j3 t3 = some r) (fun t3 => mk [] [] noG) ?_ ?_)))
 ·intro t3 H
  unfold slices_Index_int_j3 at H
  refine aV (oMov eC (xQ (AW.ret ?_)))
  cases H
  exact eE rfl rfl
 ·refine aV (oMov (eR rfl) (oLenD eZ (n := a1.length) (List.length_map _) (oMov eC (xQ (AW.block (AW.iter (fun s5 : Int => mk [(0, (.one (.d (.sl 1 (List.map d_i64 a1))))), (1, (oI a2)), (7, (oI (a1.length : Int))), (8, (oI s5))] [] noG) H (wk_mk [] (kR rfl rfl (kR rfl rfl (kR rfl rfl (kR rfl rfl SL.nil)))) BL.nil BK.nil) ?_))))))
  intro kb6 s5 H
  unfold slices_Index_int_b5 at H
  refine aV (oLss (eR rfl) (eR rfl) (xQ (aS ?_)))
  rcases oite H with ⟨h7, H⟩ | ⟨h7, H⟩
  ·refine AW.condT eZ (dT h7) (AW.skip (TQ.qn (aS (AW.block (aV (oMov (eR rfl) (oMov eZ (xQ (aV (oMov (eR rfl) (oMov (eR rfl) (oMov (eR rfl) ?_))))))))))))
   obtain ⟨v8, h9, H⟩ := obind H
   refine oAtD (eR rfl) eZ h9 (oLoadB (e := (.int .i64 v8)) eZ rfl (oEql (eR rfl) eZ (xQ ?_)))
   rcases oite H with ⟨h10, H⟩ | ⟨h10, H⟩
   ·refine AW.condT eZ (dT h10) (aV (oMov (eR rfl) (oMov eZ (xQ (AW.ret (BQ.qr (TQ.qr (TQ.qr (BQ.qr (TQ.qr ?_))))))))))
    cases H
    exact eE rfl rfl
   ·exact AW.condF eZ (dF h10) (AW.skip (BQ.qn (TQ.qn (aR (oAdd (eR rfl) eC (oMov eZ (xNil (TQ.qn ⟨(IntKind.wrap .i64 (s5 + 1)), H, (wk_mk [] (kR rfl rfl (kR rfl rfl (kR rfl rfl (kR rfl rfl SL.nil)))) BL.nil BK.nil)⟩))))))))
  ·exact AW.condF eZ (dF h7) (AW.exit (TQ.qe (TQ.qe (BQ.qe (TQ.qn ⟨(), H, (wk_mk [] SL.nil BL.nil BK.nil)⟩)))))
theorem c_slices_Contains_int {a1 : (List Int)} {a2 : Int} {r : Bool} (H : m_slices_Contains_int a1 a2 = some r) : Fn Try.prog 66 (lent [(.sl 1 (List.map d_i64 a1)), (.int .i64 a2)]) true [(.bool r)] := by
 refine f66 (fle rfl) ?_
 rw [init_mk]
 refine AW.weaken (wk_mk [] (kv 0 (.one (.d (.sl 1 (List.map d_i64 a1)))) rfl rfl (kv 1 (oI a2) rfl rfl SL.nil)) BL.nil BK.nil) ?_
 unfold m_slices_Contains_int at H
 unfold i66
 refine aV (oMov eC (xQ (aV (oMov (eR rfl) (oMov (eR rfl) ?_)))))
 obtain ⟨v3, h4, H⟩ := obind H
 refine oCall (u := (oI v3)) eC Cl.fn (c_slices_Index_int h4) (Evs.cons (eR rfl) (Evs.cons eZ Evs.nil)) (VDs.cons VD.plain (VDs.cons VD.plain VDs.nil)) rfl (oGeq eZ eC (oMov eZ (xQ (AW.ret ?_))))
 cases H
 exact eE rfl rfl
theorem c_impl_clashing {a1 : (List TLock)} {a2 : (List Int)} {a3 : TLock} {r : ((List Int) × (List Int))} (H : m_impl_clashing a1 a2 a3 = some r) : Fn Try.prog 63 (lent [(.sl 4 (List.map d_TLock a1)), (.sl 1 (List.map d_i64 a2)), (.agg (d_TLock a3))]) true [(.sl 1 (List.map d_i64 r.1)), (.sl 1 (List.map d_i64 r.2))] := by
 refine f63 (fle rfl) ?_
 rw [init_mk]
 refine AW.weaken (t := mk [(0, (.one (.d (.sl 4 (List.map d_TLock a1))))), (1, (.one (.d (.sl 1 (List.map d_i64 a2))))), (2, (.agg [(dI a3.Tx), (dI a3.Lo), (dI a3.Hi), (dI a3.Mode)]))] [] (lk [])) (wk_mk [] (kv 0 (.one (.d (.sl 4 (List.map d_TLock a1)))) rfl rfl (kv 1 (.one (.d (.sl 1 (List.map d_i64 a2)))) rfl rfl (kv 2 (.agg [(dI a3.Tx), (dI a3.Lo), (dI a3.Hi), (dI a3.Mode)]) rfl rfl SL.nil))) BL.nil BK.nil) ?_
 unfold m_impl_clashing at H
 unfold i63
 refine aV (oBox (n := 320) (m := 4) (cs := [(dI a3.Tx), (dI a3.Lo), (dI a3.Hi), (dI a3.Mode)]) rfl (eR rfl) rfl rfl nZ (oMov eC (oMov eC (xQ (aV (oBsliceZ (m := 768) rfl (nS rfl nZ) (oBsliceZ (m := 832) rfl (nS rfl nZ) (oMov (eR rfl) (oMov (eR rfl) (xQ (AW.seqJ (fun t4 : ((List Int) × (List Int)) => impl_clashing_j4 t4 = some r) (fun t4 => mk [(8, (.one (.sl 320192 0 t4.1.length))), (9, (.one (.sl 320256 0 t4.2.length)))] [(320192, (.data 1 (List.map d_i64 t4.1) true none)), (320256, (.data 1 (List.map d_i64 t4.2) true none))] (lk [])) ?_ ?_)))))))))))
 ·intro t4 H
  unfold impl_clashing_j4 at H
  refine aV (oMov eZ (oMov (eR rfl) (oMov (eR rfl) (oMov (eR rfl) (xQ (AW.ret ?_))))))
  cases H
  exact endsR (RL.cons (RV.tmp (eR rfl)) (VO.sl bZ (List.length_map _) (allFlat fun _ => rfl)) (RL.cons (RV.tmp eZ) (VO.sl (bS rfl bZ) (List.length_map _) (allFlat fun _ => rfl)) RL.nil)) (by decide)
 ·refine aV (oMov (eR rfl) (oLenD eZ (n := a1.length) (List.length_map _) (oMov eC (xQ (AW.block (AW.iter (fun s6 : ((List Int) × (List Int) × Int) => mk [(1, (.one (.d (.sl 1 (List.map d_i64 a2))))), (5, (.one (.ptr (.nm 320 0 0)))), (8, (.one (.sl 320320 0 s6.1.length))), (9, (.one (.sl 320384 0 s6.2.1.length))), (14, (.one (.d (.sl 4 (List.map d_TLock a1))))), (15, (oI (a1.length : Int))), (16, (oI s6.2.2))] [(320320, (.data 1 (List.map d_i64 s6.1) true none)), (320384, (.data 1 (List.map d_i64 s6.2.1) true none)), (320, (.vars 4 [(dI a3.Tx), (dI a3.Lo), (dI a3.Hi), (dI a3.Mode)]))] (lk [])) H (((wk_mkG [] (kR rfl rfl (kR rfl rfl (SL.cons (eR rfl) rfl (VWk.one (CWk.len (by first | (simp; done) | (simp; omega) | omega | (simp only [List.length_map]; omega)))) (SL.cons eZ rfl (VWk.one (CWk.len (by first | (simp; done) | (simp; omega) | omega | (simp only [List.length_map]; omega)))) (kR rfl rfl (kR rfl rfl (kR rfl rfl SL.nil))))))) (BL.keep rfl (BL.keep rfl (BL.keep rfl BL.nil))) (BK.cons rfl (bS rfl bZ) rfl rfl (BK.cons rfl bZ rfl rfl (BK.cons rfl (bS rfl (bS rfl bZ)) rfl rfl BK.nil))) GK.nil).trans (wk_zs0 320384 1 9 true (eR rfl) (nS rfl (nS rfl nZ)))).trans (wk_zs0 320320 1 8 true (eR rfl) (nS rfl nZ))) ?_))))))
  intro kb7 s6 H
  unfold impl_clashing_b6 at H
  refine aV (oLss (eR rfl) (eR rfl) (xQ (aS ?_)))
  rcases oite H with ⟨h8, H⟩ | ⟨h8, H⟩
  ·refine AW.condT eZ (dT h8) (AW.skip (TQ.qn (aS (AW.block (aV ?_)))))
   obtain ⟨v9, h10, H⟩ := obind H
   refine oAtD (eR rfl) (eR rfl) h10 (oLoadBA (es := [(dI v9.Tx), (dI v9.Lo), (dI v9.Hi), (dI v9.Mode)]) eZ rfl (oVar (n := 704) (m := 4) rfl rfl (nS rfl (nS rfl (nS rfl nZ))) (oStoreV (es := [(dI v9.Tx), (dI v9.Lo), (dI v9.Hi), (dI v9.Mode)]) eZ (eR rfl) rfl rfl bZ rfl (xQ (aS (aV (oLoadVA (es := [(dI a3.Tx), (dI a3.Lo), (dI a3.Hi), (dI a3.Mode)]) (eR rfl) (bS rfl (bS rfl (bS rfl (bS rfl bZ)))) rfl (oLoadVA (es := [(dI v9.Tx), (dI v9.Lo), (dI v9.Hi), (dI v9.Mode)]) (eR rfl) bZ rfl ?_))))))))
   obtain ⟨v11, h12, H⟩ := obind H
   refine oCall (u := (oB v11)) eC Cl.fn (c_impl_clash h12) (Evs.cons (eR rfl) (Evs.cons eZ Evs.nil)) (VDs.cons (VD.agg rfl) (VDs.cons (VD.agg rfl) VDs.nil)) rfl (oInv eZ (xQ ?_))
   rcases oite H with ⟨h13, H⟩ | ⟨h13, H⟩
   ·refine AW.condF eZ (cN h13) (AW.skip (TQ.qn (aS (AW.regm (rmOne (oMov (eR rfl) (xNil (rmOne (oFaddrN (m := 0) (eR rfl) rfl (xNil (rmOne (oLoadV (q := 0) (c := (dI v9.Tx)) eZ bZ rfl rfl (xNil ?_)))))))))))))
    obtain ⟨v14, h15, H⟩ := obind H
    refine rmCall (ON := [320320]) (ls := []) (G := [320320]) (E := [320320]) (MB := []) (u := (.one (.sl 1728 0 v14.length))) (bs := [(1728, (.data 1 (List.map d_i64 v14) true none))]) eC Cl.fn (c_impl_inserted h15) (Evs.cons (eR rfl) (Evs.cons eZ Evs.nil)) (AO.give (VO.sl (bS rfl (bS rfl bZ)) (List.length_map _) (allFlat fun _ => rfl)) (AO.lent VD.plain rfl AO.nil)) rfl rfl rfl SZ.nil (erL.cons (v' := (oI v9.Tx)) rfl (erL.cons (v' := (.one (.ptr (.nm 704 0 0)))) rfl (erL.cons (v' := (.one .any)) rfl (erL.cons (v' := (oB (!v11))) rfl (erL.cons (v' := (oB v11)) rfl (erL.cons (v' := (.agg [(dI v9.Tx), (dI v9.Lo), (dI v9.Hi), (dI v9.Mode)])) rfl (erL.cons (v' := (.agg [(dI a3.Tx), (dI a3.Lo), (dI a3.Hi), (dI a3.Mode)])) rfl (erL.cons (v' := (.one (.ptr (.nm 704 0 0)))) rfl (erL.cons (v' := (.agg [(dI v9.Tx), (dI v9.Lo), (dI v9.Hi), (dI v9.Mode)])) rfl (erL.cons (v' := (.one (.ptr (.bd (d_TLock v9) 0)))) rfl (erL.cons (v' := (oB (decide (s6.2.2 < (a1.length : Int))))) rfl (erL.cons (v' := (.one (.d (.sl 1 (List.map d_i64 a2))))) rfl (erL.cons (v' := (.one (.ptr (.nm 320 0 0)))) rfl (erL.cons (v' := (.one .any)) rfl (erL.cons (v' := (.one (.sl 320384 0 s6.2.1.length))) rfl (erL.cons (v' := (.one (.d (.sl 4 (List.map d_TLock a1))))) rfl (erL.cons (v' := (oI (a1.length : Int))) rfl (erL.cons (v' := (oI s6.2.2)) rfl erL.nil)))))))))))))))))) (erH.cons (v' := (.vars 4 [(dI v9.Tx), (dI v9.Lo), (dI v9.Hi), (dI v9.Mode)])) rfl rfl (erH.cons (v' := (.vars 4 [(dI 0), (dI 0), (dI 0), (dI 0)])) rfl rfl (erH.drop rfl (erH.cons (v' := (.data 1 (List.map d_i64 s6.2.1) true none)) rfl rfl (erH.cons (v' := (.vars 4 [(dI a3.Tx), (dI a3.Lo), (dI a3.Hi), (dI a3.Mode)])) rfl rfl erH.nil))))) erL.nil (by simp [bindR, bindV, bindVs, bindC, bindCs]) rfl (fC (nS rfl (nS rfl (nS rfl (nS rfl nZ)))) rfl (fC (nS rfl (nS rfl (nS rfl (nS rfl nZ)))) rfl fN)) (rmRest (oMov eZ (xQ (AW.weaken (wk_mkG [] (kr 8 rfl rfl (kr 11 rfl rfl (kr 1 rfl rfl (kr 5 rfl rfl (kr 9 rfl rfl (kr 14 rfl rfl (kr 15 rfl rfl (kr 16 rfl rfl SL.nil)))))))) (BL.keep rfl (BL.keep rfl (BL.keep rfl (BL.keep rfl (BL.keep rfl BL.nil))))) (BK.cons (n := 1728) rfl bZ rfl rfl (BK.cons (n := 704) rfl (bS rfl bZ) rfl rfl (BK.cons (n := 320384) rfl (bS rfl (bS rfl (bS rfl bZ))) rfl rfl (BK.cons (n := 320) rfl (bS rfl (bS rfl (bS rfl (bS rfl bZ)))) rfl rfl BK.nil)))) GK.nil) (AW.seqJ (fun t16 : Bool => (impl_clashing_j16 s6 v9 kb7 v14) t16 = some r) (fun t16 => mk [(1, (.one (.d (.sl 1 (List.map d_i64 a2))))), (5, (.one (.ptr (.nm 320 0 0)))), (8, (.one (.sl 1728 0 v14.length))), (9, (.one (.sl 320384 0 s6.2.1.length))), (11, (.one (.ptr (.nm 704 0 0)))), (14, (.one (.d (.sl 4 (List.map d_TLock a1))))), (15, (oI (a1.length : Int))), (16, (oI s6.2.2)), (38, (oB t16))] [(320, (.vars 4 [(dI a3.Tx), (dI a3.Lo), (dI a3.Hi), (dI a3.Mode)])), (704, (.vars 4 [(dI v9.Tx), (dI v9.Lo), (dI v9.Hi), (dI v9.Mode)])), (1728, (.data 1 (List.map d_i64 v14) true none)), (320384, (.data 1 (List.map d_i64 s6.2.1) true none))] (lk [])) ?_ ?_)))))
    ·intro t16 H
     unfold impl_clashing_j16 at H
     rcases oite H with ⟨h18, H⟩ | ⟨h18, H⟩
     ·refine AW.condT (eR rfl) h18 (AW.regm (rmOne (oMov (eR rfl) (xNil (rmOne (oFaddrN (m := 0) (eR rfl) rfl (xNil (rmOne (oLoadV (q := 0) (c := (dI v9.Tx)) eZ (bS rfl bZ) rfl rfl (xNil ?_))))))))))
      obtain ⟨v19, h20, H⟩ := obind H
      exact rmCall (ON := [320384]) (ls := []) (G := [320384]) (E := [320384]) (MB := []) (u := (.one (.sl 2688 0 v19.length))) (bs := [(2688, (.data 1 (List.map d_i64 v19) true none))]) eC Cl.fn (c_impl_inserted h20) (Evs.cons (eR rfl) (Evs.cons eZ Evs.nil)) (AO.give (VO.sl (bS rfl (bS rfl (bS rfl bZ))) (List.length_map _) (allFlat fun _ => rfl)) (AO.lent VD.plain rfl AO.nil)) rfl rfl rfl SZ.nil (erL.cons (v' := (oI v9.Tx)) rfl (erL.cons (v' := (.one (.ptr (.nm 704 0 0)))) rfl (erL.cons (v' := (.one .any)) rfl (erL.cons (v' := (.one (.d (.sl 1 (List.map d_i64 a2))))) rfl (erL.cons (v' := (.one (.ptr (.nm 320 0 0)))) rfl (erL.cons (v' := (.one (.sl 1728 0 v14.length))) rfl (erL.cons (v' := (.one .any)) rfl (erL.cons (v' := (.one (.ptr (.nm 704 0 0)))) rfl (erL.cons (v' := (.one (.d (.sl 4 (List.map d_TLock a1))))) rfl (erL.cons (v' := (oI (a1.length : Int))) rfl (erL.cons (v' := (oI s6.2.2)) rfl (erL.cons (v' := (oB t16)) rfl erL.nil)))))))))))) (erH.cons (v' := (.vars 4 [(dI a3.Tx), (dI a3.Lo), (dI a3.Hi), (dI a3.Mode)])) rfl rfl (erH.cons (v' := (.vars 4 [(dI v9.Tx), (dI v9.Lo), (dI v9.Hi), (dI v9.Mode)])) rfl rfl (erH.cons (v' := (.data 1 (List.map d_i64 v14) true none)) rfl rfl (erH.drop rfl erH.nil)))) erL.nil (by simp [bindR, bindV, bindVs, bindC, bindCs]) rfl (fC (nS rfl (nS rfl (nS rfl nZ))) rfl (fC (nS rfl (nS rfl (nS rfl nZ))) rfl fN)) (rmRest (oMov eZ (xNil (BQ.qn (TQ.qn (aR (oAdd (eR rfl) eC (oMov eZ (xNil (TQ.qn ⟨(v14, v19, (IntKind.wrap .i64 (s6.2.2 + 1))), H, (Wk.trans (s := mk [(16, (oI (IntKind.wrap .i64 (s6.2.2 + 1)))), (43, (oI (IntKind.wrap .i64 (s6.2.2 + 1)))), (9, (.one (.sl 2688 0 v19.length))), (42, (.one (.sl 2688 0 v19.length))), (41, (oI v9.Tx)), (40, (.one (.ptr (.nm 704 0 0)))), (39, (.one .any)), (1, (.one (.d (.sl 1 (List.map d_i64 a2))))), (5, (.one (.ptr (.nm 320 0 0)))), (8, (.one (.sl 320320 0 v14.length))), (9, (.one .any)), (11, (.one (.ptr (.nm 704 0 0)))), (14, (.one (.d (.sl 4 (List.map d_TLock a1))))), (15, (oI (a1.length : Int))), (16, (oI s6.2.2)), (38, (oB t16))] [(2688, (.data 1 (List.map d_i64 v19) true none)), (320, (.vars 4 [(dI a3.Tx), (dI a3.Lo), (dI a3.Hi), (dI a3.Mode)])), (704, (.vars 4 [(dI v9.Tx), (dI v9.Lo), (dI v9.Hi), (dI v9.Mode)])), (320320, (.data 1 (List.map d_i64 v14) true none))] (lk [])) (Wk.trans (s := mk [(16, (oI (IntKind.wrap .i64 (s6.2.2 + 1)))), (43, (oI (IntKind.wrap .i64 (s6.2.2 + 1)))), (9, (.one (.sl 320384 0 v19.length))), (42, (.one (.sl 320384 0 v19.length))), (41, (oI v9.Tx)), (40, (.one (.ptr (.nm 704 0 0)))), (39, (.one .any)), (1, (.one (.d (.sl 1 (List.map d_i64 a2))))), (5, (.one (.ptr (.nm 320 0 0)))), (8, (.one (.sl 320320 0 v14.length))), (9, (.one .any)), (11, (.one (.ptr (.nm 704 0 0)))), (14, (.one (.d (.sl 4 (List.map d_TLock a1))))), (15, (oI (a1.length : Int))), (16, (oI s6.2.2)), (38, (oB t16))] [(320384, (.data 1 (List.map d_i64 v19) true none)), (320, (.vars 4 [(dI a3.Tx), (dI a3.Lo), (dI a3.Hi), (dI a3.Mode)])), (704, (.vars 4 [(dI v9.Tx), (dI v9.Lo), (dI v9.Hi), (dI v9.Mode)])), (320320, (.data 1 (List.map d_i64 v14) true none))] (lk [])) (wk_mkG [704] (kR rfl rfl (kR rfl rfl (kR rfl rfl (kR rfl rfl (kR rfl rfl (kR rfl rfl (kR rfl rfl SL.nil))))))) (BL.keep rfl (BL.keep rfl (BL.drop rfl (BL.keep rfl BL.nil)))) (BK.cons rfl (bS rfl (bS rfl (bS rfl bZ))) rfl rfl (BK.cons rfl bZ rfl rfl (BK.cons rfl (bS rfl bZ) rfl rfl BK.nil))) GK.nil) (wk_renG 2688 320384 rfl rfl (nS rfl (nS rfl (nS rfl (nS rfl nZ)))) GR.nil)) (wk_renG 1728 320320 rfl rfl (nS rfl (nS rfl (nS rfl (nS rfl nZ)))) GR.nil))⟩))))))))))
     ·exact AW.condF (eR rfl) (nt h18) (AW.skip (BQ.qn (TQ.qn (aR (oAdd (eR rfl) eC (oMov eZ (xNil (TQ.qn ⟨(v14, s6.2.1, (IntKind.wrap .i64 (s6.2.2 + 1))), H, ((wk_mkG [704] (kR rfl rfl (kR rfl rfl (kR rfl rfl (kR rfl rfl (kR rfl rfl (kR rfl rfl (kR rfl rfl SL.nil))))))) (BL.keep rfl (BL.drop rfl (BL.keep rfl (BL.keep rfl BL.nil)))) (BK.cons rfl (bS rfl (bS rfl bZ)) rfl rfl (BK.cons rfl (bS rfl (bS rfl (bS rfl bZ))) rfl rfl (BK.cons rfl bZ rfl rfl BK.nil))) GK.nil).trans (wk_renG 1728 320320 rfl rfl (nS rfl (nS rfl (nS rfl (nS rfl nZ)))) GR.nil))⟩))))))))
    ·refine aR (oFaddrN (m := 0) (eR rfl) rfl (oLoadV (q := 0) (c := (dI v9.Tx)) eZ (bS rfl bZ) rfl rfl (oFaddrN (m := 0) (eR rfl) rfl (oLoadV (q := 0) (c := (dI a3.Tx)) eZ (bS rfl (bS rfl (bS rfl bZ))) rfl rfl (oLss (eR rfl) eZ (oMov eZ ?_))))))
     rcases oite H with ⟨h21, H⟩ | ⟨h21, H⟩
     ·exact gSkip eZ (dT h21) rfl (gSkip (eR rfl) (dT h21) rfl (gSkip (eR rfl) (dT h21) rfl (gSkip (eR rfl) (dT h21) rfl (oPickT (eR rfl) (dT h21) eC (xNil (TQ.qn ⟨true, H, (wk_mkG [] (kR rfl rfl (kR rfl rfl (kR rfl rfl (kR rfl rfl (kR rfl rfl (kR rfl rfl (kR rfl rfl (kR rfl rfl (kR rfl rfl SL.nil))))))))) (BL.keep rfl (BL.keep rfl (BL.keep rfl (BL.keep rfl BL.nil)))) (BK.cons rfl (bS rfl (bS rfl (bS rfl bZ))) rfl rfl (BK.cons rfl (bS rfl bZ) rfl rfl (BK.cons rfl bZ rfl rfl (BK.cons rfl (bS rfl (bS rfl bZ)) rfl rfl BK.nil)))) GK.nil)⟩))))))
     ·refine gDo eZ (dF h21) (oMov (eR rfl) (gDo (eR rfl) (dF h21) (oFaddrN (m := 0) (eR rfl) rfl (gDo (eR rfl) (dF h21) (oLoadV (q := 0) (c := (dI v9.Tx)) eZ (bS rfl bZ) rfl rfl (gDo (eR rfl) (dF h21) ?_))))))
      obtain ⟨v22, h23, H⟩ := obind H
      exact oCall (u := (oB v22)) eC Cl.fn (c_slices_Contains_int h23) (Evs.cons (eR rfl) (Evs.cons eZ Evs.nil)) (VDs.cons VD.plain (VDs.cons VD.plain VDs.nil)) rfl (oPickF (eR rfl) (dF h21) eZ (xNil (TQ.qn ⟨v22, H, (wk_mkG [] (kR rfl rfl (kR rfl rfl (kR rfl rfl (kR rfl rfl (kR rfl rfl (kR rfl rfl (kR rfl rfl (kR rfl rfl (kR rfl rfl SL.nil))))))))) (BL.keep rfl (BL.keep rfl (BL.keep rfl (BL.keep rfl BL.nil)))) (BK.cons rfl (bS rfl (bS rfl (bS rfl bZ))) rfl rfl (BK.cons rfl (bS rfl bZ) rfl rfl (BK.cons rfl bZ rfl rfl (BK.cons rfl (bS rfl (bS rfl bZ)) rfl rfl BK.nil)))) GK.nil)⟩)))
   ·exact AW.condT eZ (cN (nt h13)) (AW.exit (TQ.qe (BQ.qe (TQ.qn (aR (oAdd (eR rfl) eC (oMov eZ (xNil (TQ.qn ⟨(s6.1, s6.2.1, (IntKind.wrap .i64 (s6.2.2 + 1))), H, (wk_mkG [704] (kR rfl rfl (kR rfl rfl (kR rfl rfl (kR rfl rfl (kR rfl rfl (kR rfl rfl (kR rfl rfl SL.nil))))))) (BL.drop rfl (BL.drop rfl (BL.keep rfl (BL.keep rfl (BL.keep rfl BL.nil))))) (BK.cons rfl (bS rfl (bS rfl bZ)) rfl rfl (BK.cons rfl (bS rfl (bS rfl (bS rfl bZ))) rfl rfl (BK.cons rfl (bS rfl (bS rfl (bS rfl (bS rfl bZ)))) rfl rfl BK.nil))) GK.nil)⟩)))))))))
  ·exact AW.condF eZ (dF h8) (AW.exit (TQ.qe (TQ.qe (BQ.qe (TQ.qn ⟨(s6.1, s6.2.1), H, (Wk.trans (s := mk [(17, (oB (decide (s6.2.2 < (a1.length : Int))))), (1, (.one (.d (.sl 1 (List.map d_i64 a2))))), (5, (.one (.ptr (.nm 320 0 0)))), (8, (.one (.sl 320192 0 s6.1.length))), (9, (.one (.sl 320384 0 s6.2.1.length))), (14, (.one (.d (.sl 4 (List.map d_TLock a1))))), (15, (oI (a1.length : Int))), (16, (oI s6.2.2))] [(320192, (.data 1 (List.map d_i64 s6.1) true none)), (320384, (.data 1 (List.map d_i64 s6.2.1) true none)), (320, (.vars 4 [(dI a3.Tx), (dI a3.Lo), (dI a3.Hi), (dI a3.Mode)]))] (lk [])) (Wk.trans (s := mk [(17, (oB (decide (s6.2.2 < (a1.length : Int))))), (1, (.one (.d (.sl 1 (List.map d_i64 a2))))), (5, (.one (.ptr (.nm 320 0 0)))), (8, (.one (.sl 320192 0 s6.1.length))), (9, (.one (.sl 320256 0 s6.2.1.length))), (14, (.one (.d (.sl 4 (List.map d_TLock a1))))), (15, (oI (a1.length : Int))), (16, (oI s6.2.2))] [(320192, (.data 1 (List.map d_i64 s6.1) true none)), (320256, (.data 1 (List.map d_i64 s6.2.1) true none)), (320, (.vars 4 [(dI a3.Tx), (dI a3.Lo), (dI a3.Hi), (dI a3.Mode)]))] (lk [])) (wk_mkG [320] (kR rfl rfl (kR rfl rfl SL.nil)) (BL.keep rfl (BL.keep rfl (BL.drop rfl BL.nil))) (BK.cons rfl bZ rfl rfl (BK.cons rfl (bS rfl bZ) rfl rfl BK.nil)) GK.nil) (wk_renG 320384 320256 rfl rfl (nS rfl (nS rfl (nS rfl nZ))) GR.nil)) (wk_renG 320320 320192 rfl rfl (nS rfl (nS rfl (nS rfl nZ))) GR.nil))⟩)))))
theorem c_impl_LockAsk_1 {a1 : TLock} {a2 : (List Int)} {r : Bool} (H : m_impl_LockAsk_1 a1 a2 = some r) : Fn Try.prog 65 (lent [(.agg (d_TLock a1)), (.ptr (dS_i64 a2))]) true [(.bool r)] := by
 refine f65 (fle rfl) ?_
 rw [init_mk]
 refine AW.weaken (wk_mk [] (kv 0 (.agg [(dI a1.Tx), (dI a1.Lo), (dI a1.Hi), (dI a1.Mode)]) rfl rfl (SL.cons (v := (.one (.ptr (.bd (dS_i64 a2) 0)))) (eS rfl eZ) rfl (VWk.one CWk.ptr) SL.nil)) BL.nil BK.nil) ?_
 unfold m_impl_LockAsk_1 at H
 unfold i65
 refine aV (oBox (n := 128) (m := 4) (cs := [(dI a1.Tx), (dI a1.Lo), (dI a1.Hi), (dI a1.Mode)]) rfl eZ rfl rfl nZ (oMov eC (xQ (aV (oLoadB (e := (.sl 1 (List.map d_i64 a2))) (eR rfl) rfl (oFaddrN (m := 0) (eR rfl) rfl (oLoadV (q := 0) (c := (dI a1.Tx)) eZ bZ rfl rfl ?_)))))))
 obtain ⟨v3, h4, H⟩ := obind H
 refine oCall (u := (oB v3)) eC Cl.fn (c_slices_Contains_int h4) (Evs.cons (eR rfl) (Evs.cons eZ Evs.nil)) (VDs.cons VD.plain (VDs.cons VD.plain VDs.nil)) rfl (oMov eZ (xQ (AW.ret ?_)))
 cases H
 exact eE rfl rfl
theorem c_slices_IndexFunc_Lock__LockAsk_1 {a1 : (List TLock)} {a2 : (List Int)} {r : Int} (H : m_slices_IndexFunc_Lock__LockAsk_1 a1 a2 = some r) : Fn Try.prog 103 (lent [(.sl 4 (List.map d_TLock a1)), (.fn 65 [.ptr (dS_i64 a2)])]) true [(.int .i64 r)] := by
 refine f103 (fle rfl) ?_
 rw [init_mk]
 refine AW.weaken (wk_mk [] (kv 0 (.one (.d (.sl 4 (List.map d_TLock a1)))) rfl rfl (SL.cons (v := (.one (.fn 65 [(.bd (dS_i64 a2) 0)]))) (eS rfl eZ) rfl (VWk.one (CWk.fn (css := [dS_i64 a2]))) SL.nil)) BL.nil BK.nil) ?_
 unfold m_slices_IndexFunc_Lock__LockAsk_1 at H
 unfold i103
 refine aV (oMov eC (xQ (AW.seqJ (fun t3 : Unit => slices_IndexFunc_Lock__LockAsk_1_j3 t3 = some r) (fun t3 => mk [] [] noG) ?_ ?_)))
 ·intro t3 H
  unfold slices_IndexFunc_Lock__LockAsk_1_j3 at H
  refine aV (oMov eC (xQ (AW.ret ?_)))
  cases H
  exact eE rfl rfl
 ·refine aV (oMov (eR rfl) (oLenD eZ (n := a1.length) (List.length_map _) (oMov eC (xQ (AW.block (AW.iter (fun s5 : Int => mk [(0, (.one (.d (.sl 4 (List.map d_TLock a1))))), (1, (.one (.fn 65 [(.bd (dS_i64 a2) 0)]))), (7, (oI (a1.length : Int))), (8, (oI s5))] [] noG) H (wk_mk [] (kR rfl rfl (kR rfl rfl (kR rfl rfl (kR rfl rfl SL.nil)))) BL.nil BK.nil) ?_))))))
  intro kb6 s5 H
  unfold slices_IndexFunc_Lock__LockAsk_1_b5 at H
  refine aV (oLss (eR rfl) (eR rfl) (xQ (aS ?_)))
  rcases oite H with ⟨h7, H⟩ | ⟨h7, H⟩
  ·refine AW.condT eZ (dT h7) (AW.skip (TQ.qn (aS (AW.block (aV (oMov (eR rfl) (oMov eZ (xQ (aV (oMov (eR rfl) (oMov (eR rfl) (oMov (eR rfl) ?_))))))))))))
   obtain ⟨v8, h9, H⟩ := obind H
   refine oAtD (eR rfl) eZ h9 (oLoadBA (es := [(dI v8.Tx), (dI v8.Lo), (dI v8.Hi), (dI v8.Mode)]) eZ rfl ?_)
   obtain ⟨v10, h11, H⟩ := obind H
   refine oCall (u := (oB v10)) (eR rfl) Cl.fn (c_impl_LockAsk_1 h11) (Evs.cons eZ Evs.nil) (VDs.cons (VD.agg rfl) (VDs.cons VD.ptrB VDs.nil)) rfl (xQ ?_)
   rcases oite H with ⟨h12, H⟩ | ⟨h12, H⟩
   ·refine AW.condT eZ h12 (aV (oMov (eR rfl) (oMov eZ (xQ (AW.ret (BQ.qr (TQ.qr (TQ.qr (BQ.qr (TQ.qr ?_))))))))))
    cases H
    exact eE rfl rfl
   ·exact AW.condF eZ (nt h12) (AW.skip (BQ.qn (TQ.qn (aR (oAdd (eR rfl) eC (oMov eZ (xNil (TQ.qn ⟨(IntKind.wrap .i64 (s5 + 1)), H, (wk_mk [] (kR rfl rfl (kR rfl rfl (kR rfl rfl (kR rfl rfl SL.nil)))) BL.nil BK.nil)⟩))))))))
  ·exact AW.condF eZ (dF h7) (AW.exit (TQ.qe (TQ.qe (BQ.qe (TQ.qn ⟨(), H, (wk_mk [] SL.nil BL.nil BK.nil)⟩)))))
theorem c_slices_DeleteFunc_Lock__LockAsk_1 {a1 : (List TLock)} {a2 : (List Int)} {r : (List TLock)} (H : m_slices_DeleteFunc_Lock__LockAsk_1 a1 a2 = some r) : Fn Try.prog 64 [⟨(.sl 4 (List.map d_TLock a1)), .g⟩, ⟨(.fn 65 [.ptr (dS_i64 a2)]), .b⟩] true [(.sl 4 (List.map d_TLock r))] := by
 refine m64 (fle rfl) (fC nZ rfl fN) rfl ?_
 rw [initM_mk]
 refine AW.weaken (t := mk [(0, (.one (.sl 0 0 a1.length))), (1, (.one (.fn 65 [(.bd (dS_i64 a2) 0)])))] [(0, (.data 4 (List.map d_TLock a1) true none))] (lk [])) (wk_mkG (gl := []) [] (SL.cons (v := (.one (.sl 0 0 a1.length))) eZ rfl (VWk.one (CWk.len (List.length_map _))) (SL.cons (v := (.one (.fn 65 [(.bd (dS_i64 a2) 0)]))) (eS rfl eZ) rfl (VWk.one (CWk.fn (css := [dS_i64 a2]))) SL.nil)) (BL.keep rfl BL.nil) (BK.cons (n := 0) rfl bZ rfl rfl BK.nil) GK.nil) ?_
 unfold m_slices_DeleteFunc_Lock__LockAsk_1 at H
 unfold i64
 refine aV (oMov eC (xQ (aV (oMov (eR rfl) (oMov (eR rfl) ?_)))))
 obtain ⟨v3, h4, H⟩ := obind H
 refine oCall (u := (oI v3)) eC Cl.fn (c_slices_IndexFunc_Lock__LockAsk_1 h4) (Evs.cons (eR rfl) (Evs.cons eZ Evs.nil)) (VDs.cons (VD.sl bZ (List.length_map _)) (VDs.cons (VD.fn (PDs.cons VD.ptrB PDs.nil)) VDs.nil)) rfl (oMov eZ (xQ (aS (aV (oMov eZ (oEql eZ eC (xQ ?_)))))))
 rcases oite H with ⟨h5, H⟩ | ⟨h5, H⟩
 ·refine AW.condT eZ (dT h5) (aV (oMov (eR rfl) (oMov eZ (xQ (AW.ret (TQ.qr ?_))))))
  cases H
  exact endsRM (RL.cons (RV.tmp eZ) (VO.sl bZ (List.length_map _) (allFlat fun _ => rfl)) RL.nil) (ML.give (ML.lent ML.nil)) (by decide)
 ·refine AW.condF eZ (dF h5) (AW.skip (TQ.qn (AW.seqJ (fun t6 : ((List TLock) × Int) => slices_DeleteFunc_Lock__LockAsk_1_j6 t6 = some r) (fun t6 => mk [(0, (.one (.sl 320128 0 t6.1.length))), (5, (oI t6.2))] [(320128, (.data 4 (List.map d_TLock t6.1) true none))] (lk [])) ?_ ?_)))
  ·intro t6 H
   unfold slices_DeleteFunc_Lock__LockAsk_1_j6 at H
   refine aV (oMov eZ (oMov (eR rfl) ?_))
   obtain ⟨h8, H⟩ := oguard H
   refine oCutN (r := (Int.toNat t6.2)) (s := (Int.toNat ((t6.1.length : Nat) : Int) - Int.toNat t6.2)) (eR rfl) bZ rfl (Bd.at eZ) Bd.no rfl rfl h8 ?_
   obtain ⟨h9, H⟩ := oguard H
   refine oClear (zv := (TLock.mk 0 0 0 0)) eZ bZ rfl rfl h9 (xQ (aV (oMov (eR rfl) (oMov (eR rfl) ?_))))
   obtain ⟨h10, H⟩ := oguard H
   refine oCutN (r := 0) (s := (Int.toNat t6.2)) (eR rfl) bZ rfl Bd.no (Bd.at eZ) rfl rfl h10 (oMov eZ (xQ (AW.weaken (wk_take 320128 (Int.toNat t6.2) bZ) (AW.ret ?_))))
   cases H
   exact endsRM (RL.cons (RV.tmp eZ) (VO.sl bZ (by first | (simp; done) | (simp; omega) | omega | (simp only [List.length_map]; omega)) (allFlat fun _ => rfl)) RL.nil) (ML.give (ML.lent ML.nil)) (by decide)
  ·refine aV (oMov (eR rfl) (oAdd eZ eC (oMov eZ (xQ (AW.block (AW.iter (fun s11 : ((List TLock) × Int × Int) => mk [(0, (.one (.sl 320192 0 s11.1.length))), (1, (.one (.fn 65 [(.bd (dS_i64 a2) 0)]))), (5, (oI s11.2.1)), (6, (oI s11.2.2))] [(320192, (.data 4 (List.map d_TLock s11.1) true none))] (lk [])) H ((wk_mkG [] (kR rfl rfl (kR rfl rfl (kR rfl rfl (kR rfl rfl SL.nil)))) (BL.keep rfl BL.nil) (BK.cons rfl bZ rfl rfl BK.nil) GK.nil).trans (wk_renG 0 320192 rfl rfl (nS rfl nZ) GR.nil)) ?_))))))
   intro kb12 s11 H
   unfold slices_DeleteFunc_Lock__LockAsk_1_b11 at H
   refine aS (aV (oMov (eR rfl) (oMov (eR rfl) (oLenN eZ (oLss (eR rfl) eZ (xQ ?_))))))
   rcases oite H with ⟨h13, H⟩ | ⟨h13, H⟩
   ·refine AW.condT eZ (dT h13) (AW.skip (TQ.qn (aS (AW.block (aV (oMov (eR rfl) (oMov (eR rfl) ?_)))))))
    obtain ⟨v14, h15, H⟩ := obind H
    refine oAtN (eR rfl) eZ bZ rfl h15 (oLoadDA (t := v14) (es := [(.int .i64 v14.Tx), (.int .i64 v14.Lo), (.int .i64 v14.Hi), (.int .i64 v14.Mode)]) (cs := [(dI v14.Tx), (dI v14.Lo), (dI v14.Hi), (dI v14.Mode)]) eZ bZ (idx_at h15) rfl rfl rfl (oVar (n := 448) (m := 4) rfl rfl (nS rfl nZ) (oStoreV (es := [(dI v14.Tx), (dI v14.Lo), (dI v14.Hi), (dI v14.Mode)]) eZ (eR rfl) rfl rfl bZ rfl (xQ (aV (oMov (eR rfl) (oLoadVA (es := [(dI v14.Tx), (dI v14.Lo), (dI v14.Hi), (dI v14.Mode)]) (eR rfl) bZ rfl ?_)))))))
    obtain ⟨v16, h17, H⟩ := obind H
    refine oCall (u := (oB v16)) (eR rfl) Cl.fn (c_impl_LockAsk_1 h17) (Evs.cons eZ Evs.nil) (VDs.cons (VD.agg rfl) (VDs.cons VD.ptrB VDs.nil)) rfl (oInv eZ (xQ (AW.weaken (wk_mkG [] (kr 29 rfl rfl (kr 7 rfl rfl (kr 0 rfl rfl (kr 1 rfl rfl (kr 5 rfl rfl (kr 6 rfl rfl SL.nil)))))) (BL.keep rfl (BL.keep rfl (BL.keep rfl BL.nil))) (BK.cons (n := 448) rfl bZ rfl rfl (BK.cons (n := 320192) rfl (bS rfl (bS rfl bZ)) rfl rfl BK.nil)) GK.nil) ?_)))
    rcases oite H with ⟨h18, H⟩ | ⟨h18, H⟩
    ·exact AW.condF eZ (cN h18) (AW.skip (BQ.qn (TQ.qn (aR (oMov (eR rfl) (oAdd eZ eC (oMov eZ (xNil (TQ.qn ⟨(s11.1, s11.2.1, (IntKind.wrap .i64 (s11.2.2 + 1))), H, (wk_mkG [448] (kR rfl rfl (kR rfl rfl (kR rfl rfl (kR rfl rfl SL.nil)))) (BL.drop rfl (BL.keep rfl BL.nil)) (BK.cons rfl (bS rfl bZ) rfl rfl BK.nil) GK.nil)⟩)))))))))
    ·refine AW.condT eZ (cN (nt h18)) (aV (oMov (eR rfl) (oMov (eR rfl) (oLoadVA (es := [(dI v14.Tx), (dI v14.Lo), (dI v14.Hi), (dI v14.Mode)]) (eR rfl) bZ rfl ?_))))
     obtain ⟨v19, h20, H⟩ := obind H
     exact oAtN (eR rfl) (eR rfl) (bS rfl bZ) rfl h20 (oStoreD (t := v19) (t' := v14) (es := [(.int .i64 v14.Tx), (.int .i64 v14.Lo), (.int .i64 v14.Hi), (.int .i64 v14.Mode)]) eZ (eR rfl) rfl rfl (bS rfl bZ) (idx_at h20) rfl rfl (xQ (aR (oMov (eR rfl) (oAdd eZ eC (oMov eZ (xNil (BQ.qn (TQ.qn (aR (oMov (eR rfl) (oAdd eZ eC (oMov eZ (xNil (TQ.qn ⟨(s11.1.set (Int.toNat s11.2.1) v14, (IntKind.wrap .i64 (s11.2.1 + 1)), (IntKind.wrap .i64 (s11.2.2 + 1))), H, (wk_mkG [448] (SL.cons (eR rfl) rfl (VWk.one (CWk.len (by first | (simp; done) | (simp; omega) | omega | (simp only [List.length_map]; omega)))) (kR rfl rfl (kR rfl rfl (kR rfl rfl SL.nil)))) (BL.keep rfl (BL.drop rfl (BL.keep rfl BL.nil))) (BK.cons rfl bZ rfl rfl BK.nil) GK.nil)⟩)))))))))))))))
   ·exact AW.condF eZ (dF h13) (AW.exit (TQ.qe (TQ.qe (BQ.qe (TQ.qn ⟨(s11.1, s11.2.1), H, ((wk_mkG [] (kR rfl rfl (kR rfl rfl SL.nil)) (BL.keep rfl BL.nil) (BK.cons rfl bZ rfl rfl BK.nil) GK.nil).trans (wk_renG 320192 320128 rfl rfl (nS rfl nZ) GR.nil))⟩)))))
theorem c_impl_LockAsk {a1 : (List TLock)} {a2 : (List Int)} {a3 : Int} {a4 : TRange} {a5 : Int} {r : ((List TLock) × (List Int) × Int)} (H : m_impl_LockAsk a1 a2 a3 a4 a5 = some r) : Fn Try.prog 24 (lent [(.sl 4 (List.map d_TLock a1)), (.sl 1 (List.map d_i64 a2)), (.int .i64 a3), (.agg (d_TRange a4)), (.int .i64 a5)]) true [(.sl 4 (List.map d_TLock r.1)), (.sl 1 (List.map d_i64 r.2.1)), (.int .i64 r.2.2)] := by
 refine f24 (fle rfl) ?_
 rw [init_mk]
 refine AW.weaken (t := mk [(0, (.one (.d (.sl 4 (List.map d_TLock a1))))), (1, (.one (.d (.sl 1 (List.map d_i64 a2))))), (2, (oI a3)), (3, (.agg [(dI a4.Lo), (dI a4.Hi)])), (4, (oI a5))] [] (lk [])) (wk_mk [] (kv 0 (.one (.d (.sl 4 (List.map d_TLock a1)))) rfl rfl (kv 1 (.one (.d (.sl 1 (List.map d_i64 a2)))) rfl rfl (kv 2 (oI a3) rfl rfl (kv 3 (.agg [(dI a4.Lo), (dI a4.Hi)]) rfl rfl (kv 4 (oI a5) rfl rfl SL.nil))))) BL.nil BK.nil) ?_
 unfold m_impl_LockAsk at H
 unfold i24
 refine aV (oBox (n := 512) (m := 2) (cs := [(dI a4.Lo), (dI a4.Hi)]) rfl (eR rfl) rfl rfl nZ (oMov eC (oMov eC (oMov eC (xQ (aS (AW.seqJ (fun t6 : Bool => (impl_LockAsk_j6 a1 a3 a4 a5 a2) t6 = some r) (fun t6 => mk [(0, (.one (.d (.sl 4 (List.map d_TLock a1))))), (1, (.one (.d (.sl 1 (List.map d_i64 a2))))), (2, (oI a3)), (4, (oI a5)), (8, (.one (.ptr (.nm 512 0 0)))), (40, (oB t6))] [(512, (.vars 2 [(dI a4.Lo), (dI a4.Hi)]))] (lk [])) ?_ ?_)))))))
 ·intro t6 H
  unfold impl_LockAsk_j6 at H
  rcases oite H with ⟨h8, H⟩ | ⟨h8, H⟩
  ·refine AW.condT (eR rfl) h8 (aV (oMov eC (oMov eC (oMov eC (xQ (AW.ret (TQ.qr ?_)))))))
   cases H
   exact endsR (RL.cons (RV.tmp (eR rfl)) VO.zs (RL.cons (RV.tmp (eR rfl)) VO.zs (RL.cons (RV.tmp eZ) (VO.flat rfl) RL.nil))) List.nodup_nil
  ·refine AW.condF (eR rfl) (nt h8) (AW.skip (TQ.qn (aV (oMov eZ ?_))))
   obtain ⟨v9, h10, H⟩ := obind H
   refine oCallN (u := (.one (.sl 2688 0 v9.length))) (bs := [(2688, (.data 4 (List.map d_TLock v9) true none))]) eC Cl.fn (c_slices_Clone_Lock h10) (Evs.cons eZ Evs.nil) (VDs.cons VD.plain VDs.nil) (by simp [bindR, bindV, bindVs, bindC, bindCs]) rfl (fC (nS rfl nZ) rfl (fC (nS rfl nZ) rfl fN)) (oMov eZ (xQ (aS (aV (oMov (eR rfl) (oMov (eR rfl) (oLoadVA (es := [(dI a4.Lo), (dI a4.Hi)]) (eR rfl) (bS rfl bZ) rfl (oMov (eR rfl) ?_))))))))
   obtain ⟨v11, h12, H⟩ := obind H
   refine oCall (u := (oB v11)) eC Cl.fn (c_impl_LocksHold h12) (Evs.cons (eR rfl) (Evs.cons (eR rfl) (Evs.cons (eR rfl) (Evs.cons eZ Evs.nil)))) (VDs.cons VD.plain (VDs.cons VD.plain (VDs.cons (VD.agg rfl) (VDs.cons VD.plain VDs.nil)))) rfl (xQ ?_)
   rcases oite H with ⟨h13, H⟩ | ⟨h13, H⟩
   ·refine AW.condT eZ h13 (aV (oMov (eR rfl) (oMov eZ (oMov eC (oMov eC (xQ (AW.weaken (wk_mkG [512] (kr 12 rfl rfl (kr 11 rfl rfl (kr 10 rfl rfl SL.nil))) (BL.keep rfl (BL.drop rfl BL.nil)) (BK.cons (n := 2688) rfl bZ rfl rfl BK.nil) GK.nil) (AW.ret (TQ.qr ?_)))))))))
    cases H
    exact endsR (RL.cons (RV.tmp (eR rfl)) (VO.sl bZ (List.length_map _) (allFlat fun _ => rfl)) (RL.cons (RV.tmp (eR rfl)) VO.zs (RL.cons (RV.tmp eZ) (VO.flat rfl) RL.nil))) (by decide)
   ·refine AW.condF eZ (nt h13) (AW.skip (TQ.qn (aV (oMov (eR rfl) (oFaddrN (m := 0) (eR rfl) rfl (oLoadV (q := 0) (c := (dI a4.Lo)) eZ (bS rfl bZ) rfl rfl (oFaddrN (m := 1) (eR rfl) rfl (oLoadV (q := 1) (c := (dI a4.Hi)) eZ (bS rfl bZ) rfl rfl (oMov (eR rfl) (oBuild (cs := [(dI a3), (dI a4.Lo), (dI a4.Hi), (dI a5)]) (PsCons (eR rfl) (PsCons (eR rfl) (PsCons (eR rfl) (PsCons eZ PsNil)))) rfl (oVar (n := 896) (m := 4) rfl rfl (nS rfl (nS rfl nZ)) (oStoreV (es := [(dI a3), (dI a4.Lo), (dI a4.Hi), (dI a5)]) eZ (eR rfl) rfl rfl bZ rfl (xQ (AW.weaken (wk_mkG [512] (kr 14 rfl rfl (kr 13 rfl rfl (kr 0 rfl rfl (kr 1 rfl rfl SL.nil)))) (BL.keep rfl (BL.keep rfl (BL.keep rfl (BL.drop rfl BL.nil)))) (BK.cons (n := 896) rfl bZ rfl rfl (BK.cons (n := 2688) rfl (bS rfl (bS rfl bZ)) rfl rfl BK.nil)) GK.nil) (aS (AW.regm (rmOne (oMov (eR rfl) (xNil (rmOne (oMov (eR rfl) (xNil (rmOne (oLoadVA (es := [(dI a3), (dI a4.Lo), (dI a4.Hi), (dI a5)]) (eR rfl) bZ rfl (xNil (rmOne ?_))))))))))))))))))))))))))
    obtain ⟨v14, h15, H⟩ := obind H
    refine oCallN (u := (.tup [(.one (.sl 3840 0 v14.1.length)), (.one (.sl 3856 0 v14.2.length))])) (bs := [(3840, (.data 1 (List.map d_i64 v14.1) true none)), (3856, (.data 1 (List.map d_i64 v14.2) true none))]) eC Cl.fn (c_impl_clashing h15) (Evs.cons (eR rfl) (Evs.cons (eR rfl) (Evs.cons eZ Evs.nil))) (VDs.cons VD.plain (VDs.cons VD.plain (VDs.cons (VD.agg rfl) VDs.nil))) (by simp [bindR, bindV, bindVs, bindC, bindCs]) rfl (fC (nS rfl (nS rfl nZ)) rfl (fC (nS rfl (nS rfl nZ)) rfl (fC (nS rfl (nS rfl nZ)) rfl fN))) (xNil (rmOne (oMov eZ (xNil (rmOne (oExt (v := (.one (.sl 3840 0 v14.1.length))) eZ rfl (xNil (rmOne (oExt (v := (.one (.sl 3856 0 v14.2.length))) (eR rfl) rfl (xNil (rmOne (oVar (n := 960) (m := 1) rfl rfl (nS rfl (nS rfl (nS rfl (nS rfl nZ)))) (xNil (rmOne (oStoreV (es := [(.sl 3840 0 v14.1.length)]) eZ (eR rfl) rfl rfl bZ rfl (xNil (rmRest (oMov (eR rfl) (xQ (aS (aV (oMov eZ (oLenN eZ (oGtr eZ eC (xQ (AW.weaken (wk_mkG [3856] (kr 65 rfl rfl (kr 15 rfl rfl (kr 14 rfl rfl (kr 13 rfl rfl (kr 0 rfl rfl SL.nil))))) (BL.keep rfl (BL.keep rfl (BL.drop rfl (BL.keep rfl (BL.keep rfl (BL.keep rfl BL.nil)))))) (BK.cons (n := 960) rfl bZ rfl rfl (BK.cons (n := 3840) rfl (bS rfl (bS rfl (bS rfl bZ))) rfl rfl (BK.cons (n := 896) rfl (bS rfl (bS rfl (bS rfl (bS rfl bZ)))) rfl rfl (BK.cons (n := 2688) rfl (bS rfl (bS rfl (bS rfl (bS rfl (bS rfl bZ))))) rfl rfl BK.nil)))) GK.nil) ?_))))))))))))))))))))))))))
    rcases oite H with ⟨h16, H⟩ | ⟨h16, H⟩
    ·refine AW.condT eZ (dT h16) (aV (oMov (eR rfl) (oMov eZ (oMov eC (oMov eC (xQ (AW.ret (TQ.qr ?_))))))))
     cases H
     exact endsR (RL.cons (RV.tmp (eR rfl)) (VO.sl (bS rfl (bS rfl (bS rfl bZ))) (List.length_map _) (allFlat fun _ => rfl)) (RL.cons (RV.tmp (eR rfl)) VO.zs (RL.cons (RV.tmp eZ) (VO.flat rfl) RL.nil))) (by decide)
    ·refine AW.condF eZ (dF h16) (AW.skip (TQ.qn (aS (AW.regm (rmOne (oMov (eR rfl) (xNil (rmOne ?_))))))))
     obtain ⟨v17, h18, H⟩ := obind H
     refine oCallN (u := (.one (.sl 4352 0 v17.length))) (bs := [(4352, (.data 4 (List.map d_TLock v17) true none))]) eC Cl.fn (c_slices_Clone_Lock h18) (Evs.cons eZ Evs.nil) (VDs.cons VD.plain VDs.nil) (by simp [bindR, bindV, bindVs, bindC, bindCs]) rfl (fC (nS rfl (nS rfl (nS rfl (nS rfl nZ)))) rfl (fC (nS rfl (nS rfl (nS rfl (nS rfl nZ)))) rfl fN)) (xNil (rmOne (oMkfn (ps := [(.nm 960 0 0)]) (Evs.cons (eR rfl) Evs.nil) (xNil ?_))))
     obtain ⟨v19, h20, H⟩ := obind H
     refine rmCall (ON := [4352]) (ls := [960, 3840]) (G := [4352]) (E := [4352]) (MB := []) (u := (.one (.sl 4480 0 v19.length))) (bs := [(4480, (.data 4 (List.map d_TLock v19) true none))]) eC Cl.fn (c_slices_DeleteFunc_Lock__LockAsk_1 h20) (Evs.cons (eR rfl) (Evs.cons eZ Evs.nil)) (AO.give (VO.sl bZ (List.length_map _) (allFlat fun _ => rfl)) (AO.lent (VD.fn (PDs.cons (VD.ptrN (bS rfl bZ) (CDs.sl (bS rfl (bS rfl bZ)) (List.length_map _) CDs.nil)) PDs.nil)) rfl AO.nil)) rfl rfl rfl SZ.nil (erL.cons (v' := (.one (.fn 65 [(.nm 960 0 0)]))) rfl (erL.cons (v' := (.one .any)) rfl (erL.cons (v' := (.one (.d (.sl 4 (List.map d_TLock a1))))) rfl (erL.cons (v' := (oB (decide (0 < ((v14.2.length : Nat) : Int))))) rfl (erL.cons (v' := (.one (.ptr (.nm 960 0 0)))) rfl (erL.cons (v' := (.one (.ptr (.nm 896 0 0)))) rfl (erL.cons (v' := (.one (.sl 2688 0 v9.length))) rfl (erL.cons (v' := (.one (.d (.sl 4 (List.map d_TLock a1))))) rfl erL.nil)))))))) (erH.drop rfl (erH.cons (v' := (.vars 1 [(.sl 3840 0 v14.1.length)])) rfl rfl (erH.cons (v' := (.data 1 (List.map d_i64 v14.1) true none)) rfl rfl (erH.cons (v' := (.vars 4 [(dI a3), (dI a4.Lo), (dI a4.Hi), (dI a5)])) rfl rfl (erH.cons (v' := (.data 4 (List.map d_TLock v9) true none)) rfl rfl erH.nil))))) erL.nil (by simp [bindR, bindV, bindVs, bindC, bindCs]) rfl (fC (nS rfl (nS rfl (nS rfl (nS rfl nZ)))) rfl (fC (nS rfl (nS rfl (nS rfl (nS rfl nZ)))) rfl fN)) (rmRest (oMov eZ (xQ (aS (aV (oMov eZ (oLenN eZ (oEql eZ eC (xQ ?_)))))))))
     rcases oite H with ⟨h21, H⟩ | ⟨h21, H⟩
     ·refine AW.condT eZ (dT h21) (aV (oMov (eR rfl) (oMov eZ (oMov eC (oMov eC (xQ (AW.weaken (wk_mkG [4480, 960, 3840, 896] (kr 12 rfl rfl (kr 11 rfl rfl (kr 10 rfl rfl SL.nil))) (BL.drop rfl (BL.drop rfl (BL.drop rfl (BL.drop rfl (BL.keep rfl BL.nil))))) (BK.cons (n := 2688) rfl (bS rfl (bS rfl (bS rfl (bS rfl bZ)))) rfl rfl BK.nil) GK.nil) (AW.ret (TQ.qr ?_)))))))))
      cases H
      exact endsR (RL.cons (RV.tmp (eR rfl)) (VO.sl bZ (List.length_map _) (allFlat fun _ => rfl)) (RL.cons (RV.tmp (eR rfl)) VO.zs (RL.cons (RV.tmp eZ) (VO.flat rfl) RL.nil))) (by decide)
     ·refine AW.condF eZ (dF h21) (AW.skip (TQ.qn (aS (AW.regl [4480] (reOne rfl rfl (oMov (eR rfl) (xNil (reOne rfl rfl (oLoadVA (es := [(dI a3), (dI a4.Lo), (dI a4.Hi), (dI a5)]) (eR rfl) (bS rfl (bS rfl (bS rfl bZ))) rfl (xNil (reOne rfl rfl (oBslice (m := 4928) (q := 1) (cs := [(dI a3), (dI a4.Lo), (dI a4.Hi), (dI a5)]) rfl (PsCons eZ PsNil) rfl (List.cons_ne_nil _ _) (by simp) (nS rfl (nS rfl (nS rfl (nS rfl (nS rfl nZ))))) (xNil ?_)))))))))))))
      obtain ⟨h22, H⟩ := oguard H
      refine reAppN (f := d_TLock) (xs := v19) (ys := [(TLock.mk a3 a4.Lo a4.Hi a5)]) (q := (v19 ++ ([(TLock.mk a3 a4.Lo a4.Hi a5)])).length) rfl rfl (eR rfl) eZ (bS rfl bZ) rfl (El.one (f := d_TLock) (t := (TLock.mk a3 a4.Lo a4.Hi a5)) (es := [(.int .i64 a3), (.int .i64 a4.Lo), (.int .i64 a4.Hi), (.int .i64 a5)]) bZ rfl rfl rfl) rfl h22 (by decide) (by decide) (erL.cons (v' := (.one (.sl 4928 0 1))) rfl (erL.cons (v' := (.agg [(dI a3), (dI a4.Lo), (dI a4.Hi), (dI a5)])) rfl (erL.cons (v' := (.one .any)) rfl (erL.cons (v' := (oB (decide (((v19.length : Nat) : Int) = 40)))) rfl (erL.cons (v' := (oI ((v19.length : Nat) : Int))) rfl (erL.cons (v' := (.one .any)) rfl (erL.cons (v' := (.one .any)) rfl (erL.cons (v' := (.one .any)) rfl (erL.cons (v' := (.one (.fn 65 [(.nm 960 0 0)]))) rfl (erL.cons (v' := (.one .any)) rfl (erL.cons (v' := (.one (.d (.sl 4 (List.map d_TLock a1))))) rfl (erL.cons (v' := (oB (decide (0 < ((v14.2.length : Nat) : Int))))) rfl (erL.cons (v' := (.one (.ptr (.nm 960 0 0)))) rfl (erL.cons (v' := (.one (.ptr (.nm 896 0 0)))) rfl (erL.cons (v' := (.one (.sl 2688 0 v9.length))) rfl (erL.cons (v' := (.one (.d (.sl 4 (List.map d_TLock a1))))) rfl erL.nil)))))))))))))))) (erH.cons (v' := (.vars 4 [(dI a3), (dI a4.Lo), (dI a4.Hi), (dI a5)])) rfl rfl (erH.drop rfl (erH.cons (v' := (.vars 1 [(.sl 3840 0 v14.1.length)])) rfl rfl (erH.cons (v' := (.data 1 (List.map d_i64 v14.1) true none)) rfl rfl (erH.cons (v' := (.vars 4 [(dI a3), (dI a4.Lo), (dI a4.Hi), (dI a5)])) rfl rfl (erH.cons (v' := (.data 4 (List.map d_TLock v9) true none)) rfl rfl erH.nil)))))) GK.nil (reLoadV (q := 0) (c := (.sl 3840 0 v14.1.length)) rfl (eR rfl) rfl rfl (bS rfl (bS rfl bZ)) rfl rfl rfl (reOne rfl rfl (oMov (eR rfl) (xNil (reOne rfl rfl (oMov (eR rfl) (xNil (reOne rfl rfl (oMov eC (xNil (reNil (TQ.qn (AW.weaken (wk_mkG [4928, 960, 896, 2688] (kr 12 rfl rfl (kr 11 rfl rfl (kr 10 rfl rfl SL.nil))) (BL.keep rfl (BL.drop rfl (BL.drop rfl (BL.keep rfl (BL.drop rfl (BL.drop rfl BL.nil)))))) (BK.cons (n := 4480) rfl bZ rfl rfl (BK.cons (n := 3840) rfl (bS rfl (bS rfl (bS rfl bZ))) rfl rfl BK.nil)) GK.nil) (AW.ret ?_))))))))))))))
      cases H
      exact endsR (RL.cons (RV.tmp (eR rfl)) (VO.sl bZ (List.length_map _) (allFlat fun _ => rfl)) (RL.cons (RV.tmp (eR rfl)) (VO.sl (bS rfl bZ) (List.length_map _) (allFlat fun _ => rfl)) (RL.cons (RV.tmp eZ) (VO.flat rfl) RL.nil))) (by decide)
 ·refine aR (oMov (eR rfl) ?_)
  obtain ⟨v23, h24, H⟩ := obind H
  refine oCall (u := (oB v23)) eC Cl.fn (c_impl_LocksOk h24) (Evs.cons eZ Evs.nil) (VDs.cons VD.plain VDs.nil) rfl (oInv eZ (oMov eZ ?_))
  rcases oite H with ⟨h25, H⟩ | ⟨h25, H⟩
  ·refine gDo eZ (cN h25) (oMov (eR rfl) (gDo (eR rfl) (cN h25) (oLenD eZ (n := a2.length) (List.length_map _) (gDo (eR rfl) (cN h25) (oGtr eZ eC (oPickF (eR rfl) (cN h25) eZ (oMov eZ ?_)))))))
   rcases oite H with ⟨h26, H⟩ | ⟨h26, H⟩
   ·exact gSkip eZ (dT h26) rfl (gSkip (eR rfl) (dT h26) rfl (gSkip (eR rfl) (dT h26) rfl (oPickT (eR rfl) (dT h26) eC (oMov eZ (gSkip eZ rfl rfl (gSkip (eR rfl) rfl rfl (gSkip (eR rfl) rfl rfl (oPickT (eR rfl) rfl eC (oMov eZ (gSkip eZ rfl rfl (gSkip (eR rfl) rfl rfl (gSkip (eR rfl) rfl rfl (oPickT (eR rfl) rfl eC (xNil (TQ.qn ⟨true, H, (wk_mkG [] (kR rfl rfl (kR rfl rfl (kR rfl rfl (kR rfl rfl (kR rfl rfl (kR rfl rfl SL.nil)))))) (BL.keep rfl BL.nil) (BK.cons rfl bZ rfl rfl BK.nil) GK.nil)⟩)))))))))))))))
   ·refine gDo eZ (dF h26) (oMov (eR rfl) (gDo (eR rfl) (dF h26) ?_))
    obtain ⟨v27, h28, H⟩ := obind H
    refine oCall (u := (oB v27)) eC Cl.fn (c_impl_isTx h28) (Evs.cons eZ Evs.nil) (VDs.cons VD.plain VDs.nil) rfl (gDo (eR rfl) (dF h26) (oInv eZ (oPickF (eR rfl) (dF h26) eZ (oMov eZ ?_))))
    rcases oite H with ⟨h29, H⟩ | ⟨h29, H⟩
    ·refine gDo eZ (cN h29) (oLoadVA (es := [(dI a4.Lo), (dI a4.Hi)]) (eR rfl) bZ rfl (gDo (eR rfl) (cN h29) ?_))
     obtain ⟨v30, h31, H⟩ := obind H
     refine oCall (u := (oB v30)) eC Cl.fn (c_impl_RangeOk h31) (Evs.cons eZ Evs.nil) (VDs.cons (VD.agg rfl) VDs.nil) rfl (gDo (eR rfl) (cN h29) (oInv eZ (oPickF (eR rfl) (cN h29) eZ (oMov eZ ?_))))
     rcases oite H with ⟨h32, H⟩ | ⟨h32, H⟩
     ·refine gDo eZ (cN h32) (oMov (eR rfl) (gDo (eR rfl) (cN h32) ?_))
      obtain ⟨v33, h34, H⟩ := obind H
      exact oCall (u := (oB v33)) eC Cl.fn (c_impl_isMode h34) (Evs.cons eZ Evs.nil) (VDs.cons VD.plain VDs.nil) rfl (gDo (eR rfl) (cN h32) (oInv eZ (oPickF (eR rfl) (cN h32) eZ (xNil (TQ.qn ⟨(!v33), H, (wk_mkG [] (kR rfl rfl (kR rfl rfl (kR rfl rfl (kR rfl rfl (kR rfl rfl (kR rfl rfl SL.nil)))))) (BL.keep rfl BL.nil) (BK.cons rfl bZ rfl rfl BK.nil) GK.nil)⟩)))))
     ·exact gSkip eZ (cN (nt h32)) rfl (gSkip (eR rfl) (cN (nt h32)) rfl (gSkip (eR rfl) (cN (nt h32)) rfl (oPickT (eR rfl) (cN (nt h32)) eC (xNil (TQ.qn ⟨true, H, (wk_mkG [] (kR rfl rfl (kR rfl rfl (kR rfl rfl (kR rfl rfl (kR rfl rfl (kR rfl rfl SL.nil)))))) (BL.keep rfl BL.nil) (BK.cons rfl bZ rfl rfl BK.nil) GK.nil)⟩)))))
    ·exact gSkip eZ (cN (nt h29)) rfl (gSkip (eR rfl) (cN (nt h29)) rfl (gSkip (eR rfl) (cN (nt h29)) rfl (oPickT (eR rfl) (cN (nt h29)) eC (oMov eZ (gSkip eZ rfl rfl (gSkip (eR rfl) rfl rfl (gSkip (eR rfl) rfl rfl (oPickT (eR rfl) rfl eC (xNil (TQ.qn ⟨true, H, (wk_mkG [] (kR rfl rfl (kR rfl rfl (kR rfl rfl (kR rfl rfl (kR rfl rfl (kR rfl rfl SL.nil)))))) (BL.keep rfl BL.nil) (BK.cons rfl bZ rfl rfl BK.nil) GK.nil)⟩))))))))))
  ·exact gSkip eZ (cN (nt h25)) rfl (gSkip (eR rfl) (cN (nt h25)) rfl (gSkip (eR rfl) (cN (nt h25)) rfl (oPickT (eR rfl) (cN (nt h25)) eC (oMov eZ (gSkip eZ rfl rfl (gSkip (eR rfl) rfl rfl (gSkip (eR rfl) rfl rfl (oPickT (eR rfl) rfl eC (oMov eZ (gSkip eZ rfl rfl (gSkip (eR rfl) rfl rfl (gSkip (eR rfl) rfl rfl (oPickT (eR rfl) rfl eC (oMov eZ (gSkip eZ rfl rfl (gSkip (eR rfl) rfl rfl (gSkip (eR rfl) rfl rfl (oPickT (eR rfl) rfl eC (xNil (TQ.qn ⟨true, H, (wk_mkG [] (kR rfl rfl (kR rfl rfl (kR rfl rfl (kR rfl rfl (kR rfl rfl (kR rfl rfl SL.nil)))))) (BL.keep rfl BL.nil) (BK.cons rfl bZ rfl rfl BK.nil) GK.nil)⟩))))))))))))))))))))
theorem c_impl_LocksWaits {a1 : (List TLock)} {a2 : (List Int)} {a3 : Int} {a4 : TRange} {a5 : Int} {r : (List Int)} (H : m_impl_LocksWaits a1 a2 a3 a4 a5 = some r) : Fn Try.prog 34 (lent [(.sl 4 (List.map d_TLock a1)), (.sl 1 (List.map d_i64 a2)), (.int .i64 a3), (.agg (d_TRange a4)), (.int .i64 a5)]) true [(.sl 1 (List.map d_i64 r))] := by
 refine f34 (fle rfl) ?_
 rw [init_mk]
 refine AW.weaken (wk_mk [] (kv 0 (.one (.d (.sl 4 (List.map d_TLock a1)))) rfl rfl (kv 1 (.one (.d (.sl 1 (List.map d_i64 a2)))) rfl rfl (kv 2 (oI a3) rfl rfl (kv 3 (.agg [(dI a4.Lo), (dI a4.Hi)]) rfl rfl (kv 4 (oI a5) rfl rfl SL.nil))))) BL.nil BK.nil) ?_
 unfold m_impl_LocksWaits at H
 unfold i34
 refine aV (oBox (n := 512) (m := 2) (cs := [(dI a4.Lo), (dI a4.Hi)]) rfl (eR rfl) rfl rfl nZ (oMov eC (xQ (aS (aV (oMov (eR rfl) (oMov (eR rfl) (oMov (eR rfl) (oLoadVA (es := [(dI a4.Lo), (dI a4.Hi)]) (eR rfl) bZ rfl (oMov (eR rfl) ?_))))))))))
 obtain ⟨v6, h7, H⟩ := obind H
 refine oCall (u := (.tup [(.one (.d (.sl 4 (List.map d_TLock v6.1)))), (.one (.d (.sl 1 (List.map d_i64 v6.2.1)))), (oI v6.2.2)])) eC Cl.fn (c_impl_LockAsk h7) (Evs.cons (eR rfl) (Evs.cons (eR rfl) (Evs.cons (eR rfl) (Evs.cons (eR rfl) (Evs.cons eZ Evs.nil))))) (VDs.cons VD.plain (VDs.cons VD.plain (VDs.cons VD.plain (VDs.cons (VD.agg rfl) (VDs.cons VD.plain VDs.nil))))) rfl (oMov eZ (oExt (v := (.one (.d (.sl 4 (List.map d_TLock v6.1))))) eZ rfl (oExt (v := (.one (.d (.sl 1 (List.map d_i64 v6.2.1))))) (eR rfl) rfl (oExt (v := (oI v6.2.2)) (eR rfl) rfl (oMov (eR rfl) (oMov (eR rfl) (oMov (eR rfl) (xQ (AW.weaken (wk_mk [] (kr 13 rfl rfl (kr 8 rfl rfl (kr 0 rfl rfl (kr 1 rfl rfl (kr 2 rfl rfl (kr 4 rfl rfl SL.nil)))))) (BL.keep rfl BL.nil) (BK.cons (n := 512) rfl bZ rfl rfl BK.nil)) (aV (oMov eZ (oNeq eZ eC (xQ ?_)))))))))))))
 rcases oite H with ⟨h8, H⟩ | ⟨h8, H⟩
 ·refine AW.condT eZ (dT h8) (aV (oMov eC (xQ (AW.ret (TQ.qr ?_)))))
  cases H
  exact endsR (RL.cons (RV.tmp eZ) VO.zs RL.nil) List.nodup_nil
 ·refine AW.condF eZ (dF h8) (AW.skip (TQ.qn (aV (oMov (eR rfl) (oMov (eR rfl) (oMov (eR rfl) (oFaddrN (m := 0) (eR rfl) rfl (oLoadV (q := 0) (c := (dI a4.Lo)) eZ bZ rfl rfl (oFaddrN (m := 1) (eR rfl) rfl (oLoadV (q := 1) (c := (dI a4.Hi)) eZ bZ rfl rfl (oMov (eR rfl) (oBuild (cs := [(dI a3), (dI a4.Lo), (dI a4.Hi), (dI a5)]) (PsCons (eR rfl) (PsCons (eR rfl) (PsCons (eR rfl) (PsCons eZ PsNil)))) rfl ?_))))))))))))
  obtain ⟨v9, h10, H⟩ := obind H
  refine oCallN (u := (.tup [(.one (.sl 2432 0 v9.1.length)), (.one (.sl 2448 0 v9.2.length))])) (bs := [(2432, (.data 1 (List.map d_i64 v9.1) true none)), (2448, (.data 1 (List.map d_i64 v9.2) true none))]) eC Cl.fn (c_impl_clashing h10) (Evs.cons (eR rfl) (Evs.cons (eR rfl) (Evs.cons eZ Evs.nil))) (VDs.cons VD.plain (VDs.cons VD.plain (VDs.cons (VD.agg rfl) VDs.nil))) (by simp [bindR, bindV, bindVs, bindC, bindCs]) rfl (fC (nS rfl nZ) rfl (fC (nS rfl nZ) rfl (fC (nS rfl nZ) rfl fN))) (oMov eZ (oExt (v := (.one (.sl 2432 0 v9.1.length))) eZ rfl (oExt (v := (.one (.sl 2448 0 v9.2.length))) (eR rfl) rfl (oMov (eR rfl) (oMov (eR rfl) (xQ (AW.weaken (wk_mk [2432, 512] (kr 15 rfl rfl SL.nil) (BL.keep rfl (BL.drop rfl (BL.drop rfl BL.nil))) (BK.cons (n := 2448) rfl bZ rfl rfl BK.nil)) (aV (oMov eZ (oMov eZ (xQ (AW.ret ?_))))))))))))
  cases H
  exact endsR (RL.cons (RV.tmp eZ) (VO.sl bZ (List.length_map _) (allFlat fun _ => rfl)) RL.nil) (by decide)
theorem c_laws_sameInts {a1 : (List Int)} {a2 : (List Int)} {r : Bool} (H : m_laws_sameInts a1 a2 = some r) : Fn Try.prog 26 (lent [(.sl 1 (List.map d_i64 a1)), (.sl 1 (List.map d_i64 a2))]) true [(.bool r)] := by
 refine f26 (fle rfl) ?_
 rw [init_mk]
 refine AW.weaken (wk_mk [] (kv 0 (.one (.d (.sl 1 (List.map d_i64 a1)))) rfl rfl (kv 1 (.one (.d (.sl 1 (List.map d_i64 a2)))) rfl rfl SL.nil)) BL.nil BK.nil) ?_
 unfold m_laws_sameInts at H
 unfold i26
 refine aV (oMov eC (xQ (aS (aV (oMov (eR rfl) (oLenD eZ (n := a1.length) (List.length_map _) (oMov (eR rfl) (oLenD eZ (n := a2.length) (List.length_map _) (oNeq (eR rfl) eZ (xQ ?_))))))))))
 rcases oite H with ⟨h3, H⟩ | ⟨h3, H⟩
 ·refine AW.condT eZ (dT h3) (aV (oMov eC (xQ (AW.ret (TQ.qr ?_)))))
  cases H
  exact eE rfl rfl
 ·refine AW.condF eZ (dF h3) (AW.skip (TQ.qn (AW.seqJ (fun t4 : Unit => laws_sameInts_j4 t4 = some r) (fun t4 => mk [] [] noG) ?_ ?_)))
  ·intro t4 H
   unfold laws_sameInts_j4 at H
   refine aV (oMov eC (xQ (AW.ret ?_)))
   cases H
   exact eE rfl rfl
  ·refine aV (oMov eC (xQ (AW.block (AW.iter (fun s6 : Int => mk [(0, (.one (.d (.sl 1 (List.map d_i64 a1))))), (1, (.one (.d (.sl 1 (List.map d_i64 a2))))), (5, (oI s6))] [] noG) H (wk_mk [] (kR rfl rfl (kR rfl rfl (kR rfl rfl SL.nil))) BL.nil BK.nil) ?_))))
   intro kb7 s6 H
   unfold laws_sameInts_b6 at H
   refine aS (aV (oMov (eR rfl) (oMov (eR rfl) (oLenD eZ (n := a1.length) (List.length_map _) (oLss (eR rfl) eZ (xQ ?_))))))
   rcases oite H with ⟨h8, H⟩ | ⟨h8, H⟩
   ·refine AW.condT eZ (dT h8) (AW.skip (TQ.qn (aS (AW.block (aS (AW.regd (oMov (eR rfl) (oMov (eR rfl) ?_))))))))
    obtain ⟨v9, h10, H⟩ := obind H
    refine oAtD (eR rfl) eZ h10 (oLoadB (e := (.int .i64 v9)) eZ rfl (oMov (eR rfl) (oMov (eR rfl) ?_)))
    obtain ⟨v11, h12, H⟩ := obind H
    refine oAtD (eR rfl) eZ h12 (oLoadB (e := (.int .i64 v11)) eZ rfl (oNeq (eR rfl) eZ (xQ (AW.weaken (wk_mk [] (kr 25 rfl rfl (kr 0 rfl rfl (kr 1 rfl rfl (kr 5 rfl rfl SL.nil)))) BL.nil BK.nil) ?_))))
    rcases oite H with ⟨h13, H⟩ | ⟨h13, H⟩
    ·refine AW.condT eZ (dT h13) (aV (oMov eC (xQ (AW.ret (BQ.qr (TQ.qr (TQ.qr (BQ.qr (TQ.qr ?_)))))))))
     cases H
     exact eE rfl rfl
    ·exact AW.condF eZ (dF h13) (AW.skip (BQ.qn (TQ.qn (aR (oMov (eR rfl) (oAdd eZ eC (oMov eZ (xNil (TQ.qn ⟨(IntKind.wrap .i64 (s6 + 1)), H, (wk_mk [] (kR rfl rfl (kR rfl rfl (kR rfl rfl SL.nil))) BL.nil BK.nil)⟩)))))))))
   ·exact AW.condF eZ (dF h8) (AW.exit (TQ.qe (TQ.qe (BQ.qe (TQ.qn ⟨(), H, (wk_mk [] SL.nil BL.nil BK.nil)⟩)))))
theorem c_laws_within {a1 : (List Int)} {a2 : Int} {r : Bool} (H : m_laws_within a1 a2 = some r) : Fn Try.prog 30 (lent [(.sl 1 (List.map d_i64 a1)), (.int .i64 a2)]) true [(.bool r)] := by
 refine f30 (fle rfl) ?_
 rw [init_mk]
 refine AW.weaken (wk_mk [] (kv 0 (.one (.d (.sl 1 (List.map d_i64 a1)))) rfl rfl (kv 1 (oI a2) rfl rfl SL.nil)) BL.nil BK.nil) ?_
 unfold m_laws_within at H
 unfold i30
 refine aV (oMov eC (xQ (AW.seqJ (fun t3 : Unit => laws_within_j3 t3 = some r) (fun t3 => mk [] [] noG) ?_ ?_)))
 ·intro t3 H
  unfold laws_within_j3 at H
  refine aV (oMov eC (xQ (AW.ret ?_)))
  cases H
  exact eE rfl rfl
 ·refine aV (oMov eC (xQ (AW.block (AW.iter (fun s5 : Int => mk [(0, (.one (.d (.sl 1 (List.map d_i64 a1))))), (1, (oI a2)), (5, (oI s5))] [] noG) H (wk_mk [] (kR rfl rfl (kR rfl rfl (kR rfl rfl SL.nil))) BL.nil BK.nil) ?_))))
  intro kb6 s5 H
  unfold laws_within_b5 at H
  refine aS (aV (oMov (eR rfl) (oMov (eR rfl) (oLenD eZ (n := a1.length) (List.length_map _) (oLss (eR rfl) eZ (xQ ?_))))))
  rcases oite H with ⟨h7, H⟩ | ⟨h7, H⟩
  ·refine AW.condT eZ (dT h7) (AW.skip (TQ.qn (aS (AW.block (aV (oMov (eR rfl) (oMov (eR rfl) ?_)))))))
   obtain ⟨v8, h9, H⟩ := obind H
   refine oAtD (eR rfl) eZ h9 (oLoadB (e := (.int .i64 v8)) eZ rfl (oMov (eR rfl) (oEql (eR rfl) eZ (xQ ?_))))
   rcases oite H with ⟨h10, H⟩ | ⟨h10, H⟩
   ·refine AW.condT eZ (dT h10) (aV (oMov eC (xQ (AW.ret (BQ.qr (TQ.qr (TQ.qr (BQ.qr (TQ.qr ?_)))))))))
    cases H
    exact eE rfl rfl
   ·exact AW.condF eZ (dF h10) (AW.skip (BQ.qn (TQ.qn (aR (oMov (eR rfl) (oAdd eZ eC (oMov eZ (xNil (TQ.qn ⟨(IntKind.wrap .i64 (s5 + 1)), H, (wk_mk [] (kR rfl rfl (kR rfl rfl (kR rfl rfl SL.nil))) BL.nil BK.nil)⟩)))))))))
  ·exact AW.condF eZ (dF h7) (AW.exit (TQ.qe (TQ.qe (BQ.qe (TQ.qn ⟨(), H, (wk_mk [] SL.nil BL.nil BK.nil)⟩)))))
theorem c_impl_LocksOf_1 {a1 : TLock} {a2 : Int} {r : Bool} (H : m_impl_LocksOf_1 a1 a2 = some r) : Fn Try.prog 76 (lent [(.agg (d_TLock a1)), (.ptr (d_i64 a2))]) true [(.bool r)] := by
 refine f76 (fle rfl) ?_
 rw [init_mk]
 refine AW.weaken (wk_mk [] (kv 0 (.agg [(dI a1.Tx), (dI a1.Lo), (dI a1.Hi), (dI a1.Mode)]) rfl rfl (SL.cons (v := (.one (.ptr (.bd (d_i64 a2) 0)))) (eS rfl eZ) rfl (VWk.one CWk.ptr) SL.nil)) BL.nil BK.nil) ?_
 unfold m_impl_LocksOf_1 at H
 unfold i76
 refine aV (oBox (n := 128) (m := 4) (cs := [(dI a1.Tx), (dI a1.Lo), (dI a1.Hi), (dI a1.Mode)]) rfl eZ rfl rfl nZ (oMov eC (xQ (aV (oFaddrN (m := 0) (eR rfl) rfl (oLoadV (q := 0) (c := (dI a1.Tx)) eZ bZ rfl rfl (oLoadB (e := (.int .i64 a2)) (eR rfl) rfl (oNeq (eR rfl) eZ (oMov eZ (xQ (AW.ret ?_)))))))))))
 cases H
 exact eE rfl rfl
theorem c_slices_IndexFunc_Lock__LocksOf_1 {a1 : (List TLock)} {a2 : Int} {r : Int} (H : m_slices_IndexFunc_Lock__LocksOf_1 a1 a2 = some r) : Fn Try.prog 103 (lent [(.sl 4 (List.map d_TLock a1)), (.fn 76 [.ptr (d_i64 a2)])]) true [(.int .i64 r)] := by
 refine f103 (fle rfl) ?_
 rw [init_mk]
 refine AW.weaken (wk_mk [] (kv 0 (.one (.d (.sl 4 (List.map d_TLock a1)))) rfl rfl (SL.cons (v := (.one (.fn 76 [(.bd (d_i64 a2) 0)]))) (eS rfl eZ) rfl (VWk.one (CWk.fn (css := [d_i64 a2]))) SL.nil)) BL.nil BK.nil) ?_
 unfold m_slices_IndexFunc_Lock__LocksOf_1 at H
 unfold i103
 refine aV (oMov eC (xQ (AW.seqJ (fun t3 : Unit => slices_IndexFunc_Lock__LocksOf_1_j3 t3 = some r) (fun t3 => mk [] [] noG) ?_ ?_)))
 ·intro t3 H
  unfold slices_IndexFunc_Lock__LocksOf_1_j3 at H
  refine aV (oMov eC (xQ (AW.ret ?_)))
  cases H
  exact eE rfl rfl
 ·refine aV (oMov (eR rfl) (oLenD eZ (n := a1.length) (List.length_map _) (oMov eC (xQ (AW.block (AW.iter (fun s5 : Int => mk [(0, (.one (.d (.sl 4 (List.map d_TLock a1))))), (1, (.one (.fn 76 [(.bd (d_i64 a2) 0)]))), (7, (oI (a1.length : Int))), (8, (oI s5))] [] noG) H (wk_mk [] (kR rfl rfl (kR rfl rfl (kR rfl rfl (kR rfl rfl SL.nil)))) BL.nil BK.nil) ?_))))))
  intro kb6 s5 H
  unfold slices_IndexFunc_Lock__LocksOf_1_b5 at H
  refine aV (oLss (eR rfl) (eR rfl) (xQ (aS ?_)))
  rcases oite H with ⟨h7, H⟩ | ⟨h7, H⟩
  ·refine AW.condT eZ (dT h7) (AW.skip (TQ.qn (aS (AW.block (aV (oMov (eR rfl) (oMov eZ (xQ (aV (oMov (eR rfl) (oMov (eR rfl) (oMov (eR rfl) ?_))))))))))))
   obtain ⟨v8, h9, H⟩ := obind H
   refine oAtD (eR rfl) eZ h9 (oLoadBA (es := [(dI v8.Tx), (dI v8.Lo), (dI v8.Hi), (dI v8.Mode)]) eZ rfl ?_)
   obtain ⟨v10, h11, H⟩ := obind H
   refine oCall (u := (oB v10)) (eR rfl) Cl.fn (c_impl_LocksOf_1 h11) (Evs.cons eZ Evs.nil) (VDs.cons (VD.agg rfl) (VDs.cons VD.ptrB VDs.nil)) rfl (xQ ?_)
   rcases oite H with ⟨h12, H⟩ | ⟨h12, H⟩
   ·refine AW.condT eZ h12 (aV (oMov (eR rfl) (oMov eZ (xQ (AW.ret (BQ.qr (TQ.qr (TQ.qr (BQ.qr (TQ.qr ?_))))))))))
    cases H
    exact eE rfl rfl
   ·exact AW.condF eZ (nt h12) (AW.skip (BQ.qn (TQ.qn (aR (oAdd (eR rfl) eC (oMov eZ (xNil (TQ.qn ⟨(IntKind.wrap .i64 (s5 + 1)), H, (wk_mk [] (kR rfl rfl (kR rfl rfl (kR rfl rfl (kR rfl rfl SL.nil)))) BL.nil BK.nil)⟩))))))))
  ·exact AW.condF eZ (dF h7) (AW.exit (TQ.qe (TQ.qe (BQ.qe (TQ.qn ⟨(), H, (wk_mk [] SL.nil BL.nil BK.nil)⟩)))))
theorem c_slices_DeleteFunc_Lock__LocksOf_1 {a1 : (List TLock)} {a2 : Int} {r : (List TLock)} (H : m_slices_DeleteFunc_Lock__LocksOf_1 a1 a2 = some r) : Fn Try.prog 64 [⟨(.sl 4 (List.map d_TLock a1)), .g⟩, ⟨(.fn 76 [.ptr (d_i64 a2)]), .b⟩] true [(.sl 4 (List.map d_TLock r))] := by
 refine m64 (fle rfl) (fC nZ rfl fN) rfl ?_
 rw [initM_mk]
 refine AW.weaken (t := mk [(0, (.one (.sl 0 0 a1.length))), (1, (.one (.fn 76 [(.bd (d_i64 a2) 0)])))] [(0, (.data 4 (List.map d_TLock a1) true none))] (lk [])) (wk_mkG (gl := []) [] (SL.cons (v := (.one (.sl 0 0 a1.length))) eZ rfl (VWk.one (CWk.len (List.length_map _))) (SL.cons (v := (.one (.fn 76 [(.bd (d_i64 a2) 0)]))) (eS rfl eZ) rfl (VWk.one (CWk.fn (css := [d_i64 a2]))) SL.nil)) (BL.keep rfl BL.nil) (BK.cons (n := 0) rfl bZ rfl rfl BK.nil) GK.nil) ?_
 unfold m_slices_DeleteFunc_Lock__LocksOf_1 at H
 unfold i64
 refine aV (oMov eC (xQ (aV (oMov (eR rfl) (oMov (eR rfl) ?_)))))
 obtain ⟨v3, h4, H⟩ := obind H
 refine oCall (u := (oI v3)) eC Cl.fn (c_slices_IndexFunc_Lock__LocksOf_1 h4) (Evs.cons (eR rfl) (Evs.cons eZ Evs.nil)) (VDs.cons (VD.sl bZ (List.length_map _)) (VDs.cons (VD.fn (PDs.cons VD.ptrB PDs.nil)) VDs.nil)) rfl (oMov eZ (xQ (aS (aV (oMov eZ (oEql eZ eC (xQ ?_)))))))
 rcases oite H with ⟨h5, H⟩ | ⟨h5, H⟩
 ·refine AW.condT eZ (dT h5) (aV (oMov (eR rfl) (oMov eZ (xQ (AW.ret (TQ.qr ?_))))))
  cases H
  exact endsRM (RL.cons (RV.tmp eZ) (VO.sl bZ (List.length_map _) (allFlat fun _ => rfl)) RL.nil) (ML.give (ML.lent ML.nil)) (by decide)
 ·refine AW.condF eZ (dF h5) (AW.skip (TQ.qn (AW.seqJ (fun t6 : ((List TLock) × Int) => slices_DeleteFunc_Lock__LocksOf_1_j6 t6 = some r) (fun t6 => mk [(0, (.one (.sl 320128 0 t6.1.length))), (5, (oI t6.2))] [(320128, (.data 4 (List.map d_TLock t6.1) true none))] (lk [])) ?_ ?_)))
  ·intro t6 H
   unfold slices_DeleteFunc_Lock__LocksOf_1_j6 at H
   refine aV (oMov eZ (oMov (eR rfl) ?_))
   obtain ⟨h8, H⟩ := oguard H
   refine oCutN (r := (Int.toNat t6.2)) (s := (Int.toNat ((t6.1.length : Nat) : Int) - Int.toNat t6.2)) (eR rfl) bZ rfl (Bd.at eZ) Bd.no rfl rfl h8 ?_
   obtain ⟨h9, H⟩ := oguard H
   refine oClear (zv := (TLock.mk 0 0 0 0)) eZ bZ rfl rfl h9 (xQ (aV (oMov (eR rfl) (oMov (eR rfl) ?_))))
   obtain ⟨h10, H⟩ := oguard H
   refine oCutN (r := 0) (s := (Int.toNat t6.2)) (eR rfl) bZ rfl Bd.no (Bd.at eZ) rfl rfl h10 (oMov eZ (xQ (AW.weaken (wk_take 320128 (Int.toNat t6.2) bZ) (AW.ret ?_))))
   cases H
   exact endsRM (RL.cons (RV.tmp eZ) (VO.sl bZ (by first | (simp; done) | (simp; omega) | omega | (simp only [List.length_map]; omega)) (allFlat fun _ => rfl)) RL.nil) (ML.give (ML.lent ML.nil)) (by decide)
  ·refine aV (oMov (eR rfl) (oAdd eZ eC (oMov eZ (xQ (AW.block (AW.iter (fun s11 : ((List TLock) × Int × Int) => mk [(0, (.one (.sl 320192 0 s11.1.length))), (1, (.one (.fn 76 [(.bd (d_i64 a2) 0)]))), (5, (oI s11.2.1)), (6, (oI s11.2.2))] [(320192, (.data 4 (List.map d_TLock s11.1) true none))] (lk [])) H ((wk_mkG [] (kR rfl rfl (kR rfl rfl (kR rfl rfl (kR rfl rfl SL.nil)))) (BL.keep rfl BL.nil) (BK.cons rfl bZ rfl rfl BK.nil) GK.nil).trans (wk_renG 0 320192 rfl rfl (nS rfl nZ) GR.nil)) ?_))))))
   intro kb12 s11 H
   unfold slices_DeleteFunc_Lock__LocksOf_1_b11 at H
   refine aS (aV (oMov (eR rfl) (oMov (eR rfl) (oLenN eZ (oLss (eR rfl) eZ (xQ ?_))))))
   rcases oite H with ⟨h13, H⟩ | ⟨h13, H⟩
   ·refine AW.condT eZ (dT h13) (AW.skip (TQ.qn (aS (AW.block (aV (oMov (eR rfl) (oMov (eR rfl) ?_)))))))
    obtain ⟨v14, h15, H⟩ := obind H
    refine oAtN (eR rfl) eZ bZ rfl h15 (oLoadDA (t := v14) (es := [(.int .i64 v14.Tx), (.int .i64 v14.Lo), (.int .i64 v14.Hi), (.int .i64 v14.Mode)]) (cs := [(dI v14.Tx), (dI v14.Lo), (dI v14.Hi), (dI v14.Mode)]) eZ bZ (idx_at h15) rfl rfl rfl (oVar (n := 448) (m := 4) rfl rfl (nS rfl nZ) (oStoreV (es := [(dI v14.Tx), (dI v14.Lo), (dI v14.Hi), (dI v14.Mode)]) eZ (eR rfl) rfl rfl bZ rfl (xQ (aV (oMov (eR rfl) (oLoadVA (es := [(dI v14.Tx), (dI v14.Lo), (dI v14.Hi), (dI v14.Mode)]) (eR rfl) bZ rfl ?_)))))))
    obtain ⟨v16, h17, H⟩ := obind H
    refine oCall (u := (oB v16)) (eR rfl) Cl.fn (c_impl_LocksOf_1 h17) (Evs.cons eZ Evs.nil) (VDs.cons (VD.agg rfl) (VDs.cons VD.ptrB VDs.nil)) rfl (oInv eZ (xQ (AW.weaken (wk_mkG [] (kr 29 rfl rfl (kr 7 rfl rfl (kr 0 rfl rfl (kr 1 rfl rfl (kr 5 rfl rfl (kr 6 rfl rfl SL.nil)))))) (BL.keep rfl (BL.keep rfl (BL.keep rfl BL.nil))) (BK.cons (n := 448) rfl bZ rfl rfl (BK.cons (n := 320192) rfl (bS rfl (bS rfl bZ)) rfl rfl BK.nil)) GK.nil) ?_)))
    rcases oite H with ⟨h18, H⟩ | ⟨h18, H⟩
    ·exact AW.condF eZ (cN h18) (AW.skip (BQ.qn (TQ.qn (aR (oMov (eR rfl) (oAdd eZ eC (oMov eZ (xNil (TQ.qn ⟨(s11.1, s11.2.1, (IntKind.wrap .i64 (s11.2.2 + 1))), H, (wk_mkG [448] (kR rfl rfl (kR rfl rfl (kR rfl rfl (kR rfl rfl SL.nil)))) (BL.drop rfl (BL.keep rfl BL.nil)) (BK.cons rfl (bS rfl bZ) rfl rfl BK.nil) GK.nil)⟩)))))))))
    ·refine AW.condT eZ (cN (nt h18)) (aV (oMov (eR rfl) (oMov (eR rfl) (oLoadVA (es := [(dI v14.Tx), (dI v14.Lo), (dI v14.Hi), (dI v14.Mode)]) (eR rfl) bZ rfl ?_))))
     obtain ⟨v19, h20, H⟩ := obind H
     exact oAtN (eR rfl) (eR rfl) (bS rfl bZ) rfl h20 (oStoreD (t := v19) (t' := v14) (es := [(.int .i64 v14.Tx), (.int .i64 v14.Lo), (.int .i64 v14.Hi), (.int .i64 v14.Mode)]) eZ (eR rfl) rfl rfl (bS rfl bZ) (idx_at h20) rfl rfl (xQ (aR (oMov (eR rfl) (oAdd eZ eC (oMov eZ (xNil (BQ.qn (TQ.qn (aR (oMov (eR rfl) (oAdd eZ eC (oMov eZ (xNil (TQ.qn ⟨(s11.1.set (Int.toNat s11.2.1) v14, (IntKind.wrap .i64 (s11.2.1 + 1)), (IntKind.wrap .i64 (s11.2.2 + 1))), H, (wk_mkG [448] (SL.cons (eR rfl) rfl (VWk.one (CWk.len (by first | (simp; done) | (simp; omega) | omega | (simp only [List.length_map]; omega)))) (kR rfl rfl (kR rfl rfl (kR rfl rfl SL.nil)))) (BL.keep rfl (BL.drop rfl (BL.keep rfl BL.nil))) (BK.cons rfl bZ rfl rfl BK.nil) GK.nil)⟩)))))))))))))))
   ·exact AW.condF eZ (dF h13) (AW.exit (TQ.qe (TQ.qe (BQ.qe (TQ.qn ⟨(s11.1, s11.2.1), H, ((wk_mkG [] (kR rfl rfl (kR rfl rfl SL.nil)) (BL.keep rfl BL.nil) (BK.cons rfl bZ rfl rfl BK.nil) GK.nil).trans (wk_renG 320192 320128 rfl rfl (nS rfl nZ) GR.nil))⟩)))))
theorem c_impl_LocksOf {a1 : (List TLock)} {a2 : Int} {r : (List TLock)} (H : m_impl_LocksOf a1 a2 = some r) : Fn Try.prog 31 (lent [(.sl 4 (List.map d_TLock a1)), (.int .i64 a2)]) true [(.sl 4 (List.map d_TLock r))] := by
 refine f31 (fle rfl) ?_
 rw [init_mk]
 refine AW.weaken (t := mk [(0, (.one (.d (.sl 4 (List.map d_TLock a1))))), (1, (oI a2))] [] (lk [])) (wk_mk [] (kv 0 (.one (.d (.sl 4 (List.map d_TLock a1)))) rfl rfl (kv 1 (oI a2) rfl rfl SL.nil)) BL.nil BK.nil) ?_
 unfold m_impl_LocksOf at H
 unfold i31
 refine aV (oBox (n := 192) (m := 1) (cs := [(dI a2)]) rfl (eR rfl) rfl rfl nZ (oMov eC (xQ (aS (aV (oMov (eR rfl) ?_))))))
 obtain ⟨v3, h4, H⟩ := obind H
 refine oCall (u := (oB v3)) eC Cl.fn (c_impl_LocksOk h4) (Evs.cons eZ Evs.nil) (VDs.cons VD.plain VDs.nil) rfl (oInv eZ (xQ ?_))
 rcases oite H with ⟨h5, H⟩ | ⟨h5, H⟩
 ·refine AW.condF eZ (cN h5) (AW.skip (TQ.qn (aS (AW.regm (rmOne (oMov (eR rfl) (xNil (rmOne ?_))))))))
  obtain ⟨v6, h7, H⟩ := obind H
  refine oCallN (u := (.one (.sl 576 0 v6.length))) (bs := [(576, (.data 4 (List.map d_TLock v6) true none))]) eC Cl.fn (c_slices_Clone_Lock h7) (Evs.cons eZ Evs.nil) (VDs.cons VD.plain VDs.nil) (by simp [bindR, bindV, bindVs, bindC, bindCs]) rfl (fC (nS rfl nZ) rfl (fC (nS rfl nZ) rfl fN)) (xNil (rmOne (oMkfn (ps := [(.nm 192 0 0)]) (Evs.cons (eR rfl) Evs.nil) (xNil ?_))))
  obtain ⟨v8, h9, H⟩ := obind H
  refine rmCall (ON := [576]) (ls := [192]) (G := [576]) (E := [576]) (MB := []) (u := (.one (.sl 704 0 v8.length))) (bs := [(704, (.data 4 (List.map d_TLock v8) true none))]) eC Cl.fn (c_slices_DeleteFunc_Lock__LocksOf_1 h9) (Evs.cons (eR rfl) (Evs.cons eZ Evs.nil)) (AO.give (VO.sl bZ (List.length_map _) (allFlat fun _ => rfl)) (AO.lent (VD.fn (PDs.cons (VD.ptrN (bS rfl bZ) (CDs.plain CDs.nil)) PDs.nil)) rfl AO.nil)) rfl rfl rfl SZ.nil (erL.cons (v' := (.one (.fn 76 [(.nm 192 0 0)]))) rfl (erL.cons (v' := (.one .any)) rfl (erL.cons (v' := (.one (.d (.sl 4 (List.map d_TLock a1))))) rfl (erL.cons (v' := (oB (!v3))) rfl (erL.cons (v' := (oB v3)) rfl (erL.cons (v' := (.one (.d (.sl 4 (List.map d_TLock a1))))) rfl (erL.cons (v' := (.one .zs)) rfl (erL.cons (v' := (.one (.ptr (.nm 192 0 0)))) rfl (erL.cons (v' := (.one (.d (.sl 4 (List.map d_TLock a1))))) rfl (erL.cons (v' := (oI a2)) rfl erL.nil)))))))))) (erH.drop rfl (erH.cons (v' := (.vars 1 [(dI a2)])) rfl rfl erH.nil)) erL.nil (by simp [bindR, bindV, bindVs, bindC, bindCs]) rfl (fC (nS rfl nZ) rfl (fC (nS rfl nZ) rfl fN)) (rmRest (oMov eZ (xQ (AW.ret ?_))))
  cases H
  exact endsR (RL.cons (RV.tmp eZ) (VO.sl bZ (List.length_map _) (allFlat fun _ => rfl)) RL.nil) (by decide)
 ·refine AW.condT eZ (cN (nt h5)) (aV (oMov eC (xQ (AW.ret (TQ.qr ?_)))))
  cases H
  exact endsR (RL.cons (RV.tmp eZ) VO.zs RL.nil) List.nodup_nil
end Go.AW
