/- That functions of the program compute what the plain functions say. Conditions: each theorem's own. -/
import Derived.Test.YtnpbflgkgjnljaaMFnMoves15
import Derived.Test.YtnpbflgkgjnljaaGFnMoves15
import Derived.Test.YtnpbflgkgjnljaaDFnMoves15a
import Derived.Test.YtnpbflgkgjnljaaDFnMoves15b
set_option linter.unusedVariables false
set_option linter.unusedSimpArgs false
set_option maxRecDepth 100000
namespace Go.AW
open Go.Proofs
theorem c_spec_l15DrawAny{pv:Value}{cb1:(List Int)}{a2:(Int×Int)}{a3:Int}{r:(TAtlas×(Int×Int))}(H:m_spec_l15DrawAny cb1 a2 a3=some r):FnC Try.prog pv (.sl 1 (List.map d_u8 cb1)) 37 [⟨(.ptr [(.pin pv),(.int .i64 a2.1),(.int .i64 a2.2)]),.m (.ptr [(.pin pv),(.int .i64 r.2.1),(.int .i64 r.2.2)])⟩,⟨(.int .i64 a3),.b⟩] [(.agg (d_TAtlas r.1))]:=by
 refine n37 (fle rfl) (fle rfl) (fC nZ rfl fN) rfl ?_
 rw[initC_mk]
 refine AW.weaken (t:=mk [(0,(.one (.ptr (.nm 0 0 0)))),(1,(oI a3))] [(0,(.vars 3 [(.d (.pin pv)),(dI a2.1),(dI a2.2)]))] (lk [(63,(.one (.d (.both pv (.sl 1 (List.map d_u8 cb1)))))),(0,(.one (.ptr (.nm 0 0 0))))])) (wk_mkG (gl:=[(63,(.one (.d (.both pv (.sl 1 (List.map d_u8 cb1)))))),(0,(.one (.ptr (.nm 0 0 0))))]) [] (kv 0 (.one (.ptr (.nm 0 0 0))) rfl rfl (kv 1 (oI a3) rfl rfl SL.nil)) (BL.keep rfl BL.nil) (BK.cons (n:=0) rfl bZ rfl rfl BK.nil) (GK.cons rfl (GK.cons rfl GK.nil))) ?_
 unfold m_spec_l15DrawAny at H
 unfold i37
 refine aV (oVar (n:=256) (m:=9) rfl rfl (nS rfl nZ) (xQ (aS (AW.regm (rmOne (oMov (eR rfl) (xNil (rmOne (oMov (eR rfl) (xNil ?_))))))))))
 obtain⟨v4,h5,H⟩:=obind H
 refine rmCallC (v0:=pv) (hg:=by exact rfl) (ON:=[0]) (ls:=[]) (G:=[]) (E:=[subKey 0]) (MB:=[(0,(.vars 3 [(.d (.pin pv)),(dI v4.2.1),(dI v4.2.2)]))]) (u:=(.agg [(dI v4.1.Epoch),(.sl 513 0 v4.1.Parts.length),(dI v4.1.Move.No),(dI v4.1.Move.Stage),(dI v4.1.Move.Lo),(dI v4.1.Move.Hi),(dI v4.1.Move.From),(dI v4.1.Move.To),(.sl 520 0 v4.1.Move.Cells.length)])) (bs:=[(513,(.data 3 (List.map d_TPart v4.1.Parts) true none)),(520,(.data 2 (List.map d_TCell v4.1.Move.Cells) true none))]) eC Cl.fn (c_spec_l15DrawAtlas h5) (Evs.cons (eR rfl) (Evs.cons eZ Evs.nil)) (AO.mut (VO.ptr (es:=[(.pin pv),(.int .i64 a2.1),(.int .i64 a2.2)]) (bS rfl bZ) rfl rfl rfl) (AO.lent VD.plain rfl AO.nil)) rfl rfl rfl (SZ.consP (bS rfl bZ) rfl SZ.nil) (erL.cons (v':=(oI a3)) rfl (erL.cons (v':=(.one (.ptr (.nm 0 0 0)))) rfl (erL.cons (v':=(.one (.ptr (.nm 256 0 0)))) rfl (erL.cons (v':=(.one (.ptr (.nm 0 0 0)))) rfl (erL.cons (v':=(oI a3)) rfl erL.nil))))) (erH.cons (v':=(.vars 9 [(dI 0),.zs,(dI 0),(dI 0),(dI 0),(dI 0),(dI 0),(dI 0),.zs])) rfl rfl (erH.cons (v':=(.vars 3 [(.d (.pin pv)),(dI a2.1),(dI a2.2)])) rfl rfl erH.nil)) (erL.cons (v':=(.one (.d (.both pv (.sl 1 (List.map d_u8 cb1)))))) rfl (erL.cons (v':=(.one (.ptr (.nm 0 0 0)))) rfl erL.nil)) (by simp[bindR,bindV,bindVs,bindC,bindCs]) rfl (fC (nS rfl (nS rfl (nS rfl nZ))) rfl (fC (nS rfl (nS rfl (nS rfl nZ))) rfl (fC (nS rfl (nS rfl (nS rfl nZ))) rfl fN))) (rmOne (oVar (n:=320) (m:=9) rfl rfl (nS rfl (nS rfl (nS rfl (nS rfl (nS rfl nZ))))) (xNil (rmOne (oStoreV (es:=[(dI v4.1.Epoch),(.sl 513 0 v4.1.Parts.length),(dI v4.1.Move.No),(dI v4.1.Move.Stage),(dI v4.1.Move.Lo),(dI v4.1.Move.Hi),(dI v4.1.Move.From),(dI v4.1.Move.To),(.sl 520 0 v4.1.Move.Cells.length)]) eZ (eR rfl) rfl rfl bZ rfl (xNil (rmRest (xQ (aS (aS (AW.regm (rmOne (oMov (eR rfl) (xNil ?_))))))))))))))
 obtain⟨v6,h7,H⟩:=obind H
 refine rmCallIC (v0:=pv) (hg:=by exact rfl) (ON:=[0]) (ls:=[]) (G:=[]) (E:=[subKey 0]) (MB:=[(0,(.vars 3 [(.d (.pin pv)),(dI v6.2.1),(dI v6.2.2)]))]) (u:=(oI v6.1)) eC Cl.fn (c_spec_l1Below h7) (Evs.cons eZ (Evs.cons eC Evs.nil)) (AO.mut (VO.ptr (es:=[(.pin pv),(.int .i64 v4.2.1),(.int .i64 v4.2.2)]) (bS rfl (bS rfl (bS rfl (bS rfl bZ)))) rfl rfl rfl) (AO.lent VD.plain rfl AO.nil)) rfl rfl rfl (SZ.consP (bS rfl (bS rfl (bS rfl (bS rfl bZ)))) rfl SZ.nil) (erL.cons (v':=(.one (.ptr (.nm 0 0 0)))) rfl (erL.cons (v':=(.one (.ptr (.nm 320 0 0)))) rfl (erL.cons (v':=(.agg [(dI v4.1.Epoch),(.sl 513 0 v4.1.Parts.length),(dI v4.1.Move.No),(dI v4.1.Move.Stage),(dI v4.1.Move.Lo),(dI v4.1.Move.Hi),(dI v4.1.Move.From),(dI v4.1.Move.To),(.sl 520 0 v4.1.Move.Cells.length)])) rfl (erL.cons (v':=(oI a3)) rfl (erL.cons (v':=(.one (.ptr (.nm 0 0 0)))) rfl (erL.cons (v':=(.one (.ptr (.nm 256 0 0)))) rfl (erL.cons (v':=(.one (.ptr (.nm 0 0 0)))) rfl (erL.cons (v':=(oI a3)) rfl erL.nil)))))))) (erH.cons (v':=(.vars 9 [(dI v4.1.Epoch),(.sl 513 0 v4.1.Parts.length),(dI v4.1.Move.No),(dI v4.1.Move.Stage),(dI v4.1.Move.Lo),(dI v4.1.Move.Hi),(dI v4.1.Move.From),(dI v4.1.Move.To),(.sl 520 0 v4.1.Move.Cells.length)])) rfl rfl (erH.cons (v':=(.vars 9 [(dI 0),.zs,(dI 0),(dI 0),(dI 0),(dI 0),(dI 0),(dI 0),.zs])) rfl rfl (erH.cons (v':=(.data 2 (List.map d_TCell v4.1.Move.Cells) true none)) rfl rfl (erH.cons (v':=(.data 3 (List.map d_TPart v4.1.Parts) true none)) rfl rfl (erH.cons (v':=(.vars 3 [(.d (.pin pv)),(dI v4.2.1),(dI v4.2.2)])) rfl rfl (erH.cons (v':=(.vars 9 [(dI 0),.zs,(dI 0),(dI 0),(dI 0),(dI 0),(dI 0),(dI 0),.zs])) rfl rfl (erH.cons (v':=(.vars 3 [(.d (.pin pv)),(dI a2.1),(dI a2.2)])) rfl rfl erH.nil))))))) (erL.cons (v':=(.one (.d (.both pv (.sl 1 (List.map d_u8 cb1)))))) rfl (erL.cons (v':=(.one (.ptr (.nm 0 0 0)))) rfl erL.nil)) rfl rfl (rmRest (xQ (AW.block (aV (oEql eZ eC (oMov eZ (xQ ?_)))))))
 rcases oite H with⟨h8,H⟩|⟨h8,H⟩
 ·refine AW.condT eZ (dT h8) (AW.regm (rmOne (oMov (eR rfl) (xNil (rmOne (oBslice (m:=896) (q:=3) (cs:=[(dI (-1)),(dI 1000000),(dI 1000001)]) rfl (PsCons eC (PsCons eC (PsCons eC PsNil))) rfl (List.cons_ne_nil _ _) (by simp) (nS rfl (nS rfl (nS rfl (nS rfl (nS rfl (nS rfl (nS rfl (nS rfl nZ)))))))) (xNil ?_)))))))
  obtain⟨v9,h10,H⟩:=obind H
  refine rmCallIC (v0:=pv) (hg:=by exact rfl) (ON:=[0]) (ls:=[896]) (G:=[]) (E:=[subKey 0]) (MB:=[(0,(.vars 3 [(.d (.pin pv)),(dI v9.2.1),(dI v9.2.2)]))]) (u:=(oI v9.1)) eC Cl.fn (c_spec_l1PickInt h10) (Evs.cons (eR rfl) (Evs.cons eZ Evs.nil)) (AO.mut (VO.ptr (es:=[(.pin pv),(.int .i64 v6.2.1),(.int .i64 v6.2.2)]) (bS rfl bZ) rfl rfl rfl) (AO.lent (VD.vars [(.int .i64 (-1)),(.int .i64 1000000),(.int .i64 1000001)] bZ rfl rfl) rfl AO.nil)) rfl rfl rfl (SZ.consP (bS rfl bZ) rfl SZ.nil) (erL.cons (v':=(.one (.sl 896 0 3))) rfl (erL.cons (v':=(.one (.ptr (.nm 0 0 0)))) rfl (erL.cons (v':=(oB (decide (v6.1=0)))) rfl (erL.cons (v':=(oB (decide (v6.1=0)))) rfl (erL.cons (v':=(oI v6.1)) rfl (erL.cons (v':=(.one (.ptr (.nm 0 0 0)))) rfl (erL.cons (v':=(.one (.ptr (.nm 320 0 0)))) rfl (erL.cons (v':=(.agg [(dI v4.1.Epoch),(.sl 513 0 v4.1.Parts.length),(dI v4.1.Move.No),(dI v4.1.Move.Stage),(dI v4.1.Move.Lo),(dI v4.1.Move.Hi),(dI v4.1.Move.From),(dI v4.1.Move.To),(.sl 520 0 v4.1.Move.Cells.length)])) rfl (erL.cons (v':=(oI a3)) rfl (erL.cons (v':=(.one (.ptr (.nm 0 0 0)))) rfl (erL.cons (v':=(.one (.ptr (.nm 256 0 0)))) rfl (erL.cons (v':=(.one (.ptr (.nm 0 0 0)))) rfl (erL.cons (v':=(oI a3)) rfl erL.nil))))))))))))) (erH.cons (v':=(.vars 1 [(dI (-1)),(dI 1000000),(dI 1000001)])) rfl rfl (erH.cons (v':=(.vars 3 [(.d (.pin pv)),(dI v6.2.1),(dI v6.2.2)])) rfl rfl (erH.cons (v':=(.vars 9 [(dI v4.1.Epoch),(.sl 513 0 v4.1.Parts.length),(dI v4.1.Move.No),(dI v4.1.Move.Stage),(dI v4.1.Move.Lo),(dI v4.1.Move.Hi),(dI v4.1.Move.From),(dI v4.1.Move.To),(.sl 520 0 v4.1.Move.Cells.length)])) rfl rfl (erH.cons (v':=(.vars 9 [(dI 0),.zs,(dI 0),(dI 0),(dI 0),(dI 0),(dI 0),(dI 0),.zs])) rfl rfl (erH.cons (v':=(.data 2 (List.map d_TCell v4.1.Move.Cells) true none)) rfl rfl (erH.cons (v':=(.data 3 (List.map d_TPart v4.1.Parts) true none)) rfl rfl (erH.cons (v':=(.vars 3 [(.d (.pin pv)),(dI v4.2.1),(dI v4.2.2)])) rfl rfl (erH.cons (v':=(.vars 9 [(dI 0),.zs,(dI 0),(dI 0),(dI 0),(dI 0),(dI 0),(dI 0),.zs])) rfl rfl (erH.cons (v':=(.vars 3 [(.d (.pin pv)),(dI a2.1),(dI a2.2)])) rfl rfl erH.nil))))))))) (erL.cons (v':=(.one (.d (.both pv (.sl 1 (List.map d_u8 cb1)))))) rfl (erL.cons (v':=(.one (.ptr (.nm 0 0 0)))) rfl erL.nil)) rfl rfl (rmRest (oFaddrN (m:=0) (eR rfl) rfl (oStoreV (es:=[(dI v9.1),(.sl 513 0 v4.1.Parts.length),(dI v4.1.Move.No),(dI v4.1.Move.Stage),(dI v4.1.Move.Lo),(dI v4.1.Move.Hi),(dI v4.1.Move.From),(dI v4.1.Move.To),(.sl 520 0 v4.1.Move.Cells.length)]) eZ (eR rfl) rfl rfl (bS rfl (bS rfl (bS rfl bZ))) rfl (xNil (BQ.qn (TQ.qn (aS (AW.regm (rmOne (oLoadVA (es:=[(dI v9.1),(.sl 513 0 v4.1.Parts.length),(dI v4.1.Move.No),(dI v4.1.Move.Stage),(dI v4.1.Move.Lo),(dI v4.1.Move.Hi),(dI v4.1.Move.From),(dI v4.1.Move.To),(.sl 520 0 v4.1.Move.Cells.length)]) (eR rfl) bZ rfl (xNil (rmOne (oStoreV (es:=[(dI v9.1),(.sl 513 0 v4.1.Parts.length),(dI v4.1.Move.No),(dI v4.1.Move.Stage),(dI v4.1.Move.Lo),(dI v4.1.Move.Hi),(dI v4.1.Move.From),(dI v4.1.Move.To),(.sl 520 0 v4.1.Move.Cells.length)]) (eR rfl) eZ rfl rfl (bS rfl (bS rfl (bS rfl (bS rfl (bS rfl (bS rfl (bS rfl (bS rfl (bS rfl bZ))))))))) rfl (xNil (rmRest (xQ (AW.weaken (wk_mkG [320,896] (kr 4 rfl rfl SL.nil) (BL.keep rfl (BL.drop rfl (BL.keep rfl (BL.drop rfl (BL.keep rfl (BL.drop rfl (BL.drop rfl (BL.keep rfl (BL.keep rfl (BL.keep rfl (BL.keep rfl (BL.keep rfl BL.nil)))))))))))) (BK.cons (n:=256) rfl bZ rfl rfl (BK.cons (n:=0) rfl (bS rfl (bS rfl bZ)) rfl rfl (BK.cons (n:=520) rfl (bS rfl (bS rfl (bS rfl (bS rfl (bS rfl (bS rfl (bS rfl bZ))))))) rfl rfl (BK.cons (n:=513) rfl (bS rfl (bS rfl (bS rfl (bS rfl (bS rfl (bS rfl (bS rfl (bS rfl bZ)))))))) rfl rfl BK.nil)))) (GK.cons rfl (GK.cons rfl GK.nil))) (AW.ret ?_))))))))))))))))))
  cases H
  exact endsRM (RL.cons (RV.cellA (es:=[(dI v9.1),(.sl 513 0 v4.1.Parts.length),(dI v4.1.Move.No),(dI v4.1.Move.Stage),(dI v4.1.Move.Lo),(dI v4.1.Move.Hi),(dI v4.1.Move.From),(dI v4.1.Move.To),(.sl 520 0 v4.1.Move.Cells.length)]) eZ bZ rfl) (VO.aggs (VOs.cons (VO.flat rfl) (VOs.cons (VO.sl (bS rfl (bS rfl (bS rfl bZ))) (List.length_map _) (allFlat fun _=>rfl)) (VOs.cons (VO.flat rfl) (VOs.cons (VO.flat rfl) (VOs.cons (VO.flat rfl) (VOs.cons (VO.flat rfl) (VOs.cons (VO.flat rfl) (VOs.cons (VO.flat rfl) (VOs.cons (VO.sl (bS rfl (bS rfl bZ)) (List.length_map _) (allFlat fun _=>rfl)) VOs.nil)))))))))) RL.nil) (ML.mut (eS rfl eZ) (VO.ptr (es:=[(.pin pv),(.int .i64 v9.2.1),(.int .i64 v9.2.2)]) (bS rfl bZ) rfl rfl rfl) (ML.lent ML.nil)) (by decide)
 ·refine AW.condF eZ (dF h8) (aV (oEql (eR rfl) eC (oMov eZ (xQ ?_))))
  rcases oite H with⟨h11,H⟩|⟨h11,H⟩
  ·refine AW.condT eZ (dT h11) (AW.regm (rmOne (oMov (eR rfl) (xNil ?_))))
   obtain⟨v12,h13,H⟩:=obind H
   refine rmCallC (v0:=pv) (hg:=by exact rfl) (ON:=[0]) (ls:=[]) (G:=[]) (E:=[subKey 0]) (MB:=[(0,(.vars 3 [(.d (.pin pv)),(dI v12.2.1),(dI v12.2.2)]))]) (u:=(.one (.sl 1280 0 v12.1.length))) (bs:=[(1280,(.data 3 (List.map d_TPart v12.1) true none))]) eC Cl.fn (c_spec_l10DrawAny h13) (Evs.cons eZ Evs.nil) (AO.mut (VO.ptr (es:=[(.pin pv),(.int .i64 v6.2.1),(.int .i64 v6.2.2)]) bZ rfl rfl rfl) AO.nil) rfl rfl rfl (SZ.consP bZ rfl SZ.nil) (erL.cons (v':=(.one (.ptr (.nm 0 0 0)))) rfl (erL.cons (v':=(oB (decide (v6.1=1)))) rfl (erL.cons (v':=(oB (decide (v6.1=1)))) rfl (erL.cons (v':=(oB (decide (v6.1=0)))) rfl (erL.cons (v':=(oB (decide (v6.1=0)))) rfl (erL.cons (v':=(oI v6.1)) rfl (erL.cons (v':=(.one (.ptr (.nm 0 0 0)))) rfl (erL.cons (v':=(.one (.ptr (.nm 320 0 0)))) rfl (erL.cons (v':=(.agg [(dI v4.1.Epoch),(.sl 513 0 v4.1.Parts.length),(dI v4.1.Move.No),(dI v4.1.Move.Stage),(dI v4.1.Move.Lo),(dI v4.1.Move.Hi),(dI v4.1.Move.From),(dI v4.1.Move.To),(.sl 520 0 v4.1.Move.Cells.length)])) rfl (erL.cons (v':=(oI a3)) rfl (erL.cons (v':=(.one (.ptr (.nm 0 0 0)))) rfl (erL.cons (v':=(.one (.ptr (.nm 256 0 0)))) rfl (erL.cons (v':=(.one (.ptr (.nm 0 0 0)))) rfl (erL.cons (v':=(oI a3)) rfl erL.nil)))))))))))))) (erH.cons (v':=(.vars 3 [(.d (.pin pv)),(dI v6.2.1),(dI v6.2.2)])) rfl rfl (erH.cons (v':=(.vars 9 [(dI v4.1.Epoch),(.sl 513 0 v4.1.Parts.length),(dI v4.1.Move.No),(dI v4.1.Move.Stage),(dI v4.1.Move.Lo),(dI v4.1.Move.Hi),(dI v4.1.Move.From),(dI v4.1.Move.To),(.sl 520 0 v4.1.Move.Cells.length)])) rfl rfl (erH.cons (v':=(.vars 9 [(dI 0),.zs,(dI 0),(dI 0),(dI 0),(dI 0),(dI 0),(dI 0),.zs])) rfl rfl (erH.cons (v':=(.data 2 (List.map d_TCell v4.1.Move.Cells) true none)) rfl rfl (erH.cons (v':=(.data 3 (List.map d_TPart v4.1.Parts) true none)) rfl rfl (erH.cons (v':=(.vars 3 [(.d (.pin pv)),(dI v4.2.1),(dI v4.2.2)])) rfl rfl (erH.cons (v':=(.vars 9 [(dI 0),.zs,(dI 0),(dI 0),(dI 0),(dI 0),(dI 0),(dI 0),.zs])) rfl rfl (erH.cons (v':=(.vars 3 [(.d (.pin pv)),(dI a2.1),(dI a2.2)])) rfl rfl erH.nil)))))))) (erL.cons (v':=(.one (.d (.both pv (.sl 1 (List.map d_u8 cb1)))))) rfl (erL.cons (v':=(.one (.ptr (.nm 0 0 0)))) rfl erL.nil)) (by simp[bindR,bindV,bindVs,bindC,bindCs]) rfl (fC (nS rfl (nS rfl (nS rfl (nS rfl (nS rfl (nS rfl (nS rfl (nS rfl (nS rfl nZ))))))))) rfl (fC (nS rfl (nS rfl (nS rfl (nS rfl (nS rfl (nS rfl (nS rfl (nS rfl (nS rfl nZ))))))))) rfl fN)) (rmOne (oFaddrN (m:=1) (eR rfl) rfl (xNil (rmOne (oStoreV (es:=[(dI v4.1.Epoch),(.sl 1280 0 v12.1.length),(dI v4.1.Move.No),(dI v4.1.Move.Stage),(dI v4.1.Move.Lo),(dI v4.1.Move.Hi),(dI v4.1.Move.From),(dI v4.1.Move.To),(.sl 520 0 v4.1.Move.Cells.length)]) eZ (eR rfl) rfl rfl (bS rfl (bS rfl (bS rfl bZ))) rfl (xNil (rmRest (xNil (BQ.qn (TQ.qn (AW.weaken (wk_mkG [513] (kr 5 rfl rfl (kr 4 rfl rfl SL.nil)) (BL.keep rfl (BL.keep rfl (BL.keep rfl (BL.keep rfl (BL.keep rfl (BL.keep rfl (BL.keep rfl (BL.drop rfl (BL.keep rfl (BL.keep rfl (BL.keep rfl BL.nil))))))))))) (BK.cons (n:=320) rfl bZ rfl rfl (BK.cons (n:=1280) rfl (bS rfl bZ) rfl rfl (BK.cons (n:=0) rfl (bS rfl (bS rfl bZ)) rfl rfl (BK.cons (n:=520) rfl (bS rfl (bS rfl (bS rfl (bS rfl (bS rfl (bS rfl bZ)))))) rfl rfl (BK.cons (n:=256) rfl (bS rfl (bS rfl (bS rfl (bS rfl (bS rfl (bS rfl (bS rfl (bS rfl (bS rfl bZ))))))))) rfl rfl BK.nil))))) (GK.cons rfl (GK.cons rfl GK.nil))) (aS (AW.regm (rmOne (oLoadVA (es:=[(dI v4.1.Epoch),(.sl 1280 0 v12.1.length),(dI v4.1.Move.No),(dI v4.1.Move.Stage),(dI v4.1.Move.Lo),(dI v4.1.Move.Hi),(dI v4.1.Move.From),(dI v4.1.Move.To),(.sl 520 0 v4.1.Move.Cells.length)]) eZ bZ rfl (xNil (rmOne (oStoreV (es:=[(dI v4.1.Epoch),(.sl 1280 0 v12.1.length),(dI v4.1.Move.No),(dI v4.1.Move.Stage),(dI v4.1.Move.Lo),(dI v4.1.Move.Hi),(dI v4.1.Move.From),(dI v4.1.Move.To),(.sl 520 0 v4.1.Move.Cells.length)]) (eR rfl) eZ rfl rfl (bS rfl (bS rfl (bS rfl (bS rfl bZ)))) rfl (xNil (rmRest (xQ (AW.ret ?_))))))))))))))))))))))
   cases H
   exact endsRM (RL.cons (RV.cellA (es:=[(dI v4.1.Epoch),(.sl 1280 0 v12.1.length),(dI v4.1.Move.No),(dI v4.1.Move.Stage),(dI v4.1.Move.Lo),(dI v4.1.Move.Hi),(dI v4.1.Move.From),(dI v4.1.Move.To),(.sl 520 0 v4.1.Move.Cells.length)]) (eR rfl) bZ rfl) (VO.aggs (VOs.cons (VO.flat rfl) (VOs.cons (VO.sl (bS rfl (bS rfl bZ)) (List.length_map _) (allFlat fun _=>rfl)) (VOs.cons (VO.flat rfl) (VOs.cons (VO.flat rfl) (VOs.cons (VO.flat rfl) (VOs.cons (VO.flat rfl) (VOs.cons (VO.flat rfl) (VOs.cons (VO.flat rfl) (VOs.cons (VO.sl (bS rfl (bS rfl (bS rfl (bS rfl bZ)))) (List.length_map _) (allFlat fun _=>rfl)) VOs.nil)))))))))) RL.nil) (ML.mut (eS rfl eZ) (VO.ptr (es:=[(.pin pv),(.int .i64 v12.2.1),(.int .i64 v12.2.2)]) (bS rfl (bS rfl (bS rfl bZ))) rfl rfl rfl) (ML.lent ML.nil)) (by decide)
  ·refine AW.condF eZ (dF h11) (aV (oEql (eR rfl) eC (oMov eZ (xQ ?_))))
   rcases oite H with⟨h14,H⟩|⟨h14,H⟩
   ·refine AW.condT eZ (dT h14) (AW.regm (rmOne (oMov (eR rfl) (xNil (rmOne (oBslice (m:=1600) (q:=4) (cs:=[(dI (-1)),(dI 0),(dI 300000),(dI 300001)]) rfl (PsCons eC (PsCons eC (PsCons eC (PsCons eC PsNil)))) rfl (List.cons_ne_nil _ _) (by simp) (nS rfl (nS rfl (nS rfl (nS rfl (nS rfl (nS rfl (nS rfl (nS rfl nZ)))))))) (xNil ?_)))))))
    obtain⟨v15,h16,H⟩:=obind H
    refine rmCallIC (v0:=pv) (hg:=by exact rfl) (ON:=[0]) (ls:=[1600]) (G:=[]) (E:=[subKey 0]) (MB:=[(0,(.vars 3 [(.d (.pin pv)),(dI v15.2.1),(dI v15.2.2)]))]) (u:=(oI v15.1)) eC Cl.fn (c_spec_l1PickInt h16) (Evs.cons (eR rfl) (Evs.cons eZ Evs.nil)) (AO.mut (VO.ptr (es:=[(.pin pv),(.int .i64 v6.2.1),(.int .i64 v6.2.2)]) (bS rfl bZ) rfl rfl rfl) (AO.lent (VD.vars [(.int .i64 (-1)),(.int .i64 0),(.int .i64 300000),(.int .i64 300001)] bZ rfl rfl) rfl AO.nil)) rfl rfl rfl (SZ.consP (bS rfl bZ) rfl SZ.nil) (erL.cons (v':=(.one (.sl 1600 0 4))) rfl (erL.cons (v':=(.one (.ptr (.nm 0 0 0)))) rfl (erL.cons (v':=(oB (decide (v6.1=2)))) rfl (erL.cons (v':=(oB (decide (v6.1=2)))) rfl (erL.cons (v':=(oB (decide (v6.1=1)))) rfl (erL.cons (v':=(oB (decide (v6.1=1)))) rfl (erL.cons (v':=(oB (decide (v6.1=0)))) rfl (erL.cons (v':=(oB (decide (v6.1=0)))) rfl (erL.cons (v':=(oI v6.1)) rfl (erL.cons (v':=(.one (.ptr (.nm 0 0 0)))) rfl (erL.cons (v':=(.one (.ptr (.nm 320 0 0)))) rfl (erL.cons (v':=(.agg [(dI v4.1.Epoch),(.sl 513 0 v4.1.Parts.length),(dI v4.1.Move.No),(dI v4.1.Move.Stage),(dI v4.1.Move.Lo),(dI v4.1.Move.Hi),(dI v4.1.Move.From),(dI v4.1.Move.To),(.sl 520 0 v4.1.Move.Cells.length)])) rfl (erL.cons (v':=(oI a3)) rfl (erL.cons (v':=(.one (.ptr (.nm 0 0 0)))) rfl (erL.cons (v':=(.one (.ptr (.nm 256 0 0)))) rfl (erL.cons (v':=(.one (.ptr (.nm 0 0 0)))) rfl (erL.cons (v':=(oI a3)) rfl erL.nil))))))))))))))))) (erH.cons (v':=(.vars 1 [(dI (-1)),(dI 0),(dI 300000),(dI 300001)])) rfl rfl (erH.cons (v':=(.vars 3 [(.d (.pin pv)),(dI v6.2.1),(dI v6.2.2)])) rfl rfl (erH.cons (v':=(.vars 9 [(dI v4.1.Epoch),(.sl 513 0 v4.1.Parts.length),(dI v4.1.Move.No),(dI v4.1.Move.Stage),(dI v4.1.Move.Lo),(dI v4.1.Move.Hi),(dI v4.1.Move.From),(dI v4.1.Move.To),(.sl 520 0 v4.1.Move.Cells.length)])) rfl rfl (erH.cons (v':=(.vars 9 [(dI 0),.zs,(dI 0),(dI 0),(dI 0),(dI 0),(dI 0),(dI 0),.zs])) rfl rfl (erH.cons (v':=(.data 2 (List.map d_TCell v4.1.Move.Cells) true none)) rfl rfl (erH.cons (v':=(.data 3 (List.map d_TPart v4.1.Parts) true none)) rfl rfl (erH.cons (v':=(.vars 3 [(.d (.pin pv)),(dI v4.2.1),(dI v4.2.2)])) rfl rfl (erH.cons (v':=(.vars 9 [(dI 0),.zs,(dI 0),(dI 0),(dI 0),(dI 0),(dI 0),(dI 0),.zs])) rfl rfl (erH.cons (v':=(.vars 3 [(.d (.pin pv)),(dI a2.1),(dI a2.2)])) rfl rfl erH.nil))))))))) (erL.cons (v':=(.one (.d (.both pv (.sl 1 (List.map d_u8 cb1)))))) rfl (erL.cons (v':=(.one (.ptr (.nm 0 0 0)))) rfl erL.nil)) rfl rfl (rmRest (oFaddrN (m:=2) (eR rfl) rfl (oFaddrN (m:=2) eZ rfl (oStoreV (es:=[(dI v4.1.Epoch),(.sl 513 0 v4.1.Parts.length),(dI v15.1),(dI v4.1.Move.Stage),(dI v4.1.Move.Lo),(dI v4.1.Move.Hi),(dI v4.1.Move.From),(dI v4.1.Move.To),(.sl 520 0 v4.1.Move.Cells.length)]) eZ (eR rfl) rfl rfl (bS rfl (bS rfl (bS rfl bZ))) rfl (xNil (BQ.qn (TQ.qn (AW.weaken (wk_mkG [1600] (kr 5 rfl rfl (kr 4 rfl rfl SL.nil)) (BL.keep rfl (BL.keep rfl (BL.drop rfl (BL.keep rfl (BL.keep rfl (BL.keep rfl (BL.keep rfl (BL.keep rfl (BL.keep rfl (BL.keep rfl (BL.keep rfl BL.nil))))))))))) (BK.cons (n:=320) rfl bZ rfl rfl (BK.cons (n:=0) rfl (bS rfl bZ) rfl rfl (BK.cons (n:=520) rfl (bS rfl (bS rfl (bS rfl (bS rfl (bS rfl (bS rfl bZ)))))) rfl rfl (BK.cons (n:=513) rfl (bS rfl (bS rfl (bS rfl (bS rfl (bS rfl (bS rfl (bS rfl bZ))))))) rfl rfl (BK.cons (n:=256) rfl (bS rfl (bS rfl (bS rfl (bS rfl (bS rfl (bS rfl (bS rfl (bS rfl (bS rfl bZ))))))))) rfl rfl BK.nil))))) (GK.cons rfl (GK.cons rfl GK.nil))) (aS (AW.regm (rmOne (oLoadVA (es:=[(dI v4.1.Epoch),(.sl 513 0 v4.1.Parts.length),(dI v15.1),(dI v4.1.Move.Stage),(dI v4.1.Move.Lo),(dI v4.1.Move.Hi),(dI v4.1.Move.From),(dI v4.1.Move.To),(.sl 520 0 v4.1.Move.Cells.length)]) eZ bZ rfl (xNil (rmOne (oStoreV (es:=[(dI v4.1.Epoch),(.sl 513 0 v4.1.Parts.length),(dI v15.1),(dI v4.1.Move.Stage),(dI v4.1.Move.Lo),(dI v4.1.Move.Hi),(dI v4.1.Move.From),(dI v4.1.Move.To),(.sl 520 0 v4.1.Move.Cells.length)]) (eR rfl) eZ rfl rfl (bS rfl (bS rfl (bS rfl (bS rfl bZ)))) rfl (xNil (rmRest (xQ (AW.ret ?_)))))))))))))))))))
    cases H
    exact endsRM (RL.cons (RV.cellA (es:=[(dI v4.1.Epoch),(.sl 513 0 v4.1.Parts.length),(dI v15.1),(dI v4.1.Move.Stage),(dI v4.1.Move.Lo),(dI v4.1.Move.Hi),(dI v4.1.Move.From),(dI v4.1.Move.To),(.sl 520 0 v4.1.Move.Cells.length)]) (eR rfl) bZ rfl) (VO.aggs (VOs.cons (VO.flat rfl) (VOs.cons (VO.sl (bS rfl (bS rfl (bS rfl (bS rfl bZ)))) (List.length_map _) (allFlat fun _=>rfl)) (VOs.cons (VO.flat rfl) (VOs.cons (VO.flat rfl) (VOs.cons (VO.flat rfl) (VOs.cons (VO.flat rfl) (VOs.cons (VO.flat rfl) (VOs.cons (VO.flat rfl) (VOs.cons (VO.sl (bS rfl (bS rfl (bS rfl bZ))) (List.length_map _) (allFlat fun _=>rfl)) VOs.nil)))))))))) RL.nil) (ML.mut (eS rfl eZ) (VO.ptr (es:=[(.pin pv),(.int .i64 v15.2.1),(.int .i64 v15.2.2)]) (bS rfl (bS rfl bZ)) rfl rfl rfl) (ML.lent ML.nil)) (by decide)
   ·refine AW.condF eZ (dF h14) (aV (oEql (eR rfl) eC (oMov eZ (xQ (AW.weaken (wk_mkG [] (kr 29 rfl rfl (kr 10 rfl rfl (kr 5 rfl rfl (kr 4 rfl rfl (kr 0 rfl rfl SL.nil))))) (BL.keep rfl (BL.keep rfl (BL.keep rfl (BL.keep rfl (BL.keep rfl (BL.keep rfl (BL.keep rfl (BL.keep rfl BL.nil)))))))) (BK.cons (n:=0) rfl bZ rfl rfl (BK.cons (n:=320) rfl (bS rfl bZ) rfl rfl (BK.cons (n:=520) rfl (bS rfl (bS rfl (bS rfl bZ))) rfl rfl (BK.cons (n:=513) rfl (bS rfl (bS rfl (bS rfl (bS rfl bZ)))) rfl rfl (BK.cons (n:=256) rfl (bS rfl (bS rfl (bS rfl (bS rfl (bS rfl (bS rfl bZ)))))) rfl rfl BK.nil))))) (GK.cons rfl (GK.cons rfl GK.nil))) ?_)))))
    rcases oite H with⟨h17,H⟩|⟨h17,H⟩
    ·refine AW.condT eZ (dT h17) (AW.regm (rmOne (oMov (eR rfl) (xNil ?_))))
     obtain⟨v18,h19,H⟩:=obind H
     refine rmCallIC (v0:=pv) (hg:=by exact rfl) (ON:=[0]) (ls:=[]) (G:=[]) (E:=[subKey 0]) (MB:=[(0,(.vars 3 [(.d (.pin pv)),(dI v18.2.1),(dI v18.2.2)]))]) (u:=(oI v18.1)) eC Cl.fn (c_spec_l1Below h19) (Evs.cons eZ (Evs.cons eC Evs.nil)) (AO.mut (VO.ptr (es:=[(.pin pv),(.int .i64 v6.2.1),(.int .i64 v6.2.2)]) bZ rfl rfl rfl) (AO.lent VD.plain rfl AO.nil)) rfl rfl rfl (SZ.consP bZ rfl SZ.nil) (erL.cons (v':=(.one (.ptr (.nm 0 0 0)))) rfl (erL.cons (v':=(oB (decide (v6.1=3)))) rfl (erL.cons (v':=(oI v6.1)) rfl (erL.cons (v':=(.one (.ptr (.nm 320 0 0)))) rfl (erL.cons (v':=(.one (.ptr (.nm 256 0 0)))) rfl (erL.cons (v':=(.one (.ptr (.nm 0 0 0)))) rfl erL.nil)))))) (erH.cons (v':=(.vars 3 [(.d (.pin pv)),(dI v6.2.1),(dI v6.2.2)])) rfl rfl (erH.cons (v':=(.vars 9 [(dI v4.1.Epoch),(.sl 513 0 v4.1.Parts.length),(dI v4.1.Move.No),(dI v4.1.Move.Stage),(dI v4.1.Move.Lo),(dI v4.1.Move.Hi),(dI v4.1.Move.From),(dI v4.1.Move.To),(.sl 520 0 v4.1.Move.Cells.length)])) rfl rfl (erH.cons (v':=(.data 2 (List.map d_TCell v4.1.Move.Cells) true none)) rfl rfl (erH.cons (v':=(.data 3 (List.map d_TPart v4.1.Parts) true none)) rfl rfl (erH.cons (v':=(.vars 9 [(dI 0),.zs,(dI 0),(dI 0),(dI 0),(dI 0),(dI 0),(dI 0),.zs])) rfl rfl erH.nil))))) (erL.cons (v':=(.one (.d (.both pv (.sl 1 (List.map d_u8 cb1)))))) rfl (erL.cons (v':=(.one (.ptr (.nm 0 0 0)))) rfl erL.nil)) rfl rfl (rmRest (oSub eZ eC (oFaddrN (m:=2) (eR rfl) rfl (oFaddrN (m:=3) eZ rfl (oStoreV (es:=[(dI v4.1.Epoch),(.sl 513 0 v4.1.Parts.length),(dI v4.1.Move.No),(dI (IntKind.wrap .i64 (v18.1 - 1))),(dI v4.1.Move.Lo),(dI v4.1.Move.Hi),(dI v4.1.Move.From),(dI v4.1.Move.To),(.sl 520 0 v4.1.Move.Cells.length)]) eZ (eR rfl) rfl rfl (bS rfl (bS rfl bZ)) rfl (xNil (BQ.qn (TQ.qn (aS (AW.regm (rmOne (oLoadVA (es:=[(dI v4.1.Epoch),(.sl 513 0 v4.1.Parts.length),(dI v4.1.Move.No),(dI (IntKind.wrap .i64 (v18.1 - 1))),(dI v4.1.Move.Lo),(dI v4.1.Move.Hi),(dI v4.1.Move.From),(dI v4.1.Move.To),(.sl 520 0 v4.1.Move.Cells.length)]) (eR rfl) bZ rfl (xNil (rmOne (oStoreV (es:=[(dI v4.1.Epoch),(.sl 513 0 v4.1.Parts.length),(dI v4.1.Move.No),(dI (IntKind.wrap .i64 (v18.1 - 1))),(dI v4.1.Move.Lo),(dI v4.1.Move.Hi),(dI v4.1.Move.From),(dI v4.1.Move.To),(.sl 520 0 v4.1.Move.Cells.length)]) (eR rfl) eZ rfl rfl (bS rfl (bS rfl (bS rfl (bS rfl (bS rfl (bS rfl bZ)))))) rfl (xNil (rmRest (xQ (AW.ret ?_)))))))))))))))))))
     cases H
     exact endsRM (RL.cons (RV.cellA (es:=[(dI v4.1.Epoch),(.sl 513 0 v4.1.Parts.length),(dI v4.1.Move.No),(dI (IntKind.wrap .i64 (v18.1 - 1))),(dI v4.1.Move.Lo),(dI v4.1.Move.Hi),(dI v4.1.Move.From),(dI v4.1.Move.To),(.sl 520 0 v4.1.Move.Cells.length)]) (eR rfl) bZ rfl) (VO.aggs (VOs.cons (VO.flat rfl) (VOs.cons (VO.sl (bS rfl (bS rfl (bS rfl (bS rfl (bS rfl (bS rfl bZ)))))) (List.length_map _) (allFlat fun _=>rfl)) (VOs.cons (VO.flat rfl) (VOs.cons (VO.flat rfl) (VOs.cons (VO.flat rfl) (VOs.cons (VO.flat rfl) (VOs.cons (VO.flat rfl) (VOs.cons (VO.flat rfl) (VOs.cons (VO.sl (bS rfl (bS rfl (bS rfl (bS rfl (bS rfl bZ))))) (List.length_map _) (allFlat fun _=>rfl)) VOs.nil)))))))))) RL.nil) (ML.mut (eS rfl eZ) (VO.ptr (es:=[(.pin pv),(.int .i64 v18.2.1),(.int .i64 v18.2.2)]) (bS rfl (bS rfl bZ)) rfl rfl rfl) (ML.lent ML.nil)) (by decide)
    ·refine AW.condF eZ (dF h17) (aV (oEql (eR rfl) eC (oMov eZ (xQ ?_))))
     rcases oite H with⟨h20,H⟩|⟨h20,H⟩
     ·refine AW.condT eZ (dT h20) (AW.regm (rmOne (oMov (eR rfl) (xNil ?_))))
      obtain⟨v21,h22,H⟩:=obind H
      refine rmCallC (v0:=pv) (hg:=by exact rfl) (ON:=[0]) (ls:=[]) (G:=[]) (E:=[subKey 0]) (MB:=[(0,(.vars 3 [(.d (.pin pv)),(dI v21.2.1),(dI v21.2.2)]))]) (u:=(.one (.sl 2496 0 v21.1.length))) (bs:=[(2496,(.data 2 (List.map d_TCell v21.1) true none))]) eC Cl.fn (c_spec_l11DrawAny h22) (Evs.cons eZ (Evs.cons eC Evs.nil)) (AO.mut (VO.ptr (es:=[(.pin pv),(.int .i64 v6.2.1),(.int .i64 v6.2.2)]) bZ rfl rfl rfl) (AO.lent VD.plain rfl AO.nil)) rfl rfl rfl (SZ.consP bZ rfl SZ.nil) (erL.cons (v':=(.one (.ptr (.nm 0 0 0)))) rfl (erL.cons (v':=(oB (decide (v6.1=4)))) rfl (erL.cons (v':=(oB (decide (v6.1=4)))) rfl (erL.cons (v':=(oB (decide (v6.1=3)))) rfl (erL.cons (v':=(oI v6.1)) rfl (erL.cons (v':=(.one (.ptr (.nm 320 0 0)))) rfl (erL.cons (v':=(.one (.ptr (.nm 256 0 0)))) rfl (erL.cons (v':=(.one (.ptr (.nm 0 0 0)))) rfl erL.nil)))))))) (erH.cons (v':=(.vars 3 [(.d (.pin pv)),(dI v6.2.1),(dI v6.2.2)])) rfl rfl (erH.cons (v':=(.vars 9 [(dI v4.1.Epoch),(.sl 513 0 v4.1.Parts.length),(dI v4.1.Move.No),(dI v4.1.Move.Stage),(dI v4.1.Move.Lo),(dI v4.1.Move.Hi),(dI v4.1.Move.From),(dI v4.1.Move.To),(.sl 520 0 v4.1.Move.Cells.length)])) rfl rfl (erH.cons (v':=(.data 2 (List.map d_TCell v4.1.Move.Cells) true none)) rfl rfl (erH.cons (v':=(.data 3 (List.map d_TPart v4.1.Parts) true none)) rfl rfl (erH.cons (v':=(.vars 9 [(dI 0),.zs,(dI 0),(dI 0),(dI 0),(dI 0),(dI 0),(dI 0),.zs])) rfl rfl erH.nil))))) (erL.cons (v':=(.one (.d (.both pv (.sl 1 (List.map d_u8 cb1)))))) rfl (erL.cons (v':=(.one (.ptr (.nm 0 0 0)))) rfl erL.nil)) (by simp[bindR,bindV,bindVs,bindC,bindCs]) rfl (fC (nS rfl (nS rfl (nS rfl (nS rfl (nS rfl (nS rfl nZ)))))) rfl (fC (nS rfl (nS rfl (nS rfl (nS rfl (nS rfl (nS rfl nZ)))))) rfl fN)) (rmOne (oFaddrN (m:=2) (eR rfl) rfl (xNil (rmOne (oFaddrN (m:=8) eZ rfl (xNil (rmOne (oStoreV (es:=[(dI v4.1.Epoch),(.sl 513 0 v4.1.Parts.length),(dI v4.1.Move.No),(dI v4.1.Move.Stage),(dI v4.1.Move.Lo),(dI v4.1.Move.Hi),(dI v4.1.Move.From),(dI v4.1.Move.To),(.sl 2496 0 v21.1.length)]) eZ (eR rfl) rfl rfl (bS rfl (bS rfl (bS rfl bZ))) rfl (xNil (rmRest (xNil (BQ.qn (TQ.qn (aS (AW.regm (rmOne (oLoadVA (es:=[(dI v4.1.Epoch),(.sl 513 0 v4.1.Parts.length),(dI v4.1.Move.No),(dI v4.1.Move.Stage),(dI v4.1.Move.Lo),(dI v4.1.Move.Hi),(dI v4.1.Move.From),(dI v4.1.Move.To),(.sl 2496 0 v21.1.length)]) (eR rfl) bZ rfl (xNil (rmOne (oStoreV (es:=[(dI v4.1.Epoch),(.sl 513 0 v4.1.Parts.length),(dI v4.1.Move.No),(dI v4.1.Move.Stage),(dI v4.1.Move.Lo),(dI v4.1.Move.Hi),(dI v4.1.Move.From),(dI v4.1.Move.To),(.sl 2496 0 v21.1.length)]) (eR rfl) eZ rfl rfl (bS rfl (bS rfl (bS rfl (bS rfl (bS rfl (bS rfl (bS rfl bZ))))))) rfl (xNil (rmRest (xQ (AW.ret ?_))))))))))))))))))))))))
      cases H
      exact endsRM (RL.cons (RV.cellA (es:=[(dI v4.1.Epoch),(.sl 513 0 v4.1.Parts.length),(dI v4.1.Move.No),(dI v4.1.Move.Stage),(dI v4.1.Move.Lo),(dI v4.1.Move.Hi),(dI v4.1.Move.From),(dI v4.1.Move.To),(.sl 2496 0 v21.1.length)]) (eR rfl) bZ rfl) (VO.aggs (VOs.cons (VO.flat rfl) (VOs.cons (VO.sl (bS rfl (bS rfl (bS rfl (bS rfl (bS rfl (bS rfl (bS rfl bZ))))))) (List.length_map _) (allFlat fun _=>rfl)) (VOs.cons (VO.flat rfl) (VOs.cons (VO.flat rfl) (VOs.cons (VO.flat rfl) (VOs.cons (VO.flat rfl) (VOs.cons (VO.flat rfl) (VOs.cons (VO.flat rfl) (VOs.cons (VO.sl (bS rfl (bS rfl bZ)) (List.length_map _) (allFlat fun _=>rfl)) VOs.nil)))))))))) RL.nil) (ML.mut (eS rfl eZ) (VO.ptr (es:=[(.pin pv),(.int .i64 v21.2.1),(.int .i64 v21.2.2)]) (bS rfl (bS rfl (bS rfl bZ))) rfl rfl rfl) (ML.lent ML.nil)) (by decide)
     ·refine AW.condF eZ (dF h20) (aV (oEql (eR rfl) eC (oMov eZ (xQ ?_))))
      rcases oite H with⟨h23,H⟩|⟨h23,H⟩
      ·refine AW.condT eZ (dT h23) (AW.regm (rmOne (oMov (eR rfl) (xNil ?_))))
       obtain⟨v24,h25,H⟩:=obind H
       refine rmCallIC (v0:=pv) (hg:=by exact rfl) (ON:=[0]) (ls:=[]) (G:=[]) (E:=[subKey 0]) (MB:=[(0,(.vars 3 [(.d (.pin pv)),(dI v24.2.1),(dI v24.2.2)]))]) (u:=(oI v24.1)) eC Cl.fn (c_spec_l1Below h25) (Evs.cons eZ (Evs.cons eC Evs.nil)) (AO.mut (VO.ptr (es:=[(.pin pv),(.int .i64 v6.2.1),(.int .i64 v6.2.2)]) bZ rfl rfl rfl) (AO.lent VD.plain rfl AO.nil)) rfl rfl rfl (SZ.consP bZ rfl SZ.nil) (erL.cons (v':=(.one (.ptr (.nm 0 0 0)))) rfl (erL.cons (v':=(oB (decide (v6.1=5)))) rfl (erL.cons (v':=(oB (decide (v6.1=5)))) rfl (erL.cons (v':=(oB (decide (v6.1=4)))) rfl (erL.cons (v':=(oB (decide (v6.1=4)))) rfl (erL.cons (v':=(oB (decide (v6.1=3)))) rfl (erL.cons (v':=(oI v6.1)) rfl (erL.cons (v':=(.one (.ptr (.nm 320 0 0)))) rfl (erL.cons (v':=(.one (.ptr (.nm 256 0 0)))) rfl (erL.cons (v':=(.one (.ptr (.nm 0 0 0)))) rfl erL.nil)))))))))) (erH.cons (v':=(.vars 3 [(.d (.pin pv)),(dI v6.2.1),(dI v6.2.2)])) rfl rfl (erH.cons (v':=(.vars 9 [(dI v4.1.Epoch),(.sl 513 0 v4.1.Parts.length),(dI v4.1.Move.No),(dI v4.1.Move.Stage),(dI v4.1.Move.Lo),(dI v4.1.Move.Hi),(dI v4.1.Move.From),(dI v4.1.Move.To),(.sl 520 0 v4.1.Move.Cells.length)])) rfl rfl (erH.cons (v':=(.data 2 (List.map d_TCell v4.1.Move.Cells) true none)) rfl rfl (erH.cons (v':=(.data 3 (List.map d_TPart v4.1.Parts) true none)) rfl rfl (erH.cons (v':=(.vars 9 [(dI 0),.zs,(dI 0),(dI 0),(dI 0),(dI 0),(dI 0),(dI 0),.zs])) rfl rfl erH.nil))))) (erL.cons (v':=(.one (.d (.both pv (.sl 1 (List.map d_u8 cb1)))))) rfl (erL.cons (v':=(.one (.ptr (.nm 0 0 0)))) rfl erL.nil)) rfl rfl (rmRest (oSub eZ eC (oFaddrN (m:=2) (eR rfl) rfl (oFaddrN (m:=7) eZ rfl (oStoreV (es:=[(dI v4.1.Epoch),(.sl 513 0 v4.1.Parts.length),(dI v4.1.Move.No),(dI v4.1.Move.Stage),(dI v4.1.Move.Lo),(dI v4.1.Move.Hi),(dI v4.1.Move.From),(dI (IntKind.wrap .i64 (v24.1 - 1))),(.sl 520 0 v4.1.Move.Cells.length)]) eZ (eR rfl) rfl rfl (bS rfl (bS rfl bZ)) rfl (xNil (BQ.qn (TQ.qn (aS (AW.regm (rmOne (oLoadVA (es:=[(dI v4.1.Epoch),(.sl 513 0 v4.1.Parts.length),(dI v4.1.Move.No),(dI v4.1.Move.Stage),(dI v4.1.Move.Lo),(dI v4.1.Move.Hi),(dI v4.1.Move.From),(dI (IntKind.wrap .i64 (v24.1 - 1))),(.sl 520 0 v4.1.Move.Cells.length)]) (eR rfl) bZ rfl (xNil (rmOne (oStoreV (es:=[(dI v4.1.Epoch),(.sl 513 0 v4.1.Parts.length),(dI v4.1.Move.No),(dI v4.1.Move.Stage),(dI v4.1.Move.Lo),(dI v4.1.Move.Hi),(dI v4.1.Move.From),(dI (IntKind.wrap .i64 (v24.1 - 1))),(.sl 520 0 v4.1.Move.Cells.length)]) (eR rfl) eZ rfl rfl (bS rfl (bS rfl (bS rfl (bS rfl (bS rfl (bS rfl bZ)))))) rfl (xNil (rmRest (xQ (AW.ret ?_)))))))))))))))))))
       cases H
       exact endsRM (RL.cons (RV.cellA (es:=[(dI v4.1.Epoch),(.sl 513 0 v4.1.Parts.length),(dI v4.1.Move.No),(dI v4.1.Move.Stage),(dI v4.1.Move.Lo),(dI v4.1.Move.Hi),(dI v4.1.Move.From),(dI (IntKind.wrap .i64 (v24.1 - 1))),(.sl 520 0 v4.1.Move.Cells.length)]) (eR rfl) bZ rfl) (VO.aggs (VOs.cons (VO.flat rfl) (VOs.cons (VO.sl (bS rfl (bS rfl (bS rfl (bS rfl (bS rfl (bS rfl bZ)))))) (List.length_map _) (allFlat fun _=>rfl)) (VOs.cons (VO.flat rfl) (VOs.cons (VO.flat rfl) (VOs.cons (VO.flat rfl) (VOs.cons (VO.flat rfl) (VOs.cons (VO.flat rfl) (VOs.cons (VO.flat rfl) (VOs.cons (VO.sl (bS rfl (bS rfl (bS rfl (bS rfl (bS rfl bZ))))) (List.length_map _) (allFlat fun _=>rfl)) VOs.nil)))))))))) RL.nil) (ML.mut (eS rfl eZ) (VO.ptr (es:=[(.pin pv),(.int .i64 v24.2.1),(.int .i64 v24.2.2)]) (bS rfl (bS rfl bZ)) rfl rfl rfl) (ML.lent ML.nil)) (by decide)
      ·refine AW.condF eZ (dF h23) (AW.skip (BQ.qn (TQ.qn (aS (AW.regm (rmOne (oLoadVA (es:=[(dI v4.1.Epoch),(.sl 513 0 v4.1.Parts.length),(dI v4.1.Move.No),(dI v4.1.Move.Stage),(dI v4.1.Move.Lo),(dI v4.1.Move.Hi),(dI v4.1.Move.From),(dI v4.1.Move.To),(.sl 520 0 v4.1.Move.Cells.length)]) (eR rfl) (bS rfl bZ) rfl (xNil (rmOne (oStoreV (es:=[(dI v4.1.Epoch),(.sl 513 0 v4.1.Parts.length),(dI v4.1.Move.No),(dI v4.1.Move.Stage),(dI v4.1.Move.Lo),(dI v4.1.Move.Hi),(dI v4.1.Move.From),(dI v4.1.Move.To),(.sl 520 0 v4.1.Move.Cells.length)]) (eR rfl) eZ rfl rfl (bS rfl (bS rfl (bS rfl (bS rfl bZ)))) rfl (xNil (rmRest (xQ (AW.ret ?_))))))))))))))
       cases H
       exact endsRM (RL.cons (RV.cellA (es:=[(dI v4.1.Epoch),(.sl 513 0 v4.1.Parts.length),(dI v4.1.Move.No),(dI v4.1.Move.Stage),(dI v4.1.Move.Lo),(dI v4.1.Move.Hi),(dI v4.1.Move.From),(dI v4.1.Move.To),(.sl 520 0 v4.1.Move.Cells.length)]) (eR rfl) bZ rfl) (VO.aggs (VOs.cons (VO.flat rfl) (VOs.cons (VO.sl (bS rfl (bS rfl (bS rfl (bS rfl bZ)))) (List.length_map _) (allFlat fun _=>rfl)) (VOs.cons (VO.flat rfl) (VOs.cons (VO.flat rfl) (VOs.cons (VO.flat rfl) (VOs.cons (VO.flat rfl) (VOs.cons (VO.flat rfl) (VOs.cons (VO.flat rfl) (VOs.cons (VO.sl (bS rfl (bS rfl (bS rfl bZ))) (List.length_map _) (allFlat fun _=>rfl)) VOs.nil)))))))))) RL.nil) (ML.mut (eS rfl eZ) (VO.ptr (es:=[(.pin pv),(.int .i64 v6.2.1),(.int .i64 v6.2.2)]) (bS rfl bZ) rfl rfl rfl) (ML.lent ML.nil)) (by decide)
theorem c_spec_l10DrawKey{pv:Value}{cb1:(List Int)}{a2:(Int×Int)}{r:(Int×(Int×Int))}(H:m_spec_l10DrawKey cb1 a2=some r):FnC Try.prog pv (.sl 1 (List.map d_u8 cb1)) 39 [⟨(.ptr [(.pin pv),(.int .i64 a2.1),(.int .i64 a2.2)]),.m (.ptr [(.pin pv),(.int .i64 r.2.1),(.int .i64 r.2.2)])⟩] [(.int .i64 r.1)]:=by
 refine n39 (fle rfl) (fle rfl) (fC nZ rfl fN) rfl ?_
 rw[initC_mk]
 refine AW.weaken (t:=mk [(0,(.one (.ptr (.nm 0 0 0))))] [(0,(.vars 3 [(.d (.pin pv)),(dI a2.1),(dI a2.2)]))] (lk [(63,(.one (.d (.both pv (.sl 1 (List.map d_u8 cb1)))))),(0,(.one (.ptr (.nm 0 0 0))))])) (wk_mkG (gl:=[(63,(.one (.d (.both pv (.sl 1 (List.map d_u8 cb1)))))),(0,(.one (.ptr (.nm 0 0 0))))]) [] (kv 0 (.one (.ptr (.nm 0 0 0))) rfl rfl SL.nil) (BL.keep rfl BL.nil) (BK.cons (n:=0) rfl bZ rfl rfl BK.nil) (GK.cons rfl (GK.cons rfl GK.nil))) ?_
 unfold m_spec_l10DrawKey at H
 unfold i39
 refine aV (oMov eC (xQ (aS (aS (AW.regm (rmOne (oMov (eR rfl) (xNil ?_))))))))
 obtain⟨v3,h4,H⟩:=obind H
 refine rmCallIC (v0:=pv) (hg:=by exact rfl) (ON:=[0]) (ls:=[]) (G:=[]) (E:=[subKey 0]) (MB:=[(0,(.vars 3 [(.d (.pin pv)),(dI v3.2.1),(dI v3.2.2)]))]) (u:=(oB v3.1)) eC Cl.fn (c_spec_l1Once h4) (Evs.cons eZ (Evs.cons eC Evs.nil)) (AO.mut (VO.ptr (es:=[(.pin pv),(.int .i64 a2.1),(.int .i64 a2.2)]) bZ rfl rfl rfl) (AO.lent VD.plain rfl AO.nil)) rfl rfl rfl (SZ.consP bZ rfl SZ.nil) (erL.cons (v':=(.one (.ptr (.nm 0 0 0)))) rfl (erL.cons (v':=(oI 0)) rfl (erL.cons (v':=(.one (.ptr (.nm 0 0 0)))) rfl erL.nil))) (erH.cons (v':=(.vars 3 [(.d (.pin pv)),(dI a2.1),(dI a2.2)])) rfl rfl erH.nil) (erL.cons (v':=(.one (.d (.both pv (.sl 1 (List.map d_u8 cb1)))))) rfl (erL.cons (v':=(.one (.ptr (.nm 0 0 0)))) rfl erL.nil)) rfl rfl (rmRest (xQ ?_))
 rcases oite H with⟨h5,H⟩|⟨h5,H⟩
 ·refine AW.condT eZ h5 (aS (AW.regm (rmOne (oMov (eR rfl) (xNil (rmOne (oBslice (m:=384) (q:=4) (cs:=[(dI (-1)),(dI 0),(dI 999),(dI 1000)]) rfl (PsCons eC (PsCons eC (PsCons eC (PsCons eC PsNil)))) rfl (List.cons_ne_nil _ _) (by simp) (nS rfl (nS rfl nZ)) (xNil ?_))))))))
  obtain⟨v6,h7,H⟩:=obind H
  refine rmCallIC (v0:=pv) (hg:=by exact rfl) (ON:=[0]) (ls:=[384]) (G:=[]) (E:=[subKey 0]) (MB:=[(0,(.vars 3 [(.d (.pin pv)),(dI v6.2.1),(dI v6.2.2)]))]) (u:=(oI v6.1)) eC Cl.fn (c_spec_l1PickInt h7) (Evs.cons (eR rfl) (Evs.cons eZ Evs.nil)) (AO.mut (VO.ptr (es:=[(.pin pv),(.int .i64 v3.2.1),(.int .i64 v3.2.2)]) (bS rfl bZ) rfl rfl rfl) (AO.lent (VD.vars [(.int .i64 (-1)),(.int .i64 0),(.int .i64 999),(.int .i64 1000)] bZ rfl rfl) rfl AO.nil)) rfl rfl rfl (SZ.consP (bS rfl bZ) rfl SZ.nil) (erL.cons (v':=(.one (.sl 384 0 4))) rfl (erL.cons (v':=(.one (.ptr (.nm 0 0 0)))) rfl (erL.cons (v':=(oB v3.1)) rfl (erL.cons (v':=(.one (.ptr (.nm 0 0 0)))) rfl (erL.cons (v':=(oI 0)) rfl (erL.cons (v':=(.one (.ptr (.nm 0 0 0)))) rfl erL.nil)))))) (erH.cons (v':=(.vars 1 [(dI (-1)),(dI 0),(dI 999),(dI 1000)])) rfl rfl (erH.cons (v':=(.vars 3 [(.d (.pin pv)),(dI v3.2.1),(dI v3.2.2)])) rfl rfl (erH.cons (v':=(.vars 3 [(.d (.pin pv)),(dI a2.1),(dI a2.2)])) rfl rfl erH.nil))) (erL.cons (v':=(.one (.d (.both pv (.sl 1 (List.map d_u8 cb1)))))) rfl (erL.cons (v':=(.one (.ptr (.nm 0 0 0)))) rfl erL.nil)) rfl rfl (rmRest (oMov eZ (xQ (AW.ret (TQ.qr ?_)))))
  cases H
  exact endsRM (RL.cons (RV.tmp eZ) (VO.flat rfl) RL.nil) (ML.mut (eS rfl eZ) (VO.ptr (es:=[(.pin pv),(.int .i64 v6.2.1),(.int .i64 v6.2.2)]) bZ rfl rfl rfl) ML.nil) (by decide)
 ·refine AW.condF eZ (nt h5) (AW.skip (TQ.qn (aS (AW.regm (rmOne (oMov (eR rfl) (xNil ?_)))))))
  obtain⟨v8,h9,H⟩:=obind H
  refine rmCallIC (v0:=pv) (hg:=by exact rfl) (ON:=[0]) (ls:=[]) (G:=[]) (E:=[subKey 0]) (MB:=[(0,(.vars 3 [(.d (.pin pv)),(dI v8.2.1),(dI v8.2.2)]))]) (u:=(oI v8.1)) eC Cl.fn (c_spec_l1Below h9) (Evs.cons eZ (Evs.cons eC Evs.nil)) (AO.mut (VO.ptr (es:=[(.pin pv),(.int .i64 v3.2.1),(.int .i64 v3.2.2)]) bZ rfl rfl rfl) (AO.lent VD.plain rfl AO.nil)) rfl rfl rfl (SZ.consP bZ rfl SZ.nil) (erL.cons (v':=(.one (.ptr (.nm 0 0 0)))) rfl (erL.cons (v':=(oB v3.1)) rfl (erL.cons (v':=(.one (.ptr (.nm 0 0 0)))) rfl (erL.cons (v':=(oI 0)) rfl (erL.cons (v':=(.one (.ptr (.nm 0 0 0)))) rfl erL.nil))))) (erH.cons (v':=(.vars 3 [(.d (.pin pv)),(dI v3.2.1),(dI v3.2.2)])) rfl rfl (erH.cons (v':=(.vars 3 [(.d (.pin pv)),(dI a2.1),(dI a2.2)])) rfl rfl erH.nil)) (erL.cons (v':=(.one (.d (.both pv (.sl 1 (List.map d_u8 cb1)))))) rfl (erL.cons (v':=(.one (.ptr (.nm 0 0 0)))) rfl erL.nil)) rfl rfl (rmRest (oMov eZ (xQ (AW.ret ?_))))
  cases H
  exact endsRM (RL.cons (RV.tmp eZ) (VO.flat rfl) RL.nil) (ML.mut (eS rfl eZ) (VO.ptr (es:=[(.pin pv),(.int .i64 v8.2.1),(.int .i64 v8.2.2)]) bZ rfl rfl rfl) ML.nil) (by decide)
theorem c0_spec_DrawAtlasMove{pv:Value}{cb1:(List Int)}{r:(TAtlas×Int×Int)}(H:m_spec_DrawAtlasMove cb1=some r):FnC Try.prog pv (.sl 1 (List.map d_u8 cb1)) 14 [⟨(.pin pv),.b⟩] [(.agg (d_TAtlas r.1)),(.int .i64 r.2.1),(.int .i64 r.2.2)]:=by
 refine n14 (fle rfl) (fle rfl) trivial rfl ?_
 rw[initC_mk]
 refine AW.weaken (t:=mk [(0,(.one (.d (.pin pv))))] [] (lk [(63,(.one (.d (.both pv (.sl 1 (List.map d_u8 cb1))))))])) (wk_mkG (gl:=[(63,(.one (.d (.both pv (.sl 1 (List.map d_u8 cb1))))))]) [] (kv 0 (.one (.d (.pin pv))) rfl rfl SL.nil) BL.nil BK.nil (GK.cons rfl GK.nil)) ?_
 unfold m_spec_DrawAtlasMove at H
 unfold i14
 refine aV (oVar (n:=128) (m:=9) rfl rfl nZ (oMov eC (oMov eC (xQ (aS (AW.regm (rmOne (oMov (eR rfl) (xNil ?_)))))))))
 obtain⟨v2,h3,H⟩:=obind H
 refine rmCallC (v0:=pv) (hg:=by exact rfl) (ON:=[]) (ls:=[]) (G:=[]) (E:=[]) (MB:=[]) (u:=(.one (.ptr (.nm 576 0 0)))) (bs:=[(576,(.vars 3 [(.d (.pin pv)),(dI v2.1),(dI v2.2)]))]) eC Cl.fn (c_spec_l1New h3) (Evs.cons eZ Evs.nil) (AO.lent VD.plain rfl AO.nil) rfl rfl rfl SZ.nil (erL.cons (v':=(.one (.d (.pin pv)))) rfl (erL.cons (v':=(oI 0)) rfl (erL.cons (v':=(oI 0)) rfl (erL.cons (v':=(.one (.ptr (.nm 128 0 0)))) rfl (erL.cons (v':=(.one (.d (.pin pv)))) rfl erL.nil))))) (erH.cons (v':=(.vars 9 [(dI 0),.zs,(dI 0),(dI 0),(dI 0),(dI 0),(dI 0),(dI 0),.zs])) rfl rfl erH.nil) (erL.cons (v':=(.one (.d (.both pv (.sl 1 (List.map d_u8 cb1)))))) rfl erL.nil) (by simp[bindR,bindV,bindVs,bindC,bindCs,D.flat]) rfl (fC (nS rfl nZ) rfl (fC (nS rfl nZ) rfl fN)) (rmRest (oMov eZ (xQ (aS (AW.regm (rmOne (oMov eZ (xNil (rmOne (oMov (eR rfl) (xNil ?_)))))))))))
 obtain⟨v4,h5,H⟩:=obind H
 refine rmCallIC (v0:=pv) (hg:=by exact rfl) (ON:=[]) (ls:=[]) (G:=[]) (E:=[]) (MB:=[]) (u:=(oI v4)) eC Cl.fn (c_spec_l1Size h5) (Evs.cons eZ (Evs.cons eC Evs.nil)) (AO.lent VD.plain rfl (AO.lent VD.plain rfl AO.nil)) rfl rfl rfl SZ.nil (erL.cons (v':=(.one (.d (.pin pv)))) rfl (erL.cons (v':=(.one (.ptr (.nm 576 0 0)))) rfl (erL.cons (v':=(.one (.ptr (.nm 576 0 0)))) rfl (erL.cons (v':=(.one (.ptr (.nm 576 0 0)))) rfl (erL.cons (v':=(.one (.d (.pin pv)))) rfl (erL.cons (v':=(oI 0)) rfl (erL.cons (v':=(oI 0)) rfl (erL.cons (v':=(.one (.ptr (.nm 128 0 0)))) rfl (erL.cons (v':=(.one (.d (.pin pv)))) rfl erL.nil))))))))) (erH.cons (v':=(.vars 3 [(.d (.pin pv)),(dI v2.1),(dI v2.2)])) rfl rfl (erH.cons (v':=(.vars 9 [(dI 0),.zs,(dI 0),(dI 0),(dI 0),(dI 0),(dI 0),(dI 0),.zs])) rfl rfl erH.nil)) (erL.cons (v':=(.one (.d (.both pv (.sl 1 (List.map d_u8 cb1)))))) rfl erL.nil) rfl rfl ?_
 obtain⟨v6,h7,H⟩:=obind H
 refine rmCallC (v0:=pv) (hg:=by exact rfl) (ON:=[576]) (ls:=[]) (G:=[]) (E:=[subKey 576]) (MB:=[(576,(.vars 3 [(.d (.pin pv)),(dI v6.2.1),(dI v6.2.2)]))]) (u:=(.agg [(dI v6.1.Epoch),(.sl 833 0 v6.1.Parts.length),(dI v6.1.Move.No),(dI v6.1.Move.Stage),(dI v6.1.Move.Lo),(dI v6.1.Move.Hi),(dI v6.1.Move.From),(dI v6.1.Move.To),(.sl 840 0 v6.1.Move.Cells.length)])) (bs:=[(833,(.data 3 (List.map d_TPart v6.1.Parts) true none)),(840,(.data 2 (List.map d_TCell v6.1.Move.Cells) true none))]) eC Cl.fn (c_spec_l15DrawAny h7) (Evs.cons (eR rfl) (Evs.cons eZ Evs.nil)) (AO.mut (VO.ptr (es:=[(.pin pv),(.int .i64 v2.1),(.int .i64 v2.2)]) bZ rfl rfl rfl) (AO.lent VD.plain rfl AO.nil)) rfl rfl rfl (SZ.consP bZ rfl SZ.nil) (erL.cons (v':=(oI v4)) rfl (erL.cons (v':=(.one (.d (.pin pv)))) rfl (erL.cons (v':=(.one (.ptr (.nm 576 0 0)))) rfl (erL.cons (v':=(.one (.ptr (.nm 576 0 0)))) rfl (erL.cons (v':=(.one (.ptr (.nm 576 0 0)))) rfl (erL.cons (v':=(.one (.d (.pin pv)))) rfl (erL.cons (v':=(oI 0)) rfl (erL.cons (v':=(oI 0)) rfl (erL.cons (v':=(.one (.ptr (.nm 128 0 0)))) rfl (erL.cons (v':=(.one (.d (.pin pv)))) rfl erL.nil)))))))))) (erH.cons (v':=(.vars 3 [(.d (.pin pv)),(dI v2.1),(dI v2.2)])) rfl rfl (erH.cons (v':=(.vars 9 [(dI 0),.zs,(dI 0),(dI 0),(dI 0),(dI 0),(dI 0),(dI 0),.zs])) rfl rfl erH.nil)) (erL.cons (v':=(.one (.d (.both pv (.sl 1 (List.map d_u8 cb1)))))) rfl erL.nil) (by simp[bindR,bindV,bindVs,bindC,bindCs]) rfl (fC (nS rfl (nS rfl (nS rfl nZ))) rfl (fC (nS rfl (nS rfl (nS rfl nZ))) rfl (fC (nS rfl (nS rfl (nS rfl nZ))) rfl fN))) (rmOne (oVar (n:=384) (m:=9) rfl rfl (nS rfl (nS rfl (nS rfl (nS rfl (nS rfl nZ))))) (xNil (rmOne (oStoreV (es:=[(dI v6.1.Epoch),(.sl 833 0 v6.1.Parts.length),(dI v6.1.Move.No),(dI v6.1.Move.Stage),(dI v6.1.Move.Lo),(dI v6.1.Move.Hi),(dI v6.1.Move.From),(dI v6.1.Move.To),(.sl 840 0 v6.1.Move.Cells.length)]) eZ (eR rfl) rfl rfl bZ rfl (xNil (rmRest (xQ (aS (AW.regm (rmOne (oMov (eR rfl) (xNil ?_)))))))))))))
 obtain⟨v8,h9,H⟩:=obind H
 refine rmCallIC (v0:=pv) (hg:=by exact rfl) (ON:=[576]) (ls:=[]) (G:=[]) (E:=[subKey 576]) (MB:=[(576,(.vars 3 [(.d (.pin pv)),(dI v8.2.1),(dI v8.2.2)]))]) (u:=(oI v8.1)) eC Cl.fn (c_spec_l10DrawKey h9) (Evs.cons eZ Evs.nil) (AO.mut (VO.ptr (es:=[(.pin pv),(.int .i64 v6.2.1),(.int .i64 v6.2.2)]) (bS rfl (bS rfl (bS rfl (bS rfl bZ)))) rfl rfl rfl) AO.nil) rfl rfl rfl (SZ.consP (bS rfl (bS rfl (bS rfl (bS rfl bZ)))) rfl SZ.nil) (erL.cons (v':=(.one (.ptr (.nm 576 0 0)))) rfl (erL.cons (v':=(.one (.ptr (.nm 384 0 0)))) rfl (erL.cons (v':=(.agg [(dI v6.1.Epoch),(.sl 833 0 v6.1.Parts.length),(dI v6.1.Move.No),(dI v6.1.Move.Stage),(dI v6.1.Move.Lo),(dI v6.1.Move.Hi),(dI v6.1.Move.From),(dI v6.1.Move.To),(.sl 840 0 v6.1.Move.Cells.length)])) rfl (erL.cons (v':=(oI v4)) rfl (erL.cons (v':=(.one (.d (.pin pv)))) rfl (erL.cons (v':=(.one (.ptr (.nm 576 0 0)))) rfl (erL.cons (v':=(.one (.ptr (.nm 576 0 0)))) rfl (erL.cons (v':=(.one (.ptr (.nm 576 0 0)))) rfl (erL.cons (v':=(.one (.d (.pin pv)))) rfl (erL.cons (v':=(oI 0)) rfl (erL.cons (v':=(oI 0)) rfl (erL.cons (v':=(.one (.ptr (.nm 128 0 0)))) rfl (erL.cons (v':=(.one (.d (.pin pv)))) rfl erL.nil))))))))))))) (erH.cons (v':=(.vars 9 [(dI v6.1.Epoch),(.sl 833 0 v6.1.Parts.length),(dI v6.1.Move.No),(dI v6.1.Move.Stage),(dI v6.1.Move.Lo),(dI v6.1.Move.Hi),(dI v6.1.Move.From),(dI v6.1.Move.To),(.sl 840 0 v6.1.Move.Cells.length)])) rfl rfl (erH.cons (v':=(.vars 9 [(dI 0),.zs,(dI 0),(dI 0),(dI 0),(dI 0),(dI 0),(dI 0),.zs])) rfl rfl (erH.cons (v':=(.data 2 (List.map d_TCell v6.1.Move.Cells) true none)) rfl rfl (erH.cons (v':=(.data 3 (List.map d_TPart v6.1.Parts) true none)) rfl rfl (erH.cons (v':=(.vars 3 [(.d (.pin pv)),(dI v6.2.1),(dI v6.2.2)])) rfl rfl (erH.cons (v':=(.vars 3 [(.d (.pin pv)),(dI v2.1),(dI v2.2)])) rfl rfl (erH.cons (v':=(.vars 9 [(dI 0),.zs,(dI 0),(dI 0),(dI 0),(dI 0),(dI 0),(dI 0),.zs])) rfl rfl erH.nil))))))) (erL.cons (v':=(.one (.d (.both pv (.sl 1 (List.map d_u8 cb1)))))) rfl erL.nil) rfl rfl (rmRest (oMov eZ (xQ (aS (AW.regp [384] (rpLoad (eR rfl) rfl (oLoadVA (es:=[(dI v6.1.Epoch),(.sl 833 0 v6.1.Parts.length),(dI v6.1.Move.No),(dI v6.1.Move.Stage),(dI v6.1.Move.Lo),(dI v6.1.Move.Hi),(dI v6.1.Move.From),(dI v6.1.Move.To),(.sl 840 0 v6.1.Move.Cells.length)]) (eR rfl) (bS rfl bZ) rfl (xNil (rpOne rfl (oMov (eR rfl) (xNil (rpOne rfl (oMov (eR rfl) (xNil (rpNil ?_)))))))))))))))
 obtain⟨v10,h11,H⟩:=obind H
 refine rtCallIC (v0:=pv) (hg:=by exact rfl) (ON:=[576]) (ls:=[]) (G:=[]) (E:=[subKey 576]) (MB:=[(576,(.vars 3 [(.d (.pin pv)),(dI v10.2.1),(dI v10.2.2)]))]) (u:=(oI v10.1)) eC Cl.fn (c_spec_l1Below h11) (Evs.cons eZ (Evs.cons eC Evs.nil)) (AO.mut (VO.ptr (es:=[(.pin pv),(.int .i64 v8.2.1),(.int .i64 v8.2.2)]) bZ rfl rfl rfl) (AO.lent VD.plain rfl AO.nil)) rfl rfl rfl (SZ.consP bZ rfl SZ.nil) (erL.cons (v':=(.one (.ptr (.nm 576 0 0)))) rfl (erL.cons (v':=(oI v8.1)) rfl (erL.cons (v':=(.agg [(dI v6.1.Epoch),(.sl 833 0 v6.1.Parts.length),(dI v6.1.Move.No),(dI v6.1.Move.Stage),(dI v6.1.Move.Lo),(dI v6.1.Move.Hi),(dI v6.1.Move.From),(dI v6.1.Move.To),(.sl 840 0 v6.1.Move.Cells.length)])) rfl (erL.cons (v':=(oI v8.1)) rfl (erL.cons (v':=(oI v8.1)) rfl (erL.cons (v':=(.one (.ptr (.nm 576 0 0)))) rfl (erL.cons (v':=(.one (.ptr (.nm 384 0 0)))) rfl (erL.cons (v':=(.agg [(dI v6.1.Epoch),(.sl 833 0 v6.1.Parts.length),(dI v6.1.Move.No),(dI v6.1.Move.Stage),(dI v6.1.Move.Lo),(dI v6.1.Move.Hi),(dI v6.1.Move.From),(dI v6.1.Move.To),(.sl 840 0 v6.1.Move.Cells.length)])) rfl (erL.cons (v':=(oI v4)) rfl (erL.cons (v':=(.one (.d (.pin pv)))) rfl (erL.cons (v':=(.one (.ptr (.nm 576 0 0)))) rfl (erL.cons (v':=(.one (.ptr (.nm 576 0 0)))) rfl (erL.cons (v':=(.one (.ptr (.nm 576 0 0)))) rfl (erL.cons (v':=(.one (.d (.pin pv)))) rfl (erL.cons (v':=(oI 0)) rfl (erL.cons (v':=(oI 0)) rfl (erL.cons (v':=(.one (.ptr (.nm 128 0 0)))) rfl (erL.cons (v':=(.one (.d (.pin pv)))) rfl erL.nil)))))))))))))))))) (erH.cons (v':=(.vars 3 [(.d (.pin pv)),(dI v8.2.1),(dI v8.2.2)])) rfl rfl (erH.cons (v':=(.vars 9 [(dI v6.1.Epoch),(.sl 833 0 v6.1.Parts.length),(dI v6.1.Move.No),(dI v6.1.Move.Stage),(dI v6.1.Move.Lo),(dI v6.1.Move.Hi),(dI v6.1.Move.From),(dI v6.1.Move.To),(.sl 840 0 v6.1.Move.Cells.length)])) rfl rfl (erH.cons (v':=(.vars 9 [(dI 0),.zs,(dI 0),(dI 0),(dI 0),(dI 0),(dI 0),(dI 0),.zs])) rfl rfl (erH.cons (v':=(.data 2 (List.map d_TCell v6.1.Move.Cells) true none)) rfl rfl (erH.cons (v':=(.data 3 (List.map d_TPart v6.1.Parts) true none)) rfl rfl (erH.cons (v':=(.vars 3 [(.d (.pin pv)),(dI v6.2.1),(dI v6.2.2)])) rfl rfl (erH.cons (v':=(.vars 3 [(.d (.pin pv)),(dI v2.1),(dI v2.2)])) rfl rfl (erH.cons (v':=(.vars 9 [(dI 0),.zs,(dI 0),(dI 0),(dI 0),(dI 0),(dI 0),(dI 0),.zs])) rfl rfl erH.nil)))))))) (erL.cons (v':=(.one (.d (.both pv (.sl 1 (List.map d_u8 cb1)))))) rfl erL.nil) rfl rfl rfl (rtNil (ruOne rfl (oSub eZ eC (xNil (ruStep rfl (oStoreV (es:=[(dI v6.1.Epoch),(.sl 833 0 v6.1.Parts.length),(dI v6.1.Move.No),(dI v6.1.Move.Stage),(dI v6.1.Move.Lo),(dI v6.1.Move.Hi),(dI v6.1.Move.From),(dI v6.1.Move.To),(.sl 840 0 v6.1.Move.Cells.length)]) (eR rfl) (eR rfl) rfl rfl (bS rfl (bS rfl (bS rfl (bS rfl (bS rfl (bS rfl (bS rfl (bS rfl bZ)))))))) rfl (xNil (ruOne rfl (oMov (eR rfl) (xNil (ruOne rfl (oMov (eR rfl) (xNil (ruNil (TQ.qn (AW.weaken (wk_mkG [576,384] (kr 4 rfl rfl (kr 3 rfl rfl (kr 2 rfl rfl SL.nil))) (BL.keep rfl (BL.drop rfl (BL.drop rfl (BL.drop rfl (BL.drop rfl (BL.keep rfl (BL.keep rfl (BL.drop rfl (BL.drop rfl (BL.keep rfl BL.nil)))))))))) (BK.cons (n:=128) rfl bZ rfl rfl (BK.cons (n:=840) rfl (bS rfl (bS rfl (bS rfl (bS rfl (bS rfl bZ))))) rfl rfl (BK.cons (n:=833) rfl (bS rfl (bS rfl (bS rfl (bS rfl (bS rfl (bS rfl bZ)))))) rfl rfl BK.nil))) (GK.cons rfl GK.nil)) (AW.ret ?_)))))))))))))))))
 cases H
 exact endsRM (RL.cons (RV.cellA (es:=[(dI v6.1.Epoch),(.sl 833 0 v6.1.Parts.length),(dI v6.1.Move.No),(dI v6.1.Move.Stage),(dI v6.1.Move.Lo),(dI v6.1.Move.Hi),(dI v6.1.Move.From),(dI v6.1.Move.To),(.sl 840 0 v6.1.Move.Cells.length)]) (eR rfl) bZ rfl) (VO.aggs (VOs.cons (VO.flat rfl) (VOs.cons (VO.sl (bS rfl (bS rfl bZ)) (List.length_map _) (allFlat fun _=>rfl)) (VOs.cons (VO.flat rfl) (VOs.cons (VO.flat rfl) (VOs.cons (VO.flat rfl) (VOs.cons (VO.flat rfl) (VOs.cons (VO.flat rfl) (VOs.cons (VO.flat rfl) (VOs.cons (VO.sl (bS rfl bZ) (List.length_map _) (allFlat fun _=>rfl)) VOs.nil)))))))))) (RL.cons (RV.tmp (eR rfl)) (VO.flat rfl) (RL.cons (RV.tmp eZ) (VO.flat rfl) RL.nil))) (ML.lent ML.nil) (by decide)
theorem c_spec_DrawAtlasMove{cb1:(List Int)}{r:(TAtlas×Int×Int)}(H:m_spec_DrawAtlasMove cb1=some r):Fn Try.prog 14 (lent [(.sl 1 (List.map d_u8 cb1))]) true [(.agg (d_TAtlas r.1)),(.int .i64 r.2.1),(.int .i64 r.2.2)]:=
 FnC.fn fun pv=>c0_spec_DrawAtlasMove (pv:=pv) H
theorem c_impl_from{a1:Int}{a2:Int}{a3:Int}{r:Bool}(H:m_impl_from a1 a2 a3=some r):Fn Try.prog 45 (lent [(.int .i64 a1),(.int .i64 a2),(.int .i64 a3)]) true [(.bool r)]:=by
 refine f45 (fle rfl) ?_
 rw[init_mk]
 refine AW.weaken (wk_mk [] (kv 0 (oI a1) rfl rfl (kv 1 (oI a2) rfl rfl (kv 2 (oI a3) rfl rfl SL.nil))) BL.nil BK.nil) ?_
 unfold m_impl_from at H
 unfold i45
 refine aV (oMov eC (xQ (aV (oMov (eR rfl) (oMov (eR rfl) (oGeq (eR rfl) eZ (oMov eZ ?_)))))))
 rcases oite H with⟨h4,H⟩|⟨h4,H⟩
 ·refine gDo eZ (dT h4) (oMov (eR rfl) (gDo (eR rfl) (dT h4) (oMov (eR rfl) (gDo (eR rfl) (dT h4) (oLeq (eR rfl) eZ (oPickT (eR rfl) (dT h4) eZ (oMov eZ (xQ (AW.ret ?_)))))))))
  cases H
  exact eE rfl rfl
 ·refine gSkip eZ (dF h4) rfl (gSkip (eR rfl) (dF h4) rfl (gSkip (eR rfl) (dF h4) rfl (oPickF (eR rfl) (dF h4) eC (oMov eZ (xQ (AW.ret ?_))))))
  cases H
  exact eE rfl rfl
theorem c_impl_isGroup{a1:Int}{r:Bool}(H:m_impl_isGroup a1=some r):Fn Try.prog 51 (lent [(.int .i64 a1)]) true [(.bool r)]:=by
 refine f51 (fle rfl) ?_
 rw[init_mk]
 refine AW.weaken (wk_mk [] (kv 0 (oI a1) rfl rfl SL.nil) BL.nil BK.nil) ?_
 unfold m_impl_isGroup at H
 unfold i51
 refine aV (oMov eC (xQ (aV (oMov (eR rfl) ?_))))
 obtain⟨v2,h3,H⟩:=obind H
 refine oCall (u:=(oB v2)) eC Cl.fn (c_impl_from h3) (Evs.cons eZ (Evs.cons eC (Evs.cons eC Evs.nil))) (VDs.cons VD.plain (VDs.cons VD.plain (VDs.cons VD.plain VDs.nil))) rfl (oMov eZ (xQ (AW.ret ?_)))
 cases H
 exact eE rfl rfl
theorem c_impl_PartsOk{a1:(List TPart)}{r:Bool}(H:m_impl_PartsOk a1=some r):Fn Try.prog 46 (lent [(.sl 3 (List.map d_TPart a1))]) true [(.bool r)]:=by
 refine f46 (fle rfl) ?_
 rw[init_mk]
 refine AW.weaken (wk_mk [] (kv 0 (.one (.d (.sl 3 (List.map d_TPart a1)))) rfl rfl SL.nil) BL.nil BK.nil) ?_
 unfold m_impl_PartsOk at H
 unfold i46
 refine aV (oMov eC (xQ (aV (oMov eC (xQ (AW.seqJ (fun t2:Int=>(impl_PartsOk_j2 a1) t2=some r) (fun t2=>mk [(0,(.one (.d (.sl 3 (List.map d_TPart a1))))),(3,(oI t2))] [] noG) ?_ ?_))))))
 ·intro t2 H
  unfold impl_PartsOk_j2 at H
  refine aV (oMov eZ (oLenD eZ (n:=a1.length) (List.length_map _) ?_))
  obtain⟨v4,h5,H⟩:=obind H
  refine oCall (u:=(oB v4)) eC Cl.fn (c_impl_from h5) (Evs.cons eZ (Evs.cons eC (Evs.cons eC Evs.nil))) (VDs.cons VD.plain (VDs.cons VD.plain (VDs.cons VD.plain VDs.nil))) rfl (oMov eZ ?_)
  rcases oite H with⟨h6,H⟩|⟨h6,H⟩
  ·refine gDo eZ h6 (oMov (eR rfl) (gDo (eR rfl) h6 (oEql eZ eC (oPickT (eR rfl) h6 eZ (oMov eZ (xQ (AW.ret ?_)))))))
   cases H
   exact eE rfl rfl
  ·refine gSkip eZ (nt h6) rfl (gSkip (eR rfl) (nt h6) rfl (oPickF (eR rfl) (nt h6) eC (oMov eZ (xQ (AW.ret ?_)))))
   cases H
   exact eE rfl rfl
 ·refine aV (oMov (eR rfl) (oLenD eZ (n:=a1.length) (List.length_map _) (oMov eC (xQ (AW.block (AW.iter (fun s7:(Int×Int)=>mk [(0,(.one (.d (.sl 3 (List.map d_TPart a1))))),(3,(oI s7.1)),(6,(.one (.d (.sl 3 (List.map d_TPart a1))))),(7,(oI (a1.length:Int))),(8,(oI s7.2))] [] noG) H (wk_mk [] (kR rfl rfl (kR rfl rfl (kR rfl rfl (kR rfl rfl (kR rfl rfl SL.nil))))) BL.nil BK.nil) ?_))))))
  intro kb8 s7 H
  unfold impl_PartsOk_b7 at H
  refine aV (oLss (eR rfl) (eR rfl) (xQ (aS ?_)))
  rcases oite H with⟨h9,H⟩|⟨h9,H⟩
  ·refine AW.condT eZ (dT h9) (AW.skip (TQ.qn (aS (AW.block (aV ?_)))))
   obtain⟨v10,h11,H⟩:=obind H
   refine oAtD (eR rfl) (eR rfl) h11 (oLoadBA (es:=[(dI v10.Lo),(dI v10.Hi),(dI v10.Owner)]) eZ rfl (oVar (n:=320) (m:=3) rfl rfl nZ (oStoreV (es:=[(dI v10.Lo),(dI v10.Hi),(dI v10.Owner)]) eZ (eR rfl) rfl rfl bZ rfl (xQ (aS (AW.seqJ (fun t12:Bool=>(impl_PartsOk_j12 kb8 v10 s7) t12=some r) (fun t12=>mk [(0,(.one (.d (.sl 3 (List.map d_TPart a1))))),(5,(.one (.ptr (.nm 320 0 0)))),(6,(.one (.d (.sl 3 (List.map d_TPart a1))))),(7,(oI (a1.length:Int))),(8,(oI s7.2)),(28,(oB t12))] [(320,(.vars 3 [(dI v10.Lo),(dI v10.Hi),(dI v10.Owner)]))] noG) ?_ ?_))))))
   ·intro t12 H
    unfold impl_PartsOk_j12 at H
    rcases oite H with⟨h14,H⟩|⟨h14,H⟩
    ·refine AW.condT (eR rfl) h14 (aV (oMov eC (xQ (AW.ret (TQ.qr (BQ.qr (TQ.qr (TQ.qr (BQ.qr (TQ.qr ?_))))))))))
     cases H
     exact eE rfl rfl
    ·exact AW.condF (eR rfl) (nt h14) (AW.skip (TQ.qn (aR (oFaddrN (m:=1) (eR rfl) rfl (oLoadV (q:=1) (c:=(dI v10.Hi)) eZ bZ rfl rfl (oMov eZ (xNil (BQ.qn (TQ.qn (aR (oAdd (eR rfl) eC (oMov eZ (xNil (TQ.qn ⟨(v10.Hi,(IntKind.wrap .i64 (s7.2+1))),H,(wk_mk [320] (kR rfl rfl (kR rfl rfl (kR rfl rfl (kR rfl rfl (kR rfl rfl SL.nil))))) (BL.drop rfl BL.nil) BK.nil)⟩))))))))))))))
   ·refine aR (oFaddrN (m:=0) eZ rfl (oLoadV (q:=0) (c:=(dI v10.Lo)) eZ bZ rfl rfl (oMov (eR rfl) (oNeq (eR rfl) eZ (oMov eZ ?_)))))
    rcases oite H with⟨h15,H⟩|⟨h15,H⟩
    ·exact gSkip eZ (dT h15) rfl (gSkip (eR rfl) (dT h15) rfl (gSkip (eR rfl) (dT h15) rfl (gSkip (eR rfl) (dT h15) rfl (gSkip (eR rfl) (dT h15) rfl (oPickT (eR rfl) (dT h15) eC (oMov eZ (gSkip eZ rfl rfl (gSkip (eR rfl) rfl rfl (gSkip (eR rfl) rfl rfl (gSkip (eR rfl) rfl rfl (oPickT (eR rfl) rfl eC (xNil (TQ.qn ⟨true,H,(wk_mk [] (kR rfl rfl (kR rfl rfl (kR rfl rfl (kR rfl rfl (kR rfl rfl (kR rfl rfl SL.nil)))))) (BL.keep rfl (BL.keep rfl BL.nil)) (BK.cons rfl bZ rfl rfl BK.nil))⟩)))))))))))))
    ·refine gDo eZ (dF h15) (oFaddrN (m:=1) (eR rfl) rfl (gDo (eR rfl) (dF h15) (oLoadV (q:=1) (c:=(dI v10.Hi)) eZ bZ rfl rfl (gDo (eR rfl) (dF h15) (oFaddrN (m:=0) (eR rfl) rfl (gDo (eR rfl) (dF h15) (oLoadV (q:=0) (c:=(dI v10.Lo)) eZ bZ rfl rfl (gDo (eR rfl) (dF h15) (oLeq (eR rfl) eZ (oPickF (eR rfl) (dF h15) eZ (oMov eZ ?_)))))))))))
     rcases oite H with⟨h16,H⟩|⟨h16,H⟩
     ·exact gSkip eZ (dT h16) rfl (gSkip (eR rfl) (dT h16) rfl (gSkip (eR rfl) (dT h16) rfl (gSkip (eR rfl) (dT h16) rfl (oPickT (eR rfl) (dT h16) eC (xNil (TQ.qn ⟨true,H,(wk_mk [] (kR rfl rfl (kR rfl rfl (kR rfl rfl (kR rfl rfl (kR rfl rfl (kR rfl rfl SL.nil)))))) (BL.keep rfl (BL.keep rfl BL.nil)) (BK.cons rfl bZ rfl rfl BK.nil))⟩))))))
     ·refine gDo eZ (dF h16) (oFaddrN (m:=2) (eR rfl) rfl (gDo (eR rfl) (dF h16) (oLoadV (q:=2) (c:=(dI v10.Owner)) eZ bZ rfl rfl (gDo (eR rfl) (dF h16) ?_))))
      obtain⟨v17,h18,H⟩:=obind H
      exact oCall (u:=(oB v17)) eC Cl.fn (c_impl_isGroup h18) (Evs.cons eZ Evs.nil) (VDs.cons VD.plain VDs.nil) rfl (gDo (eR rfl) (dF h16) (oInv eZ (oPickF (eR rfl) (dF h16) eZ (xNil (TQ.qn ⟨(!v17),H,(wk_mk [] (kR rfl rfl (kR rfl rfl (kR rfl rfl (kR rfl rfl (kR rfl rfl (kR rfl rfl SL.nil)))))) (BL.keep rfl (BL.keep rfl BL.nil)) (BK.cons rfl bZ rfl rfl BK.nil))⟩)))))
  ·exact AW.condF eZ (dF h9) (AW.exit (TQ.qe (TQ.qe (BQ.qe (TQ.qn ⟨s7.1,H,(wk_mk [] (kR rfl rfl (kR rfl rfl SL.nil)) BL.nil BK.nil)⟩)))))
theorem c_impl_Move_keys{a1:TMove}{r:TRange}(H:m_impl_Move_keys a1=some r):Fn Try.prog 54 (lent [(.agg (d_TMove a1))]) true [(.agg (d_TRange r))]:=by
 refine f54 (fle rfl) ?_
 rw[init_mk]
 refine AW.weaken (wk_mk [] (kv 0 (.agg [(dI a1.No),(dI a1.Stage),(dI a1.Lo),(dI a1.Hi),(dI a1.From),(dI a1.To),(.d (.sl 2 (List.map d_TCell a1.Cells)))]) rfl rfl SL.nil) BL.nil BK.nil) ?_
 unfold m_impl_Move_keys at H
 unfold i54
 refine aV (oBox (n:=64) (m:=7) (cs:=[(dI a1.No),(dI a1.Stage),(dI a1.Lo),(dI a1.Hi),(dI a1.From),(dI a1.To),(.d (.sl 2 (List.map d_TCell a1.Cells)))]) rfl eZ rfl rfl nZ (oVar (n:=128) (m:=2) rfl rfl (nS rfl nZ) (xQ (aV (oFaddrN (m:=2) (eR rfl) rfl (oLoadV (q:=2) (c:=(dI a1.Lo)) eZ (bS rfl bZ) rfl rfl (oFaddrN (m:=3) (eR rfl) rfl (oLoadV (q:=3) (c:=(dI a1.Hi)) eZ (bS rfl bZ) rfl rfl (oBuild (cs:=[(dI a1.Lo),(dI a1.Hi)]) (PsCons (eR rfl) (PsCons eZ PsNil)) rfl (oStoreV (es:=[(dI a1.Lo),(dI a1.Hi)]) (eR rfl) eZ rfl rfl bZ rfl (xQ (AW.ret ?_))))))))))))
 cases H
 exact endsR (RL.cons (RV.cellA (es:=[(dI a1.Lo),(dI a1.Hi)]) (eR rfl) bZ rfl) (VO.agg (ds:=[(.int .i64 a1.Lo),(.int .i64 a1.Hi)]) rfl rfl) RL.nil) List.nodup_nil
theorem c_impl_RangeOk{a1:TRange}{r:Bool}(H:m_impl_RangeOk a1=some r):Fn Try.prog 60 (lent [(.agg (d_TRange a1))]) true [(.bool r)]:=by
 refine f60 (fle rfl) ?_
 rw[init_mk]
 refine AW.weaken (wk_mk [] (kv 0 (.agg [(dI a1.Lo),(dI a1.Hi)]) rfl rfl SL.nil) BL.nil BK.nil) ?_
 unfold m_impl_RangeOk at H
 unfold i60
 refine aV (oBox (n:=64) (m:=2) (cs:=[(dI a1.Lo),(dI a1.Hi)]) rfl eZ rfl rfl nZ (oMov eC (xQ (aV (oFaddrN (m:=0) (eR rfl) rfl (oLoadV (q:=0) (c:=(dI a1.Lo)) eZ bZ rfl rfl (oGeq eZ eC (oMov eZ ?_))))))))
 rcases oite H with⟨h2,H⟩|⟨h2,H⟩
 ·refine gDo eZ (dT h2) (oFaddrN (m:=0) (eR rfl) rfl (gDo (eR rfl) (dT h2) (oLoadV (q:=0) (c:=(dI a1.Lo)) eZ bZ rfl rfl (gDo (eR rfl) (dT h2) (oFaddrN (m:=1) (eR rfl) rfl (gDo (eR rfl) (dT h2) (oLoadV (q:=1) (c:=(dI a1.Hi)) eZ bZ rfl rfl (gDo (eR rfl) (dT h2) (oLss (eR rfl) eZ (oPickT (eR rfl) (dT h2) eZ (oMov eZ ?_)))))))))))
  rcases oite H with⟨h3,H⟩|⟨h3,H⟩
  ·refine gDo eZ (dT h3) (oFaddrN (m:=1) (eR rfl) rfl (gDo (eR rfl) (dT h3) (oLoadV (q:=1) (c:=(dI a1.Hi)) eZ bZ rfl rfl (gDo (eR rfl) (dT h3) (oLeq eZ eC (oPickT (eR rfl) (dT h3) eZ (oMov eZ (xQ (AW.weaken (wk_mk [64] (kr 2 rfl rfl SL.nil) (BL.drop rfl BL.nil) BK.nil) (AW.ret ?_))))))))))
   cases H
   exact eE rfl rfl
  ·refine gSkip eZ (dF h3) rfl (gSkip (eR rfl) (dF h3) rfl (gSkip (eR rfl) (dF h3) rfl (oPickF (eR rfl) (dF h3) eC (oMov eZ (xQ (AW.weaken (wk_mk [64] (kr 2 rfl rfl SL.nil) (BL.drop rfl BL.nil) BK.nil) (AW.ret ?_)))))))
   cases H
   exact eE rfl rfl
 ·refine gSkip eZ (dF h2) rfl (gSkip (eR rfl) (dF h2) rfl (gSkip (eR rfl) (dF h2) rfl (gSkip (eR rfl) (dF h2) rfl (gSkip (eR rfl) (dF h2) rfl (oPickF (eR rfl) (dF h2) eC (oMov eZ (gSkip eZ rfl rfl (gSkip (eR rfl) rfl rfl (gSkip (eR rfl) rfl rfl (oPickF (eR rfl) rfl eC (oMov eZ (xQ (AW.weaken (wk_mk [64] (kr 2 rfl rfl SL.nil) (BL.drop rfl BL.nil) BK.nil) (AW.ret ?_))))))))))))))
  cases H
  exact eE rfl rfl
theorem c_impl_isKey{a1:Int}{r:Bool}(H:m_impl_isKey a1=some r):Fn Try.prog 123 (lent [(.int .i64 a1)]) true [(.bool r)]:=by
 refine f123 (fle rfl) ?_
 rw[init_mk]
 refine AW.weaken (wk_mk [] (kv 0 (oI a1) rfl rfl SL.nil) BL.nil BK.nil) ?_
 unfold m_impl_isKey at H
 unfold i123
 refine aV (oMov eC (xQ (aV (oMov (eR rfl) ?_))))
 obtain⟨v2,h3,H⟩:=obind H
 refine oCall (u:=(oB v2)) eC Cl.fn (c_impl_from h3) (Evs.cons eZ (Evs.cons eC (Evs.cons eC Evs.nil))) (VDs.cons VD.plain (VDs.cons VD.plain (VDs.cons VD.plain VDs.nil))) rfl (oMov eZ (xQ (AW.ret ?_)))
 cases H
 exact eE rfl rfl
theorem c_impl_isWhole{a1:Int}{r:Bool}(H:m_impl_isWhole a1=some r):Fn Try.prog 124 (lent [(.int .i64 a1)]) true [(.bool r)]:=by
 refine f124 (fle rfl) ?_
 rw[init_mk]
 refine AW.weaken (wk_mk [] (kv 0 (oI a1) rfl rfl SL.nil) BL.nil BK.nil) ?_
 unfold m_impl_isWhole at H
 unfold i124
 refine aV (oMov eC (xQ (aV (oMov (eR rfl) ?_))))
 obtain⟨v2,h3,H⟩:=obind H
 refine oCall (u:=(oB v2)) eC Cl.fn (c_impl_from h3) (Evs.cons eZ (Evs.cons eC (Evs.cons eC Evs.nil))) (VDs.cons VD.plain (VDs.cons VD.plain (VDs.cons VD.plain VDs.nil))) rfl (oMov eZ (xQ (AW.ret ?_)))
 cases H
 exact eE rfl rfl
theorem c_impl_StoreOk{a1:(List TCell)}{r:Bool}(H:m_impl_StoreOk a1=some r):Fn Try.prog 95 (lent [(.sl 2 (List.map d_TCell a1))]) true [(.bool r)]:=by
 refine f95 (fle rfl) ?_
 rw[init_mk]
 refine AW.weaken (wk_mk [] (kv 0 (.one (.d (.sl 2 (List.map d_TCell a1)))) rfl rfl SL.nil) BL.nil BK.nil) ?_
 unfold m_impl_StoreOk at H
 unfold i95
 refine aV (oMov eC (xQ (AW.seqJ (fun t2:Unit=>(impl_StoreOk_j2 a1) t2=some r) (fun t2=>mk [(0,(.one (.d (.sl 2 (List.map d_TCell a1)))))] [] noG) ?_ ?_)))
 ·intro t2 H
  unfold impl_StoreOk_j2 at H
  refine aV (oMov eZ (oLenD eZ (n:=a1.length) (List.length_map _) (oLeq eZ eC (oMov eZ (xQ (AW.ret ?_))))))
  cases H
  exact eE rfl rfl
 ·refine aV (oMov (eR rfl) (oLenD eZ (n:=a1.length) (List.length_map _) (oMov eC (xQ (AW.block (AW.iter (fun s4:Int=>mk [(0,(.one (.d (.sl 2 (List.map d_TCell a1))))),(5,(.one (.d (.sl 2 (List.map d_TCell a1))))),(6,(oI (a1.length:Int))),(7,(oI s4))] [] noG) H (wk_mk [] (kR rfl rfl (kR rfl rfl (kR rfl rfl (kR rfl rfl SL.nil)))) BL.nil BK.nil) ?_))))))
  intro kb5 s4 H
  unfold impl_StoreOk_b4 at H
  refine aV (oLss (eR rfl) (eR rfl) (xQ (aS ?_)))
  rcases oite H with⟨h6,H⟩|⟨h6,H⟩
  ·refine AW.condT eZ (dT h6) (AW.skip (TQ.qn (aS (AW.block (aV (oMov (eR rfl) ?_))))))
   obtain⟨v7,h8,H⟩:=obind H
   refine oAtD (eR rfl) (eR rfl) h8 (oLoadBA (es:=[(dI v7.Key),(dI v7.Value)]) eZ rfl (oVar (n:=256) (m:=2) rfl rfl nZ (oMov (eR rfl) (oStoreV (es:=[(dI v7.Key),(dI v7.Value)]) (eR rfl) (eR rfl) rfl rfl bZ rfl (xQ (AW.seqJ (fun t9:Bool=>(impl_StoreOk_j9 kb5 s4) t9=some r) (fun t9=>mk [(0,(.one (.d (.sl 2 (List.map d_TCell a1))))),(5,(.one (.d (.sl 2 (List.map d_TCell a1))))),(6,(oI (a1.length:Int))),(7,(oI s4)),(36,(oB t9))] [] noG) ?_ ?_))))))
   ·intro t9 H
    unfold impl_StoreOk_j9 at H
    rcases oite H with⟨h11,H⟩|⟨h11,H⟩
    ·refine AW.condT (eR rfl) h11 (aV (oMov eC (xQ (AW.ret (BQ.qr (TQ.qr (TQ.qr (BQ.qr (TQ.qr ?_)))))))))
     cases H
     exact eE rfl rfl
    ·exact AW.condF (eR rfl) (nt h11) (AW.skip (BQ.qn (TQ.qn (aR (oAdd (eR rfl) eC (oMov eZ (xNil (TQ.qn ⟨(IntKind.wrap .i64 (s4+1)),H,(wk_mk [] (kR rfl rfl (kR rfl rfl (kR rfl rfl (kR rfl rfl SL.nil)))) BL.nil BK.nil)⟩))))))))
   ·refine AW.regd (oFaddrN (m:=0) (eR rfl) rfl (oLoadV (q:=0) (c:=(dI v7.Key)) eZ bZ rfl rfl ?_))
    obtain⟨v12,h13,H⟩:=obind H
    refine oCall (u:=(oB v12)) eC Cl.fn (c_impl_isKey h13) (Evs.cons eZ Evs.nil) (VDs.cons VD.plain VDs.nil) rfl (oInv eZ (oMov eZ ?_))
    rcases oite H with⟨h14,H⟩|⟨h14,H⟩
    ·refine gDo eZ (cN h14) (oFaddrN (m:=1) (eR rfl) rfl (gDo (eR rfl) (cN h14) (oLoadV (q:=1) (c:=(dI v7.Value)) eZ bZ rfl rfl (gDo (eR rfl) (cN h14) ?_))))
     obtain⟨v15,h16,H⟩:=obind H
     refine oCall (u:=(oB v15)) eC Cl.fn (c_impl_isWhole h16) (Evs.cons eZ Evs.nil) (VDs.cons VD.plain VDs.nil) rfl (gDo (eR rfl) (cN h14) (oInv eZ (oPickF (eR rfl) (cN h14) eZ (oMov eZ ?_))))
     rcases oite H with⟨h17,H⟩|⟨h17,H⟩
     ·refine gDo eZ (cN h17) (oMov (eR rfl) (gDo (eR rfl) (cN h17) (oGtr eZ eC (gDo (eR rfl) (cN h17) (oMov eZ ?_)))))
      rcases oite H with⟨h18,H⟩|⟨h18,H⟩
      ·refine gDo eZ (dT h18) (oMov (eR rfl) (gDo (eR rfl) (dT h18) (oMov (eR rfl) (gDo (eR rfl) (dT h18) (oSub eZ eC (gDo (eR rfl) (dT h18) ?_))))))
       obtain⟨v19,h20,H⟩:=obind H
       exact oAtD (eR rfl) eZ h20 (gDo (eR rfl) (dT h18) (oFaddrB (m:=0) eZ rfl (gDo (eR rfl) (dT h18) (oLoadB (e:=(.int .i64 v19.Key)) eZ rfl (gDo (eR rfl) (dT h18) (oFaddrN (m:=0) (eR rfl) rfl (gDo (eR rfl) (dT h18) (oLoadV (q:=0) (c:=(dI v7.Key)) eZ bZ rfl rfl (gDo (eR rfl) (dT h18) (oGeq (eR rfl) eZ (gDo (eR rfl) (cN h17) (oPickT (eR rfl) (dT h18) eZ (oPickF (eR rfl) (cN h17) eZ (xNil (TQ.qn ⟨(decide (v7.Key≤v19.Key)),H,(wk_mk [256] (kR rfl rfl (kR rfl rfl (kR rfl rfl (kR rfl rfl (kR rfl rfl SL.nil))))) (BL.drop rfl (BL.drop rfl BL.nil)) BK.nil)⟩)))))))))))))))
      ·exact gSkip eZ (dF h18) rfl (gSkip (eR rfl) (dF h18) rfl (gSkip (eR rfl) (dF h18) rfl (gSkip (eR rfl) (dF h18) rfl (gSkip (eR rfl) (dF h18) rfl (gSkip (eR rfl) (dF h18) rfl (gSkip (eR rfl) (dF h18) rfl (gSkip (eR rfl) (dF h18) rfl (gSkip (eR rfl) (dF h18) rfl (gDo (eR rfl) (cN h17) (oPickF (eR rfl) (dF h18) eC (oPickF (eR rfl) (cN h17) eZ (xNil (TQ.qn ⟨false,H,(wk_mk [256] (kR rfl rfl (kR rfl rfl (kR rfl rfl (kR rfl rfl (kR rfl rfl SL.nil))))) (BL.drop rfl (BL.drop rfl BL.nil)) BK.nil)⟩)))))))))))))
     ·exact gSkip eZ (cN (nt h17)) rfl (gSkip (eR rfl) (cN (nt h17)) rfl (gSkip (eR rfl) (cN (nt h17)) rfl (gSkipU eZ rfl (gSkipU (eR rfl) rfl (gSkipU (eR rfl) rfl (gSkipU (eR rfl) rfl (gSkipU (eR rfl) rfl (gSkipU (eR rfl) rfl (gSkipU (eR rfl) rfl (gSkipU (eR rfl) rfl (gSkipU (eR rfl) rfl (gSkip (eR rfl) (cN (nt h17)) rfl (oPickT (eR rfl) (cN (nt h17)) eC (xNil (TQ.qn ⟨true,H,(wk_mk [256] (kR rfl rfl (kR rfl rfl (kR rfl rfl (kR rfl rfl (kR rfl rfl SL.nil))))) (BL.drop rfl (BL.drop rfl BL.nil)) BK.nil)⟩)))))))))))))))
    ·exact gSkip eZ (cN (nt h14)) rfl (gSkip (eR rfl) (cN (nt h14)) rfl (gSkip (eR rfl) (cN (nt h14)) rfl (gSkip (eR rfl) (cN (nt h14)) rfl (oPickT (eR rfl) (cN (nt h14)) eC (oMov eZ (gSkip eZ rfl rfl (gSkip (eR rfl) rfl rfl (gSkip (eR rfl) rfl rfl (gSkipU eZ rfl (gSkipU (eR rfl) rfl (gSkipU (eR rfl) rfl (gSkipU (eR rfl) rfl (gSkipU (eR rfl) rfl (gSkipU (eR rfl) rfl (gSkipU (eR rfl) rfl (gSkipU (eR rfl) rfl (gSkipU (eR rfl) rfl (gSkip (eR rfl) rfl rfl (oPickT (eR rfl) rfl eC (xNil (TQ.qn ⟨true,H,(wk_mk [256] (kR rfl rfl (kR rfl rfl (kR rfl rfl (kR rfl rfl (kR rfl rfl SL.nil))))) (BL.drop rfl (BL.drop rfl BL.nil)) BK.nil)⟩)))))))))))))))))))))
  ·exact AW.condF eZ (dF h6) (AW.exit (TQ.qe (TQ.qe (BQ.qe (TQ.qn ⟨(),H,(wk_mk [] (kR rfl rfl SL.nil) BL.nil BK.nil)⟩)))))
theorem c_impl_Range_has{a1:TRange}{a2:Int}{r:Bool}(H:m_impl_Range_has a1 a2=some r):Fn Try.prog 98 (lent [(.agg (d_TRange a1)),(.int .i64 a2)]) true [(.bool r)]:=by
 refine f98 (fle rfl) ?_
 rw[init_mk]
 refine AW.weaken (wk_mk [] (kv 0 (.agg [(dI a1.Lo),(dI a1.Hi)]) rfl rfl (kv 1 (oI a2) rfl rfl SL.nil)) BL.nil BK.nil) ?_
 unfold m_impl_Range_has at H
 unfold i98
 refine aV (oBox (n:=128) (m:=2) (cs:=[(dI a1.Lo),(dI a1.Hi)]) rfl eZ rfl rfl nZ (oMov eC (xQ (aV (oMov (eR rfl) (oFaddrN (m:=0) (eR rfl) rfl (oLoadV (q:=0) (c:=(dI a1.Lo)) eZ bZ rfl rfl (oFaddrN (m:=1) (eR rfl) rfl (oLoadV (q:=1) (c:=(dI a1.Hi)) eZ bZ rfl rfl (oSub eZ eC ?_))))))))))
 obtain⟨v3,h4,H⟩:=obind H
 refine oCall (u:=(oB v3)) eC Cl.fn (c_impl_from h4) (Evs.cons (eR rfl) (Evs.cons (eR rfl) (Evs.cons eZ Evs.nil))) (VDs.cons VD.plain (VDs.cons VD.plain (VDs.cons VD.plain VDs.nil))) rfl (oMov eZ (xQ (AW.ret ?_)))
 cases H
 exact eE rfl rfl
theorem c_impl_cellsIn_1{a1:TCell}{a2:TRange}{r:Bool}(H:m_impl_cellsIn_1 a1 a2=some r):Fn Try.prog 97 (lent [(.agg (d_TCell a1)),(.ptr (d_TRange a2))]) true [(.bool r)]:=by
 refine f97 (fle rfl) ?_
 rw[init_mk]
 refine AW.weaken (wk_mk [] (kv 0 (.agg [(dI a1.Key),(dI a1.Value)]) rfl rfl (SL.cons (v:=(.one (.ptr (.bd (d_TRange a2) 0)))) (eS rfl eZ) rfl (VWk.one CWk.ptr) SL.nil)) BL.nil BK.nil) ?_
 unfold m_impl_cellsIn_1 at H
 unfold i97
 refine aV (oBox (n:=128) (m:=2) (cs:=[(dI a1.Key),(dI a1.Value)]) rfl eZ rfl rfl nZ (oMov eC (xQ (aV (oLoadBA (es:=[(dI a2.Lo),(dI a2.Hi)]) (eR rfl) rfl (oFaddrN (m:=0) (eR rfl) rfl (oLoadV (q:=0) (c:=(dI a1.Key)) eZ bZ rfl rfl ?_)))))))
 obtain⟨v3,h4,H⟩:=obind H
 refine oCall (u:=(oB v3)) eC Cl.fn (c_impl_Range_has h4) (Evs.cons (eR rfl) (Evs.cons eZ Evs.nil)) (VDs.cons (VD.agg rfl) (VDs.cons VD.plain VDs.nil)) rfl (oInv eZ (oMov eZ (xQ (AW.ret ?_))))
 cases H
 exact eE rfl rfl
theorem c_slices_IndexFunc_Cell__cellsIn_1{a1:(List TCell)}{a2:TRange}{r:Int}(H:m_slices_IndexFunc_Cell__cellsIn_1 a1 a2=some r):Fn Try.prog 125 (lent [(.sl 2 (List.map d_TCell a1)),(.fn 97 [.ptr (d_TRange a2)])]) true [(.int .i64 r)]:=by
 refine f125 (fle rfl) ?_
 rw[init_mk]
 refine AW.weaken (wk_mk [] (kv 0 (.one (.d (.sl 2 (List.map d_TCell a1)))) rfl rfl (SL.cons (v:=(.one (.fn 97 [(.bd (d_TRange a2) 0)]))) (eS rfl eZ) rfl (VWk.one (CWk.fn (css:=[d_TRange a2]))) SL.nil)) BL.nil BK.nil) ?_
 unfold m_slices_IndexFunc_Cell__cellsIn_1 at H
 unfold i125
 refine aV (oMov eC (xQ (AW.seqJ (fun t3:Unit=>slices_IndexFunc_Cell__cellsIn_1_j3 t3=some r) (fun t3=>mk [] [] noG) ?_ ?_)))
 ·intro t3 H
  unfold slices_IndexFunc_Cell__cellsIn_1_j3 at H
  refine aV (oMov eC (xQ (AW.ret ?_)))
  cases H
  exact eE rfl rfl
 ·refine aV (oMov (eR rfl) (oLenD eZ (n:=a1.length) (List.length_map _) (oMov eC (xQ (AW.block (AW.iter (fun s5:Int=>mk [(0,(.one (.d (.sl 2 (List.map d_TCell a1))))),(1,(.one (.fn 97 [(.bd (d_TRange a2) 0)]))),(7,(oI (a1.length:Int))),(8,(oI s5))] [] noG) H (wk_mk [] (kR rfl rfl (kR rfl rfl (kR rfl rfl (kR rfl rfl SL.nil)))) BL.nil BK.nil) ?_))))))
  intro kb6 s5 H
  unfold slices_IndexFunc_Cell__cellsIn_1_b5 at H
  refine aV (oLss (eR rfl) (eR rfl) (xQ (aS ?_)))
  rcases oite H with⟨h7,H⟩|⟨h7,H⟩
  ·refine AW.condT eZ (dT h7) (AW.skip (TQ.qn (aS (AW.block (aV (oMov (eR rfl) (oMov eZ (xQ (aV (oMov (eR rfl) (oMov (eR rfl) (oMov (eR rfl) ?_))))))))))))
   obtain⟨v8,h9,H⟩:=obind H
   refine oAtD (eR rfl) eZ h9 (oLoadBA (es:=[(dI v8.Key),(dI v8.Value)]) eZ rfl ?_)
   obtain⟨v10,h11,H⟩:=obind H
   refine oCall (u:=(oB v10)) (eR rfl) Cl.fn (c_impl_cellsIn_1 h11) (Evs.cons eZ Evs.nil) (VDs.cons (VD.agg rfl) (VDs.cons VD.ptrB VDs.nil)) rfl (xQ ?_)
   rcases oite H with⟨h12,H⟩|⟨h12,H⟩
   ·refine AW.condT eZ h12 (aV (oMov (eR rfl) (oMov eZ (xQ (AW.ret (BQ.qr (TQ.qr (TQ.qr (BQ.qr (TQ.qr ?_))))))))))
    cases H
    exact eE rfl rfl
   ·exact AW.condF eZ (nt h12) (AW.skip (BQ.qn (TQ.qn (aR (oAdd (eR rfl) eC (oMov eZ (xNil (TQ.qn ⟨(IntKind.wrap .i64 (s5+1)),H,(wk_mk [] (kR rfl rfl (kR rfl rfl (kR rfl rfl (kR rfl rfl SL.nil)))) BL.nil BK.nil)⟩))))))))
  ·exact AW.condF eZ (dF h7) (AW.exit (TQ.qe (TQ.qe (BQ.qe (TQ.qn ⟨(),H,(wk_mk [] SL.nil BL.nil BK.nil)⟩)))))
theorem c_slices_ContainsFunc_Cell__cellsIn_1{a1:(List TCell)}{a2:TRange}{r:Bool}(H:m_slices_ContainsFunc_Cell__cellsIn_1 a1 a2=some r):Fn Try.prog 96 (lent [(.sl 2 (List.map d_TCell a1)),(.fn 97 [.ptr (d_TRange a2)])]) true [(.bool r)]:=by
 refine f96 (fle rfl) ?_
 rw[init_mk]
 refine AW.weaken (wk_mk [] (kv 0 (.one (.d (.sl 2 (List.map d_TCell a1)))) rfl rfl (SL.cons (v:=(.one (.fn 97 [(.bd (d_TRange a2) 0)]))) (eS rfl eZ) rfl (VWk.one (CWk.fn (css:=[d_TRange a2]))) SL.nil)) BL.nil BK.nil) ?_
 unfold m_slices_ContainsFunc_Cell__cellsIn_1 at H
 unfold i96
 refine aV (oMov eC (xQ (aV (oMov (eR rfl) (oMov (eR rfl) ?_)))))
 obtain⟨v3,h4,H⟩:=obind H
 refine oCall (u:=(oI v3)) eC Cl.fn (c_slices_IndexFunc_Cell__cellsIn_1 h4) (Evs.cons (eR rfl) (Evs.cons eZ Evs.nil)) (VDs.cons VD.plain (VDs.cons (VD.fn (PDs.cons VD.ptrB PDs.nil)) VDs.nil)) rfl (oGeq eZ eC (oMov eZ (xQ (AW.ret ?_))))
 cases H
 exact eE rfl rfl
theorem c_impl_cellsIn{a1:(List TCell)}{a2:TRange}{r:Bool}(H:m_impl_cellsIn a1 a2=some r):Fn Try.prog 55 (lent [(.sl 2 (List.map d_TCell a1)),(.agg (d_TRange a2))]) true [(.bool r)]:=by
 refine f55 (fle rfl) ?_
 rw[init_mk]
 refine AW.weaken (wk_mk [] (kv 0 (.one (.d (.sl 2 (List.map d_TCell a1)))) rfl rfl (kv 1 (.agg [(dI a2.Lo),(dI a2.Hi)]) rfl rfl SL.nil)) BL.nil BK.nil) ?_
 unfold m_impl_cellsIn at H
 unfold i55
 refine aV (oBox (n:=192) (m:=2) (cs:=[(dI a2.Lo),(dI a2.Hi)]) rfl (eR rfl) rfl rfl nZ (oMov eC (xQ (aV (oMov (eR rfl) ?_)))))
 obtain⟨v3,h4,H⟩:=obind H
 refine oCall (u:=(oB v3)) eC Cl.fn (c_impl_StoreOk h4) (Evs.cons eZ Evs.nil) (VDs.cons VD.plain VDs.nil) rfl (oMov eZ ?_)
 rcases oite H with⟨h5,H⟩|⟨h5,H⟩
 ·refine gDo eZ h5 (oMov (eR rfl) (gDo (eR rfl) h5 (oMkfn (ps:=[(.nm 192 0 0)]) (Evs.cons (eR rfl) Evs.nil) (gDo (eR rfl) h5 ?_))))
  obtain⟨v6,h7,H⟩:=obind H
  refine oCall (u:=(oB v6)) eC Cl.fn (c_slices_ContainsFunc_Cell__cellsIn_1 h7) (Evs.cons (eR rfl) (Evs.cons eZ Evs.nil)) (VDs.cons VD.plain (VDs.cons (VD.fn (PDs.cons (VD.ptrN bZ (CDs.plain (CDs.plain CDs.nil))) PDs.nil)) VDs.nil)) rfl (gDo (eR rfl) h5 (oInv eZ (oPickT (eR rfl) h5 eZ (oMov eZ (xQ (AW.ret ?_))))))
  cases H
  exact eE rfl rfl
 ·refine gSkip eZ (nt h5) rfl (gSkip (eR rfl) (nt h5) rfl (gSkip (eR rfl) (nt h5) rfl (gSkip (eR rfl) (nt h5) rfl (oPickF (eR rfl) (nt h5) eC (oMov eZ (xQ (AW.ret ?_)))))))
  cases H
  exact eE rfl rfl
theorem c_impl_moveOk{a1:TMove}{r:Bool}(H:m_impl_moveOk a1=some r):Fn Try.prog 47 (lent [(.agg (d_TMove a1))]) true [(.bool r)]:=by
 refine f47 (fle rfl) ?_
 rw[init_mk]
 refine AW.weaken (wk_mk [] (kv 0 (.agg [(dI a1.No),(dI a1.Stage),(dI a1.Lo),(dI a1.Hi),(dI a1.From),(dI a1.To),(.d (.sl 2 (List.map d_TCell a1.Cells)))]) rfl rfl SL.nil) BL.nil BK.nil) ?_
 unfold m_impl_moveOk at H
 unfold i47
 refine aV (oBox (n:=64) (m:=7) (cs:=[(dI a1.No),(dI a1.Stage),(dI a1.Lo),(dI a1.Hi),(dI a1.From),(dI a1.To),(.d (.sl 2 (List.map d_TCell a1.Cells)))]) rfl eZ rfl rfl nZ (oMov eC (xQ (aS (AW.seqJ (fun t2:Bool=>(impl_moveOk_j2 a1) t2=some r) (fun t2=>mk [(1,(.one (.ptr (.nm 64 0 0)))),(12,(oB t2))] [(64,(.vars 7 [(dI a1.No),(dI a1.Stage),(dI a1.Lo),(dI a1.Hi),(dI a1.From),(dI a1.To),(.d (.sl 2 (List.map d_TCell a1.Cells)))]))] noG) ?_ ?_)))))
 ·intro t2 H
  unfold impl_moveOk_j2 at H
  rcases oite H with⟨h4,H⟩|⟨h4,H⟩
  ·refine AW.condT (eR rfl) h4 (aV (oMov eC (xQ (AW.ret (TQ.qr ?_)))))
   cases H
   exact eE rfl rfl
  ·refine AW.condF (eR rfl) (nt h4) (AW.skip (TQ.qn (aS (aV (oFaddrN (m:=1) eZ rfl (oLoadV (q:=1) (c:=(dI a1.Stage)) eZ bZ rfl rfl (oEql eZ eC (xQ ?_))))))))
   rcases oite H with⟨h5,H⟩|⟨h5,H⟩
   ·refine AW.condT eZ (dT h5) (aV (oFaddrN (m:=2) (eR rfl) rfl (oLoadV (q:=2) (c:=(dI a1.Lo)) eZ bZ rfl rfl (oEql eZ eC (oMov eZ ?_)))))
    rcases oite H with⟨h6,H⟩|⟨h6,H⟩
    ·refine gDo eZ (dT h6) (oFaddrN (m:=3) (eR rfl) rfl (gDo (eR rfl) (dT h6) (oLoadV (q:=3) (c:=(dI a1.Hi)) eZ bZ rfl rfl (gDo (eR rfl) (dT h6) (oEql eZ eC (oPickT (eR rfl) (dT h6) eZ (oMov eZ ?_)))))))
     rcases oite H with⟨h7,H⟩|⟨h7,H⟩
     ·refine gDo eZ (dT h7) (oFaddrN (m:=4) (eR rfl) rfl (gDo (eR rfl) (dT h7) (oLoadV (q:=4) (c:=(dI a1.From)) eZ bZ rfl rfl (gDo (eR rfl) (dT h7) (oEql eZ eC (oPickT (eR rfl) (dT h7) eZ (oMov eZ ?_)))))))
      rcases oite H with⟨h8,H⟩|⟨h8,H⟩
      ·refine gDo eZ (dT h8) (oFaddrN (m:=5) (eR rfl) rfl (gDo (eR rfl) (dT h8) (oLoadV (q:=5) (c:=(dI a1.To)) eZ bZ rfl rfl (gDo (eR rfl) (dT h8) (oEql eZ eC (oPickT (eR rfl) (dT h8) eZ (oMov eZ ?_)))))))
       rcases oite H with⟨h9,H⟩|⟨h9,H⟩
       ·refine gDo eZ (dT h9) (oFaddrN (m:=6) (eR rfl) rfl (gDo (eR rfl) (dT h9) (oLoadV (q:=6) (c:=(.d (.sl 2 (List.map d_TCell a1.Cells)))) eZ bZ rfl rfl (gDo (eR rfl) (dT h9) (oLenD eZ (n:=a1.Cells.length) (List.length_map _) (gDo (eR rfl) (dT h9) (oEql eZ eC (oPickT (eR rfl) (dT h9) eZ (oMov eZ (xQ (AW.weaken (wk_mk [64] (kr 2 rfl rfl SL.nil) (BL.drop rfl BL.nil) BK.nil) (AW.ret (TQ.qr ?_)))))))))))))
        cases H
        exact eE rfl rfl
       ·refine gSkip eZ (dF h9) rfl (gSkip (eR rfl) (dF h9) rfl (gSkip (eR rfl) (dF h9) rfl (gSkip (eR rfl) (dF h9) rfl (oPickF (eR rfl) (dF h9) eC (oMov eZ (xQ (AW.weaken (wk_mk [64] (kr 2 rfl rfl SL.nil) (BL.drop rfl BL.nil) BK.nil) (AW.ret (TQ.qr ?_)))))))))
        cases H
        exact eE rfl rfl
      ·refine gSkip eZ (dF h8) rfl (gSkip (eR rfl) (dF h8) rfl (gSkip (eR rfl) (dF h8) rfl (oPickF (eR rfl) (dF h8) eC (oMov eZ (gSkip eZ rfl rfl (gSkip (eR rfl) rfl rfl (gSkip (eR rfl) rfl rfl (gSkip (eR rfl) rfl rfl (oPickF (eR rfl) rfl eC (oMov eZ (xQ (AW.weaken (wk_mk [64] (kr 2 rfl rfl SL.nil) (BL.drop rfl BL.nil) BK.nil) (AW.ret (TQ.qr ?_))))))))))))))
       cases H
       exact eE rfl rfl
     ·refine gSkip eZ (dF h7) rfl (gSkip (eR rfl) (dF h7) rfl (gSkip (eR rfl) (dF h7) rfl (oPickF (eR rfl) (dF h7) eC (oMov eZ (gSkip eZ rfl rfl (gSkip (eR rfl) rfl rfl (gSkip (eR rfl) rfl rfl (oPickF (eR rfl) rfl eC (oMov eZ (gSkip eZ rfl rfl (gSkip (eR rfl) rfl rfl (gSkip (eR rfl) rfl rfl (gSkip (eR rfl) rfl rfl (oPickF (eR rfl) rfl eC (oMov eZ (xQ (AW.weaken (wk_mk [64] (kr 2 rfl rfl SL.nil) (BL.drop rfl BL.nil) BK.nil) (AW.ret (TQ.qr ?_)))))))))))))))))))
      cases H
      exact eE rfl rfl
    ·refine gSkip eZ (dF h6) rfl (gSkip (eR rfl) (dF h6) rfl (gSkip (eR rfl) (dF h6) rfl (oPickF (eR rfl) (dF h6) eC (oMov eZ (gSkip eZ rfl rfl (gSkip (eR rfl) rfl rfl (gSkip (eR rfl) rfl rfl (oPickF (eR rfl) rfl eC (oMov eZ (gSkip eZ rfl rfl (gSkip (eR rfl) rfl rfl (gSkip (eR rfl) rfl rfl (oPickF (eR rfl) rfl eC (oMov eZ (gSkip eZ rfl rfl (gSkip (eR rfl) rfl rfl (gSkip (eR rfl) rfl rfl (gSkip (eR rfl) rfl rfl (oPickF (eR rfl) rfl eC (oMov eZ (xQ (AW.weaken (wk_mk [64] (kr 2 rfl rfl SL.nil) (BL.drop rfl BL.nil) BK.nil) (AW.ret (TQ.qr ?_))))))))))))))))))))))))
     cases H
     exact eE rfl rfl
   ·refine AW.condF eZ (dF h5) (AW.skip (TQ.qn (aS (AW.regd (oFaddrN (m:=0) (eR rfl) rfl (oLoadV (q:=0) (c:=(dI a1.No)) eZ bZ rfl rfl (oGeq eZ eC (oMov eZ ?_))))))))
    rcases oite H with⟨h10,H⟩|⟨h10,H⟩
    ·refine gDo eZ (dT h10) (oLoadVA (es:=[(dI a1.No),(dI a1.Stage),(dI a1.Lo),(dI a1.Hi),(dI a1.From),(dI a1.To),(.d (.sl 2 (List.map d_TCell a1.Cells)))]) (eR rfl) bZ rfl (gDo (eR rfl) (dT h10) ?_))
     obtain⟨v11,h12,H⟩:=obind H
     refine oCall (u:=(.agg [(dI v11.Lo),(dI v11.Hi)])) eC Cl.fn (c_impl_Move_keys h12) (Evs.cons eZ Evs.nil) (VDs.cons (VD.agg rfl) VDs.nil) rfl (gDo (eR rfl) (dT h10) ?_)
     obtain⟨v13,h14,H⟩:=obind H
     refine oCall (u:=(oB v13)) eC Cl.fn (c_impl_RangeOk h14) (Evs.cons eZ Evs.nil) (VDs.cons (VD.agg rfl) VDs.nil) rfl (oPickT (eR rfl) (dT h10) eZ (oMov eZ ?_))
     rcases oite H with⟨h15,H⟩|⟨h15,H⟩
     ·refine gDo eZ h15 (oFaddrN (m:=4) (eR rfl) rfl (gDo (eR rfl) h15 (oLoadV (q:=4) (c:=(dI a1.From)) eZ bZ rfl rfl (gDo (eR rfl) h15 ?_))))
      obtain⟨v16,h17,H⟩:=obind H
      refine oCall (u:=(oB v16)) eC Cl.fn (c_impl_isGroup h17) (Evs.cons eZ Evs.nil) (VDs.cons VD.plain VDs.nil) rfl (oPickT (eR rfl) h15 eZ (oMov eZ ?_))
      rcases oite H with⟨h18,H⟩|⟨h18,H⟩
      ·refine gDo eZ h18 (oFaddrN (m:=5) (eR rfl) rfl (gDo (eR rfl) h18 (oLoadV (q:=5) (c:=(dI a1.To)) eZ bZ rfl rfl (gDo (eR rfl) h18 ?_))))
       obtain⟨v19,h20,H⟩:=obind H
       refine oCall (u:=(oB v19)) eC Cl.fn (c_impl_isGroup h20) (Evs.cons eZ Evs.nil) (VDs.cons VD.plain VDs.nil) rfl (oPickT (eR rfl) h18 eZ (oMov eZ ?_))
       rcases oite H with⟨h21,H⟩|⟨h21,H⟩
       ·refine gDo eZ h21 (oFaddrN (m:=4) (eR rfl) rfl (gDo (eR rfl) h21 (oLoadV (q:=4) (c:=(dI a1.From)) eZ bZ rfl rfl (gDo (eR rfl) h21 (oFaddrN (m:=5) (eR rfl) rfl (gDo (eR rfl) h21 (oLoadV (q:=5) (c:=(dI a1.To)) eZ bZ rfl rfl (gDo (eR rfl) h21 (oNeq (eR rfl) eZ (oPickT (eR rfl) h21 eZ (oMov eZ ?_)))))))))))
        rcases oite H with⟨h22,H⟩|⟨h22,H⟩
        ·refine gDo eZ (dT h22) (oFaddrN (m:=6) (eR rfl) rfl (gDo (eR rfl) (dT h22) (oLoadV (q:=6) (c:=(.d (.sl 2 (List.map d_TCell a1.Cells)))) eZ (hB rfl bZ) rfl rfl (gDo (eR rfl) (dT h22) (oLoadVA (es:=[(dI a1.No),(dI a1.Stage),(dI a1.Lo),(dI a1.Hi),(dI a1.From),(dI a1.To),(.d (.sl 2 (List.map d_TCell a1.Cells)))]) (eR rfl) bZ rfl (gDo (eR rfl) (dT h22) ?_))))))
         obtain⟨v23,h24,H⟩:=obind H
         refine oCall (u:=(.agg [(dI v23.Lo),(dI v23.Hi)])) eC Cl.fn (c_impl_Move_keys h24) (Evs.cons eZ Evs.nil) (VDs.cons (VD.agg rfl) VDs.nil) rfl (gDo (eR rfl) (dT h22) ?_)
         obtain⟨v25,h26,H⟩:=obind H
         refine oCall (u:=(oB v25)) eC Cl.fn (c_impl_cellsIn h26) (Evs.cons (eR rfl) (Evs.cons eZ Evs.nil)) (VDs.cons VD.plain (VDs.cons (VD.agg rfl) VDs.nil)) rfl (oPickT (eR rfl) (dT h22) eZ (oMov eZ ?_))
         rcases oite H with⟨h27,H⟩|⟨h27,H⟩
         ·refine gDo eZ h27 (oFaddrN (m:=1) (eR rfl) rfl (gDo (eR rfl) h27 (oLoadV (q:=1) (c:=(dI a1.Stage)) eZ bZ rfl rfl (gDo (eR rfl) h27 (oEql eZ eC (gDo (eR rfl) h27 (oMov eZ ?_)))))))
          rcases oite H with⟨h28,H⟩|⟨h28,H⟩
          ·refine gSkip eZ (dT h28) rfl (gSkip (eR rfl) (dT h28) rfl (gSkip (eR rfl) (dT h28) rfl (gSkip (eR rfl) (dT h28) rfl (gDo (eR rfl) h27 (oPickT (eR rfl) (dT h28) eC (oPickT (eR rfl) h27 eZ (oMov eZ (xQ (AW.weaken (wk_mk [64] (kr 2 rfl rfl SL.nil) (BL.drop rfl BL.nil) BK.nil) (AW.ret ?_))))))))))
           cases H
           exact eE rfl rfl
          ·refine gDo eZ (dF h28) (oFaddrN (m:=6) (eR rfl) rfl (gDo (eR rfl) (dF h28) (oLoadV (q:=6) (c:=(.d (.sl 2 (List.map d_TCell a1.Cells)))) eZ bZ rfl rfl (gDo (eR rfl) (dF h28) (oLenD eZ (n:=a1.Cells.length) (List.length_map _) (gDo (eR rfl) (dF h28) (oEql eZ eC (gDo (eR rfl) h27 (oPickF (eR rfl) (dF h28) eZ (oPickT (eR rfl) h27 eZ (oMov eZ (xQ (AW.weaken (wk_mk [64] (kr 2 rfl rfl SL.nil) (BL.drop rfl BL.nil) BK.nil) (AW.ret ?_))))))))))))))
           cases H
           exact eE rfl rfl
         ·refine gSkip eZ (nt h27) rfl (gSkip (eR rfl) (nt h27) rfl (gSkip (eR rfl) (nt h27) rfl (gSkip (eR rfl) (nt h27) rfl (gSkipU eZ rfl (gSkipU (eR rfl) rfl (gSkipU (eR rfl) rfl (gSkipU (eR rfl) rfl (gSkip (eR rfl) (nt h27) rfl (oPickF (eR rfl) (nt h27) eC (oMov eZ (xQ (AW.weaken (wk_mk [64] (kr 2 rfl rfl SL.nil) (BL.drop rfl BL.nil) BK.nil) (AW.ret ?_)))))))))))))
          cases H
          exact eE rfl rfl
        ·refine gSkip eZ (dF h22) rfl (gSkip (eR rfl) (dF h22) rfl (gSkip (eR rfl) (dF h22) rfl (gSkip (eR rfl) (dF h22) rfl (gSkip (eR rfl) (dF h22) rfl (oPickF (eR rfl) (dF h22) eC (oMov eZ (gSkip eZ rfl rfl (gSkip (eR rfl) rfl rfl (gSkip (eR rfl) rfl rfl (gSkip (eR rfl) rfl rfl (gSkipU eZ rfl (gSkipU (eR rfl) rfl (gSkipU (eR rfl) rfl (gSkipU (eR rfl) rfl (gSkip (eR rfl) rfl rfl (oPickF (eR rfl) rfl eC (oMov eZ (xQ (AW.weaken (wk_mk [64] (kr 2 rfl rfl SL.nil) (BL.drop rfl BL.nil) BK.nil) (AW.ret ?_))))))))))))))))))))
         cases H
         exact eE rfl rfl
       ·refine gSkip eZ (nt h21) rfl (gSkip (eR rfl) (nt h21) rfl (gSkip (eR rfl) (nt h21) rfl (gSkip (eR rfl) (nt h21) rfl (gSkip (eR rfl) (nt h21) rfl (oPickF (eR rfl) (nt h21) eC (oMov eZ (gSkip eZ rfl rfl (gSkip (eR rfl) rfl rfl (gSkip (eR rfl) rfl rfl (gSkip (eR rfl) rfl rfl (gSkip (eR rfl) rfl rfl (oPickF (eR rfl) rfl eC (oMov eZ (gSkip eZ rfl rfl (gSkip (eR rfl) rfl rfl (gSkip (eR rfl) rfl rfl (gSkip (eR rfl) rfl rfl (gSkipU eZ rfl (gSkipU (eR rfl) rfl (gSkipU (eR rfl) rfl (gSkipU (eR rfl) rfl (gSkip (eR rfl) rfl rfl (oPickF (eR rfl) rfl eC (oMov eZ (xQ (AW.weaken (wk_mk [64] (kr 2 rfl rfl SL.nil) (BL.drop rfl BL.nil) BK.nil) (AW.ret ?_)))))))))))))))))))))))))))
        cases H
        exact eE rfl rfl
      ·refine gSkip eZ (nt h18) rfl (gSkip (eR rfl) (nt h18) rfl (gSkip (eR rfl) (nt h18) rfl (oPickF (eR rfl) (nt h18) eC (oMov eZ (gSkip eZ rfl rfl (gSkip (eR rfl) rfl rfl (gSkip (eR rfl) rfl rfl (gSkip (eR rfl) rfl rfl (gSkip (eR rfl) rfl rfl (oPickF (eR rfl) rfl eC (oMov eZ (gSkip eZ rfl rfl (gSkip (eR rfl) rfl rfl (gSkip (eR rfl) rfl rfl (gSkip (eR rfl) rfl rfl (gSkip (eR rfl) rfl rfl (oPickF (eR rfl) rfl eC (oMov eZ (gSkip eZ rfl rfl (gSkip (eR rfl) rfl rfl (gSkip (eR rfl) rfl rfl (gSkip (eR rfl) rfl rfl (gSkipU eZ rfl (gSkipU (eR rfl) rfl (gSkipU (eR rfl) rfl (gSkipU (eR rfl) rfl (gSkip (eR rfl) rfl rfl (oPickF (eR rfl) rfl eC (oMov eZ (xQ (AW.weaken (wk_mk [64] (kr 2 rfl rfl SL.nil) (BL.drop rfl BL.nil) BK.nil) (AW.ret ?_))))))))))))))))))))))))))))))))
       cases H
       exact eE rfl rfl
     ·refine gSkip eZ (nt h15) rfl (gSkip (eR rfl) (nt h15) rfl (gSkip (eR rfl) (nt h15) rfl (oPickF (eR rfl) (nt h15) eC (oMov eZ (gSkip eZ rfl rfl (gSkip (eR rfl) rfl rfl (gSkip (eR rfl) rfl rfl (oPickF (eR rfl) rfl eC (oMov eZ (gSkip eZ rfl rfl (gSkip (eR rfl) rfl rfl (gSkip (eR rfl) rfl rfl (gSkip (eR rfl) rfl rfl (gSkip (eR rfl) rfl rfl (oPickF (eR rfl) rfl eC (oMov eZ (gSkip eZ rfl rfl (gSkip (eR rfl) rfl rfl (gSkip (eR rfl) rfl rfl (gSkip (eR rfl) rfl rfl (gSkip (eR rfl) rfl rfl (oPickF (eR rfl) rfl eC (oMov eZ (gSkip eZ rfl rfl (gSkip (eR rfl) rfl rfl (gSkip (eR rfl) rfl rfl (gSkip (eR rfl) rfl rfl (gSkipU eZ rfl (gSkipU (eR rfl) rfl (gSkipU (eR rfl) rfl (gSkipU (eR rfl) rfl (gSkip (eR rfl) rfl rfl (oPickF (eR rfl) rfl eC (oMov eZ (xQ (AW.weaken (wk_mk [64] (kr 2 rfl rfl SL.nil) (BL.drop rfl BL.nil) BK.nil) (AW.ret ?_)))))))))))))))))))))))))))))))))))))
      cases H
      exact eE rfl rfl
    ·refine gSkip eZ (dF h10) rfl (gSkip (eR rfl) (dF h10) rfl (gSkip (eR rfl) (dF h10) rfl (oPickF (eR rfl) (dF h10) eC (oMov eZ (gSkip eZ rfl rfl (gSkip (eR rfl) rfl rfl (gSkip (eR rfl) rfl rfl (oPickF (eR rfl) rfl eC (oMov eZ (gSkip eZ rfl rfl (gSkip (eR rfl) rfl rfl (gSkip (eR rfl) rfl rfl (oPickF (eR rfl) rfl eC (oMov eZ (gSkip eZ rfl rfl (gSkip (eR rfl) rfl rfl (gSkip (eR rfl) rfl rfl (gSkip (eR rfl) rfl rfl (gSkip (eR rfl) rfl rfl (oPickF (eR rfl) rfl eC (oMov eZ (gSkip eZ rfl rfl (gSkip (eR rfl) rfl rfl (gSkip (eR rfl) rfl rfl (gSkip (eR rfl) rfl rfl (gSkip (eR rfl) rfl rfl (oPickF (eR rfl) rfl eC (oMov eZ (gSkip eZ rfl rfl (gSkip (eR rfl) rfl rfl (gSkip (eR rfl) rfl rfl (gSkip (eR rfl) rfl rfl (gSkipU eZ rfl (gSkipU (eR rfl) rfl (gSkipU (eR rfl) rfl (gSkipU (eR rfl) rfl (gSkip (eR rfl) rfl rfl (oPickF (eR rfl) rfl eC (oMov eZ ?_)))))))))))))))))))))))))))))))))))))))
     refine xQ (AW.weaken (wk_mk [64] (kr 2 rfl rfl SL.nil) (BL.drop rfl BL.nil) BK.nil) (AW.ret ?_))
     cases H
     exact eE rfl rfl
 ·refine aR (oFaddrN (m:=0) (eR rfl) rfl (oLoadV (q:=0) (c:=(dI a1.No)) eZ bZ rfl rfl ?_))
  obtain⟨v29,h30,H⟩:=obind H
  refine oCall (u:=(oB v29)) eC Cl.fn (c_impl_from h30) (Evs.cons eZ (Evs.cons eC (Evs.cons eC Evs.nil))) (VDs.cons VD.plain (VDs.cons VD.plain (VDs.cons VD.plain VDs.nil))) rfl (oInv eZ (oMov eZ ?_))
  rcases oite H with⟨h31,H⟩|⟨h31,H⟩
  ·refine gDo eZ (cN h31) (oFaddrN (m:=1) (eR rfl) rfl (gDo (eR rfl) (cN h31) (oLoadV (q:=1) (c:=(dI a1.Stage)) eZ bZ rfl rfl (gDo (eR rfl) (cN h31) ?_))))
   obtain⟨v32,h33,H⟩:=obind H
   exact oCall (u:=(oB v32)) eC Cl.fn (c_impl_from h33) (Evs.cons eZ (Evs.cons eC (Evs.cons eC Evs.nil))) (VDs.cons VD.plain (VDs.cons VD.plain (VDs.cons VD.plain VDs.nil))) rfl (gDo (eR rfl) (cN h31) (oInv eZ (oPickF (eR rfl) (cN h31) eZ (xNil (TQ.qn ⟨(!v32),H,(wk_mk [] (kR rfl rfl (kR rfl rfl SL.nil)) (BL.keep rfl BL.nil) (BK.cons rfl bZ rfl rfl BK.nil))⟩)))))
  ·exact gSkip eZ (cN (nt h31)) rfl (gSkip (eR rfl) (cN (nt h31)) rfl (gSkip (eR rfl) (cN (nt h31)) rfl (gSkip (eR rfl) (cN (nt h31)) rfl (oPickT (eR rfl) (cN (nt h31)) eC (xNil (TQ.qn ⟨true,H,(wk_mk [] (kR rfl rfl (kR rfl rfl SL.nil)) (BL.keep rfl BL.nil) (BK.cons rfl bZ rfl rfl BK.nil))⟩))))))
theorem c_impl_AtlasOk{a1:TAtlas}{r:Bool}(H:m_impl_AtlasOk a1=some r):Fn Try.prog 11 (lent [(.agg (d_TAtlas a1))]) true [(.bool r)]:=by
 refine f11 (fle rfl) ?_
 rw[init_mk]
 refine AW.weaken (wk_mk [] (kv 0 (.agg [(dI a1.Epoch),(.d (.sl 3 (List.map d_TPart a1.Parts))),(dI a1.Move.No),(dI a1.Move.Stage),(dI a1.Move.Lo),(dI a1.Move.Hi),(dI a1.Move.From),(dI a1.Move.To),(.d (.sl 2 (List.map d_TCell a1.Move.Cells)))]) rfl rfl SL.nil) BL.nil BK.nil) ?_
 unfold m_impl_AtlasOk at H
 unfold i11
 refine aV (oBox (n:=64) (m:=9) (cs:=[(dI a1.Epoch),(.d (.sl 3 (List.map d_TPart a1.Parts))),(dI a1.Move.No),(dI a1.Move.Stage),(dI a1.Move.Lo),(dI a1.Move.Hi),(dI a1.Move.From),(dI a1.Move.To),(.d (.sl 2 (List.map d_TCell a1.Move.Cells)))]) rfl eZ rfl rfl nZ (oMov eC (xQ (aV (oFaddrN (m:=0) (eR rfl) rfl (oLoadV (q:=0) (c:=(dI a1.Epoch)) eZ bZ rfl rfl ?_))))))
 obtain⟨v2,h3,H⟩:=obind H
 refine oCall (u:=(oB v2)) eC Cl.fn (c_impl_from h3) (Evs.cons eZ (Evs.cons eC (Evs.cons eC Evs.nil))) (VDs.cons VD.plain (VDs.cons VD.plain (VDs.cons VD.plain VDs.nil))) rfl (oMov eZ ?_)
 rcases oite H with⟨h4,H⟩|⟨h4,H⟩
 ·refine gDo eZ h4 (oFaddrN (m:=1) (eR rfl) rfl (gDo (eR rfl) h4 (oLoadV (q:=1) (c:=(.d (.sl 3 (List.map d_TPart a1.Parts)))) eZ bZ rfl rfl (gDo (eR rfl) h4 ?_))))
  obtain⟨v5,h6,H⟩:=obind H
  refine oCall (u:=(oB v5)) eC Cl.fn (c_impl_PartsOk h6) (Evs.cons eZ Evs.nil) (VDs.cons VD.plain VDs.nil) rfl (oPickT (eR rfl) h4 eZ (oMov eZ ?_))
  rcases oite H with⟨h7,H⟩|⟨h7,H⟩
  ·refine gDo eZ h7 (oFaddrN (m:=2) (eR rfl) rfl (gDo (eR rfl) h7 (oLoadVA (es:=[(dI a1.Move.No),(dI a1.Move.Stage),(dI a1.Move.Lo),(dI a1.Move.Hi),(dI a1.Move.From),(dI a1.Move.To),(.d (.sl 2 (List.map d_TCell a1.Move.Cells)))]) eZ bZ rfl (gDo (eR rfl) h7 ?_))))
   obtain⟨v8,h9,H⟩:=obind H
   refine oCall (u:=(oB v8)) eC Cl.fn (c_impl_moveOk h9) (Evs.cons eZ Evs.nil) (VDs.cons (VD.agg rfl) VDs.nil) rfl (oPickT (eR rfl) h7 eZ (oMov eZ (xQ (AW.weaken (wk_mk [64] (kr 2 rfl rfl SL.nil) (BL.drop rfl BL.nil) BK.nil) (AW.ret ?_)))))
   cases H
   exact eE rfl rfl
  ·refine gSkip eZ (nt h7) rfl (gSkip (eR rfl) (nt h7) rfl (gSkip (eR rfl) (nt h7) rfl (oPickF (eR rfl) (nt h7) eC (oMov eZ (xQ (AW.weaken (wk_mk [64] (kr 2 rfl rfl SL.nil) (BL.drop rfl BL.nil) BK.nil) (AW.ret ?_)))))))
   cases H
   exact eE rfl rfl
 ·refine gSkip eZ (nt h4) rfl (gSkip (eR rfl) (nt h4) rfl (gSkip (eR rfl) (nt h4) rfl (oPickF (eR rfl) (nt h4) eC (oMov eZ (gSkip eZ rfl rfl (gSkip (eR rfl) rfl rfl (gSkip (eR rfl) rfl rfl (oPickF (eR rfl) rfl eC (oMov eZ (xQ (AW.weaken (wk_mk [64] (kr 2 rfl rfl SL.nil) (BL.drop rfl BL.nil) BK.nil) (AW.ret ?_))))))))))))
  cases H
  exact eE rfl rfl
theorem c_slices_Clone_Part{a1:(List TPart)}{r:(List TPart)}(H:m_slices_Clone_Part a1=some r):Fn Try.prog 84 (lent [(.sl 3 (List.map d_TPart a1))]) true [(.sl 3 (List.map d_TPart r))]:=by
 refine f84 (fle rfl) ?_
 rw[init_mk]
 refine AW.weaken (wk_mk [] (kv 0 (.one (.d (.sl 3 (List.map d_TPart a1)))) rfl rfl SL.nil) BL.nil BK.nil) ?_
 unfold m_slices_Clone_Part at H
 unfold i84
 refine aV (oMov eC (xQ (AW.seqJ (fun t2:Unit=>(slices_Clone_Part_j2 a1) t2=some r) (fun t2=>mk [(0,(.one (.d (.sl 3 (List.map d_TPart a1)))))] [] noG) ?_ ?_)))
 ·intro t2 H
  unfold slices_Clone_Part_j2 at H
  refine aV (oBsliceZ (m:=320) rfl nZ (oMov (eR rfl) ?_))
  obtain⟨h4,H⟩:=oguard H
  refine oAppZ (f:=d_TPart) (m:=448) (own:=true) (ys:=a1) (q:=a1.length) rfl rfl (eR rfl) eZ (El.lent fun _ _=>rfl) rfl h4 (by decide) nZ (oMov eZ (xQ (AW.ret ?_)))
  cases H
  exact endsR (RL.cons (RV.tmp eZ) (VO.sl bZ (List.length_map _) (allFlat fun _=>rfl)) RL.nil) (by decide)
 ·refine aV (oMov (eR rfl) ?_)
  rcases oite H with⟨h5,H⟩|⟨h5,H⟩
  ·refine oNilD0 eZ h5 (xQ (AW.condU eZ ?_ ?_))
   ·have H:(some ([]:(List TPart)))=some r:=by rw[←H];simp[List.eq_nil_of_length_eq_zero h5,slices_Clone_Part_j2]
    refine aV (oMov eC (xQ (AW.ret (TQ.qr ?_))))
    cases H
    exact endsR (RL.cons (RV.tmp eZ) VO.zs RL.nil) List.nodup_nil
   ·exact AW.skip (TQ.qn ⟨(),H,(wk_mk [] (kR rfl rfl SL.nil) BL.nil BK.nil)⟩)
  ·exact oNilD eZ h5 (xQ (AW.condF eZ rfl (AW.skip (TQ.qn ⟨(),H,(wk_mk [] (kR rfl rfl SL.nil) BL.nil BK.nil)⟩))))
theorem c_slices_Clone_Cell{a1:(List TCell)}{r:(List TCell)}(H:m_slices_Clone_Cell a1=some r):Fn Try.prog 56 (lent [(.sl 2 (List.map d_TCell a1))]) true [(.sl 2 (List.map d_TCell r))]:=by
 refine f56 (fle rfl) ?_
 rw[init_mk]
 refine AW.weaken (wk_mk [] (kv 0 (.one (.d (.sl 2 (List.map d_TCell a1)))) rfl rfl SL.nil) BL.nil BK.nil) ?_
 unfold m_slices_Clone_Cell at H
 unfold i56
 refine aV (oMov eC (xQ (AW.seqJ (fun t2:Unit=>(slices_Clone_Cell_j2 a1) t2=some r) (fun t2=>mk [(0,(.one (.d (.sl 2 (List.map d_TCell a1)))))] [] noG) ?_ ?_)))
 ·intro t2 H
  unfold slices_Clone_Cell_j2 at H
  refine aV (oBsliceZ (m:=320) rfl nZ (oMov (eR rfl) ?_))
  obtain⟨h4,H⟩:=oguard H
  refine oAppZ (f:=d_TCell) (m:=448) (own:=true) (ys:=a1) (q:=a1.length) rfl rfl (eR rfl) eZ (El.lent fun _ _=>rfl) rfl h4 (by decide) nZ (oMov eZ (xQ (AW.ret ?_)))
  cases H
  exact endsR (RL.cons (RV.tmp eZ) (VO.sl bZ (List.length_map _) (allFlat fun _=>rfl)) RL.nil) (by decide)
 ·refine aV (oMov (eR rfl) ?_)
  rcases oite H with⟨h5,H⟩|⟨h5,H⟩
  ·refine oNilD0 eZ h5 (xQ (AW.condU eZ ?_ ?_))
   ·have H:(some ([]:(List TCell)))=some r:=by rw[←H];simp[List.eq_nil_of_length_eq_zero h5,slices_Clone_Cell_j2]
    refine aV (oMov eC (xQ (AW.ret (TQ.qr ?_))))
    cases H
    exact endsR (RL.cons (RV.tmp eZ) VO.zs RL.nil) List.nodup_nil
   ·exact AW.skip (TQ.qn ⟨(),H,(wk_mk [] (kR rfl rfl SL.nil) BL.nil BK.nil)⟩)
  ·exact oNilD eZ h5 (xQ (AW.condF eZ rfl (AW.skip (TQ.qn ⟨(),H,(wk_mk [] (kR rfl rfl SL.nil) BL.nil BK.nil)⟩))))
theorem c_impl_copyAtlas{a1:TAtlas}{r:TAtlas}(H:m_impl_copyAtlas a1=some r):Fn Try.prog 40 (lent [(.agg (d_TAtlas a1))]) true [(.agg (d_TAtlas r))]:=by
 refine f40 (fle rfl) ?_
 rw[init_mk]
 refine AW.weaken (t:=mk [(0,(.agg [(dI a1.Epoch),(.d (.sl 3 (List.map d_TPart a1.Parts))),(dI a1.Move.No),(dI a1.Move.Stage),(dI a1.Move.Lo),(dI a1.Move.Hi),(dI a1.Move.From),(dI a1.Move.To),(.d (.sl 2 (List.map d_TCell a1.Move.Cells)))]))] [] (lk [])) (wk_mk [] (kv 0 (.agg [(dI a1.Epoch),(.d (.sl 3 (List.map d_TPart a1.Parts))),(dI a1.Move.No),(dI a1.Move.Stage),(dI a1.Move.Lo),(dI a1.Move.Hi),(dI a1.Move.From),(dI a1.Move.To),(.d (.sl 2 (List.map d_TCell a1.Move.Cells)))]) rfl rfl SL.nil) BL.nil BK.nil) ?_
 unfold m_impl_copyAtlas at H
 unfold i40
 refine aV (oBox (n:=64) (m:=9) (cs:=[(dI a1.Epoch),(.d (.sl 3 (List.map d_TPart a1.Parts))),(dI a1.Move.No),(dI a1.Move.Stage),(dI a1.Move.Lo),(dI a1.Move.Hi),(dI a1.Move.From),(dI a1.Move.To),(.d (.sl 2 (List.map d_TCell a1.Move.Cells)))]) rfl eZ rfl rfl nZ (oVar (n:=128) (m:=9) rfl rfl (nS rfl nZ) (xQ (aS (AW.regm (rmOne (oFaddrN (m:=1) (eR rfl) rfl (xNil (rmOne (oLoadV (q:=1) (c:=(.d (.sl 3 (List.map d_TPart a1.Parts)))) eZ (bS rfl bZ) rfl rfl (xNil (rmOne ?_))))))))))))
 obtain⟨v2,h3,H⟩:=obind H
 refine oCallN (u:=(.one (.sl 320 0 v2.length))) (bs:=[(320,(.data 3 (List.map d_TPart v2) true none))]) eC Cl.fn (c_slices_Clone_Part h3) (Evs.cons eZ Evs.nil) (VDs.cons VD.plain VDs.nil) (by simp[bindR,bindV,bindVs,bindC,bindCs]) rfl (fC (nS rfl (nS rfl nZ)) rfl (fC (nS rfl (nS rfl nZ)) rfl fN)) (xNil (rmOne (oFaddrN (m:=1) (eR rfl) rfl (xNil (rmOne (oStoreV (es:=[(dI a1.Epoch),(.sl 320 0 v2.length),(dI a1.Move.No),(dI a1.Move.Stage),(dI a1.Move.Lo),(dI a1.Move.Hi),(dI a1.Move.From),(dI a1.Move.To),(.d (.sl 2 (List.map d_TCell a1.Move.Cells)))]) eZ (eR rfl) rfl rfl (bS rfl (bS rfl bZ)) rfl (xNil (rmRest (xQ (aS (AW.regm (rmOne (oFaddrN (m:=2) (eR rfl) rfl (xNil (rmOne (oFaddrN (m:=8) eZ rfl (xNil (rmOne (oLoadV (q:=8) (c:=(.d (.sl 2 (List.map d_TCell a1.Move.Cells)))) eZ bZ rfl rfl (xNil (rmOne ?_)))))))))))))))))))))
 obtain⟨v4,h5,H⟩:=obind H
 refine oCallN (u:=(.one (.sl 640 0 v4.length))) (bs:=[(640,(.data 2 (List.map d_TCell v4) true none))]) eC Cl.fn (c_slices_Clone_Cell h5) (Evs.cons eZ Evs.nil) (VDs.cons VD.plain VDs.nil) (by simp[bindR,bindV,bindVs,bindC,bindCs]) rfl (fC (nS rfl (nS rfl (nS rfl (nS rfl nZ)))) rfl (fC (nS rfl (nS rfl (nS rfl (nS rfl nZ)))) rfl fN)) (xNil (rmOne (oFaddrN (m:=2) (eR rfl) rfl (xNil (rmOne (oFaddrN (m:=8) eZ rfl (xNil (rmOne (oStoreV (es:=[(dI a1.Epoch),(.sl 320 0 v2.length),(dI a1.Move.No),(dI a1.Move.Stage),(dI a1.Move.Lo),(dI a1.Move.Hi),(dI a1.Move.From),(dI a1.Move.To),(.sl 640 0 v4.length)]) eZ (eR rfl) rfl rfl (bS rfl bZ) rfl (xNil (rmRest (xQ (aS (AW.regm (rmOne (oLoadVA (es:=[(dI a1.Epoch),(.sl 320 0 v2.length),(dI a1.Move.No),(dI a1.Move.Stage),(dI a1.Move.Lo),(dI a1.Move.Hi),(dI a1.Move.From),(dI a1.Move.To),(.sl 640 0 v4.length)]) (eR rfl) bZ rfl (xNil (rmOne (oStoreV (es:=[(dI a1.Epoch),(.sl 320 0 v2.length),(dI a1.Move.No),(dI a1.Move.Stage),(dI a1.Move.Lo),(dI a1.Move.Hi),(dI a1.Move.From),(dI a1.Move.To),(.sl 640 0 v4.length)]) (eR rfl) eZ rfl rfl (bS rfl (bS rfl (bS rfl (bS rfl bZ)))) rfl (xNil (rmRest (xQ (AW.ret ?_)))))))))))))))))))))))
 cases H
 exact endsR (RL.cons (RV.cellA (es:=[(dI a1.Epoch),(.sl 320 0 v2.length),(dI a1.Move.No),(dI a1.Move.Stage),(dI a1.Move.Lo),(dI a1.Move.Hi),(dI a1.Move.From),(dI a1.Move.To),(.sl 640 0 v4.length)]) (eR rfl) bZ rfl) (VO.aggs (VOs.cons (VO.flat rfl) (VOs.cons (VO.sl (bS rfl (bS rfl (bS rfl (bS rfl bZ)))) (List.length_map _) (allFlat fun _=>rfl)) (VOs.cons (VO.flat rfl) (VOs.cons (VO.flat rfl) (VOs.cons (VO.flat rfl) (VOs.cons (VO.flat rfl) (VOs.cons (VO.flat rfl) (VOs.cons (VO.flat rfl) (VOs.cons (VO.sl (bS rfl (bS rfl bZ)) (List.length_map _) (allFlat fun _=>rfl)) VOs.nil)))))))))) RL.nil) (by decide)
theorem c_impl_partAt_1{a1:TPart}{a2:Int}{r:Bool}(H:m_impl_partAt_1 a1 a2=some r):Fn Try.prog 93 (lent [(.agg (d_TPart a1)),(.ptr (d_i64 a2))]) true [(.bool r)]:=by
 refine f93 (fle rfl) ?_
 rw[init_mk]
 refine AW.weaken (wk_mk [] (kv 0 (.agg [(dI a1.Lo),(dI a1.Hi),(dI a1.Owner)]) rfl rfl (SL.cons (v:=(.one (.ptr (.bd (d_i64 a2) 0)))) (eS rfl eZ) rfl (VWk.one CWk.ptr) SL.nil)) BL.nil BK.nil) ?_
 unfold m_impl_partAt_1 at H
 unfold i93
 refine aV (oBox (n:=128) (m:=3) (cs:=[(dI a1.Lo),(dI a1.Hi),(dI a1.Owner)]) rfl eZ rfl rfl nZ (oMov eC (xQ (aV (oLoadB (e:=(.int .i64 a2)) (eR rfl) rfl (oFaddrN (m:=0) (eR rfl) rfl (oLoadV (q:=0) (c:=(dI a1.Lo)) eZ bZ rfl rfl (oFaddrN (m:=1) (eR rfl) rfl (oLoadV (q:=1) (c:=(dI a1.Hi)) eZ bZ rfl rfl (oSub eZ eC ?_))))))))))
 obtain⟨v3,h4,H⟩:=obind H
 refine oCall (u:=(oB v3)) eC Cl.fn (c_impl_from h4) (Evs.cons (eR rfl) (Evs.cons (eR rfl) (Evs.cons eZ Evs.nil))) (VDs.cons VD.plain (VDs.cons VD.plain (VDs.cons VD.plain VDs.nil))) rfl (oMov eZ (xQ (AW.ret ?_)))
 cases H
 exact eE rfl rfl
theorem c_slices_IndexFunc_Part__partAt_1{a1:(List TPart)}{a2:Int}{r:Int}(H:m_slices_IndexFunc_Part__partAt_1 a1 a2=some r):Fn Try.prog 92 (lent [(.sl 3 (List.map d_TPart a1)),(.fn 93 [.ptr (d_i64 a2)])]) true [(.int .i64 r)]:=by
 refine f92 (fle rfl) ?_
 rw[init_mk]
 refine AW.weaken (wk_mk [] (kv 0 (.one (.d (.sl 3 (List.map d_TPart a1)))) rfl rfl (SL.cons (v:=(.one (.fn 93 [(.bd (d_i64 a2) 0)]))) (eS rfl eZ) rfl (VWk.one (CWk.fn (css:=[d_i64 a2]))) SL.nil)) BL.nil BK.nil) ?_
 unfold m_slices_IndexFunc_Part__partAt_1 at H
 unfold i92
 refine aV (oMov eC (xQ (AW.seqJ (fun t3:Unit=>slices_IndexFunc_Part__partAt_1_j3 t3=some r) (fun t3=>mk [] [] noG) ?_ ?_)))
 ·intro t3 H
  unfold slices_IndexFunc_Part__partAt_1_j3 at H
  refine aV (oMov eC (xQ (AW.ret ?_)))
  cases H
  exact eE rfl rfl
 ·refine aV (oMov (eR rfl) (oLenD eZ (n:=a1.length) (List.length_map _) (oMov eC (xQ (AW.block (AW.iter (fun s5:Int=>mk [(0,(.one (.d (.sl 3 (List.map d_TPart a1))))),(1,(.one (.fn 93 [(.bd (d_i64 a2) 0)]))),(7,(oI (a1.length:Int))),(8,(oI s5))] [] noG) H (wk_mk [] (kR rfl rfl (kR rfl rfl (kR rfl rfl (kR rfl rfl SL.nil)))) BL.nil BK.nil) ?_))))))
  intro kb6 s5 H
  unfold slices_IndexFunc_Part__partAt_1_b5 at H
  refine aV (oLss (eR rfl) (eR rfl) (xQ (aS ?_)))
  rcases oite H with⟨h7,H⟩|⟨h7,H⟩
  ·refine AW.condT eZ (dT h7) (AW.skip (TQ.qn (aS (AW.block (aV (oMov (eR rfl) (oMov eZ (xQ (aV (oMov (eR rfl) (oMov (eR rfl) (oMov (eR rfl) ?_))))))))))))
   obtain⟨v8,h9,H⟩:=obind H
   refine oAtD (eR rfl) eZ h9 (oLoadBA (es:=[(dI v8.Lo),(dI v8.Hi),(dI v8.Owner)]) eZ rfl ?_)
   obtain⟨v10,h11,H⟩:=obind H
   refine oCall (u:=(oB v10)) (eR rfl) Cl.fn (c_impl_partAt_1 h11) (Evs.cons eZ Evs.nil) (VDs.cons (VD.agg rfl) (VDs.cons VD.ptrB VDs.nil)) rfl (xQ ?_)
   rcases oite H with⟨h12,H⟩|⟨h12,H⟩
   ·refine AW.condT eZ h12 (aV (oMov (eR rfl) (oMov eZ (xQ (AW.ret (BQ.qr (TQ.qr (TQ.qr (BQ.qr (TQ.qr ?_))))))))))
    cases H
    exact eE rfl rfl
   ·exact AW.condF eZ (nt h12) (AW.skip (BQ.qn (TQ.qn (aR (oAdd (eR rfl) eC (oMov eZ (xNil (TQ.qn ⟨(IntKind.wrap .i64 (s5+1)),H,(wk_mk [] (kR rfl rfl (kR rfl rfl (kR rfl rfl (kR rfl rfl SL.nil)))) BL.nil BK.nil)⟩))))))))
  ·exact AW.condF eZ (dF h7) (AW.exit (TQ.qe (TQ.qe (BQ.qe (TQ.qn ⟨(),H,(wk_mk [] SL.nil BL.nil BK.nil)⟩)))))
theorem c_impl_partAt{a1:(List TPart)}{a2:Int}{r:Int}(H:m_impl_partAt a1 a2=some r):Fn Try.prog 48 (lent [(.sl 3 (List.map d_TPart a1)),(.int .i64 a2)]) true [(.int .i64 r)]:=by
 refine f48 (fle rfl) ?_
 rw[init_mk]
 refine AW.weaken (wk_mk [] (kv 0 (.one (.d (.sl 3 (List.map d_TPart a1)))) rfl rfl (kv 1 (oI a2) rfl rfl SL.nil)) BL.nil BK.nil) ?_
 unfold m_impl_partAt at H
 unfold i48
 refine aV (oBox (n:=192) (m:=1) (cs:=[(dI a2)]) rfl (eR rfl) rfl rfl nZ (oMov eC (xQ (aV (oMov (eR rfl) (oMkfn (ps:=[(.nm 192 0 0)]) (Evs.cons (eR rfl) Evs.nil) ?_))))))
 obtain⟨v3,h4,H⟩:=obind H
 refine oCall (u:=(oI v3)) eC Cl.fn (c_slices_IndexFunc_Part__partAt_1 h4) (Evs.cons (eR rfl) (Evs.cons eZ Evs.nil)) (VDs.cons VD.plain (VDs.cons (VD.fn (PDs.cons (VD.ptrN bZ (CDs.plain CDs.nil)) PDs.nil)) VDs.nil)) rfl (oMov eZ (xQ (AW.ret ?_)))
 cases H
 exact eE rfl rfl
theorem c_impl_AtlasMove{a1:TAtlas}{a2:Int}{a3:Int}{r:(TAtlas×Int)}(H:m_impl_AtlasMove a1 a2 a3=some r):Fn Try.prog 15 (lent [(.agg (d_TAtlas a1)),(.int .i64 a2),(.int .i64 a3)]) true [(.agg (d_TAtlas r.1)),(.int .i64 r.2)]:=by
 refine f15 (fle rfl) ?_
 rw[init_mk]
 refine AW.weaken (t:=mk [(0,(.agg [(dI a1.Epoch),(.d (.sl 3 (List.map d_TPart a1.Parts))),(dI a1.Move.No),(dI a1.Move.Stage),(dI a1.Move.Lo),(dI a1.Move.Hi),(dI a1.Move.From),(dI a1.Move.To),(.d (.sl 2 (List.map d_TCell a1.Move.Cells)))])),(1,(oI a2)),(2,(oI a3))] [] (lk [])) (wk_mk [] (kv 0 (.agg [(dI a1.Epoch),(.d (.sl 3 (List.map d_TPart a1.Parts))),(dI a1.Move.No),(dI a1.Move.Stage),(dI a1.Move.Lo),(dI a1.Move.Hi),(dI a1.Move.From),(dI a1.Move.To),(.d (.sl 2 (List.map d_TCell a1.Move.Cells)))]) rfl rfl (kv 1 (oI a2) rfl rfl (kv 2 (oI a3) rfl rfl SL.nil))) BL.nil BK.nil) ?_
 unfold m_impl_AtlasMove at H
 unfold i15
 refine aV (oBox (n:=192) (m:=9) (cs:=[(dI a1.Epoch),(.d (.sl 3 (List.map d_TPart a1.Parts))),(dI a1.Move.No),(dI a1.Move.Stage),(dI a1.Move.Lo),(dI a1.Move.Hi),(dI a1.Move.From),(dI a1.Move.To),(.d (.sl 2 (List.map d_TCell a1.Move.Cells)))]) rfl eZ rfl rfl nZ (oVar (n:=384) (m:=9) rfl rfl (nS rfl nZ) (oMov eC (xQ (aS (aV (oLoadVA (es:=[(dI a1.Epoch),(.d (.sl 3 (List.map d_TPart a1.Parts))),(dI a1.Move.No),(dI a1.Move.Stage),(dI a1.Move.Lo),(dI a1.Move.Hi),(dI a1.Move.From),(dI a1.Move.To),(.d (.sl 2 (List.map d_TCell a1.Move.Cells)))]) (eR rfl) (bS rfl bZ) rfl ?_)))))))
 obtain⟨v4,h5,H⟩:=obind H
 refine oCall (u:=(oB v4)) eC Cl.fn (c_impl_AtlasOk h5) (Evs.cons eZ Evs.nil) (VDs.cons (VD.agg rfl) VDs.nil) rfl (oInv eZ (xQ ?_))
 rcases oite H with⟨h6,H⟩|⟨h6,H⟩
 ·refine AW.condF eZ (cN h6) (AW.skip (TQ.qn (aS (AW.regm (rmOne (oLoadVA (es:=[(dI a1.Epoch),(.d (.sl 3 (List.map d_TPart a1.Parts))),(dI a1.Move.No),(dI a1.Move.Stage),(dI a1.Move.Lo),(dI a1.Move.Hi),(dI a1.Move.From),(dI a1.Move.To),(.d (.sl 2 (List.map d_TCell a1.Move.Cells)))]) (eR rfl) (bS rfl bZ) rfl (xNil (rmOne ?_))))))))
  obtain⟨v7,h8,H⟩:=obind H
  refine oCallN (u:=(.agg [(dI v7.Epoch),(.sl 1025 0 v7.Parts.length),(dI v7.Move.No),(dI v7.Move.Stage),(dI v7.Move.Lo),(dI v7.Move.Hi),(dI v7.Move.From),(dI v7.Move.To),(.sl 1032 0 v7.Move.Cells.length)])) (bs:=[(1025,(.data 3 (List.map d_TPart v7.Parts) true none)),(1032,(.data 2 (List.map d_TCell v7.Move.Cells) true none))]) eC Cl.fn (c_impl_copyAtlas h8) (Evs.cons eZ Evs.nil) (VDs.cons (VD.agg rfl) VDs.nil) (by simp[bindR,bindV,bindVs,bindC,bindCs]) rfl (fC (nS rfl (nS rfl nZ)) rfl (fC (nS rfl (nS rfl nZ)) rfl (fC (nS rfl (nS rfl nZ)) rfl fN))) (xNil (rmOne (oVar (n:=512) (m:=9) rfl rfl (nS rfl (nS rfl (nS rfl (nS rfl nZ)))) (xNil (rmOne (oStoreV (es:=[(dI v7.Epoch),(.sl 1025 0 v7.Parts.length),(dI v7.Move.No),(dI v7.Move.Stage),(dI v7.Move.Lo),(dI v7.Move.Hi),(dI v7.Move.From),(dI v7.Move.To),(.sl 1032 0 v7.Move.Cells.length)]) eZ (eR rfl) rfl rfl bZ rfl (xNil (rmRest (xQ (aV (oFaddrN (m:=1) (eR rfl) rfl (oLoadV (q:=1) (c:=(.d (.sl 3 (List.map d_TPart a1.Parts)))) eZ (bS rfl (bS rfl (bS rfl (bS rfl (bS rfl bZ))))) rfl rfl (oMov (eR rfl) ?_)))))))))))))
  obtain⟨v9,h10,H⟩:=obind H
  refine oCall (u:=(oI v9)) eC Cl.fn (c_impl_partAt h10) (Evs.cons (eR rfl) (Evs.cons eZ Evs.nil)) (VDs.cons VD.plain (VDs.cons VD.plain VDs.nil)) rfl (oMov eZ (xQ (AW.weaken (wk_mkG [] (kr 9 rfl rfl (kr 8 rfl rfl (kr 6 rfl rfl (kr 3 rfl rfl (kr 2 rfl rfl SL.nil))))) (BL.keep rfl (BL.keep rfl (BL.keep rfl (BL.keep rfl (BL.keep rfl (BL.keep rfl BL.nil)))))) (BK.cons (n:=512) rfl bZ rfl rfl (BK.cons (n:=1032) rfl (bS rfl (bS rfl bZ)) rfl rfl (BK.cons (n:=1025) rfl (bS rfl (bS rfl (bS rfl bZ))) rfl rfl (BK.cons (n:=384) rfl (bS rfl (bS rfl (bS rfl (bS rfl bZ)))) rfl rfl (BK.cons (n:=192) rfl (bS rfl (bS rfl (bS rfl (bS rfl (bS rfl bZ))))) rfl rfl BK.nil))))) GK.nil) (aS (AW.block (aV (oFaddrN (m:=2) (eR rfl) rfl (oFaddrN (m:=3) eZ rfl (oLoadV (q:=3) (c:=(dI a1.Move.Stage)) eZ (bS rfl (bS rfl (bS rfl (bS rfl bZ)))) rfl rfl (oNeq eZ eC (oMov eZ (xQ ?_))))))))))))
  rcases oite H with⟨h11,H⟩|⟨h11,H⟩
  ·refine AW.condT eZ (dT h11) (aS (AW.regm (rmOne (oLoadVA (es:=[(dI v7.Epoch),(.sl 1025 0 v7.Parts.length),(dI v7.Move.No),(dI v7.Move.Stage),(dI v7.Move.Lo),(dI v7.Move.Hi),(dI v7.Move.From),(dI v7.Move.To),(.sl 1032 0 v7.Move.Cells.length)]) (eR rfl) bZ rfl (xNil (rmOne (oStoreV (es:=[(dI v7.Epoch),(.sl 1025 0 v7.Parts.length),(dI v7.Move.No),(dI v7.Move.Stage),(dI v7.Move.Lo),(dI v7.Move.Hi),(dI v7.Move.From),(dI v7.Move.To),(.sl 1032 0 v7.Move.Cells.length)]) (eR rfl) eZ rfl rfl (bS rfl (bS rfl (bS rfl bZ))) rfl (xNil (rmRest (oMov eC (xQ (AW.ret (BQ.qr (TQ.qr ?_))))))))))))))
   cases H
   exact endsR (RL.cons (RV.cellA (es:=[(dI v7.Epoch),(.sl 1025 0 v7.Parts.length),(dI v7.Move.No),(dI v7.Move.Stage),(dI v7.Move.Lo),(dI v7.Move.Hi),(dI v7.Move.From),(dI v7.Move.To),(.sl 1032 0 v7.Move.Cells.length)]) (eR rfl) bZ rfl) (VO.aggs (VOs.cons (VO.flat rfl) (VOs.cons (VO.sl (bS rfl (bS rfl (bS rfl bZ))) (List.length_map _) (allFlat fun _=>rfl)) (VOs.cons (VO.flat rfl) (VOs.cons (VO.flat rfl) (VOs.cons (VO.flat rfl) (VOs.cons (VO.flat rfl) (VOs.cons (VO.flat rfl) (VOs.cons (VO.flat rfl) (VOs.cons (VO.sl (bS rfl (bS rfl bZ)) (List.length_map _) (allFlat fun _=>rfl)) VOs.nil)))))))))) (RL.cons (RV.tmp eZ) (VO.flat rfl) RL.nil)) (by decide)
  ·refine AW.condF eZ (dF h11) (AW.seqJ (fun t12:Bool=>(impl_AtlasMove_j12 v7 a1 v9 a3) t12=some r) (fun t12=>mk [(2,(oI a3)),(3,(.one (.ptr (.nm 192 0 0)))),(6,(.one (.ptr (.nm 384 0 0)))),(8,(.one (.ptr (.nm 512 0 0)))),(9,(oI v9)),(27,(oB t12))] [(192,(.vars 9 [(dI a1.Epoch),(.d (.sl 3 (List.map d_TPart a1.Parts))),(dI a1.Move.No),(dI a1.Move.Stage),(dI a1.Move.Lo),(dI a1.Move.Hi),(dI a1.Move.From),(dI a1.Move.To),(.d (.sl 2 (List.map d_TCell a1.Move.Cells)))])),(384,(.vars 9 [(dI 0),.zs,(dI 0),(dI 0),(dI 0),(dI 0),(dI 0),(dI 0),.zs])),(512,(.vars 9 [(dI v7.Epoch),(.sl 1025 0 v7.Parts.length),(dI v7.Move.No),(dI v7.Move.Stage),(dI v7.Move.Lo),(dI v7.Move.Hi),(dI v7.Move.From),(dI v7.Move.To),(.sl 1032 0 v7.Move.Cells.length)])),(1025,(.data 3 (List.map d_TPart v7.Parts) true none)),(1032,(.data 2 (List.map d_TCell v7.Move.Cells) true none))] (lk [])) ?_ ?_)
   ·intro t12 H
    unfold impl_AtlasMove_j12 at H
    rcases oite H with⟨h14,H⟩|⟨h14,H⟩
    ·refine AW.condT (eR rfl) h14 (aS (AW.regm (rmOne (oLoadVA (es:=[(dI v7.Epoch),(.sl 1025 0 v7.Parts.length),(dI v7.Move.No),(dI v7.Move.Stage),(dI v7.Move.Lo),(dI v7.Move.Hi),(dI v7.Move.From),(dI v7.Move.To),(.sl 1032 0 v7.Move.Cells.length)]) (eR rfl) (bS rfl (bS rfl bZ)) rfl (xNil (rmOne (oStoreV (es:=[(dI v7.Epoch),(.sl 1025 0 v7.Parts.length),(dI v7.Move.No),(dI v7.Move.Stage),(dI v7.Move.Lo),(dI v7.Move.Hi),(dI v7.Move.From),(dI v7.Move.To),(.sl 1032 0 v7.Move.Cells.length)]) (eR rfl) eZ rfl rfl (bS rfl bZ) rfl (xNil (rmRest (oMov eC (xQ (AW.ret (BQ.qr (TQ.qr ?_))))))))))))))
     cases H
     exact endsR (RL.cons (RV.cellA (es:=[(dI v7.Epoch),(.sl 1025 0 v7.Parts.length),(dI v7.Move.No),(dI v7.Move.Stage),(dI v7.Move.Lo),(dI v7.Move.Hi),(dI v7.Move.From),(dI v7.Move.To),(.sl 1032 0 v7.Move.Cells.length)]) (eR rfl) bZ rfl) (VO.aggs (VOs.cons (VO.flat rfl) (VOs.cons (VO.sl (bS rfl (bS rfl (bS rfl (bS rfl bZ)))) (List.length_map _) (allFlat fun _=>rfl)) (VOs.cons (VO.flat rfl) (VOs.cons (VO.flat rfl) (VOs.cons (VO.flat rfl) (VOs.cons (VO.flat rfl) (VOs.cons (VO.flat rfl) (VOs.cons (VO.flat rfl) (VOs.cons (VO.sl (bS rfl (bS rfl (bS rfl (bS rfl (bS rfl bZ))))) (List.length_map _) (allFlat fun _=>rfl)) VOs.nil)))))))))) (RL.cons (RV.tmp eZ) (VO.flat rfl) RL.nil)) (by decide)
    ·refine AW.condF (eR rfl) (nt h14) (AW.skip (BQ.qn (TQ.qn (aV (oFaddrN (m:=1) (eR rfl) rfl (oLoadV (q:=1) (c:=(.d (.sl 3 (List.map d_TPart a1.Parts)))) eZ bZ rfl rfl (oMov (eR rfl) ?_)))))))
     obtain⟨v15,h16,H⟩:=obind H
     refine oAtD (eR rfl) eZ h16 (oLoadBA (es:=[(dI v15.Lo),(dI v15.Hi),(dI v15.Owner)]) eZ rfl (oVar (n:=640) (m:=3) rfl rfl (nS rfl (nS rfl (nS rfl (nS rfl (nS rfl nZ))))) (oStoreV (es:=[(dI v15.Lo),(dI v15.Hi),(dI v15.Owner)]) eZ (eR rfl) rfl rfl bZ rfl (xQ (aS (AW.regm (rmOne (oFaddrN (m:=2) (eR rfl) rfl (xNil (rmOne (oFaddrN (m:=2) eZ rfl (xNil (rmOne (oLoadV (q:=2) (c:=(dI a1.Move.No)) eZ (bS rfl (bS rfl bZ)) rfl rfl (xNil (rmOne (oAdd eZ eC (xNil (rmOne (oFaddrN (m:=0) (eR rfl) rfl (xNil (rmOne (oLoadV (q:=0) (c:=(dI v15.Lo)) eZ bZ rfl rfl (xNil (rmOne (oFaddrN (m:=1) (eR rfl) rfl (xNil (rmOne (oLoadV (q:=1) (c:=(dI v15.Hi)) eZ bZ rfl rfl (xNil (rmOne (oFaddrN (m:=2) (eR rfl) rfl (xNil (rmOne (oLoadV (q:=2) (c:=(dI v15.Owner)) eZ bZ rfl rfl (xNil (rmOne (oMov (eR rfl) ?_))))))))))))))))))))))))))))))))))))))
     refine xNil (rmOne (oBuild (cs:=[(dI (IntKind.wrap .i64 (a1.Move.No+1))),(dI 1),(dI v15.Lo),(dI v15.Hi),(dI v15.Owner),(dI a3),.zs]) (PsCons (eR rfl) (PsCons eC (PsCons (eR rfl) (PsCons (eR rfl) (PsCons (eR rfl) (PsCons eZ PsNil)))))) rfl (xNil (rmOne (oFaddrN (m:=2) (eR rfl) rfl (xNil (rmOne (oStoreV (es:=[(dI v7.Epoch),(.sl 1025 0 v7.Parts.length),(dI (IntKind.wrap .i64 (a1.Move.No+1))),(dI 1),(dI v15.Lo),(dI v15.Hi),(dI v15.Owner),(dI a3),.zs]) eZ (eR rfl) rfl rfl (bS rfl (bS rfl (bS rfl (bS rfl bZ)))) rfl (xNil (rmRest (xQ (AW.weaken (wk_mkG [640,192,1032] (kr 6 rfl rfl (kr 8 rfl rfl SL.nil)) (BL.keep rfl (BL.drop rfl (BL.drop rfl (BL.drop rfl (BL.keep rfl (BL.keep rfl (BL.keep rfl (BL.drop rfl BL.nil)))))))) (BK.cons (n:=512) rfl bZ rfl rfl (BK.cons (n:=384) rfl (bS rfl (bS rfl (bS rfl (bS rfl bZ)))) rfl rfl (BK.cons (n:=1025) rfl (bS rfl (bS rfl (bS rfl (bS rfl (bS rfl (bS rfl bZ)))))) rfl rfl BK.nil))) GK.nil) (aS (AW.regm (rmOne (oLoadVA (es:=[(dI v7.Epoch),(.sl 1025 0 v7.Parts.length),(dI (IntKind.wrap .i64 (a1.Move.No+1))),(dI 1),(dI v15.Lo),(dI v15.Hi),(dI v15.Owner),(dI a3),.zs]) (eR rfl) bZ rfl (xNil (rmOne (oStoreV (es:=[(dI v7.Epoch),(.sl 1025 0 v7.Parts.length),(dI (IntKind.wrap .i64 (a1.Move.No+1))),(dI 1),(dI v15.Lo),(dI v15.Hi),(dI v15.Owner),(dI a3),.zs]) (eR rfl) eZ rfl rfl (bS rfl bZ) rfl (xNil (rmRest (oMov eC (xQ (AW.ret ?_))))))))))))))))))))))))
     cases H
     exact endsR (RL.cons (RV.cellA (es:=[(dI v7.Epoch),(.sl 1025 0 v7.Parts.length),(dI (IntKind.wrap .i64 (a1.Move.No+1))),(dI 1),(dI v15.Lo),(dI v15.Hi),(dI v15.Owner),(dI a3),.zs]) (eR rfl) bZ rfl) (VO.aggs (VOs.cons (VO.flat rfl) (VOs.cons (VO.sl (bS rfl (bS rfl (bS rfl bZ))) (List.length_map _) (allFlat fun _=>rfl)) (VOs.cons (VO.flat rfl) (VOs.cons (VO.flat rfl) (VOs.cons (VO.flat rfl) (VOs.cons (VO.flat rfl) (VOs.cons (VO.flat rfl) (VOs.cons (VO.flat rfl) (VOs.cons VO.zs VOs.nil)))))))))) (RL.cons (RV.tmp eZ) (VO.flat rfl) RL.nil)) (by decide)
   ·refine aR (oMov (eR rfl) (oLss eZ eC (oMov eZ ?_)))
    rcases oite H with⟨h17,H⟩|⟨h17,H⟩
    ·exact gSkip eZ (dT h17) rfl (gSkip (eR rfl) (dT h17) rfl (gSkip (eR rfl) (dT h17) rfl (oPickT (eR rfl) (dT h17) eC (oMov eZ (gSkip eZ rfl rfl (gSkip (eR rfl) rfl rfl (gSkip (eR rfl) rfl rfl (gSkip (eR rfl) rfl rfl (gSkip (eR rfl) rfl rfl (gSkip (eR rfl) rfl rfl (gSkip (eR rfl) rfl rfl (gSkip (eR rfl) rfl rfl (oPickT (eR rfl) rfl eC (oMov eZ (gSkip eZ rfl rfl (gSkip (eR rfl) rfl rfl (gSkip (eR rfl) rfl rfl (gSkip (eR rfl) rfl rfl (oPickT (eR rfl) rfl eC (oMov eZ (xNil (TQ.qn ⟨true,H,(wk_mkG [] (kR rfl rfl (kR rfl rfl (kR rfl rfl (kR rfl rfl (kR rfl rfl (kR rfl rfl SL.nil)))))) (BL.keep rfl (BL.keep rfl (BL.keep rfl (BL.keep rfl (BL.keep rfl BL.nil))))) (BK.cons rfl (bS rfl (bS rfl (bS rfl (bS rfl bZ)))) rfl rfl (BK.cons rfl (bS rfl (bS rfl (bS rfl bZ))) rfl rfl (BK.cons rfl bZ rfl (by first|rfl|simp) (BK.cons rfl (bS rfl (bS rfl bZ)) rfl rfl (BK.cons rfl (bS rfl bZ) rfl rfl BK.nil))))) GK.nil)⟩))))))))))))))))))))))
    ·refine gDo eZ (dF h17) (oMov (eR rfl) (gDo (eR rfl) (dF h17) ?_))
     obtain⟨v18,h19,H⟩:=obind H
     refine oCall (u:=(oB v18)) eC Cl.fn (c_impl_isGroup h19) (Evs.cons eZ Evs.nil) (VDs.cons VD.plain VDs.nil) rfl (gDo (eR rfl) (dF h17) (oInv eZ (oPickF (eR rfl) (dF h17) eZ (oMov eZ ?_))))
     rcases oite H with⟨h20,H⟩|⟨h20,H⟩
     ·refine gDo eZ (cN h20) (oMov (eR rfl) (gDo (eR rfl) (cN h20) (oFaddrN (m:=1) (eR rfl) rfl (gDo (eR rfl) (cN h20) (oLoadV (q:=1) (c:=(.d (.sl 3 (List.map d_TPart a1.Parts)))) eZ (bS rfl (bS rfl (bS rfl (bS rfl bZ)))) rfl rfl (gDo (eR rfl) (cN h20) (oMov (eR rfl) (gDo (eR rfl) (cN h20) ?_))))))))
      obtain⟨v21,h22,H⟩:=obind H
      refine oAtD (eR rfl) eZ h22 (gDo (eR rfl) (cN h20) (oFaddrB (m:=2) eZ rfl (gDo (eR rfl) (cN h20) (oLoadB (e:=(.int .i64 v21.Owner)) eZ rfl (gDo (eR rfl) (cN h20) (oEql (eR rfl) eZ (oPickF (eR rfl) (cN h20) eZ (oMov eZ ?_))))))))
      rcases oite H with⟨h23,H⟩|⟨h23,H⟩
      ·exact gSkip eZ (dT h23) rfl (gSkip (eR rfl) (dT h23) rfl (gSkip (eR rfl) (dT h23) rfl (gSkip (eR rfl) (dT h23) rfl (oPickT (eR rfl) (dT h23) eC (oMov eZ (xNil (TQ.qn ⟨true,H,(wk_mkG [] (kR rfl rfl (kR rfl rfl (kR rfl rfl (kR rfl rfl (kR rfl rfl (kR rfl rfl SL.nil)))))) (BL.keep rfl (BL.keep rfl (BL.keep rfl (BL.keep rfl (BL.keep rfl BL.nil))))) (BK.cons rfl (bS rfl (bS rfl (bS rfl (bS rfl bZ)))) rfl rfl (BK.cons rfl (bS rfl (bS rfl (bS rfl bZ))) rfl rfl (BK.cons rfl bZ rfl (by first|rfl|simp) (BK.cons rfl (bS rfl (bS rfl bZ)) rfl rfl (BK.cons rfl (bS rfl bZ) rfl rfl BK.nil))))) GK.nil)⟩)))))))
      ·exact gDo eZ (dF h23) (oFaddrN (m:=2) (eR rfl) rfl (gDo (eR rfl) (dF h23) (oFaddrN (m:=2) eZ rfl (gDo (eR rfl) (dF h23) (oLoadV (q:=2) (c:=(dI a1.Move.No)) eZ (bS rfl (bS rfl (bS rfl (bS rfl bZ)))) rfl rfl (gDo (eR rfl) (dF h23) (oEql eZ eC (oPickF (eR rfl) (dF h23) eZ (oMov eZ (xNil (TQ.qn ⟨(decide (a1.Move.No=300000)),H,(wk_mkG [] (kR rfl rfl (kR rfl rfl (kR rfl rfl (kR rfl rfl (kR rfl rfl (kR rfl rfl SL.nil)))))) (BL.keep rfl (BL.keep rfl (BL.keep rfl (BL.keep rfl (BL.keep rfl BL.nil))))) (BK.cons rfl (bS rfl (bS rfl (bS rfl (bS rfl bZ)))) rfl rfl (BK.cons rfl (bS rfl (bS rfl (bS rfl bZ))) rfl rfl (BK.cons rfl bZ rfl (by first|rfl|simp) (BK.cons rfl (bS rfl (bS rfl bZ)) rfl rfl (BK.cons rfl (bS rfl bZ) rfl rfl BK.nil))))) GK.nil)⟩)))))))))))
     ·exact gSkip eZ (cN (nt h20)) rfl (gSkip (eR rfl) (cN (nt h20)) rfl (gSkip (eR rfl) (cN (nt h20)) rfl (gSkip (eR rfl) (cN (nt h20)) rfl (gSkip (eR rfl) (cN (nt h20)) rfl (gSkip (eR rfl) (cN (nt h20)) rfl (gSkip (eR rfl) (cN (nt h20)) rfl (gSkip (eR rfl) (cN (nt h20)) rfl (oPickT (eR rfl) (cN (nt h20)) eC (oMov eZ (gSkip eZ rfl rfl (gSkip (eR rfl) rfl rfl (gSkip (eR rfl) rfl rfl (gSkip (eR rfl) rfl rfl (oPickT (eR rfl) rfl eC (oMov eZ (xNil (TQ.qn ⟨true,H,(wk_mkG [] (kR rfl rfl (kR rfl rfl (kR rfl rfl (kR rfl rfl (kR rfl rfl (kR rfl rfl SL.nil)))))) (BL.keep rfl (BL.keep rfl (BL.keep rfl (BL.keep rfl (BL.keep rfl BL.nil))))) (BK.cons rfl (bS rfl (bS rfl (bS rfl (bS rfl bZ)))) rfl rfl (BK.cons rfl (bS rfl (bS rfl (bS rfl bZ))) rfl rfl (BK.cons rfl bZ rfl (by first|rfl|simp) (BK.cons rfl (bS rfl (bS rfl bZ)) rfl rfl (BK.cons rfl (bS rfl bZ) rfl rfl BK.nil))))) GK.nil)⟩)))))))))))))))))
 ·refine AW.condT eZ (cN (nt h6)) (aS (AW.regm (rmOne (oBuild (cs:=[(dI 0),.zs,(dI 0),(dI 0),(dI 0),(dI 0),(dI 0),(dI 0),.zs]) PsNil rfl (xNil (rmOne (oStoreV (es:=[(dI 0),.zs,(dI 0),(dI 0),(dI 0),(dI 0),(dI 0),(dI 0),.zs]) (eR rfl) eZ rfl rfl bZ rfl (xNil (rmRest (oMov eC (xQ (AW.ret (TQ.qr ?_)))))))))))))
  cases H
  exact endsR (RL.cons (RV.cellA (es:=[(dI 0),.zs,(dI 0),(dI 0),(dI 0),(dI 0),(dI 0),(dI 0),.zs]) (eR rfl) bZ rfl) (VO.aggs (VOs.cons (VO.flat rfl) (VOs.cons VO.zs (VOs.cons (VO.flat rfl) (VOs.cons (VO.flat rfl) (VOs.cons (VO.flat rfl) (VOs.cons (VO.flat rfl) (VOs.cons (VO.flat rfl) (VOs.cons (VO.flat rfl) (VOs.cons VO.zs VOs.nil)))))))))) (RL.cons (RV.tmp eZ) (VO.flat rfl) RL.nil)) List.nodup_nil
theorem c_impl_MoveRank{a1:TMove}{r:Int}(H:m_impl_MoveRank a1=some r):Fn Try.prog 17 (lent [(.agg (d_TMove a1))]) true [(.int .i64 r)]:=by
 refine f17 (fle rfl) ?_
 rw[init_mk]
 refine AW.weaken (wk_mk [] (kv 0 (.agg [(dI a1.No),(dI a1.Stage),(dI a1.Lo),(dI a1.Hi),(dI a1.From),(dI a1.To),(.d (.sl 2 (List.map d_TCell a1.Cells)))]) rfl rfl SL.nil) BL.nil BK.nil) ?_
 unfold m_impl_MoveRank at H
 unfold i17
 refine aV (oBox (n:=64) (m:=7) (cs:=[(dI a1.No),(dI a1.Stage),(dI a1.Lo),(dI a1.Hi),(dI a1.From),(dI a1.To),(.d (.sl 2 (List.map d_TCell a1.Cells)))]) rfl eZ rfl rfl nZ (oMov eC (xQ (aS (AW.seqJ (fun t2:Bool=>(impl_MoveRank_j2 a1) t2=some r) (fun t2=>mk [(1,(.one (.ptr (.nm 64 0 0)))),(12,(oB t2))] [(64,(.vars 7 [(dI a1.No),(dI a1.Stage),(dI a1.Lo),(dI a1.Hi),(dI a1.From),(dI a1.To),(.d (.sl 2 (List.map d_TCell a1.Cells)))]))] noG) ?_ ?_)))))
 ·intro t2 H
  unfold impl_MoveRank_j2 at H
  rcases oite H with⟨h4,H⟩|⟨h4,H⟩
  ·refine AW.condT (eR rfl) h4 (aV (oMov eC (xQ (AW.ret (TQ.qr ?_)))))
   cases H
   exact eE rfl rfl
  ·refine AW.condF (eR rfl) (nt h4) (AW.skip (TQ.qn (aV (oFaddrN (m:=0) eZ rfl (oLoadV (q:=0) (c:=(dI a1.No)) eZ bZ rfl rfl (oSub eZ eC (oMul eC eZ (oFaddrN (m:=1) (eR rfl) rfl (oLoadV (q:=1) (c:=(dI a1.Stage)) eZ bZ rfl rfl (oMin eZ eC (oAdd (eR rfl) eZ (oMov eZ (xQ (AW.ret ?_))))))))))))))
   cases H
   exact eE rfl rfl
 ·refine aR (oFaddrN (m:=0) (eR rfl) rfl (oLoadV (q:=0) (c:=(dI a1.No)) eZ bZ rfl rfl ?_))
  obtain⟨v5,h6,H⟩:=obind H
  refine oCall (u:=(oB v5)) eC Cl.fn (c_impl_from h6) (Evs.cons eZ (Evs.cons eC (Evs.cons eC Evs.nil))) (VDs.cons VD.plain (VDs.cons VD.plain (VDs.cons VD.plain VDs.nil))) rfl (oInv eZ (oMov eZ ?_))
  rcases oite H with⟨h7,H⟩|⟨h7,H⟩
  ·refine gDo eZ (cN h7) (oFaddrN (m:=1) (eR rfl) rfl (gDo (eR rfl) (cN h7) (oLoadV (q:=1) (c:=(dI a1.Stage)) eZ bZ rfl rfl (gDo (eR rfl) (cN h7) ?_))))
   obtain⟨v8,h9,H⟩:=obind H
   exact oCall (u:=(oB v8)) eC Cl.fn (c_impl_from h9) (Evs.cons eZ (Evs.cons eC (Evs.cons eC Evs.nil))) (VDs.cons VD.plain (VDs.cons VD.plain (VDs.cons VD.plain VDs.nil))) rfl (gDo (eR rfl) (cN h7) (oInv eZ (oPickF (eR rfl) (cN h7) eZ (xNil (TQ.qn ⟨(!v8),H,(wk_mk [] (kR rfl rfl (kR rfl rfl SL.nil)) (BL.keep rfl BL.nil) (BK.cons rfl bZ rfl rfl BK.nil))⟩)))))
  ·exact gSkip eZ (cN (nt h7)) rfl (gSkip (eR rfl) (cN (nt h7)) rfl (gSkip (eR rfl) (cN (nt h7)) rfl (gSkip (eR rfl) (cN (nt h7)) rfl (oPickT (eR rfl) (cN (nt h7)) eC (xNil (TQ.qn ⟨true,H,(wk_mk [] (kR rfl rfl (kR rfl rfl SL.nil)) (BL.keep rfl BL.nil) (BK.cons rfl bZ rfl rfl BK.nil))⟩))))))
theorem c_impl_RangeIn{a1:TRange}{a2:TRange}{r:Bool}(H:m_impl_RangeIn a1 a2=some r):Fn Try.prog 53 (lent [(.agg (d_TRange a1)),(.agg (d_TRange a2))]) true [(.bool r)]:=by
 refine f53 (fle rfl) ?_
 rw[init_mk]
 refine AW.weaken (wk_mk [] (kv 0 (.agg [(dI a1.Lo),(dI a1.Hi)]) rfl rfl (kv 1 (.agg [(dI a2.Lo),(dI a2.Hi)]) rfl rfl SL.nil)) BL.nil BK.nil) ?_
 unfold m_impl_RangeIn at H
 unfold i53
 refine aV (oBox (n:=128) (m:=2) (cs:=[(dI a1.Lo),(dI a1.Hi)]) rfl eZ rfl rfl nZ (oBox (n:=192) (m:=2) (cs:=[(dI a2.Lo),(dI a2.Hi)]) rfl (eR rfl) rfl rfl (nS rfl nZ) (oMov eC (xQ (aV (oLoadVA (es:=[(dI a1.Lo),(dI a1.Hi)]) (eR rfl) (bS rfl bZ) rfl ?_))))))
 obtain⟨v3,h4,H⟩:=obind H
 refine oCall (u:=(oB v3)) eC Cl.fn (c_impl_RangeOk h4) (Evs.cons eZ Evs.nil) (VDs.cons (VD.agg rfl) VDs.nil) rfl (oMov eZ ?_)
 rcases oite H with⟨h5,H⟩|⟨h5,H⟩
 ·refine gDo eZ h5 (oLoadVA (es:=[(dI a2.Lo),(dI a2.Hi)]) (eR rfl) bZ rfl (gDo (eR rfl) h5 ?_))
  obtain⟨v6,h7,H⟩:=obind H
  refine oCall (u:=(oB v6)) eC Cl.fn (c_impl_RangeOk h7) (Evs.cons eZ Evs.nil) (VDs.cons (VD.agg rfl) VDs.nil) rfl (oPickT (eR rfl) h5 eZ (oMov eZ ?_))
  rcases oite H with⟨h8,H⟩|⟨h8,H⟩
  ·refine gDo eZ h8 (oFaddrN (m:=0) (eR rfl) rfl (gDo (eR rfl) h8 (oLoadV (q:=0) (c:=(dI a1.Lo)) eZ (bS rfl bZ) rfl rfl (gDo (eR rfl) h8 (oFaddrN (m:=0) (eR rfl) rfl (gDo (eR rfl) h8 (oLoadV (q:=0) (c:=(dI a2.Lo)) eZ bZ rfl rfl (gDo (eR rfl) h8 (oGeq (eR rfl) eZ (oPickT (eR rfl) h8 eZ (oMov eZ ?_)))))))))))
   rcases oite H with⟨h9,H⟩|⟨h9,H⟩
   ·refine gDo eZ (dT h9) (oFaddrN (m:=1) (eR rfl) rfl (gDo (eR rfl) (dT h9) (oLoadV (q:=1) (c:=(dI a1.Hi)) eZ (bS rfl bZ) rfl rfl (gDo (eR rfl) (dT h9) (oFaddrN (m:=1) (eR rfl) rfl (gDo (eR rfl) (dT h9) (oLoadV (q:=1) (c:=(dI a2.Hi)) eZ bZ rfl rfl (gDo (eR rfl) (dT h9) (oLeq (eR rfl) eZ (oPickT (eR rfl) (dT h9) eZ (oMov eZ (xQ (AW.weaken (wk_mk [192,128] (kr 4 rfl rfl SL.nil) (BL.drop rfl (BL.drop rfl BL.nil)) BK.nil) (AW.ret ?_))))))))))))))
    cases H
    exact eE rfl rfl
   ·refine gSkip eZ (dF h9) rfl (gSkip (eR rfl) (dF h9) rfl (gSkip (eR rfl) (dF h9) rfl (gSkip (eR rfl) (dF h9) rfl (gSkip (eR rfl) (dF h9) rfl (oPickF (eR rfl) (dF h9) eC (oMov eZ (xQ (AW.weaken (wk_mk [192,128] (kr 4 rfl rfl SL.nil) (BL.drop rfl (BL.drop rfl BL.nil)) BK.nil) (AW.ret ?_)))))))))
    cases H
    exact eE rfl rfl
  ·refine gSkip eZ (nt h8) rfl (gSkip (eR rfl) (nt h8) rfl (gSkip (eR rfl) (nt h8) rfl (gSkip (eR rfl) (nt h8) rfl (gSkip (eR rfl) (nt h8) rfl (oPickF (eR rfl) (nt h8) eC (oMov eZ (gSkip eZ rfl rfl (gSkip (eR rfl) rfl rfl (gSkip (eR rfl) rfl rfl (gSkip (eR rfl) rfl rfl (gSkip (eR rfl) rfl rfl (oPickF (eR rfl) rfl eC (oMov eZ (xQ (AW.weaken (wk_mk [192,128] (kr 4 rfl rfl SL.nil) (BL.drop rfl (BL.drop rfl BL.nil)) BK.nil) (AW.ret ?_))))))))))))))))
   cases H
   exact eE rfl rfl
 ·refine gSkip eZ (nt h5) rfl (gSkip (eR rfl) (nt h5) rfl (oPickF (eR rfl) (nt h5) eC (oMov eZ (gSkip eZ rfl rfl (gSkip (eR rfl) rfl rfl (gSkip (eR rfl) rfl rfl (gSkip (eR rfl) rfl rfl (gSkip (eR rfl) rfl rfl (oPickF (eR rfl) rfl eC (oMov eZ (gSkip eZ rfl rfl (gSkip (eR rfl) rfl rfl (gSkip (eR rfl) rfl rfl (gSkip (eR rfl) rfl rfl (gSkip (eR rfl) rfl rfl (oPickF (eR rfl) rfl eC (oMov eZ (xQ (AW.weaken (wk_mk [192,128] (kr 4 rfl rfl SL.nil) (BL.drop rfl (BL.drop rfl BL.nil)) BK.nil) (AW.ret ?_))))))))))))))))))))
  cases H
  exact eE rfl rfl
theorem c_impl_AtlasInstalled{a1:TAtlas}{a2:Int}{a3:Bool}{r:(TAtlas×Int)}(H:m_impl_AtlasInstalled a1 a2 a3=some r):Fn Try.prog 18 (lent [(.agg (d_TAtlas a1)),(.int .i64 a2),(.bool a3)]) true [(.agg (d_TAtlas r.1)),(.int .i64 r.2)]:=by
 refine f18 (fle rfl) ?_
 rw[init_mk]
 refine AW.weaken (t:=mk [(0,(.agg [(dI a1.Epoch),(.d (.sl 3 (List.map d_TPart a1.Parts))),(dI a1.Move.No),(dI a1.Move.Stage),(dI a1.Move.Lo),(dI a1.Move.Hi),(dI a1.Move.From),(dI a1.Move.To),(.d (.sl 2 (List.map d_TCell a1.Move.Cells)))])),(1,(oI a2)),(2,(oB a3))] [] (lk [])) (wk_mk [] (kv 0 (.agg [(dI a1.Epoch),(.d (.sl 3 (List.map d_TPart a1.Parts))),(dI a1.Move.No),(dI a1.Move.Stage),(dI a1.Move.Lo),(dI a1.Move.Hi),(dI a1.Move.From),(dI a1.Move.To),(.d (.sl 2 (List.map d_TCell a1.Move.Cells)))]) rfl rfl (kv 1 (oI a2) rfl rfl (kv 2 (oB a3) rfl rfl SL.nil))) BL.nil BK.nil) ?_
 unfold m_impl_AtlasInstalled at H
 unfold i18
 refine aV (oBox (n:=192) (m:=9) (cs:=[(dI a1.Epoch),(.d (.sl 3 (List.map d_TPart a1.Parts))),(dI a1.Move.No),(dI a1.Move.Stage),(dI a1.Move.Lo),(dI a1.Move.Hi),(dI a1.Move.From),(dI a1.Move.To),(.d (.sl 2 (List.map d_TCell a1.Move.Cells)))]) rfl eZ rfl rfl nZ (oVar (n:=384) (m:=9) rfl rfl (nS rfl nZ) (oMov eC (xQ (aS (aV (oLoadVA (es:=[(dI a1.Epoch),(.d (.sl 3 (List.map d_TPart a1.Parts))),(dI a1.Move.No),(dI a1.Move.Stage),(dI a1.Move.Lo),(dI a1.Move.Hi),(dI a1.Move.From),(dI a1.Move.To),(.d (.sl 2 (List.map d_TCell a1.Move.Cells)))]) (eR rfl) (bS rfl bZ) rfl ?_)))))))
 obtain⟨v4,h5,H⟩:=obind H
 refine oCall (u:=(oB v4)) eC Cl.fn (c_impl_AtlasOk h5) (Evs.cons eZ Evs.nil) (VDs.cons (VD.agg rfl) VDs.nil) rfl (oInv eZ (xQ ?_))
 rcases oite H with⟨h6,H⟩|⟨h6,H⟩
 ·refine AW.condF eZ (cN h6) (AW.skip (TQ.qn (aS (AW.regm (rmOne (oLoadVA (es:=[(dI a1.Epoch),(.d (.sl 3 (List.map d_TPart a1.Parts))),(dI a1.Move.No),(dI a1.Move.Stage),(dI a1.Move.Lo),(dI a1.Move.Hi),(dI a1.Move.From),(dI a1.Move.To),(.d (.sl 2 (List.map d_TCell a1.Move.Cells)))]) (eR rfl) (bS rfl bZ) rfl (xNil (rmOne ?_))))))))
  obtain⟨v7,h8,H⟩:=obind H
  refine oCallN (u:=(.agg [(dI v7.Epoch),(.sl 1025 0 v7.Parts.length),(dI v7.Move.No),(dI v7.Move.Stage),(dI v7.Move.Lo),(dI v7.Move.Hi),(dI v7.Move.From),(dI v7.Move.To),(.sl 1032 0 v7.Move.Cells.length)])) (bs:=[(1025,(.data 3 (List.map d_TPart v7.Parts) true none)),(1032,(.data 2 (List.map d_TCell v7.Move.Cells) true none))]) eC Cl.fn (c_impl_copyAtlas h8) (Evs.cons eZ Evs.nil) (VDs.cons (VD.agg rfl) VDs.nil) (by simp[bindR,bindV,bindVs,bindC,bindCs]) rfl (fC (nS rfl (nS rfl nZ)) rfl (fC (nS rfl (nS rfl nZ)) rfl (fC (nS rfl (nS rfl nZ)) rfl fN))) (xNil (rmOne (oVar (n:=512) (m:=9) rfl rfl (nS rfl (nS rfl (nS rfl (nS rfl nZ)))) (xNil (rmOne (oStoreV (es:=[(dI v7.Epoch),(.sl 1025 0 v7.Parts.length),(dI v7.Move.No),(dI v7.Move.Stage),(dI v7.Move.Lo),(dI v7.Move.Hi),(dI v7.Move.From),(dI v7.Move.To),(.sl 1032 0 v7.Move.Cells.length)]) eZ (eR rfl) rfl rfl bZ rfl (xNil (rmRest (xQ (aS (AW.seqJ (fun t9:Bool=>(impl_AtlasInstalled_j9 v7 a3 a1) t9=some r) (fun t9=>mk [(2,(oB a3)),(3,(.one (.ptr (.nm 192 0 0)))),(6,(.one (.ptr (.nm 384 0 0)))),(8,(.one (.ptr (.nm 512 0 0)))),(35,(oB t9))] [(192,(.vars 9 [(dI a1.Epoch),(.d (.sl 3 (List.map d_TPart a1.Parts))),(dI a1.Move.No),(dI a1.Move.Stage),(dI a1.Move.Lo),(dI a1.Move.Hi),(dI a1.Move.From),(dI a1.Move.To),(.d (.sl 2 (List.map d_TCell a1.Move.Cells)))])),(384,(.vars 9 [(dI 0),.zs,(dI 0),(dI 0),(dI 0),(dI 0),(dI 0),(dI 0),.zs])),(512,(.vars 9 [(dI v7.Epoch),(.sl 1025 0 v7.Parts.length),(dI v7.Move.No),(dI v7.Move.Stage),(dI v7.Move.Lo),(dI v7.Move.Hi),(dI v7.Move.From),(dI v7.Move.To),(.sl 1032 0 v7.Move.Cells.length)])),(1025,(.data 3 (List.map d_TPart v7.Parts) true none)),(1032,(.data 2 (List.map d_TCell v7.Move.Cells) true none))] (lk [])) ?_ ?_)))))))))))
  ·intro t9 H
   unfold impl_AtlasInstalled_j9 at H
   rcases oite H with⟨h11,H⟩|⟨h11,H⟩
   ·refine AW.condT (eR rfl) h11 (aS (AW.regm (rmOne (oLoadVA (es:=[(dI v7.Epoch),(.sl 1025 0 v7.Parts.length),(dI v7.Move.No),(dI v7.Move.Stage),(dI v7.Move.Lo),(dI v7.Move.Hi),(dI v7.Move.From),(dI v7.Move.To),(.sl 1032 0 v7.Move.Cells.length)]) (eR rfl) (bS rfl (bS rfl bZ)) rfl (xNil (rmOne (oStoreV (es:=[(dI v7.Epoch),(.sl 1025 0 v7.Parts.length),(dI v7.Move.No),(dI v7.Move.Stage),(dI v7.Move.Lo),(dI v7.Move.Hi),(dI v7.Move.From),(dI v7.Move.To),(.sl 1032 0 v7.Move.Cells.length)]) (eR rfl) eZ rfl rfl (bS rfl bZ) rfl (xNil (rmRest (oMov eC (xQ (AW.ret (TQ.qr ?_)))))))))))))
    cases H
    exact endsR (RL.cons (RV.cellA (es:=[(dI v7.Epoch),(.sl 1025 0 v7.Parts.length),(dI v7.Move.No),(dI v7.Move.Stage),(dI v7.Move.Lo),(dI v7.Move.Hi),(dI v7.Move.From),(dI v7.Move.To),(.sl 1032 0 v7.Move.Cells.length)]) (eR rfl) bZ rfl) (VO.aggs (VOs.cons (VO.flat rfl) (VOs.cons (VO.sl (bS rfl (bS rfl (bS rfl (bS rfl bZ)))) (List.length_map _) (allFlat fun _=>rfl)) (VOs.cons (VO.flat rfl) (VOs.cons (VO.flat rfl) (VOs.cons (VO.flat rfl) (VOs.cons (VO.flat rfl) (VOs.cons (VO.flat rfl) (VOs.cons (VO.flat rfl) (VOs.cons (VO.sl (bS rfl (bS rfl (bS rfl (bS rfl (bS rfl bZ))))) (List.length_map _) (allFlat fun _=>rfl)) VOs.nil)))))))))) (RL.cons (RV.tmp eZ) (VO.flat rfl) RL.nil)) (by decide)
   ·refine AW.condF (eR rfl) (nt h11) (AW.skip (TQ.qn (aS (AW.regm (rmOne (oFaddrN (m:=2) (eR rfl) rfl (xNil (rmOne (oFaddrN (m:=8) eZ rfl (xNil (rmOne (oStoreV (es:=[(dI v7.Epoch),(.sl 1025 0 v7.Parts.length),(dI v7.Move.No),(dI v7.Move.Stage),(dI v7.Move.Lo),(dI v7.Move.Hi),(dI v7.Move.From),(dI v7.Move.To),.zs]) eZ eC rfl rfl (bS rfl (bS rfl bZ)) rfl (xNil (rmRest (xQ (aV (oFaddrN (m:=2) (eR rfl) rfl (oFaddrN (m:=3) eZ rfl (oStoreV (es:=[(dI v7.Epoch),(.sl 1025 0 v7.Parts.length),(dI v7.Move.No),(dI 4),(dI v7.Move.Lo),(dI v7.Move.Hi),(dI v7.Move.From),(dI v7.Move.To),.zs]) eZ eC rfl rfl bZ rfl (xQ (aS (aV (oMov (eR rfl) (oInv eZ (xQ ?_)))))))))))))))))))))))))
    rcases oite H with⟨h12,H⟩|⟨h12,H⟩
    ·refine AW.condF eZ (cN h12) (AW.skip (TQ.qn (aV (oFaddrN (m:=2) (eR rfl) rfl (oFaddrN (m:=3) eZ rfl (oStoreV (es:=[(dI v7.Epoch),(.sl 1025 0 v7.Parts.length),(dI v7.Move.No),(dI 3),(dI v7.Move.Lo),(dI v7.Move.Hi),(dI v7.Move.From),(dI v7.Move.To),.zs]) eZ eC rfl rfl bZ rfl (xQ (aV (oFaddrN (m:=0) (eR rfl) rfl (oLoadV (q:=0) (c:=(dI v7.Epoch)) eZ bZ rfl rfl (oAdd eZ eC (oFaddrN (m:=0) (eR rfl) rfl (oStoreV (es:=[(dI (IntKind.wrap .i64 (v7.Epoch+1))),(.sl 1025 0 v7.Parts.length),(dI v7.Move.No),(dI 3),(dI v7.Move.Lo),(dI v7.Move.Hi),(dI v7.Move.From),(dI v7.Move.To),.zs]) eZ (eR rfl) rfl rfl bZ rfl (xQ (AW.weaken (wk_mkG [1032] (kr 3 rfl rfl (kr 6 rfl rfl (kr 8 rfl rfl SL.nil))) (BL.keep rfl (BL.keep rfl (BL.keep rfl (BL.keep rfl (BL.keep rfl (BL.keep rfl (BL.keep rfl (BL.keep rfl (BL.drop rfl BL.nil))))))))) (BK.cons (n:=512) rfl bZ rfl rfl (BK.cons (n:=192) rfl (bS rfl (bS rfl (bS rfl (bS rfl bZ)))) rfl rfl (BK.cons (n:=384) rfl (bS rfl (bS rfl (bS rfl (bS rfl (bS rfl bZ))))) rfl rfl (BK.cons (n:=1025) rfl (bS rfl (bS rfl (bS rfl (bS rfl (bS rfl (bS rfl (bS rfl bZ))))))) rfl rfl BK.nil)))) GK.nil) (AW.seqJ (fun t13:(List TPart)=>(impl_AtlasInstalled_j13 v7) t13=some r) (fun t13=>mk [(6,(.one (.ptr (.nm 384 0 0)))),(8,(.one (.ptr (.nm 512 0 0))))] [(384,(.vars 9 [(dI 0),.zs,(dI 0),(dI 0),(dI 0),(dI 0),(dI 0),(dI 0),.zs])),(320128,(.data 3 (List.map d_TPart t13) true none)),(512,(.vars 9 [(dI (IntKind.wrap .i64 (v7.Epoch+1))),(.sl 320128 0 t13.length),(dI v7.Move.No),(dI 3),(dI v7.Move.Lo),(dI v7.Move.Hi),(dI v7.Move.From),(dI v7.Move.To),.zs]))] (lk [])) ?_ ?_))))))))))))))))
     ·intro t13 H
      unfold impl_AtlasInstalled_j13 at H
      refine aS (AW.regm (rmOne (oLoadVA (es:=[(dI (IntKind.wrap .i64 (v7.Epoch+1))),(.sl 320128 0 t13.length),(dI v7.Move.No),(dI 3),(dI v7.Move.Lo),(dI v7.Move.Hi),(dI v7.Move.From),(dI v7.Move.To),.zs]) (eR rfl) (bS rfl (bS rfl bZ)) rfl (xNil (rmOne (oStoreV (es:=[(dI (IntKind.wrap .i64 (v7.Epoch+1))),(.sl 320128 0 t13.length),(dI v7.Move.No),(dI 3),(dI v7.Move.Lo),(dI v7.Move.Hi),(dI v7.Move.From),(dI v7.Move.To),.zs]) (eR rfl) eZ rfl rfl bZ rfl (xNil (rmRest (oMov eC (xQ (AW.ret ?_)))))))))))
      cases H
      exact endsR (RL.cons (RV.cellA (es:=[(dI (IntKind.wrap .i64 (v7.Epoch+1))),(.sl 320128 0 t13.length),(dI v7.Move.No),(dI 3),(dI v7.Move.Lo),(dI v7.Move.Hi),(dI v7.Move.From),(dI v7.Move.To),.zs]) (eR rfl) bZ rfl) (VO.aggs (VOs.cons (VO.flat rfl) (VOs.cons (VO.sl (bS rfl (bS rfl bZ)) (List.length_map _) (allFlat fun _=>rfl)) (VOs.cons (VO.flat rfl) (VOs.cons (VO.flat rfl) (VOs.cons (VO.flat rfl) (VOs.cons (VO.flat rfl) (VOs.cons (VO.flat rfl) (VOs.cons (VO.flat rfl) (VOs.cons VO.zs VOs.nil)))))))))) (RL.cons (RV.tmp eZ) (VO.flat rfl) RL.nil)) (by decide)
     ·refine aV (oFaddrN (m:=1) (eR rfl) rfl (oLoadV (q:=1) (c:=(.sl 1025 0 v7.Parts.length)) eZ bZ rfl rfl (oLenN eZ (oMov eC (xQ (AW.block (AW.iter (fun s15:((List TPart)×Int)=>mk [(3,(.one (.ptr (.nm 192 0 0)))),(6,(.one (.ptr (.nm 384 0 0)))),(8,(.one (.ptr (.nm 512 0 0)))),(51,(.one (.sl 320192 0 s15.1.length))),(52,(oI ((v7.Parts.length:Nat):Int))),(53,(oI s15.2))] [(320192,(.data 3 (List.map d_TPart s15.1) true none)),(192,(.vars 9 [(dI a1.Epoch),(.d (.sl 3 (List.map d_TPart a1.Parts))),(dI a1.Move.No),(dI a1.Move.Stage),(dI a1.Move.Lo),(dI a1.Move.Hi),(dI a1.Move.From),(dI a1.Move.To),(.d (.sl 2 (List.map d_TCell a1.Move.Cells)))])),(384,(.vars 9 [(dI 0),.zs,(dI 0),(dI 0),(dI 0),(dI 0),(dI 0),(dI 0),.zs])),(512,(.vars 9 [(dI (IntKind.wrap .i64 (v7.Epoch+1))),(.sl 320192 0 s15.1.length),(dI v7.Move.No),(dI 3),(dI v7.Move.Lo),(dI v7.Move.Hi),(dI v7.Move.From),(dI v7.Move.To),.zs]))] (lk [])) H ((wk_mkG [] (kR rfl rfl (kR rfl rfl (kR rfl rfl (kR rfl rfl (kR rfl rfl (kR rfl rfl SL.nil)))))) (BL.keep rfl (BL.keep rfl (BL.keep rfl (BL.keep rfl BL.nil)))) (BK.cons rfl (bS rfl (bS rfl (bS rfl bZ))) rfl rfl (BK.cons rfl (bS rfl bZ) rfl rfl (BK.cons rfl (bS rfl (bS rfl bZ)) rfl rfl (BK.cons rfl bZ rfl (by first|rfl|simp) BK.nil)))) GK.nil).trans (wk_renG 1025 320192 rfl rfl (nS rfl (nS rfl (nS rfl (nS rfl nZ)))) GR.nil)) ?_)))))))
      intro kb16 s15 H
      unfold impl_AtlasInstalled_b15 at H
      refine aV (oLss (eR rfl) (eR rfl) (xQ (aS ?_)))
      rcases oite H with⟨h17,H⟩|⟨h17,H⟩
      ·refine AW.condT eZ (dT h17) (AW.skip (TQ.qn (aS (AW.block (aV (oMov (eR rfl) ?_))))))
       obtain⟨v18,h19,H⟩:=obind H
       refine oAtN (eR rfl) (eR rfl) bZ rfl h19 (oLoadDA (t:=v18) (es:=[(.int .i64 v18.Lo),(.int .i64 v18.Hi),(.int .i64 v18.Owner)]) (cs:=[(dI v18.Lo),(dI v18.Hi),(dI v18.Owner)]) eZ bZ (idx_at h19) rfl rfl rfl (oVar (n:=640) (m:=3) rfl rfl (nS rfl (nS rfl (nS rfl (nS rfl nZ)))) (oMov (eR rfl) (oStoreV (es:=[(dI v18.Lo),(dI v18.Hi),(dI v18.Owner)]) (eR rfl) (eR rfl) rfl rfl bZ rfl (xQ (aS (AW.regd (oFaddrN (m:=0) (eR rfl) rfl (oLoadV (q:=0) (c:=(dI v18.Lo)) eZ (hB rfl bZ) rfl rfl (oFaddrN (m:=1) (eR rfl) rfl (oLoadV (q:=1) (c:=(dI v18.Hi)) eZ (hB rfl bZ) rfl rfl (oBuild (cs:=[(dI v18.Lo),(dI v18.Hi)]) (PsCons (eR rfl) (PsCons eZ PsNil)) rfl (oFaddrN (m:=2) (eR rfl) rfl (oLoadVA (es:=[(dI a1.Move.No),(dI a1.Move.Stage),(dI a1.Move.Lo),(dI a1.Move.Hi),(dI a1.Move.From),(dI a1.Move.To),(.d (.sl 2 (List.map d_TCell a1.Move.Cells)))]) eZ (bS rfl (bS rfl (bS rfl bZ))) rfl ?_))))))))))))))
       obtain⟨v20,h21,H⟩:=obind H
       refine oCall (u:=(.agg [(dI v20.Lo),(dI v20.Hi)])) eC Cl.fn (c_impl_Move_keys h21) (Evs.cons eZ Evs.nil) (VDs.cons (VD.agg rfl) VDs.nil) rfl ?_
       obtain⟨v22,h23,H⟩:=obind H
       refine oCall (u:=(oB v22)) eC Cl.fn (c_impl_RangeIn h23) (Evs.cons (eR rfl) (Evs.cons eZ Evs.nil)) (VDs.cons (VD.agg rfl) (VDs.cons (VD.agg rfl) VDs.nil)) rfl (xQ (AW.weaken (wk_mkG [640] (kr 66 rfl rfl (kr 9 rfl rfl (kr 3 rfl rfl (kr 6 rfl rfl (kr 8 rfl rfl (kr 51 rfl rfl (kr 52 rfl rfl (kr 53 rfl rfl SL.nil)))))))) (BL.drop rfl (BL.drop rfl (BL.keep rfl (BL.keep rfl (BL.keep rfl (BL.keep rfl BL.nil)))))) (BK.cons (n:=320192) rfl (bS rfl (bS rfl bZ)) rfl rfl (BK.cons (n:=192) rfl (bS rfl (bS rfl (bS rfl bZ))) rfl rfl (BK.cons (n:=384) rfl (bS rfl (bS rfl (bS rfl (bS rfl bZ)))) rfl rfl (BK.cons (n:=512) rfl (bS rfl (bS rfl (bS rfl (bS rfl (bS rfl bZ))))) rfl rfl BK.nil)))) GK.nil) ?_))
       rcases oite H with⟨h24,H⟩|⟨h24,H⟩
       ·refine AW.condT eZ h24 (aR (oFaddrN (m:=1) (eR rfl) rfl (oLoadV (q:=1) (c:=(.sl 320192 0 s15.1.length)) eZ (bS rfl (bS rfl (bS rfl bZ))) rfl rfl (oMov (eR rfl) (oFaddrN (m:=2) (eR rfl) rfl (oFaddrN (m:=7) eZ rfl (oLoadV (q:=7) (c:=(dI a1.Move.To)) eZ (bS rfl bZ) rfl rfl ?_)))))))
        obtain⟨v25,h26,H⟩:=obind H
        exact oAtN (eR rfl) (eR rfl) bZ rfl h26 (oFaddrN (m:=2) eZ rfl (oStoreD (t:=v25) (t':=(TPart.mk v25.Lo v25.Hi a1.Move.To)) (es:=[(.int .i64 a1.Move.To)]) eZ (eR rfl) rfl rfl bZ (idx_at h26) rfl rfl (xNil (BQ.qn (TQ.qn (AW.weaken (wk_mkG [] (kr 3 rfl rfl (kr 6 rfl rfl (kr 8 rfl rfl (kr 51 rfl rfl (kr 52 rfl rfl (kr 53 rfl rfl SL.nil)))))) (BL.keep rfl (BL.keep rfl (BL.keep rfl (BL.keep rfl (BL.keep rfl BL.nil))))) (BK.cons (n:=320192) rfl bZ rfl rfl (BK.cons (n:=192) rfl (bS rfl (bS rfl bZ)) rfl rfl (BK.cons (n:=384) rfl (bS rfl (bS rfl (bS rfl bZ))) rfl rfl (BK.cons (n:=512) rfl (bS rfl (bS rfl (bS rfl (bS rfl bZ)))) rfl rfl BK.nil)))) GK.nil) (aR (oAdd (eR rfl) eC (oMov eZ (xNil (TQ.qn ⟨(s15.1.set (Int.toNat s15.2) (TPart.mk v25.Lo v25.Hi a1.Move.To),(IntKind.wrap .i64 (s15.2+1))),H,(wk_mkG [] (kR rfl rfl (kR rfl rfl (kR rfl rfl (SL.cons (eR rfl) rfl (VWk.one (CWk.len (by first|(simp;done)|(simp;omega)|omega|(simp only[List.length_map];omega)))) (kR rfl rfl (kR rfl rfl SL.nil)))))) (BL.keep rfl (BL.keep rfl (BL.keep rfl (BL.keep rfl BL.nil)))) (BK.cons rfl bZ rfl rfl (BK.cons rfl (bS rfl bZ) rfl rfl (BK.cons rfl (bS rfl (bS rfl bZ)) rfl rfl (BK.cons rfl (bS rfl (bS rfl (bS rfl bZ))) rfl (by first|rfl|simp) BK.nil)))) GK.nil)⟩)))))))))))
       ·exact AW.condF eZ (nt h24) (AW.skip (BQ.qn (TQ.qn (aR (oAdd (eR rfl) eC (oMov eZ (xNil (TQ.qn ⟨(s15.1,(IntKind.wrap .i64 (s15.2+1))),H,(wk_mkG [] (kR rfl rfl (kR rfl rfl (kR rfl rfl (kR rfl rfl (kR rfl rfl (kR rfl rfl SL.nil)))))) (BL.keep rfl (BL.keep rfl (BL.keep rfl (BL.keep rfl BL.nil)))) (BK.cons rfl bZ rfl rfl (BK.cons rfl (bS rfl bZ) rfl rfl (BK.cons rfl (bS rfl (bS rfl bZ)) rfl rfl (BK.cons rfl (bS rfl (bS rfl (bS rfl bZ))) rfl (by first|rfl|simp) BK.nil)))) GK.nil)⟩))))))))
      ·exact AW.condF eZ (dF h17) (AW.exit (TQ.qe (TQ.qe (BQ.qe (TQ.qn ⟨s15.1,H,((wk_mkG [192] (kR rfl rfl (kR rfl rfl SL.nil)) (BL.keep rfl (BL.drop rfl (BL.keep rfl (BL.keep rfl BL.nil)))) (BK.cons rfl (bS rfl (bS rfl bZ)) rfl rfl (BK.cons rfl bZ rfl rfl (BK.cons rfl (bS rfl (bS rfl (bS rfl bZ))) rfl (by first|rfl|simp) BK.nil))) GK.nil).trans (wk_renG 320192 320128 rfl rfl (nS rfl (nS rfl (nS rfl (nS rfl nZ)))) GR.nil))⟩)))))
    ·refine AW.condT eZ (cN (nt h12)) (aS (AW.regm (rmOne (oLoadVA (es:=[(dI v7.Epoch),(.sl 1025 0 v7.Parts.length),(dI v7.Move.No),(dI 4),(dI v7.Move.Lo),(dI v7.Move.Hi),(dI v7.Move.From),(dI v7.Move.To),.zs]) (eR rfl) bZ rfl (xNil (rmOne (oStoreV (es:=[(dI v7.Epoch),(.sl 1025 0 v7.Parts.length),(dI v7.Move.No),(dI 4),(dI v7.Move.Lo),(dI v7.Move.Hi),(dI v7.Move.From),(dI v7.Move.To),.zs]) (eR rfl) eZ rfl rfl (bS rfl (bS rfl (bS rfl bZ))) rfl (xNil (rmRest (oMov eC (xQ (AW.ret (TQ.qr ?_)))))))))))))
     cases H
     exact endsR (RL.cons (RV.cellA (es:=[(dI v7.Epoch),(.sl 1025 0 v7.Parts.length),(dI v7.Move.No),(dI 4),(dI v7.Move.Lo),(dI v7.Move.Hi),(dI v7.Move.From),(dI v7.Move.To),.zs]) (eR rfl) bZ rfl) (VO.aggs (VOs.cons (VO.flat rfl) (VOs.cons (VO.sl (bS rfl (bS rfl (bS rfl (bS rfl (bS rfl (bS rfl bZ)))))) (List.length_map _) (allFlat fun _=>rfl)) (VOs.cons (VO.flat rfl) (VOs.cons (VO.flat rfl) (VOs.cons (VO.flat rfl) (VOs.cons (VO.flat rfl) (VOs.cons (VO.flat rfl) (VOs.cons (VO.flat rfl) (VOs.cons VO.zs VOs.nil)))))))))) (RL.cons (RV.tmp eZ) (VO.flat rfl) RL.nil)) (by decide)
  ·refine aR (oFaddrN (m:=2) (eR rfl) rfl (oFaddrN (m:=3) eZ rfl (oLoadV (q:=3) (c:=(dI a1.Move.Stage)) eZ (bS rfl (bS rfl (bS rfl (bS rfl (bS rfl bZ))))) rfl rfl (oNeq eZ eC (oMov eZ ?_)))))
   rcases oite H with⟨h27,H⟩|⟨h27,H⟩
   ·exact gSkip eZ (dT h27) rfl (gSkip (eR rfl) (dT h27) rfl (gSkip (eR rfl) (dT h27) rfl (gSkip (eR rfl) (dT h27) rfl (gSkip (eR rfl) (dT h27) rfl (oPickT (eR rfl) (dT h27) eC (oMov eZ (gSkip eZ rfl rfl (gSkip (eR rfl) rfl rfl (gSkipU eZ rfl (gSkipU (eR rfl) rfl (gSkipU (eR rfl) rfl (gSkip (eR rfl) rfl rfl (oPickT (eR rfl) rfl eC (xNil (TQ.qn ⟨true,H,(wk_mkG [] (kR rfl rfl (kR rfl rfl (kR rfl rfl (kR rfl rfl (kR rfl rfl SL.nil))))) (BL.keep rfl (BL.keep rfl (BL.keep rfl (BL.keep rfl (BL.keep rfl (BL.keep rfl BL.nil)))))) (BK.cons rfl (bS rfl (bS rfl (bS rfl (bS rfl (bS rfl bZ))))) rfl rfl (BK.cons rfl (bS rfl (bS rfl (bS rfl (bS rfl bZ)))) rfl rfl (BK.cons rfl bZ rfl (by first|rfl|simp) (BK.cons rfl (bS rfl (bS rfl (bS rfl bZ))) rfl rfl (BK.cons rfl (bS rfl (bS rfl bZ)) rfl rfl BK.nil))))) GK.nil)⟩)))))))))))))))
   ·refine gDo eZ (dF h27) (oFaddrN (m:=2) (eR rfl) rfl (gDo (eR rfl) (dF h27) (oLoadVA (es:=[(dI a1.Move.No),(dI a1.Move.Stage),(dI a1.Move.Lo),(dI a1.Move.Hi),(dI a1.Move.From),(dI a1.Move.To),(.d (.sl 2 (List.map d_TCell a1.Move.Cells)))]) eZ (bS rfl (bS rfl (bS rfl (bS rfl (bS rfl bZ))))) rfl (gDo (eR rfl) (dF h27) ?_))))
    obtain⟨v28,h29,H⟩:=obind H
    refine oCall (u:=(oI v28)) eC Cl.fn (c_impl_MoveRank h29) (Evs.cons eZ Evs.nil) (VDs.cons (VD.agg rfl) VDs.nil) rfl (gDo (eR rfl) (dF h27) (oMov (eR rfl) (gDo (eR rfl) (dF h27) (oNeq (eR rfl) eZ (oPickF (eR rfl) (dF h27) eZ (oMov eZ ?_))))))
    rcases oite H with⟨h30,H⟩|⟨h30,H⟩
    ·exact gSkip eZ (dT h30) rfl (gSkip (eR rfl) (dT h30) rfl (gSkipU eZ rfl (gSkipU (eR rfl) rfl (gSkipU (eR rfl) rfl (gSkip (eR rfl) (dT h30) rfl (oPickT (eR rfl) (dT h30) eC (xNil (TQ.qn ⟨true,H,(wk_mkG [] (kR rfl rfl (kR rfl rfl (kR rfl rfl (kR rfl rfl (kR rfl rfl SL.nil))))) (BL.keep rfl (BL.keep rfl (BL.keep rfl (BL.keep rfl (BL.keep rfl (BL.keep rfl BL.nil)))))) (BK.cons rfl (bS rfl (bS rfl (bS rfl (bS rfl (bS rfl bZ))))) rfl rfl (BK.cons rfl (bS rfl (bS rfl (bS rfl (bS rfl bZ)))) rfl rfl (BK.cons rfl bZ rfl (by first|rfl|simp) (BK.cons rfl (bS rfl (bS rfl (bS rfl bZ))) rfl rfl (BK.cons rfl (bS rfl (bS rfl bZ)) rfl rfl BK.nil))))) GK.nil)⟩))))))))
    ·refine gDo eZ (dF h30) (oMov (eR rfl) (gDo (eR rfl) (dF h30) (oMov eZ ?_)))
     rcases oite H with⟨h31,H⟩|⟨h31,H⟩
     ·exact gDo eZ h31 (oFaddrN (m:=0) (eR rfl) rfl (gDo (eR rfl) h31 (oLoadV (q:=0) (c:=(dI a1.Epoch)) eZ (bS rfl (bS rfl (bS rfl (bS rfl (bS rfl bZ))))) rfl rfl (gDo (eR rfl) h31 (oEql eZ eC (gDo (eR rfl) (dF h30) (oPickT (eR rfl) h31 eZ (oPickF (eR rfl) (dF h30) eZ (xNil (TQ.qn ⟨(decide (a1.Epoch=1000000)),H,(wk_mkG [] (kR rfl rfl (kR rfl rfl (kR rfl rfl (kR rfl rfl (kR rfl rfl SL.nil))))) (BL.keep rfl (BL.keep rfl (BL.keep rfl (BL.keep rfl (BL.keep rfl (BL.keep rfl BL.nil)))))) (BK.cons rfl (bS rfl (bS rfl (bS rfl (bS rfl (bS rfl bZ))))) rfl rfl (BK.cons rfl (bS rfl (bS rfl (bS rfl (bS rfl bZ)))) rfl rfl (BK.cons rfl bZ rfl (by first|rfl|simp) (BK.cons rfl (bS rfl (bS rfl (bS rfl bZ))) rfl rfl (BK.cons rfl (bS rfl (bS rfl bZ)) rfl rfl BK.nil))))) GK.nil)⟩))))))))))
     ·exact gSkip eZ (nt h31) rfl (gSkip (eR rfl) (nt h31) rfl (gSkip (eR rfl) (nt h31) rfl (gDo (eR rfl) (dF h30) (oPickF (eR rfl) (nt h31) eC (oPickF (eR rfl) (dF h30) eZ (xNil (TQ.qn ⟨false,H,(wk_mkG [] (kR rfl rfl (kR rfl rfl (kR rfl rfl (kR rfl rfl (kR rfl rfl SL.nil))))) (BL.keep rfl (BL.keep rfl (BL.keep rfl (BL.keep rfl (BL.keep rfl (BL.keep rfl BL.nil)))))) (BK.cons rfl (bS rfl (bS rfl (bS rfl (bS rfl (bS rfl bZ))))) rfl rfl (BK.cons rfl (bS rfl (bS rfl (bS rfl (bS rfl bZ)))) rfl rfl (BK.cons rfl bZ rfl (by first|rfl|simp) (BK.cons rfl (bS rfl (bS rfl (bS rfl bZ))) rfl rfl (BK.cons rfl (bS rfl (bS rfl bZ)) rfl rfl BK.nil))))) GK.nil)⟩)))))))
 ·refine AW.condT eZ (cN (nt h6)) (aS (AW.regm (rmOne (oBuild (cs:=[(dI 0),.zs,(dI 0),(dI 0),(dI 0),(dI 0),(dI 0),(dI 0),.zs]) PsNil rfl (xNil (rmOne (oStoreV (es:=[(dI 0),.zs,(dI 0),(dI 0),(dI 0),(dI 0),(dI 0),(dI 0),.zs]) (eR rfl) eZ rfl rfl bZ rfl (xNil (rmRest (oMov eC (xQ (AW.ret (TQ.qr ?_)))))))))))))
  cases H
  exact endsR (RL.cons (RV.cellA (es:=[(dI 0),.zs,(dI 0),(dI 0),(dI 0),(dI 0),(dI 0),(dI 0),.zs]) (eR rfl) bZ rfl) (VO.aggs (VOs.cons (VO.flat rfl) (VOs.cons VO.zs (VOs.cons (VO.flat rfl) (VOs.cons (VO.flat rfl) (VOs.cons (VO.flat rfl) (VOs.cons (VO.flat rfl) (VOs.cons (VO.flat rfl) (VOs.cons (VO.flat rfl) (VOs.cons VO.zs VOs.nil)))))))))) (RL.cons (RV.tmp eZ) (VO.flat rfl) RL.nil)) List.nodup_nil
theorem c_impl_AtlasFrozen{a1:TAtlas}{a2:Int}{a3:(List TCell)}{r:(TAtlas×Int)}(H:m_impl_AtlasFrozen a1 a2 a3=some r):Fn Try.prog 19 (lent [(.agg (d_TAtlas a1)),(.int .i64 a2),(.sl 2 (List.map d_TCell a3))]) true [(.agg (d_TAtlas r.1)),(.int .i64 r.2)]:=by
 refine f19 (fle rfl) ?_
 rw[init_mk]
 refine AW.weaken (t:=mk [(0,(.agg [(dI a1.Epoch),(.d (.sl 3 (List.map d_TPart a1.Parts))),(dI a1.Move.No),(dI a1.Move.Stage),(dI a1.Move.Lo),(dI a1.Move.Hi),(dI a1.Move.From),(dI a1.Move.To),(.d (.sl 2 (List.map d_TCell a1.Move.Cells)))])),(1,(oI a2)),(2,(.one (.d (.sl 2 (List.map d_TCell a3)))))] [] (lk [])) (wk_mk [] (kv 0 (.agg [(dI a1.Epoch),(.d (.sl 3 (List.map d_TPart a1.Parts))),(dI a1.Move.No),(dI a1.Move.Stage),(dI a1.Move.Lo),(dI a1.Move.Hi),(dI a1.Move.From),(dI a1.Move.To),(.d (.sl 2 (List.map d_TCell a1.Move.Cells)))]) rfl rfl (kv 1 (oI a2) rfl rfl (kv 2 (.one (.d (.sl 2 (List.map d_TCell a3)))) rfl rfl SL.nil))) BL.nil BK.nil) ?_
 unfold m_impl_AtlasFrozen at H
 unfold i19
 refine aV (oBox (n:=192) (m:=9) (cs:=[(dI a1.Epoch),(.d (.sl 3 (List.map d_TPart a1.Parts))),(dI a1.Move.No),(dI a1.Move.Stage),(dI a1.Move.Lo),(dI a1.Move.Hi),(dI a1.Move.From),(dI a1.Move.To),(.d (.sl 2 (List.map d_TCell a1.Move.Cells)))]) rfl eZ rfl rfl nZ (oVar (n:=384) (m:=9) rfl rfl (nS rfl nZ) (oMov eC (xQ (aS (aV (oLoadVA (es:=[(dI a1.Epoch),(.d (.sl 3 (List.map d_TPart a1.Parts))),(dI a1.Move.No),(dI a1.Move.Stage),(dI a1.Move.Lo),(dI a1.Move.Hi),(dI a1.Move.From),(dI a1.Move.To),(.d (.sl 2 (List.map d_TCell a1.Move.Cells)))]) (eR rfl) (bS rfl bZ) rfl ?_)))))))
 obtain⟨v4,h5,H⟩:=obind H
 refine oCall (u:=(oB v4)) eC Cl.fn (c_impl_AtlasOk h5) (Evs.cons eZ Evs.nil) (VDs.cons (VD.agg rfl) VDs.nil) rfl (oInv eZ (xQ ?_))
 rcases oite H with⟨h6,H⟩|⟨h6,H⟩
 ·refine AW.condF eZ (cN h6) (AW.skip (TQ.qn (aS (AW.regm (rmOne (oLoadVA (es:=[(dI a1.Epoch),(.d (.sl 3 (List.map d_TPart a1.Parts))),(dI a1.Move.No),(dI a1.Move.Stage),(dI a1.Move.Lo),(dI a1.Move.Hi),(dI a1.Move.From),(dI a1.Move.To),(.d (.sl 2 (List.map d_TCell a1.Move.Cells)))]) (eR rfl) (bS rfl bZ) rfl (xNil (rmOne ?_))))))))
  obtain⟨v7,h8,H⟩:=obind H
  refine oCallN (u:=(.agg [(dI v7.Epoch),(.sl 897 0 v7.Parts.length),(dI v7.Move.No),(dI v7.Move.Stage),(dI v7.Move.Lo),(dI v7.Move.Hi),(dI v7.Move.From),(dI v7.Move.To),(.sl 904 0 v7.Move.Cells.length)])) (bs:=[(897,(.data 3 (List.map d_TPart v7.Parts) true none)),(904,(.data 2 (List.map d_TCell v7.Move.Cells) true none))]) eC Cl.fn (c_impl_copyAtlas h8) (Evs.cons eZ Evs.nil) (VDs.cons (VD.agg rfl) VDs.nil) (by simp[bindR,bindV,bindVs,bindC,bindCs]) rfl (fC (nS rfl (nS rfl nZ)) rfl (fC (nS rfl (nS rfl nZ)) rfl (fC (nS rfl (nS rfl nZ)) rfl fN))) (xNil (rmOne (oVar (n:=512) (m:=9) rfl rfl (nS rfl (nS rfl (nS rfl (nS rfl nZ)))) (xNil (rmOne (oStoreV (es:=[(dI v7.Epoch),(.sl 897 0 v7.Parts.length),(dI v7.Move.No),(dI v7.Move.Stage),(dI v7.Move.Lo),(dI v7.Move.Hi),(dI v7.Move.From),(dI v7.Move.To),(.sl 904 0 v7.Move.Cells.length)]) eZ (eR rfl) rfl rfl bZ rfl (xNil (rmRest (xQ (aS (AW.seqJ (fun t9:Bool=>(impl_AtlasFrozen_j9 v7 a3) t9=some r) (fun t9=>mk [(2,(.one (.d (.sl 2 (List.map d_TCell a3))))),(6,(.one (.ptr (.nm 384 0 0)))),(8,(.one (.ptr (.nm 512 0 0)))),(33,(oB t9))] [(384,(.vars 9 [(dI 0),.zs,(dI 0),(dI 0),(dI 0),(dI 0),(dI 0),(dI 0),.zs])),(512,(.vars 9 [(dI v7.Epoch),(.sl 897 0 v7.Parts.length),(dI v7.Move.No),(dI v7.Move.Stage),(dI v7.Move.Lo),(dI v7.Move.Hi),(dI v7.Move.From),(dI v7.Move.To),(.sl 904 0 v7.Move.Cells.length)])),(897,(.data 3 (List.map d_TPart v7.Parts) true none)),(904,(.data 2 (List.map d_TCell v7.Move.Cells) true none))] (lk [])) ?_ ?_)))))))))))
  ·intro t9 H
   unfold impl_AtlasFrozen_j9 at H
   rcases oite H with⟨h11,H⟩|⟨h11,H⟩
   ·refine AW.condT (eR rfl) h11 (aS (AW.regm (rmOne (oLoadVA (es:=[(dI v7.Epoch),(.sl 897 0 v7.Parts.length),(dI v7.Move.No),(dI v7.Move.Stage),(dI v7.Move.Lo),(dI v7.Move.Hi),(dI v7.Move.From),(dI v7.Move.To),(.sl 904 0 v7.Move.Cells.length)]) (eR rfl) (bS rfl bZ) rfl (xNil (rmOne (oStoreV (es:=[(dI v7.Epoch),(.sl 897 0 v7.Parts.length),(dI v7.Move.No),(dI v7.Move.Stage),(dI v7.Move.Lo),(dI v7.Move.Hi),(dI v7.Move.From),(dI v7.Move.To),(.sl 904 0 v7.Move.Cells.length)]) (eR rfl) eZ rfl rfl bZ rfl (xNil (rmRest (oMov eC (xQ (AW.ret (TQ.qr ?_)))))))))))))
    cases H
    exact endsR (RL.cons (RV.cellA (es:=[(dI v7.Epoch),(.sl 897 0 v7.Parts.length),(dI v7.Move.No),(dI v7.Move.Stage),(dI v7.Move.Lo),(dI v7.Move.Hi),(dI v7.Move.From),(dI v7.Move.To),(.sl 904 0 v7.Move.Cells.length)]) (eR rfl) bZ rfl) (VO.aggs (VOs.cons (VO.flat rfl) (VOs.cons (VO.sl (bS rfl (bS rfl (bS rfl bZ))) (List.length_map _) (allFlat fun _=>rfl)) (VOs.cons (VO.flat rfl) (VOs.cons (VO.flat rfl) (VOs.cons (VO.flat rfl) (VOs.cons (VO.flat rfl) (VOs.cons (VO.flat rfl) (VOs.cons (VO.flat rfl) (VOs.cons (VO.sl (bS rfl (bS rfl (bS rfl (bS rfl bZ)))) (List.length_map _) (allFlat fun _=>rfl)) VOs.nil)))))))))) (RL.cons (RV.tmp eZ) (VO.flat rfl) RL.nil)) (by decide)
   ·refine AW.condF (eR rfl) (nt h11) (AW.skip (TQ.qn (aV (oFaddrN (m:=2) (eR rfl) rfl (oFaddrN (m:=3) eZ rfl (oStoreV (es:=[(dI v7.Epoch),(.sl 897 0 v7.Parts.length),(dI v7.Move.No),(dI 2),(dI v7.Move.Lo),(dI v7.Move.Hi),(dI v7.Move.From),(dI v7.Move.To),(.sl 904 0 v7.Move.Cells.length)]) eZ eC rfl rfl (bS rfl bZ) rfl (xQ (aS (AW.regm (rmOne (oMov (eR rfl) (xNil (rmOne ?_)))))))))))))
    obtain⟨v12,h13,H⟩:=obind H
    refine oCallN (u:=(.one (.sl 2432 0 v12.length))) (bs:=[(2432,(.data 2 (List.map d_TCell v12) true none))]) eC Cl.fn (c_slices_Clone_Cell h13) (Evs.cons eZ Evs.nil) (VDs.cons VD.plain VDs.nil) (by simp[bindR,bindV,bindVs,bindC,bindCs]) rfl (fC (nS rfl (nS rfl (nS rfl (nS rfl (nS rfl nZ))))) rfl (fC (nS rfl (nS rfl (nS rfl (nS rfl (nS rfl nZ))))) rfl fN)) (xNil (rmOne (oFaddrN (m:=2) (eR rfl) rfl (xNil (rmOne (oFaddrN (m:=8) eZ rfl (xNil (rmOne (oStoreV (es:=[(dI v7.Epoch),(.sl 897 0 v7.Parts.length),(dI v7.Move.No),(dI 2),(dI v7.Move.Lo),(dI v7.Move.Hi),(dI v7.Move.From),(dI v7.Move.To),(.sl 2432 0 v12.length)]) eZ (eR rfl) rfl rfl (bS rfl bZ) rfl (xNil (rmRest (xQ (aS (AW.regm (rmOne (oLoadVA (es:=[(dI v7.Epoch),(.sl 897 0 v7.Parts.length),(dI v7.Move.No),(dI 2),(dI v7.Move.Lo),(dI v7.Move.Hi),(dI v7.Move.From),(dI v7.Move.To),(.sl 2432 0 v12.length)]) (eR rfl) bZ rfl (xNil (rmOne (oStoreV (es:=[(dI v7.Epoch),(.sl 897 0 v7.Parts.length),(dI v7.Move.No),(dI 2),(dI v7.Move.Lo),(dI v7.Move.Hi),(dI v7.Move.From),(dI v7.Move.To),(.sl 2432 0 v12.length)]) (eR rfl) eZ rfl rfl (bS rfl (bS rfl (bS rfl bZ))) rfl (xNil (rmRest (oMov eC (xQ (AW.ret ?_))))))))))))))))))))))))
    cases H
    exact endsR (RL.cons (RV.cellA (es:=[(dI v7.Epoch),(.sl 897 0 v7.Parts.length),(dI v7.Move.No),(dI 2),(dI v7.Move.Lo),(dI v7.Move.Hi),(dI v7.Move.From),(dI v7.Move.To),(.sl 2432 0 v12.length)]) (eR rfl) bZ rfl) (VO.aggs (VOs.cons (VO.flat rfl) (VOs.cons (VO.sl (bS rfl (bS rfl (bS rfl (bS rfl (bS rfl (bS rfl bZ)))))) (List.length_map _) (allFlat fun _=>rfl)) (VOs.cons (VO.flat rfl) (VOs.cons (VO.flat rfl) (VOs.cons (VO.flat rfl) (VOs.cons (VO.flat rfl) (VOs.cons (VO.flat rfl) (VOs.cons (VO.flat rfl) (VOs.cons (VO.sl (bS rfl (bS rfl bZ)) (List.length_map _) (allFlat fun _=>rfl)) VOs.nil)))))))))) (RL.cons (RV.tmp eZ) (VO.flat rfl) RL.nil)) (by decide)
  ·refine aR (oFaddrN (m:=2) (eR rfl) rfl (oFaddrN (m:=3) eZ rfl (oLoadV (q:=3) (c:=(dI a1.Move.Stage)) eZ (bS rfl (bS rfl (bS rfl (bS rfl (bS rfl bZ))))) rfl rfl (oNeq eZ eC (oMov eZ ?_)))))
   rcases oite H with⟨h14,H⟩|⟨h14,H⟩
   ·exact gSkip eZ (dT h14) rfl (gSkip (eR rfl) (dT h14) rfl (gSkip (eR rfl) (dT h14) rfl (gSkip (eR rfl) (dT h14) rfl (gSkip (eR rfl) (dT h14) rfl (oPickT (eR rfl) (dT h14) eC (oMov eZ (gSkip eZ rfl rfl (gSkip (eR rfl) rfl rfl (gSkip (eR rfl) rfl rfl (gSkip (eR rfl) rfl rfl (gSkip (eR rfl) rfl rfl (gSkip (eR rfl) rfl rfl (oPickT (eR rfl) rfl eC (xNil (TQ.qn ⟨true,H,(wk_mkG [192] (kR rfl rfl (kR rfl rfl (kR rfl rfl (kR rfl rfl SL.nil)))) (BL.keep rfl (BL.keep rfl (BL.keep rfl (BL.keep rfl (BL.keep rfl (BL.drop rfl BL.nil)))))) (BK.cons rfl (bS rfl (bS rfl (bS rfl (bS rfl bZ)))) rfl rfl (BK.cons rfl bZ rfl (by first|rfl|simp) (BK.cons rfl (bS rfl (bS rfl (bS rfl bZ))) rfl rfl (BK.cons rfl (bS rfl (bS rfl bZ)) rfl rfl BK.nil)))) GK.nil)⟩)))))))))))))))
   ·refine gDo eZ (dF h14) (oFaddrN (m:=2) (eR rfl) rfl (gDo (eR rfl) (dF h14) (oLoadVA (es:=[(dI a1.Move.No),(dI a1.Move.Stage),(dI a1.Move.Lo),(dI a1.Move.Hi),(dI a1.Move.From),(dI a1.Move.To),(.d (.sl 2 (List.map d_TCell a1.Move.Cells)))]) eZ (bS rfl (bS rfl (bS rfl (bS rfl (bS rfl bZ))))) rfl (gDo (eR rfl) (dF h14) ?_))))
    obtain⟨v15,h16,H⟩:=obind H
    refine oCall (u:=(oI v15)) eC Cl.fn (c_impl_MoveRank h16) (Evs.cons eZ Evs.nil) (VDs.cons (VD.agg rfl) VDs.nil) rfl (gDo (eR rfl) (dF h14) (oMov (eR rfl) (gDo (eR rfl) (dF h14) (oNeq (eR rfl) eZ (oPickF (eR rfl) (dF h14) eZ (oMov eZ ?_))))))
    rcases oite H with⟨h17,H⟩|⟨h17,H⟩
    ·exact gSkip eZ (dT h17) rfl (gSkip (eR rfl) (dT h17) rfl (gSkip (eR rfl) (dT h17) rfl (gSkip (eR rfl) (dT h17) rfl (gSkip (eR rfl) (dT h17) rfl (gSkip (eR rfl) (dT h17) rfl (oPickT (eR rfl) (dT h17) eC (xNil (TQ.qn ⟨true,H,(wk_mkG [192] (kR rfl rfl (kR rfl rfl (kR rfl rfl (kR rfl rfl SL.nil)))) (BL.keep rfl (BL.keep rfl (BL.keep rfl (BL.keep rfl (BL.keep rfl (BL.drop rfl BL.nil)))))) (BK.cons rfl (bS rfl (bS rfl (bS rfl (bS rfl bZ)))) rfl rfl (BK.cons rfl bZ rfl (by first|rfl|simp) (BK.cons rfl (bS rfl (bS rfl (bS rfl bZ))) rfl rfl (BK.cons rfl (bS rfl (bS rfl bZ)) rfl rfl BK.nil)))) GK.nil)⟩))))))))
    ·refine gDo eZ (dF h17) (oMov (eR rfl) (gDo (eR rfl) (dF h17) (oFaddrN (m:=2) (eR rfl) rfl (gDo (eR rfl) (dF h17) (oLoadVA (es:=[(dI a1.Move.No),(dI a1.Move.Stage),(dI a1.Move.Lo),(dI a1.Move.Hi),(dI a1.Move.From),(dI a1.Move.To),(.d (.sl 2 (List.map d_TCell a1.Move.Cells)))]) eZ (bS rfl (bS rfl (bS rfl (bS rfl (bS rfl bZ))))) rfl (gDo (eR rfl) (dF h17) ?_))))))
     obtain⟨v18,h19,H⟩:=obind H
     refine oCall (u:=(.agg [(dI v18.Lo),(dI v18.Hi)])) eC Cl.fn (c_impl_Move_keys h19) (Evs.cons eZ Evs.nil) (VDs.cons (VD.agg rfl) VDs.nil) rfl (gDo (eR rfl) (dF h17) ?_)
     obtain⟨v20,h21,H⟩:=obind H
     exact oCall (u:=(oB v20)) eC Cl.fn (c_impl_cellsIn h21) (Evs.cons (eR rfl) (Evs.cons eZ Evs.nil)) (VDs.cons VD.plain (VDs.cons (VD.agg rfl) VDs.nil)) rfl (gDo (eR rfl) (dF h17) (oInv eZ (oPickF (eR rfl) (dF h17) eZ (xNil (TQ.qn ⟨(!v20),H,(wk_mkG [192] (kR rfl rfl (kR rfl rfl (kR rfl rfl (kR rfl rfl SL.nil)))) (BL.keep rfl (BL.keep rfl (BL.keep rfl (BL.keep rfl (BL.keep rfl (BL.drop rfl BL.nil)))))) (BK.cons rfl (bS rfl (bS rfl (bS rfl (bS rfl bZ)))) rfl rfl (BK.cons rfl bZ rfl (by first|rfl|simp) (BK.cons rfl (bS rfl (bS rfl (bS rfl bZ))) rfl rfl (BK.cons rfl (bS rfl (bS rfl bZ)) rfl rfl BK.nil)))) GK.nil)⟩)))))
 ·refine AW.condT eZ (cN (nt h6)) (aS (AW.regm (rmOne (oBuild (cs:=[(dI 0),.zs,(dI 0),(dI 0),(dI 0),(dI 0),(dI 0),(dI 0),.zs]) PsNil rfl (xNil (rmOne (oStoreV (es:=[(dI 0),.zs,(dI 0),(dI 0),(dI 0),(dI 0),(dI 0),(dI 0),.zs]) (eR rfl) eZ rfl rfl bZ rfl (xNil (rmRest (oMov eC (xQ (AW.ret (TQ.qr ?_)))))))))))))
  cases H
  exact endsR (RL.cons (RV.cellA (es:=[(dI 0),.zs,(dI 0),(dI 0),(dI 0),(dI 0),(dI 0),(dI 0),.zs]) (eR rfl) bZ rfl) (VO.aggs (VOs.cons (VO.flat rfl) (VOs.cons VO.zs (VOs.cons (VO.flat rfl) (VOs.cons (VO.flat rfl) (VOs.cons (VO.flat rfl) (VOs.cons (VO.flat rfl) (VOs.cons (VO.flat rfl) (VOs.cons (VO.flat rfl) (VOs.cons VO.zs VOs.nil)))))))))) (RL.cons (RV.tmp eZ) (VO.flat rfl) RL.nil)) List.nodup_nil
theorem c_laws_at{a1:(List Int)}{a2:Int}{r:Int}(H:m_laws_at a1 a2=some r):Fn Try.prog 20 (lent [(.sl 1 (List.map d_u8 a1)),(.int .i64 a2)]) true [(.int .i64 r)]:=by
 refine f20 (fle rfl) ?_
 rw[init_mk]
 refine AW.weaken (wk_mk [] (kv 0 (.one (.d (.sl 1 (List.map d_u8 a1)))) rfl rfl (kv 1 (oI a2) rfl rfl SL.nil)) BL.nil BK.nil) ?_
 unfold m_laws_at at H
 unfold i20
 refine aV (oMov eC (xQ (aS (aV (oMov (eR rfl) (oMov (eR rfl) (oLenD eZ (n:=a1.length) (List.length_map _) (oLss (eR rfl) eZ (xQ ?_)))))))))
 rcases oite H with⟨h3,H⟩|⟨h3,H⟩
 ·refine AW.condT eZ (dT h3) (aV (oMov (eR rfl) (oMov (eR rfl) ?_)))
  obtain⟨v4,h5,H⟩:=obind H
  refine oAtD (eR rfl) eZ h5 (oLoadB (e:=(.int .u8 v4)) eZ rfl (oConv eZ (oMov eZ (xQ (AW.ret (TQ.qr ?_))))))
  cases H
  exact eE rfl rfl
 ·refine AW.condF eZ (dF h3) (AW.skip (TQ.qn (aV (oMov (eR rfl) (oMul eZ eC (oMov (eR rfl) (oLenD eZ (n:=a1.length) (List.length_map _) (oAdd (eR rfl) eZ (oRem eZ eC (by decide) (oMov eZ (xQ (AW.ret ?_))))))))))))
  cases H
  exact eE rfl rfl
end Go.AW
