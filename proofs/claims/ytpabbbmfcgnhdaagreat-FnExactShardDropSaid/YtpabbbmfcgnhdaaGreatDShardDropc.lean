/- That functions of the program compute what the plain functions say. Conditions: each theorem's own. -/
import Derived.Test.YtpabbbmfcgnhdaaGreatMShardDrop
import Derived.Test.YtpabbbmfcgnhdaaGreatGShardDrop
import Derived.Test.YtpabbbmfcgnhdaaGreatSShardDrop
import Derived.Test.YtpabbbmfcgnhdaaGreatYt
import Derived.KernelRfl
import Derived.Test.YtpabbbmfcgnhdaaGreatDShardDropa
import Derived.Test.YtpabbbmfcgnhdaaGreatDShardDropb
set_option linter.unusedVariables false
set_option linter.unusedSimpArgs false
set_option maxRecDepth 100000
namespace Go.AW
open Go.Proofs
theorem zbK{a1:(List zL)}{r:Bool}(H:QC a1=some r):Fn Tryz.prog 228 (lent [(.sl 4 (List.map zp a1))]) true [(.bool r)]:=by
 refine zHt (fle rfl) ?_
 rw[zx]
 refine AW.weaken (zg [] (kv 0 (.one (.d (.sl 4 (List.map zp a1)))) rfl rfl SL.nil) BL.nil BK.nil) ?_
 unfold QC at H
 unfold zyT
 refine aV (za eC (xQ (zE (fun t2:Unit=>(kf a1) t2=some r) (fun t2=>mk [(0,(.one (.d (.sl 4 (List.map zp a1)))))] [] noG) ?_ ?_)))
 ·intro t2 H
  unfold kf at H
  refine aV (za eZ (zX eZ (n:=a1.length) lm (zbj eZ eC (za eZ (xQ (AW.ret ?_))))))
  cases H
  exact eE rfl rfl
 ·refine aV (za rfl (zX eZ (n:=a1.length) lm (za eC (xQ (AW.block (AW.iter (fun s4:Int=>mk [(0,(.one (.d (.sl 4 (List.map zp a1))))),(5,(.one (.d (.sl 4 (List.map zp a1))))),(6,(oI (a1.length:Int))),(7,(oI s4))] [] noG) H (zg [] (sR rfl rfl) BL.nil BK.nil) ?_))))))
  intro kb5 s4 H
  unfold xV at H
  refine aV (qi rfl rfl (xQ (aS ?_)))
  rcases zA H with⟨h6,H⟩|⟨h6,H⟩
  ·refine zi eZ (dT h6) (AW.skip (TQ.qn (aS (AW.block (aV (za rfl ?_))))))
   obtain⟨v7,h8,H⟩:=zk H
   refine qt rfl rfl h8 (zZ (es:=(qj v7)) eZ rfl (Zh (n:=256) (m:=4) rfl rfl nZ (za rfl (zO (es:=(qj v7)) rfl rfl rfl rfl bZ rfl (xQ (zE (fun t9:Bool=>(Zc kb5 s4) t9=some r) (fun t9=>mk [(0,(.one (.d (.sl 4 (List.map zp a1))))),(5,(.one (.d (.sl 4 (List.map zp a1))))),(6,(oI (a1.length:Int))),(7,(oI s4)),(34,(oB t9))] [] noG) ?_ ?_))))))
   ·intro t9 H
    unfold Zc at H
    rcases zA H with⟨h11,H⟩|⟨h11,H⟩
    ·refine zi rfl h11 (aV (za eC (xQ (AW.ret (BQ.qr (TQ.qr (TQ.qr (BQ.qr (TQ.qr ?_)))))))))
     cases H
     exact eE rfl rfl
    ·exact zh rfl (nt h11) (AW.skip (BQ.qn (TQ.qn (aR (qg rfl eC (za eZ (zm (TQ.qn ⟨(IntKind.wrap .i64 (s4+1)),H,(zg [] (sR rfl rfl) BL.nil BK.nil)⟩))))))))
   ·refine aR (zf (m:=0) rfl rfl (zl (q:=0) (c:=(dI v7.Tx)) eZ bZ rfl rfl ?_))
    obtain⟨v12,h13,H⟩:=zk H
    refine zD (u:=(oB v12)) eC Cl.fn (zem h13) (Ec eZ En) (Vc Vp Vn) rfl (qI eZ (za eZ ?_))
    rcases zA H with⟨h14,H⟩|⟨h14,H⟩
    ·refine gDo eZ (cN h14) (zM (es:=(qj v7)) rfl bZ rfl (gDo rfl (cN h14) ?_))
     obtain⟨v15,h16,H⟩:=zk H
     refine zD (u:=(.agg [(dI v15.Lo),(dI v15.Hi)])) eC Cl.fn (yL h16) (Ec eZ En) (Vc (VD.agg rfl) Vn) rfl (gDo rfl (cN h14) ?_)
     obtain⟨v17,h18,H⟩:=zk H
     refine zD (u:=(oB v17)) eC Cl.fn (Ql h18) (Ec eZ En) (Vc (VD.agg rfl) Vn) rfl (gDo rfl (cN h14) (qI eZ (zJ rfl (cN h14) eZ (za eZ ?_))))
     rcases zA H with⟨h19,H⟩|⟨h19,H⟩
     ·refine gDo eZ (cN h19) (zf (m:=3) rfl rfl (gDo rfl (cN h19) (zl (q:=3) (c:=(dI v7.Mode)) eZ bZ rfl rfl (gDo rfl (cN h19) ?_))))
      obtain⟨v20,h21,H⟩:=zk H
      refine zD (u:=(oB v20)) eC Cl.fn (zck h21) (Ec eZ En) (Vc Vp Vn) rfl (gDo rfl (cN h19) (qI eZ (zJ rfl (cN h19) eZ (za eZ ?_))))
      rcases zA H with⟨h22,H⟩|⟨h22,H⟩
      ·refine gDo eZ (cN h22) (za rfl (gDo rfl (cN h22) (za rfl (gDo rfl (cN h22) ?_))))
       obtain⟨v23,h24,H⟩:=zk H
       refine zAN rfl zlX (n:=(a1.length:Int)) rfl (Bd.at eZ) h24 (gDo rfl (cN h22) (zbt (ps:=[(.nm 256 0 0)]) (Ec rfl En) (gDo rfl (cN h22) ?_)))
       obtain⟨v25,h26,H⟩:=zk H
       exact zD (u:=(oB v25)) eC Cl.fn (xn h26) (Ec rfl (Ec eZ En)) (Vc Vp (Vc (VD.fn (PDs.cons (ZR bZ (CDs.plain (CDs.plain (CDs.plain (CDs.plain CDs.nil))))) PDs.nil)) Vn)) rfl (zJ rfl (cN h22) eZ (zm (TQ.qn ⟨v25,H,(zg [256] (sR rfl rfl) (blR rfl) BK.nil)⟩)))
      ·exact zb eZ (cN (nt h22)) rfl (zb rfl (cN (nt h22)) rfl (zb rfl (cN (nt h22)) rfl (zb rfl (cN (nt h22)) rfl (zb rfl (cN (nt h22)) rfl (zC rfl (cN (nt h22)) eC (zm (TQ.qn ⟨true,H,(zg [256] (sR rfl rfl) (blR rfl) BK.nil)⟩)))))))
     ·exact zb eZ (cN (nt h19)) rfl (zb rfl (cN (nt h19)) rfl (zb rfl (cN (nt h19)) rfl (zb rfl (cN (nt h19)) rfl (zC rfl (cN (nt h19)) eC (za eZ (zb eZ rfl rfl (zb rfl rfl rfl (zb rfl rfl rfl (zb rfl rfl rfl (zb rfl rfl rfl (zC rfl rfl eC (zm (TQ.qn ⟨true,H,(zg [256] (sR rfl rfl) (blR rfl) BK.nil)⟩)))))))))))))
    ·exact zb eZ (cN (nt h14)) rfl (zb rfl (cN (nt h14)) rfl (zb rfl (cN (nt h14)) rfl (zb rfl (cN (nt h14)) rfl (zC rfl (cN (nt h14)) eC (za eZ (zb eZ rfl rfl (zb rfl rfl rfl (zb rfl rfl rfl (zb rfl rfl rfl (zC rfl rfl eC (za eZ (zb eZ rfl rfl (zb rfl rfl rfl (zb rfl rfl rfl (zb rfl rfl rfl (zb rfl rfl rfl (zC rfl rfl eC (zm (TQ.qn ⟨true,H,(zg [256] (sR rfl rfl) (blR rfl) BK.nil)⟩)))))))))))))))))))
  ·exact zh eZ (dF h6) (AW.exit (TQ.qe (TQ.qe (BQ.qe (TQ.qn ⟨(),H,(zg [] (sR rfl rfl) BL.nil BK.nil)⟩)))))
theorem zeF{a1:Int}{r:Bool}(H:Jr a1=some r):Fn Tryz.prog 260 (lent [(.int .i64 a1)]) true [(.bool r)]:=by
 refine zHb (fle rfl) ?_
 rw[zx]
 refine AW.weaken (zg [] (kv 0 (oI a1) rfl rfl SL.nil) BL.nil BK.nil) ?_
 unfold Jr at H
 unfold zCC
 refine aV (za eC (xQ (aV (za rfl ?_))))
 obtain⟨v2,h3,H⟩:=zk H
 refine zD (u:=(oB v2)) eC Cl.fn (QV h3) (Ec eZ (Ec eC (Ec eC En))) (Vc Vp (Vc Vp (Vc Vp Vn))) rfl (za eZ (xQ (AW.ret ?_)))
 cases H
 exact eE rfl rfl
theorem zba{a1:(List zn)}{r:Bool}(H:Z1 a1=some r):Fn Tryz.prog 240 (lent [(.sl 2 (List.map zj a1))]) true [(.bool r)]:=by
 refine zF4 (fle rfl) ?_
 rw[zx]
 refine AW.weaken (zg [] (kv 0 (.one (.d (.sl 2 (List.map zj a1)))) rfl rfl SL.nil) BL.nil BK.nil) ?_
 unfold Z1 at H
 unfold zFp
 refine aV (za eC (xQ (zE (fun t2:Unit=>(xk a1) t2=some r) (fun t2=>mk [(0,(.one (.d (.sl 2 (List.map zj a1)))))] [] noG) ?_ ?_)))
 ·intro t2 H
  unfold xk at H
  refine aV (za eZ (zX eZ (n:=a1.length) lm (zbj eZ eC (za eZ (xQ (AW.ret ?_))))))
  cases H
  exact eE rfl rfl
 ·refine aV (za rfl (zX eZ (n:=a1.length) lm (za eC (xQ (AW.block (AW.iter (fun s4:Int=>mk [(0,(.one (.d (.sl 2 (List.map zj a1))))),(5,(.one (.d (.sl 2 (List.map zj a1))))),(6,(oI (a1.length:Int))),(7,(oI s4))] [] noG) H (zg [] (sR rfl rfl) BL.nil BK.nil) ?_))))))
  intro kb5 s4 H
  unfold YJ at H
  refine aV (qi rfl rfl (xQ (aS ?_)))
  rcases zA H with⟨h6,H⟩|⟨h6,H⟩
  ·refine zi eZ (dT h6) (AW.skip (TQ.qn (aS (AW.block (aV (za rfl ?_))))))
   obtain⟨v7,h8,H⟩:=zk H
   refine qt rfl rfl h8 (zZ (es:=[(dI v7.Key),(dI v7.Value)]) eZ rfl (Zh (n:=256) (m:=2) rfl rfl nZ (za rfl (zO (es:=[(dI v7.Key),(dI v7.Value)]) rfl rfl rfl rfl bZ rfl (xQ (zE (fun t9:Bool=>(yJ kb5 s4) t9=some r) (fun t9=>mk [(0,(.one (.d (.sl 2 (List.map zj a1))))),(5,(.one (.d (.sl 2 (List.map zj a1))))),(6,(oI (a1.length:Int))),(7,(oI s4)),(36,(oB t9))] [] noG) ?_ ?_))))))
   ·intro t9 H
    unfold yJ at H
    rcases zA H with⟨h11,H⟩|⟨h11,H⟩
    ·refine zi rfl h11 (aV (za eC (xQ (AW.ret (BQ.qr (TQ.qr (TQ.qr (BQ.qr (TQ.qr ?_)))))))))
     cases H
     exact eE rfl rfl
    ·exact zh rfl (nt h11) (AW.skip (BQ.qn (TQ.qn (aR (qg rfl eC (za eZ (zm (TQ.qn ⟨(IntKind.wrap .i64 (s4+1)),H,(zg [] (sR rfl rfl) BL.nil BK.nil)⟩))))))))
   ·refine AW.regd (zf (m:=0) rfl rfl (zl (q:=0) (c:=(dI v7.Key)) eZ bZ rfl rfl ?_))
    obtain⟨v12,h13,H⟩:=zk H
    refine zD (u:=(oB v12)) eC Cl.fn (zdr h13) (Ec eZ En) (Vc Vp Vn) rfl (qI eZ (za eZ ?_))
    rcases zA H with⟨h14,H⟩|⟨h14,H⟩
    ·refine gDo eZ (cN h14) (zf (m:=1) rfl rfl (gDo rfl (cN h14) (zl (q:=1) (c:=(dI v7.Value)) eZ bZ rfl rfl (gDo rfl (cN h14) ?_))))
     obtain⟨v15,h16,H⟩:=zk H
     refine zD (u:=(oB v15)) eC Cl.fn (zeF h16) (Ec eZ En) (Vc Vp Vn) rfl (gDo rfl (cN h14) (qI eZ (zJ rfl (cN h14) eZ (za eZ ?_))))
     rcases zA H with⟨h17,H⟩|⟨h17,H⟩
     ·refine gDo eZ (cN h17) (za rfl (gDo rfl (cN h17) (zaB eZ eC (gDo rfl (cN h17) (za eZ ?_)))))
      rcases zA H with⟨h18,H⟩|⟨h18,H⟩
      ·refine gDo eZ (dT h18) (za rfl (gDo rfl (dT h18) (za rfl (gDo rfl (dT h18) (zaF eZ eC (gDo rfl (dT h18) ?_))))))
       obtain⟨v19,h20,H⟩:=zk H
       exact qt rfl eZ h20 (gDo rfl (dT h18) (qa (m:=0) eZ rfl (gDo rfl (dT h18) (zY (e:=(.int .i64 v19.Key)) eZ rfl (gDo rfl (dT h18) (zf (m:=0) rfl rfl (gDo rfl (dT h18) (zl (q:=0) (c:=(dI v7.Key)) eZ bZ rfl rfl (gDo rfl (dT h18) (XA rfl eZ (gDo rfl (cN h17) (zC rfl (dT h18) eZ (zJ rfl (cN h17) eZ (zm (TQ.qn ⟨(decide (v7.Key≤v19.Key)),H,(zg [256] (sR rfl rfl) (blR rfl) BK.nil)⟩)))))))))))))))
      ·exact zb eZ (dF h18) rfl (zb rfl (dF h18) rfl (zb rfl (dF h18) rfl (zb rfl (dF h18) rfl (zb rfl (dF h18) rfl (zb rfl (dF h18) rfl (zb rfl (dF h18) rfl (zb rfl (dF h18) rfl (zb rfl (dF h18) rfl (gDo rfl (cN h17) (zJ rfl (dF h18) eC (zJ rfl (cN h17) eZ (zm (TQ.qn ⟨false,H,(zg [256] (sR rfl rfl) (blR rfl) BK.nil)⟩)))))))))))))
     ·exact zb eZ (cN (nt h17)) rfl (zb rfl (cN (nt h17)) rfl (zb rfl (cN (nt h17)) rfl (zG eZ rfl (zG rfl rfl (zG rfl rfl (zG rfl rfl (zG rfl rfl (zG rfl rfl (zG rfl rfl (zG rfl rfl (zG rfl rfl (zb rfl (cN (nt h17)) rfl (zC rfl (cN (nt h17)) eC (zm (TQ.qn ⟨true,H,(zg [256] (sR rfl rfl) (blR rfl) BK.nil)⟩)))))))))))))))
    ·exact zb eZ (cN (nt h14)) rfl (zb rfl (cN (nt h14)) rfl (zb rfl (cN (nt h14)) rfl (zb rfl (cN (nt h14)) rfl (zC rfl (cN (nt h14)) eC (za eZ (zb eZ rfl rfl (zb rfl rfl rfl (zb rfl rfl rfl (zG eZ rfl (zG rfl rfl (zG rfl rfl (zG rfl rfl (zG rfl rfl (zG rfl rfl (zG rfl rfl (zG rfl rfl (zG rfl rfl (zb rfl rfl rfl (zC rfl rfl eC (zm (TQ.qn ⟨true,H,(zg [256] (sR rfl rfl) (blR rfl) BK.nil)⟩)))))))))))))))))))))
  ·exact zh eZ (dF h6) (AW.exit (TQ.qe (TQ.qe (BQ.qe (TQ.qn ⟨(),H,(zg [] (sR rfl rfl) BL.nil BK.nil)⟩)))))
theorem zf2{a1:Int}{r:ze}(H:KK a1=some r):Fn Tryz.prog 234 (lent [(.int .i64 a1)]) true [(.agg (zd r))]:=by
 refine zGi (fle rfl) ?_
 rw[zx]
 refine AW.weaken (zg [] (kv 0 (oI a1) rfl rfl SL.nil) BL.nil BK.nil) ?_
 unfold KK at H
 unfold zAo
 refine aV (Zh (n:=128) (m:=2) rfl rfl nZ (xQ (aV (za rfl (za rfl (qg eZ eC (Xv (cs:=[(dI a1),(dI (IntKind.wrap .i64 (a1+1)))]) (jN rfl (jN eZ kD)) rfl (zO (es:=[(dI a1),(dI (IntKind.wrap .i64 (a1+1)))]) rfl eZ rfl rfl bZ rfl (xQ (AW.ret ?_))))))))))
 cases H
 exact qK (RL.cons (jg (es:=[(dI a1),(dI (IntKind.wrap .i64 (a1+1)))]) rfl bZ rfl) (VO.agg (ds:=[(.int .i64 a1),(.int .i64 (IntKind.wrap .i64 (a1+1)))]) rfl rfl) RL.nil) List.nodup_nil
theorem zcH{a1:zL}{a2:Int}{a3:Int}{a4:ze}{r:Bool}(H:ZO a1 a2 a3 a4=some r):Fn Tryz.prog 348 (lent [(.agg (zp a1)),(.ptr (zt a2)),(.ptr (zt a3)),(.ptr (zd a4))]) true [(.bool r)]:=by
 refine zF3 (fle rfl) ?_
 rw[zx]
 refine AW.weaken (zg [] (kv 0 (.agg (qj a1)) rfl rfl (SL.cons (v:=(.one (.ptr (.bd (zt a2) 0)))) (eS rfl eZ) rfl (VWk.one CWk.ptr) (SL.cons (v:=(.one (.ptr (.bd (zt a3) 0)))) (eS rfl (eS rfl eZ)) rfl (VWk.one CWk.ptr) (SL.cons (v:=(.one (.ptr (.bd (zd a4) 0)))) (eS rfl (eS rfl (eS rfl eZ))) rfl (VWk.one CWk.ptr) SL.nil)))) BL.nil BK.nil) ?_
 unfold ZO at H
 unfold zE2
 refine aV (qY (n:=256) (m:=4) (cs:=(qj a1)) rfl eZ rfl rfl nZ (za eC (xQ (aV (zf (m:=0) rfl rfl (zl (q:=0) (c:=(dI a1.Tx)) eZ bZ rfl rfl (zY (e:=(.int .i64 a2)) rfl rfl (KG rfl eZ (za eZ ?_)))))))))
 rcases zA H with⟨h5,H⟩|⟨h5,H⟩
 ·refine gDo eZ (dT h5) (zf (m:=3) rfl rfl (gDo rfl (dT h5) (zl (q:=3) (c:=(dI a1.Mode)) eZ bZ rfl rfl (gDo rfl (dT h5) (zY (e:=(.int .i64 a3)) rfl rfl (gDo rfl (dT h5) (KG rfl eZ (gDo rfl (dT h5) (za eZ ?_)))))))))
  rcases zA H with⟨h6,H⟩|⟨h6,H⟩
  ·refine zb eZ (dT h6) rfl (zb rfl (dT h6) rfl (zb rfl (dT h6) rfl (gDo rfl (dT h5) (zC rfl (dT h6) eC (zC rfl (dT h5) eZ (za eZ (gDo eZ rfl (zf (m:=1) rfl rfl (gDo rfl rfl (zl (q:=1) (c:=(dI a1.Lo)) eZ bZ rfl rfl (gDo rfl rfl (qa (m:=0) rfl rfl (gDo rfl rfl (zY (e:=(.int .i64 a4.Lo)) eZ rfl (gDo rfl rfl (zbj rfl eZ (zC rfl rfl eZ (za eZ ?_))))))))))))))))))
   rcases zA H with⟨h7,H⟩|⟨h7,H⟩
   ·refine gDo eZ (dT h7) (qa (m:=1) rfl rfl (gDo rfl (dT h7) (zY (e:=(.int .i64 a4.Hi)) eZ rfl (gDo rfl (dT h7) (zf (m:=2) rfl rfl (gDo rfl (dT h7) (zl (q:=2) (c:=(dI a1.Hi)) eZ bZ rfl rfl (gDo rfl (dT h7) (zbj rfl eZ (zC rfl (dT h7) eZ (za eZ (xQ (AW.weaken (zg [256] (kr 5 rfl rfl SL.nil) (blR rfl) BK.nil) (AW.ret ?_))))))))))))))
    cases H
    exact eE rfl rfl
   ·refine zb eZ (dF h7) rfl (zb rfl (dF h7) rfl (zb rfl (dF h7) rfl (zb rfl (dF h7) rfl (zb rfl (dF h7) rfl (zJ rfl (dF h7) eC (za eZ (xQ (AW.weaken (zg [256] (kr 5 rfl rfl SL.nil) (blR rfl) BK.nil) (AW.ret ?_)))))))))
    cases H
    exact eE rfl rfl
  ·refine gDo eZ (dF h6) (zf (m:=3) rfl rfl (gDo rfl (dF h6) (zl (q:=3) (c:=(dI a1.Mode)) eZ bZ rfl rfl (gDo rfl (dF h6) (KG eZ eC (gDo rfl (dT h5) (zJ rfl (dF h6) eZ (zC rfl (dT h5) eZ (za eZ ?_)))))))))
   rcases zA H with⟨h8,H⟩|⟨h8,H⟩
   ·refine gDo eZ (dT h8) (zf (m:=1) rfl rfl (gDo rfl (dT h8) (zl (q:=1) (c:=(dI a1.Lo)) eZ bZ rfl rfl (gDo rfl (dT h8) (qa (m:=0) rfl rfl (gDo rfl (dT h8) (zY (e:=(.int .i64 a4.Lo)) eZ rfl (gDo rfl (dT h8) (zbj rfl eZ (zC rfl (dT h8) eZ (za eZ ?_)))))))))))
    rcases zA H with⟨h9,H⟩|⟨h9,H⟩
    ·refine gDo eZ (dT h9) (qa (m:=1) rfl rfl (gDo rfl (dT h9) (zY (e:=(.int .i64 a4.Hi)) eZ rfl (gDo rfl (dT h9) (zf (m:=2) rfl rfl (gDo rfl (dT h9) (zl (q:=2) (c:=(dI a1.Hi)) eZ bZ rfl rfl (gDo rfl (dT h9) (zbj rfl eZ (zC rfl (dT h9) eZ (za eZ (xQ (AW.weaken (zg [256] (kr 5 rfl rfl SL.nil) (blR rfl) BK.nil) (AW.ret ?_))))))))))))))
     cases H
     exact eE rfl rfl
    ·refine zb eZ (dF h9) rfl (zb rfl (dF h9) rfl (zb rfl (dF h9) rfl (zb rfl (dF h9) rfl (zb rfl (dF h9) rfl (zJ rfl (dF h9) eC (za eZ (xQ (AW.weaken (zg [256] (kr 5 rfl rfl SL.nil) (blR rfl) BK.nil) (AW.ret ?_)))))))))
     cases H
     exact eE rfl rfl
   ·refine zb eZ (dF h8) rfl (zb rfl (dF h8) rfl (zb rfl (dF h8) rfl (zb rfl (dF h8) rfl (zb rfl (dF h8) rfl (zJ rfl (dF h8) eC (za eZ (zb eZ rfl rfl (zb rfl rfl rfl (zb rfl rfl rfl (zb rfl rfl rfl (zb rfl rfl rfl (zJ rfl rfl eC (za eZ (xQ (AW.weaken (zg [256] (kr 5 rfl rfl SL.nil) (blR rfl) BK.nil) (AW.ret ?_))))))))))))))))
    cases H
    exact eE rfl rfl
 ·refine zb eZ (dF h5) rfl (zb rfl (dF h5) rfl (zb rfl (dF h5) rfl (zb rfl (dF h5) rfl (zb rfl (dF h5) rfl (zG eZ rfl (zG rfl rfl (zG rfl rfl (zb rfl (dF h5) rfl (zJ rfl (dF h5) eC (za eZ (zb eZ rfl rfl (zb rfl rfl rfl (zb rfl rfl rfl (zb rfl rfl rfl (zb rfl rfl rfl (zJ rfl rfl eC (za eZ (zb eZ rfl rfl (zb rfl rfl rfl (zb rfl rfl rfl (zb rfl rfl rfl (zb rfl rfl rfl (zJ rfl rfl eC (za eZ (xQ (AW.weaken (zg [256] (kr 5 rfl rfl SL.nil) (blR rfl) BK.nil) (AW.ret ?_)))))))))))))))))))))))))))
  cases H
  exact eE rfl rfl
theorem xq{a1:(List zL)}{a2:Int}{a3:Int}{a4:ze}{r:Int}(H:jk a1 a2 a3 a4=some r):Fn Tryz.prog 216 (lent [(.sl 4 (List.map zp a1)),(.fn 348 [.ptr (zt a2),.ptr (zt a3),.ptr (zd a4)])]) true [(.int .i64 r)]:=by
 refine f216 (fle rfl) ?_
 rw[zx]
 refine AW.weaken (zg [] (kv 0 (.one (.d (.sl 4 (List.map zp a1)))) rfl rfl (SL.cons (v:=(.one (.fn 348 [(.bd (zt a2) 0),(.bd (zt a3) 0),(.bd (zd a4) 0)]))) (eS rfl eZ) rfl (VWk.one (CWk.fn (css:=[zt a2,zt a3,zd a4]))) SL.nil)) BL.nil BK.nil) ?_
 unfold jk at H
 unfold zkW
 refine aV (za eC (xQ (zE (fun t5:Unit=>jS t5=some r) (fun t5=>mk [] [] noG) ?_ ?_)))
 ·intro t5 H
  unfold jS at H
  refine aV (za eC (xQ (AW.ret ?_)))
  cases H
  exact eE rfl rfl
 ·refine aV (za rfl (zX eZ (n:=a1.length) lm (za eC (xQ (AW.block (AW.iter (fun s7:Int=>mk [(0,(.one (.d (.sl 4 (List.map zp a1))))),(1,(.one (.fn 348 [(.bd (zt a2) 0),(.bd (zt a3) 0),(.bd (zd a4) 0)]))),(7,(oI (a1.length:Int))),(8,(oI s7))] [] noG) H (zg [] (sR rfl rfl) BL.nil BK.nil) ?_))))))
  intro kb8 s7 H
  unfold jc at H
  refine aV (qi rfl rfl (xQ (aS ?_)))
  rcases zA H with⟨h9,H⟩|⟨h9,H⟩
  ·refine zi eZ (dT h9) (AW.skip (TQ.qn (aS (AW.block (aV (za rfl (za eZ (xQ (aV (za rfl (za rfl (za rfl ?_))))))))))))
   obtain⟨v10,h11,H⟩:=zk H
   refine qt rfl eZ h11 (zZ (es:=(qj v10)) eZ rfl ?_)
   obtain⟨v12,h13,H⟩:=zk H
   refine zD (u:=(oB v12)) rfl Cl.fn (zcH h13) (Ec eZ En) (Vc (VD.agg rfl) (Vc qX (Vc qX (Vc qX Vn)))) rfl (xQ ?_)
   rcases zA H with⟨h14,H⟩|⟨h14,H⟩
   ·refine zi eZ h14 (aV (za rfl (za eZ (xQ (AW.ret (BQ.qr (TQ.qr (TQ.qr (BQ.qr (TQ.qr ?_))))))))))
    cases H
    exact eE rfl rfl
   ·exact zh eZ (nt h14) (AW.skip (BQ.qn (TQ.qn (aR (qg rfl eC (za eZ (zm (TQ.qn ⟨(IntKind.wrap .i64 (s7+1)),H,(zg [] (sR rfl rfl) BL.nil BK.nil)⟩))))))))
  ·exact zh eZ (dF h9) (AW.exit (TQ.qe (TQ.qe (BQ.qe (TQ.qn ⟨(),H,(zg [] SL.nil BL.nil BK.nil)⟩)))))
theorem JT{a1:(List zL)}{a2:Int}{a3:Int}{a4:ze}{r:Bool}(H:qp a1 a2 a3 a4=some r):Fn Tryz.prog 110 (lent [(.sl 4 (List.map zp a1)),(.fn 348 [.ptr (zt a2),.ptr (zt a3),.ptr (zd a4)])]) true [(.bool r)]:=by
 refine zmL (fle rfl) ?_
 rw[zx]
 refine AW.weaken (zg [] (kv 0 (.one (.d (.sl 4 (List.map zp a1)))) rfl rfl (SL.cons (v:=(.one (.fn 348 [(.bd (zt a2) 0),(.bd (zt a3) 0),(.bd (zd a4) 0)]))) (eS rfl eZ) rfl (VWk.one (CWk.fn (css:=[zt a2,zt a3,zd a4]))) SL.nil)) BL.nil BK.nil) ?_
 unfold qp at H
 unfold zkY
 refine aV (za eC (xQ (aV (za rfl (za rfl ?_)))))
 obtain⟨v5,h6,H⟩:=zk H
 refine zD (u:=(oI v5)) eC Cl.fn (xq h6) (Ec rfl (Ec eZ En)) (Vc Vp (Vc (VD.fn (PDs.cons qX (PDs.cons qX (PDs.cons qX PDs.nil)))) Vn)) rfl (XA eZ eC (za eZ (xQ (AW.ret ?_))))
 cases H
 exact eE rfl rfl
theorem zd4{a1:(List zL)}{a2:Int}{a3:ze}{a4:Int}{r:Bool}(H:Qt a1 a2 a3 a4=some r):Fn Tryz.prog 302 (lent [(.sl 4 (List.map zp a1)),(.int .i64 a2),(.agg (zd a3)),(.int .i64 a4)]) true [(.bool r)]:=by
 refine zFO (fle rfl) ?_
 rw[zx]
 refine AW.weaken (zg [] (kv 0 (.one (.d (.sl 4 (List.map zp a1)))) rfl rfl (kv 1 (oI a2) rfl rfl (kv 2 (.agg [(dI a3.Lo),(dI a3.Hi)]) rfl rfl (kv 3 (oI a4) rfl rfl SL.nil)))) BL.nil BK.nil) ?_
 unfold Qt at H
 unfold zD8
 refine aV (qY (n:=320) (m:=1) (cs:=[(dI a2)]) rfl rfl rfl rfl nZ (qY (n:=384) (m:=2) (cs:=[(dI a3.Lo),(dI a3.Hi)]) rfl rfl rfl rfl (nR rfl) (qY (n:=448) (m:=1) (cs:=[(dI a4)]) rfl rfl rfl rfl (nR rfl) (za eC (xQ (aV (za rfl ?_)))))))
 obtain⟨v5,h6,H⟩:=zk H
 refine zD (u:=(oB v5)) eC Cl.fn (zbK h6) (Ec eZ En) (Vc Vp Vn) rfl (za eZ ?_)
 rcases zA H with⟨h7,H⟩|⟨h7,H⟩
 ·refine gDo eZ h7 (zM (es:=[(dI a3.Lo),(dI a3.Hi)]) rfl (bR rfl) rfl (gDo rfl h7 ?_))
  obtain⟨v8,h9,H⟩:=zk H
  refine zD (u:=(oB v8)) eC Cl.fn (Ql h9) (Ec eZ En) (Vc (VD.agg rfl) Vn) rfl (zC rfl h7 eZ (za eZ ?_))
  rcases zA H with⟨h10,H⟩|⟨h10,H⟩
  ·refine gDo eZ h10 (zl (q:=0) (c:=(dI a4)) rfl bZ rfl rfl (gDo rfl h10 ?_))
   obtain⟨v11,h12,H⟩:=zk H
   refine zD (u:=(oB v11)) eC Cl.fn (zck h12) (Ec eZ En) (Vc Vp Vn) rfl (zC rfl h10 eZ (za eZ ?_))
   rcases zA H with⟨h13,H⟩|⟨h13,H⟩
   ·refine gDo eZ h13 (za rfl (gDo rfl h13 (zbt (ps:=[(.nm 320 0 0),(.nm 448 0 0),(.nm 384 0 0)]) (Ec rfl (Ec rfl (Ec rfl En))) (gDo rfl h13 ?_))))
    obtain⟨v14,h15,H⟩:=zk H
    refine zD (u:=(oB v14)) eC Cl.fn (JT h15) (Ec rfl (Ec eZ En)) (Vc Vp (Vc (VD.fn (PDs.cons (ZR (bR rfl) (CDs.plain CDs.nil)) (PDs.cons (ZR bZ (CDs.plain CDs.nil)) (PDs.cons (ZR (bR rfl) (CDs.plain (CDs.plain CDs.nil))) PDs.nil)))) Vn)) rfl (zC rfl h13 eZ (za eZ (xQ (AW.weaken (zg [448,384,320] (kr 8 rfl rfl SL.nil) (blR rfl) BK.nil) (AW.ret ?_)))))
    cases H
    exact eE rfl rfl
   ·refine zb eZ (nt h13) rfl (zb rfl (nt h13) rfl (zb rfl (nt h13) rfl (zJ rfl (nt h13) eC (za eZ (xQ (AW.weaken (zg [448,384,320] (kr 8 rfl rfl SL.nil) (blR rfl) BK.nil) (AW.ret ?_)))))))
    cases H
    exact eE rfl rfl
  ·refine zb eZ (nt h10) rfl (zb rfl (nt h10) rfl (zJ rfl (nt h10) eC (za eZ (zb eZ rfl rfl (zb rfl rfl rfl (zb rfl rfl rfl (zJ rfl rfl eC (za eZ (xQ (AW.weaken (zg [448,384,320] (kr 8 rfl rfl SL.nil) (blR rfl) BK.nil) (AW.ret ?_)))))))))))
   cases H
   exact eE rfl rfl
 ·refine zb eZ (nt h7) rfl (zb rfl (nt h7) rfl (zJ rfl (nt h7) eC (za eZ (zb eZ rfl rfl (zb rfl rfl rfl (zJ rfl rfl eC (za eZ (zb eZ rfl rfl (zb rfl rfl rfl (zb rfl rfl rfl (zJ rfl rfl eC (za eZ (xQ (AW.weaken (zg [448,384,320] (kr 8 rfl rfl SL.nil) (blR rfl) BK.nil) (AW.ret ?_)))))))))))))))
  cases H
  exact eE rfl rfl
theorem zdW{a1:zn}{a2:zo}{a3:zN}{r:Bool}(H:Qp a1 a2 a3=some r):Fn Tryz.prog 301 (lent [(.agg (zj a1)),(.ptr (zR a2)),(.ptr (zB a3))]) true [(.bool r)]:=by
 refine f301 (fle rfl) ?_
 rw[zx]
 refine AW.weaken (zg [] (kv 0 (.agg [(dI a1.Key),(dI a1.Value)]) rfl rfl (SL.cons (v:=(.one (.ptr (.bd (zR a2) 0)))) (eS rfl eZ) rfl (VWk.one CWk.ptr) (SL.cons (v:=(.one (.ptr (.bd (zB a3) 0)))) (eS rfl (eS rfl eZ)) rfl (VWk.one CWk.ptr) SL.nil))) BL.nil BK.nil) ?_
 unfold Qp at H
 unfold zDx
 refine aV (qY (n:=192) (m:=2) (cs:=[(dI a1.Key),(dI a1.Value)]) rfl eZ rfl rfl nZ (za eC (xQ (aS (AW.regd (qa (m:=4) rfl rfl (zY (e:=(.sl 4 (List.map zp a2.Locks))) eZ rfl (qa (m:=0) rfl rfl (zY (e:=(.int .i64 a3.Tx)) eZ rfl (zf (m:=0) rfl rfl (zl (q:=0) (c:=(dI a1.Key)) eZ bZ rfl rfl ?_)))))))))))
 obtain⟨v4,h5,H⟩:=zk H
 refine zD (u:=(.agg [(dI v4.Lo),(dI v4.Hi)])) eC Cl.fn (zf2 h5) (Ec eZ En) (Vc Vp Vn) rfl ?_
 obtain⟨v6,h7,H⟩:=zk H
 refine zD (u:=(oB v6)) eC Cl.fn (zd4 h7) (Ec rfl (Ec rfl (Ec eZ (Ec eC En)))) (Vc Vp (Vc Vp (Vc (VD.agg rfl) (Vc Vp Vn)))) rfl (qI eZ (za eZ (xQ (AW.ret ?_))))
 cases H
 exact eE rfl rfl
theorem xH{a1:(List zn)}{a2:zo}{a3:zN}{r:Int}(H:jt a1 a2 a3=some r):Fn Tryz.prog 347 (lent [(.sl 2 (List.map zj a1)),(.fn 301 [.ptr (zR a2),.ptr (zB a3)])]) true [(.int .i64 r)]:=by
 refine zHl (fle rfl) ?_
 rw[zx]
 refine AW.weaken (zg [] (kv 0 (.one (.d (.sl 2 (List.map zj a1)))) rfl rfl (SL.cons (v:=(.one (.fn 301 [(.bd (zR a2) 0),(.bd (zB a3) 0)]))) (eS rfl eZ) rfl (VWk.one (CWk.fn (css:=[zR a2,zB a3]))) SL.nil)) BL.nil BK.nil) ?_
 unfold jt at H
 unfold zCw
 refine aV (za eC (xQ (zE (fun t4:Unit=>jZ t4=some r) (fun t4=>mk [] [] noG) ?_ ?_)))
 ·intro t4 H
  unfold jZ at H
  refine aV (za eC (xQ (AW.ret ?_)))
  cases H
  exact eE rfl rfl
 ·refine aV (za rfl (zX eZ (n:=a1.length) lm (za eC (xQ (AW.block (AW.iter (fun s6:Int=>mk [(0,(.one (.d (.sl 2 (List.map zj a1))))),(1,(.one (.fn 301 [(.bd (zR a2) 0),(.bd (zB a3) 0)]))),(7,(oI (a1.length:Int))),(8,(oI s6))] [] noG) H (zg [] (sR rfl rfl) BL.nil BK.nil) ?_))))))
  intro kb7 s6 H
  unfold ji at H
  refine aV (qi rfl rfl (xQ (aS ?_)))
  rcases zA H with⟨h8,H⟩|⟨h8,H⟩
  ·refine zi eZ (dT h8) (AW.skip (TQ.qn (aS (AW.block (aV (za rfl (za eZ (xQ (aV (za rfl (za rfl (za rfl ?_))))))))))))
   obtain⟨v9,h10,H⟩:=zk H
   refine qt rfl eZ h10 (zZ (es:=[(dI v9.Key),(dI v9.Value)]) eZ rfl ?_)
   obtain⟨v11,h12,H⟩:=zk H
   refine zD (u:=(oB v11)) rfl Cl.fn (zdW h12) (Ec eZ En) (Vc (VD.agg rfl) (Vc qX (Vc qX Vn))) rfl (xQ ?_)
   rcases zA H with⟨h13,H⟩|⟨h13,H⟩
   ·refine zi eZ h13 (aV (za rfl (za eZ (xQ (AW.ret (BQ.qr (TQ.qr (TQ.qr (BQ.qr (TQ.qr ?_))))))))))
    cases H
    exact eE rfl rfl
   ·exact zh eZ (nt h13) (AW.skip (BQ.qn (TQ.qn (aR (qg rfl eC (za eZ (zm (TQ.qn ⟨(IntKind.wrap .i64 (s6+1)),H,(zg [] (sR rfl rfl) BL.nil BK.nil)⟩))))))))
  ·exact zh eZ (dF h8) (AW.exit (TQ.qe (TQ.qe (BQ.qe (TQ.qn ⟨(),H,(zg [] SL.nil BL.nil BK.nil)⟩)))))
theorem JZ{a1:(List zn)}{a2:zo}{a3:zN}{r:Bool}(H:qu a1 a2 a3=some r):Fn Tryz.prog 300 (lent [(.sl 2 (List.map zj a1)),(.fn 301 [.ptr (zR a2),.ptr (zB a3)])]) true [(.bool r)]:=by
 refine f300 (fle rfl) ?_
 rw[zx]
 refine AW.weaken (zg [] (kv 0 (.one (.d (.sl 2 (List.map zj a1)))) rfl rfl (SL.cons (v:=(.one (.fn 301 [(.bd (zR a2) 0),(.bd (zB a3) 0)]))) (eS rfl eZ) rfl (VWk.one (CWk.fn (css:=[zR a2,zB a3]))) SL.nil)) BL.nil BK.nil) ?_
 unfold qu at H
 unfold zCO
 refine aV (za eC (xQ (aV (za rfl (za rfl ?_)))))
 obtain⟨v4,h5,H⟩:=zk H
 refine zD (u:=(oI v4)) eC Cl.fn (xH h5) (Ec rfl (Ec eZ En)) (Vc Vp (Vc (VD.fn (PDs.cons qX (PDs.cons qX PDs.nil))) Vn)) rfl (XA eZ eC (za eZ (xQ (AW.ret ?_))))
 cases H
 exact eE rfl rfl
theorem zcY{a1:(List zN)}{r:(List Int)}(H:xg a1=some r):Fn Tryz.prog 126 (lent [(.sl 2 (List.map zB a1))]) true [(.sl 1 (List.map zt r))]:=by
 refine zGH (fle rfl) ?_
 rw[zx]
 refine AW.weaken (t:=mk [(0,(.one (.d (.sl 2 (List.map zB a1)))))] [] (lk [])) (zg [] (sR rfl rfl) BL.nil BK.nil) ?_
 unfold xg at H
 unfold zzD
 refine aV (za eC (xQ (aV (yF (m:=384) rfl nZ (za eZ (xQ (zE (fun t2:(List Int)=>XW t2=some r) (fun t2=>mk [(3,(.one (.sl 320128 0 t2.length)))] [(320128,(.data 1 (List.map zt t2) true none))] (lk [])) ?_ ?_)))))))
 ·intro t2 H
  unfold XW at H
  refine aV (za eZ (za eZ (xQ (AW.ret ?_))))
  obtain rfl:=(Option.some.inj H)
  exact qK (RL.cons (RV.tmp eZ) (VO.sl bZ lm (zy fun _=>rfl)) RL.nil) (by decide)
 ·refine aV (za rfl (zX eZ (n:=a1.length) lm (za eC (xQ (AW.block (AW.iter (fun s4:((List Int)×Int)=>mk [(3,(.one (.sl 320192 0 s4.1.length))),(7,(.one (.d (.sl 2 (List.map zB a1))))),(8,(oI (a1.length:Int))),(9,(oI s4.2))] [(320192,(.data 1 (List.map zt s4.1) true none))] (lk [])) H ((zI [] (SL.cons eZ rfl (VWk.one (CWk.len (by first|(simp;done)|(simp;omega)|omega|(simp only[List.length_map];omega)))) (sR rfl rfl)) (blR rfl) (bkR rfl rfl rfl) GK.nil).trans (zlq 320192 1 3 true rfl nZ)) ?_))))))
  intro kb5 s4 H
  unfold XY at H
  refine aV (qi rfl rfl (xQ (aS ?_)))
  rcases zA H with⟨h6,H⟩|⟨h6,H⟩
  ·refine zi eZ (dT h6) (AW.skip (TQ.qn (aS (AW.block (aS (zW (zw ?_)))))))
   obtain⟨v7,h8,H⟩:=zk H
   refine qt rfl rfl h8 (zm (zw (zZ (es:=(jQ v7)) eZ rfl (zm (zw (Zh (n:=320) (m:=2) rfl rfl (nR rfl) (zm (zw (zO (es:=(jQ v7)) eZ rfl rfl rfl bZ rfl (zm (z7 (xQ (aR (za rfl (zf (m:=0) rfl rfl (zl (q:=0) (c:=(dI v7.Tx)) eZ bZ rfl rfl (za3 (m:=1024) (q:=1) (cs:=[(dI v7.Tx)]) rfl (jN eZ kD) rfl (List.cons_ne_nil _ _) (by simp) (nR rfl) ?_)))))))))))))))))
   obtain⟨h9,H⟩:=z6 H
   exact zi3 (f:=zt) (xs:=s4.1) (ys:=[v7.Tx]) (q:=(s4.1++([v7.Tx])).length) rfl eZ (bR rfl) rfl (El.one (f:=zt) (t:=v7.Tx) (es:=[(.int .i64 v7.Tx)]) bZ rfl rfl rfl) rfl h9 (by decide) (by decide) (erL.cons (v':=(.one (.sl 1024 0 1))) rfl (erL.cons (v':=(oI v7.Tx)) rfl (erL.cons (v':=(.one (.ptr (.nm 320 0 0)))) rfl (erL.cons (v':=(.one .any)) rfl (erL.cons (v':=(.one (.ptr (.nm 320 0 0)))) rfl (erL.cons (v':=(.agg (jQ v7))) rfl (erL.cons (v':=(.one (.ptr (.bd (zB v7) 0)))) rfl (erL.cons (v':=(oB (decide (s4.2 < (a1.length:Int))))) rfl (erL.cons (v':=(.one .any)) rfl (erL.cons (v':=(.one (.d (.sl 2 (List.map zB a1))))) rfl (erL.cons (v':=(oI (a1.length:Int))) rfl (erL.cons (v':=(oI s4.2)) rfl erL.nil)))))))))))) (erH.cons (v':=(.vars 1 [(dI v7.Tx)])) rfl rfl (erH.cons (v':=(.vars 2 (jQ v7))) rfl rfl (erH.cons (v':=(.vars 2 [(dI 0),.zs])) rfl rfl (erH.drop rfl erH.nil)))) GK.nil (za eZ (zm (BQ.qn (TQ.qn (aR (qg rfl eC (za eZ (zm (TQ.qn ⟨((s4.1++([v7.Tx])),(IntKind.wrap .i64 (s4.2+1))),H,(zI [1024,320] (sR rfl rfl) (blR rfl) (bkR rfl rfl rfl) GK.nil)⟩)))))))))
  ·exact zh eZ (dF h6) (AW.exit (TQ.qe (TQ.qe (BQ.qe (TQ.qn ⟨s4.1,H,((zI [] (sR rfl rfl) (blR rfl) (bkR rfl rfl rfl) GK.nil).trans (Ky 320192 320128 rfl rfl (nR rfl) GR.nil))⟩)))))
theorem XC{a1:(List Int)}{r:Bool}(H:yK a1=some r):Fn Tryz.prog 230 (lent [(.sl 1 (List.map zt a1))]) true [(.bool r)]:=by
 refine zGn (fle rfl) ?_
 rw[zx]
 refine AW.weaken (zg [] (kv 0 (.one (.d (.sl 1 (List.map zt a1)))) rfl rfl SL.nil) BL.nil BK.nil) ?_
 unfold yK at H
 unfold zBf
 refine aV (za eC (xQ (zE (fun t2:Unit=>kO t2=some r) (fun t2=>mk [] [] noG) ?_ ?_)))
 ·intro t2 H
  unfold kO at H
  refine aV (za eC (xQ (AW.ret ?_)))
  cases H
  exact eE rfl rfl
 ·refine aV (za rfl (zX eZ (n:=a1.length) lm (za eC (xQ (AW.block (AW.iter (fun s4:Int=>mk [(0,(.one (.d (.sl 1 (List.map zt a1))))),(5,(.one (.d (.sl 1 (List.map zt a1))))),(6,(oI (a1.length:Int))),(7,(oI s4))] [] noG) H (zg [] (sR rfl rfl) BL.nil BK.nil) ?_))))))
  intro kb5 s4 H
  unfold JF at H
  refine aV (qi rfl rfl (xQ (aS ?_)))
  rcases zA H with⟨h6,H⟩|⟨h6,H⟩
  ·refine zi eZ (dT h6) (AW.skip (TQ.qn (aS (AW.block (aV (za rfl ?_))))))
   obtain⟨v7,h8,H⟩:=zk H
   refine qt rfl rfl h8 (zY (e:=(.int .i64 v7)) eZ rfl (za rfl (za rfl (xQ (zE (fun t9:Bool=>(yY kb5 s4) t9=some r) (fun t9=>mk [(0,(.one (.d (.sl 1 (List.map zt a1))))),(5,(.one (.d (.sl 1 (List.map zt a1))))),(6,(oI (a1.length:Int))),(7,(oI s4)),(27,(oB t9))] [] noG) ?_ ?_)))))
   ·intro t9 H
    unfold yY at H
    rcases zA H with⟨h11,H⟩|⟨h11,H⟩
    ·refine zi rfl h11 (aV (za eC (xQ (AW.ret (BQ.qr (TQ.qr (TQ.qr (BQ.qr (TQ.qr ?_)))))))))
     cases H
     exact eE rfl rfl
    ·exact zh rfl (nt h11) (AW.skip (BQ.qn (TQ.qn (aR (qg rfl eC (za eZ (zm (TQ.qn ⟨(IntKind.wrap .i64 (s4+1)),H,(zg [] (sR rfl rfl) BL.nil BK.nil)⟩))))))))
   ·refine aR (za eZ ?_)
    obtain⟨v12,h13,H⟩:=zk H
    refine zD (u:=(oB v12)) eC Cl.fn (zem h13) (Ec eZ En) (Vc Vp Vn) rfl (qI eZ (za eZ ?_))
    rcases zA H with⟨h14,H⟩|⟨h14,H⟩
    ·refine gDo eZ (cN h14) (za rfl (gDo rfl (cN h14) (zaB eZ eC (gDo rfl (cN h14) (za eZ ?_)))))
     rcases zA H with⟨h15,H⟩|⟨h15,H⟩
     ·refine gDo eZ (dT h15) (za rfl (gDo rfl (dT h15) (za rfl (gDo rfl (dT h15) (zaF eZ eC (gDo rfl (dT h15) ?_))))))
      obtain⟨v16,h17,H⟩:=zk H
      exact qt rfl eZ h17 (gDo rfl (dT h15) (zY (e:=(.int .i64 v16)) eZ rfl (gDo rfl (dT h15) (za rfl (gDo rfl (dT h15) (XA rfl eZ (gDo rfl (cN h14) (zC rfl (dT h15) eZ (zJ rfl (cN h14) eZ (zm (TQ.qn ⟨(decide (v7≤v16)),H,(zg [] (sR rfl rfl) BL.nil BK.nil)⟩)))))))))))
     ·exact zb eZ (dF h15) rfl (zb rfl (dF h15) rfl (zb rfl (dF h15) rfl (zb rfl (dF h15) rfl (zb rfl (dF h15) rfl (zb rfl (dF h15) rfl (zb rfl (dF h15) rfl (gDo rfl (cN h14) (zJ rfl (dF h15) eC (zJ rfl (cN h14) eZ (zm (TQ.qn ⟨false,H,(zg [] (sR rfl rfl) BL.nil BK.nil)⟩)))))))))))
    ·exact zb eZ (cN (nt h14)) rfl (zb rfl (cN (nt h14)) rfl (zb rfl (cN (nt h14)) rfl (zG eZ rfl (zG rfl rfl (zG rfl rfl (zG rfl rfl (zG rfl rfl (zG rfl rfl (zG rfl rfl (zb rfl (cN (nt h14)) rfl (zC rfl (cN (nt h14)) eC (zm (TQ.qn ⟨true,H,(zg [] (sR rfl rfl) BL.nil BK.nil)⟩)))))))))))))
  ·exact zh eZ (dF h6) (AW.exit (TQ.qe (TQ.qe (BQ.qe (TQ.qn ⟨(),H,(zg [] SL.nil BL.nil BK.nil)⟩)))))
theorem zf5{a1:zo}{r:Bool}(H:Yo a1=some r):Fn Tryz.prog 229 (lent [(.agg (zR a1))]) true [(.bool r)]:=by
 refine zGv (fle rfl) ?_
 rw[zx]
 refine AW.weaken (t:=mk [(0,(.agg (zF a1)))] [] (lk [])) (zg [] (sR rfl rfl) BL.nil BK.nil) ?_
 unfold Yo at H
 unfold zEZ
 refine aV (qY (n:=64) (m:=9) (cs:=(zF a1)) rfl eZ rfl rfl nZ (za eC (xQ (zE (fun t2:Unit=>(xZ a1) t2=some r) (fun t2=>mk [(1,(.one (.ptr (.nm 64 0 0))))] [(64,(.vars 9 (zF a1)))] (lk [])) ?_ ?_))))
 ·intro t2 H
  unfold xZ at H
  refine aV (zf (m:=5) eZ rfl (zl (q:=5) (c:=(.d (.sl 2 (List.map zB a1.Helds)))) eZ bZ rfl rfl ?_))
  obtain⟨v4,h5,H⟩:=zk H
  refine zD (u:=(.one (.d (.sl 1 (List.map zt v4))))) eC Cl.fn (zcY h5) (Ec eZ En) (Vc Vp Vn) rfl ?_
  obtain⟨v6,h7,H⟩:=zk H
  refine zD (u:=(oB v6)) eC Cl.fn (XC h7) (Ec eZ En) (Vc Vp Vn) rfl (za eZ (xQ (AW.ret ?_)))
  cases H
  exact eE rfl rfl
 ·refine aV (zf (m:=5) rfl rfl (zl (q:=5) (c:=(.d (.sl 2 (List.map zB a1.Helds)))) eZ bZ rfl rfl (zX eZ (n:=a1.Helds.length) lm (za eC (xQ (AW.block (AW.iter (fun s8:Int=>mk [(1,(.one (.ptr (.nm 64 0 0)))),(6,(.one (.d (.sl 2 (List.map zB a1.Helds))))),(7,(oI (a1.Helds.length:Int))),(8,(oI s8))] [(64,(.vars 9 (zF a1)))] (lk [])) H (zI [] (sR rfl rfl) (blR rfl) (bkR rfl rfl rfl) GK.nil) ?_)))))))
  intro kb9 s8 H
  unfold xO at H
  refine aV (qi rfl rfl (xQ (aS ?_)))
  rcases zA H with⟨h10,H⟩|⟨h10,H⟩
  ·refine zi eZ (dT h10) (AW.skip (TQ.qn (aS (AW.block (aS (zW (zw ?_)))))))
   obtain⟨v11,h12,H⟩:=zk H
   refine qt rfl rfl h12 (zm (zw (zZ (es:=(jQ v11)) eZ rfl (zm (zw (Zh (n:=256) (m:=2) rfl rfl (nR rfl) (zm (zw (zO (es:=(jQ v11)) eZ rfl rfl rfl bZ rfl (zm (z7 (xQ (zE (fun t13:Bool=>(Qv kb9 s8) t13=some r) (fun t13=>mk [(1,(.one (.ptr (.nm 64 0 0)))),(6,(.one (.d (.sl 2 (List.map zB a1.Helds))))),(7,(oI (a1.Helds.length:Int))),(8,(oI s8)),(21,(oB t13))] [(64,(.vars 9 (zF a1)))] (lk [])) ?_ ?_)))))))))))))
   ·intro t13 H
    unfold Qv at H
    rcases zA H with⟨h15,H⟩|⟨h15,H⟩
    ·refine zi rfl h15 (aV (za eC (xQ (AW.ret (BQ.qr (TQ.qr (TQ.qr (BQ.qr (TQ.qr ?_)))))))))
     cases H
     exact eE rfl rfl
    ·exact zh rfl (nt h15) (AW.skip (BQ.qn (TQ.qn (aR (qg rfl eC (za eZ (zm (TQ.qn ⟨(IntKind.wrap .i64 (s8+1)),H,(zI [] (sR rfl rfl) (blR rfl) (bkR rfl rfl rfl) GK.nil)⟩))))))))
   ·refine aR (zf (m:=1) eZ rfl (zl (q:=1) (c:=(.d (.sl 2 (List.map zj v11.Writes)))) eZ bZ rfl rfl ?_))
    obtain⟨v16,h17,H⟩:=zk H
    refine zD (u:=(oB v16)) eC Cl.fn (zba h17) (Ec eZ En) (Vc Vp Vn) rfl (qI eZ (za eZ ?_))
    rcases zA H with⟨h18,H⟩|⟨h18,H⟩
    ·refine gDo eZ (cN h18) (zf (m:=1) rfl rfl (gDo rfl (cN h18) (zl (q:=1) (c:=(.d (.sl 2 (List.map zj v11.Writes)))) eZ bZ rfl rfl (gDo rfl (cN h18) (zbt (ps:=[(.nm 64 0 0),(.nm 256 0 0)]) (Ec rfl (Ec rfl En)) (gDo rfl (cN h18) ?_))))))
     obtain⟨v19,h20,H⟩:=zk H
     exact zD (u:=(oB v19)) eC Cl.fn (JZ h20) (Ec rfl (Ec eZ En)) (Vc Vp (Vc (VD.fn (PDs.cons (ZR (bR rfl) (CDs.plain (CDs.plain (CDs.plain (CDs.plain (CDs.plain (CDs.plain (CDs.plain (CDs.plain (CDs.plain CDs.nil)))))))))) (PDs.cons (ZR bZ (CDs.plain (CDs.plain CDs.nil))) PDs.nil))) Vn)) rfl (zJ rfl (cN h18) eZ (zm (TQ.qn ⟨v19,H,(zI [256] (sR rfl rfl) (blR rfl) (bkR rfl rfl rfl) GK.nil)⟩)))
    ·exact zb eZ (cN (nt h18)) rfl (zb rfl (cN (nt h18)) rfl (zb rfl (cN (nt h18)) rfl (zb rfl (cN (nt h18)) rfl (zC rfl (cN (nt h18)) eC (zm (TQ.qn ⟨true,H,(zI [256] (sR rfl rfl) (blR rfl) (bkR rfl rfl rfl) GK.nil)⟩))))))
  ·exact zh eZ (dF h10) (AW.exit (TQ.qe (TQ.qe (BQ.qe (TQ.qn ⟨(),H,(zI [] (sR rfl rfl) (blR rfl) (bkR rfl rfl rfl) GK.nil)⟩)))))
theorem kT{a1:(List ze)}{a2:ze}{r:Bool}(H:yP a1 a2=some r):Fn Tryz.prog 93 (lent [(.sl 2 (List.map zd a1)),(.agg (zd a2))]) true [(.bool r)]:=by
 refine f93 (fle rfl) ?_
 rw[zx]
 refine AW.weaken (zg [] (kv 0 (.one (.d (.sl 2 (List.map zd a1)))) rfl rfl (kv 1 (.agg [(dI a2.Lo),(dI a2.Hi)]) rfl rfl SL.nil)) BL.nil BK.nil) ?_
 unfold yP at H
 unfold i93
 refine aV (qY (n:=192) (m:=2) (cs:=[(dI a2.Lo),(dI a2.Hi)]) rfl rfl rfl rfl nZ (za eC (xQ (aV (zf (m:=0) rfl rfl (zl (q:=0) (c:=(dI a2.Lo)) eZ bZ rfl rfl (za eZ (xQ (zE (fun t3:Int=>(kc a2) t3=some r) (fun t3=>mk [(3,(.one (.ptr (.nm 192 0 0)))),(5,(oI t3))] [(192,(.vars 2 [(dI a2.Lo),(dI a2.Hi)]))] noG) ?_ ?_)))))))))
 ·intro t3 H
  unfold kc at H
  refine aV (za rfl (zf (m:=1) rfl rfl (zl (q:=1) (c:=(dI a2.Hi)) eZ bZ rfl rfl (XA rfl eZ (za eZ (xQ (AW.ret ?_)))))))
  cases H
  exact eE rfl rfl
 ·refine aV (za rfl (zX eZ (n:=a1.length) lm (za eC (xQ (AW.block (AW.iter (fun s5:(Int×Int)=>mk [(3,(.one (.ptr (.nm 192 0 0)))),(5,(oI s5.1)),(10,(.one (.d (.sl 2 (List.map zd a1))))),(11,(oI (a1.length:Int))),(12,(oI s5.2))] [(192,(.vars 2 [(dI a2.Lo),(dI a2.Hi)]))] noG) H (zg [] (sR rfl rfl) (blR rfl) (bkR rfl rfl rfl)) ?_))))))
  intro kb6 s5 H
  unfold kp at H
  refine aV (qi rfl rfl (xQ (aS ?_)))
  rcases zA H with⟨h7,H⟩|⟨h7,H⟩
  ·refine zi eZ (dT h7) (AW.skip (TQ.qn (aS (AW.block (aV ?_)))))
   obtain⟨v8,h9,H⟩:=zk H
   refine qt rfl rfl h9 (zZ (es:=[(dI v8.Lo),(dI v8.Hi)]) eZ rfl (Zh (n:=448) (m:=2) rfl rfl (nR rfl) (zO (es:=[(dI v8.Lo),(dI v8.Hi)]) eZ rfl rfl rfl bZ rfl (xQ (zE (fun t10:Bool=>(QL kb6 v8 s5) t10=some r) (fun t10=>mk [(3,(.one (.ptr (.nm 192 0 0)))),(5,(oI s5.1)),(7,(.one (.ptr (.nm 448 0 0)))),(10,(.one (.d (.sl 2 (List.map zd a1))))),(11,(oI (a1.length:Int))),(12,(oI s5.2)),(25,(oB t10))] [(192,(.vars 2 [(dI a2.Lo),(dI a2.Hi)])),(448,(.vars 2 [(dI v8.Lo),(dI v8.Hi)]))] noG) ?_ ?_)))))
   ·intro t10 H
    unfold QL at H
    rcases zA H with⟨h12,H⟩|⟨h12,H⟩
    ·exact zi rfl h12 (aR (zf (m:=1) rfl rfl (zl (q:=1) (c:=(dI v8.Hi)) eZ (bR rfl) rfl rfl (za eZ (zm (BQ.qn (TQ.qn (aR (qg rfl eC (za eZ (zm (TQ.qn ⟨(v8.Hi,(IntKind.wrap .i64 (s5.2+1))),H,(zg [448] (sR rfl rfl) (blR rfl) (bkR rfl rfl rfl))⟩))))))))))))
    ·exact zh rfl (nt h12) (AW.skip (BQ.qn (TQ.qn (aR (qg rfl eC (za eZ (zm (TQ.qn ⟨(s5.1,(IntKind.wrap .i64 (s5.2+1))),H,(zg [448] (sR rfl rfl) (blR rfl) (bkR rfl rfl rfl))⟩))))))))
   ·refine aR (zf (m:=0) eZ rfl (zl (q:=0) (c:=(dI v8.Lo)) eZ bZ rfl rfl (za rfl (zbj rfl eZ (za eZ ?_)))))
    rcases zA H with⟨h13,H⟩|⟨h13,H⟩
    ·exact gDo eZ (dT h13) (za rfl (gDo rfl (dT h13) (zf (m:=1) rfl rfl (gDo rfl (dT h13) (zl (q:=1) (c:=(dI v8.Hi)) eZ bZ rfl rfl (gDo rfl (dT h13) (qi rfl eZ (zC rfl (dT h13) eZ (zm (TQ.qn ⟨(decide (s5.1 < v8.Hi)),H,(zg [] (sR rfl rfl) (blR rfl) (bkR rfl rfl rfl))⟩))))))))))
    ·exact zb eZ (dF h13) rfl (zb rfl (dF h13) rfl (zb rfl (dF h13) rfl (zb rfl (dF h13) rfl (zJ rfl (dF h13) eC (zm (TQ.qn ⟨false,H,(zg [] (sR rfl rfl) (blR rfl) (bkR rfl rfl rfl))⟩))))))
  ·exact zh eZ (dF h7) (AW.exit (TQ.qe (TQ.qe (BQ.qe (TQ.qn ⟨s5.1,H,(zg [] (sR rfl rfl) (blR rfl) (bkR rfl rfl rfl))⟩)))))
theorem zd9{a1:ze}{a2:zo}{r:Bool}(H:QR a1 a2=some r):Fn Tryz.prog 231 (lent [(.agg (zd a1)),(.ptr (zR a2))]) true [(.bool r)]:=by
 refine zF2 (fle rfl) ?_
 rw[zx]
 refine AW.weaken (zg [] (kv 0 (.agg [(dI a1.Lo),(dI a1.Hi)]) rfl rfl (SL.cons (v:=(.one (.ptr (.bd (zR a2) 0)))) (eS rfl eZ) rfl (VWk.one CWk.ptr) SL.nil)) BL.nil BK.nil) ?_
 unfold QR at H
 unfold zCJ
 refine aV (qY (n:=128) (m:=2) (cs:=[(dI a1.Lo),(dI a1.Hi)]) rfl eZ rfl rfl nZ (za eC (xQ (aV (qa (m:=1) rfl rfl (zY (e:=(.sl 2 (List.map zd a2.Own))) eZ rfl (zM (es:=[(dI a1.Lo),(dI a1.Hi)]) rfl bZ rfl ?_)))))))
 obtain⟨v3,h4,H⟩:=zk H
 refine zD (u:=(oB v3)) eC Cl.fn (kT h4) (Ec rfl (Ec eZ En)) (Vc Vp (Vc (VD.agg rfl) Vn)) rfl (qI eZ (za eZ (xQ (AW.ret ?_))))
 cases H
 exact eE rfl rfl
theorem xI{a1:(List ze)}{a2:zo}{r:Int}(H:jo a1 a2=some r):Fn Tryz.prog 284 (lent [(.sl 2 (List.map zd a1)),(.fn 231 [.ptr (zR a2)])]) true [(.int .i64 r)]:=by
 refine zxE (fle rfl) ?_
 rw[zx]
 refine AW.weaken (zg [] (kv 0 (.one (.d (.sl 2 (List.map zd a1)))) rfl rfl (SL.cons (v:=(.one (.fn 231 [(.bd (zR a2) 0)]))) (eS rfl eZ) rfl (VWk.one (CWk.fn (css:=[zR a2]))) SL.nil)) BL.nil BK.nil) ?_
 unfold jo at H
 unfold znu
 refine aV (za eC (xQ (zE (fun t3:Unit=>j0 t3=some r) (fun t3=>mk [] [] noG) ?_ ?_)))
 ·intro t3 H
  unfold j0 at H
  refine aV (za eC (xQ (AW.ret ?_)))
  cases H
  exact eE rfl rfl
 ·refine aV (za rfl (zX eZ (n:=a1.length) lm (za eC (xQ (AW.block (AW.iter (fun s5:Int=>mk [(0,(.one (.d (.sl 2 (List.map zd a1))))),(1,(.one (.fn 231 [(.bd (zR a2) 0)]))),(7,(oI (a1.length:Int))),(8,(oI s5))] [] noG) H (zg [] (sR rfl rfl) BL.nil BK.nil) ?_))))))
  intro kb6 s5 H
  unfold jj at H
  refine aV (qi rfl rfl (xQ (aS ?_)))
  rcases zA H with⟨h7,H⟩|⟨h7,H⟩
  ·refine zi eZ (dT h7) (AW.skip (TQ.qn (aS (AW.block (aV (za rfl (za eZ (xQ (aV (za rfl (za rfl (za rfl ?_))))))))))))
   obtain⟨v8,h9,H⟩:=zk H
   refine qt rfl eZ h9 (zZ (es:=[(dI v8.Lo),(dI v8.Hi)]) eZ rfl ?_)
   obtain⟨v10,h11,H⟩:=zk H
   refine zD (u:=(oB v10)) rfl Cl.fn (zd9 h11) (Ec eZ En) (Vc (VD.agg rfl) (Vc qX Vn)) rfl (xQ ?_)
   rcases zA H with⟨h12,H⟩|⟨h12,H⟩
   ·refine zi eZ h12 (aV (za rfl (za eZ (xQ (AW.ret (BQ.qr (TQ.qr (TQ.qr (BQ.qr (TQ.qr ?_))))))))))
    cases H
    exact eE rfl rfl
   ·exact zh eZ (nt h12) (AW.skip (BQ.qn (TQ.qn (aR (qg rfl eC (za eZ (zm (TQ.qn ⟨(IntKind.wrap .i64 (s5+1)),H,(zg [] (sR rfl rfl) BL.nil BK.nil)⟩))))))))
  ·exact zh eZ (dF h7) (AW.exit (TQ.qe (TQ.qe (BQ.qe (TQ.qn ⟨(),H,(zg [] SL.nil BL.nil BK.nil)⟩)))))
theorem Yg{a1:(List ze)}{a2:zo}{r:Bool}(H:qw a1 a2=some r):Fn Tryz.prog 201 (lent [(.sl 2 (List.map zd a1)),(.fn 231 [.ptr (zR a2)])]) true [(.bool r)]:=by
 refine zpJ (fle rfl) ?_
 rw[zx]
 refine AW.weaken (zg [] (kv 0 (.one (.d (.sl 2 (List.map zd a1)))) rfl rfl (SL.cons (v:=(.one (.fn 231 [(.bd (zR a2) 0)]))) (eS rfl eZ) rfl (VWk.one (CWk.fn (css:=[zR a2]))) SL.nil)) BL.nil BK.nil) ?_
 unfold qw at H
 unfold zmX
 refine aV (za eC (xQ (aV (za rfl (za rfl ?_)))))
 obtain⟨v3,h4,H⟩:=zk H
 refine zD (u:=(oI v3)) eC Cl.fn (xI h4) (Ec rfl (Ec eZ En)) (Vc Vp (Vc (VD.fn (PDs.cons qX PDs.nil)) Vn)) rfl (XA eZ eC (za eZ (xQ (AW.ret ?_))))
 cases H
 exact eE rfl rfl
theorem zd3{a1:zn}{a2:zo}{r:Bool}(H:QJ a1 a2=some r):Fn Tryz.prog 233 (lent [(.agg (zj a1)),(.ptr (zR a2))]) true [(.bool r)]:=by
 refine zGm (fle rfl) ?_
 rw[zx]
 refine AW.weaken (zg [] (kv 0 (.agg [(dI a1.Key),(dI a1.Value)]) rfl rfl (SL.cons (v:=(.one (.ptr (.bd (zR a2) 0)))) (eS rfl eZ) rfl (VWk.one CWk.ptr) SL.nil)) BL.nil BK.nil) ?_
 unfold QJ at H
 unfold zBC
 refine aV (qY (n:=128) (m:=2) (cs:=[(dI a1.Key),(dI a1.Value)]) rfl eZ rfl rfl nZ (za eC (xQ (aS (AW.regd (qa (m:=1) rfl rfl (zY (e:=(.sl 2 (List.map zd a2.Own))) eZ rfl (zf (m:=0) rfl rfl (zl (q:=0) (c:=(dI a1.Key)) eZ bZ rfl rfl ?_)))))))))
 obtain⟨v3,h4,H⟩:=zk H
 refine zD (u:=(.agg [(dI v3.Lo),(dI v3.Hi)])) eC Cl.fn (zf2 h4) (Ec eZ En) (Vc Vp Vn) rfl ?_
 obtain⟨v5,h6,H⟩:=zk H
 refine zD (u:=(oB v5)) eC Cl.fn (kT h6) (Ec rfl (Ec eZ En)) (Vc Vp (Vc (VD.agg rfl) Vn)) rfl (qI eZ (za eZ (xQ (AW.ret ?_))))
 cases H
 exact eE rfl rfl
theorem ks{a1:(List zn)}{a2:zo}{r:Int}(H:jz a1 a2=some r):Fn Tryz.prog 303 (lent [(.sl 2 (List.map zj a1)),(.fn 233 [.ptr (zR a2)])]) true [(.int .i64 r)]:=by
 refine zCT (fle rfl) ?_
 rw[zx]
 refine AW.weaken (zg [] (kv 0 (.one (.d (.sl 2 (List.map zj a1)))) rfl rfl (SL.cons (v:=(.one (.fn 233 [(.bd (zR a2) 0)]))) (eS rfl eZ) rfl (VWk.one (CWk.fn (css:=[zR a2]))) SL.nil)) BL.nil BK.nil) ?_
 unfold jz at H
 unfold zvi
 refine aV (za eC (xQ (zE (fun t3:Unit=>j8 t3=some r) (fun t3=>mk [] [] noG) ?_ ?_)))
 ·intro t3 H
  unfold j8 at H
  refine aV (za eC (xQ (AW.ret ?_)))
  cases H
  exact eE rfl rfl
 ·refine aV (za rfl (zX eZ (n:=a1.length) lm (za eC (xQ (AW.block (AW.iter (fun s5:Int=>mk [(0,(.one (.d (.sl 2 (List.map zj a1))))),(1,(.one (.fn 233 [(.bd (zR a2) 0)]))),(7,(oI (a1.length:Int))),(8,(oI s5))] [] noG) H (zg [] (sR rfl rfl) BL.nil BK.nil) ?_))))))
  intro kb6 s5 H
  unfold js at H
  refine aV (qi rfl rfl (xQ (aS ?_)))
  rcases zA H with⟨h7,H⟩|⟨h7,H⟩
  ·refine zi eZ (dT h7) (AW.skip (TQ.qn (aS (AW.block (aV (za rfl (za eZ (xQ (aV (za rfl (za rfl (za rfl ?_))))))))))))
   obtain⟨v8,h9,H⟩:=zk H
   refine qt rfl eZ h9 (zZ (es:=[(dI v8.Key),(dI v8.Value)]) eZ rfl ?_)
   obtain⟨v10,h11,H⟩:=zk H
   refine zD (u:=(oB v10)) rfl Cl.fn (zd3 h11) (Ec eZ En) (Vc (VD.agg rfl) (Vc qX Vn)) rfl (xQ ?_)
   rcases zA H with⟨h12,H⟩|⟨h12,H⟩
   ·refine zi eZ h12 (aV (za rfl (za eZ (xQ (AW.ret (BQ.qr (TQ.qr (TQ.qr (BQ.qr (TQ.qr ?_))))))))))
    cases H
    exact eE rfl rfl
   ·exact zh eZ (nt h12) (AW.skip (BQ.qn (TQ.qn (aR (qg rfl eC (za eZ (zm (TQ.qn ⟨(IntKind.wrap .i64 (s5+1)),H,(zg [] (sR rfl rfl) BL.nil BK.nil)⟩))))))))
  ·exact zh eZ (dF h7) (AW.exit (TQ.qe (TQ.qe (BQ.qe (TQ.qn ⟨(),H,(zg [] SL.nil BL.nil BK.nil)⟩)))))
theorem YT{a1:(List zn)}{a2:zo}{r:Bool}(H:qB a1 a2=some r):Fn Tryz.prog 232 (lent [(.sl 2 (List.map zj a1)),(.fn 233 [.ptr (zR a2)])]) true [(.bool r)]:=by
 refine zGc (fle rfl) ?_
 rw[zx]
 refine AW.weaken (zg [] (kv 0 (.one (.d (.sl 2 (List.map zj a1)))) rfl rfl (SL.cons (v:=(.one (.fn 233 [(.bd (zR a2) 0)]))) (eS rfl eZ) rfl (VWk.one (CWk.fn (css:=[zR a2]))) SL.nil)) BL.nil BK.nil) ?_
 unfold qB at H
 unfold zBS
 refine aV (za eC (xQ (aV (za rfl (za rfl ?_)))))
 obtain⟨v3,h4,H⟩:=zk H
 refine zD (u:=(oI v3)) eC Cl.fn (ks h4) (Ec rfl (Ec eZ En)) (Vc Vp (Vc (VD.fn (PDs.cons qX PDs.nil)) Vn)) rfl (XA eZ eC (za eZ (xQ (AW.ret ?_))))
 cases H
 exact eE rfl rfl
theorem zde{a1 r:List Int}{a2:Int}(H:Xm a1 a2=some r):Fn Tryz.prog 304 [⟨(.sl 1 []),.z⟩,⟨(.int .i64 a2),.b⟩] true [(.sl 1 (List.map zt r))]:=by
 obtain⟨⟨h1,h2⟩,H⟩:=z6 H
 cases H
 obtain⟨n,rfl⟩:∃n:Nat,a2=(n:Int):=⟨Int.toNat a2,by omega⟩
 exact zmQ zhB (by kernel_rfl) (by kernel_rfl) (by kernel_rfl) n (by omega)
theorem zcf{a1:(List (List Int))}{r:(List Int)}(H:Zj a1=some r):Fn Tryz.prog 235 (lent [(.sl 1 (List.map Qd a1))]) true [(.sl 1 (List.map zt r))]:=by
 refine zHs (fle rfl) ?_
 rw[zx]
 refine AW.weaken (t:=mk [(0,(.one (.d (.sl 1 (List.map Qd a1)))))] [] (lk [])) (zg [] (sR rfl rfl) BL.nil BK.nil) ?_
 unfold Zj at H
 unfold zDi
 refine aV (za eC (xQ (aV (za eC (xQ (zE (fun t2:Int=>(Z8 a1) t2=some r) (fun t2=>mk [(0,(.one (.d (.sl 1 (List.map Qd a1))))),(3,(oI t2))] [] (lk [])) ?_ ?_))))))
 ·intro t2 H
  unfold Z8 at H
  refine aS (zW (zw (za rfl (zm ?_))))
  obtain⟨v4,h5,H⟩:=zk H
  refine zlp (ON:=[]) (ls:=[]) (G:=[]) (E:=[]) (MB:=[]) (u:=(.one (.sl 1536 0 v4.length))) (bs:=[(1536,(.data 1 (List.map zt v4) true none))]) eC Cl.fn (zde h5) (Ec eC (Ec eZ En)) (AO.zs (AO.lent Vp rfl AO.nil)) rfl rfl rfl SZ.nil (erL.cons (v':=(oI t2)) rfl (erL.cons (v':=(.one (.d (.sl 1 (List.map Qd a1))))) rfl (erL.cons (v':=(oI t2)) rfl erL.nil))) erH.nil erL.nil (by simp[qZ,jC,qq,jn,qy]) rfl (fC nZ rfl (fC nZ rfl fN)) (z7 (za eZ (xQ (zE (fun t6:(List Int)=>Z4 t6=some r) (fun t6=>mk [(6,(.one (.sl 320128 0 t6.length)))] [(320128,(.data 1 (List.map zt t6) true none))] (lk [])) ?_ ?_))))
  ·intro t6 H
   unfold Z4 at H
   refine aV (za eZ (za eZ (xQ (AW.ret ?_))))
   obtain rfl:=(Option.some.inj H)
   exact qK (RL.cons (RV.tmp eZ) (VO.sl bZ lm (zy fun _=>rfl)) RL.nil) (by decide)
  ·refine aV (za rfl (zX eZ (n:=a1.length) lm (za eC (xQ (AW.block (AW.iter (fun s8:((List Int)×Int)=>mk [(6,(.one (.sl 320192 0 s8.1.length))),(25,(.one (.d (.sl 1 (List.map Qd a1))))),(26,(oI (a1.length:Int))),(27,(oI s8.2))] [(320192,(.data 1 (List.map zt s8.1) true none))] (lk [])) H ((zI [] (sR rfl rfl) (blR rfl) (bkR rfl rfl rfl) GK.nil).trans (Ky 1536 320192 rfl rfl (nR rfl) GR.nil)) ?_))))))
   intro kb9 s8 H
   unfold Qb at H
   refine aV (qi rfl rfl (xQ (aS ?_)))
   rcases zA H with⟨h10,H⟩|⟨h10,H⟩
   ·refine zi eZ (dT h10) (AW.skip (TQ.qn (aS (AW.block (aV ?_)))))
    obtain⟨v11,h12,H⟩:=zk H
    refine qt rfl rfl h12 (zY (e:=(.sl 1 (List.map zt v11))) eZ rfl (za eZ (xQ (aR (za rfl (za rfl ?_))))))
    obtain⟨h13,H⟩:=z6 H
    exact zi3 (f:=zt) (xs:=s8.1) (ys:=v11) (q:=(s8.1++v11).length) rfl eZ bZ rfl (El.lent fun _ _=>rfl) rfl h13 (by decide) (by decide) (erL.cons (v':=(.one (.d (.sl 1 (List.map zt v11))))) rfl (erL.cons (v':=(.one .any)) rfl (erL.cons (v':=(.one (.d (.sl 1 (List.map zt v11))))) rfl (erL.cons (v':=(.one (.d (.sl 1 (List.map zt v11))))) rfl (erL.cons (v':=(.one (.ptr (.bd (Qd v11) 0)))) rfl (erL.cons (v':=(oB (decide (s8.2 < (a1.length:Int))))) rfl (erL.cons (v':=(.one .any)) rfl (erL.cons (v':=(.one (.d (.sl 1 (List.map Qd a1))))) rfl (erL.cons (v':=(oI (a1.length:Int))) rfl (erL.cons (v':=(oI s8.2)) rfl erL.nil)))))))))) (erH.drop rfl erH.nil) GK.nil (za eZ (zm (BQ.qn (TQ.qn (aR (qg rfl eC (za eZ (zm (TQ.qn ⟨((s8.1++v11),(IntKind.wrap .i64 (s8.2+1))),H,(zI [] (sR rfl rfl) (blR rfl) (bkR rfl rfl rfl) GK.nil)⟩)))))))))
   ·exact zh eZ (dF h10) (AW.exit (TQ.qe (TQ.qe (BQ.qe (TQ.qn ⟨s8.1,H,((zI [] (sR rfl rfl) (blR rfl) (bkR rfl rfl rfl) GK.nil).trans (Ky 320192 320128 rfl rfl (nR rfl) GR.nil))⟩)))))
 ·refine aV (za rfl (zX eZ (n:=a1.length) lm (za eC (xQ (AW.block (AW.iter (fun s14:(Int×Int)=>mk [(0,(.one (.d (.sl 1 (List.map Qd a1))))),(3,(oI s14.1)),(9,(.one (.d (.sl 1 (List.map Qd a1))))),(10,(oI (a1.length:Int))),(11,(oI s14.2))] [] (lk [])) H (zI [] (sR rfl rfl) BL.nil BK.nil GK.nil) ?_))))))
  intro kb15 s14 H
  unfold ZQ at H
  refine aV (qi rfl rfl (xQ (aS ?_)))
  rcases zA H with⟨h16,H⟩|⟨h16,H⟩
  ·refine zi eZ (dT h16) (AW.skip (TQ.qn (aS (AW.block (aV ?_)))))
   obtain⟨v17,h18,H⟩:=zk H
   refine qt rfl rfl h18 (zY (e:=(.sl 1 (List.map zt v17))) eZ rfl (za eZ (xQ (aV (za rfl (za rfl (zX eZ (n:=v17.length) lm (qg rfl eZ (za eZ (xQ (aV (za eZ (qi eZ eC (xQ (AW.weaken (zI [] (kr 20 rfl rfl (kr 3 rfl rfl (kr 0 rfl rfl (kr 9 rfl rfl (kr 10 rfl rfl (kr 11 rfl rfl SL.nil)))))) BL.nil BK.nil GK.nil) ?_)))))))))))))))
   rcases zA H with⟨h19,H⟩|⟨h19,H⟩
   ·refine zi eZ (dT h19) (aR ?_)
    cases H
   ·exact zh eZ (dF h19) (AW.skip (BQ.qn (TQ.qn (aR (qg rfl eC (za eZ (zm (TQ.qn ⟨((IntKind.wrap .i64 (s14.1+(v17.length:Int))),(IntKind.wrap .i64 (s14.2+1))),H,(zI [] (sR rfl rfl) BL.nil BK.nil GK.nil)⟩))))))))
  ·exact zh eZ (dF h16) (AW.exit (TQ.qe (TQ.qe (BQ.qe (TQ.qn ⟨s14.1,H,(zI [] (sR rfl rfl) BL.nil BK.nil GK.nil)⟩)))))
theorem zcz{a1:(List Int)}{a2:Int}{r:Int}(H:Jc a1 a2=some r):Fn Tryz.prog 125 (lent [(.sl 1 (List.map zt a1)),(.int .i64 a2)]) true [(.int .i64 r)]:=by
 refine f125 (fle rfl) ?_
 rw[zx]
 refine AW.weaken (zg [] (kv 0 (.one (.d (.sl 1 (List.map zt a1)))) rfl rfl (kv 1 (oI a2) rfl rfl SL.nil)) BL.nil BK.nil) ?_
 unfold Jc at H
 unfold zC3
 refine aV (za eC (xQ (zE (fun t3:Unit=>xt t3=some r) (fun t3=>mk [] [] noG) ?_ ?_)))
 ·intro t3 H
  unfold xt at H
  refine aV (za eC (xQ (AW.ret ?_)))
  cases H
  exact eE rfl rfl
 ·refine aV (za rfl (zX eZ (n:=a1.length) lm (za eC (xQ (AW.block (AW.iter (fun s5:Int=>mk [(0,(.one (.d (.sl 1 (List.map zt a1))))),(1,(oI a2)),(7,(oI (a1.length:Int))),(8,(oI s5))] [] noG) H (zg [] (sR rfl rfl) BL.nil BK.nil) ?_))))))
  intro kb6 s5 H
  unfold Qi at H
  refine aV (qi rfl rfl (xQ (aS ?_)))
  rcases zA H with⟨h7,H⟩|⟨h7,H⟩
  ·refine zi eZ (dT h7) (AW.skip (TQ.qn (aS (AW.block (aV (za rfl (za eZ (xQ (aV (za rfl (za rfl (za rfl ?_))))))))))))
   obtain⟨v8,h9,H⟩:=zk H
   refine qt rfl eZ h9 (zY (e:=(.int .i64 v8)) eZ rfl (KG rfl eZ (xQ ?_)))
   rcases zA H with⟨h10,H⟩|⟨h10,H⟩
   ·refine zi eZ (dT h10) (aV (za rfl (za eZ (xQ (AW.ret (BQ.qr (TQ.qr (TQ.qr (BQ.qr (TQ.qr ?_))))))))))
    cases H
    exact eE rfl rfl
   ·exact zh eZ (dF h10) (AW.skip (BQ.qn (TQ.qn (aR (qg rfl eC (za eZ (zm (TQ.qn ⟨(IntKind.wrap .i64 (s5+1)),H,(zg [] (sR rfl rfl) BL.nil BK.nil)⟩))))))))
  ·exact zh eZ (dF h7) (AW.exit (TQ.qe (TQ.qe (BQ.qe (TQ.qn ⟨(),H,(zg [] SL.nil BL.nil BK.nil)⟩)))))
theorem zbh{a1:(List Int)}{a2:Int}{r:Bool}(H:yG a1 a2=some r):Fn Tryz.prog 124 (lent [(.sl 1 (List.map zt a1)),(.int .i64 a2)]) true [(.bool r)]:=by
 refine zGl (fle rfl) ?_
 rw[zx]
 refine AW.weaken (zg [] (kv 0 (.one (.d (.sl 1 (List.map zt a1)))) rfl rfl (kv 1 (oI a2) rfl rfl SL.nil)) BL.nil BK.nil) ?_
 unfold yG at H
 unfold zAL
 refine aV (za eC (xQ (aV (za rfl (za rfl ?_)))))
 obtain⟨v3,h4,H⟩:=zk H
 refine zD (u:=(oI v3)) eC Cl.fn (zcz h4) (Ec rfl (Ec eZ En)) (Vc Vp (Vc Vp Vn)) rfl (XA eZ eC (za eZ (xQ (AW.ret ?_))))
 cases H
 exact eE rfl rfl
theorem zed{a1:zL}{a2:zo}{a3:(List Int)}{r:Bool}(H:QA a1 a2 a3=some r):Fn Tryz.prog 236 (lent [(.agg (zp a1)),(.ptr (zR a2)),(.ptr (Qd a3))]) true [(.bool r)]:=by
 refine zGB (fle rfl) ?_
 rw[zx]
 refine AW.weaken (zg [] (kv 0 (.agg (qj a1)) rfl rfl (SL.cons (v:=(.one (.ptr (.bd (zR a2) 0)))) (eS rfl eZ) rfl (VWk.one CWk.ptr) (SL.cons (v:=(.one (.ptr (.bd (Qd a3) 0)))) (eS rfl (eS rfl eZ)) rfl (VWk.one CWk.ptr) SL.nil))) BL.nil BK.nil) ?_
 unfold QA at H
 unfold zAY
 refine aV (qY (n:=192) (m:=4) (cs:=(qj a1)) rfl eZ rfl rfl nZ (za eC (xQ (aS (AW.regd (qa (m:=1) rfl rfl (zY (e:=(.sl 2 (List.map zd a2.Own))) eZ rfl (zM (es:=(qj a1)) rfl bZ rfl ?_))))))))
 obtain⟨v4,h5,H⟩:=zk H
 refine zD (u:=(.agg [(dI v4.Lo),(dI v4.Hi)])) eC Cl.fn (yL h5) (Ec eZ En) (Vc (VD.agg rfl) Vn) rfl ?_
 obtain⟨v6,h7,H⟩:=zk H
 refine zD (u:=(oB v6)) eC Cl.fn (kT h7) (Ec rfl (Ec eZ En)) (Vc Vp (Vc (VD.agg rfl) Vn)) rfl (qI eZ (za eZ ?_))
 rcases zA H with⟨h8,H⟩|⟨h8,H⟩
 ·refine gDo eZ (cN h8) (zY (e:=(.sl 1 (List.map zt a3))) rfl rfl (gDo rfl (cN h8) (zf (m:=0) rfl rfl (gDo rfl (cN h8) (zl (q:=0) (c:=(dI a1.Tx)) eZ bZ rfl rfl (gDo rfl (cN h8) ?_))))))
  obtain⟨v9,h10,H⟩:=zk H
  refine zD (u:=(oB v9)) eC Cl.fn (zbh h10) (Ec rfl (Ec eZ En)) (Vc Vp (Vc Vp Vn)) rfl (zJ rfl (cN h8) eZ (za eZ (xQ (AW.weaken (zg [192] (kr 4 rfl rfl SL.nil) (blR rfl) BK.nil) (AW.ret ?_)))))
  cases H
  exact eE rfl rfl
 ·refine zb eZ (cN (nt h8)) rfl (zb rfl (cN (nt h8)) rfl (zb rfl (cN (nt h8)) rfl (zb rfl (cN (nt h8)) rfl (zC rfl (cN (nt h8)) eC (za eZ (xQ (AW.weaken (zg [192] (kr 4 rfl rfl SL.nil) (blR rfl) BK.nil) (AW.ret ?_))))))))
  cases H
  exact eE rfl rfl
theorem kA{a1:(List zL)}{a2:zo}{a3:(List Int)}{r:Int}(H:jx a1 a2 a3=some r):Fn Tryz.prog 216 (lent [(.sl 4 (List.map zp a1)),(.fn 236 [.ptr (zR a2),.ptr (Qd a3)])]) true [(.int .i64 r)]:=by
 refine f216 (fle rfl) ?_
 rw[zx]
 refine AW.weaken (zg [] (kv 0 (.one (.d (.sl 4 (List.map zp a1)))) rfl rfl (SL.cons (v:=(.one (.fn 236 [(.bd (zR a2) 0),(.bd (Qd a3) 0)]))) (eS rfl eZ) rfl (VWk.one (CWk.fn (css:=[zR a2,Qd a3]))) SL.nil)) BL.nil BK.nil) ?_
 unfold jx at H
 unfold zkW
 refine aV (za eC (xQ (zE (fun t4:Unit=>j9 t4=some r) (fun t4=>mk [] [] noG) ?_ ?_)))
 ·intro t4 H
  unfold j9 at H
  refine aV (za eC (xQ (AW.ret ?_)))
  cases H
  exact eE rfl rfl
 ·refine aV (za rfl (zX eZ (n:=a1.length) lm (za eC (xQ (AW.block (AW.iter (fun s6:Int=>mk [(0,(.one (.d (.sl 4 (List.map zp a1))))),(1,(.one (.fn 236 [(.bd (zR a2) 0),(.bd (Qd a3) 0)]))),(7,(oI (a1.length:Int))),(8,(oI s6))] [] noG) H (zg [] (sR rfl rfl) BL.nil BK.nil) ?_))))))
  intro kb7 s6 H
  unfold jq at H
  refine aV (qi rfl rfl (xQ (aS ?_)))
  rcases zA H with⟨h8,H⟩|⟨h8,H⟩
  ·refine zi eZ (dT h8) (AW.skip (TQ.qn (aS (AW.block (aV (za rfl (za eZ (xQ (aV (za rfl (za rfl (za rfl ?_))))))))))))
   obtain⟨v9,h10,H⟩:=zk H
   refine qt rfl eZ h10 (zZ (es:=(qj v9)) eZ rfl ?_)
   obtain⟨v11,h12,H⟩:=zk H
   refine zD (u:=(oB v11)) rfl Cl.fn (zed h12) (Ec eZ En) (Vc (VD.agg rfl) (Vc qX (Vc qX Vn))) rfl (xQ ?_)
   rcases zA H with⟨h13,H⟩|⟨h13,H⟩
   ·refine zi eZ h13 (aV (za rfl (za eZ (xQ (AW.ret (BQ.qr (TQ.qr (TQ.qr (BQ.qr (TQ.qr ?_))))))))))
    cases H
    exact eE rfl rfl
   ·exact zh eZ (nt h13) (AW.skip (BQ.qn (TQ.qn (aR (qg rfl eC (za eZ (zm (TQ.qn ⟨(IntKind.wrap .i64 (s6+1)),H,(zg [] (sR rfl rfl) BL.nil BK.nil)⟩))))))))
  ·exact zh eZ (dF h8) (AW.exit (TQ.qe (TQ.qe (BQ.qe (TQ.qn ⟨(),H,(zg [] SL.nil BL.nil BK.nil)⟩)))))
theorem xf{a1:(List zL)}{a2:zo}{a3:(List Int)}{r:Bool}(H:qA a1 a2 a3=some r):Fn Tryz.prog 110 (lent [(.sl 4 (List.map zp a1)),(.fn 236 [.ptr (zR a2),.ptr (Qd a3)])]) true [(.bool r)]:=by
 refine zmL (fle rfl) ?_
 rw[zx]
 refine AW.weaken (zg [] (kv 0 (.one (.d (.sl 4 (List.map zp a1)))) rfl rfl (SL.cons (v:=(.one (.fn 236 [(.bd (zR a2) 0),(.bd (Qd a3) 0)]))) (eS rfl eZ) rfl (VWk.one (CWk.fn (css:=[zR a2,Qd a3]))) SL.nil)) BL.nil BK.nil) ?_
 unfold qA at H
 unfold zkY
 refine aV (za eC (xQ (aV (za rfl (za rfl ?_)))))
 obtain⟨v4,h5,H⟩:=zk H
 refine zD (u:=(oI v4)) eC Cl.fn (kA h5) (Ec rfl (Ec eZ En)) (Vc Vp (Vc (VD.fn (PDs.cons qX (PDs.cons qX PDs.nil))) Vn)) rfl (XA eZ eC (za eZ (xQ (AW.ret ?_))))
 cases H
 exact eE rfl rfl
theorem zdw{a1 r:List Int}(H:Xo a1=some r):Fn Tryz.prog 237 [⟨(.sl 1 (List.map zt a1)),.m (.sl 1 (List.map zt r))⟩] true []:=by
 obtain⟨h,H⟩:=z6 H
 cases H
 exact zmC zhA (by kernel_rfl) (by kernel_rfl) a1 (by omega)
theorem kz{a1:(List Int)}{r:(List Int)}(H:yi a1=some r):Fn Tryz.prog 206 (lent [(.sl 1 (List.map zt a1))]) true [(.sl 1 (List.map zt r))]:=by
 refine zGz (fle rfl) ?_
 rw[zx]
 refine AW.weaken (zg [] (kv 0 (.one (.d (.sl 1 (List.map zt a1)))) rfl rfl SL.nil) BL.nil BK.nil) ?_
 unfold yi at H
 unfold zz5
 refine aV (za eC (xQ (zE (fun t2:Unit=>(yw a1) t2=some r) (fun t2=>mk [(0,(.one (.d (.sl 1 (List.map zt a1)))))] [] noG) ?_ ?_)))
 ·intro t2 H
  unfold yw at H
  refine aV (yF (m:=320) rfl nZ (za rfl ?_))
  obtain⟨h4,H⟩:=z6 H
  refine zbf (f:=zt) (m:=448) (own:=true) (ys:=a1) (q:=a1.length) rfl rfl rfl eZ (El.lent fun _ _=>rfl) rfl h4 (by decide) nZ (za eZ (xQ (AW.ret ?_)))
  obtain rfl:=(Option.some.inj H)
  exact qK (RL.cons (RV.tmp eZ) (VO.sl bZ lm (zy fun _=>rfl)) RL.nil) (by decide)
 ·refine aV (za rfl ?_)
  rcases zA H with⟨h5,H⟩|⟨h5,H⟩
  ·refine zfr eZ h5 (xQ (AW.condU eZ ?_ ?_))
   ·have H:(some ([]:(List Int)))=some r:=by rw[←H];simp[List.eq_nil_of_length_eq_zero h5,yw]
    refine aV (za eC (xQ (AW.ret (TQ.qr ?_))))
    cases H
    exact qK (RL.cons (RV.tmp eZ) VO.zs RL.nil) List.nodup_nil
   ·exact AW.skip (TQ.qn ⟨(),H,(zg [] (sR rfl rfl) BL.nil BK.nil)⟩)
  ·exact zhF eZ h5 (xQ (zh eZ rfl (AW.skip (TQ.qn ⟨(),H,(zg [] (sR rfl rfl) BL.nil BK.nil)⟩))))
theorem zbo{a1 r:List Int}(H:JW a1=some r):Fn Tryz.prog 238 [⟨(.sl 1 (List.map zt a1)),.g⟩] true [(.sl 1 (List.map zt r))]:=by
 obtain⟨h,H⟩:=z6 H
 cases H
 exact ziW zgc (by kernel_rfl) (by kernel_rfl) a1 (by omega)
theorem zaD{a1:zn}{a2:Int}{r:Int}(H:ZB a1 a2=some r):Fn Tryz.prog 390 (lent [(.agg (zj a1)),(.int .i64 a2)]) true [(.int .i64 r)]:=by
 refine zFU (fle rfl) ?_
 rw[zx]
 refine AW.weaken (zg [] (kv 0 (.agg [(dI a1.Key),(dI a1.Value)]) rfl rfl (kv 1 (oI a2) rfl rfl SL.nil)) BL.nil BK.nil) ?_
 unfold ZB at H
 unfold zzU
 refine aV (qY (n:=128) (m:=2) (cs:=[(dI a1.Key),(dI a1.Value)]) rfl eZ rfl rfl nZ (za eC (xQ (aV (zf (m:=0) rfl rfl (zl (q:=0) (c:=(dI a1.Key)) eZ bZ rfl rfl (za rfl (zaF rfl eZ (za eZ (xQ (AW.ret ?_)))))))))))
 cases H
 exact eE rfl rfl
theorem Qg{a1:(List zn)}{a2:Int}{r:(Int×Bool)}(H:qx a1 a2=some r):Fn Tryz.prog 389 (lent [(.sl 2 (List.map zj a1)),(.int .i64 a2),(.fn 390 [])]) true [(.int .i64 r.1),(.bool r.2)]:=by
 refine zGL (fle rfl) ?_
 rw[zx]
 refine AW.weaken (zg [] (kv 0 (.one (.d (.sl 2 (List.map zj a1)))) rfl rfl (kv 1 (oI a2) rfl rfl (SL.cons (v:=(.one (.fn 390 []))) (eS rfl (eS rfl eZ)) rfl (VWk.one (CWk.fn (css:=[]))) SL.nil))) BL.nil BK.nil) ?_
 unfold qx at H
 unfold zAj
 refine aV (za eC (za eC (xQ (aV (za rfl (zX eZ (n:=a1.length) lm (za eZ (xQ (aV (za eZ (za eC (za rfl (xQ (zE (fun t3:Int=>(zV a1 a2) t3=some r) (fun t3=>mk [(0,(.one (.d (.sl 2 (List.map zj a1))))),(1,(oI a2)),(2,(.one (.fn 390 []))),(8,(oI (a1.length:Int))),(9,(oI t3))] [] noG) ?_ ?_))))))))))))))
 ·intro t3 H
  unfold zV at H
  refine aV (za rfl (za rfl (za rfl (qi rfl eZ (za eZ ?_)))))
  rcases zA H with⟨h5,H⟩|⟨h5,H⟩
  ·refine gDo eZ (dT h5) (za rfl (gDo rfl (dT h5) (za rfl (gDo rfl (dT h5) (za rfl (gDo rfl (dT h5) ?_))))))
   obtain⟨v6,h7,H⟩:=zk H
   refine qt rfl eZ h7 (gDo rfl (dT h5) (zZ (es:=[(dI v6.Key),(dI v6.Value)]) eZ rfl (gDo rfl (dT h5) (za rfl (gDo rfl (dT h5) ?_)))))
   obtain⟨v8,h9,H⟩:=zk H
   refine zD (u:=(oI v8)) rfl Cl.fn (zaD h9) (Ec rfl (Ec eZ En)) (Vc (VD.agg rfl) (Vc Vp Vn)) rfl (gDo rfl (dT h5) (KG eZ eC (zC rfl (dT h5) eZ (za rfl (za rfl (xQ (AW.weaken (zg [] (kr 7 rfl rfl (kr 6 rfl rfl SL.nil)) BL.nil BK.nil) (AW.ret ?_))))))))
   cases H
   exact qK (RL.cons (RV.tmp rfl) (VO.flat rfl) (RL.cons (RV.tmp eZ) (VO.flat rfl) RL.nil)) List.nodup_nil
  ·refine zb eZ (dF h5) rfl (zb rfl (dF h5) rfl (zb rfl (dF h5) rfl (zb rfl (dF h5) rfl (zb rfl (dF h5) rfl (zb rfl (dF h5) rfl (zb rfl (dF h5) rfl (zb rfl (dF h5) rfl (zJ rfl (dF h5) eC (za rfl (za rfl (xQ (AW.weaken (zg [] (kr 7 rfl rfl (kr 6 rfl rfl SL.nil)) BL.nil BK.nil) (AW.ret ?_)))))))))))))
   cases H
   exact qK (RL.cons (RV.tmp rfl) (VO.flat rfl) (RL.cons (RV.tmp eZ) (VO.flat rfl) RL.nil)) List.nodup_nil
 ·refine AW.block (AW.iter (fun s10:(Int×Int)=>mk [(0,(.one (.d (.sl 2 (List.map zj a1))))),(1,(oI a2)),(2,(.one (.fn 390 []))),(8,(oI (a1.length:Int))),(9,(oI s10.1)),(10,(oI s10.2))] [] noG) H (zg [] (sR rfl rfl) BL.nil BK.nil) ?_)
  intro kb11 s10 H
  unfold qb at H
  refine aS (aV (za rfl (za rfl (qi rfl eZ (xQ ?_)))))
  rcases zA H with⟨h12,H⟩|⟨h12,H⟩
  ·refine zi eZ (dT h12) (AW.skip (TQ.qn (AW.block (aV (za rfl (za rfl (qg rfl eZ (znC eZ (zHk eZ eC (by decide) (znC eZ (za eZ (xQ (AW.weaken (zg [] (kr 11 rfl rfl (kr 0 rfl rfl (kr 1 rfl rfl (kr 2 rfl rfl (kr 8 rfl rfl (kr 9 rfl rfl (kr 10 rfl rfl SL.nil))))))) BL.nil BK.nil) (aV (za rfl (za rfl (za rfl ?_)))))))))))))))))
   obtain⟨v13,h14,H⟩:=zk H
   refine qt rfl eZ h14 (zZ (es:=[(dI v13.Key),(dI v13.Value)]) eZ rfl (za rfl ?_))
   obtain⟨v15,h16,H⟩:=zk H
   refine zD (u:=(oI v15)) rfl Cl.fn (zaD h16) (Ec rfl (Ec eZ En)) (Vc (VD.agg rfl) (Vc Vp Vn)) rfl (qi eZ eC (xQ ?_))
   rcases zA H with⟨h17,H⟩|⟨h17,H⟩
   ·exact zi eZ (dT h17) (aR (za rfl (qg eZ eC (za eZ (zm (BQ.qn (TQ.qn ⟨((IntKind.wrap .i64 ((IntKind.wrap .i64 (Int.fdiv (IntKind.wrap .u64 (IntKind.wrap .i64 (s10.1+s10.2))) (2 ^ (min (Int.toNat 1) (IntKind.bits .u64)))))+1)),s10.2),H,(zg [] (sR rfl rfl) BL.nil BK.nil)⟩)))))))
   ·exact zh eZ (dF h17) (aR (za rfl (za eZ (zm (BQ.qn (TQ.qn ⟨(s10.1,(IntKind.wrap .i64 (Int.fdiv (IntKind.wrap .u64 (IntKind.wrap .i64 (s10.1+s10.2))) (2 ^ (min (Int.toNat 1) (IntKind.bits .u64)))))),H,(zg [] (sR rfl rfl) BL.nil BK.nil)⟩))))))
  ·exact zh eZ (dF h12) (AW.exit (TQ.qe (TQ.qe (BQ.qe (TQ.qn ⟨s10.1,H,(zg [] (sR rfl rfl) BL.nil BK.nil)⟩)))))
theorem zeS{a1:(List zn)}{a2:Int}{r:(Int×Bool)}(H:Yi a1 a2=some r):Fn Tryz.prog 360 (lent [(.sl 2 (List.map zj a1)),(.int .i64 a2)]) true [(.int .i64 r.1),(.bool r.2)]:=by
 refine zGR (fle rfl) ?_
 rw[zx]
 refine AW.weaken (zg [] (kv 0 (.one (.d (.sl 2 (List.map zj a1)))) rfl rfl (kv 1 (oI a2) rfl rfl SL.nil)) BL.nil BK.nil) ?_
 unfold Yi at H
 unfold zC1
 refine aV (za eC (za eC (xQ (aV (za rfl (za rfl ?_))))))
 obtain⟨v3,h4,H⟩:=zk H
 refine zD (u:=(.tup [(oI v3.1),(oB v3.2)])) eC Cl.fn (Qg h4) (Ec rfl (Ec eZ (Ec eC En))) (Vc Vp (Vc Vp (Vc (VD.fn PDs.nil) Vn))) rfl (kI (v:=(oI v3.1)) eZ rfl (kI (v:=(oB v3.2)) rfl rfl (za rfl (za rfl (xQ (AW.ret ?_))))))
 cases H
 exact qK (RL.cons (RV.tmp rfl) (VO.flat rfl) (RL.cons (RV.tmp eZ) (VO.flat rfl) RL.nil)) List.nodup_nil
theorem zfy{a1:(List zn)}{a2:Int}{r:Int}(H:Yp a1 a2=some r):Fn Tryz.prog 359 (lent [(.sl 2 (List.map zj a1)),(.int .i64 a2)]) true [(.int .i64 r)]:=by
 refine zHd (fle rfl) ?_
 rw[zx]
 refine AW.weaken (zg [] (kv 0 (.one (.d (.sl 2 (List.map zj a1)))) rfl rfl (kv 1 (oI a2) rfl rfl SL.nil)) BL.nil BK.nil) ?_
 unfold Yp at H
 unfold zBG
 refine aV (za eC (xQ (aV (za rfl (za rfl ?_)))))
 obtain⟨v3,h4,H⟩:=zk H
 refine zD (u:=(.tup [(oI v3.1),(oB v3.2)])) eC Cl.fn (zeS h4) (Ec rfl (Ec eZ En)) (Vc Vp (Vc Vp Vn)) rfl (za eZ (kI (v:=(oI v3.1)) eZ rfl (kI (v:=(oB v3.2)) rfl rfl (za rfl (za rfl (xQ (aS (aV (za eZ (qI eZ (xQ ?_)))))))))))
 rcases zA H with⟨h5,H⟩|⟨h5,H⟩
 ·refine zh eZ (cN h5) (AW.skip (TQ.qn (aV (za rfl (za rfl ?_)))))
  obtain⟨v6,h7,H⟩:=zk H
  refine qt rfl eZ h7 (qa (m:=1) eZ rfl (zY (e:=(.int .i64 v6.Value)) eZ rfl (za eZ (xQ (AW.weaken (zg [] (kr 4 rfl rfl SL.nil) BL.nil BK.nil) (AW.ret ?_))))))
  cases H
  exact eE rfl rfl
 ·refine zi eZ (cN (nt h5)) (aV (za eC (xQ (AW.ret (TQ.qr ?_)))))
  cases H
  exact eE rfl rfl
theorem zev{a1:(List zn)}{a2:(List zn)}{r:Int}(H:Jh a1 a2=some r):Fn Tryz.prog 307 (lent [(.sl 2 (List.map zj a1)),(.sl 2 (List.map zj a2))]) true [(.int .i64 r)]:=by
 refine zHv (fle rfl) ?_
 rw[zx]
 refine AW.weaken (zg [] (kv 0 (.one (.d (.sl 2 (List.map zj a1)))) rfl rfl (kv 1 (.one (.d (.sl 2 (List.map zj a2)))) rfl rfl SL.nil)) BL.nil BK.nil) ?_
 unfold Jh at H
 unfold zB8
 refine aV (za eC (xQ (aS (zE (fun t3:Bool=>(Qr a2 a1) t3=some r) (fun t3=>mk [(0,(.one (.d (.sl 2 (List.map zj a1))))),(1,(.one (.d (.sl 2 (List.map zj a2))))),(15,(oB t3))] [] noG) ?_ ?_))))
 ·intro t3 H
  unfold Qr at H
  rcases zA H with⟨h5,H⟩|⟨h5,H⟩
  ·refine zi rfl h5 (aV (za eC (xQ (AW.ret (TQ.qr ?_)))))
   cases H
   exact eE rfl rfl
  ·refine zh rfl (nt h5) (AW.skip (TQ.qn (aV (za eC (xQ (zE (fun t6:Int=>YV t6=some r) (fun t6=>mk [(5,(oI t6))] [] noG) ?_ ?_))))))
   ·intro t6 H
    unfold YV at H
    refine aV (za eZ (za eZ (xQ (AW.ret ?_))))
    cases H
    exact eE rfl rfl
   ·refine aV (za rfl (zX eZ (n:=a2.length) lm (za eC (xQ (AW.block (AW.iter (fun s8:(Int×Int)=>mk [(0,(.one (.d (.sl 2 (List.map zj a1))))),(5,(oI s8.1)),(16,(.one (.d (.sl 2 (List.map zj a2))))),(17,(oI (a2.length:Int))),(18,(oI s8.2))] [] noG) H (zg [] (sR rfl rfl) BL.nil BK.nil) ?_))))))
    intro kb9 s8 H
    unfold Y9 at H
    refine aV (qi rfl rfl (xQ (aS ?_)))
    rcases zA H with⟨h10,H⟩|⟨h10,H⟩
    ·refine zi eZ (dT h10) (AW.skip (TQ.qn (aS (AW.block (aV ?_)))))
     obtain⟨v11,h12,H⟩:=zk H
     refine qt rfl rfl h12 (zZ (es:=[(dI v11.Key),(dI v11.Value)]) eZ rfl (Zh (n:=448) (m:=2) rfl rfl nZ (zO (es:=[(dI v11.Key),(dI v11.Value)]) eZ rfl rfl rfl bZ rfl (xQ (zE (fun t13:Bool=>(Qa kb9 s8) t13=some r) (fun t13=>mk [(0,(.one (.d (.sl 2 (List.map zj a1))))),(5,(oI s8.1)),(16,(.one (.d (.sl 2 (List.map zj a2))))),(17,(oI (a2.length:Int))),(18,(oI s8.2)),(31,(oB t13))] [] noG) ?_ ?_)))))
     ·intro t13 H
      unfold Qa at H
      rcases zA H with⟨h15,H⟩|⟨h15,H⟩
      ·exact zi rfl h15 (aR (za rfl (qg eZ eC (za eZ (zm (BQ.qn (TQ.qn (aR (qg rfl eC (za eZ (zm (TQ.qn ⟨((IntKind.wrap .i64 (s8.1+1)),(IntKind.wrap .i64 (s8.2+1))),H,(zg [] (sR rfl rfl) BL.nil BK.nil)⟩))))))))))))
      ·exact zh rfl (nt h15) (AW.skip (BQ.qn (TQ.qn (aR (qg rfl eC (za eZ (zm (TQ.qn ⟨(s8.1,(IntKind.wrap .i64 (s8.2+1))),H,(zg [] (sR rfl rfl) BL.nil BK.nil)⟩))))))))
     ·refine aR (zf (m:=1) eZ rfl (zl (q:=1) (c:=(dI v11.Value)) eZ bZ rfl rfl (Qh eZ eC (za eZ ?_))))
      rcases zA H with⟨h16,H⟩|⟨h16,H⟩
      ·refine gDo eZ (dT h16) (za rfl (gDo rfl (dT h16) (zf (m:=0) rfl rfl (gDo rfl (dT h16) (zl (q:=0) (c:=(dI v11.Key)) eZ bZ rfl rfl (gDo rfl (dT h16) ?_))))))
       obtain⟨v17,h18,H⟩:=zk H
       exact zD (u:=(oI v17)) eC Cl.fn (zfy h18) (Ec rfl (Ec eZ En)) (Vc Vp (Vc Vp Vn)) rfl (gDo rfl (dT h16) (qi eZ eC (zC rfl (dT h16) eZ (zm (TQ.qn ⟨(decide (v17 < 0)),H,(zg [448] (sR rfl rfl) (blR rfl) BK.nil)⟩)))))
      ·exact zb eZ (dF h16) rfl (zb rfl (dF h16) rfl (zb rfl (dF h16) rfl (zb rfl (dF h16) rfl (zb rfl (dF h16) rfl (zJ rfl (dF h16) eC (zm (TQ.qn ⟨false,H,(zg [448] (sR rfl rfl) (blR rfl) BK.nil)⟩)))))))
    ·exact zh eZ (dF h10) (AW.exit (TQ.qe (TQ.qe (BQ.qe (TQ.qn ⟨s8.1,H,(zg [] (sR rfl rfl) BL.nil BK.nil)⟩)))))
 ·refine aR (za rfl ?_)
  obtain⟨v19,h20,H⟩:=zk H
  refine zD (u:=(oB v19)) eC Cl.fn (KR h20) (Ec eZ En) (Vc Vp Vn) rfl (qI eZ (za eZ ?_))
  rcases zA H with⟨h21,H⟩|⟨h21,H⟩
  ·refine gDo eZ (cN h21) (za rfl (gDo rfl (cN h21) ?_))
   obtain⟨v22,h23,H⟩:=zk H
   exact zD (u:=(oB v22)) eC Cl.fn (zba h23) (Ec eZ En) (Vc Vp Vn) rfl (gDo rfl (cN h21) (qI eZ (zJ rfl (cN h21) eZ (zm (TQ.qn ⟨(!v22),H,(zg [] (sR rfl rfl) BL.nil BK.nil)⟩)))))
  ·exact zb eZ (cN (nt h21)) rfl (zb rfl (cN (nt h21)) rfl (zb rfl (cN (nt h21)) rfl (zC rfl (cN (nt h21)) eC (zm (TQ.qn ⟨true,H,(zg [] (sR rfl rfl) BL.nil BK.nil)⟩)))))
theorem zh9{a1:zo}{r:Int}(H:X7 a1=some r):Fn Tryz.prog 239 (lent [(.agg (zR a1))]) true [(.int .i64 r)]:=by
 refine zGQ (fle rfl) ?_
 rw[zx]
 refine AW.weaken (t:=mk [(0,(.agg (zF a1)))] [] (lk [])) (zg [] (sR rfl rfl) BL.nil BK.nil) ?_
 unfold X7 at H
 unfold zB1
 refine aV (qY (n:=64) (m:=9) (cs:=(zF a1)) rfl eZ rfl rfl nZ (za eC (xQ (aV (zf (m:=3) rfl rfl (zl (q:=3) (c:=(.d (.sl 2 (List.map zj a1.Cells)))) eZ bZ rfl rfl (zX eZ (n:=a1.Cells.length) lm (za eZ (xQ (zE (fun t2:Int=>Ko t2=some r) (fun t2=>mk [(3,(oI t2))] [] (lk [])) ?_ ?_))))))))))
 ·intro t2 H
  unfold Ko at H
  refine aV (za eZ (za eZ (xQ (AW.ret ?_))))
  cases H
  exact eE rfl rfl
 ·refine aV (zf (m:=5) rfl rfl (zl (q:=5) (c:=(.d (.sl 2 (List.map zB a1.Helds)))) eZ bZ rfl rfl (zX eZ (n:=a1.Helds.length) lm (za eC (xQ (AW.block (AW.iter (fun s4:(Int×Int)=>mk [(1,(.one (.ptr (.nm 64 0 0)))),(3,(oI s4.1)),(10,(.one (.d (.sl 2 (List.map zB a1.Helds))))),(11,(oI (a1.Helds.length:Int))),(12,(oI s4.2))] [(64,(.vars 9 (zF a1)))] (lk [])) H (zI [] (sR rfl rfl) (blR rfl) (bkR rfl rfl rfl) GK.nil) ?_)))))))
  intro kb5 s4 H
  unfold Kt at H
  refine aV (qi rfl rfl (xQ (aS ?_)))
  rcases zA H with⟨h6,H⟩|⟨h6,H⟩
  ·refine zi eZ (dT h6) (AW.skip (TQ.qn (aS (AW.block (aS (zW (zw ?_)))))))
   obtain⟨v7,h8,H⟩:=zk H
   refine qt rfl rfl h8 (zm (zw (zZ (es:=(jQ v7)) eZ rfl (zm (zw (Zh (n:=320) (m:=2) rfl rfl (nR rfl) (zm (zw (zO (es:=(jQ v7)) eZ rfl rfl rfl bZ rfl (zm (z7 (xQ (aR (za rfl (zf (m:=3) rfl rfl (zl (q:=3) (c:=(.d (.sl 2 (List.map zj a1.Cells)))) eZ (bR rfl) rfl rfl (zf (m:=1) rfl rfl (zl (q:=1) (c:=(.d (.sl 2 (List.map zj v7.Writes)))) eZ bZ rfl rfl ?_))))))))))))))))))
   obtain⟨v9,h10,H⟩:=zk H
   exact zD (u:=(oI v9)) eC Cl.fn (zev h10) (Ec rfl (Ec eZ En)) (Vc Vp (Vc Vp Vn)) rfl (qg rfl eZ (za eZ (zm (BQ.qn (TQ.qn (AW.weaken (zI [320] (kr 3 rfl rfl (kr 1 rfl rfl (kr 10 rfl rfl (kr 11 rfl rfl (kr 12 rfl rfl SL.nil))))) (blR rfl) (BK.cons (n:=64) rfl (bR rfl) rfl rfl BK.nil) GK.nil) (aR (qg rfl eC (za eZ (zm (TQ.qn ⟨((IntKind.wrap .i64 (s4.1+v9)),(IntKind.wrap .i64 (s4.2+1))),H,(zI [] (sR rfl rfl) (blR rfl) (bkR rfl rfl rfl) GK.nil)⟩)))))))))))
  ·exact zh eZ (dF h6) (AW.exit (TQ.qe (TQ.qe (BQ.qe (TQ.qn ⟨s4.1,H,(zI [64] (sR rfl rfl) (blR rfl) BK.nil GK.nil)⟩)))))
theorem ze0{a1:zo}{r:Bool}(H:QP a1=some r):Fn Tryz.prog 122 (lent [(.agg (zR a1))]) true [(.bool r)]:=by
 refine zGo (fle rfl) ?_
 rw[zx]
 refine AW.weaken (t:=mk [(0,(.agg (zF a1)))] [] (lk [])) (zg [] (sR rfl rfl) BL.nil BK.nil) ?_
 unfold QP at H
 unfold zDZ
 refine aV (qY (n:=64) (m:=9) (cs:=(zF a1)) rfl eZ rfl rfl nZ (za eC (xQ (aS (zE (fun t2:Bool=>(qJ a1) t2=some r) (fun t2=>mk [(1,(.one (.ptr (.nm 64 0 0)))),(55,(oB t2))] [(64,(.vars 9 (zF a1)))] (lk [])) ?_ ?_)))))
 ·intro t2 H
  unfold qJ at H
  rcases zA H with⟨h4,H⟩|⟨h4,H⟩
  ·refine zi rfl h4 (aV (za eC (xQ (AW.ret (TQ.qr ?_)))))
   cases H
   exact eE rfl rfl
  ·refine zh rfl (nt h4) (AW.skip (TQ.qn (aS (zE (fun t5:Bool=>(Zd a1) t5=some r) (fun t5=>mk [(1,(.one (.ptr (.nm 64 0 0)))),(65,(oB t5))] [(64,(.vars 9 (zF a1)))] (lk [])) ?_ ?_))))
   ·intro t5 H
    unfold Zd at H
    rcases zA H with⟨h7,H⟩|⟨h7,H⟩
    ·refine zi rfl h7 (aV (za eC (xQ (AW.ret (TQ.qr ?_)))))
     cases H
     exact eE rfl rfl
    ·refine zh rfl (nt h7) (AW.skip (TQ.qn (aS (zW (zw (zf (m:=6) eZ rfl (zm (zw (zl (q:=6) (c:=(.d (.sl 1 (List.map zt a1.Wounded)))) eZ bZ rfl rfl (zm (zw (zf (m:=7) rfl rfl (zm (zw (zl (q:=7) (c:=(.d (.sl 1 (List.map zt a1.Ended)))) eZ bZ rfl rfl (zm (zw (za3 (m:=4480) (q:=2) (cs:=[(.d (.sl 1 (List.map zt a1.Wounded))),(.d (.sl 1 (List.map zt a1.Ended)))]) rfl (jN rfl (jN eZ kD)) rfl (List.cons_ne_nil _ _) (by simp) (nR rfl) (zm (zw ?_))))))))))))))))))))
     obtain⟨v8,h9,H⟩:=zk H
     refine zD (u:=(.one (.d (.sl 1 (List.map zt v8))))) eC Cl.fn (zcf h9) (Ec eZ En) (Vc (VD.vars [(.sl 1 (List.map zt a1.Wounded)),(.sl 1 (List.map zt a1.Ended))] bZ rfl rfl) Vn) rfl (zm (zw (Zh (n:=192) (m:=1) rfl rfl (nR rfl) (zm (zw (zO (es:=[(.d (.sl 1 (List.map zt v8)))]) eZ rfl rfl rfl bZ rfl (zm (z7 (xQ (aS (aV (zf (m:=4) rfl rfl (zl (q:=4) (c:=(.d (.sl 4 (List.map zp a1.Locks)))) eZ (bR rfl) rfl rfl (zbt (ps:=[(.nm 64 0 0),(.nm 192 0 0)]) (Ec rfl (Ec rfl En)) ?_))))))))))))))
     obtain⟨v10,h11,H⟩:=zk H
     refine zD (u:=(oB v10)) eC Cl.fn (xf h11) (Ec rfl (Ec eZ En)) (Vc Vp (Vc (VD.fn (PDs.cons (ZR (bR rfl) (CDs.plain (CDs.plain (CDs.plain (CDs.plain (CDs.plain (CDs.plain (CDs.plain (CDs.plain (CDs.plain CDs.nil)))))))))) (PDs.cons (ZR bZ (CDs.plain CDs.nil)) PDs.nil))) Vn)) rfl (xQ ?_)
     rcases zA H with⟨h12,H⟩|⟨h12,H⟩
     ·refine zi eZ h12 (aV (za eC (xQ (AW.ret (TQ.qr ?_)))))
      cases H
      exact eE rfl rfl
     ·refine zh eZ (nt h12) (AW.skip (TQ.qn (aS (AW.regd (zf (m:=5) rfl rfl (zl (q:=5) (c:=(.d (.sl 2 (List.map zB a1.Helds)))) eZ (bR rfl) rfl rfl ?_))))))
      obtain⟨v13,h14,H⟩:=zk H
      refine ju (u:=(.one (.sl 4992 0 v13.length))) (bs:=[(4992,(.data 1 (List.map zt v13) true none))]) eC Cl.fn (zcY h14) (Ec eZ En) (Vc Vp Vn) (by simp[qZ,jC,qq,jn,qy]) rfl (fC (nR rfl) rfl (fC (nR rfl) rfl fN)) (zl (q:=0) (c:=(.d (.sl 1 (List.map zt v8)))) rfl (hB rfl (bR rfl)) rfl rfl ?_)
      obtain⟨h15,H⟩:=z6 H
      refine zi3 (f:=zt) (xs:=v13) (ys:=v8) (q:=(v13++v8).length) rfl eZ bZ rfl (El.lent fun _ _=>rfl) rfl h15 (by decide) (by decide) (erL.cons (v':=(.one (.d (.sl 1 (List.map zt v8))))) rfl (erL.cons (v':=(.one .any)) rfl (erL.cons (v':=(.one (.d (.sl 2 (List.map zB a1.Helds))))) rfl (erL.cons (v':=(.one (.ptr (.nm 64 0 5)))) rfl (erL.cons (v':=(oB v10)) rfl (erL.cons (v':=(.one (.fn 236 [(.nm 64 0 0),(.nm 192 0 0)]))) rfl (erL.cons (v':=(.one (.d (.sl 4 (List.map zp a1.Locks))))) rfl (erL.cons (v':=(.one (.ptr (.nm 64 0 4)))) rfl (erL.cons (v':=(.one (.ptr (.nm 192 0 0)))) rfl (erL.cons (v':=(.one (.d (.sl 1 (List.map zt v8))))) rfl (erL.cons (v':=(.one (.sl 4480 0 2))) rfl (erL.cons (v':=(.one (.d (.sl 1 (List.map zt a1.Ended))))) rfl (erL.cons (v':=(.one (.ptr (.nm 64 0 7)))) rfl (erL.cons (v':=(.one (.d (.sl 1 (List.map zt a1.Wounded))))) rfl (erL.cons (v':=(.one (.ptr (.nm 64 0 6)))) rfl (erL.cons (v':=(.one (.ptr (.nm 64 0 0)))) rfl (erL.cons (v':=(oB t5)) rfl erL.nil))))))))))))))))) (erH.drop rfl (erH.cons (v':=(.vars 1 [(.d (.sl 1 (List.map zt v8)))])) rfl rfl (erH.cons (v':=(.vars 1 [.zs])) rfl rfl (erH.cons (v':=(.vars 1 [(.d (.sl 1 (List.map zt a1.Wounded))),(.d (.sl 1 (List.map zt a1.Ended)))])) rfl rfl (erH.cons (v':=(.vars 9 (zF a1))) rfl rfl erH.nil))))) GK.nil (za eZ (xQ (AW.weaken (zI [192,4480] (kr 4 rfl rfl (kr 1 rfl rfl SL.nil)) (blR rfl) (BK.cons (n:=4992) rfl bZ rfl rfl (BK.cons (n:=64) rfl (bR rfl) rfl rfl BK.nil)) GK.nil) (aS (zW (zw (za eZ (zm ?_))))))))
      obtain⟨v16,h17,H⟩:=zk H
      obtain⟨h18,H⟩:=z6 H
      refine Xf (ON:=[4992]) (ls:=[]) (G:=[]) (E:=[qk 4992]) (MB:=[(4992,(.data 1 (List.map zt v16) true none))]) (u:=(.tup [])) eC Cl.fn (zdw h17) (Ec eZ En) (AO.mut (VO.sl bZ lm (zy fun _=>rfl)) AO.nil) rfl rfl rfl (SZ.cons bZ SZ.nil) (erL.cons (v':=(.one (.sl 4992 0 ((v13++v8).length)))) rfl (erL.cons (v':=(.one (.sl 4992 0 ((v13++v8).length)))) rfl (erL.cons (v':=(.one (.ptr (.nm 64 0 0)))) rfl erL.nil))) (erH.cons (v':=(.data 1 (List.map zt (v13++v8)) true none)) rfl rfl (erH.cons (v':=(.vars 9 (zF a1))) rfl rfl erH.nil)) erL.nil rfl rfl (z7 (xQ (aS (zW (zw (za rfl (zm (zw ?_))))))))
      obtain⟨v19,h20,H⟩:=zk H
      refine ju (u:=(.one (.sl 5376 0 v19.length))) (bs:=[(5376,(.data 1 (List.map zt v19) true none))]) eC Cl.fn (kz h20) (Ec eZ En) (Vc (VD.sl bZ (by first|(simp;done)|(simp;omega)|omega|(simp only[List.length_map];omega))) Vn) (by simp[qZ,jC,qq,jn,qy]) rfl (fC (nR rfl) rfl (fC (nR rfl) rfl fN)) (zm ?_)
      obtain⟨v21,h22,H⟩:=zk H
      refine Xf (ON:=[5376]) (ls:=[]) (G:=[5376]) (E:=[5376]) (MB:=[]) (u:=(.one (.d (.sl 1 (List.map zt v21))))) eC Cl.fn (zbo h22) (Ec eZ En) (AO.give (VO.sl bZ lm (zy fun _=>rfl)) AO.nil) rfl rfl rfl SZ.nil (erL.cons (v':=(.one .any)) rfl (erL.cons (v':=(.one (.sl 4992 0 ((v13++v8).length)))) rfl (erL.cons (v':=(.tup [])) rfl (erL.cons (v':=(.one (.sl 4992 0 ((v13++v8).length)))) rfl (erL.cons (v':=(.one (.sl 4992 0 ((v13++v8).length)))) rfl (erL.cons (v':=(.one (.ptr (.nm 64 0 0)))) rfl erL.nil)))))) (erH.drop rfl (erH.cons (v':=(.data 1 (List.map zt v16) true none)) rfl rfl (erH.cons (v':=(.data 1 (List.map zt (v13++v8)) true none)) rfl rfl (erH.cons (v':=(.vars 9 (zF a1))) rfl rfl erH.nil)))) erL.nil rfl rfl (z7 (zX eZ (n:=v21.length) lm (za rfl (zb4 eZ (KG rfl eZ (za eZ ?_))))))
      rcases zA H with⟨h23,H⟩|⟨h23,H⟩
      ·refine gDo eZ (dT h23) (zM (es:=(zF a1)) rfl (bR rfl) rfl (gDo rfl (dT h23) ?_))
       obtain⟨v24,h25,H⟩:=zk H
       refine zD (u:=(oI v24)) eC Cl.fn (zh9 h25) (Ec eZ En) (Vc (VD.agg rfl) Vn) rfl (gDo rfl (dT h23) (zbj eZ eC (zC rfl (dT h23) eZ (za eZ (xQ (AW.weaken (zI [4992,64] (kr 2 rfl rfl SL.nil) (blR rfl) BK.nil GK.nil) (AW.ret ?_)))))))
       cases H
       exact eE rfl rfl
      ·refine zb eZ (dF h23) rfl (zb rfl (dF h23) rfl (zb rfl (dF h23) rfl (zJ rfl (dF h23) eC (za eZ (xQ (AW.weaken (zI [4992,64] (kr 2 rfl rfl SL.nil) (blR rfl) BK.nil GK.nil) (AW.ret ?_)))))))
       cases H
       exact eE rfl rfl
   ·refine aR (zf (m:=2) eZ rfl (zl (q:=2) (c:=(.d (.sl 2 (List.map zd a1.Frozen)))) eZ bZ rfl rfl (zbt (ps:=[(.nm 64 0 0)]) (Ec rfl En) ?_)))
    obtain⟨v26,h27,H⟩:=zk H
    refine zD (u:=(oB v26)) eC Cl.fn (Yg h27) (Ec rfl (Ec eZ En)) (Vc Vp (Vc (VD.fn (PDs.cons (ZR bZ (CDs.plain (CDs.plain (CDs.plain (CDs.plain (CDs.plain (CDs.plain (CDs.plain (CDs.plain (CDs.plain CDs.nil)))))))))) PDs.nil)) Vn)) rfl (za eZ ?_)
    rcases zA H with⟨h28,H⟩|⟨h28,H⟩
    ·exact zb eZ h28 rfl (zb rfl h28 rfl (zb rfl h28 rfl (zb rfl h28 rfl (zC rfl h28 eC (zm (TQ.qn ⟨true,H,(zI [] (sR rfl rfl) (blR rfl) (bkR rfl rfl rfl) GK.nil)⟩))))))
    ·refine gDo eZ (nt h28) (zf (m:=3) rfl rfl (gDo rfl (nt h28) (zl (q:=3) (c:=(.d (.sl 2 (List.map zj a1.Cells)))) eZ bZ rfl rfl (gDo rfl (nt h28) (zbt (ps:=[(.nm 64 0 0)]) (Ec rfl En) (gDo rfl (nt h28) ?_))))))
     obtain⟨v29,h30,H⟩:=zk H
     exact zD (u:=(oB v29)) eC Cl.fn (YT h30) (Ec rfl (Ec eZ En)) (Vc Vp (Vc (VD.fn (PDs.cons (ZR bZ (CDs.plain (CDs.plain (CDs.plain (CDs.plain (CDs.plain (CDs.plain (CDs.plain (CDs.plain (CDs.plain CDs.nil)))))))))) PDs.nil)) Vn)) rfl (zJ rfl (nt h28) eZ (zm (TQ.qn ⟨v29,H,(zI [] (sR rfl rfl) (blR rfl) (bkR rfl rfl rfl) GK.nil)⟩)))
 ·refine aR (zf (m:=0) rfl rfl (zl (q:=0) (c:=(dI a1.Me)) eZ bZ rfl rfl ?_))
  obtain⟨v31,h32,H⟩:=zk H
  refine zD (u:=(oB v31)) eC Cl.fn (zfb h32) (Ec eZ En) (Vc Vp Vn) rfl (qI eZ (za eZ ?_))
  rcases zA H with⟨h33,H⟩|⟨h33,H⟩
  ·refine gDo eZ (cN h33) (zf (m:=1) rfl rfl (gDo rfl (cN h33) (zl (q:=1) (c:=(.d (.sl 2 (List.map zd a1.Own)))) eZ bZ rfl rfl (gDo rfl (cN h33) ?_))))
   obtain⟨v34,h35,H⟩:=zk H
   refine zD (u:=(oB v34)) eC Cl.fn (X9 h35) (Ec eZ En) (Vc Vp Vn) rfl (gDo rfl (cN h33) (qI eZ (zJ rfl (cN h33) eZ (za eZ ?_))))
   rcases zA H with⟨h36,H⟩|⟨h36,H⟩
   ·refine gDo eZ (cN h36) (zf (m:=2) rfl rfl (gDo rfl (cN h36) (zl (q:=2) (c:=(.d (.sl 2 (List.map zd a1.Frozen)))) eZ bZ rfl rfl (gDo rfl (cN h36) ?_))))
    obtain⟨v37,h38,H⟩:=zk H
    refine zD (u:=(oB v37)) eC Cl.fn (X9 h38) (Ec eZ En) (Vc Vp Vn) rfl (gDo rfl (cN h36) (qI eZ (zJ rfl (cN h36) eZ (za eZ ?_))))
    rcases zA H with⟨h39,H⟩|⟨h39,H⟩
    ·refine gDo eZ (cN h39) (zf (m:=3) rfl rfl (gDo rfl (cN h39) (zl (q:=3) (c:=(.d (.sl 2 (List.map zj a1.Cells)))) eZ bZ rfl rfl (gDo rfl (cN h39) ?_))))
     obtain⟨v40,h41,H⟩:=zk H
     refine zD (u:=(oB v40)) eC Cl.fn (KR h41) (Ec eZ En) (Vc Vp Vn) rfl (gDo rfl (cN h39) (qI eZ (zJ rfl (cN h39) eZ (za eZ ?_))))
     rcases zA H with⟨h42,H⟩|⟨h42,H⟩
     ·refine gDo eZ (cN h42) (zf (m:=4) rfl rfl (gDo rfl (cN h42) (zl (q:=4) (c:=(.d (.sl 4 (List.map zp a1.Locks)))) eZ bZ rfl rfl (gDo rfl (cN h42) ?_))))
      obtain⟨v43,h44,H⟩:=zk H
      refine zD (u:=(oB v43)) eC Cl.fn (zbK h44) (Ec eZ En) (Vc Vp Vn) rfl (gDo rfl (cN h42) (qI eZ (zJ rfl (cN h42) eZ (za eZ ?_))))
      rcases zA H with⟨h45,H⟩|⟨h45,H⟩
      ·refine gDo eZ (cN h45) (zM (es:=(zF a1)) rfl bZ rfl (gDo rfl (cN h45) ?_))
       obtain⟨v46,h47,H⟩:=zk H
       refine zD (u:=(oB v46)) eC Cl.fn (zf5 h47) (Ec eZ En) (Vc (VD.agg rfl) Vn) rfl (gDo rfl (cN h45) (qI eZ (zJ rfl (cN h45) eZ (za eZ ?_))))
       rcases zA H with⟨h48,H⟩|⟨h48,H⟩
       ·refine gDo eZ (cN h48) (zf (m:=6) rfl rfl (gDo rfl (cN h48) (zl (q:=6) (c:=(.d (.sl 1 (List.map zt a1.Wounded)))) eZ bZ rfl rfl (gDo rfl (cN h48) ?_))))
        obtain⟨v49,h50,H⟩:=zk H
        refine zD (u:=(oB v49)) eC Cl.fn (XC h50) (Ec eZ En) (Vc Vp Vn) rfl (gDo rfl (cN h48) (qI eZ (zJ rfl (cN h48) eZ (za eZ ?_))))
        rcases zA H with⟨h51,H⟩|⟨h51,H⟩
        ·refine gDo eZ (cN h51) (zf (m:=7) rfl rfl (gDo rfl (cN h51) (zl (q:=7) (c:=(.d (.sl 1 (List.map zt a1.Ended)))) eZ bZ rfl rfl (gDo rfl (cN h51) ?_))))
         obtain⟨v52,h53,H⟩:=zk H
         refine zD (u:=(oB v52)) eC Cl.fn (XC h53) (Ec eZ En) (Vc Vp Vn) rfl (gDo rfl (cN h51) (qI eZ (zJ rfl (cN h51) eZ (za eZ ?_))))
         rcases zA H with⟨h54,H⟩|⟨h54,H⟩
         ·refine gDo eZ (cN h54) (zf (m:=8) rfl rfl (gDo rfl (cN h54) (zl (q:=8) (c:=(dI a1.Rank)) eZ bZ rfl rfl (gDo rfl (cN h54) ?_))))
          obtain⟨v55,h56,H⟩:=zk H
          exact zD (u:=(oB v55)) eC Cl.fn (QV h56) (Ec eZ (Ec eC (Ec eC En))) (Vc Vp (Vc Vp (Vc Vp Vn))) rfl (gDo rfl (cN h54) (qI eZ (zJ rfl (cN h54) eZ (zm (TQ.qn ⟨(!v55),H,(zI [] (sR rfl rfl) (blR rfl) (bkR rfl rfl rfl) GK.nil)⟩)))))
         ·exact zb eZ (cN (nt h54)) rfl (zb rfl (cN (nt h54)) rfl (zb rfl (cN (nt h54)) rfl (zb rfl (cN (nt h54)) rfl (zC rfl (cN (nt h54)) eC (zm (TQ.qn ⟨true,H,(zI [] (sR rfl rfl) (blR rfl) (bkR rfl rfl rfl) GK.nil)⟩))))))
        ·exact zb eZ (cN (nt h51)) rfl (zb rfl (cN (nt h51)) rfl (zb rfl (cN (nt h51)) rfl (zb rfl (cN (nt h51)) rfl (zC rfl (cN (nt h51)) eC (za eZ (zb eZ rfl rfl (zb rfl rfl rfl (zb rfl rfl rfl (zb rfl rfl rfl (zC rfl rfl eC (zm (TQ.qn ⟨true,H,(zI [] (sR rfl rfl) (blR rfl) (bkR rfl rfl rfl) GK.nil)⟩))))))))))))
       ·exact zb eZ (cN (nt h48)) rfl (zb rfl (cN (nt h48)) rfl (zb rfl (cN (nt h48)) rfl (zb rfl (cN (nt h48)) rfl (zC rfl (cN (nt h48)) eC (za eZ (zb eZ rfl rfl (zb rfl rfl rfl (zb rfl rfl rfl (zb rfl rfl rfl (zC rfl rfl eC (za eZ (zb eZ rfl rfl (zb rfl rfl rfl (zb rfl rfl rfl (zb rfl rfl rfl (zC rfl rfl eC (zm (TQ.qn ⟨true,H,(zI [] (sR rfl rfl) (blR rfl) (bkR rfl rfl rfl) GK.nil)⟩))))))))))))))))))
      ·exact zb eZ (cN (nt h45)) rfl (zb rfl (cN (nt h45)) rfl (zb rfl (cN (nt h45)) rfl (zC rfl (cN (nt h45)) eC (za eZ (zb eZ rfl rfl (zb rfl rfl rfl (zb rfl rfl rfl (zb rfl rfl rfl (zC rfl rfl eC (za eZ (zb eZ rfl rfl (zb rfl rfl rfl (zb rfl rfl rfl (zb rfl rfl rfl (zC rfl rfl eC (za eZ (zb eZ rfl rfl (zb rfl rfl rfl (zb rfl rfl rfl (zb rfl rfl rfl (zC rfl rfl eC (zm (TQ.qn ⟨true,H,(zI [] (sR rfl rfl) (blR rfl) (bkR rfl rfl rfl) GK.nil)⟩)))))))))))))))))))))))
     ·exact zb eZ (cN (nt h42)) rfl (zb rfl (cN (nt h42)) rfl (zb rfl (cN (nt h42)) rfl (zb rfl (cN (nt h42)) rfl (zC rfl (cN (nt h42)) eC (za eZ (zb eZ rfl rfl (zb rfl rfl rfl (zb rfl rfl rfl (zC rfl rfl eC (za eZ (zb eZ rfl rfl (zb rfl rfl rfl (zb rfl rfl rfl (zb rfl rfl rfl (zC rfl rfl eC (za eZ (zb eZ rfl rfl (zb rfl rfl rfl (zb rfl rfl rfl (zb rfl rfl rfl (zC rfl rfl eC (za eZ (zb eZ rfl rfl (zb rfl rfl rfl (zb rfl rfl rfl (zb rfl rfl rfl (zC rfl rfl eC (zm (TQ.qn ⟨true,H,(zI [] (sR rfl rfl) (blR rfl) (bkR rfl rfl rfl) GK.nil)⟩)))))))))))))))))))))))))))))
    ·exact zb eZ (cN (nt h39)) rfl (zb rfl (cN (nt h39)) rfl (zb rfl (cN (nt h39)) rfl (zb rfl (cN (nt h39)) rfl (zC rfl (cN (nt h39)) eC (za eZ (zb eZ rfl rfl (zb rfl rfl rfl (zb rfl rfl rfl (zb rfl rfl rfl (zC rfl rfl eC (za eZ (zb eZ rfl rfl (zb rfl rfl rfl (zb rfl rfl rfl (zC rfl rfl eC (za eZ (zb eZ rfl rfl (zb rfl rfl rfl (zb rfl rfl rfl (zb rfl rfl rfl (zC rfl rfl eC (za eZ (zb eZ rfl rfl (zb rfl rfl rfl (zb rfl rfl rfl (zb rfl rfl rfl (zC rfl rfl eC (za eZ (zb eZ rfl rfl (zb rfl rfl rfl (zb rfl rfl rfl (zb rfl rfl rfl (zC rfl rfl eC (zm (TQ.qn ⟨true,H,(zI [] (sR rfl rfl) (blR rfl) (bkR rfl rfl rfl) GK.nil)⟩)))))))))))))))))))))))))))))))))))
   ·refine zb eZ (cN (nt h36)) rfl (zb rfl (cN (nt h36)) rfl (zb rfl (cN (nt h36)) rfl (zb rfl (cN (nt h36)) rfl (zC rfl (cN (nt h36)) eC (za eZ (zb eZ rfl rfl (zb rfl rfl rfl (zb rfl rfl rfl (zb rfl rfl rfl (zC rfl rfl eC (za eZ (zb eZ rfl rfl (zb rfl rfl rfl (zb rfl rfl rfl (zb rfl rfl rfl (zC rfl rfl eC (za eZ (zb eZ rfl rfl (zb rfl rfl rfl (zb rfl rfl rfl (zC rfl rfl eC (za eZ (zb eZ rfl rfl (zb rfl rfl rfl (zb rfl rfl rfl (zb rfl rfl rfl (zC rfl rfl eC (za eZ (zb eZ rfl rfl (zb rfl rfl rfl (zb rfl rfl rfl (zb rfl rfl rfl (zC rfl rfl eC (za eZ (zb eZ rfl rfl (zb rfl rfl rfl (zb rfl rfl rfl (zb rfl rfl rfl (zC rfl rfl eC ?_)))))))))))))))))))))))))))))))))))))))
    exact zm (TQ.qn ⟨true,H,(zI [] (sR rfl rfl) (blR rfl) (bkR rfl rfl rfl) GK.nil)⟩)
  ·refine zb eZ (cN (nt h33)) rfl (zb rfl (cN (nt h33)) rfl (zb rfl (cN (nt h33)) rfl (zb rfl (cN (nt h33)) rfl (zC rfl (cN (nt h33)) eC (za eZ (zb eZ rfl rfl (zb rfl rfl rfl (zb rfl rfl rfl (zb rfl rfl rfl (zC rfl rfl eC (za eZ (zb eZ rfl rfl (zb rfl rfl rfl (zb rfl rfl rfl (zb rfl rfl rfl (zC rfl rfl eC (za eZ (zb eZ rfl rfl (zb rfl rfl rfl (zb rfl rfl rfl (zb rfl rfl rfl (zC rfl rfl eC (za eZ (zb eZ rfl rfl (zb rfl rfl rfl (zb rfl rfl rfl (zC rfl rfl eC (za eZ (zb eZ rfl rfl (zb rfl rfl rfl (zb rfl rfl rfl (zb rfl rfl rfl (zC rfl rfl eC (za eZ (zb eZ rfl rfl (zb rfl rfl rfl (zb rfl rfl rfl (zb rfl rfl rfl (zC rfl rfl eC ?_)))))))))))))))))))))))))))))))))))))))
   exact za eZ (zb eZ rfl rfl (zb rfl rfl rfl (zb rfl rfl rfl (zb rfl rfl rfl (zC rfl rfl eC (zm (TQ.qn ⟨true,H,(zI [] (sR rfl rfl) (blR rfl) (bkR rfl rfl rfl) GK.nil)⟩)))))))
theorem zfT{a1:zo}{a2:Int}{a3:ze}{r:Int}(H:Yy a1 a2 a3=some r):Fn Tryz.prog 89 (lent [(.agg (zR a1)),(.int .i64 a2),(.agg (zd a3))]) true [(.int .i64 r)]:=by
 refine f89 (fle rfl) ?_
 rw[zx]
 refine AW.weaken (zg [] (kv 0 (.agg (zF a1)) rfl rfl (kv 1 (oI a2) rfl rfl (kv 2 (.agg [(dI a3.Lo),(dI a3.Hi)]) rfl rfl SL.nil))) BL.nil BK.nil) ?_
 unfold Yy at H
 unfold i89
 refine aV (qY (n:=192) (m:=9) (cs:=(zF a1)) rfl eZ rfl rfl nZ (qY (n:=320) (m:=2) (cs:=[(dI a3.Lo),(dI a3.Hi)]) rfl rfl rfl rfl (nR rfl) (za eC (xQ (aS (AW.block (zE (fun t4:Bool=>(ZZ a2 a1) t4=some r) (fun t4=>mk [(1,(oI a2)),(3,(.one (.ptr (.nm 192 0 0)))),(7,(oB t4))] [(192,(.vars 9 (zF a1)))] noG) ?_ ?_)))))))
 ·intro t4 H
  unfold ZZ at H
  rcases zA H with⟨h6,H⟩|⟨h6,H⟩
  ·refine zi rfl h6 (aV (za eC (xQ (AW.ret (BQ.qr (TQ.qr ?_))))))
   cases H
   exact eE rfl rfl
  ·refine zh rfl (nt h6) (aV (za eZ (zf (m:=8) rfl rfl (zl (q:=8) (c:=(dI a1.Rank)) eZ bZ rfl rfl (qi rfl eZ (za eZ (xQ ?_)))))))
   rcases zA H with⟨h7,H⟩|⟨h7,H⟩
   ·refine zi eZ (dT h7) (aV (za eC (xQ (AW.ret (BQ.qr (TQ.qr ?_))))))
    cases H
    exact eE rfl rfl
   ·refine zh eZ (dF h7) (AW.skip (BQ.qn (TQ.qn (aV (za eC (xQ (AW.ret ?_)))))))
    cases H
    exact eE rfl rfl
 ·refine aR (zM (es:=(zF a1)) rfl (bR rfl) rfl ?_)
  obtain⟨v8,h9,H⟩:=zk H
  refine zD (u:=(oB v8)) eC Cl.fn (ze0 h9) (Ec eZ En) (Vc (VD.agg rfl) Vn) rfl (qI eZ (za eZ ?_))
  rcases zA H with⟨h10,H⟩|⟨h10,H⟩
  ·refine gDo eZ (cN h10) (za rfl (gDo rfl (cN h10) ?_))
   obtain⟨v11,h12,H⟩:=zk H
   refine zD (u:=(oB v11)) eC Cl.fn (QV h12) (Ec eZ (Ec eC (Ec eC En))) (Vc Vp (Vc Vp (Vc Vp Vn))) rfl (gDo rfl (cN h10) (qI eZ (zJ rfl (cN h10) eZ (za eZ ?_))))
   rcases zA H with⟨h13,H⟩|⟨h13,H⟩
   ·refine gDo eZ (cN h13) (zM (es:=[(dI a3.Lo),(dI a3.Hi)]) rfl bZ rfl (gDo rfl (cN h13) ?_))
    obtain⟨v14,h15,H⟩:=zk H
    exact zD (u:=(oB v14)) eC Cl.fn (Ql h15) (Ec eZ En) (Vc (VD.agg rfl) Vn) rfl (gDo rfl (cN h13) (qI eZ (zJ rfl (cN h13) eZ (za eZ (zm (TQ.qn ⟨(!v14),H,(zg [320] (sR rfl rfl) (blR rfl) (bkR rfl rfl rfl))⟩))))))
   ·exact zb eZ (cN (nt h13)) rfl (zb rfl (cN (nt h13)) rfl (zb rfl (cN (nt h13)) rfl (zC rfl (cN (nt h13)) eC (za eZ (zm (TQ.qn ⟨true,H,(zg [320] (sR rfl rfl) (blR rfl) (bkR rfl rfl rfl))⟩))))))
  ·exact zb eZ (cN (nt h10)) rfl (zb rfl (cN (nt h10)) rfl (zb rfl (cN (nt h10)) rfl (zC rfl (cN (nt h10)) eC (za eZ (zb eZ rfl rfl (zb rfl rfl rfl (zb rfl rfl rfl (zC rfl rfl eC (za eZ (zm (TQ.qn ⟨true,H,(zg [320] (sR rfl rfl) (blR rfl) (bkR rfl rfl rfl))⟩)))))))))))
theorem X1{a1:(List ze)}{r:(List ze)}(H:yk a1=some r):Fn Tryz.prog 203 (lent [(.sl 2 (List.map zd a1))]) true [(.sl 2 (List.map zd r))]:=by
 refine zFS (fle rfl) ?_
 rw[zx]
 refine AW.weaken (zg [] (kv 0 (.one (.d (.sl 2 (List.map zd a1)))) rfl rfl SL.nil) BL.nil BK.nil) ?_
 unfold yk at H
 unfold zCQ
 refine aV (za eC (xQ (zE (fun t2:Unit=>(j6 a1) t2=some r) (fun t2=>mk [(0,(.one (.d (.sl 2 (List.map zd a1)))))] [] noG) ?_ ?_)))
 ·intro t2 H
  unfold j6 at H
  refine aV (yF (m:=320) rfl nZ (za rfl ?_))
  obtain⟨h4,H⟩:=z6 H
  refine zbf (f:=zd) (m:=448) (own:=true) (ys:=a1) (q:=a1.length) rfl rfl rfl eZ (El.lent fun _ _=>rfl) rfl h4 (by decide) nZ (za eZ (xQ (AW.ret ?_)))
  obtain rfl:=(Option.some.inj H)
  exact qK (RL.cons (RV.tmp eZ) (VO.sl bZ lm (zy fun _=>rfl)) RL.nil) (by decide)
 ·refine aV (za rfl ?_)
  rcases zA H with⟨h5,H⟩|⟨h5,H⟩
  ·refine zfr eZ h5 (xQ (AW.condU eZ ?_ ?_))
   ·have H:(some ([]:(List ze)))=some r:=by rw[←H];simp[List.eq_nil_of_length_eq_zero h5,j6]
    refine aV (za eC (xQ (AW.ret (TQ.qr ?_))))
    cases H
    exact qK (RL.cons (RV.tmp eZ) VO.zs RL.nil) List.nodup_nil
   ·exact AW.skip (TQ.qn ⟨(),H,(zg [] (sR rfl rfl) BL.nil BK.nil)⟩)
  ·exact zhF eZ h5 (xQ (zh eZ rfl (AW.skip (TQ.qn ⟨(),H,(zg [] (sR rfl rfl) BL.nil BK.nil)⟩))))
theorem Kn{a1:(List zn)}{r:(List zn)}(H:yu a1=some r):Fn Tryz.prog 204 (lent [(.sl 2 (List.map zj a1))]) true [(.sl 2 (List.map zj r))]:=by
 refine zGf (fle rfl) ?_
 rw[zx]
 refine AW.weaken (zg [] (kv 0 (.one (.d (.sl 2 (List.map zj a1)))) rfl rfl SL.nil) BL.nil BK.nil) ?_
 unfold yu at H
 unfold zBc
 refine aV (za eC (xQ (zE (fun t2:Unit=>(yl a1) t2=some r) (fun t2=>mk [(0,(.one (.d (.sl 2 (List.map zj a1)))))] [] noG) ?_ ?_)))
 ·intro t2 H
  unfold yl at H
  refine aV (yF (m:=320) rfl nZ (za rfl ?_))
  obtain⟨h4,H⟩:=z6 H
  refine zbf (f:=zj) (m:=448) (own:=true) (ys:=a1) (q:=a1.length) rfl rfl rfl eZ (El.lent fun _ _=>rfl) rfl h4 (by decide) nZ (za eZ (xQ (AW.ret ?_)))
  obtain rfl:=(Option.some.inj H)
  exact qK (RL.cons (RV.tmp eZ) (VO.sl bZ lm (zy fun _=>rfl)) RL.nil) (by decide)
 ·refine aV (za rfl ?_)
  rcases zA H with⟨h5,H⟩|⟨h5,H⟩
  ·refine zfr eZ h5 (xQ (AW.condU eZ ?_ ?_))
   ·have H:(some ([]:(List zn)))=some r:=by rw[←H];simp[List.eq_nil_of_length_eq_zero h5,yl]
    refine aV (za eC (xQ (AW.ret (TQ.qr ?_))))
    cases H
    exact qK (RL.cons (RV.tmp eZ) VO.zs RL.nil) List.nodup_nil
   ·exact AW.skip (TQ.qn ⟨(),H,(zg [] (sR rfl rfl) BL.nil BK.nil)⟩)
  ·exact zhF eZ h5 (xQ (zh eZ rfl (AW.skip (TQ.qn ⟨(),H,(zg [] (sR rfl rfl) BL.nil BK.nil)⟩))))
theorem zcg{a1:(List zL)}{r:(List zL)}(H:Zk a1=some r):Fn Tryz.prog 205 (lent [(.sl 4 (List.map zp a1))]) true [(.sl 4 (List.map zp r))]:=by
 refine zGG (fle rfl) ?_
 rw[zx]
 refine AW.weaken (zg [] (kv 0 (.one (.d (.sl 4 (List.map zp a1)))) rfl rfl SL.nil) BL.nil BK.nil) ?_
 unfold Zk at H
 unfold zC7
 refine aV (za eC (xQ (zE (fun t2:Unit=>(ym a1) t2=some r) (fun t2=>mk [(0,(.one (.d (.sl 4 (List.map zp a1)))))] [] noG) ?_ ?_)))
 ·intro t2 H
  unfold ym at H
  refine aV (yF (m:=320) rfl nZ (za rfl ?_))
  obtain⟨h4,H⟩:=z6 H
  refine zbf (f:=zp) (m:=448) (own:=true) (ys:=a1) (q:=a1.length) rfl rfl rfl eZ (El.lent fun _ _=>rfl) rfl h4 (by decide) nZ (za eZ (xQ (AW.ret ?_)))
  obtain rfl:=(Option.some.inj H)
  exact qK (RL.cons (RV.tmp eZ) (VO.sl bZ lm (zy fun _=>rfl)) RL.nil) (by decide)
 ·refine aV (za rfl ?_)
  rcases zA H with⟨h5,H⟩|⟨h5,H⟩
  ·refine zfr eZ h5 (xQ (AW.condU eZ ?_ ?_))
   ·have H:(some ([]:(List zL)))=some r:=by rw[←H];simp[List.eq_nil_of_length_eq_zero h5,ym]
    refine aV (za eC (xQ (AW.ret (TQ.qr ?_))))
    cases H
    exact qK (RL.cons (RV.tmp eZ) VO.zs RL.nil) List.nodup_nil
   ·exact AW.skip (TQ.qn ⟨(),H,(zg [] (sR rfl rfl) BL.nil BK.nil)⟩)
  ·exact zhF eZ h5 (xQ (zh eZ rfl (AW.skip (TQ.qn ⟨(),H,(zg [] (sR rfl rfl) BL.nil BK.nil)⟩))))
theorem zb3{a1:(List zn)}{r:(List zn)}(H:yT a1=some r):Fn Tryz.prog 207 (lent [(.sl 2 (List.map zj a1))]) true [(.sl 2 (List.map zj r))]:=by
 refine zGZ (fle rfl) ?_
 rw[zx]
 refine AW.weaken (zg [] (kv 0 (.one (.d (.sl 2 (List.map zj a1)))) rfl rfl SL.nil) BL.nil BK.nil) ?_
 unfold yT at H
 unfold zAR
 refine aV (za eC (xQ (zE (fun t2:Unit=>(j5 a1) t2=some r) (fun t2=>mk [(0,(.one (.d (.sl 2 (List.map zj a1)))))] [] noG) ?_ ?_)))
 ·intro t2 H
  unfold j5 at H
  refine aV (yF (m:=320) rfl nZ (za rfl ?_))
  obtain⟨h4,H⟩:=z6 H
  refine zbf (f:=zj) (m:=448) (own:=true) (ys:=a1) (q:=a1.length) rfl rfl rfl eZ (El.lent fun _ _=>rfl) rfl h4 (by decide) nZ (za eZ (xQ (AW.ret ?_)))
  obtain rfl:=(Option.some.inj H)
  exact qK (RL.cons (RV.tmp eZ) (VO.sl bZ lm (zy fun _=>rfl)) RL.nil) (by decide)
 ·refine aV (za rfl ?_)
  rcases zA H with⟨h5,H⟩|⟨h5,H⟩
  ·refine zfr eZ h5 (xQ (AW.condU eZ ?_ ?_))
   ·have H:(some ([]:(List zn)))=some r:=by rw[←H];simp[List.eq_nil_of_length_eq_zero h5,j5]
    refine aV (za eC (xQ (AW.ret (TQ.qr ?_))))
    cases H
    exact qK (RL.cons (RV.tmp eZ) VO.zs RL.nil) List.nodup_nil
   ·exact AW.skip (TQ.qn ⟨(),H,(zg [] (sR rfl rfl) BL.nil BK.nil)⟩)
  ·exact zhF eZ h5 (xQ (zh eZ rfl (AW.skip (TQ.qn ⟨(),H,(zg [] (sR rfl rfl) BL.nil BK.nil)⟩))))
theorem Y3{a1:zo}{r:zo}(H:yo a1=some r):Fn Tryz.prog 92 (lent [(.agg (zR a1))]) true [(.agg (zR r))]:=by
 refine f92 (fle rfl) ?_
 rw[zx]
 refine AW.weaken (t:=mk [(0,(.agg (zF a1)))] [] (lk [])) (zg [] (sR rfl rfl) BL.nil BK.nil) ?_
 unfold yo at H
 unfold i92
 refine aV (qY (n:=64) (m:=9) (cs:=(zF a1)) rfl eZ rfl rfl nZ (Zh (n:=128) (m:=9) rfl rfl (nR rfl) (xQ (aS (AW.regd (zf (m:=0) rfl rfl (zl (q:=0) (c:=(dI a1.Me)) eZ (hB rfl (bR rfl)) rfl rfl (zf (m:=1) rfl rfl (zl (q:=1) (c:=(.d (.sl 2 (List.map zd a1.Own)))) eZ (hB rfl (bR rfl)) rfl rfl ?_)))))))))
 obtain⟨v2,h3,H⟩:=zk H
 refine ju (u:=(.one (.sl 640 0 v2.length))) (bs:=[(640,(.data 2 (List.map zd v2) true none))]) eC Cl.fn (X1 h3) (Ec eZ En) (Vc Vp Vn) (by simp[qZ,jC,qq,jn,qy]) rfl (fC (hN (nR rfl)) rfl (fC (hN (nR rfl)) rfl fN)) (zf (m:=2) rfl rfl (zl (q:=2) (c:=(.d (.sl 2 (List.map zd a1.Frozen)))) eZ (hB rfl (bR rfl)) rfl rfl ?_))
 obtain⟨v4,h5,H⟩:=zk H
 refine ju (u:=(.one (.sl 832 0 v4.length))) (bs:=[(832,(.data 2 (List.map zd v4) true none))]) eC Cl.fn (X1 h5) (Ec eZ En) (Vc Vp Vn) (by simp[qZ,jC,qq,jn,qy]) rfl (fC (hN (nR rfl)) rfl (fC (hN (nR rfl)) rfl fN)) (zf (m:=3) rfl rfl (zl (q:=3) (c:=(.d (.sl 2 (List.map zj a1.Cells)))) eZ (hB rfl (bR rfl)) rfl rfl ?_))
 obtain⟨v6,h7,H⟩:=zk H
 refine ju (u:=(.one (.sl 1024 0 v6.length))) (bs:=[(1024,(.data 2 (List.map zj v6) true none))]) eC Cl.fn (Kn h7) (Ec eZ En) (Vc Vp Vn) (by simp[qZ,jC,qq,jn,qy]) rfl (fC (hN (nR rfl)) rfl (fC (hN (nR rfl)) rfl fN)) (zf (m:=4) rfl rfl (zl (q:=4) (c:=(.d (.sl 4 (List.map zp a1.Locks)))) eZ (hB rfl (bR rfl)) rfl rfl ?_))
 obtain⟨v8,h9,H⟩:=zk H
 refine ju (u:=(.one (.sl 1216 0 v8.length))) (bs:=[(1216,(.data 4 (List.map zp v8) true none))]) eC Cl.fn (zcg h9) (Ec eZ En) (Vc Vp Vn) (by simp[qZ,jC,qq,jn,qy]) rfl (fC (hN (nR rfl)) rfl (fC (hN (nR rfl)) rfl fN)) (zf (m:=6) rfl rfl (zl (q:=6) (c:=(.d (.sl 1 (List.map zt a1.Wounded)))) eZ (hB rfl (bR rfl)) rfl rfl ?_))
 obtain⟨v10,h11,H⟩:=zk H
 refine ju (u:=(.one (.sl 1408 0 v10.length))) (bs:=[(1408,(.data 1 (List.map zt v10) true none))]) eC Cl.fn (kz h11) (Ec eZ En) (Vc Vp Vn) (by simp[qZ,jC,qq,jn,qy]) rfl (fC (hN (nR rfl)) rfl (fC (hN (nR rfl)) rfl fN)) (zf (m:=7) rfl rfl (zl (q:=7) (c:=(.d (.sl 1 (List.map zt a1.Ended)))) eZ (hB rfl (bR rfl)) rfl rfl ?_))
 obtain⟨v12,h13,H⟩:=zk H
 refine ju (u:=(.one (.sl 1600 0 v12.length))) (bs:=[(1600,(.data 1 (List.map zt v12) true none))]) eC Cl.fn (kz h13) (Ec eZ En) (Vc Vp Vn) (by simp[qZ,jC,qq,jn,qy]) rfl (fC (hN (nR rfl)) rfl (fC (hN (nR rfl)) rfl fN)) (zf (m:=8) rfl rfl (zl (q:=8) (c:=(dI a1.Rank)) eZ (hB rfl (bR rfl)) rfl rfl (Xv (cs:=[(dI a1.Me),(.sl 640 0 v2.length),(.sl 832 0 v4.length),(.sl 1024 0 v6.length),(.sl 1216 0 v8.length),.zs,(.sl 1408 0 v10.length),(.sl 1600 0 v12.length),(dI a1.Rank)]) (jN rfl (jN rfl (jN rfl (jN rfl (jN rfl (jN rfl (jN rfl (jN eZ kD)))))))) (by kernel_rfl) (Zh (n:=192) (m:=9) rfl rfl (hN (nR rfl)) (zO (es:=[(dI a1.Me),(.sl 640 0 v2.length),(.sl 832 0 v4.length),(.sl 1024 0 v6.length),(.sl 1216 0 v8.length),.zs,(.sl 1408 0 v10.length),(.sl 1600 0 v12.length),(dI a1.Rank)]) eZ rfl rfl rfl bZ rfl (xQ (AW.weaken (zI [] (kr 3 rfl rfl (kr 2 rfl rfl (kr 1 rfl rfl SL.nil))) (blR rfl) (BK.cons (n:=192) rfl bZ rfl rfl (BK.cons (n:=1600) rfl (bR rfl) rfl rfl (BK.cons (n:=1408) rfl (bR rfl) rfl rfl (BK.cons (n:=1216) rfl (bR rfl) rfl rfl (BK.cons (n:=1024) rfl (bR rfl) rfl rfl (BK.cons (n:=832) rfl (bR rfl) rfl rfl (BK.cons (n:=640) rfl (bR rfl) rfl rfl (BK.cons (n:=128) rfl (bR rfl) rfl rfl (BK.cons (n:=64) rfl (bR rfl) rfl rfl BK.nil))))))))) GK.nil) (zE (fun t14:(List zN)=>(Q1 a1 v2 v4 v6 v8 v10 v12) t14=some r) (fun t14=>mk [(2,(.one (.ptr (.nm 128 0 0)))),(3,(.one (.ptr (.nm 192 0 0))))] [(128,(.vars 9 [(dI 0),.zs,.zs,.zs,.zs,.zs,.zs,.zs,(dI 0)])),(320128,(.data 2 (List.map zB t14) true none)),(192,(.vars 9 [(dI a1.Me),(.sl 640 0 v2.length),(.sl 832 0 v4.length),(.sl 1024 0 v6.length),(.sl 1216 0 v8.length),(.sl 320128 0 t14.length),(.sl 1408 0 v10.length),(.sl 1600 0 v12.length),(dI a1.Rank)])),(640,(.data 2 (List.map zd v2) true none)),(832,(.data 2 (List.map zd v4) true none)),(1024,(.data 2 (List.map zj v6) true none)),(1216,(.data 4 (List.map zp v8) true none)),(1408,(.data 1 (List.map zt v10) true none)),(1600,(.data 1 (List.map zt v12) true none))] (lk [])) ?_ ?_))))))))
 ·intro t14 H
  unfold Q1 at H
  refine aS (zW (zw (zM (es:=[(dI a1.Me),(.sl 640 0 v2.length),(.sl 832 0 v4.length),(.sl 1024 0 v6.length),(.sl 1216 0 v8.length),(.sl 320128 0 t14.length),(.sl 1408 0 v10.length),(.sl 1600 0 v12.length),(dI a1.Rank)]) rfl (bR rfl) rfl (zm (zw (zO (es:=[(dI a1.Me),(.sl 640 0 v2.length),(.sl 832 0 v4.length),(.sl 1024 0 v6.length),(.sl 1216 0 v8.length),(.sl 320128 0 t14.length),(.sl 1408 0 v10.length),(.sl 1600 0 v12.length),(dI a1.Rank)]) rfl eZ rfl rfl bZ rfl (zm (z7 (xQ (AW.ret ?_))))))))))
  cases H
  exact qK (RL.cons (jg (es:=[(dI a1.Me),(.sl 640 0 v2.length),(.sl 832 0 v4.length),(.sl 1024 0 v6.length),(.sl 1216 0 v8.length),(.sl 320128 0 t14.length),(.sl 1408 0 v10.length),(.sl 1600 0 v12.length),(dI a1.Rank)]) rfl bZ rfl) (VO.aggs (VOs.cons (VO.flat rfl) (VOs.cons (VO.sl (bR rfl) lm (zy fun _=>rfl)) (VOs.cons (VO.sl (bR rfl) lm (zy fun _=>rfl)) (VOs.cons (VO.sl (bR rfl) lm (zy fun _=>rfl)) (VOs.cons (VO.sl (bR rfl) lm (zy fun _=>rfl)) (VOs.cons (Qf (bR rfl) lm rfl) (VOs.cons (VO.sl (bR rfl) lm (zy fun _=>rfl)) (VOs.cons (VO.sl (bR rfl) lm (zy fun _=>rfl)) (VOs.cons (VO.flat rfl) VOs.nil)))))))))) RL.nil) (by decide)
 ·refine aV (zf (m:=5) rfl rfl (zl (q:=5) (c:=(.d (.sl 2 (List.map zB a1.Helds)))) eZ (bR rfl) rfl rfl (zX eZ (n:=a1.Helds.length) lm (za eC (xQ (AW.block (AW.iter (fun s16:(Int×(List zN))=>mk [(2,(.one (.ptr (.nm 128 0 0)))),(3,(.one (.ptr (.nm 192 0 0)))),(30,(.one (.d (.sl 2 (List.map zB a1.Helds))))),(31,(oI (a1.Helds.length:Int))),(32,(oI s16.1))] [(128,(.vars 9 [(dI 0),.zs,.zs,.zs,.zs,.zs,.zs,.zs,(dI 0)])),(320192,(.data 2 (List.map zB s16.2) true none)),(192,(.vars 9 [(dI a1.Me),(.sl 640 0 v2.length),(.sl 832 0 v4.length),(.sl 1024 0 v6.length),(.sl 1216 0 v8.length),(.sl 320192 0 s16.2.length),(.sl 1408 0 v10.length),(.sl 1600 0 v12.length),(dI a1.Rank)])),(640,(.data 2 (List.map zd v2) true none)),(832,(.data 2 (List.map zd v4) true none)),(1024,(.data 2 (List.map zj v6) true none)),(1216,(.data 4 (List.map zp v8) true none)),(1408,(.data 1 (List.map zt v10) true none)),(1600,(.data 1 (List.map zt v12) true none))] (lk [])) H ((zI [64] (sR rfl rfl) (blR rfl) (BK.cons rfl (bR rfl) rfl rfl (BK.cons rfl (bR rfl) rfl rfl (BK.cons rfl bZ rfl (by first|rfl|simp) (bkR rfl rfl rfl)))) GK.nil).trans (zlw 320192 2 192 5 true bZ rfl (nR rfl))) ?_)))))))
  intro kb17 s16 H
  unfold Q2 at H
  refine aV (qi rfl rfl (xQ (aS ?_)))
  rcases zA H with⟨h18,H⟩|⟨h18,H⟩
  ·refine zi eZ (dT h18) (AW.skip (TQ.qn (aS (AW.block (aS (zW (zw ?_)))))))
   obtain⟨v19,h20,H⟩:=zk H
   refine qt rfl rfl h20 (zm (zw (zZ (es:=(jQ v19)) eZ rfl (zm (zw (Zh (n:=320) (m:=2) rfl rfl (nR rfl) (zm (zw (zO (es:=(jQ v19)) eZ rfl rfl rfl bZ rfl (zm (z7 (xQ (AW.regt (zf (m:=5) rfl rfl (zl (q:=5) (c:=(.sl 320192 0 s16.2.length)) eZ (hB rfl (bR rfl)) rfl rfl (zf (m:=0) rfl rfl (zl (q:=0) (c:=(dI v19.Tx)) eZ (hB rfl bZ) rfl rfl (zf (m:=1) rfl rfl (zl (q:=1) (c:=(.d (.sl 2 (List.map zj v19.Writes)))) eZ bZ rfl rfl ?_)))))))))))))))))))
   obtain⟨v21,h22,H⟩:=zk H
   refine ju (u:=(.one (.sl 2688 0 v21.length))) (bs:=[(2688,(.data 2 (List.map zj v21) true none))]) eC Cl.fn (zb3 h22) (Ec eZ En) (Vc Vp Vn) (by simp[qZ,jC,qq,jn,qy]) rfl (fC (nR rfl) rfl (fC (nR rfl) rfl fN)) (Xv (cs:=[(dI v19.Tx),(.sl 2688 0 v21.length)]) (jN rfl (jN eZ kD)) rfl (za3 (m:=2816) (q:=1) (cs:=[(dI v19.Tx),(.sl 2688 0 v21.length)]) rfl (jN eZ kD) rfl (List.cons_ne_nil _ _) (by simp) (nR rfl) (zm ?_)))
   obtain⟨h23,H⟩:=z6 H
   refine zhQ (f:=zB) (xs:=s16.2) (t:=(zN.mk v19.Tx v21)) (q:=(s16.2++[(zN.mk v19.Tx v21)]).length) (ds:=[(.int .i64 v19.Tx),(.sl 2 (List.map zj v21))]) (ns:=[2688]) rfl eZ (bR rfl) rfl bZ rfl (VOs.cons (VO.flat rfl) (VOs.cons (VO.sl (bR rfl) lm (zy fun _=>rfl)) VOs.nil)) rfl rfl rfl rfl h23 (by decide) (erL.cons (v':=(.one (.sl 2816 0 1))) rfl (erL.cons (v':=(.agg [(dI v19.Tx),.any])) rfl (erL.cons (v':=(.one .any)) rfl (erL.cons (v':=(.one (.d (.sl 2 (List.map zj v19.Writes))))) rfl (erL.cons (v':=(.one (.ptr (.nm 320 0 1)))) rfl (erL.cons (v':=(oI v19.Tx)) rfl (erL.cons (v':=(.one (.ptr (.nm 320 0 0)))) rfl (erL.cons (v':=(.one (.sl 320192 0 s16.2.length))) rfl (erL.cons (v':=(.one (.ptr (.nm 192 0 5)))) rfl (erL.cons (v':=(.one (.ptr (.nm 320 0 0)))) rfl (erL.cons (v':=(.agg (jQ v19))) rfl (erL.cons (v':=(.one (.ptr (.bd (zB v19) 0)))) rfl (erL.cons (v':=(oB (decide (s16.1 < (a1.Helds.length:Int))))) rfl (erL.cons (v':=(.one (.ptr (.nm 128 0 0)))) rfl (erL.cons (v':=(.one (.ptr (.nm 192 0 0)))) rfl (erL.cons (v':=(.one (.d (.sl 2 (List.map zB a1.Helds))))) rfl (erL.cons (v':=(oI (a1.Helds.length:Int))) rfl (erL.cons (v':=(oI s16.1)) rfl erL.nil)))))))))))))))))) (erH.cons (v':=(.vars 2 [(dI v19.Tx),.any])) rfl rfl (erH.drop rfl (erH.cons (v':=(.vars 2 (jQ v19))) rfl rfl (erH.cons (v':=(.vars 2 [(dI 0),.zs])) rfl rfl (erH.cons (v':=(.vars 9 [(dI 0),.zs,.zs,.zs,.zs,.zs,.zs,.zs,(dI 0)])) rfl rfl (erH.cons (v':=(.data 2 (List.map zB s16.2) true none)) rfl rfl (erH.cons (v':=(.vars 9 [(dI a1.Me),(.sl 640 0 v2.length),(.sl 832 0 v4.length),(.sl 1024 0 v6.length),(.sl 1216 0 v8.length),(.sl 320192 0 s16.2.length),(.sl 1408 0 v10.length),(.sl 1600 0 v12.length),(dI a1.Rank)])) rfl rfl (erH.cons (v':=(.data 2 (List.map zd v2) true none)) rfl rfl (erH.cons (v':=(.data 2 (List.map zd v4) true none)) rfl rfl (erH.cons (v':=(.data 2 (List.map zj v6) true none)) rfl rfl (erH.cons (v':=(.data 4 (List.map zp v8) true none)) rfl rfl (erH.cons (v':=(.data 1 (List.map zt v10) true none)) rfl rfl (erH.cons (v':=(.data 1 (List.map zt v12) true none)) rfl rfl erH.nil))))))))))))) erL.nil (erL.cons (v':=(.one (.sl 2816 0 1))) rfl (erL.cons (v':=(.agg [(dI v19.Tx),.any])) rfl (erL.cons (v':=(.one .any)) rfl (erL.cons (v':=(.one (.d (.sl 2 (List.map zj v19.Writes))))) rfl (erL.cons (v':=(.one (.ptr (.nm 320 0 1)))) rfl (erL.cons (v':=(oI v19.Tx)) rfl (erL.cons (v':=(.one (.ptr (.nm 320 0 0)))) rfl (erL.cons (v':=(.one .any)) rfl (erL.cons (v':=(.one (.ptr (.nm 192 0 5)))) rfl (erL.cons (v':=(.one (.ptr (.nm 320 0 0)))) rfl (erL.cons (v':=(.agg (jQ v19))) rfl (erL.cons (v':=(.one (.ptr (.bd (zB v19) 0)))) rfl (erL.cons (v':=(oB (decide (s16.1 < (a1.Helds.length:Int))))) rfl (erL.cons (v':=(.one (.ptr (.nm 128 0 0)))) rfl (erL.cons (v':=(.one (.ptr (.nm 192 0 0)))) rfl (erL.cons (v':=(.one (.d (.sl 2 (List.map zB a1.Helds))))) rfl (erL.cons (v':=(oI (a1.Helds.length:Int))) rfl (erL.cons (v':=(oI s16.1)) rfl erL.nil)))))))))))))))))) (erH.cons (v':=(.vars 2 [(dI v19.Tx),.any])) rfl rfl (erH.cons (v':=(.vars 2 (jQ v19))) rfl rfl (erH.cons (v':=(.vars 2 [(dI 0),.zs])) rfl rfl (erH.cons (v':=(.vars 9 [(dI 0),.zs,.zs,.zs,.zs,.zs,.zs,.zs,(dI 0)])) rfl rfl (erH.drop rfl (erH.cons (v':=(.vars 9 [(dI a1.Me),(.sl 640 0 v2.length),(.sl 832 0 v4.length),(.sl 1024 0 v6.length),(.sl 1216 0 v8.length),.any,(.sl 1408 0 v10.length),(.sl 1600 0 v12.length),(dI a1.Rank)])) rfl rfl (erH.cons (v':=(.data 2 (List.map zd v2) true none)) rfl rfl (erH.cons (v':=(.data 2 (List.map zd v4) true none)) rfl rfl (erH.cons (v':=(.data 2 (List.map zj v6) true none)) rfl rfl (erH.cons (v':=(.data 4 (List.map zp v8) true none)) rfl rfl (erH.cons (v':=(.data 1 (List.map zt v10) true none)) rfl rfl (erH.cons (v':=(.data 1 (List.map zt v12) true none)) rfl rfl erH.nil)))))))))))) erL.nil (zw (zf (m:=5) rfl rfl (zm (zw (zO (es:=[(dI a1.Me),(.sl 640 0 v2.length),(.sl 832 0 v4.length),(.sl 1024 0 v6.length),(.sl 1216 0 v8.length),(.sl 320192 0 ((s16.2++[(zN.mk v19.Tx v21)]).length)),(.sl 1408 0 v10.length),(.sl 1600 0 v12.length),(dI a1.Rank)]) eZ rfl rfl rfl (bR rfl) rfl (zm (z7 (zm (BQ.qn (TQ.qn (AW.weaken (zI [2816,320] (kr 2 rfl rfl (kr 3 rfl rfl (kr 30 rfl rfl (kr 31 rfl rfl (kr 32 rfl rfl SL.nil))))) (blR rfl) (BK.cons (n:=192) rfl bZ rfl rfl (BK.cons (n:=320192) rfl (bR rfl) rfl rfl (BK.cons (n:=128) rfl (bR rfl) rfl rfl (BK.cons (n:=640) rfl (bR rfl) rfl rfl (BK.cons (n:=832) rfl (bR rfl) rfl rfl (BK.cons (n:=1024) rfl (bR rfl) rfl rfl (BK.cons (n:=1216) rfl (bR rfl) rfl rfl (BK.cons (n:=1408) rfl (bR rfl) rfl rfl (BK.cons (n:=1600) rfl (bR rfl) rfl rfl BK.nil))))))))) GK.nil) ?_)))))))))))
   exact aR (qg rfl eC (za eZ (zm (TQ.qn ⟨((IntKind.wrap .i64 (s16.1+1)),(s16.2++[(zN.mk v19.Tx v21)])),H,(zI [] (sR rfl rfl) (blR rfl) (BK.cons rfl (bR rfl) rfl rfl (BK.cons rfl (bR rfl) rfl rfl (BK.cons rfl bZ rfl (by first|rfl|simp) (bkR rfl rfl rfl)))) GK.nil)⟩))))
  ·exact zh eZ (dF h18) (AW.exit (TQ.qe (TQ.qe (BQ.qe (TQ.qn ⟨s16.2,H,((zI [] (sR rfl rfl) (blR rfl) (BK.cons rfl bZ rfl rfl (BK.cons rfl (bR rfl) rfl rfl (BK.cons rfl (bR rfl) rfl (by first|rfl|simp) (bkR rfl rfl rfl)))) GK.nil).trans (Ky 320192 320128 rfl rfl (nR rfl) GR.nil))⟩)))))
theorem zfB{a1:zo}{a2:Int}{r:(zo×Int)}(H:YD a1 a2=some r):Fn Tryz.prog 90 (lent [(.agg (zR a1)),(.int .i64 a2)]) true [(.agg (zR r.1)),(.int .i64 r.2)]:=by
 refine f90 (fle rfl) ?_
 rw[zx]
 refine AW.weaken (t:=mk [(0,(.agg (zF a1))),(1,(oI a2))] [] (lk [])) (zg [] (sR rfl rfl) BL.nil BK.nil) ?_
 unfold YD at H
 unfold i90
 refine aV (qY (n:=128) (m:=9) (cs:=(zF a1)) rfl eZ rfl rfl nZ (Zh (n:=256) (m:=9) rfl rfl (nR rfl) (za eC (xQ (aS (aV (za rfl (KG eZ eC (xQ ?_)))))))))
 rcases zA H with⟨h3,H⟩|⟨h3,H⟩
 ·refine zi eZ (dT h3) (aS (zW (zw (Xv (cs:=[(dI 0),.zs,.zs,.zs,.zs,.zs,.zs,.zs,(dI 0)]) kD rfl (zm (zw (zO (es:=[(dI 0),.zs,.zs,.zs,.zs,.zs,.zs,.zs,(dI 0)]) rfl eZ rfl rfl bZ rfl (zm (z7 (za eC (xQ (AW.ret (TQ.qr ?_)))))))))))))
  cases H
  exact qK (RL.cons (jg (es:=[(dI 0),.zs,.zs,.zs,.zs,.zs,.zs,.zs,(dI 0)]) rfl bZ rfl) (VO.aggs (VOs.cons (VO.flat rfl) (VOs.cons VO.zs (VOs.cons VO.zs (VOs.cons VO.zs (VOs.cons VO.zs (VOs.cons VO.zs (VOs.cons VO.zs (VOs.cons VO.zs (VOs.cons (VO.flat rfl) VOs.nil)))))))))) (RL.cons (RV.tmp eZ) (VO.flat rfl) RL.nil)) List.nodup_nil
 ·refine zh eZ (dF h3) (AW.skip (TQ.qn (aS (zW (zw (zM (es:=(zF a1)) rfl (bR rfl) rfl (zm (zw ?_))))))))
  obtain⟨v4,h5,H⟩:=zk H
  refine ju (u:=(.agg [(dI v4.Me),(.sl 641 0 v4.Own.length),(.sl 642 0 v4.Frozen.length),(.sl 643 0 v4.Cells.length),(.sl 644 0 v4.Locks.length),(.sl 645 0 v4.Helds.length),(.sl 646 0 v4.Wounded.length),(.sl 647 0 v4.Ended.length),(dI v4.Rank)])) (bs:=[(641,(.data 2 (List.map zd v4.Own) true none)),(642,(.data 2 (List.map zd v4.Frozen) true none)),(643,(.data 2 (List.map zj v4.Cells) true none)),(644,(.data 4 (List.map zp v4.Locks) true none)),(645,(.data 2 (List.map zB v4.Helds) true none)),(646,(.data 1 (List.map zt v4.Wounded) true none)),(647,(.data 1 (List.map zt v4.Ended) true none))]) eC Cl.fn (Y3 h5) (Ec eZ En) (Vc (VD.agg rfl) Vn) (by simp[qZ,jC,qq,jn,qy]) rfl (fC (nR rfl) rfl (fC (nR rfl) rfl (fC (nR rfl) rfl (fC (nR rfl) rfl (fC (nR rfl) rfl (fC (nR rfl) rfl (fC (nR rfl) rfl (fC (nR rfl) rfl fN)))))))) (zm (zw (za rfl (zm (zw (zO (es:=[(dI v4.Me),(.sl 641 0 v4.Own.length),(.sl 642 0 v4.Frozen.length),(.sl 643 0 v4.Cells.length),(.sl 644 0 v4.Locks.length),(.sl 645 0 v4.Helds.length),(.sl 646 0 v4.Wounded.length),(.sl 647 0 v4.Ended.length),(dI v4.Rank)]) rfl rfl rfl rfl (bR rfl) rfl (zm (z7 (za eZ (xQ (AW.ret ?_)))))))))))
  cases H
  exact qK (RL.cons (jg (es:=[(dI v4.Me),(.sl 641 0 v4.Own.length),(.sl 642 0 v4.Frozen.length),(.sl 643 0 v4.Cells.length),(.sl 644 0 v4.Locks.length),(.sl 645 0 v4.Helds.length),(.sl 646 0 v4.Wounded.length),(.sl 647 0 v4.Ended.length),(dI v4.Rank)]) rfl bZ rfl) (VO.aggs (VOs.cons (VO.flat rfl) (VOs.cons (VO.sl (bR rfl) lm (zy fun _=>rfl)) (VOs.cons (VO.sl (bR rfl) lm (zy fun _=>rfl)) (VOs.cons (VO.sl (bR rfl) lm (zy fun _=>rfl)) (VOs.cons (VO.sl (bR rfl) lm (zy fun _=>rfl)) (VOs.cons (Qf (bR rfl) lm rfl) (VOs.cons (VO.sl (bR rfl) lm (zy fun _=>rfl)) (VOs.cons (VO.sl (bR rfl) lm (zy fun _=>rfl)) (VOs.cons (VO.flat rfl) VOs.nil)))))))))) (RL.cons (RV.tmp eZ) (VO.flat rfl) RL.nil)) (by decide)
theorem zdZ{a1:ze}{a2:ze}{r:Bool}(H:xl a1 a2=some r):Fn Tryz.prog 202 (lent [(.agg (zd a1)),(.ptr (zd a2))]) true [(.bool r)]:=by
 refine zGg (fle rfl) ?_
 rw[zx]
 refine AW.weaken (zg [] (kv 0 (.agg [(dI a1.Lo),(dI a1.Hi)]) rfl rfl (SL.cons (v:=(.one (.ptr (.bd (zd a2) 0)))) (eS rfl eZ) rfl (VWk.one CWk.ptr) SL.nil)) BL.nil BK.nil) ?_
 unfold xl at H
 unfold zzO
 refine aV (qY (n:=128) (m:=2) (cs:=[(dI a1.Lo),(dI a1.Hi)]) rfl eZ rfl rfl nZ (za eC (xQ (aV (zZ (es:=[(dI a2.Lo),(dI a2.Hi)]) rfl rfl (zM (es:=[(dI a1.Lo),(dI a1.Hi)]) rfl bZ rfl ?_))))))
 obtain⟨v3,h4,H⟩:=zk H
 refine zD (u:=(oB v3)) eC Cl.fn (Kx h4) (Ec rfl (Ec eZ En)) (Vc (VD.agg rfl) (Vc (VD.agg rfl) Vn)) rfl (za eZ (xQ (AW.ret ?_)))
 cases H
 exact eE rfl rfl
theorem xx{a1:(List ze)}{a2:ze}{r:Int}(H:jp a1 a2=some r):Fn Tryz.prog 284 (lent [(.sl 2 (List.map zd a1)),(.fn 202 [.ptr (zd a2)])]) true [(.int .i64 r)]:=by
 refine zxE (fle rfl) ?_
 rw[zx]
 refine AW.weaken (zg [] (kv 0 (.one (.d (.sl 2 (List.map zd a1)))) rfl rfl (SL.cons (v:=(.one (.fn 202 [(.bd (zd a2) 0)]))) (eS rfl eZ) rfl (VWk.one (CWk.fn (css:=[zd a2]))) SL.nil)) BL.nil BK.nil) ?_
 unfold jp at H
 unfold znu
 refine aV (za eC (xQ (zE (fun t3:Unit=>jY t3=some r) (fun t3=>mk [] [] noG) ?_ ?_)))
 ·intro t3 H
  unfold jY at H
  refine aV (za eC (xQ (AW.ret ?_)))
  cases H
  exact eE rfl rfl
 ·refine aV (za rfl (zX eZ (n:=a1.length) lm (za eC (xQ (AW.block (AW.iter (fun s5:Int=>mk [(0,(.one (.d (.sl 2 (List.map zd a1))))),(1,(.one (.fn 202 [(.bd (zd a2) 0)]))),(7,(oI (a1.length:Int))),(8,(oI s5))] [] noG) H (zg [] (sR rfl rfl) BL.nil BK.nil) ?_))))))
  intro kb6 s5 H
  unfold jh at H
  refine aV (qi rfl rfl (xQ (aS ?_)))
  rcases zA H with⟨h7,H⟩|⟨h7,H⟩
  ·refine zi eZ (dT h7) (AW.skip (TQ.qn (aS (AW.block (aV (za rfl (za eZ (xQ (aV (za rfl (za rfl (za rfl ?_))))))))))))
   obtain⟨v8,h9,H⟩:=zk H
   refine qt rfl eZ h9 (zZ (es:=[(dI v8.Lo),(dI v8.Hi)]) eZ rfl ?_)
   obtain⟨v10,h11,H⟩:=zk H
   refine zD (u:=(oB v10)) rfl Cl.fn (zdZ h11) (Ec eZ En) (Vc (VD.agg rfl) (Vc qX Vn)) rfl (xQ ?_)
   rcases zA H with⟨h12,H⟩|⟨h12,H⟩
   ·refine zi eZ h12 (aV (za rfl (za eZ (xQ (AW.ret (BQ.qr (TQ.qr (TQ.qr (BQ.qr (TQ.qr ?_))))))))))
    cases H
    exact eE rfl rfl
   ·exact zh eZ (nt h12) (AW.skip (BQ.qn (TQ.qn (aR (qg rfl eC (za eZ (zm (TQ.qn ⟨(IntKind.wrap .i64 (s5+1)),H,(zg [] (sR rfl rfl) BL.nil BK.nil)⟩))))))))
  ·exact zh eZ (dF h7) (AW.exit (TQ.qe (TQ.qe (BQ.qe (TQ.qn ⟨(),H,(zg [] SL.nil BL.nil BK.nil)⟩)))))
theorem Yn{a1:(List ze)}{a2:ze}{r:Bool}(H:qV a1 a2=some r):Fn Tryz.prog 201 (lent [(.sl 2 (List.map zd a1)),(.fn 202 [.ptr (zd a2)])]) true [(.bool r)]:=by
 refine zpJ (fle rfl) ?_
 rw[zx]
 refine AW.weaken (zg [] (kv 0 (.one (.d (.sl 2 (List.map zd a1)))) rfl rfl (SL.cons (v:=(.one (.fn 202 [(.bd (zd a2) 0)]))) (eS rfl eZ) rfl (VWk.one (CWk.fn (css:=[zd a2]))) SL.nil)) BL.nil BK.nil) ?_
 unfold qV at H
 unfold zmX
 refine aV (za eC (xQ (aV (za rfl (za rfl ?_)))))
 obtain⟨v3,h4,H⟩:=zk H
 refine zD (u:=(oI v3)) eC Cl.fn (xx h4) (Ec rfl (Ec eZ En)) (Vc Vp (Vc (VD.fn (PDs.cons qX PDs.nil)) Vn)) rfl (XA eZ eC (za eZ (xQ (AW.ret ?_))))
 cases H
 exact eE rfl rfl
theorem zfx{a1:(List ze)}{a2:ze}{r:Bool}(H:J6 a1 a2=some r):Fn Tryz.prog 91 (lent [(.sl 2 (List.map zd a1)),(.agg (zd a2))]) true [(.bool r)]:=by
 refine f91 (fle rfl) ?_
 rw[zx]
 refine AW.weaken (zg [] (kv 0 (.one (.d (.sl 2 (List.map zd a1)))) rfl rfl (kv 1 (.agg [(dI a2.Lo),(dI a2.Hi)]) rfl rfl SL.nil)) BL.nil BK.nil) ?_
 unfold J6 at H
 unfold i91
 refine aV (qY (n:=192) (m:=2) (cs:=[(dI a2.Lo),(dI a2.Hi)]) rfl rfl rfl rfl nZ (za eC (xQ (aV (za rfl (zbt (ps:=[(.nm 192 0 0)]) (Ec rfl En) ?_))))))
 obtain⟨v3,h4,H⟩:=zk H
 refine zD (u:=(oB v3)) eC Cl.fn (Yn h4) (Ec rfl (Ec eZ En)) (Vc Vp (Vc (VD.fn (PDs.cons (ZR bZ (CDs.plain (CDs.plain CDs.nil))) PDs.nil)) Vn)) rfl (za eZ (xQ (AW.ret ?_)))
 cases H
 exact eE rfl rfl
theorem zcU{a1:zL}{a2:ze}{r:Bool}(H:Q5 a1 a2=some r):Fn Tryz.prog 111 (lent [(.agg (zp a1)),(.ptr (zd a2))]) true [(.bool r)]:=by
 refine zHc (fle rfl) ?_
 rw[zx]
 refine AW.weaken (zg [] (kv 0 (.agg (qj a1)) rfl rfl (SL.cons (v:=(.one (.ptr (.bd (zd a2) 0)))) (eS rfl eZ) rfl (VWk.one CWk.ptr) SL.nil)) BL.nil BK.nil) ?_
 unfold Q5 at H
 unfold zDh
 refine aV (qY (n:=128) (m:=4) (cs:=(qj a1)) rfl eZ rfl rfl nZ (za eC (xQ (aS (AW.regd (zM (es:=(qj a1)) rfl bZ rfl ?_))))))
 obtain⟨v3,h4,H⟩:=zk H
 refine zD (u:=(.agg [(dI v3.Lo),(dI v3.Hi)])) eC Cl.fn (yL h4) (Ec eZ En) (Vc (VD.agg rfl) Vn) rfl (zZ (es:=[(dI a2.Lo),(dI a2.Hi)]) rfl rfl ?_)
 obtain⟨v5,h6,H⟩:=zk H
 refine zD (u:=(oB v5)) eC Cl.fn (Kx h6) (Ec rfl (Ec eZ En)) (Vc (VD.agg rfl) (Vc (VD.agg rfl) Vn)) rfl (za eZ (xQ (AW.ret ?_)))
 cases H
 exact eE rfl rfl
theorem xu{a1:(List zL)}{a2:ze}{r:Int}(H:jl a1 a2=some r):Fn Tryz.prog 216 (lent [(.sl 4 (List.map zp a1)),(.fn 111 [.ptr (zd a2)])]) true [(.int .i64 r)]:=by
 refine f216 (fle rfl) ?_
 rw[zx]
 refine AW.weaken (zg [] (kv 0 (.one (.d (.sl 4 (List.map zp a1)))) rfl rfl (SL.cons (v:=(.one (.fn 111 [(.bd (zd a2) 0)]))) (eS rfl eZ) rfl (VWk.one (CWk.fn (css:=[zd a2]))) SL.nil)) BL.nil BK.nil) ?_
 unfold jl at H
 unfold zkW
 refine aV (za eC (xQ (zE (fun t3:Unit=>jP t3=some r) (fun t3=>mk [] [] noG) ?_ ?_)))
 ·intro t3 H
  unfold jP at H
  refine aV (za eC (xQ (AW.ret ?_)))
  cases H
  exact eE rfl rfl
 ·refine aV (za rfl (zX eZ (n:=a1.length) lm (za eC (xQ (AW.block (AW.iter (fun s5:Int=>mk [(0,(.one (.d (.sl 4 (List.map zp a1))))),(1,(.one (.fn 111 [(.bd (zd a2) 0)]))),(7,(oI (a1.length:Int))),(8,(oI s5))] [] noG) H (zg [] (sR rfl rfl) BL.nil BK.nil) ?_))))))
  intro kb6 s5 H
  unfold je at H
  refine aV (qi rfl rfl (xQ (aS ?_)))
  rcases zA H with⟨h7,H⟩|⟨h7,H⟩
  ·refine zi eZ (dT h7) (AW.skip (TQ.qn (aS (AW.block (aV (za rfl (za eZ (xQ (aV (za rfl (za rfl (za rfl ?_))))))))))))
   obtain⟨v8,h9,H⟩:=zk H
   refine qt rfl eZ h9 (zZ (es:=(qj v8)) eZ rfl ?_)
   obtain⟨v10,h11,H⟩:=zk H
   refine zD (u:=(oB v10)) rfl Cl.fn (zcU h11) (Ec eZ En) (Vc (VD.agg rfl) (Vc qX Vn)) rfl (xQ ?_)
   rcases zA H with⟨h12,H⟩|⟨h12,H⟩
   ·refine zi eZ h12 (aV (za rfl (za eZ (xQ (AW.ret (BQ.qr (TQ.qr (TQ.qr (BQ.qr (TQ.qr ?_))))))))))
    cases H
    exact eE rfl rfl
   ·exact zh eZ (nt h12) (AW.skip (BQ.qn (TQ.qn (aR (qg rfl eC (za eZ (zm (TQ.qn ⟨(IntKind.wrap .i64 (s5+1)),H,(zg [] (sR rfl rfl) BL.nil BK.nil)⟩))))))))
  ·exact zh eZ (dF h7) (AW.exit (TQ.qe (TQ.qe (BQ.qe (TQ.qn ⟨(),H,(zg [] SL.nil BL.nil BK.nil)⟩)))))
end Go.AW
