/- Plain laws: what the plain functions answer. Conditions: each theorem's own. -/
import Derived.Test.YtpabbbmfcgnhdaaGreatRFnAnswered
set_option linter.unusedVariables false
set_option linter.unusedSimpArgs false
set_option maxRecDepth 100000
namespace Go.AW
abbrev e2(d:qX):zA:=⟨1,2,d⟩
structure Ks where
 c:qX
 d:qX
 x:Int
 y:Int
 l1:List zD
 l2:List zD
 w:Nat→List Int
abbrev Ks.a(K:Ks):List zA:=[e1 K.c]
abbrev Ks.b(K:Ks):List zA:=[e1 K.c,e2 K.d]
abbrev rp(me mode view normal commit:Int)(es:List zA)(vs:List qh)(cell nonce:Int):zb:=⟨me,3,mode,view,normal,commit,lg es,vs,cell,nonce⟩
abbrev vt(kind fr view normal op commit:Int)(es:List zA):qh:=⟨kind,fr,view,normal,op,commit,lg es⟩
abbrev fl(id to:Int)(w:List Int):z5:=⟨id,to,KT w⟩
abbrev dl:TGo:=⟨2,0,0,0,0,c0⟩
theorem zfh{α:Type}{c:Prop}[d:Decidable c]{x y r:α}(h:c)(h2:x=r):(if c then x else y)=r:=by rw[if_pos h];exact h2
theorem zh4{α:Type}{c:Prop}[d:Decidable c]{x y r:α}(h:¬c)(h2:y=r):(if c then x else y)=r:=by rw[if_neg h];exact h2
theorem zpc{p:Prop}[Decidable p](h:p):some (decide p)=some true:=by simp[h]
theorem zFx{m n:qg}{w:List Int}(h:Wr n w)(e:m=n):Zy m=some (w,true):=by rw[e];exact h.p
structure RK(r:zb):Prop where
 h:qN r=some true
theorem evr{P:Prop}(h:P:=by
 repeat' with_reducible first
  |assumption
  |rfl
  |apply zik
  |(apply zfh;assumption)
  |(apply zif;assumption)
  |(apply zh4;assumption)
  |(apply zhu;decide+kernel)
  |(apply zgG;decide+kernel)
  |(apply zfh;simp only[decide_eq_true_eq,List.length_cons,List.length_nil,lg]<;>decide+kernel)
  |(apply zh4;simp only[decide_eq_true_eq,List.length_cons,List.length_nil,lg]<;>decide+kernel)
  |(apply zhu;with_unfolding_all exact O)
  |(apply zgG;with_unfolding_all exact O)
  |apply zjn
  |apply zeT
  |(apply zpc;simp only[decide_eq_true_eq,List.length_cons,List.length_nil,lg]<;>decide+kernel)
  |with_unfolding_all rfl):P:=h
structure Fy(K:Ks):Prop where
 hc:yA K.c=some true
 hd:yA K.d=some true
 f1:qw (e1 K.c)=some true
 f2:qw (e2 K.d)=some true
 hx:jK K.x=some true
 hy:jK K.y=some true
 r1:yc ⟨[],[]⟩ (e1 K.c)=some (⟨K.l1,[⟨1,1,K.x⟩]⟩,K.x,0)
 r2:yc ⟨K.l1,[⟨1,1,K.x⟩]⟩ (e2 K.d)=some (⟨K.l2,[⟨1,2,K.y⟩]⟩,K.y,0)
 im:yD ⟨K.l1,[⟨1,1,K.x⟩]⟩=some true
 eq:jx K.l2 K.l2=some true
structure Fx(K:Ks):Prop extends Fy K where
 m0:Wr (zio 0 0 1 0 1 K.c) (K.w 0)
 m1:Wr (mOk 1 0 1) (K.w 1)
 m2:Wr (mOk 2 0 1) (K.w 2)
 m3:Wr (zdb 0 0 1) (K.w 3)
 m4:Wr (ze8 1 1) (K.w 4)
 m5:Wr (ze8 0 1) (K.w 5)
 m6:Wr (mDo 0 1 1 K.a) (K.w 6)
 m7:Wr (ze8 2 1) (K.w 7)
 m8:Wr (mDo 2 1 1 K.a) (K.w 8)
 m9:Wr (zka 1 1 1 K.a) (K.w 9)
 m10:Wr (mOk 0 1 1) (K.w 10)
 m11:Wr (mOk 2 1 1) (K.w 11)
 m12:Wr (zgw 0 1) (K.w 12)
 m13:Wr (zij 1 1 1 1 K.a) (K.w 13)
 m14:Wr (zij 2 1 1 1 K.a) (K.w 14)
 m15:Wr (zio 1 1 2 1 2 K.d) (K.w 15)
 m16:Wr (mOk 0 1 2) (K.w 16)
 m17:Wr (mOk 2 1 2) (K.w 17)
 m18:Wr (zdb 1 1 2) (K.w 18)
variable {K:Ks}
abbrev R0:zb:=rp 0 1 0 0 0 [] [] 0 0
abbrev R1:zb:=rp 1 1 0 0 0 [] [] 0 0
abbrev R2:zb:=rp 2 1 0 0 0 [] [] 0 0
abbrev R3(K:Ks):zb:=rp 0 1 0 0 0 K.a [] 0 0
abbrev R4(K:Ks):zb:=rp 1 1 0 0 0 K.a [] 0 0
abbrev R5(K:Ks):zb:=rp 2 1 0 0 0 K.a [] 0 0
abbrev R6(K:Ks):zb:=rp 0 1 0 0 1 K.a [vt 3 1 0 0 1 0 []] 0 0
abbrev R7(K:Ks):zb:=rp 0 1 0 0 1 K.a [vt 3 1 0 0 1 0 [],vt 3 2 0 0 1 0 []] 0 0
abbrev R8(K:Ks):zb:=rp 1 1 0 0 1 K.a [] 0 0
abbrev R9(K:Ks):zb:=rp 2 1 0 0 1 K.a [] 0 0
abbrev R10(K:Ks):zb:=rp 1 2 1 0 1 K.a [] 1 0
abbrev R11(K:Ks):zb:=rp 0 2 1 0 1 K.a [vt 5 1 1 0 0 0 [],vt 6 0 1 0 0 1 K.a] 1 0
abbrev R12(K:Ks):zb:=rp 2 2 1 0 1 K.a [vt 5 1 1 0 0 0 [],vt 6 2 1 0 0 1 K.a] 1 0
abbrev R13(K:Ks):zb:=rp 1 2 1 0 1 K.a [vt 5 0 1 0 0 0 [],vt 6 1 1 0 0 1 K.a] 1 0
abbrev R14(K:Ks):zb:=rp 2 2 1 0 1 K.a [vt 5 1 1 0 0 0 [],vt 6 2 1 0 0 1 K.a,vt 5 0 1 0 0 0 []] 1 0
abbrev R15(K:Ks):zb:=rp 1 1 1 1 1 K.a [] 1 0
abbrev R16(K:Ks):zb:=rp 0 2 1 0 1 K.a [vt 5 1 1 0 0 0 [],vt 6 0 1 0 0 1 K.a,vt 5 2 1 0 0 0 []] 1 0
abbrev R17(K:Ks):zb:=rp 0 1 1 1 1 K.a [] 1 0
abbrev R18(K:Ks):zb:=rp 2 1 1 1 1 K.a [] 1 0
abbrev R19(K:Ks):zb:=rp 1 1 1 1 1 K.a [vt 3 0 0 0 1 0 []] 1 0
abbrev R20(K:Ks):zb:=rp 1 1 1 1 1 K.a [vt 3 0 0 0 1 0 [],vt 3 2 0 0 1 0 []] 1 0
abbrev R21:zb:=rp 0 0 0 0 0 [] [] 1 0
abbrev R22:zb:=rp 0 3 0 0 0 [] [] 1 1
abbrev R23(K:Ks):zb:=rp 0 3 0 0 0 [] [vt 9 1 1 0 0 1 K.a] 1 1
abbrev R24(K:Ks):zb:=rp 0 1 1 1 1 K.a [] 1 1
abbrev R25(K:Ks):zb:=rp 1 1 1 1 1 K.b [vt 3 0 0 0 1 0 [],vt 3 2 0 0 1 0 []] 1 0
abbrev R26(K:Ks):zb:=rp 0 1 1 1 1 K.b [] 1 1
abbrev R27(K:Ks):zb:=rp 2 1 1 1 1 K.b [] 1 0
abbrev R28(K:Ks):zb:=rp 1 1 1 1 2 K.b [vt 3 0 0 0 2 0 [],vt 3 2 0 0 1 0 []] 1 0
abbrev R29(K:Ks):zb:=rp 1 1 1 1 2 K.b [vt 3 0 0 0 2 0 [],vt 3 2 0 0 2 0 []] 1 0
abbrev R30(K:Ks):zb:=rp 0 1 1 1 2 K.b [] 1 1
abbrev R31(K:Ks):zb:=rp 2 1 1 1 2 K.b [] 1 0
set_option maxHeartbeats 8000000
theorem rkK{r:zb}(H:Fy K)(h:qw (e1 K.c)=some true→qw (e2 K.d)=some true→qN r=some true:=by intro h1 h2;exact evr):RK r:=⟨h H.f1 H.f2⟩
theorem r0(H:Fy K):RK (R0):=rkK H
theorem r1(H:Fy K):RK (R1):=rkK H
theorem r2(H:Fy K):RK (R2):=rkK H
theorem r3(H:Fy K):RK (R3 K):=rkK H
theorem r4(H:Fy K):RK (R4 K):=rkK H
theorem r5(H:Fy K):RK (R5 K):=rkK H
theorem r6(H:Fy K):RK (R6 K):=rkK H
theorem r7(H:Fy K):RK (R7 K):=rkK H
theorem r8(H:Fy K):RK (R8 K):=rkK H
theorem r9(H:Fy K):RK (R9 K):=rkK H
theorem r10(H:Fy K):RK (R10 K):=rkK H
theorem r11(H:Fy K):RK (R11 K):=rkK H
theorem r12(H:Fy K):RK (R12 K):=rkK H
theorem r13(H:Fy K):RK (R13 K):=rkK H
theorem r14(H:Fy K):RK (R14 K):=rkK H
theorem r15(H:Fy K):RK (R15 K):=rkK H
theorem r16(H:Fy K):RK (R16 K):=rkK H
theorem r17(H:Fy K):RK (R17 K):=rkK H
theorem r18(H:Fy K):RK (R18 K):=rkK H
theorem r19(H:Fy K):RK (R19 K):=rkK H
theorem r20(H:Fy K):RK (R20 K):=rkK H
theorem r21(H:Fy K):RK (R21):=rkK H
theorem r22(H:Fy K):RK (R22):=rkK H
theorem r23(H:Fy K):RK (R23 K):=rkK H
theorem r24(H:Fy K):RK (R24 K):=rkK H
theorem r25(H:Fy K):RK (R25 K):=rkK H
theorem r26(H:Fy K):RK (R26 K):=rkK H
theorem r27(H:Fy K):RK (R27 K):=rkK H
theorem r28(H:Fy K):RK (R28 K):=rkK H
theorem r29(H:Fy K):RK (R29 K):=rkK H
theorem r30(H:Fy K):RK (R30 K):=rkK H
theorem r31(H:Fy K):RK (R31 K):=rkK H
theorem evs{P:Prop}(h:P:=by
 obtain⟨hc,hd,h1,h2,hx,hy,q1,q2,im,eq⟩:=H.toFy
 repeat' with_reducible first
  |assumption
  |(apply RK.h;first|exact r0 H.toFy|exact r1 H.toFy|exact r2 H.toFy|exact r3 H.toFy|exact r4 H.toFy|exact r5 H.toFy|exact r6 H.toFy|exact r7 H.toFy|exact r8 H.toFy|exact r9 H.toFy|exact r10 H.toFy|exact r11 H.toFy|exact r12 H.toFy|exact r13 H.toFy|exact r14 H.toFy|exact r15 H.toFy|exact r16 H.toFy|exact r17 H.toFy|exact r18 H.toFy|exact r19 H.toFy|exact r20 H.toFy|exact r21 H.toFy|exact r22 H.toFy|exact r23 H.toFy|exact r24 H.toFy|exact r25 H.toFy|exact r26 H.toFy|exact r27 H.toFy|exact r28 H.toFy|exact r29 H.toFy|exact r30 H.toFy|exact r31 H.toFy)
  |(apply Wr.u;first|exact H.m0|exact H.m1|exact H.m2|exact H.m3|exact H.m4|exact H.m5|exact H.m6|exact H.m7|exact H.m8|exact H.m9|exact H.m10|exact H.m11|exact H.m12|exact H.m13|exact H.m14|exact H.m15|exact H.m16|exact H.m17|exact H.m18)
  |(apply Wr.f;first|exact H.m0|exact H.m1|exact H.m2|exact H.m3|exact H.m4|exact H.m5|exact H.m6|exact H.m7|exact H.m8|exact H.m9|exact H.m10|exact H.m11|exact H.m12|exact H.m13|exact H.m14|exact H.m15|exact H.m16|exact H.m17|exact H.m18)
  |(apply zFx;first|(exact H.m0;with_unfolding_all exact O)|(exact H.m1;with_unfolding_all exact O)|(exact H.m2;with_unfolding_all exact O)|(exact H.m3;with_unfolding_all exact O)|(exact H.m4;with_unfolding_all exact O)|(exact H.m5;with_unfolding_all exact O)|(exact H.m6;with_unfolding_all exact O)|(exact H.m7;with_unfolding_all exact O)|(exact H.m8;with_unfolding_all exact O)|(exact H.m9;with_unfolding_all exact O)|(exact H.m10;with_unfolding_all exact O)|(exact H.m11;with_unfolding_all exact O)|(exact H.m12;with_unfolding_all exact O)|(exact H.m13;with_unfolding_all exact O)|(exact H.m14;with_unfolding_all exact O)|(exact H.m15;with_unfolding_all exact O)|(exact H.m16;with_unfolding_all exact O)|(exact H.m17;with_unfolding_all exact O)|(exact H.m18;with_unfolding_all exact O))
  |(apply zfh;apply Wr.a;first|exact H.m0|exact H.m1|exact H.m2|exact H.m3|exact H.m4|exact H.m5|exact H.m6|exact H.m7|exact H.m8|exact H.m9|exact H.m10|exact H.m11|exact H.m12|exact H.m13|exact H.m14|exact H.m15|exact H.m16|exact H.m17|exact H.m18)
  |(apply zfh;apply Wr.b;first|exact H.m0|exact H.m1|exact H.m2|exact H.m3|exact H.m4|exact H.m5|exact H.m6|exact H.m7|exact H.m8|exact H.m9|exact H.m10|exact H.m11|exact H.m12|exact H.m13|exact H.m14|exact H.m15|exact H.m16|exact H.m17|exact H.m18)
  |(apply zif;apply Wr.s;first|exact H.m0|exact H.m1|exact H.m2|exact H.m3|exact H.m4|exact H.m5|exact H.m6|exact H.m7|exact H.m8|exact H.m9|exact H.m10|exact H.m11|exact H.m12|exact H.m13|exact H.m14|exact H.m15|exact H.m16|exact H.m17|exact H.m18)
  |rfl
  |apply zik
  |(apply zfh;assumption)
  |(apply zif;assumption)
  |(apply zh4;assumption)
  |(apply zhu;decide+kernel)
  |(apply zgG;decide+kernel)
  |(apply zfh;simp only[decide_eq_true_eq,List.length_cons,List.length_nil,lg]<;>decide+kernel)
  |(apply zh4;simp only[decide_eq_true_eq,List.length_cons,List.length_nil,lg]<;>decide+kernel)
  |(apply zhu;with_unfolding_all exact O)
  |(apply zgG;with_unfolding_all exact O)
  |apply zjn
  |apply zeT
  |(apply zpc;simp only[decide_eq_true_eq,List.length_cons,List.length_nil,lg]<;>decide+kernel)
  |with_unfolding_all rfl):P:=h
abbrev S0(K:Ks):zr:=⟨3,[R0,R1,R2],⟨0,[]⟩,[]⟩
abbrev S1(K:Ks):zr:=⟨3,[R3 K,R1,R2],⟨2,[fl 0 1 (K.w 0),fl 1 2<|K.w 0]⟩,[]⟩
abbrev S2(K:Ks):zr:=⟨3,[R3 K,R4 K,R2],⟨3,[fl 1 2 (K.w 0),fl 2 0<|K.w 1]⟩,[]⟩
abbrev S3(K:Ks):zr:=⟨3,[R3 K,R4 K,R5 K],⟨4,[fl 2 0 (K.w 1),fl 3 0<|K.w 2]⟩,[]⟩
abbrev S4(K:Ks):zr:=⟨3,[R6 K,R4 K,R5 K],⟨6,[fl 3 0 (K.w 2),fl 4 1<|K.w 3,fl 5 2<|K.w 3]⟩,[⟨1,1,K.x⟩]⟩
abbrev S5(K:Ks):zr:=⟨3,[R7 K,R4 K,R5 K],⟨6,[fl 4 1 (K.w 3),fl 5 2<|K.w 3]⟩,[⟨1,1,K.x⟩]⟩
abbrev S6(K:Ks):zr:=⟨3,[R7 K,R8 K,R5 K],⟨6,[fl 5 2 (K.w 3)]⟩,[⟨1,1,K.x⟩]⟩
abbrev S7(K:Ks):zr:=⟨3,[R7 K,R8 K,R9 K],⟨6,[]⟩,[⟨1,1,K.x⟩]⟩
abbrev S8(K:Ks):zr:=⟨3,[R7 K,R10 K,R9 K],⟨8,[fl 6 0 (K.w 4),fl 7 2<|K.w 4]⟩,[⟨1,1,K.x⟩]⟩
abbrev S9(K:Ks):zr:=⟨3,[R11 K,R10 K,R9 K],⟨11,[fl 7 2 (K.w 4),fl 8 1<|K.w 5,fl 9 2<|K.w 5,fl 10 1<|K.w 6]⟩,[⟨1,1,K.x⟩]⟩
abbrev S10(K:Ks):zr:=⟨3,[R11 K,R10 K,R12 K],⟨14,[fl 8 1 (K.w 5),fl 9 2<|K.w 5,fl 10 1<|K.w 6,fl 11 0<|K.w 7,fl 12 1<|K.w 7,fl 13 1<|K.w 8]⟩,[⟨1,1,K.x⟩]⟩
abbrev S11(K:Ks):zr:=⟨3,[R11 K,R13 K,R12 K],⟨14,[fl 9 2 (K.w 5),fl 10 1<|K.w 6,fl 11 0<|K.w 7,fl 12 1<|K.w 7,fl 13 1<|K.w 8]⟩,[⟨1,1,K.x⟩]⟩
abbrev S12(K:Ks):zr:=⟨3,[R11 K,R13 K,R14 K],⟨14,[fl 10 1 (K.w 6),fl 11 0<|K.w 7,fl 12 1<|K.w 7,fl 13 1<|K.w 8]⟩,[⟨1,1,K.x⟩]⟩
abbrev S13(K:Ks):zr:=⟨3,[R11 K,R15 K,R14 K],⟨16,[fl 11 0 (K.w 7),fl 12 1<|K.w 7,fl 13 1<|K.w 8,fl 14 0<|K.w 9,fl 15 2<|K.w 9]⟩,[⟨1,1,K.x⟩]⟩
abbrev S14(K:Ks):zr:=⟨3,[R16 K,R15 K,R14 K],⟨16,[fl 12 1 (K.w 7),fl 13 1<|K.w 8,fl 14 0<|K.w 9,fl 15 2<|K.w 9]⟩,[⟨1,1,K.x⟩]⟩
abbrev S15(K:Ks):zr:=⟨3,[R16 K,R15 K,R14 K],⟨16,[fl 13 1 (K.w 8),fl 14 0<|K.w 9,fl 15 2<|K.w 9]⟩,[⟨1,1,K.x⟩]⟩
abbrev S16(K:Ks):zr:=⟨3,[R16 K,R15 K,R14 K],⟨17,[fl 14 0 (K.w 9),fl 15 2<|K.w 9,fl 16 2<|K.w 9]⟩,[⟨1,1,K.x⟩]⟩
abbrev S17(K:Ks):zr:=⟨3,[R17 K,R15 K,R14 K],⟨18,[fl 15 2 (K.w 9),fl 16 2<|K.w 9,fl 17 1<|K.w 10]⟩,[⟨1,1,K.x⟩]⟩
abbrev S18(K:Ks):zr:=⟨3,[R17 K,R15 K,R18 K],⟨19,[fl 16 2 (K.w 9),fl 17 1<|K.w 10,fl 18 1<|K.w 11]⟩,[⟨1,1,K.x⟩]⟩
abbrev S19(K:Ks):zr:=⟨3,[R17 K,R15 K,R18 K],⟨19,[fl 17 1 (K.w 10),fl 18 1<|K.w 11]⟩,[⟨1,1,K.x⟩]⟩
abbrev S20(K:Ks):zr:=⟨3,[R17 K,R19 K,R18 K],⟨19,[fl 18 1 (K.w 11)]⟩,[⟨1,1,K.x⟩]⟩
abbrev S21(K:Ks):zr:=⟨3,[R17 K,R20 K,R18 K],⟨19,[]⟩,[⟨1,1,K.x⟩]⟩
abbrev S22(K:Ks):zr:=⟨3,[R21,R20 K,R18 K],⟨19,[]⟩,[⟨1,1,K.x⟩]⟩
abbrev S23(K:Ks):zr:=⟨3,[R22,R20 K,R18 K],⟨21,[fl 19 1 (K.w 12),fl 20 2<|K.w 12]⟩,[⟨1,1,K.x⟩]⟩
abbrev S24(K:Ks):zr:=⟨3,[R22,R20 K,R18 K],⟨22,[fl 20 2 (K.w 12),fl 21 0<|K.w 13]⟩,[⟨1,1,K.x⟩]⟩
abbrev S25(K:Ks):zr:=⟨3,[R22,R20 K,R18 K],⟨23,[fl 21 0 (K.w 13),fl 22 0<|K.w 14]⟩,[⟨1,1,K.x⟩]⟩
abbrev S26(K:Ks):zr:=⟨3,[R23 K,R20 K,R18 K],⟨23,[fl 22 0 (K.w 14)]⟩,[⟨1,1,K.x⟩]⟩
abbrev S27(K:Ks):zr:=⟨3,[R24 K,R20 K,R18 K],⟨23,[]⟩,[⟨1,1,K.x⟩]⟩
abbrev S28(K:Ks):zr:=⟨3,[R24 K,R25 K,R18 K],⟨25,[fl 23 0 (K.w 15),fl 24 2<|K.w 15]⟩,[⟨1,1,K.x⟩]⟩
abbrev S29(K:Ks):zr:=⟨3,[R26 K,R25 K,R18 K],⟨26,[fl 24 2 (K.w 15),fl 25 1<|K.w 16]⟩,[⟨1,1,K.x⟩]⟩
abbrev S30(K:Ks):zr:=⟨3,[R26 K,R25 K,R27 K],⟨27,[fl 25 1 (K.w 16),fl 26 1<|K.w 17]⟩,[⟨1,1,K.x⟩]⟩
abbrev S31(K:Ks):zr:=⟨3,[R26 K,R28 K,R27 K],⟨29,[fl 26 1 (K.w 17),fl 27 0<|K.w 18,fl 28 2<|K.w 18]⟩,[⟨1,1,K.x⟩,⟨1,2,K.y⟩]⟩
abbrev S32(K:Ks):zr:=⟨3,[R26 K,R29 K,R27 K],⟨29,[fl 27 0 (K.w 18),fl 28 2<|K.w 18]⟩,[⟨1,1,K.x⟩,⟨1,2,K.y⟩]⟩
abbrev S33(K:Ks):zr:=⟨3,[R30 K,R29 K,R27 K],⟨29,[fl 28 2 (K.w 18)]⟩,[⟨1,1,K.x⟩,⟨1,2,K.y⟩]⟩
abbrev S34(K:Ks):zr:=⟨3,[R30 K,R29 K,R31 K],⟨29,[]⟩,[⟨1,1,K.x⟩,⟨1,2,K.y⟩]⟩
theorem g0(H:Fx K):zo (S0 K) ⟨1,0,0,1,1,K.c⟩=some (S1 K,0):=evs
theorem g1(H:Fx K):zo (S1 K) dl=some (S2 K,0):=evs
theorem g2(H:Fx K):zo (S2 K) dl=some (S3 K,0):=evs
theorem g3(H:Fx K):zo (S3 K) dl=some (S4 K,0):=evs
theorem g4(H:Fx K):zo (S4 K) dl=some (S5 K,0):=evs
theorem g5(H:Fx K):zo (S5 K) dl=some (S6 K,0):=evs
theorem g6(H:Fx K):zo (S6 K) dl=some (S7 K,0):=evs
theorem g7(H:Fx K):zo (S7 K) ⟨7,1,0,0,0,c0⟩=some (S8 K,0):=evs
theorem g8(H:Fx K):zo (S8 K) dl=some (S9 K,0):=evs
theorem g9(H:Fx K):zo (S9 K) dl=some (S10 K,0):=evs
theorem g10(H:Fx K):zo (S10 K) dl=some (S11 K,0):=evs
theorem g11(H:Fx K):zo (S11 K) dl=some (S12 K,0):=evs
theorem g12(H:Fx K):zo (S12 K) dl=some (S13 K,0):=evs
theorem g13(H:Fx K):zo (S13 K) dl=some (S14 K,0):=evs
theorem g14(H:Fx K):zo (S14 K) dl=some (S15 K,0):=evs
theorem g15(H:Fx K):zo (S15 K) dl=some (S16 K,0):=evs
theorem g16(H:Fx K):zo (S16 K) dl=some (S17 K,0):=evs
theorem g17(H:Fx K):zo (S17 K) dl=some (S18 K,0):=evs
theorem g18(H:Fx K):zo (S18 K) dl=some (S19 K,0):=evs
theorem g19(H:Fx K):zo (S19 K) dl=some (S20 K,0):=evs
theorem g20(H:Fx K):zo (S20 K) dl=some (S21 K,0):=evs
theorem g21(H:Fx K):zo (S21 K) ⟨9,0,0,0,0,c0⟩=some (S22 K,0):=evs
theorem g22(H:Fx K):zo (S22 K) ⟨10,0,0,0,0,c0⟩=some (S23 K,0):=evs
theorem g23(H:Fx K):zo (S23 K) dl=some (S24 K,0):=evs
theorem g24(H:Fx K):zo (S24 K) dl=some (S25 K,0):=evs
theorem g25(H:Fx K):zo (S25 K) dl=some (S26 K,0):=evs
theorem g26(H:Fx K):zo (S26 K) dl=some (S27 K,0):=evs
theorem g27(H:Fx K):zo (S27 K) ⟨1,1,0,1,2,K.d⟩=some (S28 K,0):=evs
theorem g28(H:Fx K):zo (S28 K) dl=some (S29 K,0):=evs
theorem g29(H:Fx K):zo (S29 K) dl=some (S30 K,0):=evs
theorem g30(H:Fx K):zo (S30 K) dl=some (S31 K,0):=evs
theorem g31(H:Fx K):zo (S31 K) dl=some (S32 K,0):=evs
theorem g32(H:Fx K):zo (S32 K) dl=some (S33 K,0):=evs
theorem g33(H:Fx K):zo (S33 K) dl=some (S34 K,0):=evs
theorem ZO{n:Nat}{i:Int}{v u r:zr}{f:z5}{fs:List z5}(h:zo v dl=some (u,0))(hf:v.Net.List=f::fs)(hi:decide (i < 200)=true)(hr:iter (qQ jg) n (IntKind.wrap .i64 (i+1),u.Of,u.Replicas,u.Net.Next,u.Net.List,u.Replies)=some r):iter (qQ jg) (n+1) (i,v.Of,v.Replicas,v.Net.Next,v.Net.List,v.Replies)=some r:=by
 show qQ jg (iter (qQ jg) n) _=_;unfold qQ;simp only;rw[if_pos (of_decide_eq_true hi),if_pos (by rw[hf];simp),h,Option.bind_some,if_neg (by simp)];exact hr
theorem zin{n:Nat}{i:Int}(v:zr)(hf:v.Net.List=[])(hi:decide (i < 200)=true:=by rfl):iter (qQ jg) (n+1) (i,v.Of,v.Replicas,v.Net.Next,v.Net.List,v.Replies)=some v:=by
 show qQ jg (iter (qQ jg) n) _=_;unfold qQ;simp only;rw[if_pos (of_decide_eq_true hi),if_neg (by rw[hf];simp)];rfl
theorem zib{v r:zr}(h:iter (qQ jg) (4611686018427387900+4) (0,v.Of,v.Replicas,v.Net.Next,v.Net.List,v.Replies)=some r):jF v=some r:=h
theorem ml0(H:Fx K):jF (S1 K)=some (S7 K):=
 zib (ZO (g1 H) O O<|ZO (g2 H) O O<|ZO (g3 H) O O<|ZO (g4 H) O O<|ZO (g5 H) O O<|ZO (g6 H) O O<|zin _ O)
theorem ml1(H:Fx K):jF (S8 K)=some (S21 K):=
 zib (ZO (g8 H) O O<|ZO (g9 H) O O<|ZO (g10 H) O O<|ZO (g11 H) O O<|ZO (g12 H) O O<|ZO (g13 H) O O<|ZO (g14 H) O O<|ZO (g15 H) O O<|ZO (g16 H) O O<|ZO (g17 H) O O<|ZO (g18 H) O O<|ZO (g19 H) O O<|ZO (g20 H) O O<|zin _ O)
theorem ml2(H:Fx K):jF (S23 K)=some (S27 K):=
 zib (ZO (g23 H) O O<|ZO (g24 H) O O<|ZO (g25 H) O O<|ZO (g26 H) O O<|zin _ O)
theorem ml3(H:Fx K):jF (S28 K)=some (S34 K):=
 zib (ZO (g28 H) O O<|ZO (g29 H) O O<|ZO (g30 H) O O<|ZO (g31 H) O O<|ZO (g32 H) O O<|ZO (g33 H) O O<|zin _ O)
theorem zKD:J7 3=some (S0 K):=evr
theorem gUp(H:Fx K):Y2 (S34 K)=some 3:=evs
theorem gAg(H:Fx K):QU (S34 K)=some true:=evs
theorem gAh(H:Fx K):QN (S34 K)=some 0:=evs
theorem zK8(H:Fx K):iter (Z7 (S34 K)<|yZ<|S34 K) FU 0=some true:=by
 have u1:=gAg H;have u2:=gAh H
 delta Z7 yZ
 exact evr
theorem zNb{code:List Int}(H:Fx K)(hb:Jg code=some false)(hd:jS code=some (K.c,K.d))(s1:z7 ⟨[],[]⟩ K.c=some (⟨K.l1,[]⟩,K.x))(s2:z7 ⟨K.l1,[]⟩ K.d=some (⟨K.l2,[]⟩,K.y)):yT code=some true:=by
 have u1:=zKD (K:=K);have v0:=g0 H;have v1:=ml0 H;have v2:=g7 H;have v3:=ml1 H;have v4:=g21 H;have v5:=g22 H;have v6:=ml2 H;have v7:=g27 H;have v8:=ml3 H;have v9:=gUp H;have v10:=zK8 H;have u4:¬¬K.x=K.x:=not_not_intro rfl;have u5:¬¬K.y=K.y:=not_not_intro rfl
 delta yT
 exact evr
structure Dc(c:qX):Prop where
 kd:c.Kind=1∨c.Kind=2∨c.Kind=3∨c.Kind=4
 k0:0≤c.Key
 k1:c.Key≤1000000000
 v0:0≤c.Value
 v1:c.Value≤1000000000
 vz:c.Kind=1∨c.Kind=4→c.Value=0
theorem X4{S R:Type}(f:(S→Option R)→S→Option R)(s:S):iter f FU s=f (f<|f<|iter f 4611686018427387901) s:=rfl
theorem zct{α:Type}(x:α)(xs:List α):idx (x::xs) 0=some x:=rfl
theorem zjZ:IntKind.wrap .i64 (Int.fdiv (IntKind.wrap .u64 1)<|2 ^ (min 1<|IntKind.bits .u64))=0:=by decide
theorem wr1:IntKind.wrap .i64 1=1:=by decide
theorem wr2:IntKind.wrap .i64 2=2:=by decide
theorem wr0:IntKind.wrap .i64 0=0:=by decide
theorem zuQ:IntKind.wrap .i64 (0+1)=1:=by decide
theorem cF0(k:Int):jl [] k=some (0,false):=rfl
theorem cF1(k v q:Int)(h:q=k):jl [⟨k,v⟩] q=some (0,true):=by
 subst h;simp only[jl,zX,X4,z8,zW,yr,List.length_cons,List.length_nil];simp[zjZ,wr1,wr0,zct,zuQ,w64]
theorem cF2(k v q:Int)(h:q < k)(a:0≤q)(b:k≤1000000000):jl [⟨k,v⟩] q=some (0,false):=by
 simp only[jl,zX,X4,z8,zW,yr,List.length_cons,List.length_nil];have e:IntKind.wrap .i64 (k - q)=k - q:=w64 (by omega) (by omega);have e1:¬k - q < 0:=by omega
 have e2:¬k - q=0:=by omega
 simp[zjZ,wr1,wr0,zct,zuQ,e,e1,e2]
theorem cF3(k v q:Int)(h:k < q)(a:0≤k)(b:q≤1000000000):jl [⟨k,v⟩] q=some (1,false):=by
 simp only[jl,zX,X4,z8,zW,yr,List.length_cons,List.length_nil];have e:IntKind.wrap .i64 (k - q)=k - q:=w64 (by omega) (by omega);have e1:k - q < 0:=by omega
 simp[zjZ,wr1,wr0,zct,zuQ,e,e1]
theorem wh(n:Int)(a:0≤n)(b:n≤1000000000):qT n=some true:=by
 simp only[qT,Je];rw[if_pos a];simp[b]
theorem zjL:yO ⟨[],[]⟩=some true:=by
 simp[yO,X4,JD,Qv,Ye,Qz]
theorem zGu(k v:Int)(a:0≤k)(b:k≤1000000000)(a':0≤v)(b':v≤1000000000):yO ⟨[⟨k,v⟩],[]⟩=some true:=by
 have h1:=wh k a b;have h2:=wh v a' b';simp only[yO,X4,JD,Qv,Ye,Qz,List.length_cons,List.length_nil];simp only[qT,Je] at h1 h2;simp[zct,wr1,wr2,qT,Je,a,b,a',b']
theorem zGt{d:qX}(h:Dc d):Y8 d=some true:=by
 obtain⟨kd,a,b,a',b',vz⟩:=h;rcases kd with e|e|e|e<;>simp[Y8,JW,Jm,qT,Je,e,a,b,a',b']<;>exact vz (by simp[e])
theorem zy5{d:qX}(h:Dc d):yA d=some true:=by
 obtain⟨kd,a,b,a',b',vz⟩:=h;rcases kd with e|e|e|e<;>simp[yA,JV,JS,zy,qi,e,a,b,a',b']<;>exact vz (by simp[e])
theorem znK(q:Int):ZY ⟨[],[]⟩ q=some (-1):=by
 simp only[ZY,zjL,Option.bind_some,if_true,X4,YV,Q3];simp
theorem zNg(k v q:Int)(a:0≤k)(b:k≤1000000000)(a':0≤v)(b':v≤1000000000):ZY ⟨[⟨k,v⟩],[]⟩ q=some (if k=q then v else -1):=by
 simp only[ZY,zGu k v a b a' b',Option.bind_some,if_true,X4,YV,Q3];simp[zct,wr1];split<;>rfl
theorem sL0(q v:Int):qP [] q v true=some [⟨q,v⟩]:=by
 simp[qP,X4,ZJ,yW]
theorem sLd(q v:Int):qP [] q v false=some []:=by
 simp[qP,X4,ZJ,yW]
theorem sL1(k u q v:Int):qP [⟨k,u⟩] q v true=some (if k=q then[⟨q,v⟩] else if q < k then[⟨q,v⟩,⟨k,u⟩] else[⟨k,u⟩,⟨q,v⟩]):=by
 simp only[qP,X4,ZJ,yW,yo,Zj];rcases Int.lt_trichotomy k q with e|e|e
 ·have e1:¬q≤k:=by omega
  have e2:¬k=q:=by omega
  have e3:¬q < k:=by omega
  simp[zct,wr1,e1,e2,e3]
 ·simp[zct,wr1,e]
 ·have e1:q≤k:=by omega
  have e2:¬k=q:=by omega
  simp[zct,wr1,e1,e2,e]
theorem sL2(k u q v:Int):qP [⟨k,u⟩] q v false=some (if k=q then[] else[⟨k,u⟩]):=by
 simp only[qP,X4,ZJ,yW,yo,Zj];by_cases e:k=q<;>simp[zct,wr1,e]
theorem pu0(q v:Int)(h:¬v= -1):jw [] q v=some [⟨q,v⟩]:=by
 simp[jw,cF0,yd,h,z6,qa,yN]
theorem pud(q:Int):jw [] q (-1)=some []:=by
 simp[jw,cF0,yd,z6,qa]
theorem pu1(k u q v:Int)(h:¬v= -1)(a:0≤k)(b:k≤1000000000)(a':0≤q)(b':q≤1000000000):jw [⟨k,u⟩] q v=some (if k=q then[⟨q,v⟩] else if q < k then[⟨q,v⟩,⟨k,u⟩] else[⟨k,u⟩,⟨q,v⟩]):=by
 rcases Int.lt_trichotomy k q with e|e|e
 ·have e2:¬k=q:=by omega
  have e3:¬q < k:=by omega
  simp[jw,cF3 k u q e a b',yd,h,z6,qa,yN,e2,e3]
 ·subst e;simp[jw,cF1 k u k rfl,yd,h,z6,qa,zct]
 ·have e2:¬k=q:=by omega
  simp[jw,cF2 k u q e a' b,yd,h,z6,qa,yN,e2,e]
theorem pu2(k u q:Int)(a:0≤k)(b:k≤1000000000)(a':0≤q)(b':q≤1000000000):jw [⟨k,u⟩] q (-1)=some (if k=q then[] else[⟨k,u⟩]):=by
 rcases Int.lt_trichotomy k q with e|e|e
 ·have e2:¬k=q:=by omega
  simp[jw,cF3 k u q e a b',yd,z6,qa,e2]
 ·subst e;simp[jw,cF1 k u k rfl,yd,z6,qa,QY,wr1]
 ·have e2:¬k=q:=by omega
  simp[jw,cF2 k u q e a' b,yd,z6,qa,e2]
theorem vO0(q:Int):j6 [] q=some (-1):=by
 simp[j6,cF0]
theorem vO1(k u q:Int)(a:0≤k)(b:k≤1000000000)(a':0≤q)(b':q≤1000000000):j6 [⟨k,u⟩] q=some (if k=q then u else -1):=by
 rcases Int.lt_trichotomy k q with e|e|e
 ·have e2:¬k=q:=by omega
  simp[j6,cF3 k u q e a b',e2]
 ·subst e;simp[j6,cF1 k u k rfl,zct]
 ·have e2:¬k=q:=by omega
  simp[j6,cF2 k u q e a' b,e2]
theorem cIm(l:List zD)(h:l.length≤1)(s:List zN)(hs:s.length≤1):yt ⟨l,s⟩=some ⟨l,s⟩:=by
 have h1:l.length≤2147483648:=by omega
 have h2:s.length≤2147483648:=by omega
 simp[yt,z6,qa,Z5,jW,h1,h2]
theorem zjH(l:List zD)(h:l.length≤1):J2 ⟨l,[]⟩=some ⟨l,[]⟩:=by
 have h1:l.length≤2147483648:=by omega
 simp[J2,h1]
def One(l:List zD):Prop:=l=[]∨∃k v,l=[⟨k,v⟩]∧0≤k∧k≤1000000000∧0≤v∧v≤1000000000
theorem run0{d:qX}(h:Dc d)(s:List zN)(hs:s.length≤1):∃l y,qG ⟨[],s⟩ d=some (⟨l,s⟩,y)∧z7 ⟨[],[]⟩ d=some (⟨l,[]⟩,y)∧-1≤y∧y≤1000000000∧One l:=by
 have hc:=zGt h;obtain⟨kd,a,b,a',b',vz⟩:=h;have e1:¬d.Value= -1:=by omega
 have e2:¬1000000000 < d.Value:=by omega
 have e3:IntKind.wrap .i64 d.Value=d.Value:=w64 (by omega) (by omega);rcases kd with e|e|e|e
 ·refine⟨[],-1,?_,?_,by omega,by omega,Or.inl rfl⟩
  ·simp[qG,cIm,hs,vO0,e]
  ·simp only[z7,zjL,hc,Option.bind_some,if_true,zjH [] (by simp),znK,e]
 ·refine⟨[⟨d.Key,d.Value⟩],d.Value,?_,?_,by omega,by omega,Or.inr ⟨_,_,rfl,a,b,a',b'⟩⟩
  ·simp[qG,cIm,hs,vO0,e,yL,yM,e2,pu0 d.Key d.Value e1]
  ·simp[z7,zjL,hc,zjH [] (by simp),znK,e,qS,qL,e2,sL0]
 ·refine⟨[⟨d.Key,d.Value⟩],d.Value,?_,?_,by omega,by omega,Or.inr ⟨_,_,rfl,a,b,a',b'⟩⟩
  ·simp[qG,cIm,hs,vO0,e,yL,yM,e2,e3,pu0 d.Key d.Value e1]
  ·simp[z7,zjL,hc,zjH [] (by simp),znK,e,qS,qL,Qq,e2,e3,sL0]
 ·refine⟨[],-1,?_,?_,by omega,by omega,Or.inl rfl⟩
  ·simp[qG,cIm,hs,vO0,e,pud]
  ·simp[z7,zjL,hc,zjH [] (by simp),znK,e,sLd]
theorem run1{d:qX}(h:Dc d)(s:List zN)(hs:s.length≤1){k v:Int}(ka:0≤k)(kb:k≤1000000000)(va:0≤v)(vb:v≤1000000000):∃l y,qG ⟨[⟨k,v⟩],s⟩ d=some (⟨l,s⟩,y)∧z7 ⟨[⟨k,v⟩],[]⟩ d=some (⟨l,[]⟩,y)∧-1≤y∧y≤1000000000∧l.length≤2:=by
 have hc:=zGt h;obtain⟨kd,a,b,a',b',vz⟩:=h;have c1:=cIm [⟨k,v⟩] (by simp) s hs;have c2:=zjH [⟨k,v⟩] (by simp);have i1:=zGu k v ka kb va vb;have v1:=vO1 k v d.Key ka kb a b;have v2:=zNg k v d.Key ka kb va vb;have e1:¬d.Value= -1:=by omega
 have e2:¬1000000000 < d.Value:=by omega
 have e3:IntKind.wrap .i64 d.Value=d.Value:=w64 (by omega) (by omega);have e4:IntKind.wrap .i64 (d.Value+v)=d.Value+v:=w64 (by omega) (by omega);have e5:¬v < 0:=by omega
 have p1:=pu1 k v d.Key d.Value e1 ka kb a b;have p2:=pu1 k v d.Key (d.Value+v) (by omega) ka kb a b;have p3:=pu2 k v d.Key ka kb a b;have q1:=sL1 k v d.Key d.Value;have q2:=sL1 k v d.Key (d.Value+v);have q3:=sL2 k v d.Key 0;have e6:Qq v 0=some v:=by
  simp only[Qq];split
  ·rfl
  ·rw[show v=0 by omega]
 have e7:Qq (-1) 0=some 0:=rfl;by_cases g:k=d.Key
 ·rw[if_pos g] at v1 v2 p1 p2 p3 q1 q2 q3;rcases kd with e|e|e|e
  ·refine⟨[⟨k,v⟩],v,?_,?_,by omega,by omega,by simp⟩
   ·simp[qG,c1,v1,e]
   ·simp[z7,i1,hc,c2,v2,e]
  ·refine⟨[⟨d.Key,d.Value⟩],d.Value,?_,?_,by omega,by omega,by simp⟩
   ·simp[qG,c1,v1,e,yL,yM,e2,e5,p1]
   ·simp[z7,i1,hc,c2,v2,e,qS,qL,e2,e5,q1]
  ·by_cases o:1000000000 < d.Value+v
   ·refine⟨[⟨k,v⟩],-1,?_,?_,by omega,by omega,by simp⟩
    ·simp[qG,c1,v1,e,yL,yM,e4,e5,o]
    ·simp[z7,i1,hc,c2,v2,e,qS,qL,e4,e6,o]
   ·refine⟨[⟨d.Key,d.Value+v⟩],d.Value+v,?_,?_,by omega,by omega,by simp⟩
    ·simp[qG,c1,v1,e,yL,yM,e4,e5,o,p2]
    ·simp[z7,i1,hc,c2,v2,e,qS,qL,e4,e5,e6,o,q2]
  ·refine⟨[],v,?_,?_,by omega,by omega,by simp⟩
   ·simp[qG,c1,v1,e,p3]
   ·simp[z7,i1,hc,c2,v2,e,q3]
 ·rw[if_neg g] at v1 v2 p1 p2 p3 q1 q2 q3;rcases kd with e|e|e|e
  ·refine⟨[⟨k,v⟩],-1,?_,?_,by omega,by omega,by simp⟩
   ·simp[qG,c1,v1,e]
   ·simp[z7,i1,hc,c2,v2,e]
  ·refine⟨if d.Key < k then[⟨d.Key,d.Value⟩,⟨k,v⟩] else[⟨k,v⟩,⟨d.Key,d.Value⟩],d.Value,?_,?_,by omega,by omega,by split<;>simp⟩;rotate_left
   ·simp[z7,i1,hc,c2,v2,e,qS,qL,e2,q1]
   ·simp[qG,c1,v1,e,yL,yM,e2,p1]
  ·refine⟨if d.Key < k then[⟨d.Key,d.Value⟩,⟨k,v⟩] else[⟨k,v⟩,⟨d.Key,d.Value⟩],d.Value,?_,?_,by omega,by omega,by split<;>simp⟩;rotate_left
   ·simp[z7,i1,hc,c2,v2,e,qS,qL,e2,e3,e7,q1]
   ·simp[qG,c1,v1,e,yL,yM,e2,e3,p1]
  ·refine⟨[⟨k,v⟩],-1,?_,?_,by omega,by omega,by simp⟩
   ·simp[qG,c1,v1,e,p3]
   ·simp[z7,i1,hc,c2,v2,e,q3]
theorem iWh(n:Int)(a:0≤n)(b:n≤1000000000):zy n=some true:=by
 simp[zy,qi,a,b]
theorem iAn(n:Int)(a:-1≤n)(b:n≤1000000000):jK n=some true:=by
 simp[jK,qi,a,b]
theorem eqc(l:List zD)(h:l.length≤2):jx l l=some true:=by
 rcases l with _|⟨a,_|⟨b,_|⟨c,l⟩⟩⟩
 ·rfl
 ·simp[jx,X4,ZN,yH,zct,wr1]
 ·have:idx [a,b] 1=some b:=rfl;simp[jx,X4,ZN,yH,zct,wr1,wr2,this]
 ·simp at h
theorem zII(l:List zD)(h:One l)(x:Int)(hx:jK x=some true):yD ⟨l,[⟨1,1,x⟩]⟩=some true:=by
 rcases h with rfl|⟨k,v,rfl,a,b,a',b'⟩
 ·exact evr
 ·have h1:=iWh k a b;have h2:=iWh v a' b';exact evr
theorem zMY{c:qX}(f:qw (e1 c)=some true){l:List zD}{x:Int}(h:qG ⟨[],[]⟩ c=some (⟨l,[]⟩,x)):yc ⟨[],[]⟩ (e1 c)=some (⟨l,[⟨1,1,x⟩]⟩,x,0):=evr
theorem zMr{d:qX}(f:qw (e2 d)=some true){l l2:List zD}{x y:Int}(im:yD ⟨l,[⟨1,1,x⟩]⟩=some true)(h:qG ⟨l,[⟨1,1,x⟩]⟩ d=some (⟨l2,[⟨1,1,x⟩]⟩,y)):yc ⟨l,[⟨1,1,x⟩]⟩ (e2 d)=some (⟨l2,[⟨1,2,y⟩]⟩,y,0):=evr
theorem zIu{d:qX}(h:Dc d)(s:List zN)(hs:s.length≤1){l1:List zD}(o:One l1):∃l y,qG ⟨l1,s⟩ d=some (⟨l,s⟩,y)∧z7 ⟨l1,[]⟩ d=some (⟨l,[]⟩,y)∧-1≤y∧y≤1000000000∧l.length≤2:=by
 rcases o with rfl|⟨k,v,rfl,a,b,a',b'⟩
 ·obtain⟨l,y,h1,h2,h3,h4,h5⟩:=run0 h s hs;refine⟨l,y,h1,h2,h3,h4,?_⟩;rcases h5 with rfl|⟨_,_,rfl,_⟩<;>simp
 ·exact run1 h s hs a b a' b'
theorem cgD{c:qX}(h:Dc c):Cg c:=by
 have h1:=zy5 h;obtain⟨kd,a,b,a',b',vz⟩:=h;exact⟨h1,decide_eq_true (by omega),decide_eq_true (by omega),decide_eq_true (by omega),⟨by omega,by omega⟩,⟨by omega,by omega⟩,⟨by omega,by omega⟩⟩
theorem zE2{c d:qX}(hc:Dc c)(hd:Dc d):∃K:Ks,Fx K∧c=K.c∧d=K.d∧z7 ⟨[],[]⟩ K.c=some (⟨K.l1,[]⟩,K.x)∧z7 ⟨K.l1,[]⟩ K.d=some (⟨K.l2,[]⟩,K.y):=by
 have gc:=cgD hc;have gd:=cgD hd;have o1:=gc.ok;have o2:=gd.ok;have f1:qw (e1 c)=some true:=evl;have f2:qw (e2 d)=some true:=evl;obtain⟨l1,x,t1,s1,x1,x2,o⟩:=run0 hc [] (by simp);obtain⟨l2,y,t2,s2,y1,y2,hl⟩:=zIu hd [⟨1,1,x⟩] (by simp) o;have hx:=iAn x x1 x2;have hy:=iAn y y1 y2;have im:=zII l1 o x hx;have r1:=zMY f1 t1;have r2:=zMr f2 im t2;obtain⟨w0,u0⟩:=wP1 gc;obtain⟨w1,u1⟩:=wO1;obtain⟨w2,u2⟩:=wO2;obtain⟨w3,u3⟩:=wC1;obtain⟨w4,u4⟩:=wT1;obtain⟨w5,u5⟩:=wT0;obtain⟨w6,u6⟩:=wD0 gc;obtain⟨w7,u7⟩:=wT2;obtain⟨w8,u8⟩:=wD2 gc;obtain⟨w9,u9⟩:=wS gc;obtain⟨w10,u10⟩:=wO3;obtain⟨w11,u11⟩:=wO4;obtain⟨w12,u12⟩:=wA;obtain⟨w13,u13⟩:=wB1 gc;obtain⟨w14,u14⟩:=wB2 gc;obtain⟨w15,u15⟩:=wP2 gd;obtain⟨w16,u16⟩:=wO5;obtain⟨w17,u17⟩:=wO6;obtain⟨w18,u18⟩:=wC2;refine⟨⟨c,d,x,y,l1,l2,fun n=>[w0,w1,w2,w3,w4,w5,w6,w7,w8,w9,w10,w11,w12,w13,w14,w15,w16,w17,w18].getD n []⟩,⟨⟨zy5 hc,zy5 hd,f1,f2,hx,hy,r1,r2,im,eqc l2 hl⟩,u0,u1,u2,u3,u4,u5,u6,u7,u8,u9,u10,u11,u12,u13,u14,u15,u16,u17,u18⟩,rfl,rfl,s1,s2⟩
def zb0(cb:List Int)(c:Int×Int):Prop:=0≤c.1∧c.1≤(cb.length:Int)∧cb.length≤1048576
def YO{α:Type}(cb:List Int)(P:α→Prop)(m:Option (α×(Int×Int))):Prop:=∃x c,m=some (x,c)∧zb0 cb c∧P x
theorem YO.bind{α β:Type}{cb:List Int}{P:α→Prop}{Q:β→Prop}{m:Option (α×(Int×Int))}{f:α×(Int×Int)→Option (β×(Int×Int))}(h:YO cb P m)(hf:∀x c,zb0 cb c→P x→YO cb Q (f (x,c))):YO cb Q (m.bind f):=by
 obtain⟨x,c,rfl,hc,hp⟩:=h;exact hf x c hc hp
theorem YO.some{α:Type}{cb:List Int}{P:α→Prop}{x:α}{c:Int×Int}(hc:zb0 cb c)(hp:P x):YO cb P (some (x,c)):=⟨x,c,rfl,hc,hp⟩
theorem zlx(x y:Int)(k:Nat)(hk:(BitVec.ofInt 64 y).toNat=k)(hk':k < 9223372036854775808):0≤IntKind.wrap .i64 ((BitVec.ofInt (IntKind.bits .i64) x&&& BitVec.ofInt (IntKind.bits .i64) y).toNat:Int)∧IntKind.wrap .i64 ((BitVec.ofInt (IntKind.bits .i64) x&&& BitVec.ofInt (IntKind.bits .i64) y).toNat:Int)≤k:=by
 have h:(BitVec.ofInt (IntKind.bits .i64) x&&& BitVec.ofInt (IntKind.bits .i64) y).toNat≤k:=by
  rw[BitVec.toNat_and,←hk];exact Nat.and_le_right
 rw[w64 (by omega) (by omega)];omega
theorem zGI(x:Int):0≤IntKind.wrap .i64 ((BitVec.ofInt (IntKind.bits .i64) x&&& BitVec.ofInt (IntKind.bits .i64) 255).toNat:Int)∧IntKind.wrap .i64 ((BitVec.ofInt (IntKind.bits .i64) x&&& BitVec.ofInt (IntKind.bits .i64) 255).toNat:Int)≤255:=zlx x 255 255 (by decide) (by decide)
theorem zj1{cb:List Int}{c:Int×Int}(h:zb0 cb c):YO cb (fun x=>0≤x∧x≤255) (J0 cb c):=by
 obtain⟨h1,h2,h3⟩:=h;unfold J0;split
 ·rename_i hlt;obtain⟨n,hn⟩:∃n:Nat,c.1=(n:Int):=⟨c.1.toNat,by omega⟩;rw[hn,zaR (show n < cb.length by omega)];simp only[Option.bind_some];refine YO.some ⟨?_,?_,h3⟩ (zGI _)
  ·simp only;rw[w64 (by omega) (by omega)];omega
  ·simp only;rw[w64 (by omega) (by omega)];omega
 ·exact YO.some ⟨h1,h2,h3⟩ (zGI _)
theorem Ke{cb:List Int}{c:Int×Int}(h:zb0 cb c)(n:Int)(h1:0 < n)(h2:n≤256):YO cb (fun x=>0≤x∧x < n) (j7 cb c n):=by
 unfold j7;rw[if_neg (by omega),if_pos h2];refine(zj1 h).bind fun x c1 hc1 hx=> ?_;rw[if_pos (by omega)];exact YO.some hc1 ⟨Int.tmod_nonneg _ hx.1,Int.tmod_lt_of_pos _ h1⟩
theorem zkq{cb:List Int}{c:Int×Int}(h:zb0 cb c)(n:Int)(h1:0 < n)(h2:n≤256):YO cb (fun _=>True) (J1 cb c n):=by
 unfold J1;exact(Ke h n h1 h2).bind fun x c1 hc1 _=>YO.some hc1 trivial
def zns(cb:List Int):Nat→Int
 |0=>IntKind.wrap .i64 (97097+(cb.length:Int))
 |i+1=>IntKind.wrap .i64 ((BitVec.ofInt (IntKind.bits .i64) (IntKind.wrap .i64 ((IntKind.wrap .i64 ((IntKind.wrap .i64 (zns cb i * 131))+(IntKind.wrap .i64<|(cb[i]?).getD 0)))+7))&&& BitVec.ofInt (IntKind.bits .i64) 1073741823).toNat:Int)
theorem znn(cb:List Int)(h:cb.length≤1048576):∃c,Y7 cb=some c∧zb0 cb c:=by
 refine⟨(0,zns cb<|min cb.length 4000),?_,by simp[zb0];exact h⟩;unfold Y7;refine YP (fun i=>(zns cb i,(i:Int))) _ (min cb.length 4000) (by omega) (fun kb i hi=> ?_) (fun kb=> ?_) rfl
 ·have hi':i < cb.length:=by omega
  unfold xN;simp only;rw[if_pos (by omega),if_pos (by omega),zaR hi',zo0 i _ hi' (by omega)];simp only[Option.bind_some,zns,List.getElem?_eq_getElem hi',Option.getD_some]
 ·unfold xN xM;simp only;split
  ·rw[if_neg (by omega)]
  ·rfl
theorem zcF{cb:List Int}{c:Int×Int}(h:zb0 cb c):YO cb Dc (Zi cb c):=by
 unfold Zi;refine(Ke h 4 (by decide) (by decide)).bind fun k c1 hc1 ⟨k1,k2⟩=>(Ke hc1 6 (by decide) (by decide)).bind fun q c2 hc2 ⟨q1,q2⟩=> ?_;have hw:IntKind.wrap .i64 (1+k)=1+k:=w64 (by omega) (by omega);have T:(1+k=2∨1+k=3)→YO cb Dc (jB cb (q,c2) (k,c1) true):=by
  intro g;unfold jB;rw[if_pos rfl];refine(Ke hc2 50 (by decide) (by decide)).bind fun v c3 hc3 ⟨v1,v2⟩=>(zkq hc3 20 (by decide) (by decide)).bind fun o c4 hc4 _=> ?_;simp only[hw];split
  ·refine(Ke hc4 3 (by decide) (by decide)).bind fun u c5 hc5 ⟨u1,u2⟩=> ?_;simp only[w64 (n:=1000000000 - u) (by omega) (by omega)];exact YO.some hc5 ⟨by simp only;omega,q1,by simp only;omega,by simp only;omega,by simp only;omega,by simp only;omega⟩
  ·exact YO.some hc4 ⟨by simp only;omega,q1,by simp only;omega,v1,by simp only;omega,by simp only;omega⟩
 have F:¬(1+k=2∨1+k=3)→YO cb Dc (jB cb (q,c2) (k,c1) false):=by
  intro g;unfold jB;rw[if_neg (by decide)];simp only[hw];exact YO.some hc2 ⟨by simp only;omega,q1,by simp only;omega,by simp only;omega,by simp only;omega,fun _=>rfl⟩
 simp only[hw];split
 ·rename_i g;exact T (Or.inl g)
 ·rename_i g;by_cases g3:1+k=3
  ·rw[decide_eq_true g3];exact T (Or.inr g3)
  ·rw[decide_eq_false g3];exact F (by omega)
theorem zi5(cb:List Int)(h:cb.length≤1048576):∃c d,jS cb=some (c,d)∧Dc c∧Dc d:=by
 obtain⟨c0,e0,g0⟩:=znn cb h;obtain⟨c,c1,e1,g1,hc⟩:=zcF g0;obtain⟨d,c2,e2,g2,hd⟩:=zcF g1;refine⟨c,d,?_,hc,hd⟩;simp only[jS,e0,e1,e2,Option.bind_some]
theorem zfJ(a0:List Int)(h0:okS (inK .u8) a0):yT a0=some true:=by
 by_cases hb:1048576 < (a0.length:Int)
 ·have h:Jg a0=some true:=by
   unfold Jg;rw[decide_eq_true hb]
  unfold yT;rw[h];rfl
 ·have h:Jg a0=some false:=by
   unfold Jg;rw[decide_eq_false hb]
  obtain⟨c,d,e,hc,hd⟩:=zi5 a0 (by omega);obtain⟨K,H,rfl,rfl,s1,s2⟩:=zE2 hc hd;exact zNb H h e s1 s2
end Go.AW
