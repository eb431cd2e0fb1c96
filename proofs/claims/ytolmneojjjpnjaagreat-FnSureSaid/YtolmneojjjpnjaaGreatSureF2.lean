/- Functions of the program, and what they come to. -/
import Derived.Test.YtolmneojjjpnjaaGreatSureF1
namespace Go.Tf
noncomputable section
open Go.Proofs Go.Proofs.Tryz IntKind
set_option synthInstance.maxHeartbeats 400000
set_option synthInstance.maxSize 10000
set_option linter.unusedVariables false
set_option linter.unusedSimpArgs false
set_option maxRecDepth 100000
def yr7:Code:=(f185.body).getD .skip
def yBn:Env:=zku TT [] []
theorem yRS:FrOk prog ⟨yBn,17,fun _=>none⟩ yr7:=zky yg yh trivial
def yFH:Nat→Option Seg:=fun _=>none
def ydf:Shape:=⟨[(3,false,[.int .i64]),(6,false,[.br tI]),(7,false,[.int .i64]),(8,false,[.int .i64])],[],[]⟩
def yhP:Shape:=⟨[(3,false,[.ci .i64 0]),(6,false,[.br tI]),(7,false,[.int .i64]),(8,false,[.ci .i64 0])],[],[]⟩
def yhA:Shape:=⟨[(3,false,[.int .i64])],[],[]⟩
def yme:Shape:=⟨[],[],[]⟩
abbrev yq2 (v0:Int) (v1:List Int) (v2 v3:Int):(ydf).X:=(((v0,()),(v1,()),(v2,()),(v3,()),()),(),())
abbrev yOT (v0:List Int) (v1:Int):(yhP).X:=((((),()),(v0,()),(v1,()),((),()),()),(),())
abbrev yC4 (v0:Int):(yhA).X:=(((v0,()),()),(),())
def yrA (v0:Int) (v1:List Int) (v2 v3:Int):Option ((ydf).X ⊕ ((yhA).X ⊕ (yme).X)) :=bif(ltb v3 v2)then bif(inb v3 v1.length)then some (.inl ((((i64.wrap ((BitVec.ofInt IntKind.i64.bits v0 ^^^ BitVec.ofInt IntKind.i64.bits (nth v1 v3 0)).toNat:Int)),()),(v1,()),(v2,()),((i64.wrap (v3+1)),()),()),(),())) else none else some (.inr (.inl (((v0,()),()),(),())))
def ydL (x:(ydf).X):=yrA x.1.1.1 x.1.2.1.1 x.1.2.2.1.1 x.1.2.2.2.1.1
def yCC (x:(yhP).X):(ydf).X:=(((0,()),(x.1.2.1.1,()),(x.1.2.2.1.1,()),(0,()),()),(),())
def yD5:Code:=(zeJ yr7 64 116).getD .skip
theorem yRm:zeJ yr7 64 29=some (.block 0 (.loop yD5)):=by kernel_rfl
theorem yT4 (x:(ydf).X):zhu ⟨yBn,17,yFH⟩ 0 yD5 116 ydf yhA yme x=ydL x:=by kernel_rfl
def yCS (x:(yhP).X):Nat:=18446744073709551616
def ysv (x:(yhP).X):Option ((yhA).X ⊕ (yme).X):=zF ydL (yCS x) (yCC x)
def yDw:Seg:=⟨yhP,yhA,yme,ysv⟩
def yUC:Nat→Option Seg:=fun q=>bif Nat.beq q 29 then some yDw else yFH q
theorem yRT:FrOk prog ⟨yBn,17,yUC⟩ yr7:=(yRS).loop (sg:=yDw) ydf yCC (by decide) yRm ydL yCS (by decide) (fun _=>rfl) (fun x r _ h=>h) yT4
abbrev ysK:List Par:= [.rd tL]
abbrev yBM:List OT:= [⟨false,tI,.fz⟩]
def ywy (a0:List Int):Option (zaY yBM×zak ysK) :=zkr (ysv ((((),()),(a0,()),((a0.length:Int),()),((),()),()),(),())) (fun y0 =>some ((y0.1.1.1,()),())) (fun y0 =>none)
theorem yV1:ConOk prog 185 ⟨ysK,yBM,fun x=>ywy x.1⟩:=zkG (yRT) func185 ntmps185.symm fun x=>by kernel_rfl
def ycs (a0:List Int):Int:=yax a0
theorem yYy (a0:List Int) (hk:zjw ysK (a0,())):ywy a0=(fun n=>some ((n,()),())) (ycs a0):=by
 have hb:a0.length*8≤2^47:=hk.1.1
 have h1:ysv (yOT a0 a0.length)=some (.inl (yC4 (yax a0))) :=
  zkv (step:=ydL) a0 0 (fun i s=>yq2 s a0 a0.length i) xw (fun _ _=>True) (fun s=> .inl (yC4 s)) (fun i s hi _=>⟨by
   simp only[ydL,yq2,yrA,zkw (show(i:Int)<a0.length by omega),cond_true,wq ((i:Int)+1) (by omega) (by omega),Int.natCast_add,Int.natCast_one,Int.toNat_natCast,zkP hi,zkQ]; rfl,trivial⟩) (fun s _=>by simp only[ydL,yq2,yrA,zk1 (Int.le_refl _),cond_false]) 0 trivial _ (by show _<18446744073709551616; omega)
 unfold ywy ycs;rw[h1]; rfl
def yoc:Con:=⟨ysK,yBM,fun x=>(fun n=>some ((n,()),())) (ycs x.1)⟩
theorem yzl:ConOk prog 185 yoc:=(yV1).mono (fun x r hk h=>(yYy x.1 hk).trans h)
def yKI:Code:=(f166.body).getD .skip
def yKU:Env:=zku TT [(185,yoc)] []
theorem yGY:FrOk prog ⟨yKU,5,fun _=>none⟩ yKI:=zky yg yh ⟨yzl,trivial⟩
abbrev yoN:List Par:= [.rd tL]
abbrev yoQ:List OT:= [⟨false,tI,.fz⟩]
def yva (a0:List Int):Option (zaY yoQ×zak yoN) :=let r1:=ycs a0;some ((r1,()),())
theorem yIf:ConOk prog 166 ⟨yoN,yoQ,fun x=>yva x.1⟩:=zkG (yGY) func166 ntmps166.symm fun x=>by kernel_rfl
def yi0 (a0:List Int):Int :=let r1:=ycs a0;r1
def yuM:Con:=⟨yoN,yoQ,fun x=>(fun n=>some ((n,()),())) (yi0 x.1)⟩
theorem yJU (a0:List Int):yva a0=(fun n=>some ((n,()),())) (yi0 a0):=zkT (p:=fun(n:Int)=>((n,()),())) rfl
theorem yJ4:ConOk prog 166 yuM:=(yIf).mono (fun x r _ h=>(yJU x.1).trans h)
def yXs:Code:=(f168.body).getD .skip
def yXY:Env:=zku TT [(81,yO)] []
theorem yNS:FrOk prog ⟨yXY,34,fun _=>none⟩ yXs:=zky yg yh ⟨yaa,trivial⟩
abbrev yp7:List Par:= [.rd tA,.rd tI,.rd tI]
abbrev yyI:List OT:= [⟨false,tB,.fz⟩]
def yud (a0:dA) (a1 a2:Int):Option (zaY yyI×zak yp7) :=let r1:=yj a1 0 (i64.wrap ((a0.2.2.1.length:Int)-1));bif r1 then bif(inb a1 a0.2.2.1.length)then bif(!((((nth a0.2.2.1 a1 ([],[],false,[])).2).2).1))then bif(!(a0.2.2.2.1 !=a1))then some (((ltb a2 a0.2.2.2.2.1),()),()) else some ((true,()),()) else some ((false,()),()) else none else some ((false,()),())
theorem yS3:ConOk prog 168 ⟨yp7,yyI,fun x=>yud x.1 x.2.1 x.2.2.1⟩:=zkG (yNS) func168 ntmps168.symm fun x=>by kernel_rfl
def yfp (a0:dA) (a1 a2:Int):Bool:=ycq a0 a1 a2
theorem yVo (a0:dA) (a1 a2:Int) (hk:zjw yp7 (a0,a1,a2,())):yud a0 a1 a2=(fun n=>some ((n,()),())) (yfp a0 a1 a2):=by
 have hb:a0.2.2.1.length*80≤2^47:=hk.1.2.2.1.1;unfold yud yfp ycq yc;rw[yau,ymZ (show a0.2.2.1.length≤1152921504606846976 by omega),bne_comm];cases inb a1 a0.2.2.1.length
 ·rfl
 ·cases(nth a0.2.2.1 a1 ([],[],false,[])).2.2.1<;>cases(a1 !=a0.2.2.2.1)<;>rfl
def ytr:Con:=⟨yp7,yyI,fun x=>(fun n=>some ((n,()),())) (yfp x.1 x.2.1 x.2.2.1)⟩
theorem yGo:ConOk prog 168 ytr:=(yS3).mono (fun x r hk h=>(yVo x.1 x.2.1 x.2.2.1 hk).trans h)
def ycz:Code:=(f98.body).getD .skip
def ygf:Env:=zku TT [(111,ytp),(139,yie),(142,ytq),(166,yuM),(167,yoT),(168,ytr)] []
theorem yHS:FrOk prog ⟨ygf,70,fun _=>none⟩ ycz:=zky yg yh ⟨yGm,yo9,yGn,yJ4,yDc,yGo,trivial⟩
def ywW:Nat→Option Seg:=fun _=>none
def ya6:Shape:=⟨[(0,false,[.ptr 1000000000 0]),(1,false,[.int .i64]),(7,false,[.at 800000000]),(28,false,[.br tI]),(29,false,[.int .i64]),(30,false,[.int .i64])],[(1000000000,[.int .i64,.int .i64,.int .i64,.at 800000001,.int .i64,.int .i64,.int .i64,.int .i64,.int .i64,.at 800000002,.int .i64,.bool,.bool])],[(800000000,tI,.fz),(800000001,tM,(.pr (.ow (.ow .fz)) (.pr (.ow (.pr .fz (.ow .fz))) (.pr .fz (.ow .fz))))),(800000002,tW,(.pr .fz (.ow .fz)))]⟩
def yd7:Shape:=⟨[(0,false,[.ptr 1000000000 0]),(1,false,[.int .i64]),(7,false,[.at 800000000]),(28,false,[.br tI]),(29,false,[.int .i64]),(30,false,[.ci .i64 0])],[(1000000000,[.int .i64,.int .i64,.int .i64,.at 800000001,.int .i64,.int .i64,.int .i64,.int .i64,.int .i64,.at 800000002,.int .i64,.bool,.bool])],[(800000000,tI,.fz),(800000001,tM,(.pr (.ow (.ow .fz)) (.pr (.ow (.pr .fz (.ow .fz))) (.pr .fz (.ow .fz))))),(800000002,tW,(.pr .fz (.ow .fz)))]⟩
def yd1:Shape:=⟨[(0,false,[.ptr 1000000000 0]),(1,false,[.int .i64]),(7,false,[.at 800000000])],[(1000000000,[.int .i64,.int .i64,.int .i64,.at 800000001,.int .i64,.int .i64,.int .i64,.int .i64,.int .i64,.at 800000002,.int .i64,.bool,.bool])],[(800000000,tI,.fz),(800000001,tM,(.pr (.ow (.ow .fz)) (.pr (.ow (.pr .fz (.ow .fz))) (.pr .fz (.ow .fz))))),(800000002,tW,(.pr .fz (.ow .fz)))]⟩
def yg1:Shape:=⟨[],[],[]⟩
abbrev ykr (v0:Int) (v1:List Int) (v2 v3:Int) (v4:dA) (v5:List Int):(ya6).X:=((((),()),(v0,()),((),()),(v1,()),(v2,()),(v3,()),()),((v4.1,v4.2.1.1,v4.2.1.2,(),v4.2.2.2.1,v4.2.2.2.2.1,v4.2.2.2.2.2.1,v4.2.2.2.2.2.2.1,v4.2.2.2.2.2.2.2.1,(),v4.2.2.2.2.2.2.2.2.2.1,v4.2.2.2.2.2.2.2.2.2.2.1,v4.2.2.2.2.2.2.2.2.2.2.2,()),()),(v5,v4.2.2.1,v4.2.2.2.2.2.2.2.2.1,()))
abbrev yG6 (v0:Int) (v1:List Int) (v2:Int) (v3:dA) (v4:List Int):(yd7).X:=((((),()),(v0,()),((),()),(v1,()),(v2,()),((),()),()),((v3.1,v3.2.1.1,v3.2.1.2,(),v3.2.2.2.1,v3.2.2.2.2.1,v3.2.2.2.2.2.1,v3.2.2.2.2.2.2.1,v3.2.2.2.2.2.2.2.1,(),v3.2.2.2.2.2.2.2.2.2.1,v3.2.2.2.2.2.2.2.2.2.2.1,v3.2.2.2.2.2.2.2.2.2.2.2,()),()),(v4,v3.2.2.1,v3.2.2.2.2.2.2.2.2.1,()))
abbrev ytY (v0:Int) (v1:dA) (v2:List Int):(yd1).X:=((((),()),(v0,()),((),()),()),((v1.1,v1.2.1.1,v1.2.1.2,(),v1.2.2.2.1,v1.2.2.2.2.1,v1.2.2.2.2.2.1,v1.2.2.2.2.2.2.1,v1.2.2.2.2.2.2.2.1,(),v1.2.2.2.2.2.2.2.2.2.1,v1.2.2.2.2.2.2.2.2.2.2.1,v1.2.2.2.2.2.2.2.2.2.2.2,()),()),(v2,v1.2.2.1,v1.2.2.2.2.2.2.2.2.1,()))
def ykG (v0:Int) (v1:List Int) (v2 v3 v4 v5 v6 v7 v8 v9 v10 v11 v12:Int) (v13 v14:Bool) (v15:List Int) (v16:List dM) (v17:List dW):Option ((ya6).X ⊕ ((yd1).X ⊕ (yg1).X)) :=bif(ltb v3 v2)then bif(inb v3 v1.length)then let r5:=yfo (v5,v6) v0 v3;bif(inb r5 v15.length)then some (.inl ((((),()),(v0,()),((),()),(v1,()),(v2,()),((i64.wrap (v3+1)),()),()),((v4,v5,v6,(),v7,v8,v9,v10,v11,(),v12,v13,v14,()),()),((v15.set (r5).toNat (nth v1 v3 0)),v16,v17,()))) else none else none else some (.inr (.inl ((((),()),(v0,()),((),()),()),((v4,v5,v6,(),v7,v8,v9,v10,v11,(),v12,v13,v14,()),()),(v15,v16,v17,()))))
def ybl (x:(ya6).X):=ykG x.1.2.1.1 x.1.2.2.2.1.1 x.1.2.2.2.2.1.1 x.1.2.2.2.2.2.1.1 x.2.1.1.1 x.2.1.1.2.1 x.2.1.1.2.2.1 x.2.1.1.2.2.2.2.1 x.2.1.1.2.2.2.2.2.1 x.2.1.1.2.2.2.2.2.2.1 x.2.1.1.2.2.2.2.2.2.2.1 x.2.1.1.2.2.2.2.2.2.2.2.1 x.2.1.1.2.2.2.2.2.2.2.2.2.2.1 x.2.1.1.2.2.2.2.2.2.2.2.2.2.2.1 x.2.1.1.2.2.2.2.2.2.2.2.2.2.2.2.1 x.2.2.1 x.2.2.2.1 x.2.2.2.2.1
def ytD (x:(yd7).X):(ya6).X:=((((),()),(x.1.2.1.1,()),((),()),(x.1.2.2.2.1.1,()),(x.1.2.2.2.2.1.1,()),(0,()),()),((x.2.1.1.1,x.2.1.1.2.1,x.2.1.1.2.2.1,(),x.2.1.1.2.2.2.2.1,x.2.1.1.2.2.2.2.2.1,x.2.1.1.2.2.2.2.2.2.1,x.2.1.1.2.2.2.2.2.2.2.1,x.2.1.1.2.2.2.2.2.2.2.2.1,(),x.2.1.1.2.2.2.2.2.2.2.2.2.2.1,x.2.1.1.2.2.2.2.2.2.2.2.2.2.2.1,x.2.1.1.2.2.2.2.2.2.2.2.2.2.2.2.1,()),()),(x.2.2.1,x.2.2.2.1,x.2.2.2.2.1,()))
def yuF:Code:=(zeJ ycz 64 244).getD .skip
theorem yHL:zeJ ycz 64 61=some (.block 0 (.loop yuF)):=by kernel_rfl
theorem yIl (x:(ya6).X):zhu ⟨ygf,70,ywW⟩ 0 yuF 244 ya6 yd1 yg1 x=ybl x:=by kernel_rfl
def ytL (x:(yd7).X):Nat:=18446744073709551616
def ylj (x:(yd7).X):Option ((yd1).X ⊕ (yg1).X):=zF ybl (ytL x) (ytD x)
def yuu:Seg:=⟨yd7,yd1,yg1,ylj⟩
def ymA:Nat→Option Seg:=fun q=>bif Nat.beq q 61 then some yuu else ywW q
theorem yHT:FrOk prog ⟨ygf,70,ymA⟩ ycz:=(yHS).loop (sg:=yuu) ya6 ytD (by decide) yHL ybl ytL (by decide) (fun _=>rfl) (fun x r _ h=>h) yIl
def yaS:Shape:=⟨[(0,false,[.ptr 1000000000 0]),(1,false,[.int .i64]),(46,false,[.at 800000000]),(47,false,[.int .i64]),(48,false,[.int .i64])],[(1000000000,[.int .i64,.int .i64,.int .i64,.at 800000001,.int .i64,.int .i64,.int .i64,.int .i64,.int .i64,.at 800000002,.int .i64,.bool,.bool])],[(800000000,tI,.fz),(800000001,tM,(.pr (.ow (.ow .fz)) (.pr (.ow (.pr .fz (.ow .fz))) (.pr .fz (.ow .fz))))),(800000002,tW,(.pr .fz (.ow .fz)))]⟩
def ydr:Shape:=⟨[(0,false,[.ptr 1000000000 0]),(1,false,[.int .i64]),(46,false,[.at 800000000]),(47,false,[.int .i64]),(48,false,[.ci .i64 0])],[(1000000000,[.int .i64,.int .i64,.int .i64,.at 800000001,.int .i64,.int .i64,.int .i64,.int .i64,.int .i64,.at 800000002,.int .i64,.bool,.bool])],[(800000000,tI,.fz),(800000001,tM,(.pr (.ow (.ow .fz)) (.pr (.ow (.pr .fz (.ow .fz))) (.pr .fz (.ow .fz))))),(800000002,tW,(.pr .fz (.ow .fz)))]⟩
def ydp:Shape:=⟨[],[(1000000000,[.int .i64,.int .i64,.int .i64,.at 800000000,.int .i64,.int .i64,.int .i64,.int .i64,.int .i64,.at 800000001,.int .i64,.bool,.bool])],[(800000000,tM,(.pr (.ow (.ow .fz)) (.pr (.ow (.pr .fz (.ow .fz))) (.pr .fz (.ow .fz))))),(800000001,tW,(.pr .fz (.ow .fz)))]⟩
def ydt:Shape:=⟨[(6,false,[.bool])],[(1000000000,[.int .i64,.int .i64,.int .i64,.at 800000000,.int .i64,.int .i64,.int .i64,.int .i64,.int .i64,.at 800000001,.int .i64,.bool,.bool])],[(800000000,tM,(.pr (.ow (.ow .fz)) (.pr (.ow (.pr .fz (.ow .fz))) (.pr .fz (.ow .fz))))),(800000001,tW,(.pr .fz (.ow .fz)))]⟩
abbrev yjv (v0 v1 v2:Int) (v3:dA) (v4:List Int):(yaS).X:=((((),()),(v0,()),((),()),(v1,()),(v2,()),()),((v3.1,v3.2.1.1,v3.2.1.2,(),v3.2.2.2.1,v3.2.2.2.2.1,v3.2.2.2.2.2.1,v3.2.2.2.2.2.2.1,v3.2.2.2.2.2.2.2.1,(),v3.2.2.2.2.2.2.2.2.2.1,v3.2.2.2.2.2.2.2.2.2.2.1,v3.2.2.2.2.2.2.2.2.2.2.2,()),()),(v4,v3.2.2.1,v3.2.2.2.2.2.2.2.2.1,()))
abbrev yGj (v0 v1:Int) (v2:dA) (v3:List Int):(ydr).X:=((((),()),(v0,()),((),()),(v1,()),((),()),()),((v2.1,v2.2.1.1,v2.2.1.2,(),v2.2.2.2.1,v2.2.2.2.2.1,v2.2.2.2.2.2.1,v2.2.2.2.2.2.2.1,v2.2.2.2.2.2.2.2.1,(),v2.2.2.2.2.2.2.2.2.2.1,v2.2.2.2.2.2.2.2.2.2.2.1,v2.2.2.2.2.2.2.2.2.2.2.2,()),()),(v3,v2.2.2.1,v2.2.2.2.2.2.2.2.2.1,()))
abbrev yjx (v0:dA):(ydp).X:=((),((v0.1,v0.2.1.1,v0.2.1.2,(),v0.2.2.2.1,v0.2.2.2.2.1,v0.2.2.2.2.2.1,v0.2.2.2.2.2.2.1,v0.2.2.2.2.2.2.2.1,(),v0.2.2.2.2.2.2.2.2.2.1,v0.2.2.2.2.2.2.2.2.2.2.1,v0.2.2.2.2.2.2.2.2.2.2.2,()),()),(v0.2.2.1,v0.2.2.2.2.2.2.2.2.1,()))
abbrev yjz (v0:Bool) (v1:dA):(ydt).X:=(((v0,()),()),((v1.1,v1.2.1.1,v1.2.1.2,(),v1.2.2.2.1,v1.2.2.2.2.1,v1.2.2.2.2.2.1,v1.2.2.2.2.2.2.1,v1.2.2.2.2.2.2.2.1,(),v1.2.2.2.2.2.2.2.2.2.1,v1.2.2.2.2.2.2.2.2.2.2.1,v1.2.2.2.2.2.2.2.2.2.2.2,()),()),(v1.2.2.1,v1.2.2.2.2.2.2.2.2.1,()))
def yjY (v0 v1 v2 v3 v4 v5 v6 v7 v8 v9 v10 v11:Int) (v12 v13:Bool) (v14:List Int) (v15:List dM) (v16:List dW):Option ((yaS).X ⊕ ((ydp).X ⊕ (ydt).X)) :=bif(ltb v2 v1)then bif(inb v2 v14.length)then let r10:=yfp (v3,(v4,v5),v15,v6,v7,v8,v9,v10,v16,v11,v12,v13) v2 v0;bif r10 then let r11:=ykZ v0;bnd (yep (v3,(v4,v5),v15,v6,v7,v8,v9,v10,v16,v11,v12,v13) v2 r11 ([(nth v14 v2 0)]:List Int)) fun r12 =>bif(!r12.1.1)then some (.inr (.inr (((false,()),()),((r12.2.1.1,r12.2.1.2.1.1,r12.2.1.2.1.2,(),r12.2.1.2.2.2.1,r12.2.1.2.2.2.2.1,r12.2.1.2.2.2.2.2.1,r12.2.1.2.2.2.2.2.2.1,r12.2.1.2.2.2.2.2.2.2.1,(),r12.2.1.2.2.2.2.2.2.2.2.2.1,r12.2.1.2.2.2.2.2.2.2.2.2.2.1,r12.2.1.2.2.2.2.2.2.2.2.2.2.2,()),()),(r12.2.1.2.2.1,r12.2.1.2.2.2.2.2.2.2.2.1,())))) else some (.inl ((((),()),(v0,()),((),()),(v1,()),((i64.wrap (v2+1)),()),()),((r12.2.1.1,r12.2.1.2.1.1,r12.2.1.2.1.2,(),r12.2.1.2.2.2.1,r12.2.1.2.2.2.2.1,r12.2.1.2.2.2.2.2.1,r12.2.1.2.2.2.2.2.2.1,r12.2.1.2.2.2.2.2.2.2.1,(),r12.2.1.2.2.2.2.2.2.2.2.2.1,r12.2.1.2.2.2.2.2.2.2.2.2.2.1,r12.2.1.2.2.2.2.2.2.2.2.2.2.2,()),()),(v14,r12.2.1.2.2.1,r12.2.1.2.2.2.2.2.2.2.2.1,()))) else some (.inl ((((),()),(v0,()),((),()),(v1,()),((i64.wrap (v2+1)),()),()),((v3,v4,v5,(),v6,v7,v8,v9,v10,(),v11,v12,v13,()),()),(v14,v15,v16,()))) else none else some (.inr (.inl ((),((v3,v4,v5,(),v6,v7,v8,v9,v10,(),v11,v12,v13,()),()),(v15,v16,()))))
def ya4 (x:(yaS).X):=yjY x.1.2.1.1 x.1.2.2.2.1.1 x.1.2.2.2.2.1.1 x.2.1.1.1 x.2.1.1.2.1 x.2.1.1.2.2.1 x.2.1.1.2.2.2.2.1 x.2.1.1.2.2.2.2.2.1 x.2.1.1.2.2.2.2.2.2.1 x.2.1.1.2.2.2.2.2.2.2.1 x.2.1.1.2.2.2.2.2.2.2.2.1 x.2.1.1.2.2.2.2.2.2.2.2.2.2.1 x.2.1.1.2.2.2.2.2.2.2.2.2.2.2.1 x.2.1.1.2.2.2.2.2.2.2.2.2.2.2.2.1 x.2.2.1 x.2.2.2.1 x.2.2.2.2.1
def yrR (x:(ydr).X):(yaS).X:=((((),()),(x.1.2.1.1,()),((),()),(x.1.2.2.2.1.1,()),(0,()),()),((x.2.1.1.1,x.2.1.1.2.1,x.2.1.1.2.2.1,(),x.2.1.1.2.2.2.2.1,x.2.1.1.2.2.2.2.2.1,x.2.1.1.2.2.2.2.2.2.1,x.2.1.1.2.2.2.2.2.2.2.1,x.2.1.1.2.2.2.2.2.2.2.2.1,(),x.2.1.1.2.2.2.2.2.2.2.2.2.2.1,x.2.1.1.2.2.2.2.2.2.2.2.2.2.2.1,x.2.1.1.2.2.2.2.2.2.2.2.2.2.2.2.1,()),()),(x.2.2.1,x.2.2.2.1,x.2.2.2.2.1,()))
def ytn:Code:=(zeJ ycz 64 500).getD .skip
theorem yGS:zeJ ycz 64 125=some (.block 2 (.loop ytn)):=by kernel_rfl
theorem yHi (x:(yaS).X):zhu ⟨ygf,70,ymA⟩ 2 ytn 500 yaS ydp ydt x=ya4 x:=by kernel_rfl
def yrU (x:(ydr).X):Nat:=18446744073709551616
def yj9 (x:(ydr).X):Option ((ydp).X ⊕ (ydt).X):=zF ya4 (yrU x) (yrR x)
def yr1:Seg:=⟨ydr,ydp,ydt,yj9⟩
def yIs:Nat→Option Seg:=fun q=>bif Nat.beq q 125 then some yr1 else ymA q
theorem yHU:FrOk prog ⟨ygf,70,yIs⟩ ycz:=(yHT).loop (sg:=yr1) yaS yrR (by decide) yGS ya4 yrU (by decide) (fun _=>rfl) (fun x r _ h=>h) yHi
abbrev ygj:List Par:= [.pt tA (.pr .fz (.pr (.pr .fz .fz) (.pr (.ow (.pr (.ow (.ow .fz)) (.pr (.ow (.pr .fz (.ow .fz))) (.pr .fz (.ow .fz))))) (.pr .fz (.pr .fz (.pr .fz (.pr .fz (.pr .fz (.pr (.ow (.pr .fz (.ow .fz))) (.pr .fz (.pr .fz .fz))))))))))),.rd tI,.rd tL]
abbrev yke:List OT:= [⟨false,tB,.fz⟩]
def ynl (a0:dA) (a1:Int) (a2:List Int):Option (zaY yke×zak ygj) :=bif(zkq a0.2.1.1 8)then let r1:=ydx a0.2.1 a1;let r2:=yi0 a2;bif(inb r1 (List.replicate (a0.2.1.1).toNat (0:Int)).length)then let r3:=((List.replicate (a0.2.1.1).toNat (0:Int)).set (r1).toNat r2);zkr (ylj ((((),()),(a1,()),((),()),(a2,()),((a2.length:Int),()),((),()),()),((a0.1,a0.2.1.1,a0.2.1.2,(),a0.2.2.2.1,a0.2.2.2.2.1,a0.2.2.2.2.2.1,a0.2.2.2.2.2.2.1,a0.2.2.2.2.2.2.2.1,(),a0.2.2.2.2.2.2.2.2.2.1,a0.2.2.2.2.2.2.2.2.2.2.1,a0.2.2.2.2.2.2.2.2.2.2.2,()),()),(r3,a0.2.2.1,a0.2.2.2.2.2.2.2.2.1,()))) (fun y5 =>zkr (yj9 ((((),()),(y5.1.2.1.1,()),((),()),((y5.2.2.1.length:Int),()),((),()),()),((y5.2.1.1.1,y5.2.1.1.2.1,y5.2.1.1.2.2.1,(),y5.2.1.1.2.2.2.2.1,y5.2.1.1.2.2.2.2.2.1,y5.2.1.1.2.2.2.2.2.2.1,y5.2.1.1.2.2.2.2.2.2.2.1,y5.2.1.1.2.2.2.2.2.2.2.2.1,(),y5.2.1.1.2.2.2.2.2.2.2.2.2.2.1,y5.2.1.1.2.2.2.2.2.2.2.2.2.2.2.1,y5.2.1.1.2.2.2.2.2.2.2.2.2.2.2.2.1,()),()),(y5.2.2.1,y5.2.2.2.1,y5.2.2.2.2.1,()))) (fun y12 =>some ((true,()),((y12.2.1.1.1,(y12.2.1.1.2.1,y12.2.1.1.2.2.1),y12.2.2.1,y12.2.1.1.2.2.2.2.1,y12.2.1.1.2.2.2.2.2.1,y12.2.1.1.2.2.2.2.2.2.1,y12.2.1.1.2.2.2.2.2.2.2.1,y12.2.1.1.2.2.2.2.2.2.2.2.1,y12.2.2.2.1,y12.2.1.1.2.2.2.2.2.2.2.2.2.2.1,y12.2.1.1.2.2.2.2.2.2.2.2.2.2.2.1,y12.2.1.1.2.2.2.2.2.2.2.2.2.2.2.2.1),()))) (fun y12 =>some ((y12.1.1.1,()),((y12.2.1.1.1,(y12.2.1.1.2.1,y12.2.1.1.2.2.1),y12.2.2.1,y12.2.1.1.2.2.2.2.1,y12.2.1.1.2.2.2.2.2.1,y12.2.1.1.2.2.2.2.2.2.1,y12.2.1.1.2.2.2.2.2.2.2.1,y12.2.1.1.2.2.2.2.2.2.2.2.1,y12.2.2.2.1,y12.2.1.1.2.2.2.2.2.2.2.2.2.2.1,y12.2.1.1.2.2.2.2.2.2.2.2.2.2.2.1,y12.2.1.1.2.2.2.2.2.2.2.2.2.2.2.2.1),())))) (fun y5 =>none) else none else none
theorem yJY:ConOk prog 98 ⟨ygj,yke,fun x=>ynl x.1 x.2.1 x.2.2.1⟩:=zkG (yHU) func98 ntmps98.symm fun x=>by kernel_rfl
def yky (a0:dA) (a1:Int) (a2:List Int):Bool×dA:=(!(ya (yF a0 a1 a2)),yF a0 a1 a2)
def ygX (a0:dA) (a1:Int) (a2:List Int):Bool:= !(ya a0)&&(yac a0.2.1 a1&&((a2.length:Int)==a0.2.1.1-1&&(a0.2.2.1.length:Int)==a0.2.1.1))
theorem yMa (a0:dA) (a1:Int) (a2:List Int) (hk:zjw ygj (a0,a1,a2,())) (hq:ygX a0 a1 a2=true):ynl a0 a1 a2=(fun n=>some ((n.1,()),(n.2,()))) (yky a0 a1 a2):=by
 simp only[ygX,Bool.and_eq_true,beq_iff_eq,Bool.not_eq_true']at hq;obtain⟨hd0,hs0,hl0,hm0⟩:=hq;have hg:=yn.1 (yY.1 hs0).1;have hp:=yj3 hs0;have hL:=y1x (N:=a0.2.1.1) (p:=yk a0.2.1 a1) (x:=yax a2) (data:=a2) ⟨by omega,by omega⟩ hp hl0;generalize hw:(List.range a0.2.1.1.toNat).map (fun(i:Nat)=>ycw (yk a0.2.1 a1) a0.2.1.1 (yax a2) a2 i)=W at hL;have hWl:W.length=a0.2.2.1.length:=by rw[← hw,List.length_map,List.length_range]; omega
 have hWat: ∀i:Nat,i<a0.2.2.1.length→nth W i 0=ycw (yk a0.2.1 a1) a0.2.1.1 (yax a2) a2 i:=fun i hi=>by
  rw[← hw,zkQ,zkH (by rw[List.length_map,List.length_range]; omega)]; simp
 have h1:ylj (yG6 a1 a2 a2.length a0 ((List.replicate a0.2.1.1.toNat 0).set (yk a0.2.1 a1).toNat (yax a2)))=some (.inl (ytY a1 a0 W)):=by
  have:=zkB (step:=ybl) a2.length (fun i s=>ykr a1 a2 a2.length i a0 s) (fun l (i:Nat)=>l.set ((yk a0.2.1 a1+1+i).tmod a0.2.1.1).toNat (nth a2 i 0)) (fun _ s=>s.length=a0.2.1.1.toNat) (fun s=> .inl (ytY a1 a0 s)) (fun i s hi hs=>⟨by
   have hd:=yU6 hs0 (show(0:Int)≤i by omega) (show(i:Int)≤a0.2.1.1-2 by omega);have he:ybA a0.2.1 a1 i=(yk a0.2.1 a1+1+i).tmod a0.2.1.1:=by unfold ybA; rw[hs0,zk0 (show(0:Int)≤i by omega),zk0 (show(i:Int)≤a0.2.1.1-2 by omega)]; rfl
   simp only[ybl,ykr,ykG,zkw (show(i:Int)<a2.length by omega),cond_true,wq ((i:Int)+1) (by omega) (by omega),Int.natCast_add,Int.natCast_one,Int.toNat_natCast,zkP hi,zkV,yfo,zj4.2 (show 0≤ybA a0.2.1 a1 i∧ybA a0.2.1 a1 i<s.length by omega)]
   rw[he],by rw[List.length_set]; exact hs⟩) (fun s hs=>by simp only[ybl,ykr,ykG,zk1 (Int.le_refl _),cond_false]) ((List.replicate a0.2.1.1.toNat 0).set (yk a0.2.1 a1).toNat (yax a2)) (by rw[List.length_set,List.length_replicate]) 18446744073709551616 (by omega)
  rw[hL]at this;exact this
 have h2:yj9 (yGj a1 W.length a0 W)=some (bif ya (yF a0 a1 a2)then .inr (yjz false (yF a0 a1 a2))else .inl (yjx (yF a0 a1 a2))):=by
  have:=zkA (step:=ya4) a0.2.2.1.length (fun i s=>yjv a1 W.length i s W) (fun i s=>bif ya (ya2 (yk a0.2.1 a1) a0.2.1.1 a1 a2 s i)then(.inr (ya2 (yk a0.2.1 a1) a0.2.1.1 a1 a2 s i):dA ⊕ dA)else .inl (ya2 (yk a0.2.1 a1) a0.2.1.1 a1 a2 s i)) (fun _ s=>s.2.2.1.length=a0.2.2.1.length∧ya s=false) id
   (fun b=>bif ya b then .inr (yjz false b)else .inl (yjx b)) (fun i s hi hs=>by
    constructor
    ·simp only[ya4,yjv,yjY,zkw (show(i:Int)<W.length by omega),cond_true,wq ((i:Int)+1) (by omega) (by omega),Int.natCast_add,Int.natCast_one,Int.toNat_natCast,zkP (show i<W.length by omega),zkV,yfp,yGh,hWat i hi,ya2]
     rw[ypa s i (yx a1) [ycw (yk a0.2.1 a1) a0.2.1.1 (yax a2) a2 i] (by unfold ycO; rw[zkP (by rw[hs.1]; exact hi),hs.2]; rfl)];cases hlv:ycq s i a1
     ·simp only[cond_false,hs.2]
     ·simp only[zkF,ycM,cond_true]
      cases hd:ya (ybk s i (yx a1) [ycw (yk a0.2.1 a1) a0.2.1.1 (yax a2) a2 i])
      ·rfl
      ·simp only[hd,Bool.not_true,Bool.not_false,cond_true,yjz]
    ·intro s' h
     cases hd:ya (ya2 (yk a0.2.1 a1) a0.2.1.1 a1 a2 s i)
     ·rw[hd]at h
      cases h;exact⟨(ypH _ _ _ _ s i).trans hs.1,hd⟩
     ·rw[hd]at h; cases h) (fun s hs=>by simp only[ya4,yjv,yjY,hs.2,hWl,zk1 (Int.le_refl _),cond_false,id,yjx]) a0 ⟨rfl,hd0⟩ 18446744073709551616 (by omega)
  rw[yC2 (fun a i h=>yCw _ _ _ _ i h),← List.range_eq_range']at this;exact this
 unfold ynl yky ydx yi0 ycs;rw[zkK.2 (show 0≤a0.2.1.1∧a0.2.1.1*((8:Nat):Int)≤140737488355328 by omega)];simp only[cond_true];rw[zj4.2 (show 0≤yk a0.2.1 a1∧yk a0.2.1 a1<((List.replicate a0.2.1.1.toNat (0:Int)).length:Int)by rw[List.length_replicate]; omega),cond_true];refine(congrArg (fun z=>zkr z _ _) h1).trans ?_;rw[zkL];refine(congrArg (fun z=>zkr z _ _) h2).trans ?_;cases hd:ya (yF a0 a1 a2)
 ·rfl
 ·simp only[cond_true,zkM,zkV]; rfl
def ygV (a0:dA) (a1:Int) (a2:List Int):Option (zaY yke×zak ygj):=bif ygX a0 a1 a2 then(fun n=>some ((n.1,()),(n.2,()))) (yky a0 a1 a2)else none
theorem yMJ (a0:dA) (a1:Int) (a2:List Int) (h:ygX a0 a1 a2=true):ygV a0 a1 a2=(fun n=>some ((n.1,()),(n.2,()))) (yky a0 a1 a2):=by unfold ygV; rw[h]; rfl
def yxc:Con:=⟨ygj,yke,fun x=>ygV x.1 x.2.1 x.2.2.1⟩
theorem yMF:ConOk prog 98 yxc:=(yJY).mono (fun x r hk h=>zkW h (fun hq=>yMa x.1 x.2.1 x.2.2.1 hk hq))
def yQD:Code:=(f172.body).getD .skip
def yQ4:Env:=zku TT [(212,yqP)] []
theorem yI0:FrOk prog ⟨yQ4,24,fun _=>none⟩ yQD:=zky yg yh ⟨yEP,trivial⟩
abbrev ysH:List Par:= [.rd tS]
abbrev ys1:List OT:= [⟨false,tL,(.ow .fz)⟩]
def yAB (a0:dS):Option (zaY ys1×zak ysH) :=let r1:=yem a0;bif(!r1)then some (([],()),()) else some ((([21317,a0.1,a0.2.1,a0.2.2.1,a0.2.2.2.1,a0.2.2.2.2.1,a0.2.2.2.2.2.1,(i64.wrap (a0.2.2.2.2.2.2.1+1)),a0.2.2.2.2.2.2.2]:List Int),()),())
theorem yMm:ConOk prog 172 ⟨ysH,ys1,fun x=>yAB x.1⟩:=zkG (yI0) func172 ntmps172.symm fun x=>by kernel_rfl
def yio (a0:dS):(List Int) :=let r1:=yem a0;bif(!r1)then [] else ([21317,a0.1,a0.2.1,a0.2.2.1,a0.2.2.2.1,a0.2.2.2.2.1,a0.2.2.2.2.2.1,(i64.wrap (a0.2.2.2.2.2.2.1+1)),a0.2.2.2.2.2.2.2]:List Int)
def yzX:Con:=⟨ysH,ys1,fun x=>(fun n=>some ((n,()),())) (yio x.1)⟩
theorem yPh (a0:dS):yAB a0=(fun n=>some ((n,()),())) (yio a0):=zkT (p:=fun(n:(List Int))=>((n,()),())) (zkE (p:=fun(n:(List Int))=>((n,()),())) rfl rfl)
theorem yP3:ConOk prog 172 yzX:=(yMm).mono (fun x r _ h=>(yPh x.1).trans h)
theorem y0r (s:dS):yio s=yl s:=by
 unfold yio yl;rw[yHA]
def yUn:Code:=(f173.body).getD .skip
def yUN:Env:=zku TT [] []
theorem yLt:FrOk prog ⟨yUN,23,fun _=>none⟩ yUn:=zky yg yh trivial
abbrev yvI:List Par:= [.rd tA,.rd tI]
abbrev yvY:List OT:= [⟨false,tS,(.pr .fz (.pr .fz (.pr .fz (.pr .fz (.pr .fz (.pr .fz (.pr .fz .fz)))))))⟩]
def yDn (a0:dA) (a1:Int):Option (zaY yvY×zak yvI) :=some (((a0.1,a0.2.2.2.2.2.2.2.1,a1,a0.2.1.1,a0.2.1.2,a0.2.2.2.2.2.2.1,a0.2.2.2.1,a0.2.2.2.2.1),()),())
theorem yPH:ConOk prog 173 ⟨yvI,yvY,fun x=>yDn x.1 x.2.1⟩:=zkG (yLt) func173 ntmps173.symm fun x=>by kernel_rfl
def yoj (a0:dA) (a1:Int):dS :=(a0.1,a0.2.2.2.2.2.2.2.1,a1,a0.2.1.1,a0.2.1.2,a0.2.2.2.2.2.2.1,a0.2.2.2.1,a0.2.2.2.2.1)
def yCl:Con:=⟨yvI,yvY,fun x=>(fun n=>some ((n,()),())) (yoj x.1 x.2.1)⟩
theorem ySK (a0:dA) (a1:Int):yDn a0 a1=(fun n=>some ((n,()),())) (yoj a0 a1):=zkT (p:=fun(n:dS)=>((n,()),())) rfl
theorem yTI:ConOk prog 173 yCl:=(yPH).mono (fun x r _ h=>(ySK x.1 x.2.1).trans h)
def yfi:Code:=(f76.body).getD .skip
def ykO:Env:=zku TT [] [(21056,.fz),(21120,.fz),(37952,(.pr .fz .fz)),(38016,(.pr .fz .fz))]
theorem yOk:FrOk prog ⟨ykO,60,fun _=>none⟩ yfi:=zky yg yh trivial
def yDQ:Nat→Option Seg:=fun _=>none
def ycF:Shape:=⟨[(1,false,[.ptr 0 0]),(2,false,[.ptr 64 0]),(3,false,[.ptr 4544 0]),(4,false,[.int .i64])],[(0,[.br tL,.br tW,.bool,.br tI]),(64,[.nil,.nil,.bool,.nil]),(4544,[.at 800000001,.nil,.bool,.at 800000000])],[(800000001,tL,.fz),(800000000,tI,.fz)]⟩
def ygB:Shape:=⟨[(1,false,[.ptr 0 0]),(2,false,[.ptr 64 0]),(3,false,[.ptr 4544 0]),(4,false,[.ci .i64 0])],[(0,[.br tL,.br tW,.bool,.br tI]),(64,[.nil,.nil,.bool,.nil]),(4544,[.at 800000001,.nil,.bool,.at 800000000])],[(800000001,tL,.fz),(800000000,tI,.fz)]⟩
def ygq:Shape:=⟨[(1,false,[.ptr 0 0]),(2,false,[.ptr 64 0]),(3,false,[.ptr 4544 0])],[(0,[.br tL,.br tW,.bool,.br tI]),(64,[.nil,.nil,.bool,.nil]),(4544,[.at 800000000,.nil,.bool,.at 800000001])],[(800000000,tL,.fz),(800000001,tI,.fz)]⟩
def yki:Shape:=⟨[],[],[]⟩
abbrev yo2 (v0:Int) (v1 v2 v3:dM):(ycF).X:=((((),()),((),()),((),()),(v0,()),()),((v1.1,v1.2.1,v1.2.2.1,v1.2.2.2,()),((),(),v2.2.2.1,(),()),((),(),v3.2.2.1,(),()),()),(v3.1,v3.2.2.2,()))
abbrev yL1 (v0 v1 v2:dM):(ygB).X:=((((),()),((),()),((),()),((),()),()),((v0.1,v0.2.1,v0.2.2.1,v0.2.2.2,()),((),(),v1.2.2.1,(),()),((),(),v2.2.2.1,(),()),()),(v2.1,v2.2.2.2,()))
abbrev yAx (v0 v1 v2:dM):(ygq).X:=((((),()),((),()),((),()),()),((v0.1,v0.2.1,v0.2.2.1,v0.2.2.2,()),((),(),v1.2.2.1,(),()),((),(),v2.2.2.1,(),()),()),(v2.1,v2.2.2.2,()))
def ypA (v0:Int) (v1:List (List Int)) (v2:List dW) (v3:Bool) (v4:List Int) (v5 v6:Bool) (v7:List (List Int)) (v8:List Int):Option ((ycF).X ⊕ ((ygq).X ⊕ (yki).X)) :=bif(ltb v0 (v1.length:Int))then bif(inb v0 v1.length)then bif(zkj ([]:List Int).length (nth v1 v0 []).length 8)then bif(zkj v7.length ([(([]:List Int)++(nth v1 v0 []))]:List (List Int)).length 24)then some (.inl ((((),()),((),()),((),()),((i64.wrap (v0+1)),()),()),((v1,v2,v3,v4,()),((),(),v5,(),()),((),(),v6,(),()),()),((v7++([(([]:List Int)++(nth v1 v0 []))]:List (List Int))),v8,()))) else none else none else none else some (.inr (.inl ((((),()),((),()),((),()),()),((v1,v2,v3,v4,()),((),(),v5,(),()),((),(),v6,(),()),()),(v7,v8,()))))
def yc2 (x:(ycF).X):=ypA x.1.2.2.2.1.1 x.2.1.1.1 x.2.1.1.2.1 x.2.1.1.2.2.1 x.2.1.1.2.2.2.1 x.2.1.2.1.2.2.1 x.2.1.2.2.1.2.2.1 x.2.2.1 x.2.2.2.1
def yAf (x:(ygB).X):(ycF).X:=((((),()),((),()),((),()),(0,()),()),((x.2.1.1.1,x.2.1.1.2.1,x.2.1.1.2.2.1,x.2.1.1.2.2.2.1,()),((),(),x.2.1.2.1.2.2.1,(),()),((),(),x.2.1.2.2.1.2.2.1,(),()),()),(x.2.2.1,x.2.2.2.1,()))
def yB9:Code:=(zeJ yfi 64 116).getD .skip
theorem yNB:zeJ yfi 64 29=some (.block 0 (.loop yB9)):=by kernel_rfl
theorem yQp (x:(ycF).X):zhu ⟨ykO,60,yDQ⟩ 0 yB9 116 ycF ygq yki x=yc2 x:=by kernel_rfl
def yAq (x:(ygB).X):Nat:=18446744073709551616
def yqG (x:(ygB).X):Option ((ygq).X ⊕ (yki).X):=zF yc2 (yAq x) (yAf x)
def yAK:Seg:=⟨ygB,ygq,yki,yqG⟩
def ysh:Nat→Option Seg:=fun q=>bif Nat.beq q 29 then some yAK else yDQ q
theorem yOl:FrOk prog ⟨ykO,60,ysh⟩ yfi:=(yOk).loop (sg:=yAK) ycF yAf (by decide) yNB yc2 yAq (by decide) (fun _=>rfl) (fun x r _ h=>h) yQp
def ycG:Shape:=⟨[(1,false,[.ptr 0 0]),(2,false,[.ptr 64 0]),(3,false,[.ptr 4544 0]),(5,false,[.int .i64])],[(0,[.br tL,.br tW,.bool,.br tI]),(64,[.nil,.nil,.bool,.nil]),(4544,[.at 800000000,.at 800000002,.bool,.at 800000001])],[(800000000,tL,.fz),(800000002,tW,(.pr .fz .fz)),(800000001,tI,.fz)]⟩
def ygC:Shape:=⟨[(1,false,[.ptr 0 0]),(2,false,[.ptr 64 0]),(3,false,[.ptr 4544 0]),(5,false,[.ci .i64 0])],[(0,[.br tL,.br tW,.bool,.br tI]),(64,[.nil,.nil,.bool,.nil]),(4544,[.at 800000000,.at 800000002,.bool,.at 800000001])],[(800000000,tL,.fz),(800000002,tW,(.pr .fz .fz)),(800000001,tI,.fz)]⟩
def ygr:Shape:=⟨[(2,false,[.ptr 64 0]),(3,false,[.ptr 4544 0])],[(64,[.nil,.nil,.bool,.nil]),(4544,[.at 800000000,.at 800000001,.bool,.at 800000002])],[(800000000,tL,.fz),(800000001,tW,(.pr .fz .fz)),(800000002,tI,.fz)]⟩
def ykj:Shape:=⟨[],[],[]⟩
abbrev yo3 (v0:Int) (v1 v2 v3:dM):(ycG).X:=((((),()),((),()),((),()),(v0,()),()),((v1.1,v1.2.1,v1.2.2.1,v1.2.2.2,()),((),(),v2.2.2.1,(),()),((),(),v3.2.2.1,(),()),()),(v3.1,v3.2.1,v3.2.2.2,()))
abbrev yL2 (v0 v1 v2:dM):(ygC).X:=((((),()),((),()),((),()),((),()),()),((v0.1,v0.2.1,v0.2.2.1,v0.2.2.2,()),((),(),v1.2.2.1,(),()),((),(),v2.2.2.1,(),()),()),(v2.1,v2.2.1,v2.2.2.2,()))
abbrev yAy (v0 v1:dM):(ygr).X:=((((),()),((),()),()),(((),(),v0.2.2.1,(),()),((),(),v1.2.2.1,(),()),()),(v1.1,v1.2.1,v1.2.2.2,()))
def ypB (v0:Int) (v1:List (List Int)) (v2:List dW) (v3:Bool) (v4:List Int) (v5 v6:Bool) (v7:List (List Int)) (v8:List dW) (v9:List Int):Option ((ycG).X ⊕ ((ygr).X ⊕ (ykj).X)) :=bif(ltb v0 (v2.length:Int))then bif(inb v0 v2.length)then bif(inb v0 v2.length)then bif(zkj ([]:List Int).length ((nth v2 v0 (0,[])).2).length 8)then bif(zkj v8.length ([((nth v2 v0 (0,[])).1,(([]:List Int)++((nth v2 v0 (0,[])).2)))]:List dW).length 32)then some (.inl ((((),()),((),()),((),()),((i64.wrap (v0+1)),()),()),((v1,v2,v3,v4,()),((),(),v5,(),()),((),(),v6,(),()),()),(v7,(v8++([((nth v2 v0 (0,[])).1,(([]:List Int)++((nth v2 v0 (0,[])).2)))]:List dW)),v9,()))) else none else none else none else none else some (.inr (.inl ((((),()),((),()),()),(((),(),v5,(),()),((),(),v6,(),()),()),(v7,v8,v9,()))))
def yc3 (x:(ycG).X):=ypB x.1.2.2.2.1.1 x.2.1.1.1 x.2.1.1.2.1 x.2.1.1.2.2.1 x.2.1.1.2.2.2.1 x.2.1.2.1.2.2.1 x.2.1.2.2.1.2.2.1 x.2.2.1 x.2.2.2.1 x.2.2.2.2.1
def yAg (x:(ygC).X):(ycG).X:=((((),()),((),()),((),()),(0,()),()),((x.2.1.1.1,x.2.1.1.2.1,x.2.1.1.2.2.1,x.2.1.1.2.2.2.1,()),((),(),x.2.1.2.1.2.2.1,(),()),((),(),x.2.1.2.2.1.2.2.1,(),()),()),(x.2.2.1,x.2.2.2.1,x.2.2.2.2.1,()))
def yCa:Code:=(zeJ yfi 64 244).getD .skip
theorem yNC:zeJ yfi 64 61=some (.block 2 (.loop yCa)):=by kernel_rfl
theorem yQq (x:(ycG).X):zhu ⟨ykO,60,ysh⟩ 2 yCa 244 ycG ygr ykj x=yc3 x:=by kernel_rfl
def yAr (x:(ygC).X):Nat:=18446744073709551616
def yqH (x:(ygC).X):Option ((ygr).X ⊕ (ykj).X):=zF yc3 (yAr x) (yAg x)
def yAL:Seg:=⟨ygC,ygr,ykj,yqH⟩
def yQU:Nat→Option Seg:=fun q=>bif Nat.beq q 61 then some yAL else ysh q
theorem yOm:FrOk prog ⟨ykO,60,yQU⟩ yfi:=(yOl).loop (sg:=yAL) ycG yAg (by decide) yNC yc3 yAr (by decide) (fun _=>rfl) (fun x r _ h=>h) yQq
abbrev yqg:List Par:= [.rd tM]
abbrev yy5:List OT:= [⟨false,tM,(.pr (.ow .fz) (.pr (.ow (.pr .fz .fz)) (.pr .fz (.ow .fz))))⟩]
def yun (a0:dM):Option (zaY yy5×zak yqg) :=bif(zkj ([]:List Int).length a0.2.2.2.length 8)then zkr (yqG ((((),()),((),()),((),()),((),()),()),((a0.1,a0.2.1,a0.2.2.1,a0.2.2.2,()),((),(),false,(),()),((),(),a0.2.2.1,(),()),()),([],(([]:List Int)++a0.2.2.2),()))) (fun y0 =>zkr (yqH ((((),()),((),()),((),()),((),()),()),((y0.2.1.1.1,y0.2.1.1.2.1,y0.2.1.1.2.2.1,y0.2.1.1.2.2.2.1,()),((),(),y0.2.1.2.1.2.2.1,(),()),((),(),y0.2.1.2.2.1.2.2.1,(),()),()),(y0.2.2.1,[],y0.2.2.2.1,()))) (fun y1 =>some (((y1.2.2.1,y1.2.2.2.1,y1.2.1.2.1.2.2.1,y1.2.2.2.2.1),()),())) (fun y1 =>none)) (fun y0 =>none) else none
theorem yTr:ConOk prog 76 ⟨yqg,yy5,fun x=>yun x.1⟩:=zkG (yOm) func76 ntmps76.symm fun x=>by kernel_rfl
def yaG (a0:dM):dM:=a0
theorem yVJ (a0:dM) (hk:zjw yqg (a0,())):yun a0=(fun n=>some ((n,()),())) (yaG a0):=by
 have hb1:a0.1.length*24≤2^47:=hk.1.1.1;have hb2:a0.2.1.length*32≤2^47:=hk.1.2.1.1;have hb3:a0.2.2.2.length*8≤2^47:=hk.1.2.2.2.1;have hs: ∀i,i<a0.1.length→(a0.1.getD i []).length*8≤2^47:=fun i hi=>by rw[zkH hi]; exact(hk.1.1.2 _ (List.getElem_mem hi)).1
 have hc: ∀i,i<a0.2.1.length→(a0.2.1.getD i (0,[])).2.length*8≤2^47:=fun i hi=>by rw[zkH hi]; exact(hk.1.2.1.2 _ (List.getElem_mem hi)).2.1
 have h1:yqG (yL1 a0 yc ([],[],a0.2.2.1,a0.2.2.2))=some (.inl (yAx a0 yc (a0.1,[],a0.2.2.1,a0.2.2.2))):=by
  have:=zkv (step:=yc2) a0.1 [] (fun i s=>yo2 i a0 yc (s,[],a0.2.2.1,a0.2.2.2)) (fun s x=>s++ [x]) (fun i s=>s.length=i) (fun s=> .inl (yAx a0 yc (s,[],a0.2.2.1,a0.2.2.2))) (fun i s hi hs2=>⟨by
   have:=hs i hi;simp only[yc2,yo2,ypA,zkw (show(i:Int)<a0.1.length by omega),cond_true,wq ((i:Int)+1) (by omega) (by omega),Int.natCast_add,Int.natCast_one,Int.toNat_natCast,zkP hi,zkQ,List.nil_append]
   rw[zkD.2 (show(([]:List Int).length+(a0.1.getD i []).length)*8≤140737488355328 by rw[List.length_nil]; omega),zkD.2 (show(s.length+ [a0.1.getD i []].length)*24≤140737488355328 by simp only[List.length_cons,List.length_nil]; omega)]; rfl,by simp[hs2]⟩) (fun s _=>by simp only[yc2,yo2,ypA,zk1 (Int.le_refl _),cond_false]) [] rfl 18446744073709551616 (by omega)
  rw[ywg]at this;exact this
 have h2:yqH (yL2 a0 yc (a0.1,[],a0.2.2.1,a0.2.2.2))=some (.inl (yAy yc a0)):=by
  have:=zkv (step:=yc3) a0.2.1 (0,[]) (fun i s=>yo3 i a0 yc (a0.1,s,a0.2.2.1,a0.2.2.2)) (fun s x=>s++ [x]) (fun i s=>s.length=i) (fun s=> .inl (yAy yc (a0.1,s,a0.2.2.1,a0.2.2.2))) (fun i s hi hs2=>⟨by
   have:=hc i hi;simp only[yc3,yo3,ypB,zkw (show(i:Int)<a0.2.1.length by omega),cond_true,wq ((i:Int)+1) (by omega) (by omega),Int.natCast_add,Int.natCast_one,Int.toNat_natCast,zkP hi,zkQ,List.nil_append,zkV]
   rw[zkD.2 (show(([]:List Int).length+(a0.2.1.getD i (0,[])).2.length)*8≤140737488355328 by rw[List.length_nil]; omega),zkD.2 (show(s.length+ [a0.2.1.getD i (0,[])].length)*32≤140737488355328 by simp only[List.length_cons,List.length_nil]; omega)]; rfl,by simp[hs2]⟩) (fun s _=>by simp only[yc3,yo3,ypB,zk1 (Int.le_refl _),cond_false]) [] rfl 18446744073709551616 (by omega)
  rw[ywg]at this;exact this
 unfold yun yaG;rw[zkD.2 (show(([]:List Int).length+a0.2.2.2.length)*8≤140737488355328 by rw[List.length_nil]; omega)];simp only[cond_true,List.nil_append,h1,zkL,h2]
def yif:Con:=⟨yqg,yy5,fun x=>(fun n=>some ((n,()),())) (yaG x.1)⟩
theorem yot:ConOk prog 76 yif:=(yTr).mono (fun x r hk h=>(yVJ x.1 hk).trans h)
def yZi:Code:=(f202.body).getD .skip
def yZu:Env:=zku TT [(200,ygM)] []
theorem yR1:FrOk prog ⟨yZu,10,fun _=>none⟩ yZi:=zky yg yh ⟨ymz,trivial⟩
abbrev yBA:List Par:= [.rd tL]
abbrev yBR:List OT:= [⟨false,tB,.fz⟩]
def yGH (a0:List Int):Option (zaY yBR×zak yBA) :=bif(leb (a0.length:Int) 12)then let r1:=yao a0;some ((r1,()),()) else some ((false,()),())
theorem yV6:ConOk prog 202 ⟨yBA,yBR,fun x=>yGH x.1⟩:=zkG (yR1) func202 ntmps202.symm fun x=>by kernel_rfl
def ygQ (a0:List Int):Bool :=bif(leb (a0.length:Int) 12)then let r1:=yao a0;r1 else false
def ywc:Con:=⟨yBA,yBR,fun x=>(fun n=>some ((n,()),())) (ygQ x.1)⟩
theorem yYD (a0:List Int):yGH a0=(fun n=>some ((n,()),())) (ygQ a0):=zkT (p:=fun(n:Bool)=>((n,()),())) (zkE (p:=fun(n:Bool)=>((n,()),())) rfl rfl)
theorem yHD:ConOk prog 202 ywc:=(yV6).mono (fun x r _ h=>(yYD x.1).trans h)
theorem yFA:ygQ=yav:=funext fun s=>by
 unfold ygQ yav yao;rw[show yaF=isW from funext fun x=>by unfold yaF; rw[ycx]; rfl];cases leb (s.length:Int) 12<;>rfl
def ycn:Code:=(f160.body).getD .skip
def ygh:Env:=zku TT [(82,yL),(202,ywc)] []
theorem yRW:FrOk prog ⟨ygh,91,fun _=>none⟩ ycn:=zky yg yh ⟨yS,yHD,trivial⟩
def yFI:Nat→Option Seg:=fun _=>none
def ydg:Shape:=⟨[(1,false,[.ptr 0 0]),(3,false,[.int .i64]),(4,false,[.int .i64])],[(0,[.br tL,.br tW,.bool,.br tI])],[]⟩
def yhR:Shape:=⟨[(1,false,[.ptr 0 0]),(3,false,[.int .i64]),(4,false,[.ci .i64 0])],[(0,[.br tL,.br tW,.bool,.br tI])],[]⟩
def yhC:Shape:=⟨[(1,false,[.ptr 0 0]),(3,false,[.int .i64])],[(0,[.br tL,.br tW,.bool,.br tI])],[]⟩
def yia:Shape:=⟨[(2,false,[.bool])],[],[]⟩
abbrev yq3 (v0 v1:Int) (v2:dM):(ydg).X:=((((),()),(v0,()),(v1,()),()),((v2.1,v2.2.1,v2.2.2.1,v2.2.2.2,()),()),())
abbrev yOU (v0:Int) (v1:dM):(yhR).X:=((((),()),(v0,()),((),()),()),((v1.1,v1.2.1,v1.2.2.1,v1.2.2.2,()),()),())
abbrev yOK (v0:Int) (v1:dM):(yhC).X:=((((),()),(v0,()),()),((v1.1,v1.2.1,v1.2.2.1,v1.2.2.2,()),()),())
abbrev yO7 (v0:Bool):(yia).X:=(((v0,()),()),(),())
def yrB (v0 v1:Int) (v2:List (List Int)) (v3:List dW) (v4:Bool) (v5:List Int):Option ((ydg).X ⊕ ((yhC).X ⊕ (yia).X)) :=bif(ltb v1 v0)then bif(inb v1 v2.length)then let r2:=ygQ (nth v2 v1 []);bif(!r2)then some (.inr (.inr (((false,()),()),(),()))) else some (.inl ((((),()),(v0,()),((i64.wrap (v1+1)),()),()),((v2,v3,v4,v5,()),()),())) else none else some (.inr (.inl ((((),()),(v0,()),()),((v2,v3,v4,v5,()),()),())))
def ydM (x:(ydg).X):=yrB x.1.2.1.1 x.1.2.2.1.1 x.2.1.1.1 x.2.1.1.2.1 x.2.1.1.2.2.1 x.2.1.1.2.2.2.1
def yCD (x:(yhR).X):(ydg).X:=((((),()),(x.1.2.1.1,()),(0,()),()),((x.2.1.1.1,x.2.1.1.2.1,x.2.1.1.2.2.1,x.2.1.1.2.2.2.1,()),()),())
def yD6:Code:=(zeJ ycn 64 116).getD .skip
theorem yRn:zeJ ycn 64 29=some (.block 0 (.loop yD6)):=by kernel_rfl
theorem yT5 (x:(ydg).X):zhu ⟨ygh,91,yFI⟩ 0 yD6 116 ydg yhC yia x=ydM x:=by kernel_rfl
def yCT (x:(yhR).X):Nat:=18446744073709551616
def ysw (x:(yhR).X):Option ((yhC).X ⊕ (yia).X):=zF ydM (yCT x) (yCD x)
def yDx:Seg:=⟨yhR,yhC,yia,ysw⟩
def yvo:Nat→Option Seg:=fun q=>bif Nat.beq q 29 then some yDx else yFI q
theorem yRX:FrOk prog ⟨ygh,91,yvo⟩ ycn:=(yRW).loop (sg:=yDx) ydg yCD (by decide) yRn ydM yCT (by decide) (fun _=>rfl) (fun x r _ h=>h) yT5
def ydh:Shape:=⟨[(1,false,[.ptr 0 0]),(3,false,[.int .i64]),(5,false,[.int .i64])],[(0,[.br tL,.br tW,.bool,.br tI])],[]⟩
def yhS:Shape:=⟨[(1,false,[.ptr 0 0]),(3,false,[.int .i64]),(5,false,[.ci .i64 0])],[(0,[.br tL,.br tW,.bool,.br tI])],[]⟩
def yhD:Shape:=⟨[(1,false,[.ptr 0 0]),(3,false,[.int .i64])],[(0,[.br tL,.br tW,.bool,.br tI])],[]⟩
def yib:Shape:=⟨[(2,false,[.bool])],[],[]⟩
abbrev yq4 (v0 v1:Int) (v2:dM):(ydh).X:=((((),()),(v0,()),(v1,()),()),((v2.1,v2.2.1,v2.2.2.1,v2.2.2.2,()),()),())
abbrev yOV (v0:Int) (v1:dM):(yhS).X:=((((),()),(v0,()),((),()),()),((v1.1,v1.2.1,v1.2.2.1,v1.2.2.2,()),()),())
abbrev yOL (v0:Int) (v1:dM):(yhD).X:=((((),()),(v0,()),()),((v1.1,v1.2.1,v1.2.2.1,v1.2.2.2,()),()),())
abbrev yO8 (v0:Bool):(yib).X:=(((v0,()),()),(),())
def yrC (v0 v1:Int) (v2:List (List Int)) (v3:List dW) (v4:Bool) (v5:List Int):Option ((ydh).X ⊕ ((yhD).X ⊕ (yib).X)) :=bif(ltb v1 (v3.length:Int))then bif(inb v1 v3.length)then let r6:=yb ((nth v3 v1 (0,[])).1) 0 (i64.wrap (v0-1));bif(!(!r6))then bif(inb v1 v3.length)then let r7:=ygQ ((nth v3 v1 (0,[])).2);bif(!r7)then some (.inr (.inr (((false,()),()),(),()))) else some (.inl ((((),()),(v0,()),((i64.wrap (v1+1)),()),()),((v2,v3,v4,v5,()),()),())) else none else some (.inr (.inr (((false,()),()),(),()))) else none else some (.inr (.inl ((((),()),(v0,()),()),((v2,v3,v4,v5,()),()),())))
def ydN (x:(ydh).X):=yrC x.1.2.1.1 x.1.2.2.1.1 x.2.1.1.1 x.2.1.1.2.1 x.2.1.1.2.2.1 x.2.1.1.2.2.2.1
def yCE (x:(yhS).X):(ydh).X:=((((),()),(x.1.2.1.1,()),(0,()),()),((x.2.1.1.1,x.2.1.1.2.1,x.2.1.1.2.2.1,x.2.1.1.2.2.2.1,()),()),())
def yD7:Code:=(zeJ ycn 64 244).getD .skip
theorem yRo:zeJ ycn 64 61=some (.block 2 (.loop yD7)):=by kernel_rfl
theorem yT6 (x:(ydh).X):zhu ⟨ygh,91,yvo⟩ 2 yD7 244 ydh yhD yib x=ydN x:=by kernel_rfl
def yCU (x:(yhS).X):Nat:=18446744073709551616
def ysx (x:(yhS).X):Option ((yhD).X ⊕ (yib).X):=zF ydN (yCU x) (yCE x)
def yDy:Seg:=⟨yhS,yhD,yib,ysx⟩
def yvp:Nat→Option Seg:=fun q=>bif Nat.beq q 61 then some yDy else yvo q
theorem yRY:FrOk prog ⟨ygh,91,yvp⟩ ycn:=(yRX).loop (sg:=yDy) ydh yCE (by decide) yRo ydN yCU (by decide) (fun _=>rfl) (fun x r _ h=>h) yT6
def ycE:Shape:=⟨[(1,false,[.ptr 0 0]),(3,false,[.int .i64]),(6,false,[.int .i64])],[(0,[.br tL,.br tW,.bool,.br tI])],[]⟩
def ygA:Shape:=⟨[(1,false,[.ptr 0 0]),(3,false,[.int .i64]),(6,false,[.ci .i64 0])],[(0,[.br tL,.br tW,.bool,.br tI])],[]⟩
def ygp:Shape:=⟨[(1,false,[.ptr 0 0]),(3,false,[.int .i64])],[(0,[.br tL,.br tW,.bool,.br tI])],[]⟩
def ygJ:Shape:=⟨[(2,false,[.bool])],[],[]⟩
abbrev yo1 (v0 v1:Int) (v2:dM):(ycE).X:=((((),()),(v0,()),(v1,()),()),((v2.1,v2.2.1,v2.2.2.1,v2.2.2.2,()),()),())
abbrev yL0 (v0:Int) (v1:dM):(ygA).X:=((((),()),(v0,()),((),()),()),((v1.1,v1.2.1,v1.2.2.1,v1.2.2.2,()),()),())
abbrev yLT (v0:Int) (v1:dM):(ygp).X:=((((),()),(v0,()),()),((v1.1,v1.2.1,v1.2.2.1,v1.2.2.2,()),()),())
abbrev yL7 (v0:Bool):(ygJ).X:=(((v0,()),()),(),())
def ypz (v0 v1:Int) (v2:List (List Int)) (v3:List dW) (v4:Bool) (v5:List Int):Option ((ycE).X ⊕ ((ygp).X ⊕ (ygJ).X)) :=bif(ltb v1 (v5.length:Int))then bif(inb v1 v5.length)then let r10:=yb (nth v5 v1 0) 0 (i64.wrap (v0-1));bif(!(!r10))then bif(ltb 0 v1)then bif(inb (i64.wrap (v1-1)) v5.length)then bif(inb v1 v5.length)then bif(leb (nth v5 v1 0) (nth v5 (i64.wrap (v1-1)) 0))then some (.inr (.inr (((false,()),()),(),()))) else some (.inl ((((),()),(v0,()),((i64.wrap (v1+1)),()),()),((v2,v3,v4,v5,()),()),())) else none else none else some (.inl ((((),()),(v0,()),((i64.wrap (v1+1)),()),()),((v2,v3,v4,v5,()),()),())) else some (.inr (.inr (((false,()),()),(),()))) else none else some (.inr (.inl ((((),()),(v0,()),()),((v2,v3,v4,v5,()),()),())))
def yc1 (x:(ycE).X):=ypz x.1.2.1.1 x.1.2.2.1.1 x.2.1.1.1 x.2.1.1.2.1 x.2.1.1.2.2.1 x.2.1.1.2.2.2.1
def yAe (x:(ygA).X):(ycE).X:=((((),()),(x.1.2.1.1,()),(0,()),()),((x.2.1.1.1,x.2.1.1.2.1,x.2.1.1.2.2.1,x.2.1.1.2.2.2.1,()),()),())
def yB8:Code:=(zeJ ycn 64 500).getD .skip
theorem yNA:zeJ ycn 64 125=some (.block 4 (.loop yB8)):=by kernel_rfl
theorem yQo (x:(ycE).X):zhu ⟨ygh,91,yvp⟩ 4 yB8 500 ycE ygp ygJ x=yc1 x:=by kernel_rfl
def yAp (x:(ygA).X):Nat:=18446744073709551616
def yqF (x:(ygA).X):Option ((ygp).X ⊕ (ygJ).X):=zF yc1 (yAp x) (yAe x)
def yAJ:Seg:=⟨ygA,ygp,ygJ,yqF⟩
def yUD:Nat→Option Seg:=fun q=>bif Nat.beq q 125 then some yAJ else yvp q
theorem yRZ:FrOk prog ⟨ygh,91,yUD⟩ ycn:=(yRY).loop (sg:=yAJ) ycE yAe (by decide) yNA yc1 yAp (by decide) (fun _=>rfl) (fun x r _ h=>h) yQo
abbrev ysO:List Par:= [.rd tM]
abbrev yBP:List OT:= [⟨false,tB,.fz⟩]
def ywA (a0:dM):Option (zaY yBP×zak ysO) :=zkr (ysw ((((),()),((a0.1.length:Int),()),((),()),()),((a0.1,a0.2.1,a0.2.2.1,a0.2.2.2,()),()),())) (fun y2 =>zkr (ysx ((((),()),(y2.1.2.1.1,()),((),()),()),((y2.2.1.1.1,y2.2.1.1.2.1,y2.2.1.1.2.2.1,y2.2.1.1.2.2.2.1,()),()),())) (fun y7 =>zkr (yqF ((((),()),(y7.1.2.1.1,()),((),()),()),((y7.2.1.1.1,y7.2.1.1.2.1,y7.2.1.1.2.2.1,y7.2.1.1.2.2.2.1,()),()),())) (fun y10 =>let r12:=yb y10.1.2.1.1 1 20;bif r12 then some (((leb (y10.2.1.1.2.1.length:Int) 60),()),()) else some ((false,()),())) (fun y10 =>some ((y10.1.1.1,()),()))) (fun y7 =>some ((y7.1.1.1,()),()))) (fun y2 =>some ((y2.1.1.1,()),()))
theorem yV4:ConOk prog 160 ⟨ysO,yBP,fun x=>ywA x.1⟩:=zkG (yRZ) func160 ntmps160.symm fun x=>by kernel_rfl
def yaK (a0:dM):Bool:=yu a0
theorem yYB (a0:dM) (hk:zjw ysO (a0,())):ywA a0=(fun n=>some ((n,()),())) (yaK a0):=by
 have hb1:a0.1.length*24≤2^47:=hk.1.1.1;have hb2:a0.2.1.length*32≤2^47:=hk.1.2.1.1;have hb3:a0.2.2.2.length*8≤2^47:=hk.1.2.2.2.1
 have h1:ysw (yOU a0.1.length a0)=some (bif a0.1.all yav then .inl (yOK a0.1.length a0)else .inr (yO7 false)) :=
  zj7 (step:=ydM) a0.1 [] (fun i=>yq3 a0.1.length i a0) yav _ _ (fun i hi=>by
   simp only[ydM,yq3,yrB,zkw (show(i:Int)<a0.1.length by omega),cond_true,wq ((i:Int)+1) (by omega) (by omega),Int.natCast_add,Int.natCast_one,Int.toNat_natCast,zkP hi,zkQ,yFA]
   cases yav (a0.1.getD i [])<;>rfl) (by simp only[ydM,yq3,yrB,zk1 (Int.le_refl _),cond_false]) _ (by show _<18446744073709551616; omega)
 have h2:ysx (yOV a0.1.length a0)=some (bif a0.2.1.all (yrJ a0.1.length)then .inl (yOL a0.1.length a0)else .inr (yO8 false)) :=
  zj7 (step:=ydN) a0.2.1 (0,[]) (fun i=>yq4 a0.1.length i a0) (yrJ a0.1.length) _ _ (fun i hi=>by
   simp only[ydN,yq4,yrC,zkw (show(i:Int)<a0.2.1.length by omega),cond_true,wq ((i:Int)+1) (by omega) (by omega),Int.natCast_add,Int.natCast_one,Int.toNat_natCast,zkP hi,zkQ,yFA,ymZ (show a0.1.length≤1152921504606846976 by omega),yrJ]
   cases inb (a0.2.1.getD i (0,[])).1 a0.1.length<;>cases yav (a0.2.1.getD i (0,[])).2<;>rfl) (by simp only[ydN,yq4,yrC,zk1 (Int.le_refl _),cond_false]) _ (by show _<18446744073709551616; omega)
 have h3:yqF (yL0 a0.1.length a0)=some (bif(List.range a0.2.2.2.length).any (yDY a0.1.length a0.2.2.2)then .inr (yL7 false)else .inl (yLT a0.1.length a0)) :=
  zjh (step:=yc1) (fun i=>yo1 a0.1.length i a0) a0.2.2.2.length (yDY a0.1.length a0.2.2.2) _ _ (fun i hi=>by
   simp only[yc1,yo1,ypz,zkw (show(i:Int)<a0.2.2.2.length by omega),cond_true,wq ((i:Int)+1) (by omega) (by omega),Int.natCast_add,Int.natCast_one,Int.toNat_natCast,zkP hi,zkQ,ymZ (show a0.1.length≤1152921504606846976 by omega),yDY];rcases Nat.eq_zero_or_pos i with rfl | h0
   ·cases inb (a0.2.2.2.getD 0 0) a0.1.length<;>rfl
   ·rw[show i64.wrap ((i:Int)-1)=((i-1:Nat):Int)by rw[wr (by omega) (by omega)]; omega,zkP (show i-1<a0.2.2.2.length by omega),zkQ,zkw (show(0:Int)<i by omega),decide_eq_true h0]
    cases inb (a0.2.2.2.getD i 0) a0.1.length<;>cases leb (a0.2.2.2.getD i 0) (a0.2.2.2.getD (i-1) 0)<;>rfl) (by simp only[yc1,yo1,ypz,zk1 (Int.le_refl _),cond_false]) _ (by show _<18446744073709551616; omega)
 unfold ywA yaK yu;rw[h1];cases a0.1.all yav
 ·rfl
 simp only[cond_true,zkL,h2];cases a0.2.1.all (yrJ a0.1.length)
 ·rfl
 simp only[cond_true,zkL,h3,yWP,ycx];cases yob a0.1.length a0.2.2.2
 ·rfl
 simp only[Bool.not_true,cond_false,zkL];cases leb 1 (a0.1.length:Int)<;>cases leb (a0.1.length:Int) 20<;>rfl
def yf8:Con:=⟨ysO,yBP,fun x=>(fun n=>some ((n,()),())) (yaK x.1)⟩
theorem yld:ConOk prog 160 yf8:=(yV4).mono (fun x r hk h=>(yYB x.1 hk).trans h)
def yj7:Code:=(f245.body).getD .skip
def yqA:Env:=zku TT [] []
theorem yHZ:FrOk prog ⟨yqA,28,fun _=>none⟩ yj7:=zky yg yh trivial
def ywY:Nat→Option Seg:=fun _=>none
def ybb:Shape:=⟨[(0,false,[.br tI]),(1,false,[.int .i64]),(5,false,[.at 800000000]),(6,false,[.int .i64])],[],[(800000000,tI,.fz)]⟩
def yec:Shape:=⟨[(0,false,[.br tI]),(1,false,[.int .i64]),(5,false,[.at 800000000]),(6,false,[.ci .i64 0])],[],[(800000000,tI,.fz)]⟩
def yd6:Shape:=⟨[(5,false,[.at 800000000])],[],[(800000000,tI,.fz)]⟩
def yg6:Shape:=⟨[],[],[]⟩
abbrev ykw (v0:List Int) (v1 v2:Int) (v3:List Int):(ybb).X:=(((v0,()),(v1,()),((),()),(v2,()),()),(),(v3,()))
abbrev yHb (v0:List Int) (v1:Int) (v2:List Int):(yec).X:=(((v0,()),(v1,()),((),()),((),()),()),(),(v2,()))
abbrev yG5 (v0:List Int):(yd6).X:=((((),()),()),(),(v0,()))
def ykL (v0:List Int) (v1 v2:Int) (v3:List Int):Option ((ybb).X ⊕ ((yd6).X ⊕ (yg6).X)) :=bif(ltb v2 (v0.length:Int))then bif(inb v2 v0.length)then bif((nth v0 v2 0) !=v1)then bif(inb v2 v0.length)then bif(zkj v3.length ([(nth v0 v2 0)]:List Int).length 8)then some (.inl (((v0,()),(v1,()),((),()),((i64.wrap (v2+1)),()),()),(),((v3++([(nth v0 v2 0)]:List Int)),()))) else none else none else some (.inl (((v0,()),(v1,()),((),()),((i64.wrap (v2+1)),()),()),(),(v3,()))) else none else some (.inr (.inl ((((),()),()),(),(v3,()))))
def ybq (x:(ybb).X):=ykL x.1.1.1 x.1.2.1.1 x.1.2.2.2.1.1 x.2.2.1
def ytI (x:(yec).X):(ybb).X:=(((x.1.1.1,()),(x.1.2.1.1,()),((),()),(0,()),()),(),(x.2.2.1,()))
def yuK:Code:=(zeJ yj7 64 116).getD .skip
theorem yHQ:zeJ yj7 64 29=some (.block 0 (.loop yuK)):=by kernel_rfl
theorem yIq (x:(ybb).X):zhu ⟨yqA,28,ywY⟩ 0 yuK 116 ybb yd6 yg6 x=ybq x:=by kernel_rfl
def ytQ (x:(yec).X):Nat:=18446744073709551616
def ylo (x:(yec).X):Option ((yd6).X ⊕ (yg6).X):=zF ybq (ytQ x) (ytI x)
def yuz:Seg:=⟨yec,yd6,yg6,ylo⟩
def yIu:Nat→Option Seg:=fun q=>bif Nat.beq q 29 then some yuz else ywY q
theorem yH0:FrOk prog ⟨yqA,28,yIu⟩ yj7:=(yHZ).loop (sg:=yuz) ybb ytI (by decide) yHQ ybq ytQ (by decide) (fun _=>rfl) (fun x r _ h=>h) yIq
abbrev ykc:List Par:= [.rd tL,.rd tI]
abbrev yqO:List OT:= [⟨false,tL,(.ow .fz)⟩]
def yno (a0:List Int) (a1:Int):Option (zaY yqO×zak ykc) :=zkr (ylo (((a0,()),(a1,()),((),()),((),()),()),(),(([]:List Int),()))) (fun y0 =>some ((y0.2.2.1,()),())) (fun y0 =>none)
theorem yJ2:ConOk prog 245 ⟨ykc,yqO,fun x=>yno x.1 x.2.1⟩:=zkG (yH0) func245 ntmps245.symm fun x=>by kernel_rfl
def ygT (a0:List Int) (a1:Int):List Int:=yHk a0 a1
theorem yIN {α:Type} (p:α→Bool): ∀(l:List α) (s:List α),l.foldl (fun s x=>bif p x then s++ [x]else s) s=s++l.filter p
 | [],s=>by simp
 | x::l,s=>by
  rw[List.foldl_cons,yIN p l,List.filter_cons];cases p x<;>simp
theorem yMe (a0:List Int) (a1:Int) (hk:zjw ykc (a0,a1,())):yno a0 a1=(fun n=>some ((n,()),())) (ygT a0 a1):=by
 have hb:a0.length*8≤2^47:=hk.1.1
 have h1:=zkv (step:=ybq) a0 0 (fun i s=>ykw a0 a1 i s) (fun s x=>bif x !=a1 then s++ [x]else s) (fun i s=>s.length≤i) (fun s=> .inl (yG5 s)) (fun i s hi hs=>by
   constructor
   ·simp only[ybq,ykw,ykL,zkw (show(i:Int)<a0.length by omega),cond_true,wq ((i:Int)+1) (by omega) (by omega),Int.natCast_add,Int.natCast_one,Int.toNat_natCast,zkP hi,zkQ]
    rw[zkD.2 (show(s.length+ [a0.getD i 0].length)*8≤140737488355328 by simp only[List.length_cons,List.length_nil]; omega)];cases(a0.getD i 0 !=a1)<;>rfl
   ·cases(a0.getD i 0 !=a1)
    ·show s.length≤_; omega
    ·simp only[cond_true,List.length_append,List.length_cons,List.length_nil]; omega) (fun s _=>by simp only[ybq,ykw,ykL,zk1 (Int.le_refl _),cond_false]) [] (Nat.le_refl _) 18446744073709551616 (by omega)
 unfold yno ygT yHk;rw[show ylo (yHb a0 a1 [])=_ from h1,yIN]; rfl
def yxe:Con:=⟨ykc,yqO,fun x=>(fun n=>some ((n,()),())) (ygT x.1 x.2.1)⟩
theorem yMH:ConOk prog 245 yxe:=(yJ2).mono (fun x r hk h=>(yMe x.1 x.2.1 hk).trans h)
def yQM:Code:=(f225.body).getD .skip
def yRd:Env:=zku TT [(76,yif),(82,yL),(160,yf8),(202,ywc),(245,yxe)] [(16832,(.pr .fz .fz))]
theorem yJh:FrOk prog ⟨yRd,55,fun _=>none⟩ yQM:=zky yg yh ⟨yot,yS,yld,yHD,yMH,trivial⟩
abbrev yl7:List Par:= [.rd tM,.rd tI,.rd tL]
abbrev yte:List OT:= [⟨false,tM,(.pr (.ow .fz) (.pr (.ow (.pr .fz .fz)) (.pr .fz (.ow .fz))))⟩,⟨false,tB,.fz⟩]
def ypr (a0:dM) (a1:Int) (a2:List Int):Option (zaY yte×zak yl7) :=let r1:=yaG a0;let r2:=yaK a0;bif(!(!r2))then bif(!a0.2.2.1)then let r3:=yb a1 0 (i64.wrap ((a0.1.length:Int)-1));bif(!(!r3))then let r4:=ygQ a2;bif(!(!r4))then bif(leb 60 (a0.2.1.length:Int))then some ((r1,false,()),()) else bif(zkj ([]:List Int).length a2.length 8)then bif(zkj r1.2.1.length ([(a1,(([]:List Int)++a2))]:List dW).length 32)then let r5:=ygT a0.2.2.2 a1;some (((r1.1,(r1.2.1++([(a1,(([]:List Int)++a2))]:List dW)),r1.2.2.1,r5),true,()),()) else none else none else some ((r1,false,()),()) else some ((r1,false,()),()) else some ((r1,false,()),()) else some ((r1,false,()),())
theorem yMz:ConOk prog 225 ⟨yl7,yte,fun x=>ypr x.1 x.2.1 x.2.2.1⟩:=zkG (yJh) func225 ntmps225.symm fun x=>by kernel_rfl
def yis (a0:dM) (a1:Int) (a2:List Int):dM×Bool:=yT a0 a1 a2
theorem yPt (a0:dM) (a1:Int) (a2:List Int) (hk:zjw yl7 (a0,a1,a2,())):ypr a0 a1 a2=(fun n=>some ((n.1,n.2,()),())) (yis a0 a1 a2):=by
 have hb1:a0.1.length*24≤2^47:=hk.1.1.1;have hb2:a2.length*8≤2^47:=hk.2.2.1.1;unfold ypr yis yT ybc;simp only[yaG,yaK,ymZ (show a0.1.length≤1152921504606846976 by omega),yFA,ygT,List.nil_append];cases yu a0
 ·rfl
 cases a0.2.2.1
 ·cases inb a1 a0.1.length
  ·rfl
  cases yav a2
  ·rfl
  by_cases h:(a0.2.1.length:Int)<60
  ·rw[zkw h,zkZ h,zkD.2 (show(([]:List Int).length+a2.length)*8≤140737488355328 by rw[List.length_nil]; omega),zkD.2 (show(a0.2.1.length+ [(a1,a2)].length)*32≤140737488355328 by simp only[List.length_cons,List.length_nil]; omega)]; rfl
  ·rw[zk1 (by omega),zk0 (by omega)]; rfl
 ·rfl
def yz6:Con:=⟨yl7,yte,fun x=>(fun n=>some ((n.1,n.2,()),())) (yis x.1 x.2.1 x.2.2.1)⟩
theorem yQc:ConOk prog 225 yz6:=(yMz).mono (fun x r hk h=>(yPt x.1 x.2.1 x.2.2.1 hk).trans h)
def y0j:Code:=(f228.body).getD .skip
def y0l:Env:=zku TT [] []
theorem yVd:FrOk prog ⟨y0l,31,fun _=>none⟩ y0j:=zky yg yh trivial
abbrev yFj:List Par:= [.pt tA (.pr .fz (.pr (.pr .fz .fz) (.pr (.ow (.pr (.ow .fz) (.pr (.ow (.pr .fz .fz)) (.pr .fz (.ow .fz))))) (.pr .fz (.pr .fz (.pr .fz (.pr .fz (.pr .fz (.pr (.ow (.pr .fz .fz)) (.pr .fz (.pr .fz .fz)))))))))))]
abbrev yFn:List OT:= [⟨false,tB,.fz⟩]
def yHH (a0:dA):Option (zaY yFn×zak yFj) :=bif a0.2.2.2.2.2.2.2.2.2.2.1 then some ((false,()),(a0,())) else bif(a0.2.2.2.2.2.2.2.2.2.1==0)then some ((false,()),((a0.1,a0.2.1,a0.2.2.1,a0.2.2.2.1,a0.2.2.2.2.1,a0.2.2.2.2.2.1,a0.2.2.2.2.2.2.1,a0.2.2.2.2.2.2.2.1,a0.2.2.2.2.2.2.2.2.1,(-1),true,a0.2.2.2.2.2.2.2.2.2.2.2),())) else bif(ltb 0 a0.2.2.2.2.2.2.2.2.2.1)then some ((true,()),((a0.1,a0.2.1,a0.2.2.1,a0.2.2.2.1,a0.2.2.2.2.1,a0.2.2.2.2.2.1,a0.2.2.2.2.2.2.1,a0.2.2.2.2.2.2.2.1,a0.2.2.2.2.2.2.2.2.1,(i64.wrap (a0.2.2.2.2.2.2.2.2.2.1-1)),a0.2.2.2.2.2.2.2.2.2.2),())) else some ((true,()),(a0,()))
theorem yYP:ConOk prog 228 ⟨yFj,yFn,fun x=>yHH x.1⟩:=zkG (yVd) func228 ntmps228.symm fun x=>by kernel_rfl
def ypR (a0:dA):Bool×dA :=bif a0.2.2.2.2.2.2.2.2.2.2.1 then (false,a0) else bif(a0.2.2.2.2.2.2.2.2.2.1==0)then (false,(a0.1,a0.2.1,a0.2.2.1,a0.2.2.2.1,a0.2.2.2.2.1,a0.2.2.2.2.2.1,a0.2.2.2.2.2.2.1,a0.2.2.2.2.2.2.2.1,a0.2.2.2.2.2.2.2.2.1,(-1),true,a0.2.2.2.2.2.2.2.2.2.2.2)) else bif(ltb 0 a0.2.2.2.2.2.2.2.2.2.1)then (true,(a0.1,a0.2.1,a0.2.2.1,a0.2.2.2.1,a0.2.2.2.2.1,a0.2.2.2.2.2.1,a0.2.2.2.2.2.2.1,a0.2.2.2.2.2.2.2.1,a0.2.2.2.2.2.2.2.2.1,(i64.wrap (a0.2.2.2.2.2.2.2.2.2.1-1)),a0.2.2.2.2.2.2.2.2.2.2)) else (true,a0)
def yzd:Con:=⟨yFj,yFn,fun x=>(fun n=>some ((n.1,()),(n.2,()))) (ypR x.1)⟩
theorem yZX (a0:dA):yHH a0=(fun n=>some ((n.1,()),(n.2,()))) (ypR a0):=zkT (p:=fun(n:Bool×dA)=>((n.1,()),(n.2,()))) (zkE (p:=fun(n:Bool×dA)=>((n.1,()),(n.2,()))) rfl (zkE (p:=fun(n:Bool×dA)=>((n.1,()),(n.2,()))) rfl (zkE (p:=fun(n:Bool×dA)=>((n.1,()),(n.2,()))) rfl rfl)))
theorem yJ6:ConOk prog 228 yzd:=(yYP).mono (fun x r _ h=>(yZX x.1).trans h)
theorem yUg (a:dA):ypR a=opA a:=by kernel_rfl
def yZl:Code:=(f206.body).getD .skip
def yZx:Env:=zku TT [(225,yz6),(228,yzd)] []
theorem ySa:FrOk prog ⟨yZx,43,fun _=>none⟩ yZl:=zky yg yh ⟨yQc,yJ6,trivial⟩
abbrev ymM:List Par:= [.pt tA (.pr .fz (.pr (.pr .fz .fz) (.pr (.ow (.pr (.ow .fz) (.pr (.ow (.pr .fz .fz)) (.pr .fz (.ow .fz))))) (.pr .fz (.pr .fz (.pr .fz (.pr .fz (.pr .fz (.pr (.ow (.pr .fz .fz)) (.pr .fz (.pr .fz .fz))))))))))),.rd tI,.rd tI,.rd tL]
abbrev ytg:List OT:= []
def ywD (a0:dA) (a1 a2:Int) (a3:List Int):Option (zaY ytg×zak ymM) :=bif(inb a1 a0.2.2.1.length)then bif(!((((nth a0.2.2.1 a1 ([],[],false,[])).2).2).1))then let r1:=ypR a0;bif(!r1.1)then some ((),(r1.2,())) else bif(inb a1 r1.2.2.2.1.length)then let r2:=yis ((nth r1.2.2.2.1 a1 ([],[],false,[])).1,((nth r1.2.2.2.1 a1 ([],[],false,[])).2).1,(((nth r1.2.2.2.1 a1 ([],[],false,[])).2).2)) a2 a3;bif(inb a1 r1.2.2.2.1.length)then some ((),((r1.2.1,r1.2.2.1,(r1.2.2.2.1.set (a1).toNat r2.1),r1.2.2.2.2),())) else none else none else some ((),(a0,())) else none
theorem yWc:ConOk prog 206 ⟨ymM,ytg,fun x=>ywD x.1 x.2.1 x.2.2.1 x.2.2.2.1⟩:=zkG (ySa) func206 ntmps206.symm fun x=>by kernel_rfl
def yng (a0:dA) (a1 a2:Int) (a3:List Int):dA:=ybk a0 a1 a2 a3
def yDi (a0:dA) (a1 a2:Int) (a3:List Int):Bool:=inb a1 a0.2.2.1.length
theorem yYH (a0:dA) (a1 a2:Int) (a3:List Int) (hk:zjw ymM (a0,a1,a2,a3,())) (hq:yDi a0 a1 a2 a3=true):ywD a0 a1 a2 a3=(fun n=>some ((),(n,()))) (yng a0 a1 a2 a3):=by
 have hq:inb a1 a0.2.2.1.length=true:=hq;unfold ywD yng ybk ybj;simp only[yUg,yaL,hq,zkV,yis];cases(nth a0.2.2.1 a1 yc).2.2.1<;>cases(opA a0).1<;>rfl
def yeX (a0:dA) (a1 a2:Int) (a3:List Int):Option (zaY ytg×zak ymM):=bif yDi a0 a1 a2 a3 then(fun n=>some ((),(n,()))) (yng a0 a1 a2 a3)else none
theorem yle (a0:dA) (a1 a2:Int) (a3:List Int) (h:yDi a0 a1 a2 a3=true):yeX a0 a1 a2 a3=(fun n=>some ((),(n,()))) (yng a0 a1 a2 a3):=by unfold yeX; rw[h]; rfl
def yjt:Con:=⟨ymM,ytg,fun x=>yeX x.1 x.2.1 x.2.2.1 x.2.2.2.1⟩
theorem yqu:ConOk prog 206 yjt:=(yWc).mono (fun x r hk h=>zkW h (fun hq=>yYH x.1 x.2.1 x.2.2.1 x.2.2.2.1 hk hq))
def ylP:Code:=(f224.body).getD .skip
def ysn:Env:=zku TT [(76,yif),(160,yf8)] [(32768,(.pr .fz .fz))]
theorem yJa:FrOk prog ⟨ysn,40,fun _=>none⟩ ylP:=zky yg yh ⟨yot,yld,trivial⟩
def yzB:Nat→Option Seg:=fun _=>none
def yby:Shape:=⟨[(2,false,[.ptr 64 0]),(3,false,[.ptr 4224 0]),(4,false,[.int .i64])],[(64,[.nil,.nil,.bool,.nil]),(4224,[.at 800000000,.at 800000001,.bool,.at 800000002])],[(800000000,tL,.fz),(800000001,tW,(.pr .fz .fz)),(800000002,tI,.fz)]⟩
def yeO:Shape:=⟨[(2,false,[.ptr 64 0]),(3,false,[.ptr 4224 0]),(4,false,[.ci .i64 0])],[(64,[.nil,.nil,.bool,.nil]),(4224,[.at 800000000,.at 800000001,.bool,.at 800000002])],[(800000000,tL,.fz),(800000001,tW,(.pr .fz .fz)),(800000002,tI,.fz)]⟩
def yeG:Shape:=⟨[(2,false,[.ptr 64 0]),(3,false,[.ptr 4224 0])],[(64,[.nil,.nil,.bool,.nil]),(4224,[.at 800000000,.at 800000001,.bool,.at 800000002])],[(800000000,tL,.fz),(800000001,tW,(.pr .fz .fz)),(800000002,tI,.fz)]⟩
def yh9:Shape:=⟨[],[],[]⟩
abbrev ylw (v0:Int) (v1 v2:dM):(yby).X:=((((),()),((),()),(v0,()),()),(((),(),v1.2.2.1,(),()),((),(),v2.2.2.1,(),()),()),(v2.1,v2.2.1,v2.2.2.2,()))
abbrev yH9 (v0 v1:dM):(yeO).X:=((((),()),((),()),((),()),()),(((),(),v0.2.2.1,(),()),((),(),v1.2.2.1,(),()),()),(v1.1,v1.2.1,v1.2.2.2,()))
abbrev yu9 (v0 v1:dM):(yeG).X:=((((),()),((),()),()),(((),(),v0.2.2.1,(),()),((),(),v1.2.2.1,(),()),()),(v1.1,v1.2.1,v1.2.2.2,()))
def ylJ (v0:Int) (v1 v2:Bool) (v3:List (List Int)) (v4:List dW) (v5:List Int):Option ((yby).X ⊕ ((yeG).X ⊕ (yh9).X)) :=bif(ltb v0 (v4.length:Int))then bif(inb v0 v4.length)then bif(inb v0 v4.length)then bif(inb ((nth v4 v0 (0,[])).1) v3.length)then let r4:=(v3.set ((nth v4 v0 (0,[])).1).toNat ((nth v4 v0 (0,[])).2));some (.inl ((((),()),((),()),((i64.wrap (v0+1)),()),()),(((),(),v1,(),()),((),(),v2,(),()),()),(r4,v4,v5,()))) else none else none else none else some (.inr (.inl ((((),()),((),()),()),(((),(),v1,(),()),((),(),v2,(),()),()),(v3,v4,v5,()))))
def ybN (x:(yby).X):=ylJ x.1.2.2.1.1 x.2.1.1.2.2.1 x.2.1.2.1.2.2.1 x.2.2.1 x.2.2.2.1 x.2.2.2.2.1
def yuV (x:(yeO).X):(yby).X:=((((),()),((),()),(0,()),()),(((),(),x.2.1.1.2.2.1,(),()),((),(),x.2.1.2.1.2.2.1,(),()),()),(x.2.2.1,x.2.2.2.1,x.2.2.2.2.1,()))
def yw8:Code:=(zeJ ylP 64 244).getD .skip
theorem yID:zeJ ylP 64 61=some (.block 0 (.loop yw8)):=by kernel_rfl
theorem yKi (x:(yby).X):zhu ⟨ysn,40,yzB⟩ 0 yw8 244 yby yeG yh9 x=ybN x:=by kernel_rfl
def yu4 (x:(yeO).X):Nat:=18446744073709551616
def ymK (x:(yeO).X):Option ((yeG).X ⊕ (yh9).X):=zF ybN (yu4 x) (yuV x)
def yvk:Seg:=⟨yeO,yeG,yh9,ymK⟩
def yKR:Nat→Option Seg:=fun q=>bif Nat.beq q 61 then some yvk else yzB q
theorem yJb:FrOk prog ⟨ysn,40,yKR⟩ ylP:=(yJa).loop (sg:=yvk) yby yuV (by decide) yID ybN yu4 (by decide) (fun _=>rfl) (fun x r _ h=>h) yKi
abbrev yl3:List Par:= [.rd tM]
abbrev ys9:List OT:= [⟨false,tM,(.pr (.ow .fz) (.pr (.ow (.pr .fz .fz)) (.pr .fz (.ow .fz))))⟩]
def ypn (a0:dM):Option (zaY ys9×zak yl3) :=let r1:=yaG a0;let r2:=yaK a0;bif(!(!r2))then bif a0.2.2.1 then some ((r1,()),()) else zkr (ymK ((((),()),((),()),((),()),()),(((),(),false,(),()),((),(),r1.2.2.1,(),()),()),(r1.1,r1.2.1,r1.2.2.2,()))) (fun y4 =>some (((y4.2.2.1,([]:List dW),y4.2.1.2.1.2.2.1,y4.2.2.2.2.1),()),())) (fun y4 =>none) else some ((r1,()),())
theorem yMu:ConOk prog 224 ⟨yl3,ys9,fun x=>ypn x.1⟩:=zkG (yJb) func224 ntmps224.symm fun x=>by kernel_rfl
def yiq (a0:dM):dM:=yz a0
theorem yPo (a0:dM) (hk:zjw yl3 (a0,())):ypn a0=(fun n=>some ((n,()),())) (yiq a0):=by
 have hb2:a0.2.1.length*32≤2^47:=hk.1.2.1.1;unfold ypn yiq yz;simp only[yaG,yaK];cases hm:yu a0
 ·rfl
 have h1:ymK (yH9 yc a0)=some (.inl (yu9 yc (yf9 (fun _=>true) a0.2.1 a0.1,a0.2))) :=
  zkB (step:=ybN) a0.2.1.length (fun i s=>ylw i yc (s,a0.2)) (yeT (fun _=>true) a0.2.1) (fun i s=>s.length=a0.1.length) (fun s=> .inl (yu9 yc (s,a0.2))) (fun i s hi hs=>by
   have hw:=(yOF hm hi).1;refine⟨?_,ytT.trans hs⟩
   simp only[ybN,ylw,ylJ,zkw (show(i:Int)<a0.2.1.length by omega),cond_true,wq ((i:Int)+1) (by omega) (by omega),Int.natCast_add,Int.natCast_one,Int.toNat_natCast,zkP hi,hs,hw,yeT]) (fun s hs=>by simp only[ybN,ylw,ylJ,zk1 (Int.le_refl _),cond_false]) a0.1 rfl _ (by show _<18446744073709551616; omega)
 rw[h1];cases hf:a0.2.2.1
 ·exact congrArg (fun z=>some (((yf9 (fun _=>true) a0.2.1 a0.1,([]:List dW),z,a0.2.2.2),()),())) hf
 ·rfl
def yz3:Con:=⟨yl3,ys9,fun x=>(fun n=>some ((n,()),())) (yiq x.1)⟩
theorem yP9:ConOk prog 224 yz3:=(yMu).mono (fun x r hk h=>(yPo x.1 hk).trans h)
def yp3:Code:=(f208.body).getD .skip
def yyj:Env:=zku TT [(224,yz3),(228,yzd)] []
theorem yOB:FrOk prog ⟨yyj,39,fun _=>none⟩ yp3:=zky yg yh ⟨yP9,yJ6,trivial⟩
def yDW:Nat→Option Seg:=fun _=>none
def ydm:Shape:=⟨[(0,false,[.ptr 1000000000 0]),(2,false,[.int .i64])],[(1000000000,[.int .i64,.int .i64,.int .i64,.at 800000000,.int .i64,.int .i64,.int .i64,.int .i64,.int .i64,.at 800000001,.int .i64,.bool,.bool])],[(800000000,tM,(.pr (.ow .fz) (.pr (.ow (.pr .fz .fz)) (.pr .fz (.ow .fz))))),(800000001,tW,(.pr .fz .fz))]⟩
def yhX:Shape:=⟨[(0,false,[.ptr 1000000000 0]),(2,false,[.ci .i64 0])],[(1000000000,[.int .i64,.int .i64,.int .i64,.at 800000000,.int .i64,.int .i64,.int .i64,.int .i64,.int .i64,.at 800000001,.int .i64,.bool,.bool])],[(800000000,tM,(.pr (.ow .fz) (.pr (.ow (.pr .fz .fz)) (.pr .fz (.ow .fz))))),(800000001,tW,(.pr .fz .fz))]⟩
def yhI:Shape:=⟨[],[(1000000000,[.int .i64,.int .i64,.int .i64,.at 800000000,.int .i64,.int .i64,.int .i64,.int .i64,.int .i64,.at 800000001,.int .i64,.bool,.bool])],[(800000000,tM,(.pr (.ow .fz) (.pr (.ow (.pr .fz .fz)) (.pr .fz (.ow .fz))))),(800000001,tW,(.pr .fz .fz))]⟩
def ymj:Shape:=⟨[],[],[]⟩
abbrev yq9 (v0:Int) (v1:dA):(ydm).X:=((((),()),(v0,()),()),((v1.1,v1.2.1.1,v1.2.1.2,(),v1.2.2.2.1,v1.2.2.2.2.1,v1.2.2.2.2.2.1,v1.2.2.2.2.2.2.1,v1.2.2.2.2.2.2.2.1,(),v1.2.2.2.2.2.2.2.2.2.1,v1.2.2.2.2.2.2.2.2.2.2.1,v1.2.2.2.2.2.2.2.2.2.2.2,()),()),(v1.2.2.1,v1.2.2.2.2.2.2.2.2.1,()))
abbrev yO0 (v0:dA):(yhX).X:=((((),()),((),()),()),((v0.1,v0.2.1.1,v0.2.1.2,(),v0.2.2.2.1,v0.2.2.2.2.1,v0.2.2.2.2.2.1,v0.2.2.2.2.2.2.1,v0.2.2.2.2.2.2.2.1,(),v0.2.2.2.2.2.2.2.2.2.1,v0.2.2.2.2.2.2.2.2.2.2.1,v0.2.2.2.2.2.2.2.2.2.2.2,()),()),(v0.2.2.1,v0.2.2.2.2.2.2.2.2.1,()))
abbrev yC8 (v0:dA):(yhI).X:=((),((v0.1,v0.2.1.1,v0.2.1.2,(),v0.2.2.2.1,v0.2.2.2.2.1,v0.2.2.2.2.2.1,v0.2.2.2.2.2.2.1,v0.2.2.2.2.2.2.2.1,(),v0.2.2.2.2.2.2.2.2.2.1,v0.2.2.2.2.2.2.2.2.2.2.1,v0.2.2.2.2.2.2.2.2.2.2.2,()),()),(v0.2.2.1,v0.2.2.2.2.2.2.2.2.1,()))
def yrH (v0 v1 v2 v3 v4 v5 v6 v7 v8 v9:Int) (v10 v11:Bool) (v12:List dM) (v13:List dW):Option ((ydm).X ⊕ ((yhI).X ⊕ (ymj).X)) :=bif(ltb v0 (v12.length:Int))then bif(inb v0 v12.length)then bif(!((((nth v12 v0 ([],[],false,[])).2).2).1))then let r3:=ypR (v1,(v2,v3),v12,v4,v5,v6,v7,v8,v13,v9,v10,v11);bif r3.1 then bif(inb v0 r3.2.2.2.1.length)then let r4:=yiq ((nth r3.2.2.2.1 v0 ([],[],false,[])).1,((nth r3.2.2.2.1 v0 ([],[],false,[])).2).1,(((nth r3.2.2.2.1 v0 ([],[],false,[])).2).2));bif(inb v0 r3.2.2.2.1.length)then some (.inl ((((),()),((i64.wrap (v0+1)),()),()),((r3.2.1,r3.2.2.1.1,r3.2.2.1.2,(),r3.2.2.2.2.1,r3.2.2.2.2.2.1,r3.2.2.2.2.2.2.1,r3.2.2.2.2.2.2.2.1,r3.2.2.2.2.2.2.2.2.1,(),r3.2.2.2.2.2.2.2.2.2.2.1,r3.2.2.2.2.2.2.2.2.2.2.2.1,r3.2.2.2.2.2.2.2.2.2.2.2.2,()),()),((r3.2.2.2.1.set (v0).toNat r4),r3.2.2.2.2.2.2.2.2.2.1,()))) else none else none else some (.inl ((((),()),((i64.wrap (v0+1)),()),()),((r3.2.1,r3.2.2.1.1,r3.2.2.1.2,(),r3.2.2.2.2.1,r3.2.2.2.2.2.1,r3.2.2.2.2.2.2.1,r3.2.2.2.2.2.2.2.1,r3.2.2.2.2.2.2.2.2.1,(),r3.2.2.2.2.2.2.2.2.2.2.1,r3.2.2.2.2.2.2.2.2.2.2.2.1,r3.2.2.2.2.2.2.2.2.2.2.2.2,()),()),(r3.2.2.2.1,r3.2.2.2.2.2.2.2.2.2.1,()))) else some (.inl ((((),()),((i64.wrap (v0+1)),()),()),((v1,v2,v3,(),v4,v5,v6,v7,v8,(),v9,v10,v11,()),()),(v12,v13,()))) else none else some (.inr (.inl ((),((v1,v2,v3,(),v4,v5,v6,v7,v8,(),v9,v10,v11,()),()),(v12,v13,()))))
def ydS (x:(ydm).X):=yrH x.1.2.1.1 x.2.1.1.1 x.2.1.1.2.1 x.2.1.1.2.2.1 x.2.1.1.2.2.2.2.1 x.2.1.1.2.2.2.2.2.1 x.2.1.1.2.2.2.2.2.2.1 x.2.1.1.2.2.2.2.2.2.2.1 x.2.1.1.2.2.2.2.2.2.2.2.1 x.2.1.1.2.2.2.2.2.2.2.2.2.2.1 x.2.1.1.2.2.2.2.2.2.2.2.2.2.2.1 x.2.1.1.2.2.2.2.2.2.2.2.2.2.2.2.1 x.2.2.1 x.2.2.2.1
def yCK (x:(yhX).X):(ydm).X:=((((),()),(0,()),()),((x.2.1.1.1,x.2.1.1.2.1,x.2.1.1.2.2.1,(),x.2.1.1.2.2.2.2.1,x.2.1.1.2.2.2.2.2.1,x.2.1.1.2.2.2.2.2.2.1,x.2.1.1.2.2.2.2.2.2.2.1,x.2.1.1.2.2.2.2.2.2.2.2.1,(),x.2.1.1.2.2.2.2.2.2.2.2.2.2.1,x.2.1.1.2.2.2.2.2.2.2.2.2.2.2.1,x.2.1.1.2.2.2.2.2.2.2.2.2.2.2.2.1,()),()),(x.2.2.1,x.2.2.2.1,()))
def yEd:Code:=(zeJ yp3 64 12).getD .skip
theorem yRu:zeJ yp3 64 3=some (.block 0 (.loop yEd)):=by kernel_rfl
theorem yUc (x:(ydm).X):zhu ⟨yyj,39,yDW⟩ 0 yEd 12 ydm yhI ymj x=ydS x:=by kernel_rfl
def yC0 (x:(yhX).X):Nat:=18446744073709551616
def ysD (x:(yhX).X):Option ((yhI).X ⊕ (ymj).X):=zF ydS (yC0 x) (yCK x)
def yDE:Seg:=⟨yhX,yhI,ymj,ysD⟩
def yQ0:Nat→Option Seg:=fun q=>bif Nat.beq q 3 then some yDE else yDW q
theorem yOC:FrOk prog ⟨yyj,39,yQ0⟩ yp3:=(yOB).loop (sg:=yDE) ydm yCK (by decide) yRu ydS yC0 (by decide) (fun _=>rfl) (fun x r _ h=>h) yUc
abbrev yqj:List Par:= [.pt tA (.pr .fz (.pr (.pr .fz .fz) (.pr (.ow (.pr (.ow .fz) (.pr (.ow (.pr .fz .fz)) (.pr .fz (.ow .fz))))) (.pr .fz (.pr .fz (.pr .fz (.pr .fz (.pr .fz (.pr (.ow (.pr .fz .fz)) (.pr .fz (.pr .fz .fz)))))))))))]
abbrev yzb:List OT:= []
def yut (a0:dA):Option (zaY yzb×zak yqj) :=zkr (ysD ((((),()),((),()),()),((a0.1,a0.2.1.1,a0.2.1.2,(),a0.2.2.2.1,a0.2.2.2.2.1,a0.2.2.2.2.2.1,a0.2.2.2.2.2.2.1,a0.2.2.2.2.2.2.2.1,(),a0.2.2.2.2.2.2.2.2.2.1,a0.2.2.2.2.2.2.2.2.2.2.1,a0.2.2.2.2.2.2.2.2.2.2.2,()),()),(a0.2.2.1,a0.2.2.2.2.2.2.2.2.1,()))) (fun y4 =>some ((),((y4.2.1.1.1,(y4.2.1.1.2.1,y4.2.1.1.2.2.1),y4.2.2.1,y4.2.1.1.2.2.2.2.1,y4.2.1.1.2.2.2.2.2.1,y4.2.1.1.2.2.2.2.2.2.1,y4.2.1.1.2.2.2.2.2.2.2.1,y4.2.1.1.2.2.2.2.2.2.2.2.1,y4.2.2.2.1,y4.2.1.1.2.2.2.2.2.2.2.2.2.2.1,y4.2.1.1.2.2.2.2.2.2.2.2.2.2.2.1,y4.2.1.1.2.2.2.2.2.2.2.2.2.2.2.2.1),()))) (fun y4 =>none)
theorem yTB:ConOk prog 208 ⟨yqj,yzb,fun x=>yut x.1⟩:=zkG (yOC) func208 ntmps208.symm fun x=>by kernel_rfl
def ydX (a0:dA):dA:=yd a0
theorem yVR (a0:dA) (hk:zjw yqj (a0,())):yut a0=(fun n=>some ((),(n,()))) (ydX a0):=by
 have hb:a0.2.2.1.length*80≤2^47:=hk.1.2.2.1.1
 have h1:ysD (yO0 a0)=some (.inl (yC8 (yd a0))) :=
  zkB (step:=ydS) a0.2.2.1.length (fun i s=>yq9 i s) yW (fun _ s=>s.2.2.1.length=a0.2.2.1.length) (fun s=> .inl (yC8 s)) (fun i s hi hs=>⟨by
   simp only[ydS,yq9,yrH,hs,zkw (show(i:Int)<a0.2.2.1.length by omega),cond_true,wq ((i:Int)+1) (by omega) (by omega),Int.natCast_add,Int.natCast_one,Int.toNat_natCast,zkP hi,zkV,yUg,yaL,yiq,yW,ybj]
   cases(nth s.2.2.1 i yc).2.2.1<;>cases(opA s).1<;>simp only[cond_true,cond_false,Bool.not_true,Bool.not_false,yaL,Int.toNat_natCast],(yli s i).trans hs⟩) (fun s hs=>by simp only[ydS,yq9,yrH,hs,zk1 (Int.le_refl _),cond_false]) a0 rfl _ (by show _<18446744073709551616; omega)
 unfold yut ydX;rw[h1]; rfl
def yms:Con:=⟨yqj,yzb,fun x=>(fun n=>some ((),(n,()))) (ydX x.1)⟩
theorem ywo:ConOk prog 208 yms:=(yTB).mono (fun x r hk h=>(yVR x.1 hk).trans h)
def yp2:Code:=(f174.body).getD .skip
def yyi:Env:=zku TT [(144,yoW),(206,yjt),(208,yms)] []
theorem yOz:FrOk prog ⟨yyi,63,fun _=>none⟩ yp2:=zky yg yh ⟨yDg,yqu,ywo,trivial⟩
def yDV:Nat→Option Seg:=fun _=>none
def ycK:Shape:=⟨[(0,false,[.ptr 1000000000 0]),(2,false,[.int .i64])],[(1000000000,[.int .i64,.int .i64,.int .i64,.at 800000000,.int .i64,.int .i64,.int .i64,.int .i64,.int .i64,.at 800000001,.int .i64,.bool,.bool])],[(800000000,tM,(.pr (.ow .fz) (.pr (.ow (.pr .fz .fz)) (.pr .fz (.ow .fz))))),(800000001,tW,(.pr .fz .fz))]⟩
def ygG:Shape:=⟨[(0,false,[.ptr 1000000000 0]),(2,false,[.ci .i64 0])],[(1000000000,[.int .i64,.int .i64,.int .i64,.at 800000000,.int .i64,.int .i64,.int .i64,.int .i64,.int .i64,.at 800000001,.int .i64,.bool,.bool])],[(800000000,tM,(.pr (.ow .fz) (.pr (.ow (.pr .fz .fz)) (.pr .fz (.ow .fz))))),(800000001,tW,(.pr .fz .fz))]⟩
def ygv:Shape:=⟨[(0,false,[.ptr 1000000000 0])],[(1000000000,[.int .i64,.int .i64,.int .i64,.at 800000000,.int .i64,.int .i64,.int .i64,.int .i64,.int .i64,.at 800000001,.int .i64,.bool,.bool])],[(800000000,tM,(.pr (.ow .fz) (.pr (.ow (.pr .fz .fz)) (.pr .fz (.ow .fz))))),(800000001,tW,(.pr .fz .fz))]⟩
def ykm:Shape:=⟨[],[],[]⟩
abbrev yo6 (v0:Int) (v1:dA):(ycK).X:=((((),()),(v0,()),()),((v1.1,v1.2.1.1,v1.2.1.2,(),v1.2.2.2.1,v1.2.2.2.2.1,v1.2.2.2.2.2.1,v1.2.2.2.2.2.2.1,v1.2.2.2.2.2.2.2.1,(),v1.2.2.2.2.2.2.2.2.2.1,v1.2.2.2.2.2.2.2.2.2.2.1,v1.2.2.2.2.2.2.2.2.2.2.2,()),()),(v1.2.2.1,v1.2.2.2.2.2.2.2.2.1,()))
abbrev yL5 (v0:dA):(ygG).X:=((((),()),((),()),()),((v0.1,v0.2.1.1,v0.2.1.2,(),v0.2.2.2.1,v0.2.2.2.2.1,v0.2.2.2.2.2.1,v0.2.2.2.2.2.2.1,v0.2.2.2.2.2.2.2.1,(),v0.2.2.2.2.2.2.2.2.2.1,v0.2.2.2.2.2.2.2.2.2.2.1,v0.2.2.2.2.2.2.2.2.2.2.2,()),()),(v0.2.2.1,v0.2.2.2.2.2.2.2.2.1,()))
abbrev yAz (v0:dA):(ygv).X:=((((),()),()),((v0.1,v0.2.1.1,v0.2.1.2,(),v0.2.2.2.1,v0.2.2.2.2.1,v0.2.2.2.2.2.1,v0.2.2.2.2.2.2.1,v0.2.2.2.2.2.2.2.1,(),v0.2.2.2.2.2.2.2.2.2.1,v0.2.2.2.2.2.2.2.2.2.2.1,v0.2.2.2.2.2.2.2.2.2.2.2,()),()),(v0.2.2.1,v0.2.2.2.2.2.2.2.2.1,()))
def ypE (v0 v1 v2 v3 v4 v5 v6 v7 v8 v9:Int) (v10 v11:Bool) (v12:List dM) (v13:List dW):Option ((ycK).X ⊕ ((ygv).X ⊕ (ykm).X)) :=bif(ltb v0 (v12.length:Int))then let r3:=yl (v1,v8,v0,v2,v3,v7,v4,v5);bnd (yeX (v1,(v2,v3),v12,v4,v5,v6,v7,v8,v13,v9,v10,v11) v0 (v8.tmod 2) r3) fun r4 =>some (.inl ((((),()),((i64.wrap (v0+1)),()),()),((r4.2.1.1,r4.2.1.2.1.1,r4.2.1.2.1.2,(),r4.2.1.2.2.2.1,r4.2.1.2.2.2.2.1,r4.2.1.2.2.2.2.2.1,r4.2.1.2.2.2.2.2.2.1,r4.2.1.2.2.2.2.2.2.2.1,(),r4.2.1.2.2.2.2.2.2.2.2.2.1,r4.2.1.2.2.2.2.2.2.2.2.2.2.1,r4.2.1.2.2.2.2.2.2.2.2.2.2.2,()),()),(r4.2.1.2.2.1,r4.2.1.2.2.2.2.2.2.2.2.1,()))) else some (.inr (.inl ((((),()),()),((v1,v2,v3,(),v4,v5,v6,v7,v8,(),v9,v10,v11,()),()),(v12,v13,()))))
def yc6 (x:(ycK).X):=ypE x.1.2.1.1 x.2.1.1.1 x.2.1.1.2.1 x.2.1.1.2.2.1 x.2.1.1.2.2.2.2.1 x.2.1.1.2.2.2.2.2.1 x.2.1.1.2.2.2.2.2.2.1 x.2.1.1.2.2.2.2.2.2.2.1 x.2.1.1.2.2.2.2.2.2.2.2.1 x.2.1.1.2.2.2.2.2.2.2.2.2.2.1 x.2.1.1.2.2.2.2.2.2.2.2.2.2.2.1 x.2.1.1.2.2.2.2.2.2.2.2.2.2.2.2.1 x.2.2.1 x.2.2.2.1
def yAk (x:(ygG).X):(ycK).X:=((((),()),(0,()),()),((x.2.1.1.1,x.2.1.1.2.1,x.2.1.1.2.2.1,(),x.2.1.1.2.2.2.2.1,x.2.1.1.2.2.2.2.2.1,x.2.1.1.2.2.2.2.2.2.1,x.2.1.1.2.2.2.2.2.2.2.1,x.2.1.1.2.2.2.2.2.2.2.2.1,(),x.2.1.1.2.2.2.2.2.2.2.2.2.2.1,x.2.1.1.2.2.2.2.2.2.2.2.2.2.2.1,x.2.1.1.2.2.2.2.2.2.2.2.2.2.2.2.1,()),()),(x.2.2.1,x.2.2.2.1,()))
def yCe:Code:=(zeJ yp2 64 52).getD .skip
theorem yNG:zeJ yp2 64 13=some (.block 0 (.loop yCe)):=by kernel_rfl
theorem yQu (x:(ycK).X):zhu ⟨yyi,63,yDV⟩ 0 yCe 52 ycK ygv ykm x=yc6 x:=by kernel_rfl
def yAv (x:(ygG).X):Nat:=18446744073709551616
def yqK (x:(ygG).X):Option ((ygv).X ⊕ (ykm).X):=zF yc6 (yAv x) (yAk x)
def yAP:Seg:=⟨ygG,ygv,ykm,yqK⟩
def yQZ:Nat→Option Seg:=fun q=>bif Nat.beq q 13 then some yAP else yDV q
theorem yOA:FrOk prog ⟨yyi,63,yQZ⟩ yp2:=(yOz).loop (sg:=yAP) ycK yAk (by decide) yNG yc6 yAv (by decide) (fun _=>rfl) (fun x r _ h=>h) yQu
abbrev yqi:List Par:= [.pt tA (.pr .fz (.pr (.pr .fz .fz) (.pr (.ow (.pr (.ow .fz) (.pr (.ow (.pr .fz .fz)) (.pr .fz (.ow .fz))))) (.pr .fz (.pr .fz (.pr .fz (.pr .fz (.pr .fz (.pr (.ow (.pr .fz .fz)) (.pr .fz (.pr .fz .fz)))))))))))]
abbrev yza:List OT:= []
def yus (a0:dA):Option (zaY yza×zak yqi) :=zkr (yqK ((((),()),((),()),()),((a0.1,a0.2.1.1,a0.2.1.2,(),a0.2.2.2.1,a0.2.2.2.2.1,a0.2.2.2.2.2.1,a0.2.2.2.2.2.2.1,(i64.wrap (a0.2.2.2.2.2.2.2.1+1)),(),a0.2.2.2.2.2.2.2.2.2.1,a0.2.2.2.2.2.2.2.2.2.2.1,a0.2.2.2.2.2.2.2.2.2.2.2,()),()),(a0.2.2.1,a0.2.2.2.2.2.2.2.2.1,()))) (fun y4 =>let r6:=ydX (y4.2.1.1.1,(y4.2.1.1.2.1,y4.2.1.1.2.2.1),y4.2.2.1,y4.2.1.1.2.2.2.2.1,y4.2.1.1.2.2.2.2.2.1,y4.2.1.1.2.2.2.2.2.2.1,y4.2.1.1.2.2.2.2.2.2.2.1,y4.2.1.1.2.2.2.2.2.2.2.2.1,y4.2.2.2.1,y4.2.1.1.2.2.2.2.2.2.2.2.2.2.1,y4.2.1.1.2.2.2.2.2.2.2.2.2.2.2.1,y4.2.1.1.2.2.2.2.2.2.2.2.2.2.2.2.1);some ((),(r6,()))) (fun y4 =>none)
theorem yTA:ConOk prog 174 ⟨yqi,yza,fun x=>yus x.1⟩:=zkG (yOA) func174 ntmps174.symm fun x=>by kernel_rfl
def ya0 (a0:dA):dA:=yy a0
theorem yM5 (a:dA) (i:Nat):(y9 a i).2.2.1.length=a.2.2.1.length:=you _ _ _ _
theorem yVQ (a0:dA) (hk:zjw yqi (a0,())):yus a0=(fun n=>some ((),(n,()))) (ya0 a0):=by
 have hb:a0.2.2.1.length*80≤2^47:=hk.1.2.2.1.1
 have h1:yqK (yL5 (yaq a0))=some (.inl (yAz ((List.range a0.2.2.1.length).foldl y9 (yaq a0)))) :=
  zkB (step:=yc6) a0.2.2.1.length (fun i s=>yo6 i s) y9 (fun _ s=>s.2.2.1.length=a0.2.2.1.length) (fun s=> .inl (yAz s)) (fun i s hi hs=>⟨by
   simp only[yc6,yo6,ypE,hs,zkw (show(i:Int)<a0.2.2.1.length by omega),cond_true,wq ((i:Int)+1) (by omega) (by omega),Int.natCast_add,Int.natCast_one,Int.toNat_natCast,zkV];rw[yle s i (s.2.2.2.2.2.2.2.1.tmod 2) (yl (s.1,s.2.2.2.2.2.2.2.1,(i:Int),s.2.1.1,s.2.1.2,s.2.2.2.2.2.2.1,s.2.2.2.1,s.2.2.2.2.1)) (zkP (by rw[hs]; exact hi))]
   rfl,(yM5 s i).trans hs⟩) (fun s hs=>by simp only[yc6,yo6,ypE,hs,zk1 (Int.le_refl _),cond_false]) (yaq a0) rfl _ (by show _<18446744073709551616; omega)
 unfold yus ya0 yy;exact(congrArg (fun z=>zkr z _ _) h1).trans rfl
def ymr:Con:=⟨yqi,yza,fun x=>(fun n=>some ((),(n,()))) (ya0 x.1)⟩
theorem ywn:ConOk prog 174 ymr:=(yTA).mono (fun x r hk h=>(yVQ x.1 hk).trans h)
def ylK:Code:=(f107.body).getD .skip
def ysi:Env:=zku TT [(139,yie),(165,yiX),(172,yzX),(173,yCl)] []
theorem yIO:FrOk prog ⟨ysi,37,fun _=>none⟩ ylK:=zky yg yh ⟨yo9,yrb,yP3,yTI,trivial⟩
def yzv:Nat→Option Seg:=fun _=>none
def ybs:Shape:=⟨[(0,false,[.ptr 1000000000 0]),(15,false,[.int .i64]),(16,false,[.int .i64])],[(1000000000,[.int .i64,.int .i64,.int .i64,.at 800000000,.int .i64,.int .i64,.int .i64,.int .i64,.int .i64,.at 800000001,.int .i64,.bool,.bool])],[(800000000,tM,(.pr (.ow (.ow .fz)) (.pr (.ow (.pr .fz (.ow .fz))) (.pr .fz (.ow .fz))))),(800000001,tW,(.pr .fz (.ow .fz)))]⟩
def yeI:Shape:=⟨[(0,false,[.ptr 1000000000 0]),(15,false,[.int .i64]),(16,false,[.ci .i64 0])],[(1000000000,[.int .i64,.int .i64,.int .i64,.at 800000000,.int .i64,.int .i64,.int .i64,.int .i64,.int .i64,.at 800000001,.int .i64,.bool,.bool])],[(800000000,tM,(.pr (.ow (.ow .fz)) (.pr (.ow (.pr .fz (.ow .fz))) (.pr .fz (.ow .fz))))),(800000001,tW,(.pr .fz (.ow .fz)))]⟩
def yeA:Shape:=⟨[(0,false,[.ptr 1000000000 0])],[(1000000000,[.int .i64,.int .i64,.int .i64,.at 800000000,.int .i64,.int .i64,.int .i64,.int .i64,.int .i64,.at 800000001,.int .i64,.bool,.bool])],[(800000000,tM,(.pr (.ow (.ow .fz)) (.pr (.ow (.pr .fz (.ow .fz))) (.pr .fz (.ow .fz))))),(800000001,tW,(.pr .fz (.ow .fz)))]⟩
def yeQ:Shape:=⟨[(2,false,[.bool])],[(1000000000,[.int .i64,.int .i64,.int .i64,.at 800000000,.int .i64,.int .i64,.int .i64,.int .i64,.int .i64,.at 800000001,.int .i64,.bool,.bool])],[(800000000,tM,(.pr (.ow (.ow .fz)) (.pr (.ow (.pr .fz (.ow .fz))) (.pr .fz (.ow .fz))))),(800000001,tW,(.pr .fz (.ow .fz)))]⟩
abbrev ylr (v0 v1:Int) (v2:dA):(ybs).X:=((((),()),(v0,()),(v1,()),()),((v2.1,v2.2.1.1,v2.2.1.2,(),v2.2.2.2.1,v2.2.2.2.2.1,v2.2.2.2.2.2.1,v2.2.2.2.2.2.2.1,v2.2.2.2.2.2.2.2.1,(),v2.2.2.2.2.2.2.2.2.2.1,v2.2.2.2.2.2.2.2.2.2.2.1,v2.2.2.2.2.2.2.2.2.2.2.2,()),()),(v2.2.2.1,v2.2.2.2.2.2.2.2.2.1,()))
abbrev yH3 (v0:Int) (v1:dA):(yeI).X:=((((),()),(v0,()),((),()),()),((v1.1,v1.2.1.1,v1.2.1.2,(),v1.2.2.2.1,v1.2.2.2.2.1,v1.2.2.2.2.2.1,v1.2.2.2.2.2.2.1,v1.2.2.2.2.2.2.2.1,(),v1.2.2.2.2.2.2.2.2.2.1,v1.2.2.2.2.2.2.2.2.2.2.1,v1.2.2.2.2.2.2.2.2.2.2.2,()),()),(v1.2.2.1,v1.2.2.2.2.2.2.2.2.1,()))
abbrev ylx (v0:dA):(yeA).X:=((((),()),()),((v0.1,v0.2.1.1,v0.2.1.2,(),v0.2.2.2.1,v0.2.2.2.2.1,v0.2.2.2.2.2.1,v0.2.2.2.2.2.2.1,v0.2.2.2.2.2.2.2.1,(),v0.2.2.2.2.2.2.2.2.2.1,v0.2.2.2.2.2.2.2.2.2.2.1,v0.2.2.2.2.2.2.2.2.2.2.2,()),()),(v0.2.2.1,v0.2.2.2.2.2.2.2.2.1,()))
abbrev ylz (v0:Bool) (v1:dA):(yeQ).X:=(((v0,()),()),((v1.1,v1.2.1.1,v1.2.1.2,(),v1.2.2.2.1,v1.2.2.2.2.1,v1.2.2.2.2.2.1,v1.2.2.2.2.2.2.1,v1.2.2.2.2.2.2.2.1,(),v1.2.2.2.2.2.2.2.2.2.1,v1.2.2.2.2.2.2.2.2.2.2.1,v1.2.2.2.2.2.2.2.2.2.2.2,()),()),(v1.2.2.1,v1.2.2.2.2.2.2.2.2.1,()))
def ylC (v0 v1 v2 v3 v4 v5 v6 v7 v8 v9 v10:Int) (v11 v12:Bool) (v13:List dM) (v14:List dW):Option ((ybs).X ⊕ ((yeA).X ⊕ (yeQ).X)) :=bif(ltb v1 v0)then let r4:=yoj (v2,(v3,v4),v13,v5,v6,v7,v8,v9,v14,v10,v11,v12) v1;let r5:=yio r4;bnd (yep (v2,(v3,v4),v13,v5,v6,v7,v8,v9,v14,v10,v11,v12) v1 (v9.tmod 2) r5) fun r6 =>bif(!r6.1.1)then some (.inr (.inr (((false,()),()),((r6.2.1.1,r6.2.1.2.1.1,r6.2.1.2.1.2,(),r6.2.1.2.2.2.1,r6.2.1.2.2.2.2.1,r6.2.1.2.2.2.2.2.1,r6.2.1.2.2.2.2.2.2.1,r6.2.1.2.2.2.2.2.2.2.1,(),r6.2.1.2.2.2.2.2.2.2.2.2.1,r6.2.1.2.2.2.2.2.2.2.2.2.2.1,r6.2.1.2.2.2.2.2.2.2.2.2.2.2,()),()),(r6.2.1.2.2.1,r6.2.1.2.2.2.2.2.2.2.2.1,())))) else some (.inl ((((),()),(v0,()),((i64.wrap (v1+1)),()),()),((r6.2.1.1,r6.2.1.2.1.1,r6.2.1.2.1.2,(),r6.2.1.2.2.2.1,r6.2.1.2.2.2.2.1,r6.2.1.2.2.2.2.2.1,r6.2.1.2.2.2.2.2.2.1,r6.2.1.2.2.2.2.2.2.2.1,(),r6.2.1.2.2.2.2.2.2.2.2.2.1,r6.2.1.2.2.2.2.2.2.2.2.2.2.1,r6.2.1.2.2.2.2.2.2.2.2.2.2.2,()),()),(r6.2.1.2.2.1,r6.2.1.2.2.2.2.2.2.2.2.1,()))) else some (.inr (.inl ((((),()),()),((v2,v3,v4,(),v5,v6,v7,v8,v9,(),v10,v11,v12,()),()),(v13,v14,()))))
def ybG (x:(ybs).X):=ylC x.1.2.1.1 x.1.2.2.1.1 x.2.1.1.1 x.2.1.1.2.1 x.2.1.1.2.2.1 x.2.1.1.2.2.2.2.1 x.2.1.1.2.2.2.2.2.1 x.2.1.1.2.2.2.2.2.2.1 x.2.1.1.2.2.2.2.2.2.2.1 x.2.1.1.2.2.2.2.2.2.2.2.1 x.2.1.1.2.2.2.2.2.2.2.2.2.2.1 x.2.1.1.2.2.2.2.2.2.2.2.2.2.2.1 x.2.1.1.2.2.2.2.2.2.2.2.2.2.2.2.1 x.2.2.1 x.2.2.2.1
def yuO (x:(yeI).X):(ybs).X:=((((),()),(x.1.2.1.1,()),(0,()),()),((x.2.1.1.1,x.2.1.1.2.1,x.2.1.1.2.2.1,(),x.2.1.1.2.2.2.2.1,x.2.1.1.2.2.2.2.2.1,x.2.1.1.2.2.2.2.2.2.1,x.2.1.1.2.2.2.2.2.2.2.1,x.2.1.1.2.2.2.2.2.2.2.2.1,(),x.2.1.1.2.2.2.2.2.2.2.2.2.2.1,x.2.1.1.2.2.2.2.2.2.2.2.2.2.2.1,x.2.1.1.2.2.2.2.2.2.2.2.2.2.2.2.1,()),()),(x.2.2.1,x.2.2.2.1,()))
def yw1:Code:=(zeJ ylK 64 116).getD .skip
theorem yIw:zeJ ylK 64 29=some (.block 0 (.loop yw1)):=by kernel_rfl
theorem yKb (x:(ybs).X):zhu ⟨ysi,37,yzv⟩ 0 yw1 116 ybs yeA yeQ x=ybG x:=by kernel_rfl
def yuX (x:(yeI).X):Nat:=18446744073709551616
def ymE (x:(yeI).X):Option ((yeA).X ⊕ (yeQ).X):=zF ybG (yuX x) (yuO x)
def yvd:Seg:=⟨yeI,yeA,yeQ,ymE⟩
def yKL:Nat→Option Seg:=fun q=>bif Nat.beq q 29 then some yvd else yzv q
theorem yIP:FrOk prog ⟨ysi,37,yKL⟩ ylK:=(yIO).loop (sg:=yvd) ybs yuO (by decide) yIw ybG yuX (by decide) (fun _=>rfl) (fun x r _ h=>h) yKb
abbrev yho:List Par:= [.pt tA (.pr .fz (.pr (.pr .fz .fz) (.pr (.ow (.pr (.ow (.ow .fz)) (.pr (.ow (.pr .fz (.ow .fz))) (.pr .fz (.ow .fz))))) (.pr .fz (.pr .fz (.pr .fz (.pr .fz (.pr .fz (.pr (.ow (.pr .fz (.ow .fz))) (.pr .fz (.pr .fz .fz)))))))))))]
abbrev yma:List OT:= [⟨false,tB,.fz⟩]
def ypb (a0:dA):Option (zaY yma×zak yho) :=zkr (ymE ((((),()),((a0.2.2.1.length:Int),()),((),()),()),((a0.1,a0.2.1.1,a0.2.1.2,(),a0.2.2.2.1,a0.2.2.2.2.1,a0.2.2.2.2.2.1,a0.2.2.2.2.2.2.1,(i64.wrap (a0.2.2.2.2.2.2.2.1+1)),(),a0.2.2.2.2.2.2.2.2.2.1,a0.2.2.2.2.2.2.2.2.2.2.1,a0.2.2.2.2.2.2.2.2.2.2.2,()),()),(a0.2.2.1,a0.2.2.2.2.2.2.2.2.1,()))) (fun y6 =>bnd (yfc (y6.2.1.1.1,(y6.2.1.1.2.1,y6.2.1.1.2.2.1),y6.2.2.1,y6.2.1.1.2.2.2.2.1,y6.2.1.1.2.2.2.2.2.1,y6.2.1.1.2.2.2.2.2.2.1,y6.2.1.1.2.2.2.2.2.2.2.1,y6.2.1.1.2.2.2.2.2.2.2.2.1,y6.2.2.2.1,y6.2.1.1.2.2.2.2.2.2.2.2.2.2.1,y6.2.1.1.2.2.2.2.2.2.2.2.2.2.2.1,y6.2.1.1.2.2.2.2.2.2.2.2.2.2.2.2.1)) fun r8 =>some ((r8.1.1,()),(r8.2.1,()))) (fun y6 =>some ((y6.1.1.1,()),((y6.2.1.1.1,(y6.2.1.1.2.1,y6.2.1.1.2.2.1),y6.2.2.1,y6.2.1.1.2.2.2.2.1,y6.2.1.1.2.2.2.2.2.1,y6.2.1.1.2.2.2.2.2.2.1,y6.2.1.1.2.2.2.2.2.2.2.1,y6.2.1.1.2.2.2.2.2.2.2.2.1,y6.2.2.2.1,y6.2.1.1.2.2.2.2.2.2.2.2.2.2.1,y6.2.1.1.2.2.2.2.2.2.2.2.2.2.2.1,y6.2.1.1.2.2.2.2.2.2.2.2.2.2.2.2.1),())))
theorem yMf:ConOk prog 107 ⟨yho,yma,fun x=>ypb x.1⟩:=zkG (yIP) func107 ntmps107.symm fun x=>by kernel_rfl
def ymu (a0:dA):Bool×dA:=(!(ya (yy a0)),yy a0)
def yix (a0:dA):Bool:= !(ya a0)
theorem yZP {a:dA} (i:Nat) (h:ya a=true):y9 a i=a:=yni h _ _ _
theorem yPa (a0:dA) (hk:zjw yho (a0,())) (hq:yix a0=true):ypb a0=(fun n=>some ((n.1,()),(n.2,()))) (ymu a0):=by
 have hb:a0.2.2.1.length*80≤2^47:=hk.1.2.2.1.1;have hd0:ya a0=false:=by simpa [yix]using hq
 have h1:ymE (yH3 a0.2.2.1.length (yaq a0))=some (bif ya ((List.range a0.2.2.1.length).foldl y9 (yaq a0))then .inr (ylz false ((List.range a0.2.2.1.length).foldl y9 (yaq a0)))else .inl (ylx ((List.range a0.2.2.1.length).foldl y9 (yaq a0)))):=by
  have:=zkA (step:=ybG) a0.2.2.1.length (fun i s=>ylr a0.2.2.1.length i s) (fun i s=>bif ya (y9 s i)then(.inr (y9 s i):dA ⊕ dA)else .inl (y9 s i)) (fun _ s=>s.2.2.1.length=a0.2.2.1.length∧ya s=false) id
   (fun b=>bif ya b then .inr (ylz false b)else .inl (ylx b)) (fun i s hi hs=>by
    constructor
    ·simp only[ybG,ylr,ylC,zkw (show(i:Int)<a0.2.2.1.length by omega),cond_true,wq ((i:Int)+1) (by omega) (by omega),Int.natCast_add,Int.natCast_one,Int.toNat_natCast,zkV,y0r,yoj]
     rw[ypa s i (s.2.2.2.2.2.2.2.1.tmod 2) (yl (s.1,s.2.2.2.2.2.2.2.1,(i:Int),s.2.1.1,s.2.1.2,s.2.2.2.2.2.2.1,s.2.2.2.1,s.2.2.2.2.1)) (by unfold ycO; rw[zkP (by rw[hs.1]; exact hi),hs.2]; rfl)];simp only[zkF,ycM];rw[show ybk s i (s.2.2.2.2.2.2.2.1.tmod 2) (yl (s.1,s.2.2.2.2.2.2.2.1,(i:Int),s.2.1.1,s.2.1.2,s.2.2.2.2.2.2.1,s.2.2.2.1,s.2.2.2.2.1))=y9 s i from rfl];cases hd:ya (y9 s i)
     ·rfl
     ·simp only[hd,Bool.not_true,Bool.not_false,cond_true,ylz]
    ·intro s' h
     cases hd:ya (y9 s i)
     ·rw[hd]at h
      cases h;exact⟨(yM5 s i).trans hs.1,hd⟩
     ·rw[hd]at h; cases h) (fun s hs=>by simp only[ybG,ylr,ylC,hs.2,zk1 (Int.le_refl _),cond_false,id,ylx]) (yaq a0) ⟨rfl,hd0⟩ 18446744073709551616 (by omega)
  rw[yC2 (fun a i h=>yZP i h),← List.range_eq_range']at this;exact this
 unfold ypb ymu yy;refine(congrArg (fun z=>zkr z _ _) h1).trans ?_;cases hd:ya ((List.range a0.2.2.1.length).foldl y9 (yaq a0))
 ·simp only[cond_false,zkL,zkV]
  rw[yrc _ (by unfold yfd; rw[hd]; rfl)]; rfl
 ·rw[yr2 hd]
  simp only[cond_true,zkM,zkV];rw[hd]; rfl
def yiv (a0:dA):Option (zaY yma×zak yho):=bif yix a0 then(fun n=>some ((n.1,()),(n.2,()))) (ymu a0)else none
theorem yQg (a0:dA) (h:yix a0=true):yiv a0=(fun n=>some ((n.1,()),(n.2,()))) (ymu a0):=by unfold yiv; rw[h]; rfl
def yzS:Con:=⟨yho,yma,fun x=>yiv x.1⟩
theorem yPY:ConOk prog 107 yzS:=(yMf).mono (fun x r hk h=>zkW h (fun hq=>yPa x.1 hk hq))
def yNc:Code:=(f99.body).getD .skip
def yNs:Env:=zku TT [(107,yzS),(165,yiX)] []
theorem yHR:FrOk prog ⟨yNs,15,fun _=>none⟩ yNc:=zky yg yh ⟨yPY,yrb,trivial⟩
abbrev ygi:List Par:= [.pt tA (.pr .fz (.pr (.pr .fz .fz) (.pr (.ow (.pr (.ow (.ow .fz)) (.pr (.ow (.pr .fz (.ow .fz))) (.pr .fz (.ow .fz))))) (.pr .fz (.pr .fz (.pr .fz (.pr .fz (.pr .fz (.pr (.ow (.pr .fz (.ow .fz))) (.pr .fz (.pr .fz .fz)))))))))))]
abbrev ykd:List OT:= [⟨false,tB,.fz⟩]
def ynk (a0:dA):Option (zaY ykd×zak ygi) :=bnd (yfc a0) fun r1 =>bif(!r1.1.1)then some ((false,()),(r1.2.1,())) else bnd (yiv (r1.2.1.1,r1.2.1.2.1,r1.2.1.2.2.1,r1.2.1.2.2.2.1,r1.2.1.2.2.2.2.1,r1.2.1.2.2.2.2.2.1,r1.2.1.2.2.2.2.2.1,r1.2.1.2.2.2.2.2.2.2)) fun r2 =>some ((r2.1.1,()),(r2.2.1,()))
theorem yJX:ConOk prog 99 ⟨ygi,ykd,fun x=>ynk x.1⟩:=zkG (yHR) func99 ntmps99.symm fun x=>by kernel_rfl
def ykx (a0:dA):Bool×dA:=(!(ya (yo a0)),yo a0)
def ykA (a0:dA):Bool:= !(ya a0)
theorem yL9 (a0:dA) (hk:zjw ygi (a0,())) (hq:ykA a0=true):ynk a0=(fun n=>some ((n.1,()),(n.2,()))) (ykx a0):=by
 unfold ynk ykx yo;rw[yrc a0 hq];simp only[zkF,yik];cases hd:ya (yd a0)
 ·have hm:yiv (yQ (yd a0))=some ((!(ya (yy (yQ (yd a0)))),()),(yy (yQ (yd a0)),())):=yQg (yQ (yd a0)) (by unfold yix; rw[show ya (yQ (yd a0))=ya (yd a0)from rfl,hd]; rfl)
  exact(congrArg (fun z=>bnd z _) hm).trans rfl
 ·simp only[Bool.not_true,Bool.not_false,cond_true]
  rw[hd]; rfl
def ykz (a0:dA):Option (zaY ykd×zak ygi):=bif ykA a0 then(fun n=>some ((n.1,()),(n.2,()))) (ykx a0)else none
theorem yMI (a0:dA) (h:ykA a0=true):ykz a0=(fun n=>some ((n.1,()),(n.2,()))) (ykx a0):=by unfold ykz; rw[h]; rfl
def yxb:Con:=⟨ygi,ykd,fun x=>ykz x.1⟩
theorem yME:ConOk prog 99 yxb:=(yJX).mono (fun x r hk h=>zkW h (fun hq=>yL9 x.1 hk hq))
def ypW:Code:=(f28.body).getD .skip
def yyc:Env:=zku TT [(23,yCh),(95,yqQ),(96,yzZ),(97,yuL),(98,yxc),(99,yxb)] []
theorem yNU:FrOk prog ⟨yyc,50,fun _=>none⟩ ypW:=zky yg yh ⟨yTE,yEQ,yP5,yJ3,yMF,yME,trivial⟩
def yDN:Nat→Option Seg:=fun _=>none
def ycA:Shape:=⟨[(2,false,[.ptr 64 0]),(3,false,[.ptr 4224 0]),(16,false,[.int .i64])],[(64,[.int .i64,.int .i64,.int .i64,.nil,.int .i64,.int .i64,.int .i64,.int .i64,.int .i64,.nil,.int .i64,.bool,.bool]),(4224,[.int .i64,.int .i64,.int .i64,.at 800000000,.int .i64,.int .i64,.int .i64,.int .i64,.int .i64,.at 800000001,.int .i64,.bool,.bool])],[(800000000,tM,(.pr (.ow (.ow .fz)) (.pr (.ow (.pr .fz (.ow .fz))) (.pr .fz (.ow .fz))))),(800000001,tW,(.pr .fz (.ow .fz)))]⟩
def ygw:Shape:=⟨[(2,false,[.ptr 64 0]),(3,false,[.ptr 4224 0]),(16,false,[.ci .i64 0])],[(64,[.int .i64,.int .i64,.int .i64,.nil,.int .i64,.int .i64,.int .i64,.int .i64,.int .i64,.nil,.int .i64,.bool,.bool]),(4224,[.int .i64,.int .i64,.int .i64,.at 800000000,.int .i64,.int .i64,.int .i64,.int .i64,.int .i64,.at 800000001,.int .i64,.bool,.bool])],[(800000000,tM,(.pr (.ow (.ow .fz)) (.pr (.ow (.pr .fz (.ow .fz))) (.pr .fz (.ow .fz))))),(800000001,tW,(.pr .fz (.ow .fz)))]⟩
def ygl:Shape:=⟨[(2,false,[.ptr 64 0]),(3,false,[.ptr 4224 0])],[(64,[.int .i64,.int .i64,.int .i64,.nil,.int .i64,.int .i64,.int .i64,.int .i64,.int .i64,.nil,.int .i64,.bool,.bool]),(4224,[.int .i64,.int .i64,.int .i64,.at 800000000,.int .i64,.int .i64,.int .i64,.int .i64,.int .i64,.at 800000001,.int .i64,.bool,.bool])],[(800000000,tM,(.pr (.ow (.ow .fz)) (.pr (.ow (.pr .fz (.ow .fz))) (.pr .fz (.ow .fz))))),(800000001,tW,(.pr .fz (.ow .fz)))]⟩
def ygH:Shape:=⟨[(2,false,[.ptr 64 0])],[(64,[.int .i64,.int .i64,.int .i64,.at 800000000,.int .i64,.int .i64,.int .i64,.int .i64,.int .i64,.at 800000001,.int .i64,.bool,.bool])],[(800000000,tM,(.pr (.ow (.ow .fz)) (.pr (.ow (.pr .fz (.ow .fz))) (.pr .fz (.ow .fz))))),(800000001,tW,(.pr .fz (.ow .fz)))]⟩
abbrev yoY (v0:Int) (v1 v2:dA):(ycA).X:=((((),()),((),()),(v0,()),()),((v1.1,v1.2.1.1,v1.2.1.2,(),v1.2.2.2.1,v1.2.2.2.2.1,v1.2.2.2.2.2.1,v1.2.2.2.2.2.2.1,v1.2.2.2.2.2.2.2.1,(),v1.2.2.2.2.2.2.2.2.2.1,v1.2.2.2.2.2.2.2.2.2.2.1,v1.2.2.2.2.2.2.2.2.2.2.2,()),(v2.1,v2.2.1.1,v2.2.1.2,(),v2.2.2.2.1,v2.2.2.2.2.1,v2.2.2.2.2.2.1,v2.2.2.2.2.2.2.1,v2.2.2.2.2.2.2.2.1,(),v2.2.2.2.2.2.2.2.2.2.1,v2.2.2.2.2.2.2.2.2.2.2.1,v2.2.2.2.2.2.2.2.2.2.2.2,()),()),(v2.2.2.1,v2.2.2.2.2.2.2.2.2.1,()))
abbrev yLW (v0 v1:dA):(ygw).X:=((((),()),((),()),((),()),()),((v0.1,v0.2.1.1,v0.2.1.2,(),v0.2.2.2.1,v0.2.2.2.2.1,v0.2.2.2.2.2.1,v0.2.2.2.2.2.2.1,v0.2.2.2.2.2.2.2.1,(),v0.2.2.2.2.2.2.2.2.2.1,v0.2.2.2.2.2.2.2.2.2.2.1,v0.2.2.2.2.2.2.2.2.2.2.2,()),(v1.1,v1.2.1.1,v1.2.1.2,(),v1.2.2.2.1,v1.2.2.2.2.1,v1.2.2.2.2.2.1,v1.2.2.2.2.2.2.1,v1.2.2.2.2.2.2.2.1,(),v1.2.2.2.2.2.2.2.2.2.1,v1.2.2.2.2.2.2.2.2.2.2.1,v1.2.2.2.2.2.2.2.2.2.2.2,()),()),(v1.2.2.1,v1.2.2.2.2.2.2.2.2.1,()))
abbrev yLQ (v0 v1:dA):(ygl).X:=((((),()),((),()),()),((v0.1,v0.2.1.1,v0.2.1.2,(),v0.2.2.2.1,v0.2.2.2.2.1,v0.2.2.2.2.2.1,v0.2.2.2.2.2.2.1,v0.2.2.2.2.2.2.2.1,(),v0.2.2.2.2.2.2.2.2.2.1,v0.2.2.2.2.2.2.2.2.2.2.1,v0.2.2.2.2.2.2.2.2.2.2.2,()),(v1.1,v1.2.1.1,v1.2.1.2,(),v1.2.2.2.1,v1.2.2.2.2.1,v1.2.2.2.2.2.1,v1.2.2.2.2.2.2.1,v1.2.2.2.2.2.2.2.1,(),v1.2.2.2.2.2.2.2.2.2.1,v1.2.2.2.2.2.2.2.2.2.2.1,v1.2.2.2.2.2.2.2.2.2.2.2,()),()),(v1.2.2.1,v1.2.2.2.2.2.2.2.2.1,()))
abbrev yo8 (v0:dA):(ygH).X:=((((),()),()),((v0.1,v0.2.1.1,v0.2.1.2,(),v0.2.2.2.1,v0.2.2.2.2.1,v0.2.2.2.2.2.1,v0.2.2.2.2.2.2.1,v0.2.2.2.2.2.2.2.1,(),v0.2.2.2.2.2.2.2.2.2.1,v0.2.2.2.2.2.2.2.2.2.2.1,v0.2.2.2.2.2.2.2.2.2.2.2,()),()),(v0.2.2.1,v0.2.2.2.2.2.2.2.2.1,()))
def ypv (v0 v1 v2 v3 v4 v5 v6 v7 v8 v9:Int) (v10 v11:Bool) (v12 v13 v14 v15 v16 v17 v18 v19 v20:Int) (v21 v22:Bool) (v23:List dM) (v24:List dW):Option ((ycA).X ⊕ ((ygl).X ⊕ (ygH).X)) :=bif(ltb v0 4)then bnd (yop (v12,(v13,v14),v23,v15,v16,v17,v18,v19,v24,v20,v21,v22) v17) fun r6 =>bif(!(!r6.1.2.1))then bif(leb 60000 v17)then some (.inr (.inl ((((),()),((),()),()),((v1,v2,v3,(),v4,v5,v6,v7,v8,(),v9,v10,v11,()),(v12,v13,v14,(),v15,v16,v17,v18,v19,(),v20,v21,v22,()),()),(v23,v24,())))) else bnd (yfX (v12,(v13,v14),v23,v15,v16,v17,v18,v19,v24,v20,v21,v22) r6.1.1) fun r7 =>bif(!r7.1.1)then some (.inr (.inr ((((),()),()),((r7.2.1.1,r7.2.1.2.1.1,r7.2.1.2.1.2,(),r7.2.1.2.2.2.1,r7.2.1.2.2.2.2.1,r7.2.1.2.2.2.2.2.1,r7.2.1.2.2.2.2.2.2.1,r7.2.1.2.2.2.2.2.2.2.1,(),r7.2.1.2.2.2.2.2.2.2.2.2.1,r7.2.1.2.2.2.2.2.2.2.2.2.2.1,r7.2.1.2.2.2.2.2.2.2.2.2.2.2,()),()),(r7.2.1.2.2.1,r7.2.1.2.2.2.2.2.2.2.2.1,())))) else bnd (ygV (r7.2.1.1,r7.2.1.2.1,r7.2.1.2.2.1,r7.2.1.2.2.2.1,r7.2.1.2.2.2.2.1,(i64.wrap (r7.2.1.2.2.2.2.2.1+1)),r7.2.1.2.2.2.2.2.2) r6.1.1.2.1 r6.1.1.2.2) fun r8 =>bif(!r8.1.1)then some (.inr (.inr ((((),()),()),((r8.2.1.1,r8.2.1.2.1.1,r8.2.1.2.1.2,(),r8.2.1.2.2.2.1,r8.2.1.2.2.2.2.1,r8.2.1.2.2.2.2.2.1,r8.2.1.2.2.2.2.2.2.1,r8.2.1.2.2.2.2.2.2.2.1,(),r8.2.1.2.2.2.2.2.2.2.2.2.1,r8.2.1.2.2.2.2.2.2.2.2.2.2.1,r8.2.1.2.2.2.2.2.2.2.2.2.2.2,()),()),(r8.2.1.2.2.1,r8.2.1.2.2.2.2.2.2.2.2.1,())))) else some (.inl ((((),()),((),()),((i64.wrap (v0+1)),()),()),((v1,v2,v3,(),v4,v5,v6,v7,v8,(),v9,v10,v11,()),(r8.2.1.1,r8.2.1.2.1.1,r8.2.1.2.1.2,(),r8.2.1.2.2.2.1,r8.2.1.2.2.2.2.1,r8.2.1.2.2.2.2.2.1,r8.2.1.2.2.2.2.2.2.1,r8.2.1.2.2.2.2.2.2.2.1,(),r8.2.1.2.2.2.2.2.2.2.2.2.1,r8.2.1.2.2.2.2.2.2.2.2.2.2.1,r8.2.1.2.2.2.2.2.2.2.2.2.2.2,()),()),(r8.2.1.2.2.1,r8.2.1.2.2.2.2.2.2.2.2.1,()))) else some (.inr (.inl ((((),()),((),()),()),((v1,v2,v3,(),v4,v5,v6,v7,v8,(),v9,v10,v11,()),(v12,v13,v14,(),v15,v16,v17,v18,v19,(),v20,v21,v22,()),()),(v23,v24,())))) else some (.inr (.inl ((((),()),((),()),()),((v1,v2,v3,(),v4,v5,v6,v7,v8,(),v9,v10,v11,()),(v12,v13,v14,(),v15,v16,v17,v18,v19,(),v20,v21,v22,()),()),(v23,v24,()))))
def ycX (x:(ycA).X):=ypv x.1.2.2.1.1 x.2.1.1.1 x.2.1.1.2.1 x.2.1.1.2.2.1 x.2.1.1.2.2.2.2.1 x.2.1.1.2.2.2.2.2.1 x.2.1.1.2.2.2.2.2.2.1 x.2.1.1.2.2.2.2.2.2.2.1 x.2.1.1.2.2.2.2.2.2.2.2.1 x.2.1.1.2.2.2.2.2.2.2.2.2.2.1 x.2.1.1.2.2.2.2.2.2.2.2.2.2.2.1 x.2.1.1.2.2.2.2.2.2.2.2.2.2.2.2.1 x.2.1.2.1.1 x.2.1.2.1.2.1 x.2.1.2.1.2.2.1 x.2.1.2.1.2.2.2.2.1 x.2.1.2.1.2.2.2.2.2.1 x.2.1.2.1.2.2.2.2.2.2.1 x.2.1.2.1.2.2.2.2.2.2.2.1 x.2.1.2.1.2.2.2.2.2.2.2.2.1 x.2.1.2.1.2.2.2.2.2.2.2.2.2.2.1 x.2.1.2.1.2.2.2.2.2.2.2.2.2.2.2.1 x.2.1.2.1.2.2.2.2.2.2.2.2.2.2.2.2.1 x.2.2.1 x.2.2.2.1
def yAa (x:(ygw).X):(ycA).X:=((((),()),((),()),(0,()),()),((x.2.1.1.1,x.2.1.1.2.1,x.2.1.1.2.2.1,(),x.2.1.1.2.2.2.2.1,x.2.1.1.2.2.2.2.2.1,x.2.1.1.2.2.2.2.2.2.1,x.2.1.1.2.2.2.2.2.2.2.1,x.2.1.1.2.2.2.2.2.2.2.2.1,(),x.2.1.1.2.2.2.2.2.2.2.2.2.2.1,x.2.1.1.2.2.2.2.2.2.2.2.2.2.2.1,x.2.1.1.2.2.2.2.2.2.2.2.2.2.2.2.1,()),(x.2.1.2.1.1,x.2.1.2.1.2.1,x.2.1.2.1.2.2.1,(),x.2.1.2.1.2.2.2.2.1,x.2.1.2.1.2.2.2.2.2.1,x.2.1.2.1.2.2.2.2.2.2.1,x.2.1.2.1.2.2.2.2.2.2.2.1,x.2.1.2.1.2.2.2.2.2.2.2.2.1,(),x.2.1.2.1.2.2.2.2.2.2.2.2.2.2.1,x.2.1.2.1.2.2.2.2.2.2.2.2.2.2.2.1,x.2.1.2.1.2.2.2.2.2.2.2.2.2.2.2.2.1,()),()),(x.2.2.1,x.2.2.2.1,()))
def yB4:Code:=(zeJ ypW 64 244).getD .skip
theorem yNw:zeJ ypW 64 61=some (.block 0 (.loop yB4)):=by kernel_rfl
theorem yQk (x:(ycA).X):zhu ⟨yyc,50,yDN⟩ 0 yB4 244 ycA ygl ygH x=ycX x:=by kernel_rfl
def yAl (x:(ygw).X):Nat:=18446744073709551616
def yqB (x:(ygw).X):Option ((ygl).X ⊕ (ygH).X):=zF ycX (yAl x) (yAa x)
def yAF:Seg:=⟨ygw,ygl,ygH,yqB⟩
def yQR:Nat→Option Seg:=fun q=>bif Nat.beq q 61 then some yAF else yDN q
theorem yNV:FrOk prog ⟨yyc,50,yQR⟩ ypW:=(yNU).loop (sg:=yAF) ycA yAa (by decide) yNw ycX yAl (by decide) (fun _=>rfl) (fun x r _ h=>h) yQk
abbrev yp9:List Par:= [.rd tA]
abbrev yyK:List OT:= [⟨false,tA,(.pr .fz (.pr (.pr .fz .fz) (.pr (.ow (.pr (.ow (.ow .fz)) (.pr (.ow (.pr .fz (.ow .fz))) (.pr .fz (.ow .fz))))) (.pr .fz (.pr .fz (.pr .fz (.pr .fz (.pr .fz (.pr (.ow (.pr .fz (.ow .fz))) (.pr .fz (.pr .fz .fz)))))))))))⟩]
def yuf (a0:dA):Option (zaY yyK×zak yp9) :=let r1:=yen a0;let r2:=ydy a0;bif(!(!r2))then bif a0.2.2.2.2.2.2.2.2.2.2.2 then some ((r1,()),()) else zkr (yqB ((((),()),((),()),((),()),()),((0,0,0,(),0,0,0,0,0,(),0,false,false,()),(r1.1,r1.2.1.1,r1.2.1.2,(),r1.2.2.2.1,r1.2.2.2.2.1,r1.2.2.2.2.2.1,r1.2.2.2.2.2.2.1,r1.2.2.2.2.2.2.2.1,(),r1.2.2.2.2.2.2.2.2.2.1,r1.2.2.2.2.2.2.2.2.2.2.1,r1.2.2.2.2.2.2.2.2.2.2.2,()),()),(r1.2.2.1,r1.2.2.2.2.2.2.2.2.1,()))) (fun y8 =>bnd (ykz (y8.2.1.2.1.1,(y8.2.1.2.1.2.1,y8.2.1.2.1.2.2.1),y8.2.2.1,y8.2.1.2.1.2.2.2.2.1,y8.2.1.2.1.2.2.2.2.2.1,y8.2.1.2.1.2.2.2.2.2.2.1,y8.2.1.2.1.2.2.2.2.2.2.2.1,y8.2.1.2.1.2.2.2.2.2.2.2.2.1,y8.2.2.2.1,y8.2.1.2.1.2.2.2.2.2.2.2.2.2.2.1,y8.2.1.2.1.2.2.2.2.2.2.2.2.2.2.2.1,y8.2.1.2.1.2.2.2.2.2.2.2.2.2.2.2.2.1)) fun r10 =>some ((r10.2.1,()),())) (fun y8 =>some (((y8.2.1.1.1,(y8.2.1.1.2.1,y8.2.1.1.2.2.1),y8.2.2.1,y8.2.1.1.2.2.2.2.1,y8.2.1.1.2.2.2.2.2.1,y8.2.1.1.2.2.2.2.2.2.1,y8.2.1.1.2.2.2.2.2.2.2.1,y8.2.1.1.2.2.2.2.2.2.2.2.1,y8.2.2.2.1,y8.2.1.1.2.2.2.2.2.2.2.2.2.2.1,y8.2.1.1.2.2.2.2.2.2.2.2.2.2.2.1,y8.2.1.1.2.2.2.2.2.2.2.2.2.2.2.2.1),()),())) else some ((r1,()),())
theorem yS5:ConOk prog 28 ⟨yp9,yyK,fun x=>yuf x.1⟩:=zkG (yNV) func28 ntmps28.symm fun x=>by kernel_rfl
def yhg (a0:dA):dA:=ylg a0
theorem y26 {α:Type} {c:Bool} (h:c=false) {x y:α}:(bif c then x else y)=y:=by subst h; rfl
theorem yU3 {α:Type} {c:Bool} (h:c=true) {x y:α}:(bif c then x else y)=x:=by subst h; rfl
theorem yVq (a0:dA) (hk:zjw yp9 (a0,())):yuf a0=(fun n=>some ((n,()),())) (yhg a0):=by
 unfold yuf yhg;simp only[yen];cases hm:(yal a0&&(!(ya a0)&&(!a0.2.2.2.2.2.2.2.2.2.2.2&&ltb a0.2.2.2.2.2.2.2.1 60000)))
 ·have hr:ylg a0=a0:=by unfold ylg; rw[hm]; rfl
  rw[hr];cases hmk:ydy a0
  ·rfl
  ·have:a0.2.2.2.2.2.2.2.2.2.2.2=true:=by
    unfold ydy at hmk;simp only[yaj]at hmk;unfold ya at hm;revert hm hmk;cases yal a0<;>cases a0.2.2.2.2.2.2.2.2.2.2.1<;>cases ltb a0.2.2.2.2.2.2.2.1 60000<;>cases a0.2.2.2.2.2.2.2.2.2.2.2<;>decide
   rw[yU3 (by rfl),yU3 this]
 ·have hr:ylg a0=yKm a0:=by unfold ylg; rw[hm]; rfl
  rw[hr];simp only[Bool.and_eq_true,Bool.not_eq_true']at hm;obtain⟨ha,hdn,hbr,hlt⟩:=hm
  have hmk:ydy a0=true:=by
   unfold ydy;simp only[yaj,ha,show a0.2.2.2.2.2.2.2.2.2.2.1=false from hdn,hlt]; rfl
  rw[hmk,yU3 (by rfl),y26 hbr];have hgo:ye a0.2.1=true:=yrK ha;have hle:=yIG ha
  have h1:=zkA (step:=ycX) 4 (fun i s=>yoY i yaB s) ypu (fun _ s=>s.2.1=a0.2.1∧s.2.2.1.length=a0.2.2.1.length∧ya s=false) .inl
   (fun b=>match b with | .inl x=> .inl (yLQ yaB x) | .inr x=> .inr (yo8 x)) (fun i s hi hs=>by
    constructor
    ·simp only[ycX,yoY,ypv,zkw (show(i:Int)<4 by omega),cond_true,wq ((i:Int)+1) (by omega) (by omega),Int.natCast_add,Int.natCast_one,Int.toNat_natCast,zkV]
     rw[yTT s s.2.2.2.2.2.1 (by unfold yov; rw[hs.1,hgo]; rfl)];simp only[zkF,yjA];unfold ypu;cases hf:(yay s s.2.2.2.2.2.1).2
     ·rfl
     ·cases leb 60000 s.2.2.2.2.2.1
      ·have ho:=y3e (a:=s) (q:=s.2.2.2.2.2.1) (by rw[hs.1]; exact hgo) hf
       have hr:yfX s (yay s s.2.2.2.2.2.1).1=some ((!(ya (yhc s)),()),(yhc s,())):=yJ8 _ _ (by unfold yfY; rw[hs.2.2]; rfl)
       have hd:ya (yhc s)=false→ygV (yJ (yhc s)) (yay s s.2.2.2.2.2.1).1.2.1 (yay s s.2.2.2.2.2.1).1.2.2=some ((!(ya (yjV s)),()),(yjV s,())):=fun hd1=>yMJ _ _ _ (by
         unfold ygX;simp only[Bool.and_eq_true,beq_iff_eq,Bool.not_eq_true'];rw[show(yJ (yhc s)).2.1=s.2.1 from yZ6 s]
         exact⟨hd1,ho.1,ho.2,by rw[show(yJ (yhc s)).2.2.1.length=s.2.2.1.length from yKE s _,hs.2.1,hle,hs.1]⟩)
       rw[hr];generalize yjV s=R2 at hd ⊢;generalize yhc s=R1 at hd ⊢;generalize yay s s.2.2.2.2.2.1=F at hd ⊢;unfold yJ at hd;simp only[Bool.not_true,Bool.not_false,cond_true,cond_false,Bool.or_self,zkF];cases hd1:ya R1
       ·simp only[Bool.not_true,Bool.not_false,cond_true,cond_false,hd hd1,zkF]
        cases hd2:ya R2
        ·rfl
        ·simp only[hd2,Bool.not_true,Bool.not_false,cond_true,yo8]
       ·simp only[hd1,Bool.not_true,Bool.not_false,cond_true,yo8]
      ·rfl
    ·intro s' h
     unfold ypu at h;cases hc:(!(yay s s.2.2.2.2.2.1).2||leb 60000 s.2.2.2.2.2.1)
     ·rw[hc]at h
      cases hd1:ya (yhc s)
      ·rw[hd1]at h
       cases hd2:ya (yjV s)
       ·rw[hd2]at h
        simp only[cond_false,Sum.inl.injEq]at h;subst h;exact⟨(y2P s).trans hs.1,(y2Q s).trans hs.2.1,hd2⟩
       ·rw[hd2]at h; cases h
      ·rw[hd1]at h; cases h
     ·rw[hc]at h; cases h) (fun s hs=>by simp only[ycX,yoY,ypv]; rfl) a0 ⟨rfl,rfl,hdn⟩ 18446744073709551616 (by omega)
  have hdo: ∀b,goE ypu .inl 4 0 a0= .inl b→ya b=false:=fun b hb=>yZ7 4 0 a0 b hdn hb
  refine(congrArg (fun z=>zkr z _ _) (show yqB (yLW yaB a0)=_ from h1)).trans ?_;unfold yKm;cases hg:goE ypu .inl 4 0 a0 with
  | inl b =>
   simp only[zkL,zkV];rw[yMI b (by unfold ykA; rw[hdo b hg]; rfl)]; rfl
  | inr b=>rfl
def yEj:Con:=⟨yp9,yyK,fun x=>(fun n=>some ((n,()),())) (yhg x.1)⟩
theorem yWk:ConOk prog 28 yEj:=(yS5).mono (fun x r hk h=>(yVq x.1 hk).trans h)
def ynH:Code:=(f103.body).getD .skip
def yvr:Env:=zku TT [(81,yO),(127,yek),(133,ygL),(158,ya5)] []
theorem yLd:FrOk prog ⟨yvr,45,fun _=>none⟩ ynH:=zky yg yh ⟨yaa,yhj,ymy,ycN,trivial⟩
def yA7:Nat→Option Seg:=fun _=>none
def ybv:Shape:=⟨[(1,false,[.int .i64]),(4,false,[.ptr 64 0]),(5,false,[.ptr 4224 0]),(18,false,[.br tW]),(19,false,[.int .i64]),(20,false,[.int .i64])],[(64,[.nil,.nil,.bool,.nil]),(4224,[.at 800000000,.at 800000001,.bool,.at 800000002])],[(800000000,tL,(.ow .fz)),(800000001,tW,(.pr .fz (.ow .fz))),(800000002,tI,.fz)]⟩
def yeL:Shape:=⟨[(1,false,[.int .i64]),(4,false,[.ptr 64 0]),(5,false,[.ptr 4224 0]),(18,false,[.br tW]),(19,false,[.int .i64]),(20,false,[.int .i64])],[(64,[.nil,.nil,.bool,.nil]),(4224,[.at 800000000,.at 800000001,.bool,.at 800000002])],[(800000000,tL,(.ow .fz)),(800000001,tW,(.pr .fz (.ow .fz))),(800000002,tI,.fz)]⟩
def yeD:Shape:=⟨[(4,false,[.ptr 64 0]),(5,false,[.ptr 4224 0])],[(64,[.nil,.nil,.bool,.nil]),(4224,[.at 800000000,.at 800000001,.bool,.at 800000002])],[(800000000,tL,(.ow .fz)),(800000001,tW,(.pr .fz (.ow .fz))),(800000002,tI,.fz)]⟩
def yh1:Shape:=⟨[],[],[]⟩
abbrev ylt (v0:Int) (v1:List dW) (v2 v3:Int) (v4 v5:dM):(ybv).X:=(((v0,()),((),()),((),()),(v1,()),(v2,()),(v3,()),()),(((),(),v4.2.2.1,(),()),((),(),v5.2.2.1,(),()),()),(v5.1,v5.2.1,v5.2.2.2,()))
abbrev yH6 (v0:Int) (v1:List dW) (v2 v3:Int) (v4 v5:dM):(yeL).X:=(((v0,()),((),()),((),()),(v1,()),(v2,()),(v3,()),()),(((),(),v4.2.2.1,(),()),((),(),v5.2.2.1,(),()),()),(v5.1,v5.2.1,v5.2.2.2,()))
abbrev yu7 (v0 v1:dM):(yeD).X:=((((),()),((),()),()),(((),(),v0.2.2.1,(),()),((),(),v1.2.2.1,(),()),()),(v1.1,v1.2.1,v1.2.2.2,()))
def ylF (v0:Int) (v1:List dW) (v2 v3:Int) (v4 v5:Bool) (v6:List (List Int)) (v7:List dW) (v8:List Int):Option ((ybv).X ⊕ ((yeD).X ⊕ (yh1).X)) :=bif(ltb v3 v2)then bif(inb v3 v1.length)then bif(ltb v3 20)then bif(leb 0 v3)then bif((i64.wrap ((BitVec.ofInt IntKind.i64.bits (v0.fdiv (2^(min (v3).toNat IntKind.i64.bits))) &&& BitVec.ofInt IntKind.i64.bits 1).toNat:Int))==1)then let r5:=yB ((nth v1 v3 (0,[])).2);bif(inb ((nth v1 v3 (0,[])).1) v6.length)then some (.inl (((v0,()),((),()),((),()),(v1,()),(v2,()),((i64.wrap (v3+1)),()),()),(((),(),v4,(),()),((),(),v5,(),()),()),((v6.set ((nth v1 v3 (0,[])).1).toNat r5),v7,v8,()))) else none else some (.inl (((v0,()),((),()),((),()),(v1,()),(v2,()),((i64.wrap (v3+1)),()),()),(((),(),v4,(),()),((),(),v5,(),()),()),(v6,v7,v8,()))) else none else some (.inl (((v0,()),((),()),((),()),(v1,()),(v2,()),((i64.wrap (v3+1)),()),()),(((),(),v4,(),()),((),(),v5,(),()),()),(v6,v7,v8,()))) else none else some (.inr (.inl ((((),()),((),()),()),(((),(),v4,(),()),((),(),v5,(),()),()),(v6,v7,v8,()))))
def ybJ (x:(ybv).X):=ylF x.1.1.1 x.1.2.2.2.1.1 x.1.2.2.2.2.1.1 x.1.2.2.2.2.2.1.1 x.2.1.1.2.2.1 x.2.1.2.1.2.2.1 x.2.2.1 x.2.2.2.1 x.2.2.2.2.1
def yuR (x:(yeL).X):(ybv).X:=(((x.1.1.1,()),((),()),((),()),(x.1.2.2.2.1.1,()),(x.1.2.2.2.2.1.1,()),(x.1.2.2.2.2.2.1.1,()),()),(((),(),x.2.1.1.2.2.1,(),()),((),(),x.2.1.2.1.2.2.1,(),()),()),(x.2.2.1,x.2.2.2.1,x.2.2.2.2.1,()))
def yw4:Code:=(zeJ ynH 64 500).getD .skip
theorem yIz:zeJ ynH 64 125=some (.block 0 (.loop yw4)):=by kernel_rfl
theorem yKe (x:(ybv).X):zhu ⟨yvr,45,yA7⟩ 0 yw4 500 ybv yeD yh1 x=ybJ x:=by kernel_rfl
def yu0 (x:(yeL).X):Nat:=18446744073709551616
def yhn (x:(yeL).X):Option ((yeD).X ⊕ (yh1).X):=zF ybJ (yu0 x) (yuR x)
def yvg:Seg:=⟨yeL,yeD,yh1,yhn⟩
def yNg:Nat→Option Seg:=fun q=>bif Nat.beq q 125 then some yvg else yA7 q
theorem yLe:FrOk prog ⟨yvr,45,yNg⟩ ynH:=(yLd).loop (sg:=yvg) ybv yuR (by decide) yIz ybJ yu0 (by decide) (fun _=>rfl) (fun x r _ h=>h) yKe
abbrev ynT:List Par:= [.rd tM,.rd tI]
abbrev yvR:List OT:= [⟨false,tM,(.pr (.ow (.ow .fz)) (.pr (.ow (.pr .fz (.ow .fz))) (.pr .fz (.ow .fz))))⟩]
def yre (a0:dM) (a1:Int):Option (zaY yvR×zak ynT) :=let r1:=yaJ a0;let r2:=yat a0;bif(!r2)then some ((r1,()),()) else let r3:=yj a1 0 1048575;bif(!r3)then zkr (yhn (((0,()),((),()),((),()),(a0.2.1,()),((a0.2.1.length:Int),()),(0,()),()),(((),(),false,(),()),((),(),r1.2.2.1,(),()),()),(r1.1,r1.2.1,r1.2.2.2,()))) (fun y5 =>some (((y5.2.2.1,[],y5.2.1.2.1.2.2.1,y5.2.2.2.2.1),()),())) (fun y5 =>none) else zkr (yhn (((a1,()),((),()),((),()),(a0.2.1,()),((a0.2.1.length:Int),()),(0,()),()),(((),(),false,(),()),((),(),r1.2.2.1,(),()),()),(r1.1,r1.2.1,r1.2.2.2,()))) (fun y6 =>some (((y6.2.2.1,[],y6.2.1.2.1.2.2.1,y6.2.2.2.2.1),()),())) (fun y6 =>none)
theorem yPy:ConOk prog 103 ⟨ynT,yvR,fun x=>yre x.1 x.2.1⟩:=zkG (yLe) func103 ntmps103.symm fun x=>by kernel_rfl
def ygb (a0:dM) (a1:Int):dM:=ydE a0 a1
theorem ySB (a0:dM) (a1:Int) (hk:zjw ynT (a0,a1,())):yre a0 a1=(fun n=>some ((n,()),())) (ygb a0 a1):=by
 have hb2:a0.2.1.length*32≤2^47:=hk.1.2.1.1;unfold yre ygb ydE;simp only[yaJ,yat,yau,ycx];cases hm:yu a0
 ·rfl
 have h1: ∀k,yhn (yH6 k a0.2.1 a0.2.1.length 0 yc a0)=some (.inl (yu7 yc (yf9 (fun i=>decide (i<20)&&yKu k i) a0.2.1 a0.1,a0.2))):=fun k =>
  zkB (step:=ybJ) a0.2.1.length (fun i s=>ylt k a0.2.1 a0.2.1.length i yc (s,a0.2)) (yeT (fun i=>decide (i<20)&&yKu k i) a0.2.1) (fun i s=>s.length=a0.1.length) (fun s=> .inl (yu7 yc (s,a0.2))) (fun i s hi hs=>by
   have hw:=(yOF hm hi).1;refine⟨?_,ytT.trans hs⟩;simp only[ybJ,ylt,ylF,zkw (show(i:Int)<a0.2.1.length by omega),cond_true,wq ((i:Int)+1) (by omega) (by omega),Int.natCast_add,Int.natCast_one,Int.toNat_natCast,zk0 (show(0:Int)≤i by omega),zkP hi,hs,hw,yeT,yB];rw[show yKu k i=(i64.wrap ((BitVec.ofInt IntKind.i64.bits (k.fdiv (2^(min i IntKind.i64.bits))) &&& BitVec.ofInt IntKind.i64.bits 1).toNat:Int)==1)from rfl];by_cases h20:i<20
   ·rw[zkw (show(i:Int)<20 by omega),decide_eq_true h20]
    cases(i64.wrap ((BitVec.ofInt IntKind.i64.bits (k.fdiv (2^(min i IntKind.i64.bits))) &&& BitVec.ofInt IntKind.i64.bits 1).toNat:Int)==1)<;>rfl
   ·rw[zk1 (show(20:Int)≤i by omega),decide_eq_false h20]; rfl) (fun s hs=>by simp only[ybJ,ylt,ylF,zk1 (Int.le_refl _),cond_false]) a0.1 rfl _ (by show _<18446744073709551616; omega)
 unfold ySl;rw[h1 0,h1 a1];cases(leb 0 a1&&leb a1 1048575)<;>rfl
def yCg:Con:=⟨ynT,yvR,fun x=>(fun n=>some ((n,()),())) (ygb x.1 x.2.1)⟩
theorem yTD:ConOk prog 103 yCg:=(yPy).mono (fun x r hk h=>(ySB x.1 x.2.1 hk).trans h)
def ywP:Code:=(f32.body).getD .skip
def yFg:Env:=zku TT [(103,yCg)] []
theorem yVa:FrOk prog ⟨yFg,33,fun _=>none⟩ ywP:=zky yg yh ⟨yTD,trivial⟩
def yHv:Nat→Option Seg:=fun _=>none
def yeh:Shape:=⟨[(1,false,[.br tI]),(5,false,[.at 800000000]),(10,false,[.br tM]),(11,false,[.int .i64]),(12,false,[.int .i64])],[],[(800000000,tM,(.pr (.ow (.ow .fz)) (.pr (.ow (.pr .fz (.ow .fz))) (.pr .fz (.ow .fz)))))]⟩
def yjk:Shape:=⟨[(1,false,[.br tI]),(5,false,[.at 800000000]),(10,false,[.br tM]),(11,false,[.int .i64]),(12,false,[.ci .i64 0])],[],[(800000000,tM,(.pr (.ow (.ow .fz)) (.pr (.ow (.pr .fz (.ow .fz))) (.pr .fz (.ow .fz)))))]⟩
def yjg:Shape:=⟨[(5,false,[.at 800000000])],[],[(800000000,tM,(.pr (.ow (.ow .fz)) (.pr (.ow (.pr .fz (.ow .fz))) (.pr .fz (.ow .fz)))))]⟩
def yoa:Shape:=⟨[],[],[]⟩
abbrev ytV (v0:List Int) (v1:List dM) (v2 v3:Int) (v4:List dM):(yeh).X:=(((v0,()),((),()),(v1,()),(v2,()),(v3,()),()),(),(v4,()))
abbrev ySu (v0:List Int) (v1:List dM) (v2:Int) (v3:List dM):(yjk).X:=(((v0,()),((),()),(v1,()),(v2,()),((),()),()),(),(v3,()))
abbrev yEN (v0:List dM):(yjg).X:=((((),()),()),(),(v0,()))
def yuB (v0:List Int) (v1:List dM) (v2 v3:Int) (v4:List dM):Option ((yeh).X ⊕ ((yjg).X ⊕ (yoa).X)) :=bif(ltb v3 v2)then bif(inb v3 v1.length)then bif(ltb v3 (v0.length:Int))then bif(inb v3 v0.length)then let r3:=ygb ((nth v1 v3 ([],[],false,[])).1,((nth v1 v3 ([],[],false,[])).2).1,(((nth v1 v3 ([],[],false,[])).2).2)) (nth v0 v3 0);bif(zkj v4.length ([r3]:List dM).length 80)then some (.inl (((v0,()),((),()),(v1,()),(v2,()),((i64.wrap (v3+1)),()),()),(),((v4++([r3]:List dM)),()))) else none else none else let r4:=ygb ((nth v1 v3 ([],[],false,[])).1,((nth v1 v3 ([],[],false,[])).2).1,(((nth v1 v3 ([],[],false,[])).2).2)) 0;bif(zkj v4.length ([r4]:List dM).length 80)then some (.inl (((v0,()),((),()),(v1,()),(v2,()),((i64.wrap (v3+1)),()),()),(),((v4++([r4]:List dM)),()))) else none else none else some (.inr (.inl ((((),()),()),(),(v4,()))))
def yes (x:(yeh).X):=yuB x.1.1.1 x.1.2.2.1.1 x.1.2.2.2.1.1 x.1.2.2.2.2.1.1 x.2.2.1
def yEA (x:(yjk).X):(yeh).X:=(((x.1.1.1,()),((),()),(x.1.2.2.1.1,()),(x.1.2.2.2.1.1,()),(0,()),()),(),(x.2.2.1,()))
def yFW:Code:=(zeJ ywP 64 116).getD .skip
theorem yUZ:zeJ ywP 64 29=some (.block 0 (.loop yFW)):=by kernel_rfl
theorem yWG (x:(yeh).X):zhu ⟨yFg,33,yHv⟩ 0 yFW 116 yeh yjg yoa x=yes x:=by kernel_rfl
def yEE (x:(yjk).X):Nat:=18446744073709551616
def yvD (x:(yjk).X):Option ((yjg).X ⊕ (yoa).X):=zF yes (yEE x) (yEA x)
def yFc:Seg:=⟨yjk,yjg,yoa,yvD⟩
def yXS:Nat→Option Seg:=fun q=>bif Nat.beq q 29 then some yFc else yHv q
theorem yVb:FrOk prog ⟨yFg,33,yXS⟩ ywP:=(yVa).loop (sg:=yFc) yeh yEA (by decide) yUZ yes yEE (by decide) (fun _=>rfl) (fun x r _ h=>h) yWG
abbrev ywS:List Par:= [.rd tMs,.rd tL]
abbrev yFl:List OT:= [⟨false,tMs,(.ow (.pr (.ow (.ow .fz)) (.pr (.ow (.pr .fz (.ow .fz))) (.pr .fz (.ow .fz)))))⟩]
def yzs (a0:List dM) (a1:List Int):Option (zaY yFl×zak ywS) :=zkr (yvD (((a1,()),((),()),(a0,()),((a0.length:Int),()),((),()),()),(),(([]:List dM),()))) (fun y4 =>some ((y4.2.2.1,()),())) (fun y4 =>none)
theorem yYN:ConOk prog 32 ⟨ywS,yFl,fun x=>yzs x.1 x.2.1⟩:=zkG (yVb) func32 ntmps32.symm fun x=>by kernel_rfl
def ypQ (a0:List dM) (a1:List Int):List dM:=yad a0 a1
theorem yZV (a0:List dM) (a1:List Int) (hk:zjw ywS (a0,a1,())):yzs a0 a1=(fun n=>some ((n,()),())) (ypQ a0 a1):=by
 have hb:a0.length*80≤2^47:=hk.1.1
 have h1:yvD (ySu a1 a0 a0.length [])=some (.inl (yEN ((List.range a0.length).foldl (fun s (i:Nat)=>s++ [ydE (nth a0 i yc) (yJq a1 i)]) []))) :=
  zkB (step:=yes) a0.length (fun i s=>ytV a1 a0 a0.length i s) (fun s (i:Nat)=>s++ [ydE (nth a0 i yc) (yJq a1 i)]) (fun i s=>s.length=i) (fun s=> .inl (yEN s)) (fun i s hi hs=>⟨by
   simp only[yes,ytV,yuB,zkw (show(i:Int)<a0.length by omega),cond_true,wq ((i:Int)+1) (by omega) (by omega),Int.natCast_add,Int.natCast_one,Int.toNat_natCast,zkP hi,zkV,ygb,yJq];rw[zkD.2 (show(s.length+ [ydE (nth a0 i ([],[],false,[])) (nth a1 i 0)].length)*80≤140737488355328 by simp only[List.length_cons,List.length_nil]; omega),zkD.2 (show(s.length+ [ydE (nth a0 i ([],[],false,[])) 0].length)*80≤140737488355328 by simp only[List.length_cons,List.length_nil]; omega)];by_cases h:i<a1.length
   ·rw[zkw (show(i:Int)<a1.length by omega),zkP h,decide_eq_true h]; rfl
   ·rw[zk1 (show(a1.length:Int)≤i by omega),decide_eq_false h]; rfl,by simp[hs]⟩) (fun s hs=>by simp only[yes,ytV,yuB,zk1 (Int.le_refl _),cond_false]) [] rfl _ (by show _<18446744073709551616; omega)
 unfold yzs ypQ yad;rw[h1,yof]; rfl
def yHy:Con:=⟨ywS,yFl,fun x=>(fun n=>some ((n,()),())) (ypQ x.1 x.2.1)⟩
theorem yZ1:ConOk prog 32 yHy:=(yYN).mono (fun x r hk h=>(yZV x.1 x.2.1 hk).trans h)
def yUk:Code:=(f19.body).getD .skip
def yUK:Env:=zku TT [(16,yzT),(28,yEj),(32,yHy),(81,yO)] []
theorem yLj:FrOk prog ⟨yUK,29,fun _=>none⟩ yUk:=zky yg yh ⟨yPZ,yWk,yZ1,yaa,trivial⟩
abbrev ynV:List Par:= [.rd tMs,.rd tL,.rd tI,.rd tI]
abbrev yvT:List OT:= [⟨false,tA,(.pr .fz (.pr (.pr .fz .fz) (.pr (.ow (.pr (.ow (.ow .fz)) (.pr (.ow (.pr .fz (.ow .fz))) (.pr .fz (.ow .fz))))) (.pr .fz (.pr .fz (.pr .fz (.pr .fz (.pr .fz (.pr (.ow (.pr .fz (.ow .fz))) (.pr .fz (.pr .fz .fz)))))))))))⟩,⟨false,tB,.fz⟩]
def yrh (a0:List dM) (a1:List Int) (a2 a3:Int):Option (zaY yvT×zak ynV) :=let r1:=ypQ a0 a1;let r2:=yil r1 a2;bif(!r2.2)then some (((0,(0,0),[],0,0,0,0,0,[],0,false,false),false,()),()) else let r3:=yj a3 (-1) 1000;bif r3 then let r4:=yhg (r2.1.1,r2.1.2.1,r2.1.2.2.1,r2.1.2.2.2.1,r2.1.2.2.2.2.1,r2.1.2.2.2.2.2.1,r2.1.2.2.2.2.2.2.1,r2.1.2.2.2.2.2.2.2.1,r2.1.2.2.2.2.2.2.2.2.1,a3,r2.1.2.2.2.2.2.2.2.2.2.2);some ((r4,true,()),()) else let r5:=yhg r2.1;some ((r5,true,()),())
theorem yPB:ConOk prog 19 ⟨ynV,yvT,fun x=>yrh x.1 x.2.1 x.2.2.1 x.2.2.2.1⟩:=zkG (yLj) func19 ntmps19.symm fun x=>by kernel_rfl
def yjC (a0:List dM) (a1:List Int) (a2 a3:Int):dA×Bool:=ynp a0 a1 a2 a3
theorem ySE (a0:List dM) (a1:List Int) (a2 a3:Int) (hk:zjw ynV (a0,a1,a2,a3,())):yrh a0 a1 a2 a3=(fun n=>some ((n.1,n.2,()),())) (yjC a0 a1 a2 a3):=by
 unfold yrh yjC ynp;simp only[ypQ,yil,yau,ycx,yhg];cases h:(yfl (yad a0 a1) a2).2
 ·rfl
 ·cases(leb (-1) a3&&leb a3 1000)<;>rfl
def yCi:Con:=⟨ynV,yvT,fun x=>(fun n=>some ((n.1,n.2,()),())) (yjC x.1 x.2.1 x.2.2.1 x.2.2.2.1)⟩
theorem yTF:ConOk prog 19 yCi:=(yPB).mono (fun x r hk h=>(ySE x.1 x.2.1 x.2.2.1 x.2.2.2.1 hk).trans h)
def yQC:Code:=(f34.body).getD .skip
def yQ3:Env:=zku TT [(55,yf6),(95,yqQ)] []
theorem yIZ:FrOk prog ⟨yQ3,11,fun _=>none⟩ yQC:=zky yg yh ⟨ylb,yEQ,trivial⟩
abbrev ylX:List Par:= [.rd tA]
abbrev ys0:List OT:= [⟨false,tA,(.pr .fz (.pr (.pr .fz .fz) (.pr (.ow (.pr (.ow (.ow .fz)) (.pr (.ow (.pr .fz (.ow .fz))) (.pr .fz (.ow .fz))))) (.pr .fz (.pr .fz (.pr .fz (.pr .fz (.pr .fz (.pr (.ow (.pr .fz (.ow .fz))) (.pr .fz (.pr .fz .fz)))))))))))⟩]
def yph (a0:dA):Option (zaY ys0×zak ylX) :=let r1:=yen a0;let r2:=yaj a0;bif r2 then some (((r1.1,r1.2.1,r1.2.2.1,r1.2.2.2.1,r1.2.2.2.2.1,r1.2.2.2.2.2.1,r1.2.2.2.2.2.2.1,r1.2.2.2.2.2.2.2.1,r1.2.2.2.2.2.2.2.2.1,(-1),true,r1.2.2.2.2.2.2.2.2.2.2.2),()),()) else some ((r1,()),())
theorem yMl:ConOk prog 34 ⟨ylX,ys0,fun x=>yph x.1⟩:=zkG (yIZ) func34 ntmps34.symm fun x=>by kernel_rfl
def ye8 (a0:dA):dA:=bif yal a0 then y37 a0 else a0
theorem yPg (a0:dA) (hk:zjw ylX (a0,())):yph a0=(fun n=>some ((n,()),())) (ye8 a0):=by
 unfold yph ye8 yaj yen;cases yal a0<;>rfl
def yzW:Con:=⟨ylX,ys0,fun x=>(fun n=>some ((n,()),())) (ye8 x.1)⟩
theorem yP2:ConOk prog 34 yzW:=(yMl).mono (fun x r hk h=>(yPg x.1 hk).trans h)
def yXA:Code:=(f141.body).getD .skip
def yX6:Env:=zku TT [(87,yko),(111,ytp),(168,ytr)] []
theorem yN2:FrOk prog ⟨yX6,38,fun _=>none⟩ yXA:=zky yg yh ⟨yt7,yGm,yGo,trivial⟩
abbrev ykP:List Par:= [.rd tA,.rd tI,.rd tI]
abbrev yqk:List OT:= [⟨false,tI,.fz⟩,⟨false,tB,.fz⟩]
def yug (a0:dA) (a1 a2:Int):Option (zaY yqk×zak ykP) :=bif(inb a1 a0.2.2.1.length)then let r1:=ykZ a2;let r2:=ybF ((nth a0.2.2.1 a1 ([],[],false,[])).1,((nth a0.2.2.1 a1 ([],[],false,[])).2).1,(((nth a0.2.2.1 a1 ([],[],false,[])).2).2)) r1;let r3:=yfp a0 a1 a2;bif(!(!r3))then bif(!(!r2.2))then bif((r2.1.length:Int) !=1)then some ((0,false,()),()) else bif(inb 0 r2.1.length)then some (((nth r2.1 0 0),true,()),()) else none else some ((0,false,()),()) else some ((0,false,()),()) else none
theorem yTc:ConOk prog 141 ⟨ykP,yqk,fun x=>yug x.1 x.2.1 x.2.2.1⟩:=zkG (yN2) func141 ntmps141.symm fun x=>by kernel_rfl
def yhh (a0:dA) (a1 a2:Int):Int×Bool:=(yiH a0 a1 a2,yA a0 a1 a2)
def yzn (a0:dA) (a1 a2:Int):Bool:=inb a1 a0.2.2.1.length
theorem yVx (a0:dA) (a1 a2:Int) (hk:zjw ykP (a0,a1,a2,())) (hq:yzn a0 a1 a2=true):yug a0 a1 a2=(fun n=>some ((n.1,n.2,()),())) (yhh a0 a1 a2):=by
 unfold yug yhh yiH yfp;simp only[zkV,yGh,ybF];rw[show yA a0 a1 a2=(ycq a0 a1 a2&&((yc8 a0 a1 a2).2&&((yc8 a0 a1 a2).1.length:Int)==1))from rfl];rw[show yN (nth a0.2.2.1 a1 ([],[],false,[])) (yx a2)=yc8 a0 a1 a2 from rfl];rw[show inb a1 a0.2.2.1.length=true from hq];cases hl:ycq a0 a1 a2
 ·rfl
 ·cases(yc8 a0 a1 a2).2
  ·rfl
  ·rw[bne]
   cases h1:(((yc8 a0 a1 a2).1.length:Int)==1)
   ·rfl
   ·rw[show inb 0 (yc8 a0 a1 a2).1.length=true from zj4.2 (by have:=beq_iff_eq.1 h1; omega)]; rfl
def yla (a0:dA) (a1 a2:Int):Option (zaY yqk×zak ykP):=bif yzn a0 a1 a2 then(fun n=>some ((n.1,n.2,()),())) (yhh a0 a1 a2)else none
theorem yGy (a0:dA) (a1 a2:Int) (h:yzn a0 a1 a2=true):yla a0 a1 a2=(fun n=>some ((n.1,n.2,()),())) (yhh a0 a1 a2):=by unfold yla; rw[h]; rfl
def ytv:Con:=⟨ykP,yqk,fun x=>yla x.1 x.2.1 x.2.2.1⟩
theorem yGr:ConOk prog 141 ytv:=(yTc).mono (fun x r hk h=>zkW h (fun hq=>yVx x.1 x.2.1 x.2.2.1 hk hq))
def yr6:Code:=(f122.body).getD .skip
def yBm:Env:=zku TT [(141,ytv),(185,yoc)] []
theorem yRQ:FrOk prog ⟨yBm,33,fun _=>none⟩ yr6:=zky yg yh ⟨yGr,yzl,trivial⟩
def yFG:Nat→Option Seg:=fun _=>none
def yde:Shape:=⟨[(1,false,[.int .i64]),(2,false,[.ptr 0 0]),(6,false,[.at 800000000]),(13,false,[.int .i64]),(14,false,[.int .i64])],[(0,[.int .i64,.int .i64,.int .i64,.br tM,.int .i64,.int .i64,.int .i64,.int .i64,.int .i64,.br tW,.int .i64,.bool,.bool])],[(800000000,tI,.fz)]⟩
def yhO:Shape:=⟨[(1,false,[.int .i64]),(2,false,[.ptr 0 0]),(6,false,[.at 800000000]),(13,false,[.int .i64]),(14,false,[.ci .i64 0])],[(0,[.int .i64,.int .i64,.int .i64,.br tM,.int .i64,.int .i64,.int .i64,.int .i64,.int .i64,.br tW,.int .i64,.bool,.bool])],[(800000000,tI,.fz)]⟩
def yhz:Shape:=⟨[(6,false,[.at 800000000])],[],[(800000000,tI,.fz)]⟩
def yh6:Shape:=⟨[(4,false,[.int .i64]),(5,false,[.bool])],[],[]⟩
abbrev yq1 (v0 v1 v2:Int) (v3:dA) (v4:List Int):(yde).X:=(((v0,()),((),()),((),()),(v1,()),(v2,()),()),((v3.1,v3.2.1.1,v3.2.1.2,v3.2.2.1,v3.2.2.2.1,v3.2.2.2.2.1,v3.2.2.2.2.2.1,v3.2.2.2.2.2.2.1,v3.2.2.2.2.2.2.2.1,v3.2.2.2.2.2.2.2.2.1,v3.2.2.2.2.2.2.2.2.2.1,v3.2.2.2.2.2.2.2.2.2.2.1,v3.2.2.2.2.2.2.2.2.2.2.2,()),()),(v4,()))
abbrev yOS (v0 v1:Int) (v2:dA) (v3:List Int):(yhO).X:=(((v0,()),((),()),((),()),(v1,()),((),()),()),((v2.1,v2.2.1.1,v2.2.1.2,v2.2.2.1,v2.2.2.2.1,v2.2.2.2.2.1,v2.2.2.2.2.2.1,v2.2.2.2.2.2.2.1,v2.2.2.2.2.2.2.2.1,v2.2.2.2.2.2.2.2.2.1,v2.2.2.2.2.2.2.2.2.2.1,v2.2.2.2.2.2.2.2.2.2.2.1,v2.2.2.2.2.2.2.2.2.2.2.2,()),()),(v3,()))
abbrev yC3 (v0:List Int):(yhz).X:=((((),()),()),(),(v0,()))
abbrev yO6 (v0:Int) (v1:Bool):(yh6).X:=(((v0,()),(v1,()),()),(),())
def yrz (v0 v1 v2 v3 v4 v5:Int) (v6:List dM) (v7 v8 v9 v10 v11:Int) (v12:List dW) (v13:Int) (v14 v15:Bool) (v16:List Int):Option ((yde).X ⊕ ((yhz).X ⊕ (yh6).X)) :=bif(ltb v2 v1)then bnd (yla (v3,(v4,v5),v6,v7,v8,v9,v10,v11,v12,v13,v14,v15) v2 v0) fun r2 =>bif(!r2.1.2.1)then some (.inr (.inr (((0,()),(false,()),()),(),()))) else bif(zkj v16.length ([r2.1.1]:List Int).length 8)then some (.inl (((v0,()),((),()),((),()),(v1,()),((i64.wrap (v2+1)),()),()),((v3,v4,v5,v6,v7,v8,v9,v10,v11,v12,v13,v14,v15,()),()),((v16++([r2.1.1]:List Int)),()))) else none else some (.inr (.inl ((((),()),()),(),(v16,()))))
def ydK (x:(yde).X):=yrz x.1.1.1 x.1.2.2.2.1.1 x.1.2.2.2.2.1.1 x.2.1.1.1 x.2.1.1.2.1 x.2.1.1.2.2.1 x.2.1.1.2.2.2.1 x.2.1.1.2.2.2.2.1 x.2.1.1.2.2.2.2.2.1 x.2.1.1.2.2.2.2.2.2.1 x.2.1.1.2.2.2.2.2.2.2.1 x.2.1.1.2.2.2.2.2.2.2.2.1 x.2.1.1.2.2.2.2.2.2.2.2.2.1 x.2.1.1.2.2.2.2.2.2.2.2.2.2.1 x.2.1.1.2.2.2.2.2.2.2.2.2.2.2.1 x.2.1.1.2.2.2.2.2.2.2.2.2.2.2.2.1 x.2.2.1
def yCB (x:(yhO).X):(yde).X:=(((x.1.1.1,()),((),()),((),()),(x.1.2.2.2.1.1,()),(0,()),()),((x.2.1.1.1,x.2.1.1.2.1,x.2.1.1.2.2.1,x.2.1.1.2.2.2.1,x.2.1.1.2.2.2.2.1,x.2.1.1.2.2.2.2.2.1,x.2.1.1.2.2.2.2.2.2.1,x.2.1.1.2.2.2.2.2.2.2.1,x.2.1.1.2.2.2.2.2.2.2.2.1,x.2.1.1.2.2.2.2.2.2.2.2.2.1,x.2.1.1.2.2.2.2.2.2.2.2.2.2.1,x.2.1.1.2.2.2.2.2.2.2.2.2.2.2.1,x.2.1.1.2.2.2.2.2.2.2.2.2.2.2.2.1,()),()),(x.2.2.1,()))
def yD4:Code:=(zeJ yr6 64 116).getD .skip
theorem yRl:zeJ yr6 64 29=some (.block 0 (.loop yD4)):=by kernel_rfl
theorem yT3 (x:(yde).X):zhu ⟨yBm,33,yFG⟩ 0 yD4 116 yde yhz yh6 x=ydK x:=by kernel_rfl
def yCR (x:(yhO).X):Nat:=18446744073709551616
def ysu (x:(yhO).X):Option ((yhz).X ⊕ (yh6).X):=zF ydK (yCR x) (yCB x)
def yDv:Seg:=⟨yhO,yhz,yh6,ysu⟩
def yUB:Nat→Option Seg:=fun q=>bif Nat.beq q 29 then some yDv else yFG q
theorem yRR:FrOk prog ⟨yBm,33,yUB⟩ yr6:=(yRQ).loop (sg:=yDv) yde yCB (by decide) yRl ydK yCR (by decide) (fun _=>rfl) (fun x r _ h=>h) yT3
abbrev ysJ:List Par:= [.rd tA,.rd tI]
abbrev yBL:List OT:= [⟨false,tI,.fz⟩,⟨false,tB,.fz⟩]
def ywx (a0:dA) (a1:Int):Option (zaY yBL×zak ysJ) :=zkr (ysu (((a1,()),((),()),((),()),((a0.2.2.1.length:Int),()),((),()),()),((a0.1,a0.2.1.1,a0.2.1.2,a0.2.2.1,a0.2.2.2.1,a0.2.2.2.2.1,a0.2.2.2.2.2.1,a0.2.2.2.2.2.2.1,a0.2.2.2.2.2.2.2.1,a0.2.2.2.2.2.2.2.2.1,a0.2.2.2.2.2.2.2.2.2.1,a0.2.2.2.2.2.2.2.2.2.2.1,a0.2.2.2.2.2.2.2.2.2.2.2,()),()),(([]:List Int),()))) (fun y2 =>let r4:=ycs y2.2.2.1;some ((r4,true,()),())) (fun y2 =>some ((y2.1.1.1,y2.1.2.1.1,()),()))
theorem yV0:ConOk prog 122 ⟨ysJ,yBL,fun x=>ywx x.1 x.2.1⟩:=zkG (yRR) func122 ntmps122.symm fun x=>by kernel_rfl
def ynf (a0:dA) (a1:Int):Int×Bool:=yqx a0 a1
theorem yYx (a0:dA) (a1:Int) (hk:zjw ysJ (a0,a1,())):ywx a0 a1=(fun n=>some ((n.1,n.2,()),())) (ynf a0 a1):=by
 have hb:a0.2.2.1.length*80≤2^47:=hk.1.2.2.1.1
 have h1:ysu (yOS a1 a0.2.2.1.length a0 [])=some (bif yB2 a0 a1 then .inl (yC3 ((List.range a0.2.2.1.length).foldl (fun n (i:Nat)=>n++ [yiH a0 i a1]) []))else .inr (yO6 0 false)) :=
  zhU (step:=ydK) a0.2.2.1.length (fun i s=>yq1 a1 a0.2.2.1.length i a0 s) (fun(i:Nat)=>yA a0 i a1) (fun n (i:Nat)=>n++ [yiH a0 i a1]) (fun i s=>s.length=i) (fun s=> .inl (yC3 s)) _ (fun i s hi hs=>⟨by
   simp only[ydK,yq1,yrz,zkw (show(i:Int)<a0.2.2.1.length by omega),cond_true,wq ((i:Int)+1) (by omega) (by omega),Int.natCast_add,Int.natCast_one,Int.toNat_natCast,zkV,yGy a0 i a1 (zkP hi),yhh,zkF];rw[show zkj s.length ([yiH a0 i a1]:List Int).length 8=true from zkD.2 (by simp only[List.length_cons,List.length_nil]; omega)]
   cases yA a0 i a1<;>rfl,fun _=>by simp[hs]⟩) (fun s _=>by simp only[ydK,yq1,yrz,zk1 (Int.le_refl _),cond_false]) [] rfl _ (by show _<18446744073709551616; omega)
 unfold ywx ynf yqx ycs;rw[h1,yof,List.nil_append];cases yB2 a0 a1<;>rfl
def yF1:Con:=⟨ysJ,yBL,fun x=>(fun n=>some ((n.1,n.2,()),())) (ynf x.1 x.2.1)⟩
theorem yYT:ConOk prog 122 yF1:=(yV0).mono (fun x r hk h=>(yYx x.1 x.2.1 hk).trans h)
def ywO:Code:=(f48.body).getD .skip
def yFf:Env:=zku TT [(122,yF1)] []
theorem yU8:FrOk prog ⟨yFf,28,fun _=>none⟩ ywO:=zky yg yh ⟨yYT,trivial⟩
def yHu:Nat→Option Seg:=fun _=>none
def yeg:Shape:=⟨[(1,false,[.ptr 0 0]),(3,false,[.int .i64])],[(0,[.int .i64,.int .i64,.int .i64,.br tM,.int .i64,.int .i64,.int .i64,.int .i64,.int .i64,.br tW,.int .i64,.bool,.bool])],[]⟩
def yjj:Shape:=⟨[(1,false,[.ptr 0 0]),(3,false,[.ci .i64 0])],[(0,[.int .i64,.int .i64,.int .i64,.br tM,.int .i64,.int .i64,.int .i64,.int .i64,.int .i64,.br tW,.int .i64,.bool,.bool])],[]⟩
def yjf:Shape:=⟨[],[],[]⟩
def yjo:Shape:=⟨[(2,false,[.bool])],[],[]⟩
abbrev ytU (v0:Int) (v1:dA):(yeg).X:=((((),()),(v0,()),()),((v1.1,v1.2.1.1,v1.2.1.2,v1.2.2.1,v1.2.2.2.1,v1.2.2.2.2.1,v1.2.2.2.2.2.1,v1.2.2.2.2.2.2.1,v1.2.2.2.2.2.2.2.1,v1.2.2.2.2.2.2.2.2.1,v1.2.2.2.2.2.2.2.2.2.1,v1.2.2.2.2.2.2.2.2.2.2.1,v1.2.2.2.2.2.2.2.2.2.2.2,()),()),())
abbrev ySt (v0:dA):(yjj).X:=((((),()),((),()),()),((v0.1,v0.2.1.1,v0.2.1.2,v0.2.2.1,v0.2.2.2.1,v0.2.2.2.2.1,v0.2.2.2.2.2.1,v0.2.2.2.2.2.2.1,v0.2.2.2.2.2.2.2.1,v0.2.2.2.2.2.2.2.2.1,v0.2.2.2.2.2.2.2.2.2.1,v0.2.2.2.2.2.2.2.2.2.2.1,v0.2.2.2.2.2.2.2.2.2.2.2,()),()),())
abbrev ySq  :(yjf).X:=((),(),())
abbrev ySx (v0:Bool):(yjo).X:=(((v0,()),()),(),())
def yuA (v0 v1 v2 v3:Int) (v4:List dM) (v5 v6 v7 v8 v9:Int) (v10:List dW) (v11:Int) (v12 v13:Bool):Option ((yeg).X ⊕ ((yjf).X ⊕ (yjo).X)) :=bif(ltb v0 v3)then bif(ltb v0 20)then let r2:=ynf (v1,(v2,v3),v4,v5,v6,v7,v8,v9,v10,v11,v12,v13) v0;bif r2.2 then bif(r2.1 !=0)then some (.inr (.inr (((false,()),()),(),()))) else some (.inl ((((),()),((i64.wrap (v0+1)),()),()),((v1,v2,v3,v4,v5,v6,v7,v8,v9,v10,v11,v12,v13,()),()),())) else some (.inl ((((),()),((i64.wrap (v0+1)),()),()),((v1,v2,v3,v4,v5,v6,v7,v8,v9,v10,v11,v12,v13,()),()),())) else some (.inr (.inl ((),(),()))) else some (.inr (.inl ((),(),())))
def yer (x:(yeg).X):=yuA x.1.2.1.1 x.2.1.1.1 x.2.1.1.2.1 x.2.1.1.2.2.1 x.2.1.1.2.2.2.1 x.2.1.1.2.2.2.2.1 x.2.1.1.2.2.2.2.2.1 x.2.1.1.2.2.2.2.2.2.1 x.2.1.1.2.2.2.2.2.2.2.1 x.2.1.1.2.2.2.2.2.2.2.2.1 x.2.1.1.2.2.2.2.2.2.2.2.2.1 x.2.1.1.2.2.2.2.2.2.2.2.2.2.1 x.2.1.1.2.2.2.2.2.2.2.2.2.2.2.1 x.2.1.1.2.2.2.2.2.2.2.2.2.2.2.2.1
def yEz (x:(yjj).X):(yeg).X:=((((),()),(0,()),()),((x.2.1.1.1,x.2.1.1.2.1,x.2.1.1.2.2.1,x.2.1.1.2.2.2.1,x.2.1.1.2.2.2.2.1,x.2.1.1.2.2.2.2.2.1,x.2.1.1.2.2.2.2.2.2.1,x.2.1.1.2.2.2.2.2.2.2.1,x.2.1.1.2.2.2.2.2.2.2.2.1,x.2.1.1.2.2.2.2.2.2.2.2.2.1,x.2.1.1.2.2.2.2.2.2.2.2.2.2.1,x.2.1.1.2.2.2.2.2.2.2.2.2.2.2.1,x.2.1.1.2.2.2.2.2.2.2.2.2.2.2.2.1,()),()),())
def yFV:Code:=(zeJ ywO 64 52).getD .skip
theorem yUY:zeJ ywO 64 13=some (.block 0 (.loop yFV)):=by kernel_rfl
theorem yWF (x:(yeg).X):zhu ⟨yFf,28,yHu⟩ 0 yFV 52 yeg yjf yjo x=yer x:=by kernel_rfl
def yED (x:(yjj).X):Nat:=18446744073709551616
def yvC (x:(yjj).X):Option ((yjf).X ⊕ (yjo).X):=zF yer (yED x) (yEz x)
def yFb:Seg:=⟨yjj,yjf,yjo,yvC⟩
def yXR:Nat→Option Seg:=fun q=>bif Nat.beq q 13 then some yFb else yHu q
theorem yU9:FrOk prog ⟨yFf,28,yXR⟩ ywO:=(yU8).loop (sg:=yFb) yeg yEz (by decide) yUY yer yED (by decide) (fun _=>rfl) (fun x r _ h=>h) yWF
abbrev ywR:List Par:= [.rd tA]
abbrev yFk:List OT:= [⟨false,tB,.fz⟩]
def yzr (a0:dA):Option (zaY yFk×zak ywR) :=zkr (yvC ((((),()),((),()),()),((a0.1,a0.2.1.1,a0.2.1.2,a0.2.2.1,a0.2.2.2.1,a0.2.2.2.2.1,a0.2.2.2.2.2.1,a0.2.2.2.2.2.2.1,a0.2.2.2.2.2.2.2.1,a0.2.2.2.2.2.2.2.2.1,a0.2.2.2.2.2.2.2.2.2.1,a0.2.2.2.2.2.2.2.2.2.2.1,a0.2.2.2.2.2.2.2.2.2.2.2,()),()),())) (fun y2 =>some ((true,()),())) (fun y2 =>some ((y2.1.1.1,()),()))
theorem yYM:ConOk prog 48 ⟨ywR,yFk,fun x=>yzr x.1⟩:=zkG (yU9) func48 ntmps48.symm fun x=>by kernel_rfl
def ypP (a0:dA):Bool:=yY8 a0
theorem yZU (a0:dA) (hk:zjw ywR (a0,())):yzr a0=(fun n=>some ((n,()),())) (ypP a0):=by
 have h1:yvC (ySt a0)=some (bif(List.range (min a0.2.1.2.toNat 20)).any (fun(s:Nat)=>(yqx a0 s).2&&(yqx a0 s).1 !=0)then .inr (ySx false)else .inl ySq) :=
  zjh (step:=yer) (fun i=>ytU i a0) (min a0.2.1.2.toNat 20) _ _ _ (fun i hi=>by
   simp only[yer,ytU,yuA,zkw (show(i:Int)<a0.2.1.2 by omega),cond_true,wq ((i:Int)+1) (by omega) (by omega),Int.natCast_add,Int.natCast_one,Int.toNat_natCast,zkw (show(i:Int)<20 by omega),zkV,ynf]
   cases(yqx a0 i).2<;>cases((yqx a0 i).1 !=0)<;>rfl) (by
   simp only[yer,ytU,yuA];by_cases h:a0.2.1.2≤((min a0.2.1.2.toNat 20:Nat):Int)
   ·rw[zk1 h]; rfl
   ·rw[zkw (by omega),zk1 (show(20:Int)≤((min a0.2.1.2.toNat 20:Nat):Int)by omega)]; rfl) _ (by show _<18446744073709551616; omega)
 unfold yzr ypP yY8;rw[h1,List.all_eq_not_any_not]; simp only[Bool.not_not];cases(List.range (min a0.2.1.2.toNat 20)).any (fun(s:Nat)=>(yqx a0 s).2&&(yqx a0 s).1 !=0)<;>rfl
def yHx:Con:=⟨ywR,yFk,fun x=>(fun n=>some ((n,()),())) (ypP x.1)⟩
theorem yZ0:ConOk prog 48 yHx:=(yYM).mono (fun x r hk h=>(yZU x.1 hk).trans h)
def ylO:Code:=(f49.body).getD .skip
def ysm:Env:=zku TT [] []
theorem yI7:FrOk prog ⟨ysm,26,fun _=>none⟩ ylO:=zky yg yh trivial
def yzA:Nat→Option Seg:=fun _=>none
def ycP:Shape:=⟨[(0,false,[.br tI]),(1,false,[.br tI]),(5,false,[.int .i64])],[],[]⟩
def yhQ:Shape:=⟨[(0,false,[.br tI]),(1,false,[.br tI]),(5,false,[.ci .i64 0])],[],[]⟩
def yhB:Shape:=⟨[],[],[]⟩
def yh8:Shape:=⟨[(4,false,[.bool])],[],[]⟩
def ylI (v0 v1:List Int) (v2:Int):Option ((ycP).X ⊕ ((yhB).X ⊕ (yh8).X)) :=bif(ltb v2 (v0.length:Int))then bif(inb v2 v0.length)then bif(inb v2 v1.length)then bif((nth v0 v2 0) !=(nth v1 v2 0))then some (.inr (.inr (((false,()),()),(),()))) else some (.inl (((v0,()),(v1,()),((i64.wrap (v2+1)),()),()),(),())) else none else none else some (.inr (.inl ((),(),())))
def ybM (x:(ycP).X):=ylI x.1.1.1 x.1.2.1.1 x.1.2.2.1.1
def yuU (x:(yhQ).X):(ycP).X:=(((x.1.1.1,()),(x.1.2.1.1,()),(0,()),()),(),())
def yw7:Code:=(zeJ ylO 64 116).getD .skip
theorem yIC:zeJ ylO 64 29=some (.block 0 (.loop yw7)):=by kernel_rfl
theorem yKh (x:(ycP).X):zhu ⟨ysm,26,yzA⟩ 0 yw7 116 ycP yhB yh8 x=ybM x:=by kernel_rfl
def yu3 (x:(yhQ).X):Nat:=18446744073709551616
def ymJ (x:(yhQ).X):Option ((yhB).X ⊕ (yh8).X):=zF ybM (yu3 x) (yuU x)
def yvj:Seg:=⟨yhQ,yhB,yh8,ymJ⟩
def yKQ:Nat→Option Seg:=fun q=>bif Nat.beq q 29 then some yvj else yzA q
theorem yI8:FrOk prog ⟨ysm,26,yKQ⟩ ylO:=(yI7).loop (sg:=yvj) ycP yuU (by decide) yIC ybM yu3 (by decide) (fun _=>rfl) (fun x r _ h=>h) yKh
abbrev yl2:List Par:= [.rd tL,.rd tL]
abbrev ys7:List OT:= [⟨false,tB,.fz⟩]
def ypm (a0 a1:List Int):Option (zaY ys7×zak yl2) :=bif((a0.length:Int) !=(a1.length:Int))then some ((false,()),()) else zkr (ymJ (((a0,()),(a1,()),((),()),()),(),())) (fun y0 =>some ((true,()),())) (fun y0 =>some ((y0.1.1.1,()),()))
theorem yMs:ConOk prog 49 ⟨yl2,ys7,fun x=>ypm x.1 x.2.1⟩:=zkG (yI8) func49 ntmps49.symm fun x=>by kernel_rfl
def yfa (a0 a1:List Int):Bool:=decide (a0=a1)
theorem yPn (a0 a1:List Int) (hk:zjw yl2 (a0,a1,())):ypm a0 a1=(fun n=>some ((n,()),())) (yfa a0 a1):=by
 have hb:a0.length*8≤2^47:=hk.1.1
 have hl:a0.length=a1.length→ymJ (((a0,()),(a1,()),((),()),()),(),())=some (bif(List.range a0.length).any (fun i=>a0.getD i 0 !=a1.getD i 0)then .inr (((false,()),()),(),())else .inl ((),(),())):=fun hL =>
  zjh (step:=ybM) (fun i=>(((a0,()),(a1,()),((i:Int),()),()),(),())) a0.length (fun i=>a0.getD i 0 !=a1.getD i 0) _ _ (fun i hi=>by
   simp only[ybM,ylI,zkP hi,zkP (hL ▸ hi),zkQ,zkw (show(i:Int)<a0.length by omega),cond_true,wq ((i:Int)+1) (by omega) (by omega),Int.natCast_add,Int.natCast_one]
   cases(a0.getD i 0 !=a1.getD i 0)<;>rfl) (by simp only[ybM,ylI,zk1 (Int.le_refl _),cond_false]) _ (by show _<18446744073709551616; omega)
 unfold ypm yfa;by_cases h:a0.length=a1.length
 ·rw[show((a0.length:Int) !=(a1.length:Int))=false by simp[h],zkX,hl h]
  by_cases e:a0=a1
  ·subst e
   have:(List.range a0.length).any (fun i=>a0.getD i 0 !=a0.getD i 0)=false:=by simp
   rw[this,decide_eq_true rfl];rfl
  ·have:(List.range a0.length).any (fun i=>a0.getD i 0 !=a1.getD i 0)=true:=by
    rcases Bool.eq_false_or_eq_true ((List.range a0.length).any (fun i=>a0.getD i 0 !=a1.getD i 0))with h2 | h2
    ·exact h2
    ·refine absurd (List.ext_getElem h fun i h3 h4=> ?_) e
     rw[List.any_eq_false]at h2;have:=h2 i (List.mem_range.2 h3);simpa [h3,h4]using this
   rw[this,decide_eq_false e];rfl
 ·rw[show((a0.length:Int) !=(a1.length:Int))=true from bne_iff_ne.2 (by omega),zkY,decide_eq_false (fun e=>h (congrArg _ e))]
theorem yY5 (a:List Int):yfa a a=true:=by unfold yfa; simp
def yz1:Con:=⟨yl2,ys7,fun x=>(fun n=>some ((n,()),())) (yfa x.1 x.2.1)⟩
theorem yP7:ConOk prog 49 yz1:=(yMs).mono (fun x r hk h=>(yPn x.1 x.2.1 hk).trans h)
end
end Go.Tf
