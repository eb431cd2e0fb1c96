/- Functions of the program, and what they come to. -/
import Derived.Test.YtolmneojjjpnjaaGreatBuiltTornF1
namespace Go.Tf
noncomputable section
open Go.Proofs Go.Proofs.Tryz IntKind
set_option synthInstance.maxHeartbeats 400000
set_option synthInstance.maxSize 10000
set_option linter.unusedVariables false
set_option linter.unusedSimpArgs false
set_option maxRecDepth 100000
def ytn:Code:=(f185.body).getD .skip
def yDl:Env:=zkw TT [] []
theorem yUB:FrOk prog ⟨yDl,17,fun _=>none⟩ ytn:=zkA mixed yf trivial
def yHV:Nat→Option Seg:=fun _=>none
def ydE:Shape:=⟨[(3,false,[ii]),(6,false,[.br tI]),(7,false,[ii]),(8,false,[ii])],[],[]⟩
def yiI:Shape:=⟨[(3,false,[.ci .i64 0]),(6,false,[.br tI]),(7,false,[ii]),(8,false,[.ci .i64 0])],[],[]⟩
def yit:Shape:=⟨[(3,false,[ii])],[],[]⟩
def yni:Shape:=⟨[],[],[]⟩
abbrev ysg (v0:Int) (v1:List Int) (v2 v3:Int):(ydE).X:=(((v0,()),(v1,()),(v2,()),(v3,()),()),(),())
abbrev yRC (v0:List Int) (v1:Int):(yiI).X:=((((),()),(v0,()),(v1,()),((),()),()),(),())
abbrev yE3 (v0:Int):(yit).X:=(((v0,()),()),(),())
def ysQ (v0:Int) (v1:List Int) (v2 v3:Int):Option ((ydE).X ⊕ ((yit).X ⊕ (yni).X)) :=bif(ltb v3 v2)then bif(inb v3 v1.length)then some (.inl ((((i64.wrap ((BitVec.ofInt IntKind.i64.bits v0 ^^^ BitVec.ofInt IntKind.i64.bits (nth v1 v3 0)).toNat:Int)),()),(v1,()),(v2,()),((i64.wrap (v3+1)),()),()),(),())) else none else some (.inr (.inl (((v0,()),()),(),())))
def yee (x:(ydE).X):=ysQ x.1.1.1 x.1.2.1.1 x.1.2.2.1.1 x.1.2.2.2.1.1
def yEz (x:(yiI).X):(ydE).X:=(((0,()),(x.1.2.1.1,()),(x.1.2.2.1.1,()),(0,()),()),(),())
def yF8:Code:=(zd7 ytn 64 116).getD .skip
theorem yT5:zd7 ytn 64 29=some (.block 0 (.loop yF8)):=by kernel_rfl
theorem yWM (x:(ydE).X):zhu ⟨yDl,17,yHV⟩ 0 yF8 116 ydE yit yni x=yee x:=by kernel_rfl
def yEQ (x:(yiI).X):Nat:=18446744073709551616
def ytO (x:(yiI).X):Option ((yit).X ⊕ (yni).X):=zF yee (yEQ x) (yEz x)
def yFw:Seg:=⟨yiI,yit,yni,ytO⟩
def yXl:Nat→Option Seg:=fun q=>bif Nat.beq q 29 then some yFw else yHV q
theorem yUC:FrOk prog ⟨yDl,17,yXl⟩ ytn:=(yUB).loop (sg:=yFw) ydE yEz (by decide) yT5 yee yEQ (by decide) (fun _=>rfl) (fun x r _ h=>h) yWM
abbrev yt5:List Par:= [.rd tL]
abbrev yDK:List OT:= [⟨false,tI,.fz⟩]
def yyh (a0:List Int):Option (zaY yDK×zak yt5) :=zkt (ytO ((((),()),(a0,()),((a0.length:Int),()),((),()),()),(),())) (fun y0 =>some ((y0.1.1.1,()),())) (fun y0 =>none)
theorem yYR:ConOk prog 185 ⟨yt5,yDK,fun x=>yyh x.1⟩:=zkI (yUC) func185 ntmps185.symm fun x=>by kernel_rfl
def ycN (a0:List Int):Int:=yaF a0
theorem y1u (a0:List Int) (hk:zjx yt5 (a0,())):yyh a0=(fun n=>some ((n,()),())) (ycN a0):=by
 have hb:a0.length*8≤2^47:=hk.1.1
 have h1:ytO (yRC a0 a0.length)=some (.inl (yE3 (yaF a0))) :=
  zkx (step:=yee) a0 0 (fun i s=>ysg s a0 a0.length i) xw (fun _ _=>True) (fun s=> .inl (yE3 s)) (fun i s hi _=>⟨by
   simp only[yee,ysg,ysQ,zky (show(i:Int)<a0.length by omega),cond_true,wq ((i:Int)+1) (by omega) (by omega),Int.natCast_add,Int.natCast_one,Int.toNat_natCast,zkR hi,zkS]; rfl,trivial⟩) (fun s _=>by simp only[yee,ysg,ysQ,zk3 (Int.le_refl _),cond_false]) 0 trivial _ (by show _<18446744073709551616; omega)
 unfold yyh ycN;rw[h1]; rfl
def yps:Con:=⟨yt5,yDK,fun x=>(fun n=>some ((n,()),())) (ycN x.1)⟩
theorem yBb:ConOk prog 185 yps:=(yYR).mono (fun x r hk h=>(y1u x.1 hk).trans h)
def yNj:Code:=(f166.body).getD .skip
def yNx:Env:=zkw TT [(185,yps)] []
theorem yJa:FrOk prog ⟨yNx,5,fun _=>none⟩ yNj:=zkA mixed yf ⟨yBb,trivial⟩
abbrev yp1:List Par:= [.rd tL]
abbrev yp4:List OT:= [⟨false,tI,.fz⟩]
def ywH (a0:List Int):Option (zaY yp4×zak yp1) :=let r1:=ycN a0;some ((r1,()),())
theorem yKG:ConOk prog 166 ⟨yp1,yp4,fun x=>ywH x.1⟩:=zkI (yJa) func166 ntmps166.symm fun x=>by kernel_rfl
def yjY (a0:List Int):Int :=let r1:=ycN a0;r1
def ywd:Con:=⟨yp1,yp4,fun x=>(fun n=>some ((n,()),())) (yjY x.1)⟩
theorem yMs (a0:List Int):ywH a0=(fun n=>some ((n,()),())) (yjY a0):=zkV (p:=fun(n:Int)=>((n,()),())) rfl
theorem yMD:ConOk prog 166 ywd:=(yKG).mono (fun x r _ h=>(yMs x.1).trans h)
def y0j:Code:=(f168.body).getD .skip
def y0R:Env:=zkw TT [(81,yR)] []
theorem yQx:FrOk prog ⟨y0R,34,fun _=>none⟩ y0j:=zkA mixed yf ⟨yac,trivial⟩
abbrev yrj:List Par:= [.rd tA,.rd tI,.rd tI]
abbrev yAy:List OT:= [⟨false,tB,.fz⟩]
def yvD (a0:dA) (a1 a2:Int):Option (zaY yAy×zak yrj) :=let r1:=yi a1 0 (i64.wrap ((a0.2.2.1.length:Int)-1));bif r1 then bif(inb a1 a0.2.2.1.length)then bif(!((((nth a0.2.2.1 a1 ([],[],false,[])).2).2).1))then bif(!(a0.2.2.2.1 !=a1))then some (((ltb a2 a0.2.2.2.2.1),()),()) else some ((true,()),()) else some ((false,()),()) else none else some ((false,()),())
theorem yVO:ConOk prog 168 ⟨yrj,yAy,fun x=>yvD x.1 x.2.1 x.2.2.1⟩:=zkI (yQx) func168 ntmps168.symm fun x=>by kernel_rfl
def yf1 (a0:dA) (a1 a2:Int):Bool:=ycL a0 a1 a2
theorem yYc (a0:dA) (a1 a2:Int) (hk:zjx yrj (a0,a1,a2,())):yvD a0 a1 a2=(fun n=>some ((n,()),())) (yf1 a0 a1 a2):=by
 have hb:a0.2.2.1.length*80≤2^47:=hk.1.2.2.1.1;unfold yvD yf1 ycL yc;rw[yar,yoa (show a0.2.2.1.length≤1152921504606846976 by omega),bne_comm];cases inb a1 a0.2.2.1.length
 ·rfl
 ·cases(nth a0.2.2.1 a1 ([],[],false,[])).2.2.1<;>cases(a1 !=a0.2.2.2.1)<;>rfl
def yuP:Con:=⟨yrj,yAy,fun x=>(fun n=>some ((n,()),())) (yf1 x.1 x.2.1 x.2.2.1)⟩
theorem yIz:ConOk prog 168 yuP:=(yVO).mono (fun x r hk h=>(yYc x.1 x.2.1 x.2.2.1 hk).trans h)
def ycV:Code:=(f98.body).getD .skip
def ygW:Env:=zkw TT [(111,ynr),(139,yfw),(142,yuO),(166,ywd),(167,yp7),(168,yuP)] []
theorem yKf:FrOk prog ⟨ygW,70,fun _=>none⟩ ycV:=zkA mixed yf ⟨yx0,yj0,yIy,yMD,yFc,yIz,trivial⟩
def yyK:Nat→Option Seg:=fun _=>none
def ybj:Shape:=⟨[(0,false,[.ptr 1000000000 0]),(1,false,[ii]),(7,false,[.at 800000000]),(28,false,[.br tI]),(29,false,[ii]),(30,false,[ii])],[(1000000000,oM)],[(800000000,tI,.fz),(800000001,tM,oA),(800000002,tW,oE)]⟩
def yeD:Shape:=⟨[(0,false,[.ptr 1000000000 0]),(1,false,[ii]),(7,false,[.at 800000000]),(28,false,[.br tI]),(29,false,[ii]),(30,false,[.ci .i64 0])],[(1000000000,oM)],[(800000000,tI,.fz),(800000001,tM,oA),(800000002,tW,oE)]⟩
def yex:Shape:=⟨[(0,false,[.ptr 1000000000 0]),(1,false,[ii]),(7,false,[.at 800000000])],[(1000000000,oM)],[(800000000,tI,.fz),(800000001,tM,oA),(800000002,tW,oE)]⟩
def yhL:Shape:=⟨[],[],[]⟩
abbrev ylv (v0:Int) (v1:List Int) (v2 v3:Int) (v4:dA) (v5:List Int):(ybj).X:=((((),()),(v0,()),((),()),(v1,()),(v2,()),(v3,()),()),((v4.1,v4.2.1.1,v4.2.1.2,(),v4.2.2.2.1,v4.2.2.2.2.1,v4.2.2.2.2.2.1,v4.2.2.2.2.2.2.1,v4.2.2.2.2.2.2.2.1,(),v4.2.2.2.2.2.2.2.2.2.1,v4.2.2.2.2.2.2.2.2.2.2.1,v4.2.2.2.2.2.2.2.2.2.2.2,()),()),(v5,v4.2.2.1,v4.2.2.2.2.2.2.2.2.1,()))
abbrev yJj (v0:Int) (v1:List Int) (v2:Int) (v3:dA) (v4:List Int):(yeD).X:=((((),()),(v0,()),((),()),(v1,()),(v2,()),((),()),()),((v3.1,v3.2.1.1,v3.2.1.2,(),v3.2.2.2.1,v3.2.2.2.2.1,v3.2.2.2.2.2.1,v3.2.2.2.2.2.2.1,v3.2.2.2.2.2.2.2.1,(),v3.2.2.2.2.2.2.2.2.2.1,v3.2.2.2.2.2.2.2.2.2.2.1,v3.2.2.2.2.2.2.2.2.2.2.2,()),()),(v4,v3.2.2.1,v3.2.2.2.2.2.2.2.2.1,()))
abbrev yvs (v0:Int) (v1:dA) (v2:List Int):(yex).X:=((((),()),(v0,()),((),()),()),((v1.1,v1.2.1.1,v1.2.1.2,(),v1.2.2.2.1,v1.2.2.2.2.1,v1.2.2.2.2.2.1,v1.2.2.2.2.2.2.1,v1.2.2.2.2.2.2.2.1,(),v1.2.2.2.2.2.2.2.2.2.1,v1.2.2.2.2.2.2.2.2.2.2.1,v1.2.2.2.2.2.2.2.2.2.2.2,()),()),(v2,v1.2.2.1,v1.2.2.2.2.2.2.2.2.1,()))
def ylJ (v0:Int) (v1:List Int) (v2 v3 v4 v5 v6 v7 v8 v9 v10 v11 v12:Int) (v13 v14:Bool) (v15:List Int) (v16:List dM) (v17:List dW):Option ((ybj).X ⊕ ((yex).X ⊕ (yhL).X)) :=bif(ltb v3 v2)then bif(inb v3 v1.length)then let r5:=yf0 (v5,v6) v0 v3;bif(inb r5 v15.length)then some (.inl ((((),()),(v0,()),((),()),(v1,()),(v2,()),((i64.wrap (v3+1)),()),()),((v4,v5,v6,(),v7,v8,v9,v10,v11,(),v12,v13,v14,()),()),((v15.set (r5).toNat (nth v1 v3 0)),v16,v17,()))) else none else none else some (.inr (.inl ((((),()),(v0,()),((),()),()),((v4,v5,v6,(),v7,v8,v9,v10,v11,(),v12,v13,v14,()),()),(v15,v16,v17,()))))
def yby (x:(ybj).X):=ylJ x.1.2.1.1 x.1.2.2.2.1.1 x.1.2.2.2.2.1.1 x.1.2.2.2.2.2.1.1 x.2.1.1.1 x.2.1.1.2.1 x.2.1.1.2.2.1 x.2.1.1.2.2.2.2.1 x.2.1.1.2.2.2.2.2.1 x.2.1.1.2.2.2.2.2.2.1 x.2.1.1.2.2.2.2.2.2.2.1 x.2.1.1.2.2.2.2.2.2.2.2.1 x.2.1.1.2.2.2.2.2.2.2.2.2.2.1 x.2.1.1.2.2.2.2.2.2.2.2.2.2.2.1 x.2.1.1.2.2.2.2.2.2.2.2.2.2.2.2.1 x.2.2.1 x.2.2.2.1 x.2.2.2.2.1
def yu3 (x:(yeD).X):(ybj).X:=((((),()),(x.1.2.1.1,()),((),()),(x.1.2.2.2.1.1,()),(x.1.2.2.2.2.1.1,()),(0,()),()),((x.2.1.1.1,x.2.1.1.2.1,x.2.1.1.2.2.1,(),x.2.1.1.2.2.2.2.1,x.2.1.1.2.2.2.2.2.1,x.2.1.1.2.2.2.2.2.2.1,x.2.1.1.2.2.2.2.2.2.2.1,x.2.1.1.2.2.2.2.2.2.2.2.1,(),x.2.1.1.2.2.2.2.2.2.2.2.2.2.1,x.2.1.1.2.2.2.2.2.2.2.2.2.2.2.1,x.2.1.1.2.2.2.2.2.2.2.2.2.2.2.2.1,()),()),(x.2.2.1,x.2.2.2.1,x.2.2.2.2.1,()))
def yv6:Code:=(zd7 ycV 64 244).getD .skip
theorem yJ8:zd7 ycV 64 61=some (.block 0 (.loop yv6)):=by kernel_rfl
theorem yKN (x:(ybj).X):zhu ⟨ygW,70,yyK⟩ 0 yv6 244 ybj yex yhL x=yby x:=by kernel_rfl
def yvc (x:(yeD).X):Nat:=18446744073709551616
def yml (x:(yeD).X):Option ((yex).X ⊕ (yhL).X):=zF yby (yvc x) (yu3 x)
def yvU:Seg:=⟨yeD,yex,yhL,yml⟩
def ynD:Nat→Option Seg:=fun q=>bif Nat.beq q 61 then some yvU else yyK q
theorem yKg:FrOk prog ⟨ygW,70,ynD⟩ ycV:=(yKf).loop (sg:=yvU) ybj yu3 (by decide) yJ8 yby yvc (by decide) (fun _=>rfl) (fun x r _ h=>h) yKN
def ya6:Shape:=⟨[(0,false,[.ptr 1000000000 0]),(1,false,[ii]),(46,false,[.at 800000000]),(47,false,[ii]),(48,false,[ii])],[(1000000000,oM)],[(800000000,tI,.fz),(800000001,tM,oA),(800000002,tW,oE)]⟩
def ydQ:Shape:=⟨[(0,false,[.ptr 1000000000 0]),(1,false,[ii]),(46,false,[.at 800000000]),(47,false,[ii]),(48,false,[.ci .i64 0])],[(1000000000,oM)],[(800000000,tI,.fz),(800000001,tM,oA),(800000002,tW,oE)]⟩
def ydO:Shape:=⟨[],[(1000000000,oI)],[(800000000,tM,oA),(800000001,tW,oE)]⟩
def ydS:Shape:=⟨[(6,false,[.bool])],[(1000000000,oI)],[(800000000,tM,oA),(800000001,tW,oE)]⟩
abbrev ykx (v0 v1 v2:Int) (v3:dA) (v4:List Int):(ya6).X:=((((),()),(v0,()),((),()),(v1,()),(v2,()),()),((v3.1,v3.2.1.1,v3.2.1.2,(),v3.2.2.2.1,v3.2.2.2.2.1,v3.2.2.2.2.2.1,v3.2.2.2.2.2.2.1,v3.2.2.2.2.2.2.2.1,(),v3.2.2.2.2.2.2.2.2.2.1,v3.2.2.2.2.2.2.2.2.2.2.1,v3.2.2.2.2.2.2.2.2.2.2.2,()),()),(v4,v3.2.2.1,v3.2.2.2.2.2.2.2.2.1,()))
abbrev yIv (v0 v1:Int) (v2:dA) (v3:List Int):(ydQ).X:=((((),()),(v0,()),((),()),(v1,()),((),()),()),((v2.1,v2.2.1.1,v2.2.1.2,(),v2.2.2.2.1,v2.2.2.2.2.1,v2.2.2.2.2.2.1,v2.2.2.2.2.2.2.1,v2.2.2.2.2.2.2.2.1,(),v2.2.2.2.2.2.2.2.2.2.1,v2.2.2.2.2.2.2.2.2.2.2.1,v2.2.2.2.2.2.2.2.2.2.2.2,()),()),(v3,v2.2.2.1,v2.2.2.2.2.2.2.2.2.1,()))
abbrev ykz (v0:dA):(ydO).X:=((),((v0.1,v0.2.1.1,v0.2.1.2,(),v0.2.2.2.1,v0.2.2.2.2.1,v0.2.2.2.2.2.1,v0.2.2.2.2.2.2.1,v0.2.2.2.2.2.2.2.1,(),v0.2.2.2.2.2.2.2.2.2.1,v0.2.2.2.2.2.2.2.2.2.2.1,v0.2.2.2.2.2.2.2.2.2.2.2,()),()),(v0.2.2.1,v0.2.2.2.2.2.2.2.2.1,()))
abbrev ykB (v0:Bool) (v1:dA):(ydS).X:=(((v0,()),()),((v1.1,v1.2.1.1,v1.2.1.2,(),v1.2.2.2.1,v1.2.2.2.2.1,v1.2.2.2.2.2.1,v1.2.2.2.2.2.2.1,v1.2.2.2.2.2.2.2.1,(),v1.2.2.2.2.2.2.2.2.2.1,v1.2.2.2.2.2.2.2.2.2.2.1,v1.2.2.2.2.2.2.2.2.2.2.2,()),()),(v1.2.2.1,v1.2.2.2.2.2.2.2.2.1,()))
def yk1 (v0 v1 v2 v3 v4 v5 v6 v7 v8 v9 v10 v11:Int) (v12 v13:Bool) (v14:List Int) (v15:List dM) (v16:List dW):Option ((ya6).X ⊕ ((ydO).X ⊕ (ydS).X)) :=bif(ltb v2 v1)then bif(inb v2 v14.length)then let r10:=yf1 (v3,(v4,v5),v15,v6,v7,v8,v9,v10,v16,v11,v12,v13) v2 v0;bif r10 then let r11:=yh5 v0;bnd (yc9 (v3,(v4,v5),v15,v6,v7,v8,v9,v10,v16,v11,v12,v13) v2 r11 ([(nth v14 v2 0)]:List Int)) fun r12 =>bif(!r12.1.1)then some (.inr (.inr (((false,()),()),((r12.2.1.1,r12.2.1.2.1.1,r12.2.1.2.1.2,(),r12.2.1.2.2.2.1,r12.2.1.2.2.2.2.1,r12.2.1.2.2.2.2.2.1,r12.2.1.2.2.2.2.2.2.1,r12.2.1.2.2.2.2.2.2.2.1,(),r12.2.1.2.2.2.2.2.2.2.2.2.1,r12.2.1.2.2.2.2.2.2.2.2.2.2.1,r12.2.1.2.2.2.2.2.2.2.2.2.2.2,()),()),(r12.2.1.2.2.1,r12.2.1.2.2.2.2.2.2.2.2.1,())))) else some (.inl ((((),()),(v0,()),((),()),(v1,()),((i64.wrap (v2+1)),()),()),((r12.2.1.1,r12.2.1.2.1.1,r12.2.1.2.1.2,(),r12.2.1.2.2.2.1,r12.2.1.2.2.2.2.1,r12.2.1.2.2.2.2.2.1,r12.2.1.2.2.2.2.2.2.1,r12.2.1.2.2.2.2.2.2.2.1,(),r12.2.1.2.2.2.2.2.2.2.2.2.1,r12.2.1.2.2.2.2.2.2.2.2.2.2.1,r12.2.1.2.2.2.2.2.2.2.2.2.2.2,()),()),(v14,r12.2.1.2.2.1,r12.2.1.2.2.2.2.2.2.2.2.1,()))) else some (.inl ((((),()),(v0,()),((),()),(v1,()),((i64.wrap (v2+1)),()),()),((v3,v4,v5,(),v6,v7,v8,v9,v10,(),v11,v12,v13,()),()),(v14,v15,v16,()))) else none else some (.inr (.inl ((),((v3,v4,v5,(),v6,v7,v8,v9,v10,(),v11,v12,v13,()),()),(v15,v16,()))))
def ybg (x:(ya6).X):=yk1 x.1.2.1.1 x.1.2.2.2.1.1 x.1.2.2.2.2.1.1 x.2.1.1.1 x.2.1.1.2.1 x.2.1.1.2.2.1 x.2.1.1.2.2.2.2.1 x.2.1.1.2.2.2.2.2.1 x.2.1.1.2.2.2.2.2.2.1 x.2.1.1.2.2.2.2.2.2.2.1 x.2.1.1.2.2.2.2.2.2.2.2.1 x.2.1.1.2.2.2.2.2.2.2.2.2.2.1 x.2.1.1.2.2.2.2.2.2.2.2.2.2.2.1 x.2.1.1.2.2.2.2.2.2.2.2.2.2.2.2.1 x.2.2.1 x.2.2.2.1 x.2.2.2.2.1
def ys9 (x:(ydQ).X):(ya6).X:=((((),()),(x.1.2.1.1,()),((),()),(x.1.2.2.2.1.1,()),(0,()),()),((x.2.1.1.1,x.2.1.1.2.1,x.2.1.1.2.2.1,(),x.2.1.1.2.2.2.2.1,x.2.1.1.2.2.2.2.2.1,x.2.1.1.2.2.2.2.2.2.1,x.2.1.1.2.2.2.2.2.2.2.1,x.2.1.1.2.2.2.2.2.2.2.2.1,(),x.2.1.1.2.2.2.2.2.2.2.2.2.2.1,x.2.1.1.2.2.2.2.2.2.2.2.2.2.2.1,x.2.1.1.2.2.2.2.2.2.2.2.2.2.2.2.1,()),()),(x.2.2.1,x.2.2.2.1,x.2.2.2.2.1,()))
def yuL:Code:=(zd7 ycV 64 500).getD .skip
theorem yI3:zd7 ycV 64 125=some (.block 2 (.loop yuL)):=by kernel_rfl
theorem yJw (x:(ya6).X):zhu ⟨ygW,70,ynD⟩ 2 yuL 500 ya6 ydO ydS x=ybg x:=by kernel_rfl
def ytb (x:(ydQ).X):Nat:=18446744073709551616
def ylc (x:(ydQ).X):Option ((ydO).X ⊕ (ydS).X):=zF ybg (ytb x) (ys9 x)
def yth:Seg:=⟨ydQ,ydO,ydS,ylc⟩
def yKU:Nat→Option Seg:=fun q=>bif Nat.beq q 125 then some yth else ynD q
theorem yKh:FrOk prog ⟨ygW,70,yKU⟩ ycV:=(yKg).loop (sg:=yth) ya6 ys9 (by decide) yI3 ybg ytb (by decide) (fun _=>rfl) (fun x r _ h=>h) yJw
abbrev yg0:List Par:= [.pt tA oD,.rd tI,.rd tL]
abbrev yli:List OT:= [⟨false,tB,.fz⟩]
def yoy (a0:dA) (a1:Int) (a2:List Int):Option (zaY yli×zak yg0) :=bif(zks a0.2.1.1 8)then let r1:=ydX a0.2.1 a1;let r2:=yjY a2;bif(inb r1 (List.replicate (a0.2.1.1).toNat (0:Int)).length)then let r3:=((List.replicate (a0.2.1.1).toNat (0:Int)).set (r1).toNat r2);zkt (yml ((((),()),(a1,()),((),()),(a2,()),((a2.length:Int),()),((),()),()),((a0.1,a0.2.1.1,a0.2.1.2,(),a0.2.2.2.1,a0.2.2.2.2.1,a0.2.2.2.2.2.1,a0.2.2.2.2.2.2.1,a0.2.2.2.2.2.2.2.1,(),a0.2.2.2.2.2.2.2.2.2.1,a0.2.2.2.2.2.2.2.2.2.2.1,a0.2.2.2.2.2.2.2.2.2.2.2,()),()),(r3,a0.2.2.1,a0.2.2.2.2.2.2.2.2.1,()))) (fun y5 =>zkt (ylc ((((),()),(y5.1.2.1.1,()),((),()),((y5.2.2.1.length:Int),()),((),()),()),((y5.2.1.1.1,y5.2.1.1.2.1,y5.2.1.1.2.2.1,(),y5.2.1.1.2.2.2.2.1,y5.2.1.1.2.2.2.2.2.1,y5.2.1.1.2.2.2.2.2.2.1,y5.2.1.1.2.2.2.2.2.2.2.1,y5.2.1.1.2.2.2.2.2.2.2.2.1,(),y5.2.1.1.2.2.2.2.2.2.2.2.2.2.1,y5.2.1.1.2.2.2.2.2.2.2.2.2.2.2.1,y5.2.1.1.2.2.2.2.2.2.2.2.2.2.2.2.1,()),()),(y5.2.2.1,y5.2.2.2.1,y5.2.2.2.2.1,()))) (fun y12 =>some ((true,()),((y12.2.1.1.1,(y12.2.1.1.2.1,y12.2.1.1.2.2.1),y12.2.2.1,y12.2.1.1.2.2.2.2.1,y12.2.1.1.2.2.2.2.2.1,y12.2.1.1.2.2.2.2.2.2.1,y12.2.1.1.2.2.2.2.2.2.2.1,y12.2.1.1.2.2.2.2.2.2.2.2.1,y12.2.2.2.1,y12.2.1.1.2.2.2.2.2.2.2.2.2.2.1,y12.2.1.1.2.2.2.2.2.2.2.2.2.2.2.1,y12.2.1.1.2.2.2.2.2.2.2.2.2.2.2.2.1),()))) (fun y12 =>some ((y12.1.1.1,()),((y12.2.1.1.1,(y12.2.1.1.2.1,y12.2.1.1.2.2.1),y12.2.2.1,y12.2.1.1.2.2.2.2.1,y12.2.1.1.2.2.2.2.2.1,y12.2.1.1.2.2.2.2.2.2.1,y12.2.1.1.2.2.2.2.2.2.2.1,y12.2.1.1.2.2.2.2.2.2.2.2.1,y12.2.2.2.1,y12.2.1.1.2.2.2.2.2.2.2.2.2.2.1,y12.2.1.1.2.2.2.2.2.2.2.2.2.2.2.1,y12.2.1.1.2.2.2.2.2.2.2.2.2.2.2.2.1),())))) (fun y5 =>none) else none else none
theorem yMw:ConOk prog 98 ⟨yg0,yli,fun x=>yoy x.1 x.2.1 x.2.2.1⟩:=zkI (yKh) func98 ntmps98.symm fun x=>by kernel_rfl
def ylC (a0:dA) (a1:Int) (a2:List Int):Bool×dA:=(!(ya (yI a0 a1 a2)),yI a0 a1 a2)
def yhI (a0:dA) (a1:Int) (a2:List Int):Bool:= !(ya a0)&&(yaj a0.2.1 a1&&((a2.length:Int)==a0.2.1.1-1&&(a0.2.2.1.length:Int)==a0.2.1.1))
theorem yOM (a0:dA) (a1:Int) (a2:List Int) (hk:zjx yg0 (a0,a1,a2,())) (hq:yhI a0 a1 a2=true):yoy a0 a1 a2=(fun n=>some ((n.1,()),(n.2,()))) (ylC a0 a1 a2):=by
 simp only[yhI,Bool.and_eq_true,beq_iff_eq,Bool.not_eq_true']at hq;obtain⟨hd0,hs0,hl0,hm0⟩:=hq;have hg:=yj.1 (yad.1 hs0).1;have hp:=yk6 hs0;have hL:=y4E (N:=a0.2.1.1) (p:=yk a0.2.1 a1) (x:=yaF a2) (data:=a2) ⟨by omega,by omega⟩ hp hl0;generalize hw:(List.range a0.2.1.1.toNat).map (fun(i:Nat)=>ycS (yk a0.2.1 a1) a0.2.1.1 (yaF a2) a2 i)=W at hL;have hWl:W.length=a0.2.2.1.length:=by rw[← hw,List.length_map,List.length_range]; omega
 have hWat: ∀i:Nat,i<a0.2.2.1.length→nth W i 0=ycS (yk a0.2.1 a1) a0.2.1.1 (yaF a2) a2 i:=fun i hi=>by
  rw[← hw,zkS,zkJ (by rw[List.length_map,List.length_range]; omega)]; simp
 have h1:yml (yJj a1 a2 a2.length a0 ((List.replicate a0.2.1.1.toNat 0).set (yk a0.2.1 a1).toNat (yaF a2)))=some (.inl (yvs a1 a0 W)):=by
  have:=zkD (step:=yby) a2.length (fun i s=>ylv a1 a2 a2.length i a0 s) (fun l (i:Nat)=>l.set ((yk a0.2.1 a1+1+i).tmod a0.2.1.1).toNat (nth a2 i 0)) (fun _ s=>s.length=a0.2.1.1.toNat) (fun s=> .inl (yvs a1 a0 s)) (fun i s hi hs=>⟨by
   have hd:=yXP hs0 (show(0:Int)≤i by omega) (show(i:Int)≤a0.2.1.1-2 by omega);have he:ybP a0.2.1 a1 i=(yk a0.2.1 a1+1+i).tmod a0.2.1.1:=by unfold ybP; rw[hs0,zk2 (show(0:Int)≤i by omega),zk2 (show(i:Int)≤a0.2.1.1-2 by omega)]; rfl
   simp only[yby,ylv,ylJ,zky (show(i:Int)<a2.length by omega),cond_true,wq ((i:Int)+1) (by omega) (by omega),Int.natCast_add,Int.natCast_one,Int.toNat_natCast,zkR hi,zkX,yf0,zj6.2 (show 0≤ybP a0.2.1 a1 i∧ybP a0.2.1 a1 i<s.length by omega)]
   rw[he],by rw[List.length_set]; exact hs⟩) (fun s hs=>by simp only[yby,ylv,ylJ,zk3 (Int.le_refl _),cond_false]) ((List.replicate a0.2.1.1.toNat 0).set (yk a0.2.1 a1).toNat (yaF a2)) (by rw[List.length_set,List.length_replicate]) 18446744073709551616 (by omega)
  rw[hL]at this;exact this
 have h2:ylc (yIv a1 W.length a0 W)=some (bif ya (yI a0 a1 a2)then .inr (ykB false (yI a0 a1 a2))else .inl (ykz (yI a0 a1 a2))):=by
  have:=zkC (step:=ybg) a0.2.2.1.length (fun i s=>ykx a1 W.length i s W) (fun i s=>bif ya (ybe (yk a0.2.1 a1) a0.2.1.1 a1 a2 s i)then(.inr (ybe (yk a0.2.1 a1) a0.2.1.1 a1 a2 s i):dA ⊕ dA)else .inl (ybe (yk a0.2.1 a1) a0.2.1.1 a1 a2 s i)) (fun _ s=>s.2.2.1.length=a0.2.2.1.length∧ya s=false) id
   (fun b=>bif ya b then .inr (ykB false b)else .inl (ykz b)) (fun i s hi hs=>by
    constructor
    ·simp only[ybg,ykx,yk1,zky (show(i:Int)<W.length by omega),cond_true,wq ((i:Int)+1) (by omega) (by omega),Int.natCast_add,Int.natCast_one,Int.toNat_natCast,zkR (show i<W.length by omega),zkX,yf1,yxX,hWat i hi,ybe]
     rw[yj2 s i (yu a1) [ycS (yk a0.2.1 a1) a0.2.1.1 (yaF a2) a2 i] (by unfold ybR; rw[zkR (by rw[hs.1]; exact hi),hs.2]; rfl)];cases hlv:ycL s i a1
     ·simp only[cond_false,hs.2]
     ·simp only[zkH,ybQ,cond_true]
      cases hd:ya (ybr s i (yu a1) [ycS (yk a0.2.1 a1) a0.2.1.1 (yaF a2) a2 i])
      ·rfl
      ·simp only[hd,Bool.not_true,Bool.not_false,cond_true,ykB]
    ·intro s' h
     cases hd:ya (ybe (yk a0.2.1 a1) a0.2.1.1 a1 a2 s i)
     ·rw[hd]at h
      cases h;exact⟨(yqU _ _ _ _ s i).trans hs.1,hd⟩
     ·rw[hd]at h; cases h) (fun s hs=>by simp only[ybg,ykx,yk1,hs.2,hWl,zk3 (Int.le_refl _),cond_false,id,ykz]) a0 ⟨rfl,hd0⟩ 18446744073709551616 (by omega)
  rw[yE0 (fun a i h=>yEs _ _ _ _ i h),← List.range_eq_range']at this;exact this
 unfold yoy ylC ydX yjY ycN;rw[zkM.2 (show 0≤a0.2.1.1∧a0.2.1.1*((8:Nat):Int)≤140737488355328 by omega)];simp only[cond_true];rw[zj6.2 (show 0≤yk a0.2.1 a1∧yk a0.2.1 a1<((List.replicate a0.2.1.1.toNat (0:Int)).length:Int)by rw[List.length_replicate]; omega),cond_true];refine(congrArg (fun z=>zkt z _ _) h1).trans ?_;rw[zkN];refine(congrArg (fun z=>zkt z _ _) h2).trans ?_;cases hd:ya (yI a0 a1 a2)
 ·rfl
 ·simp only[cond_true,zkO,zkX]; rfl
def yhG (a0:dA) (a1:Int) (a2:List Int):Option (zaY yli×zak yg0):=bif yhI a0 a1 a2 then(fun n=>some ((n.1,()),(n.2,()))) (ylC a0 a1 a2)else none
theorem yPm (a0:dA) (a1:Int) (a2:List Int) (h:yhI a0 a1 a2=true):yhG a0 a1 a2=(fun n=>some ((n.1,()),(n.2,()))) (ylC a0 a1 a2):=by unfold yhG; rw[h]; rfl
def yy2:Con:=⟨yg0,yli,fun x=>yhG x.1 x.2.1 x.2.2.1⟩
theorem yPj:ConOk prog 98 yy2:=(yMw).mono (fun x r hk h=>zkY h (fun hq=>yOM x.1 x.2.1 x.2.2.1 hk hq))
def yTm:Code:=(f172.body).getD .skip
def yTN:Env:=zkw TT [(212,yr1)] []
theorem yLx:FrOk prog ⟨yTN,24,fun _=>none⟩ yTm:=zkA mixed yf ⟨yGS,trivial⟩
abbrev yt1:List Par:= [.rd tS]
abbrev yuo:List OT:= [⟨false,tL,oG⟩]
def yCz (a0:dS):Option (zaY yuo×zak yt1) :=let r1:=yeW a0;bif(!r1)then some (([],()),()) else some ((([21317,a0.1,a0.2.1,a0.2.2.1,a0.2.2.2.1,a0.2.2.2.2.1,a0.2.2.2.2.2.1,(i64.wrap (a0.2.2.2.2.2.2.1+1)),a0.2.2.2.2.2.2.2]:List Int),()),())
theorem yO0:ConOk prog 172 ⟨yt1,yuo,fun x=>yCz x.1⟩:=zkI (yLx) func172 ntmps172.symm fun x=>by kernel_rfl
def yjj (a0:dS):(List Int) :=let r1:=yeW a0;bif(!r1)then [] else ([21317,a0.1,a0.2.1,a0.2.2.1,a0.2.2.2.1,a0.2.2.2.2.1,a0.2.2.2.2.2.1,(i64.wrap (a0.2.2.2.2.2.2.1+1)),a0.2.2.2.2.2.2.2]:List Int)
def yBR:Con:=⟨yt1,yuo,fun x=>(fun n=>some ((n,()),())) (yjj x.1)⟩
theorem yR1 (a0:dS):yCz a0=(fun n=>some ((n,()),())) (yjj a0):=zkV (p:=fun(n:(List Int))=>((n,()),())) (zkG (p:=fun(n:(List Int))=>((n,()),())) rfl rfl)
theorem ySM:ConOk prog 172 yBR:=(yO0).mono (fun x r _ h=>(yR1 x.1).trans h)
theorem y3u (s:dS):yjj s=yo s:=by
 unfold yjj yo;rw[yJP]
def yW7:Code:=(f173.body).getD .skip
def yXw:Env:=zkw TT [] []
theorem yN6:FrOk prog ⟨yXw,23,fun _=>none⟩ yW7:=zkA mixed yf trivial
abbrev yxi:List Par:= [.rd tA,.rd tI]
abbrev yxx:List OT:= [⟨false,tS,oH⟩]
def yFn (a0:dA) (a1:Int):Option (zaY yxx×zak yxi) :=some (((a0.1,a0.2.2.2.2.2.2.2.1,a1,a0.2.1.1,a0.2.1.2,a0.2.2.2.2.2.2.1,a0.2.2.2.1,a0.2.2.2.2.1),()),())
theorem ySr:ConOk prog 173 ⟨yxi,yxx,fun x=>yFn x.1 x.2.1⟩:=zkI (yN6) func173 ntmps173.symm fun x=>by kernel_rfl
def ypx (a0:dA) (a1:Int):dS :=(a0.1,a0.2.2.2.2.2.2.2.1,a1,a0.2.1.1,a0.2.1.2,a0.2.2.2.2.2.2.1,a0.2.2.2.1,a0.2.2.2.2.1)
def yEj:Con:=⟨yxi,yxx,fun x=>(fun n=>some ((n,()),())) (ypx x.1 x.2.1)⟩
theorem yVu (a0:dA) (a1:Int):yFn a0 a1=(fun n=>some ((n,()),())) (ypx a0 a1):=zkV (p:=fun(n:dS)=>((n,()),())) rfl
theorem yWt:ConOk prog 173 yEj:=(ySr).mono (fun x r _ h=>(yVu x.1 x.2.1).trans h)
def yfU:Code:=(f76.body).getD .skip
def ylR:Env:=zkw TT [] [(21056,.fz),(21120,.fz),(37952,(.pr .fz .fz)),(38016,(.pr .fz .fz))]
theorem yQ0:FrOk prog ⟨ylR,60,fun _=>none⟩ yfU:=zkA mixed yf trivial
def yFT:Nat→Option Seg:=fun _=>none
def yc1:Shape:=⟨[(1,false,[.ptr 0 0]),(2,false,[.ptr 64 0]),(3,false,[.ptr 4544 0]),(4,false,[ii])],[(0,oL),(64,oO),(4544,oT)],[(800000001,tL,.fz),(800000000,tI,.fz)]⟩
def yhi:Shape:=⟨[(1,false,[.ptr 0 0]),(2,false,[.ptr 64 0]),(3,false,[.ptr 4544 0]),(4,false,[.ci .i64 0])],[(0,oL),(64,oO),(4544,oT)],[(800000001,tL,.fz),(800000000,tI,.fz)]⟩
def yg7:Shape:=⟨[(1,false,[.ptr 0 0]),(2,false,[.ptr 64 0]),(3,false,[.ptr 4544 0])],[(0,oL),(64,oO),(4544,[.at 800000000,.nil,.bool,.at 800000001])],[(800000000,tL,.fz),(800000001,tI,.fz)]⟩
def ylm:Shape:=⟨[],[],[]⟩
abbrev yqg (v0:Int) (v1 v2 v3:dM):(yc1).X:=((((),()),((),()),((),()),(v0,()),()),((v1.1,v1.2.1,v1.2.2.1,v1.2.2.2,()),((),(),v2.2.2.1,(),()),((),(),v3.2.2.1,(),()),()),(v3.1,v3.2.2.2,()))
abbrev yOD (v0 v1 v2:dM):(yhi).X:=((((),()),((),()),((),()),((),()),()),((v0.1,v0.2.1,v0.2.2.1,v0.2.2.2,()),((),(),v1.2.2.1,(),()),((),(),v2.2.2.1,(),()),()),(v2.1,v2.2.2.2,()))
abbrev yCs (v0 v1 v2:dM):(yg7).X:=((((),()),((),()),((),()),()),((v0.1,v0.2.1,v0.2.2.1,v0.2.2.2,()),((),(),v1.2.2.1,(),()),((),(),v2.2.2.1,(),()),()),(v2.1,v2.2.2.2,()))
def yqN (v0:Int) (v1:List (List Int)) (v2:List dW) (v3:Bool) (v4:List Int) (v5 v6:Bool) (v7:List (List Int)) (v8:List Int):Option ((yc1).X ⊕ ((yg7).X ⊕ (ylm).X)) :=bif(ltb v0 (v1.length:Int))then bif(inb v0 v1.length)then bif(zkl ([]:List Int).length (nth v1 v0 []).length 8)then bif(zkl v7.length ([(([]:List Int)++(nth v1 v0 []))]:List (List Int)).length 24)then some (.inl ((((),()),((),()),((),()),((i64.wrap (v0+1)),()),()),((v1,v2,v3,v4,()),((),(),v5,(),()),((),(),v6,(),()),()),((v7++([(([]:List Int)++(nth v1 v0 []))]:List (List Int))),v8,()))) else none else none else none else some (.inr (.inl ((((),()),((),()),((),()),()),((v1,v2,v3,v4,()),((),(),v5,(),()),((),(),v6,(),()),()),(v7,v8,()))))
def ydq (x:(yc1).X):=yqN x.1.2.2.2.1.1 x.2.1.1.1 x.2.1.1.2.1 x.2.1.1.2.2.1 x.2.1.1.2.2.2.1 x.2.1.2.1.2.2.1 x.2.1.2.2.1.2.2.1 x.2.2.1 x.2.2.2.1
def yCa (x:(yhi).X):(yc1).X:=((((),()),((),()),((),()),(0,()),()),((x.2.1.1.1,x.2.1.1.2.1,x.2.1.1.2.2.1,x.2.1.1.2.2.2.1,()),((),(),x.2.1.2.1.2.2.1,(),()),((),(),x.2.1.2.2.1.2.2.1,(),()),()),(x.2.2.1,x.2.2.2.1,()))
def yD7:Code:=(zd7 yfU 64 116).getD .skip
theorem yQg:zd7 yfU 64 29=some (.block 0 (.loop yD7)):=by kernel_rfl
theorem yS8 (x:(yc1).X):zhu ⟨ylR,60,yFT⟩ 0 yD7 116 yc1 yg7 ylm x=ydq x:=by kernel_rfl
def yCl (x:(yhi).X):Nat:=18446744073709551616
def yrR (x:(yhi).X):Option ((yg7).X ⊕ (ylm).X):=zF ydq (yCl x) (yCa x)
def yCI:Seg:=⟨yhi,yg7,ylm,yrR⟩
def yty:Nat→Option Seg:=fun q=>bif Nat.beq q 29 then some yCI else yFT q
theorem yQ1:FrOk prog ⟨ylR,60,yty⟩ yfU:=(yQ0).loop (sg:=yCI) yc1 yCa (by decide) yQg ydq yCl (by decide) (fun _=>rfl) (fun x r _ h=>h) yS8
def yc2:Shape:=⟨[(1,false,[.ptr 0 0]),(2,false,[.ptr 64 0]),(3,false,[.ptr 4544 0]),(5,false,[ii])],[(0,oL),(64,oO),(4544,oS)],[(800000000,tL,.fz),(800000002,tW,oF),(800000001,tI,.fz)]⟩
def yhj:Shape:=⟨[(1,false,[.ptr 0 0]),(2,false,[.ptr 64 0]),(3,false,[.ptr 4544 0]),(5,false,[.ci .i64 0])],[(0,oL),(64,oO),(4544,oS)],[(800000000,tL,.fz),(800000002,tW,oF),(800000001,tI,.fz)]⟩
def yg8:Shape:=⟨[(2,false,[.ptr 64 0]),(3,false,[.ptr 4544 0])],[(64,oO),(4544,oN)],[(800000000,tL,.fz),(800000001,tW,oF),(800000002,tI,.fz)]⟩
def yln:Shape:=⟨[],[],[]⟩
abbrev yqh (v0:Int) (v1 v2 v3:dM):(yc2).X:=((((),()),((),()),((),()),(v0,()),()),((v1.1,v1.2.1,v1.2.2.1,v1.2.2.2,()),((),(),v2.2.2.1,(),()),((),(),v3.2.2.1,(),()),()),(v3.1,v3.2.1,v3.2.2.2,()))
abbrev yOE (v0 v1 v2:dM):(yhj).X:=((((),()),((),()),((),()),((),()),()),((v0.1,v0.2.1,v0.2.2.1,v0.2.2.2,()),((),(),v1.2.2.1,(),()),((),(),v2.2.2.1,(),()),()),(v2.1,v2.2.1,v2.2.2.2,()))
abbrev yCt (v0 v1:dM):(yg8).X:=((((),()),((),()),()),(((),(),v0.2.2.1,(),()),((),(),v1.2.2.1,(),()),()),(v1.1,v1.2.1,v1.2.2.2,()))
def yqO (v0:Int) (v1:List (List Int)) (v2:List dW) (v3:Bool) (v4:List Int) (v5 v6:Bool) (v7:List (List Int)) (v8:List dW) (v9:List Int):Option ((yc2).X ⊕ ((yg8).X ⊕ (yln).X)) :=bif(ltb v0 (v2.length:Int))then bif(inb v0 v2.length)then bif(inb v0 v2.length)then bif(zkl ([]:List Int).length ((nth v2 v0 (0,[])).2).length 8)then bif(zkl v8.length ([((nth v2 v0 (0,[])).1,(([]:List Int)++((nth v2 v0 (0,[])).2)))]:List dW).length 32)then some (.inl ((((),()),((),()),((),()),((i64.wrap (v0+1)),()),()),((v1,v2,v3,v4,()),((),(),v5,(),()),((),(),v6,(),()),()),(v7,(v8++([((nth v2 v0 (0,[])).1,(([]:List Int)++((nth v2 v0 (0,[])).2)))]:List dW)),v9,()))) else none else none else none else none else some (.inr (.inl ((((),()),((),()),()),(((),(),v5,(),()),((),(),v6,(),()),()),(v7,v8,v9,()))))
def ydr (x:(yc2).X):=yqO x.1.2.2.2.1.1 x.2.1.1.1 x.2.1.1.2.1 x.2.1.1.2.2.1 x.2.1.1.2.2.2.1 x.2.1.2.1.2.2.1 x.2.1.2.2.1.2.2.1 x.2.2.1 x.2.2.2.1 x.2.2.2.2.1
def yCb (x:(yhj).X):(yc2).X:=((((),()),((),()),((),()),(0,()),()),((x.2.1.1.1,x.2.1.1.2.1,x.2.1.1.2.2.1,x.2.1.1.2.2.2.1,()),((),(),x.2.1.2.1.2.2.1,(),()),((),(),x.2.1.2.2.1.2.2.1,(),()),()),(x.2.2.1,x.2.2.2.1,x.2.2.2.2.1,()))
def yD8:Code:=(zd7 yfU 64 244).getD .skip
theorem yQh:zd7 yfU 64 61=some (.block 2 (.loop yD8)):=by kernel_rfl
theorem yS9 (x:(yc2).X):zhu ⟨ylR,60,yty⟩ 2 yD8 244 yc2 yg8 yln x=ydr x:=by kernel_rfl
def yCm (x:(yhj).X):Nat:=18446744073709551616
def yrS (x:(yhj).X):Option ((yg8).X ⊕ (yln).X):=zF ydr (yCm x) (yCb x)
def yCJ:Seg:=⟨yhj,yg8,yln,yrS⟩
def yTD:Nat→Option Seg:=fun q=>bif Nat.beq q 61 then some yCJ else yty q
theorem yQ2:FrOk prog ⟨ylR,60,yTD⟩ yfU:=(yQ1).loop (sg:=yCJ) yc2 yCb (by decide) yQh ydr yCm (by decide) (fun _=>rfl) (fun x r _ h=>h) yS9
abbrev yrs:List Par:= [.rd tM]
abbrev yAW:List OT:= [⟨false,tM,oC⟩]
def yvN (a0:dM):Option (zaY yAW×zak yrs) :=bif(zkl ([]:List Int).length a0.2.2.2.length 8)then zkt (yrR ((((),()),((),()),((),()),((),()),()),((a0.1,a0.2.1,a0.2.2.1,a0.2.2.2,()),((),(),false,(),()),((),(),a0.2.2.1,(),()),()),([],(([]:List Int)++a0.2.2.2),()))) (fun y0 =>zkt (yrS ((((),()),((),()),((),()),((),()),()),((y0.2.1.1.1,y0.2.1.1.2.1,y0.2.1.1.2.2.1,y0.2.1.1.2.2.2.1,()),((),(),y0.2.1.2.1.2.2.1,(),()),((),(),y0.2.1.2.2.1.2.2.1,(),()),()),(y0.2.2.1,[],y0.2.2.2.1,()))) (fun y1 =>some (((y1.2.2.1,y1.2.2.2.1,y1.2.1.2.1.2.2.1,y1.2.2.2.2.1),()),())) (fun y1 =>none)) (fun y0 =>none) else none
theorem yWd:ConOk prog 76 ⟨yrs,yAW,fun x=>yvN x.1⟩:=zkI (yQ2) func76 ntmps76.symm fun x=>by kernel_rfl
def yaS (a0:dM):dM:=a0
theorem yYy (a0:dM) (hk:zjx yrs (a0,())):yvN a0=(fun n=>some ((n,()),())) (yaS a0):=by
 have hb1:a0.1.length*24≤2^47:=hk.1.1.1;have hb2:a0.2.1.length*32≤2^47:=hk.1.2.1.1;have hb3:a0.2.2.2.length*8≤2^47:=hk.1.2.2.2.1;have hs: ∀i,i<a0.1.length→(a0.1.getD i []).length*8≤2^47:=fun i hi=>by rw[zkJ hi]; exact(hk.1.1.2 _ (List.getElem_mem hi)).1
 have hc: ∀i,i<a0.2.1.length→(a0.2.1.getD i (0,[])).2.length*8≤2^47:=fun i hi=>by rw[zkJ hi]; exact(hk.1.2.1.2 _ (List.getElem_mem hi)).2.1
 have h1:yrR (yOD a0 yc ([],[],a0.2.2.1,a0.2.2.2))=some (.inl (yCs a0 yc (a0.1,[],a0.2.2.1,a0.2.2.2))):=by
  have:=zkx (step:=ydq) a0.1 [] (fun i s=>yqg i a0 yc (s,[],a0.2.2.1,a0.2.2.2)) (fun s x=>s++ [x]) (fun i s=>s.length=i) (fun s=> .inl (yCs a0 yc (s,[],a0.2.2.1,a0.2.2.2))) (fun i s hi hs2=>⟨by
   have:=hs i hi;simp only[ydq,yqg,yqN,zky (show(i:Int)<a0.1.length by omega),cond_true,wq ((i:Int)+1) (by omega) (by omega),Int.natCast_add,Int.natCast_one,Int.toNat_natCast,zkR hi,zkS,List.nil_append]
   rw[zkF.2 (show(([]:List Int).length+(a0.1.getD i []).length)*8≤140737488355328 by rw[List.length_nil]; omega),zkF.2 (show(s.length+ [a0.1.getD i []].length)*24≤140737488355328 by simp only[List.length_cons,List.length_nil]; omega)]; rfl,by simp[hs2]⟩) (fun s _=>by simp only[ydq,yqg,yqN,zk3 (Int.le_refl _),cond_false]) [] rfl 18446744073709551616 (by omega)
  rw[yxW]at this;exact this
 have h2:yrS (yOE a0 yc (a0.1,[],a0.2.2.1,a0.2.2.2))=some (.inl (yCt yc a0)):=by
  have:=zkx (step:=ydr) a0.2.1 (0,[]) (fun i s=>yqh i a0 yc (a0.1,s,a0.2.2.1,a0.2.2.2)) (fun s x=>s++ [x]) (fun i s=>s.length=i) (fun s=> .inl (yCt yc (a0.1,s,a0.2.2.1,a0.2.2.2))) (fun i s hi hs2=>⟨by
   have:=hc i hi;simp only[ydr,yqh,yqO,zky (show(i:Int)<a0.2.1.length by omega),cond_true,wq ((i:Int)+1) (by omega) (by omega),Int.natCast_add,Int.natCast_one,Int.toNat_natCast,zkR hi,zkS,List.nil_append,zkX]
   rw[zkF.2 (show(([]:List Int).length+(a0.2.1.getD i (0,[])).2.length)*8≤140737488355328 by rw[List.length_nil]; omega),zkF.2 (show(s.length+ [a0.2.1.getD i (0,[])].length)*32≤140737488355328 by simp only[List.length_cons,List.length_nil]; omega)]; rfl,by simp[hs2]⟩) (fun s _=>by simp only[ydr,yqh,yqO,zk3 (Int.le_refl _),cond_false]) [] rfl 18446744073709551616 (by omega)
  rw[yxW]at this;exact this
 unfold yvN yaS;rw[zkF.2 (show(([]:List Int).length+a0.2.2.2.length)*8≤140737488355328 by rw[List.length_nil]; omega)];simp only[cond_true,List.nil_append,h1,zkN,h2]
def yja:Con:=⟨yrs,yAW,fun x=>(fun n=>some ((n,()),())) (yaS x.1)⟩
theorem ypG:ConOk prog 76 yja:=(yWd).mono (fun x r hk h=>(yYy x.1 hk).trans h)
def y2e:Code:=(f202.body).getD .skip
def y2r:Env:=zkw TT [(200,yht)] []
theorem yUK:FrOk prog ⟨y2r,10,fun _=>none⟩ y2e:=zkA mixed yf ⟨ynC,trivial⟩
abbrev yDx:List Par:= [.rd tL]
abbrev yDP:List OT:= [⟨false,tB,.fz⟩]
def yIT (a0:List Int):Option (zaY yDP×zak yDx) :=bif(leb (a0.length:Int) 12)then let r1:=yay a0;some ((r1,()),()) else some ((false,()),())
theorem yYW:ConOk prog 202 ⟨yDx,yDP,fun x=>yIT x.1⟩:=zkI (yUK) func202 ntmps202.symm fun x=>by kernel_rfl
def yhA (a0:List Int):Bool :=bif(leb (a0.length:Int) 12)then let r1:=yay a0;r1 else false
def yxP:Con:=⟨yDx,yDP,fun x=>(fun n=>some ((n,()),())) (yhA x.1)⟩
theorem y1z (a0:List Int):yIT a0=(fun n=>some ((n,()),())) (yhA a0):=zkV (p:=fun(n:Bool)=>((n,()),())) (zkG (p:=fun(n:Bool)=>((n,()),())) rfl rfl)
theorem yJV:ConOk prog 202 yxP:=(yYW).mono (fun x r _ h=>(y1z x.1).trans h)
theorem yHO:yhA=yaB:=funext fun s=>by
 unfold yhA yaB yay;rw[show yaR=isW from funext fun x=>by unfold yaR; rw[ybX]; rfl];cases leb (s.length:Int) 12<;>rfl
def ycJ:Code:=(f160.body).getD .skip
def ygY:Env:=zkw TT [(82,yP),(202,yxP)] []
theorem yUF:FrOk prog ⟨ygY,91,fun _=>none⟩ ycJ:=zkA mixed yf ⟨yaa,yJV,trivial⟩
def yHW:Nat→Option Seg:=fun _=>none
def ydF:Shape:=⟨[(1,false,[.ptr 0 0]),(3,false,[ii]),(4,false,[ii])],[(0,oL)],[]⟩
def yiK:Shape:=⟨[(1,false,[.ptr 0 0]),(3,false,[ii]),(4,false,[.ci .i64 0])],[(0,oL)],[]⟩
def yiv:Shape:=⟨[(1,false,[.ptr 0 0]),(3,false,[ii])],[(0,oL)],[]⟩
def yi5:Shape:=⟨[(2,false,[.bool])],[],[]⟩
abbrev ysh (v0 v1:Int) (v2:dM):(ydF).X:=((((),()),(v0,()),(v1,()),()),((v2.1,v2.2.1,v2.2.2.1,v2.2.2.2,()),()),())
abbrev yRD (v0:Int) (v1:dM):(yiK).X:=((((),()),(v0,()),((),()),()),((v1.1,v1.2.1,v1.2.2.1,v1.2.2.2,()),()),())
abbrev yRt (v0:Int) (v1:dM):(yiv).X:=((((),()),(v0,()),()),((v1.1,v1.2.1,v1.2.2.1,v1.2.2.2,()),()),())
abbrev yRQ (v0:Bool):(yi5).X:=(((v0,()),()),(),())
def ysR (v0 v1:Int) (v2:List (List Int)) (v3:List dW) (v4:Bool) (v5:List Int):Option ((ydF).X ⊕ ((yiv).X ⊕ (yi5).X)) :=bif(ltb v1 v0)then bif(inb v1 v2.length)then let r2:=yhA (nth v2 v1 []);bif(!r2)then some (.inr (.inr (((false,()),()),(),()))) else some (.inl ((((),()),(v0,()),((i64.wrap (v1+1)),()),()),((v2,v3,v4,v5,()),()),())) else none else some (.inr (.inl ((((),()),(v0,()),()),((v2,v3,v4,v5,()),()),())))
def yef (x:(ydF).X):=ysR x.1.2.1.1 x.1.2.2.1.1 x.2.1.1.1 x.2.1.1.2.1 x.2.1.1.2.2.1 x.2.1.1.2.2.2.1
def yEA (x:(yiK).X):(ydF).X:=((((),()),(x.1.2.1.1,()),(0,()),()),((x.2.1.1.1,x.2.1.1.2.1,x.2.1.1.2.2.1,x.2.1.1.2.2.2.1,()),()),())
def yF9:Code:=(zd7 ycJ 64 116).getD .skip
theorem yT6:zd7 ycJ 64 29=some (.block 0 (.loop yF9)):=by kernel_rfl
theorem yWN (x:(ydF).X):zhu ⟨ygY,91,yHW⟩ 0 yF9 116 ydF yiv yi5 x=yef x:=by kernel_rfl
def yER (x:(yiK).X):Nat:=18446744073709551616
def ytP (x:(yiK).X):Option ((yiv).X ⊕ (yi5).X):=zF yef (yER x) (yEA x)
def yFx:Seg:=⟨yiK,yiv,yi5,ytP⟩
def ywX:Nat→Option Seg:=fun q=>bif Nat.beq q 29 then some yFx else yHW q
theorem yUG:FrOk prog ⟨ygY,91,ywX⟩ ycJ:=(yUF).loop (sg:=yFx) ydF yEA (by decide) yT6 yef yER (by decide) (fun _=>rfl) (fun x r _ h=>h) yWN
def ydG:Shape:=⟨[(1,false,[.ptr 0 0]),(3,false,[ii]),(5,false,[ii])],[(0,oL)],[]⟩
def yiL:Shape:=⟨[(1,false,[.ptr 0 0]),(3,false,[ii]),(5,false,[.ci .i64 0])],[(0,oL)],[]⟩
def yiw:Shape:=⟨[(1,false,[.ptr 0 0]),(3,false,[ii])],[(0,oL)],[]⟩
def yi6:Shape:=⟨[(2,false,[.bool])],[],[]⟩
abbrev ysi (v0 v1:Int) (v2:dM):(ydG).X:=((((),()),(v0,()),(v1,()),()),((v2.1,v2.2.1,v2.2.2.1,v2.2.2.2,()),()),())
abbrev yRE (v0:Int) (v1:dM):(yiL).X:=((((),()),(v0,()),((),()),()),((v1.1,v1.2.1,v1.2.2.1,v1.2.2.2,()),()),())
abbrev yRu (v0:Int) (v1:dM):(yiw).X:=((((),()),(v0,()),()),((v1.1,v1.2.1,v1.2.2.1,v1.2.2.2,()),()),())
abbrev yRR (v0:Bool):(yi6).X:=(((v0,()),()),(),())
def ysS (v0 v1:Int) (v2:List (List Int)) (v3:List dW) (v4:Bool) (v5:List Int):Option ((ydG).X ⊕ ((yiw).X ⊕ (yi6).X)) :=bif(ltb v1 (v3.length:Int))then bif(inb v1 v3.length)then let r6:=yb ((nth v3 v1 (0,[])).1) 0 (i64.wrap (v0-1));bif(!(!r6))then bif(inb v1 v3.length)then let r7:=yhA ((nth v3 v1 (0,[])).2);bif(!r7)then some (.inr (.inr (((false,()),()),(),()))) else some (.inl ((((),()),(v0,()),((i64.wrap (v1+1)),()),()),((v2,v3,v4,v5,()),()),())) else none else some (.inr (.inr (((false,()),()),(),()))) else none else some (.inr (.inl ((((),()),(v0,()),()),((v2,v3,v4,v5,()),()),())))
def yeg (x:(ydG).X):=ysS x.1.2.1.1 x.1.2.2.1.1 x.2.1.1.1 x.2.1.1.2.1 x.2.1.1.2.2.1 x.2.1.1.2.2.2.1
def yEB (x:(yiL).X):(ydG).X:=((((),()),(x.1.2.1.1,()),(0,()),()),((x.2.1.1.1,x.2.1.1.2.1,x.2.1.1.2.2.1,x.2.1.1.2.2.2.1,()),()),())
def yGa:Code:=(zd7 ycJ 64 244).getD .skip
theorem yT7:zd7 ycJ 64 61=some (.block 2 (.loop yGa)):=by kernel_rfl
theorem yWO (x:(ydG).X):zhu ⟨ygY,91,ywX⟩ 2 yGa 244 ydG yiw yi6 x=yeg x:=by kernel_rfl
def yES (x:(yiL).X):Nat:=18446744073709551616
def ytQ (x:(yiL).X):Option ((yiw).X ⊕ (yi6).X):=zF yeg (yES x) (yEB x)
def yFy:Seg:=⟨yiL,yiw,yi6,ytQ⟩
def ywY:Nat→Option Seg:=fun q=>bif Nat.beq q 61 then some yFy else ywX q
theorem yUH:FrOk prog ⟨ygY,91,ywY⟩ ycJ:=(yUG).loop (sg:=yFy) ydG yEB (by decide) yT7 yeg yES (by decide) (fun _=>rfl) (fun x r _ h=>h) yWO
def yc0:Shape:=⟨[(1,false,[.ptr 0 0]),(3,false,[ii]),(6,false,[ii])],[(0,oL)],[]⟩
def yhh:Shape:=⟨[(1,false,[.ptr 0 0]),(3,false,[ii]),(6,false,[.ci .i64 0])],[(0,oL)],[]⟩
def yg6:Shape:=⟨[(1,false,[.ptr 0 0]),(3,false,[ii])],[(0,oL)],[]⟩
def yhq:Shape:=⟨[(2,false,[.bool])],[],[]⟩
abbrev yqf (v0 v1:Int) (v2:dM):(yc0).X:=((((),()),(v0,()),(v1,()),()),((v2.1,v2.2.1,v2.2.2.1,v2.2.2.2,()),()),())
abbrev yOC (v0:Int) (v1:dM):(yhh).X:=((((),()),(v0,()),((),()),()),((v1.1,v1.2.1,v1.2.2.1,v1.2.2.2,()),()),())
abbrev yOv (v0:Int) (v1:dM):(yg6).X:=((((),()),(v0,()),()),((v1.1,v1.2.1,v1.2.2.1,v1.2.2.2,()),()),())
abbrev yOJ (v0:Bool):(yhq).X:=(((v0,()),()),(),())
def yqM (v0 v1:Int) (v2:List (List Int)) (v3:List dW) (v4:Bool) (v5:List Int):Option ((yc0).X ⊕ ((yg6).X ⊕ (yhq).X)) :=bif(ltb v1 (v5.length:Int))then bif(inb v1 v5.length)then let r10:=yb (nth v5 v1 0) 0 (i64.wrap (v0-1));bif(!(!r10))then bif(ltb 0 v1)then bif(inb (i64.wrap (v1-1)) v5.length)then bif(inb v1 v5.length)then bif(leb (nth v5 v1 0) (nth v5 (i64.wrap (v1-1)) 0))then some (.inr (.inr (((false,()),()),(),()))) else some (.inl ((((),()),(v0,()),((i64.wrap (v1+1)),()),()),((v2,v3,v4,v5,()),()),())) else none else none else some (.inl ((((),()),(v0,()),((i64.wrap (v1+1)),()),()),((v2,v3,v4,v5,()),()),())) else some (.inr (.inr (((false,()),()),(),()))) else none else some (.inr (.inl ((((),()),(v0,()),()),((v2,v3,v4,v5,()),()),())))
def ydp (x:(yc0).X):=yqM x.1.2.1.1 x.1.2.2.1.1 x.2.1.1.1 x.2.1.1.2.1 x.2.1.1.2.2.1 x.2.1.1.2.2.2.1
def yB9 (x:(yhh).X):(yc0).X:=((((),()),(x.1.2.1.1,()),(0,()),()),((x.2.1.1.1,x.2.1.1.2.1,x.2.1.1.2.2.1,x.2.1.1.2.2.2.1,()),()),())
def yD6:Code:=(zd7 ycJ 64 500).getD .skip
theorem yQf:zd7 ycJ 64 125=some (.block 4 (.loop yD6)):=by kernel_rfl
theorem yS7 (x:(yc0).X):zhu ⟨ygY,91,ywY⟩ 4 yD6 500 yc0 yg6 yhq x=ydp x:=by kernel_rfl
def yCk (x:(yhh).X):Nat:=18446744073709551616
def yrQ (x:(yhh).X):Option ((yg6).X ⊕ (yhq).X):=zF ydp (yCk x) (yB9 x)
def yCH:Seg:=⟨yhh,yg6,yhq,yrQ⟩
def yXm:Nat→Option Seg:=fun q=>bif Nat.beq q 125 then some yCH else ywY q
theorem yUI:FrOk prog ⟨ygY,91,yXm⟩ ycJ:=(yUH).loop (sg:=yCH) yc0 yB9 (by decide) yQf ydp yCk (by decide) (fun _=>rfl) (fun x r _ h=>h) yS7
abbrev yua:List Par:= [.rd tM]
abbrev yDN:List OT:= [⟨false,tB,.fz⟩]
def yyj (a0:dM):Option (zaY yDN×zak yua) :=zkt (ytP ((((),()),((a0.1.length:Int),()),((),()),()),((a0.1,a0.2.1,a0.2.2.1,a0.2.2.2,()),()),())) (fun y2 =>zkt (ytQ ((((),()),(y2.1.2.1.1,()),((),()),()),((y2.2.1.1.1,y2.2.1.1.2.1,y2.2.1.1.2.2.1,y2.2.1.1.2.2.2.1,()),()),())) (fun y7 =>zkt (yrQ ((((),()),(y7.1.2.1.1,()),((),()),()),((y7.2.1.1.1,y7.2.1.1.2.1,y7.2.1.1.2.2.1,y7.2.1.1.2.2.2.1,()),()),())) (fun y10 =>let r12:=yb y10.1.2.1.1 1 20;bif r12 then some (((leb (y10.2.1.1.2.1.length:Int) 60),()),()) else some ((false,()),())) (fun y10 =>some ((y10.1.1.1,()),()))) (fun y7 =>some ((y7.1.1.1,()),()))) (fun y2 =>some ((y2.1.1.1,()),()))
theorem yYU:ConOk prog 160 ⟨yua,yDN,fun x=>yyj x.1⟩:=zkI (yUI) func160 ntmps160.symm fun x=>by kernel_rfl
def yaX (a0:dM):Bool:=yx a0
theorem y1x (a0:dM) (hk:zjx yua (a0,())):yyj a0=(fun n=>some ((n,()),())) (yaX a0):=by
 have hb1:a0.1.length*24≤2^47:=hk.1.1.1;have hb2:a0.2.1.length*32≤2^47:=hk.1.2.1.1;have hb3:a0.2.2.2.length*8≤2^47:=hk.1.2.2.2.1
 have h1:ytP (yRD a0.1.length a0)=some (bif a0.1.all yaB then .inl (yRt a0.1.length a0)else .inr (yRQ false)) :=
  zj9 (step:=yef) a0.1 [] (fun i=>ysh a0.1.length i a0) yaB _ _ (fun i hi=>by
   simp only[yef,ysh,ysR,zky (show(i:Int)<a0.1.length by omega),cond_true,wq ((i:Int)+1) (by omega) (by omega),Int.natCast_add,Int.natCast_one,Int.toNat_natCast,zkR hi,zkS,yHO]
   cases yaB (a0.1.getD i [])<;>rfl) (by simp only[yef,ysh,ysR,zk3 (Int.le_refl _),cond_false]) _ (by show _<18446744073709551616; omega)
 have h2:ytQ (yRE a0.1.length a0)=some (bif a0.2.1.all (ys0 a0.1.length)then .inl (yRu a0.1.length a0)else .inr (yRR false)) :=
  zj9 (step:=yeg) a0.2.1 (0,[]) (fun i=>ysi a0.1.length i a0) (ys0 a0.1.length) _ _ (fun i hi=>by
   simp only[yeg,ysi,ysS,zky (show(i:Int)<a0.2.1.length by omega),cond_true,wq ((i:Int)+1) (by omega) (by omega),Int.natCast_add,Int.natCast_one,Int.toNat_natCast,zkR hi,zkS,yHO,yoa (show a0.1.length≤1152921504606846976 by omega),ys0]
   cases inb (a0.2.1.getD i (0,[])).1 a0.1.length<;>cases yaB (a0.2.1.getD i (0,[])).2<;>rfl) (by simp only[yeg,ysi,ysS,zk3 (Int.le_refl _),cond_false]) _ (by show _<18446744073709551616; omega)
 have h3:yrQ (yOC a0.1.length a0)=some (bif(List.range a0.2.2.2.length).any (yF1 a0.1.length a0.2.2.2)then .inr (yOJ false)else .inl (yOv a0.1.length a0)) :=
  zji (step:=ydp) (fun i=>yqf a0.1.length i a0) a0.2.2.2.length (yF1 a0.1.length a0.2.2.2) _ _ (fun i hi=>by
   simp only[ydp,yqf,yqM,zky (show(i:Int)<a0.2.2.2.length by omega),cond_true,wq ((i:Int)+1) (by omega) (by omega),Int.natCast_add,Int.natCast_one,Int.toNat_natCast,zkR hi,zkS,yoa (show a0.1.length≤1152921504606846976 by omega),yF1];rcases Nat.eq_zero_or_pos i with rfl | h0
   ·cases inb (a0.2.2.2.getD 0 0) a0.1.length<;>rfl
   ·rw[show i64.wrap ((i:Int)-1)=((i-1:Nat):Int)by rw[wr (by omega) (by omega)]; omega,zkR (show i-1<a0.2.2.2.length by omega),zkS,zky (show(0:Int)<i by omega),decide_eq_true h0]
    cases inb (a0.2.2.2.getD i 0) a0.1.length<;>cases leb (a0.2.2.2.getD i 0) (a0.2.2.2.getD (i-1) 0)<;>rfl) (by simp only[ydp,yqf,yqM,zk3 (Int.le_refl _),cond_false]) _ (by show _<18446744073709551616; omega)
 unfold yyj yaX yx;rw[h1];cases a0.1.all yaB
 ·rfl
 simp only[cond_true,zkN,h2];cases a0.2.1.all (ys0 a0.1.length)
 ·rfl
 simp only[cond_true,zkN,h3,yZH,ybX];cases ypr a0.1.length a0.2.2.2
 ·rfl
 simp only[Bool.not_true,cond_false,zkN];cases leb 1 (a0.1.length:Int)<;>cases leb (a0.1.length:Int) 20<;>rfl
def ygN:Con:=⟨yua,yDN,fun x=>(fun n=>some ((n,()),())) (yaX x.1)⟩
theorem yme:ConOk prog 160 ygN:=(yYU).mono (fun x r hk h=>(y1x x.1 hk).trans h)
def yla:Code:=(f245.body).getD .skip
def yrL:Env:=zkw TT [] []
theorem yKn:FrOk prog ⟨yrL,28,fun _=>none⟩ yla:=zkA mixed yf trivial
def yyM:Nat→Option Seg:=fun _=>none
def ybo:Shape:=⟨[(0,false,[.br tI]),(1,false,[ii]),(5,false,[.at 800000000]),(6,false,[ii])],[],[(800000000,tI,.fz)]⟩
def yeI:Shape:=⟨[(0,false,[.br tI]),(1,false,[ii]),(5,false,[.at 800000000]),(6,false,[.ci .i64 0])],[],[(800000000,tI,.fz)]⟩
def yeC:Shape:=⟨[(5,false,[.at 800000000])],[],[(800000000,tI,.fz)]⟩
def yhQ:Shape:=⟨[],[],[]⟩
abbrev ylA (v0:List Int) (v1 v2:Int) (v3:List Int):(ybo).X:=(((v0,()),(v1,()),((),()),(v2,()),()),(),(v3,()))
abbrev yJo (v0:List Int) (v1:Int) (v2:List Int):(yeI).X:=(((v0,()),(v1,()),((),()),((),()),()),(),(v2,()))
abbrev yJi (v0:List Int):(yeC).X:=((((),()),()),(),(v0,()))
def ylO (v0:List Int) (v1 v2:Int) (v3:List Int):Option ((ybo).X ⊕ ((yeC).X ⊕ (yhQ).X)) :=bif(ltb v2 (v0.length:Int))then bif(inb v2 v0.length)then bif((nth v0 v2 0) !=v1)then bif(inb v2 v0.length)then bif(zkl v3.length ([(nth v0 v2 0)]:List Int).length 8)then some (.inl (((v0,()),(v1,()),((),()),((i64.wrap (v2+1)),()),()),(),((v3++([(nth v0 v2 0)]:List Int)),()))) else none else none else some (.inl (((v0,()),(v1,()),((),()),((i64.wrap (v2+1)),()),()),(),(v3,()))) else none else some (.inr (.inl ((((),()),()),(),(v3,()))))
def ybD (x:(ybo).X):=ylO x.1.1.1 x.1.2.1.1 x.1.2.2.2.1.1 x.2.2.1
def yu8 (x:(yeI).X):(ybo).X:=(((x.1.1.1,()),(x.1.2.1.1,()),((),()),(0,()),()),(),(x.2.2.1,()))
def ywb:Code:=(zd7 yla 64 116).getD .skip
theorem yKd:zd7 yla 64 29=some (.block 0 (.loop ywb)):=by kernel_rfl
theorem yKS (x:(ybo).X):zhu ⟨yrL,28,yyM⟩ 0 ywb 116 ybo yeC yhQ x=ybD x:=by kernel_rfl
def yvh (x:(yeI).X):Nat:=18446744073709551616
def ymq (x:(yeI).X):Option ((yeC).X ⊕ (yhQ).X):=zF ybD (yvh x) (yu8 x)
def yvZ:Seg:=⟨yeI,yeC,yhQ,ymq⟩
def yKW:Nat→Option Seg:=fun q=>bif Nat.beq q 29 then some yvZ else yyM q
theorem yKo:FrOk prog ⟨yrL,28,yKW⟩ yla:=(yKn).loop (sg:=yvZ) ybo yu8 (by decide) yKd ybD yvh (by decide) (fun _=>rfl) (fun x r _ h=>h) yKS
abbrev ylg:List Par:= [.rd tL,.rd tI]
abbrev yr0:List OT:= [⟨false,tL,oG⟩]
def yoC (a0:List Int) (a1:Int):Option (zaY yr0×zak ylg) :=zkt (ymq (((a0,()),(a1,()),((),()),((),()),()),(),(([]:List Int),()))) (fun y0 =>some ((y0.2.2.1,()),())) (fun y0 =>none)
theorem yMB:ConOk prog 245 ⟨ylg,yr0,fun x=>yoC x.1 x.2.1⟩:=zkI (yKo) func245 ntmps245.symm fun x=>by kernel_rfl
def yhD (a0:List Int) (a1:Int):List Int:=yJy a0 a1
theorem yLi {α:Type} (p:α→Bool): ∀(l:List α) (s:List α),l.foldl (fun s x=>bif p x then s++ [x]else s) s=s++l.filter p
 | [],s=>by simp
 | x::l,s=>by
  rw[List.foldl_cons,yLi p l,List.filter_cons];cases p x<;>simp
theorem yOR (a0:List Int) (a1:Int) (hk:zjx ylg (a0,a1,())):yoC a0 a1=(fun n=>some ((n,()),())) (yhD a0 a1):=by
 have hb:a0.length*8≤2^47:=hk.1.1
 have h1:=zkx (step:=ybD) a0 0 (fun i s=>ylA a0 a1 i s) (fun s x=>bif x !=a1 then s++ [x]else s) (fun i s=>s.length≤i) (fun s=> .inl (yJi s)) (fun i s hi hs=>by
   constructor
   ·simp only[ybD,ylA,ylO,zky (show(i:Int)<a0.length by omega),cond_true,wq ((i:Int)+1) (by omega) (by omega),Int.natCast_add,Int.natCast_one,Int.toNat_natCast,zkR hi,zkS]
    rw[zkF.2 (show(s.length+ [a0.getD i 0].length)*8≤140737488355328 by simp only[List.length_cons,List.length_nil]; omega)];cases(a0.getD i 0 !=a1)<;>rfl
   ·cases(a0.getD i 0 !=a1)
    ·show s.length≤_; omega
    ·simp only[cond_true,List.length_append,List.length_cons,List.length_nil]; omega) (fun s _=>by simp only[ybD,ylA,ylO,zk3 (Int.le_refl _),cond_false]) [] (Nat.le_refl _) 18446744073709551616 (by omega)
 unfold yoC yhD yJy;rw[show ymq (yJo a0 a1 [])=_ from h1,yLi]; rfl
def yy4:Con:=⟨ylg,yr0,fun x=>(fun n=>some ((n,()),())) (yhD x.1 x.2.1)⟩
theorem yPl:ConOk prog 245 yy4:=(yMB).mono (fun x r hk h=>(yOR x.1 x.2.1 hk).trans h)
def yTv:Code:=(f225.body).getD .skip
def yTW:Env:=zkw TT [(76,yja),(82,yP),(160,ygN),(202,yxP),(245,yy4)] [(16832,(.pr .fz .fz))]
theorem yLQ:FrOk prog ⟨yTW,55,fun _=>none⟩ yTv:=zkA mixed yf ⟨ypG,yaa,yme,yJV,yPl,trivial⟩
abbrev ynb:List Par:= [.rd tM,.rd tI,.rd tL]
abbrev yuC:List OT:= [⟨false,tM,oC⟩,⟨false,tB,.fz⟩]
def yqE (a0:dM) (a1:Int) (a2:List Int):Option (zaY yuC×zak ynb) :=let r1:=yaS a0;let r2:=yaX a0;bif(!(!r2))then bif(!a0.2.2.1)then let r3:=yb a1 0 (i64.wrap ((a0.1.length:Int)-1));bif(!(!r3))then let r4:=yhA a2;bif(!(!r4))then bif(leb 60 (a0.2.1.length:Int))then some ((r1,false,()),()) else bif(zkl ([]:List Int).length a2.length 8)then bif(zkl r1.2.1.length ([(a1,(([]:List Int)++a2))]:List dW).length 32)then let r5:=yhD a0.2.2.2 a1;some (((r1.1,(r1.2.1++([(a1,(([]:List Int)++a2))]:List dW)),r1.2.2.1,r5),true,()),()) else none else none else some ((r1,false,()),()) else some ((r1,false,()),()) else some ((r1,false,()),()) else some ((r1,false,()),())
theorem yPe:ConOk prog 225 ⟨ynb,yuC,fun x=>yqE x.1 x.2.1 x.2.2.1⟩:=zkI (yLQ) func225 ntmps225.symm fun x=>by kernel_rfl
def yjn (a0:dM) (a1:Int) (a2:List Int):dM×Bool:=yab a0 a1 a2
theorem ySd (a0:dM) (a1:Int) (a2:List Int) (hk:zjx ynb (a0,a1,a2,())):yqE a0 a1 a2=(fun n=>some ((n.1,n.2,()),())) (yjn a0 a1 a2):=by
 have hb1:a0.1.length*24≤2^47:=hk.1.1.1;have hb2:a2.length*8≤2^47:=hk.2.2.1.1;unfold yqE yjn yab ybp;simp only[yaS,yaX,yoa (show a0.1.length≤1152921504606846976 by omega),yHO,yhD,List.nil_append];cases yx a0
 ·rfl
 cases a0.2.2.1
 ·cases inb a1 a0.1.length
  ·rfl
  cases yaB a2
  ·rfl
  by_cases h:(a0.2.1.length:Int)<60
  ·rw[zky h,zk1 h,zkF.2 (show(([]:List Int).length+a2.length)*8≤140737488355328 by rw[List.length_nil]; omega),zkF.2 (show(a0.2.1.length+ [(a1,a2)].length)*32≤140737488355328 by simp only[List.length_cons,List.length_nil]; omega)]; rfl
  ·rw[zk3 (by omega),zk2 (by omega)]; rfl
 ·rfl
def yB1:Con:=⟨ynb,yuC,fun x=>(fun n=>some ((n.1,n.2,()),())) (yjn x.1 x.2.1 x.2.2.1)⟩
theorem ySW:ConOk prog 225 yB1:=(yPe).mono (fun x r hk h=>(ySd x.1 x.2.1 x.2.2.1 hk).trans h)
def y3m:Code:=(f228.body).getD .skip
def y3o:Env:=zkw TT [] []
theorem yXZ:FrOk prog ⟨y3o,31,fun _=>none⟩ y3m:=zkA mixed yf trivial
abbrev yHs:List Par:= [.pt tA oB]
abbrev yHy:List OT:= [⟨false,tB,.fz⟩]
def yJ4 (a0:dA):Option (zaY yHy×zak yHs) :=bif a0.2.2.2.2.2.2.2.2.2.2.1 then some ((false,()),(a0,())) else bif(a0.2.2.2.2.2.2.2.2.2.1==0)then some ((false,()),((a0.1,a0.2.1,a0.2.2.1,a0.2.2.2.1,a0.2.2.2.2.1,a0.2.2.2.2.2.1,a0.2.2.2.2.2.2.1,a0.2.2.2.2.2.2.2.1,a0.2.2.2.2.2.2.2.2.1,(-1),true,a0.2.2.2.2.2.2.2.2.2.2.2),())) else bif(ltb 0 a0.2.2.2.2.2.2.2.2.2.1)then some ((true,()),((a0.1,a0.2.1,a0.2.2.1,a0.2.2.2.1,a0.2.2.2.2.1,a0.2.2.2.2.2.1,a0.2.2.2.2.2.2.1,a0.2.2.2.2.2.2.2.1,a0.2.2.2.2.2.2.2.2.1,(i64.wrap (a0.2.2.2.2.2.2.2.2.2.1-1)),a0.2.2.2.2.2.2.2.2.2.2),())) else some ((true,()),(a0,()))
theorem y1M:ConOk prog 228 ⟨yHs,yHy,fun x=>yJ4 x.1⟩:=zkI (yXZ) func228 ntmps228.symm fun x=>by kernel_rfl
def yq4 (a0:dA):Bool×dA :=bif a0.2.2.2.2.2.2.2.2.2.2.1 then (false,a0) else bif(a0.2.2.2.2.2.2.2.2.2.1==0)then (false,(a0.1,a0.2.1,a0.2.2.1,a0.2.2.2.1,a0.2.2.2.2.1,a0.2.2.2.2.2.1,a0.2.2.2.2.2.2.1,a0.2.2.2.2.2.2.2.1,a0.2.2.2.2.2.2.2.2.1,(-1),true,a0.2.2.2.2.2.2.2.2.2.2.2)) else bif(ltb 0 a0.2.2.2.2.2.2.2.2.2.1)then (true,(a0.1,a0.2.1,a0.2.2.1,a0.2.2.2.1,a0.2.2.2.2.1,a0.2.2.2.2.2.1,a0.2.2.2.2.2.2.1,a0.2.2.2.2.2.2.2.1,a0.2.2.2.2.2.2.2.2.1,(i64.wrap (a0.2.2.2.2.2.2.2.2.2.1-1)),a0.2.2.2.2.2.2.2.2.2.2)) else (true,a0)
def yA4:Con:=⟨yHs,yHy,fun x=>(fun n=>some ((n.1,()),(n.2,()))) (yq4 x.1)⟩
theorem y2Y (a0:dA):yJ4 a0=(fun n=>some ((n.1,()),(n.2,()))) (yq4 a0):=zkV (p:=fun(n:Bool×dA)=>((n.1,()),(n.2,()))) (zkG (p:=fun(n:Bool×dA)=>((n.1,()),(n.2,()))) rfl (zkG (p:=fun(n:Bool×dA)=>((n.1,()),(n.2,()))) rfl (zkG (p:=fun(n:Bool×dA)=>((n.1,()),(n.2,()))) rfl rfl)))
theorem yMF:ConOk prog 228 yA4:=(y1M).mono (fun x r _ h=>(y2Y x.1).trans h)
theorem yWY (a:dA):yq4 a=opA a:=by kernel_rfl
def y2h:Code:=(f206.body).getD .skip
def y2u:Env:=zkw TT [(225,yB1),(228,yA4)] []
theorem yUT:FrOk prog ⟨y2u,43,fun _=>none⟩ y2h:=zkA mixed yf ⟨ySW,yMF,trivial⟩
abbrev ynR:List Par:= [.pt tA oB,.rd tI,.rd tI,.rd tL]
abbrev yuE:List OT:= []
def yym (a0:dA) (a1 a2:Int) (a3:List Int):Option (zaY yuE×zak ynR) :=bif(inb a1 a0.2.2.1.length)then bif(!((((nth a0.2.2.1 a1 ([],[],false,[])).2).2).1))then let r1:=yq4 a0;bif(!r1.1)then some ((),(r1.2,())) else bif(inb a1 r1.2.2.2.1.length)then let r2:=yjn ((nth r1.2.2.2.1 a1 ([],[],false,[])).1,((nth r1.2.2.2.1 a1 ([],[],false,[])).2).1,(((nth r1.2.2.2.1 a1 ([],[],false,[])).2).2)) a2 a3;bif(inb a1 r1.2.2.2.1.length)then some ((),((r1.2.1,r1.2.2.1,(r1.2.2.2.1.set (a1).toNat r2.1),r1.2.2.2.2),())) else none else none else some ((),(a0,())) else none
theorem yY2:ConOk prog 206 ⟨ynR,yuE,fun x=>yym x.1 x.2.1 x.2.2.1 x.2.2.2.1⟩:=zkI (yUT) func206 ntmps206.symm fun x=>by kernel_rfl
def yot (a0:dA) (a1 a2:Int) (a3:List Int):dA:=ybr a0 a1 a2 a3
def yFi (a0:dA) (a1 a2:Int) (a3:List Int):Bool:=inb a1 a0.2.2.1.length
theorem y1D (a0:dA) (a1 a2:Int) (a3:List Int) (hk:zjx ynR (a0,a1,a2,a3,())) (hq:yFi a0 a1 a2 a3=true):yym a0 a1 a2 a3=(fun n=>some ((),(n,()))) (yot a0 a1 a2 a3):=by
 have hq:inb a1 a0.2.2.1.length=true:=hq;unfold yym yot ybr ybx;simp only[yWY,yaY,hq,zkX,yjn];cases(nth a0.2.2.1 a1 yc).2.2.1<;>cases(opA a0).1<;>rfl
def yfD (a0:dA) (a1 a2:Int) (a3:List Int):Option (zaY yuE×zak ynR):=bif yFi a0 a1 a2 a3 then(fun n=>some ((),(n,()))) (yot a0 a1 a2 a3)else none
theorem ymf (a0:dA) (a1 a2:Int) (a3:List Int) (h:yFi a0 a1 a2 a3=true):yfD a0 a1 a2 a3=(fun n=>some ((),(n,()))) (yot a0 a1 a2 a3):=by unfold yfD; rw[h]; rfl
def ykv:Con:=⟨ynR,yuE,fun x=>yfD x.1 x.2.1 x.2.2.1 x.2.2.2.1⟩
theorem yrG:ConOk prog 206 ykv:=(yY2).mono (fun x r hk h=>zkY h (fun hq=>y1D x.1 x.2.1 x.2.2.1 x.2.2.2.1 hk hq))
def ymS:Code:=(f224.body).getD .skip
def ytG:Env:=zkw TT [(76,yja),(160,ygN)] [(32768,(.pr .fz .fz))]
theorem yLJ:FrOk prog ⟨ytG,40,fun _=>none⟩ ymS:=zkA mixed yf ⟨ypG,yme,trivial⟩
def yBv:Nat→Option Seg:=fun _=>none
def ybM:Shape:=⟨[(2,false,[.ptr 64 0]),(3,false,[.ptr 4224 0]),(4,false,[ii])],[(64,oO),(4224,oN)],[(800000000,tL,.fz),(800000001,tW,oF),(800000002,tI,.fz)]⟩
def yfs:Shape:=⟨[(2,false,[.ptr 64 0]),(3,false,[.ptr 4224 0]),(4,false,[.ci .i64 0])],[(64,oO),(4224,oN)],[(800000000,tL,.fz),(800000001,tW,oF),(800000002,tI,.fz)]⟩
def yfi:Shape:=⟨[(2,false,[.ptr 64 0]),(3,false,[.ptr 4224 0])],[(64,oO),(4224,oN)],[(800000000,tL,.fz),(800000001,tW,oF),(800000002,tI,.fz)]⟩
def yi4:Shape:=⟨[],[],[]⟩
abbrev ymx (v0:Int) (v1 v2:dM):(ybM).X:=((((),()),((),()),(v0,()),()),(((),(),v1.2.2.1,(),()),((),(),v2.2.2.1,(),()),()),(v2.1,v2.2.1,v2.2.2.2,()))
abbrev yKz (v0 v1:dM):(yfs).X:=((((),()),((),()),((),()),()),(((),(),v0.2.2.1,(),()),((),(),v1.2.2.1,(),()),()),(v1.1,v1.2.1,v1.2.2.2,()))
abbrev ywF (v0 v1:dM):(yfi).X:=((((),()),((),()),()),(((),(),v0.2.2.1,(),()),((),(),v1.2.2.1,(),()),()),(v1.1,v1.2.1,v1.2.2.2,()))
def ymK (v0:Int) (v1 v2:Bool) (v3:List (List Int)) (v4:List dW) (v5:List Int):Option ((ybM).X ⊕ ((yfi).X ⊕ (yi4).X)) :=bif(ltb v0 (v4.length:Int))then bif(inb v0 v4.length)then bif(inb v0 v4.length)then bif(inb ((nth v4 v0 (0,[])).1) v3.length)then let r4:=(v3.set ((nth v4 v0 (0,[])).1).toNat ((nth v4 v0 (0,[])).2));some (.inl ((((),()),((),()),((i64.wrap (v0+1)),()),()),(((),(),v1,(),()),((),(),v2,(),()),()),(r4,v4,v5,()))) else none else none else none else some (.inr (.inl ((((),()),((),()),()),(((),(),v1,(),()),((),(),v2,(),()),()),(v3,v4,v5,()))))
def yb6 (x:(ybM).X):=ymK x.1.2.2.1.1 x.2.1.1.2.2.1 x.2.1.2.1.2.2.1 x.2.2.1 x.2.2.2.1 x.2.2.2.2.1
def ywo (x:(yfs).X):(ybM).X:=((((),()),((),()),(0,()),()),(((),(),x.2.1.1.2.2.1,(),()),((),(),x.2.1.2.1.2.2.1,(),()),()),(x.2.2.1,x.2.2.2.1,x.2.2.2.2.1,()))
def yyZ:Code:=(zd7 ymS 64 244).getD .skip
theorem yK8:zd7 ymS 64 61=some (.block 0 (.loop yyZ)):=by kernel_rfl
theorem yMT (x:(ybM).X):zhu ⟨ytG,40,yBv⟩ 0 yyZ 244 ybM yfi yi4 x=yb6 x:=by kernel_rfl
def ywz (x:(yfs).X):Nat:=18446744073709551616
def ynP (x:(yfs).X):Option ((yfi).X ⊕ (yi4).X):=zF yb6 (ywz x) (ywo x)
def ywT:Seg:=⟨yfs,yfi,yi4,ynP⟩
def yNu:Nat→Option Seg:=fun q=>bif Nat.beq q 61 then some ywT else yBv q
theorem yLK:FrOk prog ⟨ytG,40,yNu⟩ ymS:=(yLJ).loop (sg:=ywT) ybM ywo (by decide) yK8 yb6 ywz (by decide) (fun _=>rfl) (fun x r _ h=>h) yMT
abbrev ym7:List Par:= [.rd tM]
abbrev yux:List OT:= [⟨false,tM,oC⟩]
def yqA (a0:dM):Option (zaY yux×zak ym7) :=let r1:=yaS a0;let r2:=yaX a0;bif(!(!r2))then bif a0.2.2.1 then some ((r1,()),()) else zkt (ynP ((((),()),((),()),((),()),()),(((),(),false,(),()),((),(),r1.2.2.1,(),()),()),(r1.1,r1.2.1,r1.2.2.2,()))) (fun y4 =>some (((y4.2.2.1,([]:List dW),y4.2.1.2.1.2.2.1,y4.2.2.2.2.1),()),())) (fun y4 =>none) else some ((r1,()),())
theorem yO9:ConOk prog 224 ⟨ym7,yux,fun x=>yqA x.1⟩:=zkI (yLK) func224 ntmps224.symm fun x=>by kernel_rfl
def yjl (a0:dM):dM:=yC a0
theorem yR8 (a0:dM) (hk:zjx ym7 (a0,())):yqA a0=(fun n=>some ((n,()),())) (yjl a0):=by
 have hb2:a0.2.1.length*32≤2^47:=hk.1.2.1.1;unfold yqA yjl yC;simp only[yaS,yaX];cases hm:yx a0
 ·rfl
 have h1:ynP (yKz yc a0)=some (.inl (ywF yc (ygO (fun _=>true) a0.2.1 a0.1,a0.2))) :=
  zkD (step:=yb6) a0.2.1.length (fun i s=>ymx i yc (s,a0.2)) (yfz (fun _=>true) a0.2.1) (fun i s=>s.length=a0.1.length) (fun s=> .inl (ywF yc (s,a0.2))) (fun i s hi hs=>by
   have hw:=(yRo hm hi).1;refine⟨?_,yvm.trans hs⟩
   simp only[yb6,ymx,ymK,zky (show(i:Int)<a0.2.1.length by omega),cond_true,wq ((i:Int)+1) (by omega) (by omega),Int.natCast_add,Int.natCast_one,Int.toNat_natCast,zkR hi,hs,hw,yfz]) (fun s hs=>by simp only[yb6,ymx,ymK,zk3 (Int.le_refl _),cond_false]) a0.1 rfl _ (by show _<18446744073709551616; omega)
 rw[h1];cases hf:a0.2.2.1
 ·exact congrArg (fun z=>some (((ygO (fun _=>true) a0.2.1 a0.1,([]:List dW),z,a0.2.2.2),()),())) hf
 ·rfl
def yBY:Con:=⟨ym7,yux,fun x=>(fun n=>some ((n,()),())) (yjl x.1)⟩
theorem yST:ConOk prog 224 yBY:=(yO9).mono (fun x r hk h=>(yR8 x.1 hk).trans h)
def yrf:Code:=(f208.body).getD .skip
def yz8:Env:=zkw TT [(224,yBY),(228,yA4)] []
theorem yRh:FrOk prog ⟨yz8,39,fun _=>none⟩ yrf:=zkA mixed yf ⟨yST,yMF,trivial⟩
def yFZ:Nat→Option Seg:=fun _=>none
def ydL:Shape:=⟨[(0,false,[.ptr 1000000000 0]),(2,false,[ii])],[(1000000000,oI)],[(800000000,tM,oC),(800000001,tW,oF)]⟩
def yiQ:Shape:=⟨[(0,false,[.ptr 1000000000 0]),(2,false,[.ci .i64 0])],[(1000000000,oI)],[(800000000,tM,oC),(800000001,tW,oF)]⟩
def yiB:Shape:=⟨[],[(1000000000,oI)],[(800000000,tM,oC),(800000001,tW,oF)]⟩
def ynn:Shape:=⟨[],[],[]⟩
abbrev ysn (v0:Int) (v1:dA):(ydL).X:=((((),()),(v0,()),()),((v1.1,v1.2.1.1,v1.2.1.2,(),v1.2.2.2.1,v1.2.2.2.2.1,v1.2.2.2.2.2.1,v1.2.2.2.2.2.2.1,v1.2.2.2.2.2.2.2.1,(),v1.2.2.2.2.2.2.2.2.2.1,v1.2.2.2.2.2.2.2.2.2.2.1,v1.2.2.2.2.2.2.2.2.2.2.2,()),()),(v1.2.2.1,v1.2.2.2.2.2.2.2.2.1,()))
abbrev yRJ (v0:dA):(yiQ).X:=((((),()),((),()),()),((v0.1,v0.2.1.1,v0.2.1.2,(),v0.2.2.2.1,v0.2.2.2.2.1,v0.2.2.2.2.2.1,v0.2.2.2.2.2.2.1,v0.2.2.2.2.2.2.2.1,(),v0.2.2.2.2.2.2.2.2.2.1,v0.2.2.2.2.2.2.2.2.2.2.1,v0.2.2.2.2.2.2.2.2.2.2.2,()),()),(v0.2.2.1,v0.2.2.2.2.2.2.2.2.1,()))
abbrev yE7 (v0:dA):(yiB).X:=((),((v0.1,v0.2.1.1,v0.2.1.2,(),v0.2.2.2.1,v0.2.2.2.2.1,v0.2.2.2.2.2.1,v0.2.2.2.2.2.2.1,v0.2.2.2.2.2.2.2.1,(),v0.2.2.2.2.2.2.2.2.2.1,v0.2.2.2.2.2.2.2.2.2.2.1,v0.2.2.2.2.2.2.2.2.2.2.2,()),()),(v0.2.2.1,v0.2.2.2.2.2.2.2.2.1,()))
def ysX (v0 v1 v2 v3 v4 v5 v6 v7 v8 v9:Int) (v10 v11:Bool) (v12:List dM) (v13:List dW):Option ((ydL).X ⊕ ((yiB).X ⊕ (ynn).X)) :=bif(ltb v0 (v12.length:Int))then bif(inb v0 v12.length)then bif(!((((nth v12 v0 ([],[],false,[])).2).2).1))then let r3:=yq4 (v1,(v2,v3),v12,v4,v5,v6,v7,v8,v13,v9,v10,v11);bif r3.1 then bif(inb v0 r3.2.2.2.1.length)then let r4:=yjl ((nth r3.2.2.2.1 v0 ([],[],false,[])).1,((nth r3.2.2.2.1 v0 ([],[],false,[])).2).1,(((nth r3.2.2.2.1 v0 ([],[],false,[])).2).2));bif(inb v0 r3.2.2.2.1.length)then some (.inl ((((),()),((i64.wrap (v0+1)),()),()),((r3.2.1,r3.2.2.1.1,r3.2.2.1.2,(),r3.2.2.2.2.1,r3.2.2.2.2.2.1,r3.2.2.2.2.2.2.1,r3.2.2.2.2.2.2.2.1,r3.2.2.2.2.2.2.2.2.1,(),r3.2.2.2.2.2.2.2.2.2.2.1,r3.2.2.2.2.2.2.2.2.2.2.2.1,r3.2.2.2.2.2.2.2.2.2.2.2.2,()),()),((r3.2.2.2.1.set (v0).toNat r4),r3.2.2.2.2.2.2.2.2.2.1,()))) else none else none else some (.inl ((((),()),((i64.wrap (v0+1)),()),()),((r3.2.1,r3.2.2.1.1,r3.2.2.1.2,(),r3.2.2.2.2.1,r3.2.2.2.2.2.1,r3.2.2.2.2.2.2.1,r3.2.2.2.2.2.2.2.1,r3.2.2.2.2.2.2.2.2.1,(),r3.2.2.2.2.2.2.2.2.2.2.1,r3.2.2.2.2.2.2.2.2.2.2.2.1,r3.2.2.2.2.2.2.2.2.2.2.2.2,()),()),(r3.2.2.2.1,r3.2.2.2.2.2.2.2.2.2.1,()))) else some (.inl ((((),()),((i64.wrap (v0+1)),()),()),((v1,v2,v3,(),v4,v5,v6,v7,v8,(),v9,v10,v11,()),()),(v12,v13,()))) else none else some (.inr (.inl ((),((v1,v2,v3,(),v4,v5,v6,v7,v8,(),v9,v10,v11,()),()),(v12,v13,()))))
def yel (x:(ydL).X):=ysX x.1.2.1.1 x.2.1.1.1 x.2.1.1.2.1 x.2.1.1.2.2.1 x.2.1.1.2.2.2.2.1 x.2.1.1.2.2.2.2.2.1 x.2.1.1.2.2.2.2.2.2.1 x.2.1.1.2.2.2.2.2.2.2.1 x.2.1.1.2.2.2.2.2.2.2.2.1 x.2.1.1.2.2.2.2.2.2.2.2.2.2.1 x.2.1.1.2.2.2.2.2.2.2.2.2.2.2.1 x.2.1.1.2.2.2.2.2.2.2.2.2.2.2.2.1 x.2.2.1 x.2.2.2.1
def yEH (x:(yiQ).X):(ydL).X:=((((),()),(0,()),()),((x.2.1.1.1,x.2.1.1.2.1,x.2.1.1.2.2.1,(),x.2.1.1.2.2.2.2.1,x.2.1.1.2.2.2.2.2.1,x.2.1.1.2.2.2.2.2.2.1,x.2.1.1.2.2.2.2.2.2.2.1,x.2.1.1.2.2.2.2.2.2.2.2.1,(),x.2.1.1.2.2.2.2.2.2.2.2.2.2.1,x.2.1.1.2.2.2.2.2.2.2.2.2.2.2.1,x.2.1.1.2.2.2.2.2.2.2.2.2.2.2.2.1,()),()),(x.2.2.1,x.2.2.2.1,()))
def yGg:Code:=(zd7 yrf 64 12).getD .skip
theorem yUd:zd7 yrf 64 3=some (.block 0 (.loop yGg)):=by kernel_rfl
theorem yWU (x:(ydL).X):zhu ⟨yz8,39,yFZ⟩ 0 yGg 12 ydL yiB ynn x=yel x:=by kernel_rfl
def yEY (x:(yiQ).X):Nat:=18446744073709551616
def ytW (x:(yiQ).X):Option ((yiB).X ⊕ (ynn).X):=zF yel (yEY x) (yEH x)
def yFE:Seg:=⟨yiQ,yiB,ynn,ytW⟩
def yTJ:Nat→Option Seg:=fun q=>bif Nat.beq q 3 then some yFE else yFZ q
theorem yRi:FrOk prog ⟨yz8,39,yTJ⟩ yrf:=(yRh).loop (sg:=yFE) ydL yEH (by decide) yUd yel yEY (by decide) (fun _=>rfl) (fun x r _ h=>h) yWU
abbrev yrv:List Par:= [.pt tA oB]
abbrev yA2:List OT:= []
def yvT (a0:dA):Option (zaY yA2×zak yrv) :=zkt (ytW ((((),()),((),()),()),((a0.1,a0.2.1.1,a0.2.1.2,(),a0.2.2.2.1,a0.2.2.2.2.1,a0.2.2.2.2.2.1,a0.2.2.2.2.2.2.1,a0.2.2.2.2.2.2.2.1,(),a0.2.2.2.2.2.2.2.2.2.1,a0.2.2.2.2.2.2.2.2.2.2.1,a0.2.2.2.2.2.2.2.2.2.2.2,()),()),(a0.2.2.1,a0.2.2.2.2.2.2.2.2.1,()))) (fun y4 =>some ((),((y4.2.1.1.1,(y4.2.1.1.2.1,y4.2.1.1.2.2.1),y4.2.2.1,y4.2.1.1.2.2.2.2.1,y4.2.1.1.2.2.2.2.2.1,y4.2.1.1.2.2.2.2.2.2.1,y4.2.1.1.2.2.2.2.2.2.2.1,y4.2.1.1.2.2.2.2.2.2.2.2.1,y4.2.2.2.1,y4.2.1.1.2.2.2.2.2.2.2.2.2.2.1,y4.2.1.1.2.2.2.2.2.2.2.2.2.2.2.1,y4.2.1.1.2.2.2.2.2.2.2.2.2.2.2.2.1),()))) (fun y4 =>none)
theorem yWn:ConOk prog 208 ⟨yrv,yA2,fun x=>yvT x.1⟩:=zkI (yRi) func208 ntmps208.symm fun x=>by kernel_rfl
def yer (a0:dA):dA:=yd a0
theorem yYG (a0:dA) (hk:zjx yrv (a0,())):yvT a0=(fun n=>some ((),(n,()))) (yer a0):=by
 have hb:a0.2.2.1.length*80≤2^47:=hk.1.2.2.1.1
 have h1:ytW (yRJ a0)=some (.inl (yE7 (yd a0))) :=
  zkD (step:=yel) a0.2.2.1.length (fun i s=>ysn i s) yae (fun _ s=>s.2.2.1.length=a0.2.2.1.length) (fun s=> .inl (yE7 s)) (fun i s hi hs=>⟨by
   simp only[yel,ysn,ysX,hs,zky (show(i:Int)<a0.2.2.1.length by omega),cond_true,wq ((i:Int)+1) (by omega) (by omega),Int.natCast_add,Int.natCast_one,Int.toNat_natCast,zkR hi,zkX,yWY,yaY,yjl,yae,ybx]
   cases(nth s.2.2.1 i yc).2.2.1<;>cases(opA s).1<;>simp only[cond_true,cond_false,Bool.not_true,Bool.not_false,yaY,Int.toNat_natCast],(ymk s i).trans hs⟩) (fun s hs=>by simp only[yel,ysn,ysX,hs,zk3 (Int.le_refl _),cond_false]) a0 rfl _ (by show _<18446744073709551616; omega)
 unfold yvT yer;rw[h1]; rfl
def ynw:Con:=⟨yrv,yA2,fun x=>(fun n=>some ((),(n,()))) (yer x.1)⟩
theorem yx4:ConOk prog 208 ynw:=(yWn).mono (fun x r hk h=>(yYG x.1 hk).trans h)
def yre:Code:=(f174.body).getD .skip
def yz7:Env:=zkw TT [(144,yqa),(206,ykv),(208,ynw)] []
theorem yRf:FrOk prog ⟨yz7,63,fun _=>none⟩ yre:=zkA mixed yf ⟨yFg,yrG,yx4,trivial⟩
def yFY:Nat→Option Seg:=fun _=>none
def yc6:Shape:=⟨[(0,false,[.ptr 1000000000 0]),(2,false,[ii])],[(1000000000,oI)],[(800000000,tM,oC),(800000001,tW,oF)]⟩
def yhn:Shape:=⟨[(0,false,[.ptr 1000000000 0]),(2,false,[.ci .i64 0])],[(1000000000,oI)],[(800000000,tM,oC),(800000001,tW,oF)]⟩
def yhc:Shape:=⟨[(0,false,[.ptr 1000000000 0])],[(1000000000,oI)],[(800000000,tM,oC),(800000001,tW,oF)]⟩
def ylq:Shape:=⟨[],[],[]⟩
abbrev yqk (v0:Int) (v1:dA):(yc6).X:=((((),()),(v0,()),()),((v1.1,v1.2.1.1,v1.2.1.2,(),v1.2.2.2.1,v1.2.2.2.2.1,v1.2.2.2.2.2.1,v1.2.2.2.2.2.2.1,v1.2.2.2.2.2.2.2.1,(),v1.2.2.2.2.2.2.2.2.2.1,v1.2.2.2.2.2.2.2.2.2.2.1,v1.2.2.2.2.2.2.2.2.2.2.2,()),()),(v1.2.2.1,v1.2.2.2.2.2.2.2.2.1,()))
abbrev yOH (v0:dA):(yhn).X:=((((),()),((),()),()),((v0.1,v0.2.1.1,v0.2.1.2,(),v0.2.2.2.1,v0.2.2.2.2.1,v0.2.2.2.2.2.1,v0.2.2.2.2.2.2.1,v0.2.2.2.2.2.2.2.1,(),v0.2.2.2.2.2.2.2.2.2.1,v0.2.2.2.2.2.2.2.2.2.2.1,v0.2.2.2.2.2.2.2.2.2.2.2,()),()),(v0.2.2.1,v0.2.2.2.2.2.2.2.2.1,()))
abbrev yCu (v0:dA):(yhc).X:=((((),()),()),((v0.1,v0.2.1.1,v0.2.1.2,(),v0.2.2.2.1,v0.2.2.2.2.1,v0.2.2.2.2.2.1,v0.2.2.2.2.2.2.1,v0.2.2.2.2.2.2.2.1,(),v0.2.2.2.2.2.2.2.2.2.1,v0.2.2.2.2.2.2.2.2.2.2.1,v0.2.2.2.2.2.2.2.2.2.2.2,()),()),(v0.2.2.1,v0.2.2.2.2.2.2.2.2.1,()))
def yqR (v0 v1 v2 v3 v4 v5 v6 v7 v8 v9:Int) (v10 v11:Bool) (v12:List dM) (v13:List dW):Option ((yc6).X ⊕ ((yhc).X ⊕ (ylq).X)) :=bif(ltb v0 (v12.length:Int))then let r3:=yo (v1,v8,v0,v2,v3,v7,v4,v5);bnd (yfD (v1,(v2,v3),v12,v4,v5,v6,v7,v8,v13,v9,v10,v11) v0 (v8.tmod 2) r3) fun r4 =>some (.inl ((((),()),((i64.wrap (v0+1)),()),()),((r4.2.1.1,r4.2.1.2.1.1,r4.2.1.2.1.2,(),r4.2.1.2.2.2.1,r4.2.1.2.2.2.2.1,r4.2.1.2.2.2.2.2.1,r4.2.1.2.2.2.2.2.2.1,r4.2.1.2.2.2.2.2.2.2.1,(),r4.2.1.2.2.2.2.2.2.2.2.2.1,r4.2.1.2.2.2.2.2.2.2.2.2.2.1,r4.2.1.2.2.2.2.2.2.2.2.2.2.2,()),()),(r4.2.1.2.2.1,r4.2.1.2.2.2.2.2.2.2.2.1,()))) else some (.inr (.inl ((((),()),()),((v1,v2,v3,(),v4,v5,v6,v7,v8,(),v9,v10,v11,()),()),(v12,v13,()))))
def ydu (x:(yc6).X):=yqR x.1.2.1.1 x.2.1.1.1 x.2.1.1.2.1 x.2.1.1.2.2.1 x.2.1.1.2.2.2.2.1 x.2.1.1.2.2.2.2.2.1 x.2.1.1.2.2.2.2.2.2.1 x.2.1.1.2.2.2.2.2.2.2.1 x.2.1.1.2.2.2.2.2.2.2.2.1 x.2.1.1.2.2.2.2.2.2.2.2.2.2.1 x.2.1.1.2.2.2.2.2.2.2.2.2.2.2.1 x.2.1.1.2.2.2.2.2.2.2.2.2.2.2.2.1 x.2.2.1 x.2.2.2.1
def yCf (x:(yhn).X):(yc6).X:=((((),()),(0,()),()),((x.2.1.1.1,x.2.1.1.2.1,x.2.1.1.2.2.1,(),x.2.1.1.2.2.2.2.1,x.2.1.1.2.2.2.2.2.1,x.2.1.1.2.2.2.2.2.2.1,x.2.1.1.2.2.2.2.2.2.2.1,x.2.1.1.2.2.2.2.2.2.2.2.1,(),x.2.1.1.2.2.2.2.2.2.2.2.2.2.1,x.2.1.1.2.2.2.2.2.2.2.2.2.2.2.1,x.2.1.1.2.2.2.2.2.2.2.2.2.2.2.2.1,()),()),(x.2.2.1,x.2.2.2.1,()))
def yEc:Code:=(zd7 yre 64 52).getD .skip
theorem yQl:zd7 yre 64 13=some (.block 0 (.loop yEc)):=by kernel_rfl
theorem yTd (x:(yc6).X):zhu ⟨yz7,63,yFY⟩ 0 yEc 52 yc6 yhc ylq x=ydu x:=by kernel_rfl
def yCq (x:(yhn).X):Nat:=18446744073709551616
def yrV (x:(yhn).X):Option ((yhc).X ⊕ (ylq).X):=zF ydu (yCq x) (yCf x)
def yCN:Seg:=⟨yhn,yhc,ylq,yrV⟩
def yTI:Nat→Option Seg:=fun q=>bif Nat.beq q 13 then some yCN else yFY q
theorem yRg:FrOk prog ⟨yz7,63,yTI⟩ yre:=(yRf).loop (sg:=yCN) yc6 yCf (by decide) yQl ydu yCq (by decide) (fun _=>rfl) (fun x r _ h=>h) yTd
abbrev yru:List Par:= [.pt tA oB]
abbrev yA1:List OT:= []
def yvS (a0:dA):Option (zaY yA1×zak yru) :=zkt (yrV ((((),()),((),()),()),((a0.1,a0.2.1.1,a0.2.1.2,(),a0.2.2.2.1,a0.2.2.2.2.1,a0.2.2.2.2.2.1,a0.2.2.2.2.2.2.1,(i64.wrap (a0.2.2.2.2.2.2.2.1+1)),(),a0.2.2.2.2.2.2.2.2.2.1,a0.2.2.2.2.2.2.2.2.2.2.1,a0.2.2.2.2.2.2.2.2.2.2.2,()),()),(a0.2.2.1,a0.2.2.2.2.2.2.2.2.1,()))) (fun y4 =>let r6:=yer (y4.2.1.1.1,(y4.2.1.1.2.1,y4.2.1.1.2.2.1),y4.2.2.1,y4.2.1.1.2.2.2.2.1,y4.2.1.1.2.2.2.2.2.1,y4.2.1.1.2.2.2.2.2.2.1,y4.2.1.1.2.2.2.2.2.2.2.1,y4.2.1.1.2.2.2.2.2.2.2.2.1,y4.2.2.2.1,y4.2.1.1.2.2.2.2.2.2.2.2.2.2.1,y4.2.1.1.2.2.2.2.2.2.2.2.2.2.2.1,y4.2.1.1.2.2.2.2.2.2.2.2.2.2.2.2.1);some ((),(r6,()))) (fun y4 =>none)
theorem yWm:ConOk prog 174 ⟨yru,yA1,fun x=>yvS x.1⟩:=zkI (yRg) func174 ntmps174.symm fun x=>by kernel_rfl
def ybc (a0:dA):dA:=yn a0
theorem yPI (a:dA) (i:Nat):(yah a i).2.2.1.length=a.2.2.1.length:=ypH _ _ _ _
theorem yYF (a0:dA) (hk:zjx yru (a0,())):yvS a0=(fun n=>some ((),(n,()))) (ybc a0):=by
 have hb:a0.2.2.1.length*80≤2^47:=hk.1.2.2.1.1
 have h1:yrV (yOH (yS a0))=some (.inl (yCu ((List.range a0.2.2.1.length).foldl yah (yS a0)))) :=
  zkD (step:=ydu) a0.2.2.1.length (fun i s=>yqk i s) yah (fun _ s=>s.2.2.1.length=a0.2.2.1.length) (fun s=> .inl (yCu s)) (fun i s hi hs=>⟨by
   simp only[ydu,yqk,yqR,hs,zky (show(i:Int)<a0.2.2.1.length by omega),cond_true,wq ((i:Int)+1) (by omega) (by omega),Int.natCast_add,Int.natCast_one,Int.toNat_natCast,zkX];rw[ymf s i (s.2.2.2.2.2.2.2.1.tmod 2) (yo (s.1,s.2.2.2.2.2.2.2.1,(i:Int),s.2.1.1,s.2.1.2,s.2.2.2.2.2.2.1,s.2.2.2.1,s.2.2.2.2.1)) (zkR (by rw[hs]; exact hi))]
   rfl,(yPI s i).trans hs⟩) (fun s hs=>by simp only[ydu,yqk,yqR,hs,zk3 (Int.le_refl _),cond_false]) (yS a0) rfl _ (by show _<18446744073709551616; omega)
 unfold yvS ybc yn;exact(congrArg (fun z=>zkt z _ _) h1).trans rfl
def ynv:Con:=⟨yru,yA1,fun x=>(fun n=>some ((),(n,()))) (ybc x.1)⟩
theorem yx3:ConOk prog 174 ynv:=(yWm).mono (fun x r hk h=>(yYF x.1 hk).trans h)
def ymL:Code:=(f107.body).getD .skip
def ytz:Env:=zkw TT [(139,yfw),(165,yjV),(172,yBR),(173,yEj)] []
theorem yLj:FrOk prog ⟨ytz,37,fun _=>none⟩ ymL:=zkA mixed yf ⟨yj0,ysq,ySM,yWt,trivial⟩
def yBn:Nat→Option Seg:=fun _=>none
def ybE:Shape:=⟨[(0,false,[.ptr 1000000000 0]),(15,false,[ii]),(16,false,[ii])],[(1000000000,oI)],[(800000000,tM,oA),(800000001,tW,oE)]⟩
def yfk:Shape:=⟨[(0,false,[.ptr 1000000000 0]),(15,false,[ii]),(16,false,[.ci .i64 0])],[(1000000000,oI)],[(800000000,tM,oA),(800000001,tW,oE)]⟩
def yfa:Shape:=⟨[(0,false,[.ptr 1000000000 0])],[(1000000000,oI)],[(800000000,tM,oA),(800000001,tW,oE)]⟩
def yfu:Shape:=⟨[(2,false,[.bool])],[(1000000000,oI)],[(800000000,tM,oA),(800000001,tW,oE)]⟩
abbrev yms (v0 v1:Int) (v2:dA):(ybE).X:=((((),()),(v0,()),(v1,()),()),((v2.1,v2.2.1.1,v2.2.1.2,(),v2.2.2.2.1,v2.2.2.2.2.1,v2.2.2.2.2.2.1,v2.2.2.2.2.2.2.1,v2.2.2.2.2.2.2.2.1,(),v2.2.2.2.2.2.2.2.2.2.1,v2.2.2.2.2.2.2.2.2.2.2.1,v2.2.2.2.2.2.2.2.2.2.2.2,()),()),(v2.2.2.1,v2.2.2.2.2.2.2.2.2.1,()))
abbrev yKs (v0:Int) (v1:dA):(yfk).X:=((((),()),(v0,()),((),()),()),((v1.1,v1.2.1.1,v1.2.1.2,(),v1.2.2.2.1,v1.2.2.2.2.1,v1.2.2.2.2.2.1,v1.2.2.2.2.2.2.1,v1.2.2.2.2.2.2.2.1,(),v1.2.2.2.2.2.2.2.2.2.1,v1.2.2.2.2.2.2.2.2.2.2.1,v1.2.2.2.2.2.2.2.2.2.2.2,()),()),(v1.2.2.1,v1.2.2.2.2.2.2.2.2.1,()))
abbrev ymy (v0:dA):(yfa).X:=((((),()),()),((v0.1,v0.2.1.1,v0.2.1.2,(),v0.2.2.2.1,v0.2.2.2.2.1,v0.2.2.2.2.2.1,v0.2.2.2.2.2.2.1,v0.2.2.2.2.2.2.2.1,(),v0.2.2.2.2.2.2.2.2.2.1,v0.2.2.2.2.2.2.2.2.2.2.1,v0.2.2.2.2.2.2.2.2.2.2.2,()),()),(v0.2.2.1,v0.2.2.2.2.2.2.2.2.1,()))
abbrev ymA (v0:Bool) (v1:dA):(yfu).X:=(((v0,()),()),((v1.1,v1.2.1.1,v1.2.1.2,(),v1.2.2.2.1,v1.2.2.2.2.1,v1.2.2.2.2.2.1,v1.2.2.2.2.2.2.1,v1.2.2.2.2.2.2.2.1,(),v1.2.2.2.2.2.2.2.2.2.1,v1.2.2.2.2.2.2.2.2.2.2.1,v1.2.2.2.2.2.2.2.2.2.2.2,()),()),(v1.2.2.1,v1.2.2.2.2.2.2.2.2.1,()))
def ymD (v0 v1 v2 v3 v4 v5 v6 v7 v8 v9 v10:Int) (v11 v12:Bool) (v13:List dM) (v14:List dW):Option ((ybE).X ⊕ ((yfa).X ⊕ (yfu).X)) :=bif(ltb v1 v0)then let r4:=ypx (v2,(v3,v4),v13,v5,v6,v7,v8,v9,v14,v10,v11,v12) v1;let r5:=yjj r4;bnd (yc9 (v2,(v3,v4),v13,v5,v6,v7,v8,v9,v14,v10,v11,v12) v1 (v9.tmod 2) r5) fun r6 =>bif(!r6.1.1)then some (.inr (.inr (((false,()),()),((r6.2.1.1,r6.2.1.2.1.1,r6.2.1.2.1.2,(),r6.2.1.2.2.2.1,r6.2.1.2.2.2.2.1,r6.2.1.2.2.2.2.2.1,r6.2.1.2.2.2.2.2.2.1,r6.2.1.2.2.2.2.2.2.2.1,(),r6.2.1.2.2.2.2.2.2.2.2.2.1,r6.2.1.2.2.2.2.2.2.2.2.2.2.1,r6.2.1.2.2.2.2.2.2.2.2.2.2.2,()),()),(r6.2.1.2.2.1,r6.2.1.2.2.2.2.2.2.2.2.1,())))) else some (.inl ((((),()),(v0,()),((i64.wrap (v1+1)),()),()),((r6.2.1.1,r6.2.1.2.1.1,r6.2.1.2.1.2,(),r6.2.1.2.2.2.1,r6.2.1.2.2.2.2.1,r6.2.1.2.2.2.2.2.1,r6.2.1.2.2.2.2.2.2.1,r6.2.1.2.2.2.2.2.2.2.1,(),r6.2.1.2.2.2.2.2.2.2.2.2.1,r6.2.1.2.2.2.2.2.2.2.2.2.2.1,r6.2.1.2.2.2.2.2.2.2.2.2.2.2,()),()),(r6.2.1.2.2.1,r6.2.1.2.2.2.2.2.2.2.2.1,()))) else some (.inr (.inl ((((),()),()),((v2,v3,v4,(),v5,v6,v7,v8,v9,(),v10,v11,v12,()),()),(v13,v14,()))))
def ybZ (x:(ybE).X):=ymD x.1.2.1.1 x.1.2.2.1.1 x.2.1.1.1 x.2.1.1.2.1 x.2.1.1.2.2.1 x.2.1.1.2.2.2.2.1 x.2.1.1.2.2.2.2.2.1 x.2.1.1.2.2.2.2.2.2.1 x.2.1.1.2.2.2.2.2.2.2.1 x.2.1.1.2.2.2.2.2.2.2.2.1 x.2.1.1.2.2.2.2.2.2.2.2.2.2.1 x.2.1.1.2.2.2.2.2.2.2.2.2.2.2.1 x.2.1.1.2.2.2.2.2.2.2.2.2.2.2.2.1 x.2.2.1 x.2.2.2.1
def ywf (x:(yfk).X):(ybE).X:=((((),()),(x.1.2.1.1,()),(0,()),()),((x.2.1.1.1,x.2.1.1.2.1,x.2.1.1.2.2.1,(),x.2.1.1.2.2.2.2.1,x.2.1.1.2.2.2.2.2.1,x.2.1.1.2.2.2.2.2.2.1,x.2.1.1.2.2.2.2.2.2.2.1,x.2.1.1.2.2.2.2.2.2.2.2.1,(),x.2.1.1.2.2.2.2.2.2.2.2.2.2.1,x.2.1.1.2.2.2.2.2.2.2.2.2.2.2.1,x.2.1.1.2.2.2.2.2.2.2.2.2.2.2.2.1,()),()),(x.2.2.1,x.2.2.2.1,()))
def yyQ:Code:=(zd7 ymL 64 116).getD .skip
theorem yKZ:zd7 ymL 64 29=some (.block 0 (.loop yyQ)):=by kernel_rfl
theorem yMK (x:(ybE).X):zhu ⟨ytz,37,yBn⟩ 0 yyQ 116 ybE yfa yfu x=ybZ x:=by kernel_rfl
def ywq (x:(yfk).X):Nat:=18446744073709551616
def ynI (x:(yfk).X):Option ((yfa).X ⊕ (yfu).X):=zF ybZ (ywq x) (ywf x)
def ywK:Seg:=⟨yfk,yfa,yfu,ynI⟩
def yNm:Nat→Option Seg:=fun q=>bif Nat.beq q 29 then some ywK else yBn q
theorem yLk:FrOk prog ⟨ytz,37,yNm⟩ ymL:=(yLj).loop (sg:=ywK) ybE ywf (by decide) yKZ ybZ ywq (by decide) (fun _=>rfl) (fun x r _ h=>h) yMK
abbrev yig:List Par:= [.pt tA oD]
abbrev yne:List OT:= [⟨false,tB,.fz⟩]
def yqn (a0:dA):Option (zaY yne×zak yig) :=zkt (ynI ((((),()),((a0.2.2.1.length:Int),()),((),()),()),((a0.1,a0.2.1.1,a0.2.1.2,(),a0.2.2.2.1,a0.2.2.2.2.1,a0.2.2.2.2.2.1,a0.2.2.2.2.2.2.1,(i64.wrap (a0.2.2.2.2.2.2.2.1+1)),(),a0.2.2.2.2.2.2.2.2.2.1,a0.2.2.2.2.2.2.2.2.2.2.1,a0.2.2.2.2.2.2.2.2.2.2.2,()),()),(a0.2.2.1,a0.2.2.2.2.2.2.2.2.1,()))) (fun y6 =>bnd (yfQ (y6.2.1.1.1,(y6.2.1.1.2.1,y6.2.1.1.2.2.1),y6.2.2.1,y6.2.1.1.2.2.2.2.1,y6.2.1.1.2.2.2.2.2.1,y6.2.1.1.2.2.2.2.2.2.1,y6.2.1.1.2.2.2.2.2.2.2.1,y6.2.1.1.2.2.2.2.2.2.2.2.1,y6.2.2.2.1,y6.2.1.1.2.2.2.2.2.2.2.2.2.2.1,y6.2.1.1.2.2.2.2.2.2.2.2.2.2.2.1,y6.2.1.1.2.2.2.2.2.2.2.2.2.2.2.2.1)) fun r8 =>some ((r8.1.1,()),(r8.2.1,()))) (fun y6 =>some ((y6.1.1.1,()),((y6.2.1.1.1,(y6.2.1.1.2.1,y6.2.1.1.2.2.1),y6.2.2.1,y6.2.1.1.2.2.2.2.1,y6.2.1.1.2.2.2.2.2.1,y6.2.1.1.2.2.2.2.2.2.1,y6.2.1.1.2.2.2.2.2.2.2.1,y6.2.1.1.2.2.2.2.2.2.2.2.1,y6.2.2.2.1,y6.2.1.1.2.2.2.2.2.2.2.2.2.2.1,y6.2.1.1.2.2.2.2.2.2.2.2.2.2.2.1,y6.2.1.1.2.2.2.2.2.2.2.2.2.2.2.2.1),())))
theorem yOS:ConOk prog 107 ⟨yig,yne,fun x=>yqn x.1⟩:=zkI (yLk) func107 ntmps107.symm fun x=>by kernel_rfl
def ynx (a0:dA):Bool×dA:=(!(ya (yn a0)),yn a0)
def yd2 (a0:dA):Bool:= !(ya a0)
theorem y2P {a:dA} (i:Nat) (h:ya a=true):yah a i=a:=yow h _ _ _
theorem yRT (a0:dA) (hk:zjx yig (a0,())) (hq:yd2 a0=true):yqn a0=(fun n=>some ((n.1,()),(n.2,()))) (ynx a0):=by
 have hb:a0.2.2.1.length*80≤2^47:=hk.1.2.2.1.1;have hd0:ya a0=false:=by simpa [yd2]using hq
 have h1:ynI (yKs a0.2.2.1.length (yS a0))=some (bif ya ((List.range a0.2.2.1.length).foldl yah (yS a0))then .inr (ymA false ((List.range a0.2.2.1.length).foldl yah (yS a0)))else .inl (ymy ((List.range a0.2.2.1.length).foldl yah (yS a0)))):=by
  have:=zkC (step:=ybZ) a0.2.2.1.length (fun i s=>yms a0.2.2.1.length i s) (fun i s=>bif ya (yah s i)then(.inr (yah s i):dA ⊕ dA)else .inl (yah s i)) (fun _ s=>s.2.2.1.length=a0.2.2.1.length∧ya s=false) id
   (fun b=>bif ya b then .inr (ymA false b)else .inl (ymy b)) (fun i s hi hs=>by
    constructor
    ·simp only[ybZ,yms,ymD,zky (show(i:Int)<a0.2.2.1.length by omega),cond_true,wq ((i:Int)+1) (by omega) (by omega),Int.natCast_add,Int.natCast_one,Int.toNat_natCast,zkX,y3u,ypx]
     rw[yj2 s i (s.2.2.2.2.2.2.2.1.tmod 2) (yo (s.1,s.2.2.2.2.2.2.2.1,(i:Int),s.2.1.1,s.2.1.2,s.2.2.2.2.2.2.1,s.2.2.2.1,s.2.2.2.2.1)) (by unfold ybR; rw[zkR (by rw[hs.1]; exact hi),hs.2]; rfl)];simp only[zkH,ybQ];rw[show ybr s i (s.2.2.2.2.2.2.2.1.tmod 2) (yo (s.1,s.2.2.2.2.2.2.2.1,(i:Int),s.2.1.1,s.2.1.2,s.2.2.2.2.2.2.1,s.2.2.2.1,s.2.2.2.2.1))=yah s i from rfl];cases hd:ya (yah s i)
     ·rfl
     ·simp only[hd,Bool.not_true,Bool.not_false,cond_true,ymA]
    ·intro s' h
     cases hd:ya (yah s i)
     ·rw[hd]at h
      cases h;exact⟨(yPI s i).trans hs.1,hd⟩
     ·rw[hd]at h; cases h) (fun s hs=>by simp only[ybZ,yms,ymD,hs.2,zk3 (Int.le_refl _),cond_false,id,ymy]) (yS a0) ⟨rfl,hd0⟩ 18446744073709551616 (by omega)
  rw[yE0 (fun a i h=>y2P i h),← List.range_eq_range']at this;exact this
 unfold yqn ynx yn;refine(congrArg (fun z=>zkt z _ _) h1).trans ?_;cases hd:ya ((List.range a0.2.2.1.length).foldl yah (yS a0))
 ·simp only[cond_false,zkN,zkX]
  rw[yss _ (by unfold yfR; rw[hd]; rfl)]; rfl
 ·rw[yti hd]
  simp only[cond_true,zkO,zkX];rw[hd]; rfl
def yaN (a0:dA):Option (zaY yne×zak yig):=bif yd2 a0 then(fun n=>some ((n.1,()),(n.2,()))) (ynx a0)else none
theorem ysr (a0:dA) (h:yd2 a0=true):yaN a0=(fun n=>some ((n.1,()),(n.2,()))) (ynx a0):=by unfold yaN; rw[h]; rfl
def yjU:Con:=⟨yig,yne,fun x=>yaN x.1⟩
theorem ysp:ConOk prog 107 yjU:=(yOS).mono (fun x r hk h=>zkY h (fun hq=>yRT x.1 hk hq))
def yPQ:Code:=(f99.body).getD .skip
def yP7:Env:=zkw TT [(107,yjU),(165,yjV)] []
theorem yKe:FrOk prog ⟨yP7,15,fun _=>none⟩ yPQ:=zkA mixed yf ⟨ysp,ysq,trivial⟩
abbrev ygZ:List Par:= [.pt tA oD]
abbrev ylh:List OT:= [⟨false,tB,.fz⟩]
def yox (a0:dA):Option (zaY ylh×zak ygZ) :=bnd (yfQ a0) fun r1 =>bif(!r1.1.1)then some ((false,()),(r1.2.1,())) else bnd (yaN (r1.2.1.1,r1.2.1.2.1,r1.2.1.2.2.1,r1.2.1.2.2.2.1,r1.2.1.2.2.2.2.1,r1.2.1.2.2.2.2.2.1,r1.2.1.2.2.2.2.2.1,r1.2.1.2.2.2.2.2.2.2)) fun r2 =>some ((r2.1.1,()),(r2.2.1,()))
theorem yMv:ConOk prog 99 ⟨ygZ,ylh,fun x=>yox x.1⟩:=zkI (yKe) func99 ntmps99.symm fun x=>by kernel_rfl
def ylB (a0:dA):Bool×dA:=(!(ya (ym a0)),ym a0)
def yhH (a0:dA):Bool:= !(ya a0)
theorem yOL (a0:dA) (hk:zjx ygZ (a0,())) (hq:yhH a0=true):yox a0=(fun n=>some ((n.1,()),(n.2,()))) (ylB a0):=by
 unfold yox ylB ym;rw[yss a0 hq];simp only[zkH,yje];cases hd:ya (yd a0)
 ·have hm:yaN (yT (yd a0))=some ((!(ya (yn (yT (yd a0)))),()),(yn (yT (yd a0)),())):=ysr (yT (yd a0)) (by unfold yd2; rw[show ya (yT (yd a0))=ya (yd a0)from rfl,hd]; rfl)
  exact(congrArg (fun z=>bnd z _) hm).trans rfl
 ·simp only[Bool.not_true,Bool.not_false,cond_true]
  rw[hd]; rfl
def yhF (a0:dA):Option (zaY ylh×zak ygZ):=bif yhH a0 then(fun n=>some ((n.1,()),(n.2,()))) (ylB a0)else none
theorem yCy (a0:dA) (h:yhH a0=true):yhF a0=(fun n=>some ((n.1,()),(n.2,()))) (ylB a0):=by unfold yhF; rw[h]; rfl
def yn0:Con:=⟨ygZ,ylh,fun x=>yhF x.1⟩
theorem yCw:ConOk prog 99 yn0:=(yMv).mono (fun x r hk h=>zkY h (fun hq=>yOL x.1 hk hq))
def yq8:Code:=(f28.body).getD .skip
def yz1:Env:=zkw TT [(23,yEg),(95,yeT),(96,yBT),(97,ywc),(98,yy2),(99,yn0)] []
theorem yQA:FrOk prog ⟨yz1,50,fun _=>none⟩ yq8:=zkA mixed yf ⟨yWq,yjr,ySO,yMC,yPj,yCw,trivial⟩
def yFQ:Nat→Option Seg:=fun _=>none
def ycW:Shape:=⟨[(2,false,[.ptr 64 0]),(3,false,[.ptr 4224 0]),(16,false,[ii])],[(64,oK),(4224,oI)],[(800000000,tM,oA),(800000001,tW,oE)]⟩
def yhd:Shape:=⟨[(2,false,[.ptr 64 0]),(3,false,[.ptr 4224 0]),(16,false,[.ci .i64 0])],[(64,oK),(4224,oI)],[(800000000,tM,oA),(800000001,tW,oE)]⟩
def yg2:Shape:=⟨[(2,false,[.ptr 64 0]),(3,false,[.ptr 4224 0])],[(64,oK),(4224,oI)],[(800000000,tM,oA),(800000001,tW,oE)]⟩
def yho:Shape:=⟨[(2,false,[.ptr 64 0])],[(64,oI)],[(800000000,tM,oA),(800000001,tW,oE)]⟩
abbrev yqc (v0:Int) (v1 v2:dA):(ycW).X:=((((),()),((),()),(v0,()),()),((v1.1,v1.2.1.1,v1.2.1.2,(),v1.2.2.2.1,v1.2.2.2.2.1,v1.2.2.2.2.2.1,v1.2.2.2.2.2.2.1,v1.2.2.2.2.2.2.2.1,(),v1.2.2.2.2.2.2.2.2.2.1,v1.2.2.2.2.2.2.2.2.2.2.1,v1.2.2.2.2.2.2.2.2.2.2.2,()),(v2.1,v2.2.1.1,v2.2.1.2,(),v2.2.2.2.1,v2.2.2.2.2.1,v2.2.2.2.2.2.1,v2.2.2.2.2.2.2.1,v2.2.2.2.2.2.2.2.1,(),v2.2.2.2.2.2.2.2.2.2.1,v2.2.2.2.2.2.2.2.2.2.2.1,v2.2.2.2.2.2.2.2.2.2.2.2,()),()),(v2.2.2.1,v2.2.2.2.2.2.2.2.2.1,()))
abbrev yOy (v0 v1:dA):(yhd).X:=((((),()),((),()),((),()),()),((v0.1,v0.2.1.1,v0.2.1.2,(),v0.2.2.2.1,v0.2.2.2.2.1,v0.2.2.2.2.2.1,v0.2.2.2.2.2.2.1,v0.2.2.2.2.2.2.2.1,(),v0.2.2.2.2.2.2.2.2.2.1,v0.2.2.2.2.2.2.2.2.2.2.1,v0.2.2.2.2.2.2.2.2.2.2.2,()),(v1.1,v1.2.1.1,v1.2.1.2,(),v1.2.2.2.1,v1.2.2.2.2.1,v1.2.2.2.2.2.1,v1.2.2.2.2.2.2.1,v1.2.2.2.2.2.2.2.1,(),v1.2.2.2.2.2.2.2.2.2.1,v1.2.2.2.2.2.2.2.2.2.2.1,v1.2.2.2.2.2.2.2.2.2.2.2,()),()),(v1.2.2.1,v1.2.2.2.2.2.2.2.2.1,()))
abbrev yOs (v0 v1:dA):(yg2).X:=((((),()),((),()),()),((v0.1,v0.2.1.1,v0.2.1.2,(),v0.2.2.2.1,v0.2.2.2.2.1,v0.2.2.2.2.2.1,v0.2.2.2.2.2.2.1,v0.2.2.2.2.2.2.2.1,(),v0.2.2.2.2.2.2.2.2.2.1,v0.2.2.2.2.2.2.2.2.2.2.1,v0.2.2.2.2.2.2.2.2.2.2.2,()),(v1.1,v1.2.1.1,v1.2.1.2,(),v1.2.2.2.1,v1.2.2.2.2.1,v1.2.2.2.2.2.1,v1.2.2.2.2.2.2.1,v1.2.2.2.2.2.2.2.1,(),v1.2.2.2.2.2.2.2.2.2.1,v1.2.2.2.2.2.2.2.2.2.2.1,v1.2.2.2.2.2.2.2.2.2.2.2,()),()),(v1.2.2.1,v1.2.2.2.2.2.2.2.2.1,()))
abbrev yqm (v0:dA):(yho).X:=((((),()),()),((v0.1,v0.2.1.1,v0.2.1.2,(),v0.2.2.2.1,v0.2.2.2.2.1,v0.2.2.2.2.2.1,v0.2.2.2.2.2.2.1,v0.2.2.2.2.2.2.2.1,(),v0.2.2.2.2.2.2.2.2.2.1,v0.2.2.2.2.2.2.2.2.2.2.1,v0.2.2.2.2.2.2.2.2.2.2.2,()),()),(v0.2.2.1,v0.2.2.2.2.2.2.2.2.1,()))
def yqI (v0 v1 v2 v3 v4 v5 v6 v7 v8 v9:Int) (v10 v11:Bool) (v12 v13 v14 v15 v16 v17 v18 v19 v20:Int) (v21 v22:Bool) (v23:List dM) (v24:List dW):Option ((ycW).X ⊕ ((yg2).X ⊕ (yho).X)) :=bif(ltb v0 4)then bnd (ypB (v12,(v13,v14),v23,v15,v16,v17,v18,v19,v24,v20,v21,v22) v17) fun r6 =>bif(!(!r6.1.2.1))then bif(leb 60000 v17)then some (.inr (.inl ((((),()),((),()),()),((v1,v2,v3,(),v4,v5,v6,v7,v8,(),v9,v10,v11,()),(v12,v13,v14,(),v15,v16,v17,v18,v19,(),v20,v21,v22,()),()),(v23,v24,())))) else bnd (ygB (v12,(v13,v14),v23,v15,v16,v17,v18,v19,v24,v20,v21,v22) r6.1.1) fun r7 =>bif(!r7.1.1)then some (.inr (.inr ((((),()),()),((r7.2.1.1,r7.2.1.2.1.1,r7.2.1.2.1.2,(),r7.2.1.2.2.2.1,r7.2.1.2.2.2.2.1,r7.2.1.2.2.2.2.2.1,r7.2.1.2.2.2.2.2.2.1,r7.2.1.2.2.2.2.2.2.2.1,(),r7.2.1.2.2.2.2.2.2.2.2.2.1,r7.2.1.2.2.2.2.2.2.2.2.2.2.1,r7.2.1.2.2.2.2.2.2.2.2.2.2.2,()),()),(r7.2.1.2.2.1,r7.2.1.2.2.2.2.2.2.2.2.1,())))) else bnd (yhG (r7.2.1.1,r7.2.1.2.1,r7.2.1.2.2.1,r7.2.1.2.2.2.1,r7.2.1.2.2.2.2.1,(i64.wrap (r7.2.1.2.2.2.2.2.1+1)),r7.2.1.2.2.2.2.2.2) r6.1.1.2.1 r6.1.1.2.2) fun r8 =>bif(!r8.1.1)then some (.inr (.inr ((((),()),()),((r8.2.1.1,r8.2.1.2.1.1,r8.2.1.2.1.2,(),r8.2.1.2.2.2.1,r8.2.1.2.2.2.2.1,r8.2.1.2.2.2.2.2.1,r8.2.1.2.2.2.2.2.2.1,r8.2.1.2.2.2.2.2.2.2.1,(),r8.2.1.2.2.2.2.2.2.2.2.2.1,r8.2.1.2.2.2.2.2.2.2.2.2.2.1,r8.2.1.2.2.2.2.2.2.2.2.2.2.2,()),()),(r8.2.1.2.2.1,r8.2.1.2.2.2.2.2.2.2.2.1,())))) else some (.inl ((((),()),((),()),((i64.wrap (v0+1)),()),()),((v1,v2,v3,(),v4,v5,v6,v7,v8,(),v9,v10,v11,()),(r8.2.1.1,r8.2.1.2.1.1,r8.2.1.2.1.2,(),r8.2.1.2.2.2.1,r8.2.1.2.2.2.2.1,r8.2.1.2.2.2.2.2.1,r8.2.1.2.2.2.2.2.2.1,r8.2.1.2.2.2.2.2.2.2.1,(),r8.2.1.2.2.2.2.2.2.2.2.2.1,r8.2.1.2.2.2.2.2.2.2.2.2.2.1,r8.2.1.2.2.2.2.2.2.2.2.2.2.2,()),()),(r8.2.1.2.2.1,r8.2.1.2.2.2.2.2.2.2.2.1,()))) else some (.inr (.inl ((((),()),((),()),()),((v1,v2,v3,(),v4,v5,v6,v7,v8,(),v9,v10,v11,()),(v12,v13,v14,(),v15,v16,v17,v18,v19,(),v20,v21,v22,()),()),(v23,v24,())))) else some (.inr (.inl ((((),()),((),()),()),((v1,v2,v3,(),v4,v5,v6,v7,v8,(),v9,v10,v11,()),(v12,v13,v14,(),v15,v16,v17,v18,v19,(),v20,v21,v22,()),()),(v23,v24,()))))
def ydl (x:(ycW).X):=yqI x.1.2.2.1.1 x.2.1.1.1 x.2.1.1.2.1 x.2.1.1.2.2.1 x.2.1.1.2.2.2.2.1 x.2.1.1.2.2.2.2.2.1 x.2.1.1.2.2.2.2.2.2.1 x.2.1.1.2.2.2.2.2.2.2.1 x.2.1.1.2.2.2.2.2.2.2.2.1 x.2.1.1.2.2.2.2.2.2.2.2.2.2.1 x.2.1.1.2.2.2.2.2.2.2.2.2.2.2.1 x.2.1.1.2.2.2.2.2.2.2.2.2.2.2.2.1 x.2.1.2.1.1 x.2.1.2.1.2.1 x.2.1.2.1.2.2.1 x.2.1.2.1.2.2.2.2.1 x.2.1.2.1.2.2.2.2.2.1 x.2.1.2.1.2.2.2.2.2.2.1 x.2.1.2.1.2.2.2.2.2.2.2.1 x.2.1.2.1.2.2.2.2.2.2.2.2.1 x.2.1.2.1.2.2.2.2.2.2.2.2.2.2.1 x.2.1.2.1.2.2.2.2.2.2.2.2.2.2.2.1 x.2.1.2.1.2.2.2.2.2.2.2.2.2.2.2.2.1 x.2.2.1 x.2.2.2.1
def yB5 (x:(yhd).X):(ycW).X:=((((),()),((),()),(0,()),()),((x.2.1.1.1,x.2.1.1.2.1,x.2.1.1.2.2.1,(),x.2.1.1.2.2.2.2.1,x.2.1.1.2.2.2.2.2.1,x.2.1.1.2.2.2.2.2.2.1,x.2.1.1.2.2.2.2.2.2.2.1,x.2.1.1.2.2.2.2.2.2.2.2.1,(),x.2.1.1.2.2.2.2.2.2.2.2.2.2.1,x.2.1.1.2.2.2.2.2.2.2.2.2.2.2.1,x.2.1.1.2.2.2.2.2.2.2.2.2.2.2.2.1,()),(x.2.1.2.1.1,x.2.1.2.1.2.1,x.2.1.2.1.2.2.1,(),x.2.1.2.1.2.2.2.2.1,x.2.1.2.1.2.2.2.2.2.1,x.2.1.2.1.2.2.2.2.2.2.1,x.2.1.2.1.2.2.2.2.2.2.2.1,x.2.1.2.1.2.2.2.2.2.2.2.2.1,(),x.2.1.2.1.2.2.2.2.2.2.2.2.2.2.1,x.2.1.2.1.2.2.2.2.2.2.2.2.2.2.2.1,x.2.1.2.1.2.2.2.2.2.2.2.2.2.2.2.2.1,()),()),(x.2.2.1,x.2.2.2.1,()))
def yD2:Code:=(zd7 yq8 64 244).getD .skip
theorem yQb:zd7 yq8 64 61=some (.block 0 (.loop yD2)):=by kernel_rfl
theorem yS3 (x:(ycW).X):zhu ⟨yz1,50,yFQ⟩ 0 yD2 244 ycW yg2 yho x=ydl x:=by kernel_rfl
def yCg (x:(yhd).X):Nat:=18446744073709551616
def yrM (x:(yhd).X):Option ((yg2).X ⊕ (yho).X):=zF ydl (yCg x) (yB5 x)
def yCD:Seg:=⟨yhd,yg2,yho,yrM⟩
def yTA:Nat→Option Seg:=fun q=>bif Nat.beq q 61 then some yCD else yFQ q
theorem yQB:FrOk prog ⟨yz1,50,yTA⟩ yq8:=(yQA).loop (sg:=yCD) ycW yB5 (by decide) yQb ydl yCg (by decide) (fun _=>rfl) (fun x r _ h=>h) yS3
abbrev yrm:List Par:= [.rd tA]
abbrev yAB:List OT:= [⟨false,tA,oD⟩]
def yvG (a0:dA):Option (zaY yAB×zak yrm) :=let r1:=yax a0;let r2:=ydY a0;bif(!(!r2))then bif a0.2.2.2.2.2.2.2.2.2.2.2 then some ((r1,()),()) else zkt (yrM ((((),()),((),()),((),()),()),((0,0,0,(),0,0,0,0,0,(),0,false,false,()),(r1.1,r1.2.1.1,r1.2.1.2,(),r1.2.2.2.1,r1.2.2.2.2.1,r1.2.2.2.2.2.1,r1.2.2.2.2.2.2.1,r1.2.2.2.2.2.2.2.1,(),r1.2.2.2.2.2.2.2.2.2.1,r1.2.2.2.2.2.2.2.2.2.2.1,r1.2.2.2.2.2.2.2.2.2.2.2,()),()),(r1.2.2.1,r1.2.2.2.2.2.2.2.2.1,()))) (fun y8 =>bnd (yhF (y8.2.1.2.1.1,(y8.2.1.2.1.2.1,y8.2.1.2.1.2.2.1),y8.2.2.1,y8.2.1.2.1.2.2.2.2.1,y8.2.1.2.1.2.2.2.2.2.1,y8.2.1.2.1.2.2.2.2.2.2.1,y8.2.1.2.1.2.2.2.2.2.2.2.1,y8.2.1.2.1.2.2.2.2.2.2.2.2.1,y8.2.2.2.1,y8.2.1.2.1.2.2.2.2.2.2.2.2.2.2.1,y8.2.1.2.1.2.2.2.2.2.2.2.2.2.2.2.1,y8.2.1.2.1.2.2.2.2.2.2.2.2.2.2.2.2.1)) fun r10 =>some ((r10.2.1,()),())) (fun y8 =>some (((y8.2.1.1.1,(y8.2.1.1.2.1,y8.2.1.1.2.2.1),y8.2.2.1,y8.2.1.1.2.2.2.2.1,y8.2.1.1.2.2.2.2.2.1,y8.2.1.1.2.2.2.2.2.2.1,y8.2.1.1.2.2.2.2.2.2.2.1,y8.2.1.1.2.2.2.2.2.2.2.2.1,y8.2.2.2.1,y8.2.1.1.2.2.2.2.2.2.2.2.2.2.1,y8.2.1.1.2.2.2.2.2.2.2.2.2.2.2.1,y8.2.1.1.2.2.2.2.2.2.2.2.2.2.2.2.1),()),())) else some ((r1,()),())
theorem yVR:ConOk prog 28 ⟨yrm,yAB,fun x=>yvG x.1⟩:=zkI (yQB) func28 ntmps28.symm fun x=>by kernel_rfl
def yh6 (a0:dA):dA:=ymh a0
theorem yXM {α:Type} {c:Bool} (h:c=false) {x y:α}:(bif c then x else y)=y:=by subst h; rfl
theorem yM3 {α:Type} {c:Bool} (h:c=true) {x y:α}:(bif c then x else y)=x:=by subst h; rfl
theorem yYf (a0:dA) (hk:zjx yrm (a0,())):yvG a0=(fun n=>some ((n,()),())) (yh6 a0):=by
 unfold yvG yh6;simp only[yax];cases hm:(yM a0&&(!(ya a0)&&(!a0.2.2.2.2.2.2.2.2.2.2.2&&ltb a0.2.2.2.2.2.2.2.1 60000)))
 ·have hr:ymh a0=a0:=by unfold ymh; rw[hm]; rfl
  rw[hr];cases hmk:ydY a0
  ·rfl
  ·have:a0.2.2.2.2.2.2.2.2.2.2.2=true:=by
    unfold ydY at hmk;simp only[yU]at hmk;unfold ya at hm;revert hm hmk;cases yM a0<;>cases a0.2.2.2.2.2.2.2.2.2.2.1<;>cases ltb a0.2.2.2.2.2.2.2.1 60000<;>cases a0.2.2.2.2.2.2.2.2.2.2.2<;>decide
   rw[yM3 (by rfl),yM3 this]
 ·have hr:ymh a0=yMX a0:=by unfold ymh; rw[hm]; rfl
  rw[hr];simp only[Bool.and_eq_true,Bool.not_eq_true']at hm;obtain⟨ha,hdn,hbr,hlt⟩:=hm
  have hmk:ydY a0=true:=by
   unfold ydY;simp only[yU,ha,show a0.2.2.2.2.2.2.2.2.2.2.1=false from hdn,hlt]; rfl
  rw[hmk,yM3 (by rfl),yXM hbr];have hgo:ye a0.2.1=true:=yen ha;have hle:=yF0 ha
  have h1:=zkC (step:=ydl) 4 (fun i s=>yqc i yai s) yqH (fun _ s=>s.2.1=a0.2.1∧s.2.2.1.length=a0.2.2.1.length∧ya s=false) .inl
   (fun b=>match b with | .inl x=> .inl (yOs yai x) | .inr x=> .inr (yqm x)) (fun i s hi hs=>by
    constructor
    ·simp only[ydl,yqc,yqI,zky (show(i:Int)<4 by omega),cond_true,wq ((i:Int)+1) (by omega) (by omega),Int.natCast_add,Int.natCast_one,Int.toNat_natCast,zkX]
     rw[yWC s s.2.2.2.2.2.1 (by unfold ypI; rw[hs.1,hgo]; rfl)];simp only[zkH,ykC];unfold yqH;cases hf:(yaH s s.2.2.2.2.2.1).2
     ·rfl
     ·cases leb 60000 s.2.2.2.2.2.1
      ·have ho:=y6m (a:=s) (q:=s.2.2.2.2.2.1) (by rw[hs.1]; exact hgo) hf
       have hr:ygB s (yaH s s.2.2.2.2.2.1).1=some ((!(ya (yh2 s)),()),(yh2 s,())):=yMH _ _ (by unfold ygC; rw[hs.2.2]; rfl)
       have hd:ya (yh2 s)=false→yhG (yO (yh2 s)) (yaH s s.2.2.2.2.2.1).1.2.1 (yaH s s.2.2.2.2.2.1).1.2.2=some ((!(ya (ykY s)),()),(ykY s,())):=fun hd1=>yPm _ _ _ (by
         unfold yhI;simp only[Bool.and_eq_true,beq_iff_eq,Bool.not_eq_true'];rw[show(yO (yh2 s)).2.1=s.2.1 from y29 s]
         exact⟨hd1,ho.1,ho.2,by rw[show(yO (yh2 s)).2.2.1.length=s.2.2.1.length from yNg s _,hs.2.1,hle,hs.1]⟩)
       rw[hr];generalize ykY s=R2 at hd ⊢;generalize yh2 s=R1 at hd ⊢;generalize yaH s s.2.2.2.2.2.1=F at hd ⊢;unfold yO at hd;simp only[Bool.not_true,Bool.not_false,cond_true,cond_false,Bool.or_self,zkH];cases hd1:ya R1
       ·simp only[Bool.not_true,Bool.not_false,cond_true,cond_false,hd hd1,zkH]
        cases hd2:ya R2
        ·rfl
        ·simp only[hd2,Bool.not_true,Bool.not_false,cond_true,yqm]
       ·simp only[hd1,Bool.not_true,Bool.not_false,cond_true,yqm]
      ·rfl
    ·intro s' h
     unfold yqH at h;cases hc:(!(yaH s s.2.2.2.2.2.1).2||leb 60000 s.2.2.2.2.2.1)
     ·rw[hc]at h
      cases hd1:ya (yh2 s)
      ·rw[hd1]at h
       cases hd2:ya (ykY s)
       ·rw[hd2]at h
        simp only[cond_false,Sum.inl.injEq]at h;subst h;exact⟨(y5Y s).trans hs.1,(y5Z s).trans hs.2.1,hd2⟩
       ·rw[hd2]at h; cases h
      ·rw[hd1]at h; cases h
     ·rw[hc]at h; cases h) (fun s hs=>by simp only[ydl,yqc,yqI]; rfl) a0 ⟨rfl,rfl,hdn⟩ 18446744073709551616 (by omega)
  have hdo: ∀b,goE yqH .inl 4 0 a0= .inl b→ya b=false:=fun b hb=>y3a 4 0 a0 b hdn hb
  refine(congrArg (fun z=>zkt z _ _) (show yrM (yOy yai a0)=_ from h1)).trans ?_;unfold yMX;cases hg:goE yqH .inl 4 0 a0 with
  | inl b =>
   simp only[zkN,zkX];rw[yCy b (by unfold yhH; rw[hdo b hg]; rfl)]; rfl
  | inr b=>rfl
def yGm:Con:=⟨yrm,yAB,fun x=>(fun n=>some ((n,()),())) (yh6 x.1)⟩
theorem yZb:ConOk prog 28 yGm:=(yVR).mono (fun x r hk h=>(yYf x.1 hk).trans h)
def yoW:Code:=(f103.body).getD .skip
def yw0:Env:=zkw TT [(81,yR),(127,yeS),(133,yhs),(158,ybh)] []
theorem yNQ:FrOk prog ⟨yw0,45,fun _=>none⟩ yoW:=zkA mixed yf ⟨yac,yh9,ynB,yda,trivial⟩
def yC5:Nat→Option Seg:=fun _=>none
def ybI:Shape:=⟨[(1,false,[ii]),(4,false,[.ptr 64 0]),(5,false,[.ptr 4224 0]),(18,false,[.br tW]),(19,false,[ii]),(20,false,[ii])],[(64,oO),(4224,oN)],[(800000000,tL,oG),(800000001,tW,oE),(800000002,tI,.fz)]⟩
def yfo:Shape:=⟨[(1,false,[ii]),(4,false,[.ptr 64 0]),(5,false,[.ptr 4224 0]),(18,false,[.br tW]),(19,false,[ii]),(20,false,[ii])],[(64,oO),(4224,oN)],[(800000000,tL,oG),(800000001,tW,oE),(800000002,tI,.fz)]⟩
def yfe:Shape:=⟨[(4,false,[.ptr 64 0]),(5,false,[.ptr 4224 0])],[(64,oO),(4224,oN)],[(800000000,tL,oG),(800000001,tW,oE),(800000002,tI,.fz)]⟩
def yiV:Shape:=⟨[],[],[]⟩
abbrev ymu (v0:Int) (v1:List dW) (v2 v3:Int) (v4 v5:dM):(ybI).X:=(((v0,()),((),()),((),()),(v1,()),(v2,()),(v3,()),()),(((),(),v4.2.2.1,(),()),((),(),v5.2.2.1,(),()),()),(v5.1,v5.2.1,v5.2.2.2,()))
abbrev yKv (v0:Int) (v1:List dW) (v2 v3:Int) (v4 v5:dM):(yfo).X:=(((v0,()),((),()),((),()),(v1,()),(v2,()),(v3,()),()),(((),(),v4.2.2.1,(),()),((),(),v5.2.2.1,(),()),()),(v5.1,v5.2.1,v5.2.2.2,()))
abbrev ywD (v0 v1:dM):(yfe).X:=((((),()),((),()),()),(((),(),v0.2.2.1,(),()),((),(),v1.2.2.1,(),()),()),(v1.1,v1.2.1,v1.2.2.2,()))
def ymG (v0:Int) (v1:List dW) (v2 v3:Int) (v4 v5:Bool) (v6:List (List Int)) (v7:List dW) (v8:List Int):Option ((ybI).X ⊕ ((yfe).X ⊕ (yiV).X)) :=bif(ltb v3 v2)then bif(inb v3 v1.length)then bif(ltb v3 20)then bif(leb 0 v3)then bif((i64.wrap ((BitVec.ofInt IntKind.i64.bits (v0.fdiv (2^(min (v3).toNat IntKind.i64.bits))) &&& BitVec.ofInt IntKind.i64.bits 1).toNat:Int))==1)then let r5:=yE ((nth v1 v3 (0,[])).2);bif(inb ((nth v1 v3 (0,[])).1) v6.length)then some (.inl (((v0,()),((),()),((),()),(v1,()),(v2,()),((i64.wrap (v3+1)),()),()),(((),(),v4,(),()),((),(),v5,(),()),()),((v6.set ((nth v1 v3 (0,[])).1).toNat r5),v7,v8,()))) else none else some (.inl (((v0,()),((),()),((),()),(v1,()),(v2,()),((i64.wrap (v3+1)),()),()),(((),(),v4,(),()),((),(),v5,(),()),()),(v6,v7,v8,()))) else none else some (.inl (((v0,()),((),()),((),()),(v1,()),(v2,()),((i64.wrap (v3+1)),()),()),(((),(),v4,(),()),((),(),v5,(),()),()),(v6,v7,v8,()))) else none else some (.inr (.inl ((((),()),((),()),()),(((),(),v4,(),()),((),(),v5,(),()),()),(v6,v7,v8,()))))
def yb2 (x:(ybI).X):=ymG x.1.1.1 x.1.2.2.2.1.1 x.1.2.2.2.2.1.1 x.1.2.2.2.2.2.1.1 x.2.1.1.2.2.1 x.2.1.2.1.2.2.1 x.2.2.1 x.2.2.2.1 x.2.2.2.2.1
def ywj (x:(yfo).X):(ybI).X:=(((x.1.1.1,()),((),()),((),()),(x.1.2.2.2.1.1,()),(x.1.2.2.2.2.1.1,()),(x.1.2.2.2.2.2.1.1,()),()),(((),(),x.2.1.1.2.2.1,(),()),((),(),x.2.1.2.1.2.2.1,(),()),()),(x.2.2.1,x.2.2.2.1,x.2.2.2.2.1,()))
def yyU:Code:=(zd7 yoW 64 500).getD .skip
theorem yK3:zd7 yoW 64 125=some (.block 0 (.loop yyU)):=by kernel_rfl
theorem yMO (x:(ybI).X):zhu ⟨yw0,45,yC5⟩ 0 yyU 500 ybI yfe yiV x=yb2 x:=by kernel_rfl
def ywu (x:(yfo).X):Nat:=18446744073709551616
def yif (x:(yfo).X):Option ((yfe).X ⊕ (yiV).X):=zF yb2 (ywu x) (ywj x)
def ywO:Seg:=⟨yfo,yfe,yiV,yif⟩
def yPV:Nat→Option Seg:=fun q=>bif Nat.beq q 125 then some ywO else yC5 q
theorem yNR:FrOk prog ⟨yw0,45,yPV⟩ yoW:=(yNQ).loop (sg:=ywO) ybI ywj (by decide) yK3 yb2 ywu (by decide) (fun _=>rfl) (fun x r _ h=>h) yMO
abbrev yo8:List Par:= [.rd tM,.rd tI]
abbrev yxq:List OT:= [⟨false,tM,oA⟩]
def ysu (a0:dM) (a1:Int):Option (zaY yxq×zak yo8) :=let r1:=yaW a0;let r2:=yaA a0;bif(!r2)then some ((r1,()),()) else let r3:=yi a1 0 1048575;bif(!r3)then zkt (yif (((0,()),((),()),((),()),(a0.2.1,()),((a0.2.1.length:Int),()),(0,()),()),(((),(),false,(),()),((),(),r1.2.2.1,(),()),()),(r1.1,r1.2.1,r1.2.2.2,()))) (fun y5 =>some (((y5.2.2.1,[],y5.2.1.2.1.2.2.1,y5.2.2.2.2.1),()),())) (fun y5 =>none) else zkt (yif (((a1,()),((),()),((),()),(a0.2.1,()),((a0.2.1.length:Int),()),(0,()),()),(((),(),false,(),()),((),(),r1.2.2.1,(),()),()),(r1.1,r1.2.1,r1.2.2.2,()))) (fun y6 =>some (((y6.2.2.1,[],y6.2.1.2.1.2.2.1,y6.2.2.2.2.1),()),())) (fun y6 =>none)
theorem ySi:ConOk prog 103 ⟨yo8,yxq,fun x=>ysu x.1 x.2.1⟩:=zkI (yNR) func103 ntmps103.symm fun x=>by kernel_rfl
def ygP (a0:dM) (a1:Int):dM:=yd7 a0 a1
theorem yVl (a0:dM) (a1:Int) (hk:zjx yo8 (a0,a1,())):ysu a0 a1=(fun n=>some ((n,()),())) (ygP a0 a1):=by
 have hb2:a0.2.1.length*32≤2^47:=hk.1.2.1.1;unfold ysu ygP yd7;simp only[yaW,yaA,yar,ybX];cases hm:yx a0
 ·rfl
 have h1: ∀k,yif (yKv k a0.2.1 a0.2.1.length 0 yc a0)=some (.inl (ywD yc (ygO (fun i=>decide (i<20)&&yM4 k i) a0.2.1 a0.1,a0.2))):=fun k =>
  zkD (step:=yb2) a0.2.1.length (fun i s=>ymu k a0.2.1 a0.2.1.length i yc (s,a0.2)) (yfz (fun i=>decide (i<20)&&yM4 k i) a0.2.1) (fun i s=>s.length=a0.1.length) (fun s=> .inl (ywD yc (s,a0.2))) (fun i s hi hs=>by
   have hw:=(yRo hm hi).1;refine⟨?_,yvm.trans hs⟩;simp only[yb2,ymu,ymG,zky (show(i:Int)<a0.2.1.length by omega),cond_true,wq ((i:Int)+1) (by omega) (by omega),Int.natCast_add,Int.natCast_one,Int.toNat_natCast,zk2 (show(0:Int)≤i by omega),zkR hi,hs,hw,yfz,yE];rw[show yM4 k i=(i64.wrap ((BitVec.ofInt IntKind.i64.bits (k.fdiv (2^(min i IntKind.i64.bits))) &&& BitVec.ofInt IntKind.i64.bits 1).toNat:Int)==1)from rfl];by_cases h20:i<20
   ·rw[zky (show(i:Int)<20 by omega),decide_eq_true h20]
    cases(i64.wrap ((BitVec.ofInt IntKind.i64.bits (k.fdiv (2^(min i IntKind.i64.bits))) &&& BitVec.ofInt IntKind.i64.bits 1).toNat:Int)==1)<;>rfl
   ·rw[zk3 (show(20:Int)≤i by omega),decide_eq_false h20]; rfl) (fun s hs=>by simp only[yb2,ymu,ymG,zk3 (Int.le_refl _),cond_false]) a0.1 rfl _ (by show _<18446744073709551616; omega)
 unfold yU3;rw[h1 0,h1 a1];cases(leb 0 a1&&leb a1 1048575)<;>rfl
def yEf:Con:=⟨yo8,yxq,fun x=>(fun n=>some ((n,()),())) (ygP x.1 x.2.1)⟩
theorem yWp:ConOk prog 103 yEf:=(ySi).mono (fun x r hk h=>(yVl x.1 x.2.1 hk).trans h)
def yyB:Code:=(f32.body).getD .skip
def yHp:Env:=zkw TT [(103,yEf)] []
theorem yXW:FrOk prog ⟨yHp,33,fun _=>none⟩ yyB:=zkA mixed yf ⟨yWp,trivial⟩
def yJI:Nat→Option Seg:=fun _=>none
def yeP:Shape:=⟨[(1,false,[.br tI]),(5,false,[.at 800000000]),(10,false,[.br tM]),(11,false,[ii]),(12,false,[ii])],[],[(800000000,tM,oA)]⟩
def ykm:Shape:=⟨[(1,false,[.br tI]),(5,false,[.at 800000000]),(10,false,[.br tM]),(11,false,[ii]),(12,false,[.ci .i64 0])],[],[(800000000,tM,oA)]⟩
def ykh:Shape:=⟨[(5,false,[.at 800000000])],[],[(800000000,tM,oA)]⟩
def ypq:Shape:=⟨[],[],[]⟩
abbrev yvp (v0:List Int) (v1:List dM) (v2 v3:Int) (v4:List dM):(yeP).X:=(((v0,()),((),()),(v1,()),(v2,()),(v3,()),()),(),(v4,()))
abbrev yVe (v0:List Int) (v1:List dM) (v2:Int) (v3:List dM):(ykm).X:=(((v0,()),((),()),(v1,()),(v2,()),((),()),()),(),(v3,()))
abbrev yGQ (v0:List dM):(ykh).X:=((((),()),()),(),(v0,()))
def yv2 (v0:List Int) (v1:List dM) (v2 v3:Int) (v4:List dM):Option ((yeP).X ⊕ ((ykh).X ⊕ (ypq).X)) :=bif(ltb v3 v2)then bif(inb v3 v1.length)then bif(ltb v3 (v0.length:Int))then bif(inb v3 v0.length)then let r3:=ygP ((nth v1 v3 ([],[],false,[])).1,((nth v1 v3 ([],[],false,[])).2).1,(((nth v1 v3 ([],[],false,[])).2).2)) (nth v0 v3 0);bif(zkl v4.length ([r3]:List dM).length 80)then some (.inl (((v0,()),((),()),(v1,()),(v2,()),((i64.wrap (v3+1)),()),()),(),((v4++([r3]:List dM)),()))) else none else none else let r4:=ygP ((nth v1 v3 ([],[],false,[])).1,((nth v1 v3 ([],[],false,[])).2).1,(((nth v1 v3 ([],[],false,[])).2).2)) 0;bif(zkl v4.length ([r4]:List dM).length 80)then some (.inl (((v0,()),((),()),(v1,()),(v2,()),((i64.wrap (v3+1)),()),()),(),((v4++([r4]:List dM)),()))) else none else none else some (.inr (.inl ((((),()),()),(),(v4,()))))
def ye2 (x:(yeP).X):=yv2 x.1.1.1 x.1.2.2.1.1 x.1.2.2.2.1.1 x.1.2.2.2.2.1.1 x.2.2.1
def yGD (x:(ykm).X):(yeP).X:=(((x.1.1.1,()),((),()),(x.1.2.2.1.1,()),(x.1.2.2.2.1.1,()),(0,()),()),(),(x.2.2.1,()))
def yIb:Code:=(zd7 yyB 64 116).getD .skip
theorem yXI:zd7 yyB 64 29=some (.block 0 (.loop yIb)):=by kernel_rfl
theorem yZw (x:(yeP).X):zhu ⟨yHp,33,yJI⟩ 0 yIb 116 yeP ykh ypq x=ye2 x:=by kernel_rfl
def yGJ (x:(ykm).X):Nat:=18446744073709551616
def yxd (x:(ykm).X):Option ((ykh).X ⊕ (ypq).X):=zF ye2 (yGJ x) (yGD x)
def yHj:Seg:=⟨ykm,ykh,ypq,yxd⟩
def y0L:Nat→Option Seg:=fun q=>bif Nat.beq q 29 then some yHj else yJI q
theorem yXX:FrOk prog ⟨yHp,33,y0L⟩ yyB:=(yXW).loop (sg:=yHj) yeP yGD (by decide) yXI ye2 yGJ (by decide) (fun _=>rfl) (fun x r _ h=>h) yZw
abbrev yyF:List Par:= [.rd tMs,.rd tL]
abbrev yHw:List OT:= [⟨false,tMs,(.ow oA)⟩]
def yBj (a0:List dM) (a1:List Int):Option (zaY yHw×zak yyF) :=zkt (yxd (((a1,()),((),()),(a0,()),((a0.length:Int),()),((),()),()),(),(([]:List dM),()))) (fun y4 =>some ((y4.2.2.1,()),())) (fun y4 =>none)
theorem y1K:ConOk prog 32 ⟨yyF,yHw,fun x=>yBj x.1 x.2.1⟩:=zkI (yXX) func32 ntmps32.symm fun x=>by kernel_rfl
def yq3 (a0:List dM) (a1:List Int):List dM:=yak a0 a1
theorem y2W (a0:List dM) (a1:List Int) (hk:zjx yyF (a0,a1,())):yBj a0 a1=(fun n=>some ((n,()),())) (yq3 a0 a1):=by
 have hb:a0.length*80≤2^47:=hk.1.1
 have h1:yxd (yVe a1 a0 a0.length [])=some (.inl (yGQ ((List.range a0.length).foldl (fun s (i:Nat)=>s++ [yd7 (nth a0 i yc) (yLY a1 i)]) []))) :=
  zkD (step:=ye2) a0.length (fun i s=>yvp a1 a0 a0.length i s) (fun s (i:Nat)=>s++ [yd7 (nth a0 i yc) (yLY a1 i)]) (fun i s=>s.length=i) (fun s=> .inl (yGQ s)) (fun i s hi hs=>⟨by
   simp only[ye2,yvp,yv2,zky (show(i:Int)<a0.length by omega),cond_true,wq ((i:Int)+1) (by omega) (by omega),Int.natCast_add,Int.natCast_one,Int.toNat_natCast,zkR hi,zkX,ygP,yLY];rw[zkF.2 (show(s.length+ [yd7 (nth a0 i ([],[],false,[])) (nth a1 i 0)].length)*80≤140737488355328 by simp only[List.length_cons,List.length_nil]; omega),zkF.2 (show(s.length+ [yd7 (nth a0 i ([],[],false,[])) 0].length)*80≤140737488355328 by simp only[List.length_cons,List.length_nil]; omega)];by_cases h:i<a1.length
   ·rw[zky (show(i:Int)<a1.length by omega),zkR h,decide_eq_true h]; rfl
   ·rw[zk3 (show(a1.length:Int)≤i by omega),decide_eq_false h]; rfl,by simp[hs]⟩) (fun s hs=>by simp only[ye2,yvp,yv2,zk3 (Int.le_refl _),cond_false]) [] rfl _ (by show _<18446744073709551616; omega)
 unfold yBj yq3 yak;rw[h1,ypv]; rfl
def yJM:Con:=⟨yyF,yHw,fun x=>(fun n=>some ((n,()),())) (yq3 x.1 x.2.1)⟩
theorem y23:ConOk prog 32 yJM:=(y1K).mono (fun x r hk h=>(y2W x.1 x.2.1 hk).trans h)
def yW4:Code:=(f19.body).getD .skip
def yXt:Env:=zkw TT [(16,yBM),(28,yGm),(32,yJM),(81,yR)] []
theorem yNW:FrOk prog ⟨yXt,29,fun _=>none⟩ yW4:=zkA mixed yf ⟨ySH,yZb,y23,yac,trivial⟩
abbrev ypa:List Par:= [.rd tMs,.rd tL,.rd tI,.rd tI]
abbrev yxs:List OT:= [⟨false,tA,oD⟩,⟨false,tB,.fz⟩]
def ysx (a0:List dM) (a1:List Int) (a2 a3:Int):Option (zaY yxs×zak ypa) :=let r1:=yq3 a0 a1;let r2:=yjf r1 a2;bif(!r2.2)then some (((0,(0,0),[],0,0,0,0,0,[],0,false,false),false,()),()) else let r3:=yi a3 (-1) 1000;bif r3 then let r4:=yh6 (r2.1.1,r2.1.2.1,r2.1.2.2.1,r2.1.2.2.2.1,r2.1.2.2.2.2.1,r2.1.2.2.2.2.2.1,r2.1.2.2.2.2.2.2.1,r2.1.2.2.2.2.2.2.2.1,r2.1.2.2.2.2.2.2.2.2.1,a3,r2.1.2.2.2.2.2.2.2.2.2.2);some ((r4,true,()),()) else let r5:=yh6 r2.1;some ((r5,true,()),())
theorem ySl:ConOk prog 19 ⟨ypa,yxs,fun x=>ysx x.1 x.2.1 x.2.2.1 x.2.2.2.1⟩:=zkI (yNW) func19 ntmps19.symm fun x=>by kernel_rfl
def ykE (a0:List dM) (a1:List Int) (a2 a3:Int):dA×Bool:=yoD a0 a1 a2 a3
theorem yVo (a0:List dM) (a1:List Int) (a2 a3:Int) (hk:zjx ypa (a0,a1,a2,a3,())):ysx a0 a1 a2 a3=(fun n=>some ((n.1,n.2,()),())) (ykE a0 a1 a2 a3):=by
 unfold ysx ykE yoD;simp only[yq3,yjf,yar,ybX,yh6];cases h:(yfX (yak a0 a1) a2).2
 ·rfl
 ·cases(leb (-1) a3&&leb a3 1000)<;>rfl
def yEh:Con:=⟨ypa,yxs,fun x=>(fun n=>some ((n.1,n.2,()),())) (ykE x.1 x.2.1 x.2.2.1 x.2.2.2.1)⟩
theorem yWr:ConOk prog 19 yEh:=(ySl).mono (fun x r hk h=>(yVo x.1 x.2.1 x.2.2.1 x.2.2.2.1 hk).trans h)
def yTl:Code:=(f34.body).getD .skip
def yTM:Env:=zkw TT [(55,ybW),(95,yeT)] []
theorem yLw:FrOk prog ⟨yTM,11,fun _=>none⟩ yTl:=zkA mixed yf ⟨yes,yjr,trivial⟩
abbrev ym1:List Par:= [.rd tA]
abbrev yun:List OT:= [⟨false,tA,oD⟩]
def yqu (a0:dA):Option (zaY yun×zak ym1) :=let r1:=yax a0;let r2:=yU a0;bif r2 then some (((r1.1,r1.2.1,r1.2.2.1,r1.2.2.2.1,r1.2.2.2.2.1,r1.2.2.2.2.2.1,r1.2.2.2.2.2.2.1,r1.2.2.2.2.2.2.2.1,r1.2.2.2.2.2.2.2.2.1,(-1),true,r1.2.2.2.2.2.2.2.2.2.2.2),()),()) else some ((r1,()),())
theorem yOZ:ConOk prog 34 ⟨ym1,yun,fun x=>yqu x.1⟩:=zkI (yLw) func34 ntmps34.symm fun x=>by kernel_rfl
def yfN (a0:dA):dA:=bif yM a0 then y67 a0 else a0
theorem yR0 (a0:dA) (hk:zjx ym1 (a0,())):yqu a0=(fun n=>some ((n,()),())) (yfN a0):=by
 unfold yqu yfN yU yax;cases yM a0<;>rfl
def yBQ:Con:=⟨ym1,yun,fun x=>(fun n=>some ((n,()),())) (yfN x.1)⟩
theorem ySL:ConOk prog 34 yBQ:=(yOZ).mono (fun x r hk h=>(yR0 x.1 hk).trans h)
def ytp:Code:=(f69.body).getD .skip
def yDn:Env:=zkw TT [] []
theorem yUO:FrOk prog ⟨yDn,32,fun _=>none⟩ ytp:=zkA mixed yf trivial
def yHY:Nat→Option Seg:=fun _=>none
def yfJ:Shape:=⟨[(0,false,[.fz tY]),(3,false,[ii]),(4,false,[ii])],[],[]⟩
def ynd:Shape:=⟨[(0,false,[.fz tY]),(3,false,[ii]),(4,false,[.ci .i64 0])],[],[]⟩
def ync:Shape:=⟨[(0,false,[.fz tY]),(3,false,[ii])],[],[]⟩
def ynk:Shape:=⟨[],[],[]⟩
def yFG (v0:List Int) (v1 v2:Int):Option ((yfJ).X ⊕ ((ync).X ⊕ (ynk).X)) :=bif(ltb v2 (v0.length:Int))then bif(ltb v2 4000)then bif(inb v2 v0.length)then some (.inl (((v0,()),((i64.wrap ((BitVec.ofInt IntKind.i64.bits (i64.wrap ((i64.wrap ((i64.wrap (v1*137))+(i64.wrap (nth v0 v2 0))))+11)) &&& BitVec.ofInt IntKind.i64.bits 1073741823).toNat:Int)),()),((i64.wrap (v2+1)),()),()),(),())) else none else some (.inr (.inl (((v0,()),(v1,()),()),(),()))) else some (.inr (.inl (((v0,()),(v1,()),()),(),())))
def ygG (x:(yfJ).X):=yFG x.1.1.1 x.1.2.1.1 x.1.2.2.1.1
def yED (x:(ynd).X):(yfJ).X:=(((x.1.1.1,()),(x.1.2.1.1,()),(0,()),()),(),())
def yGc:Code:=(zd7 ytp 64 116).getD .skip
theorem yT9:zd7 ytp 64 29=some (.block 0 (.loop yGc)):=by kernel_rfl
theorem yWQ (x:(yfJ).X):zhu ⟨yDn,32,yHY⟩ 0 yGc 116 yfJ ync ynk x=ygG x:=by kernel_rfl
def yEU (x:(ynd).X):Nat:=18446744073709551616
def ytS (x:(ynd).X):Option ((ync).X ⊕ (ynk).X):=zF ygG (yEU x) (yED x)
def yFA:Seg:=⟨ynd,ync,ynk,ytS⟩
def yXo:Nat→Option Seg:=fun q=>bif Nat.beq q 29 then some yFA else yHY q
theorem yUP:FrOk prog ⟨yDn,32,yXo⟩ ytp:=(yUO).loop (sg:=yFA) yfJ yED (by decide) yT9 ygG yEU (by decide) (fun _=>rfl) (fun x r _ h=>h) yWQ
abbrev yud:List Par:= [.kp tYs .fz]
abbrev yDS:List OT:= [⟨true,tU,.fz⟩]
def ykW (a0:List Int):Option (zaY yDS×zak yud) :=zkt (ytS (((a0,()),((i64.wrap (770770+(a0.length:Int))),()),((),()),()),(),())) (fun y0 =>some (((y0.1.1.1,0,y0.1.2.1.1),()),())) (fun y0 =>none)
theorem yYZ:ConOk prog 69 ⟨yud,yDS,fun x=>ykW x.1⟩:=zkI (yUP) func69 ntmps69.symm fun x=>by kernel_rfl
def yhB (a0:List Int):List Int×Int×Int:=(((ykW a0).getD (((([]:List Int),(0:Int),(0:Int)),()),())).1).1
def ybV (u:List Int×Int×Int):Prop:=0≤u.2.1∧(u.1.length:Int)≤140737488355328
theorem y2M (a0:List Int) (hb:a0.length≤140737488355328): ∃s:Int,ykW a0=some (((a0,0,s),()),()):=by
 have hl: ∃b,ytS (((a0,()),((i64.wrap (770770+(a0.length:Int))),()),((),()),()),(),())=some b∧(∃s:Int,b= .inl (((a0,()),(s,()),()),(),())):=by
  refine zjj (step:=ygG) (fun x=>(a0.length-(x.1.2.2.1.1:Int).toNat)) (fun x=>(x.1.1.1:List Int)=a0∧(0:Int)≤(x.1.2.2.1.1:Int)) _ ?_ _ _ ⟨rfl,Int.le_refl _⟩ (by show a0.length-_<18446744073709551616; omega)
  rintro⟨⟨⟨(l:List Int),_⟩,⟨(s:Int),_⟩,⟨(i:Int),_⟩,_⟩,_,_⟩ ⟨h0,hi⟩
  simp only at h0 hi;subst h0;simp only[ygG,yFG];by_cases h1:i<(l.length:Int)
  ·rw[zky h1]
   by_cases h2:i<4000
   ·rw[zky h2,zj6.2 ⟨hi,h1⟩]
    refine .inl ⟨_,rfl,⟨rfl,?_⟩,?_⟩
    ·show 0≤i64.wrap (i+1); rw[wr (by omega) (by omega)]; omega
    ·show l.length-(i64.wrap (i+1)).toNat<l.length-i.toNat; rw[wr (by omega) (by omega)]; omega
   ·rw[zk3 (Int.not_lt.1 h2)]
    exact .inr ⟨_,rfl,_,rfl⟩
  ·rw[zk3 (Int.not_lt.1 h1)]
   exact .inr ⟨_,rfl,_,rfl⟩
 obtain⟨b,e,s,rfl⟩:=hl;refine⟨s,?_⟩;unfold ykW;rw[e]; rfl
theorem y1B (a0:List Int) (hk:zjx yud (a0,())):ykW a0=(fun n=>some ((n,()),())) (yhB a0):=by
 obtain⟨s,e⟩:=y2M a0 (by have:a0.length*1≤2^47:=hk.1.1; omega);unfold yhB;rw[e]; rfl
theorem y4O (a0:List Int) (hb:a0.length≤140737488355328):ybV (yhB a0):=by
 obtain⟨s,e⟩:=y2M a0 hb;unfold yhB;rw[e];exact⟨Int.le_refl _,by show(a0.length:Int)≤_; omega⟩
def yxQ:Con:=⟨yud,yDS,fun x=>(fun n=>some ((n,()),())) (yhB x.1)⟩
theorem yJW:ConOk prog 69 yxQ:=(yYZ).mono (fun x r hk h=>(y1B x.1 hk).trans h)
def y0D:Code:=(f71.body).getD .skip
def y1b:Env:=zkw TT [] []
theorem yQY:FrOk prog ⟨y1b,15,fun _=>none⟩ y0D:=zkA mixed yf trivial
abbrev yAo:List Par:= [.rd tYs,.rd tI]
abbrev yAU:List OT:= [⟨false,tI,.fz⟩]
def yHd (a0:List Int) (a1:Int):Option (zaY yAU×zak yAo) :=bif(ltb a1 (i64.wrap (3+(i64.wrap ((a0.length:Int).tdiv 12)))))then some ((a1,()),()) else some (((i64.wrap (3+(i64.wrap ((a0.length:Int).tdiv 12)))),()),())
theorem yWb:ConOk prog 71 ⟨yAo,yAU,fun x=>yHd x.1 x.2.1⟩:=zkI (yQY) func71 ntmps71.symm fun x=>by kernel_rfl
def ybb (a0:List Int) (a1:Int):Int :=bif(ltb a1 (i64.wrap (3+(i64.wrap ((a0.length:Int).tdiv 12)))))then a1 else (i64.wrap (3+(i64.wrap ((a0.length:Int).tdiv 12))))
def yu1:Con:=⟨yAo,yAU,fun x=>(fun n=>some ((n,()),())) (ybb x.1 x.2.1)⟩
theorem yYw (a0:List Int) (a1:Int):yHd a0 a1=(fun n=>some ((n,()),())) (ybb a0 a1):=zkV (p:=fun(n:Int)=>((n,()),())) (zkG (p:=fun(n:Int)=>((n,()),())) rfl rfl)
theorem yII:ConOk prog 71 yu1:=(yWb).mono (fun x r _ h=>(yYw x.1 x.2.1).trans h)
theorem y3J (l:List Int) (n:Int) (hn:0≤n) (hl:l.length≤140737488355328):0≤ybb l n∧ybb l n≤n:=by
 unfold ybb;have h1:0≤(l.length:Int).tdiv 12:=Int.tdiv_nonneg (by omega) (by omega)
 have h2:(l.length:Int).tdiv 12≤(l.length:Int):=by
  rw[Int.tdiv_eq_ediv_of_nonneg (by omega)];exact Int.ediv_le_self _ (by omega)
 rw[wq ((l.length:Int).tdiv 12) (by omega) (by omega),wq (3+(l.length:Int).tdiv 12) (by omega) (by omega)];by_cases h:n<3+(l.length:Int).tdiv 12
 ·rw[zky h]; exact⟨hn,Int.le_refl _⟩
 ·rw[zk3 (by omega),cond_false]; omega
def y0A:Code:=(f147.body).getD .skip
def y08:Env:=zkw TT [] []
theorem yQV:FrOk prog ⟨y08,58,fun _=>none⟩ y0A:=zkA mixed yf trivial
abbrev yAl:List Par:= [.pt tU .fz]
abbrev yAR:List OT:= [⟨false,tI,.fz⟩]
def ycp (a0:dU):Option (zaY yAR×zak yAl) :=bif(ltb a0.2.1 (a0.1.length:Int))then bif(inb a0.2.1 a0.1.length)then some (((i64.wrap ((BitVec.ofInt IntKind.i64.bits (i64.wrap ((i64.wrap ((BitVec.ofInt IntKind.i64.bits (i64.wrap ((BitVec.ofInt IntKind.i64.bits ((i64.wrap ((i64.wrap (a0.2.2*6364136223846793005))+1442695040888963407)).fdiv (2^(min (33:Int).toNat IntKind.i64.bits))) ^^^ BitVec.ofInt IntKind.i64.bits ((i64.wrap ((i64.wrap (a0.2.2*6364136223846793005))+1442695040888963407)).fdiv (2^(min (47:Int).toNat IntKind.i64.bits)))).toNat:Int)) &&& BitVec.ofInt IntKind.i64.bits 255).toNat:Int))+(i64.wrap (nth a0.1 a0.2.1 0)))) &&& BitVec.ofInt IntKind.i64.bits 255).toNat:Int)),()),((a0.1,(i64.wrap (a0.2.1+1)),(i64.wrap ((i64.wrap (a0.2.2*6364136223846793005))+1442695040888963407))),())) else none else some (((i64.wrap ((BitVec.ofInt IntKind.i64.bits (i64.wrap ((BitVec.ofInt IntKind.i64.bits ((i64.wrap ((i64.wrap (a0.2.2*6364136223846793005))+1442695040888963407)).fdiv (2^(min (33:Int).toNat IntKind.i64.bits))) ^^^ BitVec.ofInt IntKind.i64.bits ((i64.wrap ((i64.wrap (a0.2.2*6364136223846793005))+1442695040888963407)).fdiv (2^(min (47:Int).toNat IntKind.i64.bits)))).toNat:Int)) &&& BitVec.ofInt IntKind.i64.bits 255).toNat:Int)),()),((a0.1,a0.2.1,(i64.wrap ((i64.wrap (a0.2.2*6364136223846793005))+1442695040888963407))),()))
theorem yV8:ConOk prog 147 ⟨yAl,yAR,fun x=>ycp x.1⟩:=zkI (yQV) func147 ntmps147.symm fun x=>by kernel_rfl
def yGs:Con:=⟨yAl,yAR,fun x=>ycp x.1⟩
theorem yZh:ConOk prog 147 yGs:=yV8
theorem y4G (x:Int):0≤i64.wrap ((BitVec.ofInt IntKind.i64.bits x &&& BitVec.ofInt IntKind.i64.bits 255).toNat:Int)∧i64.wrap ((BitVec.ofInt IntKind.i64.bits x &&& BitVec.ofInt IntKind.i64.bits 255).toNat:Int)≤255:=by
 have h:(BitVec.ofInt IntKind.i64.bits x &&& BitVec.ofInt IntKind.i64.bits 255).toNat≤255:=by
  rw[BitVec.toNat_and];exact Nat.le_trans Nat.and_le_right (by decide)
 rw[wr (by omega) (by omega)];omega
theorem yM8 (u:List Int×Int×Int) (h:ybV u): ∃(r:Int) (u':List Int×Int×Int),ycp u=some ((r,()),(u',()))∧(0≤r∧r≤255)∧ybV u':=by
 unfold ycp;by_cases h1:u.2.1<(u.1.length:Int)
 ·rw[zky h1,zj6.2 ⟨h.1,h1⟩]
  refine⟨_,_,rfl,y4G _,?_,h.2⟩;show 0≤i64.wrap (u.2.1+1);have:=h.1; have:=h.2;rw[wr (by omega) (by omega)]; omega
 ·rw[zk3 (Int.not_lt.1 h1)]
  exact⟨_,_,rfl,y4G _,h⟩
def yXd:Code:=(f72.body).getD .skip
def yXC:Env:=zkw TT [(147,yGs)] []
theorem yOg:FrOk prog ⟨yXC,31,fun _=>none⟩ yXd:=zkA mixed yf ⟨yZh,trivial⟩
abbrev yxl:List Par:= [.pt tU .fz,.rd tI]
abbrev yxD:List OT:= [⟨false,tI,.fz⟩]
def yl (a0:dU) (a1:Int):Option (zaY yxD×zak yxl) :=bif(leb a1 0)then some ((0,()),(a0,())) else bif(leb a1 256)then bnd (ycp a0) fun r1 =>bif(a1 !=0)then some (((r1.1.1.tmod a1),()),(r1.2.1,())) else none else bnd (ycp a0) fun r2 =>bnd (ycp r2.2.1) fun r3 =>bnd (ycp r3.2.1) fun r4 =>bif(a1 !=0)then some ((((i64.wrap ((i64.wrap ((i64.wrap (r2.1.1*65536))+(i64.wrap (r3.1.1*256))))+r4.1.1)).tmod a1),()),(r4.2.1,())) else none
theorem ySz:ConOk prog 72 ⟨yxl,yxD,fun x=>yl x.1 x.2.1⟩:=zkI (yOg) func72 ntmps72.symm fun x=>by kernel_rfl
def yaP:Con:=⟨yxl,yxD,fun x=>yl x.1 x.2.1⟩
theorem ybw:ConOk prog 72 yaP:=ySz
theorem yaV (u:List Int×Int×Int) (n:Int) (h:ybV u): ∃(r:Int) (u':List Int×Int×Int),yl u n=some ((r,()),(u',()))∧(0≤r∧(0<n→r<n)∧(n≤0→r=0))∧ybV u':=by
 unfold yl;by_cases h0:n≤0
 ·rw[zk2 h0]
  exact⟨_,_,rfl,⟨Int.le_refl _,fun h=>absurd h0 (by omega),fun _=>rfl⟩,h⟩
 ·have hn:(n !=0)=true:=bne_iff_ne.2 (by omega)
  have key: ∀x:Int,0≤x→0≤x.tmod n∧(0<n→x.tmod n<n)∧(n≤0→x.tmod n=0):=fun x hx =>
   ⟨Int.tmod_nonneg n hx,fun hp=>Int.tmod_lt_of_pos x hp,fun hp=>absurd hp h0⟩
  rw[zk1 (by omega)];by_cases h1:n≤256
  ·rw[zk2 h1]
   obtain⟨r1,u1,e1,q1,d1⟩:=yM8 u h;rw[e1,zkZ,zk0,zkH,hn];exact⟨_,_,rfl,key r1 q1.1,d1⟩
  ·rw[zk1 (by omega)]
   obtain⟨r1,u1,e1,q1,d1⟩:=yM8 u h;obtain⟨r2,u2,e2,q2,d2⟩:=yM8 u1 d1;obtain⟨r3,u3,e3,q3,d3⟩:=yM8 u2 d2;simp only[e1,e2,e3,zkZ,zkH,hn,zk0];refine⟨_,_,rfl,key _ ?_,d3⟩;rw[wq (r1*65536) (by omega) (by omega),wq (r2*256) (by omega) (by omega),wq (r1*65536+r2*256) (by omega) (by omega),wr (by omega) (by omega)];omega
end
end Go.Tf
