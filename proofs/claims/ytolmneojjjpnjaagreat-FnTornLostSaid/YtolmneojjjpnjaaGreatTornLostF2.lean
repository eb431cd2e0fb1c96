/- Functions of the program, and what they come to. -/
import Derived.Test.YtolmneojjjpnjaaGreatTornLostF1
namespace Go.Tf
noncomputable section
open Go.Proofs Go.Proofs.Tryz IntKind
set_option synthInstance.maxHeartbeats 400000
set_option synthInstance.maxSize 10000
set_option linter.unusedVariables false
set_option linter.unusedSimpArgs false
set_option maxRecDepth 100000
def ytp:Code:=(f185.body).getD .skip
def yDn:Env:=zku TT [] []
theorem yUA:FrOk prog ⟨yDn,17,fun _=>none⟩ ytp:=zky yf yg trivial
def yHA:Nat→Option Seg:=fun _=>none
def ydD:Shape:=⟨[(3,false,[.int .i64]),(6,false,[.br tI]),(7,false,[.int .i64]),(8,false,[.int .i64])],[],[]⟩
def yiL:Shape:=⟨[(3,false,[.ci .i64 0]),(6,false,[.br tI]),(7,false,[.int .i64]),(8,false,[.ci .i64 0])],[],[]⟩
def yiy:Shape:=⟨[(3,false,[.int .i64])],[],[]⟩
def ynk:Shape:=⟨[],[],[]⟩
abbrev ysn (v0:Int) (v1:List Int) (v2 v3:Int):(ydD).X:=(((v0,()),(v1,()),(v2,()),(v3,()),()),(),())
abbrev yRu (v0:List Int) (v1:Int):(yiL).X:=((((),()),(v0,()),(v1,()),((),()),()),(),())
abbrev yE2 (v0:Int):(yiy).X:=(((v0,()),()),(),())
def ysX (v0:Int) (v1:List Int) (v2 v3:Int):Option ((ydD).X ⊕ ((yiy).X ⊕ (ynk).X)) :=bif(ltb v3 v2)then bif(inb v3 v1.length)then some (.inl ((((i64.wrap ((BitVec.ofInt IntKind.i64.bits v0 ^^^ BitVec.ofInt IntKind.i64.bits (nth v1 v3 0)).toNat:Int)),()),(v1,()),(v2,()),((i64.wrap (v3+1)),()),()),(),())) else none else some (.inr (.inl (((v0,()),()),(),())))
def yd9 (x:(ydD).X):=ysX x.1.1.1 x.1.2.1.1 x.1.2.2.1.1 x.1.2.2.2.1.1
def yEC (x:(yiL).X):(ydD).X:=(((0,()),(x.1.2.1.1,()),(x.1.2.2.1.1,()),(0,()),()),(),())
def yF4:Code:=(zeJ ytp 64 116).getD .skip
theorem yT8:zeJ ytp 64 29=some (.block 0 (.loop yF4)):=by kernel_rfl
theorem yWU (x:(ydD).X):zhu ⟨yDn,17,yHA⟩ 0 yF4 116 ydD yiy ynk x=yd9 x:=by kernel_rfl
def yER (x:(yiL).X):Nat:=18446744073709551616
def ytM (x:(yiL).X):Option ((yiy).X ⊕ (ynk).X):=zF yd9 (yER x) (yEC x)
def yFv:Seg:=⟨yiL,yiy,ynk,ytM⟩
def yXv:Nat→Option Seg:=fun q=>bif Nat.beq q 29 then some yFv else yHA q
theorem yUB:FrOk prog ⟨yDn,17,yXv⟩ ytp:=(yUA).loop (sg:=yFv) ydD yEC (by decide) yT8 yd9 yER (by decide) (fun _=>rfl) (fun x r _ h=>h) yWU
abbrev yt0:List Par:= [.rd tL]
abbrev yDJ:List OT:= [⟨false,tI,.fz⟩]
def yya (a0:List Int):Option (zaY yDJ×zak yt0) :=zkr (ytM ((((),()),(a0,()),((a0.length:Int),()),((),()),()),(),())) (fun y0 =>some ((y0.1.1.1,()),())) (fun y0 =>none)
theorem yYS:ConOk prog 185 ⟨yt0,yDJ,fun x=>yya x.1⟩:=zkG (yUB) func185 ntmps185.symm fun x=>by kernel_rfl
def yfz (a0:List Int):Int:=yaG a0
theorem y1r (a0:List Int) (hk:zjw yt0 (a0,())):yya a0=(fun n=>some ((n,()),())) (yfz a0):=by
 have hb:a0.length*8≤2^47:=hk.1.1
 have h1:ytM (yRu a0 a0.length)=some (.inl (yE2 (yaG a0))) :=
  zkv (step:=yd9) a0 0 (fun i s=>ysn s a0 a0.length i) xw (fun _ _=>True) (fun s=> .inl (yE2 s)) (fun i s hi _=>⟨by
   simp only[yd9,ysn,ysX,zkw (show(i:Int)<a0.length by omega),cond_true,wq ((i:Int)+1) (by omega) (by omega),Int.natCast_add,Int.natCast_one,Int.toNat_natCast,zkP hi,zkQ]; rfl,trivial⟩) (fun s _=>by simp only[yd9,ysn,ysX,zk1 (Int.le_refl _),cond_false]) 0 trivial _ (by show _<18446744073709551616; omega)
 unfold yya yfz;rw[h1]; rfl
def yxJ:Con:=⟨yt0,yDJ,fun x=>(fun n=>some ((n,()),())) (yfz x.1)⟩
theorem yJt:ConOk prog 185 yxJ:=(yYS).mono (fun x r hk h=>(y1r x.1 hk).trans h)
def yM2:Code:=(f166.body).getD .skip
def yNf:Env:=zku TT [(185,yxJ)] []
theorem yIL:FrOk prog ⟨yNf,5,fun _=>none⟩ yM2:=zky yf yg ⟨yJt,trivial⟩
abbrev yp6:List Par:= [.rd tL]
abbrev yp9:List OT:= [⟨false,tI,.fz⟩]
def ywz (a0:List Int):Option (zaY yp9×zak yp6) :=let r1:=yfz a0;some ((r1,()),())
theorem yKf:ConOk prog 166 ⟨yp6,yp9,fun x=>ywz x.1⟩:=zkG (yIL) func166 ntmps166.symm fun x=>by kernel_rfl
def yj2 (a0:List Int):Int :=let r1:=yfz a0;r1
def ywb:Con:=⟨yp6,yp9,fun x=>(fun n=>some ((n,()),())) (yj2 x.1)⟩
theorem yL9 (a0:List Int):ywz a0=(fun n=>some ((n,()),())) (yj2 a0):=zkT (p:=fun(n:Int)=>((n,()),())) rfl
theorem yMk:ConOk prog 166 ywb:=(yKf).mono (fun x r _ h=>(yL9 x.1).trans h)
def y0n:Code:=(f168.body).getD .skip
def y0T:Env:=zku TT [(81,yM)] []
theorem yQu:FrOk prog ⟨y0T,34,fun _=>none⟩ y0n:=zky yf yg ⟨yS,trivial⟩
abbrev yrv:List Par:= [.rd tA,.rd tI,.rd tI]
abbrev yAw:List OT:= [⟨false,tB,.fz⟩]
def yvB (a0:dA) (a1 a2:Int):Option (zaY yAw×zak yrv) :=let r1:=yj a1 0 (i64.wrap ((a0.2.2.1.length:Int)-1));bif r1 then bif(inb a1 a0.2.2.1.length)then bif(!((((nth a0.2.2.1 a1 ([],[],false,[])).2).2).1))then bif(!(a0.2.2.2.1 !=a1))then some (((ltb a2 a0.2.2.2.2.1),()),()) else some ((true,()),()) else some ((false,()),()) else none else some ((false,()),())
theorem yVP:ConOk prog 168 ⟨yrv,yAw,fun x=>yvB x.1 x.2.1 x.2.2.1⟩:=zkG (yQu) func168 ntmps168.symm fun x=>by kernel_rfl
def yf3 (a0:dA) (a1 a2:Int):Bool:=ycQ a0 a1 a2
theorem yYh (a0:dA) (a1 a2:Int) (hk:zjw yrv (a0,a1,a2,())):yvB a0 a1 a2=(fun n=>some ((n,()),())) (yf3 a0 a1 a2):=by
 have hb:a0.2.2.1.length*80≤2^47:=hk.1.2.2.1.1;unfold yvB yf3 ycQ yc;rw[yal,ykt (show a0.2.2.1.length≤1152921504606846976 by omega),bne_comm];cases inb a1 a0.2.2.1.length
 ·rfl
 ·cases(nth a0.2.2.1 a1 ([],[],false,[])).2.2.1<;>cases(a1 !=a0.2.2.2.1)<;>rfl
def yuK:Con:=⟨yrv,yAw,fun x=>(fun n=>some ((n,()),())) (yf3 x.1 x.2.1 x.2.2.1)⟩
theorem yIc:ConOk prog 168 yuK:=(yVP).mono (fun x r hk h=>(yYh x.1 x.2.1 x.2.2.1 hk).trans h)
def ycY:Code:=(f98.body).getD .skip
def yg6:Env:=zku TT [(111,ynu),(139,yi8),(142,yuJ),(166,ywb),(167,yqd),(168,yuK)] []
theorem yJN:FrOk prog ⟨yg6,70,fun _=>none⟩ ycY:=zky yf yg ⟨yxW,yqv,yIb,yMk,yE9,yIc,trivial⟩
def yyA:Nat→Option Seg:=fun _=>none
def ybi:Shape:=⟨[(0,false,[.ptr 1000000000 0]),(1,false,[.int .i64]),(7,false,[.at 800000000]),(28,false,[.br tI]),(29,false,[.int .i64]),(30,false,[.int .i64])],[(1000000000,[.int .i64,.int .i64,.int .i64,.at 800000001,.int .i64,.int .i64,.int .i64,.int .i64,.int .i64,.at 800000002,.int .i64,.bool,.bool])],[(800000000,tI,.fz),(800000001,tM,(.pr (.ow (.ow .fz)) (.pr (.ow (.pr .fz (.ow .fz))) (.pr .fz (.ow .fz))))),(800000002,tW,(.pr .fz (.ow .fz)))]⟩
def yey:Shape:=⟨[(0,false,[.ptr 1000000000 0]),(1,false,[.int .i64]),(7,false,[.at 800000000]),(28,false,[.br tI]),(29,false,[.int .i64]),(30,false,[.ci .i64 0])],[(1000000000,[.int .i64,.int .i64,.int .i64,.at 800000001,.int .i64,.int .i64,.int .i64,.int .i64,.int .i64,.at 800000002,.int .i64,.bool,.bool])],[(800000000,tI,.fz),(800000001,tM,(.pr (.ow (.ow .fz)) (.pr (.ow (.pr .fz (.ow .fz))) (.pr .fz (.ow .fz))))),(800000002,tW,(.pr .fz (.ow .fz)))]⟩
def yer:Shape:=⟨[(0,false,[.ptr 1000000000 0]),(1,false,[.int .i64]),(7,false,[.at 800000000])],[(1000000000,[.int .i64,.int .i64,.int .i64,.at 800000001,.int .i64,.int .i64,.int .i64,.int .i64,.int .i64,.at 800000002,.int .i64,.bool,.bool])],[(800000000,tI,.fz),(800000001,tM,(.pr (.ow (.ow .fz)) (.pr (.ow (.pr .fz (.ow .fz))) (.pr .fz (.ow .fz))))),(800000002,tW,(.pr .fz (.ow .fz)))]⟩
def yhU:Shape:=⟨[],[],[]⟩
abbrev ylp (v0:Int) (v1:List Int) (v2 v3:Int) (v4:dA) (v5:List Int):(ybi).X:=((((),()),(v0,()),((),()),(v1,()),(v2,()),(v3,()),()),((v4.1,v4.2.1.1,v4.2.1.2,(),v4.2.2.2.1,v4.2.2.2.2.1,v4.2.2.2.2.2.1,v4.2.2.2.2.2.2.1,v4.2.2.2.2.2.2.2.1,(),v4.2.2.2.2.2.2.2.2.2.1,v4.2.2.2.2.2.2.2.2.2.2.1,v4.2.2.2.2.2.2.2.2.2.2.2,()),()),(v5,v4.2.2.1,v4.2.2.2.2.2.2.2.2.1,()))
abbrev yIW (v0:Int) (v1:List Int) (v2:Int) (v3:dA) (v4:List Int):(yey).X:=((((),()),(v0,()),((),()),(v1,()),(v2,()),((),()),()),((v3.1,v3.2.1.1,v3.2.1.2,(),v3.2.2.2.1,v3.2.2.2.2.1,v3.2.2.2.2.2.1,v3.2.2.2.2.2.2.1,v3.2.2.2.2.2.2.2.1,(),v3.2.2.2.2.2.2.2.2.2.1,v3.2.2.2.2.2.2.2.2.2.2.1,v3.2.2.2.2.2.2.2.2.2.2.2,()),()),(v4,v3.2.2.1,v3.2.2.2.2.2.2.2.2.1,()))
abbrev yvk (v0:Int) (v1:dA) (v2:List Int):(yer).X:=((((),()),(v0,()),((),()),()),((v1.1,v1.2.1.1,v1.2.1.2,(),v1.2.2.2.1,v1.2.2.2.2.1,v1.2.2.2.2.2.1,v1.2.2.2.2.2.2.1,v1.2.2.2.2.2.2.2.1,(),v1.2.2.2.2.2.2.2.2.2.1,v1.2.2.2.2.2.2.2.2.2.2.1,v1.2.2.2.2.2.2.2.2.2.2.2,()),()),(v2,v1.2.2.1,v1.2.2.2.2.2.2.2.2.1,()))
def ylD (v0:Int) (v1:List Int) (v2 v3 v4 v5 v6 v7 v8 v9 v10 v11 v12:Int) (v13 v14:Bool) (v15:List Int) (v16:List dM) (v17:List dW):Option ((ybi).X ⊕ ((yer).X ⊕ (yhU).X)) :=bif(ltb v3 v2)then bif(inb v3 v1.length)then let r5:=yf2 (v5,v6) v0 v3;bif(inb r5 v15.length)then some (.inl ((((),()),(v0,()),((),()),(v1,()),(v2,()),((i64.wrap (v3+1)),()),()),((v4,v5,v6,(),v7,v8,v9,v10,v11,(),v12,v13,v14,()),()),((v15.set (r5).toNat (nth v1 v3 0)),v16,v17,()))) else none else none else some (.inr (.inl ((((),()),(v0,()),((),()),()),((v4,v5,v6,(),v7,v8,v9,v10,v11,(),v12,v13,v14,()),()),(v15,v16,v17,()))))
def ybz (x:(ybi).X):=ylD x.1.2.1.1 x.1.2.2.2.1.1 x.1.2.2.2.2.1.1 x.1.2.2.2.2.2.1.1 x.2.1.1.1 x.2.1.1.2.1 x.2.1.1.2.2.1 x.2.1.1.2.2.2.2.1 x.2.1.1.2.2.2.2.2.1 x.2.1.1.2.2.2.2.2.2.1 x.2.1.1.2.2.2.2.2.2.2.1 x.2.1.1.2.2.2.2.2.2.2.2.1 x.2.1.1.2.2.2.2.2.2.2.2.2.2.1 x.2.1.1.2.2.2.2.2.2.2.2.2.2.2.1 x.2.1.1.2.2.2.2.2.2.2.2.2.2.2.2.1 x.2.2.1 x.2.2.2.1 x.2.2.2.2.1
def yuX (x:(yey).X):(ybi).X:=((((),()),(x.1.2.1.1,()),((),()),(x.1.2.2.2.1.1,()),(x.1.2.2.2.2.1.1,()),(0,()),()),((x.2.1.1.1,x.2.1.1.2.1,x.2.1.1.2.2.1,(),x.2.1.1.2.2.2.2.1,x.2.1.1.2.2.2.2.2.1,x.2.1.1.2.2.2.2.2.2.1,x.2.1.1.2.2.2.2.2.2.2.1,x.2.1.1.2.2.2.2.2.2.2.2.1,(),x.2.1.1.2.2.2.2.2.2.2.2.2.2.1,x.2.1.1.2.2.2.2.2.2.2.2.2.2.2.1,x.2.1.1.2.2.2.2.2.2.2.2.2.2.2.2.1,()),()),(x.2.2.1,x.2.2.2.1,x.2.2.2.2.1,()))
def yv3:Code:=(zeJ ycY 64 244).getD .skip
theorem yJE:zeJ ycY 64 61=some (.block 0 (.loop yv3)):=by kernel_rfl
theorem yKn (x:(ybi).X):zhu ⟨yg6,70,yyA⟩ 0 yv3 244 ybi yer yhU x=ybz x:=by kernel_rfl
def yu6 (x:(yey).X):Nat:=18446744073709551616
def ymk (x:(yey).X):Option ((yer).X ⊕ (yhU).X):=zF ybz (yu6 x) (yuX x)
def yvR:Seg:=⟨yey,yer,yhU,ymk⟩
def ynH:Nat→Option Seg:=fun q=>bif Nat.beq q 61 then some yvR else yyA q
theorem yJO:FrOk prog ⟨yg6,70,ynH⟩ ycY:=(yJN).loop (sg:=yvR) ybi yuX (by decide) yJE ybz yu6 (by decide) (fun _=>rfl) (fun x r _ h=>h) yKn
def ya2:Shape:=⟨[(0,false,[.ptr 1000000000 0]),(1,false,[.int .i64]),(46,false,[.at 800000000]),(47,false,[.int .i64]),(48,false,[.int .i64])],[(1000000000,[.int .i64,.int .i64,.int .i64,.at 800000001,.int .i64,.int .i64,.int .i64,.int .i64,.int .i64,.at 800000002,.int .i64,.bool,.bool])],[(800000000,tI,.fz),(800000001,tM,(.pr (.ow (.ow .fz)) (.pr (.ow (.pr .fz (.ow .fz))) (.pr .fz (.ow .fz))))),(800000002,tW,(.pr .fz (.ow .fz)))]⟩
def ydP:Shape:=⟨[(0,false,[.ptr 1000000000 0]),(1,false,[.int .i64]),(46,false,[.at 800000000]),(47,false,[.int .i64]),(48,false,[.ci .i64 0])],[(1000000000,[.int .i64,.int .i64,.int .i64,.at 800000001,.int .i64,.int .i64,.int .i64,.int .i64,.int .i64,.at 800000002,.int .i64,.bool,.bool])],[(800000000,tI,.fz),(800000001,tM,(.pr (.ow (.ow .fz)) (.pr (.ow (.pr .fz (.ow .fz))) (.pr .fz (.ow .fz))))),(800000002,tW,(.pr .fz (.ow .fz)))]⟩
def ydN:Shape:=⟨[],[(1000000000,[.int .i64,.int .i64,.int .i64,.at 800000000,.int .i64,.int .i64,.int .i64,.int .i64,.int .i64,.at 800000001,.int .i64,.bool,.bool])],[(800000000,tM,(.pr (.ow (.ow .fz)) (.pr (.ow (.pr .fz (.ow .fz))) (.pr .fz (.ow .fz))))),(800000001,tW,(.pr .fz (.ow .fz)))]⟩
def ydR:Shape:=⟨[(6,false,[.bool])],[(1000000000,[.int .i64,.int .i64,.int .i64,.at 800000000,.int .i64,.int .i64,.int .i64,.int .i64,.int .i64,.at 800000001,.int .i64,.bool,.bool])],[(800000000,tM,(.pr (.ow (.ow .fz)) (.pr (.ow (.pr .fz (.ow .fz))) (.pr .fz (.ow .fz))))),(800000001,tW,(.pr .fz (.ow .fz)))]⟩
abbrev ykv (v0 v1 v2:Int) (v3:dA) (v4:List Int):(ya2).X:=((((),()),(v0,()),((),()),(v1,()),(v2,()),()),((v3.1,v3.2.1.1,v3.2.1.2,(),v3.2.2.2.1,v3.2.2.2.2.1,v3.2.2.2.2.2.1,v3.2.2.2.2.2.2.1,v3.2.2.2.2.2.2.2.1,(),v3.2.2.2.2.2.2.2.2.2.1,v3.2.2.2.2.2.2.2.2.2.2.1,v3.2.2.2.2.2.2.2.2.2.2.2,()),()),(v4,v3.2.2.1,v3.2.2.2.2.2.2.2.2.1,()))
abbrev yH8 (v0 v1:Int) (v2:dA) (v3:List Int):(ydP).X:=((((),()),(v0,()),((),()),(v1,()),((),()),()),((v2.1,v2.2.1.1,v2.2.1.2,(),v2.2.2.2.1,v2.2.2.2.2.1,v2.2.2.2.2.2.1,v2.2.2.2.2.2.2.1,v2.2.2.2.2.2.2.2.1,(),v2.2.2.2.2.2.2.2.2.2.1,v2.2.2.2.2.2.2.2.2.2.2.1,v2.2.2.2.2.2.2.2.2.2.2.2,()),()),(v3,v2.2.2.1,v2.2.2.2.2.2.2.2.2.1,()))
abbrev ykx (v0:dA):(ydN).X:=((),((v0.1,v0.2.1.1,v0.2.1.2,(),v0.2.2.2.1,v0.2.2.2.2.1,v0.2.2.2.2.2.1,v0.2.2.2.2.2.2.1,v0.2.2.2.2.2.2.2.1,(),v0.2.2.2.2.2.2.2.2.2.1,v0.2.2.2.2.2.2.2.2.2.2.1,v0.2.2.2.2.2.2.2.2.2.2.2,()),()),(v0.2.2.1,v0.2.2.2.2.2.2.2.2.1,()))
abbrev ykz (v0:Bool) (v1:dA):(ydR).X:=(((v0,()),()),((v1.1,v1.2.1.1,v1.2.1.2,(),v1.2.2.2.1,v1.2.2.2.2.1,v1.2.2.2.2.2.1,v1.2.2.2.2.2.2.1,v1.2.2.2.2.2.2.2.1,(),v1.2.2.2.2.2.2.2.2.2.1,v1.2.2.2.2.2.2.2.2.2.2.1,v1.2.2.2.2.2.2.2.2.2.2.2,()),()),(v1.2.2.1,v1.2.2.2.2.2.2.2.2.1,()))
def ykW (v0 v1 v2 v3 v4 v5 v6 v7 v8 v9 v10 v11:Int) (v12 v13:Bool) (v14:List Int) (v15:List dM) (v16:List dW):Option ((ya2).X ⊕ ((ydN).X ⊕ (ydR).X)) :=bif(ltb v2 v1)then bif(inb v2 v14.length)then let r10:=yf3 (v3,(v4,v5),v15,v6,v7,v8,v9,v10,v16,v11,v12,v13) v2 v0;bif r10 then let r11:=yic v0;bnd (yeW (v3,(v4,v5),v15,v6,v7,v8,v9,v10,v16,v11,v12,v13) v2 r11 ([(nth v14 v2 0)]:List Int)) fun r12 =>bif(!r12.1.1)then some (.inr (.inr (((false,()),()),((r12.2.1.1,r12.2.1.2.1.1,r12.2.1.2.1.2,(),r12.2.1.2.2.2.1,r12.2.1.2.2.2.2.1,r12.2.1.2.2.2.2.2.1,r12.2.1.2.2.2.2.2.2.1,r12.2.1.2.2.2.2.2.2.2.1,(),r12.2.1.2.2.2.2.2.2.2.2.2.1,r12.2.1.2.2.2.2.2.2.2.2.2.2.1,r12.2.1.2.2.2.2.2.2.2.2.2.2.2,()),()),(r12.2.1.2.2.1,r12.2.1.2.2.2.2.2.2.2.2.1,())))) else some (.inl ((((),()),(v0,()),((),()),(v1,()),((i64.wrap (v2+1)),()),()),((r12.2.1.1,r12.2.1.2.1.1,r12.2.1.2.1.2,(),r12.2.1.2.2.2.1,r12.2.1.2.2.2.2.1,r12.2.1.2.2.2.2.2.1,r12.2.1.2.2.2.2.2.2.1,r12.2.1.2.2.2.2.2.2.2.1,(),r12.2.1.2.2.2.2.2.2.2.2.2.1,r12.2.1.2.2.2.2.2.2.2.2.2.2.1,r12.2.1.2.2.2.2.2.2.2.2.2.2.2,()),()),(v14,r12.2.1.2.2.1,r12.2.1.2.2.2.2.2.2.2.2.1,()))) else some (.inl ((((),()),(v0,()),((),()),(v1,()),((i64.wrap (v2+1)),()),()),((v3,v4,v5,(),v6,v7,v8,v9,v10,(),v11,v12,v13,()),()),(v14,v15,v16,()))) else none else some (.inr (.inl ((),((v3,v4,v5,(),v6,v7,v8,v9,v10,(),v11,v12,v13,()),()),(v15,v16,()))))
def ybg (x:(ya2).X):=ykW x.1.2.1.1 x.1.2.2.2.1.1 x.1.2.2.2.2.1.1 x.2.1.1.1 x.2.1.1.2.1 x.2.1.1.2.2.1 x.2.1.1.2.2.2.2.1 x.2.1.1.2.2.2.2.2.1 x.2.1.1.2.2.2.2.2.2.1 x.2.1.1.2.2.2.2.2.2.2.1 x.2.1.1.2.2.2.2.2.2.2.2.1 x.2.1.1.2.2.2.2.2.2.2.2.2.2.1 x.2.1.1.2.2.2.2.2.2.2.2.2.2.2.1 x.2.1.1.2.2.2.2.2.2.2.2.2.2.2.2.1 x.2.2.1 x.2.2.2.1 x.2.2.2.2.1
def ytc (x:(ydP).X):(ya2).X:=((((),()),(x.1.2.1.1,()),((),()),(x.1.2.2.2.1.1,()),(0,()),()),((x.2.1.1.1,x.2.1.1.2.1,x.2.1.1.2.2.1,(),x.2.1.1.2.2.2.2.1,x.2.1.1.2.2.2.2.2.1,x.2.1.1.2.2.2.2.2.2.1,x.2.1.1.2.2.2.2.2.2.2.1,x.2.1.1.2.2.2.2.2.2.2.2.1,(),x.2.1.1.2.2.2.2.2.2.2.2.2.2.1,x.2.1.1.2.2.2.2.2.2.2.2.2.2.2.1,x.2.1.1.2.2.2.2.2.2.2.2.2.2.2.2.1,()),()),(x.2.2.1,x.2.2.2.1,x.2.2.2.2.1,()))
def yuG:Code:=(zeJ ycY 64 500).getD .skip
theorem yIE:zeJ ycY 64 125=some (.block 2 (.loop yuG)):=by kernel_rfl
theorem yI9 (x:(ya2).X):zhu ⟨yg6,70,ynH⟩ 2 yuG 500 ya2 ydN ydR x=ybg x:=by kernel_rfl
def ytf (x:(ydP).X):Nat:=18446744073709551616
def yk6 (x:(ydP).X):Option ((ydN).X ⊕ (ydR).X):=zF ybg (ytf x) (ytc x)
def ytl:Seg:=⟨ydP,ydN,ydR,yk6⟩
def yKw:Nat→Option Seg:=fun q=>bif Nat.beq q 125 then some ytl else ynH q
theorem yJP:FrOk prog ⟨yg6,70,yKw⟩ ycY:=(yJO).loop (sg:=ytl) ya2 ytc (by decide) yIE ybg ytf (by decide) (fun _=>rfl) (fun x r _ h=>h) yI9
abbrev yha:List Par:= [.pt tA (.pr .fz (.pr (.pr .fz .fz) (.pr (.ow (.pr (.ow (.ow .fz)) (.pr (.ow (.pr .fz (.ow .fz))) (.pr .fz (.ow .fz))))) (.pr .fz (.pr .fz (.pr .fz (.pr .fz (.pr .fz (.pr (.ow (.pr .fz (.ow .fz))) (.pr .fz (.pr .fz .fz))))))))))),.rd tI,.rd tL]
abbrev ylc:List OT:= [⟨false,tB,.fz⟩]
def yov (a0:dA) (a1:Int) (a2:List Int):Option (zaY ylc×zak yha) :=bif(zkq a0.2.1.1 8)then let r1:=ydV a0.2.1 a1;let r2:=yj2 a2;bif(inb r1 (List.replicate (a0.2.1.1).toNat (0:Int)).length)then let r3:=((List.replicate (a0.2.1.1).toNat (0:Int)).set (r1).toNat r2);zkr (ymk ((((),()),(a1,()),((),()),(a2,()),((a2.length:Int),()),((),()),()),((a0.1,a0.2.1.1,a0.2.1.2,(),a0.2.2.2.1,a0.2.2.2.2.1,a0.2.2.2.2.2.1,a0.2.2.2.2.2.2.1,a0.2.2.2.2.2.2.2.1,(),a0.2.2.2.2.2.2.2.2.2.1,a0.2.2.2.2.2.2.2.2.2.2.1,a0.2.2.2.2.2.2.2.2.2.2.2,()),()),(r3,a0.2.2.1,a0.2.2.2.2.2.2.2.2.1,()))) (fun y5 =>zkr (yk6 ((((),()),(y5.1.2.1.1,()),((),()),((y5.2.2.1.length:Int),()),((),()),()),((y5.2.1.1.1,y5.2.1.1.2.1,y5.2.1.1.2.2.1,(),y5.2.1.1.2.2.2.2.1,y5.2.1.1.2.2.2.2.2.1,y5.2.1.1.2.2.2.2.2.2.1,y5.2.1.1.2.2.2.2.2.2.2.1,y5.2.1.1.2.2.2.2.2.2.2.2.1,(),y5.2.1.1.2.2.2.2.2.2.2.2.2.2.1,y5.2.1.1.2.2.2.2.2.2.2.2.2.2.2.1,y5.2.1.1.2.2.2.2.2.2.2.2.2.2.2.2.1,()),()),(y5.2.2.1,y5.2.2.2.1,y5.2.2.2.2.1,()))) (fun y12 =>some ((true,()),((y12.2.1.1.1,(y12.2.1.1.2.1,y12.2.1.1.2.2.1),y12.2.2.1,y12.2.1.1.2.2.2.2.1,y12.2.1.1.2.2.2.2.2.1,y12.2.1.1.2.2.2.2.2.2.1,y12.2.1.1.2.2.2.2.2.2.2.1,y12.2.1.1.2.2.2.2.2.2.2.2.1,y12.2.2.2.1,y12.2.1.1.2.2.2.2.2.2.2.2.2.2.1,y12.2.1.1.2.2.2.2.2.2.2.2.2.2.2.1,y12.2.1.1.2.2.2.2.2.2.2.2.2.2.2.2.1),()))) (fun y12 =>some ((y12.1.1.1,()),((y12.2.1.1.1,(y12.2.1.1.2.1,y12.2.1.1.2.2.1),y12.2.2.1,y12.2.1.1.2.2.2.2.1,y12.2.1.1.2.2.2.2.2.1,y12.2.1.1.2.2.2.2.2.2.1,y12.2.1.1.2.2.2.2.2.2.2.1,y12.2.1.1.2.2.2.2.2.2.2.2.1,y12.2.2.2.1,y12.2.1.1.2.2.2.2.2.2.2.2.2.2.1,y12.2.1.1.2.2.2.2.2.2.2.2.2.2.2.1,y12.2.1.1.2.2.2.2.2.2.2.2.2.2.2.2.1),())))) (fun y5 =>none) else none else none
theorem yMe:ConOk prog 98 ⟨yha,ylc,fun x=>yov x.1 x.2.1 x.2.2.1⟩:=zkG (yJP) func98 ntmps98.symm fun x=>by kernel_rfl
def ylw (a0:dA) (a1:Int) (a2:List Int):Bool×dA:=(!(ya (yB a0 a1 a2)),yB a0 a1 a2)
def yeX (a0:dA) (a1:Int) (a2:List Int):Bool:= !(ya a0)&&(yN a0.2.1 a1&&((a2.length:Int)==a0.2.1.1-1&&(a0.2.2.1.length:Int)==a0.2.1.1))
theorem yOF (a0:dA) (a1:Int) (a2:List Int) (hk:zjw yha (a0,a1,a2,())) (hq:yeX a0 a1 a2=true):yov a0 a1 a2=(fun n=>some ((n.1,()),(n.2,()))) (ylw a0 a1 a2):=by
 simp only[yeX,Bool.and_eq_true,beq_iff_eq,Bool.not_eq_true']at hq;obtain⟨hd0,hs0,hl0,hm0⟩:=hq;have hg:=yl.1 (yW.1 hs0).1;have hp:=yju hs0;have hL:=y4y (N:=a0.2.1.1) (p:=yk a0.2.1 a1) (x:=yaG a2) (data:=a2) ⟨by omega,by omega⟩ hp hl0;generalize hw:(List.range a0.2.1.1.toNat).map (fun(i:Nat)=>yco (yk a0.2.1 a1) a0.2.1.1 (yaG a2) a2 i)=W at hL;have hWl:W.length=a0.2.2.1.length:=by rw[← hw,List.length_map,List.length_range]; omega
 have hWat: ∀i:Nat,i<a0.2.2.1.length→nth W i 0=yco (yk a0.2.1 a1) a0.2.1.1 (yaG a2) a2 i:=fun i hi=>by
  rw[← hw,zkQ,zkH (by rw[List.length_map,List.length_range]; omega)]; simp
 have h1:ymk (yIW a1 a2 a2.length a0 ((List.replicate a0.2.1.1.toNat 0).set (yk a0.2.1 a1).toNat (yaG a2)))=some (.inl (yvk a1 a0 W)):=by
  have:=zkB (step:=ybz) a2.length (fun i s=>ylp a1 a2 a2.length i a0 s) (fun l (i:Nat)=>l.set ((yk a0.2.1 a1+1+i).tmod a0.2.1.1).toNat (nth a2 i 0)) (fun _ s=>s.length=a0.2.1.1.toNat) (fun s=> .inl (yvk a1 a0 s)) (fun i s hi hs=>⟨by
   have hd:=yMP hs0 (show(0:Int)≤i by omega) (show(i:Int)≤a0.2.1.1-2 by omega);have he:yaV a0.2.1 a1 i=(yk a0.2.1 a1+1+i).tmod a0.2.1.1:=by unfold yaV; rw[hs0,zk0 (show(0:Int)≤i by omega),zk0 (show(i:Int)≤a0.2.1.1-2 by omega)]; rfl
   simp only[ybz,ylp,ylD,zkw (show(i:Int)<a2.length by omega),cond_true,wq ((i:Int)+1) (by omega) (by omega),Int.natCast_add,Int.natCast_one,Int.toNat_natCast,zkP hi,zkV,yf2,zj4.2 (show 0≤yaV a0.2.1 a1 i∧yaV a0.2.1 a1 i<s.length by omega)]
   rw[he],by rw[List.length_set]; exact hs⟩) (fun s hs=>by simp only[ybz,ylp,ylD,zk1 (Int.le_refl _),cond_false]) ((List.replicate a0.2.1.1.toNat 0).set (yk a0.2.1 a1).toNat (yaG a2)) (by rw[List.length_set,List.length_replicate]) 18446744073709551616 (by omega)
  rw[hL]at this;exact this
 have h2:yk6 (yH8 a1 W.length a0 W)=some (bif ya (yB a0 a1 a2)then .inr (ykz false (yB a0 a1 a2))else .inl (ykx (yB a0 a1 a2))):=by
  have:=zkA (step:=ybg) a0.2.2.1.length (fun i s=>ykv a1 W.length i s W) (fun i s=>bif ya (ybe (yk a0.2.1 a1) a0.2.1.1 a1 a2 s i)then(.inr (ybe (yk a0.2.1 a1) a0.2.1.1 a1 a2 s i):dA ⊕ dA)else .inl (ybe (yk a0.2.1 a1) a0.2.1.1 a1 a2 s i)) (fun _ s=>s.2.2.1.length=a0.2.2.1.length∧ya s=false) id
   (fun b=>bif ya b then .inr (ykz false b)else .inl (ykx b)) (fun i s hi hs=>by
    constructor
    ·simp only[ybg,ykv,ykW,zkw (show(i:Int)<W.length by omega),cond_true,wq ((i:Int)+1) (by omega) (by omega),Int.natCast_add,Int.natCast_one,Int.toNat_natCast,zkP (show i<W.length by omega),zkV,yf3,yxR,hWat i hi,ybe]
     rw[yqw s i (yy a1) [yco (yk a0.2.1 a1) a0.2.1.1 (yaG a2) a2 i] (by unfold ydc; rw[zkP (by rw[hs.1]; exact hi),hs.2]; rfl)];cases hlv:ycQ s i a1
     ·simp only[cond_false,hs.2]
     ·simp only[zkF,ydb,cond_true]
      cases hd:ya (yby s i (yy a1) [yco (yk a0.2.1 a1) a0.2.1.1 (yaG a2) a2 i])
      ·rfl
      ·simp only[hd,Bool.not_true,Bool.not_false,cond_true,ykz]
    ·intro s' h
     cases hd:ya (ybe (yk a0.2.1 a1) a0.2.1.1 a1 a2 s i)
     ·rw[hd]at h
      cases h;exact⟨(yq6 _ _ _ _ s i).trans hs.1,hd⟩
     ·rw[hd]at h; cases h) (fun s hs=>by simp only[ybg,ykv,ykW,hs.2,hWl,zk1 (Int.le_refl _),cond_false,id,ykx]) a0 ⟨rfl,hd0⟩ 18446744073709551616 (by omega)
  rw[yE1 (fun a i h=>yEx _ _ _ _ i h),← List.range_eq_range']at this;exact this
 unfold yov ylw ydV yj2 yfz;rw[zkK.2 (show 0≤a0.2.1.1∧a0.2.1.1*((8:Nat):Int)≤140737488355328 by omega)];simp only[cond_true];rw[zj4.2 (show 0≤yk a0.2.1 a1∧yk a0.2.1 a1<((List.replicate a0.2.1.1.toNat (0:Int)).length:Int)by rw[List.length_replicate]; omega),cond_true];refine(congrArg (fun z=>zkr z _ _) h1).trans ?_;rw[zkL];refine(congrArg (fun z=>zkr z _ _) h2).trans ?_;cases hd:ya (yB a0 a1 a2)
 ·rfl
 ·simp only[cond_true,zkM,zkV]; rfl
def ya5 (a0:dA) (a1:Int) (a2:List Int):Option (zaY ylc×zak yha):=bif yeX a0 a1 a2 then(fun n=>some ((n.1,()),(n.2,()))) (ylw a0 a1 a2)else none
theorem yCt (a0:dA) (a1:Int) (a2:List Int) (h:yeX a0 a1 a2=true):ya5 a0 a1 a2=(fun n=>some ((n.1,()),(n.2,()))) (ylw a0 a1 a2):=by unfold ya5; rw[h]; rfl
def yn3:Con:=⟨yha,ylc,fun x=>ya5 x.1 x.2.1 x.2.2.1⟩
theorem yCr:ConOk prog 98 yn3:=(yMe).mono (fun x r hk h=>zkW h (fun hq=>yOF x.1 x.2.1 x.2.2.1 hk hq))
def yTm:Code:=(f172.body).getD .skip
def yTP:Env:=zku TT [(212,ysc)] []
theorem yK7:FrOk prog ⟨yTP,24,fun _=>none⟩ yTm:=zky yf yg ⟨yGK,trivial⟩
abbrev ytY:List Par:= [.rd tS]
abbrev yui:List OT:= [⟨false,tL,(.ow .fz)⟩]
def yCu (a0:dS):Option (zaY yui×zak ytY) :=let r1:=yeU a0;bif(!r1)then some (([],()),()) else some ((([21317,a0.1,a0.2.1,a0.2.2.1,a0.2.2.2.1,a0.2.2.2.2.1,a0.2.2.2.2.2.1,(i64.wrap (a0.2.2.2.2.2.2.1+1)),a0.2.2.2.2.2.2.2]:List Int),()),())
theorem yOR:ConOk prog 172 ⟨ytY,yui,fun x=>yCu x.1⟩:=zkG (yK7) func172 ntmps172.symm fun x=>by kernel_rfl
def yji (a0:dS):(List Int) :=let r1:=yeU a0;bif(!r1)then [] else ([21317,a0.1,a0.2.1,a0.2.2.1,a0.2.2.2.1,a0.2.2.2.2.1,a0.2.2.2.2.2.1,(i64.wrap (a0.2.2.2.2.2.2.1+1)),a0.2.2.2.2.2.2.2]:List Int)
def yBL:Con:=⟨ytY,yui,fun x=>(fun n=>some ((n,()),())) (yji x.1)⟩
theorem yRR (a0:dS):yCu a0=(fun n=>some ((n,()),())) (yji a0):=zkT (p:=fun(n:(List Int))=>((n,()),())) (zkE (p:=fun(n:(List Int))=>((n,()),())) rfl rfl)
theorem ySK:ConOk prog 172 yBL:=(yOR).mono (fun x r _ h=>(yRR x.1).trans h)
theorem y3k (s:dS):yji s=ym s:=by
 unfold yji ym;rw[yJq]
def yXh:Code:=(f173.body).getD .skip
def yXJ:Env:=zku TT [] []
theorem yNV:FrOk prog ⟨yXJ,23,fun _=>none⟩ yXh:=zky yf yg trivial
abbrev yw9:List Par:= [.rd tA,.rd tI]
abbrev yxt:List OT:= [⟨false,tS,(.pr .fz (.pr .fz (.pr .fz (.pr .fz (.pr .fz (.pr .fz (.pr .fz .fz)))))))⟩]
def yFn (a0:dA) (a1:Int):Option (zaY yxt×zak yw9) :=some (((a0.1,a0.2.2.2.2.2.2.2.1,a1,a0.2.1.1,a0.2.1.2,a0.2.2.2.2.2.2.1,a0.2.2.2.1,a0.2.2.2.2.1),()),())
theorem ySn:ConOk prog 173 ⟨yw9,yxt,fun x=>yFn x.1 x.2.1⟩:=zkG (yNV) func173 ntmps173.symm fun x=>by kernel_rfl
def ypy (a0:dA) (a1:Int):dS :=(a0.1,a0.2.2.2.2.2.2.2.1,a1,a0.2.1.1,a0.2.1.2,a0.2.2.2.2.2.2.1,a0.2.2.2.1,a0.2.2.2.2.1)
def yEl:Con:=⟨yw9,yxt,fun x=>(fun n=>some ((n,()),())) (ypy x.1 x.2.1)⟩
theorem yVu (a0:dA) (a1:Int):yFn a0 a1=(fun n=>some ((n,()),())) (ypy a0 a1):=zkT (p:=fun(n:dS)=>((n,()),())) rfl
theorem yWy:ConOk prog 173 yEl:=(ySn).mono (fun x r _ h=>(yVu x.1 x.2.1).trans h)
def yfV:Code:=(f76.body).getD .skip
def ylL:Env:=zku TT [] [(21056,.fz),(21120,.fz),(37952,(.pr .fz .fz)),(38016,(.pr .fz .fz))]
theorem yQW:FrOk prog ⟨ylL,60,fun _=>none⟩ yfV:=zky yf yg trivial
def yFQ:Nat→Option Seg:=fun _=>none
def yc4:Shape:=⟨[(1,false,[.ptr 0 0]),(2,false,[.ptr 64 0]),(3,false,[.ptr 4544 0]),(4,false,[.int .i64])],[(0,[.br tL,.br tW,.bool,.br tI]),(64,[.nil,.nil,.bool,.nil]),(4544,[.at 800000001,.nil,.bool,.at 800000000])],[(800000001,tL,.fz),(800000000,tI,.fz)]⟩
def yhs:Shape:=⟨[(1,false,[.ptr 0 0]),(2,false,[.ptr 64 0]),(3,false,[.ptr 4544 0]),(4,false,[.ci .i64 0])],[(0,[.br tL,.br tW,.bool,.br tI]),(64,[.nil,.nil,.bool,.nil]),(4544,[.at 800000001,.nil,.bool,.at 800000000])],[(800000001,tL,.fz),(800000000,tI,.fz)]⟩
def yhh:Shape:=⟨[(1,false,[.ptr 0 0]),(2,false,[.ptr 64 0]),(3,false,[.ptr 4544 0])],[(0,[.br tL,.br tW,.bool,.br tI]),(64,[.nil,.nil,.bool,.nil]),(4544,[.at 800000000,.nil,.bool,.at 800000001])],[(800000000,tL,.fz),(800000001,tI,.fz)]⟩
def ylg:Shape:=⟨[],[],[]⟩
abbrev yqn (v0:Int) (v1 v2 v3:dM):(yc4).X:=((((),()),((),()),((),()),(v0,()),()),((v1.1,v1.2.1,v1.2.2.1,v1.2.2.2,()),((),(),v2.2.2.1,(),()),((),(),v3.2.2.1,(),()),()),(v3.1,v3.2.2.2,()))
abbrev yOw (v0 v1 v2:dM):(yhs).X:=((((),()),((),()),((),()),((),()),()),((v0.1,v0.2.1,v0.2.2.1,v0.2.2.2,()),((),(),v1.2.2.1,(),()),((),(),v2.2.2.1,(),()),()),(v2.1,v2.2.2.2,()))
abbrev yCm (v0 v1 v2:dM):(yhh).X:=((((),()),((),()),((),()),()),((v0.1,v0.2.1,v0.2.2.1,v0.2.2.2,()),((),(),v1.2.2.1,(),()),((),(),v2.2.2.1,(),()),()),(v2.1,v2.2.2.2,()))
def yqX (v0:Int) (v1:List (List Int)) (v2:List dW) (v3:Bool) (v4:List Int) (v5 v6:Bool) (v7:List (List Int)) (v8:List Int):Option ((yc4).X ⊕ ((yhh).X ⊕ (ylg).X)) :=bif(ltb v0 (v1.length:Int))then bif(inb v0 v1.length)then bif(zkj ([]:List Int).length (nth v1 v0 []).length 8)then bif(zkj v7.length ([(([]:List Int)++(nth v1 v0 []))]:List (List Int)).length 24)then some (.inl ((((),()),((),()),((),()),((i64.wrap (v0+1)),()),()),((v1,v2,v3,v4,()),((),(),v5,(),()),((),(),v6,(),()),()),((v7++([(([]:List Int)++(nth v1 v0 []))]:List (List Int))),v8,()))) else none else none else none else some (.inr (.inl ((((),()),((),()),((),()),()),((v1,v2,v3,v4,()),((),(),v5,(),()),((),(),v6,(),()),()),(v7,v8,()))))
def ydq (x:(yc4).X):=yqX x.1.2.2.2.1.1 x.2.1.1.1 x.2.1.1.2.1 x.2.1.1.2.2.1 x.2.1.1.2.2.2.1 x.2.1.2.1.2.2.1 x.2.1.2.2.1.2.2.1 x.2.2.1 x.2.2.2.1
def yB4 (x:(yhs).X):(yc4).X:=((((),()),((),()),((),()),(0,()),()),((x.2.1.1.1,x.2.1.1.2.1,x.2.1.1.2.2.1,x.2.1.1.2.2.2.1,()),((),(),x.2.1.2.1.2.2.1,(),()),((),(),x.2.1.2.2.1.2.2.1,(),()),()),(x.2.2.1,x.2.2.2.1,()))
def yD5:Code:=(zeJ yfV 64 116).getD .skip
theorem yQb:zeJ yfV 64 29=some (.block 0 (.loop yD5)):=by kernel_rfl
theorem yS7 (x:(yc4).X):zhu ⟨ylL,60,yFQ⟩ 0 yD5 116 yc4 yhh ylg x=ydq x:=by kernel_rfl
def yCf (x:(yhs).X):Nat:=18446744073709551616
def yr3 (x:(yhs).X):Option ((yhh).X ⊕ (ylg).X):=zF ydq (yCf x) (yB4 x)
def yCE:Seg:=⟨yhs,yhh,ylg,yr3⟩
def ytz:Nat→Option Seg:=fun q=>bif Nat.beq q 29 then some yCE else yFQ q
theorem yQX:FrOk prog ⟨ylL,60,ytz⟩ yfV:=(yQW).loop (sg:=yCE) yc4 yB4 (by decide) yQb ydq yCf (by decide) (fun _=>rfl) (fun x r _ h=>h) yS7
def yc5:Shape:=⟨[(1,false,[.ptr 0 0]),(2,false,[.ptr 64 0]),(3,false,[.ptr 4544 0]),(5,false,[.int .i64])],[(0,[.br tL,.br tW,.bool,.br tI]),(64,[.nil,.nil,.bool,.nil]),(4544,[.at 800000000,.at 800000002,.bool,.at 800000001])],[(800000000,tL,.fz),(800000002,tW,(.pr .fz .fz)),(800000001,tI,.fz)]⟩
def yht:Shape:=⟨[(1,false,[.ptr 0 0]),(2,false,[.ptr 64 0]),(3,false,[.ptr 4544 0]),(5,false,[.ci .i64 0])],[(0,[.br tL,.br tW,.bool,.br tI]),(64,[.nil,.nil,.bool,.nil]),(4544,[.at 800000000,.at 800000002,.bool,.at 800000001])],[(800000000,tL,.fz),(800000002,tW,(.pr .fz .fz)),(800000001,tI,.fz)]⟩
def yhi:Shape:=⟨[(2,false,[.ptr 64 0]),(3,false,[.ptr 4544 0])],[(64,[.nil,.nil,.bool,.nil]),(4544,[.at 800000000,.at 800000001,.bool,.at 800000002])],[(800000000,tL,.fz),(800000001,tW,(.pr .fz .fz)),(800000002,tI,.fz)]⟩
def ylh:Shape:=⟨[],[],[]⟩
abbrev yqo (v0:Int) (v1 v2 v3:dM):(yc5).X:=((((),()),((),()),((),()),(v0,()),()),((v1.1,v1.2.1,v1.2.2.1,v1.2.2.2,()),((),(),v2.2.2.1,(),()),((),(),v3.2.2.1,(),()),()),(v3.1,v3.2.1,v3.2.2.2,()))
abbrev yOx (v0 v1 v2:dM):(yht).X:=((((),()),((),()),((),()),((),()),()),((v0.1,v0.2.1,v0.2.2.1,v0.2.2.2,()),((),(),v1.2.2.1,(),()),((),(),v2.2.2.1,(),()),()),(v2.1,v2.2.1,v2.2.2.2,()))
abbrev yCn (v0 v1:dM):(yhi).X:=((((),()),((),()),()),(((),(),v0.2.2.1,(),()),((),(),v1.2.2.1,(),()),()),(v1.1,v1.2.1,v1.2.2.2,()))
def yqY (v0:Int) (v1:List (List Int)) (v2:List dW) (v3:Bool) (v4:List Int) (v5 v6:Bool) (v7:List (List Int)) (v8:List dW) (v9:List Int):Option ((yc5).X ⊕ ((yhi).X ⊕ (ylh).X)) :=bif(ltb v0 (v2.length:Int))then bif(inb v0 v2.length)then bif(inb v0 v2.length)then bif(zkj ([]:List Int).length ((nth v2 v0 (0,[])).2).length 8)then bif(zkj v8.length ([((nth v2 v0 (0,[])).1,(([]:List Int)++((nth v2 v0 (0,[])).2)))]:List dW).length 32)then some (.inl ((((),()),((),()),((),()),((i64.wrap (v0+1)),()),()),((v1,v2,v3,v4,()),((),(),v5,(),()),((),(),v6,(),()),()),(v7,(v8++([((nth v2 v0 (0,[])).1,(([]:List Int)++((nth v2 v0 (0,[])).2)))]:List dW)),v9,()))) else none else none else none else none else some (.inr (.inl ((((),()),((),()),()),(((),(),v5,(),()),((),(),v6,(),()),()),(v7,v8,v9,()))))
def ydr (x:(yc5).X):=yqY x.1.2.2.2.1.1 x.2.1.1.1 x.2.1.1.2.1 x.2.1.1.2.2.1 x.2.1.1.2.2.2.1 x.2.1.2.1.2.2.1 x.2.1.2.2.1.2.2.1 x.2.2.1 x.2.2.2.1 x.2.2.2.2.1
def yB5 (x:(yht).X):(yc5).X:=((((),()),((),()),((),()),(0,()),()),((x.2.1.1.1,x.2.1.1.2.1,x.2.1.1.2.2.1,x.2.1.1.2.2.2.1,()),((),(),x.2.1.2.1.2.2.1,(),()),((),(),x.2.1.2.2.1.2.2.1,(),()),()),(x.2.2.1,x.2.2.2.1,x.2.2.2.2.1,()))
def yD6:Code:=(zeJ yfV 64 244).getD .skip
theorem yQc:zeJ yfV 64 61=some (.block 2 (.loop yD6)):=by kernel_rfl
theorem yS8 (x:(yc5).X):zhu ⟨ylL,60,ytz⟩ 2 yD6 244 yc5 yhi ylh x=ydr x:=by kernel_rfl
def yCg (x:(yht).X):Nat:=18446744073709551616
def yr4 (x:(yht).X):Option ((yhi).X ⊕ (ylh).X):=zF ydr (yCg x) (yB5 x)
def yCF:Seg:=⟨yht,yhi,ylh,yr4⟩
def yTF:Nat→Option Seg:=fun q=>bif Nat.beq q 61 then some yCF else ytz q
theorem yQY:FrOk prog ⟨ylL,60,yTF⟩ yfV:=(yQX).loop (sg:=yCF) yc5 yB5 (by decide) yQc ydr yCg (by decide) (fun _=>rfl) (fun x r _ h=>h) yS8
abbrev yrD:List Par:= [.rd tM]
abbrev yAT:List OT:= [⟨false,tM,(.pr (.ow .fz) (.pr (.ow (.pr .fz .fz)) (.pr .fz (.ow .fz))))⟩]
def yvK (a0:dM):Option (zaY yAT×zak yrD) :=bif(zkj ([]:List Int).length a0.2.2.2.length 8)then zkr (yr3 ((((),()),((),()),((),()),((),()),()),((a0.1,a0.2.1,a0.2.2.1,a0.2.2.2,()),((),(),false,(),()),((),(),a0.2.2.1,(),()),()),([],(([]:List Int)++a0.2.2.2),()))) (fun y0 =>zkr (yr4 ((((),()),((),()),((),()),((),()),()),((y0.2.1.1.1,y0.2.1.1.2.1,y0.2.1.1.2.2.1,y0.2.1.1.2.2.2.1,()),((),(),y0.2.1.2.1.2.2.1,(),()),((),(),y0.2.1.2.2.1.2.2.1,(),()),()),(y0.2.2.1,[],y0.2.2.2.1,()))) (fun y1 =>some (((y1.2.2.1,y1.2.2.2.1,y1.2.1.2.1.2.2.1,y1.2.2.2.2.1),()),())) (fun y1 =>none)) (fun y0 =>none) else none
theorem yWd:ConOk prog 76 ⟨yrD,yAT,fun x=>yvK x.1⟩:=zkG (yQY) func76 ntmps76.symm fun x=>by kernel_rfl
def yaP (a0:dM):dM:=a0
theorem yYC (a0:dM) (hk:zjw yrD (a0,())):yvK a0=(fun n=>some ((n,()),())) (yaP a0):=by
 have hb1:a0.1.length*24≤2^47:=hk.1.1.1;have hb2:a0.2.1.length*32≤2^47:=hk.1.2.1.1;have hb3:a0.2.2.2.length*8≤2^47:=hk.1.2.2.2.1;have hs: ∀i,i<a0.1.length→(a0.1.getD i []).length*8≤2^47:=fun i hi=>by rw[zkH hi]; exact(hk.1.1.2 _ (List.getElem_mem hi)).1
 have hc: ∀i,i<a0.2.1.length→(a0.2.1.getD i (0,[])).2.length*8≤2^47:=fun i hi=>by rw[zkH hi]; exact(hk.1.2.1.2 _ (List.getElem_mem hi)).2.1
 have h1:yr3 (yOw a0 yc ([],[],a0.2.2.1,a0.2.2.2))=some (.inl (yCm a0 yc (a0.1,[],a0.2.2.1,a0.2.2.2))):=by
  have:=zkv (step:=ydq) a0.1 [] (fun i s=>yqn i a0 yc (s,[],a0.2.2.1,a0.2.2.2)) (fun s x=>s++ [x]) (fun i s=>s.length=i) (fun s=> .inl (yCm a0 yc (s,[],a0.2.2.1,a0.2.2.2))) (fun i s hi hs2=>⟨by
   have:=hs i hi;simp only[ydq,yqn,yqX,zkw (show(i:Int)<a0.1.length by omega),cond_true,wq ((i:Int)+1) (by omega) (by omega),Int.natCast_add,Int.natCast_one,Int.toNat_natCast,zkP hi,zkQ,List.nil_append]
   rw[zkD.2 (show(([]:List Int).length+(a0.1.getD i []).length)*8≤140737488355328 by rw[List.length_nil]; omega),zkD.2 (show(s.length+ [a0.1.getD i []].length)*24≤140737488355328 by simp only[List.length_cons,List.length_nil]; omega)]; rfl,by simp[hs2]⟩) (fun s _=>by simp only[ydq,yqn,yqX,zk1 (Int.le_refl _),cond_false]) [] rfl 18446744073709551616 (by omega)
  rw[yxQ]at this;exact this
 have h2:yr4 (yOx a0 yc (a0.1,[],a0.2.2.1,a0.2.2.2))=some (.inl (yCn yc a0)):=by
  have:=zkv (step:=ydr) a0.2.1 (0,[]) (fun i s=>yqo i a0 yc (a0.1,s,a0.2.2.1,a0.2.2.2)) (fun s x=>s++ [x]) (fun i s=>s.length=i) (fun s=> .inl (yCn yc (a0.1,s,a0.2.2.1,a0.2.2.2))) (fun i s hi hs2=>⟨by
   have:=hc i hi;simp only[ydr,yqo,yqY,zkw (show(i:Int)<a0.2.1.length by omega),cond_true,wq ((i:Int)+1) (by omega) (by omega),Int.natCast_add,Int.natCast_one,Int.toNat_natCast,zkP hi,zkQ,List.nil_append,zkV]
   rw[zkD.2 (show(([]:List Int).length+(a0.2.1.getD i (0,[])).2.length)*8≤140737488355328 by rw[List.length_nil]; omega),zkD.2 (show(s.length+ [a0.2.1.getD i (0,[])].length)*32≤140737488355328 by simp only[List.length_cons,List.length_nil]; omega)]; rfl,by simp[hs2]⟩) (fun s _=>by simp only[ydr,yqo,yqY,zk1 (Int.le_refl _),cond_false]) [] rfl 18446744073709551616 (by omega)
  rw[yxQ]at this;exact this
 unfold yvK yaP;rw[zkD.2 (show(([]:List Int).length+a0.2.2.2.length)*8≤140737488355328 by rw[List.length_nil]; omega)];simp only[cond_true,List.nil_append,h1,zkL,h2]
def yi9:Con:=⟨yrD,yAT,fun x=>(fun n=>some ((n,()),())) (yaP x.1)⟩
theorem ypI:ConOk prog 76 yi9:=(yWd).mono (fun x r hk h=>(yYC x.1 hk).trans h)
def y2a:Code:=(f202.body).getD .skip
def y2l:Env:=zku TT [(200,yhC)] []
theorem yUJ:FrOk prog ⟨y2l,10,fun _=>none⟩ y2a:=zky yf yg ⟨ynG,trivial⟩
abbrev yDz:List Par:= [.rd tL]
abbrev yDO:List OT:= [⟨false,tB,.fz⟩]
def yIt (a0:List Int):Option (zaY yDO×zak yDz) :=bif(leb (a0.length:Int) 12)then let r1:=yau a0;some ((r1,()),()) else some ((false,()),())
theorem yYX:ConOk prog 202 ⟨yDz,yDO,fun x=>yIt x.1⟩:=zkG (yUJ) func202 ntmps202.symm fun x=>by kernel_rfl
def yhH (a0:List Int):Bool :=bif(leb (a0.length:Int) 12)then let r1:=yau a0;r1 else false
def yxL:Con:=⟨yDz,yDO,fun x=>(fun n=>some ((n,()),())) (yhH x.1)⟩
theorem y1w (a0:List Int):yIt a0=(fun n=>some ((n,()),())) (yhH a0):=zkT (p:=fun(n:Bool)=>((n,()),())) (zkE (p:=fun(n:Bool)=>((n,()),())) rfl rfl)
theorem yJv:ConOk prog 202 yxL:=(yYX).mono (fun x r _ h=>(y1w x.1).trans h)
theorem yHu:yhH=yaz:=funext fun s=>by
 unfold yhH yaz yau;rw[show yaO=isW from funext fun x=>by unfold yaO; rw[ybU]; rfl];cases leb (s.length:Int) 12<;>rfl
def ycL:Code:=(f160.body).getD .skip
def yg8:Env:=zku TT [(82,yL),(202,yxL)] []
theorem yUE:FrOk prog ⟨yg8,91,fun _=>none⟩ ycL:=zky yf yg ⟨yT,yJv,trivial⟩
def yHB:Nat→Option Seg:=fun _=>none
def ydE:Shape:=⟨[(1,false,[.ptr 0 0]),(3,false,[.int .i64]),(4,false,[.int .i64])],[(0,[.br tL,.br tW,.bool,.br tI])],[]⟩
def yiM:Shape:=⟨[(1,false,[.ptr 0 0]),(3,false,[.int .i64]),(4,false,[.ci .i64 0])],[(0,[.br tL,.br tW,.bool,.br tI])],[]⟩
def yiz:Shape:=⟨[(1,false,[.ptr 0 0]),(3,false,[.int .i64])],[(0,[.br tL,.br tW,.bool,.br tI])],[]⟩
def yi3:Shape:=⟨[(2,false,[.bool])],[],[]⟩
abbrev yso (v0 v1:Int) (v2:dM):(ydE).X:=((((),()),(v0,()),(v1,()),()),((v2.1,v2.2.1,v2.2.2.1,v2.2.2.2,()),()),())
abbrev yRv (v0:Int) (v1:dM):(yiM).X:=((((),()),(v0,()),((),()),()),((v1.1,v1.2.1,v1.2.2.1,v1.2.2.2,()),()),())
abbrev yRm (v0:Int) (v1:dM):(yiz).X:=((((),()),(v0,()),()),((v1.1,v1.2.1,v1.2.2.1,v1.2.2.2,()),()),())
abbrev yRH (v0:Bool):(yi3).X:=(((v0,()),()),(),())
def ysY (v0 v1:Int) (v2:List (List Int)) (v3:List dW) (v4:Bool) (v5:List Int):Option ((ydE).X ⊕ ((yiz).X ⊕ (yi3).X)) :=bif(ltb v1 v0)then bif(inb v1 v2.length)then let r2:=yhH (nth v2 v1 []);bif(!r2)then some (.inr (.inr (((false,()),()),(),()))) else some (.inl ((((),()),(v0,()),((i64.wrap (v1+1)),()),()),((v2,v3,v4,v5,()),()),())) else none else some (.inr (.inl ((((),()),(v0,()),()),((v2,v3,v4,v5,()),()),())))
def yea (x:(ydE).X):=ysY x.1.2.1.1 x.1.2.2.1.1 x.2.1.1.1 x.2.1.1.2.1 x.2.1.1.2.2.1 x.2.1.1.2.2.2.1
def yED (x:(yiM).X):(ydE).X:=((((),()),(x.1.2.1.1,()),(0,()),()),((x.2.1.1.1,x.2.1.1.2.1,x.2.1.1.2.2.1,x.2.1.1.2.2.2.1,()),()),())
def yF5:Code:=(zeJ ycL 64 116).getD .skip
theorem yT9:zeJ ycL 64 29=some (.block 0 (.loop yF5)):=by kernel_rfl
theorem yWV (x:(ydE).X):zhu ⟨yg8,91,yHB⟩ 0 yF5 116 ydE yiz yi3 x=yea x:=by kernel_rfl
def yES (x:(yiM).X):Nat:=18446744073709551616
def ytN (x:(yiM).X):Option ((yiz).X ⊕ (yi3).X):=zF yea (yES x) (yED x)
def yFw:Seg:=⟨yiM,yiz,yi3,ytN⟩
def ywN:Nat→Option Seg:=fun q=>bif Nat.beq q 29 then some yFw else yHB q
theorem yUF:FrOk prog ⟨yg8,91,ywN⟩ ycL:=(yUE).loop (sg:=yFw) ydE yED (by decide) yT9 yea yES (by decide) (fun _=>rfl) (fun x r _ h=>h) yWV
def ydF:Shape:=⟨[(1,false,[.ptr 0 0]),(3,false,[.int .i64]),(5,false,[.int .i64])],[(0,[.br tL,.br tW,.bool,.br tI])],[]⟩
def yiN:Shape:=⟨[(1,false,[.ptr 0 0]),(3,false,[.int .i64]),(5,false,[.ci .i64 0])],[(0,[.br tL,.br tW,.bool,.br tI])],[]⟩
def yiA:Shape:=⟨[(1,false,[.ptr 0 0]),(3,false,[.int .i64])],[(0,[.br tL,.br tW,.bool,.br tI])],[]⟩
def yi4:Shape:=⟨[(2,false,[.bool])],[],[]⟩
abbrev ysp (v0 v1:Int) (v2:dM):(ydF).X:=((((),()),(v0,()),(v1,()),()),((v2.1,v2.2.1,v2.2.2.1,v2.2.2.2,()),()),())
abbrev yRw (v0:Int) (v1:dM):(yiN).X:=((((),()),(v0,()),((),()),()),((v1.1,v1.2.1,v1.2.2.1,v1.2.2.2,()),()),())
abbrev yRn (v0:Int) (v1:dM):(yiA).X:=((((),()),(v0,()),()),((v1.1,v1.2.1,v1.2.2.1,v1.2.2.2,()),()),())
abbrev yRI (v0:Bool):(yi4).X:=(((v0,()),()),(),())
def ysZ (v0 v1:Int) (v2:List (List Int)) (v3:List dW) (v4:Bool) (v5:List Int):Option ((ydF).X ⊕ ((yiA).X ⊕ (yi4).X)) :=bif(ltb v1 (v3.length:Int))then bif(inb v1 v3.length)then let r6:=yb ((nth v3 v1 (0,[])).1) 0 (i64.wrap (v0-1));bif(!(!r6))then bif(inb v1 v3.length)then let r7:=yhH ((nth v3 v1 (0,[])).2);bif(!r7)then some (.inr (.inr (((false,()),()),(),()))) else some (.inl ((((),()),(v0,()),((i64.wrap (v1+1)),()),()),((v2,v3,v4,v5,()),()),())) else none else some (.inr (.inr (((false,()),()),(),()))) else none else some (.inr (.inl ((((),()),(v0,()),()),((v2,v3,v4,v5,()),()),())))
def yeb (x:(ydF).X):=ysZ x.1.2.1.1 x.1.2.2.1.1 x.2.1.1.1 x.2.1.1.2.1 x.2.1.1.2.2.1 x.2.1.1.2.2.2.1
def yEE (x:(yiN).X):(ydF).X:=((((),()),(x.1.2.1.1,()),(0,()),()),((x.2.1.1.1,x.2.1.1.2.1,x.2.1.1.2.2.1,x.2.1.1.2.2.2.1,()),()),())
def yF6:Code:=(zeJ ycL 64 244).getD .skip
theorem yUa:zeJ ycL 64 61=some (.block 2 (.loop yF6)):=by kernel_rfl
theorem yWW (x:(ydF).X):zhu ⟨yg8,91,ywN⟩ 2 yF6 244 ydF yiA yi4 x=yeb x:=by kernel_rfl
def yET (x:(yiN).X):Nat:=18446744073709551616
def ytO (x:(yiN).X):Option ((yiA).X ⊕ (yi4).X):=zF yeb (yET x) (yEE x)
def yFx:Seg:=⟨yiN,yiA,yi4,ytO⟩
def ywO:Nat→Option Seg:=fun q=>bif Nat.beq q 61 then some yFx else ywN q
theorem yUG:FrOk prog ⟨yg8,91,ywO⟩ ycL:=(yUF).loop (sg:=yFx) ydF yEE (by decide) yUa yeb yET (by decide) (fun _=>rfl) (fun x r _ h=>h) yWW
def yc3:Shape:=⟨[(1,false,[.ptr 0 0]),(3,false,[.int .i64]),(6,false,[.int .i64])],[(0,[.br tL,.br tW,.bool,.br tI])],[]⟩
def yhr:Shape:=⟨[(1,false,[.ptr 0 0]),(3,false,[.int .i64]),(6,false,[.ci .i64 0])],[(0,[.br tL,.br tW,.bool,.br tI])],[]⟩
def yhg:Shape:=⟨[(1,false,[.ptr 0 0]),(3,false,[.int .i64])],[(0,[.br tL,.br tW,.bool,.br tI])],[]⟩
def yhA:Shape:=⟨[(2,false,[.bool])],[],[]⟩
abbrev yqm (v0 v1:Int) (v2:dM):(yc3).X:=((((),()),(v0,()),(v1,()),()),((v2.1,v2.2.1,v2.2.2.1,v2.2.2.2,()),()),())
abbrev yOv (v0:Int) (v1:dM):(yhr).X:=((((),()),(v0,()),((),()),()),((v1.1,v1.2.1,v1.2.2.1,v1.2.2.2,()),()),())
abbrev yOo (v0:Int) (v1:dM):(yhg).X:=((((),()),(v0,()),()),((v1.1,v1.2.1,v1.2.2.1,v1.2.2.2,()),()),())
abbrev yOC (v0:Bool):(yhA).X:=(((v0,()),()),(),())
def yqW (v0 v1:Int) (v2:List (List Int)) (v3:List dW) (v4:Bool) (v5:List Int):Option ((yc3).X ⊕ ((yhg).X ⊕ (yhA).X)) :=bif(ltb v1 (v5.length:Int))then bif(inb v1 v5.length)then let r10:=yb (nth v5 v1 0) 0 (i64.wrap (v0-1));bif(!(!r10))then bif(ltb 0 v1)then bif(inb (i64.wrap (v1-1)) v5.length)then bif(inb v1 v5.length)then bif(leb (nth v5 v1 0) (nth v5 (i64.wrap (v1-1)) 0))then some (.inr (.inr (((false,()),()),(),()))) else some (.inl ((((),()),(v0,()),((i64.wrap (v1+1)),()),()),((v2,v3,v4,v5,()),()),())) else none else none else some (.inl ((((),()),(v0,()),((i64.wrap (v1+1)),()),()),((v2,v3,v4,v5,()),()),())) else some (.inr (.inr (((false,()),()),(),()))) else none else some (.inr (.inl ((((),()),(v0,()),()),((v2,v3,v4,v5,()),()),())))
def ydp (x:(yc3).X):=yqW x.1.2.1.1 x.1.2.2.1.1 x.2.1.1.1 x.2.1.1.2.1 x.2.1.1.2.2.1 x.2.1.1.2.2.2.1
def yB3 (x:(yhr).X):(yc3).X:=((((),()),(x.1.2.1.1,()),(0,()),()),((x.2.1.1.1,x.2.1.1.2.1,x.2.1.1.2.2.1,x.2.1.1.2.2.2.1,()),()),())
def yD4:Code:=(zeJ ycL 64 500).getD .skip
theorem yQa:zeJ ycL 64 125=some (.block 4 (.loop yD4)):=by kernel_rfl
theorem yS6 (x:(yc3).X):zhu ⟨yg8,91,ywO⟩ 4 yD4 500 yc3 yhg yhA x=ydp x:=by kernel_rfl
def yCe (x:(yhr).X):Nat:=18446744073709551616
def yr2 (x:(yhr).X):Option ((yhg).X ⊕ (yhA).X):=zF ydp (yCe x) (yB3 x)
def yCD:Seg:=⟨yhr,yhg,yhA,yr2⟩
def yXw:Nat→Option Seg:=fun q=>bif Nat.beq q 125 then some yCD else ywO q
theorem yUH:FrOk prog ⟨yg8,91,yXw⟩ ycL:=(yUG).loop (sg:=yCD) yc3 yB3 (by decide) yQa ydp yCe (by decide) (fun _=>rfl) (fun x r _ h=>h) yS6
abbrev yt5:List Par:= [.rd tM]
abbrev yDM:List OT:= [⟨false,tB,.fz⟩]
def yyc (a0:dM):Option (zaY yDM×zak yt5) :=zkr (ytN ((((),()),((a0.1.length:Int),()),((),()),()),((a0.1,a0.2.1,a0.2.2.1,a0.2.2.2,()),()),())) (fun y2 =>zkr (ytO ((((),()),(y2.1.2.1.1,()),((),()),()),((y2.2.1.1.1,y2.2.1.1.2.1,y2.2.1.1.2.2.1,y2.2.1.1.2.2.2.1,()),()),())) (fun y7 =>zkr (yr2 ((((),()),(y7.1.2.1.1,()),((),()),()),((y7.2.1.1.1,y7.2.1.1.2.1,y7.2.1.1.2.2.1,y7.2.1.1.2.2.2.1,()),()),())) (fun y10 =>let r12:=yb y10.1.2.1.1 1 20;bif r12 then some (((leb (y10.2.1.1.2.1.length:Int) 60),()),()) else some ((false,()),())) (fun y10 =>some ((y10.1.1.1,()),()))) (fun y7 =>some ((y7.1.1.1,()),()))) (fun y2 =>some ((y2.1.1.1,()),()))
theorem yYV:ConOk prog 160 ⟨yt5,yDM,fun x=>yyc x.1⟩:=zkG (yUH) func160 ntmps160.symm fun x=>by kernel_rfl
def yaS (a0:dM):Bool:=yv a0
theorem y1u (a0:dM) (hk:zjw yt5 (a0,())):yyc a0=(fun n=>some ((n,()),())) (yaS a0):=by
 have hb1:a0.1.length*24≤2^47:=hk.1.1.1;have hb2:a0.2.1.length*32≤2^47:=hk.1.2.1.1;have hb3:a0.2.2.2.length*8≤2^47:=hk.1.2.2.2.1
 have h1:ytN (yRv a0.1.length a0)=some (bif a0.1.all yaz then .inl (yRm a0.1.length a0)else .inr (yRH false)) :=
  zj7 (step:=yea) a0.1 [] (fun i=>yso a0.1.length i a0) yaz _ _ (fun i hi=>by
   simp only[yea,yso,ysY,zkw (show(i:Int)<a0.1.length by omega),cond_true,wq ((i:Int)+1) (by omega) (by omega),Int.natCast_add,Int.natCast_one,Int.toNat_natCast,zkP hi,zkQ,yHu]
   cases yaz (a0.1.getD i [])<;>rfl) (by simp only[yea,yso,ysY,zk1 (Int.le_refl _),cond_false]) _ (by show _<18446744073709551616; omega)
 have h2:ytO (yRw a0.1.length a0)=some (bif a0.2.1.all (ys6 a0.1.length)then .inl (yRn a0.1.length a0)else .inr (yRI false)) :=
  zj7 (step:=yeb) a0.2.1 (0,[]) (fun i=>ysp a0.1.length i a0) (ys6 a0.1.length) _ _ (fun i hi=>by
   simp only[yeb,ysp,ysZ,zkw (show(i:Int)<a0.2.1.length by omega),cond_true,wq ((i:Int)+1) (by omega) (by omega),Int.natCast_add,Int.natCast_one,Int.toNat_natCast,zkP hi,zkQ,yHu,ykt (show a0.1.length≤1152921504606846976 by omega),ys6]
   cases inb (a0.2.1.getD i (0,[])).1 a0.1.length<;>cases yaz (a0.2.1.getD i (0,[])).2<;>rfl) (by simp only[yeb,ysp,ysZ,zk1 (Int.le_refl _),cond_false]) _ (by show _<18446744073709551616; omega)
 have h3:yr2 (yOv a0.1.length a0)=some (bif(List.range a0.2.2.2.length).any (yFZ a0.1.length a0.2.2.2)then .inr (yOC false)else .inl (yOo a0.1.length a0)) :=
  zjh (step:=ydp) (fun i=>yqm a0.1.length i a0) a0.2.2.2.length (yFZ a0.1.length a0.2.2.2) _ _ (fun i hi=>by
   simp only[ydp,yqm,yqW,zkw (show(i:Int)<a0.2.2.2.length by omega),cond_true,wq ((i:Int)+1) (by omega) (by omega),Int.natCast_add,Int.natCast_one,Int.toNat_natCast,zkP hi,zkQ,ykt (show a0.1.length≤1152921504606846976 by omega),yFZ];rcases Nat.eq_zero_or_pos i with rfl | h0
   ·cases inb (a0.2.2.2.getD 0 0) a0.1.length<;>rfl
   ·rw[show i64.wrap ((i:Int)-1)=((i-1:Nat):Int)by rw[wr (by omega) (by omega)]; omega,zkP (show i-1<a0.2.2.2.length by omega),zkQ,zkw (show(0:Int)<i by omega),decide_eq_true h0]
    cases inb (a0.2.2.2.getD i 0) a0.1.length<;>cases leb (a0.2.2.2.getD i 0) (a0.2.2.2.getD (i-1) 0)<;>rfl) (by simp only[ydp,yqm,yqW,zk1 (Int.le_refl _),cond_false]) _ (by show _<18446744073709551616; omega)
 unfold yyc yaS yv;rw[h1];cases a0.1.all yaz
 ·rfl
 simp only[cond_true,zkL,h2];cases a0.2.1.all (ys6 a0.1.length)
 ·rfl
 simp only[cond_true,zkL,h3,yZF,ybU];cases ypq a0.1.length a0.2.2.2
 ·rfl
 simp only[Bool.not_true,cond_false,zkL];cases leb 1 (a0.1.length:Int)<;>cases leb (a0.1.length:Int) 20<;>rfl
def ygX:Con:=⟨yt5,yDM,fun x=>(fun n=>some ((n,()),())) (yaS x.1)⟩
theorem ymb:ConOk prog 160 ygX:=(yYV).mono (fun x r hk h=>(y1u x.1 hk).trans h)
def yk4:Code:=(f245.body).getD .skip
def yrX:Env:=zku TT [] []
theorem yJU:FrOk prog ⟨yrX,28,fun _=>none⟩ yk4:=zky yf yg trivial
def yyC:Nat→Option Seg:=fun _=>none
def ybo:Shape:=⟨[(0,false,[.br tI]),(1,false,[.int .i64]),(5,false,[.at 800000000]),(6,false,[.int .i64])],[],[(800000000,tI,.fz)]⟩
def yeE:Shape:=⟨[(0,false,[.br tI]),(1,false,[.int .i64]),(5,false,[.at 800000000]),(6,false,[.ci .i64 0])],[],[(800000000,tI,.fz)]⟩
def yex:Shape:=⟨[(5,false,[.at 800000000])],[],[(800000000,tI,.fz)]⟩
def yhZ:Shape:=⟨[],[],[]⟩
abbrev ylv (v0:List Int) (v1 v2:Int) (v3:List Int):(ybo).X:=(((v0,()),(v1,()),((),()),(v2,()),()),(),(v3,()))
abbrev yI1 (v0:List Int) (v1:Int) (v2:List Int):(yeE).X:=(((v0,()),(v1,()),((),()),((),()),()),(),(v2,()))
abbrev yIV (v0:List Int):(yex).X:=((((),()),()),(),(v0,()))
def ylJ (v0:List Int) (v1 v2:Int) (v3:List Int):Option ((ybo).X ⊕ ((yex).X ⊕ (yhZ).X)) :=bif(ltb v2 (v0.length:Int))then bif(inb v2 v0.length)then bif((nth v0 v2 0) !=v1)then bif(inb v2 v0.length)then bif(zkj v3.length ([(nth v0 v2 0)]:List Int).length 8)then some (.inl (((v0,()),(v1,()),((),()),((i64.wrap (v2+1)),()),()),(),((v3++([(nth v0 v2 0)]:List Int)),()))) else none else none else some (.inl (((v0,()),(v1,()),((),()),((i64.wrap (v2+1)),()),()),(),(v3,()))) else none else some (.inr (.inl ((((),()),()),(),(v3,()))))
def ybF (x:(ybo).X):=ylJ x.1.1.1 x.1.2.1.1 x.1.2.2.2.1.1 x.2.2.1
def yu3 (x:(yeE).X):(ybo).X:=(((x.1.1.1,()),(x.1.2.1.1,()),((),()),(0,()),()),(),(x.2.2.1,()))
def yv9:Code:=(zeJ yk4 64 116).getD .skip
theorem yJK:zeJ yk4 64 29=some (.block 0 (.loop yv9)):=by kernel_rfl
theorem yKt (x:(ybo).X):zhu ⟨yrX,28,yyC⟩ 0 yv9 116 ybo yex yhZ x=ybF x:=by kernel_rfl
def yvc (x:(yeE).X):Nat:=18446744073709551616
def ymp (x:(yeE).X):Option ((yex).X ⊕ (yhZ).X):=zF ybF (yvc x) (yu3 x)
def yvX:Seg:=⟨yeE,yex,yhZ,ymp⟩
def yKy:Nat→Option Seg:=fun q=>bif Nat.beq q 29 then some yvX else yyC q
theorem yJV:FrOk prog ⟨yrX,28,yKy⟩ yk4:=(yJU).loop (sg:=yvX) ybo yu3 (by decide) yJK ybF yvc (by decide) (fun _=>rfl) (fun x r _ h=>h) yKt
abbrev yk9:List Par:= [.rd tL,.rd tI]
abbrev ysb:List OT:= [⟨false,tL,(.ow .fz)⟩]
def yoy (a0:List Int) (a1:Int):Option (zaY ysb×zak yk9) :=zkr (ymp (((a0,()),(a1,()),((),()),((),()),()),(),(([]:List Int),()))) (fun y0 =>some ((y0.2.2.1,()),())) (fun y0 =>none)
theorem yMi:ConOk prog 245 ⟨yk9,ysb,fun x=>yoy x.1 x.2.1⟩:=zkG (yJV) func245 ntmps245.symm fun x=>by kernel_rfl
def yhK (a0:List Int) (a1:Int):List Int:=yJb a0 a1
theorem yKU {α:Type} (p:α→Bool): ∀(l:List α) (s:List α),l.foldl (fun s x=>bif p x then s++ [x]else s) s=s++l.filter p
 | [],s=>by simp
 | x::l,s=>by
  rw[List.foldl_cons,yKU p l,List.filter_cons];cases p x<;>simp
theorem yOJ (a0:List Int) (a1:Int) (hk:zjw yk9 (a0,a1,())):yoy a0 a1=(fun n=>some ((n,()),())) (yhK a0 a1):=by
 have hb:a0.length*8≤2^47:=hk.1.1
 have h1:=zkv (step:=ybF) a0 0 (fun i s=>ylv a0 a1 i s) (fun s x=>bif x !=a1 then s++ [x]else s) (fun i s=>s.length≤i) (fun s=> .inl (yIV s)) (fun i s hi hs=>by
   constructor
   ·simp only[ybF,ylv,ylJ,zkw (show(i:Int)<a0.length by omega),cond_true,wq ((i:Int)+1) (by omega) (by omega),Int.natCast_add,Int.natCast_one,Int.toNat_natCast,zkP hi,zkQ]
    rw[zkD.2 (show(s.length+ [a0.getD i 0].length)*8≤140737488355328 by simp only[List.length_cons,List.length_nil]; omega)];cases(a0.getD i 0 !=a1)<;>rfl
   ·cases(a0.getD i 0 !=a1)
    ·show s.length≤_; omega
    ·simp only[cond_true,List.length_append,List.length_cons,List.length_nil]; omega) (fun s _=>by simp only[ybF,ylv,ylJ,zk1 (Int.le_refl _),cond_false]) [] (Nat.le_refl _) 18446744073709551616 (by omega)
 unfold yoy yhK yJb;rw[show ymp (yI1 a0 a1 [])=_ from h1,yKU]; rfl
def yyR:Con:=⟨yk9,ysb,fun x=>(fun n=>some ((n,()),())) (yhK x.1 x.2.1)⟩
theorem yPc:ConOk prog 245 yyR:=(yMi).mono (fun x r hk h=>(yOJ x.1 x.2.1 hk).trans h)
def yTx:Code:=(f225.body).getD .skip
def yT0:Env:=zku TT [(76,yi9),(82,yL),(160,ygX),(202,yxL),(245,yyR)] [(16832,(.pr .fz .fz))]
theorem yLq:FrOk prog ⟨yT0,55,fun _=>none⟩ yTx:=zky yf yg ⟨ypI,yT,ymb,yJv,yPc,trivial⟩
abbrev ynd:List Par:= [.rd tM,.rd tI,.rd tL]
abbrev yux:List OT:= [⟨false,tM,(.pr (.ow .fz) (.pr (.ow (.pr .fz .fz)) (.pr .fz (.ow .fz))))⟩,⟨false,tB,.fz⟩]
def yqO (a0:dM) (a1:Int) (a2:List Int):Option (zaY yux×zak ynd) :=let r1:=yaP a0;let r2:=yaS a0;bif(!(!r2))then bif(!a0.2.2.1)then let r3:=yb a1 0 (i64.wrap ((a0.1.length:Int)-1));bif(!(!r3))then let r4:=yhH a2;bif(!(!r4))then bif(leb 60 (a0.2.1.length:Int))then some ((r1,false,()),()) else bif(zkj ([]:List Int).length a2.length 8)then bif(zkj r1.2.1.length ([(a1,(([]:List Int)++a2))]:List dW).length 32)then let r5:=yhK a0.2.2.2 a1;some (((r1.1,(r1.2.1++([(a1,(([]:List Int)++a2))]:List dW)),r1.2.2.1,r5),true,()),()) else none else none else some ((r1,false,()),()) else some ((r1,false,()),()) else some ((r1,false,()),()) else some ((r1,false,()),())
theorem yO6:ConOk prog 225 ⟨ynd,yux,fun x=>yqO x.1 x.2.1 x.2.2.1⟩:=zkG (yLq) func225 ntmps225.symm fun x=>by kernel_rfl
def yjo (a0:dM) (a1:Int) (a2:List Int):dM×Bool:=yZ a0 a1 a2
theorem yR5 (a0:dM) (a1:Int) (a2:List Int) (hk:zjw ynd (a0,a1,a2,())):yqO a0 a1 a2=(fun n=>some ((n.1,n.2,()),())) (yjo a0 a1 a2):=by
 have hb1:a0.1.length*24≤2^47:=hk.1.1.1;have hb2:a2.length*8≤2^47:=hk.2.2.1.1;unfold yqO yjo yZ ybp;simp only[yaP,yaS,ykt (show a0.1.length≤1152921504606846976 by omega),yHu,yhK,List.nil_append];cases yv a0
 ·rfl
 cases a0.2.2.1
 ·cases inb a1 a0.1.length
  ·rfl
  cases yaz a2
  ·rfl
  by_cases h:(a0.2.1.length:Int)<60
  ·rw[zkw h,zkZ h,zkD.2 (show(([]:List Int).length+a2.length)*8≤140737488355328 by rw[List.length_nil]; omega),zkD.2 (show(a0.2.1.length+ [(a1,a2)].length)*32≤140737488355328 by simp only[List.length_cons,List.length_nil]; omega)]; rfl
  ·rw[zk1 (by omega),zk0 (by omega)]; rfl
 ·rfl
def yBV:Con:=⟨ynd,yux,fun x=>(fun n=>some ((n.1,n.2,()),())) (yjo x.1 x.2.1 x.2.2.1)⟩
theorem ySU:ConOk prog 225 yBV:=(yO6).mono (fun x r hk h=>(yR5 x.1 x.2.1 x.2.2.1 hk).trans h)
def y3c:Code:=(f228.body).getD .skip
def y3e:Env:=zku TT [] []
theorem yX4:FrOk prog ⟨y3e,31,fun _=>none⟩ y3c:=zky yf yg trivial
abbrev yHd:List Par:= [.pt tA (.pr .fz (.pr (.pr .fz .fz) (.pr (.ow (.pr (.ow .fz) (.pr (.ow (.pr .fz .fz)) (.pr .fz (.ow .fz))))) (.pr .fz (.pr .fz (.pr .fz (.pr .fz (.pr .fz (.pr (.ow (.pr .fz .fz)) (.pr .fz (.pr .fz .fz)))))))))))]
abbrev yHg:List OT:= [⟨false,tB,.fz⟩]
def yJz (a0:dA):Option (zaY yHg×zak yHd) :=bif a0.2.2.2.2.2.2.2.2.2.2.1 then some ((false,()),(a0,())) else bif(a0.2.2.2.2.2.2.2.2.2.1==0)then some ((false,()),((a0.1,a0.2.1,a0.2.2.1,a0.2.2.2.1,a0.2.2.2.2.1,a0.2.2.2.2.2.1,a0.2.2.2.2.2.2.1,a0.2.2.2.2.2.2.2.1,a0.2.2.2.2.2.2.2.2.1,(-1),true,a0.2.2.2.2.2.2.2.2.2.2.2),())) else bif(ltb 0 a0.2.2.2.2.2.2.2.2.2.1)then some ((true,()),((a0.1,a0.2.1,a0.2.2.1,a0.2.2.2.1,a0.2.2.2.2.1,a0.2.2.2.2.2.1,a0.2.2.2.2.2.2.1,a0.2.2.2.2.2.2.2.1,a0.2.2.2.2.2.2.2.2.1,(i64.wrap (a0.2.2.2.2.2.2.2.2.2.1-1)),a0.2.2.2.2.2.2.2.2.2.2),())) else some ((true,()),(a0,()))
theorem y1H:ConOk prog 228 ⟨yHd,yHg,fun x=>yJz x.1⟩:=zkG (yX4) func228 ntmps228.symm fun x=>by kernel_rfl
def yrf (a0:dA):Bool×dA :=bif a0.2.2.2.2.2.2.2.2.2.2.1 then (false,a0) else bif(a0.2.2.2.2.2.2.2.2.2.1==0)then (false,(a0.1,a0.2.1,a0.2.2.1,a0.2.2.2.1,a0.2.2.2.2.1,a0.2.2.2.2.2.1,a0.2.2.2.2.2.2.1,a0.2.2.2.2.2.2.2.1,a0.2.2.2.2.2.2.2.2.1,(-1),true,a0.2.2.2.2.2.2.2.2.2.2.2)) else bif(ltb 0 a0.2.2.2.2.2.2.2.2.2.1)then (true,(a0.1,a0.2.1,a0.2.2.1,a0.2.2.2.1,a0.2.2.2.2.1,a0.2.2.2.2.2.1,a0.2.2.2.2.2.2.1,a0.2.2.2.2.2.2.2.1,a0.2.2.2.2.2.2.2.2.1,(i64.wrap (a0.2.2.2.2.2.2.2.2.2.1-1)),a0.2.2.2.2.2.2.2.2.2.2)) else (true,a0)
def yA1:Con:=⟨yHd,yHg,fun x=>(fun n=>some ((n.1,()),(n.2,()))) (yrf x.1)⟩
theorem y2R (a0:dA):yJz a0=(fun n=>some ((n.1,()),(n.2,()))) (yrf a0):=zkT (p:=fun(n:Bool×dA)=>((n.1,()),(n.2,()))) (zkE (p:=fun(n:Bool×dA)=>((n.1,()),(n.2,()))) rfl (zkE (p:=fun(n:Bool×dA)=>((n.1,()),(n.2,()))) rfl (zkE (p:=fun(n:Bool×dA)=>((n.1,()),(n.2,()))) rfl rfl)))
theorem yMn:ConOk prog 228 yA1:=(y1H).mono (fun x r _ h=>(y2R x.1).trans h)
theorem yW7 (a:dA):yrf a=opA a:=by kernel_rfl
def y2d:Code:=(f206.body).getD .skip
def y2o:Env:=zku TT [(225,yBV),(228,yA1)] []
theorem yUS:FrOk prog ⟨y2o,43,fun _=>none⟩ y2d:=zky yf yg ⟨ySU,yMn,trivial⟩
abbrev ynT:List Par:= [.pt tA (.pr .fz (.pr (.pr .fz .fz) (.pr (.ow (.pr (.ow .fz) (.pr (.ow (.pr .fz .fz)) (.pr .fz (.ow .fz))))) (.pr .fz (.pr .fz (.pr .fz (.pr .fz (.pr .fz (.pr (.ow (.pr .fz .fz)) (.pr .fz (.pr .fz .fz))))))))))),.rd tI,.rd tI,.rd tL]
abbrev yuz:List OT:= []
def yyf (a0:dA) (a1 a2:Int) (a3:List Int):Option (zaY yuz×zak ynT) :=bif(inb a1 a0.2.2.1.length)then bif(!((((nth a0.2.2.1 a1 ([],[],false,[])).2).2).1))then let r1:=yrf a0;bif(!r1.1)then some ((),(r1.2,())) else bif(inb a1 r1.2.2.2.1.length)then let r2:=yjo ((nth r1.2.2.2.1 a1 ([],[],false,[])).1,((nth r1.2.2.2.1 a1 ([],[],false,[])).2).1,(((nth r1.2.2.2.1 a1 ([],[],false,[])).2).2)) a2 a3;bif(inb a1 r1.2.2.2.1.length)then some ((),((r1.2.1,r1.2.2.1,(r1.2.2.2.1.set (a1).toNat r2.1),r1.2.2.2.2),())) else none else none else some ((),(a0,())) else none
theorem yY3:ConOk prog 206 ⟨ynT,yuz,fun x=>yyf x.1 x.2.1 x.2.2.1 x.2.2.2.1⟩:=zkG (yUS) func206 ntmps206.symm fun x=>by kernel_rfl
def yoq (a0:dA) (a1 a2:Int) (a3:List Int):dA:=yby a0 a1 a2 a3
def yFg (a0:dA) (a1 a2:Int) (a3:List Int):Bool:=inb a1 a0.2.2.1.length
theorem y1A (a0:dA) (a1 a2:Int) (a3:List Int) (hk:zjw ynT (a0,a1,a2,a3,())) (hq:yFg a0 a1 a2 a3=true):yyf a0 a1 a2 a3=(fun n=>some ((),(n,()))) (yoq a0 a1 a2 a3):=by
 have hq:inb a1 a0.2.2.1.length=true:=hq;unfold yyf yoq yby ybx;simp only[yW7,yaT,hq,zkV,yjo];cases(nth a0.2.2.1 a1 yc).2.2.1<;>cases(opA a0).1<;>rfl
def yfC (a0:dA) (a1 a2:Int) (a3:List Int):Option (zaY yuz×zak ynT):=bif yFg a0 a1 a2 a3 then(fun n=>some ((),(n,()))) (yoq a0 a1 a2 a3)else none
theorem ymc (a0:dA) (a1 a2:Int) (a3:List Int) (h:yFg a0 a1 a2 a3=true):yfC a0 a1 a2 a3=(fun n=>some ((),(n,()))) (yoq a0 a1 a2 a3):=by unfold yfC; rw[h]; rfl
def yks:Con:=⟨ynT,yuz,fun x=>yfC x.1 x.2.1 x.2.2.1 x.2.2.2.1⟩
theorem yrS:ConOk prog 206 yks:=(yY3).mono (fun x r hk h=>zkW h (fun hq=>y1A x.1 x.2.1 x.2.2.1 x.2.2.2.1 hk hq))
def ymU:Code:=(f224.body).getD .skip
def ytF:Env:=zku TT [(76,yi9),(160,ygX)] [(32768,(.pr .fz .fz))]
theorem yLj:FrOk prog ⟨ytF,40,fun _=>none⟩ ymU:=zky yf yg ⟨ypI,ymb,trivial⟩
def yBn:Nat→Option Seg:=fun _=>none
def ybN:Shape:=⟨[(2,false,[.ptr 64 0]),(3,false,[.ptr 4224 0]),(4,false,[.int .i64])],[(64,[.nil,.nil,.bool,.nil]),(4224,[.at 800000000,.at 800000001,.bool,.at 800000002])],[(800000000,tL,.fz),(800000001,tW,(.pr .fz .fz)),(800000002,tI,.fz)]⟩
def yfr:Shape:=⟨[(2,false,[.ptr 64 0]),(3,false,[.ptr 4224 0]),(4,false,[.ci .i64 0])],[(64,[.nil,.nil,.bool,.nil]),(4224,[.at 800000000,.at 800000001,.bool,.at 800000002])],[(800000000,tL,.fz),(800000001,tW,(.pr .fz .fz)),(800000002,tI,.fz)]⟩
def yfi:Shape:=⟨[(2,false,[.ptr 64 0]),(3,false,[.ptr 4224 0])],[(64,[.nil,.nil,.bool,.nil]),(4224,[.at 800000000,.at 800000001,.bool,.at 800000002])],[(800000000,tL,.fz),(800000001,tW,(.pr .fz .fz)),(800000002,tI,.fz)]⟩
def yi2:Shape:=⟨[],[],[]⟩
abbrev ymz (v0:Int) (v1 v2:dM):(ybN).X:=((((),()),((),()),(v0,()),()),(((),(),v1.2.2.1,(),()),((),(),v2.2.2.1,(),()),()),(v2.1,v2.2.1,v2.2.2.2,()))
abbrev yJ6 (v0 v1:dM):(yfr).X:=((((),()),((),()),((),()),()),(((),(),v0.2.2.1,(),()),((),(),v1.2.2.1,(),()),()),(v1.1,v1.2.1,v1.2.2.2,()))
abbrev ywy (v0 v1:dM):(yfi).X:=((((),()),((),()),()),(((),(),v0.2.2.1,(),()),((),(),v1.2.2.1,(),()),()),(v1.1,v1.2.1,v1.2.2.2,()))
def ymO (v0:Int) (v1 v2:Bool) (v3:List (List Int)) (v4:List dW) (v5:List Int):Option ((ybN).X ⊕ ((yfi).X ⊕ (yi2).X)) :=bif(ltb v0 (v4.length:Int))then bif(inb v0 v4.length)then bif(inb v0 v4.length)then bif(inb ((nth v4 v0 (0,[])).1) v3.length)then let r4:=(v3.set ((nth v4 v0 (0,[])).1).toNat ((nth v4 v0 (0,[])).2));some (.inl ((((),()),((),()),((i64.wrap (v0+1)),()),()),(((),(),v1,(),()),((),(),v2,(),()),()),(r4,v4,v5,()))) else none else none else none else some (.inr (.inl ((((),()),((),()),()),(((),(),v1,(),()),((),(),v2,(),()),()),(v3,v4,v5,()))))
def yb6 (x:(ybN).X):=ymO x.1.2.2.1.1 x.2.1.1.2.2.1 x.2.1.2.1.2.2.1 x.2.2.1 x.2.2.2.1 x.2.2.2.2.1
def ywk (x:(yfr).X):(ybN).X:=((((),()),((),()),(0,()),()),(((),(),x.2.1.1.2.2.1,(),()),((),(),x.2.1.2.1.2.2.1,(),()),()),(x.2.2.1,x.2.2.2.1,x.2.2.2.2.1,()))
def yyM:Code:=(zeJ ymU 64 244).getD .skip
theorem yKK:zeJ ymU 64 61=some (.block 0 (.loop yyM)):=by kernel_rfl
theorem yMz (x:(ybN).X):zhu ⟨ytF,40,yBn⟩ 0 yyM 244 ybN yfi yi2 x=yb6 x:=by kernel_rfl
def ywt (x:(yfr).X):Nat:=18446744073709551616
def ynR (x:(yfr).X):Option ((yfi).X ⊕ (yi2).X):=zF yb6 (ywt x) (ywk x)
def ywJ:Seg:=⟨yfr,yfi,yi2,ynR⟩
def yNb:Nat→Option Seg:=fun q=>bif Nat.beq q 61 then some ywJ else yBn q
theorem yLk:FrOk prog ⟨ytF,40,yNb⟩ ymU:=(yLj).loop (sg:=ywJ) ybN ywk (by decide) yKK yb6 ywt (by decide) (fun _=>rfl) (fun x r _ h=>h) yMz
abbrev ym9:List Par:= [.rd tM]
abbrev yus:List OT:= [⟨false,tM,(.pr (.ow .fz) (.pr (.ow (.pr .fz .fz)) (.pr .fz (.ow .fz))))⟩]
def yqK (a0:dM):Option (zaY yus×zak ym9) :=let r1:=yaP a0;let r2:=yaS a0;bif(!(!r2))then bif a0.2.2.1 then some ((r1,()),()) else zkr (ynR ((((),()),((),()),((),()),()),(((),(),false,(),()),((),(),r1.2.2.1,(),()),()),(r1.1,r1.2.1,r1.2.2.2,()))) (fun y4 =>some (((y4.2.2.1,([]:List dW),y4.2.1.2.1.2.2.1,y4.2.2.2.2.1),()),())) (fun y4 =>none) else some ((r1,()),())
theorem yO1:ConOk prog 224 ⟨ym9,yus,fun x=>yqK x.1⟩:=zkG (yLk) func224 ntmps224.symm fun x=>by kernel_rfl
def yjm (a0:dM):dM:=yE a0
theorem yR0 (a0:dM) (hk:zjw ym9 (a0,())):yqK a0=(fun n=>some ((n,()),())) (yjm a0):=by
 have hb2:a0.2.1.length*32≤2^47:=hk.1.2.1.1;unfold yqK yjm yE;simp only[yaP,yaS];cases hm:yv a0
 ·rfl
 have h1:ynR (yJ6 yc a0)=some (.inl (ywy yc (ygY (fun _=>true) a0.2.1 a0.1,a0.2))) :=
  zkB (step:=yb6) a0.2.1.length (fun i s=>ymz i yc (s,a0.2)) (yfw (fun _=>true) a0.2.1) (fun i s=>s.length=a0.1.length) (fun s=> .inl (ywy yc (s,a0.2))) (fun i s hi hs=>by
   have hw:=(yRh hm hi).1;refine⟨?_,yvg.trans hs⟩
   simp only[yb6,ymz,ymO,zkw (show(i:Int)<a0.2.1.length by omega),cond_true,wq ((i:Int)+1) (by omega) (by omega),Int.natCast_add,Int.natCast_one,Int.toNat_natCast,zkP hi,hs,hw,yfw]) (fun s hs=>by simp only[yb6,ymz,ymO,zk1 (Int.le_refl _),cond_false]) a0.1 rfl _ (by show _<18446744073709551616; omega)
 rw[h1];cases hf:a0.2.2.1
 ·exact congrArg (fun z=>some (((ygY (fun _=>true) a0.2.1 a0.1,([]:List dW),z,a0.2.2.2),()),())) hf
 ·rfl
def yBS:Con:=⟨ym9,yus,fun x=>(fun n=>some ((n,()),())) (yjm x.1)⟩
theorem ySR:ConOk prog 224 yBS:=(yO1).mono (fun x r hk h=>(yR0 x.1 hk).trans h)
def yrr:Code:=(f208.body).getD .skip
def yz4:Env:=zku TT [(224,yBS),(228,yA1)] []
theorem yRd:FrOk prog ⟨yz4,39,fun _=>none⟩ yrr:=zky yf yg ⟨ySR,yMn,trivial⟩
def yFW:Nat→Option Seg:=fun _=>none
def ydK:Shape:=⟨[(0,false,[.ptr 1000000000 0]),(2,false,[.int .i64])],[(1000000000,[.int .i64,.int .i64,.int .i64,.at 800000000,.int .i64,.int .i64,.int .i64,.int .i64,.int .i64,.at 800000001,.int .i64,.bool,.bool])],[(800000000,tM,(.pr (.ow .fz) (.pr (.ow (.pr .fz .fz)) (.pr .fz (.ow .fz))))),(800000001,tW,(.pr .fz .fz))]⟩
def yiS:Shape:=⟨[(0,false,[.ptr 1000000000 0]),(2,false,[.ci .i64 0])],[(1000000000,[.int .i64,.int .i64,.int .i64,.at 800000000,.int .i64,.int .i64,.int .i64,.int .i64,.int .i64,.at 800000001,.int .i64,.bool,.bool])],[(800000000,tM,(.pr (.ow .fz) (.pr (.ow (.pr .fz .fz)) (.pr .fz (.ow .fz))))),(800000001,tW,(.pr .fz .fz))]⟩
def yiF:Shape:=⟨[],[(1000000000,[.int .i64,.int .i64,.int .i64,.at 800000000,.int .i64,.int .i64,.int .i64,.int .i64,.int .i64,.at 800000001,.int .i64,.bool,.bool])],[(800000000,tM,(.pr (.ow .fz) (.pr (.ow (.pr .fz .fz)) (.pr .fz (.ow .fz))))),(800000001,tW,(.pr .fz .fz))]⟩
def ynp:Shape:=⟨[],[],[]⟩
abbrev ysu (v0:Int) (v1:dA):(ydK).X:=((((),()),(v0,()),()),((v1.1,v1.2.1.1,v1.2.1.2,(),v1.2.2.2.1,v1.2.2.2.2.1,v1.2.2.2.2.2.1,v1.2.2.2.2.2.2.1,v1.2.2.2.2.2.2.2.1,(),v1.2.2.2.2.2.2.2.2.2.1,v1.2.2.2.2.2.2.2.2.2.2.1,v1.2.2.2.2.2.2.2.2.2.2.2,()),()),(v1.2.2.1,v1.2.2.2.2.2.2.2.2.1,()))
abbrev yRB (v0:dA):(yiS).X:=((((),()),((),()),()),((v0.1,v0.2.1.1,v0.2.1.2,(),v0.2.2.2.1,v0.2.2.2.2.1,v0.2.2.2.2.2.1,v0.2.2.2.2.2.2.1,v0.2.2.2.2.2.2.2.1,(),v0.2.2.2.2.2.2.2.2.2.1,v0.2.2.2.2.2.2.2.2.2.2.1,v0.2.2.2.2.2.2.2.2.2.2.2,()),()),(v0.2.2.1,v0.2.2.2.2.2.2.2.2.1,()))
abbrev yE6 (v0:dA):(yiF).X:=((),((v0.1,v0.2.1.1,v0.2.1.2,(),v0.2.2.2.1,v0.2.2.2.2.1,v0.2.2.2.2.2.1,v0.2.2.2.2.2.2.1,v0.2.2.2.2.2.2.2.1,(),v0.2.2.2.2.2.2.2.2.2.1,v0.2.2.2.2.2.2.2.2.2.2.1,v0.2.2.2.2.2.2.2.2.2.2.2,()),()),(v0.2.2.1,v0.2.2.2.2.2.2.2.2.1,()))
def ys4 (v0 v1 v2 v3 v4 v5 v6 v7 v8 v9:Int) (v10 v11:Bool) (v12:List dM) (v13:List dW):Option ((ydK).X ⊕ ((yiF).X ⊕ (ynp).X)) :=bif(ltb v0 (v12.length:Int))then bif(inb v0 v12.length)then bif(!((((nth v12 v0 ([],[],false,[])).2).2).1))then let r3:=yrf (v1,(v2,v3),v12,v4,v5,v6,v7,v8,v13,v9,v10,v11);bif r3.1 then bif(inb v0 r3.2.2.2.1.length)then let r4:=yjm ((nth r3.2.2.2.1 v0 ([],[],false,[])).1,((nth r3.2.2.2.1 v0 ([],[],false,[])).2).1,(((nth r3.2.2.2.1 v0 ([],[],false,[])).2).2));bif(inb v0 r3.2.2.2.1.length)then some (.inl ((((),()),((i64.wrap (v0+1)),()),()),((r3.2.1,r3.2.2.1.1,r3.2.2.1.2,(),r3.2.2.2.2.1,r3.2.2.2.2.2.1,r3.2.2.2.2.2.2.1,r3.2.2.2.2.2.2.2.1,r3.2.2.2.2.2.2.2.2.1,(),r3.2.2.2.2.2.2.2.2.2.2.1,r3.2.2.2.2.2.2.2.2.2.2.2.1,r3.2.2.2.2.2.2.2.2.2.2.2.2,()),()),((r3.2.2.2.1.set (v0).toNat r4),r3.2.2.2.2.2.2.2.2.2.1,()))) else none else none else some (.inl ((((),()),((i64.wrap (v0+1)),()),()),((r3.2.1,r3.2.2.1.1,r3.2.2.1.2,(),r3.2.2.2.2.1,r3.2.2.2.2.2.1,r3.2.2.2.2.2.2.1,r3.2.2.2.2.2.2.2.1,r3.2.2.2.2.2.2.2.2.1,(),r3.2.2.2.2.2.2.2.2.2.2.1,r3.2.2.2.2.2.2.2.2.2.2.2.1,r3.2.2.2.2.2.2.2.2.2.2.2.2,()),()),(r3.2.2.2.1,r3.2.2.2.2.2.2.2.2.2.1,()))) else some (.inl ((((),()),((i64.wrap (v0+1)),()),()),((v1,v2,v3,(),v4,v5,v6,v7,v8,(),v9,v10,v11,()),()),(v12,v13,()))) else none else some (.inr (.inl ((),((v1,v2,v3,(),v4,v5,v6,v7,v8,(),v9,v10,v11,()),()),(v12,v13,()))))
def yeg (x:(ydK).X):=ys4 x.1.2.1.1 x.2.1.1.1 x.2.1.1.2.1 x.2.1.1.2.2.1 x.2.1.1.2.2.2.2.1 x.2.1.1.2.2.2.2.2.1 x.2.1.1.2.2.2.2.2.2.1 x.2.1.1.2.2.2.2.2.2.2.1 x.2.1.1.2.2.2.2.2.2.2.2.1 x.2.1.1.2.2.2.2.2.2.2.2.2.2.1 x.2.1.1.2.2.2.2.2.2.2.2.2.2.2.1 x.2.1.1.2.2.2.2.2.2.2.2.2.2.2.2.1 x.2.2.1 x.2.2.2.1
def yEK (x:(yiS).X):(ydK).X:=((((),()),(0,()),()),((x.2.1.1.1,x.2.1.1.2.1,x.2.1.1.2.2.1,(),x.2.1.1.2.2.2.2.1,x.2.1.1.2.2.2.2.2.1,x.2.1.1.2.2.2.2.2.2.1,x.2.1.1.2.2.2.2.2.2.2.1,x.2.1.1.2.2.2.2.2.2.2.2.1,(),x.2.1.1.2.2.2.2.2.2.2.2.2.2.1,x.2.1.1.2.2.2.2.2.2.2.2.2.2.2.1,x.2.1.1.2.2.2.2.2.2.2.2.2.2.2.2.1,()),()),(x.2.2.1,x.2.2.2.1,()))
def yGc:Code:=(zeJ yrr 64 12).getD .skip
theorem yUg:zeJ yrr 64 3=some (.block 0 (.loop yGc)):=by kernel_rfl
theorem yW2 (x:(ydK).X):zhu ⟨yz4,39,yFW⟩ 0 yGc 12 ydK yiF ynp x=yeg x:=by kernel_rfl
def yEZ (x:(yiS).X):Nat:=18446744073709551616
def ytU (x:(yiS).X):Option ((yiF).X ⊕ (ynp).X):=zF yeg (yEZ x) (yEK x)
def yFD:Seg:=⟨yiS,yiF,ynp,ytU⟩
def yTL:Nat→Option Seg:=fun q=>bif Nat.beq q 3 then some yFD else yFW q
theorem yRe:FrOk prog ⟨yz4,39,yTL⟩ yrr:=(yRd).loop (sg:=yFD) ydK yEK (by decide) yUg yeg yEZ (by decide) (fun _=>rfl) (fun x r _ h=>h) yW2
abbrev yrG:List Par:= [.pt tA (.pr .fz (.pr (.pr .fz .fz) (.pr (.ow (.pr (.ow .fz) (.pr (.ow (.pr .fz .fz)) (.pr .fz (.ow .fz))))) (.pr .fz (.pr .fz (.pr .fz (.pr .fz (.pr .fz (.pr (.ow (.pr .fz .fz)) (.pr .fz (.pr .fz .fz)))))))))))]
abbrev yAZ:List OT:= []
def yvQ (a0:dA):Option (zaY yAZ×zak yrG) :=zkr (ytU ((((),()),((),()),()),((a0.1,a0.2.1.1,a0.2.1.2,(),a0.2.2.2.1,a0.2.2.2.2.1,a0.2.2.2.2.2.1,a0.2.2.2.2.2.2.1,a0.2.2.2.2.2.2.2.1,(),a0.2.2.2.2.2.2.2.2.2.1,a0.2.2.2.2.2.2.2.2.2.2.1,a0.2.2.2.2.2.2.2.2.2.2.2,()),()),(a0.2.2.1,a0.2.2.2.2.2.2.2.2.1,()))) (fun y4 =>some ((),((y4.2.1.1.1,(y4.2.1.1.2.1,y4.2.1.1.2.2.1),y4.2.2.1,y4.2.1.1.2.2.2.2.1,y4.2.1.1.2.2.2.2.2.1,y4.2.1.1.2.2.2.2.2.2.1,y4.2.1.1.2.2.2.2.2.2.2.1,y4.2.1.1.2.2.2.2.2.2.2.2.1,y4.2.2.2.1,y4.2.1.1.2.2.2.2.2.2.2.2.2.2.1,y4.2.1.1.2.2.2.2.2.2.2.2.2.2.2.1,y4.2.1.1.2.2.2.2.2.2.2.2.2.2.2.2.1),()))) (fun y4 =>none)
theorem yWn:ConOk prog 208 ⟨yrG,yAZ,fun x=>yvQ x.1⟩:=zkG (yRe) func208 ntmps208.symm fun x=>by kernel_rfl
def yen (a0:dA):dA:=ye a0
theorem yYK (a0:dA) (hk:zjw yrG (a0,())):yvQ a0=(fun n=>some ((),(n,()))) (yen a0):=by
 have hb:a0.2.2.1.length*80≤2^47:=hk.1.2.2.1.1
 have h1:ytU (yRB a0)=some (.inl (yE6 (ye a0))) :=
  zkB (step:=yeg) a0.2.2.1.length (fun i s=>ysu i s) yab (fun _ s=>s.2.2.1.length=a0.2.2.1.length) (fun s=> .inl (yE6 s)) (fun i s hi hs=>⟨by
   simp only[yeg,ysu,ys4,hs,zkw (show(i:Int)<a0.2.2.1.length by omega),cond_true,wq ((i:Int)+1) (by omega) (by omega),Int.natCast_add,Int.natCast_one,Int.toNat_natCast,zkP hi,zkV,yW7,yaT,yjm,yab,ybx]
   cases(nth s.2.2.1 i yc).2.2.1<;>cases(opA s).1<;>simp only[cond_true,cond_false,Bool.not_true,Bool.not_false,yaT,Int.toNat_natCast],(ymi s i).trans hs⟩) (fun s hs=>by simp only[yeg,ysu,ys4,hs,zk1 (Int.le_refl _),cond_false]) a0 rfl _ (by show _<18446744073709551616; omega)
 unfold yvQ yen;rw[h1]; rfl
def ynA:Con:=⟨yrG,yAZ,fun x=>(fun n=>some ((),(n,()))) (yen x.1)⟩
theorem yx1:ConOk prog 208 ynA:=(yWn).mono (fun x r hk h=>(yYK x.1 hk).trans h)
def yrq:Code:=(f174.body).getD .skip
def yz3:Env:=zku TT [(144,yqh),(206,yks),(208,ynA)] []
theorem yRb:FrOk prog ⟨yz3,63,fun _=>none⟩ yrq:=zky yf yg ⟨yFe,yrS,yx1,trivial⟩
def yFV:Nat→Option Seg:=fun _=>none
def yc9:Shape:=⟨[(0,false,[.ptr 1000000000 0]),(2,false,[.int .i64])],[(1000000000,[.int .i64,.int .i64,.int .i64,.at 800000000,.int .i64,.int .i64,.int .i64,.int .i64,.int .i64,.at 800000001,.int .i64,.bool,.bool])],[(800000000,tM,(.pr (.ow .fz) (.pr (.ow (.pr .fz .fz)) (.pr .fz (.ow .fz))))),(800000001,tW,(.pr .fz .fz))]⟩
def yhx:Shape:=⟨[(0,false,[.ptr 1000000000 0]),(2,false,[.ci .i64 0])],[(1000000000,[.int .i64,.int .i64,.int .i64,.at 800000000,.int .i64,.int .i64,.int .i64,.int .i64,.int .i64,.at 800000001,.int .i64,.bool,.bool])],[(800000000,tM,(.pr (.ow .fz) (.pr (.ow (.pr .fz .fz)) (.pr .fz (.ow .fz))))),(800000001,tW,(.pr .fz .fz))]⟩
def yhm:Shape:=⟨[(0,false,[.ptr 1000000000 0])],[(1000000000,[.int .i64,.int .i64,.int .i64,.at 800000000,.int .i64,.int .i64,.int .i64,.int .i64,.int .i64,.at 800000001,.int .i64,.bool,.bool])],[(800000000,tM,(.pr (.ow .fz) (.pr (.ow (.pr .fz .fz)) (.pr .fz (.ow .fz))))),(800000001,tW,(.pr .fz .fz))]⟩
def ylk:Shape:=⟨[],[],[]⟩
abbrev yqr (v0:Int) (v1:dA):(yc9).X:=((((),()),(v0,()),()),((v1.1,v1.2.1.1,v1.2.1.2,(),v1.2.2.2.1,v1.2.2.2.2.1,v1.2.2.2.2.2.1,v1.2.2.2.2.2.2.1,v1.2.2.2.2.2.2.2.1,(),v1.2.2.2.2.2.2.2.2.2.1,v1.2.2.2.2.2.2.2.2.2.2.1,v1.2.2.2.2.2.2.2.2.2.2.2,()),()),(v1.2.2.1,v1.2.2.2.2.2.2.2.2.1,()))
abbrev yOA (v0:dA):(yhx).X:=((((),()),((),()),()),((v0.1,v0.2.1.1,v0.2.1.2,(),v0.2.2.2.1,v0.2.2.2.2.1,v0.2.2.2.2.2.1,v0.2.2.2.2.2.2.1,v0.2.2.2.2.2.2.2.1,(),v0.2.2.2.2.2.2.2.2.2.1,v0.2.2.2.2.2.2.2.2.2.2.1,v0.2.2.2.2.2.2.2.2.2.2.2,()),()),(v0.2.2.1,v0.2.2.2.2.2.2.2.2.1,()))
abbrev yCo (v0:dA):(yhm).X:=((((),()),()),((v0.1,v0.2.1.1,v0.2.1.2,(),v0.2.2.2.1,v0.2.2.2.2.1,v0.2.2.2.2.2.1,v0.2.2.2.2.2.2.1,v0.2.2.2.2.2.2.2.1,(),v0.2.2.2.2.2.2.2.2.2.1,v0.2.2.2.2.2.2.2.2.2.2.1,v0.2.2.2.2.2.2.2.2.2.2.2,()),()),(v0.2.2.1,v0.2.2.2.2.2.2.2.2.1,()))
def yq1 (v0 v1 v2 v3 v4 v5 v6 v7 v8 v9:Int) (v10 v11:Bool) (v12:List dM) (v13:List dW):Option ((yc9).X ⊕ ((yhm).X ⊕ (ylk).X)) :=bif(ltb v0 (v12.length:Int))then let r3:=ym (v1,v8,v0,v2,v3,v7,v4,v5);bnd (yfC (v1,(v2,v3),v12,v4,v5,v6,v7,v8,v13,v9,v10,v11) v0 (v8.tmod 2) r3) fun r4 =>some (.inl ((((),()),((i64.wrap (v0+1)),()),()),((r4.2.1.1,r4.2.1.2.1.1,r4.2.1.2.1.2,(),r4.2.1.2.2.2.1,r4.2.1.2.2.2.2.1,r4.2.1.2.2.2.2.2.1,r4.2.1.2.2.2.2.2.2.1,r4.2.1.2.2.2.2.2.2.2.1,(),r4.2.1.2.2.2.2.2.2.2.2.2.1,r4.2.1.2.2.2.2.2.2.2.2.2.2.1,r4.2.1.2.2.2.2.2.2.2.2.2.2.2,()),()),(r4.2.1.2.2.1,r4.2.1.2.2.2.2.2.2.2.2.1,()))) else some (.inr (.inl ((((),()),()),((v1,v2,v3,(),v4,v5,v6,v7,v8,(),v9,v10,v11,()),()),(v12,v13,()))))
def ydu (x:(yc9).X):=yq1 x.1.2.1.1 x.2.1.1.1 x.2.1.1.2.1 x.2.1.1.2.2.1 x.2.1.1.2.2.2.2.1 x.2.1.1.2.2.2.2.2.1 x.2.1.1.2.2.2.2.2.2.1 x.2.1.1.2.2.2.2.2.2.2.1 x.2.1.1.2.2.2.2.2.2.2.2.1 x.2.1.1.2.2.2.2.2.2.2.2.2.2.1 x.2.1.1.2.2.2.2.2.2.2.2.2.2.2.1 x.2.1.1.2.2.2.2.2.2.2.2.2.2.2.2.1 x.2.2.1 x.2.2.2.1
def yB9 (x:(yhx).X):(yc9).X:=((((),()),(0,()),()),((x.2.1.1.1,x.2.1.1.2.1,x.2.1.1.2.2.1,(),x.2.1.1.2.2.2.2.1,x.2.1.1.2.2.2.2.2.1,x.2.1.1.2.2.2.2.2.2.1,x.2.1.1.2.2.2.2.2.2.2.1,x.2.1.1.2.2.2.2.2.2.2.2.1,(),x.2.1.1.2.2.2.2.2.2.2.2.2.2.1,x.2.1.1.2.2.2.2.2.2.2.2.2.2.2.1,x.2.1.1.2.2.2.2.2.2.2.2.2.2.2.2.1,()),()),(x.2.2.1,x.2.2.2.1,()))
def yEa:Code:=(zeJ yrq 64 52).getD .skip
theorem yQg:zeJ yrq 64 13=some (.block 0 (.loop yEa)):=by kernel_rfl
theorem yTc (x:(yc9).X):zhu ⟨yz3,63,yFV⟩ 0 yEa 52 yc9 yhm ylk x=ydu x:=by kernel_rfl
def yCk (x:(yhx).X):Nat:=18446744073709551616
def yr7 (x:(yhx).X):Option ((yhm).X ⊕ (ylk).X):=zF ydu (yCk x) (yB9 x)
def yCJ:Seg:=⟨yhx,yhm,ylk,yr7⟩
def yTK:Nat→Option Seg:=fun q=>bif Nat.beq q 13 then some yCJ else yFV q
theorem yRc:FrOk prog ⟨yz3,63,yTK⟩ yrq:=(yRb).loop (sg:=yCJ) yc9 yB9 (by decide) yQg ydu yCk (by decide) (fun _=>rfl) (fun x r _ h=>h) yTc
abbrev yrF:List Par:= [.pt tA (.pr .fz (.pr (.pr .fz .fz) (.pr (.ow (.pr (.ow .fz) (.pr (.ow (.pr .fz .fz)) (.pr .fz (.ow .fz))))) (.pr .fz (.pr .fz (.pr .fz (.pr .fz (.pr .fz (.pr (.ow (.pr .fz .fz)) (.pr .fz (.pr .fz .fz)))))))))))]
abbrev yAY:List OT:= []
def yvP (a0:dA):Option (zaY yAY×zak yrF) :=zkr (yr7 ((((),()),((),()),()),((a0.1,a0.2.1.1,a0.2.1.2,(),a0.2.2.2.1,a0.2.2.2.2.1,a0.2.2.2.2.2.1,a0.2.2.2.2.2.2.1,(i64.wrap (a0.2.2.2.2.2.2.2.1+1)),(),a0.2.2.2.2.2.2.2.2.2.1,a0.2.2.2.2.2.2.2.2.2.2.1,a0.2.2.2.2.2.2.2.2.2.2.2,()),()),(a0.2.2.1,a0.2.2.2.2.2.2.2.2.1,()))) (fun y4 =>let r6:=yen (y4.2.1.1.1,(y4.2.1.1.2.1,y4.2.1.1.2.2.1),y4.2.2.1,y4.2.1.1.2.2.2.2.1,y4.2.1.1.2.2.2.2.2.1,y4.2.1.1.2.2.2.2.2.2.1,y4.2.1.1.2.2.2.2.2.2.2.1,y4.2.1.1.2.2.2.2.2.2.2.2.1,y4.2.2.2.1,y4.2.1.1.2.2.2.2.2.2.2.2.2.2.1,y4.2.1.1.2.2.2.2.2.2.2.2.2.2.2.1,y4.2.1.1.2.2.2.2.2.2.2.2.2.2.2.2.1);some ((),(r6,()))) (fun y4 =>none)
theorem yWm:ConOk prog 174 ⟨yrF,yAY,fun x=>yvP x.1⟩:=zkG (yRc) func174 ntmps174.symm fun x=>by kernel_rfl
def ybc (a0:dA):dA:=yD a0
theorem yPC (a:dA) (i:Nat):(yad a i).2.2.1.length=a.2.2.1.length:=ypJ _ _ _ _
theorem yYJ (a0:dA) (hk:zjw yrF (a0,())):yvP a0=(fun n=>some ((),(n,()))) (ybc a0):=by
 have hb:a0.2.2.1.length*80≤2^47:=hk.1.2.2.1.1
 have h1:yr7 (yOA (yaw a0))=some (.inl (yCo ((List.range a0.2.2.1.length).foldl yad (yaw a0)))) :=
  zkB (step:=ydu) a0.2.2.1.length (fun i s=>yqr i s) yad (fun _ s=>s.2.2.1.length=a0.2.2.1.length) (fun s=> .inl (yCo s)) (fun i s hi hs=>⟨by
   simp only[ydu,yqr,yq1,hs,zkw (show(i:Int)<a0.2.2.1.length by omega),cond_true,wq ((i:Int)+1) (by omega) (by omega),Int.natCast_add,Int.natCast_one,Int.toNat_natCast,zkV];rw[ymc s i (s.2.2.2.2.2.2.2.1.tmod 2) (ym (s.1,s.2.2.2.2.2.2.2.1,(i:Int),s.2.1.1,s.2.1.2,s.2.2.2.2.2.2.1,s.2.2.2.1,s.2.2.2.2.1)) (zkP (by rw[hs]; exact hi))]
   rfl,(yPC s i).trans hs⟩) (fun s hs=>by simp only[ydu,yqr,yq1,hs,zk1 (Int.le_refl _),cond_false]) (yaw a0) rfl _ (by show _<18446744073709551616; omega)
 unfold yvP ybc yD;exact(congrArg (fun z=>zkr z _ _) h1).trans rfl
def ynz:Con:=⟨yrF,yAY,fun x=>(fun n=>some ((),(n,()))) (ybc x.1)⟩
theorem yx0:ConOk prog 174 ynz:=(yWm).mono (fun x r hk h=>(yYJ x.1 hk).trans h)
def ymP:Code:=(f107.body).getD .skip
def ytA:Env:=zku TT [(139,yi8),(165,yjZ),(172,yBL),(173,yEl)] []
theorem yKV:FrOk prog ⟨ytA,37,fun _=>none⟩ ymP:=zky yf yg ⟨yqv,ysw,ySK,yWy,trivial⟩
def yBh:Nat→Option Seg:=fun _=>none
def ybG:Shape:=⟨[(0,false,[.ptr 1000000000 0]),(15,false,[.int .i64]),(16,false,[.int .i64])],[(1000000000,[.int .i64,.int .i64,.int .i64,.at 800000000,.int .i64,.int .i64,.int .i64,.int .i64,.int .i64,.at 800000001,.int .i64,.bool,.bool])],[(800000000,tM,(.pr (.ow (.ow .fz)) (.pr (.ow (.pr .fz (.ow .fz))) (.pr .fz (.ow .fz))))),(800000001,tW,(.pr .fz (.ow .fz)))]⟩
def yfk:Shape:=⟨[(0,false,[.ptr 1000000000 0]),(15,false,[.int .i64]),(16,false,[.ci .i64 0])],[(1000000000,[.int .i64,.int .i64,.int .i64,.at 800000000,.int .i64,.int .i64,.int .i64,.int .i64,.int .i64,.at 800000001,.int .i64,.bool,.bool])],[(800000000,tM,(.pr (.ow (.ow .fz)) (.pr (.ow (.pr .fz (.ow .fz))) (.pr .fz (.ow .fz))))),(800000001,tW,(.pr .fz (.ow .fz)))]⟩
def yfb:Shape:=⟨[(0,false,[.ptr 1000000000 0])],[(1000000000,[.int .i64,.int .i64,.int .i64,.at 800000000,.int .i64,.int .i64,.int .i64,.int .i64,.int .i64,.at 800000001,.int .i64,.bool,.bool])],[(800000000,tM,(.pr (.ow (.ow .fz)) (.pr (.ow (.pr .fz (.ow .fz))) (.pr .fz (.ow .fz))))),(800000001,tW,(.pr .fz (.ow .fz)))]⟩
def yft:Shape:=⟨[(2,false,[.bool])],[(1000000000,[.int .i64,.int .i64,.int .i64,.at 800000000,.int .i64,.int .i64,.int .i64,.int .i64,.int .i64,.at 800000001,.int .i64,.bool,.bool])],[(800000000,tM,(.pr (.ow (.ow .fz)) (.pr (.ow (.pr .fz (.ow .fz))) (.pr .fz (.ow .fz))))),(800000001,tW,(.pr .fz (.ow .fz)))]⟩
abbrev ymt (v0 v1:Int) (v2:dA):(ybG).X:=((((),()),(v0,()),(v1,()),()),((v2.1,v2.2.1.1,v2.2.1.2,(),v2.2.2.2.1,v2.2.2.2.2.1,v2.2.2.2.2.2.1,v2.2.2.2.2.2.2.1,v2.2.2.2.2.2.2.2.1,(),v2.2.2.2.2.2.2.2.2.2.1,v2.2.2.2.2.2.2.2.2.2.2.1,v2.2.2.2.2.2.2.2.2.2.2.2,()),()),(v2.2.2.1,v2.2.2.2.2.2.2.2.2.1,()))
abbrev yJZ (v0:Int) (v1:dA):(yfk).X:=((((),()),(v0,()),((),()),()),((v1.1,v1.2.1.1,v1.2.1.2,(),v1.2.2.2.1,v1.2.2.2.2.1,v1.2.2.2.2.2.1,v1.2.2.2.2.2.2.1,v1.2.2.2.2.2.2.2.1,(),v1.2.2.2.2.2.2.2.2.2.1,v1.2.2.2.2.2.2.2.2.2.2.1,v1.2.2.2.2.2.2.2.2.2.2.2,()),()),(v1.2.2.1,v1.2.2.2.2.2.2.2.2.1,()))
abbrev ymA (v0:dA):(yfb).X:=((((),()),()),((v0.1,v0.2.1.1,v0.2.1.2,(),v0.2.2.2.1,v0.2.2.2.2.1,v0.2.2.2.2.2.1,v0.2.2.2.2.2.2.1,v0.2.2.2.2.2.2.2.1,(),v0.2.2.2.2.2.2.2.2.2.1,v0.2.2.2.2.2.2.2.2.2.2.1,v0.2.2.2.2.2.2.2.2.2.2.2,()),()),(v0.2.2.1,v0.2.2.2.2.2.2.2.2.1,()))
abbrev ymC (v0:Bool) (v1:dA):(yft).X:=(((v0,()),()),((v1.1,v1.2.1.1,v1.2.1.2,(),v1.2.2.2.1,v1.2.2.2.2.1,v1.2.2.2.2.2.1,v1.2.2.2.2.2.2.1,v1.2.2.2.2.2.2.2.1,(),v1.2.2.2.2.2.2.2.2.2.1,v1.2.2.2.2.2.2.2.2.2.2.1,v1.2.2.2.2.2.2.2.2.2.2.2,()),()),(v1.2.2.1,v1.2.2.2.2.2.2.2.2.1,()))
def ymH (v0 v1 v2 v3 v4 v5 v6 v7 v8 v9 v10:Int) (v11 v12:Bool) (v13:List dM) (v14:List dW):Option ((ybG).X ⊕ ((yfb).X ⊕ (yft).X)) :=bif(ltb v1 v0)then let r4:=ypy (v2,(v3,v4),v13,v5,v6,v7,v8,v9,v14,v10,v11,v12) v1;let r5:=yji r4;bnd (yeW (v2,(v3,v4),v13,v5,v6,v7,v8,v9,v14,v10,v11,v12) v1 (v9.tmod 2) r5) fun r6 =>bif(!r6.1.1)then some (.inr (.inr (((false,()),()),((r6.2.1.1,r6.2.1.2.1.1,r6.2.1.2.1.2,(),r6.2.1.2.2.2.1,r6.2.1.2.2.2.2.1,r6.2.1.2.2.2.2.2.1,r6.2.1.2.2.2.2.2.2.1,r6.2.1.2.2.2.2.2.2.2.1,(),r6.2.1.2.2.2.2.2.2.2.2.2.1,r6.2.1.2.2.2.2.2.2.2.2.2.2.1,r6.2.1.2.2.2.2.2.2.2.2.2.2.2,()),()),(r6.2.1.2.2.1,r6.2.1.2.2.2.2.2.2.2.2.1,())))) else some (.inl ((((),()),(v0,()),((i64.wrap (v1+1)),()),()),((r6.2.1.1,r6.2.1.2.1.1,r6.2.1.2.1.2,(),r6.2.1.2.2.2.1,r6.2.1.2.2.2.2.1,r6.2.1.2.2.2.2.2.1,r6.2.1.2.2.2.2.2.2.1,r6.2.1.2.2.2.2.2.2.2.1,(),r6.2.1.2.2.2.2.2.2.2.2.2.1,r6.2.1.2.2.2.2.2.2.2.2.2.2.1,r6.2.1.2.2.2.2.2.2.2.2.2.2.2,()),()),(r6.2.1.2.2.1,r6.2.1.2.2.2.2.2.2.2.2.1,()))) else some (.inr (.inl ((((),()),()),((v2,v3,v4,(),v5,v6,v7,v8,v9,(),v10,v11,v12,()),()),(v13,v14,()))))
def ybZ (x:(ybG).X):=ymH x.1.2.1.1 x.1.2.2.1.1 x.2.1.1.1 x.2.1.1.2.1 x.2.1.1.2.2.1 x.2.1.1.2.2.2.2.1 x.2.1.1.2.2.2.2.2.1 x.2.1.1.2.2.2.2.2.2.1 x.2.1.1.2.2.2.2.2.2.2.1 x.2.1.1.2.2.2.2.2.2.2.2.1 x.2.1.1.2.2.2.2.2.2.2.2.2.2.1 x.2.1.1.2.2.2.2.2.2.2.2.2.2.2.1 x.2.1.1.2.2.2.2.2.2.2.2.2.2.2.2.1 x.2.2.1 x.2.2.2.1
def ywd (x:(yfk).X):(ybG).X:=((((),()),(x.1.2.1.1,()),(0,()),()),((x.2.1.1.1,x.2.1.1.2.1,x.2.1.1.2.2.1,(),x.2.1.1.2.2.2.2.1,x.2.1.1.2.2.2.2.2.1,x.2.1.1.2.2.2.2.2.2.1,x.2.1.1.2.2.2.2.2.2.2.1,x.2.1.1.2.2.2.2.2.2.2.2.1,(),x.2.1.1.2.2.2.2.2.2.2.2.2.2.1,x.2.1.1.2.2.2.2.2.2.2.2.2.2.2.1,x.2.1.1.2.2.2.2.2.2.2.2.2.2.2.2.1,()),()),(x.2.2.1,x.2.2.2.1,()))
def yyF:Code:=(zeJ ymP 64 116).getD .skip
theorem yKD:zeJ ymP 64 29=some (.block 0 (.loop yyF)):=by kernel_rfl
theorem yMs (x:(ybG).X):zhu ⟨ytA,37,yBh⟩ 0 yyF 116 ybG yfb yft x=ybZ x:=by kernel_rfl
def ywm (x:(yfk).X):Nat:=18446744073709551616
def ynL (x:(yfk).X):Option ((yfb).X ⊕ (yft).X):=zF ybZ (ywm x) (ywd x)
def ywC:Seg:=⟨yfk,yfb,yft,ynL⟩
def yM5:Nat→Option Seg:=fun q=>bif Nat.beq q 29 then some ywC else yBh q
theorem yKW:FrOk prog ⟨ytA,37,yM5⟩ ymP:=(yKV).loop (sg:=ywC) ybG ywd (by decide) yKD ybZ ywm (by decide) (fun _=>rfl) (fun x r _ h=>h) yMs
abbrev yim:List Par:= [.pt tA (.pr .fz (.pr (.pr .fz .fz) (.pr (.ow (.pr (.ow (.ow .fz)) (.pr (.ow (.pr .fz (.ow .fz))) (.pr .fz (.ow .fz))))) (.pr .fz (.pr .fz (.pr .fz (.pr .fz (.pr .fz (.pr (.ow (.pr .fz (.ow .fz))) (.pr .fz (.pr .fz .fz)))))))))))]
abbrev yng:List OT:= [⟨false,tB,.fz⟩]
def yqx (a0:dA):Option (zaY yng×zak yim) :=zkr (ynL ((((),()),((a0.2.2.1.length:Int),()),((),()),()),((a0.1,a0.2.1.1,a0.2.1.2,(),a0.2.2.2.1,a0.2.2.2.2.1,a0.2.2.2.2.2.1,a0.2.2.2.2.2.2.1,(i64.wrap (a0.2.2.2.2.2.2.2.1+1)),(),a0.2.2.2.2.2.2.2.2.2.1,a0.2.2.2.2.2.2.2.2.2.2.1,a0.2.2.2.2.2.2.2.2.2.2.2,()),()),(a0.2.2.1,a0.2.2.2.2.2.2.2.2.1,()))) (fun y6 =>bnd (yfP (y6.2.1.1.1,(y6.2.1.1.2.1,y6.2.1.1.2.2.1),y6.2.2.1,y6.2.1.1.2.2.2.2.1,y6.2.1.1.2.2.2.2.2.1,y6.2.1.1.2.2.2.2.2.2.1,y6.2.1.1.2.2.2.2.2.2.2.1,y6.2.1.1.2.2.2.2.2.2.2.2.1,y6.2.2.2.1,y6.2.1.1.2.2.2.2.2.2.2.2.2.2.1,y6.2.1.1.2.2.2.2.2.2.2.2.2.2.2.1,y6.2.1.1.2.2.2.2.2.2.2.2.2.2.2.2.1)) fun r8 =>some ((r8.1.1,()),(r8.2.1,()))) (fun y6 =>some ((y6.1.1.1,()),((y6.2.1.1.1,(y6.2.1.1.2.1,y6.2.1.1.2.2.1),y6.2.2.1,y6.2.1.1.2.2.2.2.1,y6.2.1.1.2.2.2.2.2.1,y6.2.1.1.2.2.2.2.2.2.1,y6.2.1.1.2.2.2.2.2.2.2.1,y6.2.1.1.2.2.2.2.2.2.2.2.1,y6.2.2.2.1,y6.2.1.1.2.2.2.2.2.2.2.2.2.2.1,y6.2.1.1.2.2.2.2.2.2.2.2.2.2.2.1,y6.2.1.1.2.2.2.2.2.2.2.2.2.2.2.2.1),())))
theorem yOK:ConOk prog 107 ⟨yim,yng,fun x=>yqx x.1⟩:=zkG (yKW) func107 ntmps107.symm fun x=>by kernel_rfl
def ynC (a0:dA):Bool×dA:=(!(ya (yD a0)),yD a0)
def yjv (a0:dA):Bool:= !(ya a0)
theorem y2K {a:dA} (i:Nat) (h:ya a=true):yad a i=a:=yos h _ _ _
theorem yRK (a0:dA) (hk:zjw yim (a0,())) (hq:yjv a0=true):yqx a0=(fun n=>some ((n.1,()),(n.2,()))) (ynC a0):=by
 have hb:a0.2.2.1.length*80≤2^47:=hk.1.2.2.1.1;have hd0:ya a0=false:=by simpa [yjv]using hq
 have h1:ynL (yJZ a0.2.2.1.length (yaw a0))=some (bif ya ((List.range a0.2.2.1.length).foldl yad (yaw a0))then .inr (ymC false ((List.range a0.2.2.1.length).foldl yad (yaw a0)))else .inl (ymA ((List.range a0.2.2.1.length).foldl yad (yaw a0)))):=by
  have:=zkA (step:=ybZ) a0.2.2.1.length (fun i s=>ymt a0.2.2.1.length i s) (fun i s=>bif ya (yad s i)then(.inr (yad s i):dA ⊕ dA)else .inl (yad s i)) (fun _ s=>s.2.2.1.length=a0.2.2.1.length∧ya s=false) id
   (fun b=>bif ya b then .inr (ymC false b)else .inl (ymA b)) (fun i s hi hs=>by
    constructor
    ·simp only[ybZ,ymt,ymH,zkw (show(i:Int)<a0.2.2.1.length by omega),cond_true,wq ((i:Int)+1) (by omega) (by omega),Int.natCast_add,Int.natCast_one,Int.toNat_natCast,zkV,y3k,ypy]
     rw[yqw s i (s.2.2.2.2.2.2.2.1.tmod 2) (ym (s.1,s.2.2.2.2.2.2.2.1,(i:Int),s.2.1.1,s.2.1.2,s.2.2.2.2.2.2.1,s.2.2.2.1,s.2.2.2.2.1)) (by unfold ydc; rw[zkP (by rw[hs.1]; exact hi),hs.2]; rfl)];simp only[zkF,ydb];rw[show yby s i (s.2.2.2.2.2.2.2.1.tmod 2) (ym (s.1,s.2.2.2.2.2.2.2.1,(i:Int),s.2.1.1,s.2.1.2,s.2.2.2.2.2.2.1,s.2.2.2.1,s.2.2.2.2.1))=yad s i from rfl];cases hd:ya (yad s i)
     ·rfl
     ·simp only[hd,Bool.not_true,Bool.not_false,cond_true,ymC]
    ·intro s' h
     cases hd:ya (yad s i)
     ·rw[hd]at h
      cases h;exact⟨(yPC s i).trans hs.1,hd⟩
     ·rw[hd]at h; cases h) (fun s hs=>by simp only[ybZ,ymt,ymH,hs.2,zk1 (Int.le_refl _),cond_false,id,ymA]) (yaw a0) ⟨rfl,hd0⟩ 18446744073709551616 (by omega)
  rw[yE1 (fun a i h=>y2K i h),← List.range_eq_range']at this;exact this
 unfold yqx ynC yD;refine(congrArg (fun z=>zkr z _ _) h1).trans ?_;cases hd:ya ((List.range a0.2.2.1.length).foldl yad (yaw a0))
 ·simp only[cond_false,zkL,zkV]
  rw[ysx _ (by unfold yfQ; rw[hd]; rfl)]; rfl
 ·rw[ytm hd]
  simp only[cond_true,zkM,zkV];rw[hd]; rfl
def yjr (a0:dA):Option (zaY yng×zak yim):=bif yjv a0 then(fun n=>some ((n.1,()),(n.2,()))) (ynC a0)else none
theorem ySY (a0:dA) (h:yjv a0=true):yjr a0=(fun n=>some ((n.1,()),(n.2,()))) (ynC a0):=by unfold yjr; rw[h]; rfl
def yBG:Con:=⟨yim,yng,fun x=>yjr x.1⟩
theorem ySF:ConOk prog 107 yBG:=(yOK).mono (fun x r hk h=>zkW h (fun hq=>yRK x.1 hk hq))
def yPK:Code:=(f99.body).getD .skip
def yP2:Env:=zku TT [(107,yBG),(165,yjZ)] []
theorem yJM:FrOk prog ⟨yP2,15,fun _=>none⟩ yPK:=zky yf yg ⟨ySF,ysw,trivial⟩
abbrev yg9:List Par:= [.pt tA (.pr .fz (.pr (.pr .fz .fz) (.pr (.ow (.pr (.ow (.ow .fz)) (.pr (.ow (.pr .fz (.ow .fz))) (.pr .fz (.ow .fz))))) (.pr .fz (.pr .fz (.pr .fz (.pr .fz (.pr .fz (.pr (.ow (.pr .fz (.ow .fz))) (.pr .fz (.pr .fz .fz)))))))))))]
abbrev ylb:List OT:= [⟨false,tB,.fz⟩]
def you (a0:dA):Option (zaY ylb×zak yg9) :=bnd (yfP a0) fun r1 =>bif(!r1.1.1)then some ((false,()),(r1.2.1,())) else bnd (yjr (r1.2.1.1,r1.2.1.2.1,r1.2.1.2.2.1,r1.2.1.2.2.2.1,r1.2.1.2.2.2.2.1,r1.2.1.2.2.2.2.2.1,r1.2.1.2.2.2.2.2.1,r1.2.1.2.2.2.2.2.2.2)) fun r2 =>some ((r2.1.1,()),(r2.2.1,()))
theorem yMd:ConOk prog 99 ⟨yg9,ylb,fun x=>you x.1⟩:=zkG (yJM) func99 ntmps99.symm fun x=>by kernel_rfl
def yhE (a0:dA):Bool×dA:=(!(ya (yq a0)),yq a0)
def yhO (a0:dA):Bool:= !(ya a0)
theorem yOE (a0:dA) (hk:zjw yg9 (a0,())) (hq:yhO a0=true):you a0=(fun n=>some ((n.1,()),(n.2,()))) (yhE a0):=by
 unfold you yhE yq;rw[ysx a0 hq];simp only[zkF,yje];cases hd:ya (ye a0)
 ·have hm:yjr (yV (ye a0))=some ((!(ya (yD (yV (ye a0)))),()),(yD (yV (ye a0)),())):=ySY (yV (ye a0)) (by unfold yjv; rw[show ya (yV (ye a0))=ya (ye a0)from rfl,hd]; rfl)
  exact(congrArg (fun z=>bnd z _) hm).trans rfl
 ·simp only[Bool.not_true,Bool.not_false,cond_true]
  rw[hd]; rfl
def yhM (a0:dA):Option (zaY ylb×zak yg9):=bif yhO a0 then(fun n=>some ((n.1,()),(n.2,()))) (yhE a0)else none
theorem yCs (a0:dA) (h:yhO a0=true):yhM a0=(fun n=>some ((n.1,()),(n.2,()))) (yhE a0):=by unfold yhM; rw[h]; rfl
def yn2:Con:=⟨yg9,ylb,fun x=>yhM x.1⟩
theorem yCq:ConOk prog 99 yn2:=(yMd).mono (fun x r hk h=>zkW h (fun hq=>yOE x.1 hk hq))
def yrk:Code:=(f28.body).getD .skip
def yzX:Env:=zku TT [(23,yEf),(95,ylm),(96,yBP),(97,ymr),(98,yn3),(99,yn2)] []
theorem yQw:FrOk prog ⟨yzX,50,fun _=>none⟩ yrk:=zky yf yg ⟨yWs,yvv,ySO,yzA,yCr,yCq,trivial⟩
def yFN:Nat→Option Seg:=fun _=>none
def ycZ:Shape:=⟨[(2,false,[.ptr 64 0]),(3,false,[.ptr 4224 0]),(16,false,[.int .i64])],[(64,[.int .i64,.int .i64,.int .i64,.nil,.int .i64,.int .i64,.int .i64,.int .i64,.int .i64,.nil,.int .i64,.bool,.bool]),(4224,[.int .i64,.int .i64,.int .i64,.at 800000000,.int .i64,.int .i64,.int .i64,.int .i64,.int .i64,.at 800000001,.int .i64,.bool,.bool])],[(800000000,tM,(.pr (.ow (.ow .fz)) (.pr (.ow (.pr .fz (.ow .fz))) (.pr .fz (.ow .fz))))),(800000001,tW,(.pr .fz (.ow .fz)))]⟩
def yhn:Shape:=⟨[(2,false,[.ptr 64 0]),(3,false,[.ptr 4224 0]),(16,false,[.ci .i64 0])],[(64,[.int .i64,.int .i64,.int .i64,.nil,.int .i64,.int .i64,.int .i64,.int .i64,.int .i64,.nil,.int .i64,.bool,.bool]),(4224,[.int .i64,.int .i64,.int .i64,.at 800000000,.int .i64,.int .i64,.int .i64,.int .i64,.int .i64,.at 800000001,.int .i64,.bool,.bool])],[(800000000,tM,(.pr (.ow (.ow .fz)) (.pr (.ow (.pr .fz (.ow .fz))) (.pr .fz (.ow .fz))))),(800000001,tW,(.pr .fz (.ow .fz)))]⟩
def yhc:Shape:=⟨[(2,false,[.ptr 64 0]),(3,false,[.ptr 4224 0])],[(64,[.int .i64,.int .i64,.int .i64,.nil,.int .i64,.int .i64,.int .i64,.int .i64,.int .i64,.nil,.int .i64,.bool,.bool]),(4224,[.int .i64,.int .i64,.int .i64,.at 800000000,.int .i64,.int .i64,.int .i64,.int .i64,.int .i64,.at 800000001,.int .i64,.bool,.bool])],[(800000000,tM,(.pr (.ow (.ow .fz)) (.pr (.ow (.pr .fz (.ow .fz))) (.pr .fz (.ow .fz))))),(800000001,tW,(.pr .fz (.ow .fz)))]⟩
def yhy:Shape:=⟨[(2,false,[.ptr 64 0])],[(64,[.int .i64,.int .i64,.int .i64,.at 800000000,.int .i64,.int .i64,.int .i64,.int .i64,.int .i64,.at 800000001,.int .i64,.bool,.bool])],[(800000000,tM,(.pr (.ow (.ow .fz)) (.pr (.ow (.pr .fz (.ow .fz))) (.pr .fz (.ow .fz))))),(800000001,tW,(.pr .fz (.ow .fz)))]⟩
abbrev yqj (v0:Int) (v1 v2:dA):(ycZ).X:=((((),()),((),()),(v0,()),()),((v1.1,v1.2.1.1,v1.2.1.2,(),v1.2.2.2.1,v1.2.2.2.2.1,v1.2.2.2.2.2.1,v1.2.2.2.2.2.2.1,v1.2.2.2.2.2.2.2.1,(),v1.2.2.2.2.2.2.2.2.2.1,v1.2.2.2.2.2.2.2.2.2.2.1,v1.2.2.2.2.2.2.2.2.2.2.2,()),(v2.1,v2.2.1.1,v2.2.1.2,(),v2.2.2.2.1,v2.2.2.2.2.1,v2.2.2.2.2.2.1,v2.2.2.2.2.2.2.1,v2.2.2.2.2.2.2.2.1,(),v2.2.2.2.2.2.2.2.2.2.1,v2.2.2.2.2.2.2.2.2.2.2.1,v2.2.2.2.2.2.2.2.2.2.2.2,()),()),(v2.2.2.1,v2.2.2.2.2.2.2.2.2.1,()))
abbrev yOr (v0 v1:dA):(yhn).X:=((((),()),((),()),((),()),()),((v0.1,v0.2.1.1,v0.2.1.2,(),v0.2.2.2.1,v0.2.2.2.2.1,v0.2.2.2.2.2.1,v0.2.2.2.2.2.2.1,v0.2.2.2.2.2.2.2.1,(),v0.2.2.2.2.2.2.2.2.2.1,v0.2.2.2.2.2.2.2.2.2.2.1,v0.2.2.2.2.2.2.2.2.2.2.2,()),(v1.1,v1.2.1.1,v1.2.1.2,(),v1.2.2.2.1,v1.2.2.2.2.1,v1.2.2.2.2.2.1,v1.2.2.2.2.2.2.1,v1.2.2.2.2.2.2.2.1,(),v1.2.2.2.2.2.2.2.2.2.1,v1.2.2.2.2.2.2.2.2.2.2.1,v1.2.2.2.2.2.2.2.2.2.2.2,()),()),(v1.2.2.1,v1.2.2.2.2.2.2.2.2.1,()))
abbrev yOl (v0 v1:dA):(yhc).X:=((((),()),((),()),()),((v0.1,v0.2.1.1,v0.2.1.2,(),v0.2.2.2.1,v0.2.2.2.2.1,v0.2.2.2.2.2.1,v0.2.2.2.2.2.2.1,v0.2.2.2.2.2.2.2.1,(),v0.2.2.2.2.2.2.2.2.2.1,v0.2.2.2.2.2.2.2.2.2.2.1,v0.2.2.2.2.2.2.2.2.2.2.2,()),(v1.1,v1.2.1.1,v1.2.1.2,(),v1.2.2.2.1,v1.2.2.2.2.1,v1.2.2.2.2.2.1,v1.2.2.2.2.2.2.1,v1.2.2.2.2.2.2.2.1,(),v1.2.2.2.2.2.2.2.2.2.1,v1.2.2.2.2.2.2.2.2.2.2.1,v1.2.2.2.2.2.2.2.2.2.2.2,()),()),(v1.2.2.1,v1.2.2.2.2.2.2.2.2.1,()))
abbrev yqt (v0:dA):(yhy).X:=((((),()),()),((v0.1,v0.2.1.1,v0.2.1.2,(),v0.2.2.2.1,v0.2.2.2.2.1,v0.2.2.2.2.2.1,v0.2.2.2.2.2.2.1,v0.2.2.2.2.2.2.2.1,(),v0.2.2.2.2.2.2.2.2.2.1,v0.2.2.2.2.2.2.2.2.2.2.1,v0.2.2.2.2.2.2.2.2.2.2.2,()),()),(v0.2.2.1,v0.2.2.2.2.2.2.2.2.1,()))
def yqS (v0 v1 v2 v3 v4 v5 v6 v7 v8 v9:Int) (v10 v11:Bool) (v12 v13 v14 v15 v16 v17 v18 v19 v20:Int) (v21 v22:Bool) (v23:List dM) (v24:List dW):Option ((ycZ).X ⊕ ((yhc).X ⊕ (yhy).X)) :=bif(ltb v0 4)then bnd (ypE (v12,(v13,v14),v23,v15,v16,v17,v18,v19,v24,v20,v21,v22) v17) fun r6 =>bif(!(!r6.1.2.1))then bif(leb 60000 v17)then some (.inr (.inl ((((),()),((),()),()),((v1,v2,v3,(),v4,v5,v6,v7,v8,(),v9,v10,v11,()),(v12,v13,v14,(),v15,v16,v17,v18,v19,(),v20,v21,v22,()),()),(v23,v24,())))) else bnd (ybh (v12,(v13,v14),v23,v15,v16,v17,v18,v19,v24,v20,v21,v22) r6.1.1) fun r7 =>bif(!r7.1.1)then some (.inr (.inr ((((),()),()),((r7.2.1.1,r7.2.1.2.1.1,r7.2.1.2.1.2,(),r7.2.1.2.2.2.1,r7.2.1.2.2.2.2.1,r7.2.1.2.2.2.2.2.1,r7.2.1.2.2.2.2.2.2.1,r7.2.1.2.2.2.2.2.2.2.1,(),r7.2.1.2.2.2.2.2.2.2.2.2.1,r7.2.1.2.2.2.2.2.2.2.2.2.2.1,r7.2.1.2.2.2.2.2.2.2.2.2.2.2,()),()),(r7.2.1.2.2.1,r7.2.1.2.2.2.2.2.2.2.2.1,())))) else bnd (ya5 (r7.2.1.1,r7.2.1.2.1,r7.2.1.2.2.1,r7.2.1.2.2.2.1,r7.2.1.2.2.2.2.1,(i64.wrap (r7.2.1.2.2.2.2.2.1+1)),r7.2.1.2.2.2.2.2.2) r6.1.1.2.1 r6.1.1.2.2) fun r8 =>bif(!r8.1.1)then some (.inr (.inr ((((),()),()),((r8.2.1.1,r8.2.1.2.1.1,r8.2.1.2.1.2,(),r8.2.1.2.2.2.1,r8.2.1.2.2.2.2.1,r8.2.1.2.2.2.2.2.1,r8.2.1.2.2.2.2.2.2.1,r8.2.1.2.2.2.2.2.2.2.1,(),r8.2.1.2.2.2.2.2.2.2.2.2.1,r8.2.1.2.2.2.2.2.2.2.2.2.2.1,r8.2.1.2.2.2.2.2.2.2.2.2.2.2,()),()),(r8.2.1.2.2.1,r8.2.1.2.2.2.2.2.2.2.2.1,())))) else some (.inl ((((),()),((),()),((i64.wrap (v0+1)),()),()),((v1,v2,v3,(),v4,v5,v6,v7,v8,(),v9,v10,v11,()),(r8.2.1.1,r8.2.1.2.1.1,r8.2.1.2.1.2,(),r8.2.1.2.2.2.1,r8.2.1.2.2.2.2.1,r8.2.1.2.2.2.2.2.1,r8.2.1.2.2.2.2.2.2.1,r8.2.1.2.2.2.2.2.2.2.1,(),r8.2.1.2.2.2.2.2.2.2.2.2.1,r8.2.1.2.2.2.2.2.2.2.2.2.2.1,r8.2.1.2.2.2.2.2.2.2.2.2.2.2,()),()),(r8.2.1.2.2.1,r8.2.1.2.2.2.2.2.2.2.2.1,()))) else some (.inr (.inl ((((),()),((),()),()),((v1,v2,v3,(),v4,v5,v6,v7,v8,(),v9,v10,v11,()),(v12,v13,v14,(),v15,v16,v17,v18,v19,(),v20,v21,v22,()),()),(v23,v24,())))) else some (.inr (.inl ((((),()),((),()),()),((v1,v2,v3,(),v4,v5,v6,v7,v8,(),v9,v10,v11,()),(v12,v13,v14,(),v15,v16,v17,v18,v19,(),v20,v21,v22,()),()),(v23,v24,()))))
def ydl (x:(ycZ).X):=yqS x.1.2.2.1.1 x.2.1.1.1 x.2.1.1.2.1 x.2.1.1.2.2.1 x.2.1.1.2.2.2.2.1 x.2.1.1.2.2.2.2.2.1 x.2.1.1.2.2.2.2.2.2.1 x.2.1.1.2.2.2.2.2.2.2.1 x.2.1.1.2.2.2.2.2.2.2.2.1 x.2.1.1.2.2.2.2.2.2.2.2.2.2.1 x.2.1.1.2.2.2.2.2.2.2.2.2.2.2.1 x.2.1.1.2.2.2.2.2.2.2.2.2.2.2.2.1 x.2.1.2.1.1 x.2.1.2.1.2.1 x.2.1.2.1.2.2.1 x.2.1.2.1.2.2.2.2.1 x.2.1.2.1.2.2.2.2.2.1 x.2.1.2.1.2.2.2.2.2.2.1 x.2.1.2.1.2.2.2.2.2.2.2.1 x.2.1.2.1.2.2.2.2.2.2.2.2.1 x.2.1.2.1.2.2.2.2.2.2.2.2.2.2.1 x.2.1.2.1.2.2.2.2.2.2.2.2.2.2.2.1 x.2.1.2.1.2.2.2.2.2.2.2.2.2.2.2.2.1 x.2.2.1 x.2.2.2.1
def yBZ (x:(yhn).X):(ycZ).X:=((((),()),((),()),(0,()),()),((x.2.1.1.1,x.2.1.1.2.1,x.2.1.1.2.2.1,(),x.2.1.1.2.2.2.2.1,x.2.1.1.2.2.2.2.2.1,x.2.1.1.2.2.2.2.2.2.1,x.2.1.1.2.2.2.2.2.2.2.1,x.2.1.1.2.2.2.2.2.2.2.2.1,(),x.2.1.1.2.2.2.2.2.2.2.2.2.2.1,x.2.1.1.2.2.2.2.2.2.2.2.2.2.2.1,x.2.1.1.2.2.2.2.2.2.2.2.2.2.2.2.1,()),(x.2.1.2.1.1,x.2.1.2.1.2.1,x.2.1.2.1.2.2.1,(),x.2.1.2.1.2.2.2.2.1,x.2.1.2.1.2.2.2.2.2.1,x.2.1.2.1.2.2.2.2.2.2.1,x.2.1.2.1.2.2.2.2.2.2.2.1,x.2.1.2.1.2.2.2.2.2.2.2.2.1,(),x.2.1.2.1.2.2.2.2.2.2.2.2.2.2.1,x.2.1.2.1.2.2.2.2.2.2.2.2.2.2.2.1,x.2.1.2.1.2.2.2.2.2.2.2.2.2.2.2.2.1,()),()),(x.2.2.1,x.2.2.2.1,()))
def yD0:Code:=(zeJ yrk 64 244).getD .skip
theorem yP6:zeJ yrk 64 61=some (.block 0 (.loop yD0)):=by kernel_rfl
theorem yS2 (x:(ycZ).X):zhu ⟨yzX,50,yFN⟩ 0 yD0 244 ycZ yhc yhy x=ydl x:=by kernel_rfl
def yCa (x:(yhn).X):Nat:=18446744073709551616
def yrY (x:(yhn).X):Option ((yhc).X ⊕ (yhy).X):=zF ydl (yCa x) (yBZ x)
def yCz:Seg:=⟨yhn,yhc,yhy,yrY⟩
def yTC:Nat→Option Seg:=fun q=>bif Nat.beq q 61 then some yCz else yFN q
theorem yQx:FrOk prog ⟨yzX,50,yTC⟩ yrk:=(yQw).loop (sg:=yCz) ycZ yBZ (by decide) yP6 ydl yCa (by decide) (fun _=>rfl) (fun x r _ h=>h) yS2
abbrev yrx:List Par:= [.rd tA]
abbrev yAy:List OT:= [⟨false,tA,(.pr .fz (.pr (.pr .fz .fz) (.pr (.ow (.pr (.ow (.ow .fz)) (.pr (.ow (.pr .fz (.ow .fz))) (.pr .fz (.ow .fz))))) (.pr .fz (.pr .fz (.pr .fz (.pr .fz (.pr .fz (.pr (.ow (.pr .fz (.ow .fz))) (.pr .fz (.pr .fz .fz)))))))))))⟩]
def yvD (a0:dA):Option (zaY yAy×zak yrx) :=let r1:=ybX a0;let r2:=ydW a0;bif(!(!r2))then bif a0.2.2.2.2.2.2.2.2.2.2.2 then some ((r1,()),()) else zkr (yrY ((((),()),((),()),((),()),()),((0,0,0,(),0,0,0,0,0,(),0,false,false,()),(r1.1,r1.2.1.1,r1.2.1.2,(),r1.2.2.2.1,r1.2.2.2.2.1,r1.2.2.2.2.2.1,r1.2.2.2.2.2.2.1,r1.2.2.2.2.2.2.2.1,(),r1.2.2.2.2.2.2.2.2.2.1,r1.2.2.2.2.2.2.2.2.2.2.1,r1.2.2.2.2.2.2.2.2.2.2.2,()),()),(r1.2.2.1,r1.2.2.2.2.2.2.2.2.1,()))) (fun y8 =>bnd (yhM (y8.2.1.2.1.1,(y8.2.1.2.1.2.1,y8.2.1.2.1.2.2.1),y8.2.2.1,y8.2.1.2.1.2.2.2.2.1,y8.2.1.2.1.2.2.2.2.2.1,y8.2.1.2.1.2.2.2.2.2.2.1,y8.2.1.2.1.2.2.2.2.2.2.2.1,y8.2.1.2.1.2.2.2.2.2.2.2.2.1,y8.2.2.2.1,y8.2.1.2.1.2.2.2.2.2.2.2.2.2.2.1,y8.2.1.2.1.2.2.2.2.2.2.2.2.2.2.2.1,y8.2.1.2.1.2.2.2.2.2.2.2.2.2.2.2.2.1)) fun r10 =>some ((r10.2.1,()),())) (fun y8 =>some (((y8.2.1.1.1,(y8.2.1.1.2.1,y8.2.1.1.2.2.1),y8.2.2.1,y8.2.1.1.2.2.2.2.1,y8.2.1.1.2.2.2.2.2.1,y8.2.1.1.2.2.2.2.2.2.1,y8.2.1.1.2.2.2.2.2.2.2.1,y8.2.1.1.2.2.2.2.2.2.2.2.1,y8.2.2.2.1,y8.2.1.1.2.2.2.2.2.2.2.2.2.2.1,y8.2.1.1.2.2.2.2.2.2.2.2.2.2.2.1,y8.2.1.1.2.2.2.2.2.2.2.2.2.2.2.2.1),()),())) else some ((r1,()),())
theorem yVR:ConOk prog 28 ⟨yrx,yAy,fun x=>yvD x.1⟩:=zkG (yQx) func28 ntmps28.symm fun x=>by kernel_rfl
def yid (a0:dA):dA:=yme a0
theorem y52 {α:Type} {c:Bool} (h:c=false) {x y:α}:(bif c then x else y)=y:=by subst h; rfl
theorem yXY {α:Type} {c:Bool} (h:c=true) {x y:α}:(bif c then x else y)=x:=by subst h; rfl
theorem yYj (a0:dA) (hk:zjw yrx (a0,())):yvD a0=(fun n=>some ((n,()),())) (yid a0):=by
 unfold yvD yid;simp only[ybX];cases hm:(yae a0&&(!(ya a0)&&(!a0.2.2.2.2.2.2.2.2.2.2.2&&ltb a0.2.2.2.2.2.2.2.1 60000)))
 ·have hr:yme a0=a0:=by unfold yme; rw[hm]; rfl
  rw[hr];cases hmk:ydW a0
  ·rfl
  ·have:a0.2.2.2.2.2.2.2.2.2.2.2=true:=by
    unfold ydW at hmk;simp only[yah]at hmk;unfold ya at hm;revert hm hmk;cases yae a0<;>cases a0.2.2.2.2.2.2.2.2.2.2.1<;>cases ltb a0.2.2.2.2.2.2.2.1 60000<;>cases a0.2.2.2.2.2.2.2.2.2.2.2<;>decide
   rw[yXY (by rfl),yXY this]
 ·have hr:yme a0=yMD a0:=by unfold yme; rw[hm]; rfl
  rw[hr];simp only[Bool.and_eq_true,Bool.not_eq_true']at hm;obtain⟨ha,hdn,hbr,hlt⟩:=hm
  have hmk:ydW a0=true:=by
   unfold ydW;simp only[yah,ha,show a0.2.2.2.2.2.2.2.2.2.2.1=false from hdn,hlt]; rfl
  rw[hmk,yXY (by rfl),y52 hbr];have hgo:yd a0.2.1=true:=yi7 ha;have hle:=yFY ha
  have h1:=zkA (step:=ydl) 4 (fun i s=>yqj i yaJ s) yqR (fun _ s=>s.2.1=a0.2.1∧s.2.2.1.length=a0.2.2.1.length∧ya s=false) .inl
   (fun b=>match b with | .inl x=> .inl (yOl yaJ x) | .inr x=> .inr (yqt x)) (fun i s hi hs=>by
    constructor
    ·simp only[ydl,yqj,yqS,zkw (show(i:Int)<4 by omega),cond_true,wq ((i:Int)+1) (by omega) (by omega),Int.natCast_add,Int.natCast_one,Int.toNat_natCast,zkV]
     rw[yWK s s.2.2.2.2.2.1 (by unfold ypK; rw[hs.1,hgo]; rfl)];simp only[zkF,ykA];unfold yqR;cases hf:(yaC s s.2.2.2.2.2.1).2
     ·rfl
     ·cases leb 60000 s.2.2.2.2.2.1
      ·have ho:=y59 (a:=s) (q:=s.2.2.2.2.2.1) (by rw[hs.1]; exact hgo) hf
       have hr:ybh s (yaC s s.2.2.2.2.2.1).1=some ((!(ya (yh7 s)),()),(yh7 s,())):=yzC _ _ (by unfold yd4; rw[hs.2.2]; rfl)
       have hd:ya (yh7 s)=false→ya5 (yC (yh7 s)) (yaC s s.2.2.2.2.2.1).1.2.1 (yaC s s.2.2.2.2.2.1).1.2.2=some ((!(ya (ykT s)),()),(ykT s,())):=fun hd1=>yCt _ _ _ (by
         unfold yeX;simp only[Bool.and_eq_true,beq_iff_eq,Bool.not_eq_true'];rw[show(yC (yh7 s)).2.1=s.2.1 from y2Z s]
         exact⟨hd1,ho.1,ho.2,by rw[show(yC (yh7 s)).2.2.1.length=s.2.2.1.length from yIv s _,hs.2.1,hle,hs.1]⟩)
       rw[hr];generalize ykT s=R2 at hd ⊢;generalize yh7 s=R1 at hd ⊢;generalize yaC s s.2.2.2.2.2.1=F at hd ⊢;unfold yC at hd;simp only[Bool.not_true,Bool.not_false,cond_true,cond_false,Bool.or_self,zkF];cases hd1:ya R1
       ·simp only[Bool.not_true,Bool.not_false,cond_true,cond_false,hd hd1,zkF]
        cases hd2:ya R2
        ·rfl
        ·simp only[hd2,Bool.not_true,Bool.not_false,cond_true,yqt]
       ·simp only[hd1,Bool.not_true,Bool.not_false,cond_true,yqt]
      ·rfl
    ·intro s' h
     unfold yqR at h;cases hc:(!(yaC s s.2.2.2.2.2.1).2||leb 60000 s.2.2.2.2.2.1)
     ·rw[hc]at h
      cases hd1:ya (yh7 s)
      ·rw[hd1]at h
       cases hd2:ya (ykT s)
       ·rw[hd2]at h
        simp only[cond_false,Sum.inl.injEq]at h;subst h;exact⟨(y5K s).trans hs.1,(y5L s).trans hs.2.1,hd2⟩
       ·rw[hd2]at h; cases h
      ·rw[hd1]at h; cases h
     ·rw[hc]at h; cases h) (fun s hs=>by simp only[ydl,yqj,yqS]; rfl) a0 ⟨rfl,rfl,hdn⟩ 18446744073709551616 (by omega)
  have hdo: ∀b,goE yqR .inl 4 0 a0= .inl b→ya b=false:=fun b hb=>y20 4 0 a0 b hdn hb
  refine(congrArg (fun z=>zkr z _ _) (show yrY (yOr yaJ a0)=_ from h1)).trans ?_;unfold yMD;cases hg:goE yqR .inl 4 0 a0 with
  | inl b =>
   simp only[zkL,zkV];rw[yCs b (by unfold yhO; rw[hdo b hg]; rfl)]; rfl
  | inr b=>rfl
def yGh:Con:=⟨yrx,yAy,fun x=>(fun n=>some ((n,()),())) (yid x.1)⟩
theorem yZb:ConOk prog 28 yGh:=(yVR).mono (fun x r hk h=>(yYj x.1 hk).trans h)
def yoT:Code:=(f103.body).getD .skip
def ywR:Env:=zku TT [(81,yM),(127,yeQ),(133,yeR),(158,yaM)] []
theorem yND:FrOk prog ⟨ywR,45,fun _=>none⟩ yoT:=zky yf yg ⟨yS,yig,yjt,ybQ,trivial⟩
def yC7:Nat→Option Seg:=fun _=>none
def ybJ:Shape:=⟨[(1,false,[.int .i64]),(4,false,[.ptr 64 0]),(5,false,[.ptr 4224 0]),(18,false,[.br tW]),(19,false,[.int .i64]),(20,false,[.int .i64])],[(64,[.nil,.nil,.bool,.nil]),(4224,[.at 800000000,.at 800000001,.bool,.at 800000002])],[(800000000,tL,(.ow .fz)),(800000001,tW,(.pr .fz (.ow .fz))),(800000002,tI,.fz)]⟩
def yfn:Shape:=⟨[(1,false,[.int .i64]),(4,false,[.ptr 64 0]),(5,false,[.ptr 4224 0]),(18,false,[.br tW]),(19,false,[.int .i64]),(20,false,[.int .i64])],[(64,[.nil,.nil,.bool,.nil]),(4224,[.at 800000000,.at 800000001,.bool,.at 800000002])],[(800000000,tL,(.ow .fz)),(800000001,tW,(.pr .fz (.ow .fz))),(800000002,tI,.fz)]⟩
def yfe:Shape:=⟨[(4,false,[.ptr 64 0]),(5,false,[.ptr 4224 0])],[(64,[.nil,.nil,.bool,.nil]),(4224,[.at 800000000,.at 800000001,.bool,.at 800000002])],[(800000000,tL,(.ow .fz)),(800000001,tW,(.pr .fz (.ow .fz))),(800000002,tI,.fz)]⟩
def yiW:Shape:=⟨[],[],[]⟩
abbrev ymv (v0:Int) (v1:List dW) (v2 v3:Int) (v4 v5:dM):(ybJ).X:=(((v0,()),((),()),((),()),(v1,()),(v2,()),(v3,()),()),(((),(),v4.2.2.1,(),()),((),(),v5.2.2.1,(),()),()),(v5.1,v5.2.1,v5.2.2.2,()))
abbrev yJ2 (v0:Int) (v1:List dW) (v2 v3:Int) (v4 v5:dM):(yfn).X:=(((v0,()),((),()),((),()),(v1,()),(v2,()),(v3,()),()),(((),(),v4.2.2.1,(),()),((),(),v5.2.2.1,(),()),()),(v5.1,v5.2.1,v5.2.2.2,()))
abbrev yww (v0 v1:dM):(yfe).X:=((((),()),((),()),()),(((),(),v0.2.2.1,(),()),((),(),v1.2.2.1,(),()),()),(v1.1,v1.2.1,v1.2.2.2,()))
def ymK (v0:Int) (v1:List dW) (v2 v3:Int) (v4 v5:Bool) (v6:List (List Int)) (v7:List dW) (v8:List Int):Option ((ybJ).X ⊕ ((yfe).X ⊕ (yiW).X)) :=bif(ltb v3 v2)then bif(inb v3 v1.length)then bif(ltb v3 20)then bif(leb 0 v3)then bif((i64.wrap ((BitVec.ofInt IntKind.i64.bits (v0.fdiv (2^(min (v3).toNat IntKind.i64.bits))) &&& BitVec.ofInt IntKind.i64.bits 1).toNat:Int))==1)then let r5:=yx ((nth v1 v3 (0,[])).2);bif(inb ((nth v1 v3 (0,[])).1) v6.length)then some (.inl (((v0,()),((),()),((),()),(v1,()),(v2,()),((i64.wrap (v3+1)),()),()),(((),(),v4,(),()),((),(),v5,(),()),()),((v6.set ((nth v1 v3 (0,[])).1).toNat r5),v7,v8,()))) else none else some (.inl (((v0,()),((),()),((),()),(v1,()),(v2,()),((i64.wrap (v3+1)),()),()),(((),(),v4,(),()),((),(),v5,(),()),()),(v6,v7,v8,()))) else none else some (.inl (((v0,()),((),()),((),()),(v1,()),(v2,()),((i64.wrap (v3+1)),()),()),(((),(),v4,(),()),((),(),v5,(),()),()),(v6,v7,v8,()))) else none else some (.inr (.inl ((((),()),((),()),()),(((),(),v4,(),()),((),(),v5,(),()),()),(v6,v7,v8,()))))
def yb2 (x:(ybJ).X):=ymK x.1.1.1 x.1.2.2.2.1.1 x.1.2.2.2.2.1.1 x.1.2.2.2.2.2.1.1 x.2.1.1.2.2.1 x.2.1.2.1.2.2.1 x.2.2.1 x.2.2.2.1 x.2.2.2.2.1
def ywg (x:(yfn).X):(ybJ).X:=(((x.1.1.1,()),((),()),((),()),(x.1.2.2.2.1.1,()),(x.1.2.2.2.2.1.1,()),(x.1.2.2.2.2.2.1.1,()),()),(((),(),x.2.1.1.2.2.1,(),()),((),(),x.2.1.2.1.2.2.1,(),()),()),(x.2.2.1,x.2.2.2.1,x.2.2.2.2.1,()))
def yyI:Code:=(zeJ yoT 64 500).getD .skip
theorem yKG:zeJ yoT 64 125=some (.block 0 (.loop yyI)):=by kernel_rfl
theorem yMv (x:(ybJ).X):zhu ⟨ywR,45,yC7⟩ 0 yyI 500 ybJ yfe yiW x=yb2 x:=by kernel_rfl
def ywp (x:(yfn).X):Nat:=18446744073709551616
def yil (x:(yfn).X):Option ((yfe).X ⊕ (yiW).X):=zF yb2 (ywp x) (ywg x)
def ywF:Seg:=⟨yfn,yfe,yiW,yil⟩
def yPP:Nat→Option Seg:=fun q=>bif Nat.beq q 125 then some ywF else yC7 q
theorem yNE:FrOk prog ⟨ywR,45,yPP⟩ yoT:=(yND).loop (sg:=ywF) ybJ ywg (by decide) yKG yb2 ywp (by decide) (fun _=>rfl) (fun x r _ h=>h) yMv
abbrev yo6:List Par:= [.rd tM,.rd tI]
abbrev yxk:List OT:= [⟨false,tM,(.pr (.ow (.ow .fz)) (.pr (.ow (.pr .fz (.ow .fz))) (.pr .fz (.ow .fz))))⟩]
def ysA (a0:dM) (a1:Int):Option (zaY yxk×zak yo6) :=let r1:=yat a0;let r2:=yay a0;bif(!r2)then some ((r1,()),()) else let r3:=yj a1 0 1048575;bif(!r3)then zkr (yil (((0,()),((),()),((),()),(a0.2.1,()),((a0.2.1.length:Int),()),(0,()),()),(((),(),false,(),()),((),(),r1.2.2.1,(),()),()),(r1.1,r1.2.1,r1.2.2.2,()))) (fun y5 =>some (((y5.2.2.1,[],y5.2.1.2.1.2.2.1,y5.2.2.2.2.1),()),())) (fun y5 =>none) else zkr (yil (((a1,()),((),()),((),()),(a0.2.1,()),((a0.2.1.length:Int),()),(0,()),()),(((),(),false,(),()),((),(),r1.2.2.1,(),()),()),(r1.1,r1.2.1,r1.2.2.2,()))) (fun y6 =>some (((y6.2.2.1,[],y6.2.1.2.1.2.2.1,y6.2.2.2.2.1),()),())) (fun y6 =>none)
theorem ySc:ConOk prog 103 ⟨yo6,yxk,fun x=>ysA x.1 x.2.1⟩:=zkG (yNE) func103 ntmps103.symm fun x=>by kernel_rfl
def yg1 (a0:dM) (a1:Int):dM:=yd2 a0 a1
theorem yVj (a0:dM) (a1:Int) (hk:zjw yo6 (a0,a1,())):ysA a0 a1=(fun n=>some ((n,()),())) (yg1 a0 a1):=by
 have hb2:a0.2.1.length*32≤2^47:=hk.1.2.1.1;unfold ysA yg1 yd2;simp only[yat,yay,yal,ybU];cases hm:yv a0
 ·rfl
 have h1: ∀k,yil (yJ2 k a0.2.1 a0.2.1.length 0 yc a0)=some (.inl (yww yc (ygY (fun i=>decide (i<20)&&yMM k i) a0.2.1 a0.1,a0.2))):=fun k =>
  zkB (step:=yb2) a0.2.1.length (fun i s=>ymv k a0.2.1 a0.2.1.length i yc (s,a0.2)) (yfw (fun i=>decide (i<20)&&yMM k i) a0.2.1) (fun i s=>s.length=a0.1.length) (fun s=> .inl (yww yc (s,a0.2))) (fun i s hi hs=>by
   have hw:=(yRh hm hi).1;refine⟨?_,yvg.trans hs⟩;simp only[yb2,ymv,ymK,zkw (show(i:Int)<a0.2.1.length by omega),cond_true,wq ((i:Int)+1) (by omega) (by omega),Int.natCast_add,Int.natCast_one,Int.toNat_natCast,zk0 (show(0:Int)≤i by omega),zkP hi,hs,hw,yfw,yx];rw[show yMM k i=(i64.wrap ((BitVec.ofInt IntKind.i64.bits (k.fdiv (2^(min i IntKind.i64.bits))) &&& BitVec.ofInt IntKind.i64.bits 1).toNat:Int)==1)from rfl];by_cases h20:i<20
   ·rw[zkw (show(i:Int)<20 by omega),decide_eq_true h20]
    cases(i64.wrap ((BitVec.ofInt IntKind.i64.bits (k.fdiv (2^(min i IntKind.i64.bits))) &&& BitVec.ofInt IntKind.i64.bits 1).toNat:Int)==1)<;>rfl
   ·rw[zk1 (show(20:Int)≤i by omega),decide_eq_false h20]; rfl) (fun s hs=>by simp only[yb2,ymv,ymK,zk1 (Int.le_refl _),cond_false]) a0.1 rfl _ (by show _<18446744073709551616; omega)
 unfold yU2;rw[h1 0,h1 a1];cases(leb 0 a1&&leb a1 1048575)<;>rfl
def yEe:Con:=⟨yo6,yxk,fun x=>(fun n=>some ((n,()),())) (yg1 x.1 x.2.1)⟩
theorem yWr:ConOk prog 103 yEe:=(ySc).mono (fun x r hk h=>(yVj x.1 x.2.1 hk).trans h)
def yys:Code:=(f32.body).getD .skip
def yHa:Env:=zku TT [(103,yEe)] []
theorem yX1:FrOk prog ⟨yHa,33,fun _=>none⟩ yys:=zky yf yg ⟨yWr,trivial⟩
def yJm:Nat→Option Seg:=fun _=>none
def yeK:Shape:=⟨[(1,false,[.br tI]),(5,false,[.at 800000000]),(10,false,[.br tM]),(11,false,[.int .i64]),(12,false,[.int .i64])],[],[(800000000,tM,(.pr (.ow (.ow .fz)) (.pr (.ow (.pr .fz (.ow .fz))) (.pr .fz (.ow .fz)))))]⟩
def ykl:Shape:=⟨[(1,false,[.br tI]),(5,false,[.at 800000000]),(10,false,[.br tM]),(11,false,[.int .i64]),(12,false,[.ci .i64 0])],[],[(800000000,tM,(.pr (.ow (.ow .fz)) (.pr (.ow (.pr .fz (.ow .fz))) (.pr .fz (.ow .fz)))))]⟩
def yki:Shape:=⟨[(5,false,[.at 800000000])],[],[(800000000,tM,(.pr (.ow (.ow .fz)) (.pr (.ow (.pr .fz (.ow .fz))) (.pr .fz (.ow .fz)))))]⟩
def ypp:Shape:=⟨[],[],[]⟩
abbrev yvh (v0:List Int) (v1:List dM) (v2 v3:Int) (v4:List dM):(yeK).X:=(((v0,()),((),()),(v1,()),(v2,()),(v3,()),()),(),(v4,()))
abbrev yVb (v0:List Int) (v1:List dM) (v2:Int) (v3:List dM):(ykl).X:=(((v0,()),((),()),(v1,()),(v2,()),((),()),()),(),(v3,()))
abbrev yGI (v0:List dM):(yki).X:=((((),()),()),(),(v0,()))
def yvY (v0:List Int) (v1:List dM) (v2 v3:Int) (v4:List dM):Option ((yeK).X ⊕ ((yki).X ⊕ (ypp).X)) :=bif(ltb v3 v2)then bif(inb v3 v1.length)then bif(ltb v3 (v0.length:Int))then bif(inb v3 v0.length)then let r3:=yg1 ((nth v1 v3 ([],[],false,[])).1,((nth v1 v3 ([],[],false,[])).2).1,(((nth v1 v3 ([],[],false,[])).2).2)) (nth v0 v3 0);bif(zkj v4.length ([r3]:List dM).length 80)then some (.inl (((v0,()),((),()),(v1,()),(v2,()),((i64.wrap (v3+1)),()),()),(),((v4++([r3]:List dM)),()))) else none else none else let r4:=yg1 ((nth v1 v3 ([],[],false,[])).1,((nth v1 v3 ([],[],false,[])).2).1,(((nth v1 v3 ([],[],false,[])).2).2)) 0;bif(zkj v4.length ([r4]:List dM).length 80)then some (.inl (((v0,()),((),()),(v1,()),(v2,()),((i64.wrap (v3+1)),()),()),(),((v4++([r4]:List dM)),()))) else none else none else some (.inr (.inl ((((),()),()),(),(v4,()))))
def ye0 (x:(yeK).X):=yvY x.1.1.1 x.1.2.2.1.1 x.1.2.2.2.1.1 x.1.2.2.2.2.1.1 x.2.2.1
def yGy (x:(ykl).X):(yeK).X:=(((x.1.1.1,()),((),()),(x.1.2.2.1.1,()),(x.1.2.2.2.1.1,()),(0,()),()),(),(x.2.2.1,()))
def yHM:Code:=(zeJ yys 64 116).getD .skip
theorem yXU:zeJ yys 64 29=some (.block 0 (.loop yHM)):=by kernel_rfl
theorem yZx (x:(yeK).X):zhu ⟨yHa,33,yJm⟩ 0 yHM 116 yeK yki ypp x=ye0 x:=by kernel_rfl
def yGB (x:(ykl).X):Nat:=18446744073709551616
def yw2 (x:(ykl).X):Option ((yki).X ⊕ (ypp).X):=zF ye0 (yGB x) (yGy x)
def yG7:Seg:=⟨ykl,yki,ypp,yw2⟩
def y0M:Nat→Option Seg:=fun q=>bif Nat.beq q 29 then some yG7 else yJm q
theorem yX2:FrOk prog ⟨yHa,33,y0M⟩ yys:=(yX1).loop (sg:=yG7) yeK yGy (by decide) yXU ye0 yGB (by decide) (fun _=>rfl) (fun x r _ h=>h) yZx
abbrev yyu:List Par:= [.rd tMs,.rd tL]
abbrev yHe:List OT:= [⟨false,tMs,(.ow (.pr (.ow (.ow .fz)) (.pr (.ow (.pr .fz (.ow .fz))) (.pr .fz (.ow .fz)))))⟩]
def yBe (a0:List dM) (a1:List Int):Option (zaY yHe×zak yyu) :=zkr (yw2 (((a1,()),((),()),(a0,()),((a0.length:Int),()),((),()),()),(),(([]:List dM),()))) (fun y4 =>some ((y4.2.2.1,()),())) (fun y4 =>none)
theorem y1F:ConOk prog 32 ⟨yyu,yHe,fun x=>yBe x.1 x.2.1⟩:=zkG (yX2) func32 ntmps32.symm fun x=>by kernel_rfl
def yre (a0:List dM) (a1:List Int):List dM:=yaf a0 a1
theorem y2P (a0:List dM) (a1:List Int) (hk:zjw yyu (a0,a1,())):yBe a0 a1=(fun n=>some ((n,()),())) (yre a0 a1):=by
 have hb:a0.length*80≤2^47:=hk.1.1
 have h1:yw2 (yVb a1 a0 a0.length [])=some (.inl (yGI ((List.range a0.length).foldl (fun s (i:Nat)=>s++ [yd2 (nth a0 i yc) (yH6 a1 i)]) []))) :=
  zkB (step:=ye0) a0.length (fun i s=>yvh a1 a0 a0.length i s) (fun s (i:Nat)=>s++ [yd2 (nth a0 i yc) (yH6 a1 i)]) (fun i s=>s.length=i) (fun s=> .inl (yGI s)) (fun i s hi hs=>⟨by
   simp only[ye0,yvh,yvY,zkw (show(i:Int)<a0.length by omega),cond_true,wq ((i:Int)+1) (by omega) (by omega),Int.natCast_add,Int.natCast_one,Int.toNat_natCast,zkP hi,zkV,yg1,yH6];rw[zkD.2 (show(s.length+ [yd2 (nth a0 i ([],[],false,[])) (nth a1 i 0)].length)*80≤140737488355328 by simp only[List.length_cons,List.length_nil]; omega),zkD.2 (show(s.length+ [yd2 (nth a0 i ([],[],false,[])) 0].length)*80≤140737488355328 by simp only[List.length_cons,List.length_nil]; omega)];by_cases h:i<a1.length
   ·rw[zkw (show(i:Int)<a1.length by omega),zkP h,decide_eq_true h]; rfl
   ·rw[zk1 (show(a1.length:Int)≤i by omega),decide_eq_false h]; rfl,by simp[hs]⟩) (fun s hs=>by simp only[ye0,yvh,yvY,zk1 (Int.le_refl _),cond_false]) [] rfl _ (by show _<18446744073709551616; omega)
 unfold yBe yre yaf;rw[h1,yps]; rfl
def yJo:Con:=⟨yyu,yHe,fun x=>(fun n=>some ((n,()),())) (yre x.1 x.2.1)⟩
theorem y2U:ConOk prog 32 yJo:=(y1F).mono (fun x r hk h=>(y2P x.1 x.2.1 hk).trans h)
def yXd:Code:=(f19.body).getD .skip
def yXF:Env:=zku TT [(16,yBH),(28,yGh),(32,yJo),(81,yM)] []
theorem yNK:FrOk prog ⟨yXF,29,fun _=>none⟩ yXd:=zky yf yg ⟨ySG,yZb,y2U,yS,trivial⟩
abbrev yo9:List Par:= [.rd tMs,.rd tL,.rd tI,.rd tI]
abbrev yxn:List OT:= [⟨false,tA,(.pr .fz (.pr (.pr .fz .fz) (.pr (.ow (.pr (.ow (.ow .fz)) (.pr (.ow (.pr .fz (.ow .fz))) (.pr .fz (.ow .fz))))) (.pr .fz (.pr .fz (.pr .fz (.pr .fz (.pr .fz (.pr (.ow (.pr .fz (.ow .fz))) (.pr .fz (.pr .fz .fz)))))))))))⟩,⟨false,tB,.fz⟩]
def ysE (a0:List dM) (a1:List Int) (a2 a3:Int):Option (zaY yxn×zak yo9) :=let r1:=yre a0 a1;let r2:=yjf r1 a2;bif(!r2.2)then some (((0,(0,0),[],0,0,0,0,0,[],0,false,false),false,()),()) else let r3:=yj a3 (-1) 1000;bif r3 then let r4:=yid (r2.1.1,r2.1.2.1,r2.1.2.2.1,r2.1.2.2.2.1,r2.1.2.2.2.2.1,r2.1.2.2.2.2.2.1,r2.1.2.2.2.2.2.2.1,r2.1.2.2.2.2.2.2.2.1,r2.1.2.2.2.2.2.2.2.2.1,a3,r2.1.2.2.2.2.2.2.2.2.2.2);some ((r4,true,()),()) else let r5:=yid r2.1;some ((r5,true,()),())
theorem ySg:ConOk prog 19 ⟨yo9,yxn,fun x=>ysE x.1 x.2.1 x.2.2.1 x.2.2.2.1⟩:=zkG (yNK) func19 ntmps19.symm fun x=>by kernel_rfl
def ykC (a0:List dM) (a1:List Int) (a2 a3:Int):dA×Bool:=ylC a0 a1 a2 a3
theorem yVn (a0:List dM) (a1:List Int) (a2 a3:Int) (hk:zjw yo9 (a0,a1,a2,a3,())):ysE a0 a1 a2 a3=(fun n=>some ((n.1,n.2,()),())) (ykC a0 a1 a2 a3):=by
 unfold ysE ykC ylC;simp only[yre,yjf,yal,ybU,yid];cases h:(yfY (yaf a0 a1) a2).2
 ·rfl
 ·cases(leb (-1) a3&&leb a3 1000)<;>rfl
def yEh:Con:=⟨yo9,yxn,fun x=>(fun n=>some ((n.1,n.2,()),())) (ykC x.1 x.2.1 x.2.2.1 x.2.2.2.1)⟩
theorem yWu:ConOk prog 19 yEh:=(ySg).mono (fun x r hk h=>(yVn x.1 x.2.1 x.2.2.1 x.2.2.2.1 hk).trans h)
def yTl:Code:=(f34.body).getD .skip
def yTO:Env:=zku TT [(55,yeP),(95,ylm)] []
theorem yK6:FrOk prog ⟨yTO,11,fun _=>none⟩ yTl:=zky yf yg ⟨yif,yvv,trivial⟩
abbrev ym2:List Par:= [.rd tA]
abbrev yuh:List OT:= [⟨false,tA,(.pr .fz (.pr (.pr .fz .fz) (.pr (.ow (.pr (.ow (.ow .fz)) (.pr (.ow (.pr .fz (.ow .fz))) (.pr .fz (.ow .fz))))) (.pr .fz (.pr .fz (.pr .fz (.pr .fz (.pr .fz (.pr (.ow (.pr .fz (.ow .fz))) (.pr .fz (.pr .fz .fz)))))))))))⟩]
def yqD (a0:dA):Option (zaY yuh×zak ym2) :=let r1:=ybX a0;let r2:=yah a0;bif r2 then some (((r1.1,r1.2.1,r1.2.2.1,r1.2.2.2.1,r1.2.2.2.2.1,r1.2.2.2.2.2.1,r1.2.2.2.2.2.2.1,r1.2.2.2.2.2.2.2.1,r1.2.2.2.2.2.2.2.2.1,(-1),true,r1.2.2.2.2.2.2.2.2.2.2.2),()),()) else some ((r1,()),())
theorem yOQ:ConOk prog 34 ⟨ym2,yuh,fun x=>yqD x.1⟩:=zkG (yK6) func34 ntmps34.symm fun x=>by kernel_rfl
def yfL (a0:dA):dA:=bif yae a0 then y6Y a0 else a0
theorem yRQ (a0:dA) (hk:zjw ym2 (a0,())):yqD a0=(fun n=>some ((n,()),())) (yfL a0):=by
 unfold yqD yfL yah ybX;cases yae a0<;>rfl
def yBK:Con:=⟨ym2,yuh,fun x=>(fun n=>some ((n,()),())) (yfL x.1)⟩
theorem ySJ:ConOk prog 34 yBK:=(yOQ).mono (fun x r hk h=>(yRQ x.1 hk).trans h)
def y0I:Code:=(f178.body).getD .skip
def y1e:Env:=zku TT [] []
theorem yQ5:FrOk prog ⟨y1e,6,fun _=>none⟩ y0I:=zky yf yg trivial
abbrev yAo:List Par:= [.rd tG]
abbrev yAV:List OT:= [⟨false,tI,.fz⟩]
def yG5 (a0:dG):Option (zaY yAV×zak yAo) :=some (((i64.wrap (6+a0.2)),()),())
theorem yWh:ConOk prog 178 ⟨yAo,yAV,fun x=>yG5 x.1⟩:=zkG (yQ5) func178 ntmps178.symm fun x=>by kernel_rfl
def ycX (a0:dG):Int :=(i64.wrap (6+a0.2))
def yny:Con:=⟨yAo,yAV,fun x=>(fun n=>some ((n,()),())) (ycX x.1)⟩
theorem yYF (a0:dG):yG5 a0=(fun n=>some ((n,()),())) (ycX a0):=zkT (p:=fun(n:Int)=>((n,()),())) rfl
theorem yxZ:ConOk prog 178 yny:=(yWh).mono (fun x r _ h=>(yYF x.1).trans h)
def yro:Code:=(f151.body).getD .skip
def yz1:Env:=zku TT [(160,ygX),(178,yny)] []
theorem yQ3:FrOk prog ⟨yz1,51,fun _=>none⟩ yro:=zky yf yg ⟨ymb,yxZ,trivial⟩
def yFT:Nat→Option Seg:=fun _=>none
def yc8:Shape:=⟨[(1,false,[.ptr 0 0]),(3,false,[.int .i64])],[(0,[.int .i64,.int .i64,.int .i64,.br tM,.int .i64,.int .i64,.int .i64,.int .i64,.int .i64,.br tW,.int .i64,.bool,.bool])],[]⟩
def yhw:Shape:=⟨[(1,false,[.ptr 0 0]),(3,false,[.ci .i64 0])],[(0,[.int .i64,.int .i64,.int .i64,.br tM,.int .i64,.int .i64,.int .i64,.int .i64,.int .i64,.br tW,.int .i64,.bool,.bool])],[]⟩
def yhl:Shape:=⟨[(1,false,[.ptr 0 0])],[(0,[.int .i64,.int .i64,.int .i64,.br tM,.int .i64,.int .i64,.int .i64,.int .i64,.int .i64,.br tW,.int .i64,.bool,.bool])],[]⟩
def yhB:Shape:=⟨[(2,false,[.bool])],[],[]⟩
abbrev yqq (v0:Int) (v1:dA):(yc8).X:=((((),()),(v0,()),()),((v1.1,v1.2.1.1,v1.2.1.2,v1.2.2.1,v1.2.2.2.1,v1.2.2.2.2.1,v1.2.2.2.2.2.1,v1.2.2.2.2.2.2.1,v1.2.2.2.2.2.2.2.1,v1.2.2.2.2.2.2.2.2.1,v1.2.2.2.2.2.2.2.2.2.1,v1.2.2.2.2.2.2.2.2.2.2.1,v1.2.2.2.2.2.2.2.2.2.2.2,()),()),())
abbrev yOz (v0:dA):(yhw).X:=((((),()),((),()),()),((v0.1,v0.2.1.1,v0.2.1.2,v0.2.2.1,v0.2.2.2.1,v0.2.2.2.2.1,v0.2.2.2.2.2.1,v0.2.2.2.2.2.2.1,v0.2.2.2.2.2.2.2.1,v0.2.2.2.2.2.2.2.2.1,v0.2.2.2.2.2.2.2.2.2.1,v0.2.2.2.2.2.2.2.2.2.2.1,v0.2.2.2.2.2.2.2.2.2.2.2,()),()),())
abbrev yOq (v0:dA):(yhl).X:=((((),()),()),((v0.1,v0.2.1.1,v0.2.1.2,v0.2.2.1,v0.2.2.2.1,v0.2.2.2.2.1,v0.2.2.2.2.2.1,v0.2.2.2.2.2.2.1,v0.2.2.2.2.2.2.2.1,v0.2.2.2.2.2.2.2.2.1,v0.2.2.2.2.2.2.2.2.2.1,v0.2.2.2.2.2.2.2.2.2.2.1,v0.2.2.2.2.2.2.2.2.2.2.2,()),()),())
abbrev yOD (v0:Bool):(yhB).X:=(((v0,()),()),(),())
def yq0 (v0 v1 v2 v3:Int) (v4:List dM) (v5 v6 v7 v8 v9:Int) (v10:List dW) (v11:Int) (v12 v13:Bool):Option ((yc8).X ⊕ ((yhl).X ⊕ (yhB).X)) :=bif(ltb v0 (v4.length:Int))then bif(inb v0 v4.length)then let r3:=yaS ((nth v4 v0 ([],[],false,[])).1,((nth v4 v0 ([],[],false,[])).2).1,(((nth v4 v0 ([],[],false,[])).2).2));bif(!(!r3))then let r4:=ycX (v2,v3);bif(!((((nth v4 v0 ([],[],false,[])).1).length:Int) !=r4))then bif(((nth v4 v0 ([],[],false,[])).2).2).1 then bif(v0 !=v5)then bif(!v13)then some (.inr (.inr (((false,()),()),(),()))) else some (.inl ((((),()),((i64.wrap (v0+1)),()),()),((v1,v2,v3,v4,v5,v6,v7,v8,v9,v10,v11,v12,v13,()),()),())) else some (.inl ((((),()),((i64.wrap (v0+1)),()),()),((v1,v2,v3,v4,v5,v6,v7,v8,v9,v10,v11,v12,v13,()),()),())) else some (.inl ((((),()),((i64.wrap (v0+1)),()),()),((v1,v2,v3,v4,v5,v6,v7,v8,v9,v10,v11,v12,v13,()),()),())) else some (.inr (.inr (((false,()),()),(),()))) else some (.inr (.inr (((false,()),()),(),()))) else none else some (.inr (.inl ((((),()),()),((v1,v2,v3,v4,v5,v6,v7,v8,v9,v10,v11,v12,v13,()),()),())))
def ydt (x:(yc8).X):=yq0 x.1.2.1.1 x.2.1.1.1 x.2.1.1.2.1 x.2.1.1.2.2.1 x.2.1.1.2.2.2.1 x.2.1.1.2.2.2.2.1 x.2.1.1.2.2.2.2.2.1 x.2.1.1.2.2.2.2.2.2.1 x.2.1.1.2.2.2.2.2.2.2.1 x.2.1.1.2.2.2.2.2.2.2.2.1 x.2.1.1.2.2.2.2.2.2.2.2.2.1 x.2.1.1.2.2.2.2.2.2.2.2.2.2.1 x.2.1.1.2.2.2.2.2.2.2.2.2.2.2.1 x.2.1.1.2.2.2.2.2.2.2.2.2.2.2.2.1
def yB8 (x:(yhw).X):(yc8).X:=((((),()),(0,()),()),((x.2.1.1.1,x.2.1.1.2.1,x.2.1.1.2.2.1,x.2.1.1.2.2.2.1,x.2.1.1.2.2.2.2.1,x.2.1.1.2.2.2.2.2.1,x.2.1.1.2.2.2.2.2.2.1,x.2.1.1.2.2.2.2.2.2.2.1,x.2.1.1.2.2.2.2.2.2.2.2.1,x.2.1.1.2.2.2.2.2.2.2.2.2.1,x.2.1.1.2.2.2.2.2.2.2.2.2.2.1,x.2.1.1.2.2.2.2.2.2.2.2.2.2.2.1,x.2.1.1.2.2.2.2.2.2.2.2.2.2.2.2.1,()),()),())
def yD9:Code:=(zeJ yro 64 52).getD .skip
theorem yQf:zeJ yro 64 13=some (.block 0 (.loop yD9)):=by kernel_rfl
theorem yTb (x:(yc8).X):zhu ⟨yz1,51,yFT⟩ 0 yD9 52 yc8 yhl yhB x=ydt x:=by kernel_rfl
def yCj (x:(yhw).X):Nat:=18446744073709551616
def yr6 (x:(yhw).X):Option ((yhl).X ⊕ (yhB).X):=zF ydt (yCj x) (yB8 x)
def yCI:Seg:=⟨yhw,yhl,yhB,yr6⟩
def yTI:Nat→Option Seg:=fun q=>bif Nat.beq q 13 then some yCI else yFT q
theorem yQ4:FrOk prog ⟨yz1,51,yTI⟩ yro:=(yQ3).loop (sg:=yCI) yc8 yB8 (by decide) yQf ydt yCj (by decide) (fun _=>rfl) (fun x r _ h=>h) yTb
abbrev ylO:List Par:= [.rd tA]
abbrev yrJ:List OT:= [⟨false,tB,.fz⟩]
def yvM (a0:dA):Option (zaY yrJ×zak ylO) :=zkr (yr6 ((((),()),((),()),()),((a0.1,a0.2.1.1,a0.2.1.2,a0.2.2.1,a0.2.2.2.1,a0.2.2.2.2.1,a0.2.2.2.2.2.1,a0.2.2.2.2.2.2.1,a0.2.2.2.2.2.2.2.1,a0.2.2.2.2.2.2.2.2.1,a0.2.2.2.2.2.2.2.2.2.1,a0.2.2.2.2.2.2.2.2.2.2.1,a0.2.2.2.2.2.2.2.2.2.2.2,()),()),())) (fun y4 =>some ((((y4.2.1.1.2.2.2.1.length:Int)==y4.2.1.1.2.1),()),())) (fun y4 =>some ((y4.1.1.1,()),()))
theorem yWg:ConOk prog 151 ⟨ylO,yrJ,fun x=>yvM x.1⟩:=zkG (yQ4) func151 ntmps151.symm fun x=>by kernel_rfl
def yl7 (a0:dA):Bool:=ylW a0
def yBc (a0:dA):Bool:=yd a0.2.1
theorem yYE (a0:dA) (hk:zjw ylO (a0,())) (hq:yBc a0=true):yvM a0=(fun n=>some ((n,()),())) (yl7 a0):=by
 have hb:a0.2.2.1.length*80≤2^47:=hk.1.2.2.1.1;have hg:=yl.1 hq
 have h1:yr6 (yOz a0)=some (bif(List.range a0.2.2.1.length).any (yhD a0)then .inr (yOD false)else .inl (yOq a0)) :=
  zjh (step:=ydt) (fun i=>yqq i a0) a0.2.2.1.length (yhD a0) _ _ (fun i hi=>by
   simp only[ydt,yqq,yq0,zkw (show(i:Int)<a0.2.2.1.length by omega),cond_true,wq ((i:Int)+1) (by omega) (by omega),Int.natCast_add,Int.natCast_one,Int.toNat_natCast,zkP hi,zkV,yaS,yhD,ycX,wq (6+a0.2.1.2) (by omega) (by omega),yc]
   cases yv (nth a0.2.2.1 i ([],[],false,[]))<;>cases(((nth a0.2.2.1 i ([],[],false,[])).1.length:Int) !=6+a0.2.1.2)<;>cases(nth a0.2.2.1 i ([],[],false,[])).2.2.1<;>cases((i:Int) !=a0.2.2.2.1)<;>cases a0.2.2.2.2.2.2.2.2.2.2.2<;>rfl) (by simp only[ydt,yqq,yq0,zk1 (Int.le_refl _),cond_false]) _ (by show _<18446744073709551616; omega)
 unfold yvM yl7 ylW;rw[h1];cases(List.range a0.2.2.1.length).any (yhD a0)<;>rfl
def yrR (a0:dA):Option (zaY yrJ×zak ylO):=bif yBc a0 then(fun n=>some ((n,()),())) (yl7 a0)else none
theorem yZv (a0:dA) (h:yBc a0=true):yrR a0=(fun n=>some ((n,()),())) (yl7 a0):=by unfold yrR; rw[h]; rfl
def yGu:Con:=⟨ylO,yrJ,fun x=>yrR x.1⟩
theorem yZo:ConOk prog 151 yGu:=(yWg).mono (fun x r hk h=>zkW h (fun hq=>yYE x.1 hk hq))
def y14:Code:=(f78.body).getD .skip
def y2i:Env:=zku TT [(82,yL),(150,ygW),(151,yGu),(152,yEu)] []
theorem yUC:FrOk prog ⟨y2i,78,fun _=>none⟩ y14:=zky yf yg ⟨yT,yma,yZo,yWH,trivial⟩
abbrev yt3:List Par:= [.rd tA]
abbrev yDK:List OT:= [⟨false,tB,.fz⟩]
def yyb (a0:dA):Option (zaY yDK×zak yt3) :=let r1:=yd a0.2.1;bif(!(!r1))then let r2:=yb a0.1 1 60000;bif(!(!r2))then bnd (yrR a0) fun r3 =>bif(!(!r3.1.1))then bnd (ypG a0) fun r4 =>bif(!r4.1.1)then some ((false,()),()) else let r5:=yb a0.2.2.2.1 (-1) (i64.wrap (a0.2.1.1-1));bif(!(!r5))then let r6:=yb a0.2.2.2.2.1 0 a0.2.1.2;bif(!(!r6))then bif(a0.2.2.2.1==(-1))then bif(a0.2.2.2.2.1 !=0)then some ((false,()),()) else let r7:=yb a0.2.2.2.2.2.2.1 0 60000;bif r7 then let r8:=yb a0.2.2.2.2.2.1 a0.2.2.2.2.2.2.1 60000;bif r8 then bif(leb a0.2.2.2.2.2.1 (i64.wrap (a0.2.2.2.2.2.2.1+4)))then let r9:=yb a0.2.2.2.2.2.2.2.1 0 60000;bif r9 then let r10:=yb a0.2.2.2.2.2.2.2.2.2.1 (-1) 1000;some ((r10,()),()) else some ((false,()),()) else some ((false,()),()) else some ((false,()),()) else some ((false,()),()) else let r11:=yb a0.2.2.2.2.2.2.1 0 60000;bif r11 then let r12:=yb a0.2.2.2.2.2.1 a0.2.2.2.2.2.2.1 60000;bif r12 then bif(leb a0.2.2.2.2.2.1 (i64.wrap (a0.2.2.2.2.2.2.1+4)))then let r13:=yb a0.2.2.2.2.2.2.2.1 0 60000;bif r13 then let r14:=yb a0.2.2.2.2.2.2.2.2.2.1 (-1) 1000;some ((r14,()),()) else some ((false,()),()) else some ((false,()),()) else some ((false,()),()) else some ((false,()),()) else some ((false,()),()) else some ((false,()),()) else some ((false,()),()) else some ((false,()),()) else some ((false,()),())
theorem yYT:ConOk prog 78 ⟨yt3,yDK,fun x=>yyb x.1⟩:=zkG (yUC) func78 ntmps78.symm fun x=>by kernel_rfl
def ycT (a0:dA):Bool:=yae a0
theorem y1s (a0:dA) (hk:zjw yt3 (a0,())):yyb a0=(fun n=>some ((n,()),())) (ycT a0):=by
 unfold yyb ycT yae;simp only[ybU];cases hg:yd a0.2.1
 ·rfl
 have hg2:=yl.1 hg;rw[yZv a0 hg,yWO a0 hg,wq (a0.2.1.1-1) (by omega) (by omega)];simp only[zkF,yl7,ykH,Bool.not_not,cond_true];cases(leb 1 a0.1&&leb a0.1 60000)
 ·rfl
 cases ylW a0
 ·rfl
 cases yaY a0.2.1 a0.2.2.2.2.2.2.2.2.1
 ·rfl
 cases(leb (-1) a0.2.2.2.1&&leb a0.2.2.2.1 (a0.2.1.1-1))
 ·rfl
 cases(leb 0 a0.2.2.2.2.1&&leb a0.2.2.2.2.1 a0.2.1.2)
 ·rfl
 have ht:(leb 0 a0.2.2.2.2.2.2.1&&leb a0.2.2.2.2.2.2.1 60000)=true→i64.wrap (a0.2.2.2.2.2.2.1+4)=a0.2.2.2.2.2.2.1+4:=fun h=>by
  rw[Bool.and_eq_true,zj5,zj5]at h;exact wr (by omega) (by omega)
 cases hT:(leb 0 a0.2.2.2.2.2.2.1&&leb a0.2.2.2.2.2.2.1 60000)
 ·cases(a0.2.2.2.1== -1)<;>cases(a0.2.2.2.2.1 !=0)<;>rfl
 rw[ht hT];cases(leb a0.2.2.2.2.2.2.1 a0.2.2.2.2.2.1&&leb a0.2.2.2.2.2.1 60000)
 ·cases(a0.2.2.2.1== -1)<;>cases(a0.2.2.2.2.1 !=0)<;>rfl
 cases leb a0.2.2.2.2.2.1 (a0.2.2.2.2.2.2.1+4)
 ·cases(a0.2.2.2.1== -1)<;>cases(a0.2.2.2.2.1 !=0)<;>rfl
 cases(leb 0 a0.2.2.2.2.2.2.2.1&&leb a0.2.2.2.2.2.2.2.1 60000)<;>cases(a0.2.2.2.1== -1)<;>cases(a0.2.2.2.2.1 !=0)<;>rfl
def yxK:Con:=⟨yt3,yDK,fun x=>(fun n=>some ((n,()),())) (ycT x.1)⟩
theorem yJu:ConOk prog 78 yxK:=(yYT).mono (fun x r hk h=>(y1s x.1 hk).trans h)
def yeJ:Code:=(f44.body).getD .skip
def yj7:Env:=zku TT [(78,yxK),(82,yL),(113,ydT)] []
theorem yNY:FrOk prog ⟨yj7,68,fun _=>none⟩ yeJ:=zky yf yg ⟨yJu,yT,yg5,trivial⟩
def yDf:Nat→Option Seg:=fun _=>none
def ybm:Shape:=⟨[(1,false,[.int .i64]),(2,false,[.ptr 0 0]),(5,false,[.int .i64]),(6,false,[.int .i64])],[(0,[.int .i64,.int .i64,.int .i64,.br tM,.int .i64,.int .i64,.int .i64,.int .i64,.int .i64,.br tW,.int .i64,.bool,.bool])],[]⟩
def yeC:Shape:=⟨[(1,false,[.int .i64]),(2,false,[.ptr 0 0]),(5,false,[.int .i64]),(6,false,[.ci .i64 0])],[(0,[.int .i64,.int .i64,.int .i64,.br tM,.int .i64,.int .i64,.int .i64,.int .i64,.int .i64,.br tW,.int .i64,.bool,.bool])],[]⟩
def yev:Shape:=⟨[(1,false,[.int .i64]),(2,false,[.ptr 0 0]),(5,false,[.int .i64])],[(0,[.int .i64,.int .i64,.int .i64,.br tM,.int .i64,.int .i64,.int .i64,.int .i64,.int .i64,.br tW,.int .i64,.bool,.bool])],[]⟩
def yeF:Shape:=⟨[(4,false,[.bool])],[],[]⟩
abbrev ylt (v0 v1 v2:Int) (v3:dA):(ybm).X:=(((v0,()),((),()),(v1,()),(v2,()),()),((v3.1,v3.2.1.1,v3.2.1.2,v3.2.2.1,v3.2.2.2.1,v3.2.2.2.2.1,v3.2.2.2.2.2.1,v3.2.2.2.2.2.2.1,v3.2.2.2.2.2.2.2.1,v3.2.2.2.2.2.2.2.2.1,v3.2.2.2.2.2.2.2.2.2.1,v3.2.2.2.2.2.2.2.2.2.2.1,v3.2.2.2.2.2.2.2.2.2.2.2,()),()),())
abbrev yvo (v0 v1:Int) (v2:dA):(yeC).X:=(((v0,()),((),()),(v1,()),((),()),()),((v2.1,v2.2.1.1,v2.2.1.2,v2.2.2.1,v2.2.2.2.1,v2.2.2.2.2.1,v2.2.2.2.2.2.1,v2.2.2.2.2.2.2.1,v2.2.2.2.2.2.2.2.1,v2.2.2.2.2.2.2.2.2.1,v2.2.2.2.2.2.2.2.2.2.1,v2.2.2.2.2.2.2.2.2.2.2.1,v2.2.2.2.2.2.2.2.2.2.2.2,()),()),())
abbrev yvn (v0 v1:Int) (v2:dA):(yev).X:=(((v0,()),((),()),(v1,()),()),((v2.1,v2.2.1.1,v2.2.1.2,v2.2.2.1,v2.2.2.2.1,v2.2.2.2.2.1,v2.2.2.2.2.2.1,v2.2.2.2.2.2.2.1,v2.2.2.2.2.2.2.2.1,v2.2.2.2.2.2.2.2.2.1,v2.2.2.2.2.2.2.2.2.2.1,v2.2.2.2.2.2.2.2.2.2.2.1,v2.2.2.2.2.2.2.2.2.2.2.2,()),()),())
abbrev yvp (v0:Bool):(yeF).X:=(((v0,()),()),(),())
def ylH (v0 v1 v2 v3 v4 v5:Int) (v6:List dM) (v7 v8 v9 v10 v11:Int) (v12:List dW) (v13:Int) (v14 v15:Bool):Option ((ybm).X ⊕ ((yev).X ⊕ (yeF).X)) :=bif(inb v1 v6.length)then bif(ltb v2 (((((nth v6 v1 ([],[],false,[])).2).2).2).length:Int))then bif(v1 !=v0)then bif(inb v1 v6.length)then bif(inb v2 ((((nth v6 v1 ([],[],false,[])).2).2).2).length)then let r4:=yba 0;bif(leb r4 (nth ((((nth v6 v1 ([],[],false,[])).2).2).2) v2 0))then some (.inr (.inr (((false,()),()),(),()))) else some (.inl (((v0,()),((),()),(v1,()),((i64.wrap (v2+1)),()),()),((v3,v4,v5,v6,v7,v8,v9,v10,v11,v12,v13,v14,v15,()),()),())) else none else none else some (.inl (((v0,()),((),()),(v1,()),((i64.wrap (v2+1)),()),()),((v3,v4,v5,v6,v7,v8,v9,v10,v11,v12,v13,v14,v15,()),()),())) else some (.inr (.inl (((v0,()),((),()),(v1,()),()),((v3,v4,v5,v6,v7,v8,v9,v10,v11,v12,v13,v14,v15,()),()),()))) else none
def ybD (x:(ybm).X):=ylH x.1.1.1 x.1.2.2.1.1 x.1.2.2.2.1.1 x.2.1.1.1 x.2.1.1.2.1 x.2.1.1.2.2.1 x.2.1.1.2.2.2.1 x.2.1.1.2.2.2.2.1 x.2.1.1.2.2.2.2.2.1 x.2.1.1.2.2.2.2.2.2.1 x.2.1.1.2.2.2.2.2.2.2.1 x.2.1.1.2.2.2.2.2.2.2.2.1 x.2.1.1.2.2.2.2.2.2.2.2.2.1 x.2.1.1.2.2.2.2.2.2.2.2.2.2.1 x.2.1.1.2.2.2.2.2.2.2.2.2.2.2.1 x.2.1.1.2.2.2.2.2.2.2.2.2.2.2.2.1
def yu1 (x:(yeC).X):(ybm).X:=(((x.1.1.1,()),((),()),(x.1.2.2.1.1,()),(0,()),()),((x.2.1.1.1,x.2.1.1.2.1,x.2.1.1.2.2.1,x.2.1.1.2.2.2.1,x.2.1.1.2.2.2.2.1,x.2.1.1.2.2.2.2.2.1,x.2.1.1.2.2.2.2.2.2.1,x.2.1.1.2.2.2.2.2.2.2.1,x.2.1.1.2.2.2.2.2.2.2.2.1,x.2.1.1.2.2.2.2.2.2.2.2.2.1,x.2.1.1.2.2.2.2.2.2.2.2.2.2.1,x.2.1.1.2.2.2.2.2.2.2.2.2.2.2.1,x.2.1.1.2.2.2.2.2.2.2.2.2.2.2.2.1,()),()),())
def yv7:Code:=(zeJ yeJ 64 7460).getD .skip
theorem yJI:zeJ yeJ 64 1865=some (.block 2 (.loop yv7)):=by kernel_rfl
theorem yKr (x:(ybm).X):zhu ⟨yj7,68,yDf⟩ 2 yv7 7460 ybm yev yeF x=ybD x:=by kernel_rfl
def yva (x:(yeC).X):Nat:=18446744073709551616
def yhT (x:(yeC).X):Option ((yev).X ⊕ (yeF).X):=zF ybD (yva x) (yu1 x)
def yvV:Seg:=⟨yeC,yev,yeF,yhT⟩
def yrV:Nat→Option Seg:=fun q=>bif Nat.beq q 1865 then some yvV else yDf q
theorem yNZ:FrOk prog ⟨yj7,68,yrV⟩ yeJ:=(yNY).loop (sg:=yvV) ybm yu1 (by decide) yJI ybD yva (by decide) (fun _=>rfl) (fun x r _ h=>h) yKr
def yci:Shape:=⟨[(1,false,[.int .i64]),(2,false,[.ptr 0 0]),(5,false,[.int .i64])],[(0,[.int .i64,.int .i64,.int .i64,.br tM,.int .i64,.int .i64,.int .i64,.int .i64,.int .i64,.br tW,.int .i64,.bool,.bool])],[]⟩
def ygw:Shape:=⟨[(1,false,[.int .i64]),(2,false,[.ptr 0 0]),(5,false,[.ci .i64 0])],[(0,[.int .i64,.int .i64,.int .i64,.br tM,.int .i64,.int .i64,.int .i64,.int .i64,.int .i64,.br tW,.int .i64,.bool,.bool])],[]⟩
def ygi:Shape:=⟨[],[],[]⟩
def ygG:Shape:=⟨[(4,false,[.bool])],[],[]⟩
abbrev yok (v0 v1:Int) (v2:dA):(yci).X:=(((v0,()),((),()),(v1,()),()),((v2.1,v2.2.1.1,v2.2.1.2,v2.2.2.1,v2.2.2.2.1,v2.2.2.2.2.1,v2.2.2.2.2.2.1,v2.2.2.2.2.2.2.1,v2.2.2.2.2.2.2.2.1,v2.2.2.2.2.2.2.2.2.1,v2.2.2.2.2.2.2.2.2.2.1,v2.2.2.2.2.2.2.2.2.2.2.1,v2.2.2.2.2.2.2.2.2.2.2.2,()),()),())
abbrev yLV (v0:Int) (v1:dA):(ygw).X:=(((v0,()),((),()),((),()),()),((v1.1,v1.2.1.1,v1.2.1.2,v1.2.2.1,v1.2.2.2.1,v1.2.2.2.2.1,v1.2.2.2.2.2.1,v1.2.2.2.2.2.2.1,v1.2.2.2.2.2.2.2.1,v1.2.2.2.2.2.2.2.2.1,v1.2.2.2.2.2.2.2.2.2.1,v1.2.2.2.2.2.2.2.2.2.2.1,v1.2.2.2.2.2.2.2.2.2.2.2,()),()),())
abbrev yLI  :(ygi).X:=((),(),())
abbrev yL4 (v0:Bool):(ygG).X:=(((v0,()),()),(),())
def yoK (v0 v1 v2 v3 v4:Int) (v5:List dM) (v6 v7 v8 v9 v10:Int) (v11:List dW) (v12:Int) (v13 v14:Bool):Option ((yci).X ⊕ ((ygi).X ⊕ (ygG).X)) :=bif(ltb v1 (v5.length:Int))then zkr (yhT (((v0,()),((),()),(v1,()),((),()),()),((v2,v3,v4,v5,v6,v7,v8,v9,v10,v11,v12,v13,v14,()),()),())) (fun y5 =>some (.inl (((y5.1.1.1,()),((),()),((i64.wrap (y5.1.2.2.1.1+1)),()),()),((y5.2.1.1.1,y5.2.1.1.2.1,y5.2.1.1.2.2.1,y5.2.1.1.2.2.2.1,y5.2.1.1.2.2.2.2.1,y5.2.1.1.2.2.2.2.2.1,y5.2.1.1.2.2.2.2.2.2.1,y5.2.1.1.2.2.2.2.2.2.2.1,y5.2.1.1.2.2.2.2.2.2.2.2.1,y5.2.1.1.2.2.2.2.2.2.2.2.2.1,y5.2.1.1.2.2.2.2.2.2.2.2.2.2.1,y5.2.1.1.2.2.2.2.2.2.2.2.2.2.2.1,y5.2.1.1.2.2.2.2.2.2.2.2.2.2.2.2.1,()),()),()))) (fun y5 =>some (.inr (.inr (((y5.1.1.1,()),()),(),())))) else some (.inr (.inl ((),(),())))
def ycE (x:(yci).X):=yoK x.1.1.1 x.1.2.2.1.1 x.2.1.1.1 x.2.1.1.2.1 x.2.1.1.2.2.1 x.2.1.1.2.2.2.1 x.2.1.1.2.2.2.2.1 x.2.1.1.2.2.2.2.2.1 x.2.1.1.2.2.2.2.2.2.1 x.2.1.1.2.2.2.2.2.2.2.1 x.2.1.1.2.2.2.2.2.2.2.2.1 x.2.1.1.2.2.2.2.2.2.2.2.2.1 x.2.1.1.2.2.2.2.2.2.2.2.2.2.1 x.2.1.1.2.2.2.2.2.2.2.2.2.2.2.1 x.2.1.1.2.2.2.2.2.2.2.2.2.2.2.2.1
def yy4 (x:(ygw).X):(yci).X:=(((x.1.1.1,()),((),()),(0,()),()),((x.2.1.1.1,x.2.1.1.2.1,x.2.1.1.2.2.1,x.2.1.1.2.2.2.1,x.2.1.1.2.2.2.2.1,x.2.1.1.2.2.2.2.2.1,x.2.1.1.2.2.2.2.2.2.1,x.2.1.1.2.2.2.2.2.2.2.1,x.2.1.1.2.2.2.2.2.2.2.2.1,x.2.1.1.2.2.2.2.2.2.2.2.2.1,x.2.1.1.2.2.2.2.2.2.2.2.2.2.1,x.2.1.1.2.2.2.2.2.2.2.2.2.2.2.1,x.2.1.1.2.2.2.2.2.2.2.2.2.2.2.2.1,()),()),())
def yBA:Code:=(zeJ yeJ 64 116).getD .skip
theorem yNs:zeJ yeJ 64 29=some (.block 0 (.loop yBA)):=by kernel_rfl
theorem yPn (x:(yci).X):zhu ⟨yj7,68,yrV⟩ 0 yBA 116 yci ygi ygG x=ycE x:=by kernel_rfl
def yzl (x:(ygw).X):Nat:=18446744073709551616
def yjJ (x:(ygw).X):Option ((ygi).X ⊕ (ygG).X):=zF ycE (yzl x) (yy4 x)
def yzP:Seg:=⟨ygw,ygi,ygG,yjJ⟩
def yPW:Nat→Option Seg:=fun q=>bif Nat.beq q 29 then some yzP else yrV q
theorem yN0:FrOk prog ⟨yj7,68,yPW⟩ yeJ:=(yNZ).loop (sg:=yzP) yci yy4 (by decide) yNs ycE yzl (by decide) (fun _=>rfl) (fun x r _ h=>h) yPn
abbrev ypd:List Par:= [.rd tA,.rd tI]
abbrev yxv:List OT:= [⟨false,tB,.fz⟩]
def ysJ (a0:dA) (a1:Int):Option (zaY yxv×zak ypd) :=let r1:=ycT a0;bif(!(!r1))then bif(!a0.2.2.2.2.2.2.2.2.2.2.2)then let r2:=yb a1 0 (i64.wrap ((a0.2.2.1.length:Int)-1));bif(!(!r2))then bif(a0.2.2.2.1 !=(-1))then bif(a0.2.2.2.1 !=a1)then some ((false,()),()) else zkr (yjJ (((a1,()),((),()),((),()),()),((a0.1,a0.2.1.1,a0.2.1.2,a0.2.2.1,a0.2.2.2.1,a0.2.2.2.2.1,a0.2.2.2.2.2.1,a0.2.2.2.2.2.2.1,a0.2.2.2.2.2.2.2.1,a0.2.2.2.2.2.2.2.2.1,a0.2.2.2.2.2.2.2.2.2.1,a0.2.2.2.2.2.2.2.2.2.2.1,a0.2.2.2.2.2.2.2.2.2.2.2,()),()),())) (fun y6 =>some ((true,()),())) (fun y6 =>some ((y6.1.1.1,()),())) else zkr (yjJ (((a1,()),((),()),((),()),()),((a0.1,a0.2.1.1,a0.2.1.2,a0.2.2.1,a0.2.2.2.1,a0.2.2.2.2.1,a0.2.2.2.2.2.1,a0.2.2.2.2.2.2.1,a0.2.2.2.2.2.2.2.1,a0.2.2.2.2.2.2.2.2.1,a0.2.2.2.2.2.2.2.2.2.1,a0.2.2.2.2.2.2.2.2.2.2.1,a0.2.2.2.2.2.2.2.2.2.2.2,()),()),())) (fun y7 =>some ((true,()),())) (fun y7 =>some ((y7.1.1.1,()),())) else some ((false,()),()) else some ((false,()),()) else some ((false,()),())
theorem ySp:ConOk prog 44 ⟨ypd,yxv,fun x=>ysJ x.1 x.2.1⟩:=zkG (yN0) func44 ntmps44.symm fun x=>by kernel_rfl
def yhS (m:dM):Bool:=m.2.2.2.any (fun n=>leb 6 n)
def yHP (a:dA) (m:Int):Bool:=(List.range a.2.2.1.length).all (fun(i:Nat)=>(i:Int)==m|| !(yhS (nth a.2.2.1 i yc)))
def ybY (a0:dA) (a1:Int):Bool:=yae a0&&(!a0.2.2.2.2.2.2.2.2.2.2.2&&(inb a1 a0.2.2.1.length&&((a0.2.2.2.1== -1||a0.2.2.2.1==a1)&&yHP a0 a1)))
theorem yVw (a0:dA) (a1:Int) (hk:zjw ypd (a0,a1,())):ysJ a0 a1=(fun n=>some ((n,()),())) (ybY a0 a1):=by
 have hb:a0.2.2.1.length*80≤2^47:=hk.1.2.2.1.1
 have h0: ∀i:Nat,i<a0.2.2.1.length→yhT (yvo a1 i a0)=some (bif(i:Int)==a1|| !(yhS (nth a0.2.2.1 i yc))then .inl (yvn a1 i a0)else .inr (yvp false)):=fun k hk2=>by
  have hb2:(nth a0.2.2.1 k yc).2.2.2.length*8≤2^47:=yxU (P:=fun x:dM=>x.2.2.2.length*8≤2^47) (zkP hk2) (fun x hx=>(hk.1.2.2.1.2 x hx).2.2.2.1)
  have:=zj7 (step:=ybD) (nth a0.2.2.1 k yc).2.2.2 0 (fun i=>ylt a1 k i a0) (fun n=>(k:Int)==a1|| !(leb 6 n)) (.inl (yvn a1 k a0)) (.inr (yvp false)) (fun i hi=>by
   unfold yc at hi hb2;simp only[ybD,ylt,ylH,zkw (show(i:Int)<(nth a0.2.2.1 k ([],[],false,[])).2.2.2.length by omega),cond_true,wq ((i:Int)+1) (by omega) (by omega),Int.natCast_add,Int.natCast_one,Int.toNat_natCast,zkP hk2,zkP hi,yc,yeZ,show yy 0=6 from rfl,bne];rw[zkQ (nth a0.2.2.1 k ([],[],false,[])).2.2.2 i]
   cases((k:Int)==a1)<;>cases leb 6 ((nth a0.2.2.1 k ([],[],false,[])).2.2.2.getD i 0)<;>rfl) (by
   simp only[ybD,ylt,ylH,zkP hk2,yc,zk1 (Int.le_refl _),cond_false,cond_true]) 18446744073709551616 (by omega)
  rw[show yhT (yvo a1 k a0)=_ from this];congr 2;unfold yhS;cases((k:Int)==a1)
  ·simp[List.all_eq_not_any_not]
  ·simp
 have h1:yjJ (yLV a1 a0)=some (bif(List.range a0.2.2.1.length).any (fun(i:Nat)=> !((i:Int)==a1|| !(yhS (nth a0.2.2.1 i yc))))then .inr (yL4 false)else .inl yLI) :=
  zjh (step:=ycE) (fun i=>yok a1 i a0) a0.2.2.1.length (fun(i:Nat)=> !((i:Int)==a1|| !(yhS (nth a0.2.2.1 i yc)))) _ _ (fun i hi=>by
   simp only[ycE,yok,yoK,zkw (show(i:Int)<a0.2.2.1.length by omega),cond_true,wq ((i:Int)+1) (by omega) (by omega),Int.natCast_add,Int.natCast_one,Int.toNat_natCast,h0 i hi];cases((i:Int)==a1|| !(yhS (nth a0.2.2.1 i yc)))
   ·rfl
   ·simp only[cond_true,zkL,wq ((i:Int)+1) (by omega) (by omega)]; rfl) (by simp only[ycE,yok,yoK,zk1 (Int.le_refl _),cond_false]) _ (by show _<18446744073709551616; omega)
 unfold ysJ ybY yHP ycT;rw[ykt (show a0.2.2.1.length≤1152921504606846976 by omega),h1,List.all_eq_not_any_not];simp only[bne];cases yae a0
 ·rfl
 cases a0.2.2.2.2.2.2.2.2.2.2.2
 ·cases inb a1 a0.2.2.1.length
  ·rfl
  ·cases(a0.2.2.2.1== -1)<;>cases(a0.2.2.2.1==a1)<;>cases((List.range a0.2.2.1.length).any (fun(i:Nat)=> !((i:Int)==a1|| !(yhS (nth a0.2.2.1 i yc)))))<;>rfl
 ·rfl
def yEm:Con:=⟨ypd,yxv,fun x=>(fun n=>some ((n,()),())) (ybY x.1 x.2.1)⟩
theorem yWz:ConOk prog 44 yEm:=(ySp).mono (fun x r hk h=>(yVw x.1 x.2.1 hk).trans h)
end
end Go.Tf
