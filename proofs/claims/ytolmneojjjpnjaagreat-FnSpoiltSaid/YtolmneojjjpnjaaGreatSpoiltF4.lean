/- Functions of the program, and what they come to. -/
import Derived.Test.YtolmneojjjpnjaaGreatSpoiltF3
namespace Go.Tf
noncomputable section
open Go.Proofs Go.Proofs.Tryz IntKind
set_option synthInstance.maxHeartbeats 400000
set_option synthInstance.maxSize 10000
set_option linter.unusedVariables false
set_option linter.unusedSimpArgs false
set_option maxRecDepth 100000
def ypn:Code:=(f185.body).getD .skip
def yw8:Env:=zkw TT [] []
theorem yLB:FrOk prog ⟨yw8,17,fun _=>none⟩ ypn:=zkA mixed yc trivial
def yBe:Nat→Option Seg:=fun _=>none
def ycG:Shape:=⟨[(3,false,[.int .i64]),(6,false,[.br tI]),(7,false,[.int .i64]),(8,false,[.int .i64])],[],[]⟩
def ygC:Shape:=⟨[(3,false,[.ci .i64 0]),(6,false,[.br tI]),(7,false,[.int .i64]),(8,false,[.ci .i64 0])],[],[]⟩
def ygo:Shape:=⟨[(3,false,[.int .i64])],[],[]⟩
def yky:Shape:=⟨[],[],[]⟩
abbrev yov (v0:Int) (v1:List Int) (v2 v3:Int):(ycG).X:=(((v0,()),(v1,()),(v2,()),(v3,()),()),(),())
abbrev yI4 (v0:List Int) (v1:Int):(ygC).X:=((((),()),(v0,()),(v1,()),((),()),()),(),())
abbrev yyH (v0:Int):(ygo).X:=(((v0,()),()),(),())
def yo0 (v0:Int) (v1:List Int) (v2 v3:Int):Option ((ycG).X ⊕ ((ygo).X ⊕ (yky).X)) :=bif(ltb v3 v2)then bif(inb v3 v1.length)then some (.inl ((((i64.wrap ((BitVec.ofInt IntKind.i64.bits v0 ^^^ BitVec.ofInt IntKind.i64.bits (nth v1 v3 0)).toNat:Int)),()),(v1,()),(v2,()),((i64.wrap (v3+1)),()),()),(),())) else none else some (.inr (.inl (((v0,()),()),(),())))
def yc8 (x:(ycG).X):=yo0 x.1.1.1 x.1.2.1.1 x.1.2.2.1.1 x.1.2.2.2.1.1
def yyg (x:(ygC).X):(ycG).X:=(((0,()),(x.1.2.1.1,()),(x.1.2.2.1.1,()),(0,()),()),(),())
def yzJ:Code:=(zd7 ypn 64 116).getD .skip
theorem yLa:zd7 ypn 64 29=some (.block 0 (.loop yzJ)):=by kernel_rfl
theorem yND (x:(ycG).X):zhu ⟨yw8,17,yBe⟩ 0 yzJ 116 ycG ygo yky x=yc8 x:=by kernel_rfl
def yyv (x:(ygC).X):Nat:=18446744073709551616
def ypJ (x:(ygC).X):Option ((ygo).X ⊕ (yky).X):=zF yc8 (yyv x) (yyg x)
def yza:Seg:=⟨ygC,ygo,yky,ypJ⟩
def yN8:Nat→Option Seg:=fun q=>bif Nat.beq q 29 then some yza else yBe q
theorem yLC:FrOk prog ⟨yw8,17,yN8⟩ ypn:=(yLB).loop (sg:=yza) ycG yyg (by decide) yLa yc8 yyv (by decide) (fun _=>rfl) (fun x r _ h=>h) yND
abbrev ypX:List Par:= [.rd tL]
abbrev yxt:List OT:= [⟨false,tI,.fz⟩]
def ysY (a0:List Int):Option (zaY yxt×zak ypX) :=zkt (ypJ ((((),()),(a0,()),((a0.length:Int),()),((),()),()),(),())) (fun y0 =>some ((y0.1.1.1,()),())) (fun y0 =>none)
theorem yPn:ConOk prog 185 ⟨ypX,yxt,fun x=>ysY x.1⟩:=zkI (yLC) func185 ntmps185.symm fun x=>by kernel_rfl
def yd3 (a0:List Int):Int:=yai a0
theorem yRD (a0:List Int) (hk:zjx ypX (a0,())):ysY a0=(fun n=>some ((n,()),())) (yd3 a0):=by
 have hb:a0.length*8≤2^47:=hk.1.1
 have h1:ypJ (yI4 a0 a0.length)=some (.inl (yyH (yai a0))) :=
  zkx (step:=yc8) a0 0 (fun i s=>yov s a0 a0.length i) xw (fun _ _=>True) (fun s=> .inl (yyH s)) (fun i s hi _=>⟨by
   simp only[yc8,yov,yo0,zky (show(i:Int)<a0.length by omega),cond_true,wq ((i:Int)+1) (by omega) (by omega),Int.natCast_add,Int.natCast_one,Int.toNat_natCast,zkR hi,zkS]; rfl,trivial⟩) (fun s _=>by simp only[yc8,yov,yo0,zk3 (Int.le_refl _),cond_false]) 0 trivial _ (by show _<18446744073709551616; omega)
 unfold ysY yd3;rw[h1]; rfl
def ysC:Con:=⟨ypX,yxt,fun x=>(fun n=>some ((n,()),())) (yd3 x.1)⟩
theorem yCO:ConOk prog 185 ysC:=(yPn).mono (fun x r hk h=>(yRD x.1 hk).trans h)
def yFr:Code:=(f166.body).getD .skip
def yFC:Env:=zkw TT [(185,ysC)] []
theorem yCl:FrOk prog ⟨yFC,5,fun _=>none⟩ yFr:=zkA mixed yc ⟨yCO,trivial⟩
abbrev ymz:List Par:= [.rd tL]
abbrev ymC:List OT:= [⟨false,tI,.fz⟩]
def yrM (a0:List Int):Option (zaY ymC×zak ymz) :=let r1:=yd3 a0;some ((r1,()),())
theorem yDk:ConOk prog 166 ⟨ymz,ymC,fun x=>yrM x.1⟩:=zkI (yCl) func166 ntmps166.symm fun x=>by kernel_rfl
def yhI (a0:List Int):Int :=let r1:=yd3 a0;r1
def yrv:Con:=⟨ymz,ymC,fun x=>(fun n=>some ((n,()),())) (yhI x.1)⟩
theorem yEF (a0:List Int):yrM a0=(fun n=>some ((n,()),())) (yhI a0):=zkV (p:=fun(n:Int)=>((n,()),())) rfl
theorem yEP:ConOk prog 166 yrv:=(yDk).mono (fun x r _ h=>(yEF x.1).trans h)
def yQD:Code:=(f168.body).getD .skip
def yQ6:Env:=zkw TT [(81,yE)] []
theorem yH3:FrOk prog ⟨yQ6,34,fun _=>none⟩ yQD:=zkA mixed yc ⟨yS,trivial⟩
abbrev ynI:List Par:= [.rd tA,.rd tI,.rd tI]
abbrev yuP:List OT:= [⟨false,tB,.fz⟩]
def yq2 (a0:dA) (a1 a2:Int):Option (zaY yuP×zak ynI) :=let r1:=ye a1 0 (i64.wrap ((a0.2.2.1.length:Int)-1));bif r1 then bif(inb a1 a0.2.2.1.length)then bif(!((((nth a0.2.2.1 a1 ([],[],false,[])).2).2).1))then bif(!(a0.2.2.2.1 !=a1))then some (((ltb a2 a0.2.2.2.2.1),()),()) else some ((true,()),()) else some ((false,()),()) else none else some ((false,()),())
theorem yMF:ConOk prog 168 ⟨ynI,yuP,fun x=>yq2 x.1 x.2.1 x.2.2.1⟩:=zkI (yH3) func168 ntmps168.symm fun x=>by kernel_rfl
def yer (a0:dA) (a1 a2:Int):Bool:=ybR a0 a1 a2
theorem yOM (a0:dA) (a1 a2:Int) (hk:zjx ynI (a0,a1,a2,())):yq2 a0 a1 a2=(fun n=>some ((n,()),())) (yer a0 a1 a2):=by
 have hb:a0.2.2.1.length*80≤2^47:=hk.1.2.2.1.1;unfold yq2 yer ybR yf;rw[yW,yh8 (show a0.2.2.1.length≤1152921504606846976 by omega),bne_comm];cases inb a1 a0.2.2.1.length
 ·rfl
 ·cases(nth a0.2.2.1 a1 ([],[],false,[])).2.2.1<;>cases(a1 !=a0.2.2.2.1)<;>rfl
def yqu:Con:=⟨ynI,yuP,fun x=>(fun n=>some ((n,()),())) (yer x.1 x.2.1 x.2.2.1)⟩
theorem yBP:ConOk prog 168 yqu:=(yMF).mono (fun x r hk h=>(yOM x.1 x.2.1 x.2.2.1 hk).trans h)
def yb0:Code:=(f98.body).getD .skip
def yfb:Env:=zkw TT [(111,ykH),(139,ygX),(142,yqt),(166,yrv),(167,ymF),(168,yqu)] []
theorem yC1:FrOk prog ⟨yfb,70,fun _=>none⟩ yb0:=zkA mixed yc ⟨ysK,ymT,yBO,yEP,yyP,yBP,trivial⟩
def yte:Nat→Option Seg:=fun _=>none
def yaL:Shape:=⟨[(0,false,[.ptr 1000000000 0]),(1,false,[.int .i64]),(7,false,[.at 800000000]),(28,false,[.br tI]),(29,false,[.int .i64]),(30,false,[.int .i64])],[(1000000000,[.int .i64,.int .i64,.int .i64,.at 800000001,.int .i64,.int .i64,.int .i64,.int .i64,.int .i64,.at 800000002,.int .i64,.bool,.bool])],[(800000000,tI,.fz),(800000001,tM,(.pr (.ow (.ow .fz)) (.pr (.ow (.pr .fz (.ow .fz))) (.pr .fz (.ow .fz))))),(800000002,tW,(.pr .fz (.ow .fz)))]⟩
def ydt:Shape:=⟨[(0,false,[.ptr 1000000000 0]),(1,false,[.int .i64]),(7,false,[.at 800000000]),(28,false,[.br tI]),(29,false,[.int .i64]),(30,false,[.ci .i64 0])],[(1000000000,[.int .i64,.int .i64,.int .i64,.at 800000001,.int .i64,.int .i64,.int .i64,.int .i64,.int .i64,.at 800000002,.int .i64,.bool,.bool])],[(800000000,tI,.fz),(800000001,tM,(.pr (.ow (.ow .fz)) (.pr (.ow (.pr .fz (.ow .fz))) (.pr .fz (.ow .fz))))),(800000002,tW,(.pr .fz (.ow .fz)))]⟩
def ydp:Shape:=⟨[(0,false,[.ptr 1000000000 0]),(1,false,[.int .i64]),(7,false,[.at 800000000])],[(1000000000,[.int .i64,.int .i64,.int .i64,.at 800000001,.int .i64,.int .i64,.int .i64,.int .i64,.int .i64,.at 800000002,.int .i64,.bool,.bool])],[(800000000,tI,.fz),(800000001,tM,(.pr (.ow (.ow .fz)) (.pr (.ow (.pr .fz (.ow .fz))) (.pr .fz (.ow .fz))))),(800000002,tW,(.pr .fz (.ow .fz)))]⟩
def yfT:Shape:=⟨[],[],[]⟩
abbrev yi3 (v0:Int) (v1:List Int) (v2 v3:Int) (v4:dA) (v5:List Int):(yaL).X:=((((),()),(v0,()),((),()),(v1,()),(v2,()),(v3,()),()),((v4.1,v4.2.1.1,v4.2.1.2,(),v4.2.2.2.1,v4.2.2.2.2.1,v4.2.2.2.2.2.1,v4.2.2.2.2.2.2.1,v4.2.2.2.2.2.2.2.1,(),v4.2.2.2.2.2.2.2.2.2.1,v4.2.2.2.2.2.2.2.2.2.2.1,v4.2.2.2.2.2.2.2.2.2.2.2,()),()),(v5,v4.2.2.1,v4.2.2.2.2.2.2.2.2.1,()))
abbrev yCu (v0:Int) (v1:List Int) (v2:Int) (v3:dA) (v4:List Int):(ydt).X:=((((),()),(v0,()),((),()),(v1,()),(v2,()),((),()),()),((v3.1,v3.2.1.1,v3.2.1.2,(),v3.2.2.2.1,v3.2.2.2.2.1,v3.2.2.2.2.2.1,v3.2.2.2.2.2.2.1,v3.2.2.2.2.2.2.2.1,(),v3.2.2.2.2.2.2.2.2.2.1,v3.2.2.2.2.2.2.2.2.2.2.1,v3.2.2.2.2.2.2.2.2.2.2.2,()),()),(v4,v3.2.2.1,v3.2.2.2.2.2.2.2.2.1,()))
abbrev yqR (v0:Int) (v1:dA) (v2:List Int):(ydp).X:=((((),()),(v0,()),((),()),()),((v1.1,v1.2.1.1,v1.2.1.2,(),v1.2.2.2.1,v1.2.2.2.2.1,v1.2.2.2.2.2.1,v1.2.2.2.2.2.2.1,v1.2.2.2.2.2.2.2.1,(),v1.2.2.2.2.2.2.2.2.2.1,v1.2.2.2.2.2.2.2.2.2.2.1,v1.2.2.2.2.2.2.2.2.2.2.2,()),()),(v2,v1.2.2.1,v1.2.2.2.2.2.2.2.2.1,()))
def yje (v0:Int) (v1:List Int) (v2 v3 v4 v5 v6 v7 v8 v9 v10 v11 v12:Int) (v13 v14:Bool) (v15:List Int) (v16:List dM) (v17:List dW):Option ((yaL).X ⊕ ((ydp).X ⊕ (yfT).X)) :=bif(ltb v3 v2)then bif(inb v3 v1.length)then let r5:=yeq (v5,v6) v0 v3;bif(inb r5 v15.length)then some (.inl ((((),()),(v0,()),((),()),(v1,()),(v2,()),((i64.wrap (v3+1)),()),()),((v4,v5,v6,(),v7,v8,v9,v10,v11,(),v12,v13,v14,()),()),((v15.set (r5).toNat (nth v1 v3 0)),v16,v17,()))) else none else none else some (.inr (.inl ((((),()),(v0,()),((),()),()),((v4,v5,v6,(),v7,v8,v9,v10,v11,(),v12,v13,v14,()),()),(v15,v16,v17,()))))
def yaY (x:(yaL).X):=yje x.1.2.1.1 x.1.2.2.2.1.1 x.1.2.2.2.2.1.1 x.1.2.2.2.2.2.1.1 x.2.1.1.1 x.2.1.1.2.1 x.2.1.1.2.2.1 x.2.1.1.2.2.2.2.1 x.2.1.1.2.2.2.2.2.1 x.2.1.1.2.2.2.2.2.2.1 x.2.1.1.2.2.2.2.2.2.2.1 x.2.1.1.2.2.2.2.2.2.2.2.1 x.2.1.1.2.2.2.2.2.2.2.2.2.2.1 x.2.1.1.2.2.2.2.2.2.2.2.2.2.2.1 x.2.1.1.2.2.2.2.2.2.2.2.2.2.2.2.1 x.2.2.1 x.2.2.2.1 x.2.2.2.2.1
def yqF (x:(ydt).X):(yaL).X:=((((),()),(x.1.2.1.1,()),((),()),(x.1.2.2.2.1.1,()),(x.1.2.2.2.2.1.1,()),(0,()),()),((x.2.1.1.1,x.2.1.1.2.1,x.2.1.1.2.2.1,(),x.2.1.1.2.2.2.2.1,x.2.1.1.2.2.2.2.2.1,x.2.1.1.2.2.2.2.2.2.1,x.2.1.1.2.2.2.2.2.2.2.1,x.2.1.1.2.2.2.2.2.2.2.2.1,(),x.2.1.1.2.2.2.2.2.2.2.2.2.2.1,x.2.1.1.2.2.2.2.2.2.2.2.2.2.2.1,x.2.1.1.2.2.2.2.2.2.2.2.2.2.2.2.1,()),()),(x.2.2.1,x.2.2.2.1,x.2.2.2.2.1,()))
def yrp:Code:=(zd7 yb0 64 244).getD .skip
theorem yCW:zd7 yb0 64 61=some (.block 0 (.loop yrp)):=by kernel_rfl
theorem yDr (x:(yaL).X):zhu ⟨yfb,70,yte⟩ 0 yrp 244 yaL ydp yfT x=yaY x:=by kernel_rfl
def yqJ (x:(ydt).X):Nat:=18446744073709551616
def yjL (x:(ydt).X):Option ((ydp).X ⊕ (yfT).X):=zF yaY (yqJ x) (yqF x)
def yri:Seg:=⟨ydt,ydp,yfT,yjL⟩
def ykU:Nat→Option Seg:=fun q=>bif Nat.beq q 61 then some yri else yte q
theorem yC2:FrOk prog ⟨yfb,70,ykU⟩ yb0:=(yC1).loop (sg:=yri) yaL yqF (by decide) yCW yaY yqJ (by decide) (fun _=>rfl) (fun x r _ h=>h) yDr
def yaB:Shape:=⟨[(0,false,[.ptr 1000000000 0]),(1,false,[.int .i64]),(46,false,[.at 800000000]),(47,false,[.int .i64]),(48,false,[.int .i64])],[(1000000000,[.int .i64,.int .i64,.int .i64,.at 800000001,.int .i64,.int .i64,.int .i64,.int .i64,.int .i64,.at 800000002,.int .i64,.bool,.bool])],[(800000000,tI,.fz),(800000001,tM,(.pr (.ow (.ow .fz)) (.pr (.ow (.pr .fz (.ow .fz))) (.pr .fz (.ow .fz))))),(800000002,tW,(.pr .fz (.ow .fz)))]⟩
def ycS:Shape:=⟨[(0,false,[.ptr 1000000000 0]),(1,false,[.int .i64]),(46,false,[.at 800000000]),(47,false,[.int .i64]),(48,false,[.ci .i64 0])],[(1000000000,[.int .i64,.int .i64,.int .i64,.at 800000001,.int .i64,.int .i64,.int .i64,.int .i64,.int .i64,.at 800000002,.int .i64,.bool,.bool])],[(800000000,tI,.fz),(800000001,tM,(.pr (.ow (.ow .fz)) (.pr (.ow (.pr .fz (.ow .fz))) (.pr .fz (.ow .fz))))),(800000002,tW,(.pr .fz (.ow .fz)))]⟩
def ycQ:Shape:=⟨[],[(1000000000,[.int .i64,.int .i64,.int .i64,.at 800000000,.int .i64,.int .i64,.int .i64,.int .i64,.int .i64,.at 800000001,.int .i64,.bool,.bool])],[(800000000,tM,(.pr (.ow (.ow .fz)) (.pr (.ow (.pr .fz (.ow .fz))) (.pr .fz (.ow .fz))))),(800000001,tW,(.pr .fz (.ow .fz)))]⟩
def ycU:Shape:=⟨[(6,false,[.bool])],[(1000000000,[.int .i64,.int .i64,.int .i64,.at 800000000,.int .i64,.int .i64,.int .i64,.int .i64,.int .i64,.at 800000001,.int .i64,.bool,.bool])],[(800000000,tM,(.pr (.ow (.ow .fz)) (.pr (.ow (.pr .fz (.ow .fz))) (.pr .fz (.ow .fz))))),(800000001,tW,(.pr .fz (.ow .fz)))]⟩
abbrev yic (v0 v1 v2:Int) (v3:dA) (v4:List Int):(yaB).X:=((((),()),(v0,()),((),()),(v1,()),(v2,()),()),((v3.1,v3.2.1.1,v3.2.1.2,(),v3.2.2.2.1,v3.2.2.2.2.1,v3.2.2.2.2.2.1,v3.2.2.2.2.2.2.1,v3.2.2.2.2.2.2.2.1,(),v3.2.2.2.2.2.2.2.2.2.1,v3.2.2.2.2.2.2.2.2.2.2.1,v3.2.2.2.2.2.2.2.2.2.2.2,()),()),(v4,v3.2.2.1,v3.2.2.2.2.2.2.2.2.1,()))
abbrev yBM (v0 v1:Int) (v2:dA) (v3:List Int):(ycS).X:=((((),()),(v0,()),((),()),(v1,()),((),()),()),((v2.1,v2.2.1.1,v2.2.1.2,(),v2.2.2.2.1,v2.2.2.2.2.1,v2.2.2.2.2.2.1,v2.2.2.2.2.2.2.1,v2.2.2.2.2.2.2.2.1,(),v2.2.2.2.2.2.2.2.2.2.1,v2.2.2.2.2.2.2.2.2.2.2.1,v2.2.2.2.2.2.2.2.2.2.2.2,()),()),(v3,v2.2.2.1,v2.2.2.2.2.2.2.2.2.1,()))
abbrev yie (v0:dA):(ycQ).X:=((),((v0.1,v0.2.1.1,v0.2.1.2,(),v0.2.2.2.1,v0.2.2.2.2.1,v0.2.2.2.2.2.1,v0.2.2.2.2.2.2.1,v0.2.2.2.2.2.2.2.1,(),v0.2.2.2.2.2.2.2.2.2.1,v0.2.2.2.2.2.2.2.2.2.2.1,v0.2.2.2.2.2.2.2.2.2.2.2,()),()),(v0.2.2.1,v0.2.2.2.2.2.2.2.2.1,()))
abbrev yig (v0:Bool) (v1:dA):(ycU).X:=(((v0,()),()),((v1.1,v1.2.1.1,v1.2.1.2,(),v1.2.2.2.1,v1.2.2.2.2.1,v1.2.2.2.2.2.1,v1.2.2.2.2.2.2.1,v1.2.2.2.2.2.2.2.1,(),v1.2.2.2.2.2.2.2.2.2.1,v1.2.2.2.2.2.2.2.2.2.2.1,v1.2.2.2.2.2.2.2.2.2.2.2,()),()),(v1.2.2.1,v1.2.2.2.2.2.2.2.2.1,()))
def yiE (v0 v1 v2 v3 v4 v5 v6 v7 v8 v9 v10 v11:Int) (v12 v13:Bool) (v14:List Int) (v15:List dM) (v16:List dW):Option ((yaB).X ⊕ ((ycQ).X ⊕ (ycU).X)) :=bif(ltb v2 v1)then bif(inb v2 v14.length)then let r10:=yer (v3,(v4,v5),v15,v6,v7,v8,v9,v10,v16,v11,v12,v13) v2 v0;bif r10 then let r11:=yf4 v0;bnd (ydF (v3,(v4,v5),v15,v6,v7,v8,v9,v10,v16,v11,v12,v13) v2 r11 ([(nth v14 v2 0)]:List Int)) fun r12 =>bif(!r12.1.1)then some (.inr (.inr (((false,()),()),((r12.2.1.1,r12.2.1.2.1.1,r12.2.1.2.1.2,(),r12.2.1.2.2.2.1,r12.2.1.2.2.2.2.1,r12.2.1.2.2.2.2.2.1,r12.2.1.2.2.2.2.2.2.1,r12.2.1.2.2.2.2.2.2.2.1,(),r12.2.1.2.2.2.2.2.2.2.2.2.1,r12.2.1.2.2.2.2.2.2.2.2.2.2.1,r12.2.1.2.2.2.2.2.2.2.2.2.2.2,()),()),(r12.2.1.2.2.1,r12.2.1.2.2.2.2.2.2.2.2.1,())))) else some (.inl ((((),()),(v0,()),((),()),(v1,()),((i64.wrap (v2+1)),()),()),((r12.2.1.1,r12.2.1.2.1.1,r12.2.1.2.1.2,(),r12.2.1.2.2.2.1,r12.2.1.2.2.2.2.1,r12.2.1.2.2.2.2.2.1,r12.2.1.2.2.2.2.2.2.1,r12.2.1.2.2.2.2.2.2.2.1,(),r12.2.1.2.2.2.2.2.2.2.2.2.1,r12.2.1.2.2.2.2.2.2.2.2.2.2.1,r12.2.1.2.2.2.2.2.2.2.2.2.2.2,()),()),(v14,r12.2.1.2.2.1,r12.2.1.2.2.2.2.2.2.2.2.1,()))) else some (.inl ((((),()),(v0,()),((),()),(v1,()),((i64.wrap (v2+1)),()),()),((v3,v4,v5,(),v6,v7,v8,v9,v10,(),v11,v12,v13,()),()),(v14,v15,v16,()))) else none else some (.inr (.inl ((),((v3,v4,v5,(),v6,v7,v8,v9,v10,(),v11,v12,v13,()),()),(v15,v16,()))))
def yaJ (x:(yaB).X):=yiE x.1.2.1.1 x.1.2.2.2.1.1 x.1.2.2.2.2.1.1 x.2.1.1.1 x.2.1.1.2.1 x.2.1.1.2.2.1 x.2.1.1.2.2.2.2.1 x.2.1.1.2.2.2.2.2.1 x.2.1.1.2.2.2.2.2.2.1 x.2.1.1.2.2.2.2.2.2.2.1 x.2.1.1.2.2.2.2.2.2.2.2.1 x.2.1.1.2.2.2.2.2.2.2.2.2.2.1 x.2.1.1.2.2.2.2.2.2.2.2.2.2.2.1 x.2.1.1.2.2.2.2.2.2.2.2.2.2.2.2.1 x.2.2.1 x.2.2.2.1 x.2.2.2.2.1
def ypd (x:(ycS).X):(yaB).X:=((((),()),(x.1.2.1.1,()),((),()),(x.1.2.2.2.1.1,()),(0,()),()),((x.2.1.1.1,x.2.1.1.2.1,x.2.1.1.2.2.1,(),x.2.1.1.2.2.2.2.1,x.2.1.1.2.2.2.2.2.1,x.2.1.1.2.2.2.2.2.2.1,x.2.1.1.2.2.2.2.2.2.2.1,x.2.1.1.2.2.2.2.2.2.2.2.1,(),x.2.1.1.2.2.2.2.2.2.2.2.2.2.1,x.2.1.1.2.2.2.2.2.2.2.2.2.2.2.1,x.2.1.1.2.2.2.2.2.2.2.2.2.2.2.2.1,()),()),(x.2.2.1,x.2.2.2.1,x.2.2.2.2.1,()))
def yqr:Code:=(zd7 yb0 64 500).getD .skip
theorem yCe:zd7 yb0 64 125=some (.block 2 (.loop yqr)):=by kernel_rfl
theorem yCG (x:(yaB).X):zhu ⟨yfb,70,ykU⟩ 2 yqr 500 yaB ycQ ycU x=yaJ x:=by kernel_rfl
def ypf (x:(ycS).X):Nat:=18446744073709551616
def yiN (x:(ycS).X):Option ((ycQ).X ⊕ (ycU).X):=zF yaJ (ypf x) (ypd x)
def ypj:Seg:=⟨ycS,ycQ,ycU,yiN⟩
def yDx:Nat→Option Seg:=fun q=>bif Nat.beq q 125 then some ypj else ykU q
theorem yC3:FrOk prog ⟨yfb,70,yDx⟩ yb0:=(yC2).loop (sg:=ypj) yaB ypd (by decide) yCe yaJ ypf (by decide) (fun _=>rfl) (fun x r _ h=>h) yCG
abbrev yff:List Par:= [.pt tA (.pr .fz (.pr (.pr .fz .fz) (.pr (.ow (.pr (.ow (.ow .fz)) (.pr (.ow (.pr .fz (.ow .fz))) (.pr .fz (.ow .fz))))) (.pr .fz (.pr .fz (.pr .fz (.pr .fz (.pr .fz (.pr (.ow (.pr .fz (.ow .fz))) (.pr .fz (.pr .fz .fz))))))))))),.rd tI,.rd tL]
abbrev yiR:List OT:= [⟨false,tB,.fz⟩]
def ylv (a0:dA) (a1:Int) (a2:List Int):Option (zaY yiR×zak yff) :=bif(zks a0.2.1.1 8)then let r1:=ycV a0.2.1 a1;let r2:=yhI a2;bif(inb r1 (List.replicate (a0.2.1.1).toNat (0:Int)).length)then let r3:=((List.replicate (a0.2.1.1).toNat (0:Int)).set (r1).toNat r2);zkt (yjL ((((),()),(a1,()),((),()),(a2,()),((a2.length:Int),()),((),()),()),((a0.1,a0.2.1.1,a0.2.1.2,(),a0.2.2.2.1,a0.2.2.2.2.1,a0.2.2.2.2.2.1,a0.2.2.2.2.2.2.1,a0.2.2.2.2.2.2.2.1,(),a0.2.2.2.2.2.2.2.2.2.1,a0.2.2.2.2.2.2.2.2.2.2.1,a0.2.2.2.2.2.2.2.2.2.2.2,()),()),(r3,a0.2.2.1,a0.2.2.2.2.2.2.2.2.1,()))) (fun y5 =>zkt (yiN ((((),()),(y5.1.2.1.1,()),((),()),((y5.2.2.1.length:Int),()),((),()),()),((y5.2.1.1.1,y5.2.1.1.2.1,y5.2.1.1.2.2.1,(),y5.2.1.1.2.2.2.2.1,y5.2.1.1.2.2.2.2.2.1,y5.2.1.1.2.2.2.2.2.2.1,y5.2.1.1.2.2.2.2.2.2.2.1,y5.2.1.1.2.2.2.2.2.2.2.2.1,(),y5.2.1.1.2.2.2.2.2.2.2.2.2.2.1,y5.2.1.1.2.2.2.2.2.2.2.2.2.2.2.1,y5.2.1.1.2.2.2.2.2.2.2.2.2.2.2.2.1,()),()),(y5.2.2.1,y5.2.2.2.1,y5.2.2.2.2.1,()))) (fun y12 =>some ((true,()),((y12.2.1.1.1,(y12.2.1.1.2.1,y12.2.1.1.2.2.1),y12.2.2.1,y12.2.1.1.2.2.2.2.1,y12.2.1.1.2.2.2.2.2.1,y12.2.1.1.2.2.2.2.2.2.1,y12.2.1.1.2.2.2.2.2.2.2.1,y12.2.1.1.2.2.2.2.2.2.2.2.1,y12.2.2.2.1,y12.2.1.1.2.2.2.2.2.2.2.2.2.2.1,y12.2.1.1.2.2.2.2.2.2.2.2.2.2.2.1,y12.2.1.1.2.2.2.2.2.2.2.2.2.2.2.2.1),()))) (fun y12 =>some ((y12.1.1.1,()),((y12.2.1.1.1,(y12.2.1.1.2.1,y12.2.1.1.2.2.1),y12.2.2.1,y12.2.1.1.2.2.2.2.1,y12.2.1.1.2.2.2.2.2.1,y12.2.1.1.2.2.2.2.2.2.1,y12.2.1.1.2.2.2.2.2.2.2.1,y12.2.1.1.2.2.2.2.2.2.2.2.1,y12.2.2.2.1,y12.2.1.1.2.2.2.2.2.2.2.2.2.2.1,y12.2.1.1.2.2.2.2.2.2.2.2.2.2.2.1,y12.2.1.1.2.2.2.2.2.2.2.2.2.2.2.2.1),())))) (fun y5 =>none) else none else none
theorem yEJ:ConOk prog 98 ⟨yff,yiR,fun x=>ylv x.1 x.2.1 x.2.2.1⟩:=zkI (yC3) func98 ntmps98.symm fun x=>by kernel_rfl
def yi7 (a0:dA) (a1:Int) (a2:List Int):Bool×dA:=(!(yb (yB a0 a1 a2)),yB a0 a1 a2)
def yfQ (a0:dA) (a1:Int) (a2:List Int):Bool:= !(yb a0)&&(yO a0.2.1 a1&&((a2.length:Int)==a0.2.1.1-1&&(a0.2.2.1.length:Int)==a0.2.1.1))
theorem yGJ (a0:dA) (a1:Int) (a2:List Int) (hk:zjx yff (a0,a1,a2,())) (hq:yfQ a0 a1 a2=true):ylv a0 a1 a2=(fun n=>some ((n.1,()),(n.2,()))) (yi7 a0 a1 a2):=by
 simp only[yfQ,Bool.and_eq_true,beq_iff_eq,Bool.not_eq_true']at hq;obtain⟨hd0,hs0,hl0,hm0⟩:=hq;have hg:=yl.1 (yah.1 hs0).1;have hp:=yiI hs0;have hL:=yUe (N:=a0.2.1.1) (p:=yg a0.2.1 a1) (x:=yai a2) (data:=a2) ⟨by omega,by omega⟩ hp hl0;generalize hw:(List.range a0.2.1.1.toNat).map (fun(i:Nat)=>ybX (yg a0.2.1 a1) a0.2.1.1 (yai a2) a2 i)=W at hL;have hWl:W.length=a0.2.2.1.length:=by rw[← hw,List.length_map,List.length_range]; omega
 have hWat: ∀i:Nat,i<a0.2.2.1.length→nth W i 0=ybX (yg a0.2.1 a1) a0.2.1.1 (yai a2) a2 i:=fun i hi=>by
  rw[← hw,zkS,zkJ (by rw[List.length_map,List.length_range]; omega)]; simp
 have h1:yjL (yCu a1 a2 a2.length a0 ((List.replicate a0.2.1.1.toNat 0).set (yg a0.2.1 a1).toNat (yai a2)))=some (.inl (yqR a1 a0 W)):=by
  have:=zkD (step:=yaY) a2.length (fun i s=>yi3 a1 a2 a2.length i a0 s) (fun l (i:Nat)=>l.set ((yg a0.2.1 a1+1+i).tmod a0.2.1.1).toNat (nth a2 i 0)) (fun _ s=>s.length=a0.2.1.1.toNat) (fun s=> .inl (yqR a1 a0 s)) (fun i s hi hs=>⟨by
   have hd:=yOz hs0 (show(0:Int)≤i by omega) (show(i:Int)≤a0.2.1.1-2 by omega);have he:yba a0.2.1 a1 i=(yg a0.2.1 a1+1+i).tmod a0.2.1.1:=by unfold yba; rw[hs0,zk2 (show(0:Int)≤i by omega),zk2 (show(i:Int)≤a0.2.1.1-2 by omega)]; rfl
   simp only[yaY,yi3,yje,zky (show(i:Int)<a2.length by omega),cond_true,wq ((i:Int)+1) (by omega) (by omega),Int.natCast_add,Int.natCast_one,Int.toNat_natCast,zkR hi,zkX,yeq,zj6.2 (show 0≤yba a0.2.1 a1 i∧yba a0.2.1 a1 i<s.length by omega)]
   rw[he],by rw[List.length_set]; exact hs⟩) (fun s hs=>by simp only[yaY,yi3,yje,zk3 (Int.le_refl _),cond_false]) ((List.replicate a0.2.1.1.toNat 0).set (yg a0.2.1 a1).toNat (yai a2)) (by rw[List.length_set,List.length_replicate]) 18446744073709551616 (by omega)
  rw[hL]at this;exact this
 have h2:yiN (yBM a1 W.length a0 W)=some (bif yb (yB a0 a1 a2)then .inr (yig false (yB a0 a1 a2))else .inl (yie (yB a0 a1 a2))):=by
  have:=zkC (step:=yaJ) a0.2.2.1.length (fun i s=>yic a1 W.length i s W) (fun i s=>bif yb (yaW (yg a0.2.1 a1) a0.2.1.1 a1 a2 s i)then(.inr (yaW (yg a0.2.1 a1) a0.2.1.1 a1 a2 s i):dA ⊕ dA)else .inl (yaW (yg a0.2.1 a1) a0.2.1.1 a1 a2 s i)) (fun _ s=>s.2.2.1.length=a0.2.2.1.length∧yb s=false) id
   (fun b=>bif yb b then .inr (yig false b)else .inl (yie b)) (fun i s hi hs=>by
    constructor
    ·simp only[yaJ,yic,yiE,zky (show(i:Int)<W.length by omega),cond_true,wq ((i:Int)+1) (by omega) (by omega),Int.natCast_add,Int.natCast_one,Int.toNat_natCast,zkR (show i<W.length by omega),zkX,yer,ysG,hWat i hi,yaW]
     rw[ymU s i (yy a1) [ybX (yg a0.2.1 a1) a0.2.1.1 (yai a2) a2 i] (by unfold ycf; rw[zkR (by rw[hs.1]; exact hi),hs.2]; rfl)];cases hlv:ybR s i a1
     ·simp only[cond_false,hs.2]
     ·simp only[zkH,ycc,cond_true]
      cases hd:yb (yce s i (yy a1) [ybX (yg a0.2.1 a1) a0.2.1.1 (yai a2) a2 i])
      ·rfl
      ·simp only[hd,Bool.not_true,Bool.not_false,cond_true,yig]
    ·intro s' h
     cases hd:yb (yaW (yg a0.2.1 a1) a0.2.1.1 a1 a2 s i)
     ·rw[hd]at h
      cases h;exact⟨(ytb _ _ _ _ s i).trans hs.1,hd⟩
     ·rw[hd]at h; cases h) (fun s hs=>by simp only[yaJ,yic,yiE,hs.2,hWl,zk3 (Int.le_refl _),cond_false,id,yie]) a0 ⟨rfl,hd0⟩ 18446744073709551616 (by omega)
  rw[yyF (fun a i h=>yDP _ _ _ _ i h),← List.range_eq_range']at this;exact this
 unfold ylv yi7 ycV yhI yd3;rw[zkM.2 (show 0≤a0.2.1.1∧a0.2.1.1*((8:Nat):Int)≤140737488355328 by omega)];simp only[cond_true];rw[zj6.2 (show 0≤yg a0.2.1 a1∧yg a0.2.1 a1<((List.replicate a0.2.1.1.toNat (0:Int)).length:Int)by rw[List.length_replicate]; omega),cond_true];refine(congrArg (fun z=>zkt z _ _) h1).trans ?_;rw[zkN];refine(congrArg (fun z=>zkt z _ _) h2).trans ?_;cases hd:yb (yB a0 a1 a2)
 ·rfl
 ·simp only[cond_true,zkO,zkX]; rfl
def ycd (a0:dA) (a1:Int) (a2:List Int):Option (zaY yiR×zak yff):=bif yfQ a0 a1 a2 then(fun n=>some ((n.1,()),(n.2,()))) (yi7 a0 a1 a2)else none
theorem yHb (a0:dA) (a1:Int) (a2:List Int) (h:yfQ a0 a1 a2=true):ycd a0 a1 a2=(fun n=>some ((n.1,()),(n.2,()))) (yi7 a0 a1 a2):=by unfold ycd; rw[h]; rfl
def ytr:Con:=⟨yff,yiR,fun x=>ycd x.1 x.2.1 x.2.2.1⟩
theorem yG8:ConOk prog 98 ytr:=(yEJ).mono (fun x r hk h=>zkY h (fun hq=>yGJ x.1 x.2.1 x.2.2.1 hk hq))
def yNR:Code:=(f212.body).getD .skip
def yOh:Env:=zkw TT [(81,yE),(123,yl8),(125,yqy)] []
theorem yFU:FrOk prog ⟨yOh,44,fun _=>none⟩ yNR:=zkA mixed yc ⟨yS,yvr,yBR,trivial⟩
abbrev yr9:List Par:= [.rd tS]
abbrev ysk:List OT:= [⟨false,tB,.fz⟩]
def yyX (a0:dS):Option (zaY ysk×zak yr9) :=let r1:=ye a0.1 1 60000;bif r1 then let r2:=ye a0.2.1 0 60000;bif r2 then let r3:=ye a0.2.2.2.2.2.1 0 60000;bif r3 then let r4:=yd0 (a0.2.2.2.1,a0.2.2.2.2.1);bif r4 then let r5:=ye a0.2.2.1 0 (i64.wrap (a0.2.2.2.1-1));bif r5 then let r6:=yes (a0.2.2.2.1,a0.2.2.2.2.1) a0.2.2.2.2.2.2.1 a0.2.2.2.2.2.2.2;some ((r6,()),()) else some ((false,()),()) else some ((false,()),()) else some ((false,()),()) else some ((false,()),()) else some ((false,()),())
theorem yJG:ConOk prog 212 ⟨yr9,ysk,fun x=>yyX x.1⟩:=zkI (yFU) func212 ntmps212.symm fun x=>by kernel_rfl
def ye7 (a0:dS):Bool :=let r1:=ye a0.1 1 60000;bif r1 then let r2:=ye a0.2.1 0 60000;bif r2 then let r3:=ye a0.2.2.2.2.2.1 0 60000;bif r3 then let r4:=yd0 (a0.2.2.2.1,a0.2.2.2.2.1);bif r4 then let r5:=ye a0.2.2.1 0 (i64.wrap (a0.2.2.2.1-1));bif r5 then let r6:=yes (a0.2.2.2.1,a0.2.2.2.2.1) a0.2.2.2.2.2.2.1 a0.2.2.2.2.2.2.2;r6 else false else false else false else false else false
def yxW:Con:=⟨yr9,ysk,fun x=>(fun n=>some ((n,()),())) (ye7 x.1)⟩
theorem yMh (a0:dS):yyX a0=(fun n=>some ((n,()),())) (ye7 a0):=zkV (p:=fun(n:Bool)=>((n,()),())) (zkG (p:=fun(n:Bool)=>((n,()),())) (zkG (p:=fun(n:Bool)=>((n,()),())) (zkG (p:=fun(n:Bool)=>((n,()),())) (zkG (p:=fun(n:Bool)=>((n,()),())) (zkG (p:=fun(n:Bool)=>((n,()),())) rfl rfl) rfl) rfl) rfl) rfl)
theorem yNg:ConOk prog 212 yxW:=(yJG).mono (fun x r _ h=>(yMh x.1).trans h)
theorem yRw (s:dS):ye7 s=yat s:=by
 rw[Bool.eq_iff_iff,yTz];unfold ye7 yes;simp only[yEj,yW];cases hg:yd (s.2.2.2.1,s.2.2.2.2.1)
 ·cases ya s.1 1 60000<;>cases ya s.2.1 0 60000<;>cases ya s.2.2.2.2.2.1 0 60000<;>simp
 have hg2:=yl.1 hg;simp only at hg2;rw[wq (s.2.2.2.1-1) (by omega) (by omega)];simp only[← yqO];cases ya s.1 1 60000
 ·simp
 cases ya s.2.1 0 60000
 ·simp
 cases ya s.2.2.2.2.2.1 0 60000
 ·simp
 cases ya s.2.2.1 0 (s.2.2.2.1-1)
 ·simp
 cases hl:ya s.2.2.2.2.2.2.1 (-1) (s.2.2.2.1-1)
 ·simp
 cases ya s.2.2.2.2.2.2.2 0 s.2.2.2.2.1
 ·simp
 have:=yqO.1 hl;by_cases h0:s.2.2.2.2.2.2.2=0
 ·simp[h0]
 ·simp[h0]; omega
def yKw:Code:=(f172.body).getD .skip
def yKU:Env:=zkw TT [(212,yxW)] []
theorem yDZ:FrOk prog ⟨yKU,24,fun _=>none⟩ yKw:=zkA mixed yc ⟨yNg,trivial⟩
abbrev ypV:List Par:= [.rd tS]
abbrev yp8:List OT:= [⟨false,tL,(.ow .fz)⟩]
def ywu (a0:dS):Option (zaY yp8×zak ypV) :=let r1:=ye7 a0;bif(!r1)then some (([],()),()) else some ((([21317,a0.1,a0.2.1,a0.2.2.1,a0.2.2.2.1,a0.2.2.2.2.1,a0.2.2.2.2.2.1,(i64.wrap (a0.2.2.2.2.2.2.1+1)),a0.2.2.2.2.2.2.2]:List Int),()),())
theorem yGR:ConOk prog 172 ⟨ypV,yp8,fun x=>ywu x.1⟩:=zkI (yDZ) func172 ntmps172.symm fun x=>by kernel_rfl
def yg2 (a0:dS):(List Int) :=let r1:=ye7 a0;bif(!r1)then [] else ([21317,a0.1,a0.2.1,a0.2.2.1,a0.2.2.2.1,a0.2.2.2.2.1,a0.2.2.2.2.2.1,(i64.wrap (a0.2.2.2.2.2.2.1+1)),a0.2.2.2.2.2.2.2]:List Int)
def yvS:Con:=⟨ypV,yp8,fun x=>(fun n=>some ((n,()),())) (yg2 x.1)⟩
theorem yJo (a0:dS):ywu a0=(fun n=>some ((n,()),())) (yg2 a0):=zkV (p:=fun(n:(List Int))=>((n,()),())) (zkG (p:=fun(n:(List Int))=>((n,()),())) rfl rfl)
theorem yJ4:ConOk prog 172 yvS:=(yGR).mono (fun x r _ h=>(yJo x.1).trans h)
theorem yTo (s:dS):yg2 s=yx s:=by
 unfold yg2 yx;rw[yRw]
def yNU:Code:=(f173.body).getD .skip
def yOk:Env:=zkw TT [] []
theorem yF4:FrOk prog ⟨yOk,23,fun _=>none⟩ yNU:=zkA mixed yc trivial
abbrev ysc:List Par:= [.rd tA,.rd tI]
abbrev ysp:List OT:= [⟨false,tS,(.pr .fz (.pr .fz (.pr .fz (.pr .fz (.pr .fz (.pr .fz (.pr .fz .fz)))))))⟩]
def yy0 (a0:dA) (a1:Int):Option (zaY ysp×zak ysc) :=some (((a0.1,a0.2.2.2.2.2.2.2.1,a1,a0.2.1.1,a0.2.1.2,a0.2.2.2.2.2.2.1,a0.2.2.2.1,a0.2.2.2.2.1),()),())
theorem yJM:ConOk prog 173 ⟨ysc,ysp,fun x=>yy0 x.1 x.2.1⟩:=zkI (yF4) func173 ntmps173.symm fun x=>by kernel_rfl
def ymc (a0:dA) (a1:Int):dS :=(a0.1,a0.2.2.2.2.2.2.2.1,a1,a0.2.1.1,a0.2.1.2,a0.2.2.2.2.2.2.1,a0.2.2.2.1,a0.2.2.2.2.1)
def yx0:Con:=⟨ysc,ysp,fun x=>(fun n=>some ((n,()),())) (ymc x.1 x.2.1)⟩
theorem yMn (a0:dA) (a1:Int):yy0 a0 a1=(fun n=>some ((n,()),())) (ymc a0 a1):=zkV (p:=fun(n:dS)=>((n,()),())) rfl
theorem yNk:ConOk prog 173 yx0:=(yJM).mono (fun x r _ h=>(yMn x.1 x.2.1).trans h)
def yj7:Code:=(f107.body).getD .skip
def ypy:Env:=zkw TT [(139,ygX),(165,yhF),(172,yvS),(173,yx0)] []
theorem yDS:FrOk prog ⟨ypy,37,fun _=>none⟩ yj7:=zkA mixed yc ⟨ymT,yoE,yJ4,yNk,trivial⟩
def yvy:Nat→Option Seg:=fun _=>none
def ya4:Shape:=⟨[(0,false,[.ptr 1000000000 0]),(15,false,[.int .i64]),(16,false,[.int .i64])],[(1000000000,[.int .i64,.int .i64,.int .i64,.at 800000000,.int .i64,.int .i64,.int .i64,.int .i64,.int .i64,.at 800000001,.int .i64,.bool,.bool])],[(800000000,tM,(.pr (.ow (.ow .fz)) (.pr (.ow (.pr .fz (.ow .fz))) (.pr .fz (.ow .fz))))),(800000001,tW,(.pr .fz (.ow .fz)))]⟩
def ydS:Shape:=⟨[(0,false,[.ptr 1000000000 0]),(15,false,[.int .i64]),(16,false,[.ci .i64 0])],[(1000000000,[.int .i64,.int .i64,.int .i64,.at 800000000,.int .i64,.int .i64,.int .i64,.int .i64,.int .i64,.at 800000001,.int .i64,.bool,.bool])],[(800000000,tM,(.pr (.ow (.ow .fz)) (.pr (.ow (.pr .fz (.ow .fz))) (.pr .fz (.ow .fz))))),(800000001,tW,(.pr .fz (.ow .fz)))]⟩
def ydN:Shape:=⟨[(0,false,[.ptr 1000000000 0])],[(1000000000,[.int .i64,.int .i64,.int .i64,.at 800000000,.int .i64,.int .i64,.int .i64,.int .i64,.int .i64,.at 800000001,.int .i64,.bool,.bool])],[(800000000,tM,(.pr (.ow (.ow .fz)) (.pr (.ow (.pr .fz (.ow .fz))) (.pr .fz (.ow .fz))))),(800000001,tW,(.pr .fz (.ow .fz)))]⟩
def ydX:Shape:=⟨[(2,false,[.bool])],[(1000000000,[.int .i64,.int .i64,.int .i64,.at 800000000,.int .i64,.int .i64,.int .i64,.int .i64,.int .i64,.at 800000001,.int .i64,.bool,.bool])],[(800000000,tM,(.pr (.ow (.ow .fz)) (.pr (.ow (.pr .fz (.ow .fz))) (.pr .fz (.ow .fz))))),(800000001,tW,(.pr .fz (.ow .fz)))]⟩
abbrev yjR (v0 v1:Int) (v2:dA):(ya4).X:=((((),()),(v0,()),(v1,()),()),((v2.1,v2.2.1.1,v2.2.1.2,(),v2.2.2.2.1,v2.2.2.2.2.1,v2.2.2.2.2.2.1,v2.2.2.2.2.2.2.1,v2.2.2.2.2.2.2.2.1,(),v2.2.2.2.2.2.2.2.2.2.1,v2.2.2.2.2.2.2.2.2.2.2.1,v2.2.2.2.2.2.2.2.2.2.2.2,()),()),(v2.2.2.1,v2.2.2.2.2.2.2.2.2.1,()))
abbrev yC9 (v0:Int) (v1:dA):(ydS).X:=((((),()),(v0,()),((),()),()),((v1.1,v1.2.1.1,v1.2.1.2,(),v1.2.2.2.1,v1.2.2.2.2.1,v1.2.2.2.2.2.1,v1.2.2.2.2.2.2.1,v1.2.2.2.2.2.2.2.1,(),v1.2.2.2.2.2.2.2.2.2.1,v1.2.2.2.2.2.2.2.2.2.2.1,v1.2.2.2.2.2.2.2.2.2.2.2,()),()),(v1.2.2.1,v1.2.2.2.2.2.2.2.2.1,()))
abbrev yjV (v0:dA):(ydN).X:=((((),()),()),((v0.1,v0.2.1.1,v0.2.1.2,(),v0.2.2.2.1,v0.2.2.2.2.1,v0.2.2.2.2.2.1,v0.2.2.2.2.2.2.1,v0.2.2.2.2.2.2.2.1,(),v0.2.2.2.2.2.2.2.2.2.1,v0.2.2.2.2.2.2.2.2.2.2.1,v0.2.2.2.2.2.2.2.2.2.2.2,()),()),(v0.2.2.1,v0.2.2.2.2.2.2.2.2.1,()))
abbrev yjX (v0:Bool) (v1:dA):(ydX).X:=(((v0,()),()),((v1.1,v1.2.1.1,v1.2.1.2,(),v1.2.2.2.1,v1.2.2.2.2.1,v1.2.2.2.2.2.1,v1.2.2.2.2.2.2.1,v1.2.2.2.2.2.2.2.1,(),v1.2.2.2.2.2.2.2.2.2.1,v1.2.2.2.2.2.2.2.2.2.2.1,v1.2.2.2.2.2.2.2.2.2.2.2,()),()),(v1.2.2.1,v1.2.2.2.2.2.2.2.2.1,()))
def yj1 (v0 v1 v2 v3 v4 v5 v6 v7 v8 v9 v10:Int) (v11 v12:Bool) (v13:List dM) (v14:List dW):Option ((ya4).X ⊕ ((ydN).X ⊕ (ydX).X)) :=bif(ltb v1 v0)then let r4:=ymc (v2,(v3,v4),v13,v5,v6,v7,v8,v9,v14,v10,v11,v12) v1;let r5:=yg2 r4;bnd (ydF (v2,(v3,v4),v13,v5,v6,v7,v8,v9,v14,v10,v11,v12) v1 (v9.tmod 2) r5) fun r6 =>bif(!r6.1.1)then some (.inr (.inr (((false,()),()),((r6.2.1.1,r6.2.1.2.1.1,r6.2.1.2.1.2,(),r6.2.1.2.2.2.1,r6.2.1.2.2.2.2.1,r6.2.1.2.2.2.2.2.1,r6.2.1.2.2.2.2.2.2.1,r6.2.1.2.2.2.2.2.2.2.1,(),r6.2.1.2.2.2.2.2.2.2.2.2.1,r6.2.1.2.2.2.2.2.2.2.2.2.2.1,r6.2.1.2.2.2.2.2.2.2.2.2.2.2,()),()),(r6.2.1.2.2.1,r6.2.1.2.2.2.2.2.2.2.2.1,())))) else some (.inl ((((),()),(v0,()),((i64.wrap (v1+1)),()),()),((r6.2.1.1,r6.2.1.2.1.1,r6.2.1.2.1.2,(),r6.2.1.2.2.2.1,r6.2.1.2.2.2.2.1,r6.2.1.2.2.2.2.2.1,r6.2.1.2.2.2.2.2.2.1,r6.2.1.2.2.2.2.2.2.2.1,(),r6.2.1.2.2.2.2.2.2.2.2.2.1,r6.2.1.2.2.2.2.2.2.2.2.2.2.1,r6.2.1.2.2.2.2.2.2.2.2.2.2.2,()),()),(r6.2.1.2.2.1,r6.2.1.2.2.2.2.2.2.2.2.1,()))) else some (.inr (.inl ((((),()),()),((v2,v3,v4,(),v5,v6,v7,v8,v9,(),v10,v11,v12,()),()),(v13,v14,()))))
def ybh (x:(ya4).X):=yj1 x.1.2.1.1 x.1.2.2.1.1 x.2.1.1.1 x.2.1.1.2.1 x.2.1.1.2.2.1 x.2.1.1.2.2.2.2.1 x.2.1.1.2.2.2.2.2.1 x.2.1.1.2.2.2.2.2.2.1 x.2.1.1.2.2.2.2.2.2.2.1 x.2.1.1.2.2.2.2.2.2.2.2.1 x.2.1.1.2.2.2.2.2.2.2.2.2.2.1 x.2.1.1.2.2.2.2.2.2.2.2.2.2.2.1 x.2.1.1.2.2.2.2.2.2.2.2.2.2.2.2.1 x.2.2.1 x.2.2.2.1
def yry (x:(ydS).X):(ya4).X:=((((),()),(x.1.2.1.1,()),(0,()),()),((x.2.1.1.1,x.2.1.1.2.1,x.2.1.1.2.2.1,(),x.2.1.1.2.2.2.2.1,x.2.1.1.2.2.2.2.2.1,x.2.1.1.2.2.2.2.2.2.1,x.2.1.1.2.2.2.2.2.2.2.1,x.2.1.1.2.2.2.2.2.2.2.2.1,(),x.2.1.1.2.2.2.2.2.2.2.2.2.2.1,x.2.1.1.2.2.2.2.2.2.2.2.2.2.2.1,x.2.1.1.2.2.2.2.2.2.2.2.2.2.2.2.1,()),()),(x.2.2.1,x.2.2.2.1,()))
def ytj:Code:=(zd7 yj7 64 116).getD .skip
theorem yDD:zd7 yj7 64 29=some (.block 0 (.loop ytj)):=by kernel_rfl
theorem yEY (x:(ya4).X):zhu ⟨ypy,37,yvy⟩ 0 ytj 116 ya4 ydN ydX x=ybh x:=by kernel_rfl
def yrE (x:(ydS).X):Nat:=18446744073709551616
def ykY (x:(ydS).X):Option ((ydN).X ⊕ (ydX).X):=zF ybh (yrE x) (yry x)
def yrP:Seg:=⟨ydS,ydN,ydX,ykY⟩
def yFu:Nat→Option Seg:=fun q=>bif Nat.beq q 29 then some yrP else yvy q
theorem yDT:FrOk prog ⟨ypy,37,yFu⟩ yj7:=(yDS).loop (sg:=yrP) ya4 yry (by decide) yDD ybh yrE (by decide) (fun _=>rfl) (fun x r _ h=>h) yEY
abbrev ygc:List Par:= [.pt tA (.pr .fz (.pr (.pr .fz .fz) (.pr (.ow (.pr (.ow (.ow .fz)) (.pr (.ow (.pr .fz (.ow .fz))) (.pr .fz (.ow .fz))))) (.pr .fz (.pr .fz (.pr .fz (.pr .fz (.pr .fz (.pr (.ow (.pr .fz (.ow .fz))) (.pr .fz (.pr .fz .fz)))))))))))]
abbrev yku:List OT:= [⟨false,tB,.fz⟩]
def ymV (a0:dA):Option (zaY yku×zak ygc) :=zkt (ykY ((((),()),((a0.2.2.1.length:Int),()),((),()),()),((a0.1,a0.2.1.1,a0.2.1.2,(),a0.2.2.2.1,a0.2.2.2.2.1,a0.2.2.2.2.2.1,a0.2.2.2.2.2.2.1,(i64.wrap (a0.2.2.2.2.2.2.2.1+1)),(),a0.2.2.2.2.2.2.2.2.2.1,a0.2.2.2.2.2.2.2.2.2.2.1,a0.2.2.2.2.2.2.2.2.2.2.2,()),()),(a0.2.2.1,a0.2.2.2.2.2.2.2.2.1,()))) (fun y6 =>bnd (yej (y6.2.1.1.1,(y6.2.1.1.2.1,y6.2.1.1.2.2.1),y6.2.2.1,y6.2.1.1.2.2.2.2.1,y6.2.1.1.2.2.2.2.2.1,y6.2.1.1.2.2.2.2.2.2.1,y6.2.1.1.2.2.2.2.2.2.2.1,y6.2.1.1.2.2.2.2.2.2.2.2.1,y6.2.2.2.1,y6.2.1.1.2.2.2.2.2.2.2.2.2.2.1,y6.2.1.1.2.2.2.2.2.2.2.2.2.2.2.1,y6.2.1.1.2.2.2.2.2.2.2.2.2.2.2.2.1)) fun r8 =>some ((r8.1.1,()),(r8.2.1,()))) (fun y6 =>some ((y6.1.1.1,()),((y6.2.1.1.1,(y6.2.1.1.2.1,y6.2.1.1.2.2.1),y6.2.2.1,y6.2.1.1.2.2.2.2.1,y6.2.1.1.2.2.2.2.2.1,y6.2.1.1.2.2.2.2.2.2.1,y6.2.1.1.2.2.2.2.2.2.2.1,y6.2.1.1.2.2.2.2.2.2.2.2.1,y6.2.2.2.1,y6.2.1.1.2.2.2.2.2.2.2.2.2.2.1,y6.2.1.1.2.2.2.2.2.2.2.2.2.2.2.1,y6.2.1.1.2.2.2.2.2.2.2.2.2.2.2.2.1),())))
theorem yGN:ConOk prog 107 ⟨ygc,yku,fun x=>ymV x.1⟩:=zkI (yDT) func107 ntmps107.symm fun x=>by kernel_rfl
def ykN (a0:dA):Bool×dA:=(!(yb (yab a0)),yab a0)
def yhc (a0:dA):Bool:= !(yb a0)
theorem yST {a:dA} (i:Nat) (h:yb a=true):yY a i=a:=ysP h _ _ _
theorem yJk (a0:dA) (hk:zjx ygc (a0,())) (hq:yhc a0=true):ymV a0=(fun n=>some ((n.1,()),(n.2,()))) (ykN a0):=by
 have hb:a0.2.2.1.length*80≤2^47:=hk.1.2.2.1.1;have hd0:yb a0=false:=by simpa [yhc]using hq
 have h1:ykY (yC9 a0.2.2.1.length (yaj a0))=some (bif yb ((List.range a0.2.2.1.length).foldl yY (yaj a0))then .inr (yjX false ((List.range a0.2.2.1.length).foldl yY (yaj a0)))else .inl (yjV ((List.range a0.2.2.1.length).foldl yY (yaj a0)))):=by
  have:=zkC (step:=ybh) a0.2.2.1.length (fun i s=>yjR a0.2.2.1.length i s) (fun i s=>bif yb (yY s i)then(.inr (yY s i):dA ⊕ dA)else .inl (yY s i)) (fun _ s=>s.2.2.1.length=a0.2.2.1.length∧yb s=false) id
   (fun b=>bif yb b then .inr (yjX false b)else .inl (yjV b)) (fun i s hi hs=>by
    constructor
    ·simp only[ybh,yjR,yj1,zky (show(i:Int)<a0.2.2.1.length by omega),cond_true,wq ((i:Int)+1) (by omega) (by omega),Int.natCast_add,Int.natCast_one,Int.toNat_natCast,zkX,yTo,ymc]
     rw[ymU s i (s.2.2.2.2.2.2.2.1.tmod 2) (yx (s.1,s.2.2.2.2.2.2.2.1,(i:Int),s.2.1.1,s.2.1.2,s.2.2.2.2.2.2.1,s.2.2.2.1,s.2.2.2.2.1)) (by unfold ycf; rw[zkR (by rw[hs.1]; exact hi),hs.2]; rfl)];simp only[zkH,ycc];rw[show yce s i (s.2.2.2.2.2.2.2.1.tmod 2) (yx (s.1,s.2.2.2.2.2.2.2.1,(i:Int),s.2.1.1,s.2.1.2,s.2.2.2.2.2.2.1,s.2.2.2.1,s.2.2.2.2.1))=yY s i from rfl];cases hd:yb (yY s i)
     ·rfl
     ·simp only[hd,Bool.not_true,Bool.not_false,cond_true,yjX]
    ·intro s' h
     cases hd:yb (yY s i)
     ·rw[hd]at h
      cases h;exact⟨(yHq s i).trans hs.1,hd⟩
     ·rw[hd]at h; cases h) (fun s hs=>by simp only[ybh,yjR,yj1,hs.2,zk3 (Int.le_refl _),cond_false,id,yjV]) (yaj a0) ⟨rfl,hd0⟩ 18446744073709551616 (by omega)
  rw[yyF (fun a i h=>yST i h),← List.range_eq_range']at this;exact this
 unfold ymV ykN yab;refine(congrArg (fun z=>zkt z _ _) h1).trans ?_;cases hd:yb ((List.range a0.2.2.1.length).foldl yY (yaj a0))
 ·simp only[cond_false,zkN,zkX]
  rw[yoF _ (by unfold yek; rw[hd]; rfl)]; rfl
 ·rw[yAP hd]
  simp only[cond_true,zkO,zkX];rw[hd]; rfl
def yg9 (a0:dA):Option (zaY yku×zak ygc):=bif yhc a0 then(fun n=>some ((n.1,()),(n.2,()))) (ykN a0)else none
theorem yKg (a0:dA) (h:yhc a0=true):yg9 a0=(fun n=>some ((n.1,()),(n.2,()))) (ykN a0):=by unfold yg9; rw[h]; rfl
def yvQ:Con:=⟨ygc,yku,fun x=>yg9 x.1⟩
theorem yJ2:ConOk prog 107 yvQ:=(yGN).mono (fun x r hk h=>zkY h (fun hq=>yJk x.1 hk hq))
def yHx:Code:=(f99.body).getD .skip
def yHJ:Env:=zkw TT [(107,yvQ),(165,yhF)] []
theorem yC0:FrOk prog ⟨yHJ,15,fun _=>none⟩ yHx:=zkA mixed yc ⟨yJ2,yoE,trivial⟩
abbrev yfe:List Par:= [.pt tA (.pr .fz (.pr (.pr .fz .fz) (.pr (.ow (.pr (.ow (.ow .fz)) (.pr (.ow (.pr .fz (.ow .fz))) (.pr .fz (.ow .fz))))) (.pr .fz (.pr .fz (.pr .fz (.pr .fz (.pr .fz (.pr (.ow (.pr .fz (.ow .fz))) (.pr .fz (.pr .fz .fz)))))))))))]
abbrev yiQ:List OT:= [⟨false,tB,.fz⟩]
def ylu (a0:dA):Option (zaY yiQ×zak yfe) :=bnd (yej a0) fun r1 =>bif(!r1.1.1)then some ((false,()),(r1.2.1,())) else bnd (yg9 (r1.2.1.1,r1.2.1.2.1,r1.2.1.2.2.1,r1.2.1.2.2.2.1,r1.2.1.2.2.2.2.1,r1.2.1.2.2.2.2.2.1,r1.2.1.2.2.2.2.2.1,r1.2.1.2.2.2.2.2.2.2)) fun r2 =>some ((r2.1.1,()),(r2.2.1,()))
theorem yEI:ConOk prog 99 ⟨yfe,yiQ,fun x=>ylu x.1⟩:=zkI (yC0) func99 ntmps99.symm fun x=>by kernel_rfl
def yfK (a0:dA):Bool×dA:=(!(yb (yR a0)),yR a0)
def yi9 (a0:dA):Bool:= !(yb a0)
theorem yGI (a0:dA) (hk:zjx yfe (a0,())) (hq:yi9 a0=true):ylu a0=(fun n=>some ((n.1,()),(n.2,()))) (yfK a0):=by
 unfold ylu yfK yR;rw[yoF a0 hq];simp only[zkH,yg0];cases hd:yb (yq a0)
 ·have hm:yg9 (yaV (yq a0))=some ((!(yb (yab (yaV (yq a0)))),()),(yab (yaV (yq a0)),())):=yKg (yaV (yq a0)) (by unfold yhc; rw[show yb (yaV (yq a0))=yb (yq a0)from rfl,hd]; rfl)
  exact(congrArg (fun z=>bnd z _) hm).trans rfl
 ·simp only[Bool.not_true,Bool.not_false,cond_true]
  rw[hd]; rfl
def yi8 (a0:dA):Option (zaY yiQ×zak yfe):=bif yi9 a0 then(fun n=>some ((n.1,()),(n.2,()))) (yfK a0)else none
theorem yHa (a0:dA) (h:yi9 a0=true):yi8 a0=(fun n=>some ((n.1,()),(n.2,()))) (yfK a0):=by unfold yi8; rw[h]; rfl
def ytq:Con:=⟨yfe,yiQ,fun x=>yi8 x.1⟩
theorem yG7:ConOk prog 99 ytq:=(yEI).mono (fun x r hk h=>zkY h (fun hq=>yGI x.1 hk hq))
def yFq:Code:=(f130.body).getD .skip
def yFB:Env:=zkw TT [(97,yrt),(98,ytr),(99,ytq),(158,ybx)] []
theorem yCk:FrOk prog ⟨yFB,44,fun _=>none⟩ yFq:=zkA mixed yc ⟨yEN,yG8,yG7,ydG,trivial⟩
abbrev ycZ:List Par:= [.pt tA (.pr .fz (.pr (.pr .fz .fz) (.pr (.ow (.pr (.ow (.ow .fz)) (.pr (.ow (.pr .fz (.ow .fz))) (.pr .fz (.ow .fz))))) (.pr .fz (.pr .fz (.pr .fz (.pr .fz (.pr .fz (.pr (.ow (.pr .fz (.ow .fz))) (.pr .fz (.pr .fz .fz))))))))))),.rd tI,.rd tL]
abbrev yeN:List OT:= [⟨false,tB,.fz⟩]
def yj0 (a0:dA) (a1:Int) (a2:List Int):Option (zaY yeN×zak ycZ) :=bif(leb 4 (i64.wrap (a0.2.2.2.2.2.1-a0.2.2.2.2.2.2.1)))then bnd (yi8 a0) fun r1 =>bif(!r1.1.1)then some ((false,()),(r1.2.1,())) else let r2:=yp a2;bnd (yc3 r1.2.1 (r1.2.1.2.2.2.2.2.1,a1,r2)) fun r3 =>bif(!r3.1.1)then some ((false,()),(r3.2.1,())) else bnd (ycd (r3.2.1.1,r3.2.1.2.1,r3.2.1.2.2.1,r3.2.1.2.2.2.1,r3.2.1.2.2.2.2.1,(i64.wrap (r3.2.1.2.2.2.2.2.1+1)),r3.2.1.2.2.2.2.2.2) a1 a2) fun r4 =>some ((r4.1.1,()),(r4.2.1,())) else let r5:=yp a2;bnd (yc3 a0 (a0.2.2.2.2.2.1,a1,r5)) fun r6 =>bif(!r6.1.1)then some ((false,()),(r6.2.1,())) else bnd (ycd (r6.2.1.1,r6.2.1.2.1,r6.2.1.2.2.1,r6.2.1.2.2.2.1,r6.2.1.2.2.2.2.1,(i64.wrap (r6.2.1.2.2.2.2.2.1+1)),r6.2.1.2.2.2.2.2.2) a1 a2) fun r7 =>some ((r7.1.1,()),(r7.2.1,()))
theorem yDj:ConOk prog 130 ⟨ycZ,yeN,fun x=>yj0 x.1 x.2.1 x.2.2.1⟩:=zkI (yCk) func130 ntmps130.symm fun x=>by kernel_rfl
def yeT (a0:dA) (a1:Int) (a2:List Int):Bool×dA:=(!(yb (yH a0 a1 a2).2),(yH a0 a1 a2).2)
def yeV (a0:dA) (a1:Int) (a2:List Int):Bool:= !(yb a0)&&(yO a0.2.1 a1&&((a2.length:Int)==a0.2.1.1-1&&(a0.2.2.1.length:Int)==a0.2.1.1))
theorem yEE (a0:dA) (a1:Int) (a2:List Int) (hk:zjx ycZ (a0,a1,a2,())) (hq:yeV a0 a1 a2=true):yj0 a0 a1 a2=(fun n=>some ((n.1,()),(n.2,()))) (yeT a0 a1 a2):=by
 simp only[yeV,Bool.and_eq_true,beq_iff_eq,Bool.not_eq_true']at hq;obtain⟨hd0,hs0,hl0,hm0⟩:=hq
 have key: ∀b:dA,b.2.1=a0.2.1→b.2.2.1.length=a0.2.2.1.length→yb (yJ b (b.2.2.2.2.2.1,a1,a2))=false→ycd (yU (yJ b (b.2.2.2.2.2.1,a1,a2))) a1 a2=some ((!(yb (yB (yU (yJ b (b.2.2.2.2.2.1,a1,a2))) a1 a2)),()),(yB (yU (yJ b (b.2.2.2.2.2.1,a1,a2))) a1 a2,())):=fun b h1 h2 h3=>yHb _ _ _ (by
  unfold yfQ;rw[show yb (yU (yJ b (b.2.2.2.2.2.1,a1,a2)))=yb (yJ b (b.2.2.2.2.2.1,a1,a2))from rfl,h3,show(yU (yJ b (b.2.2.2.2.2.1,a1,a2))).2.1=a0.2.1 from(yaC (ybe _ _)).trans h1,show(yU (yJ b (b.2.2.2.2.2.1,a1,a2))).2.2.1.length=a0.2.2.1.length from(yTL _ _).trans h2,hs0,hl0,hm0]
  simp)
 have fin: ∀b:dA,b.2.1=a0.2.1→b.2.2.1.length=a0.2.2.1.length→yb b=false →
   (bnd (yc3 b (b.2.2.2.2.2.1,a1,a2)) fun r3=>bif !r3.1.1 then some ((false,()),(r3.2.1,()))else bnd (ycd (yU r3.2.1) a1 a2) fun r4=>(some ((r4.1.1,()),(r4.2.1,())):Option (zaY yeN×zak ycZ))) =
   some ((!(yb (bif yb (yJ b (b.2.2.2.2.2.1,a1,a2))then(6,yJ b (b.2.2.2.2.2.1,a1,a2))else(bif yb (yB (yU (yJ b (b.2.2.2.2.2.1,a1,a2))) a1 a2)then 6 else 0,yB (yU (yJ b (b.2.2.2.2.2.1,a1,a2))) a1 a2):Int×dA).2),()),((bif yb (yJ b (b.2.2.2.2.2.1,a1,a2))then(6,yJ b (b.2.2.2.2.2.1,a1,a2))else(bif yb (yB (yU (yJ b (b.2.2.2.2.2.1,a1,a2))) a1 a2)then 6 else 0,yB (yU (yJ b (b.2.2.2.2.2.1,a1,a2))) a1 a2):Int×dA).2,())):=fun b h1 h2 h3=>by
  rw[yEU b _ (by unfold yeU; rw[h3]; rfl)];have hk:=key b h1 h2;simp only[zkH,yeS];generalize yJ b (b.2.2.2.2.2.1,a1,a2)=R at hk ⊢;rcases Bool.eq_false_or_eq_true (yb R)with hr | hr
  ·simp only[hr,Bool.not_true,Bool.not_false,cond_true]
  ·rw[hk hr]
   simp only[hr,Bool.not_false,Bool.not_true,cond_false,zkH]
 unfold yj0 yeT yH ym;simp only[yp];cases h4:leb 4 (i64.wrap (a0.2.2.2.2.2.1-a0.2.2.2.2.2.2.1))
 ·simp only[cond_false]
  have:=fin a0 rfl rfl hd0;unfold yU at this ⊢;rw[this];rw[show yb a0=false from hd0]; rfl
 ·simp only[cond_true]
  rw[yHa a0 (by unfold yi9; rw[hd0]; rfl)];simp only[zkH,yfK];rcases Bool.eq_false_or_eq_true (yb (yR a0))with hc | hc
  ·simp only[hc,Bool.not_true,Bool.not_false,cond_true]
  ·have:=fin (yR a0) (yDL a0) (yQb a0) hc
   simp only[hc,Bool.not_false,Bool.not_true,cond_false];unfold yU at this ⊢;exact this
def yhL (a0:dA) (a1:Int) (a2:List Int):Option (zaY yeN×zak ycZ):=bif yeV a0 a1 a2 then(fun n=>some ((n.1,()),(n.2,()))) (yeT a0 a1 a2)else none
theorem yEV (a0:dA) (a1:Int) (a2:List Int) (h:yeV a0 a1 a2=true):yhL a0 a1 a2=(fun n=>some ((n.1,()),(n.2,()))) (yeT a0 a1 a2):=by unfold yhL; rw[h]; rfl
def yru:Con:=⟨ycZ,yeN,fun x=>yhL x.1 x.2.1 x.2.2.1⟩
theorem yEO:ConOk prog 130 yru:=(yDj).mono (fun x r hk h=>zkY h (fun hq=>yEE x.1 x.2.1 x.2.2.1 hk hq))
def yQH:Code:=(f131.body).getD .skip
def yRa:Env:=zkw TT [] []
theorem yH9:FrOk prog ⟨yRa,4,fun _=>none⟩ yQH:=zkA mixed yc trivial
abbrev yuv:List Par:= [.rd tB]
abbrev yuU:List OT:= [⟨false,tI,.fz⟩]
def yAA (a0:Bool):Option (zaY yuU×zak yuv) :=bif a0 then some ((0,()),()) else some ((6,()),())
theorem yMK:ConOk prog 131 ⟨yuv,yuU,fun x=>yAA x.1⟩:=zkI (yH9) func131 ntmps131.symm fun x=>by kernel_rfl
def ynZ (a0:Bool):Int :=bif a0 then 0 else 6
def yzX:Con:=⟨yuv,yuU,fun x=>(fun n=>some ((n,()),())) (ynZ x.1)⟩
theorem yOR (a0:Bool):yAA a0=(fun n=>some ((n,()),())) (ynZ a0):=zkV (p:=fun(n:Int)=>((n,()),())) (zkG (p:=fun(n:Int)=>((n,()),())) rfl rfl)
theorem yPH:ConOk prog 131 yzX:=(yMK).mono (fun x r _ h=>(yOR x.1).trans h)
def yDw:Code:=(f58.body).getD .skip
def yDA:Env:=zkw TT [(55,yh6),(95,yol),(109,yav),(129,yqx),(130,yru),(131,yzX)] []
theorem yBE:FrOk prog ⟨yDA,55,fun _=>none⟩ yDw:=zkA mixed yc ⟨yn4,yAq,yby,yBQ,yEO,yPH,trivial⟩
abbrev ygf:List Par:= [.rd tA,.rd tI,.rd tL]
abbrev yk9:List OT:= [⟨false,tA,(.pr .fz (.pr (.pr .fz .fz) (.pr (.ow (.pr (.ow (.ow .fz)) (.pr (.ow (.pr .fz (.ow .fz))) (.pr .fz (.ow .fz))))) (.pr .fz (.pr .fz (.pr .fz (.pr .fz (.pr .fz (.pr (.ow (.pr .fz (.ow .fz))) (.pr .fz (.pr .fz .fz)))))))))))⟩,⟨false,tI,.fz⟩]
def yjb (a0:dA) (a1:Int) (a2:List Int):Option (zaY yk9×zak ygf) :=let r1:=ydE a0;let r2:=ybb a0;bif(!(!r2))then let r3:=ydi a0.2.1 a2;bif(!r3)then some ((r1,1,()),()) else bif a0.2.2.2.2.2.2.2.2.2.2.1 then some ((r1,6,()),()) else let r4:=yL a0.2.1 a1;bif(!r4)then some ((r1,2,()),()) else bif a0.2.2.2.2.2.2.2.2.2.2.2 then some ((r1,5,()),()) else bif(!(a0.2.2.2.2.2.1==60000))then bif(leb 59990 a0.2.2.2.2.2.2.2.1)then some ((r1,7,()),()) else bnd (yhL r1 a1 a2) fun r5 =>let r6:=ynZ r5.1.1;some ((r5.2.1,r6,()),()) else some ((r1,7,()),()) else some ((r1,1,()),())
theorem yCB:ConOk prog 58 ⟨ygf,yk9,fun x=>yjb x.1 x.2.1 x.2.2.1⟩:=zkI (yBE) func58 ntmps58.symm fun x=>by kernel_rfl
def yd2 (a0:dA) (a1:Int) (a2:List Int):dA×Int:=yCL a0 a1 a2
theorem yDf (a0:dA) (a1:Int) (a2:List Int) (hk:zjx ygf (a0,a1,a2,())):yjb a0 a1 a2=(fun n=>some ((n.1,n.2,()),())) (yd2 a0 a1 a2):=by
 have hz:=fun h=>ytp (a:=a0) (s:=a1) (d:=a2) h
 unfold yjb yd2 yCL;unfold yD at hz ⊢;simp only[ydE,ybb,yd5,yf9,ybA]at hz ⊢;cases ha:ya2 a0
 ·rfl
 have hg:=yl.1 (ydZ ha);have hc:=(yFd.1 ha).1;unfold yaw at hc
 have hdo:ydi a0.2.1 a2=((a2.length:Int)==a0.2.1.1-1&&a2.all isW):=by
  unfold ydi;rw[yqN,wq (a0.2.1.1-1) (by omega) (by omega)];cases((a2.length:Int)==a0.2.1.1-1)<;>rfl
 rw[hdo,yns,show yO a0.2.1 a1=(leb 0 a1&&leb a1 (a0.2.1.2-1))by unfold yO; rw[ydZ ha]; rfl];rw[ha,wq (a0.2.1.1-1) (by omega) (by omega),wq (a0.2.1.2-1) (by omega) (by omega)]at hz;rw[wq (a0.2.1.1-1) (by omega) (by omega),wq (a0.2.1.2-1) (by omega) (by omega)];rw[show(a0.2.2.2.2.2.1==60000)=leb 60000 a0.2.2.2.2.2.1 by rw[Bool.eq_iff_iff,beq_iff_eq,zj7]; omega];unfold bne at hz ⊢;cases hl:((a2.length:Int)==a0.2.1.1-1)
 ·rfl
 cases hw:a2.all isW
 ·rfl
 rcases Bool.eq_false_or_eq_true a0.2.2.2.2.2.2.2.2.2.2.1 with hd | hd
 ·simp only[hd,Bool.not_true,Bool.not_false,Bool.and_self,cond_true,cond_false]; rfl
 cases hs:(leb 0 a1&&leb a1 (a0.2.1.2-1))
 ·simp only[hd,Bool.not_true,Bool.not_false,Bool.and_self,cond_true,cond_false]; rfl
 rcases Bool.eq_false_or_eq_true a0.2.2.2.2.2.2.2.2.2.2.2 with hb | hb
 ·simp only[hd,hb,Bool.not_true,Bool.not_false,Bool.and_self,cond_true,cond_false]; rfl
 cases h6:leb 60000 a0.2.2.2.2.2.1
 ·cases h7:leb 59990 a0.2.2.2.2.2.2.2.1
  ·simp only[hd,hb,Bool.not_true,Bool.not_false,Bool.and_self,cond_true,cond_false,beq_self_eq_true]
   have hso:yO a0.2.1 a1=true:=by unfold yO; rw[ydZ ha,hs]; rfl
   rw[yEV a0 a1 a2 (by unfold yeV; rw[show yb a0=false from hd,hso,hl,beq_iff_eq.2 (yth ha)]; rfl)];simp only[zkH,yeT,ynZ];rw[yUf];cases yb (yH a0 a1 a2).2<;>rfl
  ·simp only[hd,hb,Bool.not_true,Bool.not_false,Bool.and_self,cond_true,cond_false]; rfl
 ·simp only[hd,hb,Bool.not_true,Bool.not_false,Bool.and_self,cond_true,cond_false]; rfl
def yqw:Con:=⟨ygf,yk9,fun x=>(fun n=>some ((n.1,n.2,()),())) (yd2 x.1 x.2.1 x.2.2.1)⟩
theorem yDo:ConOk prog 58 yqw:=(yCB).mono (fun x r hk h=>(yDf x.1 x.2.1 x.2.2.1 hk).trans h)
def yga:Code:=(f201.body).getD .skip
def ykW:Env:=zkw TT [] []
theorem yBF:FrOk prog ⟨ykW,19,fun _=>none⟩ yga:=zkA mixed yc trivial
def ypu:Nat→Option Seg:=fun _=>none
def yao:Shape:=⟨[(0,false,[.br tI]),(1,false,[.int .i64]),(7,false,[.int .i64]),(8,false,[.int .i64])],[],[]⟩
def ycj:Shape:=⟨[(0,false,[.br tI]),(1,false,[.int .i64]),(7,false,[.int .i64]),(8,false,[.ci .i64 0])],[],[]⟩
def ych:Shape:=⟨[],[],[]⟩
def ycl:Shape:=⟨[(4,false,[.int .i64])],[],[]⟩
abbrev yhk (v0:List Int) (v1 v2 v3:Int):(yao).X:=(((v0,()),(v1,()),(v2,()),(v3,()),()),(),())
abbrev yA3 (v0:List Int) (v1 v2:Int):(ycj).X:=(((v0,()),(v1,()),(v2,()),((),()),()),(),())
abbrev yA1  :(ych).X:=((),(),())
abbrev ynt (v0:Int):(ycl).X:=(((v0,()),()),(),())
def yhn (v0:List Int) (v1 v2 v3:Int):Option ((yao).X ⊕ ((ych).X ⊕ (ycl).X)) :=bif(ltb v3 v2)then bif(inb v3 v0.length)then bif(v1==(nth v0 v3 0))then some (.inr (.inr (((v3,()),()),(),()))) else some (.inl (((v0,()),(v1,()),(v2,()),((i64.wrap (v3+1)),()),()),(),())) else none else some (.inr (.inl ((),(),())))
def yay (x:(yao).X):=yhn x.1.1.1 x.1.2.1.1 x.1.2.2.1.1 x.1.2.2.2.1.1
def yno (x:(ycj).X):(yao).X:=(((x.1.1.1,()),(x.1.2.1.1,()),(x.1.2.2.1.1,()),(0,()),()),(),())
def ypa:Code:=(zd7 yga 64 52).getD .skip
theorem yBn:zd7 yga 64 13=some (.block 0 (.loop ypa)):=by kernel_rfl
theorem yBZ (x:(yao).X):zhu ⟨ykW,19,ypu⟩ 0 ypa 52 yao ych ycl x=yay x:=by kernel_rfl
def ynq (x:(ycj).X):Nat:=18446744073709551616
def yhP (x:(ycj).X):Option ((ych).X ⊕ (ycl).X):=zF yay (ynq x) (yno x)
def ynv:Seg:=⟨ycj,ych,ycl,yhP⟩
def yB8:Nat→Option Seg:=fun q=>bif Nat.beq q 13 then some ynv else ypu q
theorem yBG:FrOk prog ⟨ykW,19,yB8⟩ yga:=(yBF).loop (sg:=ynv) yao yno (by decide) yBn yay ynq (by decide) (fun _=>rfl) (fun x r _ h=>h) yBZ
abbrev ygg:List Par:= [.rd tL,.rd tI]
abbrev yla:List OT:= [⟨false,tI,.fz⟩]
def yjc (a0:List Int) (a1:Int):Option (zaY yla×zak ygg) :=zkt (yhP (((a0,()),(a1,()),((a0.length:Int),()),((),()),()),(),())) (fun y0 =>some (((-1),()),())) (fun y0 =>some ((y0.1.1.1,()),()))
theorem yCC:ConOk prog 201 ⟨ygg,yla,fun x=>yjc x.1 x.2.1⟩:=zkI (yBG) func201 ntmps201.symm fun x=>by kernel_rfl
def yOF (l:List Int) (x:Int):Int:=bif l.any (· ==x)then((l.takeWhile (· !=x)).length:Int)else -1
def yd4 (a0:List Int) (a1:Int):Int:=yOF a0 a1
theorem yT4 {A B α:Type} {step:A→Option (A ⊕ B)} (l:List α) (d:α) (f:Nat→A) (p:α→Bool) (b:Nat→B) (c:B)
  (h: ∀i,i<l.length→step (f i)=some (bif p (l.getD i d)then .inr (b i)else .inl (f (i+1)))) (e:step (f l.length)=some (.inr c)) (fuel:Nat) (hf:l.length<fuel) :
  zF step fuel (f 0)=some (bif l.any p then b (l.takeWhile (fun x=> !p x)).length else c):=by
 have: ∀(t q:List α) (fuel:Nat),q++t=l→t.length<fuel→zF step fuel (f q.length)=some (bif t.any p then b (q.length+(t.takeWhile (fun x=> !p x)).length)else c):=by
  intro t
  induction t with
  | nil =>
   intro q fuel hq hf;obtain⟨fuel,rfl⟩: ∃m,fuel=m+1:=⟨fuel-1,by omega⟩;rw[List.append_nil]at hq;subst hq;simp only[zF,e,List.any_nil,cond_false]
  | cons x t ih =>
   intro q fuel hq hf;obtain⟨fuel,rfl⟩: ∃m,fuel=m+1:=⟨fuel-1,by omega⟩
   have hx:l.getD q.length d=x:=by
    subst hq;rw[zkJ (by simp)]; simp
   have hs:=h q.length (by rw[← hq]; simp);rw[hx]at hs;cases hp:p x
   ·rw[hp]at hs
    have:=ih (q++ [x]) fuel (by rw[← hq]; simp) (by simp at hf; omega);simp only[List.length_append,List.length_cons,List.length_nil]at this;simp only[zF,hs,cond_false];simp only[List.any_cons,hp,Bool.false_or,List.takeWhile_cons,Bool.not_false,if_true,List.length_cons];rw[show q.length+((t.takeWhile (fun x=> !p x)).length+1)=q.length+(0+1)+(t.takeWhile (fun x=> !p x)).length by omega];exact this
   ·rw[hp]at hs
    simp only[zF,hs,cond_true,List.any_cons,hp,Bool.true_or,List.takeWhile_cons,Bool.not_true,Bool.false_eq_true,if_false,List.length_nil,Nat.add_zero]
 have:=this l [] fuel rfl hf;simpa using this
theorem yDg (a0:List Int) (a1:Int) (hk:zjx ygg (a0,a1,())):yjc a0 a1=(fun n=>some ((n,()),())) (yd4 a0 a1):=by
 have hb:a0.length*8≤2^47:=hk.1.1
 have h1:yhP (yA3 a0 a1 a0.length)=some (bif a0.any (· ==a1)then .inr (ynt ((a0.takeWhile (fun x=> !(x==a1))).length:Int))else .inl yA1) :=
  yT4 (step:=yay) a0 0 (fun i=>yhk a0 a1 a0.length i) (· ==a1) (fun i=> .inr (ynt (i:Int))) _ (fun i hi=>by
   simp only[yay,yhk,yhn,zky (show(i:Int)<a0.length by omega),cond_true,wq ((i:Int)+1) (by omega) (by omega),Int.natCast_add,Int.natCast_one,Int.toNat_natCast,zkR hi,zkS];rw[show(a1==a0.getD i 0)=(a0.getD i 0==a1)by rw[Bool.eq_iff_iff,beq_iff_eq,beq_iff_eq]; exact eq_comm]
   cases(a0.getD i 0==a1)<;>rfl) (by simp only[yay,yhk,yhn,zk3 (Int.le_refl _),cond_false]) _ (by show _<18446744073709551616; omega)
 unfold yjc yd4 yOF;rw[h1];cases a0.any (· ==a1)<;>rfl
def yqA:Con:=⟨ygg,yla,fun x=>(fun n=>some ((n,()),())) (yd4 x.1 x.2.1)⟩
theorem yDp:ConOk prog 201 yqA:=(yCC).mono (fun x r hk h=>(yDg x.1 x.2.1 hk).trans h)
def yBa:Code:=(f157.body).getD .skip
def yBm:Env:=zkw TT [(201,yqA)] []
theorem yyq:FrOk prog ⟨yBm,9,fun _=>none⟩ yBa:=zkA mixed yc ⟨yDp,trivial⟩
abbrev yec:List Par:= [.rd tL,.rd tI]
abbrev yh2:List OT:= [⟨false,tB,.fz⟩]
def yf1 (a0:List Int) (a1:Int):Option (zaY yh2×zak yec) :=let r1:=yd4 a0 a1;some (((leb 0 r1),()),())
theorem yzq:ConOk prog 157 ⟨yec,yh2,fun x=>yf1 x.1 x.2.1⟩:=zkI (yyq) func157 ntmps157.symm fun x=>by kernel_rfl
def ycn (a0:List Int) (a1:Int):Bool:=a0.any (· ==a1)
theorem yA5 (a0:List Int) (a1:Int) (hk:zjx yec (a0,a1,())):yf1 a0 a1=(fun n=>some ((n,()),())) (ycn a0 a1):=by
 unfold yf1 ycn yd4 yOF;cases a0.any (· ==a1)
 ·rfl
 ·simp only[cond_true]
  rw[zk2 (show(0:Int)≤((a0.takeWhile (· !=a1)).length:Int)by omega)]
def ymm:Con:=⟨yec,yh2,fun x=>(fun n=>some ((n,()),())) (ycn x.1 x.2.1)⟩
theorem yA6:ConOk prog 157 ymm:=(yzq).mono (fun x r hk h=>(yA5 x.1 x.2.1 hk).trans h)
def ylK:Code:=(f87.body).getD .skip
def yrZ:Env:=zkw TT [(127,ye4),(156,ygY),(157,ymm),(158,ybx)] []
theorem yFR:FrOk prog ⟨yrZ,49,fun _=>none⟩ ylK:=zkA mixed yc ⟨yjB,ymj,yA6,ydG,trivial⟩
def ywW:Nat→Option Seg:=fun _=>none
def ybp:Shape:=⟨[(1,false,[.int .i64]),(6,false,[.br tI]),(34,false,[.br tW]),(35,false,[.int .i64]),(36,false,[.int .i64])],[],[]⟩
def yeF:Shape:=⟨[(1,false,[.int .i64]),(6,false,[.br tI]),(34,false,[.br tW]),(35,false,[.int .i64]),(36,false,[.ci .i64 0])],[],[]⟩
def yew:Shape:=⟨[(6,false,[.br tI])],[],[]⟩
def yhy:Shape:=⟨[],[],[]⟩
abbrev ylh (v0:Int) (v1:List Int) (v2:List dW) (v3 v4:Int):(ybp).X:=(((v0,()),(v1,()),(v2,()),(v3,()),(v4,()),()),(),())
abbrev yEs (v0:Int) (v1:List Int) (v2:List dW) (v3:Int):(yeF).X:=(((v0,()),(v1,()),(v2,()),(v3,()),((),()),()),(),())
abbrev ytX (v0:List Int):(yew).X:=(((v0,()),()),(),())
def ylz (v0:Int) (v1:List Int) (v2:List dW) (v3 v4:Int):Option ((ybp).X ⊕ ((yew).X ⊕ (yhy).X)) :=bif(ltb v4 v3)then bif(inb v4 v2.length)then bif((nth v2 v4 (0,[])).1==v0)then some (.inl (((v0,()),((nth v2 v4 (0,[])).2,()),(v2,()),(v3,()),((i64.wrap (v4+1)),()),()),(),())) else some (.inl (((v0,()),(v1,()),(v2,()),(v3,()),((i64.wrap (v4+1)),()),()),(),())) else none else some (.inr (.inl (((v1,()),()),(),())))
def ybF (x:(ybp).X):=ylz x.1.1.1 x.1.2.1.1 x.1.2.2.1.1 x.1.2.2.2.1.1 x.1.2.2.2.2.1.1
def ytx (x:(yeF).X):(ybp).X:=(((x.1.1.1,()),(x.1.2.1.1,()),(x.1.2.2.1.1,()),(x.1.2.2.2.1.1,()),(0,()),()),(),())
def yvG:Code:=(zd7 ylK 64 244).getD .skip
theorem yFG:zd7 ylK 64 61=some (.block 0 (.loop yvG)):=by kernel_rfl
theorem yHd (x:(ybp).X):zhu ⟨yrZ,49,ywW⟩ 0 yvG 244 ybp yew yhy x=ybF x:=by kernel_rfl
def ytK (x:(yeF).X):Nat:=18446744073709551616
def ymp (x:(yeF).X):Option ((yew).X ⊕ (yhy).X):=zF ybF (ytK x) (ytx x)
def yt6:Seg:=⟨yeF,yew,yhy,ymp⟩
def yHA:Nat→Option Seg:=fun q=>bif Nat.beq q 61 then some yt6 else ywW q
theorem yFS:FrOk prog ⟨yrZ,49,yHA⟩ ylK:=(yFR).loop (sg:=yt6) ybp ytx (by decide) yFG ybF ytK (by decide) (fun _=>rfl) (fun x r _ h=>h) yHd
abbrev ylS:List Par:= [.rd tM,.rd tI]
abbrev ysi:List OT:= [⟨false,tL,(.ow .fz)⟩,⟨false,tB,.fz⟩]
def yoH (a0:dM) (a1:Int):Option (zaY ysi×zak ylS) :=let r1:=yaq a0;bif(!(!r1))then bif(!a0.2.2.1)then let r2:=yak a0 a1;bif(!(!r2))then let r3:=ycn a0.2.2.2 a1;bif r3 then some (([],false,()),()) else bif(inb a1 a0.1.length)then zkt (ymp (((a1,()),((nth a0.1 a1 []),()),(a0.2.1,()),((a0.2.1.length:Int),()),((),()),()),(),())) (fun y3 =>let r5:=yp y3.1.1.1;some ((r5,true,()),())) (fun y3 =>none) else none else some (([],false,()),()) else some (([],false,()),()) else some (([],false,()),())
theorem yJE:ConOk prog 87 ⟨ylS,ysi,fun x=>yoH x.1 x.2.1⟩:=zkI (yFS) func87 ntmps87.symm fun x=>by kernel_rfl
def yih (a0:dM) (a1:Int):List Int×Bool:=yf8 a0 a1
theorem yMf (a0:dM) (a1:Int) (hk:zjx ylS (a0,a1,())):yoH a0 a1=(fun n=>some ((n.1,n.2,()),())) (yih a0 a1):=by
 have hb1:a0.1.length*24≤2^47:=hk.1.1.1;have hb2:a0.2.1.length*32≤2^47:=hk.1.2.1.1
 have h1: ∀s,ymp (yEs a1 s a0.2.1 a0.2.1.length)=some (.inl (ytX (yfP a1 a0.2.1 s))):=fun s =>
  zkx (step:=ybF) a0.2.1 (0,[]) (fun i s=>ylh a1 s a0.2.1 a0.2.1.length i) (fun s w=>bif w.1==a1 then w.2 else s) (fun _ _=>True) (fun s=> .inl (ytX s)) (fun i s hi _=>⟨by
   simp only[ybF,ylh,ylz,zky (show(i:Int)<a0.2.1.length by omega),cond_true,wq ((i:Int)+1) (by omega) (by omega),Int.natCast_add,Int.natCast_one,Int.toNat_natCast,zkR hi,zkS]
   cases((a0.2.1.getD i (0,[])).1==a1)<;>rfl,trivial⟩) (fun s _=>by simp only[ybF,ylh,ylz,zk3 (Int.le_refl _),cond_false]) s trivial _ (by show _<18446744073709551616; omega)
 unfold yoH yih yf8 ywT yak;rw[yW,yh8 (show a0.1.length≤1152921504606846976 by omega)];unfold yaq ycn yp;simp only[h1,zkN];cases yu a0
 ·rfl
 cases a0.2.2.1
 ·cases inb a1 a0.1.length
  ·rfl
  ·cases a0.2.2.2.any (· ==a1)<;>rfl
 ·rfl
def yxU:Con:=⟨ylS,ysi,fun x=>(fun n=>some ((n.1,n.2,()),())) (yih x.1 x.2.1)⟩
theorem yNe:ConOk prog 87 yxU:=(yJE).mono (fun x r hk h=>(yMf x.1 x.2.1 hk).trans h)
def yQM:Code:=(f141.body).getD .skip
def yRf:Env:=zkw TT [(87,yxU),(111,ykH),(168,yqu)] []
theorem yIe:FrOk prog ⟨yRf,38,fun _=>none⟩ yQM:=zkA mixed yc ⟨yNe,ysK,yBP,trivial⟩
abbrev yjk:List Par:= [.rd tA,.rd tI,.rd tI]
abbrev ynU:List OT:= [⟨false,tI,.fz⟩,⟨false,tB,.fz⟩]
def yq5 (a0:dA) (a1 a2:Int):Option (zaY ynU×zak yjk) :=bif(inb a1 a0.2.2.1.length)then let r1:=yf4 a2;let r2:=yih ((nth a0.2.2.1 a1 ([],[],false,[])).1,((nth a0.2.2.1 a1 ([],[],false,[])).2).1,(((nth a0.2.2.1 a1 ([],[],false,[])).2).2)) r1;let r3:=yer a0 a1 a2;bif(!(!r3))then bif(!(!r2.2))then bif((r2.1.length:Int) !=1)then some ((0,false,()),()) else bif(inb 0 r2.1.length)then some (((nth r2.1 0 0),true,()),()) else none else some ((0,false,()),()) else some ((0,false,()),()) else none
theorem yMP:ConOk prog 141 ⟨yjk,ynU,fun x=>yq5 x.1 x.2.1 x.2.2.1⟩:=zkI (yIe) func141 ntmps141.symm fun x=>by kernel_rfl
def yf6 (a0:dA) (a1 a2:Int):Int×Bool:=(ynm a0 a1 a2,yn a0 a1 a2)
def yvs (a0:dA) (a1 a2:Int):Bool:=inb a1 a0.2.2.1.length
theorem yOW (a0:dA) (a1 a2:Int) (hk:zjx yjk (a0,a1,a2,())) (hq:yvs a0 a1 a2=true):yq5 a0 a1 a2=(fun n=>some ((n.1,n.2,()),())) (yf6 a0 a1 a2):=by
 unfold yq5 yf6 ynm yer;simp only[zkX,ysG,yih];rw[show yn a0 a1 a2=(ybR a0 a1 a2&&((ycB a0 a1 a2).2&&((ycB a0 a1 a2).1.length:Int)==1))from rfl];rw[show yf8 (nth a0.2.2.1 a1 ([],[],false,[])) (yy a2)=ycB a0 a1 a2 from rfl];rw[show inb a1 a0.2.2.1.length=true from hq];cases hl:ybR a0 a1 a2
 ·rfl
 ·cases(ycB a0 a1 a2).2
  ·rfl
  ·rw[bne]
   cases h1:(((ycB a0 a1 a2).1.length:Int)==1)
   ·rfl
   ·rw[show inb 0 (ycB a0 a1 a2).1.length=true from zj6.2 (by have:=beq_iff_eq.1 h1; omega)]; rfl
def yjA (a0:dA) (a1 a2:Int):Option (zaY ynU×zak yjk):=bif yvs a0 a1 a2 then(fun n=>some ((n.1,n.2,()),())) (yf6 a0 a1 a2)else none
theorem yBX (a0:dA) (a1 a2:Int) (h:yvs a0 a1 a2=true):yjA a0 a1 a2=(fun n=>some ((n.1,n.2,()),())) (yf6 a0 a1 a2):=by unfold yjA; rw[h]; rfl
def yqz:Con:=⟨yjk,ynU,fun x=>yjA x.1 x.2.1 x.2.2.1⟩
theorem yBS:ConOk prog 141 yqz:=(yMP).mono (fun x r hk h=>zkY h (fun hq=>yOW x.1 x.2.1 x.2.2.1 hk hq))
def yny:Code:=(f67.body).getD .skip
def yuj:Env:=zkw TT [(55,yh6),(109,yav),(141,yqz)] []
theorem yH4:FrOk prog ⟨yuj,41,fun _=>none⟩ yny:=zkA mixed yc ⟨yn4,yby,yBS,trivial⟩
def yzt:Nat→Option Seg:=fun _=>none
def yb1:Shape:=⟨[(1,false,[.int .i64]),(2,false,[.ptr 0 0]),(5,false,[.int .i64]),(24,false,[.int .i64]),(25,false,[.int .i64])],[(0,[.int .i64,.int .i64,.int .i64,.br tM,.int .i64,.int .i64,.int .i64,.int .i64,.int .i64,.br tW,.int .i64,.bool,.bool])],[]⟩
def yfs:Shape:=⟨[(1,false,[.int .i64]),(2,false,[.ptr 0 0]),(5,false,[.ci .i64 0]),(24,false,[.int .i64]),(25,false,[.ci .i64 0])],[(0,[.int .i64,.int .i64,.int .i64,.br tM,.int .i64,.int .i64,.int .i64,.int .i64,.int .i64,.br tW,.int .i64,.bool,.bool])],[]⟩
def yfh:Shape:=⟨[(5,false,[.int .i64])],[],[]⟩
def yiT:Shape:=⟨[],[],[]⟩
abbrev ymJ (v0 v1 v2 v3:Int) (v4:dA):(yb1).X:=(((v0,()),((),()),(v1,()),(v2,()),(v3,()),()),((v4.1,v4.2.1.1,v4.2.1.2,v4.2.2.1,v4.2.2.2.1,v4.2.2.2.2.1,v4.2.2.2.2.2.1,v4.2.2.2.2.2.2.1,v4.2.2.2.2.2.2.2.1,v4.2.2.2.2.2.2.2.2.1,v4.2.2.2.2.2.2.2.2.2.1,v4.2.2.2.2.2.2.2.2.2.2.1,v4.2.2.2.2.2.2.2.2.2.2.2,()),()),())
abbrev yGv (v0 v1:Int) (v2:dA):(yfs).X:=(((v0,()),((),()),((),()),(v1,()),((),()),()),((v2.1,v2.2.1.1,v2.2.1.2,v2.2.2.1,v2.2.2.2.1,v2.2.2.2.2.1,v2.2.2.2.2.2.1,v2.2.2.2.2.2.2.1,v2.2.2.2.2.2.2.2.1,v2.2.2.2.2.2.2.2.2.1,v2.2.2.2.2.2.2.2.2.2.1,v2.2.2.2.2.2.2.2.2.2.2.1,v2.2.2.2.2.2.2.2.2.2.2.2,()),()),())
abbrev yGp (v0:Int):(yfh).X:=(((v0,()),()),(),())
def ync (v0 v1 v2 v3 v4 v5 v6:Int) (v7:List dM) (v8 v9 v10 v11 v12:Int) (v13:List dW) (v14:Int) (v15 v16:Bool):Option ((yb1).X ⊕ ((yfh).X ⊕ (yiT).X)) :=bif(ltb v3 v2)then bnd (yjA (v4,(v5,v6),v7,v8,v9,v10,v11,v12,v13,v14,v15,v16) v3 v0) fun r4 =>bif(!r4.1.2.1)then some (.inl (((v0,()),((),()),((i64.wrap (v1+1)),()),(v2,()),((i64.wrap (v3+1)),()),()),((v4,v5,v6,v7,v8,v9,v10,v11,v12,v13,v14,v15,v16,()),()),())) else some (.inl (((v0,()),((),()),(v1,()),(v2,()),((i64.wrap (v3+1)),()),()),((v4,v5,v6,v7,v8,v9,v10,v11,v12,v13,v14,v15,v16,()),()),())) else some (.inr (.inl (((v1,()),()),(),())))
def ycq (x:(yb1).X):=ync x.1.1.1 x.1.2.2.1.1 x.1.2.2.2.1.1 x.1.2.2.2.2.1.1 x.2.1.1.1 x.2.1.1.2.1 x.2.1.1.2.2.1 x.2.1.1.2.2.2.1 x.2.1.1.2.2.2.2.1 x.2.1.1.2.2.2.2.2.1 x.2.1.1.2.2.2.2.2.2.1 x.2.1.1.2.2.2.2.2.2.2.1 x.2.1.1.2.2.2.2.2.2.2.2.1 x.2.1.1.2.2.2.2.2.2.2.2.2.1 x.2.1.1.2.2.2.2.2.2.2.2.2.2.1 x.2.1.1.2.2.2.2.2.2.2.2.2.2.2.1 x.2.1.1.2.2.2.2.2.2.2.2.2.2.2.2.1
def yv3 (x:(yfs).X):(yb1).X:=(((x.1.1.1,()),((),()),(0,()),(x.1.2.2.2.1.1,()),(0,()),()),((x.2.1.1.1,x.2.1.1.2.1,x.2.1.1.2.2.1,x.2.1.1.2.2.2.1,x.2.1.1.2.2.2.2.1,x.2.1.1.2.2.2.2.2.1,x.2.1.1.2.2.2.2.2.2.1,x.2.1.1.2.2.2.2.2.2.2.1,x.2.1.1.2.2.2.2.2.2.2.2.1,x.2.1.1.2.2.2.2.2.2.2.2.2.1,x.2.1.1.2.2.2.2.2.2.2.2.2.2.1,x.2.1.1.2.2.2.2.2.2.2.2.2.2.2.1,x.2.1.1.2.2.2.2.2.2.2.2.2.2.2.2.1,()),()),())
def yxJ:Code:=(zd7 yny 64 244).getD .skip
theorem yHM:zd7 yny 64 61=some (.block 0 (.loop yxJ)):=by kernel_rfl
theorem yKj (x:(yb1).X):zhu ⟨yuj,41,yzt⟩ 0 yxJ 244 yb1 yfh yiT x=ycq x:=by kernel_rfl
def ywe (x:(yfs).X):Nat:=18446744073709551616
def yn8 (x:(yfs).X):Option ((yfh).X ⊕ (yiT).X):=zF ycq (ywe x) (yv3 x)
def ywx:Seg:=⟨yfs,yfh,yiT,yn8⟩
def yKJ:Nat→Option Seg:=fun q=>bif Nat.beq q 61 then some ywx else yzt q
theorem yH5:FrOk prog ⟨yuj,41,yKJ⟩ yny:=(yH4).loop (sg:=ywx) yb1 yv3 (by decide) yHM ycq ywe (by decide) (fun _=>rfl) (fun x r _ h=>h) yKj
abbrev ynJ:List Par:= [.rd tA,.rd tI]
abbrev yuQ:List OT:= [⟨false,tI,.fz⟩]
def yq3 (a0:dA) (a1:Int):Option (zaY yuQ×zak ynJ) :=let r1:=ybb a0;bif(!(!r1))then let r2:=yL a0.2.1 a1;bif(!r2)then some ((a0.2.1.1,()),()) else zkt (yn8 (((a1,()),((),()),((),()),((a0.2.2.1.length:Int),()),((),()),()),((a0.1,a0.2.1.1,a0.2.1.2,a0.2.2.1,a0.2.2.2.1,a0.2.2.2.2.1,a0.2.2.2.2.2.1,a0.2.2.2.2.2.2.1,a0.2.2.2.2.2.2.2.1,a0.2.2.2.2.2.2.2.2.1,a0.2.2.2.2.2.2.2.2.2.1,a0.2.2.2.2.2.2.2.2.2.2.1,a0.2.2.2.2.2.2.2.2.2.2.2,()),()),())) (fun y4 =>some ((y4.1.1.1,()),())) (fun y4 =>none) else some ((a0.2.1.1,()),())
theorem yMG:ConOk prog 67 ⟨ynJ,yuQ,fun x=>yq3 x.1 x.2.1⟩:=zkI (yH5) func67 ntmps67.symm fun x=>by kernel_rfl
def ybY (a0:dA) (a1:Int):Int:=yBK a0 a1
theorem yON (a0:dA) (a1:Int) (hk:zjx ynJ (a0,a1,())):yq3 a0 a1=(fun n=>some ((n,()),())) (ybY a0 a1):=by
 unfold yq3 ybY yBK ybb;cases ha:ya2 a0
 ·rfl
 have hg:=yl.1 (ydZ ha);have hl:=yth ha
 have h1:yn8 (yGv a1 a0.2.2.1.length a0)=some (.inl (yGp ((yeg (fun(i:Nat)=>yn a0 i a1) a0.2.1.1.toNat:Nat):Int))) :=
  zkL (step:=ycq) (fun i=>ymJ a1 ((yeg (fun(i:Nat)=>yn a0 i a1) i:Nat):Int) a0.2.2.1.length i a0) a0.2.1.1.toNat _ (fun i hi=>by
   have:=yU5 (fun(i:Nat)=>yn a0 i a1) i;simp only[ycq,ymJ,ync,zky (show(i:Int)<a0.2.2.1.length by omega),cond_true,wq ((i:Int)+1) (by omega) (by omega),Int.natCast_add,Int.natCast_one,Int.toNat_natCast,zkX,yBX a0 i a1 (zkR (show i<a0.2.2.1.length by omega)),yf6,zkH,ye0,wq (((yeg (fun(i:Nat)=>yn a0 i a1) i:Nat):Int)+1) (by omega) (by omega)]
   cases yn a0 i a1<;>rfl) (by simp only[ycq,ymJ,ync,zk3 (show(a0.2.2.1.length:Int)≤(a0.2.1.1.toNat:Int)by omega),cond_false]) _ (by show _<18446744073709551616; omega)
 rw[h1];unfold yL;simp only[yEj,ydZ ha,yW,ybA,wq (a0.2.1.2-1) (by omega) (by omega)];cases(leb 0 a1&&leb a1 (a0.2.1.2-1))<;>rfl
def yzU:Con:=⟨ynJ,yuQ,fun x=>(fun n=>some ((n,()),())) (ybY x.1 x.2.1)⟩
theorem yPE:ConOk prog 67 yzU:=(yMG).mono (fun x r hk h=>(yON x.1 x.2.1 hk).trans h)
def yDv:Code:=(f191.body).getD .skip
def yDz:Env:=zkw TT [(81,yE),(185,ysC)] []
theorem yBD:FrOk prog ⟨yDz,20,fun _=>none⟩ yDv:=zkA mixed yc ⟨yS,yCO,trivial⟩
abbrev yge:List Par:= [.rd tL,.rd tI]
abbrev yk8:List OT:= [⟨false,tI,.fz⟩]
def yja (a0:List Int) (a1:Int):Option (zaY yk8×zak yge) :=let r1:=yd3 a0;let r2:=ye a1 0 (i64.wrap ((a0.length:Int)-1));bif r2 then bif(inb a1 a0.length)then some (((i64.wrap ((BitVec.ofInt IntKind.i64.bits r1 ^^^ BitVec.ofInt IntKind.i64.bits (nth a0 a1 0)).toNat:Int)),()),()) else none else some ((r1,()),())
theorem yCA:ConOk prog 191 ⟨yge,yk8,fun x=>yja x.1 x.2.1⟩:=zkI (yBD) func191 ntmps191.symm fun x=>by kernel_rfl
def yd1 (a0:List Int) (a1:Int):Int:=ylf a0 a1
theorem yDe (a0:List Int) (a1:Int) (hk:zjx yge (a0,a1,())):yja a0 a1=(fun n=>some ((n,()),())) (yd1 a0 a1):=by
 have hb:a0.length*8≤2^47:=hk.1.1;unfold yja yd1 ylf yd3;rw[yW,yh8 (show a0.length≤1152921504606846976 by omega)];cases inb a1 a0.length<;>rfl
def yqv:Con:=⟨yge,yk8,fun x=>(fun n=>some ((n,()),())) (yd1 x.1 x.2.1)⟩
theorem yDn:ConOk prog 191 yqv:=(yCA).mono (fun x r hk h=>(yDe x.1 x.2.1 hk).trans h)
def ypm:Code:=(f138.body).getD .skip
def yw7:Env:=zkw TT [(55,yh6),(109,yav),(141,yqz),(191,yqv)] []
theorem yLz:FrOk prog ⟨yw7,62,fun _=>none⟩ ypm:=zkA mixed yc ⟨yn4,yby,yBS,yDn,trivial⟩
def yBd:Nat→Option Seg:=fun _=>none
def yb2:Shape:=⟨[(1,false,[.int .i64]),(2,false,[.ptr 0 0]),(6,false,[.at 800000000]),(7,false,[.int .i64]),(28,false,[.int .i64]),(29,false,[.int .i64])],[(0,[.int .i64,.int .i64,.int .i64,.br tM,.int .i64,.int .i64,.int .i64,.int .i64,.int .i64,.br tW,.int .i64,.bool,.bool])],[(800000000,tI,.fz)]⟩
def yft:Shape:=⟨[(1,false,[.int .i64]),(2,false,[.ptr 0 0]),(6,false,[.at 800000000]),(7,false,[.ci .i64 (-1)]),(28,false,[.int .i64]),(29,false,[.ci .i64 0])],[(0,[.int .i64,.int .i64,.int .i64,.br tM,.int .i64,.int .i64,.int .i64,.int .i64,.int .i64,.br tW,.int .i64,.bool,.bool])],[(800000000,tI,.fz)]⟩
def yfi:Shape:=⟨[(6,false,[.at 800000000]),(7,false,[.int .i64])],[],[(800000000,tI,.fz)]⟩
def yfD:Shape:=⟨[(4,false,[.nil]),(5,false,[.bool])],[],[]⟩
abbrev ymK (v0 v1 v2 v3:Int) (v4:dA) (v5:List Int):(yb2).X:=(((v0,()),((),()),((),()),(v1,()),(v2,()),(v3,()),()),((v4.1,v4.2.1.1,v4.2.1.2,v4.2.2.1,v4.2.2.2.1,v4.2.2.2.2.1,v4.2.2.2.2.2.1,v4.2.2.2.2.2.2.1,v4.2.2.2.2.2.2.2.1,v4.2.2.2.2.2.2.2.2.1,v4.2.2.2.2.2.2.2.2.2.1,v4.2.2.2.2.2.2.2.2.2.2.1,v4.2.2.2.2.2.2.2.2.2.2.2,()),()),(v5,()))
abbrev yGw (v0 v1:Int) (v2:dA) (v3:List Int):(yft).X:=(((v0,()),((),()),((),()),((),()),(v1,()),((),()),()),((v2.1,v2.2.1.1,v2.2.1.2,v2.2.2.1,v2.2.2.2.1,v2.2.2.2.2.1,v2.2.2.2.2.2.1,v2.2.2.2.2.2.2.1,v2.2.2.2.2.2.2.2.1,v2.2.2.2.2.2.2.2.2.1,v2.2.2.2.2.2.2.2.2.2.1,v2.2.2.2.2.2.2.2.2.2.2.1,v2.2.2.2.2.2.2.2.2.2.2.2,()),()),(v3,()))
abbrev yGq (v0:Int) (v1:List Int):(yfi).X:=((((),()),(v0,()),()),(),(v1,()))
abbrev yGF (v0:Bool):(yfD).X:=((((),()),(v0,()),()),(),())
def ynd (v0 v1 v2 v3 v4 v5 v6:Int) (v7:List dM) (v8 v9 v10 v11 v12:Int) (v13:List dW) (v14:Int) (v15 v16:Bool) (v17:List Int):Option ((yb2).X ⊕ ((yfi).X ⊕ (yfD).X)) :=bif(ltb v3 v2)then bnd (yjA (v4,(v5,v6),v7,v8,v9,v10,v11,v12,v13,v14,v15,v16) v3 v0) fun r4 =>bif(!r4.1.2.1)then bif(leb 0 v1)then some (.inr (.inr ((((),()),(false,()),()),(),()))) else bif(!r4.1.2.1)then bif(zkl v17.length ([r4.1.1]:List Int).length 8)then some (.inl (((v0,()),((),()),((),()),(v3,()),(v2,()),((i64.wrap (v3+1)),()),()),((v4,v5,v6,v7,v8,v9,v10,v11,v12,v13,v14,v15,v16,()),()),((v17++([r4.1.1]:List Int)),()))) else none else bif(zkl v17.length ([r4.1.1]:List Int).length 8)then some (.inl (((v0,()),((),()),((),()),(v1,()),(v2,()),((i64.wrap (v3+1)),()),()),((v4,v5,v6,v7,v8,v9,v10,v11,v12,v13,v14,v15,v16,()),()),((v17++([r4.1.1]:List Int)),()))) else none else bif(!r4.1.2.1)then bif(zkl v17.length ([r4.1.1]:List Int).length 8)then some (.inl (((v0,()),((),()),((),()),(v3,()),(v2,()),((i64.wrap (v3+1)),()),()),((v4,v5,v6,v7,v8,v9,v10,v11,v12,v13,v14,v15,v16,()),()),((v17++([r4.1.1]:List Int)),()))) else none else bif(zkl v17.length ([r4.1.1]:List Int).length 8)then some (.inl (((v0,()),((),()),((),()),(v1,()),(v2,()),((i64.wrap (v3+1)),()),()),((v4,v5,v6,v7,v8,v9,v10,v11,v12,v13,v14,v15,v16,()),()),((v17++([r4.1.1]:List Int)),()))) else none else some (.inr (.inl ((((),()),(v1,()),()),(),(v17,()))))
def ycr (x:(yb2).X):=ynd x.1.1.1 x.1.2.2.2.1.1 x.1.2.2.2.2.1.1 x.1.2.2.2.2.2.1.1 x.2.1.1.1 x.2.1.1.2.1 x.2.1.1.2.2.1 x.2.1.1.2.2.2.1 x.2.1.1.2.2.2.2.1 x.2.1.1.2.2.2.2.2.1 x.2.1.1.2.2.2.2.2.2.1 x.2.1.1.2.2.2.2.2.2.2.1 x.2.1.1.2.2.2.2.2.2.2.2.1 x.2.1.1.2.2.2.2.2.2.2.2.2.1 x.2.1.1.2.2.2.2.2.2.2.2.2.2.1 x.2.1.1.2.2.2.2.2.2.2.2.2.2.2.1 x.2.1.1.2.2.2.2.2.2.2.2.2.2.2.2.1 x.2.2.1
def yv4 (x:(yft).X):(yb2).X:=(((x.1.1.1,()),((),()),((),()),((-1),()),(x.1.2.2.2.2.1.1,()),(0,()),()),((x.2.1.1.1,x.2.1.1.2.1,x.2.1.1.2.2.1,x.2.1.1.2.2.2.1,x.2.1.1.2.2.2.2.1,x.2.1.1.2.2.2.2.2.1,x.2.1.1.2.2.2.2.2.2.1,x.2.1.1.2.2.2.2.2.2.2.1,x.2.1.1.2.2.2.2.2.2.2.2.1,x.2.1.1.2.2.2.2.2.2.2.2.2.1,x.2.1.1.2.2.2.2.2.2.2.2.2.2.1,x.2.1.1.2.2.2.2.2.2.2.2.2.2.2.1,x.2.1.1.2.2.2.2.2.2.2.2.2.2.2.2.1,()),()),(x.2.2.1,()))
def yxK:Code:=(zd7 ypm 64 500).getD .skip
theorem yHN:zd7 ypm 64 125=some (.block 0 (.loop yxK)):=by kernel_rfl
theorem yKk (x:(yb2).X):zhu ⟨yw7,62,yBd⟩ 0 yxK 500 yb2 yfi yfD x=ycr x:=by kernel_rfl
def ywf (x:(yft).X):Nat:=18446744073709551616
def yn9 (x:(yft).X):Option ((yfi).X ⊕ (yfD).X):=zF ycr (ywf x) (yv4 x)
def ywy:Seg:=⟨yft,yfi,yfD,yn9⟩
def yN7:Nat→Option Seg:=fun q=>bif Nat.beq q 125 then some ywy else yBd q
theorem yLA:FrOk prog ⟨yw7,62,yN7⟩ ypm:=(yLz).loop (sg:=ywy) yb2 yv4 (by decide) yHN ycr ywf (by decide) (fun _=>rfl) (fun x r _ h=>h) yKk
abbrev ypW:List Par:= [.rd tA,.rd tI]
abbrev yxs:List OT:= [⟨false,tL,(.ow .fz)⟩,⟨false,tB,.fz⟩]
def ysX (a0:dA) (a1:Int):Option (zaY yxs×zak ypW) :=let r1:=ybb a0;bif(!(!r1))then bif(!a0.2.2.2.2.2.2.2.2.2.2.2)then let r2:=yL a0.2.1 a1;bif(!r2)then some (([],false,()),()) else zkt (yn9 (((a1,()),((),()),((),()),((),()),((a0.2.2.1.length:Int),()),((),()),()),((a0.1,a0.2.1.1,a0.2.1.2,a0.2.2.1,a0.2.2.2.1,a0.2.2.2.2.1,a0.2.2.2.2.2.1,a0.2.2.2.2.2.2.1,a0.2.2.2.2.2.2.2.1,a0.2.2.2.2.2.2.2.2.1,a0.2.2.2.2.2.2.2.2.2.1,a0.2.2.2.2.2.2.2.2.2.2.1,a0.2.2.2.2.2.2.2.2.2.2.2,()),()),(([]:List Int),()))) (fun y4 =>bif(leb 0 y4.1.2.1.1)then let r6:=yd1 y4.2.2.1 y4.1.2.1.1;bif(inb y4.1.2.1.1 y4.2.2.1.length)then some (((y4.2.2.1.set (y4.1.2.1.1).toNat r6),true,()),()) else none else some ((y4.2.2.1,true,()),())) (fun y4 =>some (([],y4.1.2.1.1,()),())) else some (([],false,()),()) else some (([],false,()),())
theorem yPm:ConOk prog 138 ⟨ypW,yxs,fun x=>ysX x.1 x.2.1⟩:=zkI (yLA) func138 ntmps138.symm fun x=>by kernel_rfl
def ylq (a0:dA) (a1:Int):List Int×Bool:=bif ya2 a0&&(!a0.2.2.2.2.2.2.2.2.2.2.2&&yO a0.2.1 a1)then yP a0 a1 else([],false)
theorem yRC (a0:dA) (a1:Int) (hk:zjx ypW (a0,a1,())):ysX a0 a1=(fun n=>some ((n.1,n.2,()),())) (ylq a0 a1):=by
 unfold ysX ylq ybb;rw[yns];cases ha:ya2 a0
 ·rfl
 have hg:=yl.1 (ydZ ha);have hl:=yth ha
 have h1:yn9 (yGw a1 a0.2.2.1.length a0 [])=some (bif ydL (fun(i:Nat)=>yn a0 i a1) a0.2.1.1.toNat then .inr (yGF false)else .inl (yGq (yv (fun(i:Nat)=>yn a0 i a1) a0.2.1.1.toNat) (yQ a0 a1 a0.2.1.1.toNat))) :=
  zji (step:=ycr) (fun i=>ymK a1 (yv (fun(i:Nat)=>yn a0 i a1) i) a0.2.2.1.length i a0 (yQ a0 a1 i)) a0.2.1.1.toNat (fun i=> !yn a0 i a1&&leb 0 (yv (fun(i:Nat)=>yn a0 i a1) i)) _ _ (fun i hi=>by
   simp only[ycr,ymK,ynd,zky (show(i:Int)<a0.2.2.1.length by omega),cond_true,wq ((i:Int)+1) (by omega) (by omega),Int.natCast_add,Int.natCast_one,Int.toNat_natCast,zkX,yBX a0 i a1 (zkR (show i<a0.2.2.1.length by omega)),yf6,zkH,yv];rw[zkF.2 (show((yQ a0 a1 i).length+ [ynm a0 i a1].length)*8≤140737488355328 by simp only[List.length_cons,List.length_nil,yea]; omega),yCU]
   cases yn a0 i a1<;>cases leb 0 (yv (fun(i:Nat)=>yn a0 i a1) i)<;>rfl) (by simp only[ycr,ymK,ynd,zk3 (show(a0.2.2.1.length:Int)≤(a0.2.1.1.toNat:Int)by omega),cond_false]) _ (by show _<18446744073709551616; omega)
 rw[h1];cases a0.2.2.2.2.2.2.2.2.2.2.2
 ·cases yO a0.2.1 a1
  ·rfl
  ·unfold yP
   cases ydL (fun(i:Nat)=>yn a0 i a1) a0.2.1.1.toNat
   ·simp only[cond_false,zkN,yd1]
    cases hm:leb 0 (yv (fun(i:Nat)=>yn a0 i a1) a0.2.1.1.toNat)
    ·rfl
    ·obtain⟨h2,h3⟩:=yQs a0 a1 a0.2.1.1.toNat hm
     rw[h2,h3]; rfl
   ·rfl
 ·rfl
def yBs:Con:=⟨ypW,yxs,fun x=>(fun n=>some ((n.1,n.2,()),())) (ylq x.1 x.2.1)⟩
theorem yRV:ConOk prog 138 yBs:=(yPm).mono (fun x r hk h=>(yRC x.1 x.2.1 hk).trans h)
def ynx:Code:=(f68.body).getD .skip
def yui:Env:=zkw TT [(138,yBs),(142,yqt)] []
theorem yH0:FrOk prog ⟨yui,39,fun _=>none⟩ ynx:=zkA mixed yc ⟨yRV,yBO,trivial⟩
def yzs:Nat→Option Seg:=fun _=>none
def ybo:Shape:=⟨[(1,false,[.int .i64]),(2,false,[.ptr 0 0]),(6,false,[.at 800000000]),(8,false,[.at 800000001]),(22,false,[.int .i64]),(23,false,[.int .i64])],[(0,[.int .i64,.int .i64,.int .i64,.br tM,.int .i64,.int .i64,.int .i64,.int .i64,.int .i64,.br tW,.int .i64,.bool,.bool])],[(800000000,tI,.fz),(800000001,tI,.fz)]⟩
def yeE:Shape:=⟨[(1,false,[.int .i64]),(2,false,[.ptr 0 0]),(6,false,[.at 800000000]),(8,false,[.at 800000001]),(22,false,[.int .i64]),(23,false,[.ci .i64 0])],[(0,[.int .i64,.int .i64,.int .i64,.br tM,.int .i64,.int .i64,.int .i64,.int .i64,.int .i64,.br tW,.int .i64,.bool,.bool])],[(800000000,tI,.fz),(800000001,tI,.fz)]⟩
def yev:Shape:=⟨[(8,false,[.at 800000000])],[],[(800000000,tI,.fz)]⟩
def yhx:Shape:=⟨[],[],[]⟩
abbrev ylg (v0 v1 v2:Int) (v3:dA) (v4 v5:List Int):(ybo).X:=(((v0,()),((),()),((),()),((),()),(v1,()),(v2,()),()),((v3.1,v3.2.1.1,v3.2.1.2,v3.2.2.1,v3.2.2.2.1,v3.2.2.2.2.1,v3.2.2.2.2.2.1,v3.2.2.2.2.2.2.1,v3.2.2.2.2.2.2.2.1,v3.2.2.2.2.2.2.2.2.1,v3.2.2.2.2.2.2.2.2.2.1,v3.2.2.2.2.2.2.2.2.2.2.1,v3.2.2.2.2.2.2.2.2.2.2.2,()),()),(v4,v5,()))
abbrev yEr (v0 v1:Int) (v2:dA) (v3 v4:List Int):(yeE).X:=(((v0,()),((),()),((),()),((),()),(v1,()),((),()),()),((v2.1,v2.2.1.1,v2.2.1.2,v2.2.2.1,v2.2.2.2.1,v2.2.2.2.2.1,v2.2.2.2.2.2.1,v2.2.2.2.2.2.2.1,v2.2.2.2.2.2.2.2.1,v2.2.2.2.2.2.2.2.2.1,v2.2.2.2.2.2.2.2.2.2.1,v2.2.2.2.2.2.2.2.2.2.2.1,v2.2.2.2.2.2.2.2.2.2.2.2,()),()),(v3,v4,()))
abbrev ytW (v0:List Int):(yev).X:=((((),()),()),(),(v0,()))
def yly (v0 v1 v2 v3 v4 v5:Int) (v6:List dM) (v7 v8 v9 v10 v11:Int) (v12:List dW) (v13:Int) (v14 v15:Bool) (v16 v17:List Int):Option ((ybo).X ⊕ ((yev).X ⊕ (yhx).X)) :=bif(ltb v2 v1)then let r3:=yeq (v4,v5) v0 v2;bif(inb r3 v16.length)then bif(zkl v17.length ([(nth v16 r3 0)]:List Int).length 8)then some (.inl (((v0,()),((),()),((),()),((),()),(v1,()),((i64.wrap (v2+1)),()),()),((v3,v4,v5,v6,v7,v8,v9,v10,v11,v12,v13,v14,v15,()),()),(v16,(v17++([(nth v16 r3 0)]:List Int)),()))) else none else none else some (.inr (.inl ((((),()),()),(),(v17,()))))
def ybE (x:(ybo).X):=yly x.1.1.1 x.1.2.2.2.2.1.1 x.1.2.2.2.2.2.1.1 x.2.1.1.1 x.2.1.1.2.1 x.2.1.1.2.2.1 x.2.1.1.2.2.2.1 x.2.1.1.2.2.2.2.1 x.2.1.1.2.2.2.2.2.1 x.2.1.1.2.2.2.2.2.2.1 x.2.1.1.2.2.2.2.2.2.2.1 x.2.1.1.2.2.2.2.2.2.2.2.1 x.2.1.1.2.2.2.2.2.2.2.2.2.1 x.2.1.1.2.2.2.2.2.2.2.2.2.2.1 x.2.1.1.2.2.2.2.2.2.2.2.2.2.2.1 x.2.1.1.2.2.2.2.2.2.2.2.2.2.2.2.1 x.2.2.1 x.2.2.2.1
def ytw (x:(yeE).X):(ybo).X:=(((x.1.1.1,()),((),()),((),()),((),()),(x.1.2.2.2.2.1.1,()),(0,()),()),((x.2.1.1.1,x.2.1.1.2.1,x.2.1.1.2.2.1,x.2.1.1.2.2.2.1,x.2.1.1.2.2.2.2.1,x.2.1.1.2.2.2.2.2.1,x.2.1.1.2.2.2.2.2.2.1,x.2.1.1.2.2.2.2.2.2.2.1,x.2.1.1.2.2.2.2.2.2.2.2.1,x.2.1.1.2.2.2.2.2.2.2.2.2.1,x.2.1.1.2.2.2.2.2.2.2.2.2.2.1,x.2.1.1.2.2.2.2.2.2.2.2.2.2.2.1,x.2.1.1.2.2.2.2.2.2.2.2.2.2.2.2.1,()),()),(x.2.2.1,x.2.2.2.1,()))
def yvF:Code:=(zd7 ynx 64 500).getD .skip
theorem yFF:zd7 ynx 64 125=some (.block 0 (.loop yvF)):=by kernel_rfl
theorem yHc (x:(ybo).X):zhu ⟨yui,39,yzs⟩ 0 yvF 500 ybo yev yhx x=ybE x:=by kernel_rfl
def ytJ (x:(yeE).X):Nat:=18446744073709551616
def ymo (x:(yeE).X):Option ((yev).X ⊕ (yhx).X):=zF ybE (ytJ x) (ytw x)
def yt5:Seg:=⟨yeE,yev,yhx,ymo⟩
def yKI:Nat→Option Seg:=fun q=>bif Nat.beq q 125 then some yt5 else yzs q
theorem yH1:FrOk prog ⟨yui,39,yKI⟩ ynx:=(yH0).loop (sg:=yt5) ybo ytw (by decide) yFF ybE ytJ (by decide) (fun _=>rfl) (fun x r _ h=>h) yHc
abbrev ynG:List Par:= [.rd tA,.rd tI]
abbrev yuN:List OT:= [⟨false,tL,(.ow .fz)⟩,⟨false,tB,.fz⟩]
def yq0 (a0:dA) (a1:Int):Option (zaY yuN×zak ynG) :=let r1:=ylq a0 a1;bif(!r1.2)then some (([],false,()),()) else zkt (ymo (((a1,()),((),()),((),()),((),()),((i64.wrap (a0.2.1.1-1)),()),((),()),()),((a0.1,a0.2.1.1,a0.2.1.2,a0.2.2.1,a0.2.2.2.1,a0.2.2.2.2.1,a0.2.2.2.2.2.1,a0.2.2.2.2.2.2.1,a0.2.2.2.2.2.2.2.1,a0.2.2.2.2.2.2.2.2.1,a0.2.2.2.2.2.2.2.2.2.1,a0.2.2.2.2.2.2.2.2.2.2.1,a0.2.2.2.2.2.2.2.2.2.2.2,()),()),(r1.1,([]:List Int),()))) (fun y3 =>some ((y3.2.2.1,true,()),())) (fun y3 =>none)
theorem yMD:ConOk prog 68 ⟨ynG,yuN,fun x=>yq0 x.1 x.2.1⟩:=zkI (yH1) func68 ntmps68.symm fun x=>by kernel_rfl
def yf5 (a0:dA) (a1:Int):List Int×Bool:=yyb a0 a1
theorem yOK (a0:dA) (a1:Int) (hk:zjx ynG (a0,a1,())):yq0 a0 a1=(fun n=>some ((n.1,n.2,()),())) (yf5 a0 a1):=by
 unfold yq0 yf5 yyb ylq;cases hc:(ya2 a0&&(!a0.2.2.2.2.2.2.2.2.2.2.2&&yO a0.2.1 a1))
 ·rfl
 simp only[Bool.and_eq_true]at hc;have hg:=yl.1 (ydZ hc.1);have hs:=hc.2.2;unfold yta;simp only[cond_true];cases hw:(yP a0 a1).2
 ·rfl
 ·have hL:=yFa hw
  have h1:ymo (yEr a1 (a0.2.1.1-1) a0 (yP a0 a1).1 [])=some (.inl (ytW ((List.range (a0.2.1.1-1).toNat).foldl (fun l (i:Nat)=>l++ [nth (yP a0 a1).1 (yba a0.2.1 a1 i) 0]) []))) :=
   zkD (step:=ybE) (a0.2.1.1-1).toNat (fun i s=>ylg a1 (a0.2.1.1-1) i a0 (yP a0 a1).1 s) (fun l (i:Nat)=>l++ [nth (yP a0 a1).1 (yba a0.2.1 a1 i) 0]) (fun i s=>s.length=i) (fun s=> .inl (ytW s)) (fun i s hi hs2=>⟨by
    have hd:=yOz hs (show(0:Int)≤i by omega) (show(i:Int)≤a0.2.1.1-2 by omega);simp only[ybE,ylg,yly,zky (show(i:Int)<a0.2.1.1-1 by omega),cond_true,wq ((i:Int)+1) (by omega) (by omega),Int.natCast_add,Int.natCast_one,Int.toNat_natCast,zkX,yeq,zj6.2 (show 0≤yba a0.2.1 a1 i∧yba a0.2.1 a1 i<(yP a0 a1).1.length by omega)]
    rw[zkF.2 (show(s.length+ [nth (yP a0 a1).1 (yba a0.2.1 a1 i) 0].length)*8≤140737488355328 by simp only[List.length_cons,List.length_nil]; omega)]; rfl,by simp[hs2]⟩) (fun s hs2=>by simp only[ybE,ylg,yly,zk3 (show a0.2.1.1-1≤((a0.2.1.1-1).toNat:Int)by omega),cond_false]) [] rfl _ (by show _<18446744073709551616; omega)
  simp only[wq (a0.2.1.1-1) (by omega) (by omega)];rw[h1,ywK]; rfl
def yzT:Con:=⟨ynG,yuN,fun x=>(fun n=>some ((n.1,n.2,()),())) (yf5 x.1 x.2.1)⟩
theorem yPD:ConOk prog 68 yzT:=(yMD).mono (fun x r hk h=>(yOK x.1 x.2.1 hk).trans h)
def yKA:Code:=(f13.body).getD .skip
def yKY:Env:=zkw TT [(14,yDM),(41,yxV),(49,yvW),(52,yx1),(57,yHn),(58,yqw),(67,yzU),(68,yzT)] []
theorem yD5:FrOk prog ⟨yKY,88,fun _=>none⟩ yKA:=zkA mixed yc ⟨yTw,yNf,yJ9,yNl,yT9,yDo,yPE,yPD,trivial⟩
abbrev ykl:List Par:= [.kp tYs .fz]
abbrev yqd:List OT:= [⟨false,tB,.fz⟩]
def ym3 (a0:List Int):Option (zaY yqd×zak ykl) :=let r1:=ywQ a0;bif r1 then some ((true,()),()) else bnd (yfS a0) fun r2 =>bnd (yjJ a0 2) fun r3 =>bif(r2.1.1.2.1.2 !=0)then bnd (yjJ a0 3) fun r4 =>bif(r2.1.1.2.1.1 !=0)then let r5:=yii r2.1.1 (r4.1.1.tmod r2.1.1.2.1.1) (r3.1.1.tmod r2.1.1.2.1.2);let r6:=ybY r2.1.1 (r3.1.1.tmod r2.1.1.2.1.2);bif(ltb 0 r6)then let r7:=ybY r5 (r3.1.1.tmod r2.1.1.2.1.2);let r8:=ybY r2.1.1 (r3.1.1.tmod r2.1.1.2.1.2);some (((leb r8 r7),()),()) else let r9:=yf5 r5 (r3.1.1.tmod r2.1.1.2.1.2);let r10:=yf5 r2.1.1 (r3.1.1.tmod r2.1.1.2.1.2);let r11:=yd2 r5 (r3.1.1.tmod r2.1.1.2.1.2) r9.1;bif r9.2 then bif r10.2 then let r12:=yeh r9.1 r10.1;bif r12 then let r13:=ybY r5 (r3.1.1.tmod r2.1.1.2.1.2);bif(r13==1)then bif(r11.2==0)then let r14:=ybY r11.1 (r3.1.1.tmod r2.1.1.2.1.2);some (((r14==0),()),()) else some ((false,()),()) else some ((false,()),()) else some ((false,()),()) else some ((false,()),()) else some ((false,()),()) else none else none
theorem yGW:ConOk prog 13 ⟨ykl,yqd,fun x=>ym3 x.1⟩:=zkI (yD5) func13 ntmps13.symm fun x=>by kernel_rfl
def yqT (a0:List Int):Bool:=true
theorem yL6 {p q:Nat→Bool}: ∀{n:Nat},(∀i,i<n→q i=true→p i=true)→yeg p n≤yeg q n
 | 0,_=>Nat.le_refl _
 | n+1,h=>by
  have ih:=yL6 (p:=p) (q:=q) (n:=n) (fun i hi=>h i (by omega));rw[ye0,ye0];cases hq:q n
  ·cases p n<;>simp only[cond_true,cond_false]<;>omega
  ·rw[h n (by omega) hq]; exact ih
theorem ySR {p:Nat→Bool} {j:Nat}: ∀{n:Nat},j<n→p j=false→1≤yeg p n
 | 0,hj,_=>absurd hj (Nat.not_lt_zero _)
 | n+1,hj,hp=>by
  rw[ye0];cases hn:p n
  ·rw[cond_false]; omega
  ·rw[cond_true]
   by_cases e:j=n
   ·rw[e,hn]at hp; cases hp
   ·exact ySR (by omega) hp
theorem yJt (a0:List Int) (hk:zjx ykl (a0,())):ym3 a0=(fun n=>some ((n,()),())) (yqT a0):=by
 have hb:a0.length≤140737488355328:=by have:a0.length*1≤2^47:=hk.1.1; omega
 have hx:=yTV hk.1;obtain⟨a,V,e,hw,hi⟩:=yTY a0 hb;have hg:=yl.1 hi.xc.1;have hlen:=hi.xk.1.2;obtain⟨e2,r0,_⟩:=yVl (i:=2) hb hx (by omega) (by omega);obtain⟨e3,q0,_⟩:=yVl (i:=3) hb hx (by omega) (by omega);have s0:0≤(atV a0 2).tmod a.2.1.2:=Int.tmod_nonneg _ r0;have s1:(atV a0 2).tmod a.2.1.2<a.2.1.2:=Int.tmod_lt_of_pos _ (by omega);have m0:0≤(atV a0 3).tmod a.2.1.1:=Int.tmod_nonneg _ q0;have m1:(atV a0 3).tmod a.2.1.1<a.2.1.1:=Int.tmod_lt_of_pos _ (by omega);obtain⟨s,hse⟩: ∃s,s=(atV a0 2).tmod a.2.1.2:=⟨_,rfl⟩;obtain⟨m,hme⟩: ∃m,m=(atV a0 3).tmod a.2.1.1:=⟨_,rfl⟩;rw[← hse]at s0 s1;rw[← hme]at m0 m1;have hso:=ySN hi s0 s1;have hmi:inb m a.2.2.1.length=true:=zj6.2 (by omega);have hda:=yqE s0 (by omega)
 have hsp:yM a m s=ycX a m (spoil (nth a.2.2.1 m yf) (yy s)):=by
  unfold yM;rw[yBJ hi,hmi,hso]; rfl
 have hxi:=ySM (n:=yy s) hi hmi;have hxw:=yTc (n:=yy s) hw hmi;rw[← hsp]at hxi hxw;have hxg:(yM a m s).2.1=a.2.1:=by rw[hsp]; rfl
 have hxs:(yM a m s).2.2.2.2.2.1=a.2.2.2.2.2.1:=by rw[hsp]; rfl
 have hd: ∀i,0≤i→yi (yM a m s) i=bif m==i then spoil (yi a m) (yy s)else yi a i:=fun i i0=>by rw[hsp]; exact yFj hmi i0
 have hX: ∀i,0≤i→i≠m→yG (yM a m s) s i=yG a s i:=fun i i0 hne=>by
  have e1:(yM a m s).2.2.2.1=a.2.2.2.1:=by rw[hsp]; rfl
  have e2:(yM a m s).2.2.2.2.1=a.2.2.2.2.1:=by rw[hsp]; rfl
  unfold yG;rw[e1,e2,hd i i0,show(m==i)=false from beq_eq_false_iff_ne.2 (fun e=>hne e.symm)]; rfl
 have hbad:yG (yM a m s) s m=false:=by
  have hb:yh5 (spoil (yi a m) (yy s)) (s+6)=true:=by
   obtain⟨d1,d2,_⟩:=yl9 hi.xk m0 m1;unfold spoil;rw[d1,zj6.2 (show 0≤yy s∧yy s<((yi a m).1.length:Int)by omega)];cases hc:(yi a m).2.2.2.any (· ==yy s)
   ·show(yh9 (yi a m).2.2.2 (yy s)).any (· ==(s+6))=true
    refine List.any_eq_true.2 ⟨yy s,?_,beq_iff_eq.2 hda⟩;unfold yh9;exact List.mem_append.2 (.inr List.mem_cons_self)
   ·show(yi a m).2.2.2.any (· ==(s+6))=true
    rw[hda]at hc; exact hc
  unfold yG;rw[hd m m0,beq_self_eq_true,cond_true,hb,Bool.not_true,Bool.and_false]
 have hle:ya3 a s≤ya3 (yM a m s) s:=by
  unfold ya3;rw[hxg];refine yL6 fun i hi2 hq=> ?_
  by_cases e:(i:Int)=m
  ·rw[e,hbad]at hq; cases hq
  ·rw[← hX i (by omega) e]; exact hq
 have hxl:yBK (yM a m s) s=(ya3 (yM a m s) s:Nat):=yOG hxi s0 (by rw[hxg]; exact s1);unfold ym3 yqT;simp only[e,e2,e3,zkH,← hse,← hme];cases ywQ a0
 ·rw[show(a.2.1.2 !=0)=true from bne_iff_ne.2 (by omega),show(a.2.1.1 !=0)=true from bne_iff_ne.2 (by omega)]
  simp only[cond_false,cond_true,yii,ybY,yOG hi s0 s1,hxl];by_cases hz:ya3 a s=0
  ·have hz2:ya3 (yM a m s) s=1:=by
    have h1:ya3 (yM a m s) s≤1:=by
     have:=yVB (a:=yM a m s) (s:=s) m0 (fun i i0 i1 hne=>by
      rw[hX i i0 hne];have:decide (ya3 a s=0)=true:=decide_eq_true hz;unfold ya3 at this;rw[ywO,List.all_eq_true]at this;have:=this i.toNat (List.mem_range.2 (by rw[hxg]at i1; omega))
      rw[Int.toNat_of_nonneg i0]at this; exact this)
     omega
    have h2:1≤ya3 (yM a m s) s:=by
     unfold ya3;rw[hxg];exact ySR (j:=m.toNat) (by omega) (by show yG (yM a m s) s ((m.toNat:Nat):Int)=false; rw[Int.toNat_of_nonneg m0]; exact hbad)
    omega
   have hdx:yyb (yM a m s) s=(ydA V a.2.1 s,true):=by rw[yL5 hxi s0 (by rw[hxg]; exact s1),hz2,hxg]; rfl
   have hda2:yyb a s=(ydA V a.2.1 s,true):=by rw[yL5 hi s0 s1,hz]; rfl
   have hbl:((ydA V a.2.1 s).length:Int)=a.2.1.1-1:=by rw[yTj]; omega
   have hbw:(ydA V a.2.1 s).all isW=true:=by
    have:=yDN a s
    have h3:yta a s=(ydA V a.2.1 s,true):=by
     have h4:=hda2;unfold yyb at h4;rw[yBJ hi,hi.xb,hso]at h4; exact h4
    rw[h3]at this; exact this
   have hq:(yM a m s).2.2.2.2.2.1<60000:=by rw[hxs]; have:=hi.xs; omega
   have hc:=yUR hxi (by omega) (by rw[hxg]; exact hso) (by rw[hxg]; exact hbl) hbw;obtain⟨hw2,hcz⟩:=yTd s (ydA V a.2.1 s) hxw hq (by omega);have hu:yb (yH (yM a m s) s (ydA V a.2.1 s)).2=false:=hw2.2.2.1.1;have hwr:yCL (yM a m s) s (ydA V a.2.1 s)=((yH (yM a m s) s (ydA V a.2.1 s)).2,0):=by unfold yCL; rw[hc,hcz]; rfl
   obtain⟨hi2,_⟩:=yIQ hxi (by rw[hxg]; exact hso) (by rw[hxg]; exact hbl) hbw hq (by omega) hu
   have hlz:ya3 (yH (yM a m s) s (ydA V a.2.1 s)).2 s=0:=by
    have:decide (ya3 (yH (yM a m s) s (ydA V a.2.1 s)).2 s=0)=true:=by
     unfold ya3;rw[ywO,List.all_eq_true];intro i hi3;have hi3:=List.mem_range.1 hi3;rw[yAR,hxg]at hi3;rw[yUK hxi (by rw[hxg]; exact hso) hbw hq (by omega) hu (show(0:Int)≤(i:Int)by omega) (by rw[hxg]; omega) s0 (by rw[hxg]; exact s1),beq_self_eq_true,cond_true];have hal:decide (ya3 a s=0)=true:=decide_eq_true hz;unfold ya3 at hal;rw[ywO,List.all_eq_true]at hal;have hh:=hal i (List.mem_range.2 hi3);unfold yG at hh;rw[Bool.and_eq_true]at hh;have e1:(yM a m s).2.2.2.1=a.2.2.2.1:=by rw[hsp]; rfl
     have e2:(yM a m s).2.2.2.2.1=a.2.2.2.2.1:=by rw[hsp]; rfl
     have hfl:(yi (yM a m s) i).2.2.1=(yi a i).2.2.1:=by
      rw[hd i (by omega)];by_cases e:m=(i:Int)
      ·rw[e,beq_self_eq_true,cond_true,(yug _ _).2]
      ·rw[show(m==(i:Int))=false from beq_eq_false_iff_ne.2 e]; rfl
     have:=hh.1;unfold yK at this ⊢;rw[e1,e2,hfl]; exact this
    exact of_decide_eq_true this
   have hyl:yBK (yH (yM a m s) s (ydA V a.2.1 s)).2 s=0:=by
    rw[yOG hi2 s0 (by rw[yAR,hxg]; exact s1),hlz]; rfl
   rw[hz,hz2];simp only[yf5,hdx,hda2,yd2,hwr,hyl,yR9];rfl
  ·rw[zky (show(0:Int)<((ya3 a s:Nat):Int)by omega),zk2 (show((ya3 a s:Nat):Int)≤((ya3 (yM a m s) s:Nat):Int)by omega)]; rfl
 ·rfl
def yFQ:Con:=⟨ykl,yqd,fun x=>(fun n=>some ((n,()),())) (yqT x.1)⟩
theorem yJ8:ConOk prog 13 yFQ:=(yGW).mono (fun x r hk h=>(yJt x.1 hk).trans h)
end
end Go.Tf
