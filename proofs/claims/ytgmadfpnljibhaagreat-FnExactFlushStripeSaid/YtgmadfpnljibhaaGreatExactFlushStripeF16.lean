/- Functions of the program, and what they come to. -/
import Derived.Test.YtgmadfpnljibhaaGreatExactFlushStripeF15
namespace Go.Tf
noncomputable section
open Go.Proofs
set_option synthInstance.maxHeartbeats 400000
set_option synthInstance.maxSize 10000
set_option linter.unusedVariables false
set_option linter.unusedSimpArgs false
set_option maxRecDepth 100000
section
def yo7:Code:=(Tryz.f289.body).getD .skip
def yut:Env:=zki TT [] []
theorem yTm:FrOk Tryz.prog ⟨yut,18,fun _=>none⟩ yo7:=zkp yb yc trivial
def yGe:Nat→Option Seg:=fun _=>none
def ycN:Shape:=⟨[(0,false,[.br tI]),(3,false,[.int .i64]),(4,false,[.int .i64])],[],[]⟩
def yit:Shape:=⟨[(0,false,[.br tI]),(3,false,[.ci .i64 0]),(4,false,[.ci .i64 0])],[],[]⟩
def yia:Shape:=⟨[(3,false,[.int .i64])],[],[]⟩
def yor:Shape:=⟨[],[],[]⟩
abbrev ytC (v0:List Int) (v1 v2:Int):(ycN).X:=(((v0,()),(v1,()),(v2,()),()),(),())
abbrev yQa (v0:List Int):(yit).X:=(((v0,()),((),()),((),()),()),(),())
abbrev yDr (v0:Int):(yia).X:=(((v0,()),()),(),())
def yt2 (v0:List Int) (v1 v2:Int):Option ((ycN).X ⊕ ((yia).X ⊕ (yor).X)) :=
 bif (ltb v2 (v0.length:Int)) then
 bif (inb v2 v0.length) then
 some (.inl (((v0,()),((IntKind.i64.wrap ((BitVec.ofInt IntKind.i64.bits v1 ^^^ BitVec.ofInt IntKind.i64.bits (nth v0 v2 0)).toNat:Int)),()),((IntKind.i64.wrap (v2+1)),()),()),(),()))
 else none
 else
 some (.inr (.inl (((v1,()),()),(),())))
def ydr (x:(ycN).X):=yt2 x.1.1.1 x.1.2.1.1 x.1.2.2.1.1
def yCY (x:(yit).X):(ycN).X:=(((x.1.1.1,()),(0,()),(0,()),()),(),())
def yE2:Code:=(zdI yo7 64 116).getD .skip
theorem ySe:zdI yo7 64 29=some (.block 0 (.loop yE2)):=by kernel_rfl
theorem yVf (x:(ycN).X):zg7 ⟨yut,18,yGe⟩ 0 yE2 116 ycN yia yor x=ydr x:=by kernel_rfl
def yDg (x:(yit).X):Nat:=18446744073709551616
def yuH (x:(yit).X):Option ((yia).X ⊕ (yor).X):=zr ydr (yDg x) (yCY x)
def yDP:Seg:=⟨yit,yia,yor,yuH⟩
def yGf:Nat→Option Seg:=fun q=>bif Nat.beq q 29 then some yDP else yGe q
theorem yTn:FrOk Tryz.prog ⟨yut,18,yGf⟩ yo7:=(yTm).loop (sg:=yDP) ycN yCY (by decide) ySe ydr yDg (by decide) (fun _=>rfl) (fun x r _ h=>h) yVf
abbrev ykF:List Par:= [.rd tL]
abbrev yvd:List OT:= [⟨false,tI,.fz⟩]
def yra (a0:List Int):Option (ResD yvd×MutD ykF) :=
 zjw (yuH (((a0,()),((),()),((),()),()),(),())) (fun y0 =>
 some ((y0.1.1.1,()),())) (fun y0 =>
 none)
theorem y0P (x:InD ykF):zjH ⟨yut,18,yGf⟩ Tryz.f289.results.toList yo7 ykF yvd x=yra x.1:=by kernel_rfl
theorem yXv:ConOk Tryz.prog 289 ⟨ykF,yvd,fun x=>yra x.1⟩:=zkh (yTn) Tryz.func289 (by kernel_rfl) (by kernel_rfl) Tryz.ntmps289.symm (by decide) (fun x r h=>(y0P x).trans h)
def yk5 (a0:List Int):Int:=ye7 a0
theorem yZD (a0:List Int) (hk:zi9 ykF (a0,())):yra a0=(fun n=>some ((n,()),())) (yk5 a0):=by
 have hb:a0.length * 8≤2 ^ 47:=hk.1.1
 have h1:yuH (yQa a0)=some (.inl (yDr (ye7 a0))) :=
  zkk (step:=ydr) a0 0 (fun i s=>ytC a0 s i) xw (fun _ _=>True) (fun s=> .inl (yDr s)) (fun i s hi _=>⟨by
   simp only [ydr,ytC,yt2,zjI (show (i:Int) < a0.length by omega),cond_true,wr (show -9223372036854775808≤(i:Int)+1 by omega) (by omega),Int.natCast_add,Int.natCast_one,Int.toNat_natCast,zkO hi,zjW]; rfl,trivial⟩) (fun s _=>by simp only [ydr,ytC,yt2,zkm (Int.le_refl _),cond_false]) 0 trivial _ (by show _ < 18446744073709551616; omega)
 unfold yra yk5
 rw [h1]; rfl
def yGS:Con:=⟨ykF,yvd,fun x=>(fun n=>some ((n,()),())) (yk5 x.1)⟩
theorem yZ8:ConOk Tryz.prog 289 yGS:=(yXv).mono (fun x r hk h=>(yZD x.1 hk).trans h)
end
section
def yzL:Code:=(Tryz.f273.body).getD .skip
def yAb:Env:=zki TT [(289,yGS)] []
theorem yHz:FrOk Tryz.prog ⟨yAb,5,fun _=>none⟩ yzL:=zkp yb yc ⟨yZ8,trivial⟩
def yIP:Nat→Option Seg:=fun _=>none
abbrev yfp:List Par:= [.rd tL]
abbrev yjC:List OT:= [⟨false,tI,.fz⟩]
def yny (a0:List Int):Option (ResD yjC×MutD yfp) :=
 let r1:=yk5 a0
 some ((r1,()),())
theorem yMz (x:InD yfp):zjH ⟨yAb,5,yIP⟩ Tryz.f273.results.toList yzL yfp yjC x=yny x.1:=by kernel_rfl
theorem yJk:ConOk Tryz.prog 273 ⟨yfp,yjC,fun x=>yny x.1⟩:=zkh (yHz) Tryz.func273 (by kernel_rfl) (by kernel_rfl) Tryz.ntmps273.symm (by decide) (fun x r h=>(yMz x).trans h)
def yjR (a0:List Int):Int :=
 let r1:=yk5 a0
 r1
def ywp:Con:=⟨yfp,yjC,fun x=>(fun n=>some ((n,()),())) (yjR x.1)⟩
theorem yLy (a0:List Int):yny a0=(fun n=>some ((n,()),())) (yjR a0):=zkS (p:=fun (n:Int)=>((n,()),())) rfl
theorem yLK:ConOk Tryz.prog 273 ywp:=(yJk).mono (fun x r _ h=>(yLy x.1).trans h)
end
section
def ymz:Code:=(Tryz.f230.body).getD .skip
def yso:Env:=zki TT [(48,yvt),(141,yvr),(207,yqP),(272,yrx),(273,ywp)] []
theorem yPN:FrOk Tryz.prog ⟨yso,61,fun _=>none⟩ ymz:=zkp yb yc ⟨yHh,yHg,yzz,yDB,yLK,trivial⟩
def yEA:Nat→Option Seg:=fun _=>none
def ycP:Shape:=⟨[(0,false,[.ptr 1000000000 0]),(1,false,[.int .i64]),(2,false,[.br tI]),(6,false,[.int .i64]),(7,false,[.int .i64])],[(1000000000,[.int .i64,.int .i64,.int .i64,.at 800000000,.int .i64,.int .i64,.int .i64,.int .i64,.int .i64,.at 800000001,.int .i64,.bool,.bool])],[(800000000,tM,(.pr (.ow .fz) (.pr (.ow (.pr .fz .fz)) (.pr .fz (.ow .fz))))),(800000001,tW,(.pr .fz .fz))]⟩
def yiv:Shape:=⟨[(0,false,[.ptr 1000000000 0]),(1,false,[.int .i64]),(2,false,[.br tI]),(6,false,[.int .i64]),(7,false,[.ci .i64 0])],[(1000000000,[.int .i64,.int .i64,.int .i64,.at 800000000,.int .i64,.int .i64,.int .i64,.int .i64,.int .i64,.at 800000001,.int .i64,.bool,.bool])],[(800000000,tM,(.pr (.ow .fz) (.pr (.ow (.pr .fz .fz)) (.pr .fz (.ow .fz))))),(800000001,tW,(.pr .fz .fz))]⟩
def yic:Shape:=⟨[],[(1000000000,[.int .i64,.int .i64,.int .i64,.at 800000000,.int .i64,.int .i64,.int .i64,.int .i64,.int .i64,.at 800000001,.int .i64,.bool,.bool])],[(800000000,tM,(.pr (.ow .fz) (.pr (.ow (.pr .fz .fz)) (.pr .fz (.ow .fz))))),(800000001,tW,(.pr .fz .fz))]⟩
def yos:Shape:=⟨[],[],[]⟩
abbrev ytE (v0:Int) (v1:List Int) (v2 v3:Int) (v4:dA):(ycP).X:=((((),()),(v0,()),(v1,()),(v2,()),(v3,()),()),((v4.1,v4.2.1.1,v4.2.1.2,(),v4.2.2.2.1,v4.2.2.2.2.1,v4.2.2.2.2.2.1,v4.2.2.2.2.2.2.1,v4.2.2.2.2.2.2.2.1,(),v4.2.2.2.2.2.2.2.2.2.1,v4.2.2.2.2.2.2.2.2.2.2.1,v4.2.2.2.2.2.2.2.2.2.2.2,()),()),(v4.2.2.1,v4.2.2.2.2.2.2.2.2.1,()))
abbrev yQc (v0:Int) (v1:List Int) (v2:Int) (v3:dA):(yiv).X:=((((),()),(v0,()),(v1,()),(v2,()),((),()),()),((v3.1,v3.2.1.1,v3.2.1.2,(),v3.2.2.2.1,v3.2.2.2.2.1,v3.2.2.2.2.2.1,v3.2.2.2.2.2.2.1,v3.2.2.2.2.2.2.2.1,(),v3.2.2.2.2.2.2.2.2.2.1,v3.2.2.2.2.2.2.2.2.2.2.1,v3.2.2.2.2.2.2.2.2.2.2.2,()),()),(v3.2.2.1,v3.2.2.2.2.2.2.2.2.1,()))
abbrev yDs (v0:dA):(yic).X:=((),((v0.1,v0.2.1.1,v0.2.1.2,(),v0.2.2.2.1,v0.2.2.2.2.1,v0.2.2.2.2.2.1,v0.2.2.2.2.2.2.1,v0.2.2.2.2.2.2.2.1,(),v0.2.2.2.2.2.2.2.2.2.1,v0.2.2.2.2.2.2.2.2.2.2.1,v0.2.2.2.2.2.2.2.2.2.2.2,()),()),(v0.2.2.1,v0.2.2.2.2.2.2.2.2.1,()))
def yt4 (v0:Int) (v1:List Int) (v2 v3 v4 v5 v6 v7 v8 v9 v10 v11 v12:Int) (v13 v14:Bool) (v15:List dM) (v16:List dW):Option ((ycP).X ⊕ ((yic).X ⊕ (yos).X)) :=
 bif (ltb v3 (v15.length:Int)) then
 let r9:=yjR v1
 bif (v3 !=v2) then
 bif (v5 !=0) then
 bif (inb ((IntKind.i64.wrap ((IntKind.i64.wrap ((IntKind.i64.wrap (v3 - v2)) - 1))+v5)).tmod v5) v1.length) then
 let r10:=ydB (v4,(v5,v6),v15,v7,v8,v9,v10,v11,v16,v12,v13,v14) v3 v0
 bif r10 then
 let r11:=yfi v0
 bnd (ygT (v4,(v5,v6),v15,v7,v8,v9,v10,v11,v16,v12,v13,v14) v3 r11 ([(nth v1 ((IntKind.i64.wrap ((IntKind.i64.wrap ((IntKind.i64.wrap (v3 - v2)) - 1))+v5)).tmod v5) 0)]:List Int)) fun r12 =>
 some (.inl ((((),()),(v0,()),(v1,()),(v2,()),((IntKind.i64.wrap (v3+1)),()),()),((r12.2.1.1,r12.2.1.2.1.1,r12.2.1.2.1.2,(),r12.2.1.2.2.2.1,r12.2.1.2.2.2.2.1,r12.2.1.2.2.2.2.2.1,r12.2.1.2.2.2.2.2.2.1,r12.2.1.2.2.2.2.2.2.2.1,(),r12.2.1.2.2.2.2.2.2.2.2.2.1,r12.2.1.2.2.2.2.2.2.2.2.2.2.1,r12.2.1.2.2.2.2.2.2.2.2.2.2.2,()),()),(r12.2.1.2.2.1,r12.2.1.2.2.2.2.2.2.2.2.1,())))
 else
 some (.inl ((((),()),(v0,()),(v1,()),(v2,()),((IntKind.i64.wrap (v3+1)),()),()),((v4,v5,v6,(),v7,v8,v9,v10,v11,(),v12,v13,v14,()),()),(v15,v16,())))
 else none
 else none
 else
 let r13:=ydB (v4,(v5,v6),v15,v7,v8,v9,v10,v11,v16,v12,v13,v14) v3 v0
 bif r13 then
 let r14:=yfi v0
 bnd (ygT (v4,(v5,v6),v15,v7,v8,v9,v10,v11,v16,v12,v13,v14) v3 r14 ([r9]:List Int)) fun r15 =>
 some (.inl ((((),()),(v0,()),(v1,()),(v2,()),((IntKind.i64.wrap (v3+1)),()),()),((r15.2.1.1,r15.2.1.2.1.1,r15.2.1.2.1.2,(),r15.2.1.2.2.2.1,r15.2.1.2.2.2.2.1,r15.2.1.2.2.2.2.2.1,r15.2.1.2.2.2.2.2.2.1,r15.2.1.2.2.2.2.2.2.2.1,(),r15.2.1.2.2.2.2.2.2.2.2.2.1,r15.2.1.2.2.2.2.2.2.2.2.2.2.1,r15.2.1.2.2.2.2.2.2.2.2.2.2.2,()),()),(r15.2.1.2.2.1,r15.2.1.2.2.2.2.2.2.2.2.1,())))
 else
 some (.inl ((((),()),(v0,()),(v1,()),(v2,()),((IntKind.i64.wrap (v3+1)),()),()),((v4,v5,v6,(),v7,v8,v9,v10,v11,(),v12,v13,v14,()),()),(v15,v16,())))
 else
 some (.inr (.inl ((),((v4,v5,v6,(),v7,v8,v9,v10,v11,(),v12,v13,v14,()),()),(v15,v16,()))))
def ydt (x:(ycP).X):=yt4 x.1.2.1.1 x.1.2.2.1.1 x.1.2.2.2.1.1 x.1.2.2.2.2.1.1 x.2.1.1.1 x.2.1.1.2.1 x.2.1.1.2.2.1 x.2.1.1.2.2.2.2.1 x.2.1.1.2.2.2.2.2.1 x.2.1.1.2.2.2.2.2.2.1 x.2.1.1.2.2.2.2.2.2.2.1 x.2.1.1.2.2.2.2.2.2.2.2.1 x.2.1.1.2.2.2.2.2.2.2.2.2.2.1 x.2.1.1.2.2.2.2.2.2.2.2.2.2.2.1 x.2.1.1.2.2.2.2.2.2.2.2.2.2.2.2.1 x.2.2.1 x.2.2.2.1
def yC0 (x:(yiv).X):(ycP).X:=((((),()),(x.1.2.1.1,()),(x.1.2.2.1.1,()),(x.1.2.2.2.1.1,()),(0,()),()),((x.2.1.1.1,x.2.1.1.2.1,x.2.1.1.2.2.1,(),x.2.1.1.2.2.2.2.1,x.2.1.1.2.2.2.2.2.1,x.2.1.1.2.2.2.2.2.2.1,x.2.1.1.2.2.2.2.2.2.2.1,x.2.1.1.2.2.2.2.2.2.2.2.1,(),x.2.1.1.2.2.2.2.2.2.2.2.2.2.1,x.2.1.1.2.2.2.2.2.2.2.2.2.2.2.1,x.2.1.1.2.2.2.2.2.2.2.2.2.2.2.2.1,()),()),(x.2.2.1,x.2.2.2.1,()))
def yE4:Code:=(zdI ymz 64 28).getD .skip
theorem ySg:zdI ymz 64 7=some (.block 0 (.loop yE4)):=by kernel_rfl
theorem yVh (x:(ycP).X):zg7 ⟨yso,61,yEA⟩ 0 yE4 28 ycP yic yos x=ydt x:=by kernel_rfl
def yDi (x:(yiv).X):Nat:=18446744073709551616
def yuJ (x:(yiv).X):Option ((yic).X ⊕ (yos).X):=zr ydt (yDi x) (yC0 x)
def yDR:Seg:=⟨yiv,yic,yos,yuJ⟩
def yEB:Nat→Option Seg:=fun q=>bif Nat.beq q 7 then some yDR else yEA q
theorem yPO:FrOk Tryz.prog ⟨yso,61,yEB⟩ ymz:=(yPN).loop (sg:=yDR) ycP yC0 (by decide) ySg ydt yDi (by decide) (fun _=>rfl) (fun x r _ h=>h) yVh
abbrev yfb:List Par:= [.pt tA (.pr .fz (.pr (.pr .fz .fz) (.pr (.ow (.pr (.ow .fz) (.pr (.ow (.pr .fz .fz)) (.pr .fz (.ow .fz))))) (.pr .fz (.pr .fz (.pr .fz (.pr .fz (.pr .fz (.pr (.ow (.pr .fz .fz)) (.pr .fz (.pr .fz .fz))))))))))),.rd tI,.rd tL]
abbrev ymU:List OT:= []
def yoZ (a0:dA) (a1:Int) (a2:List Int):Option (ResD ymU×MutD yfb) :=
 let r1:=yc3 a0.2.1 a1
 zjw (yuJ ((((),()),(a1,()),(a2,()),(r1,()),((),()),()),((a0.1,a0.2.1.1,a0.2.1.2,(),a0.2.2.2.1,a0.2.2.2.2.1,a0.2.2.2.2.2.1,a0.2.2.2.2.2.2.1,a0.2.2.2.2.2.2.2.1,(),a0.2.2.2.2.2.2.2.2.2.1,a0.2.2.2.2.2.2.2.2.2.2.1,a0.2.2.2.2.2.2.2.2.2.2.2,()),()),(a0.2.2.1,a0.2.2.2.2.2.2.2.2.1,()))) (fun y15 =>
 some ((),((y15.2.1.1.1,(y15.2.1.1.2.1,y15.2.1.1.2.2.1),y15.2.2.1,y15.2.1.1.2.2.2.2.1,y15.2.1.1.2.2.2.2.2.1,y15.2.1.1.2.2.2.2.2.2.1,y15.2.1.1.2.2.2.2.2.2.2.1,y15.2.1.1.2.2.2.2.2.2.2.2.1,y15.2.2.2.1,y15.2.1.1.2.2.2.2.2.2.2.2.2.2.1,y15.2.1.1.2.2.2.2.2.2.2.2.2.2.2.1,y15.2.1.1.2.2.2.2.2.2.2.2.2.2.2.2.1),()))) (fun y15 =>
 none)
theorem yY6 (x:InD yfb):zjH ⟨yso,61,yEB⟩ Tryz.f230.results.toList ymz yfb ymU x=yoZ x.1 x.2.1 x.2.2.1:=by kernel_rfl
theorem yUC:ConOk Tryz.prog 230 ⟨yfb,ymU,fun x=>yoZ x.1 x.2.1 x.2.2.1⟩:=zkh (yPO) Tryz.func230 (by kernel_rfl) (by kernel_rfl) Tryz.ntmps230.symm (by decide) (fun x r h=>(yY6 x).trans h)
def ys6 (a0:dA) (a1:Int) (a2:List Int):dA:=yI a0 a1 a2
def ynb (a0:dA) (a1:Int) (a2:List Int):Bool:=yL a0.2.1 a1&&((a2.length:Int)==a0.2.1.1 - 1&&(a0.2.2.1.length:Int)==a0.2.1.1)
theorem yW0 (a0:dA) (a1:Int) (a2:List Int) (hk:zi9 yfb (a0,a1,a2,())) (hq:ynb a0 a1 a2=true):yoZ a0 a1 a2=(fun n=>some ((),(n,()))) (ys6 a0 a1 a2):=by
 simp only [ynb,Bool.and_eq_true,beq_iff_eq]at hq
 have hg:=ym.1 (ydE.1 hq.1).1
 have hp:=yp1 hq.1
 have h1:yuJ (yQc a1 a2 (yg a0.2.1 a1) a0)=some (.inl (yDs (yI a0 a1 a2))) :=
  zks (step:=ydt) a0.2.2.1.length (fun i s=>ytE a1 a2 (yg a0.2.1 a1) i s) (yd6 (yg a0.2.1 a1) a0.2.1.1 a1 a2) (fun _ s=>s.2.2.1.length=a0.2.2.1.length∧s.2.1=a0.2.1) (fun s=> .inl (yDs s)) (fun i s hi hs=>⟨by
   have hN:s.2.1.1=a0.2.1.1:=by rw [hs.2]
   simp only [ydt,ytE,yt4,hs.1,zjI (show (i:Int) < a0.2.2.1.length by omega),cond_true,wr (show -9223372036854775808≤(i:Int)+1 by omega) (by omega),Int.natCast_add,Int.natCast_one,Int.toNat_natCast,zkV,yk5,yjR,ydB,yxE,yd6,yxP]
   rw [← hN]
   by_cases he:(i:Int)=yg a0.2.1 a1
   ·rw [show ((i:Int) !=yg a0.2.1 a1)=false by simp [he],show ((i:Int)==yg a0.2.1 a1)=true from beq_iff_eq.2 he]
    rw [ytb s i (yr6 a1) [ye7 a2] (zkO (by rw [hs.1]; exact hi))]
    cases yfN s i a1<;>rfl
   ·have hd:=y39 (N:=s.2.1.1) (i:=i) (p:=yg a0.2.1 a1) ⟨by omega,by omega⟩ ⟨by omega,by omega⟩ ⟨hp.1,by omega⟩ he
    rw [show ((i:Int) !=yg a0.2.1 a1)=true from bne_iff_ne.2 he,show ((i:Int)==yg a0.2.1 a1)=false from beq_eq_false_iff_ne.2 he,show (s.2.1.1 !=0)=true from bne_iff_ne.2 (by omega),
     wr (show -9223372036854775808≤(i:Int) - yg a0.2.1 a1 by omega) (by omega),wr (show -9223372036854775808≤(i:Int) - yg a0.2.1 a1 - 1 by omega) (by omega),wr (show -9223372036854775808≤(i:Int) - yg a0.2.1 a1 - 1+s.2.1.1 by omega) (by omega),zjP.2 (show 0≤((i:Int) - yg a0.2.1 a1 - 1+s.2.1.1).tmod s.2.1.1∧((i:Int) - yg a0.2.1 a1 - 1+s.2.1.1).tmod s.2.1.1 < a2.length by omega)]
    rw [ytb s i (yr6 a1) [nth a2 (((i:Int) - yg a0.2.1 a1 - 1+s.2.1.1).tmod s.2.1.1) 0] (zkO (by rw [hs.1]; exact hi))]
    cases yfN s i a1<;>rfl,(yxO _ _ _ _ s i).trans hs.1,(yw9 (yKt _ _ _ _ s i)).trans hs.2⟩) (fun s hs=>by simp only [ydt,ytE,yt4,hs.1,zkm (Int.le_refl _),cond_false]) a0 ⟨rfl,rfl⟩ _ (by show _ < 18446744073709551616; omega)
 unfold yoZ ys6 yc3
 exact (congrArg (fun z=>zjw z _ _) h1).trans rfl
def yhH (a0:dA) (a1:Int) (a2:List Int):Option (ResD ymU×MutD yfb):=bif ynb a0 a1 a2 then (fun n=>some ((),(n,()))) (ys6 a0 a1 a2) else none
theorem yX4 (a0:dA) (a1:Int) (a2:List Int) (h:ynb a0 a1 a2=true):yhH a0 a1 a2=(fun n=>some ((),(n,()))) (ys6 a0 a1 a2):=by unfold yhH; rw [h]; rfl
def yFv:Con:=⟨yfb,ymU,fun x=>yhH x.1 x.2.1 x.2.2.1⟩
theorem yXZ:ConOk Tryz.prog 230 yFv:=(yUC).mono (fun x r hk h=>zkW h (fun hq=>yW0 x.1 x.2.1 x.2.2.1 hk hq))
end
section
def yFY:Code:=(Tryz.f147.body).getD .skip
def yGv:Env:=zki TT [(208,yCL),(229,yGU),(230,yFv)] []
theorem yNa:FrOk Tryz.prog ⟨yGv,54,fun _=>none⟩ yFY:=zkp yb yc ⟨yUX,y0a,yXZ,trivial⟩
def yOA:Nat→Option Seg:=fun _=>none
abbrev ydV:List Par:= [.pt tA (.pr .fz (.pr (.pr .fz .fz) (.pr (.ow (.pr (.ow .fz) (.pr (.ow (.pr .fz .fz)) (.pr .fz (.ow .fz))))) (.pr .fz (.pr .fz (.pr .fz (.pr .fz (.pr .fz (.pr (.ow (.pr .fz .fz)) (.pr .fz (.pr .fz .fz))))))))))),.rd tI,.rd tL]
abbrev ykP:List OT:= [⟨false,tI,.fz⟩]
def ymj (a0:dA) (a1:Int) (a2:List Int):Option (ResD ykP×MutD ydV) :=
 bif (leb 4 (IntKind.i64.wrap (a0.2.2.2.2.2.1 - a0.2.2.2.2.2.2.1))) then
 let r1:=yk8 a0
 bif r1.2.2.2.2.2.2.2.2.2.2.1 then
 some ((6,()),(r1,()))
 else
 bif (zj4 ([]:List Int).length a2.length 8) then
 let r2:=yk9 r1 (r1.2.2.2.2.2.1,a1,(([]:List Int)++a2))
 bif r2.2.2.2.2.2.2.2.2.2.2.1 then
 some ((6,()),(r2,()))
 else
 bnd (yhH (r2.1,r2.2.1,r2.2.2.1,r2.2.2.2.1,r2.2.2.2.2.1,(IntKind.i64.wrap (r2.2.2.2.2.2.1+1)),r2.2.2.2.2.2.2) a1 a2) fun r3 =>
 bif r3.2.1.2.2.2.2.2.2.2.2.2.2.1 then
 some ((6,()),(r3.2.1,()))
 else
 some ((0,()),(r3.2.1,()))
 else none
 else
 bif a0.2.2.2.2.2.2.2.2.2.2.1 then
 some ((6,()),(a0,()))
 else
 bif (zj4 ([]:List Int).length a2.length 8) then
 let r4:=yk9 a0 (a0.2.2.2.2.2.1,a1,(([]:List Int)++a2))
 bif r4.2.2.2.2.2.2.2.2.2.2.1 then
 some ((6,()),(r4,()))
 else
 bnd (yhH (r4.1,r4.2.1,r4.2.2.1,r4.2.2.2.1,r4.2.2.2.2.1,(IntKind.i64.wrap (r4.2.2.2.2.2.1+1)),r4.2.2.2.2.2.2) a1 a2) fun r5 =>
 bif r5.2.1.2.2.2.2.2.2.2.2.2.2.1 then
 some ((6,()),(r5.2.1,()))
 else
 some ((0,()),(r5.2.1,()))
 else none
theorem yWd (x:InD ydV):zjH ⟨yGv,54,yOA⟩ Tryz.f147.results.toList yFY ydV ykP x=ymj x.1 x.2.1 x.2.2.1:=by kernel_rfl
theorem yQ4:ConOk Tryz.prog 147 ⟨ydV,ykP,fun x=>ymj x.1 x.2.1 x.2.2.1⟩:=zkh (yNa) Tryz.func147 (by kernel_rfl) (by kernel_rfl) Tryz.ntmps147.symm (by decide) (fun x r h=>(yWd x).trans h)
def yla (a0:dA) (a1:Int) (a2:List Int):Int×dA:=yaW a0 a1 a2
def ylc (a0:dA) (a1:Int) (a2:List Int):Bool:=yL a0.2.1 a1&&((a2.length:Int)==a0.2.1.1 - 1&&(a0.2.2.1.length:Int)==a0.2.1.1)
theorem yT1 (a0:dA) (a1:Int) (a2:List Int) (hk:zi9 ydV (a0,a1,a2,())) (hq:ylc a0 a1 a2=true):ymj a0 a1 a2=(fun n=>some ((n.1,()),(n.2,()))) (yla a0 a1 a2):=by
 have hq':=hq
 simp only [ylc,Bool.and_eq_true,beq_iff_eq]at hq
 have hg:=ym.1 (ydE.1 hq.1).1
 have hap:zj4 ([]:List Int).length a2.length 8=true:=zkw.2 (by simp only [List.length_nil]; omega)
 have key: ∀ b:dA,b.2.1=a0.2.1→b.2.2.1.length=a0.2.2.1.length→yhH (yak (yaj b (b.2.2.2.2.2.1,a1,a2))) a1 a2=some ((),(yI (yak (yaj b (b.2.2.2.2.2.1,a1,a2))) a1 a2,())):=fun b h1 h2=>yX4 _ _ _ (by
  unfold ynb
  rw [show (yak (yaj b (b.2.2.2.2.2.1,a1,a2))).2.1=a0.2.1 from (yw9 (yRD _ _)).trans h1,show (yak (yaj b (b.2.2.2.2.2.1,a1,a2))).2.2.1.length=a0.2.2.1.length from (y1M _ _).trans h2]
  exact hq')
 unfold ymj yla yaW ycC
 simp only [y0e,yk9,List.nil_append,hap,cond_true]
 cases leb 4 (IntKind.i64.wrap (a0.2.2.2.2.2.1 - a0.2.2.2.2.2.2.1))
 ·have hd:=key a0 rfl rfl
  simp only [cond_false]
  generalize yaj a0 (a0.2.2.2.2.2.1,a1,a2)=R at hd ⊢
  generalize yI (yak R) a1 a2=Q at hd ⊢
  unfold yak at hd
  simp only [cond_false,hd,zky]
  unfold yd
  cases a0.2.2.2.2.2.2.2.2.2.2.1
  ·cases R.2.2.2.2.2.2.2.2.2.2.1
   ·cases Q.2.2.2.2.2.2.2.2.2.2.1<;>rfl
   ·rfl
  ·rfl
 ·have hd:=key (yu a0) (yKs a0) (yua a0)
  simp only [cond_true]
  generalize yu a0=C at hd ⊢
  generalize yaj C (C.2.2.2.2.2.1,a1,a2)=R at hd ⊢
  generalize yI (yak R) a1 a2=Q at hd ⊢
  unfold yak at hd
  simp only [cond_true,hd,zky]
  unfold yd
  cases C.2.2.2.2.2.2.2.2.2.2.1
  ·cases R.2.2.2.2.2.2.2.2.2.2.1
   ·cases Q.2.2.2.2.2.2.2.2.2.2.1<;>rfl
   ·rfl
  ·rfl
def yqY (a0:dA) (a1:Int) (a2:List Int):Option (ResD ykP×MutD ydV):=bif ylc a0 a1 a2 then (fun n=>some ((n.1,()),(n.2,()))) (yla a0 a1 a2) else none
theorem yU3 (a0:dA) (a1:Int) (a2:List Int) (h:ylc a0 a1 a2=true):yqY a0 a1 a2=(fun n=>some ((n.1,()),(n.2,()))) (yla a0 a1 a2):=by unfold yqY; rw [h]; rfl
def yCM:Con:=⟨ydV,ykP,fun x=>yqY x.1 x.2.1 x.2.2.1⟩
theorem yUY:ConOk Tryz.prog 147 yCM:=(yQ4).mono (fun x r hk h=>zkW h (fun hq=>yT1 x.1 x.2.1 x.2.2.1 hk hq))
end
section
def yFZ:Code:=(Tryz.f185.body).getD .skip
def yGw:Env:=zki TT [(146,yFu),(147,yCM),(243,yzo)] [(36928,(.pr .fz .fz))]
theorem yNb:FrOk Tryz.prog ⟨yGw,63,fun _=>none⟩ yFZ:=zkp yb yc ⟨yXY,yUY,yLM,trivial⟩
def yOB:Nat→Option Seg:=fun _=>none
abbrev ydW:List Par:= [.pt tA (.pr .fz (.pr (.pr .fz .fz) (.pr (.ow (.pr (.ow .fz) (.pr (.ow (.pr .fz .fz)) (.pr .fz (.ow .fz))))) (.pr .fz (.pr .fz (.pr .fz (.pr .fz (.pr .fz (.pr (.ow (.pr .fz .fz)) (.pr .fz (.pr .fz .fz))))))))))),.rd tI]
abbrev ykQ:List OT:= [⟨false,tI,.fz⟩]
def ymk (a0:dA) (a1:Int):Option (ResD ykQ×MutD ydW) :=
 let r1:=yjj a0 a1
 bif (ltb r1 0) then
 some ((0,()),(a0,()))
 else
 bif (inb r1 a0.2.2.2.2.2.2.2.2.1.length) then
 let r2:=yo a0 a1 ((nth a0.2.2.2.2.2.2.2.2.1 r1 (0,[])).2)
 bif (r2 !=0) then
 some ((r2,()),(a0,()))
 else
 bif (inb r1 a0.2.2.2.2.2.2.2.2.1.length) then
 bnd (yqY a0 a1 ((nth a0.2.2.2.2.2.2.2.2.1 r1 (0,[])).2)) fun r3 =>
 bif (r3.1.1==0) then
 bif (zjG 0 r1 r3.2.1.2.2.2.2.2.2.2.2.1.length) then
 bif (zj4 ([]:List dW).length ((r3.2.1.2.2.2.2.2.2.2.2.1.drop (0:Int).toNat).take (r1 - 0).toNat).length 32) then
 bif (zjG (IntKind.i64.wrap (r1+1)) (r3.2.1.2.2.2.2.2.2.2.2.1.length:Int) r3.2.1.2.2.2.2.2.2.2.2.1.length) then
 bif (zj4 (([]:List dW)++((r3.2.1.2.2.2.2.2.2.2.2.1.drop (0:Int).toNat).take (r1 - 0).toNat)).length ((r3.2.1.2.2.2.2.2.2.2.2.1.drop ((IntKind.i64.wrap (r1+1))).toNat).take ((r3.2.1.2.2.2.2.2.2.2.2.1.length:Int) - (IntKind.i64.wrap (r1+1))).toNat).length 32) then
 some ((r3.1.1,()),((r3.2.1.1,r3.2.1.2.1,r3.2.1.2.2.1,r3.2.1.2.2.2.1,r3.2.1.2.2.2.2.1,r3.2.1.2.2.2.2.2.1,r3.2.1.2.2.2.2.2.2.1,r3.2.1.2.2.2.2.2.2.2.1,((([]:List dW)++((r3.2.1.2.2.2.2.2.2.2.2.1.drop (0:Int).toNat).take (r1 - 0).toNat))++((r3.2.1.2.2.2.2.2.2.2.2.1.drop ((IntKind.i64.wrap (r1+1))).toNat).take ((r3.2.1.2.2.2.2.2.2.2.2.1.length:Int) - (IntKind.i64.wrap (r1+1))).toNat)),r3.2.1.2.2.2.2.2.2.2.2.2),()))
 else none
 else none
 else none
 else none
 else
 some ((r3.1.1,()),(r3.2.1,()))
 else none
 else none
theorem yWe (x:InD ydW):zjH ⟨yGw,63,yOB⟩ Tryz.f185.results.toList yFZ ydW ykQ x=ymk x.1 x.2.1:=by kernel_rfl
theorem yQ5:ConOk Tryz.prog 185 ⟨ydW,ykQ,fun x=>ymk x.1 x.2.1⟩:=zkh (yNb) Tryz.func185 (by kernel_rfl) (by kernel_rfl) Tryz.ntmps185.symm (by decide) (fun x r h=>(yWe x).trans h)
def yqU (a0:dA) (a1:Int):Int×dA:=yi1 a0 a1
def yxk (a0:dA) (a1:Int):Bool:=decide (a0.2.2.2.2.2.2.2.2.1.length≤1000)
theorem yT2 (a0:dA) (a1:Int) (hk:zi9 ydW (a0,a1,())) (hq:yxk a0 a1=true):ymk a0 a1=(fun n=>some ((n.1,()),(n.2,()))) (yqU a0 a1):=by
 have hq:=of_decide_eq_true hq
 unfold ymk yqU yi1
 simp only [yjj]
 cases h0:ltb (yq a0.2.2.2.2.2.2.2.2.1 a1) 0
 ·have h1:=zkU h0
  have hi:inb (yq a0.2.2.2.2.2.2.2.2.1 a1) a0.2.2.2.2.2.2.2.2.1.length=true:=(yxc (d:=((0:Int),([]:List Int))) (zk0 h1)).1
  simp only [hi,cond_true,cond_false]
  generalize hD:(nth a0.2.2.2.2.2.2.2.2.1 (yq a0.2.2.2.2.2.2.2.2.1 a1) (0,[])).2=D
  cases hc:(yo a0 a1 D !=0)
  ·obtain ⟨ha,hl,hw,hd,hs,hb,_⟩:=yYd (bne_eq_false_iff_eq.1 hc)
   rw [yU3 a0 a1 D (by unfold ylc; rw [hs,hl,yKp ha]; simp)]
   simp only [zky,cond_false,yla,yOq]
   have hk:=zjP.1 hi
   cases hr:((yaW a0 a1 D).1==0)
   ·rfl
   ·generalize yq a0.2.2.2.2.2.2.2.2.1 a1=K at h1 hk
    rw [wr (show -9223372036854775808≤K+1 by omega) (by omega),zko.2 (show (0:Int)≤0∧0≤K∧K≤(a0.2.2.2.2.2.2.2.2.1.length:Int) by omega),zko.2 (show 0≤K+1∧K+1≤(a0.2.2.2.2.2.2.2.2.1.length:Int)∧(a0.2.2.2.2.2.2.2.2.1.length:Int)≤(a0.2.2.2.2.2.2.2.2.1.length:Int) by omega),
     zkw.2 (by rw [List.length_take,List.length_drop,List.length_nil]; omega),zkw.2 (by rw [List.length_append,List.length_take,List.length_take,List.length_drop,List.length_drop,List.length_nil]; omega),y2c h1 hk.2]
    rw [beq_iff_eq.1 hr]; rfl
  ·rfl
 ·rfl
def ylb (a0:dA) (a1:Int):Option (ResD ykQ×MutD ydW):=bif yxk a0 a1 then (fun n=>some ((n.1,()),(n.2,()))) (yqU a0 a1) else none
theorem yU4 (a0:dA) (a1:Int) (h:yxk a0 a1=true):ylb a0 a1=(fun n=>some ((n.1,()),(n.2,()))) (yqU a0 a1):=by unfold ylb; rw [h]; rfl
def yCN:Con:=⟨ydW,ykQ,fun x=>ylb x.1 x.2.1⟩
theorem yUZ:ConOk Tryz.prog 185 yCN:=(yQ5).mono (fun x r hk h=>zkW h (fun hq=>yT2 x.1 x.2.1 hk hq))
end
section
def yxW:Code:=(Tryz.f84.body).getD .skip
def yx8:Env:=zki TT [(103,yFp),(104,yGV),(135,yl),(185,yCN)] []
theorem yG4:FrOk Tryz.prog ⟨yx8,31,fun _=>none⟩ yxW:=zkp yb yc ⟨yXT,y0b,yp,yUZ,trivial⟩
def yHn:Nat→Option Seg:=fun _=>none
abbrev yb8:List Par:= [.rd tA,.rd tI]
abbrev yiD:List OT:= [⟨false,tA,(.pr .fz (.pr (.pr .fz .fz) (.pr (.ow (.pr (.ow .fz) (.pr (.ow (.pr .fz .fz)) (.pr .fz (.ow .fz))))) (.pr .fz (.pr .fz (.pr .fz (.pr .fz (.pr .fz (.pr (.ow (.pr .fz .fz)) (.pr .fz (.pr .fz .fz)))))))))))⟩,⟨false,tI,.fz⟩]
def yf1 (a0:dA) (a1:Int):Option (ResD yiD×MutD yb8) :=
 let r1:=ym8 a0
 let r2:=yp0 a0
 bif (r2==0) then
 let r3:=ya a1 0 (IntKind.i64.wrap (a0.2.1.2 - 1))
 bif (!r3) then
 some ((r1,2,()),())
 else
 bif (r2 !=0) then
 some ((r1,r2,()),())
 else
 bnd (ylb r1 a1) fun r4 =>
 some ((r4.2.1,r4.1.1,()),())
 else
 bif (r2 !=0) then
 some ((r1,r2,()),())
 else
 bnd (ylb r1 a1) fun r5 =>
 some ((r5.2.1,r5.1.1,()),())
theorem yKw (x:InD yb8):zjH ⟨yx8,31,yHn⟩ Tryz.f84.results.toList yxW yb8 yiD x=yf1 x.1 x.2.1:=by kernel_rfl
theorem yHJ:ConOk Tryz.prog 84 ⟨yb8,yiD,fun x=>yf1 x.1 x.2.1⟩:=zkh (yG4) Tryz.func84 (by kernel_rfl) (by kernel_rfl) Tryz.ntmps84.symm (by decide) (fun x r h=>(yKw x).trans h)
def yeD (a0:dA) (a1:Int):dA×Int:=yC5 a0 a1
theorem yJe (a0:dA) (a1:Int) (hk:zi9 yb8 (a0,a1,())):yf1 a0 a1=(fun n=>some ((n.1,n.2,()),())) (yeD a0 a1):=by
 unfold yf1 yeD yC5
 simp only [ym8,y3t]
 cases ha:yB a0
 ·rfl
 cases hd:yd a0
 ·have hg:=ym.1 (yew ha)
  rw [wr (show -9223372036854775808≤a0.2.1.2 - 1 by omega) (by omega),ye1,show (leb 0 a1&&leb a1 (a0.2.1.2 - 1))=yL a0.2.1 a1 by unfold yL; rw [yew ha]; rfl]
  cases yL a0.2.1 a1
  ·rfl
  ·rw [yU4 a0 a1 (decide_eq_true (Nat.le_trans (yYe (yKq ha) (yew ha)) (by omega)))]; rfl
 ·rfl
def yvs:Con:=⟨yb8,yiD,fun x=>(fun n=>some ((n.1,n.2,()),())) (yeD x.1 x.2.1)⟩
theorem yJn:ConOk Tryz.prog 84 yvs:=(yHJ).mono (fun x r hk h=>(yJe x.1 x.2.1 hk).trans h)
end
end
end Go.Tf
