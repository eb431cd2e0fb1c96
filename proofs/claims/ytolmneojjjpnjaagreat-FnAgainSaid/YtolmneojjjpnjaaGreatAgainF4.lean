/- Functions of the program, and what they come to. -/
import Derived.Test.YtolmneojjjpnjaaGreatAgainF3
namespace Go.Tf
noncomputable section
open Go.Proofs Go.Proofs.Tryz
set_option synthInstance.maxHeartbeats 400000
set_option synthInstance.maxSize 10000
set_option linter.unusedVariables false
set_option linter.unusedSimpArgs false
set_option maxRecDepth 100000
section
def yim:Code:=(f49.body).getD .skip
def yoA:Env:=zj0 TT [] []
theorem yLT:FrOk prog ⟨yoA,26,fun _=>none⟩ yim:=zj4 yc yd trivial
def yAA:Nat→Option Seg:=fun _=>none
def ycD:Shape:=⟨[(0,false,[.br tI]),(1,false,[.br tI]),(5,false,[.int .i64])],[],[]⟩
def yiU:Shape:=⟨[(0,false,[.br tI]),(1,false,[.br tI]),(5,false,[.ci .i64 0])],[],[]⟩
def yiF:Shape:=⟨[],[],[]⟩
def yjj:Shape:=⟨[(4,false,[.bool])],[],[]⟩
def yos (v0 v1:List Int) (v2:Int):Option ((ycD).X ⊕ ((yiF).X ⊕ (yjj).X)) :=
 bif(ltb v2 (v0.length:Int))then
 bif(inb v2 v0.length)then
 bif(inb v2 v1.length)then
 bif((nth v0 v2 0) !=(nth v1 v2 0))then
 some (.inr (.inr (((false,()),()),(),())))
 else
 some (.inl (((v0,()),(v1,()),((IntKind.i64.wrap (v2+1)),()),()),(),()))
 else none
 else none
 else
 some (.inr (.inl ((),(),())))
def ybv (x:(ycD).X):=yos x.1.1.1 x.1.2.1.1 x.1.2.2.1.1
def yxy (x:(yiU).X):(ycD).X:=(((x.1.1.1,()),(x.1.2.1.1,()),(0,()),()),(),())
def yy3:Code:=(zef yim 64 116).getD .skip
theorem yLm:zef yim 64 29=some (.block 0 (.loop yy3)):=by kernel_rfl
theorem yM0 (x:(ycD).X):zg0 ⟨yoA,26,yAA⟩ 0 yy3 116 ycD yiF yjj x=ybv x:=by kernel_rfl
def yxH (x:(yiU).X):Nat:=18446744073709551616
def ypY (x:(yiU).X):Option ((yiF).X ⊕ (yjj).X):=zz ybv (yxH x) (yxy x)
def yxU:Seg:=⟨yiU,yiF,yjj,ypY⟩
def yAB:Nat→Option Seg:=fun q=>bif Nat.beq q 29 then some yxU else yAA q
theorem yLU:FrOk prog ⟨yoA,26,yAB⟩ yim:=(yLT).loop (sg:=yxU) ycD yxy (by decide) yLm ybv yxH (by decide) (fun _=>rfl) (fun x r _ h=>h) yM0
abbrev yfu:List Par:= [.rd tL,.rd tL]
abbrev yoR:List OT:= [⟨false,tB,.fz⟩]
def yku (a0 a1:List Int):Option (ResD yoR×MutD yfu) :=
 bif((a0.length:Int) !=(a1.length:Int))then
 some ((false,()),())
 else
 zjW (ypY (((a0,()),(a1,()),((),()),()),(),())) (fun y0 =>
 some ((true,()),())) (fun y0 =>
 some ((y0.1.1.1,()),()))
theorem yUu (x:InD yfu):zju ⟨yoA,26,yAB⟩ f49.results.toList yim yfu yoR x=yku x.1 x.2.1:=by kernel_rfl
theorem yPf:ConOk prog 49 ⟨yfu,yoR,fun x=>yku x.1 x.2.1⟩:=zjZ (yLU) func49 (by kernel_rfl) (by kernel_rfl) ntmps49.symm (by decide) (fun x r h=>(yUu x).trans h)
def ydu (a0 a1:List Int):Bool:=decide (a0=a1)
theorem ySg (a0 a1:List Int) (hk:zi0 yfu (a0,a1,())):yku a0 a1=(fun n=>some ((n,()),())) (ydu a0 a1):=by
 have hb:a0.length*8≤2^47:=hk.1.1
 have hl:a0.length=a1.length→ypY (((a0,()),(a1,()),((),()),()),(),())=some (bif(List.range a0.length).any (fun i=>a0.getD i 0 !=a1.getD i 0)then .inr (((false,()),()),(),())else .inl ((),(),())):=fun hL =>
  ziM (step:=ybv) (fun i=>(((a0,()),(a1,()),((i:Int),()),()),(),())) a0.length (fun i=>a0.getD i 0 !=a1.getD i 0) _ _ (fun i hi=>by
   simp only[ybv,yos,zkj hi,zkj (hL ▸ hi),zkk,zj2 (show(i:Int)<a0.length by omega),cond_true,wr (show -9223372036854775808≤(i:Int)+1 by omega) (by omega),Int.natCast_add,Int.natCast_one]
   cases(a0.getD i 0 !=a1.getD i 0)<;>rfl) (by simp only[ybv,yos,zkv (Int.le_refl _),cond_false]) _ (by show _<18446744073709551616; omega)
 unfold yku ydu
 by_cases h:a0.length=a1.length
 ·rw[show((a0.length:Int) !=(a1.length:Int))=false by simp[h],zkr,hl h]
  by_cases e:a0=a1
  ·subst e
   have:(List.range a0.length).any (fun i=>a0.getD i 0 !=a0.getD i 0)=false:=by simp
   rw[this,decide_eq_true rfl];rfl
  ·have:(List.range a0.length).any (fun i=>a0.getD i 0 !=a1.getD i 0)=true:=by
    rcases Bool.eq_false_or_eq_true ((List.range a0.length).any (fun i=>a0.getD i 0 !=a1.getD i 0))with h2 | h2
    ·exact h2
    ·refine absurd (List.ext_getElem h fun i h3 h4=> ?_) e
     rw[List.any_eq_false]at h2;have:=h2 i (List.mem_range.2 h3);simpa [h3,h4]using this
   rw[this,decide_eq_false e];rfl
 ·rw[show((a0.length:Int) !=(a1.length:Int))=true from bne_iff_ne.2 (by omega),zks,decide_eq_false (fun e=>h (congrArg _ e))]
theorem yJ3 (a:List Int):ydu a a=true:=by unfold ydu; simp
def yA8:Con:=⟨yfu,yoR,fun x=>(fun n=>some ((n,()),())) (ydu x.1 x.2.1)⟩
theorem yS0:ConOk prog 49 yA8:=(yPf).mono (fun x r hk h=>(ySg x.1 x.2.1 hk).trans h)
end
section
def ypL:Code:=(f69.body).getD .skip
def yvq:Env:=zj0 TT [] []
theorem yU9:FrOk prog ⟨yvq,32,fun _=>none⟩ ypL:=zj4 yc yd trivial
def yG3:Nat→Option Seg:=fun _=>none
def yfA:Shape:=⟨[(0,false,[.fz tY]),(3,false,[.int .i64]),(4,false,[.int .i64])],[],[]⟩
def yoF:Shape:=⟨[(0,false,[.fz tY]),(3,false,[.int .i64]),(4,false,[.ci .i64 0])],[],[]⟩
def yoE:Shape:=⟨[(0,false,[.fz tY]),(3,false,[.int .i64])],[],[]⟩
def yo3:Shape:=⟨[],[],[]⟩
def yEj (v0:List Int) (v1 v2:Int):Option ((yfA).X ⊕ ((yoE).X ⊕ (yo3).X)) :=
 bif(ltb v2 (v0.length:Int))then
 bif(ltb v2 4000)then
 bif(inb v2 v0.length)then
 some (.inl (((v0,()),((IntKind.i64.wrap ((BitVec.ofInt IntKind.i64.bits (IntKind.i64.wrap ((IntKind.i64.wrap ((IntKind.i64.wrap (v1*137))+(IntKind.i64.wrap (nth v0 v2 0))))+11)) &&& BitVec.ofInt IntKind.i64.bits 1073741823).toNat:Int)),()),((IntKind.i64.wrap (v2+1)),()),()),(),()))
 else none
 else
 some (.inr (.inl (((v0,()),(v1,()),()),(),())))
 else
 some (.inr (.inl (((v0,()),(v1,()),()),(),())))
def ygx (x:(yfA).X):=yEj x.1.1.1 x.1.2.1.1 x.1.2.2.1.1
def yDo (x:(yoF).X):(yfA).X:=(((x.1.1.1,()),(x.1.2.1.1,()),(0,()),()),(),())
def yFv:Code:=(zef ypL 64 116).getD .skip
theorem yT6:zef ypL 64 29=some (.block 0 (.loop yFv)):=by kernel_rfl
theorem yXb (x:(yfA).X):zg0 ⟨yvq,32,yG3⟩ 0 yFv 116 yfA yoE yo3 x=ygx x:=by kernel_rfl
def yDE (x:(yoF).X):Nat:=18446744073709551616
def yvE (x:(yoF).X):Option ((yoE).X ⊕ (yo3).X):=zz ygx (yDE x) (yDo x)
def yEd:Seg:=⟨yoF,yoE,yo3,yvE⟩
def yG4:Nat→Option Seg:=fun q=>bif Nat.beq q 29 then some yEd else yG3 q
theorem yVa:FrOk prog ⟨yvq,32,yG4⟩ ypL:=(yU9).loop (sg:=yEd) yfA yDo (by decide) yT6 ygx yDE (by decide) (fun _=>rfl) (fun x r _ h=>h) yXb
abbrev yk5:List Par:= [.kp tYs .fz]
abbrev yv1:List OT:= [⟨true,tU,.fz⟩]
def ygW (a0:List Int):Option (ResD yv1×MutD yk5) :=
 zjW (yvE (((a0,()),((IntKind.i64.wrap (770770+(a0.length:Int))),()),((),()),()),(),())) (fun y0 =>
 some (((y0.1.1.1,0,y0.1.2.1.1),()),())) (fun y0 =>
 none)
theorem y2n (x:InD yk5):zju ⟨yvq,32,yG4⟩ f69.results.toList ypL yk5 yv1 x=ygW x.1:=by kernel_rfl
theorem yZc:ConOk prog 69 ⟨yk5,yv1,fun x=>ygW x.1⟩:=zjZ (yVa) func69 (by kernel_rfl) (by kernel_rfl) ntmps69.symm (by decide) (fun x r h=>(y2n x).trans h)
def ylL (a0:List Int):List Int×Int×Int:=(((ygW a0).getD (((([]:List Int),(0:Int),(0:Int)),()),())).1).1
def yb7 (u:List Int×Int×Int):Prop:=0≤u.2.1∧(u.1.length:Int)≤140737488355328
theorem y2C (a0:List Int) (hb:a0.length≤140737488355328): ∃s:Int,ygW a0=some (((a0,0,s),()),()):=by
 have hl: ∃b,yvE (((a0,()),((IntKind.i64.wrap (770770+(a0.length:Int))),()),((),()),()),(),())=some b∧(∃s:Int,b= .inl (((a0,()),(s,()),()),(),())):=by
  refine ziN (step:=ygx) (fun x=>(a0.length-(x.1.2.2.1.1:Int).toNat)) (fun x=>(x.1.1.1:List Int)=a0∧(0:Int)≤(x.1.2.2.1.1:Int)) _ ?_ _ _ ⟨rfl,Int.le_refl _⟩ (by show a0.length-_<18446744073709551616; omega)
  rintro⟨⟨⟨(l:List Int),_⟩,⟨(s:Int),_⟩,⟨(i:Int),_⟩,_⟩,_,_⟩ ⟨h0,hi⟩
  simp only at h0 hi;subst h0;simp only[ygx,yEj]
  by_cases h1:i<(l.length:Int)
  ·rw[zj2 h1]
   by_cases h2:i<4000
   ·rw[zj2 h2,zjA.2 ⟨hi,h1⟩]
    refine .inl ⟨_,rfl,⟨rfl,?_⟩,?_⟩
    ·show 0≤IntKind.i64.wrap (i+1); rw[wr (by omega) (by omega)]; omega
    ·show l.length-(IntKind.i64.wrap (i+1)).toNat<l.length-i.toNat; rw[wr (by omega) (by omega)]; omega
   ·rw[zkv (Int.not_lt.1 h2)]
    exact .inr ⟨_,rfl,_,rfl⟩
  ·rw[zkv (Int.not_lt.1 h1)]
   exact .inr ⟨_,rfl,_,rfl⟩
 obtain⟨b,e,s,rfl⟩:=hl;refine⟨s,?_⟩;unfold ygW;rw[e]; rfl
theorem y1q (a0:List Int) (hk:zi0 yk5 (a0,())):ygW a0=(fun n=>some ((n,()),())) (ylL a0):=by
 obtain⟨s,e⟩:=y2C a0 (by have:a0.length*1≤2^47:=hk.1.1; omega);unfold ylL;rw[e]; rfl
theorem y6d (a0:List Int) (hb:a0.length≤140737488355328):yb7 (ylL a0):=by
 obtain⟨s,e⟩:=y2C a0 hb;unfold ylL;rw[e];exact⟨Int.le_refl _,by show(a0.length:Int)≤_; omega⟩
def yHH:Con:=⟨yk5,yv1,fun x=>(fun n=>some ((n,()),())) (ylL x.1)⟩
theorem y1I:ConOk prog 69 yHH:=(yZc).mono (fun x r hk h=>(y1q x.1 hk).trans h)
end
section
def yJh:Code:=(f71.body).getD .skip
def yJP:Env:=zj0 TT [] []
theorem yRb:FrOk prog ⟨yJP,15,fun _=>none⟩ yJh:=zj4 yc yd trivial
def yTQ:Nat→Option Seg:=fun _=>none
abbrev ynq:List Par:= [.rd tYs,.rd tI]
abbrev ytD:List OT:= [⟨false,tI,.fz⟩]
def yw3 (a0:List Int) (a1:Int):Option (ResD ytD×MutD ynq) :=
 bif(ltb a1 (IntKind.i64.wrap (3+(IntKind.i64.wrap ((a0.length:Int).tdiv 12)))))then
 some ((a1,()),())
 else
 some (((IntKind.i64.wrap (3+(IntKind.i64.wrap ((a0.length:Int).tdiv 12)))),()),())
theorem y0V (x:InD ynq):zju ⟨yJP,15,yTQ⟩ f71.results.toList yJh ynq ytD x=yw3 x.1 x.2.1:=by kernel_rfl
theorem yWs:ConOk prog 71 ⟨ynq,ytD,fun x=>yw3 x.1 x.2.1⟩:=zjZ (yRb) func71 (by kernel_rfl) (by kernel_rfl) ntmps71.symm (by decide) (fun x r h=>(y0V x).trans h)
def ydX (a0:List Int) (a1:Int):Int :=
 bif(ltb a1 (IntKind.i64.wrap (3+(IntKind.i64.wrap ((a0.length:Int).tdiv 12)))))then
 a1
 else
 (IntKind.i64.wrap (3+(IntKind.i64.wrap ((a0.length:Int).tdiv 12))))
def yFP:Con:=⟨ynq,ytD,fun x=>(fun n=>some ((n,()),())) (ydX x.1 x.2.1)⟩
theorem yYK (a0:List Int) (a1:Int):yw3 a0 a1=(fun n=>some ((n,()),())) (ydX a0 a1):=zkn (p:=fun(n:Int)=>((n,()),())) (zj9 (p:=fun(n:Int)=>((n,()),())) rfl rfl)
theorem yZx:ConOk prog 71 yFP:=(yWs).mono (fun x r _ h=>(yYK x.1 x.2.1).trans h)
theorem y5R (l:List Int) (n:Int) (hn:0≤n) (hl:l.length≤140737488355328):0≤ydX l n∧ydX l n≤n:=by
 unfold ydX;have h1:0≤(l.length:Int).tdiv 12:=Int.tdiv_nonneg (by omega) (by omega)
 have h2:(l.length:Int).tdiv 12≤(l.length:Int):=by
  rw[Int.tdiv_eq_ediv_of_nonneg (by omega)];exact Int.ediv_le_self _ (by omega)
 rw[wr (show -9223372036854775808≤(l.length:Int).tdiv 12 by omega) (by omega),wr (show -9223372036854775808≤3+(l.length:Int).tdiv 12 by omega) (by omega)]
 by_cases h:n<3+(l.length:Int).tdiv 12
 ·rw[zj2 h]; exact⟨hn,Int.le_refl _⟩
 ·rw[zkv (by omega),cond_false]; omega
end
section
def yJe:Code:=(f147.body).getD .skip
def yJM:Env:=zj0 TT [] []
theorem yQ8:FrOk prog ⟨yJM,58,fun _=>none⟩ yJe:=zj4 yc yd trivial
def yTN:Nat→Option Seg:=fun _=>none
abbrev ynn:List Par:= [.pt tU .fz]
abbrev ytA:List OT:= [⟨false,tI,.fz⟩]
def yaX (a0:dU):Option (ResD ytA×MutD ynn) :=
 bif(ltb a0.2.1 (a0.1.length:Int))then
 bif(inb a0.2.1 a0.1.length)then
 some (((IntKind.i64.wrap ((BitVec.ofInt IntKind.i64.bits (IntKind.i64.wrap ((IntKind.i64.wrap ((BitVec.ofInt IntKind.i64.bits (IntKind.i64.wrap ((BitVec.ofInt IntKind.i64.bits ((IntKind.i64.wrap ((IntKind.i64.wrap (a0.2.2*6364136223846793005))+1442695040888963407)).fdiv (2^(min (33:Int).toNat IntKind.i64.bits))) ^^^ BitVec.ofInt IntKind.i64.bits ((IntKind.i64.wrap ((IntKind.i64.wrap (a0.2.2*6364136223846793005))+1442695040888963407)).fdiv (2^(min (47:Int).toNat IntKind.i64.bits)))).toNat:Int)) &&& BitVec.ofInt IntKind.i64.bits 255).toNat:Int))+(IntKind.i64.wrap (nth a0.1 a0.2.1 0)))) &&& BitVec.ofInt IntKind.i64.bits 255).toNat:Int)),()),((a0.1,(IntKind.i64.wrap (a0.2.1+1)),(IntKind.i64.wrap ((IntKind.i64.wrap (a0.2.2*6364136223846793005))+1442695040888963407))),()))
 else none
 else
 some (((IntKind.i64.wrap ((BitVec.ofInt IntKind.i64.bits (IntKind.i64.wrap ((BitVec.ofInt IntKind.i64.bits ((IntKind.i64.wrap ((IntKind.i64.wrap (a0.2.2*6364136223846793005))+1442695040888963407)).fdiv (2^(min (33:Int).toNat IntKind.i64.bits))) ^^^ BitVec.ofInt IntKind.i64.bits ((IntKind.i64.wrap ((IntKind.i64.wrap (a0.2.2*6364136223846793005))+1442695040888963407)).fdiv (2^(min (47:Int).toNat IntKind.i64.bits)))).toNat:Int)) &&& BitVec.ofInt IntKind.i64.bits 255).toNat:Int)),()),((a0.1,a0.2.1,(IntKind.i64.wrap ((IntKind.i64.wrap (a0.2.2*6364136223846793005))+1442695040888963407))),()))
theorem y0S (x:InD ynn):zju ⟨yJM,58,yTN⟩ f147.results.toList yJe ynn ytA x=yaX x.1:=by kernel_rfl
theorem yWp:ConOk prog 147 ⟨ynn,ytA,fun x=>yaX x.1⟩:=zjZ (yQ8) func147 (by kernel_rfl) (by kernel_rfl) ntmps147.symm (by decide) (fun x r h=>(y0S x).trans h)
def yFM:Con:=⟨ynn,ytA,fun x=>yaX x.1⟩
theorem yZu:ConOk prog 147 yFM:=yWp
theorem y4l (x:Int):0≤IntKind.i64.wrap ((BitVec.ofInt IntKind.i64.bits x &&& BitVec.ofInt IntKind.i64.bits 255).toNat:Int)∧IntKind.i64.wrap ((BitVec.ofInt IntKind.i64.bits x &&& BitVec.ofInt IntKind.i64.bits 255).toNat:Int)≤255:=by
 have h:(BitVec.ofInt IntKind.i64.bits x &&& BitVec.ofInt IntKind.i64.bits 255).toNat≤255:=by
  rw[BitVec.toNat_and];exact Nat.le_trans Nat.and_le_right (by decide)
 rw[wr (by omega) (by omega)];omega
theorem yNf (u:List Int×Int×Int) (h:yb7 u): ∃(r:Int) (u':List Int×Int×Int),yaX u=some ((r,()),(u',()))∧(0≤r∧r≤255)∧yb7 u':=by
 unfold yaX
 by_cases h1:u.2.1<(u.1.length:Int)
 ·rw[zj2 h1,zjA.2 ⟨h.1,h1⟩]
  refine⟨_,_,rfl,y4l _,?_,h.2⟩;show 0≤IntKind.i64.wrap (u.2.1+1);have:=h.1; have:=h.2;rw[wr (by omega) (by omega)]; omega
 ·rw[zkv (Int.not_lt.1 h1)]
  exact⟨_,_,rfl,y4l _,h⟩
end
section
def yGL:Code:=(f72.body).getD .skip
def yHn:Env:=zj0 TT [(147,yFM)] []
theorem yOr:FrOk prog ⟨yHn,31,fun _=>none⟩ yGL:=zj4 yc yd ⟨yZu,trivial⟩
def yQe:Nat→Option Seg:=fun _=>none
abbrev yk4:List Par:= [.pt tU .fz,.rd tI]
abbrev yrn:List OT:= [⟨false,tI,.fz⟩]
def yf (a0:dU) (a1:Int):Option (ResD yrn×MutD yk4) :=
 bif(leb a1 0)then
 some ((0,()),(a0,()))
 else
 bif(leb a1 256)then
 bnd (yaX a0) fun r1 =>
 bif(a1 !=0)then
 some (((r1.1.1.tmod a1),()),(r1.2.1,()))
 else none
 else
 bnd (yaX a0) fun r2 =>
 bnd (yaX r2.2.1) fun r3 =>
 bnd (yaX r3.2.1) fun r4 =>
 bif(a1 !=0)then
 some ((((IntKind.i64.wrap ((IntKind.i64.wrap ((IntKind.i64.wrap (r2.1.1*65536))+(IntKind.i64.wrap (r3.1.1*256))))+r4.1.1)).tmod a1),()),(r4.2.1,()))
 else none
theorem yX3 (x:InD yk4):zju ⟨yHn,31,yQe⟩ f72.results.toList yGL yk4 yrn x=yf x.1 x.2.1:=by kernel_rfl
theorem ySJ:ConOk prog 72 ⟨yk4,yrn,fun x=>yf x.1 x.2.1⟩:=zjZ (yOr) func72 (by kernel_rfl) (by kernel_rfl) ntmps72.symm (by decide) (fun x r h=>(yX3 x).trans h)
def yay:Con:=⟨yk4,yrn,fun x=>yf x.1 x.2.1⟩
theorem ybQ:ConOk prog 72 yay:=ySJ
theorem ycv (u:List Int×Int×Int) (n:Int) (h:yb7 u): ∃(r:Int) (u':List Int×Int×Int),yf u n=some ((r,()),(u',()))∧(0≤r∧(0<n→r<n)∧(n≤0→r=0))∧yb7 u':=by
 unfold yf
 by_cases h0:n≤0
 ·rw[zku h0]
  exact⟨_,_,rfl,⟨Int.le_refl _,fun h=>absurd h0 (by omega),fun _=>rfl⟩,h⟩
 ·have hn:(n !=0)=true:=bne_iff_ne.2 (by omega)
  have key: ∀x:Int,0≤x→0≤x.tmod n∧(0<n→x.tmod n<n)∧(n≤0→x.tmod n=0):=fun x hx =>
   ⟨Int.tmod_nonneg n hx,fun hp=>Int.tmod_lt_of_pos x hp,fun hp=>absurd hp h0⟩
  rw[zkt (by omega)]
  by_cases h1:n≤256
  ·rw[zku h1]
   obtain⟨r1,u1,e1,q1,d1⟩:=yNf u h;rw[e1,zkr,zks,zka,hn];exact⟨_,_,rfl,key r1 q1.1,d1⟩
  ·rw[zkt (by omega)]
   obtain⟨r1,u1,e1,q1,d1⟩:=yNf u h;obtain⟨r2,u2,e2,q2,d2⟩:=yNf u1 d1;obtain⟨r3,u3,e3,q3,d3⟩:=yNf u2 d2;simp only[e1,e2,e3,zkr,zka,hn,zks];refine⟨_,_,rfl,key _ ?_,d3⟩;rw[wr (show -9223372036854775808≤r1*65536 by omega) (by omega),wr (show -9223372036854775808≤r2*256 by omega) (by omega),wr (show -9223372036854775808≤r1*65536+r2*256 by omega) (by omega),wr (by omega) (by omega)];omega
end
section
def yKX:Code:=(f80.body).getD .skip
def yLc:Env:=zj0 TT [(72,yay)] []
theorem yU8:FrOk prog ⟨yLc,12,fun _=>none⟩ yKX:=zj4 yc yd ⟨ybQ,trivial⟩
def yXw:Nat→Option Seg:=fun _=>none
abbrev yp8:List Par:= [.pt tU .fz,.rd tL]
abbrev yv0:List OT:= [⟨false,tI,.fz⟩]
def ycN (a0:dU) (a1:List Int):Option (ResD yv0×MutD yp8) :=
 bnd (yf a0 (a1.length:Int)) fun r1 =>
 bif(inb r1.1.1 a1.length)then
 some (((nth a1 r1.1.1 0),()),(r1.2.1,()))
 else none
theorem y2m (x:InD yp8):zju ⟨yLc,12,yXw⟩ f80.results.toList yKX yp8 yv0 x=ycN x.1 x.2.1:=by kernel_rfl
theorem yZb:ConOk prog 80 ⟨yp8,yv0,fun x=>ycN x.1 x.2.1⟩:=zjZ (yU8) func80 (by kernel_rfl) (by kernel_rfl) ntmps80.symm (by decide) (fun x r h=>(y2m x).trans h)
def yru:Con:=⟨yp8,yv0,fun x=>ycN x.1 x.2.1⟩
theorem yAf:ConOk prog 80 yru:=yZb
theorem y13 (u:List Int×Int×Int) (l:List Int) (h:yb7 u) (hl:l≠ []): ∃(r:Int) (u':List Int×Int×Int),ycN u l=some ((r,()),(u',()))∧r∈l∧yb7 u':=by
 unfold ycN;obtain⟨r1,u1,e1,q1,d1⟩:=ycv u (l.length:Int) h;have hp:0<l.length:=List.length_pos_iff.2 hl;have hr:=q1.2.1 (by omega);simp only[e1,zka,zjA.2 ⟨q1.1,hr⟩,cond_true];refine⟨_,_,rfl,?_,d1⟩;have:r1.toNat<l.length:=by have:=q1.1; omega
 unfold nth;rw[List.getD_eq_getElem?_getD,List.getElem?_eq_getElem this,Option.getD_some];exact List.getElem_mem this
end
section
def ykO:Code:=(f79.body).getD .skip
def yq7:Env:=zj0 TT [(72,yay),(80,yru)] []
theorem yOB:FrOk prog ⟨yq7,19,fun _=>none⟩ ykO:=zj4 yc yd ⟨ybQ,yAf,trivial⟩
def yCB:Nat→Option Seg:=fun _=>none
def ybL:Shape:=⟨[(0,false,[.ptr 1000000000 0]),(3,false,[.at 800000000]),(4,false,[.int .i64])],[(1000000000,[.fz tY,.int .i64,.int .i64])],[(800000000,tI,.fz)]⟩
def ygn:Shape:=⟨[(0,false,[.ptr 1000000000 0]),(3,false,[.at 800000000]),(4,false,[.ci .i64 0])],[(1000000000,[.fz tY,.int .i64,.int .i64])],[(800000000,tI,.fz)]⟩
def ygb:Shape:=⟨[(3,false,[.at 800000000])],[(1000000000,[.fz tY,.int .i64,.int .i64])],[(800000000,tI,.fz)]⟩
def ykc:Shape:=⟨[],[],[]⟩
abbrev yqy (v0:Int) (v1:dU) (v2:List Int):(ybL).X:=((((),()),((),()),(v0,()),()),((v1.1,v1.2.1,v1.2.2,()),()),(v2,()))
abbrev yMw (v0:dU) (v1:List Int):(ygn).X:=((((),()),((),()),((),()),()),((v0.1,v0.2.1,v0.2.2,()),()),(v1,()))
abbrev yMk (v0:dU) (v1:List Int):(ygb).X:=((((),()),()),((v0.1,v0.2.1,v0.2.2,()),()),(v1,()))
def yqU (v0:Int) (v1:List Int) (v2 v3:Int) (v4:List Int):Option ((ybL).X ⊕ ((ygb).X ⊕ (ykc).X)) :=
 bif(ltb v0 5)then
 bnd (yf (v1,v2,v3) 4096) fun r3 =>
 bnd (ycN r3.2.1 ([0,1,2,3,5,7,1048575,r3.1.1]:List Int)) fun r4 =>
 bif(zjO v4.length ([r4.1.1]:List Int).length 8)then
 some (.inl ((((),()),((),()),((IntKind.i64.wrap (v0+1)),()),()),((r4.2.1.1,r4.2.1.2.1,r4.2.1.2.2,()),()),((v4++([r4.1.1]:List Int)),())))
 else none
 else
 some (.inr (.inl ((((),()),()),((v1,v2,v3,()),()),(v4,()))))
def yb5 (x:(ybL).X):=yqU x.1.2.2.1.1 x.2.1.1.1 x.2.1.1.2.1 x.2.1.1.2.2.1 x.2.2.1
def yzq (x:(ygn).X):(ybL).X:=((((),()),((),()),(0,()),()),((x.2.1.1.1,x.2.1.1.2.1,x.2.1.1.2.2.1,()),()),(x.2.2.1,()))
def yAY:Code:=(zef ykO 64 116).getD .skip
theorem yNT:zef ykO 64 29=some (.block 0 (.loop yAY)):=by kernel_rfl
theorem yPK (x:(ybL).X):zg0 ⟨yq7,19,yCB⟩ 0 yAY 116 ybL ygb ykc x=yb5 x:=by kernel_rfl
def yzF (x:(ygn).X):Nat:=18446744073709551616
def yse (x:(ygn).X):Option ((ygb).X ⊕ (ykc).X):=zz yb5 (yzF x) (yzq x)
def yz4:Seg:=⟨ygn,ygb,ykc,yse⟩
def yCC:Nat→Option Seg:=fun q=>bif Nat.beq q 29 then some yz4 else yCB q
theorem yOC:FrOk prog ⟨yq7,19,yCC⟩ ykO:=(yOB).loop (sg:=yz4) ybL yzq (by decide) yNT yb5 yzF (by decide) (fun _=>rfl) (fun x r _ h=>h) yPK
abbrev yk9:List Par:= [.pt tU .fz]
abbrev yrq:List OT:= [⟨false,tL,(.ow .fz)⟩]
def yeD (a0:dU):Option (ResD yrq×MutD yk9) :=
 zjW (yse ((((),()),((),()),((),()),()),((a0.1,a0.2.1,a0.2.2,()),()),(([]:List Int),()))) (fun y4 =>
 some ((y4.2.2.1,()),((y4.2.1.1.1,y4.2.1.1.2.1,y4.2.1.1.2.2.1),()))) (fun y4 =>
 none)
theorem yYa (x:InD yk9):zju ⟨yq7,19,yCC⟩ f79.results.toList ykO yk9 yrq x=yeD x.1:=by kernel_rfl
theorem ySQ:ConOk prog 79 ⟨yk9,yrq,fun x=>yeD x.1⟩:=zjZ (yOC) func79 (by kernel_rfl) (by kernel_rfl) ntmps79.symm (by decide) (fun x r h=>(yYa x).trans h)
def yDd:Con:=⟨yk9,yrq,fun x=>yeD x.1⟩
theorem yWV:ConOk prog 79 yDd:=ySQ
theorem yPR: ∀(n:Nat) (u:dU) (l:List Int) (fuel:Nat),n≤5→n<fuel→yb7 u→n+l.length≤1000 →
  ∃(u':dU) (l':List Int),zz yb5 fuel (yqy (5-(n:Int)) u l)=some (.inl (yMk u' l'))∧yb7 u'∧l'.length=n+l.length
 | 0,u,l,fuel+1,_,_,hu,_=>⟨u,l,by simp only[zz,yb5,yqy,yqU]; rfl,hu,by omega⟩
 | n+1,u,l,fuel+1,hn,hf,hu,hl=>by
  obtain⟨x,u1,e1,_,d1⟩:=ycv u 4096 hu;obtain⟨y,u2,e2,_,d2⟩:=y13 u1 [0,1,2,3,5,7,1048575,x] d1 (by simp);obtain⟨u',l',e3,d3,h3⟩:=yPR n u2 (l++ [y]) fuel (by omega) (by omega) d2 (by rw[List.length_append]; simp only[List.length_cons,List.length_nil]; omega);refine⟨u',l',?_,d3,by rw[h3,List.length_append]; simp only[List.length_cons,List.length_nil]; omega⟩;rw[← e3,zz]
  simp only[yb5,yqy,yqU,zj2 (show(5-((n+1:Nat):Int))<5 by omega),cond_true,zkp,e1,e2,zka,wr (show -9223372036854775808≤(5-((n+1:Nat):Int))+1 by omega) (by omega),show(5-((n+1:Nat):Int))+1=5-(n:Int)by omega,wr (show -9223372036854775808≤5-(n:Int)by omega) (by omega),
   zj8.2 (show(l.length+ [y].length)*8≤140737488355328 by simp only[List.length_cons,List.length_nil]; omega)]
theorem y3Y (u:dU) (h:yb7 u): ∃(l:List Int) (u':dU),yeD u=some ((l,()),(u',()))∧l.length=5∧yb7 u':=by
 obtain⟨u',l',e,d,hl⟩:=yPR 5 u [] 18446744073709551616 (by omega) (by omega) h (by simp);unfold yeD;refine⟨l',u',?_,by rw[hl]; rfl,d⟩;exact(congrArg (fun z=>zjW z _ _) (show yse (yMw u [])=_ from e)).trans rfl
end
section
def yJj:Code:=(f178.body).getD .skip
def yJR:Env:=zj0 TT [] []
theorem yRm:FrOk prog ⟨yJR,6,fun _=>none⟩ yJj:=zj4 yc yd trivial
def yTS:Nat→Option Seg:=fun _=>none
abbrev ynt:List Par:= [.rd tG]
abbrev ytH:List OT:= [⟨false,tI,.fz⟩]
def yw5 (a0:dG):Option (ResD ytH×MutD ynt) :=
 some (((IntKind.i64.wrap (6+a0.2)),()),())
theorem y01 (x:InD ynt):zju ⟨yJR,6,yTS⟩ f178.results.toList yJj ynt ytH x=yw5 x.1:=by kernel_rfl
theorem yWy:ConOk prog 178 ⟨ynt,ytH,fun x=>yw5 x.1⟩:=zjZ (yRm) func178 (by kernel_rfl) (by kernel_rfl) ntmps178.symm (by decide) (fun x r h=>(y01 x).trans h)
def ycg (a0:dG):Int :=
 (IntKind.i64.wrap (6+a0.2))
def ypd:Con:=⟨ynt,ytH,fun x=>(fun n=>some ((n,()),())) (ycg x.1)⟩
theorem yYP (a0:dG):yw5 a0=(fun n=>some ((n,()),())) (ycg a0):=zkn (p:=fun(n:Int)=>((n,()),())) rfl
theorem yyj:ConOk prog 178 ypd:=(yWy).mono (fun x r _ h=>(yYP x.1).trans h)
end
section
def ym8:Code:=(f151.body).getD .skip
def yta:Env:=zj0 TT [(160,ygR),(178,ypd)] []
theorem yRk:FrOk prog ⟨yta,51,fun _=>none⟩ ym8:=zj4 yc yd ⟨ynS,yyj,trivial⟩
def yEV:Nat→Option Seg:=fun _=>none
def yct:Shape:=⟨[(1,false,[.ptr 0 0]),(3,false,[.int .i64])],[(0,[.int .i64,.int .i64,.int .i64,.br tM,.int .i64,.int .i64,.int .i64,.int .i64,.int .i64,.br tW,.int .i64,.bool,.bool])],[]⟩
def yhq:Shape:=⟨[(1,false,[.ptr 0 0]),(3,false,[.ci .i64 0])],[(0,[.int .i64,.int .i64,.int .i64,.br tM,.int .i64,.int .i64,.int .i64,.int .i64,.int .i64,.br tW,.int .i64,.bool,.bool])],[]⟩
def yhf:Shape:=⟨[(1,false,[.ptr 0 0])],[(0,[.int .i64,.int .i64,.int .i64,.br tM,.int .i64,.int .i64,.int .i64,.int .i64,.int .i64,.br tW,.int .i64,.bool,.bool])],[]⟩
def yhy:Shape:=⟨[(2,false,[.bool])],[],[]⟩
abbrev ysr (v0:Int) (v1:dA):(yct).X:=((((),()),(v0,()),()),((v1.1,v1.2.1.1,v1.2.1.2,v1.2.2.1,v1.2.2.2.1,v1.2.2.2.2.1,v1.2.2.2.2.2.1,v1.2.2.2.2.2.2.1,v1.2.2.2.2.2.2.2.1,v1.2.2.2.2.2.2.2.2.1,v1.2.2.2.2.2.2.2.2.2.1,v1.2.2.2.2.2.2.2.2.2.2.1,v1.2.2.2.2.2.2.2.2.2.2.2,()),()),())
abbrev yOR (v0:dA):(yhq).X:=((((),()),((),()),()),((v0.1,v0.2.1.1,v0.2.1.2,v0.2.2.1,v0.2.2.2.1,v0.2.2.2.2.1,v0.2.2.2.2.2.1,v0.2.2.2.2.2.2.1,v0.2.2.2.2.2.2.2.1,v0.2.2.2.2.2.2.2.2.1,v0.2.2.2.2.2.2.2.2.2.1,v0.2.2.2.2.2.2.2.2.2.2.1,v0.2.2.2.2.2.2.2.2.2.2.2,()),()),())
abbrev yOI (v0:dA):(yhf).X:=((((),()),()),((v0.1,v0.2.1.1,v0.2.1.2,v0.2.2.1,v0.2.2.2.1,v0.2.2.2.2.1,v0.2.2.2.2.2.1,v0.2.2.2.2.2.2.1,v0.2.2.2.2.2.2.2.1,v0.2.2.2.2.2.2.2.2.1,v0.2.2.2.2.2.2.2.2.2.1,v0.2.2.2.2.2.2.2.2.2.2.1,v0.2.2.2.2.2.2.2.2.2.2.2,()),()),())
abbrev yOV (v0:Bool):(yhy).X:=(((v0,()),()),(),())
def ysK (v0 v1 v2 v3:Int) (v4:List dM) (v5 v6 v7 v8 v9:Int) (v10:List dW) (v11:Int) (v12 v13:Bool):Option ((yct).X ⊕ ((yhf).X ⊕ (yhy).X)) :=
 bif(ltb v0 (v4.length:Int))then
 bif(inb v0 v4.length)then
 let r3:=yao ((nth v4 v0 ([],[],false,[])).1,((nth v4 v0 ([],[],false,[])).2).1,(((nth v4 v0 ([],[],false,[])).2).2))
 bif(!(!r3))then
 let r4:=ycg (v2,v3)
 bif(!((((nth v4 v0 ([],[],false,[])).1).length:Int) !=r4))then
 bif(((nth v4 v0 ([],[],false,[])).2).2).1 then
 bif(v0 !=v5)then
 bif(!v13)then
 some (.inr (.inr (((false,()),()),(),())))
 else
 some (.inl ((((),()),((IntKind.i64.wrap (v0+1)),()),()),((v1,v2,v3,v4,v5,v6,v7,v8,v9,v10,v11,v12,v13,()),()),()))
 else
 some (.inl ((((),()),((IntKind.i64.wrap (v0+1)),()),()),((v1,v2,v3,v4,v5,v6,v7,v8,v9,v10,v11,v12,v13,()),()),()))
 else
 some (.inl ((((),()),((IntKind.i64.wrap (v0+1)),()),()),((v1,v2,v3,v4,v5,v6,v7,v8,v9,v10,v11,v12,v13,()),()),()))
 else
 some (.inr (.inr (((false,()),()),(),())))
 else
 some (.inr (.inr (((false,()),()),(),())))
 else none
 else
 some (.inr (.inl ((((),()),()),((v1,v2,v3,v4,v5,v6,v7,v8,v9,v10,v11,v12,v13,()),()),())))
def ycW (x:(yct).X):=ysK x.1.2.1.1 x.2.1.1.1 x.2.1.1.2.1 x.2.1.1.2.2.1 x.2.1.1.2.2.2.1 x.2.1.1.2.2.2.2.1 x.2.1.1.2.2.2.2.2.1 x.2.1.1.2.2.2.2.2.2.1 x.2.1.1.2.2.2.2.2.2.2.1 x.2.1.1.2.2.2.2.2.2.2.2.1 x.2.1.1.2.2.2.2.2.2.2.2.2.1 x.2.1.1.2.2.2.2.2.2.2.2.2.2.1 x.2.1.1.2.2.2.2.2.2.2.2.2.2.2.1 x.2.1.1.2.2.2.2.2.2.2.2.2.2.2.2.1
def yBq (x:(yhq).X):(yct).X:=((((),()),(0,()),()),((x.2.1.1.1,x.2.1.1.2.1,x.2.1.1.2.2.1,x.2.1.1.2.2.2.1,x.2.1.1.2.2.2.2.1,x.2.1.1.2.2.2.2.2.1,x.2.1.1.2.2.2.2.2.2.1,x.2.1.1.2.2.2.2.2.2.2.1,x.2.1.1.2.2.2.2.2.2.2.2.1,x.2.1.1.2.2.2.2.2.2.2.2.2.1,x.2.1.1.2.2.2.2.2.2.2.2.2.2.1,x.2.1.1.2.2.2.2.2.2.2.2.2.2.2.1,x.2.1.1.2.2.2.2.2.2.2.2.2.2.2.2.1,()),()),())
def yCW:Code:=(zef ym8 64 52).getD .skip
theorem yQs:zef ym8 64 13=some (.block 0 (.loop yCW)):=by kernel_rfl
theorem yTm (x:(yct).X):zg0 ⟨yta,51,yEV⟩ 0 yCW 52 yct yhf yhy x=ycW x:=by kernel_rfl
def yBB (x:(yhq).X):Nat:=18446744073709551616
def yt9 (x:(yhq).X):Option ((yhf).X ⊕ (yhy).X):=zz ycW (yBB x) (yBq x)
def yBR:Seg:=⟨yhq,yhf,yhy,yt9⟩
def yEW:Nat→Option Seg:=fun q=>bif Nat.beq q 13 then some yBR else yEV q
theorem yRl:FrOk prog ⟨yta,51,yEW⟩ ym8:=(yRk).loop (sg:=yBR) yct yBq (by decide) yQs ycW yBB (by decide) (fun _=>rfl) (fun x r _ h=>h) yTm
abbrev yfN:List Par:= [.rd tA]
abbrev ynx:List OT:= [⟨false,tB,.fz⟩]
def ypB (a0:dA):Option (ResD ynx×MutD yfN) :=
 zjW (yt9 ((((),()),((),()),()),((a0.1,a0.2.1.1,a0.2.1.2,a0.2.2.1,a0.2.2.2.1,a0.2.2.2.2.1,a0.2.2.2.2.2.1,a0.2.2.2.2.2.2.1,a0.2.2.2.2.2.2.2.1,a0.2.2.2.2.2.2.2.2.1,a0.2.2.2.2.2.2.2.2.2.1,a0.2.2.2.2.2.2.2.2.2.2.1,a0.2.2.2.2.2.2.2.2.2.2.2,()),()),())) (fun y4 =>
 some ((((y4.2.1.1.2.2.2.1.length:Int)==y4.2.1.1.2.1),()),())) (fun y4 =>
 some ((y4.1.1.1,()),()))
theorem y00 (x:InD yfN):zju ⟨yta,51,yEW⟩ f151.results.toList ym8 yfN ynx x=ypB x.1:=by kernel_rfl
theorem yWx:ConOk prog 151 ⟨yfN,ynx,fun x=>ypB x.1⟩:=zjZ (yRl) func151 (by kernel_rfl) (by kernel_rfl) ntmps151.symm (by decide) (fun x r h=>(y00 x).trans h)
def ynO (a0:dA):Bool:=ynD a0
def yAi (a0:dA):Bool:=n_spec_GeoOk a0.2.1
theorem yYO (a0:dA) (hk:zi0 yfN (a0,())) (hq:yAi a0=true):ypB a0=(fun n=>some ((n,()),())) (ynO a0):=by
 have hb:a0.2.2.1.length*80≤2^47:=hk.1.2.2.1.1;have hg:=yg.1 hq
 have h1:yt9 (yOR a0)=some (bif(List.range a0.2.2.1.length).any (yhB a0)then .inr (yOV false)else .inl (yOI a0)) :=
  ziM (step:=ycW) (fun i=>ysr i a0) a0.2.2.1.length (yhB a0) _ _ (fun i hi=>by
   simp only[ycW,ysr,ysK,zj2 (show(i:Int)<a0.2.2.1.length by omega),cond_true,wr (show -9223372036854775808≤(i:Int)+1 by omega) (by omega),Int.natCast_add,Int.natCast_one,Int.toNat_natCast,zkj hi,zkp,yao,yhB,ycg,wr (show -9223372036854775808≤6+a0.2.1.2 by omega) (by omega),noMem]
   cases memOk (nth a0.2.2.1 i ([],[],false,[]))<;>cases(((nth a0.2.2.1 i ([],[],false,[])).1.length:Int) !=6+a0.2.1.2)<;>cases(nth a0.2.2.1 i ([],[],false,[])).2.2.1<;>cases((i:Int) !=a0.2.2.2.1)<;>cases a0.2.2.2.2.2.2.2.2.2.2.2<;>rfl) (by simp only[ycW,ysr,ysK,zkv (Int.le_refl _),cond_false]) _ (by show _<18446744073709551616; omega)
 unfold ypB ynO ynD;rw[h1]
 cases(List.range a0.2.2.1.length).any (yhB a0)<;>rfl
def ytQ (a0:dA):Option (ResD ynx×MutD yfN):=bif yAi a0 then(fun n=>some ((n,()),())) (ynO a0)else none
theorem yZH (a0:dA) (h:yAi a0=true):ytQ a0=(fun n=>some ((n,()),())) (ynO a0):=by unfold ytQ; rw[h]; rfl
def yFT:Con:=⟨yfN,ynx,fun x=>ytQ x.1⟩
theorem yZB:ConOk prog 151 yFT:=(yWx).mono (fun x r hk h=>zkq h (fun hq=>yYO x.1 hk hq))
end
section
def yKT:Code:=(f78.body).getD .skip
def yK8:Env:=zj0 TT [(82,yw),(150,ygQ),(151,yFT),(152,yDb)] []
theorem yUY:FrOk prog ⟨yK8,78,fun _=>none⟩ yKT:=zj4 yc yd ⟨yD,ynR,yZB,yWT,trivial⟩
def yXs:Nat→Option Seg:=fun _=>none
abbrev ykZ:List Par:= [.rd tA]
abbrev yvU:List OT:= [⟨false,tB,.fz⟩]
def yrQ (a0:dA):Option (ResD yvU×MutD ykZ) :=
 let r1:=n_spec_GeoOk a0.2.1
 bif(!(!r1))then
 let r2:=ya a0.1 1 60000
 bif(!(!r2))then
 bnd (ytQ a0) fun r3 =>
 bif(!(!r3.1.1))then
 bnd (yrG a0) fun r4 =>
 bif(!r4.1.1)then
 some ((false,()),())
 else
 let r5:=ya a0.2.2.2.1 (-1) (IntKind.i64.wrap (a0.2.1.1-1))
 bif(!(!r5))then
 let r6:=ya a0.2.2.2.2.1 0 a0.2.1.2
 bif(!(!r6))then
 bif(a0.2.2.2.1==(-1))then
 bif(a0.2.2.2.2.1 !=0)then
 some ((false,()),())
 else
 let r7:=ya a0.2.2.2.2.2.2.1 0 60000
 bif r7 then
 let r8:=ya a0.2.2.2.2.2.1 a0.2.2.2.2.2.2.1 60000
 bif r8 then
 bif(leb a0.2.2.2.2.2.1 (IntKind.i64.wrap (a0.2.2.2.2.2.2.1+4)))then
 let r9:=ya a0.2.2.2.2.2.2.2.1 0 60000
 bif r9 then
 let r10:=ya a0.2.2.2.2.2.2.2.2.2.1 (-1) 1000
 some ((r10,()),())
 else
 some ((false,()),())
 else
 some ((false,()),())
 else
 some ((false,()),())
 else
 some ((false,()),())
 else
 let r11:=ya a0.2.2.2.2.2.2.1 0 60000
 bif r11 then
 let r12:=ya a0.2.2.2.2.2.1 a0.2.2.2.2.2.2.1 60000
 bif r12 then
 bif(leb a0.2.2.2.2.2.1 (IntKind.i64.wrap (a0.2.2.2.2.2.2.1+4)))then
 let r13:=ya a0.2.2.2.2.2.2.2.1 0 60000
 bif r13 then
 let r14:=ya a0.2.2.2.2.2.2.2.2.2.1 (-1) 1000
 some ((r14,()),())
 else
 some ((false,()),())
 else
 some ((false,()),())
 else
 some ((false,()),())
 else
 some ((false,()),())
 else
 some ((false,()),())
 else
 some ((false,()),())
 else
 some ((false,()),())
 else
 some ((false,()),())
 else
 some ((false,()),())
theorem y2g (x:InD ykZ):zju ⟨yK8,78,yXs⟩ f78.results.toList yKT ykZ yvU x=yrQ x.1:=by kernel_rfl
theorem yY5:ConOk prog 78 ⟨ykZ,yvU,fun x=>yrQ x.1⟩:=zjZ (yUY) func78 (by kernel_rfl) (by kernel_rfl) ntmps78.symm (by decide) (fun x r h=>(y2g x).trans h)
def ylH (a0:dA):Bool:=yR a0
theorem y1k (a0:dA) (hk:zi0 ykZ (a0,())):yrQ a0=(fun n=>some ((n,()),())) (ylH a0):=by
 unfold yrQ ylH yR;simp only[ycf]
 cases hg:n_spec_GeoOk a0.2.1
 ·rfl
 have hg2:=yg.1 hg;rw[yZH a0 hg,yW0 a0 hg,wr (show -9223372036854775808≤a0.2.1.1-1 by omega) (by omega)];simp only[zka,ynO,ylM,Bool.not_not,cond_true]
 cases(leb 1 a0.1&&leb a0.1 60000)
 ·rfl
 cases ynD a0
 ·rfl
 cases yat a0.2.1 a0.2.2.2.2.2.2.2.2.1
 ·rfl
 cases(leb (-1) a0.2.2.2.1&&leb a0.2.2.2.1 (a0.2.1.1-1))
 ·rfl
 cases(leb 0 a0.2.2.2.2.1&&leb a0.2.2.2.2.1 a0.2.1.2)
 ·rfl
 have ht:(leb 0 a0.2.2.2.2.2.2.1&&leb a0.2.2.2.2.2.2.1 60000)=true→IntKind.i64.wrap (a0.2.2.2.2.2.2.1+4)=a0.2.2.2.2.2.2.1+4:=fun h=>by
  rw[Bool.and_eq_true,zjB,zjB]at h;exact wr (by omega) (by omega)
 cases hT:(leb 0 a0.2.2.2.2.2.2.1&&leb a0.2.2.2.2.2.2.1 60000)
 ·cases(a0.2.2.2.1== -1)<;>cases(a0.2.2.2.2.1 !=0)<;>rfl
 rw[ht hT]
 cases(leb a0.2.2.2.2.2.2.1 a0.2.2.2.2.2.1&&leb a0.2.2.2.2.2.1 60000)
 ·cases(a0.2.2.2.1== -1)<;>cases(a0.2.2.2.2.1 !=0)<;>rfl
 cases leb a0.2.2.2.2.2.1 (a0.2.2.2.2.2.2.1+4)
 ·cases(a0.2.2.2.1== -1)<;>cases(a0.2.2.2.2.1 !=0)<;>rfl
 cases(leb 0 a0.2.2.2.2.2.2.2.1&&leb a0.2.2.2.2.2.2.2.1 60000)<;>cases(a0.2.2.2.1== -1)<;>cases(a0.2.2.2.2.1 !=0)<;>rfl
def yHE:Con:=⟨ykZ,yvU,fun x=>(fun n=>some ((n,()),())) (ylH x.1)⟩
theorem y1F:ConOk prog 78 yHE:=(yY5).mono (fun x r hk h=>(y1k x.1 hk).trans h)
end
section
def yI8:Code:=(f119.body).getD .skip
def yJG:Env:=zj0 TT [(150,ygQ)] []
theorem yQ0:FrOk prog ⟨yJG,12,fun _=>none⟩ yI8:=zj4 yc yd ⟨ynR,trivial⟩
def yTH:Nat→Option Seg:=fun _=>none
abbrev ynk:List Par:= [.rd tG]
abbrev ytt:List OT:= [⟨false,tI,.fz⟩]
def yw0 (a0:dG):Option (ResD ytt×MutD ynk) :=
 let r1:=n_spec_GeoOk a0
 bif(!r1)then
 some ((0,()),())
 else
 some (((IntKind.i64.wrap (a0.2*(IntKind.i64.wrap (a0.1-1)))),()),())
theorem y0L (x:InD ynk):zju ⟨yJG,12,yTH⟩ f119.results.toList yI8 ynk ytt x=yw0 x.1:=by kernel_rfl
theorem yWi:ConOk prog 119 ⟨ynk,ytt,fun x=>yw0 x.1⟩:=zjZ (yQ0) func119 (by kernel_rfl) (by kernel_rfl) ntmps119.symm (by decide) (fun x r h=>(y0L x).trans h)
def yr (a0:dG):Int :=
 let r1:=n_spec_GeoOk a0
 bif(!r1)then
 0
 else
 (IntKind.i64.wrap (a0.2*(IntKind.i64.wrap (a0.1-1))))
def ypc:Con:=⟨ynk,ytt,fun x=>(fun n=>some ((n,()),())) (yr x.1)⟩
theorem yYD (a0:dG):yw0 a0=(fun n=>some ((n,()),())) (yr a0):=zkn (p:=fun(n:Int)=>((n,()),())) (zj9 (p:=fun(n:Int)=>((n,()),())) rfl rfl)
theorem yyi:ConOk prog 119 ypc:=(yWi).mono (fun x r _ h=>(yYD x.1).trans h)
theorem yZP (a:Int×Int):0≤yr a∧yr a≤32:=by
 unfold yr
 cases h:n_spec_GeoOk a
 ·simp
 ·obtain⟨⟨h1,h2⟩,h3,h4⟩:=yg.1 h
  have h5:0≤a.2*(a.1-1):=Int.mul_nonneg (by omega) (by omega);have h6:a.2*(a.1-1)≤8*4:=Int.mul_le_mul h4 (by omega) (by omega) (by omega);simp only[Bool.not_true,cond_false,wr (show -9223372036854775808≤a.1-1 by omega) (by omega),wr (show -9223372036854775808≤a.2*(a.1-1)by omega) (by omega)];omega
theorem yIe {a:Int×Int} (h:n_spec_GeoOk a=true):yr a=a.2*(a.1-1):=by
 unfold yr;obtain⟨⟨h1,h2⟩,h3,h4⟩:=yg.1 h;have h5:0≤a.2*(a.1-1):=Int.mul_nonneg (by omega) (by omega);have h6:a.2*(a.1-1)≤8*4:=Int.mul_le_mul h4 (by omega) (by omega) (by omega);simp only[h,Bool.not_true,cond_false,wr (show -9223372036854775808≤a.1-1 by omega) (by omega),wr (show -9223372036854775808≤a.2*(a.1-1)by omega) (by omega)]
def yP (l:List dW) (s:Int):Int:=yL (fun e:dW=>e.1==s) l
def blkOk (g:dG) (b:Int):Bool:=leb 0 b&&leb b (yr g-1)
def ybM (g:dG) (b:Int):Int:=bif blkOk g b then b.tdiv (g.1-1)else -1
def yyc (g:dG) (b:Int):Int:=bif blkOk g b then b.tmod (g.1-1)else -1
theorem yFl {g:dG} {b:Int} (h:blkOk g b=true):n_spec_GeoOk g=true∧(0≤b.tdiv (g.1-1)∧b.tdiv (g.1-1)≤g.2-1)∧(0≤b.tmod (g.1-1)∧b.tmod (g.1-1)≤g.1-2):=by
 simp only[blkOk,Bool.and_eq_true,zjB]at h
 cases hg:n_spec_GeoOk g
 ·have:yr g=0:=by unfold yr; rw[hg]; rfl
  omega
 ·rw[yIe hg]at h
  have h2:=yg.1 hg;rw[Int.tdiv_eq_ediv_of_nonneg h.1,Int.tmod_eq_emod_of_nonneg h.1];have h3:=Int.ediv_lt_of_lt_mul (show 0<g.1-1 by omega) (show b<g.2*(g.1-1)by omega);have h4:=Int.ediv_nonneg h.1 (show 0≤g.1-1 by omega);have h5:=Int.emod_nonneg b (show g.1-1≠0 by omega);have h6:=Int.emod_lt_of_pos b (show 0<g.1-1 by omega);exact⟨rfl,⟨h4,by omega⟩,h5,by omega⟩
theorem yGA {g:dG} {b:Int} (h:blkOk g b=true):strOk g (ybM g b)=true:=by
 obtain⟨h1,h2,_⟩:=yFl h;unfold ybM;rw[h,cond_true,yG];exact⟨h1,h2⟩
def ybj (a:dA) (s:Int):List Int×Bool:=bif leb 0 (yP a.2.2.2.2.2.2.2.2.1 s)then((nth a.2.2.2.2.2.2.2.2.1 (yP a.2.2.2.2.2.2.2.2.1 s) (0,[])).2,true)else bif a.2.2.2.2.2.2.2.2.2.2.2 then([],false)else ytM a s
theorem y49 {a:dA} (h:yR a=true) {i:Nat} (hi:i<a.2.2.2.2.2.2.2.2.1.length):(0≤(nth a.2.2.2.2.2.2.2.2.1 i (0,[])).1∧(nth a.2.2.2.2.2.2.2.2.1 i (0,[])).1≤a.2.1.2-1)∧((nth a.2.2.2.2.2.2.2.2.1 i (0,[])).2.length:Int)=a.2.1.1-1∧(nth a.2.2.2.2.2.2.2.2.1 i (0,[])).2.all isW=true∧(0<i→(nth a.2.2.2.2.2.2.2.2.1 ((i-1:Nat):Int) (0,[])).1<(nth a.2.2.2.2.2.2.2.2.1 i (0,[])).1):=by
 have h1:yat a.2.1 a.2.2.2.2.2.2.2.2.1=true:=by simp only[yR,Bool.and_eq_true]at h; exact h.2.2.2.1
 simp only[yat,Bool.not_eq_true',List.any_eq_false,List.mem_range]at h1;have h2:=h1 i hi;simp only[yic,Bool.not_eq_true,Bool.or_eq_false_iff,Bool.not_eq_false',bne_eq_false_iff_eq,Bool.and_eq_true,Bool.and_eq_false_iff,decide_eq_false_iff_not,zjB]at h2;refine⟨h2.1,h2.2.1,h2.2.2.1,fun h0=> ?_⟩;rcases h2.2.2.2 with h3 | h3
 ·exact absurd h0 h3
 ·have:=mt zku (by rw[h3]; simp: ¬leb (nth a.2.2.2.2.2.2.2.2.1 i (0,[])).1 (nth a.2.2.2.2.2.2.2.2.1 ((i-1:Nat):Int) (0,[])).1=true)
  omega
theorem yAm {a:dA} {s:Int} (h:yR a=true) (hs:strOk a.2.1 s=true) (h2:(ybj a s).2=true):((ybj a s).1.length:Int)=a.2.1.1-1:=by
 have hg:=yg.1 (yuW h);unfold ybj at h2 ⊢
 cases hk:leb 0 (yP a.2.2.2.2.2.2.2.2.1 s)
 ·rw[hk]at h2
  simp only[cond_false]at h2 ⊢
  cases hb:a.2.2.2.2.2.2.2.2.2.2.2
  ·rw[hb]at h2
   simp only[cond_false]at h2 ⊢;unfold ytM at h2 ⊢
   cases hw:(yA a s).2
   ·rw[hw]at h2; cases h2
   ·simp only[cond_true,List.length_map,List.length_range]; omega
  ·rw[hb]at h2; cases h2
 ·have h3:=zjA.1 (yqj (d:=((0,[]):dW)) hk).1
  have:=(y49 h (i:=(yP a.2.2.2.2.2.2.2.2.1 s).toNat) (by unfold yP; omega)).2.1;rw[show(((yP a.2.2.2.2.2.2.2.2.1 s).toNat:Nat):Int)=yP a.2.2.2.2.2.2.2.2.1 s by have:=zjB.1 hk; omega]at this;exact this
theorem y4m (g:dG) (b:Int):ya b 0 (IntKind.i64.wrap (yr g-1))=blkOk g b:=by
 have:=yZP g;rw[wr (by omega) (by omega),ycf]; rfl
end
section
def yEC:Code:=(f180.body).getD .skip
def yFe:Env:=zj0 TT [(82,yw),(119,ypc)] []
theorem yL2:FrOk prog ⟨yFe,16,fun _=>none⟩ yEC:=zj4 yc yd ⟨yD,yyi,trivial⟩
def yNB:Nat→Option Seg:=fun _=>none
abbrev yfy:List Par:= [.rd tG,.rd tI]
abbrev yoX:List OT:= [⟨false,tI,.fz⟩]
def yky (a0:dG) (a1:Int):Option (ResD yoX×MutD yfy) :=
 let r1:=yr a0
 let r2:=ya a1 0 (IntKind.i64.wrap (r1-1))
 bif(!r2)then
 some (((-1),()),())
 else
 bif((IntKind.i64.wrap (a0.1-1)) !=0)then
 some (((IntKind.i64.wrap (a1.tdiv (IntKind.i64.wrap (a0.1-1)))),()),())
 else none
theorem yUA (x:InD yfy):zju ⟨yFe,16,yNB⟩ f180.results.toList yEC yfy yoX x=yky x.1 x.2.1:=by kernel_rfl
theorem yPl:ConOk prog 180 ⟨yfy,yoX,fun x=>yky x.1 x.2.1⟩:=zjZ (yL2) func180 (by kernel_rfl) (by kernel_rfl) ntmps180.symm (by decide) (fun x r h=>(yUA x).trans h)
def yjC (a0:dG) (a1:Int):Int:=ybM a0 a1
theorem ySl (a0:dG) (a1:Int) (hk:zi0 yfy (a0,a1,())):yky a0 a1=(fun n=>some ((n,()),())) (yjC a0 a1):=by
 unfold yky yjC ybM;simp only[y4m]
 cases hb:blkOk a0 a1
 ·rfl
 ·obtain⟨h1,h2,h3⟩:=yFl hb
  have h4:=yg.1 h1;rw[wr (show -9223372036854775808≤a0.1-1 by omega) (by omega),show(a0.1-1 !=0)=true from bne_iff_ne.2 (by omega),wr (by omega) (by omega)]; rfl
def yBc:Con:=⟨yfy,yoX,fun x=>(fun n=>some ((n,()),())) (yjC x.1 x.2.1)⟩
theorem yS4:ConOk prog 180 yBc:=(yPl).mono (fun x r hk h=>(ySl x.1 x.2.1 hk).trans h)
end
section
def ysO:Code:=(f215.body).getD .skip
def yyF:Env:=zj0 TT [] []
theorem yYi:FrOk prog ⟨yyF,22,fun _=>none⟩ ysO:=zj4 yc yd trivial
def yJr:Nat→Option Seg:=fun _=>none
def yew:Shape:=⟨[(1,false,[.int .i64]),(2,false,[.ptr 0 0]),(5,false,[.int .i64])],[(0,[.int .i64,.int .i64,.int .i64,.br tM,.int .i64,.int .i64,.int .i64,.int .i64,.int .i64,.br tW,.int .i64,.bool,.bool])],[]⟩
def ylh:Shape:=⟨[(1,false,[.int .i64]),(2,false,[.ptr 0 0]),(5,false,[.ci .i64 0])],[(0,[.int .i64,.int .i64,.int .i64,.br tM,.int .i64,.int .i64,.int .i64,.int .i64,.int .i64,.br tW,.int .i64,.bool,.bool])],[]⟩
def yld:Shape:=⟨[],[],[]⟩
def yls:Shape:=⟨[(4,false,[.int .i64])],[],[]⟩
abbrev ywG (v0 v1:Int) (v2:dA):(yew).X:=(((v0,()),((),()),(v1,()),()),((v2.1,v2.2.1.1,v2.2.1.2,v2.2.2.1,v2.2.2.2.1,v2.2.2.2.2.1,v2.2.2.2.2.2.1,v2.2.2.2.2.2.2.1,v2.2.2.2.2.2.2.2.1,v2.2.2.2.2.2.2.2.2.1,v2.2.2.2.2.2.2.2.2.2.1,v2.2.2.2.2.2.2.2.2.2.2.1,v2.2.2.2.2.2.2.2.2.2.2.2,()),()),())
abbrev yVz (v0:Int) (v1:dA):(ylh).X:=(((v0,()),((),()),((),()),()),((v1.1,v1.2.1.1,v1.2.1.2,v1.2.2.1,v1.2.2.2.1,v1.2.2.2.2.1,v1.2.2.2.2.2.1,v1.2.2.2.2.2.2.1,v1.2.2.2.2.2.2.2.1,v1.2.2.2.2.2.2.2.2.1,v1.2.2.2.2.2.2.2.2.2.1,v1.2.2.2.2.2.2.2.2.2.2.1,v1.2.2.2.2.2.2.2.2.2.2.2,()),()),())
abbrev yVv  :(yld).X:=((),(),())
abbrev yGb (v0:Int):(yls).X:=(((v0,()),()),(),())
def yxg (v0 v1 v2 v3 v4:Int) (v5:List dM) (v6 v7 v8 v9 v10:Int) (v11:List dW) (v12:Int) (v13 v14:Bool):Option ((yew).X ⊕ ((yld).X ⊕ (yls).X)) :=
 bif(ltb v1 (v11.length:Int))then
 bif(inb v1 v11.length)then
 bif((nth v11 v1 (0,[])).1==v0)then
 some (.inr (.inr (((v1,()),()),(),())))
 else
 some (.inl (((v0,()),((),()),((IntKind.i64.wrap (v1+1)),()),()),((v2,v3,v4,v5,v6,v7,v8,v9,v10,v11,v12,v13,v14,()),()),()))
 else none
 else
 some (.inr (.inl ((),(),())))
def yeH (x:(yew).X):=yxg x.1.1.1 x.1.2.2.1.1 x.2.1.1.1 x.2.1.1.2.1 x.2.1.1.2.2.1 x.2.1.1.2.2.2.1 x.2.1.1.2.2.2.2.1 x.2.1.1.2.2.2.2.2.1 x.2.1.1.2.2.2.2.2.2.1 x.2.1.1.2.2.2.2.2.2.2.1 x.2.1.1.2.2.2.2.2.2.2.2.1 x.2.1.1.2.2.2.2.2.2.2.2.2.1 x.2.1.1.2.2.2.2.2.2.2.2.2.2.1 x.2.1.1.2.2.2.2.2.2.2.2.2.2.2.1 x.2.1.1.2.2.2.2.2.2.2.2.2.2.2.2.1
def yF0 (x:(ylh).X):(yew).X:=(((x.1.1.1,()),((),()),(0,()),()),((x.2.1.1.1,x.2.1.1.2.1,x.2.1.1.2.2.1,x.2.1.1.2.2.2.1,x.2.1.1.2.2.2.2.1,x.2.1.1.2.2.2.2.2.1,x.2.1.1.2.2.2.2.2.2.1,x.2.1.1.2.2.2.2.2.2.2.1,x.2.1.1.2.2.2.2.2.2.2.2.1,x.2.1.1.2.2.2.2.2.2.2.2.2.1,x.2.1.1.2.2.2.2.2.2.2.2.2.2.1,x.2.1.1.2.2.2.2.2.2.2.2.2.2.2.1,x.2.1.1.2.2.2.2.2.2.2.2.2.2.2.2.1,()),()),())
def yHA:Code:=(zef ysO 64 52).getD .skip
theorem yXD:zef ysO 64 13=some (.block 0 (.loop yHA)):=by kernel_rfl
theorem yZM (x:(yew).X):zg0 ⟨yyF,22,yJr⟩ 0 yHA 52 yew yld yls x=yeH x:=by kernel_rfl
def yF4 (x:(ylh).X):Nat:=18446744073709551616
def yx4 (x:(ylh).X):Option ((yld).X ⊕ (yls).X):=zz yeH (yF4 x) (yF0 x)
def yGm:Seg:=⟨ylh,yld,yls,yx4⟩
def yJs:Nat→Option Seg:=fun q=>bif Nat.beq q 13 then some yGm else yJr q
theorem yYj:FrOk prog ⟨yyF,22,yJs⟩ ysO:=(yYi).loop (sg:=yGm) yew yF0 (by decide) yXD yeH yF4 (by decide) (fun _=>rfl) (fun x r _ h=>h) yZM
abbrev ynZ:List Par:= [.rd tA,.rd tI]
abbrev yyK:List OT:= [⟨false,tI,.fz⟩]
def ytW (a0:dA) (a1:Int):Option (ResD yyK×MutD ynZ) :=
 zjW (yx4 (((a1,()),((),()),((),()),()),((a0.1,a0.2.1.1,a0.2.1.2,a0.2.2.1,a0.2.2.2.1,a0.2.2.2.2.1,a0.2.2.2.2.2.1,a0.2.2.2.2.2.2.1,a0.2.2.2.2.2.2.2.1,a0.2.2.2.2.2.2.2.2.1,a0.2.2.2.2.2.2.2.2.2.1,a0.2.2.2.2.2.2.2.2.2.2.1,a0.2.2.2.2.2.2.2.2.2.2.2,()),()),())) (fun y0 =>
 some (((-1),()),())) (fun y0 =>
 some ((y0.1.1.1,()),()))
theorem y3d (x:InD ynZ):zju ⟨yyF,22,yJs⟩ f215.results.toList ysO ynZ yyK x=ytW x.1 x.2.1:=by kernel_rfl
theorem y1B:ConOk prog 215 ⟨ynZ,yyK,fun x=>ytW x.1 x.2.1⟩:=zjZ (yYj) func215 (by kernel_rfl) (by kernel_rfl) ntmps215.symm (by decide) (fun x r h=>(y3d x).trans h)
def yjS (a0:dA) (a1:Int):Int:=yP a0.2.2.2.2.2.2.2.2.1 a1
theorem y2P (a0:dA) (a1:Int) (hk:zi0 ynZ (a0,a1,())):ytW a0 a1=(fun n=>some ((n,()),())) (yjS a0 a1):=by
 have hb:a0.2.2.2.2.2.2.2.2.1.length*32≤2^47:=hk.1.2.2.2.2.2.2.2.2.1.1
 have h1:yx4 (yVz a1 a0)=some (bif leb 0 (yP a0.2.2.2.2.2.2.2.2.1 a1)then .inr (yGb (yP a0.2.2.2.2.2.2.2.2.1 a1))else .inl yVv) :=
  yMc (step:=yeH) a0.2.2.2.2.2.2.2.2.1 (0,[]) (fun i=>ywG a1 i a0) (fun e:dW=>e.1==a1) (fun i=> .inr (yGb i)) _ (fun i hi=>by
   simp only[yeH,ywG,yxg,zj2 (show(i:Int)<a0.2.2.2.2.2.2.2.2.1.length by omega),cond_true,wr (show -9223372036854775808≤(i:Int)+1 by omega) (by omega),Int.natCast_add,Int.natCast_one,Int.toNat_natCast,zkj hi,zkk]
   cases((a0.2.2.2.2.2.2.2.2.1.getD i (0,[])).1==a1)<;>rfl) (by simp only[yeH,ywG,yxg,zkv (Int.le_refl _),cond_false]) _ (by show _<18446744073709551616; omega)
 unfold ytW yjS;rw[h1]
 cases h:leb 0 (yP a0.2.2.2.2.2.2.2.2.1 a1)
 ·rw[show yP a0.2.2.2.2.2.2.2.2.1 a1= -1 from yYk h]; rfl
 ·rfl
def yz8:Con:=⟨ynZ,yyK,fun x=>(fun n=>some ((n,()),())) (yjS x.1 x.2.1)⟩
theorem yMQ:ConOk prog 215 yz8:=(y1B).mono (fun x r hk h=>(y2P x.1 x.2.1 hk).trans h)
end
section
def ypM:Code:=(f161.body).getD .skip
def yvr:Env:=zj0 TT [] []
theorem yVb:FrOk prog ⟨yvr,18,fun _=>none⟩ ypM:=zj4 yc yd trivial
def yG5:Nat→Option Seg:=fun _=>none
def ydd:Shape:=⟨[(0,false,[.br tI]),(1,false,[.int .i64]),(5,false,[.int .i64])],[],[]⟩
def yiY:Shape:=⟨[(0,false,[.br tI]),(1,false,[.int .i64]),(5,false,[.ci .i64 0])],[],[]⟩
def yiJ:Shape:=⟨[],[],[]⟩
def yjn:Shape:=⟨[(4,false,[.bool])],[],[]⟩
abbrev yus (v0:List Int) (v1 v2:Int):(ydd).X:=(((v0,()),(v1,()),(v2,()),()),(),())
abbrev yRQ (v0:List Int) (v1:Int):(yiY).X:=(((v0,()),(v1,()),((),()),()),(),())
abbrev yRF  :(yiJ).X:=((),(),())
abbrev yR2 (v0:Bool):(yjn).X:=(((v0,()),()),(),())
def yuO (v0:List Int) (v1 v2:Int):Option ((ydd).X ⊕ ((yiJ).X ⊕ (yjn).X)) :=
 bif(ltb v2 (v0.length:Int))then
 bif(inb v2 v0.length)then
 bif((nth v0 v2 0)==v1)then
 some (.inr (.inr (((true,()),()),(),())))
 else
 some (.inl (((v0,()),(v1,()),((IntKind.i64.wrap (v2+1)),()),()),(),()))
 else none
 else
 some (.inr (.inl ((),(),())))
def ydN (x:(ydd).X):=yuO x.1.1.1 x.1.2.1.1 x.1.2.2.1.1
def yDp (x:(yiY).X):(ydd).X:=(((x.1.1.1,()),(x.1.2.1.1,()),(0,()),()),(),())
def yFw:Code:=(zef ypM 64 52).getD .skip
theorem yT7:zef ypM 64 13=some (.block 0 (.loop yFw)):=by kernel_rfl
theorem yXc (x:(ydd).X):zg0 ⟨yvr,18,yG5⟩ 0 yFw 52 ydd yiJ yjn x=ydN x:=by kernel_rfl
def yDF (x:(yiY).X):Nat:=18446744073709551616
def yvF (x:(yiY).X):Option ((yiJ).X ⊕ (yjn).X):=zz ydN (yDF x) (yDp x)
def yEe:Seg:=⟨yiY,yiJ,yjn,yvF⟩
def yG6:Nat→Option Seg:=fun q=>bif Nat.beq q 13 then some yEe else yG5 q
theorem yVc:FrOk prog ⟨yvr,18,yG6⟩ ypM:=(yVb).loop (sg:=yEe) ydd yDp (by decide) yT7 ydN yDF (by decide) (fun _=>rfl) (fun x r _ h=>h) yXc
abbrev yk6:List Par:= [.rd tL,.rd tI]
abbrev yv2:List OT:= [⟨false,tB,.fz⟩]
def yrT (a0:List Int) (a1:Int):Option (ResD yv2×MutD yk6) :=
 zjW (yvF (((a0,()),(a1,()),((),()),()),(),())) (fun y0 =>
 some ((false,()),())) (fun y0 =>
 some ((y0.1.1.1,()),()))
theorem y2o (x:InD yk6):zju ⟨yvr,18,yG6⟩ f161.results.toList ypM yk6 yv2 x=yrT x.1 x.2.1:=by kernel_rfl
theorem yZd:ConOk prog 161 ⟨yk6,yv2,fun x=>yrT x.1 x.2.1⟩:=zjZ (yVc) func161 (by kernel_rfl) (by kernel_rfl) ntmps161.symm (by decide) (fun x r h=>(y2o x).trans h)
def yhF (a0:List Int) (a1:Int):Bool:=a0.any (· ==a1)
theorem y1r (a0:List Int) (a1:Int) (hk:zi0 yk6 (a0,a1,())):yrT a0 a1=(fun n=>some ((n,()),())) (yhF a0 a1):=by
 have hb:a0.length*8≤2^47:=hk.1.1
 have h1:yvF (yRQ a0 a1)=some (bif a0.all (· !=a1)then .inl yRF else .inr (yR2 true)) :=
  zjD (step:=ydN) a0 0 (fun i=>yus a0 a1 i) (· !=a1) _ _ (fun i hi=>by
   simp only[ydN,yus,yuO,zj2 (show(i:Int)<a0.length by omega),cond_true,wr (show -9223372036854775808≤(i:Int)+1 by omega) (by omega),Int.natCast_add,Int.natCast_one,Int.toNat_natCast,zkj hi,zkk,bne]
   cases(a0.getD i 0==a1)<;>rfl) (by simp only[ydN,yus,yuO,zkv (Int.le_refl _),cond_false]) _ (by show _<18446744073709551616; omega)
 unfold yrT yhF;rw[h1,show a0.any (· ==a1)= !(a0.all (· !=a1))by simp[List.all_eq_not_any_not,bne]]
 cases a0.all (· !=a1)<;>rfl
def yx9:Con:=⟨yk6,yv2,fun x=>(fun n=>some ((n,()),())) (yhF x.1 x.2.1)⟩
theorem yJ2:ConOk prog 161 yx9:=(yZd).mono (fun x r hk h=>(y1r x.1 x.2.1 hk).trans h)
end
section
def ykK:Code:=(f90.body).getD .skip
def yq3:Env:=zj0 TT [(82,yw),(160,ygR),(161,yx9)] []
theorem yOm:FrOk prog ⟨yq3,60,fun _=>none⟩ ykK:=zj4 yc yd ⟨yD,ynS,yJ2,trivial⟩
def yCt:Nat→Option Seg:=fun _=>none
def ybI:Shape:=⟨[(1,false,[.int .i64]),(2,false,[.ptr 0 0]),(6,false,[.br tI]),(7,false,[.int .i64])],[(0,[.br tL,.br tW,.bool,.br tI])],[]⟩
def ygk:Shape:=⟨[(1,false,[.int .i64]),(2,false,[.ptr 0 0]),(6,false,[.br tI]),(7,false,[.ci .i64 0])],[(0,[.br tL,.br tW,.bool,.br tI])],[]⟩
def yf8:Shape:=⟨[(6,false,[.br tI])],[],[]⟩
def yka:Shape:=⟨[],[],[]⟩
abbrev yqv (v0:Int) (v1:List Int) (v2:Int) (v3:dM):(ybI).X:=(((v0,()),((),()),(v1,()),(v2,()),()),((v3.1,v3.2.1,v3.2.2.1,v3.2.2.2,()),()),())
abbrev yMt (v0:Int) (v1:List Int) (v2:dM):(ygk).X:=(((v0,()),((),()),(v1,()),((),()),()),((v2.1,v2.2.1,v2.2.2.1,v2.2.2.2,()),()),())
abbrev yzN (v0:List Int):(yf8).X:=(((v0,()),()),(),())
def yqQ (v0:Int) (v1:List Int) (v2:Int) (v3:List (List Int)) (v4:List dW) (v5:Bool) (v6:List Int):Option ((ybI).X ⊕ ((yf8).X ⊕ (yka).X)) :=
 bif(ltb v2 (v4.length:Int))then
 bif(inb v2 v4.length)then
 bif((nth v4 v2 (0,[])).1==v0)then
 bif(inb v2 v4.length)then
 some (.inl (((v0,()),((),()),((nth v4 v2 (0,[])).2,()),((IntKind.i64.wrap (v2+1)),()),()),((v3,v4,v5,v6,()),()),()))
 else none
 else
 some (.inl (((v0,()),((),()),(v1,()),((IntKind.i64.wrap (v2+1)),()),()),((v3,v4,v5,v6,()),()),()))
 else none
 else
 some (.inr (.inl (((v1,()),()),(),())))
def yb1 (x:(ybI).X):=yqQ x.1.1.1 x.1.2.2.1.1 x.1.2.2.2.1.1 x.2.1.1.1 x.2.1.1.2.1 x.2.1.1.2.2.1 x.2.1.1.2.2.2.1
def yzm (x:(ygk).X):(ybI).X:=(((x.1.1.1,()),((),()),(x.1.2.2.1.1,()),(0,()),()),((x.2.1.1.1,x.2.1.1.2.1,x.2.1.1.2.2.1,x.2.1.1.2.2.2.1,()),()),())
def yAU:Code:=(zef ykK 64 244).getD .skip
theorem yNP:zef ykK 64 61=some (.block 0 (.loop yAU)):=by kernel_rfl
theorem yPG (x:(ybI).X):zg0 ⟨yq3,60,yCt⟩ 0 yAU 244 ybI yf8 yka x=yb1 x:=by kernel_rfl
def yzB (x:(ygk).X):Nat:=18446744073709551616
def ysa (x:(ygk).X):Option ((yf8).X ⊕ (yka).X):=zz yb1 (yzB x) (yzm x)
def yz0:Seg:=⟨ygk,yf8,yka,ysa⟩
def yCu:Nat→Option Seg:=fun q=>bif Nat.beq q 61 then some yz0 else yCt q
theorem yOn:FrOk prog ⟨yq3,60,yCu⟩ ykK:=(yOm).loop (sg:=yz0) ybI yzm (by decide) yNP yb1 yzB (by decide) (fun _=>rfl) (fun x r _ h=>h) yPG
abbrev ygO:List Par:= [.rd tM,.rd tI]
abbrev yrl:List OT:= [⟨false,tL,(.ow .fz)⟩,⟨false,tB,.fz⟩]
def ymL (a0:dM) (a1:Int):Option (ResD yrl×MutD ygO) :=
 let r1:=yao a0
 bif(!(!r1))then
 bif(!a0.2.2.1)then
 let r2:=ya a1 0 (IntKind.i64.wrap ((a0.1.length:Int)-1))
 bif(!(!r2))then
 let r3:=yhF a0.2.2.2 a1
 bif r3 then
 some ((([]:List Int),false,()),())
 else
 bif(inb a1 a0.1.length)then
 zjW (ysa (((a1,()),((),()),((nth a0.1 a1 []),()),((),()),()),((a0.1,a0.2.1,a0.2.2.1,a0.2.2.2,()),()),())) (fun y3 =>
 bif(zjO ([]:List Int).length y3.1.1.1.length 8)then
 some (((([]:List Int)++y3.1.1.1),true,()),())
 else none) (fun y3 =>
 none)
 else none
 else
 some ((([]:List Int),false,()),())
 else
 some ((([]:List Int),false,()),())
 else
 some ((([]:List Int),false,()),())
theorem yXZ (x:InD ygO):zju ⟨yq3,60,yCu⟩ f90.results.toList ykK ygO yrl x=ymL x.1 x.2.1:=by kernel_rfl
theorem ySF:ConOk prog 90 ⟨ygO,yrl,fun x=>ymL x.1 x.2.1⟩:=zjZ (yOn) func90 (by kernel_rfl) (by kernel_rfl) ntmps90.symm (by decide) (fun x r h=>(yXZ x).trans h)
def ylJ (a0:dM) (a1:Int):List Int×Bool:=yy a0 a1
theorem yVS (a0:dM) (a1:Int) (hk:zi0 ygO (a0,a1,())):ymL a0 a1=(fun n=>some ((n.1,n.2,()),())) (ylJ a0 a1):=by
 have hb1:a0.1.length*24≤2^47:=hk.1.1.1;have hb2:a0.2.1.length*32≤2^47:=hk.1.2.1.1
 have h1: ∀s,ysa (yMt a1 s a0)=some (.inl (yzN (yhH a1 a0.2.1 s))):=fun s =>
  zj1 (step:=yb1) a0.2.1 (0,[]) (fun i s=>yqv a1 s i a0) (fun s w=>bif w.1==a1 then w.2 else s) (fun _ _=>True) (fun s=> .inl (yzN s)) (fun i s hi _=>⟨by
   simp only[yb1,yqv,yqQ,zj2 (show(i:Int)<a0.2.1.length by omega),cond_true,wr (show -9223372036854775808≤(i:Int)+1 by omega) (by omega),Int.natCast_add,Int.natCast_one,Int.toNat_natCast,zkj hi,zkk]
   cases((a0.2.1.getD i (0,[])).1==a1)<;>rfl,trivial⟩) (fun s _=>by simp only[yb1,yqv,yqQ,zkv (Int.le_refl _),cond_false]) s trivial _ (by show _<18446744073709551616; omega)
 unfold ymL ylJ yy yu0;rw[yqk (show a0.1.length≤1152921504606846976 by omega)];unfold yao yhF;simp only[h1,zkf,List.nil_append]
 cases memOk a0
 ·rfl
 cases a0.2.2.1
 ·cases hi:inb a1 a0.1.length
  ·rfl
  ·cases a0.2.2.2.any (· ==a1)
   ·have hs:(yhH a1 a0.2.1 (nth a0.1 a1 [])).length*8≤2^47 :=
     yID (P:=fun s=>s.length*8≤2^47) (yHY (P:=fun s:List Int=>s.length*8≤2^47) hi fun x hx=>(hk.1.1.2 x hx).1) fun w hw=>(hk.1.2.1.2 w hw).2.1
    simp only[Bool.not_true,Bool.not_false,cond_true,cond_false,Bool.true_and,show zjO ([]:List Int).length (yhH a1 a0.2.1 (nth a0.1 a1 [])).length 8=true from zj8.2 (by rw[List.length_nil]; omega)]
   ·rfl
 ·rfl
def yC7:Con:=⟨ygO,yrl,fun x=>(fun n=>some ((n.1,n.2,()),())) (ylJ x.1 x.2.1)⟩
theorem yWP:ConOk prog 90 yC7:=(ySF).mono (fun x r hk h=>(yVS x.1 x.2.1 hk).trans h)
end
section
def yJb:Code:=(f211.body).getD .skip
def yJJ:Env:=zj0 TT [(82,yw)] []
theorem yQ3:FrOk prog ⟨yJJ,34,fun _=>none⟩ yJb:=zj4 yc yd ⟨yD,trivial⟩
def yTK:Nat→Option Seg:=fun _=>none
abbrev yh5:List Par:= [.rd tA,.rd tI,.rd tI]
abbrev ytw:List OT:= [⟨false,tB,.fz⟩]
def ypw (a0:dA) (a1 a2:Int):Option (ResD ytw×MutD yh5) :=
 let r1:=ya a1 0 (IntKind.i64.wrap ((a0.2.2.1.length:Int)-1))
 bif r1 then
 bif(inb a1 a0.2.2.1.length)then
 bif(!((((nth a0.2.2.1 a1 ([],[],false,[])).2).2).1))then
 bif(!(a1 !=a0.2.2.2.1))then
 some (((ltb a2 a0.2.2.2.2.1),()),())
 else
 some ((true,()),())
 else
 some ((false,()),())
 else none
 else
 some ((false,()),())
theorem y0O (x:InD yh5):zju ⟨yJJ,34,yTK⟩ f211.results.toList yJb yh5 ytw x=ypw x.1 x.2.1 x.2.2.1:=by kernel_rfl
theorem yWl:ConOk prog 211 ⟨yh5,ytw,fun x=>ypw x.1 x.2.1 x.2.2.1⟩:=zjZ (yQ3) func211 (by kernel_rfl) (by kernel_rfl) ntmps211.symm (by decide) (fun x r h=>(y0O x).trans h)
def ydV (a0:dA) (a1 a2:Int):Bool:=yb9 a0 a1 a2
theorem yYG (a0:dA) (a1 a2:Int) (hk:zi0 yh5 (a0,a1,a2,())):ypw a0 a1 a2=(fun n=>some ((n,()),())) (ydV a0 a1 a2):=by
 have hb:a0.2.2.1.length*80≤2^47:=hk.1.2.2.1.1;unfold ypw ydV yb9 noMem;rw[yqk (show a0.2.2.1.length≤1152921504606846976 by omega)]
 cases inb a1 a0.2.2.1.length
 ·rfl
 ·cases(nth a0.2.2.1 a1 ([],[],false,[])).2.2.1<;>cases(a1 !=a0.2.2.2.1)<;>rfl
def ywh:Con:=⟨yh5,ytw,fun x=>(fun n=>some ((n,()),())) (ydV x.1 x.2.1 x.2.2.1)⟩
theorem yH6:ConOk prog 211 ywh:=(yWl).mono (fun x r hk h=>(yYG x.1 x.2.1 x.2.2.1 hk).trans h)
end
section
def yJl:Code:=(f246.body).getD .skip
def yJT:Env:=zj0 TT [(90,yC7),(113,yfD),(211,ywh)] []
theorem yRo:FrOk prog ⟨yJT,36,fun _=>none⟩ yJl:=zj4 yc yd ⟨yWP,ylT,yH6,trivial⟩
def yTU:Nat→Option Seg:=fun _=>none
abbrev yh9:List Par:= [.rd tA,.rd tI,.rd tI]
abbrev ytI:List OT:= [⟨false,tI,.fz⟩,⟨false,tB,.fz⟩]
def ypC (a0:dA) (a1 a2:Int):Option (ResD ytI×MutD yh9) :=
 let r1:=ydV a0 a1 a2
 bif(!r1)then
 some ((0,false,()),())
 else
 bif(inb a1 a0.2.2.1.length)then
 let r2:=ybl a2
 let r3:=ylJ ((nth a0.2.2.1 a1 ([],[],false,[])).1,((nth a0.2.2.1 a1 ([],[],false,[])).2).1,(((nth a0.2.2.1 a1 ([],[],false,[])).2).2)) r2
 bif(!(!r3.2))then
 bif((r3.1.length:Int) !=1)then
 some ((0,false,()),())
 else
 bif(inb 0 r3.1.length)then
 some (((nth r3.1 0 0),true,()),())
 else none
 else
 some ((0,false,()),())
 else none
theorem y03 (x:InD yh9):zju ⟨yJT,36,yTU⟩ f246.results.toList yJl yh9 ytI x=ypC x.1 x.2.1 x.2.2.1:=by kernel_rfl
theorem yWA:ConOk prog 246 ⟨yh9,ytI,fun x=>ypC x.1 x.2.1 x.2.2.1⟩:=zjZ (yRo) func246 (by kernel_rfl) (by kernel_rfl) ntmps246.symm (by decide) (fun x r h=>(y03 x).trans h)
def ynP (a0:dA) (a1 a2:Int):Int×Bool:=(yjV a0 a1 a2,yn a0 a1 a2)
theorem yYQ (a0:dA) (a1 a2:Int) (hk:zi0 yh9 (a0,a1,a2,())):ypC a0 a1 a2=(fun n=>some ((n.1,n.2,()),())) (ynP a0 a1 a2):=by
 unfold ypC ynP yjV ydV;simp only[zkp,ygY,ylJ];rw[show yn a0 a1 a2=(yb9 a0 a1 a2&&((ycY a0 a1 a2).2&&((ycY a0 a1 a2).1.length:Int)==1))from rfl];rw[show yy (nth a0.2.2.1 a1 ([],[],false,[])) (dataAt a2)=ycY a0 a1 a2 from rfl]
 cases hl:yb9 a0 a1 a2
 ·rfl
 ·rw[show inb a1 a0.2.2.1.length=true by unfold yb9 at hl; exact(Bool.and_eq_true_iff.1 hl).1]
  cases(ycY a0 a1 a2).2
  ·rfl
  ·rw[bne]
   cases h1:(((ycY a0 a1 a2).1.length:Int)==1)
   ·rfl
   ·rw[show inb 0 (ycY a0 a1 a2).1.length=true from zjA.2 (by have:=beq_iff_eq.1 h1; omega)]; rfl
def yFU:Con:=⟨yh9,ytI,fun x=>(fun n=>some ((n.1,n.2,()),())) (ynP x.1 x.2.1 x.2.2.1)⟩
theorem yZC:ConOk prog 246 yFU:=(yWA).mono (fun x r hk h=>(yYQ x.1 x.2.1 x.2.2.1 hk).trans h)
end
section
def yeO:Code:=(f247.body).getD .skip
def yir:Env:=zj0 TT [] []
theorem yHS:FrOk prog ⟨yir,23,fun _=>none⟩ yeO:=zj4 yc yd trivial
def yvi:Nat→Option Seg:=fun _=>none
def yal:Shape:=⟨[(0,false,[.br tI]),(1,false,[.int .i64]),(5,false,[.int .i64]),(6,false,[.int .i64])],[],[]⟩
def ycH:Shape:=⟨[(0,false,[.br tI]),(1,false,[.int .i64]),(5,false,[.ci .i64 0]),(6,false,[.ci .i64 0])],[],[]⟩
def ycF:Shape:=⟨[(5,false,[.int .i64])],[],[]⟩
def yfC:Shape:=⟨[],[],[]⟩
abbrev yjR (v0:List Int) (v1 v2 v3:Int):(yal).X:=(((v0,()),(v1,()),(v2,()),(v3,()),()),(),())
abbrev yGw (v0:List Int) (v1:Int):(ycH).X:=(((v0,()),(v1,()),((),()),((),()),()),(),())
abbrev yGu (v0:Int):(ycF).X:=(((v0,()),()),(),())
def yjU (v0:List Int) (v1 v2 v3:Int):Option ((yal).X ⊕ ((ycF).X ⊕ (yfC).X)) :=
 bif(ltb v3 (v0.length:Int))then
 bif(v3 !=v1)then
 bif(inb v3 v0.length)then
 some (.inl (((v0,()),(v1,()),((IntKind.i64.wrap ((BitVec.ofInt IntKind.i64.bits v2 ^^^ BitVec.ofInt IntKind.i64.bits (nth v0 v3 0)).toNat:Int)),()),((IntKind.i64.wrap (v3+1)),()),()),(),()))
 else none
 else
 some (.inl (((v0,()),(v1,()),(v2,()),((IntKind.i64.wrap (v3+1)),()),()),(),()))
 else
 some (.inr (.inl (((v2,()),()),(),())))
def yav (x:(yal).X):=yjU x.1.1.1 x.1.2.1.1 x.1.2.2.1.1 x.1.2.2.2.1.1
def ysV (x:(ycH).X):(yal).X:=(((x.1.1.1,()),(x.1.2.1.1,()),(0,()),(0,()),()),(),())
def yuZ:Code:=(zef yeO 64 116).getD .skip
theorem yHs:zef yeO 64 29=some (.block 0 (.loop yuZ)):=by kernel_rfl
theorem yIc (x:(yal).X):zg0 ⟨yir,23,yvi⟩ 0 yuZ 116 yal ycF yfC x=yav x:=by kernel_rfl
def ysX (x:(ycH).X):Nat:=18446744073709551616
def ykQ (x:(ycH).X):Option ((ycF).X ⊕ (yfC).X):=zz yav (ysX x) (ysV x)
def ys4:Seg:=⟨ycH,ycF,yfC,ykQ⟩
def yvj:Nat→Option Seg:=fun q=>bif Nat.beq q 29 then some ys4 else yvi q
theorem yHT:FrOk prog ⟨yir,23,yvj⟩ yeO:=(yHS).loop (sg:=ys4) yal ysV (by decide) yHs yav ysX (by decide) (fun _=>rfl) (fun x r _ h=>h) yIc
abbrev ycC:List Par:= [.rd tL,.rd tI]
abbrev yi7:List OT:= [⟨false,tI,.fz⟩]
def ygB (a0:List Int) (a1:Int):Option (ResD yi7×MutD ycC) :=
 zjW (ykQ (((a0,()),(a1,()),((),()),((),()),()),(),())) (fun y0 =>
 some ((y0.1.1.1,()),())) (fun y0 =>
 none)
theorem yLx (x:InD ycC):zju ⟨yir,23,yvj⟩ f247.results.toList yeO ycC yi7 x=ygB x.1 x.2.1:=by kernel_rfl
theorem yIG:ConOk prog 247 ⟨ycC,yi7,fun x=>ygB x.1 x.2.1⟩:=zjZ (yHT) func247 (by kernel_rfl) (by kernel_rfl) ntmps247.symm (by decide) (fun x r h=>(yLx x).trans h)
def yfd (a0:List Int) (a1:Int):Int:=yqm a0 a1
theorem yKB (a0:List Int) (a1:Int) (hk:zi0 ycC (a0,a1,())):ygB a0 a1=(fun n=>some ((n,()),())) (yfd a0 a1):=by
 have hb:a0.length*8≤2^47:=hk.1.1
 have h1:=zj6 (step:=yav) a0.length (fun i s=>yjR a0 a1 s i) (fun n (i:Nat)=>bif(i:Int) !=a1 then xw n (nth a0 i 0)else n) (fun _ _=>True) (fun s=> .inl (yGu s)) (fun i s hi _=>⟨by
  simp only[yav,yjR,yjU,zj2 (show(i:Int)<a0.length by omega),cond_true,wr (show -9223372036854775808≤(i:Int)+1 by omega) (by omega),Int.natCast_add,Int.natCast_one,Int.toNat_natCast,zkj hi]
  cases((i:Int) !=a1)<;>rfl,trivial⟩) (fun s _=>by simp only[yav,yjR,yjU,zkv (Int.le_refl _),cond_false]) 0 trivial 18446744073709551616 (by omega)
 rw[y4E]at h1;unfold ygB yfd;rw[show ykQ (yGw a0 a1)=_ from h1]; rfl
def ywj:Con:=⟨ycC,yi7,fun x=>(fun n=>some ((n,()),())) (yfd x.1 x.2.1)⟩
theorem yKI:ConOk prog 247 ywj:=(yIG).mono (fun x r hk h=>(yKB x.1 x.2.1 hk).trans h)
end
section
def ykN:Code:=(f227.body).getD .skip
def yq6:Env:=zj0 TT [(246,yFU),(247,ywj)] []
theorem yOw:FrOk prog ⟨yq6,45,fun _=>none⟩ ykN:=zj4 yc yd ⟨yZC,yKI,trivial⟩
def yCz:Nat→Option Seg:=fun _=>none
def ybK:Shape:=⟨[(1,false,[.int .i64]),(2,false,[.ptr 0 0]),(6,false,[.at 800000000]),(7,false,[.int .i64]),(8,false,[.int .i64])],[(0,[.int .i64,.int .i64,.int .i64,.br tM,.int .i64,.int .i64,.int .i64,.int .i64,.int .i64,.br tW,.int .i64,.bool,.bool])],[(800000000,tI,.fz)]⟩
def ygm:Shape:=⟨[(1,false,[.int .i64]),(2,false,[.ptr 0 0]),(6,false,[.at 800000000]),(7,false,[.ci .i64 (-1)]),(8,false,[.ci .i64 0])],[(0,[.int .i64,.int .i64,.int .i64,.br tM,.int .i64,.int .i64,.int .i64,.int .i64,.int .i64,.br tW,.int .i64,.bool,.bool])],[(800000000,tI,.fz)]⟩
def yga:Shape:=⟨[(6,false,[.at 800000000]),(7,false,[.int .i64])],[],[(800000000,tI,.fz)]⟩
def ygt:Shape:=⟨[(4,false,[.at 800000000]),(5,false,[.bool])],[],[(800000000,tI,.fz)]⟩
abbrev yqx (v0 v1 v2:Int) (v3:dA) (v4:List Int):(ybK).X:=(((v0,()),((),()),((),()),(v1,()),(v2,()),()),((v3.1,v3.2.1.1,v3.2.1.2,v3.2.2.1,v3.2.2.2.1,v3.2.2.2.2.1,v3.2.2.2.2.2.1,v3.2.2.2.2.2.2.1,v3.2.2.2.2.2.2.2.1,v3.2.2.2.2.2.2.2.2.1,v3.2.2.2.2.2.2.2.2.2.1,v3.2.2.2.2.2.2.2.2.2.2.1,v3.2.2.2.2.2.2.2.2.2.2.2,()),()),(v4,()))
abbrev yMv (v0:Int) (v1:dA) (v2:List Int):(ygm).X:=(((v0,()),((),()),((),()),((),()),((),()),()),((v1.1,v1.2.1.1,v1.2.1.2,v1.2.2.1,v1.2.2.2.1,v1.2.2.2.2.1,v1.2.2.2.2.2.1,v1.2.2.2.2.2.2.1,v1.2.2.2.2.2.2.2.1,v1.2.2.2.2.2.2.2.2.1,v1.2.2.2.2.2.2.2.2.2.1,v1.2.2.2.2.2.2.2.2.2.2.1,v1.2.2.2.2.2.2.2.2.2.2.2,()),()),(v2,()))
abbrev yMj (v0:Int) (v1:List Int):(yga).X:=((((),()),(v0,()),()),(),(v1,()))
abbrev yMB (v0:Bool) (v1:List Int):(ygt).X:=((((),()),(v0,()),()),(),(v1,()))
def yqT (v0 v1 v2 v3 v4 v5:Int) (v6:List dM) (v7 v8 v9 v10 v11:Int) (v12:List dW) (v13:Int) (v14 v15:Bool) (v16:List Int):Option ((ybK).X ⊕ ((yga).X ⊕ (ygt).X)) :=
 bif(ltb v2 v4)then
 let r2:=ynP (v3,(v4,v5),v6,v7,v8,v9,v10,v11,v12,v13,v14,v15) v2 v0
 bif(!r2.2)then
 bif(leb 0 v1)then
 some (.inr (.inr ((((),()),(false,()),()),(),(([]:List Int),()))))
 else
 bif(zjO v16.length ([r2.1]:List Int).length 8)then
 some (.inl (((v0,()),((),()),((),()),(v2,()),((IntKind.i64.wrap (v2+1)),()),()),((v3,v4,v5,v6,v7,v8,v9,v10,v11,v12,v13,v14,v15,()),()),((v16++([r2.1]:List Int)),())))
 else none
 else
 bif(zjO v16.length ([r2.1]:List Int).length 8)then
 some (.inl (((v0,()),((),()),((),()),(v1,()),((IntKind.i64.wrap (v2+1)),()),()),((v3,v4,v5,v6,v7,v8,v9,v10,v11,v12,v13,v14,v15,()),()),((v16++([r2.1]:List Int)),())))
 else none
 else
 some (.inr (.inl ((((),()),(v1,()),()),(),(v16,()))))
def yb4 (x:(ybK).X):=yqT x.1.1.1 x.1.2.2.2.1.1 x.1.2.2.2.2.1.1 x.2.1.1.1 x.2.1.1.2.1 x.2.1.1.2.2.1 x.2.1.1.2.2.2.1 x.2.1.1.2.2.2.2.1 x.2.1.1.2.2.2.2.2.1 x.2.1.1.2.2.2.2.2.2.1 x.2.1.1.2.2.2.2.2.2.2.1 x.2.1.1.2.2.2.2.2.2.2.2.1 x.2.1.1.2.2.2.2.2.2.2.2.2.1 x.2.1.1.2.2.2.2.2.2.2.2.2.2.1 x.2.1.1.2.2.2.2.2.2.2.2.2.2.2.1 x.2.1.1.2.2.2.2.2.2.2.2.2.2.2.2.1 x.2.2.1
def yzp (x:(ygm).X):(ybK).X:=(((x.1.1.1,()),((),()),((),()),((-1),()),(0,()),()),((x.2.1.1.1,x.2.1.1.2.1,x.2.1.1.2.2.1,x.2.1.1.2.2.2.1,x.2.1.1.2.2.2.2.1,x.2.1.1.2.2.2.2.2.1,x.2.1.1.2.2.2.2.2.2.1,x.2.1.1.2.2.2.2.2.2.2.1,x.2.1.1.2.2.2.2.2.2.2.2.1,x.2.1.1.2.2.2.2.2.2.2.2.2.1,x.2.1.1.2.2.2.2.2.2.2.2.2.2.1,x.2.1.1.2.2.2.2.2.2.2.2.2.2.2.1,x.2.1.1.2.2.2.2.2.2.2.2.2.2.2.2.1,()),()),(x.2.2.1,()))
def yAX:Code:=(zef ykN 64 244).getD .skip
theorem yNS:zef ykN 64 61=some (.block 0 (.loop yAX)):=by kernel_rfl
theorem yPJ (x:(ybK).X):zg0 ⟨yq6,45,yCz⟩ 0 yAX 244 ybK yga ygt x=yb4 x:=by kernel_rfl
def yzE (x:(ygm).X):Nat:=18446744073709551616
def ysd (x:(ygm).X):Option ((yga).X ⊕ (ygt).X):=zz yb4 (yzE x) (yzp x)
def yz3:Seg:=⟨ygm,yga,ygt,ysd⟩
def yCA:Nat→Option Seg:=fun q=>bif Nat.beq q 61 then some yz3 else yCz q
theorem yOx:FrOk prog ⟨yq6,45,yCA⟩ ykN:=(yOw).loop (sg:=yz3) ybK yzp (by decide) yNS yb4 yzE (by decide) (fun _=>rfl) (fun x r _ h=>h) yPJ
abbrev yeq:List Par:= [.rd tA,.rd tI]
abbrev yln:List OT:= [⟨false,tL,(.ow .fz)⟩,⟨false,tB,.fz⟩]
def ymQ (a0:dA) (a1:Int):Option (ResD yln×MutD yeq) :=
 zjW (ysd (((a1,()),((),()),((),()),((),()),((),()),()),((a0.1,a0.2.1.1,a0.2.1.2,a0.2.2.1,a0.2.2.2.1,a0.2.2.2.2.1,a0.2.2.2.2.2.1,a0.2.2.2.2.2.2.1,a0.2.2.2.2.2.2.2.1,a0.2.2.2.2.2.2.2.2.1,a0.2.2.2.2.2.2.2.2.2.1,a0.2.2.2.2.2.2.2.2.2.2.1,a0.2.2.2.2.2.2.2.2.2.2.2,()),()),(([]:List Int),()))) (fun y2 =>
 bif(leb 0 y2.1.2.1.1)then
 let r4:=yfd y2.2.2.1 y2.1.2.1.1
 bif(inb y2.1.2.1.1 y2.2.2.1.length)then
 some (((y2.2.2.1.set (y2.1.2.1.1).toNat r4),true,()),())
 else none
 else
 some ((y2.2.2.1,true,()),())) (fun y2 =>
 some ((y2.2.2.1,y2.1.2.1.1,()),()))
theorem yX6 (x:InD yeq):zju ⟨yq6,45,yCA⟩ f227.results.toList ykN yeq yln x=ymQ x.1 x.2.1:=by kernel_rfl
theorem ySM:ConOk prog 227 ⟨yeq,yln,fun x=>ymQ x.1 x.2.1⟩:=zjZ (yOx) func227 (by kernel_rfl) (by kernel_rfl) ntmps227.symm (by decide) (fun x r h=>(yX6 x).trans h)
def ygU (a0:dA) (a1:Int):List Int×Bool:=yA a0 a1
def yyp (a0:dA) (a1:Int):Bool:=n_spec_GeoOk a0.2.1
theorem yVY (a0:dA) (a1:Int) (hk:zi0 yeq (a0,a1,())) (hq:yyp a0 a1=true):ymQ a0 a1=(fun n=>some ((n.1,n.2,()),())) (ygU a0 a1):=by
 have hg:=yg.1 hq
 have h1:ysd (yMv a1 a0 [])=some (bif yeL (fun(i:Nat)=>yn a0 i a1) a0.2.1.1.toNat then .inr (yMB false [])else .inl (yMj (yq (fun(i:Nat)=>yn a0 i a1) a0.2.1.1.toNat) (yK a0 a1 a0.2.1.1.toNat))) :=
  ziM (step:=yb4) (fun i=>yqx a1 (yq (fun(i:Nat)=>yn a0 i a1) i) i a0 (yK a0 a1 i)) a0.2.1.1.toNat (fun i=> !yn a0 i a1&&leb 0 (yq (fun(i:Nat)=>yn a0 i a1) i)) _ _ (fun i hi=>by
   simp only[yb4,yqx,yqT,zj2 (show(i:Int)<a0.2.1.1 by omega),cond_true,wr (show -9223372036854775808≤(i:Int)+1 by omega) (by omega),Int.natCast_add,Int.natCast_one,Int.toNat_natCast,zkp,ynP,yq];rw[zj8.2 (show((yK a0 a1 i).length+ [yjV a0 i a1].length)*8≤140737488355328 by simp only[List.length_cons,List.length_nil,yfi]; omega),yJ5]
   cases yn a0 i a1<;>cases leb 0 (yq (fun(i:Nat)=>yn a0 i a1) i)<;>rfl) (by simp only[yb4,yqx,yqT,zkv (show a0.2.1.1≤(a0.2.1.1.toNat:Int)by omega),cond_false]) _ (by show _<18446744073709551616; omega)
 unfold ymQ ygU yA;rw[h1]
 cases yeL (fun(i:Nat)=>yn a0 i a1) a0.2.1.1.toNat
 ·simp only[cond_false,zkf,yfd]
  cases hm:leb 0 (yq (fun(i:Nat)=>yn a0 i a1) a0.2.1.1.toNat)
  ·rfl
  ·obtain⟨h2,h3⟩:=y0j a0 a1 a0.2.1.1.toNat hm
   rw[h2,h3]; rfl
 ·rfl
def ylS (a0:dA) (a1:Int):Option (ResD yln×MutD yeq):=bif yyp a0 a1 then(fun n=>some ((n.1,n.2,()),())) (ygU a0 a1)else none
theorem yGh (a0:dA) (a1:Int) (h:yyp a0 a1=true):ylS a0 a1=(fun n=>some ((n.1,n.2,()),())) (ygU a0 a1):=by unfold ylS; rw[h]; rfl
def yud:Con:=⟨yeq,yln,fun x=>ylS x.1 x.2.1⟩
theorem yGe:ConOk prog 227 yud:=(ySM).mono (fun x r hk h=>zkq h (fun hq=>yVY x.1 x.2.1 hk hq))
end
section
def yEF:Code:=(f229.body).getD .skip
def yFh:Env:=zj0 TT [(82,yw),(150,ygQ)] []
theorem yL5:FrOk prog ⟨yFh,14,fun _=>none⟩ yEF:=zj4 yc yd ⟨yD,ynR,trivial⟩
def yNE:Nat→Option Seg:=fun _=>none
abbrev yix:List Par:= [.rd tG,.rd tI]
abbrev yoZ:List OT:= [⟨false,tB,.fz⟩]
def ysA (a0:dG) (a1:Int):Option (ResD yoZ×MutD yix) :=
 let r1:=n_spec_GeoOk a0
 bif r1 then
 let r2:=ya a1 0 (IntKind.i64.wrap (a0.2-1))
 some ((r2,()),())
 else
 some ((false,()),())
theorem yUD (x:InD yix):zju ⟨yFh,14,yNE⟩ f229.results.toList yEF yix yoZ x=ysA x.1 x.2.1:=by kernel_rfl
theorem yPo:ConOk prog 229 ⟨yix,yoZ,fun x=>ysA x.1 x.2.1⟩:=zjZ (yL5) func229 (by kernel_rfl) (by kernel_rfl) ntmps229.symm (by decide) (fun x r h=>(yUD x).trans h)
def yfG (a0:dG) (a1:Int):Bool :=
 let r1:=n_spec_GeoOk a0
 bif r1 then
 let r2:=ya a1 0 (IntKind.i64.wrap (a0.2-1))
 r2
 else
 false
def ysj:Con:=⟨yix,yoZ,fun x=>(fun n=>some ((n,()),())) (yfG x.1 x.2.1)⟩
theorem ySo (a0:dG) (a1:Int):ysA a0 a1=(fun n=>some ((n,()),())) (yfG a0 a1):=zkn (p:=fun(n:Bool)=>((n,()),())) (zj9 (p:=fun(n:Bool)=>((n,()),())) rfl rfl)
theorem yDZ:ConOk prog 229 ysj:=(yPo).mono (fun x r _ h=>(ySo x.1 x.2.1).trans h)
theorem yP2 (g:dG) (s:Int):yfG g s=strOk g s:=by
 unfold yfG strOk
 cases hg:n_spec_GeoOk g
 ·rfl
 have:=yg.1 hg;rw[ycf,wr (by omega) (by omega)]; rfl
end
end
end Go.Tf
