/- Functions of the program, and what they come to. -/
import Derived.Test.YtgmadfpnljibhaaGreatArrsF8
namespace Go.Tf
noncomputable section
open Go.Proofs
set_option synthInstance.maxHeartbeats 400000
set_option synthInstance.maxSize 10000
set_option linter.unusedVariables false
set_option linter.unusedSimpArgs false
set_option maxRecDepth 100000
section
def yFt:Code:=(Tryz.f150.body).getD .skip
def yGb:Env:=zj2 TT [(234,yEt)] []
theorem yMD:FrOk Tryz.prog ⟨yGb,31,fun _=>none⟩ yFt:=zj6 yc yd ⟨yXb,trivial⟩
def yOa:Nat→Option Seg:=fun _=>none
abbrev ykB:List Par:= [.pt tU .fz,.rd tI]
abbrev yqs:List OT:= [⟨false,tI,.fz⟩]
def ye (a0:dU) (a1:Int):Option (ResD yqs×MutD ykB) :=
 bif (leb a1 0) then
 some ((0,()),(a0,()))
 else
 bif (leb a1 256) then
 bnd (yaK a0) fun r1 =>
 bif (a1 !=0) then
 some (((r1.1.1.tmod a1),()),(r1.2.1,()))
 else none
 else
 bnd (yaK a0) fun r2 =>
 bnd (yaK r2.2.1) fun r3 =>
 bnd (yaK r3.2.1) fun r4 =>
 bif (a1 !=0) then
 some ((((IntKind.i64.wrap ((IntKind.i64.wrap ((IntKind.i64.wrap (r2.1.1 * 65536))+(IntKind.i64.wrap (r3.1.1 * 256))))+r4.1.1)).tmod a1),()),(r4.2.1,()))
 else none
theorem yVI (x:InD ykB):zjx ⟨yGb,31,yOa⟩ Tryz.f150.results.toList yFt ykB yqs x=ye x.1 x.2.1:=by kernel_rfl
theorem yQF:ConOk Tryz.prog 150 ⟨ykB,yqs,fun x=>ye x.1 x.2.1⟩:=zj1 (yMD) Tryz.func150 (by kernel_rfl) (by kernel_rfl) Tryz.ntmps150.symm (by decide) (fun x r h=>(yVI x).trans h)
def yz:Con:=⟨ykB,yqs,fun x=>ye x.1 x.2.1⟩
theorem yM:ConOk Tryz.prog 150 yz:=yQF
theorem yy (u:List Int×Int×Int) (n:Int) (h:yD u): ∃ (r:Int) (u':List Int×Int×Int),ye u n=some ((r,()),(u',()))∧(0≤r∧(0 < n→r < n)∧(n≤0→r=0))∧yD u':=by
 unfold ye
 by_cases h0:n≤0
 ·rw [zkw h0]
  exact ⟨_,_,rfl,⟨Int.le_refl _,fun h=>absurd h0 (by omega),fun _=>rfl⟩,h⟩
 ·have hn:(n !=0)=true:=bne_iff_ne.2 (by omega)
  have key: ∀ x:Int,0≤x→0≤x.tmod n∧(0 < n→x.tmod n < n)∧(n≤0→x.tmod n=0):=fun x hx =>
   ⟨Int.tmod_nonneg n hx,fun hp=>Int.tmod_lt_of_pos x hp,fun hp=>absurd hp h0⟩
  rw [zkv (by omega)]
  by_cases h1:n≤256
  ·rw [zkw h1]
   obtain ⟨r1,u1,e1,q1,d1⟩:=yLB u h
   rw [e1,zkt,zku,zkc,hn]
   exact ⟨_,_,rfl,key r1 q1.1,d1⟩
  ·rw [zkv (by omega)]
   obtain ⟨r1,u1,e1,q1,d1⟩:=yLB u h
   obtain ⟨r2,u2,e2,q2,d2⟩:=yLB u1 d1
   obtain ⟨r3,u3,e3,q3,d3⟩:=yLB u2 d2
   simp only [e1,e2,e3,zkt,zkc,hn,zku]
   refine ⟨_,_,rfl,key _ ?_,d3⟩
   rw [wr (show -9223372036854775808≤r1 * 65536 by omega) (by omega),wr (show -9223372036854775808≤r2 * 256 by omega) (by omega),wr (show -9223372036854775808≤r1 * 65536+r2 * 256 by omega) (by omega),wr (by omega) (by omega)]
   omega
end
section
def yJw:Code:=(Tryz.f124.body).getD .skip
def yJP:Env:=zj2 TT [(150,yz)] []
theorem yST:FrOk Tryz.prog ⟨yJP,12,fun _=>none⟩ yJw:=zj6 yc yd ⟨yM,trivial⟩
def yVe:Nat→Option Seg:=fun _=>none
abbrev ypj:List Par:= [.pt tU .fz,.rd tL]
abbrev yuP:List OT:= [⟨false,tI,.fz⟩]
def yp (a0:dU) (a1:List Int):Option (ResD yuP×MutD ypj) :=
 bnd (ye a0 (a1.length:Int)) fun r1 =>
 bif (inb r1.1.1 a1.length) then
 some (((nth a1 r1.1.1 0),()),(r1.2.1,()))
 else none
theorem yZK (x:InD ypj):zjx ⟨yJP,12,yVe⟩ Tryz.f124.results.toList yJw ypj yuP x=yp x.1 x.2.1:=by kernel_rfl
theorem yWN:ConOk Tryz.prog 124 ⟨ypj,yuP,fun x=>yp x.1 x.2.1⟩:=zj1 (yST) Tryz.func124 (by kernel_rfl) (by kernel_rfl) Tryz.ntmps124.symm (by decide) (fun x r h=>(yZK x).trans h)
def ycn:Con:=⟨ypj,yuP,fun x=>yp x.1 x.2.1⟩
theorem yfu:ConOk Tryz.prog 124 ycn:=yWN
theorem yi3 (u:List Int×Int×Int) (l:List Int) (h:yD u) (hl:l≠ []): ∃ (r:Int) (u':List Int×Int×Int),yp u l=some ((r,()),(u',()))∧r∈l∧yD u':=by
 unfold yp
 obtain ⟨r1,u1,e1,q1,d1⟩:=yy u (l.length:Int) h
 have hp:0 < l.length:=List.length_pos_iff.2 hl
 have hr:=q1.2.1 (by omega)
 simp only [e1,zkc,zjD.2 ⟨q1.1,hr⟩,cond_true]
 refine ⟨_,_,rfl,?_,d1⟩
 have:r1.toNat < l.length:=by have:=q1.1; omega
 unfold nth
 rw [List.getD_eq_getElem?_getD,List.getElem?_eq_getElem this,Option.getD_some]
 exact List.getElem_mem this
end
section
def yJy:Code:=(Tryz.f217.body).getD .skip
def yJR:Env:=zj2 TT [(150,yz)] []
theorem yS3:FrOk Tryz.prog ⟨yJR,10,fun _=>none⟩ yJy:=zj6 yc yd ⟨yM,trivial⟩
def yVg:Nat→Option Seg:=fun _=>none
abbrev ypn:List Par:= [.pt tU .fz]
abbrev yuV:List OT:= [⟨false,tG,(.pr .fz .fz)⟩]
def ygy (a0:dU):Option (ResD yuV×MutD ypn) :=
 bnd (ye a0 3) fun r1 =>
 bnd (ye r1.2.1 8) fun r2 =>
 some ((((IntKind.i64.wrap (3+r1.1.1)),(IntKind.i64.wrap (1+r2.1.1))),()),(r2.2.1,()))
theorem yZQ (x:InD ypn):zjx ⟨yJR,10,yVg⟩ Tryz.f217.results.toList yJy ypn yuV x=ygy x.1:=by kernel_rfl
theorem yWT:ConOk Tryz.prog 217 ⟨ypn,yuV,fun x=>ygy x.1⟩:=zj1 (yS3) Tryz.func217 (by kernel_rfl) (by kernel_rfl) Tryz.ntmps217.symm (by decide) (fun x r h=>(yZQ x).trans h)
def yGr:Con:=⟨ypn,yuV,fun x=>ygy x.1⟩
theorem yY9:ConOk Tryz.prog 217 yGr:=yWT
theorem y2S (u:List Int×Int×Int) (h:yD u): ∃ (g:Int×Int) (u':List Int×Int×Int),ygy u=some ((g,()),(u',()))∧yb g=true∧yD u':=by
 unfold ygy
 obtain ⟨r1,u1,e1,q1,d1⟩:=yy u 3 h
 obtain ⟨r2,u2,e2,q2,d2⟩:=yy u1 8 d1
 simp only [e1,e2,zkc]
 refine ⟨_,_,rfl,?_,d2⟩
 have:=q1.2.1 (by omega); have:=q2.2.1 (by omega); have:=q1.1; have:=q2.1
 rw [wr (by omega) (by omega),wr (by omega) (by omega)]
 exact yi.2 ⟨⟨by show 3≤3+r1; omega,by show 3+r1≤5; omega⟩,by show 1≤1+r2; omega,by show 1+r2≤8; omega⟩
end
section
def yJx:Code:=(Tryz.f125.body).getD .skip
def yJQ:Env:=zj2 TT [(124,ycn),(150,yz),(217,yGr)] []
theorem yS2:FrOk Tryz.prog ⟨yJQ,21,fun _=>none⟩ yJx:=zj6 yc yd ⟨yfu,yM,yY9,trivial⟩
def yVf:Nat→Option Seg:=fun _=>none
abbrev ypm:List Par:= [.pt tU .fz]
abbrev yuU:List OT:= [⟨false,tG,(.pr .fz .fz)⟩]
def ycu (a0:dU):Option (ResD yuU×MutD ypm) :=
 bnd (ygy a0) fun r1 =>
 bnd (ye r1.2.1 8) fun r2 =>
 bif (r2.1.1==0) then
 bnd (yp r2.2.1 ([0,2,6,(-1)]:List Int)) fun r3 =>
 some (((r3.1.1,r1.1.1.2),()),(r3.2.1,()))
 else
 bif (r2.1.1==1) then
 bnd (yp r2.2.1 ([0,9,(-1)]:List Int)) fun r4 =>
 some (((r1.1.1.1,r4.1.1),()),(r4.2.1,()))
 else
 some ((r1.1.1,()),(r2.2.1,()))
theorem yZP (x:InD ypm):zjx ⟨yJQ,21,yVf⟩ Tryz.f125.results.toList yJx ypm yuU x=ycu x.1:=by kernel_rfl
theorem yWS:ConOk Tryz.prog 125 ⟨ypm,yuU,fun x=>ycu x.1⟩:=zj1 (yS2) Tryz.func125 (by kernel_rfl) (by kernel_rfl) Tryz.ntmps125.symm (by decide) (fun x r h=>(yZP x).trans h)
def yw1:Con:=⟨ypm,yuU,fun x=>ycu x.1⟩
theorem yIw:ConOk Tryz.prog 125 yw1:=yWS
def GS (g:dG):Prop:=(-1000≤g.1∧g.1≤1000)∧ -1000≤g.2∧g.2≤1000
theorem y2u {g:dG} (h:yb g=true):GS g:=by
 have:=yi.1 h
 unfold GS
 omega
theorem yXD (u:dU) (h:yD u): ∃ (g:dG) (u':dU),ycu u=some ((g,()),(u',()))∧GS g∧yD u':=by
 unfold ycu
 obtain ⟨g,u1,e1,q1,d1⟩:=y2S u h
 obtain ⟨r,u2,e2,_,d2⟩:=yy u1 8 d1
 have hq:=y2u q1
 simp only [e1,e2,zkc]
 cases (r==0)
 ·cases (r==1)
  ·exact ⟨_,_,rfl,hq,d2⟩
  ·obtain ⟨r3,u3,e3,q3,d3⟩:=yi3 u2 [0,9,(-1)] d2 (by simp)
   simp only [cond_true,cond_false,e3,zkc]
   simp only [List.mem_cons,List.not_mem_nil,or_false]at q3
   exact ⟨_,_,rfl,⟨hq.1,by show -1000≤r3∧r3≤1000; omega⟩,d3⟩
 ·obtain ⟨r3,u3,e3,q3,d3⟩:=yi3 u2 [0,2,6,(-1)] d2 (by simp)
  simp only [cond_true,e3,zkc]
  simp only [List.mem_cons,List.not_mem_nil,or_false]at q3
  exact ⟨_,_,rfl,⟨by show -1000≤r3∧r3≤1000; omega,hq.2⟩,d3⟩
theorem y1Z (u:dU) (h:yD u): ∃ (g:dG) (u':dU),ycu u=some ((g,()),(u',()))∧yD u':=by
 obtain ⟨g,u',e,_,d⟩:=yXD u h
 exact ⟨g,u',e,d⟩
end
section
def yy7:Code:=(Tryz.f41.body).getD .skip
def yzs:Env:=zj2 TT [(94,yqy),(124,ycn),(125,yw1)] []
theorem yGZ:FrOk Tryz.prog ⟨yzs,12,fun _=>none⟩ yy7:=zj6 yc yd ⟨yyV,yfu,yIw,trivial⟩
def yIC:Nat→Option Seg:=fun _=>none
abbrev yfz:List Par:= [.kp tYs .fz]
abbrev yjy:List OT:= [⟨false,tI,.fz⟩,⟨false,tG,(.pr .fz .fz)⟩]
def ybD (a0:List Int):Option (ResD yjy×MutD yfz) :=
 let r1:=yeI a0
 bnd (yp r1 ([1,60000,0,60001]:List Int)) fun r2 =>
 bnd (ycu r2.2.1) fun r3 =>
 some ((r2.1.1,r3.1.1,()),())
theorem yMa (x:InD yfz):zjx ⟨yzs,12,yIC⟩ Tryz.f41.results.toList yy7 yfz yjy x=ybD x.1:=by kernel_rfl
theorem yJa:ConOk Tryz.prog 41 ⟨yfz,yjy,fun x=>ybD x.1⟩:=zj1 (yGZ) Tryz.func41 (by kernel_rfl) (by kernel_rfl) Tryz.ntmps41.symm (by decide) (fun x r h=>(yMa x).trans h)
def ywg:Con:=⟨yfz,yjy,fun x=>ybD x.1⟩
theorem yLg:ConOk Tryz.prog 41 ywg:=yJa
end
section
def yHM:Code:=(Tryz.f139.body).getD .skip
def yIj:Env:=zj2 TT [] []
theorem yPi:FrOk Tryz.prog ⟨yIj,6,fun _=>none⟩ yHM:=zj6 yc yd trivial
def yRC:Nat→Option Seg:=fun _=>none
abbrev ymA:List Par:= [.rd tG]
abbrev ysD:List OT:= [⟨false,tI,.fz⟩]
def yvU (a0:dG):Option (ResD ysD×MutD ymA) :=
 some (((IntKind.i64.wrap (6+a0.2)),()),())
theorem yYt (x:InD ymA):zjx ⟨yIj,6,yRC⟩ Tryz.f139.results.toList yHM ymA ysD x=yvU x.1:=by kernel_rfl
theorem yUk:ConOk Tryz.prog 139 ⟨ymA,ysD,fun x=>yvU x.1⟩:=zj1 (yPi) Tryz.func139 (by kernel_rfl) (by kernel_rfl) Tryz.ntmps139.symm (by decide) (fun x r h=>(yYt x).trans h)
def ybY (a0:dG):Int :=
 (IntKind.i64.wrap (6+a0.2))
def yop:Con:=⟨ymA,ysD,fun x=>(fun n=>some ((n,()),())) (ybY x.1)⟩
theorem yWr (a0:dG):yvU a0=(fun n=>some ((n,()),())) (ybY a0):=zkp (p:=fun (n:Int)=>((n,()),())) rfl
theorem yw9:ConOk Tryz.prog 139 yop:=(yUk).mono (fun x r _ h=>(yWr x.1).trans h)
end
end
end Go.Tf
