/- Functions of the program, and what they come to. -/
import Derived.Test.YtgmadfpnljibhaaGreatBlocksBentF25
namespace Go.Tf
noncomputable section
open Go.Proofs
set_option synthInstance.maxHeartbeats 400000
set_option synthInstance.maxSize 10000
set_option linter.unusedVariables false
set_option linter.unusedSimpArgs false
set_option maxRecDepth 100000
section
def yNi:Code:=(Tryz.f209.body).getD .skip
def yNE:Env:=zj3 TT [(150,yz)] []
theorem yXX:FrOk Tryz.prog ⟨yNE,10,fun _=>none⟩ yNi:=zj7 yb yc ⟨yO,trivial⟩
def yZ8:Nat→Option Seg:=fun _=>none
abbrev yri:List Par:= [.pt tU .fz]
abbrev yxi:List OT:= [⟨false,tG,(.pr .fz .fz)⟩]
def yhH (a0:dU):Option (ResD yxi×MutD yri) :=
 bnd (yd a0 3) fun r1 =>
 bnd (yd r1.2.1 4) fun r2 =>
 some ((((IntKind.i64.wrap (3+r1.1.1)),(IntKind.i64.wrap (1+r2.1.1))),()),(r2.2.1,()))
theorem y4O (x:InD yri):zjx ⟨yNE,10,yZ8⟩ Tryz.f209.results.toList yNi yri yxi x=yhH x.1:=by kernel_rfl
theorem y1O:ConOk Tryz.prog 209 ⟨yri,yxi,fun x=>yhH x.1⟩:=zj2 (yXX) Tryz.func209 (by kernel_rfl) (by kernel_rfl) Tryz.ntmps209.symm (by decide) (fun x r h=>(y4O x).trans h)
def yJr:Con:=⟨yri,yxi,fun x=>yhH x.1⟩
theorem y4d:ConOk Tryz.prog 209 yJr:=y1O
theorem y6X (u:dU) (h:yG u): ∃ (g:dG) (u':dU),yhH u=some ((g,()),(u',()))∧yg g=true∧yG u':=by
 unfold yhH
 obtain ⟨r1,u1,e1,q1,d1⟩:=yA u 3 h
 obtain ⟨r2,u2,e2,q2,d2⟩:=yA u1 4 d1
 simp only [e1,e2,zkd]
 refine ⟨_,_,rfl,?_,d2⟩
 have:=q1.2.1 (by omega); have:=q2.2.1 (by omega); have:=q1.1; have:=q2.1
 rw [wr (by omega) (by omega),wr (by omega) (by omega)]
 exact yk.2 ⟨⟨by show 3≤3+r1; omega,by show 3+r1≤5; omega⟩,by show 1≤1+r2; omega,by show 1+r2≤8; omega⟩
end
section
def yGh:Code:=(Tryz.f105.body).getD .skip
def yGX:Env:=zj3 TT [(138,yqd),(139,yqf),(203,yqg)] []
theorem yOG:FrOk Tryz.prog ⟨yGX,27,fun _=>none⟩ yGh:=zj7 yb yc ⟨yzI,yzK,yzL,trivial⟩
def yP3:Nat→Option Seg:=fun _=>none
abbrev ydv:List Par:= [.pt tA (.pr .fz (.pr (.pr .fz .fz) (.pr (.ow (.pr (.ow .fz) (.pr (.ow (.pr .fz .fz)) (.pr .fz (.ow .fz))))) (.pr .fz (.pr .fz (.pr .fz (.pr .fz (.pr .fz (.pr (.ow (.pr .fz .fz)) (.pr .fz (.pr .fz .fz)))))))))))]
abbrev yj7:List OT:= [⟨false,tI,.fz⟩]
def ylA (a0:dA):Option (ResD yj7×MutD ydv) :=
 let r1:=ycB a0.2.1
 let r2:=ybA r1
 bif (inb a0.2.2.2.1 a0.2.2.1.length) then
 let r3:=yaH (a0.1,a0.2.1,(a0.2.2.1.set (a0.2.2.2.1).toNat r2),a0.2.2.2.1,0,a0.2.2.2.2.2)
 bif r3.2.2.2.2.2.2.2.2.2.2.1 then
 some ((6,()),(r3,()))
 else
 some ((0,()),(r3,()))
 else none
theorem yXe (x:InD ydv):zjx ⟨yGX,27,yP3⟩ Tryz.f105.results.toList yGh ydv yj7 x=ylA x.1:=by kernel_rfl
theorem yRS:ConOk Tryz.prog 105 ⟨ydv,yj7,fun x=>ylA x.1⟩:=zj2 (yOG) Tryz.func105 (by kernel_rfl) (by kernel_rfl) Tryz.ntmps105.symm (by decide) (fun x r h=>(yXe x).trans h)
def yqk (a0:dA):Int×dA:=(bif ye (markA (spareNew a0)) then 6 else 0,markA (spareNew a0))
def ykG (a0:dA):Bool:=yg a0.2.1&&inb a0.2.2.2.1 a0.2.2.1.length
theorem yUP (a0:dA) (hk:zi2 ydv (a0,())) (hq:ykG a0=true):ylA a0=(fun n=>some ((n.1,()),(n.2,()))) (yqk a0):=by
 simp only [ykG,Bool.and_eq_true]at hq
 have hg:=yk.1 hq.1
 unfold ylA yqk
 simp only [ycB,wr (show -9223372036854775808≤6+a0.2.1.2 by omega) (by omega),hq.2,ybA,yaH]
 show (bif ye (markA (spareNew a0)) then some ((6,()),(markA (spareNew a0),())) else some ((0,()),(markA (spareNew a0),())))=_
 cases ye (markA (spareNew a0))<;>rfl
def ykD (a0:dA):Option (ResD yj7×MutD ydv):=bif ykG a0 then (fun n=>some ((n.1,()),(n.2,()))) (yqk a0) else none
theorem yVy (a0:dA) (h:ykG a0=true):ykD a0=(fun n=>some ((n.1,()),(n.2,()))) (yqk a0):=by unfold ykD; rw [h]; rfl
def yCG:Con:=⟨ydv,yj7,fun x=>ykD x.1⟩
theorem yVw:ConOk Tryz.prog 105 yCG:=(yRS).mono (fun x r hk h=>zkt h (fun hq=>yUP x.1 hk hq))
end
section
def yIm:Code:=(Tryz.f109.body).getD .skip
def yI7:Env:=zj3 TT [(141,ydT),(206,yvk),(207,ymr)] []
theorem yQQ:FrOk Tryz.prog ⟨yI7,49,fun _=>none⟩ yIm:=zj7 yb yc ⟨yhC,yHM,yu0,trivial⟩
def ySA:Nat→Option Seg:=fun _=>none
abbrev yeW:List Par:= [.pt tA (.pr .fz (.pr (.pr .fz .fz) (.pr (.ow (.pr (.ow .fz) (.pr (.ow (.pr .fz .fz)) (.pr .fz (.ow .fz))))) (.pr .fz (.pr .fz (.pr .fz (.pr .fz (.pr .fz (.pr (.ow (.pr .fz .fz)) (.pr .fz (.pr .fz .fz)))))))))))]
abbrev ymg:List OT:= [⟨false,tI,.fz⟩]
def ynH (a0:dA):Option (ResD ymg×MutD yeW) :=
 bnd (ymO a0 a0.2.2.2.2.1) fun r1 =>
 bif (!r1.1.2.1) then
 some ((5,()),(a0,()))
 else
 let r2:=yaG a0.2.2.2.2.1
 bif (inb a0.2.2.2.1 r1.1.1.length) then
 bnd (yfM a0 a0.2.2.2.1 r2 ([(nth r1.1.1 a0.2.2.2.1 0)]:List Int)) fun r3 =>
 bif r3.2.1.2.2.2.2.2.2.2.2.2.2.1 then
 some ((6,()),(r3.2.1,()))
 else
 some ((0,()),((r3.2.1.1,r3.2.1.2.1,r3.2.1.2.2.1,r3.2.1.2.2.2.1,(IntKind.i64.wrap (r3.2.1.2.2.2.2.1+1)),r3.2.1.2.2.2.2.2),()))
 else none
theorem y0A (x:InD yeW):zjx ⟨yI7,49,ySA⟩ Tryz.f109.results.toList yIm yeW ymg x=ynH x.1:=by kernel_rfl
theorem yVa:ConOk Tryz.prog 109 ⟨yeW,ymg,fun x=>ynH x.1⟩:=zj2 (yQQ) Tryz.func109 (by kernel_rfl) (by kernel_rfl) Tryz.ntmps109.symm (by decide) (fun x r h=>(y0A x).trans h)
def ysC (a0:dA):Int×dA:=stepOne a0
def ymR (a0:dA):Bool:=yg a0.2.1&&(inb a0.2.2.2.1 a0.2.2.1.length&&inb a0.2.2.2.1 a0.2.1.1.toNat)
theorem yYv (a0:dA) (hk:zi2 yeW (a0,())) (hq:ymR a0=true):ynH a0=(fun n=>some ((n.1,()),(n.2,()))) (ysC a0):=by
 simp only [ymR,Bool.and_eq_true]at hq
 unfold ynH ysC stepOne
 rw [yHP a0 a0.2.2.2.2.1 hq.1]
 simp only [zkd,yhA,ye9]
 cases hw:(yal a0 a0.2.2.2.2.1).2
 ·rfl
 ·rw [yPF hw,hq.2.2,yoP a0 a0.2.2.2.1 (dataAt a0.2.2.2.2.1) [nth (yal a0 a0.2.2.2.2.1).1 a0.2.2.2.1 0] hq.2.1]
  simp only [zkd,yrK,Bool.not_true,cond_false,cond_true]
  show (bif ye (yjc a0) then some ((6,()),(yjc a0,())) else some ((0,()),(y6H (yjc a0),())))=_
  cases ye (yjc a0)<;>rfl
def ymN (a0:dA):Option (ResD ymg×MutD yeW):=bif ymR a0 then (fun n=>some ((n.1,()),(n.2,()))) (ysC a0) else none
theorem yZA (a0:dA) (h:ymR a0=true):ymN a0=(fun n=>some ((n.1,()),(n.2,()))) (ysC a0):=by unfold ymN; rw [h]; rfl
def yEy:Con:=⟨yeW,ymg,fun x=>ymN x.1⟩
theorem yZv:ConOk Tryz.prog 109 yEy:=(yVa).mono (fun x r hk h=>zkt h (fun hq=>yYv x.1 hk hq))
end
section
def yLi:Code:=(Tryz.f110.body).getD .skip
def yLP:Env:=zj3 TT [(150,yz)] []
theorem yTv:FrOk Tryz.prog ⟨yLP,9,fun _=>none⟩ yLi:=zj7 yb yc ⟨yO,trivial⟩
def yWe:Nat→Option Seg:=fun _=>none
abbrev yog:List Par:= [.pt tU .fz,.rd tI]
abbrev yuB:List OT:= [⟨false,tB,.fz⟩]
def yat (a0:dU) (a1:Int):Option (ResD yuB×MutD yog) :=
 bnd (yd a0 a1) fun r1 =>
 some (((r1.1.1==0),()),(r1.2.1,()))
theorem y3l (x:InD yog):zjx ⟨yLP,9,yWe⟩ Tryz.f110.results.toList yLi yog yuB x=yat x.1 x.2.1:=by kernel_rfl
theorem yY1:ConOk Tryz.prog 110 ⟨yog,yuB,fun x=>yat x.1 x.2.1⟩:=zj2 (yTv) Tryz.func110 (by kernel_rfl) (by kernel_rfl) Tryz.ntmps110.symm (by decide) (fun x r h=>(y3l x).trans h)
def yxC:Con:=⟨yog,yuB,fun x=>yat x.1 x.2.1⟩
theorem yJY:ConOk Tryz.prog 110 yxC:=yY1
theorem y0h (u:dU) (n:Int) (h:yG u): ∃ (r:Bool) (u':dU),yat u n=some ((r,()),(u',()))∧yG u':=by
 unfold yat
 obtain ⟨r,u1,e1,_,d1⟩:=yA u n h
 simp only [e1,zkd]
 exact ⟨_,_,rfl,d1⟩
end
section
def yNe:Code:=(Tryz.f124.body).getD .skip
def yNA:Env:=zj3 TT [(150,yz)] []
theorem yXL:FrOk Tryz.prog ⟨yNA,12,fun _=>none⟩ yNe:=zj7 yb yc ⟨yO,trivial⟩
def yZ4:Nat→Option Seg:=fun _=>none
abbrev yrc:List Par:= [.pt tU .fz,.rd tL]
abbrev yxa:List OT:= [⟨false,tI,.fz⟩]
def yr (a0:dU) (a1:List Int):Option (ResD yxa×MutD yrc) :=
 bnd (yd a0 (a1.length:Int)) fun r1 =>
 bif (inb r1.1.1 a1.length) then
 some (((nth a1 r1.1.1 0),()),(r1.2.1,()))
 else none
theorem y4G (x:InD yrc):zjx ⟨yNA,12,yZ4⟩ Tryz.f124.results.toList yNe yrc yxa x=yr x.1 x.2.1:=by kernel_rfl
theorem y1G:ConOk Tryz.prog 124 ⟨yrc,yxa,fun x=>yr x.1 x.2.1⟩:=zj2 (yXL) Tryz.func124 (by kernel_rfl) (by kernel_rfl) Tryz.ntmps124.symm (by decide) (fun x r h=>(y4G x).trans h)
def ybC:Con:=⟨yrc,yxa,fun x=>yr x.1 x.2.1⟩
theorem yey:ConOk Tryz.prog 124 ybC:=y1G
theorem ykr (u:List Int×Int×Int) (l:List Int) (h:yG u) (hl:l≠ []): ∃ (r:Int) (u':List Int×Int×Int),yr u l=some ((r,()),(u',()))∧r∈l∧yG u':=by
 unfold yr
 obtain ⟨r1,u1,e1,q1,d1⟩:=yA u (l.length:Int) h
 have hp:0 < l.length:=List.length_pos_iff.2 hl
 have hr:=q1.2.1 (by omega)
 simp only [e1,zkd,zjD.2 ⟨q1.1,hr⟩,cond_true]
 refine ⟨_,_,rfl,?_,d1⟩
 have:r1.toNat < l.length:=by have:=q1.1; omega
 unfold nth
 rw [List.getD_eq_getElem?_getD,List.getElem?_eq_getElem this,Option.getD_some]
 exact List.getElem_mem this
end
section
def yLh:Code:=(Tryz.f115.body).getD .skip
def yLO:Env:=zj3 TT [(124,ybC)] []
theorem yTu:FrOk Tryz.prog ⟨yLO,6,fun _=>none⟩ yLh:=zj7 yb yc ⟨yey,trivial⟩
def yWd:Nat→Option Seg:=fun _=>none
abbrev yof:List Par:= [.pt tU .fz]
abbrev yuA:List OT:= [⟨false,tI,.fz⟩]
def yai (a0:dU):Option (ResD yuA×MutD yof) :=
 bnd (yr a0 ([0,1,2,7,255,256,4660,65535]:List Int)) fun r1 =>
 some ((r1.1.1,()),(r1.2.1,()))
theorem y3k (x:InD yof):zjx ⟨yLO,6,yWd⟩ Tryz.f115.results.toList yLh yof yuA x=yai x.1:=by kernel_rfl
theorem yY0:ConOk Tryz.prog 115 ⟨yof,yuA,fun x=>yai x.1⟩:=zj2 (yTu) Tryz.func115 (by kernel_rfl) (by kernel_rfl) Tryz.ntmps115.symm (by decide) (fun x r h=>(y3k x).trans h)
def yxB:Con:=⟨yof,yuA,fun x=>yai x.1⟩
theorem yJX:ConOk Tryz.prog 115 yxB:=yY0
theorem y5H (u:List Int×Int×Int) (h:yG u): ∃ (r:Int) (u':List Int×Int×Int),yai u=some ((r,()),(u',()))∧ya r 0 65535=true∧yG u':=by
 unfold yai
 obtain ⟨r1,u1,e1,q1,d1⟩:=ykr u [0,1,2,7,255,256,4660,65535] h (by simp)
 simp only [e1,zkd]
 refine ⟨_,_,rfl,?_,d1⟩
 simp only [List.mem_cons,List.not_mem_nil,or_false]at q1
 exact y74 (by omega) (by omega)
end
end
end Go.Tf
