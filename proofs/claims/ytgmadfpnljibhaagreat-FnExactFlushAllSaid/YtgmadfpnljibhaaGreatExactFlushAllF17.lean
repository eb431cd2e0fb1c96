/- Functions of the program, and what they come to. -/
import Derived.Test.YtgmadfpnljibhaaGreatExactFlushAllF16
namespace Go.Tf
noncomputable section
open Go.Proofs
set_option synthInstance.maxHeartbeats 400000
set_option synthInstance.maxSize 10000
set_option linter.unusedVariables false
set_option linter.unusedSimpArgs false
set_option maxRecDepth 100000
section
def yJj:Code:=(Tryz.f279.body).getD .skip
def yJI:Env:=zki TT [] []
theorem yQM:FrOk Tryz.prog ⟨yJI,12,fun _=>none⟩ yJj:=zkp yb yc trivial
def yTp:Nat→Option Seg:=fun _=>none
abbrev yne:List Par:= [.rd tL,.rd tI]
abbrev ytj:List OT:= [⟨false,tI,.fz⟩]
def ywP (a0:List Int) (a1:Int):Option (ResD ytj×MutD yne) :=
 bif (ltb (IntKind.i64.wrap (a1 - (a0.length:Int))) 0) then
 some (((-1),()),())
 else
 some (((IntKind.i64.wrap (a1 - (a0.length:Int))),()),())
theorem y0s (x:InD yne):zjH ⟨yJI,12,yTp⟩ Tryz.f279.results.toList yJj yne ytj x=ywP x.1 x.2.1:=by kernel_rfl
theorem yV0:ConOk Tryz.prog 279 ⟨yne,ytj,fun x=>ywP x.1 x.2.1⟩:=zkh (yQM) Tryz.func279 (by kernel_rfl) (by kernel_rfl) Tryz.ntmps279.symm (by decide) (fun x r h=>(y0s x).trans h)
def yj (a0:List Int) (a1:Int):Int :=
 bif (ltb (IntKind.i64.wrap (a1 - (a0.length:Int))) 0) then
 (-1)
 else
 (IntKind.i64.wrap (a1 - (a0.length:Int)))
def yjh:Con:=⟨yne,ytj,fun x=>(fun n=>some ((n,()),())) (yj x.1 x.2.1)⟩
theorem yYm (a0:List Int) (a1:Int):ywP a0 a1=(fun n=>some ((n,()),())) (yj a0 a1):=zkS (p:=fun (n:Int)=>((n,()),())) (zkx (p:=fun (n:Int)=>((n,()),())) rfl rfl)
theorem yrz:ConOk Tryz.prog 279 yjh:=(yV0).mono (fun x r _ h=>(yYm x.1 x.2.1).trans h)
theorem yGS {a:List Int} {k:Int} (hk:0≤k) (hk2:k≤1048576) (ha:a.length≤17592186044416) (h: ¬ yj a k < 0):(a.length:Int)≤k∧yj a k=k - a.length:=by
 unfold yj at h ⊢
 rw [wr (by omega) (by omega)] at h ⊢
 by_cases h1:k - (a.length:Int) < 0
 ·rw [zjI h1]at h; exact absurd (show (-1:Int) < 0 by omega) h
 ·rw [zkm (Int.not_lt.1 h1)]; exact ⟨by omega,rfl⟩
end
section
def ykE:Code:=(Tryz.f277.body).getD .skip
def yqX:Env:=zki TT [(279,yjh)] []
theorem yOk:FrOk Tryz.prog ⟨yqX,27,fun _=>none⟩ ykE:=zkp yb yc ⟨yrz,trivial⟩
def yC0:Nat→Option Seg:=fun _=>none
def ydl:Shape:=⟨[(0,false,[.br tL]),(1,false,[.int .i64]),(5,false,[.int .i64])],[],[]⟩
def yjR:Shape:=⟨[(0,false,[.br tL]),(1,false,[.int .i64]),(5,false,[.ci .i64 0])],[],[]⟩
def yjK:Shape:=⟨[(1,false,[.int .i64])],[],[]⟩
def yj4:Shape:=⟨[(4,false,[.int .i64])],[],[]⟩
def yqK (v0:List (List Int)) (v1 v2:Int):Option ((ydl).X ⊕ ((yjK).X ⊕ (yj4).X)) :=
 bif (ltb v2 (v0.length:Int)) then
 bif (inb v2 v0.length) then
 let r2:=yj (nth v0 v2 []) v1
 bif (ltb r2 0) then
 some (.inr (.inr ((((-1),()),()),(),())))
 else
 some (.inl (((v0,()),(r2,()),((IntKind.i64.wrap (v2+1)),()),()),(),()))
 else none
 else
 some (.inr (.inl (((v1,()),()),(),())))
def ybM (x:(ydl).X):=yqK x.1.1.1 x.1.2.1.1 x.1.2.2.1.1
def yzw (x:(yjR).X):(ydl).X:=(((x.1.1.1,()),(x.1.2.1.1,()),(0,()),()),(),())
def yBi:Code:=(zdI ykE 64 244).getD .skip
theorem yNN:zdI ykE 64 61=some (.block 0 (.loop yBi)):=by kernel_rfl
theorem yPv (x:(ydl).X):zg7 ⟨yqX,27,yC0⟩ 0 yBi 244 ydl yjK yj4 x=ybM x:=by kernel_rfl
def yzM (x:(yjR).X):Nat:=18446744073709551616
def yrZ (x:(yjR).X):Option ((yjK).X ⊕ (yj4).X):=zr ybM (yzM x) (yzw x)
def yAb:Seg:=⟨yjR,yjK,yj4,yrZ⟩
def yC1:Nat→Option Seg:=fun q=>bif Nat.beq q 61 then some yAb else yC0 q
theorem yOl:FrOk Tryz.prog ⟨yqX,27,yC1⟩ ykE:=(yOk).loop (sg:=yAb) ydl yzw (by decide) yNN ybM yzM (by decide) (fun _=>rfl) (fun x r _ h=>h) yPv
abbrev ygs:List Par:= [.rd tLL,.rd tI]
abbrev yrf:List OT:= [⟨false,tI,.fz⟩]
def ymF (a0:List (List Int)) (a1:Int):Option (ResD yrf×MutD ygs) :=
 bif (ltb (IntKind.i64.wrap (a1 - (a0.length:Int))) 0) then
 some (((-1),()),())
 else
 zjw (yrZ (((a0,()),((IntKind.i64.wrap (a1 - (a0.length:Int))),()),((),()),()),(),())) (fun y2 =>
 some ((y2.1.1.1,()),())) (fun y2 =>
 some ((y2.1.1.1,()),()))
theorem yXJ (x:InD ygs):zjH ⟨yqX,27,yC1⟩ Tryz.f277.results.toList ykE ygs yrf x=ymF x.1 x.2.1:=by kernel_rfl
theorem ySp:ConOk Tryz.prog 277 ⟨ygs,yrf,fun x=>ymF x.1 x.2.1⟩:=zkh (yOl) Tryz.func277 (by kernel_rfl) (by kernel_rfl) Tryz.ntmps277.symm (by decide) (fun x r h=>(yXJ x).trans h)
def yaa (a0:List (List Int)) (a1:Int):Int:=bif ltb (IntKind.i64.wrap (a1 - (a0.length:Int))) 0 then (-1) else (szG yj a0 (IntKind.i64.wrap (a1 - (a0.length:Int)))).getD (-1)
theorem yVz (a0:List (List Int)) (a1:Int) (hk:zi9 ygs (a0,a1,())):ymF a0 a1=(fun n=>some ((n,()),())) (yaa a0 a1):=by
 have hb:a0.length * 24≤2 ^ 47:=hk.1.1
 have hl: ∀ k:Int,yrZ (((a0,()),(k,()),((),()),()),(),())=some (match szG yj a0 k with | some r=> .inl (((r,()),()),(),()) | none=> .inr ((((-1),()),()),(),())):=fun k =>
  zkG (step:=ybM) a0 ([]:List Int) (fun i k=>(((a0,()),(k,()),((i:Int),()),()),(),())) yj (fun r=> .inl (((r,()),()),(),())) (.inr ((((-1),()),()),(),())) (fun i s hi=>by
   simp only [ybM,yqK,zkO hi,zjW,Int.toNat_natCast,zjI (show (i:Int) < a0.length by omega),cond_true,wr (show -9223372036854775808≤(i:Int)+1 by omega) (by omega),Int.natCast_add,Int.natCast_one,zkV]
   cases ltb (yj (a0.getD i []) s) 0<;>rfl) (fun s=>by simp only [ybM,yqK,zkm (Int.le_refl _),cond_false]) k _ (by show _ < 18446744073709551616; omega)
 unfold ymF yaa
 rw [hl]
 cases ltb (IntKind.i64.wrap (a1 - (a0.length:Int))) 0
 ·cases szG yj a0 (IntKind.i64.wrap (a1 - (a0.length:Int)))<;>rfl
 ·rfl
def yDF:Con:=⟨ygs,yrf,fun x=>(fun n=>some ((n,()),())) (yaa x.1 x.2.1)⟩
theorem yWv:ConOk Tryz.prog 277 yDF:=(ySp).mono (fun x r hk h=>(yVz x.1 x.2.1 hk).trans h)
end
section
def yPD:Code:=(Tryz.f291.body).getD .skip
def yPI:Env:=zki TT [(279,yjh)] []
theorem yXX:FrOk Tryz.prog ⟨yPI,12,fun _=>none⟩ yPD:=zkp yb yc ⟨yrz,trivial⟩
def yZ8:Nat→Option Seg:=fun _=>none
abbrev ysE:List Par:= [.rd tW,.rd tI]
abbrev yyD:List OT:= [⟨false,tI,.fz⟩]
def yAA (a0:dW) (a1:Int):Option (ResD yyD×MutD ysE) :=
 let r1:=yj a0.2 a1
 bif (ltb r1 0) then
 some (((-1),()),())
 else
 some ((r1,()),())
theorem y3a (x:InD ysE):zjH ⟨yPI,12,yZ8⟩ Tryz.f291.results.toList yPD ysE yyD x=yAA x.1 x.2.1:=by kernel_rfl
theorem y1q:ConOk Tryz.prog 291 ⟨ysE,yyD,fun x=>yAA x.1 x.2.1⟩:=zkh (yXX) Tryz.func291 (by kernel_rfl) (by kernel_rfl) Tryz.ntmps291.symm (by decide) (fun x r h=>(y3a x).trans h)
def yer (a0:dW) (a1:Int):Int :=
 let r1:=yj a0.2 a1
 bif (ltb r1 0) then
 (-1)
 else
 r1
def yJU:Con:=⟨ysE,yyD,fun x=>(fun n=>some ((n,()),())) (yer x.1 x.2.1)⟩
theorem y2R (a0:dW) (a1:Int):yAA a0 a1=(fun n=>some ((n,()),())) (yer a0 a1):=zkS (p:=fun (n:Int)=>((n,()),())) (zkx (p:=fun (n:Int)=>((n,()),())) rfl rfl)
theorem y2X:ConOk Tryz.prog 291 yJU:=(y1q).mono (fun x r _ h=>(y2R x.1 x.2.1).trans h)
end
section
def ypC:Code:=(Tryz.f278.body).getD .skip
def yu8:Env:=zki TT [(291,yJU)] []
theorem yUG:FrOk Tryz.prog ⟨yu8,27,fun _=>none⟩ ypC:=zkp yb yc ⟨y2X,trivial⟩
def yHk:Nat→Option Seg:=fun _=>none
def yfc:Shape:=⟨[(0,false,[.br tW]),(1,false,[.int .i64]),(5,false,[.int .i64])],[],[]⟩
def yox:Shape:=⟨[(0,false,[.br tW]),(1,false,[.int .i64]),(5,false,[.ci .i64 0])],[],[]⟩
def you:Shape:=⟨[(1,false,[.int .i64])],[],[]⟩
def yoV:Shape:=⟨[(4,false,[.int .i64])],[],[]⟩
def yuE (v0:List dW) (v1 v2:Int):Option ((yfc).X ⊕ ((you).X ⊕ (yoV).X)) :=
 bif (ltb v2 (v0.length:Int)) then
 bif (inb v2 v0.length) then
 let r2:=yer (nth v0 v2 (0,[])) v1
 bif (ltb r2 0) then
 some (.inr (.inr ((((-1),()),()),(),())))
 else
 some (.inl (((v0,()),(r2,()),((IntKind.i64.wrap (v2+1)),()),()),(),()))
 else none
 else
 some (.inr (.inl (((v1,()),()),(),())))
def ydy (x:(yfc).X):=yuE x.1.1.1 x.1.2.1.1 x.1.2.2.1.1
def yDU (x:(yox).X):(yfc).X:=(((x.1.1.1,()),(x.1.2.1.1,()),(0,()),()),(),())
def yF3:Code:=(zdI ypC 64 244).getD .skip
theorem yTG:zdI ypC 64 61=some (.block 0 (.loop yF3)):=by kernel_rfl
theorem yWO (x:(yfc).X):zg7 ⟨yu8,27,yHk⟩ 0 yF3 244 yfc you yoV x=ydy x:=by kernel_rfl
def yEb (x:(yox).X):Nat:=18446744073709551616
def yvl (x:(yox).X):Option ((you).X ⊕ (yoV).X):=zr ydy (yEb x) (yDU x)
def yEM:Seg:=⟨yox,you,yoV,yvl⟩
def yHl:Nat→Option Seg:=fun q=>bif Nat.beq q 61 then some yEM else yHk q
theorem yUH:FrOk Tryz.prog ⟨yu8,27,yHl⟩ ypC:=(yUG).loop (sg:=yEM) yfc yDU (by decide) yTG ydy yEb (by decide) (fun _=>rfl) (fun x r _ h=>h) yWO
abbrev ykW:List Par:= [.rd tWs,.rd tI]
abbrev yvK:List OT:= [⟨false,tI,.fz⟩]
def yrF (a0:List dW) (a1:Int):Option (ResD yvK×MutD ykW) :=
 bif (ltb (IntKind.i64.wrap (a1 - (a0.length:Int))) 0) then
 some (((-1),()),())
 else
 zjw (yvl (((a0,()),((IntKind.i64.wrap (a1 - (a0.length:Int))),()),((),()),()),(),())) (fun y2 =>
 some ((y2.1.1.1,()),())) (fun y2 =>
 some ((y2.1.1.1,()),()))
theorem y2l (x:InD ykW):zjH ⟨yu8,27,yHl⟩ Tryz.f278.results.toList ypC ykW yvK x=yrF x.1 x.2.1:=by kernel_rfl
theorem yYZ:ConOk Tryz.prog 278 ⟨ykW,yvK,fun x=>yrF x.1 x.2.1⟩:=zkh (yUH) Tryz.func278 (by kernel_rfl) (by kernel_rfl) Tryz.ntmps278.symm (by decide) (fun x r h=>(y2l x).trans h)
def ybW (a0:List (dW)) (a1:Int):Int:=bif ltb (IntKind.i64.wrap (a1 - (a0.length:Int))) 0 then (-1) else (szG yer a0 (IntKind.i64.wrap (a1 - (a0.length:Int)))).getD (-1)
theorem y06 (a0:List (dW)) (a1:Int) (hk:zi9 ykW (a0,a1,())):yrF a0 a1=(fun n=>some ((n,()),())) (ybW a0 a1):=by
 have hb:a0.length * 32≤2 ^ 47:=hk.1.1
 have hl: ∀ k:Int,yvl (((a0,()),(k,()),((),()),()),(),())=some (match szG yer a0 k with | some r=> .inl (((r,()),()),(),()) | none=> .inr ((((-1),()),()),(),())):=fun k =>
  zkG (step:=ydy) a0 ((0,[]):dW) (fun i k=>(((a0,()),(k,()),((i:Int),()),()),(),())) yer (fun r=> .inl (((r,()),()),(),())) (.inr ((((-1),()),()),(),())) (fun i s hi=>by
   simp only [ydy,yuE,zkO hi,zjW,Int.toNat_natCast,zjI (show (i:Int) < a0.length by omega),cond_true,wr (show -9223372036854775808≤(i:Int)+1 by omega) (by omega),Int.natCast_add,Int.natCast_one,zkV]
   cases ltb (yer (a0.getD i (0,[])) s) 0<;>rfl) (fun s=>by simp only [ydy,yuE,zkm (Int.le_refl _),cond_false]) k _ (by show _ < 18446744073709551616; omega)
 unfold yrF ybW
 rw [hl]
 cases ltb (IntKind.i64.wrap (a1 - (a0.length:Int))) 0
 ·cases szG yer a0 (IntKind.i64.wrap (a1 - (a0.length:Int)))<;>rfl
 ·rfl
def yHX:Con:=⟨ykW,yvK,fun x=>(fun n=>some ((n,()),())) (ybW x.1 x.2.1)⟩
theorem y1F:ConOk Tryz.prog 278 yHX:=(yYZ).mono (fun x r hk h=>(y06 x.1 x.2.1 hk).trans h)
end
section
def yKW:Code:=(Tryz.f249.body).getD .skip
def yLl:Env:=zki TT [(277,yDF),(278,yHX),(279,yjh)] []
theorem yUF:FrOk Tryz.prog ⟨yLl,24,fun _=>none⟩ yKW:=zkp yb yc ⟨yWv,y1F,yrz,trivial⟩
def yXd:Nat→Option Seg:=fun _=>none
abbrev yp9:List Par:= [.rd tM,.rd tI]
abbrev yvJ:List OT:= [⟨false,tI,.fz⟩]
def yyq (a0:dM) (a1:Int):Option (ResD yvJ×MutD yp9) :=
 let r1:=yaa a0.1 a1
 bif (ltb r1 0) then
 some (((-1),()),())
 else
 let r2:=ybW a0.2.1 r1
 bif (ltb r2 0) then
 some (((-1),()),())
 else
 let r3:=yj a0.2.2.2 r2
 bif (ltb r3 0) then
 some (((-1),()),())
 else
 some ((r3,()),())
theorem y2k (x:InD yp9):zjH ⟨yLl,24,yXd⟩ Tryz.f249.results.toList yKW yp9 yvJ x=yyq x.1 x.2.1:=by kernel_rfl
theorem yYY:ConOk Tryz.prog 249 ⟨yp9,yvJ,fun x=>yyq x.1 x.2.1⟩:=zkh (yUF) Tryz.func249 (by kernel_rfl) (by kernel_rfl) Tryz.ntmps249.symm (by decide) (fun x r h=>(y2k x).trans h)
def ya0 (a0:dM) (a1:Int):Int :=
 let r1:=yaa a0.1 a1
 bif (ltb r1 0) then
 (-1)
 else
 let r2:=ybW a0.2.1 r1
 bif (ltb r2 0) then
 (-1)
 else
 let r3:=yj a0.2.2.2 r2
 bif (ltb r3 0) then
 (-1)
 else
 r3
def yHW:Con:=⟨yp9,yvJ,fun x=>(fun n=>some ((n,()),())) (ya0 x.1 x.2.1)⟩
theorem y05 (a0:dM) (a1:Int):yyq a0 a1=(fun n=>some ((n,()),())) (ya0 a0 a1):=zkS (p:=fun (n:Int)=>((n,()),())) (zkx (p:=fun (n:Int)=>((n,()),())) rfl (zkx (p:=fun (n:Int)=>((n,()),())) rfl (zkx (p:=fun (n:Int)=>((n,()),())) rfl rfl)))
theorem y1E:ConOk Tryz.prog 249 yHW:=(yYY).mono (fun x r _ h=>(y05 x.1 x.2.1).trans h)
end
section
def ymW:Code:=(Tryz.f187.body).getD .skip
def ysU:Env:=zki TT [(249,yHW)] []
theorem yQN:FrOk Tryz.prog ⟨ysU,27,fun _=>none⟩ ymW:=zkp yb yc ⟨y1E,trivial⟩
def yFo:Nat→Option Seg:=fun _=>none
def yea:Shape:=⟨[(0,false,[.br tM]),(1,false,[.int .i64]),(5,false,[.int .i64])],[],[]⟩
def yl1:Shape:=⟨[(0,false,[.br tM]),(1,false,[.int .i64]),(5,false,[.ci .i64 0])],[],[]⟩
def ylT:Shape:=⟨[(1,false,[.int .i64])],[],[]⟩
def ymd:Shape:=⟨[(4,false,[.int .i64])],[],[]⟩
def ysq (v0:List dM) (v1 v2:Int):Option ((yea).X ⊕ ((ylT).X ⊕ (ymd).X)) :=
 bif (ltb v2 (v0.length:Int)) then
 bif (inb v2 v0.length) then
 let r2:=ya0 ((nth v0 v2 ([],[],false,[])).1,((nth v0 v2 ([],[],false,[])).2).1,(((nth v0 v2 ([],[],false,[])).2).2)) v1
 bif (ltb r2 0) then
 some (.inr (.inr ((((-1),()),()),(),())))
 else
 some (.inl (((v0,()),(r2,()),((IntKind.i64.wrap (v2+1)),()),()),(),()))
 else none
 else
 some (.inr (.inl (((v1,()),()),(),())))
def ycA (x:(yea).X):=ysq x.1.1.1 x.1.2.1.1 x.1.2.2.1.1
def yBJ (x:(yl1).X):(yea).X:=(((x.1.1.1,()),(x.1.2.1.1,()),(0,()),()),(),())
def yDl:Code:=(zdI ymW 64 244).getD .skip
theorem yP8:zdI ymW 64 61=some (.block 0 (.loop yDl)):=by kernel_rfl
theorem ySY (x:(yea).X):zg7 ⟨ysU,27,yFo⟩ 0 yDl 244 yea ylT ymd x=ycA x:=by kernel_rfl
def yBY (x:(yl1).X):Nat:=18446744073709551616
def ytU (x:(yl1).X):Option ((ylT).X ⊕ (ymd).X):=zr ycA (yBY x) (yBJ x)
def yCh:Seg:=⟨yl1,ylT,ymd,ytU⟩
def yFp:Nat→Option Seg:=fun q=>bif Nat.beq q 61 then some yCh else yFo q
theorem yQO:FrOk Tryz.prog ⟨ysU,27,yFp⟩ ymW:=(yQN).loop (sg:=yCh) yea yBJ (by decide) yP8 ycA yBY (by decide) (fun _=>rfl) (fun x r _ h=>h) ySY
abbrev yhG:List Par:= [.rd tMs,.rd tI]
abbrev ytk:List OT:= [⟨false,tI,.fz⟩]
def ypk (a0:List dM) (a1:Int):Option (ResD ytk×MutD yhG) :=
 bif (ltb (IntKind.i64.wrap (a1 - (a0.length:Int))) 0) then
 some (((-1),()),())
 else
 zjw (ytU (((a0,()),((IntKind.i64.wrap (a1 - (a0.length:Int))),()),((),()),()),(),())) (fun y2 =>
 some ((y2.1.1.1,()),())) (fun y2 =>
 some ((y2.1.1.1,()),()))
theorem y0t (x:InD yhG):zjH ⟨ysU,27,yFp⟩ Tryz.f187.results.toList ymW yhG ytk x=ypk x.1 x.2.1:=by kernel_rfl
theorem yV1:ConOk Tryz.prog 187 ⟨yhG,ytk,fun x=>ypk x.1 x.2.1⟩:=zkh (yQO) Tryz.func187 (by kernel_rfl) (by kernel_rfl) Tryz.ntmps187.symm (by decide) (fun x r h=>(y0t x).trans h)
def ya6 (a0:List (dM)) (a1:Int):Int:=bif ltb (IntKind.i64.wrap (a1 - (a0.length:Int))) 0 then (-1) else (szG ya0 a0 (IntKind.i64.wrap (a1 - (a0.length:Int)))).getD (-1)
theorem yYn (a0:List (dM)) (a1:Int) (hk:zi9 yhG (a0,a1,())):ypk a0 a1=(fun n=>some ((n,()),())) (ya6 a0 a1):=by
 have hb:a0.length * 80≤2 ^ 47:=hk.1.1
 have hl: ∀ k:Int,ytU (((a0,()),(k,()),((),()),()),(),())=some (match szG ya0 a0 k with | some r=> .inl (((r,()),()),(),()) | none=> .inr ((((-1),()),()),(),())):=fun k =>
  zkG (step:=ycA) a0 (([],[],false,[]):dM) (fun i k=>(((a0,()),(k,()),((i:Int),()),()),(),())) ya0 (fun r=> .inl (((r,()),()),(),())) (.inr ((((-1),()),()),(),())) (fun i s hi=>by
   simp only [ycA,ysq,zkO hi,zjW,Int.toNat_natCast,zjI (show (i:Int) < a0.length by omega),cond_true,wr (show -9223372036854775808≤(i:Int)+1 by omega) (by omega),Int.natCast_add,Int.natCast_one,zkV]
   cases ltb (ya0 (a0.getD i ([],[],false,[])) s) 0<;>rfl) (fun s=>by simp only [ycA,ysq,zkm (Int.le_refl _),cond_false]) k _ (by show _ < 18446744073709551616; omega)
 unfold ypk ya6
 rw [hl]
 cases ltb (IntKind.i64.wrap (a1 - (a0.length:Int))) 0
 ·cases szG ya0 a0 (IntKind.i64.wrap (a1 - (a0.length:Int)))<;>rfl
 ·rfl
def yGn:Con:=⟨yhG,ytk,fun x=>(fun n=>some ((n,()),())) (ya6 x.1 x.2.1)⟩
theorem yZs:ConOk Tryz.prog 187 yGn:=(yV1).mono (fun x r hk h=>(yYn x.1 x.2.1 hk).trans h)
def mSz (m:dM):Nat:=(m.1.length+(m.1.map (fun x:List Int=>x.length)).sum)+(m.2.1.length+(m.2.1.map (fun x:dW=>x.2.length)).sum)+m.2.2.2.length
theorem y4V (m:dM):yr9 m≤1+mSz m:=by
 unfold yr9 mSz
 rw [yTa (fun x:dW=>x.2.length) 1]
 omega
theorem y4w {l:List dW} {k:Int} (h0:0≤k) (h1:k≤1048576) (hl:l.length * 32≤2 ^ 47) (hx: ∀ x∈l,x.2.length * 8≤2 ^ 47) (h:0≤ybW l k):((l.length+(l.map (fun x:dW=>x.2.length)).sum:Nat):Int)≤k - ybW l k∧ybW l k≤k :=
 yW1 (fun x hm k h0 h1 h=>by
  have:=hx x hm
  unfold yer at h ⊢
  by_cases h2:yj x.2 k < 0
  ·simp only [zjI h2,cond_true]at h; omega
  ·simp only [zkm (Int.not_lt.1 h2),cond_false]at h ⊢
   have:=yGS h0 h1 (by omega) h2
   omega) h0 h1 (by omega) h
theorem y3I {l:List (List Int)} {k:Int} (h0:0≤k) (h1:k≤1048576) (hl:l.length * 24≤2 ^ 47) (hx: ∀ x∈l,x.length * 8≤2 ^ 47) (h:0≤yaa l k):((l.length+(l.map (fun x:List Int=>x.length)).sum:Nat):Int)≤k - yaa l k∧yaa l k≤k :=
 yW1 (fun x hm k h0 h1 h=>by
  have:=hx x hm
  have:=yGS (a:=x) h0 h1 (by omega) (by omega)
  omega) h0 h1 (by omega) h
theorem y4v {m:dM} {k:Int} (h0:0≤k) (h1:k≤1048576) (hm:tM.Ok m) (h:0≤ya0 m k):(mSz m:Int)≤k∧ya0 m k≤k - mSz m:=by
 unfold ya0 at h ⊢
 by_cases c1:yaa m.1 k < 0
 ·simp only [zjI c1,cond_true]at h; omega
 simp only [zkm (Int.not_lt.1 c1),cond_false]at h ⊢
 have e1:=y3I h0 h1 hm.1.1 (fun x hx=>(hm.1.2 x hx).1) (Int.not_lt.1 c1)
 by_cases c2:ybW m.2.1 (yaa m.1 k) < 0
 ·simp only [zjI c2,cond_true]at h; omega
 simp only [zkm (Int.not_lt.1 c2),cond_false]at h ⊢
 have e2:=y4w (Int.not_lt.1 c1) (by omega) hm.2.1.1 (fun x hx=>(hm.2.1.2 x hx).2.1) (Int.not_lt.1 c2)
 by_cases c3:yj m.2.2.2 (ybW m.2.1 (yaa m.1 k)) < 0
 ·simp only [zjI c3,cond_true]at h; omega
 simp only [zkm (Int.not_lt.1 c3),cond_false]at h ⊢
 have e3:=yGS (a:=m.2.2.2) (Int.not_lt.1 c2) (by omega) (by have:m.2.2.2.length * 8≤2 ^ 47:=hm.2.2.2.1; omega) c3
 unfold mSz
 omega
theorem y39 {l:List dM} {k:Int} (h0:0≤k) (h1:k≤1048576) (hm:tMs.Ok l) (h:0≤ya6 l k):((l.length+(l.map mSz).sum:Nat):Int)≤k - ya6 l k∧ya6 l k≤k :=
 yW1 (fun x hx k h0 h1 h=>y4v h0 h1 (hm.2 x hx) h) h0 h1 (by have:l.length * 80≤2 ^ 47:=hm.1; omega) h
theorem y4r {l:List dM}:yo7 l≤l.length+(l.map mSz).sum:=by
 unfold yo7
 induction l with
 | nil=>simp
 | cons x l ih =>
  simp only [List.map_cons,List.sum_cons,List.length_cons]
  have:=y4V x
  omega
theorem y3Z {α:Type} {f:α→Nat} {x:α}: ∀ {l:List α},x∈l→f x≤(l.map f).sum
 | y::l,h=>by
  rw [List.map_cons,List.sum_cons]
  rcases List.mem_cons.1 h with rfl | h
  ·omega
  ·have:=y3Z (f:=f) h; omega
end
end
end Go.Tf
