/- Functions of the program, and what they come to. -/
import Derived.Test.YtgmadfpnljibhaaGreatExactFlushStripeF16
namespace Go.Tf
noncomputable section
open Go.Proofs
set_option synthInstance.maxHeartbeats 400000
set_option synthInstance.maxSize 10000
set_option linter.unusedVariables false
set_option linter.unusedSimpArgs false
set_option maxRecDepth 100000
section
def yH4:Code:=(Tryz.f279.body).getD .skip
def yIt:Env:=zki TT [] []
theorem yPk:FrOk Tryz.prog ⟨yIt,12,fun _=>none⟩ yH4:=zkp yb yc trivial
def yRT:Nat→Option Seg:=fun _=>none
abbrev ymL:List Par:= [.rd tL,.rd tI]
abbrev ysH:List OT:= [⟨false,tI,.fz⟩]
def yv3 (a0:List Int) (a1:Int):Option (ResD ysH×MutD ymL) :=
 bif (ltb (IntKind.i64.wrap (a1 - (a0.length:Int))) 0) then
 some (((-1),()),())
 else
 some (((IntKind.i64.wrap (a1 - (a0.length:Int))),()),())
theorem yYN (x:InD ymL):zjH ⟨yIt,12,yRT⟩ Tryz.f279.results.toList yH4 ymL ysH x=yv3 x.1 x.2.1:=by kernel_rfl
theorem yUj:ConOk Tryz.prog 279 ⟨ymL,ysH,fun x=>yv3 x.1 x.2.1⟩:=zkh (yPk) Tryz.func279 (by kernel_rfl) (by kernel_rfl) Tryz.ntmps279.symm (by decide) (fun x r h=>(yYN x).trans h)
def yj (a0:List Int) (a1:Int):Int :=
 bif (ltb (IntKind.i64.wrap (a1 - (a0.length:Int))) 0) then
 (-1)
 else
 (IntKind.i64.wrap (a1 - (a0.length:Int)))
def yiY:Con:=⟨ymL,ysH,fun x=>(fun n=>some ((n,()),())) (yj x.1 x.2.1)⟩
theorem yWH (a0:List Int) (a1:Int):yv3 a0 a1=(fun n=>some ((n,()),())) (yj a0 a1):=zkS (p:=fun (n:Int)=>((n,()),())) (zkx (p:=fun (n:Int)=>((n,()),())) rfl rfl)
theorem yq0:ConOk Tryz.prog 279 yiY:=(yUj).mono (fun x r _ h=>(yWH x.1 x.2.1).trans h)
theorem yFI {a:List Int} {k:Int} (hk:0≤k) (hk2:k≤1048576) (ha:a.length≤17592186044416) (h: ¬ yj a k < 0):(a.length:Int)≤k∧yj a k=k - a.length:=by
 unfold yj at h ⊢
 rw [wr (by omega) (by omega)] at h ⊢
 by_cases h1:k - (a.length:Int) < 0
 ·rw [zjI h1]at h; exact absurd (show (-1:Int) < 0 by omega) h
 ·rw [zkm (Int.not_lt.1 h1)]; exact ⟨by omega,rfl⟩
end
section
def yki:Code:=(Tryz.f277.body).getD .skip
def yqo:Env:=zki TT [(279,yiY)] []
theorem yMV:FrOk Tryz.prog ⟨yqo,27,fun _=>none⟩ yki:=zkp yb yc ⟨yq0,trivial⟩
def yBY:Nat→Option Seg:=fun _=>none
def yda:Shape:=⟨[(0,false,[.br tL]),(1,false,[.int .i64]),(5,false,[.int .i64])],[],[]⟩
def yjx:Shape:=⟨[(0,false,[.br tL]),(1,false,[.int .i64]),(5,false,[.ci .i64 0])],[],[]⟩
def yjq:Shape:=⟨[(1,false,[.int .i64])],[],[]⟩
def yjK:Shape:=⟨[(4,false,[.int .i64])],[],[]⟩
def yqb (v0:List (List Int)) (v1 v2:Int):Option ((yda).X ⊕ ((yjq).X ⊕ (yjK).X)) :=
 bif (ltb v2 (v0.length:Int)) then
 bif (inb v2 v0.length) then
 let r2:=yj (nth v0 v2 []) v1
 bif (ltb r2 0) then
 some (.inr (.inr ((((-1),()),()),(),())))
 else
 some (.inl (((v0,()),(r2,()),((IntKind.i64.wrap (v2+1)),()),()),(),()))
 else none
 else
 some (.inr (.inl (((v1,()),()),(),())))
def ybB (x:(yda).X):=yqb x.1.1.1 x.1.2.1.1 x.1.2.2.1.1
def yyA (x:(yjx).X):(yda).X:=(((x.1.1.1,()),(x.1.2.1.1,()),(0,()),()),(),())
def yAk:Code:=(zdI yki 64 244).getD .skip
theorem yMo:zdI yki 64 61=some (.block 0 (.loop yAk)):=by kernel_rfl
theorem yN4 (x:(yda).X):zg7 ⟨yqo,27,yBY⟩ 0 yAk 244 yda yjq yjK x=ybB x:=by kernel_rfl
def yyQ (x:(yjx).X):Nat:=18446744073709551616
def yrp (x:(yjx).X):Option ((yjq).X ⊕ (yjK).X):=zr ybB (yyQ x) (yyA x)
def yzf:Seg:=⟨yjx,yjq,yjK,yrp⟩
def yBZ:Nat→Option Seg:=fun q=>bif Nat.beq q 61 then some yzf else yBY q
theorem yMW:FrOk Tryz.prog ⟨yqo,27,yBZ⟩ yki:=(yMV).loop (sg:=yzf) yda yyA (by decide) yMo ybB yyQ (by decide) (fun _=>rfl) (fun x r _ h=>h) yN4
abbrev ygc:List Par:= [.rd tLL,.rd tI]
abbrev yqG:List OT:= [⟨false,tI,.fz⟩]
def ymc (a0:List (List Int)) (a1:Int):Option (ResD yqG×MutD ygc) :=
 bif (ltb (IntKind.i64.wrap (a1 - (a0.length:Int))) 0) then
 some (((-1),()),())
 else
 zjw (yrp (((a0,()),((IntKind.i64.wrap (a1 - (a0.length:Int))),()),((),()),()),(),())) (fun y2 =>
 some ((y2.1.1.1,()),())) (fun y2 =>
 some ((y2.1.1.1,()),()))
theorem yV4 (x:InD ygc):zjH ⟨yqo,27,yBZ⟩ Tryz.f277.results.toList yki ygc yqG x=ymc x.1 x.2.1:=by kernel_rfl
theorem yQV:ConOk Tryz.prog 277 ⟨ygc,yqG,fun x=>ymc x.1 x.2.1⟩:=zkh (yMW) Tryz.func277 (by kernel_rfl) (by kernel_rfl) Tryz.ntmps277.symm (by decide) (fun x r h=>(yV4 x).trans h)
def yZ (a0:List (List Int)) (a1:Int):Int:=bif ltb (IntKind.i64.wrap (a1 - (a0.length:Int))) 0 then (-1) else (szG yj a0 (IntKind.i64.wrap (a1 - (a0.length:Int)))).getD (-1)
theorem yTS (a0:List (List Int)) (a1:Int) (hk:zi9 ygc (a0,a1,())):ymc a0 a1=(fun n=>some ((n,()),())) (yZ a0 a1):=by
 have hb:a0.length * 24≤2 ^ 47:=hk.1.1
 have hl: ∀ k:Int,yrp (((a0,()),(k,()),((),()),()),(),())=some (match szG yj a0 k with | some r=> .inl (((r,()),()),(),()) | none=> .inr ((((-1),()),()),(),())):=fun k =>
  zkG (step:=ybB) a0 ([]:List Int) (fun i k=>(((a0,()),(k,()),((i:Int),()),()),(),())) yj (fun r=> .inl (((r,()),()),(),())) (.inr ((((-1),()),()),(),())) (fun i s hi=>by
   simp only [ybB,yqb,zkO hi,zjW,Int.toNat_natCast,zjI (show (i:Int) < a0.length by omega),cond_true,wr (show -9223372036854775808≤(i:Int)+1 by omega) (by omega),Int.natCast_add,Int.natCast_one,zkV]
   cases ltb (yj (a0.getD i []) s) 0<;>rfl) (fun s=>by simp only [ybB,yqb,zkm (Int.le_refl _),cond_false]) k _ (by show _ < 18446744073709551616; omega)
 unfold ymc yZ
 rw [hl]
 cases ltb (IntKind.i64.wrap (a1 - (a0.length:Int))) 0
 ·cases szG yj a0 (IntKind.i64.wrap (a1 - (a0.length:Int)))<;>rfl
 ·rfl
def yCE:Con:=⟨ygc,yqG,fun x=>(fun n=>some ((n,()),())) (yZ x.1 x.2.1)⟩
theorem yUQ:ConOk Tryz.prog 277 yCE:=(yQV).mono (fun x r hk h=>(yTS x.1 x.2.1 hk).trans h)
end
section
def yOc:Code:=(Tryz.f291.body).getD .skip
def yOh:Env:=zki TT [(279,yiY)] []
theorem yWi:FrOk Tryz.prog ⟨yOh,12,fun _=>none⟩ yOc:=zkp yb yc ⟨yq0,trivial⟩
def yYt:Nat→Option Seg:=fun _=>none
abbrev yr2:List Par:= [.rd tW,.rd tI]
abbrev yxI:List OT:= [⟨false,tI,.fz⟩]
def yzE (a0:dW) (a1:Int):Option (ResD yxI×MutD yr2) :=
 let r1:=yj a0.2 a1
 bif (ltb r1 0) then
 some (((-1),()),())
 else
 some ((r1,()),())
theorem y1p (x:InD yr2):zjH ⟨yOh,12,yYt⟩ Tryz.f291.results.toList yOc yr2 yxI x=yzE x.1 x.2.1:=by kernel_rfl
theorem yZL:ConOk Tryz.prog 291 ⟨yr2,yxI,fun x=>yzE x.1 x.2.1⟩:=zkh (yWi) Tryz.func291 (by kernel_rfl) (by kernel_rfl) Tryz.ntmps291.symm (by decide) (fun x r h=>(y1p x).trans h)
def yef (a0:dW) (a1:Int):Int :=
 let r1:=yj a0.2 a1
 bif (ltb r1 0) then
 (-1)
 else
 r1
def yIF:Con:=⟨yr2,yxI,fun x=>(fun n=>some ((n,()),())) (yef x.1 x.2.1)⟩
theorem y07 (a0:dW) (a1:Int):yzE a0 a1=(fun n=>some ((n,()),())) (yef a0 a1):=zkS (p:=fun (n:Int)=>((n,()),())) (zkx (p:=fun (n:Int)=>((n,()),())) rfl rfl)
theorem y1d:ConOk Tryz.prog 291 yIF:=(yZL).mono (fun x r _ h=>(y07 x.1 x.2.1).trans h)
end
section
def yo5:Code:=(Tryz.f278.body).getD .skip
def yur:Env:=zki TT [(291,yIF)] []
theorem yS6:FrOk Tryz.prog ⟨yur,27,fun _=>none⟩ yo5:=zkp yb yc ⟨y1d,trivial⟩
def yF8:Nat→Option Seg:=fun _=>none
def yeY:Shape:=⟨[(0,false,[.br tW]),(1,false,[.int .i64]),(5,false,[.int .i64])],[],[]⟩
def yn3:Shape:=⟨[(0,false,[.br tW]),(1,false,[.int .i64]),(5,false,[.ci .i64 0])],[],[]⟩
def yn0:Shape:=⟨[(1,false,[.int .i64])],[],[]⟩
def yop:Shape:=⟨[(4,false,[.int .i64])],[],[]⟩
def ytY (v0:List dW) (v1 v2:Int):Option ((yeY).X ⊕ ((yn0).X ⊕ (yop).X)) :=
 bif (ltb v2 (v0.length:Int)) then
 bif (inb v2 v0.length) then
 let r2:=yef (nth v0 v2 (0,[])) v1
 bif (ltb r2 0) then
 some (.inr (.inr ((((-1),()),()),(),())))
 else
 some (.inl (((v0,()),(r2,()),((IntKind.i64.wrap (v2+1)),()),()),(),()))
 else none
 else
 some (.inr (.inl (((v1,()),()),(),())))
def ydn (x:(yeY).X):=ytY x.1.1.1 x.1.2.1.1 x.1.2.2.1.1
def yCU (x:(yn3).X):(yeY).X:=(((x.1.1.1,()),(x.1.2.1.1,()),(0,()),()),(),())
def yEY:Code:=(zdI yo5 64 244).getD .skip
theorem ySa:zdI yo5 64 61=some (.block 0 (.loop yEY)):=by kernel_rfl
theorem yVb (x:(yeY).X):zg7 ⟨yur,27,yF8⟩ 0 yEY 244 yeY yn0 yop x=ydn x:=by kernel_rfl
def yDc (x:(yn3).X):Nat:=18446744073709551616
def yuD (x:(yn3).X):Option ((yn0).X ⊕ (yop).X):=zr ydn (yDc x) (yCU x)
def yDL:Seg:=⟨yn3,yn0,yop,yuD⟩
def yF9:Nat→Option Seg:=fun q=>bif Nat.beq q 61 then some yDL else yF8 q
theorem yS7:FrOk Tryz.prog ⟨yur,27,yF9⟩ yo5:=(yS6).loop (sg:=yDL) yeY yCU (by decide) ySa ydn yDc (by decide) (fun _=>rfl) (fun x r _ h=>h) yVb
abbrev ykA:List Par:= [.rd tWs,.rd tI]
abbrev yu2:List OT:= [⟨false,tI,.fz⟩]
def yq6 (a0:List dW) (a1:Int):Option (ResD yu2×MutD ykA) :=
 bif (ltb (IntKind.i64.wrap (a1 - (a0.length:Int))) 0) then
 some (((-1),()),())
 else
 zjw (yuD (((a0,()),((IntKind.i64.wrap (a1 - (a0.length:Int))),()),((),()),()),(),())) (fun y2 =>
 some ((y2.1.1.1,()),())) (fun y2 =>
 some ((y2.1.1.1,()),()))
theorem y0E (x:InD ykA):zjH ⟨yur,27,yF9⟩ Tryz.f278.results.toList yo5 ykA yu2 x=yq6 x.1 x.2.1:=by kernel_rfl
theorem yXk:ConOk Tryz.prog 278 ⟨ykA,yu2,fun x=>yq6 x.1 x.2.1⟩:=zkh (yS7) Tryz.func278 (by kernel_rfl) (by kernel_rfl) Tryz.ntmps278.symm (by decide) (fun x r h=>(y0E x).trans h)
def ybK (a0:List (dW)) (a1:Int):Int:=bif ltb (IntKind.i64.wrap (a1 - (a0.length:Int))) 0 then (-1) else (szG yef a0 (IntKind.i64.wrap (a1 - (a0.length:Int)))).getD (-1)
theorem yZs (a0:List (dW)) (a1:Int) (hk:zi9 ykA (a0,a1,())):yq6 a0 a1=(fun n=>some ((n,()),())) (ybK a0 a1):=by
 have hb:a0.length * 32≤2 ^ 47:=hk.1.1
 have hl: ∀ k:Int,yuD (((a0,()),(k,()),((),()),()),(),())=some (match szG yef a0 k with | some r=> .inl (((r,()),()),(),()) | none=> .inr ((((-1),()),()),(),())):=fun k =>
  zkG (step:=ydn) a0 ((0,[]):dW) (fun i k=>(((a0,()),(k,()),((i:Int),()),()),(),())) yef (fun r=> .inl (((r,()),()),(),())) (.inr ((((-1),()),()),(),())) (fun i s hi=>by
   simp only [ydn,ytY,zkO hi,zjW,Int.toNat_natCast,zjI (show (i:Int) < a0.length by omega),cond_true,wr (show -9223372036854775808≤(i:Int)+1 by omega) (by omega),Int.natCast_add,Int.natCast_one,zkV]
   cases ltb (yef (a0.getD i (0,[])) s) 0<;>rfl) (fun s=>by simp only [ydn,ytY,zkm (Int.le_refl _),cond_false]) k _ (by show _ < 18446744073709551616; omega)
 unfold yq6 ybK
 rw [hl]
 cases ltb (IntKind.i64.wrap (a1 - (a0.length:Int))) 0
 ·cases szG yef a0 (IntKind.i64.wrap (a1 - (a0.length:Int)))<;>rfl
 ·rfl
def yGK:Con:=⟨ykA,yu2,fun x=>(fun n=>some ((n,()),())) (ybK x.1 x.2.1)⟩
theorem yZ1:ConOk Tryz.prog 278 yGK:=(yXk).mono (fun x r hk h=>(yZs x.1 x.2.1 hk).trans h)
end
section
def yJD:Code:=(Tryz.f249.body).getD .skip
def yJ2:Env:=zki TT [(277,yCE),(278,yGK),(279,yiY)] []
theorem yS5:FrOk Tryz.prog ⟨yJ2,24,fun _=>none⟩ yJD:=zkp yb yc ⟨yUQ,yZ1,yq0,trivial⟩
def yVA:Nat→Option Seg:=fun _=>none
abbrev ypA:List Par:= [.rd tM,.rd tI]
abbrev yu1:List OT:= [⟨false,tI,.fz⟩]
def yxv (a0:dM) (a1:Int):Option (ResD yu1×MutD ypA) :=
 let r1:=yZ a0.1 a1
 bif (ltb r1 0) then
 some (((-1),()),())
 else
 let r2:=ybK a0.2.1 r1
 bif (ltb r2 0) then
 some (((-1),()),())
 else
 let r3:=yj a0.2.2.2 r2
 bif (ltb r3 0) then
 some (((-1),()),())
 else
 some ((r3,()),())
theorem y0D (x:InD ypA):zjH ⟨yJ2,24,yVA⟩ Tryz.f249.results.toList yJD ypA yu1 x=yxv x.1 x.2.1:=by kernel_rfl
theorem yXj:ConOk Tryz.prog 249 ⟨ypA,yu1,fun x=>yxv x.1 x.2.1⟩:=zkh (yS5) Tryz.func249 (by kernel_rfl) (by kernel_rfl) Tryz.ntmps249.symm (by decide) (fun x r h=>(y0D x).trans h)
def yaS (a0:dM) (a1:Int):Int :=
 let r1:=yZ a0.1 a1
 bif (ltb r1 0) then
 (-1)
 else
 let r2:=ybK a0.2.1 r1
 bif (ltb r2 0) then
 (-1)
 else
 let r3:=yj a0.2.2.2 r2
 bif (ltb r3 0) then
 (-1)
 else
 r3
def yGJ:Con:=⟨ypA,yu1,fun x=>(fun n=>some ((n,()),())) (yaS x.1 x.2.1)⟩
theorem yZr (a0:dM) (a1:Int):yxv a0 a1=(fun n=>some ((n,()),())) (yaS a0 a1):=zkS (p:=fun (n:Int)=>((n,()),())) (zkx (p:=fun (n:Int)=>((n,()),())) rfl (zkx (p:=fun (n:Int)=>((n,()),())) rfl (zkx (p:=fun (n:Int)=>((n,()),())) rfl rfl)))
theorem yZ0:ConOk Tryz.prog 249 yGJ:=(yXj).mono (fun x r _ h=>(yZr x.1 x.2.1).trans h)
end
section
def ymt:Code:=(Tryz.f187.body).getD .skip
def ysi:Env:=zki TT [(249,yGJ)] []
theorem yPl:FrOk Tryz.prog ⟨ysi,27,fun _=>none⟩ ymt:=zkp yb yc ⟨yZ0,trivial⟩
def yEk:Nat→Option Seg:=fun _=>none
def yd1:Shape:=⟨[(0,false,[.br tM]),(1,false,[.int .i64]),(5,false,[.int .i64])],[],[]⟩
def ylA:Shape:=⟨[(0,false,[.br tM]),(1,false,[.int .i64]),(5,false,[.ci .i64 0])],[],[]⟩
def yls:Shape:=⟨[(1,false,[.int .i64])],[],[]⟩
def ylM:Shape:=⟨[(4,false,[.int .i64])],[],[]⟩
def yrQ (v0:List dM) (v1 v2:Int):Option ((yd1).X ⊕ ((yls).X ⊕ (ylM).X)) :=
 bif (ltb v2 (v0.length:Int)) then
 bif (inb v2 v0.length) then
 let r2:=yaS ((nth v0 v2 ([],[],false,[])).1,((nth v0 v2 ([],[],false,[])).2).1,(((nth v0 v2 ([],[],false,[])).2).2)) v1
 bif (ltb r2 0) then
 some (.inr (.inr ((((-1),()),()),(),())))
 else
 some (.inl (((v0,()),(r2,()),((IntKind.i64.wrap (v2+1)),()),()),(),()))
 else none
 else
 some (.inr (.inl (((v1,()),()),(),())))
def ycq (x:(yd1).X):=yrQ x.1.1.1 x.1.2.1.1 x.1.2.2.1.1
def yAJ (x:(ylA).X):(yd1).X:=(((x.1.1.1,()),(x.1.2.1.1,()),(0,()),()),(),())
def yCj:Code:=(zdI ymt 64 244).getD .skip
theorem yOG:zdI ymt 64 61=some (.block 0 (.loop yCj)):=by kernel_rfl
theorem yRs (x:(yd1).X):zg7 ⟨ysi,27,yEk⟩ 0 yCj 244 yd1 yls ylM x=ycq x:=by kernel_rfl
def yAY (x:(ylA).X):Nat:=18446744073709551616
def yti (x:(ylA).X):Option ((yls).X ⊕ (ylM).X):=zr ycq (yAY x) (yAJ x)
def yBh:Seg:=⟨ylA,yls,ylM,yti⟩
def yEl:Nat→Option Seg:=fun q=>bif Nat.beq q 61 then some yBh else yEk q
theorem yPm:FrOk Tryz.prog ⟨ysi,27,yEl⟩ ymt:=(yPl).loop (sg:=yBh) yd1 yAJ (by decide) yOG ycq yAY (by decide) (fun _=>rfl) (fun x r _ h=>h) yRs
abbrev yhq:List Par:= [.rd tMs,.rd tI]
abbrev ysI:List OT:= [⟨false,tI,.fz⟩]
def yoN (a0:List dM) (a1:Int):Option (ResD ysI×MutD yhq) :=
 bif (ltb (IntKind.i64.wrap (a1 - (a0.length:Int))) 0) then
 some (((-1),()),())
 else
 zjw (yti (((a0,()),((IntKind.i64.wrap (a1 - (a0.length:Int))),()),((),()),()),(),())) (fun y2 =>
 some ((y2.1.1.1,()),())) (fun y2 =>
 some ((y2.1.1.1,()),()))
theorem yYO (x:InD yhq):zjH ⟨ysi,27,yEl⟩ Tryz.f187.results.toList ymt yhq ysI x=yoN x.1 x.2.1:=by kernel_rfl
theorem yUk:ConOk Tryz.prog 187 ⟨yhq,ysI,fun x=>yoN x.1 x.2.1⟩:=zkh (yPm) Tryz.func187 (by kernel_rfl) (by kernel_rfl) Tryz.ntmps187.symm (by decide) (fun x r h=>(yYO x).trans h)
def yaX (a0:List (dM)) (a1:Int):Int:=bif ltb (IntKind.i64.wrap (a1 - (a0.length:Int))) 0 then (-1) else (szG yaS a0 (IntKind.i64.wrap (a1 - (a0.length:Int)))).getD (-1)
theorem yWI (a0:List (dM)) (a1:Int) (hk:zi9 yhq (a0,a1,())):yoN a0 a1=(fun n=>some ((n,()),())) (yaX a0 a1):=by
 have hb:a0.length * 80≤2 ^ 47:=hk.1.1
 have hl: ∀ k:Int,yti (((a0,()),(k,()),((),()),()),(),())=some (match szG yaS a0 k with | some r=> .inl (((r,()),()),(),()) | none=> .inr ((((-1),()),()),(),())):=fun k =>
  zkG (step:=ycq) a0 (([],[],false,[]):dM) (fun i k=>(((a0,()),(k,()),((i:Int),()),()),(),())) yaS (fun r=> .inl (((r,()),()),(),())) (.inr ((((-1),()),()),(),())) (fun i s hi=>by
   simp only [ycq,yrQ,zkO hi,zjW,Int.toNat_natCast,zjI (show (i:Int) < a0.length by omega),cond_true,wr (show -9223372036854775808≤(i:Int)+1 by omega) (by omega),Int.natCast_add,Int.natCast_one,zkV]
   cases ltb (yaS (a0.getD i ([],[],false,[])) s) 0<;>rfl) (fun s=>by simp only [ycq,yrQ,zkm (Int.le_refl _),cond_false]) k _ (by show _ < 18446744073709551616; omega)
 unfold yoN yaX
 rw [hl]
 cases ltb (IntKind.i64.wrap (a1 - (a0.length:Int))) 0
 ·cases szG yaS a0 (IntKind.i64.wrap (a1 - (a0.length:Int)))<;>rfl
 ·rfl
def yFi:Con:=⟨yhq,ysI,fun x=>(fun n=>some ((n,()),())) (yaX x.1 x.2.1)⟩
theorem yXM:ConOk Tryz.prog 187 yFi:=(yUk).mono (fun x r hk h=>(yWI x.1 x.2.1 hk).trans h)
def mSz (m:dM):Nat:=(m.1.length+(m.1.map (fun x:List Int=>x.length)).sum)+(m.2.1.length+(m.2.1.map (fun x:dW=>x.2.length)).sum)+m.2.2.2.length
theorem y3g (m:dM):yrz m≤1+mSz m:=by
 unfold yrz mSz
 rw [yRE (fun x:dW=>x.2.length) 1]
 omega
theorem y2R {l:List dW} {k:Int} (h0:0≤k) (h1:k≤1048576) (hl:l.length * 32≤2 ^ 47) (hx: ∀ x∈l,x.2.length * 8≤2 ^ 47) (h:0≤ybK l k):((l.length+(l.map (fun x:dW=>x.2.length)).sum:Nat):Int)≤k - ybK l k∧ybK l k≤k :=
 yVo (fun x hm k h0 h1 h=>by
  have:=hx x hm
  unfold yef at h ⊢
  by_cases h2:yj x.2 k < 0
  ·simp only [zjI h2,cond_true]at h; omega
  ·simp only [zkm (Int.not_lt.1 h2),cond_false]at h ⊢
   have:=yFI h0 h1 (by omega) h2
   omega) h0 h1 (by omega) h
theorem y13 {l:List (List Int)} {k:Int} (h0:0≤k) (h1:k≤1048576) (hl:l.length * 24≤2 ^ 47) (hx: ∀ x∈l,x.length * 8≤2 ^ 47) (h:0≤yZ l k):((l.length+(l.map (fun x:List Int=>x.length)).sum:Nat):Int)≤k - yZ l k∧yZ l k≤k :=
 yVo (fun x hm k h0 h1 h=>by
  have:=hx x hm
  have:=yFI (a:=x) h0 h1 (by omega) (by omega)
  omega) h0 h1 (by omega) h
theorem y2Q {m:dM} {k:Int} (h0:0≤k) (h1:k≤1048576) (hm:tM.Ok m) (h:0≤yaS m k):(mSz m:Int)≤k∧yaS m k≤k - mSz m:=by
 unfold yaS at h ⊢
 by_cases c1:yZ m.1 k < 0
 ·simp only [zjI c1,cond_true]at h; omega
 simp only [zkm (Int.not_lt.1 c1),cond_false]at h ⊢
 have e1:=y13 h0 h1 hm.1.1 (fun x hx=>(hm.1.2 x hx).1) (Int.not_lt.1 c1)
 by_cases c2:ybK m.2.1 (yZ m.1 k) < 0
 ·simp only [zjI c2,cond_true]at h; omega
 simp only [zkm (Int.not_lt.1 c2),cond_false]at h ⊢
 have e2:=y2R (Int.not_lt.1 c1) (by omega) hm.2.1.1 (fun x hx=>(hm.2.1.2 x hx).2.1) (Int.not_lt.1 c2)
 by_cases c3:yj m.2.2.2 (ybK m.2.1 (yZ m.1 k)) < 0
 ·simp only [zjI c3,cond_true]at h; omega
 simp only [zkm (Int.not_lt.1 c3),cond_false]at h ⊢
 have e3:=yFI (a:=m.2.2.2) (Int.not_lt.1 c2) (by omega) (by have:m.2.2.2.length * 8≤2 ^ 47:=hm.2.2.2.1; omega) c3
 unfold mSz
 omega
theorem y2s {l:List dM} {k:Int} (h0:0≤k) (h1:k≤1048576) (hm:tMs.Ok l) (h:0≤yaX l k):((l.length+(l.map mSz).sum:Nat):Int)≤k - yaX l k∧yaX l k≤k :=
 yVo (fun x hx k h0 h1 h=>y2Q h0 h1 (hm.2 x hx) h) h0 h1 (by have:l.length * 80≤2 ^ 47:=hm.1; omega) h
theorem y2K {l:List dM}:yoB l≤l.length+(l.map mSz).sum:=by
 unfold yoB
 induction l with
 | nil=>simp
 | cons x l ih =>
  simp only [List.map_cons,List.sum_cons,List.length_cons]
  have:=y3g x
  omega
theorem y2i {α:Type} {f:α→Nat} {x:α}: ∀ {l:List α},x∈l→f x≤(l.map f).sum
 | y::l,h=>by
  rw [List.map_cons,List.sum_cons]
  rcases List.mem_cons.1 h with rfl | h
  ·omega
  ·have:=y2i (f:=f) h; omega
end
end
end Go.Tf
