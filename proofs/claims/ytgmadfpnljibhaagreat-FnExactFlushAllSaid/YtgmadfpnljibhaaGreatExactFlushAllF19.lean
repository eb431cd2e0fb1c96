/- Functions of the program, and what they come to. -/
import Derived.Test.YtgmadfpnljibhaaGreatExactFlushAllF18
namespace Go.Tf
noncomputable section
open Go.Proofs
set_option synthInstance.maxHeartbeats 400000
set_option synthInstance.maxSize 10000
set_option linter.unusedVariables false
set_option linter.unusedSimpArgs false
set_option maxRecDepth 100000
section
def yPE:Code:=(Tryz.f292.body).getD .skip
def yPJ:Env:=zki TT [(282,yji)] []
theorem yXY:FrOk Tryz.prog ⟨yPJ,12,fun _=>none⟩ yPE:=zkp yb yc ⟨yrA,trivial⟩
def yZ9:Nat→Option Seg:=fun _=>none
abbrev ysF:List Par:= [.rd tW]
abbrev yyE:List OT:= [⟨false,tW,(.pr .fz (.ow .fz))⟩]
def yAB (a0:dW):Option (ResD yyE×MutD ysF) :=
 let r1:=yam a0.2
 some (((a0.1,r1),()),())
theorem y3b (x:InD ysF):zjH ⟨yPJ,12,yZ9⟩ Tryz.f292.results.toList yPE ysF yyE x=yAB x.1:=by kernel_rfl
theorem y1r:ConOk Tryz.prog 292 ⟨ysF,yyE,fun x=>yAB x.1⟩:=zkh (yXY) Tryz.func292 (by kernel_rfl) (by kernel_rfl) Tryz.ntmps292.symm (by decide) (fun x r h=>(y3b x).trans h)
def yyN (a0:dW):dW :=
 let r1:=yam a0.2
 (a0.1,r1)
def yJV:Con:=⟨ysF,yyE,fun x=>(fun n=>some ((n,()),())) (yyN x.1)⟩
theorem y2S (a0:dW):yAB a0=(fun n=>some ((n,()),())) (yyN a0):=zkS (p:=fun (n:dW)=>((n,()),())) rfl
theorem y2Y:ConOk Tryz.prog 292 yJV:=(y1r).mono (fun x r _ h=>(y2S x.1).trans h)
theorem y2H (a:dW):yyN a=a:=by kernel_rfl
end
section
def ypD:Code:=(Tryz.f281.body).getD .skip
def yu9:Env:=zki TT [(292,yJV)] []
theorem yUM:FrOk Tryz.prog ⟨yu9,23,fun _=>none⟩ ypD:=zkp yb yc ⟨y2Y,trivial⟩
def yHm:Nat→Option Seg:=fun _=>none
def yfd:Shape:=⟨[(0,false,[.br tW]),(3,false,[.at 800000000]),(4,false,[.int .i64])],[],[(800000000,tW,(.pr .fz (.ow .fz)))]⟩
def yoy:Shape:=⟨[(0,false,[.br tW]),(3,false,[.at 800000000]),(4,false,[.ci .i64 0])],[],[(800000000,tW,(.pr .fz (.ow .fz)))]⟩
def yov:Shape:=⟨[(3,false,[.at 800000000])],[],[(800000000,tW,(.pr .fz (.ow .fz)))]⟩
def yoW:Shape:=⟨[],[],[]⟩
def yuF (v0:List dW) (v1:Int) (v2:List dW):Option ((yfd).X ⊕ ((yov).X ⊕ (yoW).X)) :=
 bif (ltb v1 (v0.length:Int)) then
 bif (inb v1 v0.length) then
 let r2:=yyN (nth v0 v1 (0,[]))
 bif (inb v1 v2.length) then
 some (.inl (((v0,()),((),()),((IntKind.i64.wrap (v1+1)),()),()),(),((v2.set (v1).toNat r2),())))
 else none
 else none
 else
 some (.inr (.inl ((((),()),()),(),(v2,()))))
def ydz (x:(yfd).X):=yuF x.1.1.1 x.1.2.2.1.1 x.2.2.1
def yDV (x:(yoy).X):(yfd).X:=(((x.1.1.1,()),((),()),(0,()),()),(),(x.2.2.1,()))
def yF4:Code:=(zdI ypD 64 116).getD .skip
theorem yTH:zdI ypD 64 29=some (.block 0 (.loop yF4)):=by kernel_rfl
theorem yWP (x:(yfd).X):zg7 ⟨yu9,23,yHm⟩ 0 yF4 116 yfd yov yoW x=ydz x:=by kernel_rfl
def yEc (x:(yoy).X):Nat:=18446744073709551616
def yvm (x:(yoy).X):Option ((yov).X ⊕ (yoW).X):=zr ydz (yEc x) (yDV x)
def yEN:Seg:=⟨yoy,yov,yoW,yvm⟩
def yHn:Nat→Option Seg:=fun q=>bif Nat.beq q 29 then some yEN else yHm q
theorem yUN:FrOk Tryz.prog ⟨yu9,23,yHn⟩ ypD:=(yUM).loop (sg:=yEN) yfd yDV (by decide) yTH ydz yEc (by decide) (fun _=>rfl) (fun x r _ h=>h) yWP
abbrev ykX:List Par:= [.rd tWs]
abbrev yvP:List OT:= [⟨false,tWs,(.ow (.pr .fz (.ow .fz)))⟩]
def yrG (a0:List dW):Option (ResD yvP×MutD ykX) :=
 bif (zkc (a0.length:Int) 32) then
 zjw (yvm (((a0,()),((),()),((),()),()),(),((List.replicate ((a0.length:Int)).toNat ((0,[]):dW)),()))) (fun y2 =>
 some ((y2.2.2.1,()),())) (fun y2 =>
 none)
 else none
theorem y2q (x:InD ykX):zjH ⟨yu9,23,yHn⟩ Tryz.f281.results.toList ypD ykX yvP x=yrG x.1:=by kernel_rfl
theorem yY4:ConOk Tryz.prog 281 ⟨ykX,yvP,fun x=>yrG x.1⟩:=zkh (yUN) Tryz.func281 (by kernel_rfl) (by kernel_rfl) Tryz.ntmps281.symm (by decide) (fun x r h=>(y2q x).trans h)
def yls (a0:List (dW)):List (dW):=a0
theorem y1b (a0:List (dW)) (hk:zi9 ykX (a0,())):yrG a0=(fun n=>some ((n,()),())) (yls a0):=by
 have hb:a0.length * 32≤2 ^ 47:=hk.1.1
 have hl:yvm (((a0,()),((),()),((),()),()),(),((List.replicate a0.length ((0,[]):dW)),()))=some (.inl ((((),()),()),(),(a0,()))) :=
  zkj (step:=ydz) a0 ((0,[]):dW) (fun i m=>(((a0,()),((),()),((i:Int),()),()),(),(m,()))) (fun m=> .inl ((((),()),()),(),(m,()))) (fun i m hi hm=>by
   simp only [ydz,yuF,zkO (show i < m.length by omega),zkO hi,zjW,Int.toNat_natCast,zjI (show (i:Int) < a0.length by omega),cond_true,wr (show -9223372036854775808≤(i:Int)+1 by omega) (by omega),Int.natCast_add,Int.natCast_one,zkV,y2H]) (fun m hm=>by
   simp only [ydz,yuF,zkm (Int.le_refl _),cond_false]) _ (by show _ < 18446744073709551616; omega)
 unfold yrG yls
 rw [show zkc (a0.length:Int) 32=true by rw [zkH]; omega,zkY,Int.toNat_natCast,hl]
 rfl
def yH1:Con:=⟨ykX,yvP,fun x=>(fun n=>some ((n,()),())) (yls x.1)⟩
theorem y1J:ConOk Tryz.prog 281 yH1:=(yY4).mono (fun x r hk h=>(y1b x.1 hk).trans h)
theorem y40 (a:List dW):yls a=a:=by kernel_rfl
end
section
def yK0:Code:=(Tryz.f251.body).getD .skip
def yLp:Env:=zki TT [(280,yDG),(281,yH1),(282,yji)] []
theorem yUL:FrOk Tryz.prog ⟨yLp,20,fun _=>none⟩ yK0:=zkp yb yc ⟨yWw,y1J,yrA,trivial⟩
def yXh:Nat→Option Seg:=fun _=>none
abbrev yqd:List Par:= [.rd tM]
abbrev yvO:List OT:= [⟨false,tM,(.pr (.ow (.ow .fz)) (.pr (.ow (.pr .fz (.ow .fz))) (.pr .fz (.ow .fz))))⟩]
def yyu (a0:dM):Option (ResD yvO×MutD yqd) :=
 let r1:=ygy a0.1
 let r2:=yls a0.2.1
 let r3:=yam a0.2.2.2
 some (((r1,r2,a0.2.2.1,r3),()),())
theorem y2p (x:InD yqd):zjH ⟨yLp,20,yXh⟩ Tryz.f251.results.toList yK0 yqd yvO x=yyu x.1:=by kernel_rfl
theorem yY3:ConOk Tryz.prog 251 ⟨yqd,yvO,fun x=>yyu x.1⟩:=zkh (yUL) Tryz.func251 (by kernel_rfl) (by kernel_rfl) Tryz.ntmps251.symm (by decide) (fun x r h=>(y2p x).trans h)
def ywt (a0:dM):dM :=
 let r1:=ygy a0.1
 let r2:=yls a0.2.1
 let r3:=yam a0.2.2.2
 (r1,r2,a0.2.2.1,r3)
def yH0:Con:=⟨yqd,yvO,fun x=>(fun n=>some ((n,()),())) (ywt x.1)⟩
theorem y1a (a0:dM):yyu a0=(fun n=>some ((n,()),())) (ywt a0):=zkS (p:=fun (n:dM)=>((n,()),())) rfl
theorem y1I:ConOk Tryz.prog 251 yH0:=(yY3).mono (fun x r _ h=>(y1a x.1).trans h)
theorem y0P (a:dM):ywt a=a:=by kernel_rfl
end
section
def ymZ:Code:=(Tryz.f190.body).getD .skip
def ysX:Env:=zki TT [(251,yH0)] []
theorem yQT:FrOk Tryz.prog ⟨ysX,23,fun _=>none⟩ ymZ:=zkp yb yc ⟨y1I,trivial⟩
def yFu:Nat→Option Seg:=fun _=>none
def yed:Shape:=⟨[(0,false,[.br tM]),(3,false,[.at 800000000]),(4,false,[.int .i64])],[],[(800000000,tM,(.pr (.ow (.ow .fz)) (.pr (.ow (.pr .fz (.ow .fz))) (.pr .fz (.ow .fz)))))]⟩
def yl4:Shape:=⟨[(0,false,[.br tM]),(3,false,[.at 800000000]),(4,false,[.ci .i64 0])],[],[(800000000,tM,(.pr (.ow (.ow .fz)) (.pr (.ow (.pr .fz (.ow .fz))) (.pr .fz (.ow .fz)))))]⟩
def ylW:Shape:=⟨[(3,false,[.at 800000000])],[],[(800000000,tM,(.pr (.ow (.ow .fz)) (.pr (.ow (.pr .fz (.ow .fz))) (.pr .fz (.ow .fz)))))]⟩
def ymg:Shape:=⟨[],[],[]⟩
def yst (v0:List dM) (v1:Int) (v2:List dM):Option ((yed).X ⊕ ((ylW).X ⊕ (ymg).X)) :=
 bif (ltb v1 (v0.length:Int)) then
 bif (inb v1 v0.length) then
 let r2:=ywt ((nth v0 v1 ([],[],false,[])).1,((nth v0 v1 ([],[],false,[])).2).1,(((nth v0 v1 ([],[],false,[])).2).2))
 bif (inb v1 v2.length) then
 some (.inl (((v0,()),((),()),((IntKind.i64.wrap (v1+1)),()),()),(),((v2.set (v1).toNat r2),())))
 else none
 else none
 else
 some (.inr (.inl ((((),()),()),(),(v2,()))))
def ycD (x:(yed).X):=yst x.1.1.1 x.1.2.2.1.1 x.2.2.1
def yBM (x:(yl4).X):(yed).X:=(((x.1.1.1,()),((),()),(0,()),()),(),(x.2.2.1,()))
def yDo:Code:=(zdI ymZ 64 116).getD .skip
theorem yQb:zdI ymZ 64 29=some (.block 0 (.loop yDo)):=by kernel_rfl
theorem yS1 (x:(yed).X):zg7 ⟨ysX,23,yFu⟩ 0 yDo 116 yed ylW ymg x=ycD x:=by kernel_rfl
def yB1 (x:(yl4).X):Nat:=18446744073709551616
def ytX (x:(yl4).X):Option ((ylW).X ⊕ (ymg).X):=zr ycD (yB1 x) (yBM x)
def yCk:Seg:=⟨yl4,ylW,ymg,ytX⟩
def yFv:Nat→Option Seg:=fun q=>bif Nat.beq q 29 then some yCk else yFu q
theorem yQU:FrOk Tryz.prog ⟨ysX,23,yFv⟩ ymZ:=(yQT).loop (sg:=yCk) yed yBM (by decide) yQb ycD yB1 (by decide) (fun _=>rfl) (fun x r _ h=>h) yS1
abbrev yhJ:List Par:= [.rd tMs]
abbrev ytn:List OT:= [⟨false,tMs,(.ow (.pr (.ow (.ow .fz)) (.pr (.ow (.pr .fz (.ow .fz))) (.pr .fz (.ow .fz)))))⟩]
def ypn (a0:List dM):Option (ResD ytn×MutD yhJ) :=
 bif (zkc (a0.length:Int) 80) then
 zjw (ytX (((a0,()),((),()),((),()),()),(),((List.replicate ((a0.length:Int)).toNat (([],[],false,[]):dM)),()))) (fun y2 =>
 some ((y2.2.2.1,()),())) (fun y2 =>
 none)
 else none
theorem y0w (x:InD yhJ):zjH ⟨ysX,23,yFv⟩ Tryz.f190.results.toList ymZ yhJ ytn x=ypn x.1:=by kernel_rfl
theorem yV4:ConOk Tryz.prog 190 ⟨yhJ,ytn,fun x=>ypn x.1⟩:=zkh (yQU) Tryz.func190 (by kernel_rfl) (by kernel_rfl) Tryz.ntmps190.symm (by decide) (fun x r h=>(y0w x).trans h)
def yhV (a0:List (dM)):List (dM):=a0
theorem yYq (a0:List (dM)) (hk:zi9 yhJ (a0,())):ypn a0=(fun n=>some ((n,()),())) (yhV a0):=by
 have hb:a0.length * 80≤2 ^ 47:=hk.1.1
 have hl:ytX (((a0,()),((),()),((),()),()),(),((List.replicate a0.length (([],[],false,[]):dM)),()))=some (.inl ((((),()),()),(),(a0,()))) :=
  zkj (step:=ycD) a0 (([],[],false,[]):dM) (fun i m=>(((a0,()),((),()),((i:Int),()),()),(),(m,()))) (fun m=> .inl ((((),()),()),(),(m,()))) (fun i m hi hm=>by
   simp only [ycD,yst,zkO (show i < m.length by omega),zkO hi,zjW,Int.toNat_natCast,zjI (show (i:Int) < a0.length by omega),cond_true,wr (show -9223372036854775808≤(i:Int)+1 by omega) (by omega),Int.natCast_add,Int.natCast_one,zkV,y0P]) (fun m hm=>by
   simp only [ycD,yst,zkm (Int.le_refl _),cond_false]) _ (by show _ < 18446744073709551616; omega)
 unfold ypn yhV
 rw [show zkc (a0.length:Int) 80=true by rw [zkH]; omega,zkY,Int.toNat_natCast,hl]
 rfl
def yGp:Con:=⟨yhJ,ytn,fun x=>(fun n=>some ((n,()),())) (yhV x.1)⟩
theorem yZu:ConOk Tryz.prog 190 yGp:=(yV4).mono (fun x r hk h=>(yYq x.1 hk).trans h)
theorem y4Q (a:List dM):yhV a=a:=by kernel_rfl
end
section
def yKY:Code:=(Tryz.f252.body).getD .skip
def yLn:Env:=zki TT [(282,yji)] []
theorem yUJ:FrOk Tryz.prog ⟨yLn,12,fun _=>none⟩ yKY:=zkp yb yc ⟨yrA,trivial⟩
def yXf:Nat→Option Seg:=fun _=>none
abbrev yqb:List Par:= [.rd tW]
abbrev yvM:List OT:= [⟨false,tW,(.pr .fz (.ow .fz))⟩]
def yys (a0:dW):Option (ResD yvM×MutD yqb) :=
 let r1:=yam a0.2
 some (((a0.1,r1),()),())
theorem y2n (x:InD yqb):zjH ⟨yLn,12,yXf⟩ Tryz.f252.results.toList yKY yqb yvM x=yys x.1:=by kernel_rfl
theorem yY1:ConOk Tryz.prog 252 ⟨yqb,yvM,fun x=>yys x.1⟩:=zkh (yUJ) Tryz.func252 (by kernel_rfl) (by kernel_rfl) Tryz.ntmps252.symm (by decide) (fun x r h=>(y2n x).trans h)
def yws (a0:dW):dW :=
 let r1:=yam a0.2
 (a0.1,r1)
def yHY:Con:=⟨yqb,yvM,fun x=>(fun n=>some ((n,()),())) (yws x.1)⟩
theorem y08 (a0:dW):yys a0=(fun n=>some ((n,()),())) (yws a0):=zkS (p:=fun (n:dW)=>((n,()),())) rfl
theorem y1G:ConOk Tryz.prog 252 yHY:=(yY1).mono (fun x r _ h=>(y08 x.1).trans h)
theorem y0O (a:dW):yws a=a:=by kernel_rfl
end
section
def ymX:Code:=(Tryz.f191.body).getD .skip
def ysV:Env:=zki TT [(252,yHY)] []
theorem yQP:FrOk Tryz.prog ⟨ysV,23,fun _=>none⟩ ymX:=zkp yb yc ⟨y1G,trivial⟩
def yFq:Nat→Option Seg:=fun _=>none
def yeb:Shape:=⟨[(0,false,[.br tW]),(3,false,[.at 800000000]),(4,false,[.int .i64])],[],[(800000000,tW,(.pr .fz (.ow .fz)))]⟩
def yl2:Shape:=⟨[(0,false,[.br tW]),(3,false,[.at 800000000]),(4,false,[.ci .i64 0])],[],[(800000000,tW,(.pr .fz (.ow .fz)))]⟩
def ylU:Shape:=⟨[(3,false,[.at 800000000])],[],[(800000000,tW,(.pr .fz (.ow .fz)))]⟩
def yme:Shape:=⟨[],[],[]⟩
def ysr (v0:List dW) (v1:Int) (v2:List dW):Option ((yeb).X ⊕ ((ylU).X ⊕ (yme).X)) :=
 bif (ltb v1 (v0.length:Int)) then
 bif (inb v1 v0.length) then
 let r2:=yws (nth v0 v1 (0,[]))
 bif (inb v1 v2.length) then
 some (.inl (((v0,()),((),()),((IntKind.i64.wrap (v1+1)),()),()),(),((v2.set (v1).toNat r2),())))
 else none
 else none
 else
 some (.inr (.inl ((((),()),()),(),(v2,()))))
def ycB (x:(yeb).X):=ysr x.1.1.1 x.1.2.2.1.1 x.2.2.1
def yBK (x:(yl2).X):(yeb).X:=(((x.1.1.1,()),((),()),(0,()),()),(),(x.2.2.1,()))
def yDm:Code:=(zdI ymX 64 116).getD .skip
theorem yP9:zdI ymX 64 29=some (.block 0 (.loop yDm)):=by kernel_rfl
theorem ySZ (x:(yeb).X):zg7 ⟨ysV,23,yFq⟩ 0 yDm 116 yeb ylU yme x=ycB x:=by kernel_rfl
def yBZ (x:(yl2).X):Nat:=18446744073709551616
def ytV (x:(yl2).X):Option ((ylU).X ⊕ (yme).X):=zr ycB (yBZ x) (yBK x)
def yCi:Seg:=⟨yl2,ylU,yme,ytV⟩
def yFr:Nat→Option Seg:=fun q=>bif Nat.beq q 29 then some yCi else yFq q
theorem yQQ:FrOk Tryz.prog ⟨ysV,23,yFr⟩ ymX:=(yQP).loop (sg:=yCi) yeb yBK (by decide) yP9 ycB yBZ (by decide) (fun _=>rfl) (fun x r _ h=>h) ySZ
abbrev yhH:List Par:= [.rd tWs]
abbrev ytl:List OT:= [⟨false,tWs,(.ow (.pr .fz (.ow .fz)))⟩]
def ypl (a0:List dW):Option (ResD ytl×MutD yhH) :=
 bif (zkc (a0.length:Int) 32) then
 zjw (ytV (((a0,()),((),()),((),()),()),(),((List.replicate ((a0.length:Int)).toNat ((0,[]):dW)),()))) (fun y2 =>
 some ((y2.2.2.1,()),())) (fun y2 =>
 none)
 else none
theorem y0u (x:InD yhH):zjH ⟨ysV,23,yFr⟩ Tryz.f191.results.toList ymX yhH ytl x=ypl x.1:=by kernel_rfl
theorem yV2:ConOk Tryz.prog 191 ⟨yhH,ytl,fun x=>ypl x.1⟩:=zkh (yQQ) Tryz.func191 (by kernel_rfl) (by kernel_rfl) Tryz.ntmps191.symm (by decide) (fun x r h=>(y0u x).trans h)
def yhU (a0:List (dW)):List (dW):=a0
theorem yYo (a0:List (dW)) (hk:zi9 yhH (a0,())):ypl a0=(fun n=>some ((n,()),())) (yhU a0):=by
 have hb:a0.length * 32≤2 ^ 47:=hk.1.1
 have hl:ytV (((a0,()),((),()),((),()),()),(),((List.replicate a0.length ((0,[]):dW)),()))=some (.inl ((((),()),()),(),(a0,()))) :=
  zkj (step:=ycB) a0 ((0,[]):dW) (fun i m=>(((a0,()),((),()),((i:Int),()),()),(),(m,()))) (fun m=> .inl ((((),()),()),(),(m,()))) (fun i m hi hm=>by
   simp only [ycB,ysr,zkO (show i < m.length by omega),zkO hi,zjW,Int.toNat_natCast,zjI (show (i:Int) < a0.length by omega),cond_true,wr (show -9223372036854775808≤(i:Int)+1 by omega) (by omega),Int.natCast_add,Int.natCast_one,zkV,y0O]) (fun m hm=>by
   simp only [ycB,ysr,zkm (Int.le_refl _),cond_false]) _ (by show _ < 18446744073709551616; omega)
 unfold ypl yhU
 rw [show zkc (a0.length:Int) 32=true by rw [zkH]; omega,zkY,Int.toNat_natCast,hl]
 rfl
def yGo:Con:=⟨yhH,ytl,fun x=>(fun n=>some ((n,()),())) (yhU x.1)⟩
theorem yZt:ConOk Tryz.prog 191 yGo:=(yV2).mono (fun x r hk h=>(yYo x.1 hk).trans h)
theorem y4P (a:List dW):yhU a=a:=by kernel_rfl
end
end
end Go.Tf
