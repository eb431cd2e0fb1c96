/- Functions of the program, and what they come to. -/
import Derived.Test.YtgmadfpnljibhaaGreatExactFlushStripeF18
namespace Go.Tf
noncomputable section
open Go.Proofs
set_option synthInstance.maxHeartbeats 400000
set_option synthInstance.maxSize 10000
set_option linter.unusedVariables false
set_option linter.unusedSimpArgs false
set_option maxRecDepth 100000
section
def yOd:Code:=(Tryz.f292.body).getD .skip
def yOi:Env:=zki TT [(282,yiZ)] []
theorem yWj:FrOk Tryz.prog ⟨yOi,12,fun _=>none⟩ yOd:=zkp yb yc ⟨yq1,trivial⟩
def yYu:Nat→Option Seg:=fun _=>none
abbrev yr3:List Par:= [.rd tW]
abbrev yxJ:List OT:= [⟨false,tW,(.pr .fz (.ow .fz))⟩]
def yzF (a0:dW):Option (ResD yxJ×MutD yr3) :=
 let r1:=yai a0.2
 some (((a0.1,r1),()),())
theorem y1q (x:InD yr3):zjH ⟨yOi,12,yYu⟩ Tryz.f292.results.toList yOd yr3 yxJ x=yzF x.1:=by kernel_rfl
theorem yZM:ConOk Tryz.prog 292 ⟨yr3,yxJ,fun x=>yzF x.1⟩:=zkh (yWj) Tryz.func292 (by kernel_rfl) (by kernel_rfl) Tryz.ntmps292.symm (by decide) (fun x r h=>(y1q x).trans h)
def yxS (a0:dW):dW :=
 let r1:=yai a0.2
 (a0.1,r1)
def yIG:Con:=⟨yr3,yxJ,fun x=>(fun n=>some ((n,()),())) (yxS x.1)⟩
theorem y08 (a0:dW):yzF a0=(fun n=>some ((n,()),())) (yxS a0):=zkS (p:=fun (n:dW)=>((n,()),())) rfl
theorem y1e:ConOk Tryz.prog 292 yIG:=(yZM).mono (fun x r _ h=>(y08 x.1).trans h)
theorem y0Z (a:dW):yxS a=a:=by kernel_rfl
end
section
def yo6:Code:=(Tryz.f281.body).getD .skip
def yus:Env:=zki TT [(292,yIG)] []
theorem yTc:FrOk Tryz.prog ⟨yus,23,fun _=>none⟩ yo6:=zkp yb yc ⟨y1e,trivial⟩
def yGa:Nat→Option Seg:=fun _=>none
def yeZ:Shape:=⟨[(0,false,[.br tW]),(3,false,[.at 800000000]),(4,false,[.int .i64])],[],[(800000000,tW,(.pr .fz (.ow .fz)))]⟩
def yn4:Shape:=⟨[(0,false,[.br tW]),(3,false,[.at 800000000]),(4,false,[.ci .i64 0])],[],[(800000000,tW,(.pr .fz (.ow .fz)))]⟩
def yn1:Shape:=⟨[(3,false,[.at 800000000])],[],[(800000000,tW,(.pr .fz (.ow .fz)))]⟩
def yoq:Shape:=⟨[],[],[]⟩
def ytZ (v0:List dW) (v1:Int) (v2:List dW):Option ((yeZ).X ⊕ ((yn1).X ⊕ (yoq).X)) :=
 bif (ltb v1 (v0.length:Int)) then
 bif (inb v1 v0.length) then
 let r2:=yxS (nth v0 v1 (0,[]))
 bif (inb v1 v2.length) then
 some (.inl (((v0,()),((),()),((IntKind.i64.wrap (v1+1)),()),()),(),((v2.set (v1).toNat r2),())))
 else none
 else none
 else
 some (.inr (.inl ((((),()),()),(),(v2,()))))
def ydo (x:(yeZ).X):=ytZ x.1.1.1 x.1.2.2.1.1 x.2.2.1
def yCV (x:(yn4).X):(yeZ).X:=(((x.1.1.1,()),((),()),(0,()),()),(),(x.2.2.1,()))
def yEZ:Code:=(zdI yo6 64 116).getD .skip
theorem ySb:zdI yo6 64 29=some (.block 0 (.loop yEZ)):=by kernel_rfl
theorem yVc (x:(yeZ).X):zg7 ⟨yus,23,yGa⟩ 0 yEZ 116 yeZ yn1 yoq x=ydo x:=by kernel_rfl
def yDd (x:(yn4).X):Nat:=18446744073709551616
def yuE (x:(yn4).X):Option ((yn1).X ⊕ (yoq).X):=zr ydo (yDd x) (yCV x)
def yDM:Seg:=⟨yn4,yn1,yoq,yuE⟩
def yGb:Nat→Option Seg:=fun q=>bif Nat.beq q 29 then some yDM else yGa q
theorem yTd:FrOk Tryz.prog ⟨yus,23,yGb⟩ yo6:=(yTc).loop (sg:=yDM) yeZ yCV (by decide) ySb ydo yDd (by decide) (fun _=>rfl) (fun x r _ h=>h) yVc
abbrev ykB:List Par:= [.rd tWs]
abbrev yu7:List OT:= [⟨false,tWs,(.ow (.pr .fz (.ow .fz)))⟩]
def yq7 (a0:List dW):Option (ResD yu7×MutD ykB) :=
 bif (zkc (a0.length:Int) 32) then
 zjw (yuE (((a0,()),((),()),((),()),()),(),((List.replicate ((a0.length:Int)).toNat ((0,[]):dW)),()))) (fun y2 =>
 some ((y2.2.2.1,()),())) (fun y2 =>
 none)
 else none
theorem y0J (x:InD ykB):zjH ⟨yus,23,yGb⟩ Tryz.f281.results.toList yo6 ykB yu7 x=yq7 x.1:=by kernel_rfl
theorem yXp:ConOk Tryz.prog 281 ⟨ykB,yu7,fun x=>yq7 x.1⟩:=zkh (yTd) Tryz.func281 (by kernel_rfl) (by kernel_rfl) Tryz.ntmps281.symm (by decide) (fun x r h=>(y0J x).trans h)
def yk2 (a0:List (dW)):List (dW):=a0
theorem yZx (a0:List (dW)) (hk:zi9 ykB (a0,())):yq7 a0=(fun n=>some ((n,()),())) (yk2 a0):=by
 have hb:a0.length * 32≤2 ^ 47:=hk.1.1
 have hl:yuE (((a0,()),((),()),((),()),()),(),((List.replicate a0.length ((0,[]):dW)),()))=some (.inl ((((),()),()),(),(a0,()))) :=
  zkj (step:=ydo) a0 ((0,[]):dW) (fun i m=>(((a0,()),((),()),((i:Int),()),()),(),(m,()))) (fun m=> .inl ((((),()),()),(),(m,()))) (fun i m hi hm=>by
   simp only [ydo,ytZ,zkO (show i < m.length by omega),zkO hi,zjW,Int.toNat_natCast,zjI (show (i:Int) < a0.length by omega),cond_true,wr (show -9223372036854775808≤(i:Int)+1 by omega) (by omega),Int.natCast_add,Int.natCast_one,zkV,y0Z]) (fun m hm=>by
   simp only [ydo,ytZ,zkm (Int.le_refl _),cond_false]) _ (by show _ < 18446744073709551616; omega)
 unfold yq7 yk2
 rw [show zkc (a0.length:Int) 32=true by rw [zkH]; omega,zkY,Int.toNat_natCast,hl]
 rfl
def yGP:Con:=⟨ykB,yu7,fun x=>(fun n=>some ((n,()),())) (yk2 x.1)⟩
theorem yZ6:ConOk Tryz.prog 281 yGP:=(yXp).mono (fun x r hk h=>(yZx x.1 hk).trans h)
theorem y3l (a:List dW):yk2 a=a:=by kernel_rfl
end
section
def yJH:Code:=(Tryz.f251.body).getD .skip
def yJ6:Env:=zki TT [(280,yCF),(281,yGP),(282,yiZ)] []
theorem yTb:FrOk Tryz.prog ⟨yJ6,20,fun _=>none⟩ yJH:=zkp yb yc ⟨yUR,yZ6,yq1,trivial⟩
def yVE:Nat→Option Seg:=fun _=>none
abbrev ypE:List Par:= [.rd tM]
abbrev yu6:List OT:= [⟨false,tM,(.pr (.ow (.ow .fz)) (.pr (.ow (.pr .fz (.ow .fz))) (.pr .fz (.ow .fz))))⟩]
def yxz (a0:dM):Option (ResD yu6×MutD ypE) :=
 let r1:=ygi a0.1
 let r2:=yk2 a0.2.1
 let r3:=yai a0.2.2.2
 some (((r1,r2,a0.2.2.1,r3),()),())
theorem y0I (x:InD ypE):zjH ⟨yJ6,20,yVE⟩ Tryz.f251.results.toList yJH ypE yu6 x=yxz x.1:=by kernel_rfl
theorem yXo:ConOk Tryz.prog 251 ⟨ypE,yu6,fun x=>yxz x.1⟩:=zkh (yTb) Tryz.func251 (by kernel_rfl) (by kernel_rfl) Tryz.ntmps251.symm (by decide) (fun x r h=>(y0I x).trans h)
def yvK (a0:dM):dM :=
 let r1:=ygi a0.1
 let r2:=yk2 a0.2.1
 let r3:=yai a0.2.2.2
 (r1,r2,a0.2.2.1,r3)
def yGO:Con:=⟨ypE,yu6,fun x=>(fun n=>some ((n,()),())) (yvK x.1)⟩
theorem yZw (a0:dM):yxz a0=(fun n=>some ((n,()),())) (yvK a0):=zkS (p:=fun (n:dM)=>((n,()),())) rfl
theorem yZ5:ConOk Tryz.prog 251 yGO:=(yXo).mono (fun x r _ h=>(yZw x.1).trans h)
theorem yZb (a:dM):yvK a=a:=by kernel_rfl
end
section
def ymw:Code:=(Tryz.f190.body).getD .skip
def ysl:Env:=zki TT [(251,yGO)] []
theorem yPr:FrOk Tryz.prog ⟨ysl,23,fun _=>none⟩ ymw:=zkp yb yc ⟨yZ5,trivial⟩
def yEq:Nat→Option Seg:=fun _=>none
def yd4:Shape:=⟨[(0,false,[.br tM]),(3,false,[.at 800000000]),(4,false,[.int .i64])],[],[(800000000,tM,(.pr (.ow (.ow .fz)) (.pr (.ow (.pr .fz (.ow .fz))) (.pr .fz (.ow .fz)))))]⟩
def ylD:Shape:=⟨[(0,false,[.br tM]),(3,false,[.at 800000000]),(4,false,[.ci .i64 0])],[],[(800000000,tM,(.pr (.ow (.ow .fz)) (.pr (.ow (.pr .fz (.ow .fz))) (.pr .fz (.ow .fz)))))]⟩
def ylv:Shape:=⟨[(3,false,[.at 800000000])],[],[(800000000,tM,(.pr (.ow (.ow .fz)) (.pr (.ow (.pr .fz (.ow .fz))) (.pr .fz (.ow .fz)))))]⟩
def ylP:Shape:=⟨[],[],[]⟩
def yrT (v0:List dM) (v1:Int) (v2:List dM):Option ((yd4).X ⊕ ((ylv).X ⊕ (ylP).X)) :=
 bif (ltb v1 (v0.length:Int)) then
 bif (inb v1 v0.length) then
 let r2:=yvK ((nth v0 v1 ([],[],false,[])).1,((nth v0 v1 ([],[],false,[])).2).1,(((nth v0 v1 ([],[],false,[])).2).2))
 bif (inb v1 v2.length) then
 some (.inl (((v0,()),((),()),((IntKind.i64.wrap (v1+1)),()),()),(),((v2.set (v1).toNat r2),())))
 else none
 else none
 else
 some (.inr (.inl ((((),()),()),(),(v2,()))))
def yct (x:(yd4).X):=yrT x.1.1.1 x.1.2.2.1.1 x.2.2.1
def yAM (x:(ylD).X):(yd4).X:=(((x.1.1.1,()),((),()),(0,()),()),(),(x.2.2.1,()))
def yCm:Code:=(zdI ymw 64 116).getD .skip
theorem yOJ:zdI ymw 64 29=some (.block 0 (.loop yCm)):=by kernel_rfl
theorem yRv (x:(yd4).X):zg7 ⟨ysl,23,yEq⟩ 0 yCm 116 yd4 ylv ylP x=yct x:=by kernel_rfl
def yA1 (x:(ylD).X):Nat:=18446744073709551616
def ytl (x:(ylD).X):Option ((ylv).X ⊕ (ylP).X):=zr yct (yA1 x) (yAM x)
def yBk:Seg:=⟨ylD,ylv,ylP,ytl⟩
def yEr:Nat→Option Seg:=fun q=>bif Nat.beq q 29 then some yBk else yEq q
theorem yPs:FrOk Tryz.prog ⟨ysl,23,yEr⟩ ymw:=(yPr).loop (sg:=yBk) yd4 yAM (by decide) yOJ yct yA1 (by decide) (fun _=>rfl) (fun x r _ h=>h) yRv
abbrev yht:List Par:= [.rd tMs]
abbrev ysL:List OT:= [⟨false,tMs,(.ow (.pr (.ow (.ow .fz)) (.pr (.ow (.pr .fz (.ow .fz))) (.pr .fz (.ow .fz)))))⟩]
def yoQ (a0:List dM):Option (ResD ysL×MutD yht) :=
 bif (zkc (a0.length:Int) 80) then
 zjw (ytl (((a0,()),((),()),((),()),()),(),((List.replicate ((a0.length:Int)).toNat (([],[],false,[]):dM)),()))) (fun y2 =>
 some ((y2.2.2.1,()),())) (fun y2 =>
 none)
 else none
theorem yYR (x:InD yht):zjH ⟨ysl,23,yEr⟩ Tryz.f190.results.toList ymw yht ysL x=yoQ x.1:=by kernel_rfl
theorem yUn:ConOk Tryz.prog 190 ⟨yht,ysL,fun x=>yoQ x.1⟩:=zkh (yPs) Tryz.func190 (by kernel_rfl) (by kernel_rfl) Tryz.ntmps190.symm (by decide) (fun x r h=>(yYR x).trans h)
def yhF (a0:List (dM)):List (dM):=a0
theorem yWL (a0:List (dM)) (hk:zi9 yht (a0,())):yoQ a0=(fun n=>some ((n,()),())) (yhF a0):=by
 have hb:a0.length * 80≤2 ^ 47:=hk.1.1
 have hl:ytl (((a0,()),((),()),((),()),()),(),((List.replicate a0.length (([],[],false,[]):dM)),()))=some (.inl ((((),()),()),(),(a0,()))) :=
  zkj (step:=yct) a0 (([],[],false,[]):dM) (fun i m=>(((a0,()),((),()),((i:Int),()),()),(),(m,()))) (fun m=> .inl ((((),()),()),(),(m,()))) (fun i m hi hm=>by
   simp only [yct,yrT,zkO (show i < m.length by omega),zkO hi,zjW,Int.toNat_natCast,zjI (show (i:Int) < a0.length by omega),cond_true,wr (show -9223372036854775808≤(i:Int)+1 by omega) (by omega),Int.natCast_add,Int.natCast_one,zkV,yZb]) (fun m hm=>by
   simp only [yct,yrT,zkm (Int.le_refl _),cond_false]) _ (by show _ < 18446744073709551616; omega)
 unfold yoQ yhF
 rw [show zkc (a0.length:Int) 80=true by rw [zkH]; omega,zkY,Int.toNat_natCast,hl]
 rfl
def yFk:Con:=⟨yht,ysL,fun x=>(fun n=>some ((n,()),())) (yhF x.1)⟩
theorem yXO:ConOk Tryz.prog 190 yFk:=(yUn).mono (fun x r hk h=>(yWL x.1 hk).trans h)
theorem y3b (a:List dM):yhF a=a:=by kernel_rfl
end
section
def yJF:Code:=(Tryz.f252.body).getD .skip
def yJ4:Env:=zki TT [(282,yiZ)] []
theorem yS9:FrOk Tryz.prog ⟨yJ4,12,fun _=>none⟩ yJF:=zkp yb yc ⟨yq1,trivial⟩
def yVC:Nat→Option Seg:=fun _=>none
abbrev ypC:List Par:= [.rd tW]
abbrev yu4:List OT:= [⟨false,tW,(.pr .fz (.ow .fz))⟩]
def yxx (a0:dW):Option (ResD yu4×MutD ypC) :=
 let r1:=yai a0.2
 some (((a0.1,r1),()),())
theorem y0G (x:InD ypC):zjH ⟨yJ4,12,yVC⟩ Tryz.f252.results.toList yJF ypC yu4 x=yxx x.1:=by kernel_rfl
theorem yXm:ConOk Tryz.prog 252 ⟨ypC,yu4,fun x=>yxx x.1⟩:=zkh (yS9) Tryz.func252 (by kernel_rfl) (by kernel_rfl) Tryz.ntmps252.symm (by decide) (fun x r h=>(y0G x).trans h)
def yvJ (a0:dW):dW :=
 let r1:=yai a0.2
 (a0.1,r1)
def yGM:Con:=⟨ypC,yu4,fun x=>(fun n=>some ((n,()),())) (yvJ x.1)⟩
theorem yZu (a0:dW):yxx a0=(fun n=>some ((n,()),())) (yvJ a0):=zkS (p:=fun (n:dW)=>((n,()),())) rfl
theorem yZ3:ConOk Tryz.prog 252 yGM:=(yXm).mono (fun x r _ h=>(yZu x.1).trans h)
theorem yZa (a:dW):yvJ a=a:=by kernel_rfl
end
section
def ymu:Code:=(Tryz.f191.body).getD .skip
def ysj:Env:=zki TT [(252,yGM)] []
theorem yPn:FrOk Tryz.prog ⟨ysj,23,fun _=>none⟩ ymu:=zkp yb yc ⟨yZ3,trivial⟩
def yEm:Nat→Option Seg:=fun _=>none
def yd2:Shape:=⟨[(0,false,[.br tW]),(3,false,[.at 800000000]),(4,false,[.int .i64])],[],[(800000000,tW,(.pr .fz (.ow .fz)))]⟩
def ylB:Shape:=⟨[(0,false,[.br tW]),(3,false,[.at 800000000]),(4,false,[.ci .i64 0])],[],[(800000000,tW,(.pr .fz (.ow .fz)))]⟩
def ylt:Shape:=⟨[(3,false,[.at 800000000])],[],[(800000000,tW,(.pr .fz (.ow .fz)))]⟩
def ylN:Shape:=⟨[],[],[]⟩
def yrR (v0:List dW) (v1:Int) (v2:List dW):Option ((yd2).X ⊕ ((ylt).X ⊕ (ylN).X)) :=
 bif (ltb v1 (v0.length:Int)) then
 bif (inb v1 v0.length) then
 let r2:=yvJ (nth v0 v1 (0,[]))
 bif (inb v1 v2.length) then
 some (.inl (((v0,()),((),()),((IntKind.i64.wrap (v1+1)),()),()),(),((v2.set (v1).toNat r2),())))
 else none
 else none
 else
 some (.inr (.inl ((((),()),()),(),(v2,()))))
def ycr (x:(yd2).X):=yrR x.1.1.1 x.1.2.2.1.1 x.2.2.1
def yAK (x:(ylB).X):(yd2).X:=(((x.1.1.1,()),((),()),(0,()),()),(),(x.2.2.1,()))
def yCk:Code:=(zdI ymu 64 116).getD .skip
theorem yOH:zdI ymu 64 29=some (.block 0 (.loop yCk)):=by kernel_rfl
theorem yRt (x:(yd2).X):zg7 ⟨ysj,23,yEm⟩ 0 yCk 116 yd2 ylt ylN x=ycr x:=by kernel_rfl
def yAZ (x:(ylB).X):Nat:=18446744073709551616
def ytj (x:(ylB).X):Option ((ylt).X ⊕ (ylN).X):=zr ycr (yAZ x) (yAK x)
def yBi:Seg:=⟨ylB,ylt,ylN,ytj⟩
def yEn:Nat→Option Seg:=fun q=>bif Nat.beq q 29 then some yBi else yEm q
theorem yPo:FrOk Tryz.prog ⟨ysj,23,yEn⟩ ymu:=(yPn).loop (sg:=yBi) yd2 yAK (by decide) yOH ycr yAZ (by decide) (fun _=>rfl) (fun x r _ h=>h) yRt
abbrev yhr:List Par:= [.rd tWs]
abbrev ysJ:List OT:= [⟨false,tWs,(.ow (.pr .fz (.ow .fz)))⟩]
def yoO (a0:List dW):Option (ResD ysJ×MutD yhr) :=
 bif (zkc (a0.length:Int) 32) then
 zjw (ytj (((a0,()),((),()),((),()),()),(),((List.replicate ((a0.length:Int)).toNat ((0,[]):dW)),()))) (fun y2 =>
 some ((y2.2.2.1,()),())) (fun y2 =>
 none)
 else none
theorem yYP (x:InD yhr):zjH ⟨ysj,23,yEn⟩ Tryz.f191.results.toList ymu yhr ysJ x=yoO x.1:=by kernel_rfl
theorem yUl:ConOk Tryz.prog 191 ⟨yhr,ysJ,fun x=>yoO x.1⟩:=zkh (yPo) Tryz.func191 (by kernel_rfl) (by kernel_rfl) Tryz.ntmps191.symm (by decide) (fun x r h=>(yYP x).trans h)
def yhE (a0:List (dW)):List (dW):=a0
theorem yWJ (a0:List (dW)) (hk:zi9 yhr (a0,())):yoO a0=(fun n=>some ((n,()),())) (yhE a0):=by
 have hb:a0.length * 32≤2 ^ 47:=hk.1.1
 have hl:ytj (((a0,()),((),()),((),()),()),(),((List.replicate a0.length ((0,[]):dW)),()))=some (.inl ((((),()),()),(),(a0,()))) :=
  zkj (step:=ycr) a0 ((0,[]):dW) (fun i m=>(((a0,()),((),()),((i:Int),()),()),(),(m,()))) (fun m=> .inl ((((),()),()),(),(m,()))) (fun i m hi hm=>by
   simp only [ycr,yrR,zkO (show i < m.length by omega),zkO hi,zjW,Int.toNat_natCast,zjI (show (i:Int) < a0.length by omega),cond_true,wr (show -9223372036854775808≤(i:Int)+1 by omega) (by omega),Int.natCast_add,Int.natCast_one,zkV,yZa]) (fun m hm=>by
   simp only [ycr,yrR,zkm (Int.le_refl _),cond_false]) _ (by show _ < 18446744073709551616; omega)
 unfold yoO yhE
 rw [show zkc (a0.length:Int) 32=true by rw [zkH]; omega,zkY,Int.toNat_natCast,hl]
 rfl
def yFj:Con:=⟨yhr,ysJ,fun x=>(fun n=>some ((n,()),())) (yhE x.1)⟩
theorem yXN:ConOk Tryz.prog 191 yFj:=(yUl).mono (fun x r hk h=>(yWJ x.1 hk).trans h)
theorem y3a (a:List dW):yhE a=a:=by kernel_rfl
end
end
end Go.Tf
