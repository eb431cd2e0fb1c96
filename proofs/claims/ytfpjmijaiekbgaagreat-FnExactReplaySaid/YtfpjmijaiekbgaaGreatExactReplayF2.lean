/- Functions of the program, and what they come to. -/
import Derived.Test.YtfpjmijaiekbgaaGreatExactReplayF1
namespace Go.Tf
noncomputable section
open Go.Proofs
set_option synthInstance.maxHeartbeats 400000
set_option synthInstance.maxSize 10000
set_option linter.unusedVariables false
set_option linter.unusedSimpArgs false
set_option maxRecDepth 100000
section
def yn0:Code:=(Tryz.f190.body).getD .skip
def ytm:Env:=zki TT [(238,yGc)] []
theorem yQm:FrOk Tryz.prog ⟨ytm,23,fun _=>none⟩ yn0:=zkp yb yc ⟨yXl,trivial⟩
def yEc:Nat→Option Seg:=fun _=>none
def yej:Shape:=⟨[(0,false,[.br tW]),(3,false,[.at 800000000]),(4,false,[.int .i64])],[],[(800000000,tW,(.pr .fz (.ow .fz)))]⟩
def ymW:Shape:=⟨[(0,false,[.br tW]),(3,false,[.at 800000000]),(4,false,[.ci .i64 0])],[],[(800000000,tW,(.pr .fz (.ow .fz)))]⟩
def ymT:Shape:=⟨[(3,false,[.at 800000000])],[],[(800000000,tW,(.pr .fz (.ow .fz)))]⟩
def yni:Shape:=⟨[],[],[]⟩
def ysT (v0:List dW) (v1:Int) (v2:List dW):Option ((yej).X ⊕ ((ymT).X ⊕ (yni).X)) :=
  bif (ltb v1 (v0.length:Int)) then
    bif (inb v1 v0.length) then
      let r2:=ywa (nth v0 v1 (0,[]))
      bif (inb v1 v2.length) then
        some (.inl (((v0,()),((),()),((IntKind.i64.wrap (v1+1)),()),()),(),((v2.set (v1).toNat r2),())))
      else none
    else none
  else
    some (.inr (.inl ((((),()),()),(),(v2,()))))
def ycZ (x:(yej).X):=ysT x.1.1.1 x.1.2.2.1.1 x.2.2.1
def yA9 (x:(ymW).X):(yej).X:=(((x.1.1.1,()),((),()),(0,()),()),(),(x.2.2.1,()))
def yC3:Code:=(zdI yn0 64 116).getD .skip
theorem yPm:zdI yn0 64 29=some (.block 0 (.loop yC3)):=by kernel_rfl
theorem yR8 (x:(yej).X):zg7 ⟨ytm,23,yEc⟩ 0 yC3 116 yej ymT yni x=ycZ x:=by kernel_rfl
def yBq (x:(ymW).X):Nat:=(fun (u0:List dW) (u1:List dW)=>18446744073709551616) x.1.1.1 x.2.2.1
def ytx (x:(ymW).X):Option ((ymT).X ⊕ (yni).X):=zr ycZ (yBq x) (yA9 x)
def yBT:Seg:=⟨ymW,ymT,yni,ytx⟩
def yEd:Nat→Option Seg:=fun q=>bif Nat.beq q 29 then some yBT else yEc q
theorem yQn:FrOk Tryz.prog ⟨ytm,23,yEd⟩ yn0:=(yQm).loop (sg:=yBT) yej yA9 (by decide) yPm ycZ yBq (by decide) (fun _=>rfl) (fun x r _ h=>h) yR8
abbrev yjH:List Par:= [.rd tWs]
abbrev ytY:List OT:= [⟨false,tWs,(.ow (.pr .fz (.ow .fz)))⟩]
def yp4 (a0:List dW):Option (ResD ytY×MutD yjH) :=
  bif (zkc (a0.length:Int) 32) then
    zjw (ytx (((a0,()),((),()),((),()),()),(),((List.replicate ((a0.length:Int)).toNat ((0,[]):dW)),()))) (fun y2 =>
      some ((y2.2.2.1,()),())) (fun y2 =>
      none)
  else none
theorem yWW (x:InD yjH):zjH ⟨ytm,23,yEd⟩ Tryz.f190.results.toList yn0 yjH ytY x=yp4 x.1:=by kernel_rfl
theorem yT5:ConOk Tryz.prog 190 ⟨yjH,ytY,fun x=>yp4 x.1⟩:=zkh (yQn) Tryz.func190 (by kernel_rfl) (by kernel_rfl) Tryz.ntmps190.symm (by decide) (fun x r h=>(yWW x).trans h)
def yj8 (a0:List (dW)):List (dW):=a0
theorem yVY (a0:List (dW)) (hk:zi9 yjH (a0,())):yp4 a0=(fun n=>some ((n,()),())) (yj8 a0):=by
  have hb:a0.length * 32≤2 ^ 47:=hk.1.1
  have hl:ytx (((a0,()),((),()),((),()),()),(),((List.replicate a0.length ((0,[]):dW)),()))=some (.inl ((((),()),()),(),(a0,()))) :=
    zkj (step:=ycZ) a0 ((0,[]):dW) (fun i m=>(((a0,()),((),()),((i:Int),()),()),(),(m,()))) (fun m=> .inl ((((),()),()),(),(m,()))) (fun i m hi hm=>by
      simp only [ycZ,ysT,zkO (show i < m.length by omega),zkO hi,zjW,Int.toNat_natCast,zjI (show (i:Int) < a0.length by omega),cond_true,wr (show -9223372036854775808≤(i:Int)+1 by omega) (by omega),Int.natCast_add,Int.natCast_one,zkV,yW7]) (fun m hm=>by
      simp only [ycZ,ysT,zkm (Int.le_refl _),cond_false]) _ (by show _ < 18446744073709551616; omega)
  unfold yp4 yj8
  rw [show zkc (a0.length:Int) 32=true by rw [zkH]; omega,zkY,Int.toNat_natCast,hl]
  rfl
def yEJ:Con:=⟨yjH,ytY,fun x=>(fun n=>some ((n,()),())) (yj8 x.1)⟩
theorem yWs:ConOk Tryz.prog 190 yEJ:=(yT5).mono (fun x r hk h=>(yVY x.1 hk).trans h)
theorem yYQ (a:List dW):yj8 a=a:=by kernel_rfl
end
section
def yG4:Code:=(Tryz.f111.body).getD .skip
def yHq:Env:=zki TT [(38,yh1),(189,yAW),(190,yEJ)] []
theorem yQl:FrOk Tryz.prog ⟨yHq,20,fun _=>none⟩ yG4:=zkp yb yc ⟨ypW,yRR,yWs,trivial⟩
def ySw:Nat→Option Seg:=fun _=>none
abbrev yov:List Par:= [.rd tM]
abbrev ytX:List OT:= [⟨false,tM,(.pr (.ow (.ow .fz)) (.pr (.ow (.pr .fz (.ow .fz))) (.pr .fz (.ow .fz))))⟩]
def yvY (a0:dM):Option (ResD ytX×MutD yov) :=
  let r1:=yft a0.1
  let r2:=yj8 a0.2.1
  let r3:=yY a0.2.2.2
  some (((r1,r2,a0.2.2.1,r3),()),())
theorem yWV (x:InD yov):zjH ⟨yHq,20,ySw⟩ Tryz.f111.results.toList yG4 yov ytX x=yvY x.1:=by kernel_rfl
theorem yT4:ConOk Tryz.prog 111 ⟨yov,ytX,fun x=>yvY x.1⟩:=zkh (yQl) Tryz.func111 (by kernel_rfl) (by kernel_rfl) Tryz.ntmps111.symm (by decide) (fun x r h=>(yWV x).trans h)
def yus (a0:dM):dM :=
  let r1:=yft a0.1
  let r2:=yj8 a0.2.1
  let r3:=yY a0.2.2.2
  (r1,r2,a0.2.2.1,r3)
def yEI:Con:=⟨yov,ytX,fun x=>(fun n=>some ((n,()),())) (yus x.1)⟩
theorem yVX (a0:dM):yvY a0=(fun n=>some ((n,()),())) (yus a0):=zkS (p:=fun (n:dM)=>((n,()),())) rfl
theorem yWr:ConOk Tryz.prog 111 yEI:=(yT4).mono (fun x r _ h=>(yVX x.1).trans h)
theorem yVD (a:dM):yus a=a:=by kernel_rfl
end
section
def ylz:Code:=(Tryz.f37.body).getD .skip
def yrm:Env:=zki TT [(111,yEI)] []
theorem yMK:FrOk Tryz.prog ⟨yrm,23,fun _=>none⟩ ylz:=zkp yb yc ⟨yWr,trivial⟩
def yCy:Nat→Option Seg:=fun _=>none
def ydw:Shape:=⟨[(0,false,[.br tM]),(3,false,[.at 800000000]),(4,false,[.int .i64])],[],[(800000000,tM,(.pr (.ow (.ow .fz)) (.pr (.ow (.pr .fz (.ow .fz))) (.pr .fz (.ow .fz)))))]⟩
def ykF:Shape:=⟨[(0,false,[.br tM]),(3,false,[.at 800000000]),(4,false,[.ci .i64 0])],[],[(800000000,tM,(.pr (.ow (.ow .fz)) (.pr (.ow (.pr .fz (.ow .fz))) (.pr .fz (.ow .fz)))))]⟩
def ykx:Shape:=⟨[(3,false,[.at 800000000])],[],[(800000000,tM,(.pr (.ow (.ow .fz)) (.pr (.ow (.pr .fz (.ow .fz))) (.pr .fz (.ow .fz)))))]⟩
def ykR:Shape:=⟨[],[],[]⟩
def yqT (v0:List dM) (v1:Int) (v2:List dM):Option ((ydw).X ⊕ ((ykx).X ⊕ (ykR).X)) :=
  bif (ltb v1 (v0.length:Int)) then
    bif (inb v1 v0.length) then
      let r2:=yus ((nth v0 v1 ([],[],false,[])).1,((nth v0 v1 ([],[],false,[])).2).1,(((nth v0 v1 ([],[],false,[])).2).2))
      bif (inb v1 v2.length) then
        some (.inl (((v0,()),((),()),((IntKind.i64.wrap (v1+1)),()),()),(),((v2.set (v1).toNat r2),())))
      else none
    else none
  else
    some (.inr (.inl ((((),()),()),(),(v2,()))))
def ycb (x:(ydw).X):=yqT x.1.1.1 x.1.2.2.1.1 x.2.2.1
def yy4 (x:(ykF).X):(ydw).X:=(((x.1.1.1,()),((),()),(0,()),()),(),(x.2.2.1,()))
def yAC:Code:=(zdI ylz 64 116).getD .skip
theorem yL2:zdI ylz 64 29=some (.block 0 (.loop yAC)):=by kernel_rfl
theorem yOK (x:(ydw).X):zg7 ⟨yrm,23,yCy⟩ 0 yAC 116 ydw ykx ykR x=ycb x:=by kernel_rfl
def yzj (x:(ykF).X):Nat:=(fun (u0:List dM) (u1:List dM)=>18446744073709551616) x.1.1.1 x.2.2.1
def ysg (x:(ykF).X):Option ((ykx).X ⊕ (ykR).X):=zr ycb (yzj x) (yy4 x)
def yzB:Seg:=⟨ykF,ykx,ykR,ysg⟩
def yCz:Nat→Option Seg:=fun q=>bif Nat.beq q 29 then some yzB else yCy q
theorem yML:FrOk Tryz.prog ⟨yrm,23,yCz⟩ ylz:=(yMK).loop (sg:=yzB) ydw yy4 (by decide) yL2 ycb yzj (by decide) (fun _=>rfl) (fun x r _ h=>h) yOK
abbrev ygv:List Par:= [.rd tMs]
abbrev yrM:List OT:= [⟨false,tMs,(.ow (.pr (.ow (.ow .fz)) (.pr (.ow (.pr .fz (.ow .fz))) (.pr .fz (.ow .fz)))))⟩]
def ynK (a0:List dM):Option (ResD yrM×MutD ygv) :=
  bif (zkc (a0.length:Int) 80) then
    zjw (ysg (((a0,()),((),()),((),()),()),(),((List.replicate ((a0.length:Int)).toNat (([],[],false,[]):dM)),()))) (fun y2 =>
      some ((y2.2.2.1,()),())) (fun y2 =>
      none)
  else none
theorem yVm (x:InD ygv):zjH ⟨yrm,23,yCz⟩ Tryz.f37.results.toList ylz ygv yrM x=ynK x.1:=by kernel_rfl
theorem yRo:ConOk Tryz.prog 37 ⟨ygv,yrM,fun x=>ynK x.1⟩:=zkh (yML) Tryz.func37 (by kernel_rfl) (by kernel_rfl) Tryz.ntmps37.symm (by decide) (fun x r h=>(yVm x).trans h)
def ygI (a0:List (dM)):List (dM):=a0
theorem yTw (a0:List (dM)) (hk:zi9 ygv (a0,())):ynK a0=(fun n=>some ((n,()),())) (ygI a0):=by
  have hb:a0.length * 80≤2 ^ 47:=hk.1.1
  have hl:ysg (((a0,()),((),()),((),()),()),(),((List.replicate a0.length (([],[],false,[]):dM)),()))=some (.inl ((((),()),()),(),(a0,()))) :=
    zkj (step:=ycb) a0 (([],[],false,[]):dM) (fun i m=>(((a0,()),((),()),((i:Int),()),()),(),(m,()))) (fun m=> .inl ((((),()),()),(),(m,()))) (fun i m hi hm=>by
      simp only [ycb,yqT,zkO (show i < m.length by omega),zkO hi,zjW,Int.toNat_natCast,zjI (show (i:Int) < a0.length by omega),cond_true,wr (show -9223372036854775808≤(i:Int)+1 by omega) (by omega),Int.natCast_add,Int.natCast_one,zkV,yVD]) (fun m hm=>by
      simp only [ycb,yqT,zkm (Int.le_refl _),cond_false]) _ (by show _ < 18446744073709551616; omega)
  unfold ynK ygI
  rw [show zkc (a0.length:Int) 80=true by rw [zkH]; omega,zkY,Int.toNat_natCast,hl]
  rfl
def yDo:Con:=⟨ygv,yrM,fun x=>(fun n=>some ((n,()),())) (ygI x.1)⟩
theorem yUs:ConOk Tryz.prog 37 yDo:=(yRo).mono (fun x r hk h=>(yTw x.1 hk).trans h)
theorem yYJ (a:List dM):ygI a=a:=by kernel_rfl
end
section
def yG3:Code:=(Tryz.f66.body).getD .skip
def yHp:Env:=zki TT [] []
theorem yQk:FrOk Tryz.prog ⟨yHp,11,fun _=>none⟩ yG3:=zkp yb yc trivial
def ySv:Nat→Option Seg:=fun _=>none
abbrev you:List Par:= [.rd tG]
abbrev ytW:List OT:= [⟨false,tG,(.pr .fz .fz)⟩]
def yvX (a0:dG):Option (ResD ytW×MutD you) :=
  some ((a0,()),())
theorem yWU (x:InD you):zjH ⟨yHp,11,ySv⟩ Tryz.f66.results.toList yG3 you ytW x=yvX x.1:=by kernel_rfl
theorem yT3:ConOk Tryz.prog 66 ⟨you,ytW,fun x=>yvX x.1⟩:=zkh (yQk) Tryz.func66 (by kernel_rfl) (by kernel_rfl) Tryz.ntmps66.symm (by decide) (fun x r h=>(yWU x).trans h)
def yoM (a0:dG):dG :=
  a0
def yEH:Con:=⟨you,ytW,fun x=>(fun n=>some ((n,()),())) (yoM x.1)⟩
theorem yVW (a0:dG):yvX a0=(fun n=>some ((n,()),())) (yoM a0):=zkS (p:=fun (n:dG)=>((n,()),())) rfl
theorem yWq:ConOk Tryz.prog 66 yEH:=(yT3).mono (fun x r _ h=>(yVW x.1).trans h)
theorem yYP (a:dG):yoM a=a:=by kernel_rfl
end
section
def yG2:Code:=(Tryz.f145.body).getD .skip
def yHo:Env:=zki TT [(38,yh1)] []
theorem yQj:FrOk Tryz.prog ⟨yHo,12,fun _=>none⟩ yG2:=zkp yb yc ⟨ypW,trivial⟩
def ySu:Nat→Option Seg:=fun _=>none
abbrev yot:List Par:= [.rd tW]
abbrev ytV:List OT:= [⟨false,tW,(.pr .fz (.ow .fz))⟩]
def yvW (a0:dW):Option (ResD ytV×MutD yot) :=
  let r1:=yY a0.2
  some (((a0.1,r1),()),())
theorem yWT (x:InD yot):zjH ⟨yHo,12,ySu⟩ Tryz.f145.results.toList yG2 yot ytV x=yvW x.1:=by kernel_rfl
theorem yT2:ConOk Tryz.prog 145 ⟨yot,ytV,fun x=>yvW x.1⟩:=zkh (yQj) Tryz.func145 (by kernel_rfl) (by kernel_rfl) Tryz.ntmps145.symm (by decide) (fun x r h=>(yWT x).trans h)
def yur (a0:dW):dW :=
  let r1:=yY a0.2
  (a0.1,r1)
def yEG:Con:=⟨yot,ytV,fun x=>(fun n=>some ((n,()),())) (yur x.1)⟩
theorem yVV (a0:dW):yvW a0=(fun n=>some ((n,()),())) (yur a0):=zkS (p:=fun (n:dW)=>((n,()),())) rfl
theorem yWp:ConOk Tryz.prog 145 yEG:=(yT2).mono (fun x r _ h=>(yVV x.1).trans h)
theorem yVC (a:dW):yur a=a:=by kernel_rfl
end
section
def ylx:Code:=(Tryz.f67.body).getD .skip
def yrk:Env:=zki TT [(145,yEG)] []
theorem yMG:FrOk Tryz.prog ⟨yrk,23,fun _=>none⟩ ylx:=zkp yb yc ⟨yWp,trivial⟩
def yCu:Nat→Option Seg:=fun _=>none
def ydu:Shape:=⟨[(0,false,[.br tW]),(3,false,[.at 800000000]),(4,false,[.int .i64])],[],[(800000000,tW,(.pr .fz (.ow .fz)))]⟩
def ykD:Shape:=⟨[(0,false,[.br tW]),(3,false,[.at 800000000]),(4,false,[.ci .i64 0])],[],[(800000000,tW,(.pr .fz (.ow .fz)))]⟩
def ykv:Shape:=⟨[(3,false,[.at 800000000])],[],[(800000000,tW,(.pr .fz (.ow .fz)))]⟩
def ykP:Shape:=⟨[],[],[]⟩
def yqR (v0:List dW) (v1:Int) (v2:List dW):Option ((ydu).X ⊕ ((ykv).X ⊕ (ykP).X)) :=
  bif (ltb v1 (v0.length:Int)) then
    bif (inb v1 v0.length) then
      let r2:=yur (nth v0 v1 (0,[]))
      bif (inb v1 v2.length) then
        some (.inl (((v0,()),((),()),((IntKind.i64.wrap (v1+1)),()),()),(),((v2.set (v1).toNat r2),())))
      else none
    else none
  else
    some (.inr (.inl ((((),()),()),(),(v2,()))))
def yb9 (x:(ydu).X):=yqR x.1.1.1 x.1.2.2.1.1 x.2.2.1
def yy2 (x:(ykD).X):(ydu).X:=(((x.1.1.1,()),((),()),(0,()),()),(),(x.2.2.1,()))
def yAA:Code:=(zdI ylx 64 116).getD .skip
theorem yL0:zdI ylx 64 29=some (.block 0 (.loop yAA)):=by kernel_rfl
theorem yOI (x:(ydu).X):zg7 ⟨yrk,23,yCu⟩ 0 yAA 116 ydu ykv ykP x=yb9 x:=by kernel_rfl
def yzh (x:(ykD).X):Nat:=(fun (u0:List dW) (u1:List dW)=>18446744073709551616) x.1.1.1 x.2.2.1
def yse (x:(ykD).X):Option ((ykv).X ⊕ (ykP).X):=zr yb9 (yzh x) (yy2 x)
def yzz:Seg:=⟨ykD,ykv,ykP,yse⟩
def yCv:Nat→Option Seg:=fun q=>bif Nat.beq q 29 then some yzz else yCu q
theorem yMH:FrOk Tryz.prog ⟨yrk,23,yCv⟩ ylx:=(yMG).loop (sg:=yzz) ydu yy2 (by decide) yL0 yb9 yzh (by decide) (fun _=>rfl) (fun x r _ h=>h) yOI
abbrev ygt:List Par:= [.rd tWs]
abbrev yrK:List OT:= [⟨false,tWs,(.ow (.pr .fz (.ow .fz)))⟩]
def ynI (a0:List dW):Option (ResD yrK×MutD ygt) :=
  bif (zkc (a0.length:Int) 32) then
    zjw (yse (((a0,()),((),()),((),()),()),(),((List.replicate ((a0.length:Int)).toNat ((0,[]):dW)),()))) (fun y2 =>
      some ((y2.2.2.1,()),())) (fun y2 =>
      none)
  else none
theorem yVk (x:InD ygt):zjH ⟨yrk,23,yCv⟩ Tryz.f67.results.toList ylx ygt yrK x=ynI x.1:=by kernel_rfl
theorem yRm:ConOk Tryz.prog 67 ⟨ygt,yrK,fun x=>ynI x.1⟩:=zkh (yMH) Tryz.func67 (by kernel_rfl) (by kernel_rfl) Tryz.ntmps67.symm (by decide) (fun x r h=>(yVk x).trans h)
def ygH (a0:List (dW)):List (dW):=a0
theorem yTu (a0:List (dW)) (hk:zi9 ygt (a0,())):ynI a0=(fun n=>some ((n,()),())) (ygH a0):=by
  have hb:a0.length * 32≤2 ^ 47:=hk.1.1
  have hl:yse (((a0,()),((),()),((),()),()),(),((List.replicate a0.length ((0,[]):dW)),()))=some (.inl ((((),()),()),(),(a0,()))) :=
    zkj (step:=yb9) a0 ((0,[]):dW) (fun i m=>(((a0,()),((),()),((i:Int),()),()),(),(m,()))) (fun m=> .inl ((((),()),()),(),(m,()))) (fun i m hi hm=>by
      simp only [yb9,yqR,zkO (show i < m.length by omega),zkO hi,zjW,Int.toNat_natCast,zjI (show (i:Int) < a0.length by omega),cond_true,wr (show -9223372036854775808≤(i:Int)+1 by omega) (by omega),Int.natCast_add,Int.natCast_one,zkV,yVC]) (fun m hm=>by
      simp only [yb9,yqR,zkm (Int.le_refl _),cond_false]) _ (by show _ < 18446744073709551616; omega)
  unfold ynI ygH
  rw [show zkc (a0.length:Int) 32=true by rw [zkH]; omega,zkY,Int.toNat_natCast,hl]
  rfl
def yDn:Con:=⟨ygt,yrK,fun x=>(fun n=>some ((n,()),())) (ygH x.1)⟩
theorem yUr:ConOk Tryz.prog 67 yDn:=(yRm).mono (fun x r hk h=>(yTu x.1 hk).trans h)
theorem yYI (a:List dW):ygH a=a:=by kernel_rfl
end
end
end Go.Tf
