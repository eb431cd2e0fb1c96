/- Functions of the program, and what they come to. -/
import Derived.Test.YtfpjmijaiekbgaaGreatExactBuildAllF1
namespace Go.Tf
noncomputable section
open Go.Proofs
set_option synthInstance.maxHeartbeats 400000
set_option synthInstance.maxSize 10000
set_option linter.unusedVariables false
set_option linter.unusedSimpArgs false
set_option maxRecDepth 100000
section
def yne:Code:=(Tryz.f190.body).getD .skip
def ysh:Env:=zki TT [(238,yEv)] []
theorem yOf:FrOk Tryz.prog ⟨ysh,23,fun _=>none⟩ yne:=zkp yb yc ⟨yU1,trivial⟩
def yCD:Nat→Option Seg:=fun _=>none
def yej:Shape:=⟨[(0,false,[.br tW]),(3,false,[.at 800000000]),(4,false,[.int .i64])],[],[(800000000,tW,(.pr .fz (.ow .fz)))]⟩
def ymi:Shape:=⟨[(0,false,[.br tW]),(3,false,[.at 800000000]),(4,false,[.ci .i64 0])],[],[(800000000,tW,(.pr .fz (.ow .fz)))]⟩
def ymf:Shape:=⟨[(3,false,[.at 800000000])],[],[(800000000,tW,(.pr .fz (.ow .fz)))]⟩
def ymD:Shape:=⟨[],[],[]⟩
def yrV (v0:List dW) (v1:Int) (v2:List dW):Option ((yej).X ⊕ ((ymf).X ⊕ (ymD).X)) :=
  bif (ltb v1 (v0.length:Int)) then
    bif (inb v1 v0.length) then
      let r2:=yu4 (nth v0 v1 (0,[]))
      bif (inb v1 v2.length) then
        some (.inl (((v0,()),((),()),((IntKind.i64.wrap (v1+1)),()),()),(),((v2.set (v1).toNat r2),())))
      else none
    else none
  else
    some (.inr (.inl ((((),()),()),(),(v2,()))))
def ycT (x:(yej).X):=yrV x.1.1.1 x.1.2.2.1.1 x.2.2.1
def yz1 (x:(ymi).X):(yej).X:=(((x.1.1.1,()),((),()),(0,()),()),(),(x.2.2.1,()))
def yBF:Code:=(zdI yne 64 116).getD .skip
theorem yNg:zdI yne 64 29=some (.block 0 (.loop yBF)):=by kernel_rfl
theorem yPT (x:(yej).X):zg7 ⟨ysh,23,yCD⟩ 0 yBF 116 yej ymf ymD x=ycT x:=by kernel_rfl
def yAf (x:(ymi).X):Nat:=(fun (u0:List dW) (u1:List dW)=>18446744073709551616) x.1.1.1 x.2.2.1
def ysq (x:(ymi).X):Option ((ymf).X ⊕ (ymD).X):=zr ycT (yAf x) (yz1 x)
def yAD:Seg:=⟨ymi,ymf,ymD,ysq⟩
def yCE:Nat→Option Seg:=fun q=>bif Nat.beq q 29 then some yAD else yCD q
theorem yOg:FrOk Tryz.prog ⟨ysh,23,yCE⟩ yne:=(yOf).loop (sg:=yAD) yej yz1 (by decide) yNg ycT yAf (by decide) (fun _=>rfl) (fun x r _ h=>h) yPT
abbrev yjt:List Par:= [.rd tWs]
abbrev ysQ:List OT:= [⟨false,tWs,(.ow (.pr .fz (.ow .fz)))⟩]
def yph (a0:List dW):Option (ResD ysQ×MutD yjt) :=
  bif (zkc (a0.length:Int) 32) then
    zjw (ysq (((a0,()),((),()),((),()),()),(),((List.replicate ((a0.length:Int)).toNat ((0,[]):dW)),()))) (fun y2 =>
      some ((y2.2.2.1,()),())) (fun y2 =>
      none)
  else none
theorem yUD (x:InD yjt):zjH ⟨ysh,23,yCE⟩ Tryz.f190.results.toList yne yjt ysQ x=yph x.1:=by kernel_rfl
theorem yRN:ConOk Tryz.prog 190 ⟨yjt,ysQ,fun x=>yph x.1⟩:=zkh (yOg) Tryz.func190 (by kernel_rfl) (by kernel_rfl) Tryz.ntmps190.symm (by decide) (fun x r h=>(yUD x).trans h)
def yjK (a0:List (dW)):List (dW):=a0
theorem yTx (a0:List (dW)) (hk:zi9 yjt (a0,())):yph a0=(fun n=>some ((n,()),())) (yjK a0):=by
  have hb:a0.length * 32≤2 ^ 47:=hk.1.1
  have hl:ysq (((a0,()),((),()),((),()),()),(),((List.replicate a0.length ((0,[]):dW)),()))=some (.inl ((((),()),()),(),(a0,()))) :=
    zkj (step:=ycT) a0 ((0,[]):dW) (fun i m=>(((a0,()),((),()),((i:Int),()),()),(),(m,()))) (fun m=> .inl ((((),()),()),(),(m,()))) (fun i m hi hm=>by
      simp only [ycT,yrV,zkO (show i < m.length by omega),zkO hi,zjW,Int.toNat_natCast,zjI (show (i:Int) < a0.length by omega),cond_true,wr (show -9223372036854775808≤(i:Int)+1 by omega) (by omega),Int.natCast_add,Int.natCast_one,zkV,yUO]) (fun m hm=>by
      simp only [ycT,yrV,zkm (Int.le_refl _),cond_false]) _ (by show _ < 18446744073709551616; omega)
  unfold yph yjK
  rw [show zkc (a0.length:Int) 32=true by rw [zkH]; omega,zkY,Int.toNat_natCast,hl]
  rfl
def yDa:Con:=⟨yjt,ysQ,fun x=>(fun n=>some ((n,()),())) (yjK x.1)⟩
theorem yT3:ConOk Tryz.prog 190 yDa:=(yRN).mono (fun x r hk h=>(yTx x.1 hk).trans h)
theorem yWC (a:List dW):yjK a=a:=by kernel_rfl
end
section
def yFq:Code:=(Tryz.f111.body).getD .skip
def yFR:Env:=zki TT [(38,yhO),(189,yzN),(190,yDa)] []
theorem yOe:FrOk Tryz.prog ⟨yFR,20,fun _=>none⟩ yFq:=zkp yb yc ⟨yo8,yPB,yT3,trivial⟩
def yQh:Nat→Option Seg:=fun _=>none
abbrev ynG:List Par:= [.rd tM]
abbrev ysP:List OT:= [⟨false,tM,(.pr (.ow (.ow .fz)) (.pr (.ow (.pr .fz (.ow .fz))) (.pr .fz (.ow .fz))))⟩]
def yuT (a0:dM):Option (ResD ysP×MutD ynG) :=
  let r1:=yfn a0.1
  let r2:=yjK a0.2.1
  let r3:=yaa a0.2.2.2
  some (((r1,r2,a0.2.2.1,r3),()),())
theorem yUC (x:InD ynG):zjH ⟨yFR,20,yQh⟩ Tryz.f111.results.toList yFq ynG ysP x=yuT x.1:=by kernel_rfl
theorem yRM:ConOk Tryz.prog 111 ⟨ynG,ysP,fun x=>yuT x.1⟩:=zkh (yOe) Tryz.func111 (by kernel_rfl) (by kernel_rfl) Tryz.ntmps111.symm (by decide) (fun x r h=>(yUC x).trans h)
def ytk (a0:dM):dM :=
  let r1:=yfn a0.1
  let r2:=yjK a0.2.1
  let r3:=yaa a0.2.2.2
  (r1,r2,a0.2.2.1,r3)
def yC9:Con:=⟨ynG,ysP,fun x=>(fun n=>some ((n,()),())) (ytk x.1)⟩
theorem yTw (a0:dM):yuT a0=(fun n=>some ((n,()),())) (ytk a0):=zkS (p:=fun (n:dM)=>((n,()),())) rfl
theorem yT2:ConOk Tryz.prog 111 yC9:=(yRM).mono (fun x r _ h=>(yTw x.1).trans h)
theorem yS8 (a:dM):ytk a=a:=by kernel_rfl
end
section
def yk3:Code:=(Tryz.f37.body).getD .skip
def yqy:Env:=zki TT [(111,yC9)] []
theorem yKT:FrOk Tryz.prog ⟨yqy,23,fun _=>none⟩ yk3:=zkp yb yc ⟨yT2,trivial⟩
def yBc:Nat→Option Seg:=fun _=>none
def ydm:Shape:=⟨[(0,false,[.br tM]),(3,false,[.at 800000000]),(4,false,[.int .i64])],[],[(800000000,tM,(.pr (.ow (.ow .fz)) (.pr (.ow (.pr .fz (.ow .fz))) (.pr .fz (.ow .fz)))))]⟩
def yka:Shape:=⟨[(0,false,[.br tM]),(3,false,[.at 800000000]),(4,false,[.ci .i64 0])],[],[(800000000,tM,(.pr (.ow (.ow .fz)) (.pr (.ow (.pr .fz (.ow .fz))) (.pr .fz (.ow .fz)))))]⟩
def yj2:Shape:=⟨[(3,false,[.at 800000000])],[],[(800000000,tM,(.pr (.ow (.ow .fz)) (.pr (.ow (.pr .fz (.ow .fz))) (.pr .fz (.ow .fz)))))]⟩
def yko:Shape:=⟨[],[],[]⟩
def yp0 (v0:List dM) (v1:Int) (v2:List dM):Option ((ydm).X ⊕ ((yj2).X ⊕ (yko).X)) :=
  bif (ltb v1 (v0.length:Int)) then
    bif (inb v1 v0.length) then
      let r2:=ytk ((nth v0 v1 ([],[],false,[])).1,((nth v0 v1 ([],[],false,[])).2).1,(((nth v0 v1 ([],[],false,[])).2).2))
      bif (inb v1 v2.length) then
        some (.inl (((v0,()),((),()),((IntKind.i64.wrap (v1+1)),()),()),(),((v2.set (v1).toNat r2),())))
      else none
    else none
  else
    some (.inr (.inl ((((),()),()),(),(v2,()))))
def ycd (x:(ydm).X):=yp0 x.1.1.1 x.1.2.2.1.1 x.2.2.1
def yxO (x:(yka).X):(ydm).X:=(((x.1.1.1,()),((),()),(0,()),()),(),(x.2.2.1,()))
def yzu:Code:=(zdI yk3 64 116).getD .skip
theorem yKd:zdI yk3 64 29=some (.block 0 (.loop yzu)):=by kernel_rfl
theorem yMI (x:(ydm).X):zg7 ⟨yqy,23,yBc⟩ 0 yzu 116 ydm yj2 yko x=ycd x:=by kernel_rfl
def yx4 (x:(yka).X):Nat:=(fun (u0:List dM) (u1:List dM)=>18446744073709551616) x.1.1.1 x.2.2.1
def yrk (x:(yka).X):Option ((yj2).X ⊕ (yko).X):=zr ycd (yx4 x) (yxO x)
def yyq:Seg:=⟨yka,yj2,yko,yrk⟩
def yBd:Nat→Option Seg:=fun q=>bif Nat.beq q 29 then some yyq else yBc q
theorem yKU:FrOk Tryz.prog ⟨yqy,23,yBd⟩ yk3:=(yKT).loop (sg:=yyq) ydm yxO (by decide) yKd ycd yx4 (by decide) (fun _=>rfl) (fun x r _ h=>h) yMI
abbrev ygp:List Par:= [.rd tMs]
abbrev yqV:List OT:= [⟨false,tMs,(.ow (.pr (.ow (.ow .fz)) (.pr (.ow (.pr .fz (.ow .fz))) (.pr .fz (.ow .fz)))))⟩]
def ym0 (a0:List dM):Option (ResD yqV×MutD ygp) :=
  bif (zkc (a0.length:Int) 80) then
    zjw (yrk (((a0,()),((),()),((),()),()),(),((List.replicate ((a0.length:Int)).toNat (([],[],false,[]):dM)),()))) (fun y2 =>
      some ((y2.2.2.1,()),())) (fun y2 =>
      none)
  else none
theorem ySU (x:InD ygp):zjH ⟨yqy,23,yBd⟩ Tryz.f37.results.toList yk3 ygp yqV x=ym0 x.1:=by kernel_rfl
theorem yPf:ConOk Tryz.prog 37 ⟨ygp,yqV,fun x=>ym0 x.1⟩:=zkh (yKU) Tryz.func37 (by kernel_rfl) (by kernel_rfl) Tryz.ntmps37.symm (by decide) (fun x r h=>(ySU x).trans h)
def ygz (a0:List (dM)):List (dM):=a0
theorem yRf (a0:List (dM)) (hk:zi9 ygp (a0,())):ym0 a0=(fun n=>some ((n,()),())) (ygz a0):=by
  have hb:a0.length * 80≤2 ^ 47:=hk.1.1
  have hl:yrk (((a0,()),((),()),((),()),()),(),((List.replicate a0.length (([],[],false,[]):dM)),()))=some (.inl ((((),()),()),(),(a0,()))) :=
    zkj (step:=ycd) a0 (([],[],false,[]):dM) (fun i m=>(((a0,()),((),()),((i:Int),()),()),(),(m,()))) (fun m=> .inl ((((),()),()),(),(m,()))) (fun i m hi hm=>by
      simp only [ycd,yp0,zkO (show i < m.length by omega),zkO hi,zjW,Int.toNat_natCast,zjI (show (i:Int) < a0.length by omega),cond_true,wr (show -9223372036854775808≤(i:Int)+1 by omega) (by omega),Int.natCast_add,Int.natCast_one,zkV,yS8]) (fun m hm=>by
      simp only [ycd,yp0,zkm (Int.le_refl _),cond_false]) _ (by show _ < 18446744073709551616; omega)
  unfold ym0 ygz
  rw [show zkc (a0.length:Int) 80=true by rw [zkH]; omega,zkY,Int.toNat_natCast,hl]
  rfl
def yBU:Con:=⟨ygp,yqV,fun x=>(fun n=>some ((n,()),())) (ygz x.1)⟩
theorem yR7:ConOk Tryz.prog 37 yBU:=(yPf).mono (fun x r hk h=>(yRf x.1 hk).trans h)
theorem yWv (a:List dM):ygz a=a:=by kernel_rfl
end
section
def yFp:Code:=(Tryz.f66.body).getD .skip
def yFQ:Env:=zki TT [] []
theorem yOd:FrOk Tryz.prog ⟨yFQ,11,fun _=>none⟩ yFp:=zkp yb yc trivial
def yQg:Nat→Option Seg:=fun _=>none
abbrev ynF:List Par:= [.rd tG]
abbrev ysO:List OT:= [⟨false,tG,(.pr .fz .fz)⟩]
def yuS (a0:dG):Option (ResD ysO×MutD ynF) :=
  some ((a0,()),())
theorem yUB (x:InD ynF):zjH ⟨yFQ,11,yQg⟩ Tryz.f66.results.toList yFp ynF ysO x=yuS x.1:=by kernel_rfl
theorem yRL:ConOk Tryz.prog 66 ⟨ynF,ysO,fun x=>yuS x.1⟩:=zkh (yOd) Tryz.func66 (by kernel_rfl) (by kernel_rfl) Tryz.ntmps66.symm (by decide) (fun x r h=>(yUB x).trans h)
def yn3 (a0:dG):dG :=
  a0
def yC8:Con:=⟨ynF,ysO,fun x=>(fun n=>some ((n,()),())) (yn3 x.1)⟩
theorem yTv (a0:dG):yuS a0=(fun n=>some ((n,()),())) (yn3 a0):=zkS (p:=fun (n:dG)=>((n,()),())) rfl
theorem yT1:ConOk Tryz.prog 66 yC8:=(yRL).mono (fun x r _ h=>(yTv x.1).trans h)
theorem yWB (a:dG):yn3 a=a:=by kernel_rfl
end
section
def yFo:Code:=(Tryz.f145.body).getD .skip
def yFP:Env:=zki TT [(38,yhO)] []
theorem yOc:FrOk Tryz.prog ⟨yFP,12,fun _=>none⟩ yFo:=zkp yb yc ⟨yo8,trivial⟩
def yQf:Nat→Option Seg:=fun _=>none
abbrev ynE:List Par:= [.rd tW]
abbrev ysN:List OT:= [⟨false,tW,(.pr .fz (.ow .fz))⟩]
def yuR (a0:dW):Option (ResD ysN×MutD ynE) :=
  let r1:=yaa a0.2
  some (((a0.1,r1),()),())
theorem yUA (x:InD ynE):zjH ⟨yFP,12,yQf⟩ Tryz.f145.results.toList yFo ynE ysN x=yuR x.1:=by kernel_rfl
theorem yRK:ConOk Tryz.prog 145 ⟨ynE,ysN,fun x=>yuR x.1⟩:=zkh (yOc) Tryz.func145 (by kernel_rfl) (by kernel_rfl) Tryz.ntmps145.symm (by decide) (fun x r h=>(yUA x).trans h)
def ytj (a0:dW):dW :=
  let r1:=yaa a0.2
  (a0.1,r1)
def yC7:Con:=⟨ynE,ysN,fun x=>(fun n=>some ((n,()),())) (ytj x.1)⟩
theorem yTu (a0:dW):yuR a0=(fun n=>some ((n,()),())) (ytj a0):=zkS (p:=fun (n:dW)=>((n,()),())) rfl
theorem yT0:ConOk Tryz.prog 145 yC7:=(yRK).mono (fun x r _ h=>(yTu x.1).trans h)
theorem yS7 (a:dW):ytj a=a:=by kernel_rfl
end
section
def yk1:Code:=(Tryz.f67.body).getD .skip
def yqw:Env:=zki TT [(145,yC7)] []
theorem yKP:FrOk Tryz.prog ⟨yqw,23,fun _=>none⟩ yk1:=zkp yb yc ⟨yT0,trivial⟩
def yA8:Nat→Option Seg:=fun _=>none
def ydk:Shape:=⟨[(0,false,[.br tW]),(3,false,[.at 800000000]),(4,false,[.int .i64])],[],[(800000000,tW,(.pr .fz (.ow .fz)))]⟩
def yj8:Shape:=⟨[(0,false,[.br tW]),(3,false,[.at 800000000]),(4,false,[.ci .i64 0])],[],[(800000000,tW,(.pr .fz (.ow .fz)))]⟩
def yj0:Shape:=⟨[(3,false,[.at 800000000])],[],[(800000000,tW,(.pr .fz (.ow .fz)))]⟩
def ykm:Shape:=⟨[],[],[]⟩
def ypY (v0:List dW) (v1:Int) (v2:List dW):Option ((ydk).X ⊕ ((yj0).X ⊕ (ykm).X)) :=
  bif (ltb v1 (v0.length:Int)) then
    bif (inb v1 v0.length) then
      let r2:=ytj (nth v0 v1 (0,[]))
      bif (inb v1 v2.length) then
        some (.inl (((v0,()),((),()),((IntKind.i64.wrap (v1+1)),()),()),(),((v2.set (v1).toNat r2),())))
      else none
    else none
  else
    some (.inr (.inl ((((),()),()),(),(v2,()))))
def ycb (x:(ydk).X):=ypY x.1.1.1 x.1.2.2.1.1 x.2.2.1
def yxM (x:(yj8).X):(ydk).X:=(((x.1.1.1,()),((),()),(0,()),()),(),(x.2.2.1,()))
def yzs:Code:=(zdI yk1 64 116).getD .skip
theorem yKb:zdI yk1 64 29=some (.block 0 (.loop yzs)):=by kernel_rfl
theorem yMG (x:(ydk).X):zg7 ⟨yqw,23,yA8⟩ 0 yzs 116 ydk yj0 ykm x=ycb x:=by kernel_rfl
def yx2 (x:(yj8).X):Nat:=(fun (u0:List dW) (u1:List dW)=>18446744073709551616) x.1.1.1 x.2.2.1
def yri (x:(yj8).X):Option ((yj0).X ⊕ (ykm).X):=zr ycb (yx2 x) (yxM x)
def yyo:Seg:=⟨yj8,yj0,ykm,yri⟩
def yA9:Nat→Option Seg:=fun q=>bif Nat.beq q 29 then some yyo else yA8 q
theorem yKQ:FrOk Tryz.prog ⟨yqw,23,yA9⟩ yk1:=(yKP).loop (sg:=yyo) ydk yxM (by decide) yKb ycb yx2 (by decide) (fun _=>rfl) (fun x r _ h=>h) yMG
abbrev ygn:List Par:= [.rd tWs]
abbrev yqT:List OT:= [⟨false,tWs,(.ow (.pr .fz (.ow .fz)))⟩]
def ymY (a0:List dW):Option (ResD yqT×MutD ygn) :=
  bif (zkc (a0.length:Int) 32) then
    zjw (yri (((a0,()),((),()),((),()),()),(),((List.replicate ((a0.length:Int)).toNat ((0,[]):dW)),()))) (fun y2 =>
      some ((y2.2.2.1,()),())) (fun y2 =>
      none)
  else none
theorem ySS (x:InD ygn):zjH ⟨yqw,23,yA9⟩ Tryz.f67.results.toList yk1 ygn yqT x=ymY x.1:=by kernel_rfl
theorem yPd:ConOk Tryz.prog 67 ⟨ygn,yqT,fun x=>ymY x.1⟩:=zkh (yKQ) Tryz.func67 (by kernel_rfl) (by kernel_rfl) Tryz.ntmps67.symm (by decide) (fun x r h=>(ySS x).trans h)
def ygy (a0:List (dW)):List (dW):=a0
theorem yRd (a0:List (dW)) (hk:zi9 ygn (a0,())):ymY a0=(fun n=>some ((n,()),())) (ygy a0):=by
  have hb:a0.length * 32≤2 ^ 47:=hk.1.1
  have hl:yri (((a0,()),((),()),((),()),()),(),((List.replicate a0.length ((0,[]):dW)),()))=some (.inl ((((),()),()),(),(a0,()))) :=
    zkj (step:=ycb) a0 ((0,[]):dW) (fun i m=>(((a0,()),((),()),((i:Int),()),()),(),(m,()))) (fun m=> .inl ((((),()),()),(),(m,()))) (fun i m hi hm=>by
      simp only [ycb,ypY,zkO (show i < m.length by omega),zkO hi,zjW,Int.toNat_natCast,zjI (show (i:Int) < a0.length by omega),cond_true,wr (show -9223372036854775808≤(i:Int)+1 by omega) (by omega),Int.natCast_add,Int.natCast_one,zkV,yS7]) (fun m hm=>by
      simp only [ycb,ypY,zkm (Int.le_refl _),cond_false]) _ (by show _ < 18446744073709551616; omega)
  unfold ymY ygy
  rw [show zkc (a0.length:Int) 32=true by rw [zkH]; omega,zkY,Int.toNat_natCast,hl]
  rfl
def yBT:Con:=⟨ygn,yqT,fun x=>(fun n=>some ((n,()),())) (ygy x.1)⟩
theorem yR6:ConOk Tryz.prog 67 yBT:=(yPd).mono (fun x r hk h=>(yRd x.1 hk).trans h)
theorem yWu (a:List dW):ygy a=a:=by kernel_rfl
end
end
end Go.Tf
