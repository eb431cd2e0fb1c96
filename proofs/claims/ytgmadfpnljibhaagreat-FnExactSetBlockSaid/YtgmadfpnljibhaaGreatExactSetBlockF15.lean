/- Functions of the program, and what they come to. -/
import Derived.Test.YtgmadfpnljibhaaGreatExactSetBlockF14
namespace Go.Tf
noncomputable section
open Go.Proofs
set_option synthInstance.maxHeartbeats 400000
set_option synthInstance.maxSize 10000
set_option linter.unusedVariables false
set_option linter.unusedSimpArgs false
set_option maxRecDepth 100000
section
def yls:Code:=(Tryz.f281.body).getD .skip
def yqp:Env:=zki TT [(292,yCc)] []
theorem yK3:FrOk Tryz.prog ⟨yqp,23,fun _=>none⟩ yls:=zkp yb yc ⟨yRY,trivial⟩
def yz9:Nat→Option Seg:=fun _=>none
def ydo:Shape:=⟨[(0,false,[.br tW]),(3,false,[.at 800000000]),(4,false,[.int .i64])],[],[(800000000,tW,(.pr .fz (.ow .fz)))]⟩
def ykB:Shape:=⟨[(0,false,[.br tW]),(3,false,[.at 800000000]),(4,false,[.ci .i64 0])],[],[(800000000,tW,(.pr .fz (.ow .fz)))]⟩
def yky:Shape:=⟨[(3,false,[.at 800000000])],[],[(800000000,tW,(.pr .fz (.ow .fz)))]⟩
def ykW:Shape:=⟨[],[],[]⟩
def ypX (v0:List dW) (v1:Int) (v2:List dW):Option ((ydo).X ⊕ ((yky).X ⊕ (ykW).X)) :=
 bif (ltb v1 (v0.length:Int)) then
 bif (inb v1 v0.length) then
 let r2:=ysO (nth v0 v1 (0,[]))
 bif (inb v1 v2.length) then
 some (.inl (((v0,()),((),()),((IntKind.i64.wrap (v1+1)),()),()),(),((v2.set (v1).toNat r2),())))
 else none
 else none
 else
 some (.inr (.inl ((((),()),()),(),(v2,()))))
def ycl (x:(ydo).X):=ypX x.1.1.1 x.1.2.2.1.1 x.2.2.1
def yxe (x:(ykB).X):(ydo).X:=(((x.1.1.1,()),((),()),(0,()),()),(),(x.2.2.1,()))
def yyX:Code:=(zdI yls 64 116).getD .skip
theorem yJ4:zdI yls 64 29=some (.block 0 (.loop yyX)):=by kernel_rfl
theorem yMO (x:(ydo).X):zg7 ⟨yqp,23,yz9⟩ 0 yyX 116 ydo yky ykW x=ycl x:=by kernel_rfl
def yxs (x:(ykB).X):Nat:=18446744073709551616
def yqz (x:(ykB).X):Option ((yky).X ⊕ (ykW).X):=zr ycl (yxs x) (yxe x)
def yxQ:Seg:=⟨ykB,yky,ykW,yqz⟩
def yAa:Nat→Option Seg:=fun q=>bif Nat.beq q 29 then some yxQ else yz9 q
theorem yK4:FrOk Tryz.prog ⟨yqp,23,yAa⟩ yls:=(yK3).loop (sg:=yxQ) ydo yxe (by decide) yJ4 ycl yxs (by decide) (fun _=>rfl) (fun x r _ h=>h) yMO
abbrev yh4:List Par:= [.rd tWs]
abbrev yqY:List OT:= [⟨false,tWs,(.ow (.pr .fz (.ow .fz)))⟩]
def yno (a0:List dW):Option (ResD yqY×MutD yh4) :=
 bif (zkc (a0.length:Int) 32) then
 zjw (yqz (((a0,()),((),()),((),()),()),(),((List.replicate ((a0.length:Int)).toNat ((0,[]):dW)),()))) (fun y2 =>
 some ((y2.2.2.1,()),())) (fun y2 =>
 none)
 else none
theorem yRD (x:InD yh4):zjH ⟨yqp,23,yAa⟩ Tryz.f281.results.toList yls yh4 yqY x=yno x.1:=by kernel_rfl
theorem yOO:ConOk Tryz.prog 281 ⟨yh4,yqY,fun x=>yno x.1⟩:=zkh (yK4) Tryz.func281 (by kernel_rfl) (by kernel_rfl) Tryz.ntmps281.symm (by decide) (fun x r h=>(yRD x).trans h)
def yio (a0:List (dW)):List (dW):=a0
theorem yQF (a0:List (dW)) (hk:zi9 yh4 (a0,())):yno a0=(fun n=>some ((n,()),())) (yio a0):=by
 have hb:a0.length * 32≤2 ^ 47:=hk.1.1
 have hl:yqz (((a0,()),((),()),((),()),()),(),((List.replicate a0.length ((0,[]):dW)),()))=some (.inl ((((),()),()),(),(a0,()))) :=
  zkj (step:=ycl) a0 ((0,[]):dW) (fun i m=>(((a0,()),((),()),((i:Int),()),()),(),(m,()))) (fun m=> .inl ((((),()),()),(),(m,()))) (fun i m hi hm=>by
   simp only [ycl,ypX,zkO (show i < m.length by omega),zkO hi,zjW,Int.toNat_natCast,zjI (show (i:Int) < a0.length by omega),cond_true,wr (show -9223372036854775808≤(i:Int)+1 by omega) (by omega),Int.natCast_add,Int.natCast_one,zkV,yRN]) (fun m hm=>by
   simp only [ycl,ypX,zkm (Int.le_refl _),cond_false]) _ (by show _ < 18446744073709551616; omega)
 unfold yno yio
 rw [show zkc (a0.length:Int) 32=true by rw [zkH]; omega,zkY,Int.toNat_natCast,hl]
 rfl
def yAJ:Con:=⟨yh4,yqY,fun x=>(fun n=>some ((n,()),())) (yio x.1)⟩
theorem yRa:ConOk Tryz.prog 281 yAJ:=(yOO).mono (fun x r hk h=>(yQF x.1 hk).trans h)
theorem yTE (a:List dW):yio a=a:=by kernel_rfl
end
section
def yCP:Code:=(Tryz.f251.body).getD .skip
def yDa:Env:=zki TT [(280,yw0),(281,yAJ),(282,ygA)] []
theorem yK2:FrOk Tryz.prog ⟨yDa,20,fun _=>none⟩ yCP:=zkp yb yc ⟨yMy,yRa,ynh,trivial⟩
def yNc:Nat→Option Seg:=fun _=>none
abbrev ylQ:List Par:= [.rd tM]
abbrev yqX:List OT:= [⟨false,tM,(.pr (.ow (.ow .fz)) (.pr (.ow (.pr .fz (.ow .fz))) (.pr .fz (.ow .fz))))⟩]
def ysz (a0:dM):Option (ResD yqX×MutD ylQ) :=
 let r1:=yeu a0.1
 let r2:=yio a0.2.1
 let r3:=yY a0.2.2.2
 some (((r1,r2,a0.2.2.1,r3),()),())
theorem yRC (x:InD ylQ):zjH ⟨yDa,20,yNc⟩ Tryz.f251.results.toList yCP ylQ yqX x=ysz x.1:=by kernel_rfl
theorem yON:ConOk Tryz.prog 251 ⟨ylQ,yqX,fun x=>ysz x.1⟩:=zkh (yK2) Tryz.func251 (by kernel_rfl) (by kernel_rfl) Tryz.ntmps251.symm (by decide) (fun x r h=>(yRC x).trans h)
def yrm (a0:dM):dM :=
 let r1:=yeu a0.1
 let r2:=yio a0.2.1
 let r3:=yY a0.2.2.2
 (r1,r2,a0.2.2.1,r3)
def yAI:Con:=⟨ylQ,yqX,fun x=>(fun n=>some ((n,()),())) (yrm x.1)⟩
theorem yQE (a0:dM):ysz a0=(fun n=>some ((n,()),())) (yrm a0):=zkS (p:=fun (n:dM)=>((n,()),())) rfl
theorem yQ9:ConOk Tryz.prog 251 yAI:=(yON).mono (fun x r _ h=>(yQE x.1).trans h)
theorem yQk (a:dM):yrm a=a:=by kernel_rfl
end
section
def yjz:Code:=(Tryz.f190.body).getD .skip
def yoB:Env:=zki TT [(251,yAI)] []
theorem yHF:FrOk Tryz.prog ⟨yoB,23,fun _=>none⟩ yjz:=zkp yb yc ⟨yQ9,trivial⟩
def yyu:Nat→Option Seg:=fun _=>none
def ycH:Shape:=⟨[(0,false,[.br tM]),(3,false,[.at 800000000]),(4,false,[.int .i64])],[],[(800000000,tM,(.pr (.ow (.ow .fz)) (.pr (.ow (.pr .fz (.ow .fz))) (.pr .fz (.ow .fz)))))]⟩
def yiO:Shape:=⟨[(0,false,[.br tM]),(3,false,[.at 800000000]),(4,false,[.ci .i64 0])],[],[(800000000,tM,(.pr (.ow (.ow .fz)) (.pr (.ow (.pr .fz (.ow .fz))) (.pr .fz (.ow .fz)))))]⟩
def yiG:Shape:=⟨[(3,false,[.at 800000000])],[],[(800000000,tM,(.pr (.ow (.ow .fz)) (.pr (.ow (.pr .fz (.ow .fz))) (.pr .fz (.ow .fz)))))]⟩
def yi0:Shape:=⟨[],[],[]⟩
def yn7 (v0:List dM) (v1:Int) (v2:List dM):Option ((ycH).X ⊕ ((yiG).X ⊕ (yi0).X)) :=
 bif (ltb v1 (v0.length:Int)) then
 bif (inb v1 v0.length) then
 let r2:=yrm ((nth v0 v1 ([],[],false,[])).1,((nth v0 v1 ([],[],false,[])).2).1,(((nth v0 v1 ([],[],false,[])).2).2))
 bif (inb v1 v2.length) then
 some (.inl (((v0,()),((),()),((IntKind.i64.wrap (v1+1)),()),()),(),((v2.set (v1).toNat r2),())))
 else none
 else none
 else
 some (.inr (.inl ((((),()),()),(),(v2,()))))
def ybI (x:(ycH).X):=yn7 x.1.1.1 x.1.2.2.1.1 x.2.2.1
def yu7 (x:(yiO).X):(ycH).X:=(((x.1.1.1,()),((),()),(0,()),()),(),(x.2.2.1,()))
def ywE:Code:=(zdI yjz 64 116).getD .skip
theorem yG1:zdI yjz 64 29=some (.block 0 (.loop ywE)):=by kernel_rfl
theorem yJs (x:(ycH).X):zg7 ⟨yoB,23,yyu⟩ 0 ywE 116 ycH yiG yi0 x=ybI x:=by kernel_rfl
def yvm (x:(yiO).X):Nat:=18446744073709551616
def ypr (x:(yiO).X):Option ((yiG).X ⊕ (yi0).X):=zr ybI (yvm x) (yu7 x)
def yvE:Seg:=⟨yiO,yiG,yi0,ypr⟩
def yyv:Nat→Option Seg:=fun q=>bif Nat.beq q 29 then some yvE else yyu q
theorem yHG:FrOk Tryz.prog ⟨yoB,23,yyv⟩ yjz:=(yHF).loop (sg:=yvE) ycH yu7 (by decide) yG1 ybI yvm (by decide) (fun _=>rfl) (fun x r _ h=>h) yJs
abbrev yfo:List Par:= [.rd tMs]
abbrev yoW:List OT:= [⟨false,tMs,(.ow (.pr (.ow (.ow .fz)) (.pr (.ow (.pr .fz (.ow .fz))) (.pr .fz (.ow .fz)))))⟩]
def ylf (a0:List dM):Option (ResD yoW×MutD yfo) :=
 bif (zkc (a0.length:Int) 80) then
 zjw (ypr (((a0,()),((),()),((),()),()),(),((List.replicate ((a0.length:Int)).toNat (([],[],false,[]):dM)),()))) (fun y2 =>
 some ((y2.2.2.1,()),())) (fun y2 =>
 none)
 else none
theorem yP3 (x:InD yfo):zjH ⟨yoB,23,yyv⟩ Tryz.f190.results.toList yjz yfo yoW x=ylf x.1:=by kernel_rfl
theorem yL4:ConOk Tryz.prog 190 ⟨yfo,yoW,fun x=>ylf x.1⟩:=zkh (yHG) Tryz.func190 (by kernel_rfl) (by kernel_rfl) Tryz.ntmps190.symm (by decide) (fun x r h=>(yP3 x).trans h)
def yfw (a0:List (dM)):List (dM):=a0
theorem yOe (a0:List (dM)) (hk:zi9 yfo (a0,())):ylf a0=(fun n=>some ((n,()),())) (yfw a0):=by
 have hb:a0.length * 80≤2 ^ 47:=hk.1.1
 have hl:ypr (((a0,()),((),()),((),()),()),(),((List.replicate a0.length (([],[],false,[]):dM)),()))=some (.inl ((((),()),()),(),(a0,()))) :=
  zkj (step:=ybI) a0 (([],[],false,[]):dM) (fun i m=>(((a0,()),((),()),((i:Int),()),()),(),(m,()))) (fun m=> .inl ((((),()),()),(),(m,()))) (fun i m hi hm=>by
   simp only [ybI,yn7,zkO (show i < m.length by omega),zkO hi,zjW,Int.toNat_natCast,zjI (show (i:Int) < a0.length by omega),cond_true,wr (show -9223372036854775808≤(i:Int)+1 by omega) (by omega),Int.natCast_add,Int.natCast_one,zkV,yQk]) (fun m hm=>by
   simp only [ybI,yn7,zkm (Int.le_refl _),cond_false]) _ (by show _ < 18446744073709551616; omega)
 unfold ylf yfw
 rw [show zkc (a0.length:Int) 80=true by rw [zkH]; omega,zkY,Int.toNat_natCast,hl]
 rfl
def yzg:Con:=⟨yfo,yoW,fun x=>(fun n=>some ((n,()),())) (yfw x.1)⟩
theorem yPa:ConOk Tryz.prog 190 yzg:=(yL4).mono (fun x r hk h=>(yOe x.1 hk).trans h)
theorem yTt (a:List dM):yfw a=a:=by kernel_rfl
end
section
def yCN:Code:=(Tryz.f252.body).getD .skip
def yC8:Env:=zki TT [(282,ygA)] []
theorem yK0:FrOk Tryz.prog ⟨yC8,12,fun _=>none⟩ yCN:=zkp yb yc ⟨ynh,trivial⟩
def yNa:Nat→Option Seg:=fun _=>none
abbrev ylO:List Par:= [.rd tW]
abbrev yqV:List OT:= [⟨false,tW,(.pr .fz (.ow .fz))⟩]
def ysx (a0:dW):Option (ResD yqV×MutD ylO) :=
 let r1:=yY a0.2
 some (((a0.1,r1),()),())
theorem yRA (x:InD ylO):zjH ⟨yC8,12,yNa⟩ Tryz.f252.results.toList yCN ylO yqV x=ysx x.1:=by kernel_rfl
theorem yOL:ConOk Tryz.prog 252 ⟨ylO,yqV,fun x=>ysx x.1⟩:=zkh (yK0) Tryz.func252 (by kernel_rfl) (by kernel_rfl) Tryz.ntmps252.symm (by decide) (fun x r h=>(yRA x).trans h)
def yrl (a0:dW):dW :=
 let r1:=yY a0.2
 (a0.1,r1)
def yAG:Con:=⟨ylO,yqV,fun x=>(fun n=>some ((n,()),())) (yrl x.1)⟩
theorem yQC (a0:dW):ysx a0=(fun n=>some ((n,()),())) (yrl a0):=zkS (p:=fun (n:dW)=>((n,()),())) rfl
theorem yQ7:ConOk Tryz.prog 252 yAG:=(yOL).mono (fun x r _ h=>(yQC x.1).trans h)
theorem yQj (a:dW):yrl a=a:=by kernel_rfl
end
section
def yjx:Code:=(Tryz.f191.body).getD .skip
def yoz:Env:=zki TT [(252,yAG)] []
theorem yHB:FrOk Tryz.prog ⟨yoz,23,fun _=>none⟩ yjx:=zkp yb yc ⟨yQ7,trivial⟩
def yyq:Nat→Option Seg:=fun _=>none
def ycF:Shape:=⟨[(0,false,[.br tW]),(3,false,[.at 800000000]),(4,false,[.int .i64])],[],[(800000000,tW,(.pr .fz (.ow .fz)))]⟩
def yiM:Shape:=⟨[(0,false,[.br tW]),(3,false,[.at 800000000]),(4,false,[.ci .i64 0])],[],[(800000000,tW,(.pr .fz (.ow .fz)))]⟩
def yiE:Shape:=⟨[(3,false,[.at 800000000])],[],[(800000000,tW,(.pr .fz (.ow .fz)))]⟩
def yiY:Shape:=⟨[],[],[]⟩
def yn5 (v0:List dW) (v1:Int) (v2:List dW):Option ((ycF).X ⊕ ((yiE).X ⊕ (yiY).X)) :=
 bif (ltb v1 (v0.length:Int)) then
 bif (inb v1 v0.length) then
 let r2:=yrl (nth v0 v1 (0,[]))
 bif (inb v1 v2.length) then
 some (.inl (((v0,()),((),()),((IntKind.i64.wrap (v1+1)),()),()),(),((v2.set (v1).toNat r2),())))
 else none
 else none
 else
 some (.inr (.inl ((((),()),()),(),(v2,()))))
def ybG (x:(ycF).X):=yn5 x.1.1.1 x.1.2.2.1.1 x.2.2.1
def yu5 (x:(yiM).X):(ycF).X:=(((x.1.1.1,()),((),()),(0,()),()),(),(x.2.2.1,()))
def ywC:Code:=(zdI yjx 64 116).getD .skip
theorem yGZ:zdI yjx 64 29=some (.block 0 (.loop ywC)):=by kernel_rfl
theorem yJq (x:(ycF).X):zg7 ⟨yoz,23,yyq⟩ 0 ywC 116 ycF yiE yiY x=ybG x:=by kernel_rfl
def yvk (x:(yiM).X):Nat:=18446744073709551616
def ypp (x:(yiM).X):Option ((yiE).X ⊕ (yiY).X):=zr ybG (yvk x) (yu5 x)
def yvC:Seg:=⟨yiM,yiE,yiY,ypp⟩
def yyr:Nat→Option Seg:=fun q=>bif Nat.beq q 29 then some yvC else yyq q
theorem yHC:FrOk Tryz.prog ⟨yoz,23,yyr⟩ yjx:=(yHB).loop (sg:=yvC) ycF yu5 (by decide) yGZ ybG yvk (by decide) (fun _=>rfl) (fun x r _ h=>h) yJq
abbrev yfm:List Par:= [.rd tWs]
abbrev yoU:List OT:= [⟨false,tWs,(.ow (.pr .fz (.ow .fz)))⟩]
def yld (a0:List dW):Option (ResD yoU×MutD yfm) :=
 bif (zkc (a0.length:Int) 32) then
 zjw (ypp (((a0,()),((),()),((),()),()),(),((List.replicate ((a0.length:Int)).toNat ((0,[]):dW)),()))) (fun y2 =>
 some ((y2.2.2.1,()),())) (fun y2 =>
 none)
 else none
theorem yP1 (x:InD yfm):zjH ⟨yoz,23,yyr⟩ Tryz.f191.results.toList yjx yfm yoU x=yld x.1:=by kernel_rfl
theorem yL2:ConOk Tryz.prog 191 ⟨yfm,yoU,fun x=>yld x.1⟩:=zkh (yHC) Tryz.func191 (by kernel_rfl) (by kernel_rfl) Tryz.ntmps191.symm (by decide) (fun x r h=>(yP1 x).trans h)
def yfv (a0:List (dW)):List (dW):=a0
theorem yOc (a0:List (dW)) (hk:zi9 yfm (a0,())):yld a0=(fun n=>some ((n,()),())) (yfv a0):=by
 have hb:a0.length * 32≤2 ^ 47:=hk.1.1
 have hl:ypp (((a0,()),((),()),((),()),()),(),((List.replicate a0.length ((0,[]):dW)),()))=some (.inl ((((),()),()),(),(a0,()))) :=
  zkj (step:=ybG) a0 ((0,[]):dW) (fun i m=>(((a0,()),((),()),((i:Int),()),()),(),(m,()))) (fun m=> .inl ((((),()),()),(),(m,()))) (fun i m hi hm=>by
   simp only [ybG,yn5,zkO (show i < m.length by omega),zkO hi,zjW,Int.toNat_natCast,zjI (show (i:Int) < a0.length by omega),cond_true,wr (show -9223372036854775808≤(i:Int)+1 by omega) (by omega),Int.natCast_add,Int.natCast_one,zkV,yQj]) (fun m hm=>by
   simp only [ybG,yn5,zkm (Int.le_refl _),cond_false]) _ (by show _ < 18446744073709551616; omega)
 unfold yld yfv
 rw [show zkc (a0.length:Int) 32=true by rw [zkH]; omega,zkY,Int.toNat_natCast,hl]
 rfl
def yzf:Con:=⟨yfm,yoU,fun x=>(fun n=>some ((n,()),())) (yfv x.1)⟩
theorem yO9:ConOk Tryz.prog 191 yzf:=(yL2).mono (fun x r hk h=>(yOc x.1 hk).trans h)
theorem yTs (a:List dW):yfv a=a:=by kernel_rfl
end
section
def yCM:Code:=(Tryz.f90.body).getD .skip
def yC7:Env:=zki TT [(189,yAH),(190,yzg),(191,yzf)] []
theorem yKZ:FrOk Tryz.prog ⟨yC7,44,fun _=>none⟩ yCM:=zkp yb yc ⟨yQ8,yPa,yO9,trivial⟩
def yM9:Nat→Option Seg:=fun _=>none
abbrev ylN:List Par:= [.rd tA]
abbrev yqU:List OT:= [⟨false,tA,(.pr .fz (.pr (.pr .fz .fz) (.pr (.ow (.pr (.ow (.ow .fz)) (.pr (.ow (.pr .fz (.ow .fz))) (.pr .fz (.ow .fz))))) (.pr .fz (.pr .fz (.pr .fz (.pr .fz (.pr .fz (.pr (.ow (.pr .fz (.ow .fz))) (.pr .fz (.pr .fz .fz)))))))))))⟩]
def ysw (a0:dA):Option (ResD yqU×MutD ylN) :=
 let r1:=ymb a0.2.1
 let r2:=yfw a0.2.2.1
 let r3:=yfv a0.2.2.2.2.2.2.2.2.1
 some (((a0.1,r1,r2,a0.2.2.2.1,a0.2.2.2.2.1,a0.2.2.2.2.2.1,a0.2.2.2.2.2.2.1,a0.2.2.2.2.2.2.2.1,r3,a0.2.2.2.2.2.2.2.2.2),()),())
theorem yRz (x:InD ylN):zjH ⟨yC7,44,yM9⟩ Tryz.f90.results.toList yCM ylN yqU x=ysw x.1:=by kernel_rfl
theorem yOK:ConOk Tryz.prog 90 ⟨ylN,yqU,fun x=>ysw x.1⟩:=zkh (yKZ) Tryz.func90 (by kernel_rfl) (by kernel_rfl) Tryz.ntmps90.symm (by decide) (fun x r h=>(yRz x).trans h)
def ye0 (a0:dA):dA :=
 let r1:=ymb a0.2.1
 let r2:=yfw a0.2.2.1
 let r3:=yfv a0.2.2.2.2.2.2.2.2.1
 (a0.1,r1,r2,a0.2.2.2.1,a0.2.2.2.2.1,a0.2.2.2.2.2.1,a0.2.2.2.2.2.2.1,a0.2.2.2.2.2.2.2.1,r3,a0.2.2.2.2.2.2.2.2.2)
def yAF:Con:=⟨ylN,yqU,fun x=>(fun n=>some ((n,()),())) (ye0 x.1)⟩
theorem yQB (a0:dA):ysw a0=(fun n=>some ((n,()),())) (ye0 a0):=zkS (p:=fun (n:dA)=>((n,()),())) rfl
theorem yQ6:ConOk Tryz.prog 90 yAF:=(yOK).mono (fun x r _ h=>(yQB x.1).trans h)
theorem yQi (a:dA):ye0 a=a:=by kernel_rfl
end
end
end Go.Tf
