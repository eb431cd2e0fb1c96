/- Functions of the program, and what they come to. -/
import Derived.Test.YtgmadfpnljibhaaGreatStripesF3
namespace Go.Tf
noncomputable section
open Go.Proofs
set_option synthInstance.maxHeartbeats 400000
set_option synthInstance.maxSize 10000
set_option linter.unusedVariables false
set_option linter.unusedSimpArgs false
set_option maxRecDepth 100000
section
def yHY:Code:=(Tryz.f146.body).getD .skip
def yIu:Env:=zki TT [(46,yF7),(135,yx),(225,yhv)] []
theorem yPq:FrOk Tryz.prog ⟨yIu,48,fun _=>none⟩ yHY:=zkp yb yd ⟨yYX,yD,yoG,trivial⟩
def yRI:Nat→Option Seg:=fun _=>none
abbrev ym3:List Par:= [.rd tA,.rd tI,.rd tL]
abbrev ysI:List OT:= [⟨false,tI,.fz⟩]
def yv4 (a0:dA) (a1:Int) (a2:List Int):Option (ResD ysI×MutD ym3) :=
 let r1:=ye7 a0
 bif (!(!r1)) then
 bif (!((a2.length:Int) !=(IntKind.i64.wrap (a0.2.1.1 - 1)))) then
 let r2:=yS a2
 bif (!r2) then
 some ((1,()),())
 else
 bif a0.2.2.2.2.2.2.2.2.2.2.1 then
 some ((6,()),())
 else
 let r3:=ya a1 0 (IntKind.i64.wrap (a0.2.1.2 - 1))
 bif (!r3) then
 some ((2,()),())
 else
 bif a0.2.2.2.2.2.2.2.2.2.2.2 then
 some ((5,()),())
 else
 bif (!(leb 60000 a0.2.2.2.2.2.1)) then
 bif (leb 59990 a0.2.2.2.2.2.2.2.1) then
 some ((7,()),())
 else
 some ((0,()),())
 else
 some ((7,()),())
 else
 some ((1,()),())
 else
 some ((1,()),())
theorem yYo (x:InD ym3):zjH ⟨yIu,48,yRI⟩ Tryz.f146.results.toList yHY ym3 ysI x=yv4 x.1 x.2.1 x.2.2.1:=by kernel_rfl
theorem yUe:ConOk Tryz.prog 146 ⟨ym3,ysI,fun x=>yv4 x.1 x.2.1 x.2.2.1⟩:=zkh (yPq) Tryz.func146 (by kernel_rfl) (by kernel_rfl) Tryz.ntmps146.symm (by decide) (fun x r h=>(yYo x).trans h)
def yy (a0:dA) (a1:Int) (a2:List Int):Int :=
 let r1:=ye7 a0
 bif (!(!r1)) then
 bif (!((a2.length:Int) !=(IntKind.i64.wrap (a0.2.1.1 - 1)))) then
 let r2:=yS a2
 bif (!r2) then
 1
 else
 bif a0.2.2.2.2.2.2.2.2.2.2.1 then
 6
 else
 let r3:=ya a1 0 (IntKind.i64.wrap (a0.2.1.2 - 1))
 bif (!r3) then
 2
 else
 bif a0.2.2.2.2.2.2.2.2.2.2.2 then
 5
 else
 bif (!(leb 60000 a0.2.2.2.2.2.1)) then
 bif (leb 59990 a0.2.2.2.2.2.2.2.1) then
 7
 else
 0
 else
 7
 else
 1
 else
 1
def yvo:Con:=⟨ym3,ysI,fun x=>(fun n=>some ((n,()),())) (yy x.1 x.2.1 x.2.2.1)⟩
theorem yWf (a0:dA) (a1:Int) (a2:List Int):yv4 a0 a1 a2=(fun n=>some ((n,()),())) (yy a0 a1 a2):=zkS (p:=fun (n:Int)=>((n,()),())) (zkx (p:=fun (n:Int)=>((n,()),())) (zkx (p:=fun (n:Int)=>((n,()),())) (zkx (p:=fun (n:Int)=>((n,()),())) rfl (zkx (p:=fun (n:Int)=>((n,()),())) rfl (zkx (p:=fun (n:Int)=>((n,()),())) rfl (zkx (p:=fun (n:Int)=>((n,()),())) rfl (zkx (p:=fun (n:Int)=>((n,()),())) (zkx (p:=fun (n:Int)=>((n,()),())) rfl rfl) rfl))))) rfl) rfl)
theorem yGD:ConOk Tryz.prog 146 yvo:=(yUe).mono (fun x r _ h=>(yWf x.1 x.2.1 x.2.2.1).trans h)
end
section
def yHQ:Code:=(Tryz.f234.body).getD .skip
def yIm:Env:=zki TT [] []
theorem yO6:FrOk Tryz.prog ⟨yIm,58,fun _=>none⟩ yHQ:=zkp yb yd trivial
def yRA:Nat→Option Seg:=fun _=>none
abbrev ymW:List Par:= [.pt tU .fz]
abbrev ysy:List OT:= [⟨false,tI,.fz⟩]
def yaW (a0:dU):Option (ResD ysy×MutD ymW) :=
 bif (ltb a0.2.1 (a0.1.length:Int)) then
 bif (inb a0.2.1 a0.1.length) then
 some (((IntKind.i64.wrap ((BitVec.ofInt IntKind.i64.bits (IntKind.i64.wrap ((IntKind.i64.wrap ((BitVec.ofInt IntKind.i64.bits (IntKind.i64.wrap ((BitVec.ofInt IntKind.i64.bits ((IntKind.i64.wrap ((IntKind.i64.wrap (a0.2.2 * 6364136223846793005))+1442695040888963407)).fdiv (2 ^ (min (33:Int).toNat IntKind.i64.bits))) ^^^ BitVec.ofInt IntKind.i64.bits ((IntKind.i64.wrap ((IntKind.i64.wrap (a0.2.2 * 6364136223846793005))+1442695040888963407)).fdiv (2 ^ (min (47:Int).toNat IntKind.i64.bits)))).toNat:Int)) &&& BitVec.ofInt IntKind.i64.bits 255).toNat:Int))+(IntKind.i64.wrap (nth a0.1 a0.2.1 0)))) &&& BitVec.ofInt IntKind.i64.bits 255).toNat:Int)),()),((a0.1,(IntKind.i64.wrap (a0.2.1+1)),(IntKind.i64.wrap ((IntKind.i64.wrap (a0.2.2 * 6364136223846793005))+1442695040888963407))),()))
 else none
 else
 some (((IntKind.i64.wrap ((BitVec.ofInt IntKind.i64.bits (IntKind.i64.wrap ((BitVec.ofInt IntKind.i64.bits ((IntKind.i64.wrap ((IntKind.i64.wrap (a0.2.2 * 6364136223846793005))+1442695040888963407)).fdiv (2 ^ (min (33:Int).toNat IntKind.i64.bits))) ^^^ BitVec.ofInt IntKind.i64.bits ((IntKind.i64.wrap ((IntKind.i64.wrap (a0.2.2 * 6364136223846793005))+1442695040888963407)).fdiv (2 ^ (min (47:Int).toNat IntKind.i64.bits)))).toNat:Int)) &&& BitVec.ofInt IntKind.i64.bits 255).toNat:Int)),()),((a0.1,a0.2.1,(IntKind.i64.wrap ((IntKind.i64.wrap (a0.2.2 * 6364136223846793005))+1442695040888963407))),()))
theorem yYb (x:InD ymW):zjH ⟨yIm,58,yRA⟩ Tryz.f234.results.toList yHQ ymW ysy x=yaW x.1:=by kernel_rfl
theorem yT1:ConOk Tryz.prog 234 ⟨ymW,ysy,fun x=>yaW x.1⟩:=zkh (yO6) Tryz.func234 (by kernel_rfl) (by kernel_rfl) Tryz.ntmps234.symm (by decide) (fun x r h=>(yYb x).trans h)
def yEi:Con:=⟨ymW,ysy,fun x=>yaW x.1⟩
theorem yWQ:ConOk Tryz.prog 234 yEi:=yT1
theorem y1t (x:Int):0≤IntKind.i64.wrap ((BitVec.ofInt IntKind.i64.bits x &&& BitVec.ofInt IntKind.i64.bits 255).toNat:Int)∧IntKind.i64.wrap ((BitVec.ofInt IntKind.i64.bits x &&& BitVec.ofInt IntKind.i64.bits 255).toNat:Int)≤255:=by
 have h:(BitVec.ofInt IntKind.i64.bits x &&& BitVec.ofInt IntKind.i64.bits 255).toNat≤255:=by
  rw [BitVec.toNat_and]
  exact Nat.le_trans Nat.and_le_right (by decide)
 rw [wr (by omega) (by omega)]
 omega
theorem yLD (u:List Int×Int×Int) (h:yd3 u): ∃ (r:Int) (u':List Int×Int×Int),yaW u=some ((r,()),(u',()))∧(0≤r∧r≤255)∧yd3 u':=by
 unfold yaW
 by_cases h1:u.2.1 < (u.1.length:Int)
 ·rw [zjI h1,zjP.2 ⟨h.1,h1⟩]
  refine ⟨_,_,rfl,y1t _,?_,h.2⟩
  show 0≤IntKind.i64.wrap (u.2.1+1)
  have:=h.1; have:=h.2
  rw [wr (by omega) (by omega)]; omega
 ·rw [zkm (Int.not_lt.1 h1)]
  exact ⟨_,_,rfl,y1t _,h⟩
end
section
def yFi:Code:=(Tryz.f150.body).getD .skip
def yFU:Env:=zki TT [(234,yEi)] []
theorem yMF:FrOk Tryz.prog ⟨yFU,31,fun _=>none⟩ yFi:=zkp yb yd ⟨yWQ,trivial⟩
def yOi:Nat→Option Seg:=fun _=>none
abbrev ykR:List Par:= [.pt tU .fz,.rd tI]
abbrev yqB:List OT:= [⟨false,tI,.fz⟩]
def yg (a0:dU) (a1:Int):Option (ResD yqB×MutD ykR) :=
 bif (leb a1 0) then
 some ((0,()),(a0,()))
 else
 bif (leb a1 256) then
 bnd (yaW a0) fun r1 =>
 bif (a1 !=0) then
 some (((r1.1.1.tmod a1),()),(r1.2.1,()))
 else none
 else
 bnd (yaW a0) fun r2 =>
 bnd (yaW r2.2.1) fun r3 =>
 bnd (yaW r3.2.1) fun r4 =>
 bif (a1 !=0) then
 some ((((IntKind.i64.wrap ((IntKind.i64.wrap ((IntKind.i64.wrap (r2.1.1 * 65536))+(IntKind.i64.wrap (r3.1.1 * 256))))+r4.1.1)).tmod a1),()),(r4.2.1,()))
 else none
theorem yVv (x:InD ykR):zjH ⟨yFU,31,yOi⟩ Tryz.f150.results.toList yFi ykR yqB x=yg x.1 x.2.1:=by kernel_rfl
theorem yQH:ConOk Tryz.prog 150 ⟨ykR,yqB,fun x=>yg x.1 x.2.1⟩:=zkh (yMF) Tryz.func150 (by kernel_rfl) (by kernel_rfl) Tryz.ntmps150.symm (by decide) (fun x r h=>(yVv x).trans h)
def yew:Con:=⟨ykR,yqB,fun x=>yg x.1 x.2.1⟩
theorem yjp:ConOk Tryz.prog 150 yew:=yQH
theorem yfF (u:List Int×Int×Int) (n:Int) (h:yd3 u): ∃ (r:Int) (u':List Int×Int×Int),yg u n=some ((r,()),(u',()))∧(0≤r∧(0 < n→r < n)∧(n≤0→r=0))∧yd3 u':=by
 unfold yg
 by_cases h0:n≤0
 ·rw [zk0 h0]
  exact ⟨_,_,rfl,⟨Int.le_refl _,fun h=>absurd h0 (by omega),fun _=>rfl⟩,h⟩
 ·have hn:(n !=0)=true:=bne_iff_ne.2 (by omega)
  have key: ∀ x:Int,0≤x→0≤x.tmod n∧(0 < n→x.tmod n < n)∧(n≤0→x.tmod n=0):=fun x hx =>
   ⟨Int.tmod_nonneg n hx,fun hp=>Int.tmod_lt_of_pos x hp,fun hp=>absurd hp h0⟩
  rw [zkZ (by omega)]
  by_cases h1:n≤256
  ·rw [zk0 h1]
   obtain ⟨r1,u1,e1,q1,d1⟩:=yLD u h
   rw [e1,zkX,zkY,zky,hn]
   exact ⟨_,_,rfl,key r1 q1.1,d1⟩
  ·rw [zkZ (by omega)]
   obtain ⟨r1,u1,e1,q1,d1⟩:=yLD u h
   obtain ⟨r2,u2,e2,q2,d2⟩:=yLD u1 d1
   obtain ⟨r3,u3,e3,q3,d3⟩:=yLD u2 d2
   simp only [e1,e2,e3,zkX,zky,hn,zkY]
   refine ⟨_,_,rfl,key _ ?_,d3⟩
   rw [wr (show -9223372036854775808≤r1 * 65536 by omega) (by omega),wr (show -9223372036854775808≤r2 * 256 by omega) (by omega),wr (show -9223372036854775808≤r1 * 65536+r2 * 256 by omega) (by omega),wr (by omega) (by omega)]
   omega
end
section
def yHP:Code:=(Tryz.f160.body).getD .skip
def yIl:Env:=zki TT [] []
theorem yO5:FrOk Tryz.prog ⟨yIl,8,fun _=>none⟩ yHP:=zkp yb yd trivial
def yRz:Nat→Option Seg:=fun _=>none
abbrev ymV:List Par:= [.rd tI]
abbrev ysx:List OT:= [⟨false,tI,.fz⟩]
def yv0 (a0:Int):Option (ResD ysx×MutD ymV) :=
 bif (ltb a0 0) then
 some (((-1),()),())
 else
 some (((IntKind.i64.wrap (2+(a0.tmod 4))),()),())
theorem yYa (x:InD ymV):zjH ⟨yIl,8,yRz⟩ Tryz.f160.results.toList yHP ymV ysx x=yv0 x.1:=by kernel_rfl
theorem yT0:ConOk Tryz.prog 160 ⟨ymV,ysx,fun x=>yv0 x.1⟩:=zkh (yO5) Tryz.func160 (by kernel_rfl) (by kernel_rfl) Tryz.ntmps160.symm (by decide) (fun x r h=>(yYa x).trans h)
def yM (a0:Int):Int :=
 bif (ltb a0 0) then
 (-1)
 else
 (IntKind.i64.wrap (2+(a0.tmod 4)))
def yEh:Con:=⟨ymV,ysx,fun x=>(fun n=>some ((n,()),())) (yM x.1)⟩
theorem yV6 (a0:Int):yv0 a0=(fun n=>some ((n,()),())) (yM a0):=zkS (p:=fun (n:Int)=>((n,()),())) (zkx (p:=fun (n:Int)=>((n,()),())) rfl rfl)
theorem yWP:ConOk Tryz.prog 160 yEh:=(yT0).mono (fun x r _ h=>(yV6 x.1).trans h)
end
section
def yHN:Code:=(Tryz.f48.body).getD .skip
def yIj:Env:=zki TT [(135,yx)] []
theorem yO1:FrOk Tryz.prog ⟨yIj,34,fun _=>none⟩ yHN:=zkp yb yd ⟨yD,trivial⟩
def yRx:Nat→Option Seg:=fun _=>none
abbrev yhV:List Par:= [.rd tA,.rd tI,.rd tI]
abbrev ysu:List OT:= [⟨false,tB,.fz⟩]
def yoO (a0:dA) (a1 a2:Int):Option (ResD ysu×MutD yhV) :=
 let r1:=ya a1 0 (IntKind.i64.wrap ((a0.2.2.1.length:Int) - 1))
 bif r1 then
 bif (inb a1 a0.2.2.1.length) then
 bif (!((((nth a0.2.2.1 a1 ([],[],false,[])).2).2).1)) then
 bif (!(a1 !=a0.2.2.2.1)) then
 some (((ltb a2 a0.2.2.2.2.1),()),())
 else
 some ((true,()),())
 else
 some ((false,()),())
 else none
 else
 some ((false,()),())
theorem yX7 (x:InD yhV):zjH ⟨yIj,34,yRx⟩ Tryz.f48.results.toList yHN yhV ysu x=yoO x.1 x.2.1 x.2.2.1:=by kernel_rfl
theorem yTX:ConOk Tryz.prog 48 ⟨yhV,ysu,fun x=>yoO x.1 x.2.1 x.2.2.1⟩:=zkh (yO1) Tryz.func48 (by kernel_rfl) (by kernel_rfl) Tryz.ntmps48.symm (by decide) (fun x r h=>(yX7 x).trans h)
def ydZ (a0:dA) (a1 a2:Int):Bool:=yby a0 a1 a2
theorem yV3 (a0:dA) (a1 a2:Int) (hk:zi9 yhV (a0,a1,a2,())):yoO a0 a1 a2=(fun n=>some ((n,()),())) (ydZ a0 a1 a2):=by
 have hb:a0.2.2.1.length * 80≤2 ^ 47:=hk.1.2.2.1.1
 unfold yoO ydZ yby noMem
 rw [ypD (show a0.2.2.1.length≤1152921504606846976 by omega)]
 cases inb a1 a0.2.2.1.length
 ·rfl
 ·cases (nth a0.2.2.1 a1 ([],[],false,[])).2.2.1<;>cases (a1 !=a0.2.2.2.1)<;>rfl
def yvk:Con:=⟨yhV,ysu,fun x=>(fun n=>some ((n,()),())) (ydZ x.1 x.2.1 x.2.2.1)⟩
theorem yGB:ConOk Tryz.prog 48 yvk:=(yTX).mono (fun x r hk h=>(yV3 x.1 x.2.1 x.2.2.1 hk).trans h)
end
section
def yo6:Code:=(Tryz.f238.body).getD .skip
def yut:Env:=zki TT [] []
theorem ySS:FrOk Tryz.prog ⟨yut,18,fun _=>none⟩ yo6:=zkp yb yd trivial
def yFC:Nat→Option Seg:=fun _=>none
def ydf:Shape:=⟨[(0,false,[.br tI]),(1,false,[.int .i64]),(5,false,[.int .i64])],[],[]⟩
def yiN:Shape:=⟨[(0,false,[.br tI]),(1,false,[.int .i64]),(5,false,[.ci .i64 0])],[],[]⟩
def yiy:Shape:=⟨[],[],[]⟩
def yjd:Shape:=⟨[(4,false,[.bool])],[],[]⟩
abbrev ytp (v0:List Int) (v1 v2:Int):(ydf).X:=(((v0,()),(v1,()),(v2,()),()),(),())
abbrev yPT (v0:List Int) (v1:Int):(yiN).X:=(((v0,()),(v1,()),((),()),()),(),())
abbrev yPI  :(yiy).X:=((),(),())
abbrev yP5 (v0:Bool):(yjd).X:=(((v0,()),()),(),())
def ytN (v0:List Int) (v1 v2:Int):Option ((ydf).X ⊕ ((yiy).X ⊕ (yjd).X)) :=
 bif (ltb v2 (v0.length:Int)) then
 bif (inb v2 v0.length) then
 bif ((nth v0 v2 0)==v1) then
 some (.inr (.inr (((true,()),()),(),())))
 else
 some (.inl (((v0,()),(v1,()),((IntKind.i64.wrap (v2+1)),()),()),(),()))
 else none
 else
 some (.inr (.inl ((),(),())))
def ydN (x:(ydf).X):=ytN x.1.1.1 x.1.2.1.1 x.1.2.2.1.1
def yB1 (x:(yiN).X):(ydf).X:=(((x.1.1.1,()),(x.1.2.1.1,()),(0,()),()),(),())
def yD4:Code:=(zdI yo6 64 52).getD .skip
theorem yRU:zdI yo6 64 13=some (.block 0 (.loop yD4)):=by kernel_rfl
theorem yUM (x:(ydf).X):zg7 ⟨yut,18,yFC⟩ 0 yD4 52 ydf yiy yjd x=ydN x:=by kernel_rfl
def yCh (x:(yiN).X):Nat:=18446744073709551616
def yuH (x:(yiN).X):Option ((yiy).X ⊕ (yjd).X):=zr ydN (yCh x) (yB1 x)
def yCU:Seg:=⟨yiN,yiy,yjd,yuH⟩
def yFD:Nat→Option Seg:=fun q=>bif Nat.beq q 13 then some yCU else yFC q
theorem yST:FrOk Tryz.prog ⟨yut,18,yFD⟩ yo6:=(ySS).loop (sg:=yCU) ydf yB1 (by decide) yRU ydN yCh (by decide) (fun _=>rfl) (fun x r _ h=>h) yUM
abbrev ykT:List Par:= [.rd tL,.rd tI]
abbrev yu4:List OT:= [⟨false,tB,.fz⟩]
def yq0 (a0:List Int) (a1:Int):Option (ResD yu4×MutD ykT) :=
 zjw (yuH (((a0,()),(a1,()),((),()),()),(),())) (fun y0 =>
 some ((false,()),())) (fun y0 =>
 some ((y0.1.1.1,()),()))
theorem yZE (x:InD ykT):zjH ⟨yut,18,yFD⟩ Tryz.f238.results.toList yo6 ykT yu4 x=yq0 x.1 x.2.1:=by kernel_rfl
theorem yWA:ConOk Tryz.prog 238 ⟨ykT,yu4,fun x=>yq0 x.1 x.2.1⟩:=zkh (yST) Tryz.func238 (by kernel_rfl) (by kernel_rfl) Tryz.ntmps238.symm (by decide) (fun x r h=>(yZE x).trans h)
def yhA (a0:List Int) (a1:Int):Bool:=a0.any (· ==a1)
theorem yYK (a0:List Int) (a1:Int) (hk:zi9 ykT (a0,a1,())):yq0 a0 a1=(fun n=>some ((n,()),())) (yhA a0 a1):=by
 have hb:a0.length * 8≤2 ^ 47:=hk.1.1
 have h1:yuH (yPT a0 a1)=some (bif a0.all (· !=a1) then .inl yPI else .inr (yP5 true)) :=
  zjS (step:=ydN) a0 0 (fun i=>ytp a0 a1 i) (· !=a1) _ _ (fun i hi=>by
   simp only [ydN,ytp,ytN,zjI (show (i:Int) < a0.length by omega),cond_true,wr (show -9223372036854775808≤(i:Int)+1 by omega) (by omega),Int.natCast_add,Int.natCast_one,Int.toNat_natCast,zkO hi,zjW,bne]
   cases (a0.getD i 0==a1)<;>rfl) (by simp only [ydN,ytp,ytN,zkm (Int.le_refl _),cond_false]) _ (by show _ < 18446744073709551616; omega)
 unfold yq0 yhA
 rw [h1,show a0.any (· ==a1)= !(a0.all (· !=a1)) by simp [List.all_eq_not_any_not,bne]]
 cases a0.all (· !=a1)<;>rfl
def ywX:Con:=⟨ykT,yu4,fun x=>(fun n=>some ((n,()),())) (yhA x.1 x.2.1)⟩
theorem yIy:ConOk Tryz.prog 238 ywX:=(yWA).mono (fun x r hk h=>(yYK x.1 x.2.1 hk).trans h)
end
end
end Go.Tf
