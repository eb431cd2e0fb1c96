/- Functions of the program, and what they come to. -/
import Derived.Test.YtgmadfpnljibhaaGreatArrsF13
namespace Go.Tf
noncomputable section
open Go.Proofs
set_option synthInstance.maxHeartbeats 400000
set_option synthInstance.maxSize 10000
set_option linter.unusedVariables false
set_option linter.unusedSimpArgs false
set_option maxRecDepth 100000
section
def yel:Code:=(Tryz.f262.body).getD .skip
def yh5:Env:=zj2 TT [] []
theorem yGB:FrOk Tryz.prog ⟨yh5,23,fun _=>none⟩ yel:=zj6 yc yd trivial
def yt3:Nat→Option Seg:=fun _=>none
def yad:Shape:=⟨[(0,false,[.br tI]),(1,false,[.int .i64]),(5,false,[.int .i64]),(6,false,[.int .i64])],[],[]⟩
def ycl:Shape:=⟨[(0,false,[.br tI]),(1,false,[.int .i64]),(5,false,[.ci .i64 0]),(6,false,[.ci .i64 0])],[],[]⟩
def ycj:Shape:=⟨[(5,false,[.int .i64])],[],[]⟩
def ye7:Shape:=⟨[],[],[]⟩
abbrev yjn (v0:List Int) (v1 v2 v3:Int):(yad).X:=(((v0,()),(v1,()),(v2,()),(v3,()),()),(),())
abbrev yFc (v0:List Int) (v1:Int):(ycl).X:=(((v0,()),(v1,()),((),()),((),()),()),(),())
abbrev yFa (v0:Int):(ycj).X:=(((v0,()),()),(),())
def yjq (v0:List Int) (v1 v2 v3:Int):Option ((yad).X ⊕ ((ycj).X ⊕ (ye7).X)) :=
 bif (ltb v3 (v0.length:Int)) then
 bif (v3 !=v1) then
 bif (inb v3 v0.length) then
 some (.inl (((v0,()),(v1,()),((IntKind.i64.wrap ((BitVec.ofInt IntKind.i64.bits v2 ^^^ BitVec.ofInt IntKind.i64.bits (nth v0 v3 0)).toNat:Int)),()),((IntKind.i64.wrap (v3+1)),()),()),(),()))
 else none
 else
 some (.inl (((v0,()),(v1,()),(v2,()),((IntKind.i64.wrap (v3+1)),()),()),(),()))
 else
 some (.inr (.inl (((v2,()),()),(),())))
def yal (x:(yad).X):=yjq x.1.1.1 x.1.2.1.1 x.1.2.2.1.1 x.1.2.2.2.1.1
def yrS (x:(ycl).X):(yad).X:=(((x.1.1.1,()),(x.1.2.1.1,()),(0,()),(0,()),()),(),())
def ytU:Code:=(zdD yel 64 116).getD .skip
theorem yGg:zdD yel 64 29=some (.block 0 (.loop ytU)):=by kernel_rfl
theorem yGO (x:(yad).X):zg0 ⟨yh5,23,yt3⟩ 0 ytU 116 yad ycj ye7 x=yal x:=by kernel_rfl
def yrU (x:(ycl).X):Nat:=18446744073709551616
def yki (x:(ycl).X):Option ((ycj).X ⊕ (ye7).X):=zz yal (yrU x) (yrS x)
def yr0:Seg:=⟨ycl,ycj,ye7,yki⟩
def yt4:Nat→Option Seg:=fun q=>bif Nat.beq q 29 then some yr0 else yt3 q
theorem yGC:FrOk Tryz.prog ⟨yh5,23,yt4⟩ yel:=(yGB).loop (sg:=yr0) yad yrS (by decide) yGg yal yrU (by decide) (fun _=>rfl) (fun x r _ h=>h) yGO
abbrev ycg:List Par:= [.rd tL,.rd tI]
abbrev yiJ:List OT:= [⟨false,tI,.fz⟩]
def yf9 (a0:List Int) (a1:Int):Option (ResD yiJ×MutD ycg) :=
 zkh (yki (((a0,()),(a1,()),((),()),((),()),()),(),())) (fun y0 =>
 some ((y0.1.1.1,()),())) (fun y0 =>
 none)
theorem yKa (x:InD ycg):zjx ⟨yh5,23,yt4⟩ Tryz.f262.results.toList yel ycg yiJ x=yf9 x.1 x.2.1:=by kernel_rfl
theorem yHi:ConOk Tryz.prog 262 ⟨ycg,yiJ,fun x=>yf9 x.1 x.2.1⟩:=zj1 (yGC) Tryz.func262 (by kernel_rfl) (by kernel_rfl) Tryz.ntmps262.symm (by decide) (fun x r h=>(yKa x).trans h)
def yeH (a0:List Int) (a1:Int):Int:=ypB a0 a1
theorem yI7 (a0:List Int) (a1:Int) (hk:zi2 ycg (a0,a1,())):yf9 a0 a1=(fun n=>some ((n,()),())) (yeH a0 a1):=by
 have hb:a0.length * 8≤2 ^ 47:=hk.1.1
 have h1:=zj8 (step:=yal) a0.length (fun i s=>yjn a0 a1 s i) (fun n (i:Nat)=>bif (i:Int) !=a1 then xw n (nth a0 i 0) else n) (fun _ _=>True) (fun s=> .inl (yFa s)) (fun i s hi _=>⟨by
  simp only [yal,yjn,yjq,zj4 (show (i:Int) < a0.length by omega),cond_true,wr (show -9223372036854775808≤(i:Int)+1 by omega) (by omega),Int.natCast_add,Int.natCast_one,Int.toNat_natCast,zkl hi]
  cases ((i:Int) !=a1)<;>rfl,trivial⟩) (fun s _=>by simp only [yal,yjn,yjq,zkx (Int.le_refl _),cond_false]) 0 trivial 18446744073709551616 (by omega)
 rw [y1x]at h1
 unfold yf9 yeH
 rw [show yki (yFc a0 a1)=_ from h1]; rfl
def yu7:Con:=⟨ycg,yiJ,fun x=>(fun n=>some ((n,()),())) (yeH x.1 x.2.1)⟩
theorem yJf:ConOk Tryz.prog 262 yu7:=(yHi).mono (fun x r hk h=>(yI7 x.1 x.2.1 hk).trans h)
end
section
def ykg:Code:=(Tryz.f206.body).getD .skip
def yqc:Env:=zj2 TT [(215,yEB),(262,yu7)] []
theorem yMI:FrOk Tryz.prog ⟨yqc,45,fun _=>none⟩ ykg:=zj6 yc yd ⟨yXj,yJf,trivial⟩
def yBb:Nat→Option Seg:=fun _=>none
def ybw:Shape:=⟨[(1,false,[.int .i64]),(2,false,[.ptr 0 0]),(6,false,[.at 800000000]),(7,false,[.int .i64]),(8,false,[.int .i64])],[(0,[.int .i64,.int .i64,.int .i64,.br tM,.int .i64,.int .i64,.int .i64,.int .i64,.int .i64,.br tW,.int .i64,.bool,.bool])],[(800000000,tI,.fz)]⟩
def yfV:Shape:=⟨[(1,false,[.int .i64]),(2,false,[.ptr 0 0]),(6,false,[.at 800000000]),(7,false,[.ci .i64 (-1)]),(8,false,[.ci .i64 0])],[(0,[.int .i64,.int .i64,.int .i64,.br tM,.int .i64,.int .i64,.int .i64,.int .i64,.int .i64,.br tW,.int .i64,.bool,.bool])],[(800000000,tI,.fz)]⟩
def yfL:Shape:=⟨[(6,false,[.at 800000000]),(7,false,[.int .i64])],[],[(800000000,tI,.fz)]⟩
def yfY:Shape:=⟨[(4,false,[.at 800000000]),(5,false,[.bool])],[],[(800000000,tI,.fz)]⟩
abbrev ypL (v0 v1 v2:Int) (v3:dA) (v4:List Int):(ybw).X:=(((v0,()),((),()),((),()),(v1,()),(v2,()),()),((v3.1,v3.2.1.1,v3.2.1.2,v3.2.2.1,v3.2.2.2.1,v3.2.2.2.2.1,v3.2.2.2.2.2.1,v3.2.2.2.2.2.2.1,v3.2.2.2.2.2.2.2.1,v3.2.2.2.2.2.2.2.2.1,v3.2.2.2.2.2.2.2.2.2.1,v3.2.2.2.2.2.2.2.2.2.2.1,v3.2.2.2.2.2.2.2.2.2.2.2,()),()),(v4,()))
abbrev yK2 (v0:Int) (v1:dA) (v2:List Int):(yfV).X:=(((v0,()),((),()),((),()),((),()),((),()),()),((v1.1,v1.2.1.1,v1.2.1.2,v1.2.2.1,v1.2.2.2.1,v1.2.2.2.2.1,v1.2.2.2.2.2.1,v1.2.2.2.2.2.2.1,v1.2.2.2.2.2.2.2.1,v1.2.2.2.2.2.2.2.2.1,v1.2.2.2.2.2.2.2.2.2.1,v1.2.2.2.2.2.2.2.2.2.2.1,v1.2.2.2.2.2.2.2.2.2.2.2,()),()),(v2,()))
abbrev yKS (v0:Int) (v1:List Int):(yfL).X:=((((),()),(v0,()),()),(),(v1,()))
abbrev yK5 (v0:Bool) (v1:List Int):(yfY).X:=((((),()),(v0,()),()),(),(v1,()))
def yp5 (v0 v1 v2 v3 v4 v5:Int) (v6:List dM) (v7 v8 v9 v10 v11:Int) (v12:List dW) (v13:Int) (v14 v15:Bool) (v16:List Int):Option ((ybw).X ⊕ ((yfL).X ⊕ (yfY).X)) :=
 bif (ltb v2 v4) then
 let r2:=ymZ (v3,(v4,v5),v6,v7,v8,v9,v10,v11,v12,v13,v14,v15) v2 v0
 bif (!r2.2) then
 bif (leb 0 v1) then
 some (.inr (.inr ((((),()),(false,()),()),(),(([]:List Int),()))))
 else
 bif (zjR v16.length ([r2.1]:List Int).length 8) then
 some (.inl (((v0,()),((),()),((),()),(v2,()),((IntKind.i64.wrap (v2+1)),()),()),((v3,v4,v5,v6,v7,v8,v9,v10,v11,v12,v13,v14,v15,()),()),((v16++([r2.1]:List Int)),())))
 else none
 else
 bif (zjR v16.length ([r2.1]:List Int).length 8) then
 some (.inl (((v0,()),((),()),((),()),(v1,()),((IntKind.i64.wrap (v2+1)),()),()),((v3,v4,v5,v6,v7,v8,v9,v10,v11,v12,v13,v14,v15,()),()),((v16++([r2.1]:List Int)),())))
 else none
 else
 some (.inr (.inl ((((),()),(v1,()),()),(),(v16,()))))
def ybQ (x:(ybw).X):=yp5 x.1.1.1 x.1.2.2.2.1.1 x.1.2.2.2.2.1.1 x.2.1.1.1 x.2.1.1.2.1 x.2.1.1.2.2.1 x.2.1.1.2.2.2.1 x.2.1.1.2.2.2.2.1 x.2.1.1.2.2.2.2.2.1 x.2.1.1.2.2.2.2.2.2.1 x.2.1.1.2.2.2.2.2.2.2.1 x.2.1.1.2.2.2.2.2.2.2.2.1 x.2.1.1.2.2.2.2.2.2.2.2.2.1 x.2.1.1.2.2.2.2.2.2.2.2.2.2.1 x.2.1.1.2.2.2.2.2.2.2.2.2.2.2.1 x.2.1.1.2.2.2.2.2.2.2.2.2.2.2.2.1 x.2.2.1
def yx9 (x:(yfV).X):(ybw).X:=(((x.1.1.1,()),((),()),((),()),((-1),()),(0,()),()),((x.2.1.1.1,x.2.1.1.2.1,x.2.1.1.2.2.1,x.2.1.1.2.2.2.1,x.2.1.1.2.2.2.2.1,x.2.1.1.2.2.2.2.2.1,x.2.1.1.2.2.2.2.2.2.1,x.2.1.1.2.2.2.2.2.2.2.1,x.2.1.1.2.2.2.2.2.2.2.2.1,x.2.1.1.2.2.2.2.2.2.2.2.2.1,x.2.1.1.2.2.2.2.2.2.2.2.2.2.1,x.2.1.1.2.2.2.2.2.2.2.2.2.2.2.1,x.2.1.1.2.2.2.2.2.2.2.2.2.2.2.2.1,()),()),(x.2.2.1,()))
def yzG:Code:=(zdD ykg 64 244).getD .skip
theorem yL7:zdD ykg 64 61=some (.block 0 (.loop yzG)):=by kernel_rfl
theorem yNP (x:(ybw).X):zg0 ⟨yqc,45,yBb⟩ 0 yzG 244 ybw yfL yfY x=ybQ x:=by kernel_rfl
def yym (x:(yfV).X):Nat:=18446744073709551616
def yre (x:(yfV).X):Option ((yfL).X ⊕ (yfY).X):=zz ybQ (yym x) (yx9 x)
def yyI:Seg:=⟨yfV,yfL,yfY,yre⟩
def yBc:Nat→Option Seg:=fun q=>bif Nat.beq q 61 then some yyI else yBb q
theorem yMJ:FrOk Tryz.prog ⟨yqc,45,yBc⟩ ykg:=(yMI).loop (sg:=yyI) ybw yx9 (by decide) yL7 ybQ yym (by decide) (fun _=>rfl) (fun x r _ h=>h) yNP
abbrev ydY:List Par:= [.rd tA,.rd tI]
abbrev ykS:List OT:= [⟨false,tL,(.ow .fz)⟩,⟨false,tB,.fz⟩]
def yl0 (a0:dA) (a1:Int):Option (ResD ykS×MutD ydY) :=
 zkh (yre (((a1,()),((),()),((),()),((),()),((),()),()),((a0.1,a0.2.1.1,a0.2.1.2,a0.2.2.1,a0.2.2.2.1,a0.2.2.2.2.1,a0.2.2.2.2.2.1,a0.2.2.2.2.2.2.1,a0.2.2.2.2.2.2.2.1,a0.2.2.2.2.2.2.2.2.1,a0.2.2.2.2.2.2.2.2.2.1,a0.2.2.2.2.2.2.2.2.2.2.1,a0.2.2.2.2.2.2.2.2.2.2.2,()),()),(([]:List Int),()))) (fun y2 =>
 bif (leb 0 y2.1.2.1.1) then
 let r4:=yeH y2.2.2.1 y2.1.2.1.1
 bif (inb y2.1.2.1.1 y2.2.2.1.length) then
 some (((y2.2.2.1.set (y2.1.2.1.1).toNat r4),true,()),())
 else none
 else
 some ((y2.2.2.1,true,()),())) (fun y2 =>
 some ((y2.2.2.1,y2.1.2.1.1,()),()))
theorem yVL (x:InD ydY):zjx ⟨yqc,45,yBc⟩ Tryz.f206.results.toList ykg ydY ykS x=yl0 x.1 x.2.1:=by kernel_rfl
theorem yQI:ConOk Tryz.prog 206 ⟨ydY,ykS,fun x=>yl0 x.1 x.2.1⟩:=zj1 (yMJ) Tryz.func206 (by kernel_rfl) (by kernel_rfl) Tryz.ntmps206.symm (by decide) (fun x r h=>(yVL x).trans h)
def ygs (a0:dA) (a1:Int):List Int×Bool:=yN a0 a1
def yxf (a0:dA) (a1:Int):Bool:=yb a0.2.1
theorem yTK (a0:dA) (a1:Int) (hk:zi2 ydY (a0,a1,())) (hq:yxf a0 a1=true):yl0 a0 a1=(fun n=>some ((n.1,n.2,()),())) (ygs a0 a1):=by
 have hg:=yi.1 hq
 have h1:yre (yK2 a1 a0 [])=some (bif yfa (fun (i:Nat)=>ym a0 i a1) a0.2.1.1.toNat then .inr (yK5 false []) else .inl (yKS (yo (fun (i:Nat)=>ym a0 i a1) a0.2.1.1.toNat) (yE a0 a1 a0.2.1.1.toNat))) :=
  ziO (step:=ybQ) (fun i=>ypL a1 (yo (fun (i:Nat)=>ym a0 i a1) i) i a0 (yE a0 a1 i)) a0.2.1.1.toNat (fun i=> !ym a0 i a1&&leb 0 (yo (fun (i:Nat)=>ym a0 i a1) i)) _ _ (fun i hi=>by
   simp only [ybQ,ypL,yp5,zj4 (show (i:Int) < a0.2.1.1 by omega),cond_true,wr (show -9223372036854775808≤(i:Int)+1 by omega) (by omega),Int.natCast_add,Int.natCast_one,Int.toNat_natCast,zkr,ymZ,yo]
   rw [zka.2 (show ((yE a0 a1 i).length+ [yjr a0 i a1].length) * 8≤140737488355328 by simp only [List.length_cons,List.length_nil,yeM]; omega),yIz]
   cases ym a0 i a1<;>cases leb 0 (yo (fun (i:Nat)=>ym a0 i a1) i)<;>rfl) (by simp only [ybQ,ypL,yp5,zkx (show a0.2.1.1≤(a0.2.1.1.toNat:Int) by omega),cond_false]) _ (by show _ < 18446744073709551616; omega)
 unfold yl0 ygs yN
 rw [h1]
 cases yfa (fun (i:Nat)=>ym a0 i a1) a0.2.1.1.toNat
 ·simp only [cond_false,zki,yeH]
  cases hm:leb 0 (yo (fun (i:Nat)=>ym a0 i a1) a0.2.1.1.toNat)
  ·rfl
  ·obtain ⟨h2,h3⟩:=yXL a0 a1 a0.2.1.1.toNat hm
   rw [h2,h3]; rfl
 ·rfl
def yld (a0:dA) (a1:Int):Option (ResD ykS×MutD ydY):=bif yxf a0 a1 then (fun n=>some ((n.1,n.2,()),())) (ygs a0 a1) else none
theorem yEW (a0:dA) (a1:Int) (h:yxf a0 a1=true):yld a0 a1=(fun n=>some ((n.1,n.2,()),())) (ygs a0 a1):=by unfold yld; rw [h]; rfl
def ys9:Con:=⟨ydY,ykS,fun x=>yld x.1 x.2.1⟩
theorem yET:ConOk Tryz.prog 206 ys9:=(yQI).mono (fun x r hk h=>zks h (fun hq=>yTK x.1 x.2.1 hk hq))
end
section
def yDm:Code:=(Tryz.f288.body).getD .skip
def yD0:Env:=zj2 TT [(134,ygp),(135,yr)] []
theorem yKH:FrOk Tryz.prog ⟨yD0,14,fun _=>none⟩ yDm:=zj6 yc yd ⟨ym4,yx,trivial⟩
def yLU:Nat→Option Seg:=fun _=>none
abbrev yia:List Par:= [.rd tG,.rd tI]
abbrev yn8:List OT:= [⟨false,tB,.fz⟩]
def yrz (a0:dG) (a1:Int):Option (ResD yn8×MutD yia) :=
 let r1:=yb a0
 bif r1 then
 let r2:=ya a1 0 (IntKind.i64.wrap (a0.2 - 1))
 some ((r2,()),())
 else
 some ((false,()),())
theorem ySo (x:InD yia):zjx ⟨yD0,14,yLU⟩ Tryz.f288.results.toList yDm yia yn8 x=yrz x.1 x.2.1:=by kernel_rfl
theorem yNx:ConOk Tryz.prog 288 ⟨yia,yn8,fun x=>yrz x.1 x.2.1⟩:=zj1 (yKH) Tryz.func288 (by kernel_rfl) (by kernel_rfl) Tryz.ntmps288.symm (by decide) (fun x r h=>(ySo x).trans h)
def yfd (a0:dG) (a1:Int):Bool :=
 let r1:=yb a0
 bif r1 then
 let r2:=ya a1 0 (IntKind.i64.wrap (a0.2 - 1))
 r2
 else
 false
def yrl:Con:=⟨yia,yn8,fun x=>(fun n=>some ((n,()),())) (yfd x.1 x.2.1)⟩
theorem yQl (a0:dG) (a1:Int):yrz a0 a1=(fun n=>some ((n,()),())) (yfd a0 a1):=zkp (p:=fun (n:Bool)=>((n,()),())) (zkb (p:=fun (n:Bool)=>((n,()),())) rfl rfl)
theorem yCB:ConOk Tryz.prog 288 yrl:=(yNx).mono (fun x r _ h=>(yQl x.1 x.2.1).trans h)
theorem yNW (g:dG) (s:Int):yfd g s=yaM g s:=by
 unfold yfd yaM
 cases hg:yb g
 ·rfl
 have:=yi.1 hg
 rw [ybX,wr (by omega) (by omega)]; rfl
end
section
def yDh:Code:=(Tryz.f272.body).getD .skip
def yDV:Env:=zj2 TT [(288,yrl)] []
theorem yKA:FrOk Tryz.prog ⟨yDV,17,fun _=>none⟩ yDh:=zj6 yc yd ⟨yCB,trivial⟩
def yLP:Nat→Option Seg:=fun _=>none
abbrev ye1:List Par:= [.rd tG,.rd tI]
abbrev yn3:List OT:= [⟨false,tI,.fz⟩]
def yj3 (a0:dG) (a1:Int):Option (ResD yn3×MutD ye1) :=
 let r1:=yfd a0 a1
 bif (!r1) then
 some (((-1),()),())
 else
 bif (a0.1 !=0) then
 some (((IntKind.i64.wrap ((IntKind.i64.wrap (a0.1 - 1)) - (a1.tmod a0.1))),()),())
 else none
theorem ySi (x:InD ye1):zjx ⟨yDV,17,yLP⟩ Tryz.f272.results.toList yDh ye1 yn3 x=yj3 x.1 x.2.1:=by kernel_rfl
theorem yNr:ConOk Tryz.prog 272 ⟨ye1,yn3,fun x=>yj3 x.1 x.2.1⟩:=zj1 (yKA) Tryz.func272 (by kernel_rfl) (by kernel_rfl) Tryz.ntmps272.symm (by decide) (fun x r h=>(ySi x).trans h)
def yc6 (a0:dG) (a1:Int):Int:=yn a0 a1
theorem yQf (a0:dG) (a1:Int) (hk:zi2 ye1 (a0,a1,())):yj3 a0 a1=(fun n=>some ((n,()),())) (yc6 a0 a1):=by
 unfold yj3 yc6
 rw [yNW]
 cases hs:yaM a0 a1
 ·unfold yn; rw [hs]; rfl
 ·have h1:=ybC.1 hs
  have h2:=yi.1 h1.1
  have h3:=ytW hs
  have h4:yn a0 a1=a0.1 - 1 - a1.tmod a0.1:=by unfold yn; rw [hs]; rfl
  rw [show (a0.1 !=0)=true from bne_iff_ne.2 (by omega),wr (show -9223372036854775808≤a0.1 - 1 by omega) (by omega),wr (show -9223372036854775808≤a0.1 - 1 - a1.tmod a0.1 by omega) (by omega),h4]; rfl
def yrh:Con:=⟨ye1,yn3,fun x=>(fun n=>some ((n,()),())) (yc6 x.1 x.2.1)⟩
theorem yCx:ConOk Tryz.prog 272 yrh:=(yNr).mono (fun x r hk h=>(yQf x.1 x.2.1 hk).trans h)
end
section
def yHD:Code:=(Tryz.f267.body).getD .skip
def yIa:Env:=zj2 TT [(135,yr),(272,yrh),(288,yrl)] []
theorem yOW:FrOk Tryz.prog ⟨yIa,28,fun _=>none⟩ yHD:=zj6 yc yd ⟨yx,yCx,yCB,trivial⟩
def yRt:Nat→Option Seg:=fun _=>none
abbrev yhL:List Par:= [.rd tG,.rd tI,.rd tI]
abbrev ysq:List OT:= [⟨false,tI,.fz⟩]
def yoE (a0:dG) (a1 a2:Int):Option (ResD ysq×MutD yhL) :=
 let r1:=yfd a0 a1
 bif (!(!r1)) then
 let r2:=ya a2 0 (IntKind.i64.wrap (a0.1 - 2))
 bif (!r2) then
 some (((-1),()),())
 else
 let r3:=yc6 a0 a1
 bif (a0.1 !=0) then
 some ((((IntKind.i64.wrap ((IntKind.i64.wrap (r3+1))+a2)).tmod a0.1),()),())
 else none
 else
 some (((-1),()),())
theorem yYe (x:InD yhL):zjx ⟨yIa,28,yRt⟩ Tryz.f267.results.toList yHD yhL ysq x=yoE x.1 x.2.1 x.2.2.1:=by kernel_rfl
theorem yT5:ConOk Tryz.prog 267 ⟨yhL,ysq,fun x=>yoE x.1 x.2.1 x.2.2.1⟩:=zj1 (yOW) Tryz.func267 (by kernel_rfl) (by kernel_rfl) Tryz.ntmps267.symm (by decide) (fun x r h=>(yYe x).trans h)
def ymV (a0:dG) (a1 a2:Int):Int:=yc1 a0 a1 a2
theorem yWh (a0:dG) (a1 a2:Int) (hk:zi2 yhL (a0,a1,a2,())):yoE a0 a1 a2=(fun n=>some ((n,()),())) (ymV a0 a1 a2):=by
 unfold yoE ymV yc1 yc6
 rw [yNW]
 cases hs:yaM a0 a1
 ·rfl
 ·have h1:=ybC.1 hs
  have h2:=yi.1 h1.1
  have h3:=ytW hs
  rw [ybX,wr (show -9223372036854775808≤a0.1 - 2 by omega) (by omega)]
  cases hi:(leb 0 a2&&leb a2 (a0.1 - 2))
  ·rfl
  ·rw [Bool.and_eq_true,zjE,zjE]at hi
   rw [show (a0.1 !=0)=true from bne_iff_ne.2 (by omega)]
   show some (((IntKind.i64.wrap (IntKind.i64.wrap (yn a0 a1+1)+a2)).tmod a0.1,()),())=some (((yn a0 a1+1+a2).tmod a0.1,()),())
   rw [wr (show -9223372036854775808≤yn a0 a1+1 by omega) (by omega),wr (show -9223372036854775808≤yn a0 a1+1+a2 by omega) (by omega)]
def yEq:Con:=⟨yhL,ysq,fun x=>(fun n=>some ((n,()),())) (ymV x.1 x.2.1 x.2.2.1)⟩
theorem yW8:ConOk Tryz.prog 267 yEq:=(yT5).mono (fun x r hk h=>(yWh x.1 x.2.1 x.2.2.1 hk).trans h)
end
section
def ymd:Code:=(Tryz.f216.body).getD .skip
def yr4:Env:=zj2 TT [(206,ys9),(267,yEq)] []
theorem yPc:FrOk Tryz.prog ⟨yr4,41,fun _=>none⟩ ymd:=zj6 yc yd ⟨yET,yW8,trivial⟩
def yDA:Nat→Option Seg:=fun _=>none
def yb7:Shape:=⟨[(1,false,[.int .i64]),(2,false,[.ptr 0 0]),(6,false,[.at 800000000]),(7,false,[.bool]),(8,false,[.at 800000001]),(9,false,[.int .i64])],[(0,[.int .i64,.int .i64,.int .i64,.br tM,.int .i64,.int .i64,.int .i64,.int .i64,.int .i64,.br tW,.int .i64,.bool,.bool])],[(800000000,tI,.fz),(800000001,tI,.fz)]⟩
def yg5:Shape:=⟨[(1,false,[.int .i64]),(2,false,[.ptr 0 0]),(6,false,[.at 800000000]),(7,false,[.bool]),(8,false,[.at 800000001]),(9,false,[.ci .i64 0])],[(0,[.int .i64,.int .i64,.int .i64,.br tM,.int .i64,.int .i64,.int .i64,.int .i64,.int .i64,.br tW,.int .i64,.bool,.bool])],[(800000000,tI,.fz),(800000001,tI,.fz)]⟩
def ygT:Shape:=⟨[(7,false,[.bool]),(8,false,[.at 800000000])],[],[(800000000,tI,.fz)]⟩
def ylB:Shape:=⟨[],[],[]⟩
abbrev yf1 (v0:Int) (v1:Bool) (v2:Int) (v3:dA) (v4 v5:List Int):(yb7).X:=(((v0,()),((),()),((),()),(v1,()),((),()),(v2,()),()),((v3.1,v3.2.1.1,v3.2.1.2,v3.2.2.1,v3.2.2.2.1,v3.2.2.2.2.1,v3.2.2.2.2.2.1,v3.2.2.2.2.2.2.1,v3.2.2.2.2.2.2.2.1,v3.2.2.2.2.2.2.2.2.1,v3.2.2.2.2.2.2.2.2.2.1,v3.2.2.2.2.2.2.2.2.2.2.1,v3.2.2.2.2.2.2.2.2.2.2.2,()),()),(v4,v5,()))
abbrev yAo (v0:Int) (v1:Bool) (v2:dA) (v3 v4:List Int):(yg5).X:=(((v0,()),((),()),((),()),(v1,()),((),()),((),()),()),((v2.1,v2.2.1.1,v2.2.1.2,v2.2.2.1,v2.2.2.2.1,v2.2.2.2.2.1,v2.2.2.2.2.2.1,v2.2.2.2.2.2.2.1,v2.2.2.2.2.2.2.2.1,v2.2.2.2.2.2.2.2.2.1,v2.2.2.2.2.2.2.2.2.2.1,v2.2.2.2.2.2.2.2.2.2.2.1,v2.2.2.2.2.2.2.2.2.2.2.2,()),()),(v3,v4,()))
abbrev yrv (v0:Bool) (v1:List Int):(ygT).X:=(((v0,()),((),()),()),(),(v1,()))
def yj9 (v0:Int) (v1:Bool) (v2 v3 v4 v5:Int) (v6:List dM) (v7 v8 v9 v10 v11:Int) (v12:List dW) (v13:Int) (v14 v15:Bool) (v16 v17:List Int):Option ((yb7).X ⊕ ((ygT).X ⊕ (ylB).X)) :=
 bif (ltb v2 (IntKind.i64.wrap (v4 - 1))) then
 bif v1 then
 let r3:=ymV (v4,v5) v0 v2
 bif (inb r3 v16.length) then
 bif (zjR v17.length ([(nth v16 r3 0)]:List Int).length 8) then
 some (.inl (((v0,()),((),()),((),()),(v1,()),((),()),((IntKind.i64.wrap (v2+1)),()),()),((v3,v4,v5,v6,v7,v8,v9,v10,v11,v12,v13,v14,v15,()),()),(v16,(v17++([(nth v16 r3 0)]:List Int)),())))
 else none
 else none
 else
 some (.inr (.inl (((v1,()),((),()),()),(),(v17,()))))
 else
 some (.inr (.inl (((v1,()),((),()),()),(),(v17,()))))
def yai (x:(yb7).X):=yj9 x.1.1.1 x.1.2.2.2.1.1 x.1.2.2.2.2.2.1.1 x.2.1.1.1 x.2.1.1.2.1 x.2.1.1.2.2.1 x.2.1.1.2.2.2.1 x.2.1.1.2.2.2.2.1 x.2.1.1.2.2.2.2.2.1 x.2.1.1.2.2.2.2.2.2.1 x.2.1.1.2.2.2.2.2.2.2.1 x.2.1.1.2.2.2.2.2.2.2.2.1 x.2.1.1.2.2.2.2.2.2.2.2.2.1 x.2.1.1.2.2.2.2.2.2.2.2.2.2.1 x.2.1.1.2.2.2.2.2.2.2.2.2.2.2.1 x.2.1.1.2.2.2.2.2.2.2.2.2.2.2.2.1 x.2.2.1 x.2.2.2.1
def yz3 (x:(yg5).X):(yb7).X:=(((x.1.1.1,()),((),()),((),()),(x.1.2.2.2.1.1,()),((),()),(0,()),()),((x.2.1.1.1,x.2.1.1.2.1,x.2.1.1.2.2.1,x.2.1.1.2.2.2.1,x.2.1.1.2.2.2.2.1,x.2.1.1.2.2.2.2.2.1,x.2.1.1.2.2.2.2.2.2.1,x.2.1.1.2.2.2.2.2.2.2.1,x.2.1.1.2.2.2.2.2.2.2.2.1,x.2.1.1.2.2.2.2.2.2.2.2.2.1,x.2.1.1.2.2.2.2.2.2.2.2.2.2.1,x.2.1.1.2.2.2.2.2.2.2.2.2.2.2.1,x.2.1.1.2.2.2.2.2.2.2.2.2.2.2.2.1,()),()),(x.2.2.1,x.2.2.2.1,()))
def yBs:Code:=(zdD ymd 64 244).getD .skip
theorem yOm:zdD ymd 64 61=some (.block 0 (.loop yBs)):=by kernel_rfl
theorem yRa (x:(yb7).X):zg0 ⟨yr4,41,yDA⟩ 0 yBs 244 yb7 ygT ylB x=yai x:=by kernel_rfl
def yAf (x:(yg5).X):Nat:=18446744073709551616
def ylo (x:(yg5).X):Option ((ygT).X ⊕ (ylB).X):=zz yai (yAf x) (yz3 x)
def yAx:Seg:=⟨yg5,ygT,ylB,ylo⟩
def yDB:Nat→Option Seg:=fun q=>bif Nat.beq q 61 then some yAx else yDA q
theorem yPd:FrOk Tryz.prog ⟨yr4,41,yDB⟩ ymd:=(yPc).loop (sg:=yAx) yb7 yz3 (by decide) yOm yai yAf (by decide) (fun _=>rfl) (fun x r _ h=>h) yRa
abbrev yfj:List Par:= [.rd tA,.rd tI]
abbrev ymD:List OT:= [⟨false,tL,(.ow .fz)⟩,⟨false,tB,.fz⟩]
def yoJ (a0:dA) (a1:Int):Option (ResD ymD×MutD yfj) :=
 bnd (yld a0 a1) fun r1 =>
 zkh (ylo (((a1,()),((),()),((),()),(r1.1.2.1,()),((),()),((),()),()),((a0.1,a0.2.1.1,a0.2.1.2,a0.2.2.1,a0.2.2.2.1,a0.2.2.2.2.1,a0.2.2.2.2.2.1,a0.2.2.2.2.2.2.1,a0.2.2.2.2.2.2.2.1,a0.2.2.2.2.2.2.2.2.1,a0.2.2.2.2.2.2.2.2.2.1,a0.2.2.2.2.2.2.2.2.2.2.1,a0.2.2.2.2.2.2.2.2.2.2.2,()),()),(r1.1.1,([]:List Int),()))) (fun y3 =>
 some ((y3.2.2.1,y3.1.1.1,()),())) (fun y3 =>
 none)
theorem yYq (x:InD yfj):zjx ⟨yr4,41,yDB⟩ Tryz.f216.results.toList ymd yfj ymD x=yoJ x.1 x.2.1:=by kernel_rfl
theorem yUh:ConOk Tryz.prog 216 ⟨yfj,ymD,fun x=>yoJ x.1 x.2.1⟩:=zj1 (yPd) Tryz.func216 (by kernel_rfl) (by kernel_rfl) Tryz.ntmps216.symm (by decide) (fun x r h=>(yYq x).trans h)
def ysJ (a0:dA) (a1:Int):List Int×Bool:=yAE a0 a1
def yyY (a0:dA) (a1:Int):Bool:=yaM a0.2.1 a1
theorem yWp (a0:dA) (a1:Int) (hk:zi2 yfj (a0,a1,())) (hq:yyY a0 a1=true):yoJ a0 a1=(fun n=>some ((n.1,n.2,()),())) (ysJ a0 a1):=by
 have hs:yaM a0.2.1 a1=true:=hq
 have hg:=yi.1 (ybC.1 hs).1
 unfold yoJ ysJ yAE
 rw [yEW a0 a1 (ybC.1 hs).1,ygs]
 simp only [zkc]
 cases hw:(yN a0 a1).2
 ·have h1:ylo (yAo a1 false a0 (yN a0 a1).1 [])=some (.inl (yrv false [])) :=
   zkf (step:=yai) (fun i=>yf1 a1 false i a0 (yN a0 a1).1 []) 0 _ (fun i hi=>absurd hi (Nat.not_lt_zero _)) (by
    simp only [yai,yf1,yj9,cond_false]
    cases ltb ((0:Nat):Int) (IntKind.i64.wrap (a0.2.1.1 - 1))<;>rfl) _ (by show _ < 18446744073709551616; omega)
  rw [h1]; rfl
 ·have hL:=yLw hw
  have h1:ylo (yAo a1 true a0 (yN a0 a1).1 [])=some (.inl (yrv true ((List.range (a0.2.1.1 - 1).toNat).foldl (fun l (i:Nat)=>l++ [nth (yN a0 a1).1 (yc1 a0.2.1 a1 i) 0]) []))) :=
   zj8 (step:=yai) (a0.2.1.1 - 1).toNat (fun i s=>yf1 a1 true i a0 (yN a0 a1).1 s) (fun l (i:Nat)=>l++ [nth (yN a0 a1).1 (yc1 a0.2.1 a1 i) 0]) (fun i s=>s.length=i) (fun s=> .inl (yrv true s)) (fun i s hi hs2=>⟨by
    have hd:=y0N hs (show (0:Int)≤i by omega) (show (i:Int)≤a0.2.1.1 - 2 by omega)
    simp only [yai,yf1,yj9,wr (show -9223372036854775808≤a0.2.1.1 - 1 by omega) (by omega),zj4 (show (i:Int) < a0.2.1.1 - 1 by omega),cond_true,wr (show -9223372036854775808≤(i:Int)+1 by omega) (by omega),Int.natCast_add,Int.natCast_one,Int.toNat_natCast,zkr,ymV,zjD.2 (show 0≤yc1 a0.2.1 a1 i∧yc1 a0.2.1 a1 i < (yN a0 a1).1.length by omega)]
    rw [zka.2 (show (s.length+ [nth (yN a0 a1).1 (yc1 a0.2.1 a1 i) 0].length) * 8≤140737488355328 by simp only [List.length_cons,List.length_nil]; omega)]; rfl,by simp [hs2]⟩) (fun s hs2=>by simp only [yai,yf1,yj9,wr (show -9223372036854775808≤a0.2.1.1 - 1 by omega) (by omega),zkx (show a0.2.1.1 - 1≤((a0.2.1.1 - 1).toNat:Int) by omega),cond_false]) [] rfl _ (by show _ < 18446744073709551616; omega)
  rw [h1,yqA]; rfl
def ysL (a0:dA) (a1:Int):Option (ResD ymD×MutD yfj):=bif yyY a0 a1 then (fun n=>some ((n.1,n.2,()),())) (ysJ a0 a1) else none
theorem yXm (a0:dA) (a1:Int) (h:yyY a0 a1=true):ysL a0 a1=(fun n=>some ((n.1,n.2,()),())) (ysJ a0 a1):=by unfold ysL; rw [h]; rfl
def yEx:Con:=⟨yfj,ymD,fun x=>ysL x.1 x.2.1⟩
theorem yXf:ConOk Tryz.prog 216 yEx:=(yUh).mono (fun x r hk h=>zks h (fun hq=>yWp x.1 x.2.1 hk hq))
end
end
end Go.Tf
