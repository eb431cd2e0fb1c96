/- Functions of the program, and what they come to. -/
import Derived.Test.YtgmadfpnljibhaaGreatArrsF3
namespace Go.Tf
noncomputable section
open Go.Proofs
set_option synthInstance.maxHeartbeats 400000
set_option synthInstance.maxSize 10000
set_option linter.unusedVariables false
set_option linter.unusedSimpArgs false
set_option maxRecDepth 100000
section
def yoS:Code:=(Tryz.f214.body).getD .skip
def yt9:Env:=zj2 TT [] []
theorem ySE:FrOk Tryz.prog ⟨yt9,17,fun _=>none⟩ yoS:=zj6 yc yd trivial
def yFF:Nat→Option Seg:=fun _=>none
def ycQ:Shape:=⟨[(3,false,[.int .i64]),(6,false,[.br tI]),(7,false,[.int .i64]),(8,false,[.int .i64])],[],[]⟩
def yiw:Shape:=⟨[(3,false,[.ci .i64 0]),(6,false,[.br tI]),(7,false,[.int .i64]),(8,false,[.ci .i64 0])],[],[]⟩
def yig:Shape:=⟨[(3,false,[.int .i64])],[],[]⟩
def yn9:Shape:=⟨[],[],[]⟩
abbrev ytj (v0:Int) (v1:List Int) (v2 v3:Int):(ycQ).X:=(((v0,()),(v1,()),(v2,()),(v3,()),()),(),())
abbrev yPG (v0:List Int) (v1:Int):(yiw).X:=((((),()),(v0,()),(v1,()),((),()),()),(),())
abbrev yCl (v0:Int):(yig).X:=(((v0,()),()),(),())
def ytH (v0:Int) (v1:List Int) (v2 v3:Int):Option ((ycQ).X ⊕ ((yig).X ⊕ (yn9).X)) :=
 bif (ltb v3 v2) then
 bif (inb v3 v1.length) then
 some (.inl ((((IntKind.i64.wrap ((BitVec.ofInt IntKind.i64.bits v0 ^^^ BitVec.ofInt IntKind.i64.bits (nth v1 v3 0)).toNat:Int)),()),(v1,()),(v2,()),((IntKind.i64.wrap (v3+1)),()),()),(),()))
 else none
 else
 some (.inr (.inl (((v0,()),()),(),())))
def ydm (x:(ycQ).X):=ytH x.1.1.1 x.1.2.1.1 x.1.2.2.1.1 x.1.2.2.2.1.1
def yBQ (x:(yiw).X):(ycQ).X:=(((0,()),(x.1.2.1.1,()),(x.1.2.2.1.1,()),(0,()),()),(),())
def yD9:Code:=(zdD yoS 64 116).getD .skip
theorem yRM:zdD yoS 64 29=some (.block 0 (.loop yD9)):=by kernel_rfl
theorem yUQ (x:(ycQ).X):zg0 ⟨yt9,17,yFF⟩ 0 yD9 116 ycQ yig yn9 x=ydm x:=by kernel_rfl
def yB9 (x:(yiw).X):Nat:=18446744073709551616
def yun (x:(yiw).X):Option ((yig).X ⊕ (yn9).X):=zz ydm (yB9 x) (yBQ x)
def yCO:Seg:=⟨yiw,yig,yn9,yun⟩
def yFG:Nat→Option Seg:=fun q=>bif Nat.beq q 29 then some yCO else yFF q
theorem ySF:FrOk Tryz.prog ⟨yt9,17,yFG⟩ yoS:=(ySE).loop (sg:=yCO) ycQ yBQ (by decide) yRM ydm yB9 (by decide) (fun _=>rfl) (fun x r _ h=>h) yUQ
abbrev yko:List Par:= [.rd tL]
abbrev yuF:List OT:= [⟨false,tI,.fz⟩]
def yqP (a0:List Int):Option (ResD yuF×MutD yko) :=
 zkh (yun ((((),()),(a0,()),((a0.length:Int),()),((),()),()),(),())) (fun y0 =>
 some ((y0.1.1.1,()),())) (fun y0 =>
 none)
theorem yZA (x:InD yko):zjx ⟨yt9,17,yFG⟩ Tryz.f214.results.toList yoS yko yuF x=yqP x.1:=by kernel_rfl
theorem yWD:ConOk Tryz.prog 214 ⟨yko,yuF,fun x=>yqP x.1⟩:=zj1 (ySF) Tryz.func214 (by kernel_rfl) (by kernel_rfl) Tryz.ntmps214.symm (by decide) (fun x r h=>(yZA x).trans h)
def yhi (a0:List Int):Int:=xorOf a0
theorem yYI (a0:List Int) (hk:zi2 yko (a0,())):yqP a0=(fun n=>some ((n,()),())) (yhi a0):=by
 have hb:a0.length * 8≤2 ^ 47:=hk.1.1
 have h1:yun (yPG a0 a0.length)=some (.inl (yCl (xorOf a0))) :=
  zj3 (step:=ydm) a0 0 (fun i s=>ytj s a0 a0.length i) xw (fun _ _=>True) (fun s=> .inl (yCl s)) (fun i s hi _=>⟨by
   simp only [ydm,ytj,ytH,zj4 (show (i:Int) < a0.length by omega),cond_true,wr (show -9223372036854775808≤(i:Int)+1 by omega) (by omega),Int.natCast_add,Int.natCast_one,Int.toNat_natCast,zkl hi,zkm]; rfl,trivial⟩) (fun s _=>by simp only [ydm,ytj,ytH,zkx (Int.le_refl _),cond_false]) 0 trivial _ (by show _ < 18446744073709551616; omega)
 unfold yqP yhi
 rw [h1]; rfl
def ywW:Con:=⟨yko,yuF,fun x=>(fun n=>some ((n,()),())) (yhi x.1)⟩
theorem yIr:ConOk Tryz.prog 214 ywW:=(yWD).mono (fun x r hk h=>(yYI x.1 hk).trans h)
end
section
def yoR:Code:=(Tryz.f118.body).getD .skip
def yt8:Env:=zj2 TT [(117,yu4),(214,ywW)] []
theorem ySC:FrOk Tryz.prog ⟨yt8,33,fun _=>none⟩ yoR:=zj6 yc yd ⟨yGH,yIr,trivial⟩
def yFD:Nat→Option Seg:=fun _=>none
def ycP:Shape:=⟨[(1,false,[.int .i64]),(2,false,[.ptr 0 0]),(6,false,[.at 800000000]),(13,false,[.int .i64]),(14,false,[.int .i64])],[(0,[.int .i64,.int .i64,.int .i64,.br tM,.int .i64,.int .i64,.int .i64,.int .i64,.int .i64,.br tW,.int .i64,.bool,.bool])],[(800000000,tI,.fz)]⟩
def yiv:Shape:=⟨[(1,false,[.int .i64]),(2,false,[.ptr 0 0]),(6,false,[.at 800000000]),(13,false,[.int .i64]),(14,false,[.ci .i64 0])],[(0,[.int .i64,.int .i64,.int .i64,.br tM,.int .i64,.int .i64,.int .i64,.int .i64,.int .i64,.br tW,.int .i64,.bool,.bool])],[(800000000,tI,.fz)]⟩
def yif:Shape:=⟨[(6,false,[.at 800000000])],[],[(800000000,tI,.fz)]⟩
def yiS:Shape:=⟨[(4,false,[.int .i64]),(5,false,[.bool])],[],[]⟩
abbrev yti (v0 v1 v2:Int) (v3:dA) (v4:List Int):(ycP).X:=(((v0,()),((),()),((),()),(v1,()),(v2,()),()),((v3.1,v3.2.1.1,v3.2.1.2,v3.2.2.1,v3.2.2.2.1,v3.2.2.2.2.1,v3.2.2.2.2.2.1,v3.2.2.2.2.2.2.1,v3.2.2.2.2.2.2.2.1,v3.2.2.2.2.2.2.2.2.1,v3.2.2.2.2.2.2.2.2.2.1,v3.2.2.2.2.2.2.2.2.2.2.1,v3.2.2.2.2.2.2.2.2.2.2.2,()),()),(v4,()))
abbrev yPF (v0 v1:Int) (v2:dA) (v3:List Int):(yiv).X:=(((v0,()),((),()),((),()),(v1,()),((),()),()),((v2.1,v2.2.1.1,v2.2.1.2,v2.2.2.1,v2.2.2.2.1,v2.2.2.2.2.1,v2.2.2.2.2.2.1,v2.2.2.2.2.2.2.1,v2.2.2.2.2.2.2.2.1,v2.2.2.2.2.2.2.2.2.1,v2.2.2.2.2.2.2.2.2.2.1,v2.2.2.2.2.2.2.2.2.2.2.1,v2.2.2.2.2.2.2.2.2.2.2.2,()),()),(v3,()))
abbrev yCk (v0:List Int):(yif).X:=((((),()),()),(),(v0,()))
abbrev yPU (v0:Int) (v1:Bool):(yiS).X:=(((v0,()),(v1,()),()),(),())
def ytG (v0 v1 v2 v3 v4 v5:Int) (v6:List dM) (v7 v8 v9 v10 v11:Int) (v12:List dW) (v13:Int) (v14 v15:Bool) (v16:List Int):Option ((ycP).X ⊕ ((yif).X ⊕ (yiS).X)) :=
 bif (ltb v2 v1) then
 bnd (ym0 (v3,(v4,v5),v6,v7,v8,v9,v10,v11,v12,v13,v14,v15) v2 v0) fun r2 =>
 bif (!r2.1.2.1) then
 some (.inr (.inr (((0,()),(false,()),()),(),())))
 else
 bif (zjR v16.length ([r2.1.1]:List Int).length 8) then
 some (.inl (((v0,()),((),()),((),()),(v1,()),((IntKind.i64.wrap (v2+1)),()),()),((v3,v4,v5,v6,v7,v8,v9,v10,v11,v12,v13,v14,v15,()),()),((v16++([r2.1.1]:List Int)),())))
 else none
 else
 some (.inr (.inl ((((),()),()),(),(v16,()))))
def ydl (x:(ycP).X):=ytG x.1.1.1 x.1.2.2.2.1.1 x.1.2.2.2.2.1.1 x.2.1.1.1 x.2.1.1.2.1 x.2.1.1.2.2.1 x.2.1.1.2.2.2.1 x.2.1.1.2.2.2.2.1 x.2.1.1.2.2.2.2.2.1 x.2.1.1.2.2.2.2.2.2.1 x.2.1.1.2.2.2.2.2.2.2.1 x.2.1.1.2.2.2.2.2.2.2.2.1 x.2.1.1.2.2.2.2.2.2.2.2.2.1 x.2.1.1.2.2.2.2.2.2.2.2.2.2.1 x.2.1.1.2.2.2.2.2.2.2.2.2.2.2.1 x.2.1.1.2.2.2.2.2.2.2.2.2.2.2.2.1 x.2.2.1
def yBP (x:(yiv).X):(ycP).X:=(((x.1.1.1,()),((),()),((),()),(x.1.2.2.2.1.1,()),(0,()),()),((x.2.1.1.1,x.2.1.1.2.1,x.2.1.1.2.2.1,x.2.1.1.2.2.2.1,x.2.1.1.2.2.2.2.1,x.2.1.1.2.2.2.2.2.1,x.2.1.1.2.2.2.2.2.2.1,x.2.1.1.2.2.2.2.2.2.2.1,x.2.1.1.2.2.2.2.2.2.2.2.1,x.2.1.1.2.2.2.2.2.2.2.2.2.1,x.2.1.1.2.2.2.2.2.2.2.2.2.2.1,x.2.1.1.2.2.2.2.2.2.2.2.2.2.2.1,x.2.1.1.2.2.2.2.2.2.2.2.2.2.2.2.1,()),()),(x.2.2.1,()))
def yD8:Code:=(zdD yoR 64 116).getD .skip
theorem yRL:zdD yoR 64 29=some (.block 0 (.loop yD8)):=by kernel_rfl
theorem yUP (x:(ycP).X):zg0 ⟨yt8,33,yFD⟩ 0 yD8 116 ycP yif yiS x=ydl x:=by kernel_rfl
def yB8 (x:(yiv).X):Nat:=18446744073709551616
def yum (x:(yiv).X):Option ((yif).X ⊕ (yiS).X):=zz ydl (yB8 x) (yBP x)
def yCN:Seg:=⟨yiv,yif,yiS,yum⟩
def yFE:Nat→Option Seg:=fun q=>bif Nat.beq q 29 then some yCN else yFD q
theorem ySD:FrOk Tryz.prog ⟨yt8,33,yFE⟩ yoR:=(ySC).loop (sg:=yCN) ycP yBP (by decide) yRL ydl yB8 (by decide) (fun _=>rfl) (fun x r _ h=>h) yUP
abbrev ykn:List Par:= [.rd tA,.rd tI]
abbrev yuE:List OT:= [⟨false,tI,.fz⟩,⟨false,tB,.fz⟩]
def yqO (a0:dA) (a1:Int):Option (ResD yuE×MutD ykn) :=
 zkh (yum (((a1,()),((),()),((),()),((a0.2.2.1.length:Int),()),((),()),()),((a0.1,a0.2.1.1,a0.2.1.2,a0.2.2.1,a0.2.2.2.1,a0.2.2.2.2.1,a0.2.2.2.2.2.1,a0.2.2.2.2.2.2.1,a0.2.2.2.2.2.2.2.1,a0.2.2.2.2.2.2.2.2.1,a0.2.2.2.2.2.2.2.2.2.1,a0.2.2.2.2.2.2.2.2.2.2.1,a0.2.2.2.2.2.2.2.2.2.2.2,()),()),(([]:List Int),()))) (fun y2 =>
 let r4:=yhi y2.2.2.1
 some ((r4,true,()),())) (fun y2 =>
 some ((y2.1.1.1,y2.1.2.1.1,()),()))
theorem yZz (x:InD ykn):zjx ⟨yt8,33,yFE⟩ Tryz.f118.results.toList yoR ykn yuE x=yqO x.1 x.2.1:=by kernel_rfl
theorem yWC:ConOk Tryz.prog 118 ⟨ykn,yuE,fun x=>yqO x.1 x.2.1⟩:=zj1 (ySD) Tryz.func118 (by kernel_rfl) (by kernel_rfl) Tryz.ntmps118.symm (by decide) (fun x r h=>(yZz x).trans h)
def yhh (a0:dA) (a1:Int):Int×Bool:=yga a0 a1
theorem yYH (a0:dA) (a1:Int) (hk:zi2 ykn (a0,a1,())):yqO a0 a1=(fun n=>some ((n.1,n.2,()),())) (yhh a0 a1):=by
 have hb:a0.2.2.1.length * 80≤2 ^ 47:=hk.1.2.2.1.1
 have h1:yum (yPF a1 a0.2.2.1.length a0 [])=some (bif yBh a0 a1 then .inl (yCk ((List.range a0.2.2.1.length).foldl (fun n (i:Nat)=>n++ [yjr a0 i a1]) [])) else .inr (yPU 0 false)) :=
  zhr (step:=ydl) a0.2.2.1.length (fun i s=>yti a1 a0.2.2.1.length i a0 s) (fun (i:Nat)=>ym a0 i a1) (fun n (i:Nat)=>n++ [yjr a0 i a1]) (fun i s=>s.length=i) (fun s=> .inl (yCk s)) _ (fun i s hi hs=>⟨by
   simp only [ydl,yti,ytG,zj4 (show (i:Int) < a0.2.2.1.length by omega),cond_true,wr (show -9223372036854775808≤(i:Int)+1 by omega) (by omega),Int.natCast_add,Int.natCast_one,Int.toNat_natCast,zkr,yGM a0 i a1 (zkl hi),yhU,zkc]
   rw [show zjR s.length ([yjr a0 i a1]:List Int).length 8=true from zka.2 (by simp only [List.length_cons,List.length_nil]; omega)]
   cases ym a0 i a1<;>rfl,fun _=>by simp [hs]⟩) (fun s _=>by simp only [ydl,yti,ytG,zkx (Int.le_refl _),cond_false]) [] rfl _ (by show _ < 18446744073709551616; omega)
 unfold yqO yhh yga yhi
 rw [h1,yqA,List.nil_append]
 cases yBh a0 a1<;>rfl
def ywV:Con:=⟨ykn,yuE,fun x=>(fun n=>some ((n.1,n.2,()),())) (yhh x.1 x.2.1)⟩
theorem yIq:ConOk Tryz.prog 118 ywV:=(yWC).mono (fun x r hk h=>(yYH x.1 x.2.1 hk).trans h)
end
section
def yrN:Code:=(Tryz.f32.body).getD .skip
def yxq:Env:=zj2 TT [(118,ywV)] []
theorem yVR:FrOk Tryz.prog ⟨yxq,28,fun _=>none⟩ yrN:=zj6 yc yd ⟨yIq,trivial⟩
def yHS:Nat→Option Seg:=fun _=>none
def yd2:Shape:=⟨[(1,false,[.ptr 0 0]),(3,false,[.int .i64])],[(0,[.int .i64,.int .i64,.int .i64,.br tM,.int .i64,.int .i64,.int .i64,.int .i64,.int .i64,.br tW,.int .i64,.bool,.bool])],[]⟩
def ykL:Shape:=⟨[(1,false,[.ptr 0 0]),(3,false,[.ci .i64 0])],[(0,[.int .i64,.int .i64,.int .i64,.br tM,.int .i64,.int .i64,.int .i64,.int .i64,.int .i64,.br tW,.int .i64,.bool,.bool])],[]⟩
def ykH:Shape:=⟨[],[],[]⟩
def ykV:Shape:=⟨[(2,false,[.bool])],[],[]⟩
abbrev yvs (v0:Int) (v1:dA):(yd2).X:=((((),()),(v0,()),()),((v1.1,v1.2.1.1,v1.2.1.2,v1.2.2.1,v1.2.2.2.1,v1.2.2.2.2.1,v1.2.2.2.2.2.1,v1.2.2.2.2.2.2.1,v1.2.2.2.2.2.2.2.1,v1.2.2.2.2.2.2.2.2.1,v1.2.2.2.2.2.2.2.2.2.1,v1.2.2.2.2.2.2.2.2.2.2.1,v1.2.2.2.2.2.2.2.2.2.2.2,()),()),())
abbrev yTn (v0:dA):(ykL).X:=((((),()),((),()),()),((v0.1,v0.2.1.1,v0.2.1.2,v0.2.2.1,v0.2.2.2.1,v0.2.2.2.2.1,v0.2.2.2.2.2.1,v0.2.2.2.2.2.2.1,v0.2.2.2.2.2.2.2.1,v0.2.2.2.2.2.2.2.2.1,v0.2.2.2.2.2.2.2.2.2.1,v0.2.2.2.2.2.2.2.2.2.2.1,v0.2.2.2.2.2.2.2.2.2.2.2,()),()),())
abbrev yTj  :(ykH).X:=((),(),())
abbrev yTq (v0:Bool):(ykV).X:=(((v0,()),()),(),())
def yv4 (v0 v1 v2 v3:Int) (v4:List dM) (v5 v6 v7 v8 v9:Int) (v10:List dW) (v11:Int) (v12 v13:Bool):Option ((yd2).X ⊕ ((ykH).X ⊕ (ykV).X)) :=
 bif (ltb v0 v3) then
 bif (ltb v0 20) then
 let r2:=yhh (v1,(v2,v3),v4,v5,v6,v7,v8,v9,v10,v11,v12,v13) v0
 bif r2.2 then
 bif (r2.1 !=0) then
 some (.inr (.inr (((false,()),()),(),())))
 else
 some (.inl ((((),()),((IntKind.i64.wrap (v0+1)),()),()),((v1,v2,v3,v4,v5,v6,v7,v8,v9,v10,v11,v12,v13,()),()),()))
 else
 some (.inl ((((),()),((IntKind.i64.wrap (v0+1)),()),()),((v1,v2,v3,v4,v5,v6,v7,v8,v9,v10,v11,v12,v13,()),()),()))
 else
 some (.inr (.inl ((),(),())))
 else
 some (.inr (.inl ((),(),())))
def yeb (x:(yd2).X):=yv4 x.1.2.1.1 x.2.1.1.1 x.2.1.1.2.1 x.2.1.1.2.2.1 x.2.1.1.2.2.2.1 x.2.1.1.2.2.2.2.1 x.2.1.1.2.2.2.2.2.1 x.2.1.1.2.2.2.2.2.2.1 x.2.1.1.2.2.2.2.2.2.2.1 x.2.1.1.2.2.2.2.2.2.2.2.1 x.2.1.1.2.2.2.2.2.2.2.2.2.1 x.2.1.1.2.2.2.2.2.2.2.2.2.2.1 x.2.1.1.2.2.2.2.2.2.2.2.2.2.2.1 x.2.1.1.2.2.2.2.2.2.2.2.2.2.2.2.1
def yEG (x:(ykL).X):(yd2).X:=((((),()),(0,()),()),((x.2.1.1.1,x.2.1.1.2.1,x.2.1.1.2.2.1,x.2.1.1.2.2.2.1,x.2.1.1.2.2.2.2.1,x.2.1.1.2.2.2.2.2.1,x.2.1.1.2.2.2.2.2.2.1,x.2.1.1.2.2.2.2.2.2.2.1,x.2.1.1.2.2.2.2.2.2.2.2.1,x.2.1.1.2.2.2.2.2.2.2.2.2.1,x.2.1.1.2.2.2.2.2.2.2.2.2.2.1,x.2.1.1.2.2.2.2.2.2.2.2.2.2.2.1,x.2.1.1.2.2.2.2.2.2.2.2.2.2.2.2.1,()),()),())
def yGi:Code:=(zdD yrN 64 52).getD .skip
theorem yVm:zdD yrN 64 13=some (.block 0 (.loop yGi)):=by kernel_rfl
theorem yXq (x:(yd2).X):zg0 ⟨yxq,28,yHS⟩ 0 yGi 52 yd2 ykH ykV x=yeb x:=by kernel_rfl
def yEL (x:(ykL).X):Nat:=18446744073709551616
def ywR (x:(ykL).X):Option ((ykH).X ⊕ (ykV).X):=zz yeb (yEL x) (yEG x)
def yEZ:Seg:=⟨ykL,ykH,ykV,ywR⟩
def yHT:Nat→Option Seg:=fun q=>bif Nat.beq q 13 then some yEZ else yHS q
theorem yVS:FrOk Tryz.prog ⟨yxq,28,yHT⟩ yrN:=(yVR).loop (sg:=yEZ) yd2 yEG (by decide) yVm yeb yEL (by decide) (fun _=>rfl) (fun x r _ h=>h) yXq
abbrev ync:List Par:= [.rd tA]
abbrev yxu:List OT:= [⟨false,tB,.fz⟩]
def ysQ (a0:dA):Option (ResD yxu×MutD ync) :=
 zkh (ywR ((((),()),((),()),()),((a0.1,a0.2.1.1,a0.2.1.2,a0.2.2.1,a0.2.2.2.1,a0.2.2.2.2.1,a0.2.2.2.2.2.1,a0.2.2.2.2.2.2.1,a0.2.2.2.2.2.2.2.1,a0.2.2.2.2.2.2.2.2.1,a0.2.2.2.2.2.2.2.2.2.1,a0.2.2.2.2.2.2.2.2.2.2.1,a0.2.2.2.2.2.2.2.2.2.2.2,()),()),())) (fun y2 =>
 some ((true,()),())) (fun y2 =>
 some ((y2.1.1.1,()),()))
theorem y0y (x:InD ync):zjx ⟨yxq,28,yHT⟩ Tryz.f32.results.toList yrN ync yxu x=ysQ x.1:=by kernel_rfl
theorem yYZ:ConOk Tryz.prog 32 ⟨ync,yxu,fun x=>ysQ x.1⟩:=zj1 (yVS) Tryz.func32 (by kernel_rfl) (by kernel_rfl) Tryz.ntmps32.symm (by decide) (fun x r h=>(y0y x).trans h)
def yrX (a0:dA):Bool:=yZk a0
theorem y0c (a0:dA) (hk:zi2 ync (a0,())):ysQ a0=(fun n=>some ((n,()),())) (yrX a0):=by
 have h1:ywR (yTn a0)=some (bif (List.range (min a0.2.1.2.toNat 20)).any (fun (s:Nat)=>(yga a0 s).2&&(yga a0 s).1 !=0) then .inr (yTq false) else .inl yTj) :=
  ziO (step:=yeb) (fun i=>yvs i a0) (min a0.2.1.2.toNat 20) _ _ _ (fun i hi=>by
   simp only [yeb,yvs,yv4,zj4 (show (i:Int) < a0.2.1.2 by omega),cond_true,wr (show -9223372036854775808≤(i:Int)+1 by omega) (by omega),Int.natCast_add,Int.natCast_one,Int.toNat_natCast,zj4 (show (i:Int) < 20 by omega),zkr,yhh]
   cases (yga a0 i).2<;>cases ((yga a0 i).1 !=0)<;>rfl) (by
   simp only [yeb,yvs,yv4]
   by_cases h:a0.2.1.2≤((min a0.2.1.2.toNat 20:Nat):Int)
   ·rw [zkx h]; rfl
   ·rw [zj4 (by omega),zkx (show (20:Int)≤((min a0.2.1.2.toNat 20:Nat):Int) by omega)]; rfl) _ (by show _ < 18446744073709551616; omega)
 unfold ysQ yrX yZk
 rw [h1,List.all_eq_not_any_not]; simp only [Bool.not_not]
 cases (List.range (min a0.2.1.2.toNat 20)).any (fun (s:Nat)=>(yga a0 s).2&&(yga a0 s).1 !=0)<;>rfl
def yIo:Con:=⟨ync,yxu,fun x=>(fun n=>some ((n,()),())) (yrX x.1)⟩
theorem y0j:ConOk Tryz.prog 32 yIo:=(yYZ).mono (fun x r hk h=>(y0c x.1 hk).trans h)
end
section
def yFl:Code:=(Tryz.f100.body).getD .skip
def yF3:Env:=zj2 TT [] []
theorem yMo:FrOk Tryz.prog ⟨yF3,6,fun _=>none⟩ yFl:=zj6 yc yd trivial
def yN2:Nat→Option Seg:=fun _=>none
abbrev yks:List Par:= [.rd tG]
abbrev yqj:List OT:= [⟨false,tI,.fz⟩]
def ytx (a0:dG):Option (ResD yqj×MutD yks) :=
 some (((IntKind.i64.wrap (6+a0.2)),()),())
theorem yVx (x:InD yks):zjx ⟨yF3,6,yN2⟩ Tryz.f100.results.toList yFl yks yqj x=ytx x.1:=by kernel_rfl
theorem yQu:ConOk Tryz.prog 100 ⟨yks,yqj,fun x=>ytx x.1⟩:=zj1 (yMo) Tryz.func100 (by kernel_rfl) (by kernel_rfl) Tryz.ntmps100.symm (by decide) (fun x r h=>(yVx x).trans h)
def yd7 (a0:dG):Int :=
 (IntKind.i64.wrap (6+a0.2))
def ys6:Con:=⟨yks,yqj,fun x=>(fun n=>some ((n,()),())) (yd7 x.1)⟩
theorem yTz (a0:dG):ytx a0=(fun n=>some ((n,()),())) (yd7 a0):=zkp (p:=fun (n:Int)=>((n,()),())) rfl
theorem yEQ:ConOk Tryz.prog 100 ys6:=(yQu).mono (fun x r _ h=>(yTz x.1).trans h)
end
section
def yJn:Code:=(Tryz.f122.body).getD .skip
def yJG:Env:=zj2 TT [(126,yv)] []
theorem ySu:FrOk Tryz.prog ⟨yJG,11,fun _=>none⟩ yJn:=zj6 yc yd ⟨yB,trivial⟩
def yU5:Nat→Option Seg:=fun _=>none
abbrev ypd:List Par:= [.rd tG]
abbrev yuA:List OT:= [⟨false,tB,.fz⟩]
def yxh (a0:dG):Option (ResD yuA×MutD ypd) :=
 let r1:=yf a0.1 3 5
 bif r1 then
 let r2:=yf a0.2 1 8
 some ((r2,()),())
 else
 some ((false,()),())
theorem yZv (x:InD ypd):zjx ⟨yJG,11,yU5⟩ Tryz.f122.results.toList yJn ypd yuA x=yxh x.1:=by kernel_rfl
theorem yWy:ConOk Tryz.prog 122 ⟨ypd,yuA,fun x=>yxh x.1⟩:=zj1 (ySu) Tryz.func122 (by kernel_rfl) (by kernel_rfl) Tryz.ntmps122.symm (by decide) (fun x r h=>(yZv x).trans h)
def ya6 (a0:dG):Bool :=
 let r1:=yf a0.1 3 5
 bif r1 then
 let r2:=yf a0.2 1 8
 r2
 else
 false
def ygn:Con:=⟨ypd,yuA,fun x=>(fun n=>some ((n,()),())) (ya6 x.1)⟩
theorem yYD (a0:dG):yxh a0=(fun n=>some ((n,()),())) (ya6 a0):=zkp (p:=fun (n:Bool)=>((n,()),())) (zkb (p:=fun (n:Bool)=>((n,()),())) rfl rfl)
theorem ym2:ConOk Tryz.prog 122 ygn:=(yWy).mono (fun x r _ h=>(yYD x.1).trans h)
theorem yKJ (a:Int×Int):ya6 a=yb a:=by kernel_rfl
end
section
def yHx:Code:=(Tryz.f131.body).getD .skip
def yH4:Env:=zj2 TT [(126,yv)] []
theorem yON:FrOk Tryz.prog ⟨yH4,26,fun _=>none⟩ yHx:=zj6 yc yd ⟨yB,trivial⟩
def yRn:Nat→Option Seg:=fun _=>none
abbrev ymo:List Par:= [.rd tG,.rd tI,.rd tI]
abbrev ysk:List OT:= [⟨false,tB,.fz⟩]
def yvN (a0:dG) (a1 a2:Int):Option (ResD ysk×MutD ymo) :=
 let r1:=yf a1 (-1) (IntKind.i64.wrap (a0.1 - 1))
 bif r1 then
 let r2:=yf a2 0 a0.2
 bif r2 then
 bif (!(a2==0)) then
 some (((a1 !=(-1)),()),())
 else
 some ((true,()),())
 else
 some ((false,()),())
 else
 some ((false,()),())
theorem yX7 (x:InD ymo):zjx ⟨yH4,26,yRn⟩ Tryz.f131.results.toList yHx ymo ysk x=yvN x.1 x.2.1 x.2.2.1:=by kernel_rfl
theorem yTY:ConOk Tryz.prog 131 ⟨ymo,ysk,fun x=>yvN x.1 x.2.1 x.2.2.1⟩:=zj1 (yON) Tryz.func131 (by kernel_rfl) (by kernel_rfl) Tryz.ntmps131.symm (by decide) (fun x r h=>(yX7 x).trans h)
def yfr (a0:dG) (a1 a2:Int):Bool :=
 let r1:=yf a1 (-1) (IntKind.i64.wrap (a0.1 - 1))
 bif r1 then
 let r2:=yf a2 0 a0.2
 bif r2 then
 bif (!(a2==0)) then
 (a1 !=(-1))
 else
 true
 else
 false
 else
 false
def yu3:Con:=⟨ymo,ysk,fun x=>(fun n=>some ((n,()),())) (yfr x.1 x.2.1 x.2.2.1)⟩
theorem yWa (a0:dG) (a1 a2:Int):yvN a0 a1 a2=(fun n=>some ((n,()),())) (yfr a0 a1 a2):=zkp (p:=fun (n:Bool)=>((n,()),())) (zkb (p:=fun (n:Bool)=>((n,()),())) (zkb (p:=fun (n:Bool)=>((n,()),())) (zkb (p:=fun (n:Bool)=>((n,()),())) rfl rfl) rfl) rfl)
theorem yGG:ConOk Tryz.prog 131 yu3:=(yTY).mono (fun x r _ h=>(yWa x.1 x.2.1 x.2.2.1).trans h)
end
end
end Go.Tf
