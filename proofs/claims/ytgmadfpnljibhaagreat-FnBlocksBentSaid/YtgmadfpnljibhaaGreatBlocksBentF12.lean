/- Functions of the program, and what they come to. -/
import Derived.Test.YtgmadfpnljibhaaGreatBlocksBentF11
namespace Go.Tf
noncomputable section
open Go.Proofs
set_option synthInstance.maxHeartbeats 400000
set_option synthInstance.maxSize 10000
set_option linter.unusedVariables false
set_option linter.unusedSimpArgs false
set_option maxRecDepth 100000
section
def ylH:Code:=(Tryz.f159.body).getD .skip
def yr7:Env:=zj3 TT [(135,yn),(224,yhy),(238,yzA)] []
theorem yQM:FrOk Tryz.prog ⟨yr7,60,fun _=>none⟩ ylH:=zj7 yb yc ⟨yu,yoO,yL3,trivial⟩
def yDW:Nat→Option Seg:=fun _=>none
def yb2:Shape:=⟨[(1,false,[.int .i64]),(2,false,[.ptr 0 0]),(6,false,[.br tI]),(7,false,[.int .i64])],[(0,[.br tL,.br tW,.bool,.br tI])],[]⟩
def ygU:Shape:=⟨[(1,false,[.int .i64]),(2,false,[.ptr 0 0]),(6,false,[.br tI]),(7,false,[.ci .i64 0])],[(0,[.br tL,.br tW,.bool,.br tI])],[]⟩
def ygI:Shape:=⟨[(6,false,[.br tI])],[],[]⟩
def yk7:Shape:=⟨[],[],[]⟩
abbrev yrE (v0:Int) (v1:List Int) (v2:Int) (v3:dM):(yb2).X:=(((v0,()),((),()),(v1,()),(v2,()),()),((v3.1,v3.2.1,v3.2.2.1,v3.2.2.2,()),()),())
abbrev yO1 (v0:Int) (v1:List Int) (v2:dM):(ygU).X:=(((v0,()),((),()),(v1,()),((),()),()),((v2.1,v2.2.1,v2.2.2.1,v2.2.2.2,()),()),())
abbrev yBc (v0:List Int):(ygI).X:=(((v0,()),()),(),())
def yrX (v0:Int) (v1:List Int) (v2:Int) (v3:List (List Int)) (v4:List dW) (v5:Bool) (v6:List Int):Option ((yb2).X ⊕ ((ygI).X ⊕ (yk7).X)) :=
 bif (ltb v2 (v4.length:Int)) then
 bif (inb v2 v4.length) then
 bif ((nth v4 v2 (0,[])).1==v0) then
 bif (inb v2 v4.length) then
 some (.inl (((v0,()),((),()),((nth v4 v2 (0,[])).2,()),((IntKind.i64.wrap (v2+1)),()),()),((v3,v4,v5,v6,()),()),()))
 else none
 else
 some (.inl (((v0,()),((),()),(v1,()),((IntKind.i64.wrap (v2+1)),()),()),((v3,v4,v5,v6,()),()),()))
 else none
 else
 some (.inr (.inl (((v1,()),()),(),())))
def ycl (x:(yb2).X):=yrX x.1.1.1 x.1.2.2.1.1 x.1.2.2.2.1.1 x.2.1.1.1 x.2.1.1.2.1 x.2.1.1.2.2.1 x.2.1.1.2.2.2.1
def yAL (x:(ygU).X):(yb2).X:=(((x.1.1.1,()),((),()),(x.1.2.2.1.1,()),(0,()),()),((x.2.1.1.1,x.2.1.1.2.1,x.2.1.1.2.2.1,x.2.1.1.2.2.2.1,()),()),())
def yCo:Code:=(zdD ylH 64 244).getD .skip
theorem yQf:zdD ylH 64 61=some (.block 0 (.loop yCo)):=by kernel_rfl
theorem ySa (x:(yb2).X):zg0 ⟨yr7,60,yDW⟩ 0 yCo 244 yb2 ygI yk7 x=ycl x:=by kernel_rfl
def yA0 (x:(ygU).X):Nat:=18446744073709551616
def ys6 (x:(ygU).X):Option ((ygI).X ⊕ (yk7).X):=zz ycl (yA0 x) (yAL x)
def yBq:Seg:=⟨ygU,ygI,yk7,ys6⟩
def yDX:Nat→Option Seg:=fun q=>bif Nat.beq q 61 then some yBq else yDW q
theorem yQN:FrOk Tryz.prog ⟨yr7,60,yDX⟩ ylH:=(yQM).loop (sg:=yBq) yb2 yAL (by decide) yQf ycl yA0 (by decide) (fun _=>rfl) (fun x r _ h=>h) ySa
abbrev yhu:List Par:= [.rd tM,.rd tI]
abbrev ysp:List OT:= [⟨false,tL,(.ow .fz)⟩,⟨false,tB,.fz⟩]
def ynF (a0:dM) (a1:Int):Option (ResD ysp×MutD yhu) :=
 let r1:=yar a0
 bif (!(!r1)) then
 bif (!a0.2.2.1) then
 let r2:=ya a1 0 (IntKind.i64.wrap ((a0.1.length:Int) - 1))
 bif (!(!r2)) then
 let r3:=yir a0.2.2.2 a1
 bif r3 then
 some ((([]:List Int),false,()),())
 else
 bif (inb a1 a0.1.length) then
 zjZ (ys6 (((a1,()),((),()),((nth a0.1 a1 []),()),((),()),()),((a0.1,a0.2.1,a0.2.2.1,a0.2.2.2,()),()),())) (fun y3 =>
 bif (zjR ([]:List Int).length y3.1.1.1.length 8) then
 some (((([]:List Int)++y3.1.1.1),true,()),())
 else none) (fun y3 =>
 none)
 else none
 else
 some ((([]:List Int),false,()),())
 else
 some ((([]:List Int),false,()),())
 else
 some ((([]:List Int),false,()),())
theorem y0x (x:InD yhu):zjx ⟨yr7,60,yDX⟩ Tryz.f159.results.toList ylH yhu ysp x=ynF x.1 x.2.1:=by kernel_rfl
theorem yU7:ConOk Tryz.prog 159 ⟨yhu,ysp,fun x=>ynF x.1 x.2.1⟩:=zj2 (yQN) Tryz.func159 (by kernel_rfl) (by kernel_rfl) Tryz.ntmps159.symm (by decide) (fun x r h=>(y0x x).trans h)
def ymF (a0:dM) (a1:Int):List Int×Bool:=yoV a0 a1
theorem yYs (a0:dM) (a1:Int) (hk:zi2 yhu (a0,a1,())):ynF a0 a1=(fun n=>some ((n.1,n.2,()),())) (ymF a0 a1):=by
 have hb1:a0.1.length * 24≤2 ^ 47:=hk.1.1.1
 have hb2:a0.2.1.length * 32≤2 ^ 47:=hk.1.2.1.1
 have h1: ∀ s,ys6 (yO1 a1 s a0)=some (.inl (yBc (yJK a1 a0.2.1 s))):=fun s =>
  zj4 (step:=ycl) a0.2.1 (0,[]) (fun i s=>yrE a1 s i a0) (fun s w=>bif w.1==a1 then w.2 else s) (fun _ _=>True) (fun s=> .inl (yBc s)) (fun i s hi _=>⟨by
   simp only [ycl,yrE,yrX,zj5 (show (i:Int) < a0.2.1.length by omega),cond_true,wr (show -9223372036854775808≤(i:Int)+1 by omega) (by omega),Int.natCast_add,Int.natCast_one,Int.toNat_natCast,zkm hi,zkn]
   cases ((a0.2.1.getD i (0,[])).1==a1)<;>rfl,trivial⟩) (fun s _=>by simp only [ycl,yrE,yrX,zky (Int.le_refl _),cond_false]) s trivial _ (by show _ < 18446744073709551616; omega)
 unfold ynF ymF yoV yJh
 rw [yru (show a0.1.length≤1152921504606846976 by omega)]
 unfold yar yir
 simp only [h1,zki,List.nil_append]
 cases yw a0
 ·rfl
 cases a0.2.2.1
 ·cases hi:inb a1 a0.1.length
  ·rfl
  ·cases a0.2.2.2.any (· ==a1)
   ·have hs:(yJK a1 a0.2.1 (nth a0.1 a1 [])).length * 8≤2 ^ 47 :=
     yKA (P:=fun s=>s.length * 8≤2 ^ 47) (yzG (P:=fun s:List Int=>s.length * 8≤2 ^ 47) hi fun x hx=>(hk.1.1.2 x hx).1) fun w hw=>(hk.1.2.1.2 w hw).2.1
    simp only [Bool.not_true,Bool.not_false,cond_true,cond_false,Bool.true_and,show zjR ([]:List Int).length (yJK a1 a0.2.1 (nth a0.1 a1 [])).length 8=true from zkb.2 (by rw [List.length_nil]; omega)]
   ·rfl
 ·rfl
def yEv:Con:=⟨yhu,ysp,fun x=>(fun n=>some ((n.1,n.2,()),())) (ymF x.1 x.2.1)⟩
theorem yZs:ConOk Tryz.prog 159 yEv:=(yU7).mono (fun x r hk h=>(yYs x.1 x.2.1 hk).trans h)
end
section
def yLn:Code:=(Tryz.f215.body).getD .skip
def yLU:Env:=zj3 TT [(48,yxz),(141,ydT),(159,yEv)] []
theorem yTO:FrOk Tryz.prog ⟨yLU,36,fun _=>none⟩ yLn:=zj7 yb yc ⟨yJW,yhC,yZs,trivial⟩
def yWj:Nat→Option Seg:=fun _=>none
abbrev yi4:List Par:= [.rd tA,.rd tI,.rd tI]
abbrev yuJ:List OT:= [⟨false,tI,.fz⟩,⟨false,tB,.fz⟩]
def yqB (a0:dA) (a1 a2:Int):Option (ResD yuJ×MutD yi4) :=
 let r1:=yev a0 a1 a2
 bif (!r1) then
 some ((0,false,()),())
 else
 bif (inb a1 a0.2.2.1.length) then
 let r2:=yaG a2
 let r3:=ymF ((nth a0.2.2.1 a1 ([],[],false,[])).1,((nth a0.2.2.1 a1 ([],[],false,[])).2).1,(((nth a0.2.2.1 a1 ([],[],false,[])).2).2)) r2
 bif (!(!r3.2)) then
 bif ((r3.1.length:Int) !=1) then
 some ((0,false,()),())
 else
 bif (inb 0 r3.1.length) then
 some (((nth r3.1 0 0),true,()),())
 else none
 else
 some ((0,false,()),())
 else none
theorem y3w (x:InD yi4):zjx ⟨yLU,36,yWj⟩ Tryz.f215.results.toList yLn yi4 yuJ x=yqB x.1 x.2.1 x.2.2.1:=by kernel_rfl
theorem yZc:ConOk Tryz.prog 215 ⟨yi4,yuJ,fun x=>yqB x.1 x.2.1 x.2.2.1⟩:=zj2 (yTO) Tryz.func215 (by kernel_rfl) (by kernel_rfl) Tryz.ntmps215.symm (by decide) (fun x r h=>(y3w x).trans h)
def yoL (a0:dA) (a1 a2:Int):Int×Bool:=(yBM a0 a1 a2,yq a0 a1 a2)
theorem y1k (a0:dA) (a1 a2:Int) (hk:zi2 yi4 (a0,a1,a2,())):yqB a0 a1 a2=(fun n=>some ((n.1,n.2,()),())) (yoL a0 a1 a2):=by
 unfold yqB yoL yBM yev
 simp only [zks,ye9,ymF]
 rw [show yq a0 a1 a2=(yda a0 a1 a2&&((yfc a0 a1 a2).2&&((yfc a0 a1 a2).1.length:Int)==1)) from rfl]
 rw [show yoV (nth a0.2.2.1 a1 ([],[],false,[])) (dataAt a2)=yfc a0 a1 a2 from rfl]
 cases hl:yda a0 a1 a2
 ·rfl
 ·rw [show inb a1 a0.2.2.1.length=true by unfold yda at hl; exact (Bool.and_eq_true_iff.1 hl).1]
  cases (yfc a0 a1 a2).2
  ·rfl
  ·rw [bne]
   cases h1:(((yfc a0 a1 a2).1.length:Int)==1)
   ·rfl
   ·rw [show inb 0 (yfc a0 a1 a2).1.length=true from zjD.2 (by have:=beq_iff_eq.1 h1; omega)]; rfl
def yHx:Con:=⟨yi4,yuJ,fun x=>(fun n=>some ((n.1,n.2,()),())) (yoL x.1 x.2.1 x.2.2.1)⟩
theorem y2h:ConOk Tryz.prog 215 yHx:=(yZc).mono (fun x r hk h=>(y1k x.1 x.2.1 x.2.2.1 hk).trans h)
end
section
def yfl:Code:=(Tryz.f262.body).getD .skip
def yjo:Env:=zj3 TT [] []
theorem yJB:FrOk Tryz.prog ⟨yjo,23,fun _=>none⟩ yfl:=zj7 yb yc trivial
def ywp:Nat→Option Seg:=fun _=>none
def yap:Shape:=⟨[(0,false,[.br tI]),(1,false,[.int .i64]),(5,false,[.int .i64]),(6,false,[.int .i64])],[],[]⟩
def yc8:Shape:=⟨[(0,false,[.br tI]),(1,false,[.int .i64]),(5,false,[.ci .i64 0]),(6,false,[.ci .i64 0])],[],[]⟩
def yc6:Shape:=⟨[(5,false,[.int .i64])],[],[]⟩
def yf8:Shape:=⟨[],[],[]⟩
abbrev ykN (v0:List Int) (v1 v2 v3:Int):(yap).X:=(((v0,()),(v1,()),(v2,()),(v3,()),()),(),())
abbrev yH7 (v0:List Int) (v1:Int):(yc8).X:=(((v0,()),(v1,()),((),()),((),()),()),(),())
abbrev yH5 (v0:Int):(yc6).X:=(((v0,()),()),(),())
def ykQ (v0:List Int) (v1 v2 v3:Int):Option ((yap).X ⊕ ((yc6).X ⊕ (yf8).X)) :=
 bif (ltb v3 (v0.length:Int)) then
 bif (v3 !=v1) then
 bif (inb v3 v0.length) then
 some (.inl (((v0,()),(v1,()),((IntKind.i64.wrap ((BitVec.ofInt IntKind.i64.bits v2 ^^^ BitVec.ofInt IntKind.i64.bits (nth v0 v3 0)).toNat:Int)),()),((IntKind.i64.wrap (v3+1)),()),()),(),()))
 else none
 else
 some (.inl (((v0,()),(v1,()),(v2,()),((IntKind.i64.wrap (v3+1)),()),()),(),()))
 else
 some (.inr (.inl (((v2,()),()),(),())))
def yay (x:(yap).X):=ykQ x.1.1.1 x.1.2.1.1 x.1.2.2.1.1 x.1.2.2.2.1.1
def ytV (x:(yc8).X):(yap).X:=(((x.1.1.1,()),(x.1.2.1.1,()),(0,()),(0,()),()),(),())
def yv5:Code:=(zdD yfl 64 116).getD .skip
theorem yJe:zdD yfl 64 29=some (.block 0 (.loop yv5)):=by kernel_rfl
theorem yJ4 (x:(yap).X):zg0 ⟨yjo,23,ywp⟩ 0 yv5 116 yap yc6 yf8 x=yay x:=by kernel_rfl
def ytX (x:(yc8).X):Nat:=18446744073709551616
def ylM (x:(yc8).X):Option ((yc6).X ⊕ (yf8).X):=zz yay (ytX x) (ytV x)
def yt2:Seg:=⟨yc8,yc6,yf8,ylM⟩
def ywq:Nat→Option Seg:=fun q=>bif Nat.beq q 29 then some yt2 else ywp q
theorem yJC:FrOk Tryz.prog ⟨yjo,23,ywq⟩ yfl:=(yJB).loop (sg:=yt2) yap ytV (by decide) yJe yay ytX (by decide) (fun _=>rfl) (fun x r _ h=>h) yJ4
abbrev yc3:List Par:= [.rd tL,.rd tI]
abbrev yj6:List OT:= [⟨false,tI,.fz⟩]
def yhk (a0:List Int) (a1:Int):Option (ResD yj6×MutD yc3) :=
 zjZ (ylM (((a0,()),(a1,()),((),()),((),()),()),(),())) (fun y0 =>
 some ((y0.1.1.1,()),())) (fun y0 =>
 none)
theorem yN3 (x:InD yc3):zjx ⟨yjo,23,ywq⟩ Tryz.f262.results.toList yfl yc3 yj6 x=yhk x.1 x.2.1:=by kernel_rfl
theorem yKH:ConOk Tryz.prog 262 ⟨yc3,yj6,fun x=>yhk x.1 x.2.1⟩:=zj2 (yJC) Tryz.func262 (by kernel_rfl) (by kernel_rfl) Tryz.ntmps262.symm (by decide) (fun x r h=>(yN3 x).trans h)
def yfL (a0:List Int) (a1:Int):Int:=yrv a0 a1
theorem yMO (a0:List Int) (a1:Int) (hk:zi2 yc3 (a0,a1,())):yhk a0 a1=(fun n=>some ((n,()),())) (yfL a0 a1):=by
 have hb:a0.length * 8≤2 ^ 47:=hk.1.1
 have h1:=zj9 (step:=yay) a0.length (fun i s=>ykN a0 a1 s i) (fun n (i:Nat)=>bif (i:Int) !=a1 then xw n (nth a0 i 0) else n) (fun _ _=>True) (fun s=> .inl (yH5 s)) (fun i s hi _=>⟨by
  simp only [yay,ykN,ykQ,zj5 (show (i:Int) < a0.length by omega),cond_true,wr (show -9223372036854775808≤(i:Int)+1 by omega) (by omega),Int.natCast_add,Int.natCast_one,Int.toNat_natCast,zkm hi]
  cases ((i:Int) !=a1)<;>rfl,trivial⟩) (fun s _=>by simp only [yay,ykN,ykQ,zky (Int.le_refl _),cond_false]) 0 trivial 18446744073709551616 (by omega)
 rw [y6B]at h1
 unfold yhk yfL
 rw [show ylM (yH7 a0 a1)=_ from h1]; rfl
def yxA:Con:=⟨yc3,yj6,fun x=>(fun n=>some ((n,()),())) (yfL x.1 x.2.1)⟩
theorem yMY:ConOk Tryz.prog 262 yxA:=(yKH).mono (fun x r hk h=>(yMO x.1 x.2.1 hk).trans h)
end
section
def ylK:Code:=(Tryz.f206.body).getD .skip
def ysa:Env:=zj3 TT [(215,yHx),(262,yxA)] []
theorem yQW:FrOk Tryz.prog ⟨ysa,45,fun _=>none⟩ ylK:=zj7 yb yc ⟨y2h,yMY,trivial⟩
def yD2:Nat→Option Seg:=fun _=>none
def yb5:Shape:=⟨[(1,false,[.int .i64]),(2,false,[.ptr 0 0]),(6,false,[.at 800000000]),(7,false,[.int .i64]),(8,false,[.int .i64])],[(0,[.int .i64,.int .i64,.int .i64,.br tM,.int .i64,.int .i64,.int .i64,.int .i64,.int .i64,.br tW,.int .i64,.bool,.bool])],[(800000000,tI,.fz)]⟩
def ygX:Shape:=⟨[(1,false,[.int .i64]),(2,false,[.ptr 0 0]),(6,false,[.at 800000000]),(7,false,[.ci .i64 (-1)]),(8,false,[.ci .i64 0])],[(0,[.int .i64,.int .i64,.int .i64,.br tM,.int .i64,.int .i64,.int .i64,.int .i64,.int .i64,.br tW,.int .i64,.bool,.bool])],[(800000000,tI,.fz)]⟩
def ygL:Shape:=⟨[(6,false,[.at 800000000]),(7,false,[.int .i64])],[],[(800000000,tI,.fz)]⟩
def yg1:Shape:=⟨[(4,false,[.at 800000000]),(5,false,[.bool])],[],[(800000000,tI,.fz)]⟩
abbrev yrH (v0 v1 v2:Int) (v3:dA) (v4:List Int):(yb5).X:=(((v0,()),((),()),((),()),(v1,()),(v2,()),()),((v3.1,v3.2.1.1,v3.2.1.2,v3.2.2.1,v3.2.2.2.1,v3.2.2.2.2.1,v3.2.2.2.2.2.1,v3.2.2.2.2.2.2.1,v3.2.2.2.2.2.2.2.1,v3.2.2.2.2.2.2.2.2.1,v3.2.2.2.2.2.2.2.2.2.1,v3.2.2.2.2.2.2.2.2.2.2.1,v3.2.2.2.2.2.2.2.2.2.2.2,()),()),(v4,()))
abbrev yO4 (v0:Int) (v1:dA) (v2:List Int):(ygX).X:=(((v0,()),((),()),((),()),((),()),((),()),()),((v1.1,v1.2.1.1,v1.2.1.2,v1.2.2.1,v1.2.2.2.1,v1.2.2.2.2.1,v1.2.2.2.2.2.1,v1.2.2.2.2.2.2.1,v1.2.2.2.2.2.2.2.1,v1.2.2.2.2.2.2.2.2.1,v1.2.2.2.2.2.2.2.2.2.1,v1.2.2.2.2.2.2.2.2.2.2.1,v1.2.2.2.2.2.2.2.2.2.2.2,()),()),(v2,()))
abbrev yOS (v0:Int) (v1:List Int):(ygL).X:=((((),()),(v0,()),()),(),(v1,()))
abbrev yO7 (v0:Bool) (v1:List Int):(yg1).X:=((((),()),(v0,()),()),(),(v1,()))
def yr1 (v0 v1 v2 v3 v4 v5:Int) (v6:List dM) (v7 v8 v9 v10 v11:Int) (v12:List dW) (v13:Int) (v14 v15:Bool) (v16:List Int):Option ((yb5).X ⊕ ((ygL).X ⊕ (yg1).X)) :=
 bif (ltb v2 v4) then
 let r2:=yoL (v3,(v4,v5),v6,v7,v8,v9,v10,v11,v12,v13,v14,v15) v2 v0
 bif (!r2.2) then
 bif (leb 0 v1) then
 some (.inr (.inr ((((),()),(false,()),()),(),(([]:List Int),()))))
 else
 bif (zjR v16.length ([r2.1]:List Int).length 8) then
 some (.inl (((v0,()),((),()),((),()),(v2,()),((IntKind.i64.wrap (v2+1)),()),()),((v3,v4,v5,v6,v7,v8,v9,v10,v11,v12,v13,v14,v15,()),()),((v16++([r2.1]:List Int)),())))
 else none
 else
 bif (zjR v16.length ([r2.1]:List Int).length 8) then
 some (.inl (((v0,()),((),()),((),()),(v1,()),((IntKind.i64.wrap (v2+1)),()),()),((v3,v4,v5,v6,v7,v8,v9,v10,v11,v12,v13,v14,v15,()),()),((v16++([r2.1]:List Int)),())))
 else none
 else
 some (.inr (.inl ((((),()),(v1,()),()),(),(v16,()))))
def ycp (x:(yb5).X):=yr1 x.1.1.1 x.1.2.2.2.1.1 x.1.2.2.2.2.1.1 x.2.1.1.1 x.2.1.1.2.1 x.2.1.1.2.2.1 x.2.1.1.2.2.2.1 x.2.1.1.2.2.2.2.1 x.2.1.1.2.2.2.2.2.1 x.2.1.1.2.2.2.2.2.2.1 x.2.1.1.2.2.2.2.2.2.2.1 x.2.1.1.2.2.2.2.2.2.2.2.1 x.2.1.1.2.2.2.2.2.2.2.2.2.1 x.2.1.1.2.2.2.2.2.2.2.2.2.2.1 x.2.1.1.2.2.2.2.2.2.2.2.2.2.2.1 x.2.1.1.2.2.2.2.2.2.2.2.2.2.2.2.1 x.2.2.1
def yAP (x:(ygX).X):(yb5).X:=(((x.1.1.1,()),((),()),((),()),((-1),()),(0,()),()),((x.2.1.1.1,x.2.1.1.2.1,x.2.1.1.2.2.1,x.2.1.1.2.2.2.1,x.2.1.1.2.2.2.2.1,x.2.1.1.2.2.2.2.2.1,x.2.1.1.2.2.2.2.2.2.1,x.2.1.1.2.2.2.2.2.2.2.1,x.2.1.1.2.2.2.2.2.2.2.2.1,x.2.1.1.2.2.2.2.2.2.2.2.2.1,x.2.1.1.2.2.2.2.2.2.2.2.2.2.1,x.2.1.1.2.2.2.2.2.2.2.2.2.2.2.1,x.2.1.1.2.2.2.2.2.2.2.2.2.2.2.2.1,()),()),(x.2.2.1,()))
def yCs:Code:=(zdD ylK 64 244).getD .skip
theorem yQj:zdD ylK 64 61=some (.block 0 (.loop yCs)):=by kernel_rfl
theorem ySe (x:(yb5).X):zg0 ⟨ysa,45,yD2⟩ 0 yCs 244 yb5 ygL yg1 x=ycp x:=by kernel_rfl
def yA4 (x:(ygX).X):Nat:=18446744073709551616
def yta (x:(ygX).X):Option ((ygL).X ⊕ (yg1).X):=zz ycp (yA4 x) (yAP x)
def yBu:Seg:=⟨ygX,ygL,yg1,yta⟩
def yD3:Nat→Option Seg:=fun q=>bif Nat.beq q 61 then some yBu else yD2 q
theorem yQX:FrOk Tryz.prog ⟨ysa,45,yD3⟩ ylK:=(yQW).loop (sg:=yBu) yb5 yAP (by decide) yQj ycp yA4 (by decide) (fun _=>rfl) (fun x r _ h=>h) ySe
abbrev yeZ:List Par:= [.rd tA,.rd tI]
abbrev ymi:List OT:= [⟨false,tL,(.ow .fz)⟩,⟨false,tB,.fz⟩]
def ynK (a0:dA) (a1:Int):Option (ResD ymi×MutD yeZ) :=
 zjZ (yta (((a1,()),((),()),((),()),((),()),((),()),()),((a0.1,a0.2.1.1,a0.2.1.2,a0.2.2.1,a0.2.2.2.1,a0.2.2.2.2.1,a0.2.2.2.2.2.1,a0.2.2.2.2.2.2.1,a0.2.2.2.2.2.2.2.1,a0.2.2.2.2.2.2.2.2.1,a0.2.2.2.2.2.2.2.2.2.1,a0.2.2.2.2.2.2.2.2.2.2.1,a0.2.2.2.2.2.2.2.2.2.2.2,()),()),(([]:List Int),()))) (fun y2 =>
 bif (leb 0 y2.1.2.1.1) then
 let r4:=yfL y2.2.2.1 y2.1.2.1.1
 bif (inb y2.1.2.1.1 y2.2.2.1.length) then
 some (((y2.2.2.1.set (y2.1.2.1.1).toNat r4),true,()),())
 else none
 else
 some ((y2.2.2.1,true,()),())) (fun y2 =>
 some ((y2.2.2.1,y2.1.2.1.1,()),()))
theorem y0E (x:InD yeZ):zjx ⟨ysa,45,yD3⟩ Tryz.f206.results.toList ylK yeZ ymi x=ynK x.1 x.2.1:=by kernel_rfl
theorem yVe:ConOk Tryz.prog 206 ⟨yeZ,ymi,fun x=>ynK x.1 x.2.1⟩:=zj2 (yQX) Tryz.func206 (by kernel_rfl) (by kernel_rfl) Tryz.ntmps206.symm (by decide) (fun x r h=>(y0E x).trans h)
def yhA (a0:dA) (a1:Int):List Int×Bool:=yal a0 a1
def yzQ (a0:dA) (a1:Int):Bool:=yg a0.2.1
theorem yYy (a0:dA) (a1:Int) (hk:zi2 yeZ (a0,a1,())) (hq:yzQ a0 a1=true):ynK a0 a1=(fun n=>some ((n.1,n.2,()),())) (yhA a0 a1):=by
 have hg:=yk.1 hq
 have h1:yta (yO4 a1 a0 [])=some (bif yKs (fun (i:Nat)=>yq a0 i a1) a0.2.1.1.toNat then .inr (yO7 false []) else .inl (yOS (yH (fun (i:Nat)=>yq a0 i a1) a0.2.1.1.toNat) (yae a0 a1 a0.2.1.1.toNat))) :=
  ziO (step:=ycp) (fun i=>yrH a1 (yH (fun (i:Nat)=>yq a0 i a1) i) i a0 (yae a0 a1 i)) a0.2.1.1.toNat (fun i=> !yq a0 i a1&&leb 0 (yH (fun (i:Nat)=>yq a0 i a1) i)) _ _ (fun i hi=>by
   simp only [ycp,yrH,yr1,zj5 (show (i:Int) < a0.2.1.1 by omega),cond_true,wr (show -9223372036854775808≤(i:Int)+1 by omega) (by omega),Int.natCast_add,Int.natCast_one,Int.toNat_natCast,zks,yoL,yH]
   rw [zkb.2 (show ((yae a0 a1 i).length+ [yBM a0 i a1].length) * 8≤140737488355328 by simp only [List.length_cons,List.length_nil,yr2]; omega),yMa]
   cases yq a0 i a1<;>cases leb 0 (yH (fun (i:Nat)=>yq a0 i a1) i)<;>rfl) (by simp only [ycp,yrH,yr1,zky (show a0.2.1.1≤(a0.2.1.1.toNat:Int) by omega),cond_false]) _ (by show _ < 18446744073709551616; omega)
 unfold ynK yhA yal
 rw [h1]
 cases yKs (fun (i:Nat)=>yq a0 i a1) a0.2.1.1.toNat
 ·simp only [cond_false,zki,yfL]
  cases hm:leb 0 (yH (fun (i:Nat)=>yq a0 i a1) a0.2.1.1.toNat)
  ·rfl
  ·obtain ⟨h2,h3⟩:=y2I a0 a1 a0.2.1.1.toNat hm
   rw [h2,h3]; rfl
 ·rfl
def ymO (a0:dA) (a1:Int):Option (ResD ymi×MutD yeZ):=bif yzQ a0 a1 then (fun n=>some ((n.1,n.2,()),())) (yhA a0 a1) else none
theorem yHP (a0:dA) (a1:Int) (h:yzQ a0 a1=true):ymO a0 a1=(fun n=>some ((n.1,n.2,()),())) (yhA a0 a1):=by unfold ymO; rw [h]; rfl
def yvk:Con:=⟨yeZ,ymi,fun x=>ymO x.1 x.2.1⟩
theorem yHM:ConOk Tryz.prog 206 yvk:=(yVe).mono (fun x r hk h=>zkt h (fun hq=>yYy x.1 x.2.1 hk hq))
end
section
def yGi:Code:=(Tryz.f288.body).getD .skip
def yGY:Env:=zj3 TT [(134,yhx),(135,yn)] []
theorem yOH:FrOk Tryz.prog ⟨yGY,14,fun _=>none⟩ yGi:=zj7 yb yc ⟨yoN,yu,trivial⟩
def yP4:Nat→Option Seg:=fun _=>none
abbrev yju:List Par:= [.rd tG,.rd tI]
abbrev yp0:List OT:= [⟨false,tB,.fz⟩]
def ytC (a0:dG) (a1:Int):Option (ResD yp0×MutD yju) :=
 let r1:=yg a0
 bif r1 then
 let r2:=ya a1 0 (IntKind.i64.wrap (a0.2 - 1))
 some ((r2,()),())
 else
 some ((false,()),())
theorem yXf (x:InD yju):zjx ⟨yGY,14,yP4⟩ Tryz.f288.results.toList yGi yju yp0 x=ytC x.1 x.2.1:=by kernel_rfl
theorem yRT:ConOk Tryz.prog 288 ⟨yju,yp0,fun x=>ytC x.1 x.2.1⟩:=zj2 (yOH) Tryz.func288 (by kernel_rfl) (by kernel_rfl) Tryz.ntmps288.symm (by decide) (fun x r h=>(yXf x).trans h)
def ygb (a0:dG) (a1:Int):Bool :=
 let r1:=yg a0
 bif r1 then
 let r2:=ya a1 0 (IntKind.i64.wrap (a0.2 - 1))
 r2
 else
 false
def ytk:Con:=⟨yju,yp0,fun x=>(fun n=>some ((n,()),())) (ygb x.1 x.2.1)⟩
theorem yUQ (a0:dG) (a1:Int):ytC a0 a1=(fun n=>some ((n,()),())) (ygb a0 a1):=zkq (p:=fun (n:Bool)=>((n,()),())) (zkc (p:=fun (n:Bool)=>((n,()),())) rfl rfl)
theorem yFs:ConOk Tryz.prog 288 ytk:=(yRT).mono (fun x r _ h=>(yUQ x.1 x.2.1).trans h)
theorem ySm (g:dG) (s:Int):ygb g s=yP g s:=by
 unfold ygb yP
 cases hg:yg g
 ·rfl
 have:=yk.1 hg
 rw [ybE,wr (by omega) (by omega)]; rfl
end
section
def yGc:Code:=(Tryz.f272.body).getD .skip
def yGS:Env:=zj3 TT [(288,ytk)] []
theorem yOz:FrOk Tryz.prog ⟨yGS,17,fun _=>none⟩ yGc:=zj7 yb yc ⟨yFs,trivial⟩
def yPY:Nat→Option Seg:=fun _=>none
abbrev yf1:List Par:= [.rd tG,.rd tI]
abbrev ypU:List OT:= [⟨false,tI,.fz⟩]
def ylv (a0:dG) (a1:Int):Option (ResD ypU×MutD yf1) :=
 let r1:=ygb a0 a1
 bif (!r1) then
 some (((-1),()),())
 else
 bif (a0.1 !=0) then
 some (((IntKind.i64.wrap ((IntKind.i64.wrap (a0.1 - 1)) - (a1.tmod a0.1))),()),())
 else none
theorem yW8 (x:InD yf1):zjx ⟨yGS,17,yPY⟩ Tryz.f272.results.toList yGc yf1 ypU x=ylv x.1 x.2.1:=by kernel_rfl
theorem yRM:ConOk Tryz.prog 272 ⟨yf1,ypU,fun x=>ylv x.1 x.2.1⟩:=zj2 (yOz) Tryz.func272 (by kernel_rfl) (by kernel_rfl) Tryz.ntmps272.symm (by decide) (fun x r h=>(yW8 x).trans h)
def ydW (a0:dG) (a1:Int):Int:=yh a0 a1
theorem yUJ (a0:dG) (a1:Int) (hk:zi2 yf1 (a0,a1,())):ylv a0 a1=(fun n=>some ((n,()),())) (ydW a0 a1):=by
 unfold ylv ydW
 rw [ySm]
 cases hs:yP a0 a1
 ·unfold yh; rw [hs]; rfl
 ·have h1:=yca.1 hs
  have h2:=yk.1 h1.1
  have h3:=yrL hs
  have h4:yh a0 a1=a0.1 - 1 - a1.tmod a0.1:=by unfold yh; rw [hs]; rfl
  rw [show (a0.1 !=0)=true from bne_iff_ne.2 (by omega),wr (show -9223372036854775808≤a0.1 - 1 by omega) (by omega),wr (show -9223372036854775808≤a0.1 - 1 - a1.tmod a0.1 by omega) (by omega),h4]; rfl
def ytf:Con:=⟨yf1,ypU,fun x=>(fun n=>some ((n,()),())) (ydW x.1 x.2.1)⟩
theorem yFn:ConOk Tryz.prog 272 ytf:=(yRM).mono (fun x r hk h=>(yUJ x.1 x.2.1 hk).trans h)
end
end
end Go.Tf
