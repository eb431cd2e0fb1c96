/- Functions of the program, and what they come to. -/
import Derived.Test.YtolmneojjjpnjaaGreatBuiltF1
namespace Go.Tf
noncomputable section
open Go.Proofs Go.Proofs.Tryz IntKind
set_option synthInstance.maxHeartbeats 400000
set_option synthInstance.maxSize 10000
set_option linter.unusedVariables false
set_option linter.unusedSimpArgs false
set_option maxRecDepth 100000
def ynx:Code:=(f151.body).getD .skip
def yuS:Env:=zkw TT [(160,yh3),(178,yqI)] []
theorem yJn:FrOk prog ⟨yuS,51,fun _=>none⟩ ynx:=zkA mixed ye ⟨ynZ,yCU,trivial⟩
def yAp:Nat→Option Seg:=fun _=>none
def yca:Shape:=⟨[(1,false,[.ptr 0 0]),(3,false,[.int .i64])],[(0,[.int .i64,.int .i64,.int .i64,.br tM,.int .i64,.int .i64,.int .i64,.int .i64,.int .i64,.br tW,.int .i64,.bool,.bool])],[]⟩
def yfo:Shape:=⟨[(1,false,[.ptr 0 0]),(3,false,[.ci .i64 0])],[(0,[.int .i64,.int .i64,.int .i64,.br tM,.int .i64,.int .i64,.int .i64,.int .i64,.int .i64,.br tW,.int .i64,.bool,.bool])],[]⟩
def yfe:Shape:=⟨[(1,false,[.ptr 0 0])],[(0,[.int .i64,.int .i64,.int .i64,.br tM,.int .i64,.int .i64,.int .i64,.int .i64,.int .i64,.br tW,.int .i64,.bool,.bool])],[]⟩
def yfs:Shape:=⟨[(2,false,[.bool])],[],[]⟩
abbrev ymR (v0:Int) (v1:dA):(yca).X:=((((),()),(v0,()),()),((v1.1,v1.2.1.1,v1.2.1.2,v1.2.2.1,v1.2.2.2.1,v1.2.2.2.2.1,v1.2.2.2.2.2.1,v1.2.2.2.2.2.2.1,v1.2.2.2.2.2.2.2.1,v1.2.2.2.2.2.2.2.2.1,v1.2.2.2.2.2.2.2.2.2.1,v1.2.2.2.2.2.2.2.2.2.2.1,v1.2.2.2.2.2.2.2.2.2.2.2,()),()),())
abbrev yHi (v0:dA):(yfo).X:=((((),()),((),()),()),((v0.1,v0.2.1.1,v0.2.1.2,v0.2.2.1,v0.2.2.2.1,v0.2.2.2.2.1,v0.2.2.2.2.2.1,v0.2.2.2.2.2.2.1,v0.2.2.2.2.2.2.2.1,v0.2.2.2.2.2.2.2.2.1,v0.2.2.2.2.2.2.2.2.2.1,v0.2.2.2.2.2.2.2.2.2.2.1,v0.2.2.2.2.2.2.2.2.2.2.2,()),()),())
abbrev yHb (v0:dA):(yfe).X:=((((),()),()),((v0.1,v0.2.1.1,v0.2.1.2,v0.2.2.1,v0.2.2.2.1,v0.2.2.2.2.1,v0.2.2.2.2.2.1,v0.2.2.2.2.2.2.1,v0.2.2.2.2.2.2.2.1,v0.2.2.2.2.2.2.2.2.1,v0.2.2.2.2.2.2.2.2.2.1,v0.2.2.2.2.2.2.2.2.2.2.1,v0.2.2.2.2.2.2.2.2.2.2.2,()),()),())
abbrev yHm (v0:Bool):(yfs).X:=(((v0,()),()),(),())
def yni (v0 v1 v2 v3:Int) (v4:List dM) (v5 v6 v7 v8 v9:Int) (v10:List dW) (v11:Int) (v12 v13:Bool):Option ((yca).X ⊕ ((yfe).X ⊕ (yfs).X)) :=bif(ltb v0 (v4.length:Int))then bif(inb v0 v4.length)then let r3:=ybf ((nth v4 v0 ([],[],false,[])).1,((nth v4 v0 ([],[],false,[])).2).1,(((nth v4 v0 ([],[],false,[])).2).2));bif(!(!r3))then let r4:=yeq (v2,v3);bif(!((((nth v4 v0 ([],[],false,[])).1).length:Int) !=r4))then bif(((nth v4 v0 ([],[],false,[])).2).2).1 then bif(v0 !=v5)then bif(!v13)then some (.inr (.inr (((false,()),()),(),()))) else some (.inl ((((),()),((i64.wrap (v0+1)),()),()),((v1,v2,v3,v4,v5,v6,v7,v8,v9,v10,v11,v12,v13,()),()),())) else some (.inl ((((),()),((i64.wrap (v0+1)),()),()),((v1,v2,v3,v4,v5,v6,v7,v8,v9,v10,v11,v12,v13,()),()),())) else some (.inl ((((),()),((i64.wrap (v0+1)),()),()),((v1,v2,v3,v4,v5,v6,v7,v8,v9,v10,v11,v12,v13,()),()),())) else some (.inr (.inr (((false,()),()),(),()))) else some (.inr (.inr (((false,()),()),(),()))) else none else some (.inr (.inl ((((),()),()),((v1,v2,v3,v4,v5,v6,v7,v8,v9,v10,v11,v12,v13,()),()),())))
def yct (x:(yca).X):=yni x.1.2.1.1 x.2.1.1.1 x.2.1.1.2.1 x.2.1.1.2.2.1 x.2.1.1.2.2.2.1 x.2.1.1.2.2.2.2.1 x.2.1.1.2.2.2.2.2.1 x.2.1.1.2.2.2.2.2.2.1 x.2.1.1.2.2.2.2.2.2.2.1 x.2.1.1.2.2.2.2.2.2.2.2.1 x.2.1.1.2.2.2.2.2.2.2.2.2.1 x.2.1.1.2.2.2.2.2.2.2.2.2.2.1 x.2.1.1.2.2.2.2.2.2.2.2.2.2.2.1 x.2.1.1.2.2.2.2.2.2.2.2.2.2.2.2.1
def ywI (x:(yfo).X):(yca).X:=((((),()),(0,()),()),((x.2.1.1.1,x.2.1.1.2.1,x.2.1.1.2.2.1,x.2.1.1.2.2.2.1,x.2.1.1.2.2.2.2.1,x.2.1.1.2.2.2.2.2.1,x.2.1.1.2.2.2.2.2.2.1,x.2.1.1.2.2.2.2.2.2.2.1,x.2.1.1.2.2.2.2.2.2.2.2.1,x.2.1.1.2.2.2.2.2.2.2.2.2.1,x.2.1.1.2.2.2.2.2.2.2.2.2.2.1,x.2.1.1.2.2.2.2.2.2.2.2.2.2.2.1,x.2.1.1.2.2.2.2.2.2.2.2.2.2.2.2.1,()),()),())
def yyx:Code:=(zd7 ynx 64 52).getD .skip
theorem yII:zd7 ynx 64 13=some (.block 0 (.loop yyx)):=by kernel_rfl
theorem yLh (x:(yca).X):zhu ⟨yuS,51,yAp⟩ 0 yyx 52 yca yfe yfs x=yct x:=by kernel_rfl
def ywR (x:(yfo).X):Nat:=18446744073709551616
def yoa (x:(yfo).X):Option ((yfe).X ⊕ (yfs).X):=zF yct (ywR x) (ywI x)
def yxb:Seg:=⟨yfo,yfe,yfs,yoa⟩
def yLE:Nat→Option Seg:=fun q=>bif Nat.beq q 13 then some yxb else yAp q
theorem yJo:FrOk prog ⟨yuS,51,yLE⟩ ynx:=(yJn).loop (sg:=yxb) yca ywI (by decide) yII yct ywR (by decide) (fun _=>rfl) (fun x r _ h=>h) yLh
abbrev yi7:List Par:= [.rd tA]
abbrev ynQ:List OT:= [⟨false,tB,.fz⟩]
def yrh (a0:dA):Option (zaY ynQ×zak yi7) :=zkt (yoa ((((),()),((),()),()),((a0.1,a0.2.1.1,a0.2.1.2,a0.2.2.1,a0.2.2.2.1,a0.2.2.2.2.1,a0.2.2.2.2.2.1,a0.2.2.2.2.2.2.1,a0.2.2.2.2.2.2.2.1,a0.2.2.2.2.2.2.2.2.1,a0.2.2.2.2.2.2.2.2.2.1,a0.2.2.2.2.2.2.2.2.2.2.1,a0.2.2.2.2.2.2.2.2.2.2.2,()),()),())) (fun y4 =>some ((((y4.2.1.1.2.2.2.1.length:Int)==y4.2.1.1.2.1),()),())) (fun y4 =>some ((y4.1.1.1,()),()))
theorem yN7:ConOk prog 151 ⟨yi7,ynQ,fun x=>yrh x.1⟩:=zkI (yJo) func151 ntmps151.symm fun x=>by kernel_rfl
def yjr (a0:dA):Bool:=yjf a0
def yvV (a0:dA):Bool:=yd a0.2.1
theorem yQr (a0:dA) (hk:zjx yi7 (a0,())) (hq:yvV a0=true):yrh a0=(fun n=>some ((n,()),())) (yjr a0):=by
 have hb:a0.2.2.1.length*80≤2^47:=hk.1.2.2.1.1;have hg:=yl.1 hq
 have h1:yoa (yHi a0)=some (bif(List.range a0.2.2.1.length).any (yfx a0)then .inr (yHm false)else .inl (yHb a0)) :=
  zji (step:=yct) (fun i=>ymR i a0) a0.2.2.1.length (yfx a0) _ _ (fun i hi=>by
   simp only[yct,ymR,yni,zky (show(i:Int)<a0.2.2.1.length by omega),cond_true,wq ((i:Int)+1) (by omega) (by omega),Int.natCast_add,Int.natCast_one,Int.toNat_natCast,zkR hi,zkX,ybf,yfx,yeq,wq (6+a0.2.1.2) (by omega) (by omega),yf]
   cases yD (nth a0.2.2.1 i ([],[],false,[]))<;>cases(((nth a0.2.2.1 i ([],[],false,[])).1.length:Int) !=6+a0.2.1.2)<;>cases(nth a0.2.2.1 i ([],[],false,[])).2.2.1<;>cases((i:Int) !=a0.2.2.2.1)<;>cases a0.2.2.2.2.2.2.2.2.2.2.2<;>rfl) (by simp only[yct,ymR,yni,zk3 (Int.le_refl _),cond_false]) _ (by show _<18446744073709551616; omega)
 unfold yrh yjr yjf;rw[h1];cases(List.range a0.2.2.1.length).any (yfx a0)<;>rfl
def ynW (a0:dA):Option (zaY ynQ×zak yi7):=bif yvV a0 then(fun n=>some ((n,()),())) (yjr a0)else none
theorem yRk (a0:dA) (h:yvV a0=true):ynW a0=(fun n=>some ((n,()),())) (yjr a0):=by unfold ynW; rw[h]; rfl
def yAZ:Con:=⟨yi7,ynQ,fun x=>ynW x.1⟩
theorem yRe:ConOk prog 151 yAZ:=(yN7).mono (fun x r hk h=>zkY h (fun hq=>yQr x.1 hk hq))
def ylQ:Code:=(f152.body).getD .skip
def yse:Env:=zkw TT [(82,yK),(200,yfv)] []
theorem yG1:FrOk prog ⟨yse,57,fun _=>none⟩ ylQ:=zkA mixed ye ⟨yU,ykJ,trivial⟩
def yxH:Nat→Option Seg:=fun _=>none
def ybB:Shape:=⟨[(1,false,[.ptr 0 0]),(3,false,[.int .i64])],[(0,[.int .i64,.int .i64,.int .i64,.br tM,.int .i64,.int .i64,.int .i64,.int .i64,.int .i64,.br tW,.int .i64,.bool,.bool])],[]⟩
def yeK:Shape:=⟨[(1,false,[.ptr 0 0]),(3,false,[.ci .i64 0])],[(0,[.int .i64,.int .i64,.int .i64,.br tM,.int .i64,.int .i64,.int .i64,.int .i64,.int .i64,.br tW,.int .i64,.bool,.bool])],[]⟩
def yeB:Shape:=⟨[],[],[]⟩
def yeN:Shape:=⟨[(2,false,[.bool])],[],[]⟩
abbrev yli (v0:Int) (v1:dA):(ybB).X:=((((),()),(v0,()),()),((v1.1,v1.2.1.1,v1.2.1.2,v1.2.2.1,v1.2.2.2.1,v1.2.2.2.2.1,v1.2.2.2.2.2.1,v1.2.2.2.2.2.2.1,v1.2.2.2.2.2.2.2.1,v1.2.2.2.2.2.2.2.2.1,v1.2.2.2.2.2.2.2.2.2.1,v1.2.2.2.2.2.2.2.2.2.2.1,v1.2.2.2.2.2.2.2.2.2.2.2,()),()),())
abbrev yFu (v0:dA):(yeK).X:=((((),()),((),()),()),((v0.1,v0.2.1.1,v0.2.1.2,v0.2.2.1,v0.2.2.2.1,v0.2.2.2.2.1,v0.2.2.2.2.2.1,v0.2.2.2.2.2.2.1,v0.2.2.2.2.2.2.2.1,v0.2.2.2.2.2.2.2.2.1,v0.2.2.2.2.2.2.2.2.2.1,v0.2.2.2.2.2.2.2.2.2.2.1,v0.2.2.2.2.2.2.2.2.2.2.2,()),()),())
abbrev yFl  :(yeB).X:=((),(),())
abbrev yFx (v0:Bool):(yeN).X:=(((v0,()),()),(),())
def ylF (v0 v1 v2 v3:Int) (v4:List dM) (v5 v6 v7 v8 v9:Int) (v10:List dW) (v11:Int) (v12 v13:Bool):Option ((ybB).X ⊕ ((yeB).X ⊕ (yeN).X)) :=bif(ltb v0 (v10.length:Int))then bif(inb v0 v10.length)then let r3:=yb ((nth v10 v0 (0,[])).1) 0 (i64.wrap (v3-1));bif(!(!r3))then bif(!((((nth v10 v0 (0,[])).2).length:Int) !=(i64.wrap (v2-1))))then let r4:=yaj ((nth v10 v0 (0,[])).2);bif(!(!r4))then bif(ltb 0 v0)then bif(inb (i64.wrap (v0-1)) v10.length)then bif(leb ((nth v10 v0 (0,[])).1) ((nth v10 (i64.wrap (v0-1)) (0,[])).1))then some (.inr (.inr (((false,()),()),(),()))) else some (.inl ((((),()),((i64.wrap (v0+1)),()),()),((v1,v2,v3,v4,v5,v6,v7,v8,v9,v10,v11,v12,v13,()),()),())) else none else some (.inl ((((),()),((i64.wrap (v0+1)),()),()),((v1,v2,v3,v4,v5,v6,v7,v8,v9,v10,v11,v12,v13,()),()),())) else some (.inr (.inr (((false,()),()),(),()))) else some (.inr (.inr (((false,()),()),(),()))) else some (.inr (.inr (((false,()),()),(),()))) else none else some (.inr (.inl ((),(),())))
def ybU (x:(ybB).X):=ylF x.1.2.1.1 x.2.1.1.1 x.2.1.1.2.1 x.2.1.1.2.2.1 x.2.1.1.2.2.2.1 x.2.1.1.2.2.2.2.1 x.2.1.1.2.2.2.2.2.1 x.2.1.1.2.2.2.2.2.2.1 x.2.1.1.2.2.2.2.2.2.2.1 x.2.1.1.2.2.2.2.2.2.2.2.1 x.2.1.1.2.2.2.2.2.2.2.2.2.1 x.2.1.1.2.2.2.2.2.2.2.2.2.2.1 x.2.1.1.2.2.2.2.2.2.2.2.2.2.2.1 x.2.1.1.2.2.2.2.2.2.2.2.2.2.2.2.1
def yub (x:(yeK).X):(ybB).X:=((((),()),(0,()),()),((x.2.1.1.1,x.2.1.1.2.1,x.2.1.1.2.2.1,x.2.1.1.2.2.2.1,x.2.1.1.2.2.2.2.1,x.2.1.1.2.2.2.2.2.1,x.2.1.1.2.2.2.2.2.2.1,x.2.1.1.2.2.2.2.2.2.2.1,x.2.1.1.2.2.2.2.2.2.2.2.1,x.2.1.1.2.2.2.2.2.2.2.2.2.1,x.2.1.1.2.2.2.2.2.2.2.2.2.2.1,x.2.1.1.2.2.2.2.2.2.2.2.2.2.2.1,x.2.1.1.2.2.2.2.2.2.2.2.2.2.2.2.1,()),()),())
def ywj:Code:=(zd7 ylQ 64 52).getD .skip
theorem yGw:zd7 ylQ 64 13=some (.block 0 (.loop ywj)):=by kernel_rfl
theorem yH4 (x:(ybB).X):zhu ⟨yse,57,yxH⟩ 0 ywj 52 ybB yeB yeN x=ybU x:=by kernel_rfl
def yuo (x:(yeK).X):Nat:=18446744073709551616
def ymC (x:(yeK).X):Option ((yeB).X ⊕ (yeN).X):=zF ybU (yuo x) (yub x)
def yuL:Seg:=⟨yeK,yeB,yeN,ymC⟩
def yIu:Nat→Option Seg:=fun q=>bif Nat.beq q 13 then some yuL else yxH q
theorem yG2:FrOk prog ⟨yse,57,yIu⟩ ylQ:=(yG1).loop (sg:=yuL) ybB yub (by decide) yGw ybU yuo (by decide) (fun _=>rfl) (fun x r _ h=>h) yH4
abbrev yhK:List Par:= [.rd tA]
abbrev yl4:List OT:= [⟨false,tB,.fz⟩]
def yoN (a0:dA):Option (zaY yl4×zak yhK) :=zkt (ymC ((((),()),((),()),()),((a0.1,a0.2.1.1,a0.2.1.2,a0.2.2.1,a0.2.2.2.1,a0.2.2.2.2.1,a0.2.2.2.2.2.1,a0.2.2.2.2.2.2.1,a0.2.2.2.2.2.2.2.1,a0.2.2.2.2.2.2.2.2.1,a0.2.2.2.2.2.2.2.2.2.1,a0.2.2.2.2.2.2.2.2.2.2.1,a0.2.2.2.2.2.2.2.2.2.2.2,()),()),())) (fun y4 =>some ((true,()),())) (fun y4 =>some ((y4.1.1.1,()),()))
theorem yKO:ConOk prog 152 ⟨yhK,yl4,fun x=>yoN x.1⟩:=zkI (yG2) func152 ntmps152.symm fun x=>by kernel_rfl
def yif (a0:dA):Bool:=yaH a0.2.1 a0.2.2.2.2.2.2.2.2.1
def ys9 (a0:dA):Bool:=yd a0.2.1
theorem yv0 (l:List Int):yaj l=l.all isW:=by
 unfold yaj;rw[show yaA=isW from funext fun x=>by unfold yaA; rw[ycN]; rfl]
theorem yNz (a0:dA) (hk:zjx yhK (a0,())) (hq:ys9 a0=true):yoN a0=(fun n=>some ((n,()),())) (yif a0):=by
 have hb:a0.2.2.2.2.2.2.2.2.1.length*32≤2^47:=hk.1.2.2.2.2.2.2.2.2.1.1;have hg:=yl.1 hq
 have h1:ymC (yFu a0)=some (bif(List.range a0.2.2.2.2.2.2.2.2.1.length).any (yfW a0.2.1 a0.2.2.2.2.2.2.2.2.1)then .inr (yFx false)else .inl yFl) :=
  zji (step:=ybU) (fun i=>yli i a0) a0.2.2.2.2.2.2.2.2.1.length (yfW a0.2.1 a0.2.2.2.2.2.2.2.2.1) _ _ (fun i hi=>by
   simp only[ybU,yli,ylF,zky (show(i:Int)<a0.2.2.2.2.2.2.2.2.1.length by omega),cond_true,wq ((i:Int)+1) (by omega) (by omega),Int.natCast_add,Int.natCast_one,Int.toNat_natCast,zkR hi,ycN,yv0,wq (a0.2.1.2-1) (by omega) (by omega),wq (a0.2.1.1-1) (by omega) (by omega),yfW];rcases Nat.eq_zero_or_pos i with rfl | h0
   ·cases(leb 0 (nth a0.2.2.2.2.2.2.2.2.1 ((0:Nat):Int) (0,[])).1&&leb (nth a0.2.2.2.2.2.2.2.2.1 ((0:Nat):Int) (0,[])).1 (a0.2.1.2-1))<;>cases(((nth a0.2.2.2.2.2.2.2.2.1 ((0:Nat):Int) (0,[])).2.length:Int) !=a0.2.1.1-1)<;>cases((nth a0.2.2.2.2.2.2.2.2.1 ((0:Nat):Int) (0,[])).2.all isW)<;>rfl
   ·rw[show i64.wrap ((i:Int)-1)=((i-1:Nat):Int)by rw[wr (by omega) (by omega)]; omega,zkR (show i-1<a0.2.2.2.2.2.2.2.2.1.length by omega),zky (show(0:Int)<i by omega),decide_eq_true h0]
    cases(leb 0 (nth a0.2.2.2.2.2.2.2.2.1 (i:Int) (0,[])).1&&leb (nth a0.2.2.2.2.2.2.2.2.1 (i:Int) (0,[])).1 (a0.2.1.2-1))<;>cases(((nth a0.2.2.2.2.2.2.2.2.1 (i:Int) (0,[])).2.length:Int) !=a0.2.1.1-1)<;>cases((nth a0.2.2.2.2.2.2.2.2.1 (i:Int) (0,[])).2.all isW)<;>cases leb (nth a0.2.2.2.2.2.2.2.2.1 (i:Int) (0,[])).1 (nth a0.2.2.2.2.2.2.2.2.1 ((i-1:Nat):Int) (0,[])).1<;>rfl) (by simp only[ybU,yli,ylF,zk3 (Int.le_refl _),cond_false]) _ (by show _<18446744073709551616; omega)
 unfold yoN yif yaH;rw[h1];cases(List.range a0.2.2.2.2.2.2.2.2.1.length).any (yfW a0.2.1 a0.2.2.2.2.2.2.2.2.1)<;>rfl
def ymk (a0:dA):Option (zaY yl4×zak yhK):=bif ys9 a0 then(fun n=>some ((n,()),())) (yif a0)else none
theorem yOA (a0:dA) (h:ys9 a0=true):ymk a0=(fun n=>some ((n,()),())) (yif a0):=by unfold ymk; rw[h]; rfl
def yyO:Con:=⟨yhK,yl4,fun x=>ymk x.1⟩
theorem yOt:ConOk prog 152 yyO:=(yKO).mono (fun x r hk h=>zkY h (fun hq=>yNz x.1 hk hq))
def yTT:Code:=(f78.body).getD .skip
def yT6:Env:=zkw TT [(82,yK),(150,yeZ),(151,yAZ),(152,yyO)] []
theorem yMw:FrOk prog ⟨yT6,78,fun _=>none⟩ yTT:=zkA mixed ye ⟨yU,yju,yRe,yOt,trivial⟩
abbrev yp1:List Par:= [.rd tA]
abbrev yya:List OT:= [⟨false,tB,.fz⟩]
def ytj (a0:dA):Option (zaY yya×zak yp1) :=let r1:=yd a0.2.1;bif(!(!r1))then let r2:=yb a0.1 1 60000;bif(!(!r2))then bnd (ynW a0) fun r3 =>bif(!(!r3.1.1))then bnd (ymk a0) fun r4 =>bif(!r4.1.1)then some ((false,()),()) else let r5:=yb a0.2.2.2.1 (-1) (i64.wrap (a0.2.1.1-1));bif(!(!r5))then let r6:=yb a0.2.2.2.2.1 0 a0.2.1.2;bif(!(!r6))then bif(a0.2.2.2.1==(-1))then bif(a0.2.2.2.2.1 !=0)then some ((false,()),()) else let r7:=yb a0.2.2.2.2.2.2.1 0 60000;bif r7 then let r8:=yb a0.2.2.2.2.2.1 a0.2.2.2.2.2.2.1 60000;bif r8 then bif(leb a0.2.2.2.2.2.1 (i64.wrap (a0.2.2.2.2.2.2.1+4)))then let r9:=yb a0.2.2.2.2.2.2.2.1 0 60000;bif r9 then let r10:=yb a0.2.2.2.2.2.2.2.2.2.1 (-1) 1000;some ((r10,()),()) else some ((false,()),()) else some ((false,()),()) else some ((false,()),()) else some ((false,()),()) else let r11:=yb a0.2.2.2.2.2.2.1 0 60000;bif r11 then let r12:=yb a0.2.2.2.2.2.1 a0.2.2.2.2.2.2.1 60000;bif r12 then bif(leb a0.2.2.2.2.2.1 (i64.wrap (a0.2.2.2.2.2.2.1+4)))then let r13:=yb a0.2.2.2.2.2.2.2.1 0 60000;bif r13 then let r14:=yb a0.2.2.2.2.2.2.2.2.2.1 (-1) 1000;some ((r14,()),()) else some ((false,()),()) else some ((false,()),()) else some ((false,()),()) else some ((false,()),()) else some ((false,()),()) else some ((false,()),()) else some ((false,()),()) else some ((false,()),()) else some ((false,()),())
theorem yQJ:ConOk prog 78 ⟨yp1,yya,fun x=>ytj x.1⟩:=zkI (yMw) func78 ntmps78.symm fun x=>by kernel_rfl
def yh9 (a0:dA):Bool:=yR a0
theorem yS7 (a0:dA) (hk:zjx yp1 (a0,())):ytj a0=(fun n=>some ((n,()),())) (yh9 a0):=by
 unfold ytj yh9 yR;simp only[ycN];cases hg:yd a0.2.1
 ·rfl
 have hg2:=yl.1 hg;rw[yRk a0 hg,yOA a0 hg,wq (a0.2.1.1-1) (by omega) (by omega)];simp only[zkH,yjr,yif,Bool.not_not,cond_true];cases(leb 1 a0.1&&leb a0.1 60000)
 ·rfl
 cases yjf a0
 ·rfl
 cases yaH a0.2.1 a0.2.2.2.2.2.2.2.2.1
 ·rfl
 cases(leb (-1) a0.2.2.2.1&&leb a0.2.2.2.1 (a0.2.1.1-1))
 ·rfl
 cases(leb 0 a0.2.2.2.2.1&&leb a0.2.2.2.2.1 a0.2.1.2)
 ·rfl
 have ht:(leb 0 a0.2.2.2.2.2.2.1&&leb a0.2.2.2.2.2.2.1 60000)=true→i64.wrap (a0.2.2.2.2.2.2.1+4)=a0.2.2.2.2.2.2.1+4:=fun h=>by
  rw[Bool.and_eq_true,zj7,zj7]at h;exact wr (by omega) (by omega)
 cases hT:(leb 0 a0.2.2.2.2.2.2.1&&leb a0.2.2.2.2.2.2.1 60000)
 ·cases(a0.2.2.2.1== -1)<;>cases(a0.2.2.2.2.1 !=0)<;>rfl
 rw[ht hT];cases(leb a0.2.2.2.2.2.2.1 a0.2.2.2.2.2.1&&leb a0.2.2.2.2.2.1 60000)
 ·cases(a0.2.2.2.1== -1)<;>cases(a0.2.2.2.2.1 !=0)<;>rfl
 cases leb a0.2.2.2.2.2.1 (a0.2.2.2.2.2.2.1+4)
 ·cases(a0.2.2.2.1== -1)<;>cases(a0.2.2.2.2.1 !=0)<;>rfl
 cases(leb 0 a0.2.2.2.2.2.2.2.1&&leb a0.2.2.2.2.2.2.2.1 60000)<;>cases(a0.2.2.2.1== -1)<;>cases(a0.2.2.2.2.1 !=0)<;>rfl
def yCr:Con:=⟨yp1,yya,fun x=>(fun n=>some ((n,()),())) (yh9 x.1)⟩
theorem yTs:ConOk prog 78 yCr:=(yQJ).mono (fun x r hk h=>(yS7 x.1 hk).trans h)
def ySj:Code:=(f91.body).getD .skip
def ySM:Env:=zkw TT [] []
theorem yJd:FrOk prog ⟨ySM,8,fun _=>none⟩ ySj:=zkA mixed ye trivial
abbrev yu7:List Par:= [.rd tI]
abbrev yvy:List OT:= [⟨false,tI,.fz⟩]
def yBt (a0:Int):Option (zaY yvy×zak yu7) :=bif(ltb a0 0)then some (((-1),()),()) else some (((i64.wrap (2+(a0.tmod 4))),()),())
theorem yN0:ConOk prog 91 ⟨yu7,yvy,fun x=>yBt x.1⟩:=zkI (yJd) func91 ntmps91.symm fun x=>by kernel_rfl
def yq (a0:Int):Int :=bif(ltb a0 0)then (-1) else (i64.wrap (2+(a0.tmod 4)))
def yAT:Con:=⟨yu7,yvy,fun x=>(fun n=>some ((n,()),())) (yq x.1)⟩
theorem yQm (a0:Int):yBt a0=(fun n=>some ((n,()),())) (yq a0):=zkV (p:=fun(n:Int)=>((n,()),())) (zkG (p:=fun(n:Int)=>((n,()),())) rfl rfl)
theorem yQ8:ConOk prog 91 yAT:=(yN0).mono (fun x r _ h=>(yQm x.1).trans h)
def yO5:Code:=(f143.body).getD .skip
def yPy:Env:=zkw TT [(76,ykC)] [(12288,(.pr .fz .fz))]
theorem yGS:FrOk prog ⟨yPy,10,fun _=>none⟩ yO5:=zkA mixed ye ⟨ys4,trivial⟩
abbrev ysq:List Par:= [.rd tM]
abbrev ysH:List OT:= [⟨false,tM,(.pr (.ow .fz) (.pr (.ow (.pr .fz .fz)) (.pr .fz (.ow .fz))))⟩]
def yzS (a0:dM):Option (zaY ysH×zak ysq) :=let r1:=ybi a0;some (((r1.1,([]:List dW),true,r1.2.2.2),()),())
theorem yKH:ConOk prog 143 ⟨ysq,ysH,fun x=>yzS x.1⟩:=zkI (yGS) func143 ntmps143.symm fun x=>by kernel_rfl
def ymg (a0:dM):dM :=let r1:=ybi a0;(r1.1,([]:List dW),true,r1.2.2.2)
def yyJ:Con:=⟨ysq,ysH,fun x=>(fun n=>some ((n,()),())) (ymg x.1)⟩
theorem yNt (a0:dM):yzS a0=(fun n=>some ((n,()),())) (ymg a0):=zkV (p:=fun(n:dM)=>((n,()),())) rfl
theorem yOo:ConOk prog 143 yyJ:=(yKH).mono (fun x r _ h=>(yNt x.1).trans h)
def yO8:Code:=(f108.body).getD .skip
def yPB:Env:=zkw TT [(143,yyJ),(174,yqJ)] []
theorem yGX:FrOk prog ⟨yPB,62,fun _=>none⟩ yO8:=zkA mixed ye ⟨yOo,yCV,trivial⟩
abbrev yhJ:List Par:= [.pt tA (.pr .fz (.pr (.pr .fz .fz) (.pr (.ow (.pr (.ow .fz) (.pr (.ow (.pr .fz .fz)) (.pr .fz (.ow .fz))))) (.pr .fz (.pr .fz (.pr .fz (.pr .fz (.pr .fz (.pr (.ow (.pr .fz .fz)) (.pr .fz (.pr .fz .fz))))))))))),.rd tI]
abbrev yl3:List OT:= []
def yoL (a0:dA) (a1:Int):Option (zaY yl3×zak yhJ) :=bif(inb a1 a0.2.2.1.length)then let r1:=ymg ((nth a0.2.2.1 a1 ([],[],false,[])).1,((nth a0.2.2.1 a1 ([],[],false,[])).2).1,(((nth a0.2.2.1 a1 ([],[],false,[])).2).2));bif(inb a1 a0.2.2.1.length)then bif(!(a0.2.2.2.1==(-1)))then bif(a0.2.2.2.1==a1)then bif(!a0.2.2.2.2.2.2.2.2.2.2.1)then bif(!a0.2.2.2.2.2.2.2.2.2.2.2)then bif(ltb a0.2.2.2.2.2.2.2.1 60000)then let r2:=yb2 (a0.1,a0.2.1,(a0.2.2.1.set (a1).toNat r1),a1,0,a0.2.2.2.2.2);some ((),(r2,())) else some ((),((a0.1,a0.2.1,(a0.2.2.1.set (a1).toNat r1),a1,0,a0.2.2.2.2.2),())) else some ((),((a0.1,a0.2.1,(a0.2.2.1.set (a1).toNat r1),a1,0,a0.2.2.2.2.2),())) else some ((),((a0.1,a0.2.1,(a0.2.2.1.set (a1).toNat r1),a1,0,a0.2.2.2.2.2),())) else bif(!a0.2.2.2.2.2.2.2.2.2.2.1)then some ((),((a0.1,a0.2.1,(a0.2.2.1.set (a1).toNat r1),a0.2.2.2.1,a0.2.2.2.2.1,a0.2.2.2.2.2.1,a0.2.2.2.2.2.2.1,a0.2.2.2.2.2.2.2.1,a0.2.2.2.2.2.2.2.2.1,a0.2.2.2.2.2.2.2.2.2.1,a0.2.2.2.2.2.2.2.2.2.2.1,true),())) else some ((),((a0.1,a0.2.1,(a0.2.2.1.set (a1).toNat r1),a0.2.2.2.1,a0.2.2.2.2.1,a0.2.2.2.2.2.1,a0.2.2.2.2.2.2.1,a0.2.2.2.2.2.2.2.1,a0.2.2.2.2.2.2.2.2.1,a0.2.2.2.2.2.2.2.2.2.1,a0.2.2.2.2.2.2.2.2.2.2.1,true),())) else bif(!a0.2.2.2.2.2.2.2.2.2.2.1)then bif(!a0.2.2.2.2.2.2.2.2.2.2.2)then bif(ltb a0.2.2.2.2.2.2.2.1 60000)then let r3:=yb2 (a0.1,a0.2.1,(a0.2.2.1.set (a1).toNat r1),a1,0,a0.2.2.2.2.2);some ((),(r3,())) else some ((),((a0.1,a0.2.1,(a0.2.2.1.set (a1).toNat r1),a1,0,a0.2.2.2.2.2),())) else some ((),((a0.1,a0.2.1,(a0.2.2.1.set (a1).toNat r1),a1,0,a0.2.2.2.2.2),())) else some ((),((a0.1,a0.2.1,(a0.2.2.1.set (a1).toNat r1),a1,0,a0.2.2.2.2.2),())) else none else none
theorem yKL:ConOk prog 108 ⟨yhJ,yl3,fun x=>yoL x.1 x.2.1⟩:=zkI (yGX) func108 ntmps108.symm fun x=>by kernel_rfl
def yid (a0:dA) (a1:Int):dA:=yap a0 a1
def ys8 (a0:dA) (a1:Int):Bool:=inb a1 a0.2.2.1.length
theorem yNx (a0:dA) (a1:Int) (hk:zjx yhJ (a0,a1,())) (hq:ys8 a0 a1=true):yoL a0 a1=(fun n=>some ((),(n,()))) (yid a0 a1):=by
 have hq:inb a1 a0.2.2.1.length=true:=hq;unfold yoL yid yap yA yDg ydr ya;simp only[hq,zkX,ymg,ybi,yb2];cases(a0.2.2.2.1== -1)<;>cases(a0.2.2.2.1==a1)<;>cases a0.2.2.2.2.2.2.2.2.2.2.1<;>cases a0.2.2.2.2.2.2.2.2.2.2.2<;>cases ltb a0.2.2.2.2.2.2.2.1 60000<;>rfl
def ymj (a0:dA) (a1:Int):Option (zaY yl3×zak yhJ):=bif ys8 a0 a1 then(fun n=>some ((),(n,()))) (yid a0 a1)else none
theorem yOz (a0:dA) (a1:Int) (h:ys8 a0 a1=true):ymj a0 a1=(fun n=>some ((),(n,()))) (yid a0 a1):=by unfold ymj; rw[h]; rfl
def yyN:Con:=⟨yhJ,yl3,fun x=>ymj x.1 x.2.1⟩
theorem yOs:ConOk prog 108 yyN:=(yKL).mono (fun x r hk h=>zkY h (fun hq=>yNx x.1 x.2.1 hk hq))
def ySf:Code:=(f113.body).getD .skip
def ySI:Env:=zkw TT [(82,yK)] []
theorem yI7:FrOk prog ⟨ySI,9,fun _=>none⟩ ySf:=zkA mixed ye ⟨yU,trivial⟩
abbrev yu6:List Par:= [.rd tI]
abbrev yvt:List OT:= [⟨false,tI,.fz⟩]
def yBs (a0:Int):Option (zaY yvt×zak yu6) :=let r1:=yb a0 0 1099511627776;bif(!r1)then some (((-1),()),()) else some (((i64.wrap ((i64.wrap (a0+2))+4)),()),())
theorem yNV:ConOk prog 113 ⟨yu6,yvt,fun x=>yBs x.1⟩:=zkI (yI7) func113 ntmps113.symm fun x=>by kernel_rfl
def yc9 (a0:Int):Int :=let r1:=yb a0 0 1099511627776;bif(!r1)then (-1) else (i64.wrap ((i64.wrap (a0+2))+4))
def ykB:Con:=⟨yu6,yvt,fun x=>(fun n=>some ((n,()),())) (yc9 x.1)⟩
theorem yQh (a0:Int):yBs a0=(fun n=>some ((n,()),())) (yc9 a0):=zkV (p:=fun(n:Int)=>((n,()),())) (zkG (p:=fun(n:Int)=>((n,()),())) rfl rfl)
theorem ys3:ConOk prog 113 ykB:=(yNV).mono (fun x r _ h=>(yQh x.1).trans h)
theorem ymq (s:Int):yc9 s=yz s:=by
 unfold yc9 yz;rw[ycN];by_cases h:0≤s∧s≤1099511627776
 ·rw[zk2 h.1,zk2 h.2,wq (s+2) (by omega) (by omega),wr (by omega) (by omega)]
  show s+2+4=s+6;omega
 ·cases h1:(leb 0 s&&leb s 1099511627776)
  ·rfl
  ·rw[Bool.and_eq_true,zj7,zj7]at h1; exact absurd h1 h
def ynv:Code:=(f177.body).getD .skip
def yuQ:Env:=zkw TT [(82,yK)] [(28864,.fz),(28928,.fz)]
theorem yJa:FrOk prog ⟨yuQ,22,fun _=>none⟩ ynv:=zkA mixed ye ⟨yU,trivial⟩
def yAm:Nat→Option Seg:=fun _=>none
def yb5:Shape:=⟨[(0,false,[.int .i64]),(2,false,[.ptr 0 0]),(3,false,[.ptr 12352 0]),(4,false,[.int .i64])],[(0,[.nil,.nil,.bool,.nil]),(12352,[.at 800000000,.nil,.bool,.nil])],[(800000000,tL,.fz)]⟩
def yfj:Shape:=⟨[(0,false,[.int .i64]),(2,false,[.ptr 0 0]),(3,false,[.ptr 12352 0]),(4,false,[.ci .i64 0])],[(0,[.nil,.nil,.bool,.nil]),(12352,[.at 800000000,.nil,.bool,.nil])],[(800000000,tL,.fz)]⟩
def ye9:Shape:=⟨[(2,false,[.ptr 0 0]),(3,false,[.ptr 12352 0])],[(0,[.nil,.nil,.bool,.nil]),(12352,[.at 800000000,.nil,.bool,.nil])],[(800000000,tL,.fz)]⟩
def yiE:Shape:=⟨[],[],[]⟩
abbrev ymN (v0 v1:Int) (v2 v3:dM):(yb5).X:=(((v0,()),((),()),((),()),(v1,()),()),(((),(),v2.2.2.1,(),()),((),(),v3.2.2.1,(),()),()),(v3.1,()))
abbrev yHe (v0:Int) (v1 v2:dM):(yfj).X:=(((v0,()),((),()),((),()),((),()),()),(((),(),v1.2.2.1,(),()),((),(),v2.2.2.1,(),()),()),(v2.1,()))
abbrev yG9 (v0 v1:dM):(ye9).X:=((((),()),((),()),()),(((),(),v0.2.2.1,(),()),((),(),v1.2.2.1,(),()),()),(v1.1,()))
def yne (v0 v1:Int) (v2 v3:Bool) (v4:List (List Int)):Option ((yb5).X ⊕ ((ye9).X ⊕ (yiE).X)) :=bif(ltb v1 v0)then bif(zkl v4.length ([([]:List Int)]:List (List Int)).length 24)then some (.inl (((v0,()),((),()),((),()),((i64.wrap (v1+1)),()),()),(((),(),v2,(),()),((),(),v3,(),()),()),((v4++([([]:List Int)]:List (List Int))),()))) else none else some (.inr (.inl ((((),()),((),()),()),(((),(),v2,(),()),((),(),v3,(),()),()),(v4,()))))
def ycp (x:(yb5).X):=yne x.1.1.1 x.1.2.2.2.1.1 x.2.1.1.2.2.1 x.2.1.2.1.2.2.1 x.2.2.1
def ywD (x:(yfj).X):(yb5).X:=(((x.1.1.1,()),((),()),((),()),(0,()),()),(((),(),x.2.1.1.2.2.1,(),()),((),(),x.2.1.2.1.2.2.1,(),()),()),(x.2.2.1,()))
def yys:Code:=(zd7 ynv 64 244).getD .skip
theorem yID:zd7 ynv 64 61=some (.block 0 (.loop yys)):=by kernel_rfl
theorem yLc (x:(yb5).X):zhu ⟨yuQ,22,yAm⟩ 0 yys 244 yb5 ye9 yiE x=ycp x:=by kernel_rfl
def ywM (x:(yfj).X):Nat:=18446744073709551616
def yn6 (x:(yfj).X):Option ((ye9).X ⊕ (yiE).X):=zF ycp (ywM x) (ywD x)
def yw6:Seg:=⟨yfj,ye9,yiE,yn6⟩
def yLB:Nat→Option Seg:=fun q=>bif Nat.beq q 61 then some yw6 else yAm q
theorem yJb:FrOk prog ⟨yuQ,22,yLB⟩ ynv:=(yJa).loop (sg:=yw6) yb5 ywD (by decide) yID ycp ywM (by decide) (fun _=>rfl) (fun x r _ h=>h) yLc
abbrev ynI:List Par:= [.rd tI]
abbrev yvw:List OT:= [⟨false,tM,(.pr (.ow .fz) (.pr (.ow (.pr .fz .fz)) (.pr .fz (.ow .fz))))⟩]
def yrd (a0:Int):Option (zaY yvw×zak ynI) :=let r1:=yb a0 1 20;bif(!r1)then some ((([],[],false,[]),()),()) else zkt (yn6 (((a0,()),((),()),((),()),((),()),()),(((),(),false,(),()),((),(),false,(),()),()),([],()))) (fun y1 =>some (((y1.2.2.1,[],y1.2.1.2.1.2.2.1,[]),()),())) (fun y1 =>none)
theorem yNY:ConOk prog 177 ⟨ynI,yvw,fun x=>yrd x.1⟩:=zkI (yJb) func177 ntmps177.symm fun x=>by kernel_rfl
def yfZ (a0:Int):dM:=ybd a0
theorem yQk (a0:Int) (hk:zjx ynI (a0,())):yrd a0=(fun n=>some ((n,()),())) (yfZ a0):=by
 unfold yrd yfZ ybd;simp only[ycN];cases hc:(leb 1 a0&&leb a0 20)
 ·rfl
 ·rw[Bool.and_eq_true,zj7,zj7]at hc
  have h1:yn6 (yHe a0 yf yf)=some (.inl (yG9 yf (List.replicate a0.toNat [],[],false,[]))) :=
   zkL (step:=ycp) (fun i=>ymN a0 i yf (List.replicate i [],[],false,[])) a0.toNat _ (fun i hi=>by
    simp only[ycp,ymN,yne,zky (show(i:Int)<a0 by omega),cond_true,wq ((i:Int)+1) (by omega) (by omega),Int.natCast_add,Int.natCast_one,Int.toNat_natCast]
    rw[zkF.2 (show((List.replicate i ([]:List Int)).length+([[]]:List (List Int)).length)*24≤140737488355328 by simp only[List.length_cons,List.length_nil,List.length_replicate]; omega),← List.replicate_succ']; rfl) (by simp only[ycp,ymN,yne,zk3 (show a0≤(a0.toNat:Int)by omega),cond_false]) _ (by show _<18446744073709551616; omega)
  rw[h1]; rfl
def yAR:Con:=⟨ynI,yvw,fun x=>(fun n=>some ((n,()),())) (yfZ x.1)⟩
theorem yQ6:ConOk prog 177 yAR:=(yNY).mono (fun x r hk h=>(yQk x.1 hk).trans h)
def yei:Code:=(f115.body).getD .skip
def yi3:Env:=zkw TT [(82,yK),(113,ykB),(144,ymK),(150,yeZ),(177,yAR),(178,yqI)] [(53440,(.pr (.ow .fz) (.pr (.ow (.pr .fz .fz)) (.pr .fz (.ow .fz))))),(53504,(.pr (.ow .fz) (.pr (.ow (.pr .fz .fz)) (.pr .fz (.ow .fz)))))]
theorem yI3:FrOk prog ⟨yi3,60,fun _=>none⟩ yei:=zkA mixed ye ⟨yU,ys3,yzG,yju,yQ6,yCU,trivial⟩
def yAl:Nat→Option Seg:=fun _=>none
def yaQ:Shape:=⟨[(0,false,[.int .i64]),(3,false,[.ptr 0 0]),(4,false,[.ptr 64 0]),(5,false,[.ptr 12480 0]),(6,false,[.int .i64]),(7,false,[.ptr 28864 0]),(8,false,[.int .i64])],[(0,[.int .i64,.int .i64]),(64,[.int .i64,.int .i64,.int .i64,.nil,.int .i64,.int .i64,.int .i64,.int .i64,.int .i64,.nil,.int .i64,.bool,.bool]),(12480,[.int .i64,.int .i64,.int .i64,.at 800000000,.int .i64,.int .i64,.int .i64,.int .i64,.int .i64,.nil,.int .i64,.bool,.bool]),(28864,[.at 800000001,.at 800000002,.bool,.at 800000003])],[(800000000,tM,(.pr (.ow .fz) (.pr (.ow (.pr .fz .fz)) (.pr .fz (.ow .fz))))),(800000001,tL,.fz),(800000002,tW,(.pr .fz .fz)),(800000003,tI,.fz)]⟩
def ydi:Shape:=⟨[(0,false,[.int .i64]),(3,false,[.ptr 0 0]),(4,false,[.ptr 64 0]),(5,false,[.ptr 12480 0]),(6,false,[.int .i64]),(7,false,[.ptr 28864 0]),(8,false,[.ci .i64 0])],[(0,[.int .i64,.int .i64]),(64,[.int .i64,.int .i64,.int .i64,.nil,.int .i64,.int .i64,.int .i64,.int .i64,.int .i64,.nil,.int .i64,.bool,.bool]),(12480,[.int .i64,.int .i64,.int .i64,.at 800000000,.int .i64,.int .i64,.int .i64,.int .i64,.int .i64,.nil,.int .i64,.bool,.bool]),(28864,[.at 800000001,.at 800000002,.bool,.at 800000003])],[(800000000,tM,(.pr (.ow .fz) (.pr (.ow (.pr .fz .fz)) (.pr .fz (.ow .fz))))),(800000001,tL,.fz),(800000002,tW,(.pr .fz .fz)),(800000003,tI,.fz)]⟩
def ydg:Shape:=⟨[(0,false,[.int .i64]),(3,false,[.ptr 0 0]),(4,false,[.ptr 64 0]),(5,false,[.ptr 12480 0]),(6,false,[.int .i64]),(7,false,[.ptr 28864 0])],[(0,[.int .i64,.int .i64]),(64,[.int .i64,.int .i64,.int .i64,.nil,.int .i64,.int .i64,.int .i64,.int .i64,.int .i64,.nil,.int .i64,.bool,.bool]),(12480,[.int .i64,.int .i64,.int .i64,.at 800000000,.int .i64,.int .i64,.int .i64,.int .i64,.int .i64,.nil,.int .i64,.bool,.bool]),(28864,[.at 800000001,.at 800000002,.bool,.at 800000003])],[(800000000,tM,(.pr (.ow .fz) (.pr (.ow (.pr .fz .fz)) (.pr .fz (.ow .fz))))),(800000001,tL,.fz),(800000002,tW,(.pr .fz .fz)),(800000003,tI,.fz)]⟩
def yfO:Shape:=⟨[],[],[]⟩
abbrev yiO (v0 v1 v2:Int) (v3:dG) (v4 v5:dA) (v6:dM):(yaQ).X:=(((v0,()),((),()),((),()),((),()),(v1,()),((),()),(v2,()),()),((v3.1,v3.2,()),(v4.1,v4.2.1.1,v4.2.1.2,(),v4.2.2.2.1,v4.2.2.2.2.1,v4.2.2.2.2.2.1,v4.2.2.2.2.2.2.1,v4.2.2.2.2.2.2.2.1,(),v4.2.2.2.2.2.2.2.2.2.1,v4.2.2.2.2.2.2.2.2.2.2.1,v4.2.2.2.2.2.2.2.2.2.2.2,()),(v5.1,v5.2.1.1,v5.2.1.2,(),v5.2.2.2.1,v5.2.2.2.2.1,v5.2.2.2.2.2.1,v5.2.2.2.2.2.2.1,v5.2.2.2.2.2.2.2.1,(),v5.2.2.2.2.2.2.2.2.2.1,v5.2.2.2.2.2.2.2.2.2.2.1,v5.2.2.2.2.2.2.2.2.2.2.2,()),((),(),v6.2.2.1,(),()),()),(v5.2.2.1,v6.1,v6.2.1,v6.2.2.2,()))
abbrev yDq (v0 v1:Int) (v2:dG) (v3 v4:dA) (v5:dM):(ydi).X:=(((v0,()),((),()),((),()),((),()),(v1,()),((),()),((),()),()),((v2.1,v2.2,()),(v3.1,v3.2.1.1,v3.2.1.2,(),v3.2.2.2.1,v3.2.2.2.2.1,v3.2.2.2.2.2.1,v3.2.2.2.2.2.2.1,v3.2.2.2.2.2.2.2.1,(),v3.2.2.2.2.2.2.2.2.2.1,v3.2.2.2.2.2.2.2.2.2.2.1,v3.2.2.2.2.2.2.2.2.2.2.2,()),(v4.1,v4.2.1.1,v4.2.1.2,(),v4.2.2.2.1,v4.2.2.2.2.1,v4.2.2.2.2.2.1,v4.2.2.2.2.2.2.1,v4.2.2.2.2.2.2.2.1,(),v4.2.2.2.2.2.2.2.2.2.1,v4.2.2.2.2.2.2.2.2.2.2.1,v4.2.2.2.2.2.2.2.2.2.2.2,()),((),(),v5.2.2.1,(),()),()),(v4.2.2.1,v5.1,v5.2.1,v5.2.2.2,()))
abbrev yqW (v0 v1:Int) (v2:dG) (v3 v4:dA) (v5:dM):(ydg).X:=(((v0,()),((),()),((),()),((),()),(v1,()),((),()),()),((v2.1,v2.2,()),(v3.1,v3.2.1.1,v3.2.1.2,(),v3.2.2.2.1,v3.2.2.2.2.1,v3.2.2.2.2.2.1,v3.2.2.2.2.2.2.1,v3.2.2.2.2.2.2.2.1,(),v3.2.2.2.2.2.2.2.2.2.1,v3.2.2.2.2.2.2.2.2.2.2.1,v3.2.2.2.2.2.2.2.2.2.2.2,()),(v4.1,v4.2.1.1,v4.2.1.2,(),v4.2.2.2.1,v4.2.2.2.2.1,v4.2.2.2.2.2.1,v4.2.2.2.2.2.2.1,v4.2.2.2.2.2.2.2.1,(),v4.2.2.2.2.2.2.2.2.2.1,v4.2.2.2.2.2.2.2.2.2.2.1,v4.2.2.2.2.2.2.2.2.2.2.2,()),((),(),v5.2.2.1,(),()),()),(v4.2.2.1,v5.1,v5.2.1,v5.2.2.2,()))
def yiZ (v0 v1 v2 v3 v4 v5 v6 v7 v8 v9 v10 v11 v12 v13:Int) (v14 v15:Bool) (v16 v17 v18 v19 v20 v21 v22 v23 v24:Int) (v25 v26 v27:Bool) (v28:List dM) (v29:List (List Int)) (v30:List dW) (v31:List Int):Option ((yaQ).X ⊕ ((ydg).X ⊕ (yfO).X)) :=bif(ltb v2 v4)then let r13:=yc9 v2;bif(inb r13 v29.length)then some (.inl (((v0,()),((),()),((),()),((),()),(v1,()),((),()),((i64.wrap (v2+1)),()),()),((v3,v4,()),(v5,v6,v7,(),v8,v9,v10,v11,v12,(),v13,v14,v15,()),(v16,v17,v18,(),v19,v20,v21,v22,v23,(),v24,v25,v26,()),((),(),v27,(),()),()),(v28,(v29.set (r13).toNat ([0]:List Int)),v30,v31,()))) else none else some (.inr (.inl (((v0,()),((),()),((),()),((),()),(v1,()),((),()),()),((v3,v4,()),(v5,v6,v7,(),v8,v9,v10,v11,v12,(),v13,v14,v15,()),(v16,v17,v18,(),v19,v20,v21,v22,v23,(),v24,v25,v26,()),((),(),v27,(),()),()),(v28,v29,v30,v31,()))))
def ya2 (x:(yaQ).X):=yiZ x.1.1.1 x.1.2.2.2.2.1.1 x.1.2.2.2.2.2.2.1.1 x.2.1.1.1 x.2.1.1.2.1 x.2.1.2.1.1 x.2.1.2.1.2.1 x.2.1.2.1.2.2.1 x.2.1.2.1.2.2.2.2.1 x.2.1.2.1.2.2.2.2.2.1 x.2.1.2.1.2.2.2.2.2.2.1 x.2.1.2.1.2.2.2.2.2.2.2.1 x.2.1.2.1.2.2.2.2.2.2.2.2.1 x.2.1.2.1.2.2.2.2.2.2.2.2.2.2.1 x.2.1.2.1.2.2.2.2.2.2.2.2.2.2.2.1 x.2.1.2.1.2.2.2.2.2.2.2.2.2.2.2.2.1 x.2.1.2.2.1.1 x.2.1.2.2.1.2.1 x.2.1.2.2.1.2.2.1 x.2.1.2.2.1.2.2.2.2.1 x.2.1.2.2.1.2.2.2.2.2.1 x.2.1.2.2.1.2.2.2.2.2.2.1 x.2.1.2.2.1.2.2.2.2.2.2.2.1 x.2.1.2.2.1.2.2.2.2.2.2.2.2.1 x.2.1.2.2.1.2.2.2.2.2.2.2.2.2.2.1 x.2.1.2.2.1.2.2.2.2.2.2.2.2.2.2.2.1 x.2.1.2.2.1.2.2.2.2.2.2.2.2.2.2.2.2.1 x.2.1.2.2.2.1.2.2.1 x.2.2.1 x.2.2.2.1 x.2.2.2.2.1 x.2.2.2.2.2.1
def yqL (x:(ydi).X):(yaQ).X:=(((x.1.1.1,()),((),()),((),()),((),()),(x.1.2.2.2.2.1.1,()),((),()),(0,()),()),((x.2.1.1.1,x.2.1.1.2.1,()),(x.2.1.2.1.1,x.2.1.2.1.2.1,x.2.1.2.1.2.2.1,(),x.2.1.2.1.2.2.2.2.1,x.2.1.2.1.2.2.2.2.2.1,x.2.1.2.1.2.2.2.2.2.2.1,x.2.1.2.1.2.2.2.2.2.2.2.1,x.2.1.2.1.2.2.2.2.2.2.2.2.1,(),x.2.1.2.1.2.2.2.2.2.2.2.2.2.2.1,x.2.1.2.1.2.2.2.2.2.2.2.2.2.2.2.1,x.2.1.2.1.2.2.2.2.2.2.2.2.2.2.2.2.1,()),(x.2.1.2.2.1.1,x.2.1.2.2.1.2.1,x.2.1.2.2.1.2.2.1,(),x.2.1.2.2.1.2.2.2.2.1,x.2.1.2.2.1.2.2.2.2.2.1,x.2.1.2.2.1.2.2.2.2.2.2.1,x.2.1.2.2.1.2.2.2.2.2.2.2.1,x.2.1.2.2.1.2.2.2.2.2.2.2.2.1,(),x.2.1.2.2.1.2.2.2.2.2.2.2.2.2.2.1,x.2.1.2.2.1.2.2.2.2.2.2.2.2.2.2.2.1,x.2.1.2.2.1.2.2.2.2.2.2.2.2.2.2.2.2.1,()),((),(),x.2.1.2.2.2.1.2.2.1,(),()),()),(x.2.2.1,x.2.2.2.1,x.2.2.2.2.1,x.2.2.2.2.2.1,()))
def yrs:Code:=(zd7 yei 64 125236).getD .skip
theorem yDS:zd7 yei 64 31309=some (.block 2 (.loop yrs)):=by kernel_rfl
theorem yEj (x:(yaQ).X):zhu ⟨yi3,60,yAl⟩ 2 yrs 125236 yaQ ydg yfO x=ya2 x:=by kernel_rfl
def yqO (x:(ydi).X):Nat:=18446744073709551616
def yjB (x:(ydi).X):Option ((ydg).X ⊕ (yfO).X):=zF ya2 (yqO x) (yqL x)
def yrm:Seg:=⟨ydi,ydg,yfO,yjB⟩
def ypq:Nat→Option Seg:=fun q=>bif Nat.beq q 31309 then some yrm else yAl q
theorem yI4:FrOk prog ⟨yi3,60,ypq⟩ yei:=(yI3).loop (sg:=yrm) yaQ yqL (by decide) yDS ya2 yqO (by decide) (fun _=>rfl) (fun x r _ h=>h) yEj
def yb4:Shape:=⟨[(0,false,[.int .i64]),(3,false,[.ptr 0 0]),(4,false,[.ptr 64 0]),(5,false,[.ptr 12480 0]),(6,false,[.int .i64])],[(0,[.int .i64,.int .i64]),(64,[.int .i64,.int .i64,.int .i64,.nil,.int .i64,.int .i64,.int .i64,.int .i64,.int .i64,.nil,.int .i64,.bool,.bool]),(12480,[.int .i64,.int .i64,.int .i64,.at 800000000,.int .i64,.int .i64,.int .i64,.int .i64,.int .i64,.nil,.int .i64,.bool,.bool])],[(800000000,tM,(.pr (.ow .fz) (.pr (.ow (.pr .fz .fz)) (.pr .fz (.ow .fz)))))]⟩
def yfi:Shape:=⟨[(0,false,[.int .i64]),(3,false,[.ptr 0 0]),(4,false,[.ptr 64 0]),(5,false,[.ptr 12480 0]),(6,false,[.ci .i64 0])],[(0,[.int .i64,.int .i64]),(64,[.int .i64,.int .i64,.int .i64,.nil,.int .i64,.int .i64,.int .i64,.int .i64,.int .i64,.nil,.int .i64,.bool,.bool]),(12480,[.int .i64,.int .i64,.int .i64,.at 800000000,.int .i64,.int .i64,.int .i64,.int .i64,.int .i64,.nil,.int .i64,.bool,.bool])],[(800000000,tM,(.pr (.ow .fz) (.pr (.ow (.pr .fz .fz)) (.pr .fz (.ow .fz)))))]⟩
def ye8:Shape:=⟨[(4,false,[.ptr 64 0]),(5,false,[.ptr 12480 0])],[(64,[.int .i64,.int .i64,.int .i64,.nil,.int .i64,.int .i64,.int .i64,.int .i64,.int .i64,.nil,.int .i64,.bool,.bool]),(12480,[.int .i64,.int .i64,.int .i64,.at 800000000,.int .i64,.int .i64,.int .i64,.int .i64,.int .i64,.nil,.int .i64,.bool,.bool])],[(800000000,tM,(.pr (.ow .fz) (.pr (.ow (.pr .fz .fz)) (.pr .fz (.ow .fz)))))]⟩
def yiD:Shape:=⟨[],[],[]⟩
abbrev yhB (v0 v1:Int) (v2:dG) (v3 v4:dA):(yb4).X:=(((v0,()),((),()),((),()),((),()),(v1,()),()),((v2.1,v2.2,()),(v3.1,v3.2.1.1,v3.2.1.2,(),v3.2.2.2.1,v3.2.2.2.2.1,v3.2.2.2.2.2.1,v3.2.2.2.2.2.2.1,v3.2.2.2.2.2.2.2.1,(),v3.2.2.2.2.2.2.2.2.2.1,v3.2.2.2.2.2.2.2.2.2.2.1,v3.2.2.2.2.2.2.2.2.2.2.2,()),(v4.1,v4.2.1.1,v4.2.1.2,(),v4.2.2.2.1,v4.2.2.2.2.1,v4.2.2.2.2.2.1,v4.2.2.2.2.2.2.1,v4.2.2.2.2.2.2.2.1,(),v4.2.2.2.2.2.2.2.2.2.1,v4.2.2.2.2.2.2.2.2.2.2.1,v4.2.2.2.2.2.2.2.2.2.2.2,()),()),(v4.2.2.1,()))
abbrev yHd (v0:Int) (v1:dG) (v2 v3:dA):(yfi).X:=(((v0,()),((),()),((),()),((),()),((),()),()),((v1.1,v1.2,()),(v2.1,v2.2.1.1,v2.2.1.2,(),v2.2.2.2.1,v2.2.2.2.2.1,v2.2.2.2.2.2.1,v2.2.2.2.2.2.2.1,v2.2.2.2.2.2.2.2.1,(),v2.2.2.2.2.2.2.2.2.2.1,v2.2.2.2.2.2.2.2.2.2.2.1,v2.2.2.2.2.2.2.2.2.2.2.2,()),(v3.1,v3.2.1.1,v3.2.1.2,(),v3.2.2.2.1,v3.2.2.2.2.1,v3.2.2.2.2.2.1,v3.2.2.2.2.2.2.1,v3.2.2.2.2.2.2.2.1,(),v3.2.2.2.2.2.2.2.2.2.1,v3.2.2.2.2.2.2.2.2.2.2.1,v3.2.2.2.2.2.2.2.2.2.2.2,()),()),(v3.2.2.1,()))
abbrev ywT (v0 v1:dA):(ye8).X:=((((),()),((),()),()),((v0.1,v0.2.1.1,v0.2.1.2,(),v0.2.2.2.1,v0.2.2.2.2.1,v0.2.2.2.2.2.1,v0.2.2.2.2.2.2.1,v0.2.2.2.2.2.2.2.1,(),v0.2.2.2.2.2.2.2.2.2.1,v0.2.2.2.2.2.2.2.2.2.2.1,v0.2.2.2.2.2.2.2.2.2.2.2,()),(v1.1,v1.2.1.1,v1.2.1.2,(),v1.2.2.2.1,v1.2.2.2.2.1,v1.2.2.2.2.2.1,v1.2.2.2.2.2.2.1,v1.2.2.2.2.2.2.2.1,(),v1.2.2.2.2.2.2.2.2.2.1,v1.2.2.2.2.2.2.2.2.2.2.1,v1.2.2.2.2.2.2.2.2.2.2.2,()),()),(v1.2.2.1,()))
def ynd (v0 v1 v2 v3 v4 v5 v6 v7 v8 v9 v10 v11 v12:Int) (v13 v14:Bool) (v15 v16 v17 v18 v19 v20 v21 v22 v23:Int) (v24 v25:Bool) (v26:List dM):Option ((yb4).X ⊕ ((ye8).X ⊕ (yiD).X)) :=bif(ltb v1 v2)then let r15:=yeq (v2,v3);let r16:=yfZ r15;let r17:=yk (v0,0,v1,v2,v3,0,(-1),0);bif(inb 0 r16.1.length)then zkt (yjB (((v0,()),((),()),((),()),((),()),(v1,()),((),()),((),()),()),((v2,v3,()),(v4,v5,v6,(),v7,v8,v9,v10,v11,(),v12,v13,v14,()),(v15,v16,v17,(),v18,v19,v20,v21,v22,(),v23,v24,v25,()),((),(),r16.2.2.1,(),()),()),(v26,(r16.1.set (0:Int).toNat r17),r16.2.1,r16.2.2.2,()))) (fun y17 =>bif(zkl y17.2.2.1.length ([(y17.2.2.2.1,y17.2.2.2.2.1,y17.2.1.2.2.2.1.2.2.1,y17.2.2.2.2.2.1)]:List dM).length 80)then some (.inl (((y17.1.1.1,()),((),()),((),()),((),()),((i64.wrap (y17.1.2.2.2.2.1.1+1)),()),()),((y17.2.1.1.1,y17.2.1.1.2.1,()),(y17.2.1.2.1.1,y17.2.1.2.1.2.1,y17.2.1.2.1.2.2.1,(),y17.2.1.2.1.2.2.2.2.1,y17.2.1.2.1.2.2.2.2.2.1,y17.2.1.2.1.2.2.2.2.2.2.1,y17.2.1.2.1.2.2.2.2.2.2.2.1,y17.2.1.2.1.2.2.2.2.2.2.2.2.1,(),y17.2.1.2.1.2.2.2.2.2.2.2.2.2.2.1,y17.2.1.2.1.2.2.2.2.2.2.2.2.2.2.2.1,y17.2.1.2.1.2.2.2.2.2.2.2.2.2.2.2.2.1,()),(y17.2.1.2.2.1.1,y17.2.1.2.2.1.2.1,y17.2.1.2.2.1.2.2.1,(),y17.2.1.2.2.1.2.2.2.2.1,y17.2.1.2.2.1.2.2.2.2.2.1,y17.2.1.2.2.1.2.2.2.2.2.2.1,y17.2.1.2.2.1.2.2.2.2.2.2.2.1,y17.2.1.2.2.1.2.2.2.2.2.2.2.2.1,(),y17.2.1.2.2.1.2.2.2.2.2.2.2.2.2.2.1,y17.2.1.2.2.1.2.2.2.2.2.2.2.2.2.2.2.1,y17.2.1.2.2.1.2.2.2.2.2.2.2.2.2.2.2.2.1,()),()),((y17.2.2.1++([(y17.2.2.2.1,y17.2.2.2.2.1,y17.2.1.2.2.2.1.2.2.1,y17.2.2.2.2.2.1)]:List dM)),()))) else none) (fun y17 =>some (.inr (.inr ((),(),())))) else none else some (.inr (.inl ((((),()),((),()),()),((v4,v5,v6,(),v7,v8,v9,v10,v11,(),v12,v13,v14,()),(v15,v16,v17,(),v18,v19,v20,v21,v22,(),v23,v24,v25,()),()),(v26,()))))
def yco (x:(yb4).X):=ynd x.1.1.1 x.1.2.2.2.2.1.1 x.2.1.1.1 x.2.1.1.2.1 x.2.1.2.1.1 x.2.1.2.1.2.1 x.2.1.2.1.2.2.1 x.2.1.2.1.2.2.2.2.1 x.2.1.2.1.2.2.2.2.2.1 x.2.1.2.1.2.2.2.2.2.2.1 x.2.1.2.1.2.2.2.2.2.2.2.1 x.2.1.2.1.2.2.2.2.2.2.2.2.1 x.2.1.2.1.2.2.2.2.2.2.2.2.2.2.1 x.2.1.2.1.2.2.2.2.2.2.2.2.2.2.2.1 x.2.1.2.1.2.2.2.2.2.2.2.2.2.2.2.2.1 x.2.1.2.2.1.1 x.2.1.2.2.1.2.1 x.2.1.2.2.1.2.2.1 x.2.1.2.2.1.2.2.2.2.1 x.2.1.2.2.1.2.2.2.2.2.1 x.2.1.2.2.1.2.2.2.2.2.2.1 x.2.1.2.2.1.2.2.2.2.2.2.2.1 x.2.1.2.2.1.2.2.2.2.2.2.2.2.1 x.2.1.2.2.1.2.2.2.2.2.2.2.2.2.2.1 x.2.1.2.2.1.2.2.2.2.2.2.2.2.2.2.2.1 x.2.1.2.2.1.2.2.2.2.2.2.2.2.2.2.2.2.1 x.2.2.1
def ywC (x:(yfi).X):(yb4).X:=(((x.1.1.1,()),((),()),((),()),((),()),(0,()),()),((x.2.1.1.1,x.2.1.1.2.1,()),(x.2.1.2.1.1,x.2.1.2.1.2.1,x.2.1.2.1.2.2.1,(),x.2.1.2.1.2.2.2.2.1,x.2.1.2.1.2.2.2.2.2.1,x.2.1.2.1.2.2.2.2.2.2.1,x.2.1.2.1.2.2.2.2.2.2.2.1,x.2.1.2.1.2.2.2.2.2.2.2.2.1,(),x.2.1.2.1.2.2.2.2.2.2.2.2.2.2.1,x.2.1.2.1.2.2.2.2.2.2.2.2.2.2.2.1,x.2.1.2.1.2.2.2.2.2.2.2.2.2.2.2.2.1,()),(x.2.1.2.2.1.1,x.2.1.2.2.1.2.1,x.2.1.2.2.1.2.2.1,(),x.2.1.2.2.1.2.2.2.2.1,x.2.1.2.2.1.2.2.2.2.2.1,x.2.1.2.2.1.2.2.2.2.2.2.1,x.2.1.2.2.1.2.2.2.2.2.2.2.1,x.2.1.2.2.1.2.2.2.2.2.2.2.2.1,(),x.2.1.2.2.1.2.2.2.2.2.2.2.2.2.2.1,x.2.1.2.2.1.2.2.2.2.2.2.2.2.2.2.2.1,x.2.1.2.2.1.2.2.2.2.2.2.2.2.2.2.2.2.1,()),()),(x.2.2.1,()))
def yyr:Code:=(zd7 yei 64 244).getD .skip
theorem yIC:zd7 yei 64 61=some (.block 0 (.loop yyr)):=by kernel_rfl
theorem yLb (x:(yb4).X):zhu ⟨yi3,60,ypq⟩ 0 yyr 244 yb4 ye8 yiD x=yco x:=by kernel_rfl
def ywL (x:(yfi).X):Nat:=18446744073709551616
def yn5 (x:(yfi).X):Option ((ye8).X ⊕ (yiD).X):=zF yco (ywL x) (ywC x)
def yw5:Seg:=⟨yfi,ye8,yiD,yn5⟩
def yLA:Nat→Option Seg:=fun q=>bif Nat.beq q 61 then some yw5 else ypq q
theorem yI5:FrOk prog ⟨yi3,60,yLA⟩ yei:=(yI4).loop (sg:=yw5) yb4 ywC (by decide) yIC yco ywL (by decide) (fun _=>rfl) (fun x r _ h=>h) yLb
abbrev ynF:List Par:= [.rd tI,.rd tG]
abbrev yvr:List OT:= [⟨false,tA,(.pr .fz (.pr (.pr .fz .fz) (.pr (.ow (.pr (.ow .fz) (.pr (.ow (.pr .fz .fz)) (.pr .fz (.ow .fz))))) (.pr .fz (.pr .fz (.pr .fz (.pr .fz (.pr .fz (.pr (.ow (.pr .fz .fz)) (.pr .fz (.pr .fz .fz)))))))))))⟩]
def yra (a0:Int) (a1:dG):Option (zaY yvr×zak ynF) :=let r1:=yd a1;bif(!(!r1))then let r2:=yb a0 1 60000;bif(!r2)then some (((0,(0,0),[],0,0,0,0,0,[],0,false,false),()),()) else zkt (yn5 (((a0,()),((),()),((),()),((),()),((),()),()),((a1.1,a1.2,()),(0,0,0,(),0,0,0,0,0,(),0,false,false,()),(a0,a1.1,a1.2,(),(-1),0,0,0,0,(),(-1),false,false,()),()),([],()))) (fun y18 =>some (((y18.2.1.2.1.1,(y18.2.1.2.1.2.1,y18.2.1.2.1.2.2.1),y18.2.2.1,y18.2.1.2.1.2.2.2.2.1,y18.2.1.2.1.2.2.2.2.2.1,y18.2.1.2.1.2.2.2.2.2.2.1,y18.2.1.2.1.2.2.2.2.2.2.2.1,y18.2.1.2.1.2.2.2.2.2.2.2.2.1,[],y18.2.1.2.1.2.2.2.2.2.2.2.2.2.2.1,y18.2.1.2.1.2.2.2.2.2.2.2.2.2.2.2.1,y18.2.1.2.1.2.2.2.2.2.2.2.2.2.2.2.2.1),()),())) (fun y18 =>none) else some (((0,(0,0),[],0,0,0,0,0,[],0,false,false),()),())
theorem yNT:ConOk prog 115 ⟨ynF,yvr,fun x=>yra x.1 x.2.1⟩:=zkI (yI5) func115 ntmps115.symm fun x=>by kernel_rfl
def yjo (a0:Int) (a1:dG):dA:=ydk a0 a1
theorem yQf (a0:Int) (a1:dG) (hk:zjx ynF (a0,a1,())):yra a0 a1=(fun n=>some ((n,()),())) (yjo a0 a1):=by
 unfold yra yjo ydk;simp only[ycN];cases hg:yd a1
 ·rfl
 cases hid:(leb 1 a0&&leb a0 60000)
 ·rfl
 have hge:=yl.1 hg
 have inner: ∀(i:Int) (a:dA),yjB (yDq a0 i a1 ydf a (yg9 a0 a1 i))=some (.inl (yqW a0 i a1 ydf a (yM a0 a1 i))):=fun i a =>
  zkD (step:=ya2) a1.2.toNat (fun s m=>yiO a0 i s a1 ydf a m) ymh (fun _ m=>(m.1.length:Int)=6+a1.2) (fun m=> .inl (yqW a0 i a1 ydf a m)) (fun s m hs hm=>⟨by
   simp only[ya2,yiO,yiZ,zky (show(s:Int)<a1.2 by omega),cond_true,wq ((s:Int)+1) (by omega) (by omega),Int.natCast_add,Int.natCast_one,Int.toNat_natCast,ymq];have hd:yz (s:Int)=((s+6:Nat):Int):=by unfold yz; rw[zk2 (show(0:Int)≤s by omega),zk2 (show(s:Int)≤1099511627776 by omega)]; rfl
   rw[hd,zkR (show s+6<m.1.length by omega),Int.toNat_natCast]; rfl,by show((m.1.set _ _).length:Int)=_; rw[List.length_set]; exact hm⟩) (fun m hm=>by simp only[ya2,yiO,yiZ,show((a1.2.toNat:Nat):Int)=a1.2 by omega,zk3 (Int.le_refl _),cond_false]) (yg9 a0 a1 i) (by
   unfold yg9 ybd;rw[zk2 (show 1≤6+a1.2 by omega),zk2 (show 6+a1.2≤20 by omega)];show(((List.replicate (6+a1.2).toNat ([]:List Int)).set 0 _).length:Int)=_
   rw[List.length_set,List.length_replicate]; omega) 18446744073709551616 (by omega)
 have hmn:yfZ (yeq a1)=ybd (6+a1.2):=by
  unfold yfZ yeq;rw[wr (by omega) (by omega)]
 have h0:inb 0 (ybd (6+a1.2)).1.length=true:=by
  unfold ybd;rw[zk2 (show 1≤6+a1.2 by omega),zk2 (show 6+a1.2≤20 by omega)];show inb 0 (List.replicate (6+a1.2).toNat ([]:List Int)).length=true;rw[List.length_replicate,zj6]; omega
 have outer:yn5 (yHd a0 a1 ydf (yyp a0 a1))=some (.inl (ywT ydf ((List.range a1.1.toNat).foldl (fun a (i:Nat)=>yyl a (yM a0 a1 i)) (yyp a0 a1)))) :=
  zkD (step:=yco) a1.1.toNat (fun i a=>yhB a0 i a1 ydf a) (fun a i=>yyl a (yM a0 a1 i)) (fun i a=>a.2.2.1.length=i) (fun a=> .inl (ywT ydf a)) (fun i a hi ha=>⟨by
   simp only[yco,yhB,ynd,zky (show(i:Int)<a1.1 by omega),cond_true,wq ((i:Int)+1) (by omega) (by omega),Int.natCast_add,Int.natCast_one,zkX,hmn,h0];refine(congrArg (fun z=>zkt z _ _) (inner i a)).trans ?_;simp only[zkN];show(bif zkl a.2.2.1.length [yM a0 a1 i].length 80 then _ else _)=_;rw[zkF.2 (show(a.2.2.1.length+ [yM a0 a1 i].length)*80≤140737488355328 by simp only[List.length_cons,List.length_nil]; omega)];simp only[cond_true];show some (Sum.inl (yhB a0 (i64.wrap ((i:Int)+1)) a1 ydf (yyl a (yM a0 a1 i))))=_
   rw[wq ((i:Int)+1) (by omega) (by omega)],by show(a.2.2.1++ [_]).length=_; rw[List.length_append,ha]; rfl⟩) (fun a ha=>by simp only[yco,yhB,ynd,show((a1.1.toNat:Nat):Int)=a1.1 by omega,zk3 (Int.le_refl _),cond_false]) (yyp a0 a1) rfl 18446744073709551616 (by omega)
 have hdr: ∀(l:List Nat) (a:dA),a.2.2.2.2.2.2.2.2.1= []→(l.foldl (fun a (i:Nat)=>yyl a (yM a0 a1 i)) a).2.2.2.2.2.2.2.2.1= []:=by
  intro l
  induction l with
  | nil=>intro a h; exact h
  | cons x t ih=>intro a h; exact ih _ h
 have h:=hdr (List.range a1.1.toNat) (yyp a0 a1) rfl;simp only[Bool.not_true,Bool.not_false,cond_true,cond_false,Bool.and_self];refine(congrArg (fun z=>zkt z _ _) outer).trans ?_;generalize (List.range a1.1.toNat).foldl (fun a (i:Nat)=>yyl a (yM a0 a1 i)) (yyp a0 a1)=R at h;simp only[zkN];show some ((((R.1,R.2.1,R.2.2.1,R.2.2.2.1,R.2.2.2.2.1,R.2.2.2.2.2.1,R.2.2.2.2.2.2.1,R.2.2.2.2.2.2.2.1,[],R.2.2.2.2.2.2.2.2.2):dA),()),())=some ((R,()),());rw[← h]
def yAP:Con:=⟨ynF,yvr,fun x=>(fun n=>some ((n,()),())) (yjo x.1 x.2.1)⟩
theorem yQ4:ConOk prog 115 yAP:=(yNT).mono (fun x r hk h=>(yQf x.1 x.2.1 hk).trans h)
def yTY:Code:=(f116.body).getD .skip
def yUb:Env:=zkw TT [(72,yiJ)] []
theorem yML:FrOk prog ⟨yUb,10,fun _=>none⟩ yTY:=zkA mixed ye ⟨yq3,trivial⟩
abbrev yxZ:List Par:= [.pt tU .fz]
abbrev yyj:List OT:= [⟨false,tG,(.pr .fz .fz)⟩]
def yio (a0:dU):Option (zaY yyj×zak yxZ) :=bnd (yaa a0 3) fun r1 =>bnd (yaa r1.2.1 4) fun r2 =>some ((((i64.wrap (3+r1.1.1)),(i64.wrap (1+r2.1.1))),()),(r2.2.1,()))
theorem yQS:ConOk prog 116 ⟨yxZ,yyj,fun x=>yio x.1⟩:=zkI (yML) func116 ntmps116.symm fun x=>by kernel_rfl
def yCx:Con:=⟨yxZ,yyj,fun x=>yio x.1⟩
theorem yTy:ConOk prog 116 yCx:=yQS
theorem yWC (u:dU) (h:yr7 u): ∃(g:dG) (u':dU),yio u=some ((g,()),(u',()))∧yd g=true∧yr7 u':=by
 unfold yio;obtain⟨r1,u1,e1,q1,d1⟩:=yk7 u 3 h;obtain⟨r2,u2,e2,q2,d2⟩:=yk7 u1 4 d1;simp only[e1,e2,zkH];refine⟨_,_,rfl,?_,d2⟩;have:=q1.2.1 (by omega); have:=q2.2.1 (by omega); have:=q1.1; have:=q2.1;rw[wr (by omega) (by omega),wr (by omega) (by omega)];exact yl.2 ⟨⟨by show 3≤3+r1; omega,by show 3+r1≤5; omega⟩,by show 1≤1+r2; omega,by show 1+r2≤8; omega⟩
def ySe:Code:=(f119.body).getD .skip
def ySH:Env:=zkw TT [(150,yeZ)] []
theorem yI6:FrOk prog ⟨ySH,12,fun _=>none⟩ ySe:=zkA mixed ye ⟨yju,trivial⟩
abbrev yu5:List Par:= [.rd tG]
abbrev yvs:List OT:= [⟨false,tI,.fz⟩]
def yBr (a0:dG):Option (zaY yvs×zak yu5) :=let r1:=yd a0;bif(!r1)then some ((0,()),()) else some (((i64.wrap (a0.2*(i64.wrap (a0.1-1)))),()),())
theorem yNU:ConOk prog 119 ⟨yu5,yvs,fun x=>yBr x.1⟩:=zkI (yI6) func119 ntmps119.symm fun x=>by kernel_rfl
def yn (a0:dG):Int :=let r1:=yd a0;bif(!r1)then 0 else (i64.wrap (a0.2*(i64.wrap (a0.1-1))))
def ykA:Con:=⟨yu5,yvs,fun x=>(fun n=>some ((n,()),())) (yn x.1)⟩
theorem yQg (a0:dG):yBr a0=(fun n=>some ((n,()),())) (yn a0):=zkV (p:=fun(n:Int)=>((n,()),())) (zkG (p:=fun(n:Int)=>((n,()),())) rfl rfl)
theorem ys2:ConOk prog 119 ykA:=(yNU).mono (fun x r _ h=>(yQg x.1).trans h)
theorem ytu (a:Int×Int):0≤yn a∧yn a≤32:=by
 unfold yn;cases h:yd a
 ·simp
 ·obtain⟨⟨h1,h2⟩,h3,h4⟩:=yl.1 h
  have h5:0≤a.2*(a.1-1):=Int.mul_nonneg (by omega) (by omega);have h6:a.2*(a.1-1)≤8*4:=Int.mul_le_mul h4 (by omega) (by omega) (by omega);simp only[Bool.not_true,cond_false,wq (a.1-1) (by omega) (by omega),wq (a.2*(a.1-1)) (by omega) (by omega)];omega
theorem yC6 {a:Int×Int} (h:yd a=true):yn a=a.2*(a.1-1):=by
 unfold yn;obtain⟨⟨h1,h2⟩,h3,h4⟩:=yl.1 h;have h5:0≤a.2*(a.1-1):=Int.mul_nonneg (by omega) (by omega);have h6:a.2*(a.1-1)≤8*4:=Int.mul_le_mul h4 (by omega) (by omega) (by omega);simp only[h,Bool.not_true,cond_false,wq (a.1-1) (by omega) (by omega),wq (a.2*(a.1-1)) (by omega) (by omega)]
def yL (l:List dW) (s:Int):Int:=yau (fun e:dW=>e.1==s) l
def ybj (g:dG) (b:Int):Bool:=leb 0 b&&leb b (yn g-1)
def yag (g:dG) (b:Int):Int:=bif ybj g b then b.tdiv (g.1-1)else -1
def yef (g:dG) (b:Int):Int:=bif ybj g b then b.tmod (g.1-1)else -1
theorem yk3 {g:dG} {b:Int} (h:ybj g b=true):yd g=true∧(0≤b.tdiv (g.1-1)∧b.tdiv (g.1-1)≤g.2-1)∧(0≤b.tmod (g.1-1)∧b.tmod (g.1-1)≤g.1-2):=by
 simp only[ybj,Bool.and_eq_true,zj7]at h;cases hg:yd g
 ·have:yn g=0:=by unfold yn; rw[hg]; rfl
  omega
 ·rw[yC6 hg]at h
  have h2:=yl.1 hg;rw[Int.tdiv_eq_ediv_of_nonneg h.1,Int.tmod_eq_emod_of_nonneg h.1];have h3:=Int.ediv_lt_of_lt_mul (show 0<g.1-1 by omega) (show b<g.2*(g.1-1)by omega);have h4:=Int.ediv_nonneg h.1 (show 0≤g.1-1 by omega);have h5:=Int.emod_nonneg b (show g.1-1≠0 by omega);have h6:=Int.emod_lt_of_pos b (show 0<g.1-1 by omega);exact⟨rfl,⟨h4,by omega⟩,h5,by omega⟩
theorem yjz {g:dG} {b:Int} (h:ybj g b=true):y5 g (yag g b)=true:=by
 obtain⟨h1,h2,_⟩:=yk3 h;unfold yag;rw[h,cond_true,yab];exact⟨h1,h2⟩
def ygT (a:dA) (b:Int):Int:=bif !(yR a)then 1 else bif a.2.2.2.2.2.2.2.2.2.2.1 then 6 else bif ybj a.2.1 b then 0 else 2
def yJ (a:dA) (s:Int):List Int×Bool:=bif leb 0 (yL a.2.2.2.2.2.2.2.2.1 s)then((nth a.2.2.2.2.2.2.2.2.1 (yL a.2.2.2.2.2.2.2.2.1 s) (0,[])).2,true)else bif a.2.2.2.2.2.2.2.2.2.2.2 then([],false)else ytE a s
def ybF (a:dA) (b:Int):Int×Int:=bif ygT a b !=0 then(0,ygT a b)else bif(yJ a (yag a.2.1 b)).2 then(nth (yJ a (yag a.2.1 b)).1 (yef a.2.1 b) 0,0)else(0,5)
theorem yVX {a:dA} {b:Int} (h:ygT a b=0):yR a=true∧ybj a.2.1 b=true∧a.2.2.2.2.2.2.2.2.2.2.1=false:=by
 unfold ygT at h;cases ha:yR a
 ·rw[ha]at h; exact absurd (show(1:Int)=0 from h) (by decide)
 ·rw[ha]at h
  cases hd:a.2.2.2.2.2.2.2.2.2.2.1
  ·rw[hd]at h
   cases hb:ybj a.2.1 b
   ·rw[hb]at h; exact absurd (show(2:Int)=0 from h) (by decide)
   ·exact⟨rfl,rfl,rfl⟩
  ·rw[hd]at h; exact absurd (show(6:Int)=0 from h) (by decide)
theorem yWB {a:dA} (h:yR a=true) {i:Nat} (hi:i<a.2.2.2.2.2.2.2.2.1.length):(0≤(nth a.2.2.2.2.2.2.2.2.1 i (0,[])).1∧(nth a.2.2.2.2.2.2.2.2.1 i (0,[])).1≤a.2.1.2-1)∧((nth a.2.2.2.2.2.2.2.2.1 i (0,[])).2.length:Int)=a.2.1.1-1∧(nth a.2.2.2.2.2.2.2.2.1 i (0,[])).2.all isW=true∧(0<i→(nth a.2.2.2.2.2.2.2.2.1 ((i-1:Nat):Int) (0,[])).1<(nth a.2.2.2.2.2.2.2.2.1 i (0,[])).1):=by
 have h1:yaH a.2.1 a.2.2.2.2.2.2.2.2.1=true:=by simp only[yR,Bool.and_eq_true]at h; exact h.2.2.2.1
 simp only[yaH,Bool.not_eq_true',List.any_eq_false,List.mem_range]at h1;have h2:=h1 i hi;simp only[yfW,Bool.not_eq_true,Bool.or_eq_false_iff,Bool.not_eq_false',bne_eq_false_iff_eq,Bool.and_eq_true,Bool.and_eq_false_iff,decide_eq_false_iff_not,zj7]at h2;refine⟨h2.1,h2.2.1,h2.2.2.1,fun h0=> ?_⟩;rcases h2.2.2.2 with h3 | h3
 ·exact absurd h0 h3
 ·have:=mt zk2 (by rw[h3]; simp: ¬leb (nth a.2.2.2.2.2.2.2.2.1 i (0,[])).1 (nth a.2.2.2.2.2.2.2.2.1 ((i-1:Nat):Int) (0,[])).1=true)
  omega
theorem yn1 {a:dA} {s:Int} (h:yR a=true) (hs:y5 a.2.1 s=true) (h2:(yJ a s).2=true):((yJ a s).1.length:Int)=a.2.1.1-1:=by
 have hg:=yl.1 (yd1 h);unfold yJ at h2 ⊢;cases hk:leb 0 (yL a.2.2.2.2.2.2.2.2.1 s)
 ·rw[hk]at h2
  simp only[cond_false]at h2 ⊢;cases hb:a.2.2.2.2.2.2.2.2.2.2.2
  ·rw[hb]at h2
   simp only[cond_false]at h2 ⊢;unfold ytE at h2 ⊢;cases hw:(yF a s).2
   ·rw[hw]at h2; cases h2
   ·simp only[cond_true,List.length_map,List.length_range]; omega
  ·rw[hb]at h2; cases h2
 ·have h3:=zj6.1 (yk9 (d:=((0,[]):dW)) hk).1
  have:=(yWB h (i:=(yL a.2.2.2.2.2.2.2.2.1 s).toNat) (by unfold yL; omega)).2.1;rw[show(((yL a.2.2.2.2.2.2.2.2.1 s).toNat:Nat):Int)=yL a.2.2.2.2.2.2.2.2.1 s by have:=zj7.1 hk; omega]at this;exact this
theorem yUg (g:dG) (b:Int):yb b 0 (i64.wrap (yn g-1))=ybj g b:=by
 have:=ytu g;rw[wr (by omega) (by omega),ycN]; rfl
def yok (a:dA):List Int:=bif(List.range (yn a.2.1).toNat).all (fun(b:Nat)=> !((ybF a b).2 !=0))then(List.range (yn a.2.1).toNat).map (fun(b:Nat)=>(ybF a b).1)else[]
def yTV:Code:=(f162.body).getD .skip
def yT8:Env:=zkw TT [(82,yK),(200,yfv)] []
theorem yMC:FrOk prog ⟨yT8,22,fun _=>none⟩ yTV:=zkA mixed ye ⟨yU,ykJ,trivial⟩
abbrev yxW:List Par:= [.rd tN]
abbrev yyd:List OT:= [⟨false,tB,.fz⟩]
def yC4 (a0:dN):Option (zaY yyd×zak yxW) :=let r1:=yb a0.1 0 60000;bif r1 then let r2:=yb a0.2.1 0 7;bif r2 then let r3:=yb (a0.2.2.length:Int) 2 4;bif r3 then let r4:=yaj a0.2.2;some ((r4,()),()) else some ((false,()),()) else some ((false,()),()) else some ((false,()),())
theorem yQM:ConOk prog 162 ⟨yxW,yyd,fun x=>yC4 x.1⟩:=zkI (yMC) func162 ntmps162.symm fun x=>by kernel_rfl
def ybg (a0:dN):Bool :=let r1:=yb a0.1 0 60000;bif r1 then let r2:=yb a0.2.1 0 7;bif r2 then let r3:=yb (a0.2.2.length:Int) 2 4;bif r3 then let r4:=yaj a0.2.2;r4 else false else false else false
def yCs:Con:=⟨yxW,yyd,fun x=>(fun n=>some ((n,()),())) (ybg x.1)⟩
theorem yTa (a0:dN):yC4 a0=(fun n=>some ((n,()),())) (ybg a0):=zkV (p:=fun(n:Bool)=>((n,()),())) (zkG (p:=fun(n:Bool)=>((n,()),())) (zkG (p:=fun(n:Bool)=>((n,()),())) (zkG (p:=fun(n:Bool)=>((n,()),())) rfl rfl) rfl) rfl)
theorem yTt:ConOk prog 162 yCs:=(yQM).mono (fun x r _ h=>(yTa x.1).trans h)
abbrev yXd:dN:=(0,0,[])
def ybt (r:dN):List Int:=bif ybg r then 21322::r.1::r.2.1::(r.2.2.length:Int)::r.2.2 else[]
def yVQ (l:List Int):dN:=(nth l 1 0,nth l 2 0,l.drop 4)
def yFe (l:List Int):dN×Bool:=bif leb 4 (l.length:Int)&&(nth l 0 0==21322&&(nth l 3 0==(l.length:Int)-4&&ybg (yVQ l)))then(yVQ l,true)else(yXd,false)
theorem yBy {r:dN}:ybg r=true↔(0≤r.1∧r.1≤60000)∧(0≤r.2.1∧r.2.1≤7)∧(2≤(r.2.2.length:Int)∧(r.2.2.length:Int)≤4)∧r.2.2.all isW=true:=by
 unfold ybg;simp only[yv0,← yqQ];cases yb r.1 0 60000<;>cases yb r.2.1 0 7<;>cases yb (r.2.2.length:Int) 2 4<;>simp
def yfM (r:dN) (a:dA) (i:Nat):dA:=ybk a i (yq r.1) (ybt r)
def yN (a:dA) (r:dN):dA:=yc ((List.range a.2.2.1.length).foldl (yfM r) a)
theorem ymp (r:dN) (a:dA) (i:Nat):(yfM r a i).2.2.1.length=a.2.2.1.length:=ymo _ _ _ _
theorem yU4 (r:dN) {a:dA} (i:Nat) (h:ya a=true):yfM r a i=a:=ylq h _ _ _
theorem yXt (a:dA) (r:dN):(yN a r).2.2.1.length=a.2.2.1.length:=(yAd _).trans (yiL (ymp r) _ _)
theorem ycQ (a:dA) (r:dN):yp (yN a r)=yp a:=(yax _).trans (yk8 (one:=yfM r) (fun _ _=>yfJ _ _ _ _) _ _)
def ygU (p N x:Int) (data:List Int) (i:Int):Int:=bif i==p then x else nth data ((i-p-1+N).tmod N) 0
def ycT (p N s:Int) (data:List Int) (a:dA) (i:Nat):dA:=bif yck a i s then ybk a i (yz s) [ygU p N (ya0 data) data i]else a
def yai (a:dA) (s:Int) (data:List Int):dA:=(List.range a.2.2.1.length).foldl (ycT (yo a.2.1 s) a.2.1.1 s data) a
theorem yBQ (p N s:Int) (data:List Int) (a:dA) (i:Nat):(ycT p N s data a i).2.2.1.length=a.2.2.1.length:=by
 unfold ycT; cases yck a i s
 ·rfl
 ·exact ymo _ _ _ _
theorem yEE (p N s:Int) (data:List Int) {a:dA} (i:Nat) (h:ya a=true):ycT p N s data a i=a:=by
 unfold ycT; cases yck a i s
 ·rfl
 ·exact ylq h _ _ _
theorem yED (p N s:Int) (data:List Int) (a:dA) (i:Nat):yp (ycT p N s data a i)=yp a:=by
 unfold ycT; cases yck a i s
 ·rfl
 ·exact yfJ _ _ _ _
theorem yiq (a:dA) (s:Int) (data:List Int):yp (yai a s data)=yp a:=yk8 (yED _ _ _ _) _ _
theorem yYb {N i p:Int} (h:3≤N∧N≤5) (hi:0≤i∧i<N) (hp:0≤p∧p≤N-1) (hne:i≠p):0≤(i-p-1+N).tmod N∧(i-p-1+N).tmod N<N-1:=by
 rw[Int.tmod_eq_emod_of_nonneg (by omega)];have:N=3∨N=4∨N=5:=by omega
 rcases this with rfl | rfl | rfl<;>omega
def yh (a:dA) (i:Int):dM:=nth a.2.2.1 i yf
theorem yVd {a:dA} {m i:Int} {x:dM} (hm:inb m a.2.2.1.length=true) (hi:0≤i):yh (yjw a m x) i=bif m==i then x else yh a i:=yzA hm hi
def yds (n:Int) (s:List Int) (m:dM):dM:=bif m.2.2.1 then m else(yQ m n s).1
def Did (g:dM→dM) (i:Int) (a r:dA):Prop:=yp r=yp a∧r.2.2.1.length=a.2.2.1.length ∧ ((ya r=false∧ ∀j,0≤j→yh r j=bif i==j then g (yh a j)else yh a j)∨(ya r=true∧ ∀j,yh r j=yh a j))
theorem ys6 {a:dA} {m:Int} (n:Int) (s:List Int) (h:ya a=false) (hm:inb m a.2.2.1.length=true):Did (yds n s) m a (ybk a m n s):=by
 refine⟨yfJ _ _ _ _,ymo _ _ _ _,?_⟩;have hd:=yUK h m n s;unfold ybk at hd ⊢;cases hf:(nth a.2.2.1 m yf).2.2.1
 ·rw[hf]at hd
  cases ho:(opA a).1
  ·rw[ho]at hd
   refine .inr ⟨hd,fun j=> ?_⟩;show nth (opA a).2.2.2.1 j yf=yh a j;rw[yaE]; rfl
  ·rw[ho]at hd
   refine .inl ⟨hd,fun j hj=> ?_⟩;show yh (yjw (opA a).2 m (yQ (nth a.2.2.1 m yf) n s).1) j=_;rw[yVd (by rw[yaE]; exact hm) hj];cases hj2:(m==j)
   ·show nth (opA a).2.2.2.1 j yf=yh a j
    rw[yaE]; rfl
   ·have:=beq_iff_eq.1 hj2
    subst this;show _=yds n s (yh a m);unfold yds yh;rw[hf]; rfl
 ·refine .inl ⟨h,fun j hj=> ?_⟩
  cases hj2:(m==j)
  ·rfl
  ·have:=beq_iff_eq.1 hj2
   subst this;show yh a m=yds n s (yh a m);unfold yds yh;rw[hf]; rfl
theorem yW1 {a:dA} {i:Nat} (h:ya a=false) (hm:i<a.2.2.1.length):Did yx i a (yS a i):=by
 refine⟨yFW _ _,yjA _ _,?_⟩;have hd:=yFX h i;unfold yS at hd ⊢;cases hf:(nth a.2.2.1 i yf).2.2.1
 ·rw[hf]at hd
  cases ho:(opA a).1
  ·rw[ho]at hd
   refine .inr ⟨hd,fun j=> ?_⟩;show nth (opA a).2.2.2.1 j yf=yh a j;rw[yaE]; rfl
  ·rw[ho]at hd
   refine .inl ⟨hd,fun j hj=> ?_⟩;show yh (yjw (opA a).2 i (yx (nth a.2.2.1 i yf))) j=_;rw[yVd (by rw[yaE]; exact zkR hm) hj];cases hj2:((i:Int)==j)
   ·show nth (opA a).2.2.2.1 j yf=yh a j
    rw[yaE]; rfl
   ·have:=beq_iff_eq.1 hj2
    subst this; rfl
 ·refine .inl ⟨h,fun j hj=> ?_⟩
  cases hj2:((i:Int)==j)
  ·rfl
  ·have:=beq_iff_eq.1 hj2
   subst this;show yh a i=yx (yh a i);unfold yx yh;rw[hf,Bool.not_true,Bool.and_false]; rfl
def Adv (g:Int→dM→dM) (a r:dA) (n:Nat):Prop:=yp r=yp a∧r.2.2.1.length=a.2.2.1.length ∧ ∃k:Nat,k≤n∧(∀j:Int,0≤j→yh r j=bif ltb j k then g j (yh a j)else yh a j)∧(ya r=false→k=n)
theorem yym {one:dA→Nat→dA} {g:Int→dM→dM} {a:dA} (hs: ∀b i,ya b=true→one b i=b)
  (ho: ∀(b:dA) (i:Nat),yp b=yp a→b.2.2.1.length=a.2.2.1.length→i<a.2.2.1.length→ya b=false→yh b i=yh a i→Did (g i) i b (one b i)) (hd:ya a=false) :
  ∀n,n≤a.2.2.1.length→Adv g a ((List.range n).foldl one a) n
 | 0,_=>⟨rfl,rfl,0,Nat.le_refl _,fun j hj=>by rw[zk3 (show((0:Nat):Int)≤j by omega)]; rfl,fun _=>rfl⟩
 | n+1,hn=>by
  obtain⟨h1,h2,k,h3,h4,h5⟩:=yym hs ho hd n (by omega);rw[List.range_succ,List.foldl_append,List.foldl_cons,List.foldl_nil];generalize (List.range n).foldl one a=R at h1 h2 h4 h5 ⊢;cases hR:ya R
  ·have hk:=h5 hR
   subst hk;have e:yh R k=yh a k:=by rw[h4 k (by omega),zk3 (Int.le_refl _)]; rfl
   obtain⟨g1,g2,g3⟩:=ho R k h1 h2 (by omega) hR e;refine⟨g1.trans h1,g2.trans h2,?_⟩;rcases g3 with⟨g3,g4⟩ | ⟨g3,g4⟩
   ·refine⟨k+1,Nat.le_refl _,fun j hj=> ?_,fun _=>rfl⟩
    rw[g4 j hj];by_cases hj2:(k:Int)=j
    ·subst hj2
     rw[show((k:Int)==(k:Int))=true from beq_self_eq_true _,zky (show(k:Int)<((k+1:Nat):Int)by omega),e]; try rfl
    ·rw[show((k:Int)==j)=false from beq_eq_false_iff_ne.2 hj2,cond_false,h4 j hj,show ltb j ((k+1:Nat):Int)=ltb j k by rw[Bool.eq_iff_iff,zka,zka]; omega]
   ·refine⟨k,by omega,fun j hj=>by rw[g4 j,h4 j hj],fun h=> ?_⟩
    rw[g3]at h; cases h
  ·rw[hs R n hR]
   exact⟨h1,h2,k,by omega,h4,fun h=>by rw[hR]at h; cases h⟩
theorem yLj {a:dA} (hd:ya a=false):Adv (fun _=>yx) a (yc a) a.2.2.1.length :=
 yym (one:=yS) (g:=fun _=>yx) (fun _ i h=>yAc i h) (fun b i _ h2 hi hb _=>yW1 hb (by omega)) hd _ (Nat.le_refl _)
theorem yUi {a b:dA} (h:yp b=yp a) (i:Int):yF8 b i=yF8 a i:=by
 unfold yp at h;simp only[Prod.mk.injEq]at h;obtain⟨h1,h2,h3,h4,h5,h6,h7,h8,h9⟩:=h;unfold yF8;rw[h1,h2,h3,h4,h6,h7]
theorem yol {a b:dA} (h:yp b=yp a):b.2.2.2.2.2.2.2.1=a.2.2.2.2.2.2.2.1:=congrArg (fun x=>x.2.2.2.2.2.2.1) h
theorem yDf {a b:dA} (h:yp b=yp a):b.2.2.2.2.2.2.2.2.2.2.2=a.2.2.2.2.2.2.2.2.2.2.2:=congrArg (fun x=>x.2.2.2.2.2.2.2.2) h
theorem yF2 {a b:dA} (h:yp b=yp a):b.1=a.1:=congrArg (fun x=>x.1) h
def yMV (a:dA) (i:Int) (m:dM):dM:=yds (a.2.2.2.2.2.2.2.1.tmod 2) (yk (yF8 a i)) m
theorem yUx {a:dA} (hd:ya a=false):Adv (yMV a) a ((List.range a.2.2.1.length).foldl yW a) a.2.2.1.length :=
 yym (one:=yW) (g:=yMV a) (fun _ i h=>ylq h _ _ _) (fun b i h1 h2 hi hb _=>by
  have:=ys6 (b.2.2.2.2.2.2.2.1.tmod 2) (yk (yF8 b i)) hb (show inb (i:Int) b.2.2.1.length=true from zkR (by omega));rw[yol h1,yUi h1]at this;unfold yMV yW;rw[yol h1,yUi h1]
  exact this) hd _ (Nat.le_refl _)
theorem yVo {a:dA} (r:dN) (hd:ya a=false):Adv (fun _=>yds (yq r.1) (ybt r)) a ((List.range a.2.2.1.length).foldl (yfM r) a) a.2.2.1.length :=
 yym (one:=yfM r) (g:=fun _=>yds (yq r.1) (ybt r)) (fun _ i h=>yU4 r i h) (fun b i _ h2 hi hb _=>ys6 _ _ hb (zkR (by omega))) hd _ (Nat.le_refl _)
def yav (L B i s:Int) (m:dM):Bool:= !m.2.2.1&&(i !=L||ltb s B)
theorem yVj {a:dA} {i s:Int} (hi:inb i a.2.2.1.length=true):yck a i s=yav a.2.2.2.1 a.2.2.2.2.1 i s (yh a i):=by
 unfold yck yav yh;rw[hi]; rfl
def yiM (L B p N s:Int) (d:List Int) (i:Int) (m:dM):dM:=bif yav L B i s m then(yQ m (yz s) [ygU p N (ya0 d) d i]).1 else m
theorem yUj {a:dA} (s:Int) (d:List Int) (hd:ya a=false):Adv (yiM a.2.2.2.1 a.2.2.2.2.1 (yo a.2.1 s) a.2.1.1 s d) a (yai a s d) a.2.2.1.length :=
 yym (one:=ycT (yo a.2.1 s) a.2.1.1 s d) (g:=yiM a.2.2.2.1 a.2.2.2.2.1 (yo a.2.1 s) a.2.1.1 s d) (fun _ i h=>yEE _ _ _ _ i h) (fun b i h1 h2 hi hb _=>by
  have hib:inb (i:Int) b.2.2.1.length=true:=zkR (by omega);unfold ycT;rw[yVj hib,yd4 h1,ycL h1];cases hl:yav a.2.2.2.1 a.2.2.2.2.1 i s (yh b i)
  ·refine⟨rfl,rfl,.inl ⟨hb,fun j hj=> ?_⟩⟩
   by_cases hj2:(i:Int)=j
   ·subst hj2
    rw[beq_self_eq_true];show yh b i=yiM _ _ _ _ _ _ _ (yh b i);unfold yiM;rw[hl]; rfl
   ·rw[show((i:Int)==j)=false from beq_eq_false_iff_ne.2 hj2]; rfl
  ·obtain⟨g1,g2,g3⟩:=ys6 (yz s) [ygU (yo a.2.1 s) a.2.1.1 (ya0 d) d i] hb hib
   refine⟨g1,g2,g3.imp (fun⟨g3,g4⟩=>⟨g3,fun j hj=> ?_⟩) id⟩;show yh (ybk b i (yz s) _) j=_;rw[g4 j hj];by_cases hj2:(i:Int)=j
   ·subst hj2
    rw[beq_self_eq_true,cond_true,cond_true];unfold yiM yds;rw[hl,cond_true];simp only[yav,Bool.and_eq_true,Bool.not_eq_true']at hl;rw[hl.1]; rfl
   ·rw[show((i:Int)==j)=false from beq_eq_false_iff_ne.2 hj2]; rfl) hd _ (Nat.le_refl _)
def yu (a:dA):dA:=bif leb 4 (i64.wrap (a.2.2.2.2.2.1-a.2.2.2.2.2.2.1))then yi a else a
def yI (a:dA) (s:Int) (d:List Int):Int×dA :=bif ya (yu a)then(6,yu a)else bif ya (yN (yu a) ((yu a).2.2.2.2.2.1,s,d))then(6,yN (yu a) ((yu a).2.2.2.2.2.1,s,d))else (bif ya (yai (yam (yN (yu a) ((yu a).2.2.2.2.2.1,s,d))) s d)then 6 else 0,yai (yam (yN (yu a) ((yu a).2.2.2.2.2.1,s,d))) s d)
theorem yRB (a:dA):(yi a).2.1=a.2.1:=by
 unfold yi;cases ya (yc a)
 ·exact(yP (ycl (yH (yc a)))).trans (show(yc a).2.1=a.2.1 from yP (yax a))
 ·exact yP (yax a)
theorem yPM (a:dA):(yu a).2.1=a.2.1:=by
 unfold yu;cases leb 4 (i64.wrap (a.2.2.2.2.2.1-a.2.2.2.2.2.2.1))
 ·rfl
 ·exact yRB a
theorem yh4 {a:dA} (h:yad a) {i:Int} (h0:0≤i) (h1:i<a.2.1.1):yD (yh a i)=true∧((yh a i).1.length:Int)=6+a.2.1.2∧((yh a i).2.2.1=true→i=a.2.2.2.1∨a.2.2.2.2.2.2.2.2.2.2.2=true):=by
 have:=h.1.1 i.toNat (by have:=h.1.2; omega);unfold yBV at this;rw[Int.toNat_of_nonneg h0]at this;exact this
theorem yqK {s:Int} (h0:0≤s) (h1:s≤1000):yz s=s+6:=by
 unfold yz;rw[zk2 h0,zk2 (show s≤1099511627776 by omega)]; rfl
def yaw (a:dA) (s i:Int):Bool:=yav a.2.2.2.1 a.2.2.2.2.1 i s (yh a i)&& !(yd2 (yh a i) (s+6))
def yDc (V:Int→Int→Int) (a:dA):Prop:= ∀i s,0≤i→i<a.2.1.1→0≤s→s<a.2.1.2→yaw a s i=true→yeV (yh a i) (s+6)= [V s i]
def ydG (V:Int→Int→Int) (N:Int) (s:Int):List Int:=(List.range N.toNat).map (fun(i:Nat)=>V s i)
structure EvV (g:dG) (V:Int→Int→Int):Prop where
 ev: ∀s,0≤s→s<g.2→ya0 (ydG V g.1 s)=0
 ew: ∀s i,0≤s→s<g.2→0≤i→i<g.1→isW (V s i)=true
theorem ypd {V:Int→Int→Int} {a:dA} {i s:Int} (hg:yd a.2.1=true) (hk:yad a) (hv:yDc V a) (i0:0≤i) (i1:i<a.2.1.1) (s0:0≤s) (s1:s<a.2.1.2):yw a i s=yaw a s i∧(yaw a s i=true→yhn a i s=V s i):=by
 have hge:=yl.1 hg;have hin:inb i a.2.2.1.length=true:=zj6.2 (by have:=hk.1.2; omega);obtain⟨d1,d2,d3⟩:=yh4 hk i0 i1
 have key:yav a.2.2.2.1 a.2.2.2.2.1 i s (yh a i)=true→ycv a i s=bif yd2 (yh a i) (s+6)then([],false)else(yeV (yh a i) (s+6),true):=fun hl=>by
  simp only[yav,Bool.and_eq_true,Bool.not_eq_true']at hl;unfold ycv;rw[yqK s0 (by omega)];exact yWT d1 hl.1 (zj6.2 (show 0≤s+6∧s+6<((yh a i).1.length:Int)by omega))
 have hw:yw a i s=yaw a s i:=by
  unfold yw;rw[yVj hin];cases hl:yav a.2.2.2.1 a.2.2.2.2.1 i s (yh a i)
  ·unfold yaw; rw[hl]; rfl
  ·rw[key hl]
   cases hb:yd2 (yh a i) (s+6)
   ·have hh:yaw a s i=true:=by unfold yaw; rw[hl,hb]; rfl
    rw[hh,cond_false,hv i s i0 i1 s0 s1 hh]; rfl
   ·unfold yaw; rw[hl,hb]; rfl
 refine⟨hw,fun hh=> ?_⟩;unfold yhn;rw[hw,hh,cond_true];have hh':=hh;unfold yaw at hh';rw[Bool.and_eq_true,Bool.not_eq_true']at hh';rw[key hh'.1,hh'.2,cond_false,hv i s i0 i1 s0 s1 hh]; rfl
theorem yW9: ∀(l:List Int) (k:Nat) (x:Int),k<l.length→yea (l.set k x)=yea l ^^^ bv (nth l k 0) ^^^ bv x:=by
 intro l k x hk
 have e1:l=l.take k++nth l k 0::l.drop (k+1):=by
  rw[zkS,zkJ hk,← List.drop_eq_getElem_cons hk,List.take_append_drop]
 have e2:l.set k x=l.take k++x::l.drop (k+1):=by
  rw[List.set_eq_take_append_cons_drop,if_pos hk]
 have fo: ∀(l:List Int) (v:BitVec 64),l.foldl (fun v x=>v ^^^ bv x) v=v ^^^ yea l:=by
  intro l
  induction l with
  | nil=>intro v; show v=v ^^^ 0#64; rw[BitVec.xor_zero]
  | cons y t ih =>
   intro v;unfold yea;rw[List.foldl_cons,List.foldl_cons,ih,ih (0#64 ^^^ bv y),BitVec.zero_xor,BitVec.xor_assoc]
 have cut: ∀(A:List Int) (y:Int) (B:List Int),yea (A++y::B)=yea A ^^^ bv y ^^^ yea B:=fun A y B=>by
  show(A++y::B).foldl _ _=_;rw[List.foldl_append,List.foldl_cons,fo]; rfl
 rw[e2,cut]
 conv=>rhs; rw[e1]
 rw[cut];have hn:nth (List.take k l++nth l (↑k) 0::List.drop (k+1) l) (k:Int) 0=nth l k 0:=by rw[← e1]
 rw[hn,BitVec.xor_assoc (yea (l.take k)),BitVec.xor_assoc (yea (l.take k)),BitVec.xor_comm (bv (nth l k 0)),BitVec.xor_assoc (yea (l.take k)),yR0,BitVec.xor_comm (bv x),BitVec.xor_assoc]
theorem yVS {l:List Int} (h:ya0 l=0):yea l=0#64:=by
 rw[ylJ]at h;have:=congrArg bv h;rw[ysP]at this;rw[this]; rfl
theorem yRS {p:Nat→Bool}: ∀{n:Nat},ydE p n=false→ ∀j,j<n→p j=true∨(j:Int)=yB p n
 | 0,_,j,hj=>absurd hj (Nat.not_lt_zero _)
 | n+1,h,j,hj=>by
  have h':ydE p n=false:=by
   unfold ydE at h ⊢;rw[List.range_succ,List.any_append,Bool.or_eq_false_iff]at h;exact h.1
  have hl:(!p n&&leb 0 (yB p n))=false:=by
   unfold ydE at h;rw[List.range_succ,List.any_append,Bool.or_eq_false_iff]at h;simpa using h.2
  unfold yB;rcases Nat.lt_succ_iff_lt_or_eq.1 hj with hj | rfl
  ·rcases yRS h' j hj with h1 | h1
   ·exact .inl h1
   ·cases hp:p n
    ·rw[hp,← h1]at hl
     rw[zk2 (show(0:Int)≤j by omega)]at hl; cases hl
    ·exact .inr h1
  ·cases hp:p j
   ·exact .inr rfl
   ·exact .inl rfl
theorem yRR {p:Nat→Bool}: ∀{n:Nat},leb 0 (yB p n)=false→ ∀j,j<n→p j=true
 | 0,_,j,hj=>absurd hj (Nat.not_lt_zero _)
 | n+1,h,j,hj=>by
  unfold yB at h;cases hp:p n
  ·rw[hp,cond_false,zk2 (show(0:Int)≤n by omega)]at h; cases h
  ·rw[hp,cond_true]at h
   rcases Nat.lt_succ_iff_lt_or_eq.1 hj with hj | rfl
   ·exact yRR h j hj
   ·exact hp
theorem yFZ (V:Int→Int→Int) (N s:Int):(ydG V N s).length=N.toNat:=by unfold ydG; rw[List.length_map,List.length_range]
theorem yWo (V:Int→Int→Int) (N s:Int) {j:Nat} (h:j<(ydG V N s).length):(ydG V N s)[j]=V s j:=by simp[ydG]
theorem yUP (V:Int→Int→Int) {N s i:Int} (h0:0≤i) (h1:i<N):nth (ydG V N s) i 0=V s i:=by
 unfold ydG nth;rw[zkJ (by rw[List.length_map,List.length_range]; omega),List.getElem_map,List.getElem_range,Int.toNat_of_nonneg h0]
theorem yOV {V:Int→Int→Int} {a:dA} {s:Int} (hg:yd a.2.1=true) (hk:yad a) (he:EvV a.2.1 V) (hv:yDc V a) (s0:0≤s) (s1:s<a.2.1.2) :
  yF a s=bif ydE (fun(i:Nat)=>yaw a s i) a.2.1.1.toNat then([],false)else(ydG V a.2.1.1 s,true):=by
 have hw: ∀i:Nat,i<a.2.1.1.toNat→yw a i s=yaw a s i:=fun i hi=>(ypd hg hk hv (by omega) (by omega) s0 s1).1
 have hm: ∀n,n≤a.2.1.1.toNat→yB (fun(i:Nat)=>yw a i s) n=yB (fun(i:Nat)=>yaw a s i) n:=by
  intro n
  induction n with
  | zero=>intro _; rfl
  | succ n ih=>intro hn; unfold yB; rw[hw n (by omega),ih (by omega)]
 have h2:ydE (fun(i:Nat)=>yw a i s) a.2.1.1.toNat=ydE (fun(i:Nat)=>yaw a s i) a.2.1.1.toNat:=by
  unfold ydE;rw[Bool.eq_iff_iff,List.any_eq_true,List.any_eq_true];constructor
  ·rintro⟨i,hi,h⟩
   have hi':=List.mem_range.1 hi;exact⟨i,hi,by dsimp only at h ⊢; rw[hw i hi',hm i (by omega)]at h; exact h⟩
  ·rintro⟨i,hi,h⟩
   have hi':=List.mem_range.1 hi;exact⟨i,hi,by dsimp only at h ⊢; rw[hw i hi',hm i (by omega)]; exact h⟩
 unfold yF;rw[h2,hm _ (Nat.le_refl _)];cases hc:ydE (fun(i:Nat)=>yaw a s i) a.2.1.1.toNat
 ·simp only[cond_false]
  cases hn:leb 0 (yB (fun(i:Nat)=>yaw a s i) a.2.1.1.toNat)
  ·simp only[cond_false]
   congr 1;refine List.map_congr_left fun i hi=> ?_
   have hi':=List.mem_range.1 hi;exact(ypd hg hk hv (by omega) (by omega) s0 s1).2 (yRR hn i hi')
  ·simp only[cond_true]
   congr 1;rcases yFi (fun(i:Nat)=>yaw a s i) a.2.1.1.toNat with h3 | ⟨k0,k1,k2⟩
   ·rw[h3]at hn; cases hn
   ·have hu:=yRS hc
    generalize yB (fun(i:Nat)=>yaw a s i) a.2.1.1.toNat=k at *;obtain⟨k,rfl⟩: ∃m:Nat,k=m:=⟨k.toNat,by omega⟩;rw[Int.toNat_natCast]at k2 ⊢;have hkl:k<(ydG V a.2.1.1 s).length:=by rw[yFZ]; omega
    have e:yY a s a.2.1.1.toNat=(ydG V a.2.1.1 s).set k 0:=by
     refine List.ext_getElem (by rw[yd9,List.length_set,yFZ]) fun j h3 h4=> ?_
     rw[yd9]at h3;rw[List.getElem_set];have e1:(yY a s a.2.1.1.toNat)[j]'(by rw[yd9]; exact h3)=yhn a j s:=by unfold yY; simp
     have e2:(ydG V a.2.1.1 s)[j]'(by rw[yFZ]; exact h3)=V s j:=by unfold ydG; simp
     rw[e1];by_cases hj:k=j
     ·subst hj
      rw[if_pos rfl];unfold yhn;rw[hw k (by omega),k2]; rfl
     ·rw[if_neg hj,e2]
      rcases hu j h3 with h5 | h5
      ·exact(ypd hg hk hv (by omega) (by omega) s0 s1).2 h5
      ·exact absurd h5 (by omega)
    have hx:ya0 (yY a s a.2.1.1.toNat)=V s k:=by
     rw[e,ylJ,yW9 _ _ _ hkl,yVS (he.ev s s0 s1),BitVec.zero_xor,show bv 0=0#64 by decide,BitVec.xor_zero,yUP V (by omega) (by omega)];have:=ysY.1 (he.ew s k s0 s1 (by omega) (by omega));exact yW2 (by omega) (by omega)
    rw[hx,e,List.set_set];refine List.ext_getElem (by rw[List.length_set]) fun j h3 h4=> ?_
    rw[List.getElem_set];by_cases hj:k=j
    ·subst hj
     rw[if_pos rfl];exact(yWo _ _ _ h4).symm
    ·rw[if_neg hj]
 ·rfl
def yty:Code:=(f215.body).getD .skip
def yBG:Env:=zkw TT [] []
theorem yPU:FrOk prog ⟨yBG,22,fun _=>none⟩ yty:=zkA mixed ye trivial
def yDF:Nat→Option Seg:=fun _=>none
def ydq:Shape:=⟨[(1,false,[.int .i64]),(2,false,[.ptr 0 0]),(5,false,[.int .i64])],[(0,[.int .i64,.int .i64,.int .i64,.br tM,.int .i64,.int .i64,.int .i64,.int .i64,.int .i64,.br tW,.int .i64,.bool,.bool])],[]⟩
def yhV:Shape:=⟨[(1,false,[.int .i64]),(2,false,[.ptr 0 0]),(5,false,[.ci .i64 0])],[(0,[.int .i64,.int .i64,.int .i64,.br tM,.int .i64,.int .i64,.int .i64,.int .i64,.int .i64,.br tW,.int .i64,.bool,.bool])],[]⟩
def yhR:Shape:=⟨[],[],[]⟩
def yhZ:Shape:=⟨[(4,false,[.int .i64])],[],[]⟩
abbrev yqV (v0 v1:Int) (v2:dA):(ydq).X:=(((v0,()),((),()),(v1,()),()),((v2.1,v2.2.1.1,v2.2.1.2,v2.2.2.1,v2.2.2.2.1,v2.2.2.2.2.1,v2.2.2.2.2.2.1,v2.2.2.2.2.2.2.1,v2.2.2.2.2.2.2.2.1,v2.2.2.2.2.2.2.2.2.1,v2.2.2.2.2.2.2.2.2.2.1,v2.2.2.2.2.2.2.2.2.2.2.1,v2.2.2.2.2.2.2.2.2.2.2.2,()),()),())
abbrev yNb (v0:Int) (v1:dA):(yhV).X:=(((v0,()),((),()),((),()),()),((v1.1,v1.2.1.1,v1.2.1.2,v1.2.2.1,v1.2.2.2.1,v1.2.2.2.2.1,v1.2.2.2.2.2.1,v1.2.2.2.2.2.2.1,v1.2.2.2.2.2.2.2.1,v1.2.2.2.2.2.2.2.2.1,v1.2.2.2.2.2.2.2.2.2.1,v1.2.2.2.2.2.2.2.2.2.2.1,v1.2.2.2.2.2.2.2.2.2.2.2,()),()),())
abbrev yM7  :(yhR).X:=((),(),())
abbrev yBf (v0:Int):(yhZ).X:=(((v0,()),()),(),())
def yrr (v0 v1 v2 v3 v4:Int) (v5:List dM) (v6 v7 v8 v9 v10:Int) (v11:List dW) (v12:Int) (v13 v14:Bool):Option ((ydq).X ⊕ ((yhR).X ⊕ (yhZ).X)) :=bif(ltb v1 (v11.length:Int))then bif(inb v1 v11.length)then bif((nth v11 v1 (0,[])).1==v0)then some (.inr (.inr (((v1,()),()),(),()))) else some (.inl (((v0,()),((),()),((i64.wrap (v1+1)),()),()),((v2,v3,v4,v5,v6,v7,v8,v9,v10,v11,v12,v13,v14,()),()),())) else none else some (.inr (.inl ((),(),())))
def ydz (x:(ydq).X):=yrr x.1.1.1 x.1.2.2.1.1 x.2.1.1.1 x.2.1.1.2.1 x.2.1.1.2.2.1 x.2.1.1.2.2.2.1 x.2.1.1.2.2.2.2.1 x.2.1.1.2.2.2.2.2.1 x.2.1.1.2.2.2.2.2.2.1 x.2.1.1.2.2.2.2.2.2.2.1 x.2.1.1.2.2.2.2.2.2.2.2.1 x.2.1.1.2.2.2.2.2.2.2.2.2.1 x.2.1.1.2.2.2.2.2.2.2.2.2.2.1 x.2.1.1.2.2.2.2.2.2.2.2.2.2.2.1 x.2.1.1.2.2.2.2.2.2.2.2.2.2.2.2.1
def yA8 (x:(yhV).X):(ydq).X:=(((x.1.1.1,()),((),()),(0,()),()),((x.2.1.1.1,x.2.1.1.2.1,x.2.1.1.2.2.1,x.2.1.1.2.2.2.1,x.2.1.1.2.2.2.2.1,x.2.1.1.2.2.2.2.2.1,x.2.1.1.2.2.2.2.2.2.1,x.2.1.1.2.2.2.2.2.2.2.1,x.2.1.1.2.2.2.2.2.2.2.2.1,x.2.1.1.2.2.2.2.2.2.2.2.2.1,x.2.1.1.2.2.2.2.2.2.2.2.2.2.1,x.2.1.1.2.2.2.2.2.2.2.2.2.2.2.1,x.2.1.1.2.2.2.2.2.2.2.2.2.2.2.2.1,()),()),())
def yCn:Code:=(zd7 yty 64 52).getD .skip
theorem yPK:zd7 yty 64 13=some (.block 0 (.loop yCn)):=by kernel_rfl
theorem yRp (x:(ydq).X):zhu ⟨yBG,22,yDF⟩ 0 yCn 52 ydq yhR yhZ x=ydz x:=by kernel_rfl
def yBd (x:(yhV).X):Nat:=18446744073709551616
def ysj (x:(yhV).X):Option ((yhR).X ⊕ (yhZ).X):=zF ydz (yBd x) (yA8 x)
def yBD:Seg:=⟨yhV,yhR,yhZ,ysj⟩
def ySt:Nat→Option Seg:=fun q=>bif Nat.beq q 13 then some yBD else yDF q
theorem yPV:FrOk prog ⟨yBG,22,ySt⟩ yty:=(yPU).loop (sg:=yBD) ydq yA8 (by decide) yPK ydz yBd (by decide) (fun _=>rfl) (fun x r _ h=>h) yRp
abbrev ytB:List Par:= [.rd tA,.rd tI]
abbrev yBO:List OT:= [⟨false,tI,.fz⟩]
def yvZ (a0:dA) (a1:Int):Option (zaY yBO×zak ytB) :=zkt (ysj (((a1,()),((),()),((),()),()),((a0.1,a0.2.1.1,a0.2.1.2,a0.2.2.1,a0.2.2.2.1,a0.2.2.2.2.1,a0.2.2.2.2.2.1,a0.2.2.2.2.2.2.1,a0.2.2.2.2.2.2.2.1,a0.2.2.2.2.2.2.2.2.1,a0.2.2.2.2.2.2.2.2.2.1,a0.2.2.2.2.2.2.2.2.2.2.1,a0.2.2.2.2.2.2.2.2.2.2.2,()),()),())) (fun y0 =>some (((-1),()),())) (fun y0 =>some ((y0.1.1.1,()),()))
theorem yTo:ConOk prog 215 ⟨ytB,yBO,fun x=>yvZ x.1 x.2.1⟩:=zkI (yPV) func215 ntmps215.symm fun x=>by kernel_rfl
def yhk (a0:dA) (a1:Int):Int:=yL a0.2.2.2.2.2.2.2.2.1 a1
theorem yUF (a0:dA) (a1:Int) (hk:zjx ytB (a0,a1,())):yvZ a0 a1=(fun n=>some ((n,()),())) (yhk a0 a1):=by
 have hb:a0.2.2.2.2.2.2.2.2.1.length*32≤2^47:=hk.1.2.2.2.2.2.2.2.2.1.1
 have h1:ysj (yNb a1 a0)=some (bif leb 0 (yL a0.2.2.2.2.2.2.2.2.1 a1)then .inr (yBf (yL a0.2.2.2.2.2.2.2.2.1 a1))else .inl yM7) :=
  yFg (step:=ydz) a0.2.2.2.2.2.2.2.2.1 (0,[]) (fun i=>yqV a1 i a0) (fun e:dW=>e.1==a1) (fun i=> .inr (yBf i)) _ (fun i hi=>by
   simp only[ydz,yqV,yrr,zky (show(i:Int)<a0.2.2.2.2.2.2.2.2.1.length by omega),cond_true,wq ((i:Int)+1) (by omega) (by omega),Int.natCast_add,Int.natCast_one,Int.toNat_natCast,zkR hi,zkS]
   cases((a0.2.2.2.2.2.2.2.2.1.getD i (0,[])).1==a1)<;>rfl) (by simp only[ydz,yqV,yrr,zk3 (Int.le_refl _),cond_false]) _ (by show _<18446744073709551616; omega)
 unfold yvZ yhk;rw[h1];cases h:leb 0 (yL a0.2.2.2.2.2.2.2.2.1 a1)
 ·rw[show yL a0.2.2.2.2.2.2.2.2.1 a1= -1 from yF5 h]; rfl
 ·rfl
def yvL:Con:=⟨ytB,yBO,fun x=>(fun n=>some ((n,()),())) (yhk x.1 x.2.1)⟩
theorem yFJ:ConOk prog 215 yvL:=(yTo).mono (fun x r hk h=>(yUF x.1 x.2.1 hk).trans h)
def ySq:Code:=(f216.body).getD .skip
def yST:Env:=zkw TT [(78,yCr),(82,yK),(200,yfv)] []
theorem yJr:FrOk prog ⟨yST,48,fun _=>none⟩ ySq:=zkA mixed ye ⟨yTs,yU,ykJ,trivial⟩
abbrev yvd:List Par:= [.rd tA,.rd tI,.rd tL]
abbrev yvG:List OT:= [⟨false,tI,.fz⟩]
def yBx (a0:dA) (a1:Int) (a2:List Int):Option (zaY yvG×zak yvd) :=let r1:=yh9 a0;bif(!(!r1))then bif(!((a2.length:Int) !=(i64.wrap (a0.2.1.1-1))))then let r2:=yaj a2;bif(!r2)then some ((1,()),()) else bif a0.2.2.2.2.2.2.2.2.2.2.1 then some ((6,()),()) else let r3:=yb a1 0 (i64.wrap (a0.2.1.2-1));bif(!r3)then some ((2,()),()) else bif a0.2.2.2.2.2.2.2.2.2.2.2 then some ((5,()),()) else bif(!(leb 60000 a0.2.2.2.2.2.1))then bif(leb 59990 a0.2.2.2.2.2.2.2.1)then some ((7,()),()) else some ((0,()),()) else some ((7,()),()) else some ((1,()),()) else some ((1,()),())
theorem yOa:ConOk prog 216 ⟨yvd,yvG,fun x=>yBx x.1 x.2.1 x.2.2.1⟩:=zkI (yJr) func216 ntmps216.symm fun x=>by kernel_rfl
def yal (a0:dA) (a1:Int) (a2:List Int):Int :=let r1:=yh9 a0;bif(!(!r1))then bif(!((a2.length:Int) !=(i64.wrap (a0.2.1.1-1))))then let r2:=yaj a2;bif(!r2)then 1 else bif a0.2.2.2.2.2.2.2.2.2.2.1 then 6 else let r3:=yb a1 0 (i64.wrap (a0.2.1.2-1));bif(!r3)then 2 else bif a0.2.2.2.2.2.2.2.2.2.2.2 then 5 else bif(!(leb 60000 a0.2.2.2.2.2.1))then bif(leb 59990 a0.2.2.2.2.2.2.2.1)then 7 else 0 else 7 else 1 else 1
def yA1:Con:=⟨yvd,yvG,fun x=>(fun n=>some ((n,()),())) (yal x.1 x.2.1 x.2.2.1)⟩
theorem yQu (a0:dA) (a1:Int) (a2:List Int):yBx a0 a1 a2=(fun n=>some ((n,()),())) (yal a0 a1 a2):=zkV (p:=fun(n:Int)=>((n,()),())) (zkG (p:=fun(n:Int)=>((n,()),())) (zkG (p:=fun(n:Int)=>((n,()),())) (zkG (p:=fun(n:Int)=>((n,()),())) rfl (zkG (p:=fun(n:Int)=>((n,()),())) rfl (zkG (p:=fun(n:Int)=>((n,()),())) rfl (zkG (p:=fun(n:Int)=>((n,()),())) rfl (zkG (p:=fun(n:Int)=>((n,()),())) (zkG (p:=fun(n:Int)=>((n,()),())) rfl rfl) rfl))))) rfl) rfl)
theorem yRg:ConOk prog 216 yA1:=(yOa).mono (fun x r _ h=>(yQu x.1 x.2.1 x.2.2.1).trans h)
def yF3 (l:List dW) (k:Nat):List dW:=l.take k++l.drop (k+1)
def yaF (a:dA) (s:Int):Int×dA :=bif ltb (yL a.2.2.2.2.2.2.2.2.1 s) 0 then(0,a)else bif yal a s (nth a.2.2.2.2.2.2.2.2.1 (yL a.2.2.2.2.2.2.2.2.1 s) (0,[])).2 !=0 then(yal a s (nth a.2.2.2.2.2.2.2.2.1 (yL a.2.2.2.2.2.2.2.2.1 s) (0,[])).2,a)else bif(yI a s (nth a.2.2.2.2.2.2.2.2.1 (yL a.2.2.2.2.2.2.2.2.1 s) (0,[])).2).1==0 then (0,ytt (yI a s (nth a.2.2.2.2.2.2.2.2.1 (yL a.2.2.2.2.2.2.2.2.1 s) (0,[])).2).2 (yF3 a.2.2.2.2.2.2.2.2.1 (yL a.2.2.2.2.2.2.2.2.1 s).toNat)) else yI a s (nth a.2.2.2.2.2.2.2.2.1 (yL a.2.2.2.2.2.2.2.2.1 s) (0,[])).2
theorem ytV {a:dA} {s:Int} {d:List Int} (h:yal a s d=0):yR a=true∧(d.length:Int)=a.2.1.1-1∧d.all isW=true∧ya a=false∧y5 a.2.1 s=true∧a.2.2.2.2.2.2.2.2.2.2.2=false∧a.2.2.2.2.2.1<60000∧a.2.2.2.2.2.2.2.1<59990:=by
 unfold yal at h;simp only[yh9,yv0,ycN]at h;cases ha:yR a
 ·rw[ha]at h; exact absurd (show(1:Int)=0 from h) (by decide)
 have hg:=yl.1 (yd1 ha);rw[ha,wq (a.2.1.1-1) (by omega) (by omega),wq (a.2.1.2-1) (by omega) (by omega)]at h;cases hl:((d.length:Int) !=a.2.1.1-1)
 ·cases hw:d.all isW
  ·rw[hl,hw]at h; exact absurd (show(1:Int)=0 from h) (by decide)
  cases hd:a.2.2.2.2.2.2.2.2.2.2.1
  ·cases hs:(leb 0 s&&leb s (a.2.1.2-1))
   ·rw[hl,hw,hd,hs]at h; exact absurd (show(2:Int)=0 from h) (by decide)
   cases hb:a.2.2.2.2.2.2.2.2.2.2.2
   ·cases h6:leb 60000 a.2.2.2.2.2.1
    ·cases h7:leb 59990 a.2.2.2.2.2.2.2.1
     ·have e6: ¬(60000≤a.2.2.2.2.2.1):=fun g=>by rw[zk2 g]at h6; cases h6
      have e7: ¬(59990≤a.2.2.2.2.2.2.2.1):=fun g=>by rw[zk2 g]at h7; cases h7
      exact⟨rfl,bne_eq_false_iff_eq.1 hl,rfl,hd,by unfold y5; rw[yd1 ha,hs]; rfl,rfl,by omega,by omega⟩
     ·rw[hl,hw,hd,hs,hb,h6,h7]at h; exact absurd (show(7:Int)=0 from h) (by decide)
    ·rw[hl,hw,hd,hs,hb,h6]at h; exact absurd (show(7:Int)=0 from h) (by decide)
   ·rw[hl,hw,hd,hs,hb]at h; exact absurd (show(5:Int)=0 from h) (by decide)
  ·rw[hl,hw,hd]at h; exact absurd (show(6:Int)=0 from h) (by decide)
 ·rw[hl]at h; exact absurd (show(1:Int)=0 from h) (by decide)
theorem yRE (a:dA):(yu a).2.2.2.2.2.2.2.2.1=a.2.2.2.2.2.2.2.2.1:=by
 unfold yu;cases leb 4 (i64.wrap (a.2.2.2.2.2.1-a.2.2.2.2.2.2.1))
 ·rfl
 ·exact yH6 a
theorem yU5 (a:dA):(yam a).2.2.2.2.2.2.2.2.1=a.2.2.2.2.2.2.2.2.1:=rfl
theorem yU7 (a:dA) (s:Int) (d:List Int):(yI a s d).2.2.2.2.2.2.2.2.2.1=a.2.2.2.2.2.2.2.2.1:=by
 unfold yI;have h2:=(yMd (ycQ (yu a) ((yu a).2.2.2.2.2.1,s,d))).trans (yRE a);generalize yN (yu a) ((yu a).2.2.2.2.2.1,s,d)=R at h2 ⊢;have h3:=(yMd (yiq (yam R) s d)).trans ((yU5 R).trans h2);generalize yai (yam R) s d=Q at h3 ⊢;cases ya (yu a)
 ·cases ya R
  ·exact h3
  ·exact h2
 ·exact yRE a
theorem yVY {l:List dW} {k:Int} (h0:0≤k) (h1:k<(l.length:Int)):(([]:List dW)++((l.drop (0:Int).toNat).take (k-0).toNat))++((l.drop (k+1).toNat).take ((l.length:Int)-(k+1)).toNat)=yF3 l k.toNat:=by
 unfold yF3;rw[List.nil_append,show(0:Int).toNat=0 from rfl,List.drop_zero,Int.sub_zero,show(k+1).toNat=k.toNat+1 by omega,List.take_of_length_le (l:=l.drop (k.toNat+1)) (by rw[List.length_drop]; omega)]
def yh0 (_:Nat) (a:dA):dA ⊕ (Int×dA):=bif(yaF a (nth a.2.2.2.2.2.2.2.2.1 0 (0,[])).1).1 !=0 then .inr (yaF a (nth a.2.2.2.2.2.2.2.2.1 0 (0,[])).1)else .inl (yaF a (nth a.2.2.2.2.2.2.2.2.1 0 (0,[])).1).2
def yBP (a:dA):Int×dA:=goE yh0 (fun b=>(0,b)) a.2.2.2.2.2.2.2.2.1.length 0 a
theorem yVC {e:dW} {l:List dW}:yL (e::l) e.1=0:=by
 unfold yL;rw[yxn,show(e.1==e.1)=true from beq_self_eq_true _]; rfl
theorem yVD {a:dA} (h:0<a.2.2.2.2.2.2.2.2.1.length) (h0:(yaF a (nth a.2.2.2.2.2.2.2.2.1 0 (0,[])).1).1=0):(yaF a (nth a.2.2.2.2.2.2.2.2.1 0 (0,[])).1).2.2.2.2.2.2.2.2.2.1=a.2.2.2.2.2.2.2.2.1.drop 1:=by
 unfold yaF at h0 ⊢
 have hk:yL a.2.2.2.2.2.2.2.2.1 (nth a.2.2.2.2.2.2.2.2.1 0 (0,[])).1=0:=by
  cases hl:a.2.2.2.2.2.2.2.2.1 with
  | nil=>rw[hl]at h; exact absurd h (Nat.lt_irrefl 0)
  | cons e l=>exact yVC
 rw[hk]at h0 ⊢;generalize (nth a.2.2.2.2.2.2.2.2.1 0 (0,[])).2=D at h0 ⊢;generalize (nth a.2.2.2.2.2.2.2.2.1 0 (0,[])).1=s at h0 ⊢;cases hc:(yal a s D !=0)
 ·rw[hc]at h0
  cases hr:((yI a s D).1==0)
  ·rw[hr]at h0
   exact absurd (show(yI a s D).1=0 from h0) (beq_eq_false_iff_ne.1 hr)
  ·rfl
 ·rw[hc]at h0
  exact absurd (show yal a s D=0 from h0) (bne_iff_ne.1 hc)
def yTJ (g:dG) (e:dW):Prop:=(0≤e.1∧e.1≤g.2-1)∧(e.2.length:Int)=g.1-1∧e.2.all isW=true
theorem yt0 {g:dG} {l:List dW}:yaH g l=true↔(∀e∈l,yTJ g e)∧l.Pairwise (fun x y=>x.1<y.1):=by
 have bad: ∀i,yfW g l i=false↔yTJ g (nth l i (0,[]))∧(0<i→(nth l ((i-1:Nat):Int) (0,[])).1<(nth l i (0,[])).1):=by
  intro i;unfold yfW yTJ;simp only[Bool.or_eq_false_iff,Bool.not_eq_false',bne_eq_false_iff_eq,Bool.and_eq_true,Bool.and_eq_false_iff,decide_eq_false_iff_not,zj7];constructor
  ·rintro⟨h1,h2,h3,h4⟩
   refine⟨⟨h1,h2,h3⟩,fun h0=> ?_⟩;rcases h4 with h4 | h4
   ·exact absurd h0 h4
   ·have:=mt zk2 (by rw[h4]; simp: ¬leb (nth l i (0,[])).1 (nth l ((i-1:Nat):Int) (0,[])).1=true)
    omega
  ·rintro⟨⟨h1,h2,h3⟩,h4⟩
   refine⟨h1,h2,h3,?_⟩;by_cases h0:0<i
   ·exact .inr (zk1 (by have:=h4 h0; omega))
   ·exact .inl h0
 unfold yaH;simp only[Bool.not_eq_true',List.any_eq_false,List.mem_range,Bool.not_eq_true,bad];constructor
 ·intro h
  refine⟨fun e he=> ?_,?_⟩
  ·obtain⟨i,hi,rfl⟩:=List.getElem_of_mem he
   have:=(h i hi).1;rwa[zkS,zkJ hi]at this
  ·rw[List.pairwise_iff_getElem]
   have step: ∀(d i:Nat) (hi:i<l.length) (hj:i+d+1<l.length),l[i].1<l[i+d+1].1:=by
    intro d
    induction d with
    | zero =>
     intro i hi hj;have:=(h (i+1) hj).2 (by omega);rwa[Nat.add_sub_cancel,zkS,zkS,zkJ hi,zkJ hj]at this
    | succ d ih =>
     intro i hi hj;have h1:=ih i hi (by omega);have:=(h (i+d+1+1) hj).2 (by omega);rw[Nat.add_sub_cancel,zkS,zkS,zkJ (show i+d+1<l.length by omega),zkJ (show i+d+1+1<l.length from hj)]at this;exact Int.lt_trans h1 this
   intro i j hi hj hij;have:=step (j-i-1) i hi (by omega);have e:i+(j-i-1)+1=j:=by omega
   simp only[e]at this;exact this
 ·rintro⟨h1,h2⟩ i hi
  rw[List.pairwise_iff_getElem]at h2;refine⟨by rw[zkS,zkJ hi]; exact h1 _ (List.getElem_mem hi),fun h0=> ?_⟩;rw[zkS,zkS,zkJ hi,zkJ (show i-1<l.length by omega)];exact h2 (i-1) i (by omega) hi (by omega)
theorem yRI {g:dG} {l:List dW} (k:Nat) (h:yaH g l=true):yaH g (yF3 l k)=true:=by
 rw[yt0]at h ⊢
 have hs:(yF3 l k).Sublist l:=by
  unfold yF3;have:(l.take k++l.drop (k+1)).Sublist (l.take k++l.drop k):=List.Sublist.append_left (by rw[← List.drop_drop]; exact List.drop_sublist _ _) _;rwa[List.take_append_drop]at this
 exact⟨fun e he=>h.1 e (hs.subset he),h.2.sublist hs⟩
theorem yUJ (e:dW): ∀(l acc:List dW),l.foldl (yb0 e) (true,acc)=(true,acc++l.filter (fun x=>x.1 !=e.1))
 | [],acc=>by simp
 | x::t,acc=>by
  rw[List.foldl_cons];have:yb0 e (true,acc) x=(true,acc++(bif x.1 !=e.1 then[x]else[])):=rfl;rw[this,yUJ e t,List.filter_cons];cases x.1 !=e.1<;>simp
theorem yWd {e:dW} {l:List dW} (h:l.Pairwise (fun x y=>x.1<y.1)):yFK l e=l.filter (fun x=>ltb x.1 e.1)++e::l.filter (fun x=>ltb e.1 x.1):=by
 have: ∀(l acc:List dW),l.Pairwise (fun x y=>x.1<y.1)→(bif(l.foldl (yb0 e) (false,acc)).1 then(l.foldl (yb0 e) (false,acc)).2 else(l.foldl (yb0 e) (false,acc)).2++ [e])=acc++(l.filter (fun x=>ltb x.1 e.1)++e::l.filter (fun x=>ltb e.1 x.1)):=by
  intro l
  induction l with
  | nil=>intro acc _; simp
  | cons x t ih =>
   intro acc h;obtain⟨hx,ht⟩:=List.pairwise_cons.1 h;rw[List.foldl_cons];by_cases hle:e.1≤x.1
   ·have h1:yb0 e (false,acc) x=(true,(acc++ [e])++(bif x.1 !=e.1 then[x]else[])):=by
     unfold yb0; rw[zk2 hle]; rfl
    have h2:t.filter (fun x=>x.1 !=e.1)=t:=List.filter_eq_self.2 (fun y hy=>bne_iff_ne.2 (by have:=hx y hy; omega));have h3:t.filter (fun x=>ltb x.1 e.1)= []:=List.filter_eq_nil_iff.2 (fun y hy=>by rw[zk3 (by have:=hx y hy; omega)]; simp);have h4:t.filter (fun x=>ltb e.1 x.1)=t:=List.filter_eq_self.2 (fun y hy=>zky (by have:=hx y hy; omega));rw[h1,yUJ,h2,List.filter_cons,List.filter_cons,h3,h4,zk3 (show e.1≤x.1 by omega)];by_cases he:x.1=e.1
    ·rw[show(x.1 !=e.1)=false from bne_eq_false_iff_eq.2 he,zk3 (show x.1≤e.1 by omega)]; simp
    ·rw[show(x.1 !=e.1)=true from bne_iff_ne.2 he,zky (show e.1<x.1 by omega)]; simp
   ·have h1:yb0 e (false,acc) x=(false,acc++ [x]):=by
     unfold yb0; rw[zk1 (show x.1<e.1 by omega),show(x.1 !=e.1)=true from bne_iff_ne.2 (by omega)]; rfl
    rw[h1,ih _ ht,List.filter_cons,List.filter_cons,zky (show x.1<e.1 by omega),zk3 (show x.1≤e.1 by omega)];simp
 have:=this l [] h;rw[List.nil_append]at this;exact this
theorem yRJ {g:dG} {l:List dW} {e:dW} (h:yaH g l=true) (he:yTJ g e):yaH g (yFK l e)=true:=by
 rw[yt0]at h ⊢;rw[yWd h.2];refine⟨fun x hx=> ?_,?_⟩
 ·rcases List.mem_append.1 hx with h1 | h1
  ·exact h.1 x (List.mem_filter.1 h1).1
  ·rcases List.mem_cons.1 h1 with rfl | h1
   ·exact he
   ·exact h.1 x (List.mem_filter.1 h1).1
 ·rw[List.pairwise_append,List.pairwise_cons]
  refine⟨h.2.filter _,⟨fun y hy=>zka.1 (List.mem_filter.1 hy).2,h.2.filter _⟩,fun x hx y hy=> ?_⟩;have h1:=zka.1 (List.mem_filter.1 hx).2;rcases List.mem_cons.1 hy with rfl | hy
  ·exact h1
  ·exact Int.lt_trans h1 (zka.1 (List.mem_filter.1 hy).2)
theorem yA4 {g:dG} {l:List dW} (h:yaH g l=true) (hg:yd g=true):l.length≤8:=by
 rw[yt0]at h;have hg:=yl.1 hg
 have:=yU9 (l:=l.map (fun e=>e.1)) (lo:=0) (n:=g.2) (by rw[List.pairwise_map]; exact h.2) (fun x hx=>by
  obtain⟨e,he,rfl⟩:=List.mem_map.1 hx
  have:=(h.1 e he).1; omega) (by omega)
 rw[List.length_map]at this;omega
def ySi:Code:=(f207.body).getD .skip
def ySL:Env:=zkw TT [(162,yCs)] []
theorem yJc:FrOk prog ⟨ySL,18,fun _=>none⟩ ySi:=zkA mixed ye ⟨yTt,trivial⟩
abbrev ynJ:List Par:= [.rd tN]
abbrev yvx:List OT:= [⟨false,tL,(.ow .fz)⟩]
def yre (a0:dN):Option (zaY yvx×zak ynJ) :=let r1:=ybg a0;bif(!r1)then some ((([]:List Int),()),()) else bif(zkl ([21322,a0.1,a0.2.1,(a0.2.2.length:Int)]:List Int).length a0.2.2.length 8)then some (((([21322,a0.1,a0.2.1,(a0.2.2.length:Int)]:List Int)++a0.2.2),()),()) else none
theorem yNZ:ConOk prog 207 ⟨ynJ,yvx,fun x=>yre x.1⟩:=zkI (yJc) func207 ntmps207.symm fun x=>by kernel_rfl
def yjq (a0:dN):List Int:=ybt a0
theorem yQl (a0:dN) (hk:zjx ynJ (a0,())):yre a0=(fun n=>some ((n,()),())) (yjq a0):=by
 unfold yre yjq ybt;cases hr:ybg a0
 ·rfl
 ·have:=(yBy.1 hr).2.2.1
  rw[zkF.2 (show(([21322,a0.1,a0.2.1,(a0.2.2.length:Int)]:List Int).length+a0.2.2.length)*8≤140737488355328 by simp only[List.length_cons,List.length_nil]; omega)]; rfl
def yAS:Con:=⟨ynJ,yvx,fun x=>(fun n=>some ((n,()),())) (yjq x.1)⟩
theorem yQ7:ConOk prog 207 yAS:=(yNZ).mono (fun x r hk h=>(yQl x.1 hk).trans h)
def ypm:Code:=(f169.body).getD .skip
def yxQ:Env:=zkw TT [(91,yAT),(206,yl9),(207,yAS),(208,ykD)] []
theorem yMN:FrOk prog ⟨yxQ,24,fun _=>none⟩ ypm:=zkA mixed ye ⟨yQ8,yvS,yQ7,ys5,trivial⟩
def yCd:Nat→Option Seg:=fun _=>none
def ycI:Shape:=⟨[(0,false,[.ptr 1000000000 0]),(3,false,[.ptr 0 0]),(4,false,[.int .i64])],[(0,[.int .i64,.int .i64,.br tI]),(1000000000,[.int .i64,.int .i64,.int .i64,.at 800000000,.int .i64,.int .i64,.int .i64,.int .i64,.int .i64,.at 800000001,.int .i64,.bool,.bool])],[(800000000,tM,(.pr (.ow .fz) (.pr (.ow (.pr .fz .fz)) (.pr .fz (.ow .fz))))),(800000001,tW,(.pr .fz .fz))]⟩
def ygC:Shape:=⟨[(0,false,[.ptr 1000000000 0]),(3,false,[.ptr 0 0]),(4,false,[.ci .i64 0])],[(0,[.int .i64,.int .i64,.br tI]),(1000000000,[.int .i64,.int .i64,.int .i64,.at 800000000,.int .i64,.int .i64,.int .i64,.int .i64,.int .i64,.at 800000001,.int .i64,.bool,.bool])],[(800000000,tM,(.pr (.ow .fz) (.pr (.ow (.pr .fz .fz)) (.pr .fz (.ow .fz))))),(800000001,tW,(.pr .fz .fz))]⟩
def ygn:Shape:=⟨[(0,false,[.ptr 1000000000 0])],[(1000000000,[.int .i64,.int .i64,.int .i64,.at 800000000,.int .i64,.int .i64,.int .i64,.int .i64,.int .i64,.at 800000001,.int .i64,.bool,.bool])],[(800000000,tM,(.pr (.ow .fz) (.pr (.ow (.pr .fz .fz)) (.pr .fz (.ow .fz))))),(800000001,tW,(.pr .fz .fz))]⟩
def yks:Shape:=⟨[],[],[]⟩
abbrev yox (v0:Int) (v1:dN) (v2:dA):(ycI).X:=((((),()),((),()),(v0,()),()),((v1.1,v1.2.1,v1.2.2,()),(v2.1,v2.2.1.1,v2.2.1.2,(),v2.2.2.2.1,v2.2.2.2.2.1,v2.2.2.2.2.2.1,v2.2.2.2.2.2.2.1,v2.2.2.2.2.2.2.2.1,(),v2.2.2.2.2.2.2.2.2.2.1,v2.2.2.2.2.2.2.2.2.2.2.1,v2.2.2.2.2.2.2.2.2.2.2.2,()),()),(v2.2.2.1,v2.2.2.2.2.2.2.2.2.1,()))
abbrev yJW (v0:dN) (v1:dA):(ygC).X:=((((),()),((),()),((),()),()),((v0.1,v0.2.1,v0.2.2,()),(v1.1,v1.2.1.1,v1.2.1.2,(),v1.2.2.2.1,v1.2.2.2.2.1,v1.2.2.2.2.2.1,v1.2.2.2.2.2.2.1,v1.2.2.2.2.2.2.2.1,(),v1.2.2.2.2.2.2.2.2.2.1,v1.2.2.2.2.2.2.2.2.2.2.1,v1.2.2.2.2.2.2.2.2.2.2.2,()),()),(v1.2.2.1,v1.2.2.2.2.2.2.2.2.1,()))
abbrev yzx (v0:dA):(ygn).X:=((((),()),()),((v0.1,v0.2.1.1,v0.2.1.2,(),v0.2.2.2.1,v0.2.2.2.2.1,v0.2.2.2.2.2.1,v0.2.2.2.2.2.2.1,v0.2.2.2.2.2.2.2.1,(),v0.2.2.2.2.2.2.2.2.2.1,v0.2.2.2.2.2.2.2.2.2.2.1,v0.2.2.2.2.2.2.2.2.2.2.2,()),()),(v0.2.2.1,v0.2.2.2.2.2.2.2.2.1,()))
def yo2 (v0 v1 v2:Int) (v3:List Int) (v4 v5 v6 v7 v8 v9 v10 v11 v12:Int) (v13 v14:Bool) (v15:List dM) (v16:List dW):Option ((ycI).X ⊕ ((ygn).X ⊕ (yks).X)) :=bif(ltb v0 (v15.length:Int))then let r4:=yq v1;let r5:=yjq (v1,v2,v3);bnd (yfI (v4,(v5,v6),v15,v7,v8,v9,v10,v11,v16,v12,v13,v14) v0 r4 r5) fun r6 =>some (.inl ((((),()),((),()),((i64.wrap (v0+1)),()),()),((v1,v2,v3,()),(r6.2.1.1,r6.2.1.2.1.1,r6.2.1.2.1.2,(),r6.2.1.2.2.2.1,r6.2.1.2.2.2.2.1,r6.2.1.2.2.2.2.2.1,r6.2.1.2.2.2.2.2.2.1,r6.2.1.2.2.2.2.2.2.2.1,(),r6.2.1.2.2.2.2.2.2.2.2.2.1,r6.2.1.2.2.2.2.2.2.2.2.2.2.1,r6.2.1.2.2.2.2.2.2.2.2.2.2.2,()),()),(r6.2.1.2.2.1,r6.2.1.2.2.2.2.2.2.2.2.1,()))) else some (.inr (.inl ((((),()),()),((v4,v5,v6,(),v7,v8,v9,v10,v11,(),v12,v13,v14,()),()),(v15,v16,()))))
def yc6 (x:(ycI).X):=yo2 x.1.2.2.1.1 x.2.1.1.1 x.2.1.1.2.1 x.2.1.1.2.2.1 x.2.1.2.1.1 x.2.1.2.1.2.1 x.2.1.2.1.2.2.1 x.2.1.2.1.2.2.2.2.1 x.2.1.2.1.2.2.2.2.2.1 x.2.1.2.1.2.2.2.2.2.2.1 x.2.1.2.1.2.2.2.2.2.2.2.1 x.2.1.2.1.2.2.2.2.2.2.2.2.1 x.2.1.2.1.2.2.2.2.2.2.2.2.2.2.1 x.2.1.2.1.2.2.2.2.2.2.2.2.2.2.2.1 x.2.1.2.1.2.2.2.2.2.2.2.2.2.2.2.2.1 x.2.2.1 x.2.2.2.1
def yy7 (x:(ygC).X):(ycI).X:=((((),()),((),()),(0,()),()),((x.2.1.1.1,x.2.1.1.2.1,x.2.1.1.2.2.1,()),(x.2.1.2.1.1,x.2.1.2.1.2.1,x.2.1.2.1.2.2.1,(),x.2.1.2.1.2.2.2.2.1,x.2.1.2.1.2.2.2.2.2.1,x.2.1.2.1.2.2.2.2.2.2.1,x.2.1.2.1.2.2.2.2.2.2.2.1,x.2.1.2.1.2.2.2.2.2.2.2.2.1,(),x.2.1.2.1.2.2.2.2.2.2.2.2.2.2.1,x.2.1.2.1.2.2.2.2.2.2.2.2.2.2.2.1,x.2.1.2.1.2.2.2.2.2.2.2.2.2.2.2.2.1,()),()),(x.2.2.1,x.2.2.2.1,()))
def yAG:Code:=(zd7 ypm 64 52).getD .skip
theorem yL8:zd7 ypm 64 13=some (.block 0 (.loop yAG)):=by kernel_rfl
theorem yOQ (x:(ycI).X):zhu ⟨yxQ,24,yCd⟩ 0 yAG 52 ycI ygn yks x=yc6 x:=by kernel_rfl
def yzn (x:(ygC).X):Nat:=18446744073709551616
def ypO (x:(ygC).X):Option ((ygn).X ⊕ (yks).X):=zF yc6 (yzn x) (yy7 x)
def yz7:Seg:=⟨ygC,ygn,yks,ypO⟩
def yPm:Nat→Option Seg:=fun q=>bif Nat.beq q 13 then some yz7 else yCd q
theorem yMO:FrOk prog ⟨yxQ,24,yPm⟩ ypm:=(yMN).loop (sg:=yz7) ycI yy7 (by decide) yL8 yc6 yzn (by decide) (fun _=>rfl) (fun x r _ h=>h) yOQ
abbrev yp9:List Par:= [.pt tA (.pr .fz (.pr (.pr .fz .fz) (.pr (.ow (.pr (.ow .fz) (.pr (.ow (.pr .fz .fz)) (.pr .fz (.ow .fz))))) (.pr .fz (.pr .fz (.pr .fz (.pr .fz (.pr .fz (.pr (.ow (.pr .fz .fz)) (.pr .fz (.pr .fz .fz))))))))))),.rd tN]
abbrev yyk:List OT:= []
def yto (a0:dA) (a1:dN):Option (zaY yyk×zak yp9) :=zkt (ypO ((((),()),((),()),((),()),()),((a1.1,a1.2.1,a1.2.2,()),(a0.1,a0.2.1.1,a0.2.1.2,(),a0.2.2.2.1,a0.2.2.2.2.1,a0.2.2.2.2.2.1,a0.2.2.2.2.2.2.1,a0.2.2.2.2.2.2.2.1,(),a0.2.2.2.2.2.2.2.2.2.1,a0.2.2.2.2.2.2.2.2.2.2.1,a0.2.2.2.2.2.2.2.2.2.2.2,()),()),(a0.2.2.1,a0.2.2.2.2.2.2.2.2.1,()))) (fun y6 =>let r8:=ydc (y6.2.1.1.1,(y6.2.1.1.2.1,y6.2.1.1.2.2.1),y6.2.2.1,y6.2.1.1.2.2.2.2.1,y6.2.1.1.2.2.2.2.2.1,y6.2.1.1.2.2.2.2.2.2.1,y6.2.1.1.2.2.2.2.2.2.2.1,y6.2.1.1.2.2.2.2.2.2.2.2.1,y6.2.2.2.1,y6.2.1.1.2.2.2.2.2.2.2.2.2.2.1,y6.2.1.1.2.2.2.2.2.2.2.2.2.2.2.1,y6.2.1.1.2.2.2.2.2.2.2.2.2.2.2.2.1);some ((),(r8,()))) (fun y6 =>none)
theorem yQU:ConOk prog 169 ⟨yp9,yyk,fun x=>yto x.1 x.2.1⟩:=zkI (yMO) func169 ntmps169.symm fun x=>by kernel_rfl
def yii (a0:dA) (a1:dN):dA:=yN a0 a1
theorem yTg (a0:dA) (a1:dN) (hk:zjx yp9 (a0,a1,())):yto a0 a1=(fun n=>some ((),(n,()))) (yii a0 a1):=by
 have hb:a0.2.2.1.length*80≤2^47:=hk.1.2.2.1.1
 have h1:ypO (yJW a1 a0)=some (.inl (yzx ((List.range a0.2.2.1.length).foldl (yfM a1) a0))) :=
  zkD (step:=yc6) a0.2.2.1.length (fun i s=>yox i a1 s) (yfM a1) (fun _ s=>s.2.2.1.length=a0.2.2.1.length) (fun s=> .inl (yzx s)) (fun i s hi hs=>⟨by
   simp only[yc6,yox,yo2,hs,zky (show(i:Int)<a0.2.2.1.length by omega),cond_true,wq ((i:Int)+1) (by omega) (by omega),Int.natCast_add,Int.natCast_one,Int.toNat_natCast,zkX,yjq];rw[yn0 s i (yq a1.1) (ybt a1) (zkR (by rw[hs]; exact hi))]
   rfl,(ymp a1 s i).trans hs⟩) (fun s hs=>by simp only[yc6,yox,yo2,hs,zk3 (Int.le_refl _),cond_false]) a0 rfl _ (by show _<18446744073709551616; omega)
 unfold yto yii yN;exact(congrArg (fun z=>zkt z _ _) h1).trans rfl
def yCy:Con:=⟨yp9,yyk,fun x=>(fun n=>some ((),(n,()))) (yii x.1 x.2.1)⟩
theorem yTz:ConOk prog 169 yCy:=(yQU).mono (fun x r hk h=>(yTg x.1 x.2.1 hk).trans h)
def yLx:Code:=(f229.body).getD .skip
def yLU:Env:=zkw TT [(82,yK),(150,yeZ)] []
theorem yFc:FrOk prog ⟨yLU,14,fun _=>none⟩ yLx:=zkA mixed ye ⟨yU,yju,trivial⟩
abbrev yp8:List Par:= [.rd tG,.rd tI]
abbrev yqu:List OT:= [⟨false,tB,.fz⟩]
def yw3 (a0:dG) (a1:Int):Option (zaY yqu×zak yp8) :=let r1:=yd a0;bif r1 then let r2:=yb a1 0 (i64.wrap (a0.2-1));some ((r2,()),()) else some ((false,()),())
theorem yHO:ConOk prog 229 ⟨yp8,yqu,fun x=>yw3 x.1 x.2.1⟩:=zkI (yFc) func229 ntmps229.symm fun x=>by kernel_rfl
def yeh (a0:dG) (a1:Int):Bool :=let r1:=yd a0;bif r1 then let r2:=yb a1 0 (i64.wrap (a0.2-1));r2 else false
def ymL:Con:=⟨yp8,yqu,fun x=>(fun n=>some ((n,()),())) (yeh x.1 x.2.1)⟩
theorem yKr (a0:dG) (a1:Int):yw3 a0 a1=(fun n=>some ((n,()),())) (yeh a0 a1):=zkV (p:=fun(n:Bool)=>((n,()),())) (zkG (p:=fun(n:Bool)=>((n,()),())) rfl rfl)
theorem yzH:ConOk prog 229 ymL:=(yHO).mono (fun x r _ h=>(yKr x.1 x.2.1).trans h)
theorem yIf (g:dG) (s:Int):yeh g s=y5 g s:=by
 unfold yeh y5;cases hg:yd g
 ·rfl
 have:=yl.1 hg;rw[ycN,wr (by omega) (by omega)]; rfl
def yLt:Code:=(f209.body).getD .skip
def yLQ:Env:=zkw TT [(229,ymL)] []
theorem yE8:FrOk prog ⟨yLQ,17,fun _=>none⟩ yLt:=zkA mixed ye ⟨yzH,trivial⟩
abbrev ykg:List Par:= [.rd tG,.rd tI]
abbrev yqq:List OT:= [⟨false,tI,.fz⟩]
def ym8 (a0:dG) (a1:Int):Option (zaY yqq×zak ykg) :=let r1:=yeh a0 a1;bif(!r1)then some (((-1),()),()) else bif(a0.1 !=0)then some (((i64.wrap ((i64.wrap (a0.1-1))-(a1.tmod a0.1))),()),()) else none
theorem yHK:ConOk prog 209 ⟨ykg,yqq,fun x=>ym8 x.1 x.2.1⟩:=zkI (yE8) func209 ntmps209.symm fun x=>by kernel_rfl
def ycP (a0:dG) (a1:Int):Int:=yo a0 a1
theorem yKn (a0:dG) (a1:Int) (hk:zjx ykg (a0,a1,())):ym8 a0 a1=(fun n=>some ((n,()),())) (ycP a0 a1):=by
 unfold ym8 ycP;rw[yIf];cases hs:y5 a0 a1
 ·unfold yo; rw[hs]; rfl
 ·have h1:=yab.1 hs
  have h2:=yl.1 h1.1;have h3:=ylp hs;have h4:yo a0 a1=a0.1-1-a1.tmod a0.1:=by unfold yo; rw[hs]; rfl
  rw[show(a0.1 !=0)=true from bne_iff_ne.2 (by omega),wq (a0.1-1) (by omega) (by omega),wq (a0.1-1-a1.tmod a0.1) (by omega) (by omega),h4]; rfl
def ymJ:Con:=⟨ykg,yqq,fun x=>(fun n=>some ((n,()),())) (ycP x.1 x.2.1)⟩
theorem yzF:ConOk prog 209 ymJ:=(yHK).mono (fun x r hk h=>(yKn x.1 x.2.1 hk).trans h)
def ypj:Code:=(f230.body).getD .skip
def yxN:Env:=zkw TT [] []
theorem yME:FrOk prog ⟨yxN,18,fun _=>none⟩ ypj:=zkA mixed ye trivial
def yCa:Nat→Option Seg:=fun _=>none
def ycF:Shape:=⟨[(0,false,[.br tI]),(3,false,[.int .i64]),(4,false,[.int .i64])],[],[]⟩
def ygz:Shape:=⟨[(0,false,[.br tI]),(3,false,[.ci .i64 0]),(4,false,[.ci .i64 0])],[],[]⟩
def ygk:Shape:=⟨[(3,false,[.int .i64])],[],[]⟩
def ykp:Shape:=⟨[],[],[]⟩
abbrev you (v0:List Int) (v1 v2:Int):(ycF).X:=(((v0,()),(v1,()),(v2,()),()),(),())
abbrev yJT (v0:List Int):(ygz).X:=(((v0,()),((),()),((),()),()),(),())
abbrev yzv (v0:Int):(ygk).X:=(((v0,()),()),(),())
def yoZ (v0:List Int) (v1 v2:Int):Option ((ycF).X ⊕ ((ygk).X ⊕ (ykp).X)) :=bif(ltb v2 (v0.length:Int))then bif(inb v2 v0.length)then some (.inl (((v0,()),((i64.wrap ((BitVec.ofInt IntKind.i64.bits v1 ^^^ BitVec.ofInt IntKind.i64.bits (nth v0 v2 0)).toNat:Int)),()),((i64.wrap (v2+1)),()),()),(),())) else none else some (.inr (.inl (((v1,()),()),(),())))
def yc3 (x:(ycF).X):=yoZ x.1.1.1 x.1.2.1.1 x.1.2.2.1.1
def yy3 (x:(ygz).X):(ycF).X:=(((x.1.1.1,()),(0,()),(0,()),()),(),())
def yAC:Code:=(zd7 ypj 64 116).getD .skip
theorem yL4:zd7 ypj 64 29=some (.block 0 (.loop yAC)):=by kernel_rfl
theorem yOM (x:(ycF).X):zhu ⟨yxN,18,yCa⟩ 0 yAC 116 ycF ygk ykp x=yc3 x:=by kernel_rfl
def yzj (x:(ygz).X):Nat:=18446744073709551616
def ypK (x:(ygz).X):Option ((ygk).X ⊕ (ykp).X):=zF yc3 (yzj x) (yy3 x)
def yz3:Seg:=⟨ygz,ygk,ykp,ypK⟩
def yPj:Nat→Option Seg:=fun q=>bif Nat.beq q 29 then some yz3 else yCa q
theorem yMF:FrOk prog ⟨yxN,18,yPj⟩ ypj:=(yME).loop (sg:=yz3) ycF yy3 (by decide) yL4 yc3 yzj (by decide) (fun _=>rfl) (fun x r _ h=>h) yOM
abbrev yp5:List Par:= [.rd tL]
abbrev yyf:List OT:= [⟨false,tI,.fz⟩]
def ytl (a0:List Int):Option (zaY yyf×zak yp5) :=zkt (ypK (((a0,()),((),()),((),()),()),(),())) (fun y0 =>some ((y0.1.1.1,()),())) (fun y0 =>none)
theorem yQO:ConOk prog 230 ⟨yp5,yyf,fun x=>ytl x.1⟩:=zkI (yMF) func230 ntmps230.symm fun x=>by kernel_rfl
def yic (a0:List Int):Int:=ya0 a0
theorem yTc (a0:List Int) (hk:zjx yp5 (a0,())):ytl a0=(fun n=>some ((n,()),())) (yic a0):=by
 have hb:a0.length*8≤2^47:=hk.1.1
 have h1:ypK (yJT a0)=some (.inl (yzv (ya0 a0))) :=
  zkx (step:=yc3) a0 0 (fun i s=>you a0 s i) xw (fun _ _=>True) (fun s=> .inl (yzv s)) (fun i s hi _=>⟨by
   simp only[yc3,you,yoZ,zky (show(i:Int)<a0.length by omega),cond_true,wq ((i:Int)+1) (by omega) (by omega),Int.natCast_add,Int.natCast_one,Int.toNat_natCast,zkR hi,zkS]; rfl,trivial⟩) (fun s _=>by simp only[yc3,you,yoZ,zk3 (Int.le_refl _),cond_false]) 0 trivial _ (by show _<18446744073709551616; omega)
 unfold ytl yic;rw[h1]; rfl
def yCt:Con:=⟨yp5,yyf,fun x=>(fun n=>some ((n,()),())) (yic x.1)⟩
theorem yTu:ConOk prog 230 yCt:=(yQO).mono (fun x r hk h=>(yTc x.1 hk).trans h)
def yGb:Code:=(f210.body).getD .skip
def yGm:Env:=zkw TT [(230,yCt)] []
theorem yDk:FrOk prog ⟨yGm,5,fun _=>none⟩ yGb:=zkA mixed ye ⟨yTu,trivial⟩
abbrev ymF:List Par:= [.rd tL]
abbrev ymH:List OT:= [⟨false,tI,.fz⟩]
def yrT (a0:List Int):Option (zaY ymH×zak ymF) :=let r1:=yic a0;some ((r1,()),())
theorem yEf:ConOk prog 210 ⟨ymF,ymH,fun x=>yrT x.1⟩:=zkI (yDk) func210 ntmps210.symm fun x=>by kernel_rfl
def yhC (a0:List Int):Int :=let r1:=yic a0;r1
def yru:Con:=⟨ymF,ymH,fun x=>(fun n=>some ((n,()),())) (yhC x.1)⟩
theorem yFA (a0:List Int):yrT a0=(fun n=>some ((n,()),())) (yhC a0):=zkV (p:=fun(n:Int)=>((n,()),())) rfl
theorem yFH:ConOk prog 210 yru:=(yEf).mono (fun x r _ h=>(yFA x.1).trans h)
def ySh:Code:=(f211.body).getD .skip
def ySK:Env:=zkw TT [(82,yK)] []
theorem yI9:FrOk prog ⟨ySK,34,fun _=>none⟩ ySh:=zkA mixed ye ⟨yU,trivial⟩
abbrev ynH:List Par:= [.rd tA,.rd tI,.rd tI]
abbrev yvv:List OT:= [⟨false,tB,.fz⟩]
def yrc (a0:dA) (a1 a2:Int):Option (zaY yvv×zak ynH) :=let r1:=yb a1 0 (i64.wrap ((a0.2.2.1.length:Int)-1));bif r1 then bif(inb a1 a0.2.2.1.length)then bif(!((((nth a0.2.2.1 a1 ([],[],false,[])).2).2).1))then bif(!(a1 !=a0.2.2.2.1))then some (((ltb a2 a0.2.2.2.2.1),()),()) else some ((true,()),()) else some ((false,()),()) else none else some ((false,()),())
theorem yNX:ConOk prog 211 ⟨ynH,yvv,fun x=>yrc x.1 x.2.1 x.2.2.1⟩:=zkI (yI9) func211 ntmps211.symm fun x=>by kernel_rfl
def yda (a0:dA) (a1 a2:Int):Bool:=yck a0 a1 a2
theorem yQj (a0:dA) (a1 a2:Int) (hk:zjx ynH (a0,a1,a2,())):yrc a0 a1 a2=(fun n=>some ((n,()),())) (yda a0 a1 a2):=by
 have hb:a0.2.2.1.length*80≤2^47:=hk.1.2.2.1.1;unfold yrc yda yck yf;rw[yje (show a0.2.2.1.length≤1152921504606846976 by omega)];cases inb a1 a0.2.2.1.length
 ·rfl
 ·cases(nth a0.2.2.1 a1 ([],[],false,[])).2.2.1<;>cases(a1 !=a0.2.2.2.1)<;>rfl
def yqG:Con:=⟨ynH,yvv,fun x=>(fun n=>some ((n,()),())) (yda x.1 x.2.1 x.2.2.1)⟩
theorem yCT:ConOk prog 211 yqG:=(yNX).mono (fun x r hk h=>(yQj x.1 x.2.1 x.2.2.1 hk).trans h)
def yny:Code:=(f170.body).getD .skip
def yuT:Env:=zkw TT [(113,ykB),(206,yl9),(209,ymJ),(210,yru),(211,yqG)] []
theorem yJs:FrOk prog ⟨yuT,61,fun _=>none⟩ yny:=zkA mixed ye ⟨ys3,yvS,yzF,yFH,yCT,trivial⟩
def yAq:Nat→Option Seg:=fun _=>none
def ycH:Shape:=⟨[(0,false,[.ptr 1000000000 0]),(1,false,[.int .i64]),(2,false,[.br tI]),(6,false,[.int .i64]),(7,false,[.int .i64])],[(1000000000,[.int .i64,.int .i64,.int .i64,.at 800000000,.int .i64,.int .i64,.int .i64,.int .i64,.int .i64,.at 800000001,.int .i64,.bool,.bool])],[(800000000,tM,(.pr (.ow .fz) (.pr (.ow (.pr .fz .fz)) (.pr .fz (.ow .fz))))),(800000001,tW,(.pr .fz .fz))]⟩
def ygB:Shape:=⟨[(0,false,[.ptr 1000000000 0]),(1,false,[.int .i64]),(2,false,[.br tI]),(6,false,[.int .i64]),(7,false,[.ci .i64 0])],[(1000000000,[.int .i64,.int .i64,.int .i64,.at 800000000,.int .i64,.int .i64,.int .i64,.int .i64,.int .i64,.at 800000001,.int .i64,.bool,.bool])],[(800000000,tM,(.pr (.ow .fz) (.pr (.ow (.pr .fz .fz)) (.pr .fz (.ow .fz))))),(800000001,tW,(.pr .fz .fz))]⟩
def ygm:Shape:=⟨[],[(1000000000,[.int .i64,.int .i64,.int .i64,.at 800000000,.int .i64,.int .i64,.int .i64,.int .i64,.int .i64,.at 800000001,.int .i64,.bool,.bool])],[(800000000,tM,(.pr (.ow .fz) (.pr (.ow (.pr .fz .fz)) (.pr .fz (.ow .fz))))),(800000001,tW,(.pr .fz .fz))]⟩
def ykr:Shape:=⟨[],[],[]⟩
abbrev yow (v0:Int) (v1:List Int) (v2 v3:Int) (v4:dA):(ycH).X:=((((),()),(v0,()),(v1,()),(v2,()),(v3,()),()),((v4.1,v4.2.1.1,v4.2.1.2,(),v4.2.2.2.1,v4.2.2.2.2.1,v4.2.2.2.2.2.1,v4.2.2.2.2.2.2.1,v4.2.2.2.2.2.2.2.1,(),v4.2.2.2.2.2.2.2.2.2.1,v4.2.2.2.2.2.2.2.2.2.2.1,v4.2.2.2.2.2.2.2.2.2.2.2,()),()),(v4.2.2.1,v4.2.2.2.2.2.2.2.2.1,()))
abbrev yJV (v0:Int) (v1:List Int) (v2:Int) (v3:dA):(ygB).X:=((((),()),(v0,()),(v1,()),(v2,()),((),()),()),((v3.1,v3.2.1.1,v3.2.1.2,(),v3.2.2.2.1,v3.2.2.2.2.1,v3.2.2.2.2.2.1,v3.2.2.2.2.2.2.1,v3.2.2.2.2.2.2.2.1,(),v3.2.2.2.2.2.2.2.2.2.1,v3.2.2.2.2.2.2.2.2.2.2.1,v3.2.2.2.2.2.2.2.2.2.2.2,()),()),(v3.2.2.1,v3.2.2.2.2.2.2.2.2.1,()))
abbrev yzw (v0:dA):(ygm).X:=((),((v0.1,v0.2.1.1,v0.2.1.2,(),v0.2.2.2.1,v0.2.2.2.2.1,v0.2.2.2.2.2.1,v0.2.2.2.2.2.2.1,v0.2.2.2.2.2.2.2.1,(),v0.2.2.2.2.2.2.2.2.2.1,v0.2.2.2.2.2.2.2.2.2.2.1,v0.2.2.2.2.2.2.2.2.2.2.2,()),()),(v0.2.2.1,v0.2.2.2.2.2.2.2.2.1,()))
def yo1 (v0:Int) (v1:List Int) (v2 v3 v4 v5 v6 v7 v8 v9 v10 v11 v12:Int) (v13 v14:Bool) (v15:List dM) (v16:List dW):Option ((ycH).X ⊕ ((ygm).X ⊕ (ykr).X)) :=bif(ltb v3 (v15.length:Int))then let r9:=yhC v1;bif(v3 !=v2)then bif(v5 !=0)then bif(inb ((i64.wrap ((i64.wrap ((i64.wrap (v3-v2))-1))+v5)).tmod v5) v1.length)then let r10:=yda (v4,(v5,v6),v15,v7,v8,v9,v10,v11,v16,v12,v13,v14) v3 v0;bif r10 then let r11:=yc9 v0;bnd (yfI (v4,(v5,v6),v15,v7,v8,v9,v10,v11,v16,v12,v13,v14) v3 r11 ([(nth v1 ((i64.wrap ((i64.wrap ((i64.wrap (v3-v2))-1))+v5)).tmod v5) 0)]:List Int)) fun r12 =>some (.inl ((((),()),(v0,()),(v1,()),(v2,()),((i64.wrap (v3+1)),()),()),((r12.2.1.1,r12.2.1.2.1.1,r12.2.1.2.1.2,(),r12.2.1.2.2.2.1,r12.2.1.2.2.2.2.1,r12.2.1.2.2.2.2.2.1,r12.2.1.2.2.2.2.2.2.1,r12.2.1.2.2.2.2.2.2.2.1,(),r12.2.1.2.2.2.2.2.2.2.2.2.1,r12.2.1.2.2.2.2.2.2.2.2.2.2.1,r12.2.1.2.2.2.2.2.2.2.2.2.2.2,()),()),(r12.2.1.2.2.1,r12.2.1.2.2.2.2.2.2.2.2.1,()))) else some (.inl ((((),()),(v0,()),(v1,()),(v2,()),((i64.wrap (v3+1)),()),()),((v4,v5,v6,(),v7,v8,v9,v10,v11,(),v12,v13,v14,()),()),(v15,v16,()))) else none else none else let r13:=yda (v4,(v5,v6),v15,v7,v8,v9,v10,v11,v16,v12,v13,v14) v3 v0;bif r13 then let r14:=yc9 v0;bnd (yfI (v4,(v5,v6),v15,v7,v8,v9,v10,v11,v16,v12,v13,v14) v3 r14 ([r9]:List Int)) fun r15 =>some (.inl ((((),()),(v0,()),(v1,()),(v2,()),((i64.wrap (v3+1)),()),()),((r15.2.1.1,r15.2.1.2.1.1,r15.2.1.2.1.2,(),r15.2.1.2.2.2.1,r15.2.1.2.2.2.2.1,r15.2.1.2.2.2.2.2.1,r15.2.1.2.2.2.2.2.2.1,r15.2.1.2.2.2.2.2.2.2.1,(),r15.2.1.2.2.2.2.2.2.2.2.2.1,r15.2.1.2.2.2.2.2.2.2.2.2.2.1,r15.2.1.2.2.2.2.2.2.2.2.2.2.2,()),()),(r15.2.1.2.2.1,r15.2.1.2.2.2.2.2.2.2.2.1,()))) else some (.inl ((((),()),(v0,()),(v1,()),(v2,()),((i64.wrap (v3+1)),()),()),((v4,v5,v6,(),v7,v8,v9,v10,v11,(),v12,v13,v14,()),()),(v15,v16,()))) else some (.inr (.inl ((),((v4,v5,v6,(),v7,v8,v9,v10,v11,(),v12,v13,v14,()),()),(v15,v16,()))))
def yc5 (x:(ycH).X):=yo1 x.1.2.1.1 x.1.2.2.1.1 x.1.2.2.2.1.1 x.1.2.2.2.2.1.1 x.2.1.1.1 x.2.1.1.2.1 x.2.1.1.2.2.1 x.2.1.1.2.2.2.2.1 x.2.1.1.2.2.2.2.2.1 x.2.1.1.2.2.2.2.2.2.1 x.2.1.1.2.2.2.2.2.2.2.1 x.2.1.1.2.2.2.2.2.2.2.2.1 x.2.1.1.2.2.2.2.2.2.2.2.2.2.1 x.2.1.1.2.2.2.2.2.2.2.2.2.2.2.1 x.2.1.1.2.2.2.2.2.2.2.2.2.2.2.2.1 x.2.2.1 x.2.2.2.1
def yy6 (x:(ygB).X):(ycH).X:=((((),()),(x.1.2.1.1,()),(x.1.2.2.1.1,()),(x.1.2.2.2.1.1,()),(0,()),()),((x.2.1.1.1,x.2.1.1.2.1,x.2.1.1.2.2.1,(),x.2.1.1.2.2.2.2.1,x.2.1.1.2.2.2.2.2.1,x.2.1.1.2.2.2.2.2.2.1,x.2.1.1.2.2.2.2.2.2.2.1,x.2.1.1.2.2.2.2.2.2.2.2.1,(),x.2.1.1.2.2.2.2.2.2.2.2.2.2.1,x.2.1.1.2.2.2.2.2.2.2.2.2.2.2.1,x.2.1.1.2.2.2.2.2.2.2.2.2.2.2.2.1,()),()),(x.2.2.1,x.2.2.2.1,()))
def yAF:Code:=(zd7 yny 64 28).getD .skip
theorem yL7:zd7 yny 64 7=some (.block 0 (.loop yAF)):=by kernel_rfl
theorem yOP (x:(ycH).X):zhu ⟨yuT,61,yAq⟩ 0 yAF 28 ycH ygm ykr x=yc5 x:=by kernel_rfl
def yzm (x:(ygB).X):Nat:=18446744073709551616
def ypN (x:(ygB).X):Option ((ygm).X ⊕ (ykr).X):=zF yc5 (yzm x) (yy6 x)
def yz6:Seg:=⟨ygB,ygm,ykr,ypN⟩
def yLF:Nat→Option Seg:=fun q=>bif Nat.beq q 7 then some yz6 else yAq q
theorem yJt:FrOk prog ⟨yuT,61,yLF⟩ yny:=(yJs).loop (sg:=yz6) ycH yy6 (by decide) yL7 yc5 yzm (by decide) (fun _=>rfl) (fun x r _ h=>h) yOP
abbrev yi8:List Par:= [.pt tA (.pr .fz (.pr (.pr .fz .fz) (.pr (.ow (.pr (.ow .fz) (.pr (.ow (.pr .fz .fz)) (.pr .fz (.ow .fz))))) (.pr .fz (.pr .fz (.pr .fz (.pr .fz (.pr .fz (.pr (.ow (.pr .fz .fz)) (.pr .fz (.pr .fz .fz))))))))))),.rd tI,.rd tL]
abbrev ynR:List OT:= []
def yrj (a0:dA) (a1:Int) (a2:List Int):Option (zaY ynR×zak yi8) :=let r1:=ycP a0.2.1 a1;zkt (ypN ((((),()),(a1,()),(a2,()),(r1,()),((),()),()),((a0.1,a0.2.1.1,a0.2.1.2,(),a0.2.2.2.1,a0.2.2.2.2.1,a0.2.2.2.2.2.1,a0.2.2.2.2.2.2.1,a0.2.2.2.2.2.2.2.1,(),a0.2.2.2.2.2.2.2.2.2.1,a0.2.2.2.2.2.2.2.2.2.2.1,a0.2.2.2.2.2.2.2.2.2.2.2,()),()),(a0.2.2.1,a0.2.2.2.2.2.2.2.2.1,()))) (fun y15 =>some ((),((y15.2.1.1.1,(y15.2.1.1.2.1,y15.2.1.1.2.2.1),y15.2.2.1,y15.2.1.1.2.2.2.2.1,y15.2.1.1.2.2.2.2.2.1,y15.2.1.1.2.2.2.2.2.2.1,y15.2.1.1.2.2.2.2.2.2.2.1,y15.2.1.1.2.2.2.2.2.2.2.2.1,y15.2.2.2.1,y15.2.1.1.2.2.2.2.2.2.2.2.2.2.1,y15.2.1.1.2.2.2.2.2.2.2.2.2.2.2.1,y15.2.1.1.2.2.2.2.2.2.2.2.2.2.2.2.1),()))) (fun y15 =>none)
theorem yOb:ConOk prog 170 ⟨yi8,ynR,fun x=>yrj x.1 x.2.1 x.2.2.1⟩:=zkI (yJt) func170 ntmps170.symm fun x=>by kernel_rfl
def ynU (a0:dA) (a1:Int) (a2:List Int):dA:=yai a0 a1 a2
def yjv (a0:dA) (a1:Int) (a2:List Int):Bool:=y5 a0.2.1 a1&&((a2.length:Int)==a0.2.1.1-1&&(a0.2.2.1.length:Int)==a0.2.1.1)
theorem yQv (a0:dA) (a1:Int) (a2:List Int) (hk:zjx yi8 (a0,a1,a2,())) (hq:yjv a0 a1 a2=true):yrj a0 a1 a2=(fun n=>some ((),(n,()))) (ynU a0 a1 a2):=by
 simp only[yjv,Bool.and_eq_true,beq_iff_eq]at hq;have hg:=yl.1 (yab.1 hq.1).1;have hp:=ylp hq.1
 have h1:ypN (yJV a1 a2 (yo a0.2.1 a1) a0)=some (.inl (yzw (yai a0 a1 a2))) :=
  zkD (step:=yc5) a0.2.2.1.length (fun i s=>yow a1 a2 (yo a0.2.1 a1) i s) (ycT (yo a0.2.1 a1) a0.2.1.1 a1 a2) (fun _ s=>s.2.2.1.length=a0.2.2.1.length∧s.2.1=a0.2.1) (fun s=> .inl (yzw s)) (fun i s hi hs=>⟨by
   have hN:s.2.1.1=a0.2.1.1:=by rw[hs.2]
   simp only[yc5,yow,yo1,hs.1,zky (show(i:Int)<a0.2.2.1.length by omega),cond_true,wq ((i:Int)+1) (by omega) (by omega),Int.natCast_add,Int.natCast_one,Int.toNat_natCast,zkX,yic,yhC,yda,ymq,ycT,ygU];rw[← hN];by_cases he:(i:Int)=yo a0.2.1 a1
   ·rw[show((i:Int) !=yo a0.2.1 a1)=false by simp[he],show((i:Int)==yo a0.2.1 a1)=true from beq_iff_eq.2 he]
    rw[yn0 s i (yz a1) [ya0 a2] (zkR (by rw[hs.1]; exact hi))];cases yck s i a1<;>rfl
   ·have hd:=yYb (N:=s.2.1.1) (i:=i) (p:=yo a0.2.1 a1) ⟨by omega,by omega⟩ ⟨by omega,by omega⟩ ⟨hp.1,by omega⟩ he
    rw[show((i:Int) !=yo a0.2.1 a1)=true from bne_iff_ne.2 he,show((i:Int)==yo a0.2.1 a1)=false from beq_eq_false_iff_ne.2 he,show(s.2.1.1 !=0)=true from bne_iff_ne.2 (by omega),
     wq ((i:Int)-yo a0.2.1 a1) (by omega) (by omega),wq ((i:Int)-yo a0.2.1 a1-1) (by omega) (by omega),wq ((i:Int)-yo a0.2.1 a1-1+s.2.1.1) (by omega) (by omega),zj6.2 (show 0≤((i:Int)-yo a0.2.1 a1-1+s.2.1.1).tmod s.2.1.1∧((i:Int)-yo a0.2.1 a1-1+s.2.1.1).tmod s.2.1.1<a2.length by omega)]
    rw[yn0 s i (yz a1) [nth a2 (((i:Int)-yo a0.2.1 a1-1+s.2.1.1).tmod s.2.1.1) 0] (zkR (by rw[hs.1]; exact hi))]
    cases yck s i a1<;>rfl,(yBQ _ _ _ _ s i).trans hs.1,(yP (yED _ _ _ _ s i)).trans hs.2⟩) (fun s hs=>by simp only[yc5,yow,yo1,hs.1,zk3 (Int.le_refl _),cond_false]) a0 ⟨rfl,rfl⟩ _ (by show _<18446744073709551616; omega)
 unfold yrj ynU ycP;exact(congrArg (fun z=>zkt z _ _) h1).trans rfl
def yf0 (a0:dA) (a1:Int) (a2:List Int):Option (zaY ynR×zak yi8):=bif yjv a0 a1 a2 then(fun n=>some ((),(n,()))) (ynU a0 a1 a2)else none
theorem yRl (a0:dA) (a1:Int) (a2:List Int) (h:yjv a0 a1 a2=true):yf0 a0 a1 a2=(fun n=>some ((),(n,()))) (ynU a0 a1 a2):=by unfold yf0; rw[h]; rfl
def yA2:Con:=⟨yi8,ynR,fun x=>yf0 x.1 x.2.1 x.2.2.1⟩
theorem yRh:ConOk prog 170 yA2:=(yOb).mono (fun x r hk h=>zkY h (fun hq=>yQv x.1 x.2.1 x.2.2.1 hk hq))
def yPa:Code:=(f171.body).getD .skip
def yPD:Env:=zkw TT [(174,yqJ),(208,ykD)] []
theorem yG5:FrOk prog ⟨yPD,17,fun _=>none⟩ yPa:=zkA mixed ye ⟨yCV,ys5,trivial⟩
abbrev yst:List Par:= [.pt tA (.pr .fz (.pr (.pr .fz .fz) (.pr (.ow (.pr (.ow .fz) (.pr (.ow (.pr .fz .fz)) (.pr .fz (.ow .fz))))) (.pr .fz (.pr .fz (.pr .fz (.pr .fz (.pr .fz (.pr (.ow (.pr .fz .fz)) (.pr .fz (.pr .fz .fz)))))))))))]
abbrev ysN:List OT:= []
def yzU (a0:dA):Option (zaY ysN×zak yst) :=let r1:=ydc a0;bif r1.2.2.2.2.2.2.2.2.2.2.1 then some ((),(r1,())) else let r2:=yb2 (r1.1,r1.2.1,r1.2.2.1,r1.2.2.2.1,r1.2.2.2.2.1,r1.2.2.2.2.2.1,r1.2.2.2.2.2.1,r1.2.2.2.2.2.2.2);some ((),(r2,()))
theorem yKQ:ConOk prog 171 ⟨yst,ysN,fun x=>yzU x.1⟩:=zkI (yG5) func171 ntmps171.symm fun x=>by kernel_rfl
def yih (a0:dA):dA :=let r1:=ydc a0;bif r1.2.2.2.2.2.2.2.2.2.2.1 then r1 else let r2:=yb2 (r1.1,r1.2.1,r1.2.2.1,r1.2.2.2.1,r1.2.2.2.2.1,r1.2.2.2.2.2.1,r1.2.2.2.2.2.1,r1.2.2.2.2.2.2.2);r2
def yyQ:Con:=⟨yst,ysN,fun x=>(fun n=>some ((),(n,()))) (yih x.1)⟩
theorem yNB (a0:dA):yzU a0=(fun n=>some ((),(n,()))) (yih a0):=zkV (p:=fun(n:dA)=>((),(n,()))) (zkG (p:=fun(n:dA)=>((),(n,()))) rfl rfl)
theorem yOv:ConOk prog 171 yyQ:=(yKQ).mono (fun x r _ h=>(yNB x.1).trans h)
theorem yTH (a:dA):yih a=yi a:=by
 unfold yih yi ydc yb2;show(bif ya (yc a)then yc a else yj (yH (yc a)))=_;rfl
def yPb:Code:=(f217.body).getD .skip
def yPE:Env:=zkw TT [(169,yCy),(170,yA2),(171,yyQ)] []
theorem yG6:FrOk prog ⟨yPE,54,fun _=>none⟩ yPb:=zkA mixed ye ⟨yTz,yRh,yOv,trivial⟩
abbrev yhM:List Par:= [.pt tA (.pr .fz (.pr (.pr .fz .fz) (.pr (.ow (.pr (.ow .fz) (.pr (.ow (.pr .fz .fz)) (.pr .fz (.ow .fz))))) (.pr .fz (.pr .fz (.pr .fz (.pr .fz (.pr .fz (.pr (.ow (.pr .fz .fz)) (.pr .fz (.pr .fz .fz))))))))))),.rd tI,.rd tL]
abbrev yl6:List OT:= [⟨false,tI,.fz⟩]
def yoP (a0:dA) (a1:Int) (a2:List Int):Option (zaY yl6×zak yhM) :=bif(leb 4 (i64.wrap (a0.2.2.2.2.2.1-a0.2.2.2.2.2.2.1)))then let r1:=yih a0;bif r1.2.2.2.2.2.2.2.2.2.2.1 then some ((6,()),(r1,())) else bif(zkl ([]:List Int).length a2.length 8)then let r2:=yii r1 (r1.2.2.2.2.2.1,a1,(([]:List Int)++a2));bif r2.2.2.2.2.2.2.2.2.2.2.1 then some ((6,()),(r2,())) else bnd (yf0 (r2.1,r2.2.1,r2.2.2.1,r2.2.2.2.1,r2.2.2.2.2.1,(i64.wrap (r2.2.2.2.2.2.1+1)),r2.2.2.2.2.2.2) a1 a2) fun r3 =>bif r3.2.1.2.2.2.2.2.2.2.2.2.2.1 then some ((6,()),(r3.2.1,())) else some ((0,()),(r3.2.1,())) else none else bif a0.2.2.2.2.2.2.2.2.2.2.1 then some ((6,()),(a0,())) else bif(zkl ([]:List Int).length a2.length 8)then let r4:=yii a0 (a0.2.2.2.2.2.1,a1,(([]:List Int)++a2));bif r4.2.2.2.2.2.2.2.2.2.2.1 then some ((6,()),(r4,())) else bnd (yf0 (r4.1,r4.2.1,r4.2.2.1,r4.2.2.2.1,r4.2.2.2.2.1,(i64.wrap (r4.2.2.2.2.2.1+1)),r4.2.2.2.2.2.2) a1 a2) fun r5 =>bif r5.2.1.2.2.2.2.2.2.2.2.2.2.1 then some ((6,()),(r5.2.1,())) else some ((0,()),(r5.2.1,())) else none
theorem yKR:ConOk prog 217 ⟨yhM,yl6,fun x=>yoP x.1 x.2.1 x.2.2.1⟩:=zkI (yG6) func217 ntmps217.symm fun x=>by kernel_rfl
def yij (a0:dA) (a1:Int) (a2:List Int):Int×dA:=yI a0 a1 a2
def yil (a0:dA) (a1:Int) (a2:List Int):Bool:=y5 a0.2.1 a1&&((a2.length:Int)==a0.2.1.1-1&&(a0.2.2.1.length:Int)==a0.2.1.1)
theorem yNC (a0:dA) (a1:Int) (a2:List Int) (hk:zjx yhM (a0,a1,a2,())) (hq:yil a0 a1 a2=true):yoP a0 a1 a2=(fun n=>some ((n.1,()),(n.2,()))) (yij a0 a1 a2):=by
 have hq':=hq;simp only[yil,Bool.and_eq_true,beq_iff_eq]at hq;have hg:=yl.1 (yab.1 hq.1).1;have hap:zkl ([]:List Int).length a2.length 8=true:=zkF.2 (by simp only[List.length_nil]; omega)
 have key: ∀b:dA,b.2.1=a0.2.1→b.2.2.1.length=a0.2.2.1.length→yf0 (yam (yN b (b.2.2.2.2.2.1,a1,a2))) a1 a2=some ((),(yai (yam (yN b (b.2.2.2.2.2.1,a1,a2))) a1 a2,())):=fun b h1 h2=>yRl _ _ _ (by
  unfold yjv;rw[show(yam (yN b (b.2.2.2.2.2.1,a1,a2))).2.1=a0.2.1 from(yP (ycQ _ _)).trans h1,show(yam (yN b (b.2.2.2.2.2.1,a1,a2))).2.2.1.length=a0.2.2.1.length from(yXt _ _).trans h2]
  exact hq')
 unfold yoP yij yI yu;simp only[yTH,yii,List.nil_append,hap,cond_true];cases leb 4 (i64.wrap (a0.2.2.2.2.2.1-a0.2.2.2.2.2.2.1))
 ·have hd:=key a0 rfl rfl
  simp only[cond_false];generalize yN a0 (a0.2.2.2.2.2.1,a1,a2)=R at hd ⊢;generalize yai (yam R) a1 a2=Q at hd ⊢;unfold yam at hd;simp only[cond_false,hd,zkH];unfold ya;cases a0.2.2.2.2.2.2.2.2.2.2.1
  ·cases R.2.2.2.2.2.2.2.2.2.2.1
   ·cases Q.2.2.2.2.2.2.2.2.2.2.1<;>rfl
   ·rfl
  ·rfl
 ·have hd:=key (yi a0) (yRB a0) (yVW a0)
  simp only[cond_true];generalize yi a0=C at hd ⊢;generalize yN C (C.2.2.2.2.2.1,a1,a2)=R at hd ⊢;generalize yai (yam R) a1 a2=Q at hd ⊢;unfold yam at hd;simp only[cond_true,hd,zkH];unfold ya;cases C.2.2.2.2.2.2.2.2.2.2.1
  ·cases R.2.2.2.2.2.2.2.2.2.2.1
   ·cases Q.2.2.2.2.2.2.2.2.2.2.1<;>rfl
   ·rfl
  ·rfl
def ymm (a0:dA) (a1:Int) (a2:List Int):Option (zaY yl6×zak yhM):=bif yil a0 a1 a2 then(fun n=>some ((n.1,()),(n.2,()))) (yij a0 a1 a2)else none
theorem yOC (a0:dA) (a1:Int) (a2:List Int) (h:yil a0 a1 a2=true):ymm a0 a1 a2=(fun n=>some ((n.1,()),(n.2,()))) (yij a0 a1 a2):=by unfold ymm; rw[h]; rfl
def yyR:Con:=⟨yhM,yl6,fun x=>ymm x.1 x.2.1 x.2.2.1⟩
theorem yOw:ConOk prog 217 yyR:=(yKR).mono (fun x r hk h=>zkY h (fun hq=>yNC x.1 x.2.1 x.2.2.1 hk hq))
def yPc:Code:=(f179.body).getD .skip
def yPF:Env:=zkw TT [(215,yvL),(216,yA1),(217,yyR)] [(36928,(.pr .fz .fz))]
theorem yG7:FrOk prog ⟨yPF,63,fun _=>none⟩ yPc:=zkA mixed ye ⟨yFJ,yRg,yOw,trivial⟩
abbrev yhN:List Par:= [.pt tA (.pr .fz (.pr (.pr .fz .fz) (.pr (.ow (.pr (.ow .fz) (.pr (.ow (.pr .fz .fz)) (.pr .fz (.ow .fz))))) (.pr .fz (.pr .fz (.pr .fz (.pr .fz (.pr .fz (.pr (.ow (.pr .fz .fz)) (.pr .fz (.pr .fz .fz))))))))))),.rd tI]
abbrev yl7:List OT:= [⟨false,tI,.fz⟩]
def yoQ (a0:dA) (a1:Int):Option (zaY yl7×zak yhN) :=let r1:=yhk a0 a1;bif(ltb r1 0)then some ((0,()),(a0,())) else bif(inb r1 a0.2.2.2.2.2.2.2.2.1.length)then let r2:=yal a0 a1 ((nth a0.2.2.2.2.2.2.2.2.1 r1 (0,[])).2);bif(r2 !=0)then some ((r2,()),(a0,())) else bif(inb r1 a0.2.2.2.2.2.2.2.2.1.length)then bnd (ymm a0 a1 ((nth a0.2.2.2.2.2.2.2.2.1 r1 (0,[])).2)) fun r3 =>bif(r3.1.1==0)then bif(zj0 0 r1 r3.2.1.2.2.2.2.2.2.2.2.1.length)then bif(zkl ([]:List dW).length ((r3.2.1.2.2.2.2.2.2.2.2.1.drop (0:Int).toNat).take (r1-0).toNat).length 32)then bif(zj0 (i64.wrap (r1+1)) (r3.2.1.2.2.2.2.2.2.2.2.1.length:Int) r3.2.1.2.2.2.2.2.2.2.2.1.length)then bif(zkl (([]:List dW)++((r3.2.1.2.2.2.2.2.2.2.2.1.drop (0:Int).toNat).take (r1-0).toNat)).length ((r3.2.1.2.2.2.2.2.2.2.2.1.drop ((i64.wrap (r1+1))).toNat).take ((r3.2.1.2.2.2.2.2.2.2.2.1.length:Int)-(i64.wrap (r1+1))).toNat).length 32)then some ((r3.1.1,()),((r3.2.1.1,r3.2.1.2.1,r3.2.1.2.2.1,r3.2.1.2.2.2.1,r3.2.1.2.2.2.2.1,r3.2.1.2.2.2.2.2.1,r3.2.1.2.2.2.2.2.2.1,r3.2.1.2.2.2.2.2.2.2.1,((([]:List dW)++((r3.2.1.2.2.2.2.2.2.2.2.1.drop (0:Int).toNat).take (r1-0).toNat))++((r3.2.1.2.2.2.2.2.2.2.2.1.drop ((i64.wrap (r1+1))).toNat).take ((r3.2.1.2.2.2.2.2.2.2.2.1.length:Int)-(i64.wrap (r1+1))).toNat)),r3.2.1.2.2.2.2.2.2.2.2.2),())) else none else none else none else none else some ((r3.1.1,()),(r3.2.1,())) else none else none
theorem yKS:ConOk prog 179 ⟨yhN,yl7,fun x=>yoQ x.1 x.2.1⟩:=zkI (yG7) func179 ntmps179.symm fun x=>by kernel_rfl
def yik (a0:dA) (a1:Int):Int×dA:=yaF a0 a1
def ytb (a0:dA) (a1:Int):Bool:=decide (a0.2.2.2.2.2.2.2.2.1.length≤1000)
theorem yND (a0:dA) (a1:Int) (hk:zjx yhN (a0,a1,())) (hq:ytb a0 a1=true):yoQ a0 a1=(fun n=>some ((n.1,()),(n.2,()))) (yik a0 a1):=by
 have hq:=of_decide_eq_true hq;unfold yoQ yik yaF;simp only[yhk];cases h0:ltb (yL a0.2.2.2.2.2.2.2.2.1 a1) 0
 ·have h1:=zkW h0
  have hi:inb (yL a0.2.2.2.2.2.2.2.2.1 a1) a0.2.2.2.2.2.2.2.2.1.length=true:=(yk9 (d:=((0:Int),([]:List Int))) (zk2 h1)).1;simp only[hi,cond_true,cond_false];generalize hD:(nth a0.2.2.2.2.2.2.2.2.1 (yL a0.2.2.2.2.2.2.2.2.1 a1) (0,[])).2=D;cases hc:(yal a0 a1 D !=0)
  ·obtain⟨ha,hl,hw,hd,hs,hb,_⟩:=ytV (bne_eq_false_iff_eq.1 hc)
   rw[yOC a0 a1 D (by unfold yil; rw[hs,hl,yEA ha]; simp)];simp only[zkH,cond_false,yij,yU7];have hk:=zj6.1 hi;cases hr:((yI a0 a1 D).1==0)
   ·rfl
   ·generalize yL a0.2.2.2.2.2.2.2.2.1 a1=K at h1 hk
    rw[wq (K+1) (by omega) (by omega),zkz.2 (show(0:Int)≤0∧0≤K∧K≤(a0.2.2.2.2.2.2.2.2.1.length:Int)by omega),zkz.2 (show 0≤K+1∧K+1≤(a0.2.2.2.2.2.2.2.2.1.length:Int)∧(a0.2.2.2.2.2.2.2.2.1.length:Int)≤(a0.2.2.2.2.2.2.2.2.1.length:Int)by omega),
     zkF.2 (by rw[List.length_take,List.length_drop,List.length_nil]; omega),zkF.2 (by rw[List.length_append,List.length_take,List.length_take,List.length_drop,List.length_drop,List.length_nil]; omega),yVY h1 hk.2]
    rw[beq_iff_eq.1 hr]; rfl
  ·rfl
 ·rfl
def ymn (a0:dA) (a1:Int):Option (zaY yl7×zak yhN):=bif ytb a0 a1 then(fun n=>some ((n.1,()),(n.2,()))) (yik a0 a1)else none
theorem yOD (a0:dA) (a1:Int) (h:ytb a0 a1=true):ymn a0 a1=(fun n=>some ((n.1,()),(n.2,()))) (yik a0 a1):=by unfold ymn; rw[h]; rfl
def yyS:Con:=⟨yhN,yl7,fun x=>ymn x.1 x.2.1⟩
theorem yOx:ConOk prog 179 yyS:=(yKS).mono (fun x r hk h=>zkY h (fun hq=>yND x.1 x.2.1 hk hq))
def ypn:Code:=(f117.body).getD .skip
def yxR:Env:=zkw TT [(179,yyS)] []
theorem yMP:FrOk prog ⟨yxR,22,fun _=>none⟩ ypn:=zkA mixed ye ⟨yOx,trivial⟩
def yCe:Nat→Option Seg:=fun _=>none
def ydp:Shape:=⟨[(0,false,[.ptr 1000000000 0])],[(1000000000,[.int .i64,.int .i64,.int .i64,.at 800000000,.int .i64,.int .i64,.int .i64,.int .i64,.int .i64,.at 800000001,.int .i64,.bool,.bool])],[(800000000,tM,(.pr (.ow .fz) (.pr (.ow (.pr .fz .fz)) (.pr .fz (.ow .fz))))),(800000001,tW,(.pr .fz .fz))]⟩
def yhU:Shape:=⟨[(0,false,[.ptr 1000000000 0])],[(1000000000,[.int .i64,.int .i64,.int .i64,.at 800000000,.int .i64,.int .i64,.int .i64,.int .i64,.int .i64,.at 800000001,.int .i64,.bool,.bool])],[(800000000,tM,(.pr (.ow .fz) (.pr (.ow (.pr .fz .fz)) (.pr .fz (.ow .fz))))),(800000001,tW,(.pr .fz .fz))]⟩
def yhQ:Shape:=⟨[],[(1000000000,[.int .i64,.int .i64,.int .i64,.at 800000000,.int .i64,.int .i64,.int .i64,.int .i64,.int .i64,.at 800000001,.int .i64,.bool,.bool])],[(800000000,tM,(.pr (.ow .fz) (.pr (.ow (.pr .fz .fz)) (.pr .fz (.ow .fz))))),(800000001,tW,(.pr .fz .fz))]⟩
def yhY:Shape:=⟨[(2,false,[.int .i64])],[(1000000000,[.int .i64,.int .i64,.int .i64,.at 800000000,.int .i64,.int .i64,.int .i64,.int .i64,.int .i64,.at 800000001,.int .i64,.bool,.bool])],[(800000000,tM,(.pr (.ow .fz) (.pr (.ow (.pr .fz .fz)) (.pr .fz (.ow .fz))))),(800000001,tW,(.pr .fz .fz))]⟩
abbrev yqU (v0:dA):(ydp).X:=((((),()),()),((v0.1,v0.2.1.1,v0.2.1.2,(),v0.2.2.2.1,v0.2.2.2.2.1,v0.2.2.2.2.2.1,v0.2.2.2.2.2.2.1,v0.2.2.2.2.2.2.2.1,(),v0.2.2.2.2.2.2.2.2.2.1,v0.2.2.2.2.2.2.2.2.2.2.1,v0.2.2.2.2.2.2.2.2.2.2.2,()),()),(v0.2.2.1,v0.2.2.2.2.2.2.2.2.1,()))
abbrev yNa (v0:dA):(yhU).X:=((((),()),()),((v0.1,v0.2.1.1,v0.2.1.2,(),v0.2.2.2.1,v0.2.2.2.2.1,v0.2.2.2.2.2.1,v0.2.2.2.2.2.2.1,v0.2.2.2.2.2.2.2.1,(),v0.2.2.2.2.2.2.2.2.2.1,v0.2.2.2.2.2.2.2.2.2.2.1,v0.2.2.2.2.2.2.2.2.2.2.2,()),()),(v0.2.2.1,v0.2.2.2.2.2.2.2.2.1,()))
abbrev yM6 (v0:dA):(yhQ).X:=((),((v0.1,v0.2.1.1,v0.2.1.2,(),v0.2.2.2.1,v0.2.2.2.2.1,v0.2.2.2.2.2.1,v0.2.2.2.2.2.2.1,v0.2.2.2.2.2.2.2.1,(),v0.2.2.2.2.2.2.2.2.2.1,v0.2.2.2.2.2.2.2.2.2.2.1,v0.2.2.2.2.2.2.2.2.2.2.2,()),()),(v0.2.2.1,v0.2.2.2.2.2.2.2.2.1,()))
abbrev yNd (v0:Int) (v1:dA):(yhY).X:=(((v0,()),()),((v1.1,v1.2.1.1,v1.2.1.2,(),v1.2.2.2.1,v1.2.2.2.2.1,v1.2.2.2.2.2.1,v1.2.2.2.2.2.2.1,v1.2.2.2.2.2.2.2.1,(),v1.2.2.2.2.2.2.2.2.2.1,v1.2.2.2.2.2.2.2.2.2.2.1,v1.2.2.2.2.2.2.2.2.2.2.2,()),()),(v1.2.2.1,v1.2.2.2.2.2.2.2.2.1,()))
def yrq (v0 v1 v2 v3 v4 v5 v6 v7 v8:Int) (v9 v10:Bool) (v11:List dM) (v12:List dW):Option ((ydp).X ⊕ ((yhQ).X ⊕ (yhY).X)) :=bif(ltb 0 (v12.length:Int))then bif(inb 0 v12.length)then bnd (ymn (v0,(v1,v2),v11,v3,v4,v5,v6,v7,v12,v8,v9,v10) ((nth v12 0 (0,[])).1)) fun r2 =>bif(r2.1.1 !=0)then some (.inr (.inr (((r2.1.1,()),()),((r2.2.1.1,r2.2.1.2.1.1,r2.2.1.2.1.2,(),r2.2.1.2.2.2.1,r2.2.1.2.2.2.2.1,r2.2.1.2.2.2.2.2.1,r2.2.1.2.2.2.2.2.2.1,r2.2.1.2.2.2.2.2.2.2.1,(),r2.2.1.2.2.2.2.2.2.2.2.2.1,r2.2.1.2.2.2.2.2.2.2.2.2.2.1,r2.2.1.2.2.2.2.2.2.2.2.2.2.2,()),()),(r2.2.1.2.2.1,r2.2.1.2.2.2.2.2.2.2.2.1,())))) else some (.inl ((((),()),()),((r2.2.1.1,r2.2.1.2.1.1,r2.2.1.2.1.2,(),r2.2.1.2.2.2.1,r2.2.1.2.2.2.2.1,r2.2.1.2.2.2.2.2.1,r2.2.1.2.2.2.2.2.2.1,r2.2.1.2.2.2.2.2.2.2.1,(),r2.2.1.2.2.2.2.2.2.2.2.2.1,r2.2.1.2.2.2.2.2.2.2.2.2.2.1,r2.2.1.2.2.2.2.2.2.2.2.2.2.2,()),()),(r2.2.1.2.2.1,r2.2.1.2.2.2.2.2.2.2.2.1,()))) else none else some (.inr (.inl ((),((v0,v1,v2,(),v3,v4,v5,v6,v7,(),v8,v9,v10,()),()),(v11,v12,()))))
def ydy (x:(ydp).X):=yrq x.2.1.1.1 x.2.1.1.2.1 x.2.1.1.2.2.1 x.2.1.1.2.2.2.2.1 x.2.1.1.2.2.2.2.2.1 x.2.1.1.2.2.2.2.2.2.1 x.2.1.1.2.2.2.2.2.2.2.1 x.2.1.1.2.2.2.2.2.2.2.2.1 x.2.1.1.2.2.2.2.2.2.2.2.2.2.1 x.2.1.1.2.2.2.2.2.2.2.2.2.2.2.1 x.2.1.1.2.2.2.2.2.2.2.2.2.2.2.2.1 x.2.2.1 x.2.2.2.1
def yA7 (x:(yhU).X):(ydp).X:=((((),()),()),((x.2.1.1.1,x.2.1.1.2.1,x.2.1.1.2.2.1,(),x.2.1.1.2.2.2.2.1,x.2.1.1.2.2.2.2.2.1,x.2.1.1.2.2.2.2.2.2.1,x.2.1.1.2.2.2.2.2.2.2.1,x.2.1.1.2.2.2.2.2.2.2.2.1,(),x.2.1.1.2.2.2.2.2.2.2.2.2.2.1,x.2.1.1.2.2.2.2.2.2.2.2.2.2.2.1,x.2.1.1.2.2.2.2.2.2.2.2.2.2.2.2.1,()),()),(x.2.2.1,x.2.2.2.1,()))
def yCm:Code:=(zd7 ypn 64 24).getD .skip
theorem yPJ:zd7 ypn 64 6=some (.block 0 (.loop yCm)):=by kernel_rfl
theorem yRo (x:(ydp).X):zhu ⟨yxR,22,yCe⟩ 0 yCm 24 ydp yhQ yhY x=ydy x:=by kernel_rfl
def yBc (x:(yhU).X):Nat:=18446744073709551616
def ysi (x:(yhU).X):Option ((yhQ).X ⊕ (yhY).X):=zF ydy (yBc x) (yA7 x)
def yBC:Seg:=⟨yhU,yhQ,yhY,ysi⟩
def yPn:Nat→Option Seg:=fun q=>bif Nat.beq q 6 then some yBC else yCe q
theorem yMQ:FrOk prog ⟨yxR,22,yPn⟩ ypn:=(yMP).loop (sg:=yBC) ydp yA7 (by decide) yPJ ydy yBc (by decide) (fun _=>rfl) (fun x r _ h=>h) yRo
abbrev ykX:List Par:= [.pt tA (.pr .fz (.pr (.pr .fz .fz) (.pr (.ow (.pr (.ow .fz) (.pr (.ow (.pr .fz .fz)) (.pr .fz (.ow .fz))))) (.pr .fz (.pr .fz (.pr .fz (.pr .fz (.pr .fz (.pr (.ow (.pr .fz .fz)) (.pr .fz (.pr .fz .fz)))))))))))]
abbrev yqw:List OT:= [⟨false,tI,.fz⟩]
def ytp (a0:dA):Option (zaY yqw×zak ykX) :=zkt (ysi ((((),()),()),((a0.1,a0.2.1.1,a0.2.1.2,(),a0.2.2.2.1,a0.2.2.2.2.1,a0.2.2.2.2.2.1,a0.2.2.2.2.2.2.1,a0.2.2.2.2.2.2.2.1,(),a0.2.2.2.2.2.2.2.2.2.1,a0.2.2.2.2.2.2.2.2.2.2.1,a0.2.2.2.2.2.2.2.2.2.2.2,()),()),(a0.2.2.1,a0.2.2.2.2.2.2.2.2.1,()))) (fun y2 =>some ((0,()),((y2.2.1.1.1,(y2.2.1.1.2.1,y2.2.1.1.2.2.1),y2.2.2.1,y2.2.1.1.2.2.2.2.1,y2.2.1.1.2.2.2.2.2.1,y2.2.1.1.2.2.2.2.2.2.1,y2.2.1.1.2.2.2.2.2.2.2.1,y2.2.1.1.2.2.2.2.2.2.2.2.1,y2.2.2.2.1,y2.2.1.1.2.2.2.2.2.2.2.2.2.2.1,y2.2.1.1.2.2.2.2.2.2.2.2.2.2.2.1,y2.2.1.1.2.2.2.2.2.2.2.2.2.2.2.2.1),()))) (fun y2 =>some ((y2.1.1.1,()),((y2.2.1.1.1,(y2.2.1.1.2.1,y2.2.1.1.2.2.1),y2.2.2.1,y2.2.1.1.2.2.2.2.1,y2.2.1.1.2.2.2.2.2.1,y2.2.1.1.2.2.2.2.2.2.1,y2.2.1.1.2.2.2.2.2.2.2.1,y2.2.1.1.2.2.2.2.2.2.2.2.1,y2.2.2.2.1,y2.2.1.1.2.2.2.2.2.2.2.2.2.2.1,y2.2.1.1.2.2.2.2.2.2.2.2.2.2.2.1,y2.2.1.1.2.2.2.2.2.2.2.2.2.2.2.2.1),())))
theorem yQV:ConOk prog 117 ⟨ykX,yqw,fun x=>ytp x.1⟩:=zkI (yMQ) func117 ntmps117.symm fun x=>by kernel_rfl
def yln (a0:dA):Int×dA:=yBP a0
def yzK (a0:dA):Bool:=decide (a0.2.2.2.2.2.2.2.2.1.length≤1000)
theorem yTh (a0:dA) (hk:zjx ykX (a0,())) (hq:yzK a0=true):ytp a0=(fun n=>some ((n.1,()),(n.2,()))) (yln a0):=by
 have hq:=of_decide_eq_true hq
 have h1:=zkC (step:=ydy) a0.2.2.2.2.2.2.2.2.1.length (fun _ s=>yqU s) yh0 (fun i s=>s.2.2.2.2.2.2.2.2.1.length+i=a0.2.2.2.2.2.2.2.2.1.length) (fun b=>(0,b))
  (fun r=>bif r.1==0 then .inl (yM6 r.2)else .inr (yNd r.1 r.2)) (fun i s hi hs=>by
   have hp:0<s.2.2.2.2.2.2.2.2.1.length:=by omega
   constructor
   ·simp only[ydy,yqU,yrq,zkX,zky (show(0:Int)<(s.2.2.2.2.2.2.2.2.1.length:Int)by omega),cond_true,show inb 0 s.2.2.2.2.2.2.2.2.1.length=true from zkR (i:=0) hp]
    rw[yOD s (nth s.2.2.2.2.2.2.2.2.1 0 (0,[])).1 (decide_eq_true (show s.2.2.2.2.2.2.2.2.1.length≤1000 by omega))];simp only[zkH,yik];unfold yh0;generalize yaF s (nth s.2.2.2.2.2.2.2.2.1 0 (0,[])).1=R;cases hr:(R.1 !=0)
    ·rfl
    ·simp only[cond_true]
     rw[show(R.1==0)=false from beq_eq_false_iff_ne.2 (bne_iff_ne.1 hr)]; rfl
   ·intro s' h
    unfold yh0 at h;cases hr:((yaF s (nth s.2.2.2.2.2.2.2.2.1 0 (0,[])).1).1 !=0)
    ·rw[hr]at h
     simp only[cond_false,Sum.inl.injEq]at h;rw[← h,yVD hp (bne_eq_false_iff_eq.1 hr),List.length_drop]; omega
    ·rw[hr]at h; cases h) (fun s hs=>by
   simp only[ydy,yqU,yrq,show ltb 0 (s.2.2.2.2.2.2.2.2.1.length:Int)=false from zk3 (by omega)]; rfl) a0 rfl 18446744073709551616 (by omega)
 unfold ytp yln yBP;refine(congrArg (fun z=>zkt z _ _) (show ysi (yNa a0)=_ from h1)).trans ?_;generalize goE yh0 (fun b=>(0,b)) a0.2.2.2.2.2.2.2.2.1.length 0 a0=R;cases hr:(R.1==0)
 ·rfl
 ·simp only[cond_true,zkN,zkX]
  rw[show R.1=0 from beq_iff_eq.1 hr]
def yq0 (a0:dA):Option (zaY yqw×zak ykX):=bif yzK a0 then(fun n=>some ((n.1,()),(n.2,()))) (yln a0)else none
theorem yTD (a0:dA) (h:yzK a0=true):yq0 a0=(fun n=>some ((n.1,()),(n.2,()))) (yln a0):=by unfold yq0; rw[h]; rfl
def yCz:Con:=⟨ykX,yqw,fun x=>yq0 x.1⟩
theorem yTA:ConOk prog 117 yCz:=(yQV).mono (fun x r hk h=>zkY h (fun hq=>yTh x.1 hk hq))
def yLv:Code:=(f180.body).getD .skip
def yLS:Env:=zkw TT [(82,yK),(119,ykA)] []
theorem yFa:FrOk prog ⟨yLS,16,fun _=>none⟩ yLv:=zkA mixed ye ⟨yU,ys2,trivial⟩
abbrev ykh:List Par:= [.rd tG,.rd tI]
abbrev yqs:List OT:= [⟨false,tI,.fz⟩]
def ym9 (a0:dG) (a1:Int):Option (zaY yqs×zak ykh) :=let r1:=yn a0;let r2:=yb a1 0 (i64.wrap (r1-1));bif(!r2)then some (((-1),()),()) else bif((i64.wrap (a0.1-1)) !=0)then some (((i64.wrap (a1.tdiv (i64.wrap (a0.1-1)))),()),()) else none
theorem yHM:ConOk prog 180 ⟨ykh,yqs,fun x=>ym9 x.1 x.2.1⟩:=zkI (yFa) func180 ntmps180.symm fun x=>by kernel_rfl
def yg6 (a0:dG) (a1:Int):Int:=yag a0 a1
theorem yKp (a0:dG) (a1:Int) (hk:zjx ykh (a0,a1,())):ym9 a0 a1=(fun n=>some ((n,()),())) (yg6 a0 a1):=by
 unfold ym9 yg6 yag;simp only[yUg];cases hb:ybj a0 a1
 ·rfl
 ·obtain⟨h1,h2,h3⟩:=yk3 hb
  have h4:=yl.1 h1;rw[wq (a0.1-1) (by omega) (by omega),show(a0.1-1 !=0)=true from bne_iff_ne.2 (by omega),wr (by omega) (by omega)]; rfl
def ywy:Con:=⟨ykh,yqs,fun x=>(fun n=>some ((n,()),())) (yg6 x.1 x.2.1)⟩
theorem yK6:ConOk prog 180 ywy:=(yHM).mono (fun x r hk h=>(yKp x.1 x.2.1 hk).trans h)
end
end Go.Tf
