/- Functions of the program, and what they come to. -/
import Derived.Test.YtolmneojjjpnjaaGreatBorneF0
namespace Go.Tf
noncomputable section
open Go.Proofs Go.Proofs.Tryz IntKind
set_option synthInstance.maxHeartbeats 400000
set_option synthInstance.maxSize 10000
set_option linter.unusedVariables false
set_option linter.unusedSimpArgs false
set_option maxRecDepth 100000
def ySF:Code:=(f128.body).getD .skip
def yS9:Env:=zkw TT [] []
theorem yJ3:FrOk prog ⟨yS9,6,fun _=>none⟩ ySF:=zkA mixed yc trivial
abbrev yuJ:List Par:= [.rd tG]
abbrev yu1:List OT:= [⟨false,tI,.fz⟩]
def yCf (a0:dG):Option (zaY yu1×zak yuJ) :=some (((i64.wrap (6+a0.2)),()),())
theorem yOc:ConOk prog 128 ⟨yuJ,yu1,fun x=>yCf x.1⟩:=zkI (yJ3) func128 ntmps128.symm fun x=>by kernel_rfl
def ynS (a0:dG):Int :=(i64.wrap (6+a0.2))
def yA7:Con:=⟨yuJ,yu1,fun x=>(fun n=>some ((n,()),())) (ynS x.1)⟩
theorem yQY (a0:dG):yCf a0=(fun n=>some ((n,()),())) (ynS a0):=zkV (p:=fun(n:Int)=>((n,()),())) rfl
theorem yRZ:ConOk prog 128 yA7:=(yOc).mono (fun x r _ h=>(yQY x.1).trans h)
def yro:Code:=(f55.body).getD .skip
def yAc:Env:=zkw TT [(81,yA),(123,yfW),(125,ysP),(126,yA5),(127,yi7),(128,yA7)] []
theorem yPY:FrOk prog ⟨yAc,103,fun _=>none⟩ yro:=zkA mixed yc ⟨yN,ykJ,yFc,yRX,ypP,yRZ,trivial⟩
def yEm:Nat→Option Seg:=fun _=>none
def yc0:Shape:=⟨[(1,false,[.ptr 0 0]),(41,false,[.br tM]),(42,false,[.int .i64]),(43,false,[.int .i64])],[(0,[.int .i64,.int .i64,.int .i64,.br tM,.int .i64,.int .i64,.int .i64,.int .i64,.int .i64,.br tW,.int .i64,.bool,.bool])],[]⟩
def yhA:Shape:=⟨[(1,false,[.ptr 0 0]),(41,false,[.br tM]),(42,false,[.int .i64]),(43,false,[.ci .i64 0])],[(0,[.int .i64,.int .i64,.int .i64,.br tM,.int .i64,.int .i64,.int .i64,.int .i64,.int .i64,.br tW,.int .i64,.bool,.bool])],[]⟩
def yhm:Shape:=⟨[(1,false,[.ptr 0 0])],[(0,[.int .i64,.int .i64,.int .i64,.br tM,.int .i64,.int .i64,.int .i64,.int .i64,.int .i64,.br tW,.int .i64,.bool,.bool])],[]⟩
def yhO:Shape:=⟨[(2,false,[.bool])],[],[]⟩
abbrev yqe (v0:List dM) (v1 v2:Int) (v3:dA):(yc0).X:=((((),()),(v0,()),(v1,()),(v2,()),()),((v3.1,v3.2.1.1,v3.2.1.2,v3.2.2.1,v3.2.2.2.1,v3.2.2.2.2.1,v3.2.2.2.2.2.1,v3.2.2.2.2.2.2.1,v3.2.2.2.2.2.2.2.1,v3.2.2.2.2.2.2.2.2.1,v3.2.2.2.2.2.2.2.2.2.1,v3.2.2.2.2.2.2.2.2.2.2.1,v3.2.2.2.2.2.2.2.2.2.2.2,()),()),())
abbrev yNh (v0:List dM) (v1:Int) (v2:dA):(yhA).X:=((((),()),(v0,()),(v1,()),((),()),()),((v2.1,v2.2.1.1,v2.2.1.2,v2.2.2.1,v2.2.2.2.1,v2.2.2.2.2.1,v2.2.2.2.2.2.1,v2.2.2.2.2.2.2.1,v2.2.2.2.2.2.2.2.1,v2.2.2.2.2.2.2.2.2.1,v2.2.2.2.2.2.2.2.2.2.1,v2.2.2.2.2.2.2.2.2.2.2.1,v2.2.2.2.2.2.2.2.2.2.2.2,()),()),())
abbrev yM9 (v0:dA):(yhm).X:=((((),()),()),((v0.1,v0.2.1.1,v0.2.1.2,v0.2.2.1,v0.2.2.2.1,v0.2.2.2.2.1,v0.2.2.2.2.2.1,v0.2.2.2.2.2.2.1,v0.2.2.2.2.2.2.2.1,v0.2.2.2.2.2.2.2.2.1,v0.2.2.2.2.2.2.2.2.2.1,v0.2.2.2.2.2.2.2.2.2.2.1,v0.2.2.2.2.2.2.2.2.2.2.2,()),()),())
abbrev yNu (v0:Bool):(yhO).X:=(((v0,()),()),(),())
def yqP (v0:List dM) (v1 v2 v3 v4 v5:Int) (v6:List dM) (v7 v8 v9 v10 v11:Int) (v12:List dW) (v13:Int) (v14 v15:Bool):Option ((yc0).X ⊕ ((yhm).X ⊕ (yhO).X)) :=bif(ltb v2 v1)then bif(inb v2 v0.length)then let r7:=ybn ((nth v0 v2 ([],[],false,[])).1,((nth v0 v2 ([],[],false,[])).2).1,(((nth v0 v2 ([],[],false,[])).2).2));bif(!(!r7))then let r8:=ynS (v4,v5);bif(!((((nth v0 v2 ([],[],false,[])).1).length:Int) !=r8))then bif(((nth v0 v2 ([],[],false,[])).2).2).1 then bif(v7 !=v2)then bif(!v15)then some (.inr (.inr (((false,()),()),(),()))) else some (.inl ((((),()),(v0,()),(v1,()),((i64.wrap (v2+1)),()),()),((v3,v4,v5,v6,v7,v8,v9,v10,v11,v12,v13,v14,v15,()),()),())) else some (.inl ((((),()),(v0,()),(v1,()),((i64.wrap (v2+1)),()),()),((v3,v4,v5,v6,v7,v8,v9,v10,v11,v12,v13,v14,v15,()),()),())) else some (.inl ((((),()),(v0,()),(v1,()),((i64.wrap (v2+1)),()),()),((v3,v4,v5,v6,v7,v8,v9,v10,v11,v12,v13,v14,v15,()),()),())) else some (.inr (.inr (((false,()),()),(),()))) else some (.inr (.inr (((false,()),()),(),()))) else none else some (.inr (.inl ((((),()),()),((v3,v4,v5,v6,v7,v8,v9,v10,v11,v12,v13,v14,v15,()),()),())))
def ydw (x:(yc0).X):=yqP x.1.2.1.1 x.1.2.2.1.1 x.1.2.2.2.1.1 x.2.1.1.1 x.2.1.1.2.1 x.2.1.1.2.2.1 x.2.1.1.2.2.2.1 x.2.1.1.2.2.2.2.1 x.2.1.1.2.2.2.2.2.1 x.2.1.1.2.2.2.2.2.2.1 x.2.1.1.2.2.2.2.2.2.2.1 x.2.1.1.2.2.2.2.2.2.2.2.1 x.2.1.1.2.2.2.2.2.2.2.2.2.1 x.2.1.1.2.2.2.2.2.2.2.2.2.2.1 x.2.1.1.2.2.2.2.2.2.2.2.2.2.2.1 x.2.1.1.2.2.2.2.2.2.2.2.2.2.2.2.1
def yBl (x:(yhA).X):(yc0).X:=((((),()),(x.1.2.1.1,()),(x.1.2.2.1.1,()),(0,()),()),((x.2.1.1.1,x.2.1.1.2.1,x.2.1.1.2.2.1,x.2.1.1.2.2.2.1,x.2.1.1.2.2.2.2.1,x.2.1.1.2.2.2.2.2.1,x.2.1.1.2.2.2.2.2.2.1,x.2.1.1.2.2.2.2.2.2.2.1,x.2.1.1.2.2.2.2.2.2.2.2.1,x.2.1.1.2.2.2.2.2.2.2.2.2.1,x.2.1.1.2.2.2.2.2.2.2.2.2.2.1,x.2.1.1.2.2.2.2.2.2.2.2.2.2.2.1,x.2.1.1.2.2.2.2.2.2.2.2.2.2.2.2.1,()),()),())
def yCS:Code:=(zd7 yro 64 116).getD .skip
theorem yPD:zd7 yro 64 29=some (.block 0 (.loop yCS)):=by kernel_rfl
theorem ySh (x:(yc0).X):zhu ⟨yAc,103,yEm⟩ 0 yCS 116 yc0 yhm yhO x=ydw x:=by kernel_rfl
def yBA (x:(yhA).X):Nat:=18446744073709551616
def yrL (x:(yhA).X):Option ((yhm).X ⊕ (yhO).X):=zF ydw (yBA x) (yBl x)
def yCl:Seg:=⟨yhA,yhm,yhO,yrL⟩
def ySS:Nat→Option Seg:=fun q=>bif Nat.beq q 29 then some yCl else yEm q
theorem yPZ:FrOk prog ⟨yAc,103,ySS⟩ yro:=(yPY).loop (sg:=yCl) yc0 yBl (by decide) yPD ydw yBA (by decide) (fun _=>rfl) (fun x r _ h=>h) ySh
abbrev yrZ:List Par:= [.rd tA]
abbrev yAu:List OT:= [⟨false,tB,.fz⟩]
def yvD (a0:dA):Option (zaY yAu×zak yrZ) :=let r1:=ybm a0.2.1;bif(!(!r1))then bif(!((a0.2.2.1.length:Int) !=a0.2.1.1))then let r2:=yf a0.1 1 60000;bif(!(!r2))then let r3:=ye8 a0.2.1 a0.2.2.2.1 a0.2.2.2.2.1;bif(!(!r3))then bnd (ynX a0) fun r4 =>bif(!r4.1.1)then some ((false,()),()) else zkt (yrL ((((),()),(a0.2.2.1,()),((a0.2.2.1.length:Int),()),((),()),()),((a0.1,a0.2.1.1,a0.2.1.2,a0.2.2.1,a0.2.2.2.1,a0.2.2.2.2.1,a0.2.2.2.2.2.1,a0.2.2.2.2.2.2.1,a0.2.2.2.2.2.2.2.1,a0.2.2.2.2.2.2.2.2.1,a0.2.2.2.2.2.2.2.2.2.1,a0.2.2.2.2.2.2.2.2.2.2.1,a0.2.2.2.2.2.2.2.2.2.2.2,()),()),())) (fun y8 =>let r10:=yf y8.2.1.1.2.2.2.2.2.2.1 0 60000;bif r10 then let r11:=yf y8.2.1.1.2.2.2.2.2.2.2.1 0 60000;bif r11 then let r12:=yf y8.2.1.1.2.2.2.2.2.2.2.2.1 0 60000;bif r12 then let r13:=yf (i64.wrap (y8.2.1.1.2.2.2.2.2.2.1-y8.2.1.1.2.2.2.2.2.2.2.1)) 0 4;bif r13 then let r14:=yf y8.2.1.1.2.2.2.2.2.2.2.2.2.2.1 (-1) 1000;some ((r14,()),()) else some ((false,()),()) else some ((false,()),()) else some ((false,()),()) else some ((false,()),())) (fun y8 =>some ((y8.1.1.1,()),())) else some ((false,()),()) else some ((false,()),()) else some ((false,()),()) else some ((false,()),())
theorem yT9:ConOk prog 55 ⟨yrZ,yAu,fun x=>yvD x.1⟩:=zkI (yPZ) func55 ntmps55.symm fun x=>by kernel_rfl
theorem y0T {S T G F z TS le:Bool} (h1:T=true→TS=true→S=true) (h2:S=true→T=true→z=(TS&&le)) :
  (bif S then bif T then bif G then bif z then some ((F,()),())else some ((false,()),())else some ((false,()),())else some ((false,()),())else some ((false,()),()))=some (((T&&(TS&&(le&&(G&&F)))),()),()):=by
 cases S
 ·cases T
  ·rfl
  ·cases TS
   ·rfl
   ·exact absurd (h1 rfl rfl) Bool.false_ne_true
 ·cases T
  ·cases G<;>rfl
  ·rw[h2 rfl rfl]
   cases TS<;>cases le<;>cases G<;>rfl
def yG (a0:dA):Bool:=yP a0
theorem yWu (a0:dA) (hk:zjx yrZ (a0,())):yvD a0=(fun n=>some ((n,()),())) (yG a0):=by
 have hb:a0.2.2.1.length*80≤2^47:=hk.1.2.2.1.1;unfold yvD yG yP;simp only[yH1,y9,ybR];cases hg:ye a0.2.1
 ·rfl
 have hg2:=yk.1 hg
 have h1:yrL (yNh a0.2.2.1 a0.2.2.1.length a0)=some (bif(List.range a0.2.2.1.length).any (ygC a0)then .inr (yNu false)else .inl (yM9 a0)) :=
  zji (step:=ydw) (fun i=>yqe a0.2.2.1 a0.2.2.1.length i a0) a0.2.2.1.length (ygC a0) _ _ (fun i hi=>by
   simp only[ydw,yqe,yqP,zky (show(i:Int)<a0.2.2.1.length by omega),cond_true,wq ((i:Int)+1) (by omega) (by omega),Int.natCast_add,Int.natCast_one,Int.toNat_natCast,zkR hi,zkX,ybn,ygC,ynS,wq (6+a0.2.1.2) (by omega) (by omega),yd];rw[show(a0.2.2.2.1 !=(i:Int))=((i:Int) !=a0.2.2.2.1)from bne_comm]
   cases yr (nth a0.2.2.1 i ([],[],false,[]))<;>cases(((nth a0.2.2.1 i ([],[],false,[])).1.length:Int) !=6+a0.2.1.2)<;>cases(nth a0.2.2.1 i ([],[],false,[])).2.2.1<;>cases((i:Int) !=a0.2.2.2.1)<;>cases a0.2.2.2.2.2.2.2.2.2.2.2<;>rfl) (by simp only[ydw,yqe,yqP,zk3 (Int.le_refl _),cond_false]) _ (by show _<18446744073709551616; omega)
 rw[ySc a0 hg,h1];simp only[zkH,yjj,ye8,y9,ybR,wq (a0.2.1.1-1) (by omega) (by omega),ykz]
 have hw:(leb 0 a0.2.2.2.2.2.1&&leb a0.2.2.2.2.2.1 60000)=true→(leb 0 a0.2.2.2.2.2.2.1&&leb a0.2.2.2.2.2.2.1 60000)=true→i64.wrap (a0.2.2.2.2.2.1-a0.2.2.2.2.2.2.1)=a0.2.2.2.2.2.1-a0.2.2.2.2.2.2.1:=fun h h'=>by
  rw[Bool.and_eq_true,zj7,zj7]at h h';exact wr (by omega) (by omega)
 simp only[bne,Bool.not_not,cond_true,Bool.true_and]
 have h2:(leb 0 a0.2.2.2.2.2.1&&leb a0.2.2.2.2.2.1 60000)=true→(leb 0 a0.2.2.2.2.2.2.1&&leb a0.2.2.2.2.2.2.1 60000)=true→(leb 0 (i64.wrap (a0.2.2.2.2.2.1-a0.2.2.2.2.2.2.1))&&leb (i64.wrap (a0.2.2.2.2.2.1-a0.2.2.2.2.2.2.1)) 4)=((leb a0.2.2.2.2.2.2.1 a0.2.2.2.2.2.1&&leb a0.2.2.2.2.2.1 60000)&&leb a0.2.2.2.2.2.1 (a0.2.2.2.2.2.2.1+4)):=fun h h'=>by
  rw[hw h h',Bool.eq_iff_iff];simp only[Bool.and_eq_true,zj7]at h h' ⊢;omega
 have h3:(leb 0 a0.2.2.2.2.2.2.1&&leb a0.2.2.2.2.2.2.1 60000)=true→(leb a0.2.2.2.2.2.2.1 a0.2.2.2.2.2.1&&leb a0.2.2.2.2.2.1 60000)=true→(leb 0 a0.2.2.2.2.2.1&&leb a0.2.2.2.2.2.1 60000)=true:=fun h h'=>by
  simp only[Bool.and_eq_true,zj7]at h h' ⊢;omega
 cases((a0.2.2.1.length:Int)==a0.2.1.1)
 ·cases(leb 1 a0.1&&leb a0.1 60000)<;>cases(List.range a0.2.2.1.length).any (ygC a0)<;>rfl
 cases(leb 1 a0.1&&leb a0.1 60000)
 ·rfl
 cases(leb (-1) a0.2.2.2.1&&leb a0.2.2.2.1 (a0.2.1.1-1))
 ·cases(List.range a0.2.2.1.length).any (ygC a0)<;>cases yaz a0.2.1 a0.2.2.2.2.2.2.2.2.1<;>rfl
 cases(leb 0 a0.2.2.2.2.1&&leb a0.2.2.2.2.1 a0.2.1.2)
 ·cases(List.range a0.2.2.1.length).any (ygC a0)<;>cases yaz a0.2.1 a0.2.2.2.2.2.2.2.2.1<;>rfl
 cases yaz a0.2.1 a0.2.2.2.2.2.2.2.2.1
 ·cases(List.range a0.2.2.1.length).any (ygC a0)<;>cases(a0.2.2.2.1== -1)<;>cases(a0.2.2.2.2.1==0)<;>rfl
 cases(List.range a0.2.2.1.length).any (ygC a0)
 ·cases(a0.2.2.2.1== -1)<;>cases(a0.2.2.2.2.1==0)
  case true.false=>rfl
  all_goals exact y0T h3 h2
 ·cases(a0.2.2.2.1== -1)<;>cases(a0.2.2.2.2.1==0)<;>rfl
def yd7:Con:=⟨yrZ,yAu,fun x=>(fun n=>some ((n,()),())) (yG x.1)⟩
theorem yg9:ConOk prog 55 yd7:=(yT9).mono (fun x r hk h=>(yWu x.1 hk).trans h)
def yd3:Code:=(f133.body).getD .skip
def yiP:Env:=zkw TT [(158,yaP)] []
theorem yJV:FrOk prog ⟨yiP,49,fun _=>none⟩ yd3:=zkA mixed yc ⟨ycA,trivial⟩
def yz2:Nat→Option Seg:=fun _=>none
def ybI:Shape:=⟨[(1,false,[.ptr 0 0]),(2,false,[.ptr 64 0]),(3,false,[.ptr 4480 0]),(15,false,[.br tL]),(16,false,[.int .i64]),(17,false,[.int .i64])],[(0,[.br tL,.br tW,.bool,.br tI]),(64,[.nil,.nil,.bool,.nil]),(4480,[.at 800000001,.nil,.bool,.at 800000000])],[(800000001,tL,(.ow .fz)),(800000000,tI,.fz)]⟩
def yft:Shape:=⟨[(1,false,[.ptr 0 0]),(2,false,[.ptr 64 0]),(3,false,[.ptr 4480 0]),(15,false,[.br tL]),(16,false,[.int .i64]),(17,false,[.ci .i64 0])],[(0,[.br tL,.br tW,.bool,.br tI]),(64,[.nil,.nil,.bool,.nil]),(4480,[.at 800000001,.nil,.bool,.at 800000000])],[(800000001,tL,(.ow .fz)),(800000000,tI,.fz)]⟩
def yfh:Shape:=⟨[(1,false,[.ptr 0 0]),(2,false,[.ptr 64 0]),(3,false,[.ptr 4480 0])],[(0,[.br tL,.br tW,.bool,.br tI]),(64,[.nil,.nil,.bool,.nil]),(4480,[.at 800000000,.nil,.bool,.at 800000001])],[(800000000,tL,(.ow .fz)),(800000001,tI,.fz)]⟩
def yiD:Shape:=⟨[],[],[]⟩
abbrev ymM (v0:List (List Int)) (v1 v2:Int) (v3 v4 v5:dM):(ybI).X:=((((),()),((),()),((),()),(v0,()),(v1,()),(v2,()),()),((v3.1,v3.2.1,v3.2.2.1,v3.2.2.2,()),((),(),v4.2.2.1,(),()),((),(),v5.2.2.1,(),()),()),(v5.1,v5.2.2.2,()))
abbrev yIg (v0:List (List Int)) (v1:Int) (v2 v3 v4:dM):(yft).X:=((((),()),((),()),((),()),(v0,()),(v1,()),((),()),()),((v2.1,v2.2.1,v2.2.2.1,v2.2.2.2,()),((),(),v3.2.2.1,(),()),((),(),v4.2.2.1,(),()),()),(v4.1,v4.2.2.2,()))
abbrev ywL (v0 v1 v2:dM):(yfh).X:=((((),()),((),()),((),()),()),((v0.1,v0.2.1,v0.2.2.1,v0.2.2.2,()),((),(),v1.2.2.1,(),()),((),(),v2.2.2.1,(),()),()),(v2.1,v2.2.2.2,()))
def ym9 (v0:List (List Int)) (v1 v2:Int) (v3:List (List Int)) (v4:List dW) (v5:Bool) (v6:List Int) (v7 v8:Bool) (v9:List (List Int)) (v10:List Int):Option ((ybI).X ⊕ ((yfh).X ⊕ (yiD).X)) :=bif(ltb v2 v1)then bif(inb v2 v0.length)then let r4:=yn (nth v0 v2 []);bif(zkl v9.length ([r4]:List (List Int)).length 24)then some (.inl ((((),()),((),()),((),()),(v0,()),(v1,()),((i64.wrap (v2+1)),()),()),((v3,v4,v5,v6,()),((),(),v7,(),()),((),(),v8,(),()),()),((v9++([r4]:List (List Int))),v10,()))) else none else none else some (.inr (.inl ((((),()),((),()),((),()),()),((v3,v4,v5,v6,()),((),(),v7,(),()),((),(),v8,(),()),()),(v9,v10,()))))
def yb3 (x:(ybI).X):=ym9 x.1.2.2.2.1.1 x.1.2.2.2.2.1.1 x.1.2.2.2.2.2.1.1 x.2.1.1.1 x.2.1.1.2.1 x.2.1.1.2.2.1 x.2.1.1.2.2.2.1 x.2.1.2.1.2.2.1 x.2.1.2.2.1.2.2.1 x.2.2.1 x.2.2.2.1
def ywi (x:(yft).X):(ybI).X:=((((),()),((),()),((),()),(x.1.2.2.2.1.1,()),(x.1.2.2.2.2.1.1,()),(0,()),()),((x.2.1.1.1,x.2.1.1.2.1,x.2.1.1.2.2.1,x.2.1.1.2.2.2.1,()),((),(),x.2.1.2.1.2.2.1,(),()),((),(),x.2.1.2.2.1.2.2.1,(),()),()),(x.2.2.1,x.2.2.2.1,()))
def yyE:Code:=(zd7 yd3 64 116).getD .skip
theorem yJB:zd7 yd3 64 29=some (.block 0 (.loop yyE)):=by kernel_rfl
theorem yLp (x:(ybI).X):zhu ⟨yiP,49,yz2⟩ 0 yyE 116 ybI yfh yiD x=yb3 x:=by kernel_rfl
def ywx (x:(yft).X):Nat:=18446744073709551616
def yn9 (x:(yft).X):Option ((yfh).X ⊕ (yiD).X):=zF yb3 (ywx x) (ywi x)
def ywY:Seg:=⟨yft,yfh,yiD,yn9⟩
def ypR:Nat→Option Seg:=fun q=>bif Nat.beq q 29 then some ywY else yz2 q
theorem yJW:FrOk prog ⟨yiP,49,ypR⟩ yd3:=(yJV).loop (sg:=ywY) ybI ywi (by decide) yJB yb3 ywx (by decide) (fun _=>rfl) (fun x r _ h=>h) yLp
def ybJ:Shape:=⟨[(2,false,[.ptr 64 0]),(3,false,[.ptr 4480 0]),(30,false,[.br tW]),(31,false,[.int .i64]),(32,false,[.int .i64])],[(64,[.nil,.nil,.bool,.nil]),(4480,[.at 800000000,.at 800000002,.bool,.at 800000001])],[(800000000,tL,(.ow .fz)),(800000002,tW,(.pr .fz (.ow .fz))),(800000001,tI,.fz)]⟩
def yfu:Shape:=⟨[(2,false,[.ptr 64 0]),(3,false,[.ptr 4480 0]),(30,false,[.br tW]),(31,false,[.int .i64]),(32,false,[.ci .i64 0])],[(64,[.nil,.nil,.bool,.nil]),(4480,[.at 800000000,.at 800000002,.bool,.at 800000001])],[(800000000,tL,(.ow .fz)),(800000002,tW,(.pr .fz (.ow .fz))),(800000001,tI,.fz)]⟩
def yfi:Shape:=⟨[(2,false,[.ptr 64 0]),(3,false,[.ptr 4480 0])],[(64,[.nil,.nil,.bool,.nil]),(4480,[.at 800000000,.at 800000001,.bool,.at 800000002])],[(800000000,tL,(.ow .fz)),(800000001,tW,(.pr .fz (.ow .fz))),(800000002,tI,.fz)]⟩
def yiE:Shape:=⟨[],[],[]⟩
abbrev ymN (v0:List dW) (v1 v2:Int) (v3 v4:dM):(ybJ).X:=((((),()),((),()),(v0,()),(v1,()),(v2,()),()),(((),(),v3.2.2.1,(),()),((),(),v4.2.2.1,(),()),()),(v4.1,v4.2.1,v4.2.2.2,()))
abbrev yIh (v0:List dW) (v1:Int) (v2 v3:dM):(yfu).X:=((((),()),((),()),(v0,()),(v1,()),((),()),()),(((),(),v2.2.2.1,(),()),((),(),v3.2.2.1,(),()),()),(v3.1,v3.2.1,v3.2.2.2,()))
abbrev ywM (v0 v1:dM):(yfi).X:=((((),()),((),()),()),(((),(),v0.2.2.1,(),()),((),(),v1.2.2.1,(),()),()),(v1.1,v1.2.1,v1.2.2.2,()))
def yna (v0:List dW) (v1 v2:Int) (v3 v4:Bool) (v5:List (List Int)) (v6:List dW) (v7:List Int):Option ((ybJ).X ⊕ ((yfi).X ⊕ (yiE).X)) :=bif(ltb v2 v1)then bif(inb v2 v0.length)then let r8:=yn ((nth v0 v2 (0,[])).2);bif(zkl v6.length ([((nth v0 v2 (0,[])).1,r8)]:List dW).length 32)then some (.inl ((((),()),((),()),(v0,()),(v1,()),((i64.wrap (v2+1)),()),()),(((),(),v3,(),()),((),(),v4,(),()),()),(v5,(v6++([((nth v0 v2 (0,[])).1,r8)]:List dW)),v7,()))) else none else none else some (.inr (.inl ((((),()),((),()),()),(((),(),v3,(),()),((),(),v4,(),()),()),(v5,v6,v7,()))))
def yb4 (x:(ybJ).X):=yna x.1.2.2.1.1 x.1.2.2.2.1.1 x.1.2.2.2.2.1.1 x.2.1.1.2.2.1 x.2.1.2.1.2.2.1 x.2.2.1 x.2.2.2.1 x.2.2.2.2.1
def ywj (x:(yfu).X):(ybJ).X:=((((),()),((),()),(x.1.2.2.1.1,()),(x.1.2.2.2.1.1,()),(0,()),()),(((),(),x.2.1.1.2.2.1,(),()),((),(),x.2.1.2.1.2.2.1,(),()),()),(x.2.2.1,x.2.2.2.1,x.2.2.2.2.1,()))
def yyF:Code:=(zd7 yd3 64 244).getD .skip
theorem yJC:zd7 yd3 64 61=some (.block 2 (.loop yyF)):=by kernel_rfl
theorem yLq (x:(ybJ).X):zhu ⟨yiP,49,ypR⟩ 2 yyF 244 ybJ yfi yiE x=yb4 x:=by kernel_rfl
def ywy (x:(yfu).X):Nat:=18446744073709551616
def yoa (x:(yfu).X):Option ((yfi).X ⊕ (yiE).X):=zF yb4 (ywy x) (ywj x)
def ywZ:Seg:=⟨yfu,yfi,yiE,yoa⟩
def yLS:Nat→Option Seg:=fun q=>bif Nat.beq q 61 then some ywZ else ypR q
theorem yJX:FrOk prog ⟨yiP,49,yLS⟩ yd3:=(yJW).loop (sg:=ywZ) ybJ ywj (by decide) yJC yb4 ywy (by decide) (fun _=>rfl) (fun x r _ h=>h) yLq
abbrev yny:List Par:= [.rd tM]
abbrev yuX:List OT:= [⟨false,tM,(.pr (.ow (.ow .fz)) (.pr (.ow (.pr .fz (.ow .fz))) (.pr .fz (.ow .fz))))⟩]
def yqA (a0:dM):Option (zaY yuX×zak yny) :=let r1:=yn a0.2.2.2;zkt (yn9 ((((),()),((),()),((),()),(a0.1,()),((a0.1.length:Int),()),((),()),()),((a0.1,a0.2.1,a0.2.2.1,a0.2.2.2,()),((),(),false,(),()),((),(),a0.2.2.1,(),()),()),([],r1,()))) (fun y4 =>zkt (yoa ((((),()),((),()),(y4.2.1.1.2.1,()),((y4.2.1.1.2.1.length:Int),()),((),()),()),(((),(),y4.2.1.2.1.2.2.1,(),()),((),(),y4.2.1.2.2.1.2.2.1,(),()),()),(y4.2.2.1,[],y4.2.2.2.1,()))) (fun y8 =>some (((y8.2.2.1,y8.2.2.2.1,y8.2.1.2.1.2.2.1,y8.2.2.2.2.1),()),())) (fun y8 =>none)) (fun y4 =>none)
theorem yN7:ConOk prog 133 ⟨yny,yuX,fun x=>yqA x.1⟩:=zkI (yJX) func133 ntmps133.symm fun x=>by kernel_rfl
def yaj (a0:dM):dM:=a0
theorem yQT (a0:dM) (hk:zjx yny (a0,())):yqA a0=(fun n=>some ((n,()),())) (yaj a0):=by
 have hb1:a0.1.length*24≤2^47:=hk.1.1.1;have hb2:a0.2.1.length*32≤2^47:=hk.1.2.1.1
 have h1:yn9 (yIg a0.1 a0.1.length a0 yd ([],[],a0.2.2.1,a0.2.2.2))=some (.inl (ywL a0 yd (a0.1,[],a0.2.2.1,a0.2.2.2))):=by
  have:=zkx (step:=yb3) a0.1 [] (fun i s=>ymM a0.1 a0.1.length i a0 yd (s,[],a0.2.2.1,a0.2.2.2)) (fun s x=>s++ [x]) (fun i s=>s.length=i) (fun s=> .inl (ywL a0 yd (s,[],a0.2.2.1,a0.2.2.2))) (fun i s hi hs2=>⟨by
   simp only[yb3,ymM,ym9,zky (show(i:Int)<a0.1.length by omega),cond_true,wq ((i:Int)+1) (by omega) (by omega),Int.natCast_add,Int.natCast_one,Int.toNat_natCast,zkR hi,zkS,yn]
   rw[zkF.2 (show(s.length+ [a0.1.getD i []].length)*24≤140737488355328 by simp only[List.length_cons,List.length_nil]; omega)]; rfl,by simp[hs2]⟩) (fun s _=>by simp only[yb3,ymM,ym9,zk3 (Int.le_refl _),cond_false]) [] rfl 18446744073709551616 (by omega)
  rw[yvn]at this;exact this
 have h2:yoa (yIh a0.2.1 a0.2.1.length yd (a0.1,[],a0.2.2.1,a0.2.2.2))=some (.inl (ywM yd a0)):=by
  have:=zkx (step:=yb4) a0.2.1 (0,[]) (fun i s=>ymN a0.2.1 a0.2.1.length i yd (a0.1,s,a0.2.2.1,a0.2.2.2)) (fun s x=>s++ [x]) (fun i s=>s.length=i) (fun s=> .inl (ywM yd (a0.1,s,a0.2.2.1,a0.2.2.2))) (fun i s hi hs2=>⟨by
   simp only[yb4,ymN,yna,zky (show(i:Int)<a0.2.1.length by omega),cond_true,wq ((i:Int)+1) (by omega) (by omega),Int.natCast_add,Int.natCast_one,Int.toNat_natCast,zkR hi,zkS,yn,zkX]
   rw[zkF.2 (show(s.length+ [a0.2.1.getD i (0,[])].length)*32≤140737488355328 by simp only[List.length_cons,List.length_nil]; omega)]; rfl,by simp[hs2]⟩) (fun s _=>by simp only[yb4,ymN,yna,zk3 (Int.le_refl _),cond_false]) [] rfl 18446744073709551616 (by omega)
  rw[yvn]at this;exact this
 unfold yqA yaj;simp only[yn,h1,zkN,h2]
def ygy:Con:=⟨yny,yuX,fun x=>(fun n=>some ((n,()),())) (yaj x.1)⟩
theorem yme:ConOk prog 133 ygy:=(yN7).mono (fun x r hk h=>(yQT x.1 hk).trans h)
def ylp:Code:=(f74.body).getD .skip
def yrG:Env:=zkw TT [(133,ygy)] []
theorem yHI:FrOk prog ⟨yrG,20,fun _=>none⟩ ylp:=zkA mixed yc ⟨yme,trivial⟩
def yyu:Nat→Option Seg:=fun _=>none
def ybh:Shape:=⟨[(3,false,[.at 800000000]),(7,false,[.br tM]),(8,false,[.int .i64]),(9,false,[.int .i64])],[],[(800000000,tM,(.pr (.ow (.ow .fz)) (.pr (.ow (.pr .fz (.ow .fz))) (.pr .fz (.ow .fz)))))]⟩
def yez:Shape:=⟨[(3,false,[.at 800000000]),(7,false,[.br tM]),(8,false,[.int .i64]),(9,false,[.ci .i64 0])],[],[(800000000,tM,(.pr (.ow (.ow .fz)) (.pr (.ow (.pr .fz (.ow .fz))) (.pr .fz (.ow .fz)))))]⟩
def yes:Shape:=⟨[(3,false,[.at 800000000])],[],[(800000000,tM,(.pr (.ow (.ow .fz)) (.pr (.ow (.pr .fz (.ow .fz))) (.pr .fz (.ow .fz)))))]⟩
def yhT:Shape:=⟨[],[],[]⟩
abbrev yk3 (v0:List dM) (v1 v2:Int) (v3:List dM):(ybh).X:=((((),()),(v0,()),(v1,()),(v2,()),()),(),(v3,()))
abbrev yGG (v0:List dM) (v1:Int) (v2:List dM):(yez).X:=((((),()),(v0,()),(v1,()),((),()),()),(),(v2,()))
abbrev yGA (v0:List dM):(yes).X:=((((),()),()),(),(v0,()))
def ylg (v0:List dM) (v1 v2:Int) (v3:List dM):Option ((ybh).X ⊕ ((yes).X ⊕ (yhT).X)) :=bif(ltb v2 v1)then bif(inb v2 v0.length)then let r2:=yaj ((nth v0 v2 ([],[],false,[])).1,((nth v0 v2 ([],[],false,[])).2).1,(((nth v0 v2 ([],[],false,[])).2).2));bif(zkl v3.length ([r2]:List dM).length 80)then some (.inl ((((),()),(v0,()),(v1,()),((i64.wrap (v2+1)),()),()),(),((v3++([r2]:List dM)),()))) else none else none else some (.inr (.inl ((((),()),()),(),(v3,()))))
def ybx (x:(ybh).X):=ylg x.1.2.1.1 x.1.2.2.1.1 x.1.2.2.2.1.1 x.2.2.1
def ytZ (x:(yez).X):(ybh).X:=((((),()),(x.1.2.1.1,()),(x.1.2.2.1.1,()),(0,()),()),(),(x.2.2.1,()))
def yv5:Code:=(zd7 ylp 64 116).getD .skip
theorem yHf:zd7 ylp 64 29=some (.block 0 (.loop yv5)):=by kernel_rfl
theorem yIQ (x:(ybh).X):zhu ⟨yrG,20,yyu⟩ 0 yv5 116 ybh yes yhT x=ybx x:=by kernel_rfl
def yt7 (x:(yez).X):Nat:=18446744073709551616
def ymp (x:(yez).X):Option ((yes).X ⊕ (yhT).X):=zF ybx (yt7 x) (ytZ x)
def yul:Seg:=⟨yez,yes,yhT,ymp⟩
def yJn:Nat→Option Seg:=fun q=>bif Nat.beq q 29 then some yul else yyu q
theorem yHJ:FrOk prog ⟨yrG,20,yJn⟩ ylp:=(yHI).loop (sg:=yul) ybh ytZ (by decide) yHf ybx yt7 (by decide) (fun _=>rfl) (fun x r _ h=>h) yIQ
abbrev ylE:List Par:= [.rd tMs]
abbrev yso:List OT:= [⟨false,tMs,(.ow (.pr (.ow (.ow .fz)) (.pr (.ow (.pr .fz (.ow .fz))) (.pr .fz (.ow .fz)))))⟩]
def yoQ (a0:List dM):Option (zaY yso×zak ylE) :=zkt (ymp ((((),()),(a0,()),((a0.length:Int),()),((),()),()),(),(([]:List dM),()))) (fun y2 =>some ((y2.2.2.1,()),())) (fun y2 =>none)
theorem yK2:ConOk prog 74 ⟨ylE,yso,fun x=>yoQ x.1⟩:=zkI (yHJ) func74 ntmps74.symm fun x=>by kernel_rfl
def yma (a0:List dM):List dM:=a0
theorem yNN (a0:List dM) (hk:zjx ylE (a0,())):yoQ a0=(fun n=>some ((n,()),())) (yma a0):=by
 have hb:a0.length*80≤2^47:=hk.1.1
 have h1:=zkx (step:=ybx) a0 yd (fun i s=>yk3 a0 a0.length i s) (fun s x=>s++ [x]) (fun i s=>s.length=i) (fun s=> .inl (yGA s)) (fun i s hi hs=>⟨by
   simp only[ybx,yk3,ylg,zky (show(i:Int)<a0.length by omega),cond_true,wq ((i:Int)+1) (by omega) (by omega),Int.natCast_add,Int.natCast_one,Int.toNat_natCast,zkR hi,zkS,yaj,zkX]
   rw[zkF.2 (show(s.length+ [a0.getD i ([],[],false,[])].length)*80≤140737488355328 by simp only[List.length_cons,List.length_nil]; omega)]; rfl,by simp[hs]⟩) (fun s hs=>by simp only[ybx,yk3,ylg,zk3 (Int.le_refl _),cond_false]) [] rfl 18446744073709551616 (by omega)
 rw[yvn]at h1;unfold yoQ yma;rw[show ymp (yGG a0 a0.length [])=_ from h1]; rfl
def yyU:Con:=⟨ylE,yso,fun x=>(fun n=>some ((n,()),())) (yma x.1)⟩
theorem yOC:ConOk prog 74 yyU:=(yK2).mono (fun x r hk h=>(yNN x.1 hk).trans h)
def ynm:Code:=(f95.body).getD .skip
def yuw:Env:=zkw TT [(74,yyU),(158,yaP)] []
theorem yJT:FrOk prog ⟨yuw,31,fun _=>none⟩ ynm:=zkA mixed yc ⟨yOC,ycA,trivial⟩
def yz1:Nat→Option Seg:=fun _=>none
def ybH:Shape:=⟨[(1,false,[.ptr 0 0]),(2,false,[.ptr 64 0]),(3,false,[.at 800000000]),(8,false,[.br tW]),(9,false,[.int .i64]),(10,false,[.int .i64])],[(0,[.int .i64,.int .i64,.int .i64,.br tM,.int .i64,.int .i64,.int .i64,.int .i64,.int .i64,.br tW,.int .i64,.bool,.bool]),(64,[.int .i64,.int .i64,.int .i64,.nil,.int .i64,.int .i64,.int .i64,.int .i64,.int .i64,.nil,.int .i64,.bool,.bool])],[(800000000,tW,(.pr .fz (.ow .fz)))]⟩
def yfs:Shape:=⟨[(1,false,[.ptr 0 0]),(2,false,[.ptr 64 0]),(3,false,[.at 800000000]),(8,false,[.br tW]),(9,false,[.int .i64]),(10,false,[.ci .i64 0])],[(0,[.int .i64,.int .i64,.int .i64,.br tM,.int .i64,.int .i64,.int .i64,.int .i64,.int .i64,.br tW,.int .i64,.bool,.bool]),(64,[.int .i64,.int .i64,.int .i64,.nil,.int .i64,.int .i64,.int .i64,.int .i64,.int .i64,.nil,.int .i64,.bool,.bool])],[(800000000,tW,(.pr .fz (.ow .fz)))]⟩
def yfg:Shape:=⟨[(1,false,[.ptr 0 0]),(2,false,[.ptr 64 0]),(3,false,[.at 800000000])],[(0,[.int .i64,.int .i64,.int .i64,.br tM,.int .i64,.int .i64,.int .i64,.int .i64,.int .i64,.br tW,.int .i64,.bool,.bool]),(64,[.int .i64,.int .i64,.int .i64,.nil,.int .i64,.int .i64,.int .i64,.int .i64,.int .i64,.nil,.int .i64,.bool,.bool])],[(800000000,tW,(.pr .fz (.ow .fz)))]⟩
def yiC:Shape:=⟨[],[],[]⟩
abbrev ymL (v0:List dW) (v1 v2:Int) (v3 v4:dA) (v5:List dW):(ybH).X:=((((),()),((),()),((),()),(v0,()),(v1,()),(v2,()),()),((v3.1,v3.2.1.1,v3.2.1.2,v3.2.2.1,v3.2.2.2.1,v3.2.2.2.2.1,v3.2.2.2.2.2.1,v3.2.2.2.2.2.2.1,v3.2.2.2.2.2.2.2.1,v3.2.2.2.2.2.2.2.2.1,v3.2.2.2.2.2.2.2.2.2.1,v3.2.2.2.2.2.2.2.2.2.2.1,v3.2.2.2.2.2.2.2.2.2.2.2,()),(v4.1,v4.2.1.1,v4.2.1.2,(),v4.2.2.2.1,v4.2.2.2.2.1,v4.2.2.2.2.2.1,v4.2.2.2.2.2.2.1,v4.2.2.2.2.2.2.2.1,(),v4.2.2.2.2.2.2.2.2.2.1,v4.2.2.2.2.2.2.2.2.2.2.1,v4.2.2.2.2.2.2.2.2.2.2.2,()),()),(v5,()))
abbrev yIf (v0:List dW) (v1:Int) (v2 v3:dA) (v4:List dW):(yfs).X:=((((),()),((),()),((),()),(v0,()),(v1,()),((),()),()),((v2.1,v2.2.1.1,v2.2.1.2,v2.2.2.1,v2.2.2.2.1,v2.2.2.2.2.1,v2.2.2.2.2.2.1,v2.2.2.2.2.2.2.1,v2.2.2.2.2.2.2.2.1,v2.2.2.2.2.2.2.2.2.1,v2.2.2.2.2.2.2.2.2.2.1,v2.2.2.2.2.2.2.2.2.2.2.1,v2.2.2.2.2.2.2.2.2.2.2.2,()),(v3.1,v3.2.1.1,v3.2.1.2,(),v3.2.2.2.1,v3.2.2.2.2.1,v3.2.2.2.2.2.1,v3.2.2.2.2.2.2.1,v3.2.2.2.2.2.2.2.1,(),v3.2.2.2.2.2.2.2.2.2.1,v3.2.2.2.2.2.2.2.2.2.2.1,v3.2.2.2.2.2.2.2.2.2.2.2,()),()),(v4,()))
abbrev yH6 (v0 v1:dA) (v2:List dW):(yfg).X:=((((),()),((),()),((),()),()),((v0.1,v0.2.1.1,v0.2.1.2,v0.2.2.1,v0.2.2.2.1,v0.2.2.2.2.1,v0.2.2.2.2.2.1,v0.2.2.2.2.2.2.1,v0.2.2.2.2.2.2.2.1,v0.2.2.2.2.2.2.2.2.1,v0.2.2.2.2.2.2.2.2.2.1,v0.2.2.2.2.2.2.2.2.2.2.1,v0.2.2.2.2.2.2.2.2.2.2.2,()),(v1.1,v1.2.1.1,v1.2.1.2,(),v1.2.2.2.1,v1.2.2.2.2.1,v1.2.2.2.2.2.1,v1.2.2.2.2.2.2.1,v1.2.2.2.2.2.2.2.1,(),v1.2.2.2.2.2.2.2.2.2.1,v1.2.2.2.2.2.2.2.2.2.2.1,v1.2.2.2.2.2.2.2.2.2.2.2,()),()),(v2,()))
def ym8 (v0:List dW) (v1 v2 v3 v4 v5:Int) (v6:List dM) (v7 v8 v9 v10 v11:Int) (v12:List dW) (v13:Int) (v14 v15:Bool) (v16 v17 v18 v19 v20 v21 v22 v23 v24:Int) (v25 v26:Bool) (v27:List dW):Option ((ybH).X ⊕ ((yfg).X ⊕ (yiC).X)) :=bif(ltb v2 v1)then bif(inb v2 v0.length)then let r2:=yn ((nth v0 v2 (0,[])).2);bif(zkl v27.length ([((nth v0 v2 (0,[])).1,r2)]:List dW).length 32)then some (.inl ((((),()),((),()),((),()),(v0,()),(v1,()),((i64.wrap (v2+1)),()),()),((v3,v4,v5,v6,v7,v8,v9,v10,v11,v12,v13,v14,v15,()),(v16,v17,v18,(),v19,v20,v21,v22,v23,(),v24,v25,v26,()),()),((v27++([((nth v0 v2 (0,[])).1,r2)]:List dW)),()))) else none else none else some (.inr (.inl ((((),()),((),()),((),()),()),((v3,v4,v5,v6,v7,v8,v9,v10,v11,v12,v13,v14,v15,()),(v16,v17,v18,(),v19,v20,v21,v22,v23,(),v24,v25,v26,()),()),(v27,()))))
def yb2 (x:(ybH).X):=ym8 x.1.2.2.2.1.1 x.1.2.2.2.2.1.1 x.1.2.2.2.2.2.1.1 x.2.1.1.1 x.2.1.1.2.1 x.2.1.1.2.2.1 x.2.1.1.2.2.2.1 x.2.1.1.2.2.2.2.1 x.2.1.1.2.2.2.2.2.1 x.2.1.1.2.2.2.2.2.2.1 x.2.1.1.2.2.2.2.2.2.2.1 x.2.1.1.2.2.2.2.2.2.2.2.1 x.2.1.1.2.2.2.2.2.2.2.2.2.1 x.2.1.1.2.2.2.2.2.2.2.2.2.2.1 x.2.1.1.2.2.2.2.2.2.2.2.2.2.2.1 x.2.1.1.2.2.2.2.2.2.2.2.2.2.2.2.1 x.2.1.2.1.1 x.2.1.2.1.2.1 x.2.1.2.1.2.2.1 x.2.1.2.1.2.2.2.2.1 x.2.1.2.1.2.2.2.2.2.1 x.2.1.2.1.2.2.2.2.2.2.1 x.2.1.2.1.2.2.2.2.2.2.2.1 x.2.1.2.1.2.2.2.2.2.2.2.2.1 x.2.1.2.1.2.2.2.2.2.2.2.2.2.2.1 x.2.1.2.1.2.2.2.2.2.2.2.2.2.2.2.1 x.2.1.2.1.2.2.2.2.2.2.2.2.2.2.2.2.1 x.2.2.1
def ywh (x:(yfs).X):(ybH).X:=((((),()),((),()),((),()),(x.1.2.2.2.1.1,()),(x.1.2.2.2.2.1.1,()),(0,()),()),((x.2.1.1.1,x.2.1.1.2.1,x.2.1.1.2.2.1,x.2.1.1.2.2.2.1,x.2.1.1.2.2.2.2.1,x.2.1.1.2.2.2.2.2.1,x.2.1.1.2.2.2.2.2.2.1,x.2.1.1.2.2.2.2.2.2.2.1,x.2.1.1.2.2.2.2.2.2.2.2.1,x.2.1.1.2.2.2.2.2.2.2.2.2.1,x.2.1.1.2.2.2.2.2.2.2.2.2.2.1,x.2.1.1.2.2.2.2.2.2.2.2.2.2.2.1,x.2.1.1.2.2.2.2.2.2.2.2.2.2.2.2.1,()),(x.2.1.2.1.1,x.2.1.2.1.2.1,x.2.1.2.1.2.2.1,(),x.2.1.2.1.2.2.2.2.1,x.2.1.2.1.2.2.2.2.2.1,x.2.1.2.1.2.2.2.2.2.2.1,x.2.1.2.1.2.2.2.2.2.2.2.1,x.2.1.2.1.2.2.2.2.2.2.2.2.1,(),x.2.1.2.1.2.2.2.2.2.2.2.2.2.2.1,x.2.1.2.1.2.2.2.2.2.2.2.2.2.2.2.1,x.2.1.2.1.2.2.2.2.2.2.2.2.2.2.2.2.1,()),()),(x.2.2.1,()))
def yyD:Code:=(zd7 ynm 64 116).getD .skip
theorem yJA:zd7 ynm 64 29=some (.block 0 (.loop yyD)):=by kernel_rfl
theorem yLo (x:(ybH).X):zhu ⟨yuw,31,yz1⟩ 0 yyD 116 ybH yfg yiC x=yb2 x:=by kernel_rfl
def yww (x:(yfs).X):Nat:=18446744073709551616
def yn8 (x:(yfs).X):Option ((yfg).X ⊕ (yiC).X):=zF yb2 (yww x) (ywh x)
def ywX:Seg:=⟨yfs,yfg,yiC,yn8⟩
def yLR:Nat→Option Seg:=fun q=>bif Nat.beq q 29 then some ywX else yz1 q
theorem yJU:FrOk prog ⟨yuw,31,yLR⟩ ynm:=(yJT).loop (sg:=ywX) ybH ywh (by decide) yJA yb2 yww (by decide) (fun _=>rfl) (fun x r _ h=>h) yLo
abbrev ynx:List Par:= [.rd tA]
abbrev yuW:List OT:= [⟨false,tA,(.pr .fz (.pr (.pr .fz .fz) (.pr (.ow (.pr (.ow (.ow .fz)) (.pr (.ow (.pr .fz (.ow .fz))) (.pr .fz (.ow .fz))))) (.pr .fz (.pr .fz (.pr .fz (.pr .fz (.pr .fz (.pr (.ow (.pr .fz (.ow .fz))) (.pr .fz (.pr .fz .fz)))))))))))⟩]
def yqz (a0:dA):Option (zaY yuW×zak ynx) :=zkt (yn8 ((((),()),((),()),((),()),(a0.2.2.2.2.2.2.2.2.1,()),((a0.2.2.2.2.2.2.2.2.1.length:Int),()),((),()),()),((a0.1,a0.2.1.1,a0.2.1.2,a0.2.2.1,a0.2.2.2.1,a0.2.2.2.2.1,a0.2.2.2.2.2.1,a0.2.2.2.2.2.2.1,a0.2.2.2.2.2.2.2.1,a0.2.2.2.2.2.2.2.2.1,a0.2.2.2.2.2.2.2.2.2.1,a0.2.2.2.2.2.2.2.2.2.2.1,a0.2.2.2.2.2.2.2.2.2.2.2,()),(0,0,0,(),0,0,0,0,0,(),0,false,false,()),()),(([]:List dW),()))) (fun y2 =>let r4:=yma y2.2.1.1.2.2.2.1;some (((y2.2.1.1.1,(y2.2.1.1.2.1,y2.2.1.1.2.2.1),r4,y2.2.1.1.2.2.2.2.1,y2.2.1.1.2.2.2.2.2.1,y2.2.1.1.2.2.2.2.2.2.1,y2.2.1.1.2.2.2.2.2.2.2.1,y2.2.1.1.2.2.2.2.2.2.2.2.1,y2.2.2.1,y2.2.1.1.2.2.2.2.2.2.2.2.2.2.1,y2.2.1.1.2.2.2.2.2.2.2.2.2.2.2.1,y2.2.1.1.2.2.2.2.2.2.2.2.2.2.2.2.1),()),())) (fun y2 =>none)
theorem yN6:ConOk prog 95 ⟨ynx,yuW,fun x=>yqz x.1⟩:=zkI (yJU) func95 ntmps95.symm fun x=>by kernel_rfl
def ybs (a0:dA):dA:=a0
theorem yQS (a0:dA) (hk:zjx ynx (a0,())):yqz a0=(fun n=>some ((n,()),())) (ybs a0):=by
 have hb:a0.2.2.2.2.2.2.2.2.1.length*32≤2^47:=hk.1.2.2.2.2.2.2.2.2.1.1
 have h1:=zkx (step:=yb2) a0.2.2.2.2.2.2.2.2.1 (0,[]) (fun i s=>ymL a0.2.2.2.2.2.2.2.2.1 a0.2.2.2.2.2.2.2.2.1.length i a0 yem s) (fun s x=>s++ [x]) (fun i s=>s.length=i) (fun s=> .inl (yH6 a0 yem s)) (fun i s hi hs=>⟨by
   simp only[yb2,ymL,ym8,zky (show(i:Int)<a0.2.2.2.2.2.2.2.2.1.length by omega),cond_true,wq ((i:Int)+1) (by omega) (by omega),Int.natCast_add,Int.natCast_one,Int.toNat_natCast,zkR hi,zkS,yn,zkX]
   rw[zkF.2 (show(s.length+ [a0.2.2.2.2.2.2.2.2.1.getD i (0,[])].length)*32≤140737488355328 by simp only[List.length_cons,List.length_nil]; omega)]; rfl,by simp[hs]⟩) (fun s hs=>by simp only[yb2,ymL,ym8,zk3 (Int.le_refl _),cond_false]) [] rfl 18446744073709551616 (by omega)
 rw[yvn]at h1;unfold yqz ybs;rw[show yn8 (yIf a0.2.2.2.2.2.2.2.2.1 a0.2.2.2.2.2.2.2.2.1.length a0 yem [])=_ from h1]; rfl
def yjZ:Con:=⟨ynx,yuW,fun x=>(fun n=>some ((n,()),())) (ybs x.1)⟩
theorem ytk:ConOk prog 95 yjZ:=(yN6).mono (fun x r hk h=>(yQS x.1 hk).trans h)
def ySL:Code:=(f195.body).getD .skip
def yTf:Env:=zkw TT [(82,yw),(150,yfX)] []
theorem yKg:FrOk prog ⟨yTf,60,fun _=>none⟩ ySL:=zkA mixed yc ⟨yC,ykK,trivial⟩
abbrev yuN:List Par:= [.rd tS]
abbrev yva:List OT:= [⟨false,tB,.fz⟩]
def yCi (a0:dS):Option (zaY yva×zak yuN) :=let r1:=ye (a0.2.2.2.1,a0.2.2.2.2.1);bif(!(!r1))then let r2:=ya a0.1 1 60000;bif(!(!r2))then let r3:=ya a0.2.1 0 60000;bif(!(!r3))then let r4:=ya a0.2.2.1 0 (i64.wrap (a0.2.2.2.1-1));bif(!(!r4))then let r5:=ya a0.2.2.2.2.2.1 0 60000;bif(!r5)then some ((false,()),()) else let r6:=ya a0.2.2.2.2.2.2.1 (-1) (i64.wrap (a0.2.2.2.1-1));bif r6 then let r7:=ya a0.2.2.2.2.2.2.2 0 a0.2.2.2.2.1;bif r7 then bif(!(leb 0 a0.2.2.2.2.2.2.1))then some (((a0.2.2.2.2.2.2.2==0),()),()) else some ((true,()),()) else some ((false,()),()) else some ((false,()),()) else some ((false,()),()) else some ((false,()),()) else some ((false,()),()) else some ((false,()),())
theorem yOl:ConOk prog 195 ⟨yuN,yva,fun x=>yCi x.1⟩:=zkI (yKg) func195 ntmps195.symm fun x=>by kernel_rfl
def yaw (a0:dS):Bool :=let r1:=ye (a0.2.2.2.1,a0.2.2.2.2.1);bif(!(!r1))then let r2:=ya a0.1 1 60000;bif(!(!r2))then let r3:=ya a0.2.1 0 60000;bif(!(!r3))then let r4:=ya a0.2.2.1 0 (i64.wrap (a0.2.2.2.1-1));bif(!(!r4))then let r5:=ya a0.2.2.2.2.2.1 0 60000;bif(!r5)then false else let r6:=ya a0.2.2.2.2.2.2.1 (-1) (i64.wrap (a0.2.2.2.1-1));bif r6 then let r7:=ya a0.2.2.2.2.2.2.2 0 a0.2.2.2.2.1;bif r7 then bif(!(leb 0 a0.2.2.2.2.2.2.1))then (a0.2.2.2.2.2.2.2==0) else true else false else false else false else false else false else false
def yBe:Con:=⟨yuN,yva,fun x=>(fun n=>some ((n,()),())) (yaw x.1)⟩
theorem yQ6 (a0:dS):yCi a0=(fun n=>some ((n,()),())) (yaw a0):=zkV (p:=fun(n:Bool)=>((n,()),())) (zkG (p:=fun(n:Bool)=>((n,()),())) (zkG (p:=fun(n:Bool)=>((n,()),())) (zkG (p:=fun(n:Bool)=>((n,()),())) (zkG (p:=fun(n:Bool)=>((n,()),())) (zkG (p:=fun(n:Bool)=>((n,()),())) rfl (zkG (p:=fun(n:Bool)=>((n,()),())) (zkG (p:=fun(n:Bool)=>((n,()),())) (zkG (p:=fun(n:Bool)=>((n,()),())) rfl rfl) rfl) rfl)) rfl) rfl) rfl) rfl)
theorem yR7:ConOk prog 195 yBe:=(yOl).mono (fun x r _ h=>(yQ6 x.1).trans h)
abbrev y0R:dS:=(0,0,0,0,0,0,0,0)
theorem yYA {s:dS}:yaw s=true↔ye (s.2.2.2.1,s.2.2.2.2.1)=true∧(1≤s.1∧s.1≤60000)∧(0≤s.2.1∧s.2.1≤60000)∧(0≤s.2.2.1∧s.2.2.1≤s.2.2.2.1-1)∧(0≤s.2.2.2.2.2.1∧s.2.2.2.2.2.1≤60000)∧(-1≤s.2.2.2.2.2.2.1∧s.2.2.2.2.2.2.1≤s.2.2.2.1-1)∧(0≤s.2.2.2.2.2.2.2∧s.2.2.2.2.2.2.2≤s.2.2.2.2.1)∧(0≤s.2.2.2.2.2.2.1∨s.2.2.2.2.2.2.2=0):=by
 unfold yaw;cases hg:ye (s.2.2.2.1,s.2.2.2.2.1)
 ·simp
 have hg2:=yk.1 hg;simp only at hg2;rw[wq (s.2.2.2.1-1) (by omega) (by omega)];simp only[Bool.not_not,cond_true,true_and];simp only[← ys7];cases ya s.1 1 60000
 ·simp
 cases ya s.2.1 0 60000
 ·simp
 cases ya s.2.2.1 0 (s.2.2.2.1-1)
 ·simp
 cases ya s.2.2.2.2.2.1 0 60000
 ·simp
 cases ya s.2.2.2.2.2.2.1 (-1) (s.2.2.2.1-1)
 ·simp
 cases ya s.2.2.2.2.2.2.2 0 s.2.2.2.2.1
 ·simp
 cases hl:leb 0 s.2.2.2.2.2.2.1
 ·have:=mt zk2 (by rw[hl]; simp: ¬leb 0 s.2.2.2.2.2.2.1=true)
  simp[this]
 ·simp[zj7.1 hl]
def yYS (l:List Int):dS:=(nth l 1 0,nth l 2 0,nth l 3 0,nth l 4 0,nth l 5 0,nth l 6 0,i64.wrap (nth l 7 0-1),nth l 8 0)
def y0a (l:List Int):dS×Bool:=bif(l.length:Int)==9&&(nth l 0 0==21317&&yaw (yYS l))then(yYS l,true)else(y0R,false)
def yO8:Code:=(f144.body).getD .skip
def yPx:Env:=zkw TT [(195,yBe)] []
theorem yHS:FrOk prog ⟨yPx,25,fun _=>none⟩ yO8:=zkA mixed yc ⟨yR7,trivial⟩
abbrev yr8:List Par:= [.rd tS]
abbrev ysu:List OT:= [⟨false,tL,(.ow .fz)⟩]
def yzv (a0:dS):Option (zaY ysu×zak yr8) :=let r1:=yaw a0;bif(!r1)then some ((([]:List Int),()),()) else some ((([21317,a0.1,a0.2.1,a0.2.2.1,a0.2.2.2.1,a0.2.2.2.2.1,a0.2.2.2.2.2.1,(i64.wrap (a0.2.2.2.2.2.2.1+1)),a0.2.2.2.2.2.2.2]:List Int),()),())
theorem yK8:ConOk prog 144 ⟨yr8,ysu,fun x=>yzv x.1⟩:=zkI (yHS) func144 ntmps144.symm fun x=>by kernel_rfl
def yv (a0:dS):(List Int) :=let r1:=yaw a0;bif(!r1)then ([]:List Int) else ([21317,a0.1,a0.2.1,a0.2.2.1,a0.2.2.2.1,a0.2.2.2.2.1,a0.2.2.2.2.2.1,(i64.wrap (a0.2.2.2.2.2.2.1+1)),a0.2.2.2.2.2.2.2]:List Int)
def yor:Con:=⟨yr8,ysu,fun x=>(fun n=>some ((n,()),())) (yv x.1)⟩
theorem yNT (a0:dS):yzv a0=(fun n=>some ((n,()),())) (yv a0):=zkV (p:=fun(n:(List Int))=>((n,()),())) (zkG (p:=fun(n:(List Int))=>((n,()),())) rfl rfl)
theorem yB5:ConOk prog 144 yor:=(yK8).mono (fun x r _ h=>(yNT x.1).trans h)
abbrev yb (a:dA):Bool:=a.2.2.2.2.2.2.2.2.2.2.1
def yXb (a:dA) (f:Int) (d:Bool):dA:=(a.1,a.2.1,a.2.2.1,a.2.2.2.1,a.2.2.2.2.1,a.2.2.2.2.2.1,a.2.2.2.2.2.2.1,a.2.2.2.2.2.2.2.1,a.2.2.2.2.2.2.2.2.1,f,d,a.2.2.2.2.2.2.2.2.2.2.2)
def opA (a:dA):Bool×dA:=bif yb a then(false,a)else bif a.2.2.2.2.2.2.2.2.2.1==0 then(false,yXb a (-1) true)else bif ltb 0 a.2.2.2.2.2.2.2.2.2.1 then(true,yXb a (i64.wrap (a.2.2.2.2.2.2.2.2.2.1-1)) (yb a))else(true,a)
def yd2 (a:dA) (m:Int) (x:dM):dA:=(a.1,a.2.1,a.2.2.1.set m.toNat x,a.2.2.2)
def ycB (a:dA) (m n:Int) (s:List Int):dA:=bif(nth a.2.2.1 m yd).2.2.1 then a else bif(opA a).1 then yd2 (opA a).2 m (yH (nth a.2.2.1 m yd) n s).1 else(opA a).2
def yI (a:dA) (i:Nat):dA:=bif(nth a.2.2.1 i yd).2.2.1 then a else bif(opA a).1 then yd2 (opA a).2 i (yq (nth a.2.2.1 i yd))else(opA a).2
def yy (a:dA):dA:=(List.range a.2.2.1.length).foldl yI a
def yJd (a:dA) (i:Int):dS:=(a.1,a.2.2.2.2.2.2.2.1,i,a.2.1.1,a.2.1.2,a.2.2.2.2.2.2.1,a.2.2.2.1,a.2.2.2.2.1)
def yM (a:dA) (i:Nat):dA:=ycB a i (a.2.2.2.2.2.2.2.1.tmod 2) (yv (yJd a i))
def yV (a:dA):dA:=(a.1,a.2.1,a.2.2.1,a.2.2.2.1,a.2.2.2.2.1,a.2.2.2.2.2.1,a.2.2.2.2.2.2.1,i64.wrap (a.2.2.2.2.2.2.2.1+1),a.2.2.2.2.2.2.2.2)
def yaa (a:dA):dA:=yy ((List.range a.2.2.1.length).foldl yM (yV a))
theorem yax (a:dA):(opA a).2.2.2.1=a.2.2.1:=by
 unfold opA;cases yb a
 ·cases(a.2.2.2.2.2.2.2.2.2.1==0)
  ·cases ltb 0 a.2.2.2.2.2.2.2.2.2.1<;>rfl
  ·rfl
 ·rfl
theorem yUQ {a:dA} (h:yb a=false):yb (opA a).2= !(opA a).1:=by
 unfold opA;rw[h];cases(a.2.2.2.2.2.2.2.2.2.1==0)
 ·cases ltb 0 a.2.2.2.2.2.2.2.2.2.1
  ·exact h
  ·rfl
 ·rfl
theorem yYN {a:dA} (h:yb a=true):opA a=(false,a):=by unfold opA; rw[h]; rfl
theorem yn1 (a:dA) (m n:Int) (s:List Int):(ycB a m n s).2.2.1.length=a.2.2.1.length:=by
 unfold ycB;cases(nth a.2.2.1 m yd).2.2.1
 ·cases(opA a).1
  ·show(opA a).2.2.2.1.length=_; rw[yax]
  ·show((opA a).2.2.2.1.set m.toNat _).length=_; rw[List.length_set,yax]
 ·rfl
theorem ykU (a:dA) (i:Nat):(yI a i).2.2.1.length=a.2.2.1.length:=by
 unfold yI;cases(nth a.2.2.1 i yd).2.2.1
 ·cases(opA a).1
  ·show(opA a).2.2.2.1.length=_; rw[yax]
  ·show((opA a).2.2.2.1.set _ _).length=_; rw[List.length_set,yax]
 ·rfl
theorem ymF {one:dA→Nat→dA} (h: ∀a i,(one a i).2.2.1.length=a.2.2.1.length): ∀(l:List Nat) (a:dA),(l.foldl one a).2.2.1.length=a.2.2.1.length
 | [],_=>rfl
 | x::l,a=>by rw[List.foldl_cons,ymF h l,h]
theorem yF6 (a:dA):(yy a).2.2.1.length=a.2.2.1.length:=ymF ykU _ _
theorem yqu {a:dA} (h:yb a=true) (m n:Int) (s:List Int):ycB a m n s=a:=by
 unfold ycB;rw[yYN h];cases(nth a.2.2.1 m yd).2.2.1<;>rfl
theorem yCA {a:dA} (i:Nat) (h:yb a=true):yI a i=a:=by
 unfold yI;rw[yYN h];cases(nth a.2.2.1 i yd).2.2.1<;>rfl
theorem yrd {one:dA→Nat→dA} (hs: ∀a i,yb a=true→one a i=a): ∀(l:List Nat) (a:dA),yb a=true→l.foldl one a=a
 | [],_,_=>rfl
 | x::l,a,h=>by rw[List.foldl_cons,hs a x h]; exact yrd hs l a h
theorem yw7 {a:dA} (h:yb a=true):yy a=a:=yrd (fun _ i h=>yCA i h) _ a h
theorem yX2 {a:dA} (h:yb a=false) (m n:Int) (s:List Int):yb (ycB a m n s)=(!(nth a.2.2.1 m yd).2.2.1&& !(opA a).1):=by
 have:=yUQ h;unfold ycB;cases(nth a.2.2.1 m yd).2.2.1
 ·cases ho:(opA a).1
  ·rw[ho]at this; exact this
  ·rw[ho]at this; exact this
 ·exact h
theorem yIX {a:dA} (h:yb a=false) (i:Nat):yb (yI a i)=(!(nth a.2.2.1 i yd).2.2.1&& !(opA a).1):=by
 have:=yUQ h;unfold yI;cases(nth a.2.2.1 i yd).2.2.1
 ·cases ho:(opA a).1
  ·rw[ho]at this; exact this
  ·rw[ho]at this; exact this
 ·exact h
theorem yBO {one:dA→Nat→dA} (hs: ∀a i,yb a=true→one a i=a): ∀(k i:Nat) (s:dA),goE (fun i s=>bif yb (one s i)then(.inr (one s i):dA ⊕ dA)else .inl (one s i)) id k i s=(List.range' i k).foldl one s
 | 0,_,_=>rfl
 | k+1,i,s=>by
  rw[List.range'_succ,List.foldl_cons,goE];cases hd:yb (one s i)
  ·exact yBO hs k (i+1) (one s i)
  ·exact(yrd hs _ _ hd).symm
def yL (a:dA) (m:Int):dA:=(a.1,a.2.1,a.2.2.1.set m.toNat (yg4 (nth a.2.2.1 m yd)),m,0,a.2.2.2.2.2)
def ycl (a:dA) (m:Int):dA:=(a.1,a.2.1,a.2.2.1.set m.toNat (yg4 (nth a.2.2.1 m yd)),a.2.2.2.1,a.2.2.2.2.1,a.2.2.2.2.2.1,a.2.2.2.2.2.2.1,a.2.2.2.2.2.2.2.1,a.2.2.2.2.2.2.2.2.1,a.2.2.2.2.2.2.2.2.2.1,a.2.2.2.2.2.2.2.2.2.2.1,true)
def yaK (a:dA) (m:Int):dA:=bif a.2.2.2.1== -1||a.2.2.2.1==m then(bif !(yb a)&&(!a.2.2.2.2.2.2.2.2.2.2.2&&ltb a.2.2.2.2.2.2.2.1 60000)then yaa (yL a m)else yL a m)else ycl a m
def yvm (a:dA) (m:Int):dA:=bif yP a&&(inb m a.2.2.1.length&& !(nth a.2.2.1 m yd).2.2.1)then yaK a m else a
theorem y0i (a:dA):(yaa a).2.2.1.length=a.2.2.1.length:=(yF6 _).trans (ymF (one:=yM) (fun _ _=>yn1 _ _ _ _) _ (yV a))
theorem yFZ (a:dA):(opA a).2.2.2.2.2.2.2.2.2.1=a.2.2.2.2.2.2.2.2.1:=by
 unfold opA;cases yb a
 ·cases(a.2.2.2.2.2.2.2.2.2.1==0)
  ·cases ltb 0 a.2.2.2.2.2.2.2.2.2.1<;>rfl
  ·rfl
 ·rfl
theorem yZL (a:dA) (m n:Int) (s:List Int):(ycB a m n s).2.2.2.2.2.2.2.2.1=a.2.2.2.2.2.2.2.2.1:=by
 unfold ycB;cases(nth a.2.2.1 m yd).2.2.1
 ·cases(opA a).1
  ·exact yFZ a
  ·exact yFZ a
 ·rfl
theorem yW8 (a:dA) (i:Nat):(yI a i).2.2.2.2.2.2.2.2.1=a.2.2.2.2.2.2.2.2.1:=by
 unfold yI;cases(nth a.2.2.1 i yd).2.2.1
 ·cases(opA a).1
  ·exact yFZ a
  ·exact yFZ a
 ·rfl
theorem yFC {one:dA→Nat→dA} (h: ∀a i,(one a i).2.2.2.2.2.2.2.2.1=a.2.2.2.2.2.2.2.2.1): ∀(l:List Nat) (a:dA),(l.foldl one a).2.2.2.2.2.2.2.2.1=a.2.2.2.2.2.2.2.2.1
 | [],_=>rfl
 | x::l,a=>by rw[List.foldl_cons,yFC h l,h]
theorem yF5 (a:dA):(yy a).2.2.2.2.2.2.2.2.1=a.2.2.2.2.2.2.2.2.1:=yFC yW8 _ _
theorem yZc (a:dA):(yaa a).2.2.2.2.2.2.2.2.1=a.2.2.2.2.2.2.2.2.1:=(yF5 _).trans (yFC (one:=yM) (fun _ _=>yZL _ _ _ _) _ (yV a))
def ycg (n:Int):dM:=bif leb 1 n&&leb n 20 then(List.replicate n.toNat [],[],false,[])else yd
theorem yVj {n:Int} (h1:1≤n) (h2:n≤20):yr (ycg n)=true:=by
 unfold ycg;rw[zk2 h1,zk2 h2];refine yvp ?_ rfl rfl ?_ ?_ (Nat.zero_le _)
 ·show(List.replicate n.toNat ([]:List Int)).all yai=true
  rw[List.all_eq_true];intro x hx;rw[(List.mem_replicate.1 hx).2]; rfl
 ·show 1≤(List.replicate n.toNat ([]:List Int)).length; rw[List.length_replicate]; omega
 ·show(List.replicate n.toNat ([]:List Int)).length≤20; rw[List.length_replicate]; omega
def ybP (a:dA):dA:=(a.1,a.2.1,a.2.2.1.set a.2.2.2.1.toNat (ycg (6+a.2.1.2)),a.2.2.2.1,0,a.2.2.2.2.2)
def ydq (a:dA):dA:=(a.1,a.2.1,a.2.2.1,a.2.2.2.1,a.2.2.2.2.1,a.2.2.2.2.2.1,a.2.2.2.2.2.1,a.2.2.2.2.2.2.2)
def yab (a:dA):dA:=bif yb (yy a)then yy a else yaa (ydq (yy a))
theorem yU3 (a:dA):(yab a).2.2.1.length=a.2.2.1.length:=by
 unfold yab;cases yb (yy a)
 ·exact(y0i (ydq (yy a))).trans (yF6 a)
 ·exact yF6 a
theorem yYk (a:dA):(yab a).2.2.2.2.2.2.2.2.1=a.2.2.2.2.2.2.2.2.1:=by
 unfold yab;cases yb (yy a)
 ·exact(yZc (ydq (yy a))).trans (yF5 a)
 ·exact yF5 a
def yXV (id:Int) (g:dG) (i:Int):dS:=(id,0,i,g.1,g.2,0,-1,0)
def yrj (m:dM) (s:Nat):dM:=(m.1.set (s+6) [0],m.2)
def yjs (id:Int) (g:dG) (i:Int):dM:=((ycg (6+g.2)).1.set 0 (yv (yXV id g i)),(ycg (6+g.2)).2)
def yB (id:Int) (g:dG) (i:Int):dM:=(List.range g.2.toNat).foldl yrj (yjs id g i)
def yAN (a:dA) (m:dM):dA:=(a.1,a.2.1,a.2.2.1++ [m],a.2.2.2)
def yAP (id:Int) (g:dG):dA:=(id,g,[],-1,0,0,0,0,[],-1,false,false)
def ykt (id:Int) (g:dG):dA:=bif ye g&&(leb 1 id&&leb id 60000)then(List.range g.1.toNat).foldl (fun a (i:Nat)=>yAN a (yB id g i)) (yAP id g)else yem
theorem yLF (l:List Nat) (m:dM):(l.foldl yrj m).1.length=m.1.length:=by
 induction l generalizing m with
 | nil=>rfl
 | cons x t ih=>rw[List.foldl_cons,ih]; show(m.1.set _ _).length=_; rw[List.length_set]
def yo (a:dA):Int×(Int×Int)×Int×Int×Int×Int×Int×List dW×Bool:=(a.1,a.2.1,a.2.2.2.1,a.2.2.2.2.1,a.2.2.2.2.2.1,a.2.2.2.2.2.2.1,a.2.2.2.2.2.2.2.1,a.2.2.2.2.2.2.2.2.1,a.2.2.2.2.2.2.2.2.2.2.2)
theorem yFf (a:dA):yo (opA a).2=yo a:=by
 unfold opA;cases yb a
 ·cases(a.2.2.2.2.2.2.2.2.2.1==0)
  ·cases ltb 0 a.2.2.2.2.2.2.2.2.2.1<;>rfl
  ·rfl
 ·rfl
theorem ymX (a:dA) (m n:Int) (s:List Int):yo (ycB a m n s)=yo a:=by
 unfold ycB;cases(nth a.2.2.1 m yd).2.2.1
 ·cases(opA a).1
  ·exact yFf a
  ·exact yFf a
 ·rfl
theorem yIW (a:dA) (i:Nat):yo (yI a i)=yo a:=by
 unfold yI;cases(nth a.2.2.1 i yd).2.2.1
 ·cases(opA a).1
  ·exact yFf a
  ·exact yFf a
 ·rfl
theorem yrc {one:dA→Nat→dA} (h: ∀a i,yo (one a i)=yo a): ∀(l:List Nat) (a:dA),yo (l.foldl one a)=yo a
 | [],_=>rfl
 | x::l,a=>by rw[List.foldl_cons,yrc h l,h]
theorem yfV (a:dA):yo (yy a)=yo a:=yrc yIW _ _
theorem yrh (a:dA):yo (yaa a)=yo (yV a):=(yfV _).trans (yrc (one:=yM) (fun _ _=>ymX _ _ _ _) _ _)
theorem yau {a b:dA} (h:yo a=yo b):a.2.1=b.2.1:=congrArg (fun x=>x.2.1) h
theorem yj1 {a b:dA} (h:yo a=yo b):a.2.2.2.2.1=b.2.2.2.2.1:=congrArg (fun x=>x.2.2.2.1) h
theorem yPT {a b:dA} (h:yo a=yo b):a.2.2.2.2.2.2.2.2.1=b.2.2.2.2.2.2.2.2.1:=congrArg (fun x=>x.2.2.2.2.2.2.2.1) h
def yZM (b:dA):dA:=(b.1,b.2.1,b.2.2.1,b.2.2.2.1,i64.wrap (b.2.2.2.2.1+1),b.2.2.2.2.2)
def ya7 (a:dA):dA:=ycB a a.2.2.2.1 (yQ a.2.2.2.2.1) [nth (yJ a a.2.2.2.2.1).1 a.2.2.2.1 0]
def yrn (a:dA):Int×dA:=bif(yJ a a.2.2.2.2.1).2 then(bif yb (ya7 a)then(6,ya7 a)else(0,yZM (ya7 a)))else(5,a)
def yyf (lost:Int) (br:Bool) (S:Int) (i:Nat) (m:dM):Prop:=yr m=true∧(m.1.length:Int)=6+S∧(m.2.2.1=true→(i:Int)=lost∨br=true)
def yFL (lost:Int) (br:Bool) (S:Int) (l:List dM):Prop:= ∀i,i<l.length→yyf lost br S i (nth l i yd)
theorem yri {lost S:Int} {br:Bool} {l:List dM} {i:Nat} {x:dM} (h:yFL lost br S l) (hx:i<l.length→yyf lost br S i x):yFL lost br S (l.set i x):=fun j hj=>by
 rw[List.length_set]at hj;by_cases e:j=i
 ·subst e
  rw[zkS,zkJ (by rw[List.length_set]; exact hj),List.getElem_set_self]; exact hx hj
 ·have:=h j hj
  rw[zkS,zkJ hj]at this;rw[zkS,zkJ (by rw[List.length_set]; exact hj),List.getElem_set_ne (fun e'=>e e'.symm)]; exact this
theorem yZf {a:dA}:ykz a=true↔yFL a.2.2.2.1 a.2.2.2.2.2.2.2.2.2.2.2 a.2.1.2 a.2.2.1∧(a.2.2.1.length:Int)=a.2.1.1:=by
 constructor
 ·intro h
  refine⟨fun i hi=>yZH h hi,?_⟩;simp only[ykz,Bool.and_eq_true,beq_iff_eq]at h; exact h.2
 ·rintro⟨h1,h2⟩
  simp only[ykz,Bool.and_eq_true,beq_iff_eq,Bool.not_eq_true',List.any_eq_false,List.mem_range];refine⟨fun i hi=> ?_,h2⟩;obtain⟨g1,g2,g3⟩:=h1 i hi;unfold ygC;rw[g1,show(((nth a.2.2.1 i yd).1.length:Int) !=6+a.2.1.2)=false from bne_eq_false_iff_eq.2 g2];cases hf:(nth a.2.2.1 i yd).2.2.1
  ·simp
  ·rcases g3 hf with e | e
   ·rw[show((i:Int) !=a.2.2.2.1)=false from bne_eq_false_iff_eq.2 e]; simp
   ·rw[e]; simp
def fuz (a:dA):Int:=a.2.2.2.2.2.2.2.2.2.1
def yal (a:dA):Prop:=(yFL a.2.2.2.1 a.2.2.2.2.2.2.2.2.2.2.2 a.2.1.2 a.2.2.1∧(a.2.2.1.length:Int)=a.2.1.1)∧ -1≤fuz a∧fuz a≤1000
def ya3 (a:dA):Prop:=ye a.2.1=true∧(1≤a.1∧a.1≤60000)∧yaz a.2.1 a.2.2.2.2.2.2.2.2.1=true∧(-1≤a.2.2.2.1∧a.2.2.2.1≤a.2.1.1-1)∧(0≤a.2.2.2.2.1∧a.2.2.2.2.1≤a.2.1.2)∧(a.2.2.2.1= -1→a.2.2.2.2.1=0) ∧ (0≤a.2.2.2.2.2.2.1∧a.2.2.2.2.2.2.1≤60000)∧(a.2.2.2.2.2.2.1≤a.2.2.2.2.2.1∧a.2.2.2.2.2.1≤60000)∧a.2.2.2.2.2.1≤a.2.2.2.2.2.2.1+4∧0≤a.2.2.2.2.2.2.2.1∧a.2.2.2.2.2.2.2.1≤60000
theorem yEA {a:dA}:yP a=true↔ya3 a∧yal a:=by
 unfold yP ya3 yal fuz;simp only[Bool.and_eq_true,zj7,yZf,Bool.not_eq_true',Bool.and_eq_false_iff,beq_eq_false_iff_ne,bne_eq_false_iff_eq];constructor
 ·rintro⟨h1,h2,h3,h4,h5,h6,h7,h8,h9,h10,h11,h12⟩
  exact⟨⟨h1,h2,h4,h5,h6,fun e=>h7.resolve_left (fun g=>g e),h8,h9,h10,h11.1,h11.2⟩,h3,h12⟩
 ·rintro⟨⟨h1,h2,h4,h5,h6,h7,h8,h9,h10,h11,h11'⟩,h3,h12⟩
  exact⟨h1,h2,h3,h4,h5,h6,(Decidable.em (a.2.2.2.1= -1)).elim (fun e=> .inr (h7 e)) (fun e=> .inl e),h8,h9,h10,⟨h11,h11'⟩,h12⟩
theorem yI5 {a b:dA} (h:yo b=yo a) (ha:ya3 a):ya3 b:=by
 unfold yo at h;simp only[Prod.mk.injEq]at h;obtain⟨h1,h2,h3,h4,h5,h6,h7,h8,h9⟩:=h;unfold ya3 at *;rw[h1,h2,h3,h4,h5,h6,h7,h8]; exact ha
theorem y0O {a b:dA} (h:yo b=yo a) (hl:b.2.2.1.length=a.2.2.1.length) (hm:yFL a.2.2.2.1 a.2.2.2.2.2.2.2.2.2.2.2 a.2.1.2 b.2.2.1) (hn:(a.2.2.1.length:Int)=a.2.1.1) (hf: -1≤fuz b∧fuz b≤1000):yal b:=by
 unfold yo at h;simp only[Prod.mk.injEq]at h;obtain⟨h1,h2,h3,h4,h5,h6,h7,h8,h9⟩:=h;unfold yal;rw[h2,h3,h9,hl]; exact⟨⟨hm,hn⟩,hf⟩
theorem y1i {a:dA} (h: -1≤fuz a∧fuz a≤1000): -1≤fuz (opA a).2∧fuz (opA a).2≤1000:=by
 unfold opA;cases yb a
 ·cases h0:(a.2.2.2.2.2.2.2.2.2.1==0)
  ·cases h1:ltb 0 a.2.2.2.2.2.2.2.2.2.1
   ·exact h
   ·have:=zka.1 h1
    unfold fuz at h;show -1≤i64.wrap (a.2.2.2.2.2.2.2.2.2.1-1)∧i64.wrap (a.2.2.2.2.2.2.2.2.2.1-1)≤1000;rw[wr (by omega) (by omega)]; omega
  ·show -1≤(-1:Int)∧(-1:Int)≤1000; omega
 ·exact h
theorem yJb {a:dA} (h:yal a):yal (opA a).2:=y0O (yFf a) (by rw[yax]) (by rw[yax]; exact h.1.1) h.1.2 (y1i h.2)
theorem yvV {a:dA} {m:Int} {x:dM} (h:yal a) (hm:inb m a.2.2.1.length=true) (hx:yyf a.2.2.2.1 a.2.2.2.2.2.2.2.2.2.2.2 a.2.1.2 m.toNat (nth a.2.2.1 m yd)→yyf a.2.2.2.1 a.2.2.2.2.2.2.2.2.2.2.2 a.2.1.2 m.toNat x):yal (yd2 a m x):=by
 have hm:=zj6.1 hm;refine⟨⟨yri h.1.1 (fun hi=>hx ?_),by show((a.2.2.1.set m.toNat x).length:Int)=_; rw[List.length_set]; exact h.1.2⟩,h.2⟩;have:=h.1.1 m.toNat hi;rwa[Int.toNat_of_nonneg hm.1]at this
theorem yZe {lost S:Int} {br:Bool} {i:Nat} {m:dM} (n:Int) (s:List Int) (h:yyf lost br S i m):yyf lost br S i (yH m n s).1 :=
 ⟨yYf n s h.1,by rw[(yw8 m n s).1]; exact h.2.1,by rw[(yw8 m n s).2]; exact h.2.2⟩
theorem yZd {lost S:Int} {br:Bool} {i:Nat} {m:dM} (h:yyf lost br S i m):yyf lost br S i (yq m) :=
 ⟨yZ8 h.1,by rw[(ywr m).1]; exact h.2.1,by rw[(ywr m).2]; exact h.2.2⟩
theorem yBQ {a:dA} {m n:Int} {s:List Int} (h:yal a) (hm:inb m a.2.2.1.length=true):yal (ycB a m n s):=by
 unfold ycB;cases(nth a.2.2.1 m yd).2.2.1
 ·cases(opA a).1
  ·exact yJb h
  ·exact yvV (yJb h) (by rw[yax]; exact hm) (fun g=>by rw[yax]at g; exact yZe _ _ g)
 ·exact h
theorem yXO {a:dA} {i:Nat} (h:yal a) (hi:i<a.2.2.1.length):yal (yI a i):=by
 unfold yI;cases(nth a.2.2.1 i yd).2.2.1
 ·cases(opA a).1
  ·exact yJb h
  ·exact yvV (yJb h) (by rw[yax]; exact zkR hi) (fun g=>by rw[yax]at g; exact yZd g)
 ·exact h
theorem yj3 {P:dA→Prop} {one:dA→Nat→dA} (hl: ∀a i,(one a i).2.2.1.length=a.2.2.1.length) (ho: ∀a i,P a→i<a.2.2.1.length→P (one a i)): ∀(n:Nat) (a:dA),n≤a.2.2.1.length→P a→P ((List.range n).foldl one a)
 | 0,_,_,h=>h
 | n+1,a,hn,h=>by
  rw[List.range_succ,List.foldl_append];exact ho _ _ (yj3 hl ho n a (by omega) h) (by rw[ymF hl]; exact hn)
theorem yDz {a:dA} (h:yal a):yal (yy a):=yj3 (P:=yal) (one:=yI) ykU (fun _ _=>yXO) _ a (Nat.le_refl _) h
theorem yVi {a:dA} (h:yal a):yal (yaa a) :=yDz (yj3 (P:=yal) (one:=yM) (fun _ _=>yn1 _ _ _ _) (fun _ _ h hi=>yBQ h (zkR hi)) _ (yV a) (Nat.le_refl _) h)
def ygZ (a:dA):Prop:=yb a=false∧fuz a= -1
theorem yYM {a:dA} (h:ygZ a):opA a=(true,a):=by
 unfold opA;rw[h.1,show a.2.2.2.2.2.2.2.2.2.1= -1 from h.2]; rfl
theorem yFJ {a:dA} (h:ygZ a) (m n:Int) (s:List Int):ygZ (ycB a m n s):=by
 unfold ycB;rw[yYM h];cases(nth a.2.2.1 m yd).2.2.1<;>exact h
theorem yXF {a:dA} (h:ygZ a) (i:Nat):ygZ (yI a i):=by
 unfold yI;rw[yYM h];cases(nth a.2.2.1 i yd).2.2.1<;>exact h
theorem yDw {a:dA} (h:ygZ a):ygZ (yy a):=yj3 (P:=ygZ) (one:=yI) ykU (fun _ i h _=>yXF h i) _ a (Nat.le_refl _) h
theorem yVe {a:dA} (h:ygZ a):ygZ (yaa a) :=yDw (yj3 (P:=ygZ) (one:=yM) (fun _ _=>yn1 _ _ _ _) (fun _ _ h _=>yFJ h _ _ _) _ (yV a) (Nat.le_refl _) h)
theorem yPS {a:dA} (h:ygZ a):yab a=yaa (ydq (yy a)):=by
 unfold yab;rw[(yDw h).1]; rfl
def Wk (k:Int) (a:dA):Prop:=ya3 a∧yal a∧ygZ a∧a.2.2.2.2.2.2.2.2.2.2.2=false∧a.2.2.2.2.2.2.2.1≤k
theorem y1p {k:Int} {a:dA} (h:Wk k a):yP a=true:=yEA.2 ⟨h.1,h.2.1⟩
theorem ydJ {k j:Int} {a:dA} (h:Wk k a) (hj:k≤j):Wk j a:=⟨h.1,h.2.1,h.2.2.1,h.2.2.2.1,Int.le_trans h.2.2.2.2 hj⟩
theorem yzX {k:Int} {a b:dA} (hc:yo b=yo a) (hk:yal b) (hf:ygZ b) (h:Wk k a):Wk k b:=by
 refine⟨yI5 hc h.1,hk,hf,?_⟩;unfold yo at hc;simp only[Prod.mk.injEq]at hc;obtain⟨_,_,_,_,_,_,h7,_,h9⟩:=hc;rw[h7,h9]; exact h.2.2.2
theorem y1r {k:Int} {a:dA} {m n:Int} {s:List Int} (h:Wk k a) (hm:inb m a.2.2.1.length=true):Wk k (ycB a m n s):=yzX (ymX _ _ _ _) (yBQ h.2.1 hm) (yFJ h.2.2.1 _ _ _) h
theorem y0Z {k:Int} {a:dA} (h:Wk k a):Wk k (yy a):=yzX (yfV _) (yDz h.2.1) (yDw h.2.2.1) h
theorem y0s {k:Int} {a:dA} (h:Wk k a) (hk:k+1≤60000):Wk (k+1) (yV a):=by
 obtain⟨⟨c1,c2,c3,c4,c5,c6,c7,c8,c9,c10,c11⟩,h2,h3,h4,h5⟩:=h;have e:i64.wrap (a.2.2.2.2.2.2.2.1+1)=a.2.2.2.2.2.2.2.1+1:=wr (by omega) (by omega);refine⟨⟨c1,c2,c3,c4,c5,c6,c7,c8,c9,?_,?_⟩,h2,h3,h4,?_⟩
 ·show 0≤i64.wrap (a.2.2.2.2.2.2.2.1+1); omega
 ·show i64.wrap (a.2.2.2.2.2.2.2.1+1)≤_; omega
 ·show i64.wrap (a.2.2.2.2.2.2.2.1+1)≤_; omega
theorem yUZ {k:Int} {a:dA} (h:Wk k a) (hk:k+1≤60000):Wk (k+1) (yaa a):=yzX (yrh _) (yVi h.2.1) (yVe h.2.2.1) (y0s h hk)
theorem yZW {k:Int} {a:dA} (h:Wk k a):Wk k (ydq a):=by
 obtain⟨⟨c1,c2,c3,c4,c5,c6,c7,c8,c9,c10,c11⟩,h2,h3,h4,h5⟩:=h;refine⟨⟨c1,c2,c3,c4,c5,c6,⟨?_,?_⟩,⟨Int.le_refl _,c8.2⟩,?_,c10,c11⟩,h2,h3,h4,h5⟩
 ·show 0≤a.2.2.2.2.2.1; omega
 ·show a.2.2.2.2.2.1≤60000; omega
 ·show a.2.2.2.2.2.1≤a.2.2.2.2.2.1+4; omega
theorem yYc {k:Int} {a:dA} (h:Wk k a) (hk:k+1≤60000):Wk (k+1) (yab a):=by
 rw[yPS h.2.2.1]; exact yUZ (yZW (y0Z h)) hk
theorem yZV {k:Int} {a:dA} {m:Int} {x:dM} (h:Wk k a) (hm:inb m a.2.2.1.length=true) (hx:yyf a.2.2.2.1 a.2.2.2.2.2.2.2.2.2.2.2 a.2.1.2 m.toNat (nth a.2.2.1 m yd)→yyf a.2.2.2.1 a.2.2.2.2.2.2.2.2.2.2.2 a.2.1.2 m.toNat x):Wk k (yd2 a m x) :=yzX (a:=a) (b:=yd2 a m x) rfl (yvV h.2.1 hm hx) h.2.2.1 h
theorem y0X {k m:Int} {a:dA} (h:Wk k a) (hl:a.2.2.2.1= -1) (hm:inb m a.2.2.1.length=true) (hk:k+1≤60000):Wk (k+1) (yaK a m):=by
 have hmi:=zj6.1 hm
 have hw:Wk k (yL a m):=by
  obtain⟨⟨c1,c2,c3,c4,c5,c6,c7,c8,c9,c10,c11⟩,⟨⟨g1,g2⟩,g3⟩,f,b,t⟩:=h;refine⟨⟨c1,c2,c3,⟨?_,?_⟩,⟨Int.le_refl _,by show(0:Int)≤a.2.1.2; omega⟩,fun e=>rfl,c7,c8,c9,c10,c11⟩,⟨⟨?_,?_⟩,g3⟩,f,b,t⟩
  ·show -1≤m; omega
  ·show m≤a.2.1.1-1; omega
  ·show yFL m a.2.2.2.2.2.2.2.2.2.2.2 a.2.1.2 (a.2.2.1.set m.toNat (yg4 (nth a.2.2.1 m yd)))
   refine yri (fun i hi=> ?_) (fun hi=> ?_)
   ·obtain⟨e1,e2,e3⟩:=g1 i hi
    refine⟨e1,e2,fun e=> ?_⟩;rcases e3 e with e | e
    ·omega
    ·exact .inr e
   ·have:=g1 m.toNat hi
    rw[Int.toNat_of_nonneg hmi.1]at this;exact⟨yTt this.1,this.2.1,fun _=> .inl (Int.toNat_of_nonneg hmi.1)⟩
  ·show((a.2.2.1.set m.toNat (yg4 (nth a.2.2.1 m yd))).length:Int)=a.2.1.1
   rw[List.length_set]; exact g2
 unfold yaK;rw[show(a.2.2.2.1== -1)=true from beq_iff_eq.2 hl,h.2.2.1.1,h.2.2.2.1];cases ltb a.2.2.2.2.2.2.2.1 60000
 ·exact ydJ hw (by omega)
 ·exact yUZ hw hk
theorem y0u {k:Int} {a:dA} (h:Wk k a) (hl:inb a.2.2.2.1 a.2.2.1.length=true) (hk:k+1≤60000):Wk (k+1) (yaa (ybP a)):=by
 have hmi:=zj6.1 hl;refine yUZ ?_ hk;obtain⟨⟨c1,c2,c3,c4,c5,c6,c7,c8,c9,c10,c11⟩,⟨⟨g1,g2⟩,g3⟩,f,b,t⟩:=h;have hg:=yk.1 c1;refine⟨⟨c1,c2,c3,c4,⟨Int.le_refl _,by show(0:Int)≤a.2.1.2; omega⟩,fun e=>rfl,c7,c8,c9,c10,c11⟩,⟨⟨yri g1 (fun hi=>⟨yVj (by omega) (by omega),?_,fun e=> ?_⟩),?_⟩,g3⟩,f,b,t⟩
 ·unfold ycg
  rw[zk2 (show 1≤6+a.2.1.2 by omega),zk2 (show 6+a.2.1.2≤20 by omega)];show((List.replicate (6+a.2.1.2).toNat ([]:List Int)).length:Int)=6+a.2.1.2;rw[List.length_replicate]; omega
 ·unfold ycg at e
  rw[zk2 (show 1≤6+a.2.1.2 by omega),zk2 (show 6+a.2.1.2≤20 by omega)]at e;cases e
 ·show((a.2.2.1.set a.2.2.2.1.toNat (ycg (6+a.2.1.2))).length:Int)=a.2.1.1
  rw[List.length_set]; exact g2
theorem y0Y {k:Int} {a:dA} (h:Wk k a) (hl:inb a.2.2.2.1 a.2.2.1.length=true) (hb:a.2.2.2.2.1<a.2.1.2):Wk k (yrn a).2:=by
 have hp:Wk k (ya7 a):=y1r h hl;have e:=ymX a a.2.2.2.1 (yQ a.2.2.2.2.1) [nth (yJ a a.2.2.2.2.1).1 a.2.2.2.1 0];have e1:(ya7 a).2.2.2.2.1=a.2.2.2.2.1:=yj1 e;have e2:(ya7 a).2.1=a.2.1:=yau e;have e3:(ya7 a).2.2.2.1=a.2.2.2.1:=congrArg (fun x=>x.2.2.1) e;unfold yrn;cases(yJ a a.2.2.2.2.1).2
 ·exact h
 ·generalize ya7 a=R at hp e1 e2 e3 ⊢
  rw[hp.2.2.1.1];have hmi:=zj6.1 hl;obtain⟨⟨c1,c2,c3,c4,c5,c6,c7,c8,c9,c10,c11⟩,g2,g3,g4,g5⟩:=hp;have hg:=yk.1 c1;have e4:i64.wrap (R.2.2.2.2.1+1)=R.2.2.2.2.1+1:=wr (by omega) (by omega);refine⟨⟨c1,c2,c3,c4,⟨?_,?_⟩,fun e=> ?_,c7,c8,c9,c10,c11⟩,g2,g3,g4,g5⟩
  ·show 0≤i64.wrap (R.2.2.2.2.1+1); omega
  ·show i64.wrap (R.2.2.2.2.1+1)≤R.2.1.2; rw[e4,e1,e2]; omega
  ·have:R.2.2.2.1= -1:=e
   omega
def ybp (r:dN) (a:dA) (i:Nat):dA:=ycB a i (yO r.1) (ykN r)
def yU (a:dA) (r:dN):dA:=yy ((List.range a.2.2.1.length).foldl (ybp r) a)
theorem yn2 (r:dN) (a:dA) (i:Nat):(ybp r a i).2.2.1.length=a.2.2.1.length:=yn1 _ _ _ _
theorem yLH (r:dN) {a:dA} (i:Nat) (h:yb a=true):ybp r a i=a:=yqu h _ _ _
theorem yYQ (a:dA) (r:dN):(yU a r).2.2.1.length=a.2.2.1.length:=(yF6 _).trans (ymF (yn2 r) _ _)
theorem ygN (a:dA) (r:dN):yo (yU a r)=yo a:=(yfV _).trans (yrc (one:=ybp r) (fun _ _=>ymX _ _ _ _) _ _)
def ycY (p N x:Int) (data:List Int) (i:Int):Int:=bif i==p then x else nth data ((i-p-1+N).tmod N) 0
def ya6 (p N s:Int) (data:List Int) (a:dA) (i:Nat):dA:=bif ycf a i s then ycB a i (yQ s) [ycY p N (yao data) data i]else a
def yK (a:dA) (s:Int) (data:List Int):dA:=(List.range a.2.2.1.length).foldl (ya6 (yg a.2.1 s) a.2.1.1 s data) a
theorem yvT (p N s:Int) (data:List Int) (a:dA) (i:Nat):(ya6 p N s data a i).2.2.1.length=a.2.2.1.length:=by
 unfold ya6; cases ycf a i s
 ·rfl
 ·exact yn1 _ _ _ _
theorem yHo (p N s:Int) (data:List Int) {a:dA} (i:Nat) (h:yb a=true):ya6 p N s data a i=a:=by
 unfold ya6; cases ycf a i s
 ·rfl
 ·exact yqu h _ _ _
theorem yHn (p N s:Int) (data:List Int) (a:dA) (i:Nat):yo (ya6 p N s data a i)=yo a:=by
 unfold ya6; cases ycf a i s
 ·rfl
 ·exact ymX _ _ _ _
theorem yDr (a:dA) (s:Int) (data:List Int):yo (yK a s data)=yo a:=yrc (yHn _ _ _ _) _ _
theorem y1I {N i p:Int} (h:3≤N∧N≤5) (hi:0≤i∧i<N) (hp:0≤p∧p≤N-1) (hne:i≠p):0≤(i-p-1+N).tmod N∧(i-p-1+N).tmod N<N-1:=by
 rw[Int.tmod_eq_emod_of_nonneg (by omega)];have:N=3∨N=4∨N=5:=by omega
 rcases this with rfl | rfl | rfl<;>omega
theorem yZo {N p x:Int} {data:List Int} (h:3≤N∧N≤5) (hp:0≤p∧p≤N-1) (hd:(data.length:Int)=N-1) :
  (List.range data.length).foldl (fun l (i:Nat)=>l.set ((p+1+i).tmod N).toNat (nth data i 0)) ((List.replicate N.toNat 0).set p.toNat x)=(List.range N.toNat).map (fun(i:Nat)=>ycY p N x data i):=by
 have:N=3∨N=4∨N=5:=by omega
 rcases this with rfl | rfl | rfl
 ·match data,hd with
  | [a,b],_ =>
   have:p=0∨p=1∨p=2:=by omega
   rcases this with rfl | rfl | rfl<;>simp[ycY,nth,List.range_succ,List.replicate_succ]
  | [],hd=>simp at hd
  | [_],hd=>simp at hd
  | _::_::_::_,hd=>simp only[List.length_cons]at hd; omega
 ·match data,hd with
  | [a,b,c],_ =>
   have:p=0∨p=1∨p=2∨p=3:=by omega
   rcases this with rfl | rfl | rfl | rfl<;>simp[ycY,nth,List.range_succ,List.replicate_succ]
  | [],hd=>simp at hd
  | [_],hd=>simp at hd
  | [_,_],hd=>simp at hd
  | _::_::_::_::_,hd=>simp only[List.length_cons]at hd; omega
 ·match data,hd with
  | [a,b,c,d],_ =>
   have:p=0∨p=1∨p=2∨p=3∨p=4:=by omega
   rcases this with rfl | rfl | rfl | rfl | rfl<;>simp[ycY,nth,List.range_succ,List.replicate_succ]
  | [],hd=>simp at hd
  | [_],hd=>simp at hd
  | [_,_],hd=>simp at hd
  | [_,_,_],hd=>simp at hd
  | _::_::_::_::_::_,hd=>simp only[List.length_cons]at hd; omega
theorem ymE {a b:dA} (h:yo a=yo b):a.2.2.2.1=b.2.2.2.1:=congrArg (fun x=>x.2.2.1) h
def yj (a:dA) (i:Int):dM:=nth a.2.2.1 i yd
theorem yTs {a:dA} {m i:Int} {x:dM} (hm:inb m a.2.2.1.length=true) (hi:0≤i):yj (yd2 a m x) i=bif m==i then x else yj a i:=yBX hm hi
def ygA (n:Int) (s:List Int) (m:dM):dM:=bif m.2.2.1 then m else(yH m n s).1
def Did (g:dM→dM) (i:Int) (a r:dA):Prop:=yo r=yo a∧r.2.2.1.length=a.2.2.1.length ∧ ((yb r=false∧ ∀j,0≤j→yj r j=bif i==j then g (yj a j)else yj a j)∨(yb r=true∧ ∀j,yj r j=yj a j))
theorem yJc {a:dA} {m:Int} (n:Int) (s:List Int) (h:yb a=false) (hm:inb m a.2.2.1.length=true):Did (ygA n s) m a (ycB a m n s):=by
 refine⟨ymX _ _ _ _,yn1 _ _ _ _,?_⟩;have hd:=yX2 h m n s;unfold ycB at hd ⊢;cases hf:(nth a.2.2.1 m yd).2.2.1
 ·rw[hf]at hd
  cases ho:(opA a).1
  ·rw[ho]at hd
   refine .inr ⟨hd,fun j=> ?_⟩;show nth (opA a).2.2.2.1 j yd=yj a j;rw[yax]; rfl
  ·rw[ho]at hd
   refine .inl ⟨hd,fun j hj=> ?_⟩;show yj (yd2 (opA a).2 m (yH (nth a.2.2.1 m yd) n s).1) j=_;rw[yTs (by rw[yax]; exact hm) hj];cases hj2:(m==j)
   ·show nth (opA a).2.2.2.1 j yd=yj a j
    rw[yax]; rfl
   ·have:=beq_iff_eq.1 hj2
    subst this;show _=ygA n s (yj a m);unfold ygA yj;rw[hf]; rfl
 ·refine .inl ⟨h,fun j hj=> ?_⟩
  cases hj2:(m==j)
  ·rfl
  ·have:=beq_iff_eq.1 hj2
   subst this;show yj a m=ygA n s (yj a m);unfold ygA yj;rw[hf]; rfl
theorem y0m {a:dA} {i:Nat} (h:yb a=false) (hm:i<a.2.2.1.length):Did yq i a (yI a i):=by
 refine⟨yIW _ _,ykU _ _,?_⟩;have hd:=yIX h i;unfold yI at hd ⊢;cases hf:(nth a.2.2.1 i yd).2.2.1
 ·rw[hf]at hd
  cases ho:(opA a).1
  ·rw[ho]at hd
   refine .inr ⟨hd,fun j=> ?_⟩;show nth (opA a).2.2.2.1 j yd=yj a j;rw[yax]; rfl
  ·rw[ho]at hd
   refine .inl ⟨hd,fun j hj=> ?_⟩;show yj (yd2 (opA a).2 i (yq (nth a.2.2.1 i yd))) j=_;rw[yTs (by rw[yax]; exact zkR hm) hj];cases hj2:((i:Int)==j)
   ·show nth (opA a).2.2.2.1 j yd=yj a j
    rw[yax]; rfl
   ·have:=beq_iff_eq.1 hj2
    subst this; rfl
 ·refine .inl ⟨h,fun j hj=> ?_⟩
  cases hj2:((i:Int)==j)
  ·rfl
  ·have:=beq_iff_eq.1 hj2
   subst this;show yj a i=yq (yj a i);unfold yq yj;rw[hf,Bool.not_true,Bool.and_false]; rfl
def Adv (g:Int→dM→dM) (a r:dA) (n:Nat):Prop:=yo r=yo a∧r.2.2.1.length=a.2.2.1.length ∧ ∃k:Nat,k≤n∧(∀j:Int,0≤j→yj r j=bif ltb j k then g j (yj a j)else yj a j)∧(yb r=false→k=n)
theorem yAO {one:dA→Nat→dA} {g:Int→dM→dM} {a:dA} (hs: ∀b i,yb b=true→one b i=b)
  (ho: ∀(b:dA) (i:Nat),yo b=yo a→b.2.2.1.length=a.2.2.1.length→i<a.2.2.1.length→yb b=false→yj b i=yj a i→Did (g i) i b (one b i)) (hd:yb a=false) :
  ∀n,n≤a.2.2.1.length→Adv g a ((List.range n).foldl one a) n
 | 0,_=>⟨rfl,rfl,0,Nat.le_refl _,fun j hj=>by rw[zk3 (show((0:Nat):Int)≤j by omega)]; rfl,fun _=>rfl⟩
 | n+1,hn=>by
  obtain⟨h1,h2,k,h3,h4,h5⟩:=yAO hs ho hd n (by omega);rw[List.range_succ,List.foldl_append,List.foldl_cons,List.foldl_nil];generalize (List.range n).foldl one a=R at h1 h2 h4 h5 ⊢;cases hR:yb R
  ·have hk:=h5 hR
   subst hk;have e:yj R k=yj a k:=by rw[h4 k (by omega),zk3 (Int.le_refl _)]; rfl
   obtain⟨g1,g2,g3⟩:=ho R k h1 h2 (by omega) hR e;refine⟨g1.trans h1,g2.trans h2,?_⟩;rcases g3 with⟨g3,g4⟩ | ⟨g3,g4⟩
   ·refine⟨k+1,Nat.le_refl _,fun j hj=> ?_,fun _=>rfl⟩
    rw[g4 j hj];by_cases hj2:(k:Int)=j
    ·subst hj2
     rw[show((k:Int)==(k:Int))=true from beq_self_eq_true _,zky (show(k:Int)<((k+1:Nat):Int)by omega),e]; try rfl
    ·rw[show((k:Int)==j)=false from beq_eq_false_iff_ne.2 hj2,cond_false,h4 j hj,show ltb j ((k+1:Nat):Int)=ltb j k by rw[Bool.eq_iff_iff,zka,zka]; omega]
   ·refine⟨k,by omega,fun j hj=>by rw[g4 j,h4 j hj],fun h=> ?_⟩
    rw[g3]at h; cases h
  ·rw[hs R n hR]
   exact⟨h1,h2,k,by omega,h4,fun h=>by rw[hR]at h; cases h⟩
theorem yX7 {a:dA} (hd:yb a=false):Adv (fun _=>yq) a (yy a) a.2.2.1.length :=
 yAO (one:=yI) (g:=fun _=>yq) (fun _ i h=>yCA i h) (fun b i _ h2 hi hb _=>y0m hb (by omega)) hd _ (Nat.le_refl _)
theorem yXD {a b:dA} (h:yo b=yo a) (i:Int):yJd b i=yJd a i:=by
 unfold yo at h;simp only[Prod.mk.injEq]at h;obtain⟨h1,h2,h3,h4,h5,h6,h7,h8,h9⟩:=h;unfold yJd;rw[h1,h2,h3,h4,h6,h7]
theorem yBk {a b:dA} (h:yo b=yo a):b.2.2.2.2.2.2.2.1=a.2.2.2.2.2.2.2.1:=congrArg (fun x=>x.2.2.2.2.2.2.1) h
theorem yMg {a b:dA} (h:yo b=yo a):b.2.2.2.2.2.2.2.2.2.2.2=a.2.2.2.2.2.2.2.2.2.2.2:=congrArg (fun x=>x.2.2.2.2.2.2.2.2) h
def yXa (a:dA) (i:Int) (m:dM):dM:=ygA (a.2.2.2.2.2.2.2.1.tmod 2) (yv (yJd a i)) m
theorem yXT {a:dA} (hd:yb a=false):Adv (yXa a) a ((List.range a.2.2.1.length).foldl yM a) a.2.2.1.length :=
 yAO (one:=yM) (g:=yXa a) (fun _ i h=>yqu h _ _ _) (fun b i h1 h2 hi hb _=>by
  have:=yJc (b.2.2.2.2.2.2.2.1.tmod 2) (yv (yJd b i)) hb (show inb (i:Int) b.2.2.1.length=true from zkR (by omega));rw[yBk h1,yXD h1]at this;unfold yXa yM;rw[yBk h1,yXD h1]
  exact this) hd _ (Nat.le_refl _)
theorem y0S {a:dA} (r:dN) (hd:yb a=false):Adv (fun _=>ygA (yO r.1) (ykN r)) a ((List.range a.2.2.1.length).foldl (ybp r) a) a.2.2.1.length :=
 yAO (one:=ybp r) (g:=fun _=>ygA (yO r.1) (ykN r)) (fun _ i h=>yLH r i h) (fun b i _ h2 hi hb _=>yJc _ _ hb (zkR (by omega))) hd _ (Nat.le_refl _)
def yaJ (L B i s:Int) (m:dM):Bool:= !m.2.2.1&&(i !=L||ltb s B)
theorem yYK {a:dA} {i s:Int} (hi:inb i a.2.2.1.length=true):ycf a i s=yaJ a.2.2.2.1 a.2.2.2.2.1 i s (yj a i):=by
 unfold ycf yaJ yj;rw[hi]; rfl
def yl8 (L B p N s:Int) (d:List Int) (i:Int) (m:dM):dM:=bif yaJ L B i s m then(yH m (yQ s) [ycY p N (yao d) d i]).1 else m
theorem yZ3 {a:dA} (s:Int) (d:List Int) (hd:yb a=false):Adv (yl8 a.2.2.2.1 a.2.2.2.2.1 (yg a.2.1 s) a.2.1.1 s d) a (yK a s d) a.2.2.1.length :=
 yAO (one:=ya6 (yg a.2.1 s) a.2.1.1 s d) (g:=yl8 a.2.2.2.1 a.2.2.2.2.1 (yg a.2.1 s) a.2.1.1 s d) (fun _ i h=>yHo _ _ _ _ i h) (fun b i h1 h2 hi hb _=>by
  have hib:inb (i:Int) b.2.2.1.length=true:=zkR (by omega);unfold ya6;rw[yYK hib,ymE h1,yj1 h1];cases hl:yaJ a.2.2.2.1 a.2.2.2.2.1 i s (yj b i)
  ·refine⟨rfl,rfl,.inl ⟨hb,fun j hj=> ?_⟩⟩
   by_cases hj2:(i:Int)=j
   ·subst hj2
    rw[beq_self_eq_true];show yj b i=yl8 _ _ _ _ _ _ _ (yj b i);unfold yl8;rw[hl]; rfl
   ·rw[show((i:Int)==j)=false from beq_eq_false_iff_ne.2 hj2]; rfl
  ·obtain⟨g1,g2,g3⟩:=yJc (yQ s) [ycY (yg a.2.1 s) a.2.1.1 (yao d) d i] hb hib
   refine⟨g1,g2,g3.imp (fun⟨g3,g4⟩=>⟨g3,fun j hj=> ?_⟩) id⟩;show yj (ycB b i (yQ s) _) j=_;rw[g4 j hj];by_cases hj2:(i:Int)=j
   ·subst hj2
    rw[beq_self_eq_true,cond_true,cond_true];unfold yl8 ygA;rw[hl,cond_true];simp only[yaJ,Bool.and_eq_true,Bool.not_eq_true']at hl;rw[hl.1]; rfl
   ·rw[show((i:Int)==j)=false from beq_eq_false_iff_ne.2 hj2]; rfl) hd _ (Nat.le_refl _)
theorem yX3 (s:dS):yai (yv s)=true:=by
 unfold yv;cases h:yaw s
 ·rfl
 ·unfold yaw at h
  simp only[ybR]at h;cases hg:ye (s.2.2.2.1,s.2.2.2.2.1)
  ·rw[hg]at h; cases h
  have hge:=yk.1 hg;simp only at hge;rw[hg,wq (s.2.2.2.1-1) (by omega) (by omega)]at h;cases h2:(leb 1 s.1&&leb s.1 60000)
  ·rw[h2]at h; cases h
  cases h3:(leb 0 s.2.1&&leb s.2.1 60000)
  ·rw[h2,h3]at h; cases h
  cases h4:(leb 0 s.2.2.1&&leb s.2.2.1 (s.2.2.2.1-1))
  ·rw[h2,h3,h4]at h; cases h
  cases h5:(leb 0 s.2.2.2.2.2.1&&leb s.2.2.2.2.2.1 60000)
  ·rw[h2,h3,h4,h5]at h; cases h
  cases h6:(leb (-1) s.2.2.2.2.2.2.1&&leb s.2.2.2.2.2.2.1 (s.2.2.2.1-1))
  ·rw[h2,h3,h4,h5,h6]at h; cases h
  cases h7:(leb 0 s.2.2.2.2.2.2.2&&leb s.2.2.2.2.2.2.2 s.2.2.2.2.1)
  ·rw[h2,h3,h4,h5,h6,h7]at h; cases h
  simp only[Bool.and_eq_true,zj7]at h2 h3 h4 h5 h6 h7;rw[yIV];refine⟨by show(9:Nat)≤12; omega,?_⟩;have hw:i64.wrap (s.2.2.2.2.2.2.1+1)=s.2.2.2.2.2.2.1+1:=wr (by omega) (by omega);simp only[Bool.not_true,cond_false,hw,List.mem_cons,List.not_mem_nil,or_false]
  rintro x (rfl | rfl | rfl | rfl | rfl | rfl | rfl | rfl | rfl)<;>omega
theorem yFS {g:dG} (id i:Int) (hg:ye g=true):yr (yB id g i)=true∧((yB id g i).1.length:Int)=6+g.2∧(yB id g i).2=([],false,[]):=by
 have hge:=yk.1 hg
 have hm:ycg (6+g.2)=(List.replicate (6+g.2).toNat [],[],false,[]):=by
  unfold ycg;rw[zk2 (show 1≤6+g.2 by omega),zk2 (show 6+g.2≤20 by omega)]; rfl
 have key: ∀(l:List Nat) (m:dM),m.1.all yai=true∧m.2=([],false,[])→(l.foldl yrj m).1.all yai=true∧(l.foldl yrj m).2=([],false,[]):=by
  intro l
  induction l with
  | nil=>intro m h; exact h
  | cons x t ih =>
   intro m h;refine ih _ ⟨?_,h.2⟩;rw[List.all_eq_true];intro y hy;rcases List.mem_or_eq_of_mem_set hy with h1 | rfl
   ·exact List.all_eq_true.1 h.1 y h1
   ·rfl
 have ht:(yjs id g i).1.all yai=true∧(yjs id g i).2=([],false,[]):=by
  unfold yjs;rw[hm];refine⟨?_,rfl⟩;rw[List.all_eq_true];intro y hy;rcases List.mem_or_eq_of_mem_set hy with h1 | rfl
  ·rw[List.eq_of_mem_replicate h1]; rfl
  ·exact yX3 _
 have hl:((yB id g i).1.length:Int)=6+g.2:=by
  unfold yB;rw[yLF];unfold yjs;rw[hm];show(((List.replicate (6+g.2).toNat ([]:List Int)).set 0 _).length:Int)=_;rw[List.length_set,List.length_replicate]; omega
 obtain⟨h1,h2⟩:=key (List.range g.2.toNat) _ ht;refine⟨yvp h1 ?_ ?_ ?_ ?_ ?_,hl,h2⟩
 ·show List.all ((yB id g i).2).1 _=true
  rw[show(yB id g i).2=([],false,[])from h2]; rfl
 ·show ynN _ ((yB id g i).2).2.2=true
  rw[show(yB id g i).2=([],false,[])from h2,yq3];exact⟨fun x hx=>absurd hx List.not_mem_nil,List.Pairwise.nil⟩
 ·show 1≤(yB id g i).1.length; omega
 ·show(yB id g i).1.length≤20; omega
 ·show((yB id g i).2).1.length≤60
  rw[show(yB id g i).2=([],false,[])from h2]; exact Nat.zero_le _
theorem yHj {id:Int} {g:dG} (hg:ye g=true) (h1:1≤id) (h2:id≤60000):ykt id g=(id,g,(List.range g.1.toNat).map (fun(i:Nat)=>yB id g i),-1,0,0,0,0,[],-1,false,false):=by
 unfold ykt;rw[hg,zk2 h1,zk2 h2]
 have: ∀(n:Nat),(List.range n).foldl (fun a (i:Nat)=>yAN a (yB id g i)) (yAP id g)=(id,g,(List.range n).map (fun(i:Nat)=>yB id g i),-1,0,0,0,0,[],-1,false,false):=by
  intro n
  induction n with
  | zero=>rfl
  | succ n ih=>rw[List.range_succ,List.foldl_append,ih,List.map_append]; rfl
 exact this _
theorem yZU {id:Int} {g:dG} (hg:ye g=true) (h1:1≤id) (h2:id≤60000):Wk 0 (ykt id g):=by
 have hge:=yk.1 hg;rw[yHj hg h1 h2];have hl:((List.range g.1.toNat).map (fun(i:Nat)=>yB id g i)).length=g.1.toNat:=by rw[List.length_map,List.length_range]
 refine⟨⟨hg,⟨h1,h2⟩,?_,⟨Int.le_refl _,?_⟩,⟨Int.le_refl _,?_⟩,fun _=>rfl,?_,?_,?_,?_,?_⟩,⟨⟨fun i hi=> ?_,?_⟩,?_,?_⟩,⟨rfl,rfl⟩,rfl,Int.le_refl _⟩
 ·rfl
 ·show(-1:Int)≤g.1-1; omega
 ·show(0:Int)≤g.2; omega
 ·show(0:Int)≤0∧(0:Int)≤60000; omega
 ·show(0:Int)≤0∧(0:Int)≤60000; omega
 ·show(0:Int)≤0+4; omega
 ·show(0:Int)≤0; omega
 ·show(0:Int)≤60000; omega
 ·have hi':i<((List.range g.1.toNat).map (fun(i:Nat)=>yB id g i)).length:=hi
  show yyf (-1) false g.2 i (nth ((List.range g.1.toNat).map (fun(i:Nat)=>yB id g i)) i yd);rw[zkS,zkJ hi',List.getElem_map,List.getElem_range];obtain⟨k1,k2,k3⟩:=yFS id i hg;refine⟨k1,k2,fun e=> ?_⟩;rw[show(yB id g i).2=([],false,[])from k3]at e;cases e
 ·show(((List.range g.1.toNat).map (fun(i:Nat)=>yB id g i)).length:Int)=g.1
  rw[hl]; omega
 ·show(-1:Int)≤ -1; omega
 ·show(-1:Int)≤1000; omega
def yF (a:dA):dA:=bif leb 4 (i64.wrap (a.2.2.2.2.2.1-a.2.2.2.2.2.2.1))then yab a else a
def yah (a:dA) (s:Int) (d:List Int):Int×dA :=bif yb (yF a)then(6,yF a)else bif yb (yU (yF a) ((yF a).2.2.2.2.2.1,s,d))then(6,yU (yF a) ((yF a).2.2.2.2.2.1,s,d))else (bif yb (yK (yan (yU (yF a) ((yF a).2.2.2.2.2.1,s,d))) s d)then 6 else 0,yK (yan (yU (yF a) ((yF a).2.2.2.2.2.1,s,d))) s d)
theorem yHl (a:dA):(yab a).2.1=a.2.1:=by
 unfold yab;cases yb (yy a)
 ·exact(yau (yrh (ydq (yy a)))).trans (show(yy a).2.1=a.2.1 from yau (yfV a))
 ·exact yau (yfV a)
theorem yTq (a:dA):(yF a).2.1=a.2.1:=by
 unfold yF;cases leb 4 (i64.wrap (a.2.2.2.2.2.1-a.2.2.2.2.2.2.1))
 ·rfl
 ·exact yHl a
theorem y0v {k m n:Int} {a:dA} (h:Wk k a) (hm:inb m a.2.2.1.length=true):Wk k (yd2 a m (spoil (nth a.2.2.1 m yd) n)) :=
 yZV h hm (fun g=>⟨yX6 n g.1,by rw[(yD4 _ _).1]; exact g.2.1,by rw[(yD4 _ _).2]; exact g.2.2⟩)
theorem ynP {a:dA} (h:yal a) {i:Int} (h0:0≤i) (h1:i<a.2.1.1):yr (yj a i)=true∧((yj a i).1.length:Int)=6+a.2.1.2∧((yj a i).2.2.1=true→i=a.2.2.2.1∨a.2.2.2.2.2.2.2.2.2.2.2=true):=by
 have:=h.1.1 i.toNat (by have:=h.1.2; omega);unfold yyf at this;rw[Int.toNat_of_nonneg h0]at this;exact this
theorem yFA {s:Int} (h0:0≤s) (h1:s≤1000):yQ s=s+6:=by
 unfold yQ;rw[zk2 h0,zk2 (show s≤1099511627776 by omega)]; rfl
def yce (a:dA) (s i:Int):Bool:=yaJ a.2.2.2.1 a.2.2.2.2.1 i s (yj a i)&& !(yg1 (yj a i) (s+6))
def yFv (V:Int→Int→Int) (a:dA):Prop:= ∀i s,0≤i→i<a.2.1.1→0≤s→s<a.2.1.2→yce a s i=true→yim (yj a i) (s+6)= [V s i]
def yfT (V:Int→Int→Int) (N:Int) (s:Int):List Int:=(List.range N.toNat).map (fun(i:Nat)=>V s i)
structure EvV (g:dG) (V:Int→Int→Int):Prop where
 ev: ∀s,0≤s→s<g.2→yao (yfT V g.1 s)=0
 ew: ∀s i,0≤s→s<g.2→0≤i→i<g.1→isW (V s i)=true
theorem yI1 {V:Int→Int→Int} {a:dA} {i s:Int} (hg:ye a.2.1=true) (hk:yal a) (hv:yFv V a) (i0:0≤i) (i1:i<a.2.1.1) (s0:0≤s) (s1:s<a.2.1.2):yp a i s=yce a s i∧(yce a s i=true→yo9 a i s=V s i):=by
 have hge:=yk.1 hg;have hin:inb i a.2.2.1.length=true:=zj6.2 (by have:=hk.1.2; omega);obtain⟨d1,d2,d3⟩:=ynP hk i0 i1
 have key:yaJ a.2.2.2.1 a.2.2.2.2.1 i s (yj a i)=true→ycX a i s=bif yg1 (yj a i) (s+6)then([],false)else(yim (yj a i) (s+6),true):=fun hl=>by
  simp only[yaJ,Bool.and_eq_true,Bool.not_eq_true']at hl;unfold ycX;rw[yFA s0 (by omega)];exact y0l d1 hl.1 (zj6.2 (show 0≤s+6∧s+6<((yj a i).1.length:Int)by omega))
 have hw:yp a i s=yce a s i:=by
  unfold yp;rw[yYK hin];cases hl:yaJ a.2.2.2.1 a.2.2.2.2.1 i s (yj a i)
  ·unfold yce; rw[hl]; rfl
  ·rw[key hl]
   cases hb:yg1 (yj a i) (s+6)
   ·have hh:yce a s i=true:=by unfold yce; rw[hl,hb]; rfl
    rw[hh,cond_false,hv i s i0 i1 s0 s1 hh]; rfl
   ·unfold yce; rw[hl,hb]; rfl
 refine⟨hw,fun hh=> ?_⟩;unfold yo9;rw[hw,hh,cond_true];have hh':=hh;unfold yce at hh';rw[Bool.and_eq_true,Bool.not_eq_true']at hh';rw[key hh'.1,hh'.2,cond_false,hv i s i0 i1 s0 s1 hh]; rfl
theorem y0y: ∀(l:List Int) (k:Nat) (x:Int),k<l.length→yeP (l.set k x)=yeP l ^^^ bv (nth l k 0) ^^^ bv x:=by
 intro l k x hk
 have e1:l=l.take k++nth l k 0::l.drop (k+1):=by
  rw[zkS,zkJ hk,← List.drop_eq_getElem_cons hk,List.take_append_drop]
 have e2:l.set k x=l.take k++x::l.drop (k+1):=by
  rw[List.set_eq_take_append_cons_drop,if_pos hk]
 have fo: ∀(l:List Int) (v:BitVec 64),l.foldl (fun v x=>v ^^^ bv x) v=v ^^^ yeP l:=by
  intro l
  induction l with
  | nil=>intro v; show v=v ^^^ 0#64; rw[BitVec.xor_zero]
  | cons y t ih =>
   intro v;unfold yeP;rw[List.foldl_cons,List.foldl_cons,ih,ih (0#64 ^^^ bv y),BitVec.zero_xor,BitVec.xor_assoc]
 have cut: ∀(A:List Int) (y:Int) (B:List Int),yeP (A++y::B)=yeP A ^^^ bv y ^^^ yeP B:=fun A y B=>by
  show(A++y::B).foldl _ _=_;rw[List.foldl_append,List.foldl_cons,fo]; rfl
 rw[e2,cut]
 conv=>rhs; rw[e1]
 rw[cut];have hn:nth (List.take k l++nth l (↑k) 0::List.drop (k+1) l) (k:Int) 0=nth l k 0:=by rw[← e1]
 rw[hn,BitVec.xor_assoc (yeP (l.take k)),BitVec.xor_assoc (yeP (l.take k)),BitVec.xor_comm (bv (nth l k 0)),BitVec.xor_assoc (yeP (l.take k)),yVu,BitVec.xor_comm (bv x),BitVec.xor_assoc]
theorem yZq {l:List Int} (h:yao l=0):yeP l=0#64:=by
 rw[yni]at h;have:=congrArg bv h;rw[yvf]at this;rw[this]; rfl
theorem yVl {p:Nat→Bool}: ∀{n:Nat},yek p n=false→ ∀j,j<n→p j=true∨(j:Int)=yu p n
 | 0,_,j,hj=>absurd hj (Nat.not_lt_zero _)
 | n+1,h,j,hj=>by
  have h':yek p n=false:=by
   unfold yek at h ⊢;rw[List.range_succ,List.any_append,Bool.or_eq_false_iff]at h;exact h.1
  have hl:(!p n&&leb 0 (yu p n))=false:=by
   unfold yek at h;rw[List.range_succ,List.any_append,Bool.or_eq_false_iff]at h;simpa using h.2
  unfold yu;rcases Nat.lt_succ_iff_lt_or_eq.1 hj with hj | rfl
  ·rcases yVl h' j hj with h1 | h1
   ·exact .inl h1
   ·cases hp:p n
    ·rw[hp,← h1]at hl
     rw[zk2 (show(0:Int)≤j by omega)]at hl; cases hl
    ·exact .inr h1
  ·cases hp:p j
   ·exact .inr rfl
   ·exact .inl rfl
theorem yVk {p:Nat→Bool}: ∀{n:Nat},leb 0 (yu p n)=false→ ∀j,j<n→p j=true
 | 0,_,j,hj=>absurd hj (Nat.not_lt_zero _)
 | n+1,h,j,hj=>by
  unfold yu at h;cases hp:p n
  ·rw[hp,cond_false,zk2 (show(0:Int)≤n by omega)]at h; cases h
  ·rw[hp,cond_true]at h
   rcases Nat.lt_succ_iff_lt_or_eq.1 hj with hj | rfl
   ·exact yVk h j hj
   ·exact hp
theorem yI0 (V:Int→Int→Int) (N s:Int):(yfT V N s).length=N.toNat:=by unfold yfT; rw[List.length_map,List.length_range]
theorem yZT (V:Int→Int→Int) (N s:Int) {j:Nat} (h:j<(yfT V N s).length):(yfT V N s)[j]=V s j:=by simp[yfT]
theorem yYb (V:Int→Int→Int) {N s i:Int} (h0:0≤i) (h1:i<N):nth (yfT V N s) i 0=V s i:=by
 unfold yfT nth;rw[zkJ (by rw[List.length_map,List.length_range]; omega),List.getElem_map,List.getElem_range,Int.toNat_of_nonneg h0]
theorem ySy {V:Int→Int→Int} {a:dA} {s:Int} (hg:ye a.2.1=true) (hk:yal a) (he:EvV a.2.1 V) (hv:yFv V a) (s0:0≤s) (s1:s<a.2.1.2) :
  yJ a s=bif yek (fun(i:Nat)=>yce a s i) a.2.1.1.toNat then([],false)else(yfT V a.2.1.1 s,true):=by
 have hw: ∀i:Nat,i<a.2.1.1.toNat→yp a i s=yce a s i:=fun i hi=>(yI1 hg hk hv (by omega) (by omega) s0 s1).1
 have hm: ∀n,n≤a.2.1.1.toNat→yu (fun(i:Nat)=>yp a i s) n=yu (fun(i:Nat)=>yce a s i) n:=by
  intro n
  induction n with
  | zero=>intro _; rfl
  | succ n ih=>intro hn; unfold yu; rw[hw n (by omega),ih (by omega)]
 have h2:yek (fun(i:Nat)=>yp a i s) a.2.1.1.toNat=yek (fun(i:Nat)=>yce a s i) a.2.1.1.toNat:=by
  unfold yek;rw[Bool.eq_iff_iff,List.any_eq_true,List.any_eq_true];constructor
  ·rintro⟨i,hi,h⟩
   have hi':=List.mem_range.1 hi;exact⟨i,hi,by dsimp only at h ⊢; rw[hw i hi',hm i (by omega)]at h; exact h⟩
  ·rintro⟨i,hi,h⟩
   have hi':=List.mem_range.1 hi;exact⟨i,hi,by dsimp only at h ⊢; rw[hw i hi',hm i (by omega)]; exact h⟩
 unfold yJ;rw[h2,hm _ (Nat.le_refl _)];cases hc:yek (fun(i:Nat)=>yce a s i) a.2.1.1.toNat
 ·simp only[cond_false]
  cases hn:leb 0 (yu (fun(i:Nat)=>yce a s i) a.2.1.1.toNat)
  ·simp only[cond_false]
   congr 1;refine List.map_congr_left fun i hi=> ?_
   have hi':=List.mem_range.1 hi;exact(yI1 hg hk hv (by omega) (by omega) s0 s1).2 (yVk hn i hi')
  ·simp only[cond_true]
   congr 1;rcases yH4 (fun(i:Nat)=>yce a s i) a.2.1.1.toNat with h3 | ⟨k0,k1,k2⟩
   ·rw[h3]at hn; cases hn
   ·have hu:=yVl hc
    generalize yu (fun(i:Nat)=>yce a s i) a.2.1.1.toNat=k at *;obtain⟨k,rfl⟩: ∃m:Nat,k=m:=⟨k.toNat,by omega⟩;rw[Int.toNat_natCast]at k2 ⊢;have hkl:k<(yfT V a.2.1.1 s).length:=by rw[yI0]; omega
    have e:yR a s a.2.1.1.toNat=(yfT V a.2.1.1 s).set k 0:=by
     refine List.ext_getElem (by rw[yeO,List.length_set,yI0]) fun j h3 h4=> ?_
     rw[yeO]at h3;rw[List.getElem_set];have e1:(yR a s a.2.1.1.toNat)[j]'(by rw[yeO]; exact h3)=yo9 a j s:=by unfold yR; simp
     have e2:(yfT V a.2.1.1 s)[j]'(by rw[yI0]; exact h3)=V s j:=by unfold yfT; simp
     rw[e1];by_cases hj:k=j
     ·subst hj
      rw[if_pos rfl];unfold yo9;rw[hw k (by omega),k2]; rfl
     ·rw[if_neg hj,e2]
      rcases hu j h3 with h5 | h5
      ·exact(yI1 hg hk hv (by omega) (by omega) s0 s1).2 h5
      ·exact absurd h5 (by omega)
    have hx:yao (yR a s a.2.1.1.toNat)=V s k:=by
     rw[e,yni,y0y _ _ _ hkl,yZq (he.ev s s0 s1),BitVec.zero_xor,show bv 0=0#64 by decide,BitVec.xor_zero,yYb V (by omega) (by omega)];have:=yzW.1 (he.ew s k s0 s1 (by omega) (by omega));exact y0o (by omega) (by omega)
    rw[hx,e,List.set_set];refine List.ext_getElem (by rw[List.length_set]) fun j h3 h4=> ?_
    rw[List.getElem_set];by_cases hj:k=j
    ·subst hj
     rw[if_pos rfl];exact(yZT _ _ _ h4).symm
    ·rw[if_neg hj]
 ·rfl
def yVv:Code:=(f192.body).getD .skip
def yVZ:Env:=zkw TT [] []
theorem yMi:FrOk prog ⟨yVZ,26,fun _=>none⟩ yVv:=zkA mixed yc trivial
abbrev yxh:List Par:= [.pt tA (.pr .fz (.pr (.pr .fz .fz) (.pr (.ow (.pr (.ow (.ow .fz)) (.pr (.ow (.pr .fz (.ow .fz))) (.pr .fz (.ow .fz))))) (.pr .fz (.pr .fz (.pr .fz (.pr .fz (.pr .fz (.pr (.ow (.pr .fz (.ow .fz))) (.pr .fz (.pr .fz .fz)))))))))))]
abbrev yxC:List OT:= [⟨false,tB,.fz⟩]
def yDL (a0:dA):Option (zaY yxC×zak yxh) :=bif(a0.2.2.2.2.2.2.2.2.2.1==0)then some ((false,()),((a0.1,a0.2.1,a0.2.2.1,a0.2.2.2.1,a0.2.2.2.2.1,a0.2.2.2.2.2.1,a0.2.2.2.2.2.2.1,a0.2.2.2.2.2.2.2.1,a0.2.2.2.2.2.2.2.2.1,(-1),true,a0.2.2.2.2.2.2.2.2.2.2.2),())) else bif(ltb 0 a0.2.2.2.2.2.2.2.2.2.1)then some ((true,()),((a0.1,a0.2.1,a0.2.2.1,a0.2.2.2.1,a0.2.2.2.2.1,a0.2.2.2.2.2.1,a0.2.2.2.2.2.2.1,a0.2.2.2.2.2.2.2.1,a0.2.2.2.2.2.2.2.2.1,(i64.wrap (a0.2.2.2.2.2.2.2.2.2.1-1)),a0.2.2.2.2.2.2.2.2.2.2),())) else some ((true,()),(a0,()))
theorem yRf:ConOk prog 192 ⟨yxh,yxC,fun x=>yDL x.1⟩:=zkI (yMi) func192 ntmps192.symm fun x=>by kernel_rfl
def yg5 (a0:dA):Bool×dA :=bif(a0.2.2.2.2.2.2.2.2.2.1==0)then (false,(a0.1,a0.2.1,a0.2.2.1,a0.2.2.2.1,a0.2.2.2.2.1,a0.2.2.2.2.2.1,a0.2.2.2.2.2.2.1,a0.2.2.2.2.2.2.2.1,a0.2.2.2.2.2.2.2.2.1,(-1),true,a0.2.2.2.2.2.2.2.2.2.2.2)) else bif(ltb 0 a0.2.2.2.2.2.2.2.2.2.1)then (true,(a0.1,a0.2.1,a0.2.2.1,a0.2.2.2.1,a0.2.2.2.2.1,a0.2.2.2.2.2.1,a0.2.2.2.2.2.2.1,a0.2.2.2.2.2.2.2.1,a0.2.2.2.2.2.2.2.2.1,(i64.wrap (a0.2.2.2.2.2.2.2.2.2.1-1)),a0.2.2.2.2.2.2.2.2.2.2)) else (true,a0)
def ysG:Con:=⟨yxh,yxC,fun x=>(fun n=>some ((n.1,()),(n.2,()))) (yg5 x.1)⟩
theorem yTA (a0:dA):yDL a0=(fun n=>some ((n.1,()),(n.2,()))) (yg5 a0):=zkV (p:=fun(n:Bool×dA)=>((n.1,()),(n.2,()))) (zkG (p:=fun(n:Bool×dA)=>((n.1,()),(n.2,()))) rfl (zkG (p:=fun(n:Bool×dA)=>((n.1,()),(n.2,()))) rfl rfl))
theorem yE5:ConOk prog 192 ysG:=(yRf).mono (fun x r _ h=>(yTA x.1).trans h)
theorem yQB {a:dA} (h:yb a=false):yg5 a=opA a:=by
 unfold yg5 opA;rw[h];cases(a.2.2.2.2.2.2.2.2.2.1==0)
 ·cases ltb 0 a.2.2.2.2.2.2.2.2.2.1
  ·rfl
  ·show(true,_)=(true,yXb a _ false)
   unfold yXb;rw[show a.2.2.2.2.2.2.2.2.2.2=(yb a,a.2.2.2.2.2.2.2.2.2.2.2)from rfl,h]
 ·rfl
def yJg:Code:=(f223.body).getD .skip
def yJu:Env:=zkw TT [] []
theorem yFH:FrOk prog ⟨yJu,7,fun _=>none⟩ yJg:=zkA mixed yc trivial
abbrev yoi:List Par:= [.rd tI,.rp tI]
abbrev yol:List OT:= [⟨false,tB,.fz⟩]
def yuf (a0 a1:Int):Option (zaY yol×zak yoi) :=some (((a0==a1),()),())
theorem yGS:ConOk prog 223 ⟨yoi,yol,fun x=>yuf x.1 x.2.1⟩:=zkI (yFH) func223 ntmps223.symm fun x=>by kernel_rfl
def ydu (a0 a1:Int):Bool :=(a0==a1)
def ykZ:Con:=⟨yoi,yol,fun x=>(fun n=>some ((n,()),())) (ydu x.1 x.2.1)⟩
theorem yIw (a0 a1:Int):yuf a0 a1=(fun n=>some ((n,()),())) (ydu a0 a1):=zkV (p:=fun(n:Bool)=>((n,()),())) rfl
theorem ywQ:ConOk prog 223 ykZ:=(yGS).mono (fun x r _ h=>(yIw x.1 x.2.1).trans h)
def yeh:Code:=(f244.body).getD .skip
def yij:Env:=zkw TT [(223,ykZ)] []
theorem yzM:FrOk prog ⟨yij,19,fun _=>none⟩ yeh:=zkA mixed yc ⟨ywQ,trivial⟩
def ymi:Nat→Option Seg:=fun _=>none
def yZ:Shape:=⟨[(0,false,[.br tI]),(1,false,[.fx 223 tI]),(7,false,[.int .i64]),(8,false,[.int .i64])],[],[]⟩
def ya0:Shape:=⟨[(0,false,[.br tI]),(1,false,[.fx 223 tI]),(7,false,[.int .i64]),(8,false,[.ci .i64 0])],[],[]⟩
def yaY:Shape:=⟨[],[],[]⟩
def ya2:Shape:=⟨[(4,false,[.int .i64])],[],[]⟩
abbrev ye4 (v0:List Int) (v1 v2 v3:Int):(yZ).X:=(((v0,()),(v1,()),(v2,()),(v3,()),()),(),())
abbrev yyj (v0:List Int) (v1 v2:Int):(ya0).X:=(((v0,()),(v1,()),(v2,()),((),()),()),(),())
abbrev yyh  :(yaY).X:=((),(),())
abbrev ykB (v0:Int):(ya2).X:=(((v0,()),()),(),())
def yfa (v0:List Int) (v1 v2 v3:Int):Option ((yZ).X ⊕ ((yaY).X ⊕ (ya2).X)) :=bif(ltb v3 v2)then bif(inb v3 v0.length)then let r2:=ydu (nth v0 v3 0) v1;bif r2 then some (.inr (.inr (((v3,()),()),(),()))) else some (.inl (((v0,()),(v1,()),(v2,()),((i64.wrap (v3+1)),()),()),(),())) else none else some (.inr (.inl ((),(),())))
def yag (x:(yZ).X):=yfa x.1.1.1 x.1.2.1.1 x.1.2.2.1.1 x.1.2.2.2.1.1
def ykw (x:(ya0).X):(yZ).X:=(((x.1.1.1,()),(x.1.2.1.1,()),(x.1.2.2.1.1,()),(0,()),()),(),())
def yl0:Code:=(zd7 yeh 64 52).getD .skip
theorem yzJ:zd7 yeh 64 13=some (.block 0 (.loop yl0)):=by kernel_rfl
theorem yzT (x:(yZ).X):zhu ⟨yij,19,ymi⟩ 0 yl0 52 yZ yaY ya2 x=yag x:=by kernel_rfl
def yky (x:(ya0).X):Nat:=18446744073709551616
def yfQ (x:(ya0).X):Option ((yaY).X ⊕ (ya2).X):=zF yag (yky x) (ykw x)
def ykR:Seg:=⟨ya0,yaY,ya2,yfQ⟩
def yz6:Nat→Option Seg:=fun q=>bif Nat.beq q 13 then some ykR else ymi q
theorem yzN:FrOk prog ⟨yij,19,yz6⟩ yeh:=(yzM).loop (sg:=ykR) yZ ykw (by decide) yzJ yag yky (by decide) (fun _=>rfl) (fun x r _ h=>h) yzT
abbrev yej:List Par:= [.rd tL,.fn 223 tI]
abbrev yil:List OT:= [⟨false,tI,.fz⟩]
def ygL (a0:List Int) (a1:Int):Option (zaY yil×zak yej) :=zkt (yfQ (((a0,()),(a1,()),((a0.length:Int),()),((),()),()),(),())) (fun y2 =>some (((-1),()),())) (fun y2 =>some ((y2.1.1.1,()),()))
theorem yBZ:ConOk prog 244 ⟨yej,yil,fun x=>ygL x.1 x.2.1⟩:=zkI (yzN) func244 ntmps244.symm fun x=>by kernel_rfl
def ych (a0:List Int) (a1:Int):Int:=yW (fun e:Int=>e==a1) a0
theorem yCD (a0:List Int) (a1:Int) (hk:zjx yej (a0,a1,())):ygL a0 a1=(fun n=>some ((n,()),())) (ych a0 a1):=by
 have hb:a0.length*8≤2^47:=hk.1.1
 have h1:yfQ (yyj a0 a1 a0.length)=some (bif leb 0 (yW (fun e:Int=>e==a1) a0)then .inr (ykB (yW (fun e:Int=>e==a1) a0))else .inl yyh) :=
  yDB (step:=yag) a0 0 (fun i=>ye4 a0 a1 a0.length i) (fun e:Int=>e==a1) (fun i=> .inr (ykB i)) _ (fun i hi=>by
   simp only[yag,ye4,yfa,zky (show(i:Int)<a0.length by omega),cond_true,wq ((i:Int)+1) (by omega) (by omega),Int.natCast_add,Int.natCast_one,Int.toNat_natCast,zkR hi,zkS,ydu]
   cases(a0.getD i 0==a1)<;>rfl) (by simp only[yag,ye4,yfa,zk3 (Int.le_refl _),cond_false]) _ (by show _<18446744073709551616; omega)
 unfold ygL ych;rw[h1];cases h:leb 0 (yW (fun e:Int=>e==a1) a0)
 ·rw[yI9 h]; rfl
 ·rfl
def ymD:Con:=⟨yej,yil,fun x=>(fun n=>some ((n,()),())) (ych x.1 x.2.1)⟩
theorem yCG:ConOk prog 244 ymD:=(yBZ).mono (fun x r hk h=>(yCD x.1 x.2.1 hk).trans h)
def ydP:Code:=(f222.body).getD .skip
def ygY:Env:=zkw TT [(223,ykZ),(244,ymD)] []
theorem yyd:FrOk prog ⟨ygY,42,fun _=>none⟩ ydP:=zkA mixed yc ⟨ywQ,yCG,trivial⟩
def ylu:Nat→Option Seg:=fun _=>none
def yS:Shape:=⟨[(0,false,[.at 800000000]),(1,false,[.fx 223 tI]),(5,false,[.int .i64]),(6,false,[.int .i64])],[],[(800000000,tI,.fz)]⟩
def yaG:Shape:=⟨[(0,false,[.at 800000000]),(1,false,[.fx 223 tI]),(5,false,[.int .i64]),(6,false,[.int .i64])],[],[(800000000,tI,.fz)]⟩
def yaF:Shape:=⟨[(0,false,[.at 800000000]),(5,false,[.int .i64])],[],[(800000000,tI,.fz)]⟩
def yck:Shape:=⟨[],[],[]⟩
abbrev ybS (v0 v1 v2:Int) (v3:List Int):(yS).X:=((((),()),(v0,()),(v1,()),(v2,()),()),(),(v3,()))
abbrev ywP (v0 v1 v2:Int) (v3:List Int):(yaG).X:=((((),()),(v0,()),(v1,()),(v2,()),()),(),(v3,()))
abbrev ywN (v0:Int) (v1:List Int):(yaF).X:=((((),()),(v0,()),()),(),(v1,()))
def yeN (v0 v1 v2:Int) (v3:List Int):Option ((yS).X ⊕ ((yaF).X ⊕ (yck).X)) :=bif(ltb v2 (v3.length:Int))then bif(inb v2 v3.length)then let r3:=ydu (nth v3 v2 0) v0;bif(!r3)then bif(inb v1 v3.length)then some (.inl ((((),()),(v0,()),((i64.wrap (v1+1)),()),((i64.wrap (v2+1)),()),()),(),((v3.set (v1).toNat (nth v3 v2 0)),()))) else none else some (.inl ((((),()),(v0,()),(v1,()),((i64.wrap (v2+1)),()),()),(),(v3,()))) else none else some (.inr (.inl ((((),()),(v1,()),()),(),(v3,()))))
def yad (x:(yS).X):=yeN x.1.2.1.1 x.1.2.2.1.1 x.1.2.2.2.1.1 x.2.2.1
def yjF (x:(yaG).X):(yS).X:=((((),()),(x.1.2.1.1,()),(x.1.2.2.1.1,()),(x.1.2.2.2.1.1,()),()),(),(x.2.2.1,()))
def yku:Code:=(zd7 ydP 64 244).getD .skip
theorem yya:zd7 ydP 64 61=some (.block 0 (.loop yku)):=by kernel_rfl
theorem yyn (x:(yS).X):zhu ⟨ygY,42,ylu⟩ 0 yku 244 yS yaF yck x=yad x:=by kernel_rfl
def yjG (x:(yaG).X):Nat:=18446744073709551616
def ye1 (x:(yaG).X):Option ((yaF).X ⊕ (yck).X):=zF yad (yjG x) (yjF x)
def yjI:Seg:=⟨yaG,yaF,yck,ye1⟩
def yzH:Nat→Option Seg:=fun q=>bif Nat.beq q 61 then some yjI else ylu q
theorem yye:FrOk prog ⟨ygY,42,yzH⟩ ydP:=(yyd).loop (sg:=yjI) yS yjF (by decide) yya yad yjG (by decide) (fun _=>rfl) (fun x r _ h=>h) yyn
abbrev ydQ:List Par:= [.kp tL (.ow .fz),.fn 223 tI]
abbrev yg0:List OT:= [⟨false,tL,(.ow .fz)⟩]
def yfS (a0:List Int) (a1:Int):Option (zaY yg0×zak ydQ) :=let r1:=ych a0 a1;bif(r1==(-1))then some ((a0,()),()) else zkt (ye1 ((((),()),(a1,()),(r1,()),((i64.wrap (r1+1)),()),()),(),(a0,()))) (fun y3 =>bif(zj0 y3.1.2.1.1 (y3.2.2.1.length:Int) y3.2.2.1.length)then bif(zj0 0 y3.1.2.1.1 (y3.2.2.1.take (y3.1.2.1.1).toNat++(List.replicate ((y3.2.2.1.length:Int)-y3.1.2.1.1).toNat (0:Int))++y3.2.2.1.drop ((y3.1.2.1.1).toNat+(List.replicate ((y3.2.2.1.length:Int)-y3.1.2.1.1).toNat (0:Int)).length)).length)then some (((((y3.2.2.1.take (y3.1.2.1.1).toNat++(List.replicate ((y3.2.2.1.length:Int)-y3.1.2.1.1).toNat (0:Int))++y3.2.2.1.drop ((y3.1.2.1.1).toNat+(List.replicate ((y3.2.2.1.length:Int)-y3.1.2.1.1).toNat (0:Int)).length)).drop (0:Int).toNat).take (y3.1.2.1.1-0).toNat),()),()) else none else none) (fun y3 =>none)
theorem yzR:ConOk prog 222 ⟨ydQ,yg0,fun x=>yfS x.1 x.2.1⟩:=zkI (yye) func222 ntmps222.symm fun x=>by kernel_rfl
def ybC (a0:List Int) (a1:Int):List Int:=yF4 a0 a1
theorem yBW (a0:List Int) (a1:Int) (hk:zjx ydQ (a0,a1,())):yfS a0 a1=(fun n=>some ((n,()),())) (ybC a0 a1):=by
 have hb:a0.length*8≤2^47:=hk.1.1;have hs:yF4 a0 a1=a0.filter (fun x=> !(x==a1)):=rfl;unfold yfS ybC ych;simp only[];cases hi:leb 0 (yW (fun e:Int=>e==a1) a0)
 ·rw[yI9 hi,hs,y0b hi]; rfl
 ·obtain⟨h1,h2⟩:=yj4 (d:=(0:Int)) hi
  have h3:=zj6.1 h1;have h4:=yVg hi;generalize hk0:yW (fun e:Int=>e==a1) a0=k at *;obtain⟨k,rfl⟩: ∃m:Nat,k=m:=⟨k.toNat,by omega⟩;rw[Int.toNat_natCast]at h4;rw[show((k:Int)== -1)=false from beq_eq_false_iff_ne.2 (by omega),cond_false,wq ((k:Int)+1) (by omega) (by omega)]
  obtain⟨b,e,i,s,rfl,q1,q2,q3⟩:=zjj (step:=yad) (fun x=>(a0.length-Int.toNat x.1.2.2.2.1.1))
   (fun x=> ∃(i j:Nat) (s:List Int),x=ybS a1 i j s∧i<j∧j≤a0.length∧s.length=a0.length∧s.take i=(a0.take j).filter (fun x=> !(x==a1))∧s.drop j=a0.drop j)
   (fun b=> ∃(i:Nat) (s:List Int),b= .inl (ywN i s)∧i≤a0.length∧s.length=a0.length∧s.take i=a0.filter (fun x=> !(x==a1)))
   (fun x hx=>by
    obtain⟨i,j,s,rfl,p1,p2,p3,p4,p5⟩:=hx;by_cases hj:j<a0.length
    ·left
     have e1:nth s j 0=a0[j]:=by
      rw[zkS,zkJ (by omega)];have:=List.getElem_drop (xs:=s) (i:=j) (j:=0) (h:=by rw[List.length_drop]; omega);have h6:(s.drop j)[0]'(by rw[List.length_drop]; omega)=(a0.drop j)[0]'(by rw[List.length_drop]; omega):=by simp only[p5]
      simpa using h6
     have e2:a0.take (j+1)=a0.take j++ [a0[j]]:=(List.take_append_getElem hj).symm;simp only[yad,ybS,yeN,p3,zky (show(j:Int)<a0.length by omega),zkR hj,zkR (show i<a0.length by omega),e1,ydu,wq ((j:Int)+1) (by omega) (by omega),wq ((i:Int)+1) (by omega) (by omega),cond_true,Int.toNat_natCast];cases hx:(a0[j]==a1)
     ·refine⟨_,rfl,⟨i+1,j+1,s.set i a0[j],rfl,by omega,by omega,by rw[List.length_set,p3],?_,?_⟩,by show a0.length-((j:Int)+1).toNat<a0.length-((j:Int)).toNat; omega⟩
      ·rw[List.take_set,← List.take_append_getElem (show i<s.length by omega),List.set_append_right _ _ (by rw[List.length_take]; omega),p4,e2,List.filter_append,List.filter_cons,hx]
       have:i-(List.filter (fun x=> !x==a1) (a0.take j)).length=0:=by rw[← p4,List.length_take]; omega
       rw[this]; rfl
      ·rw[List.drop_set_of_lt (by omega),← List.drop_drop,p5,List.drop_drop]
     ·refine⟨_,rfl,⟨i,j+1,s,rfl,by omega,by omega,p3,?_,?_⟩,by show a0.length-((j:Int)+1).toNat<a0.length-((j:Int)).toNat; omega⟩
      ·rw[p4,e2,List.filter_append,List.filter_cons,hx]; simp
      ·rw[← List.drop_drop,p5,List.drop_drop]
    ·right
     have:j=a0.length:=by omega
     subst this;rw[List.take_length]at p4;refine⟨_,?_,i,s,rfl,by omega,p3,p4⟩
     simp only[yad,ybS,yeN,p3,zk3 (Int.le_refl _),cond_false]) 18446744073709551616 (ybS a1 k (k+1:Nat) a0) ⟨k,k+1,a0,rfl,by omega,by omega,rfl,h4.symm,rfl⟩ (by show a0.length-((k+1:Nat):Int).toNat<18446744073709551616; omega)
  rw[show((k+1:Nat):Int)=(k:Int)+1 by omega]at e;rw[show ye1 (ywP a1 k ((k:Int)+1) a0)=_ from e];rw[hs,← q3]
  have hL:(s.take i++List.replicate ((s.length:Int)-i).toNat (0:Int)++s.drop ((i:Int).toNat+(List.replicate ((s.length:Int)-i).toNat (0:Int)).length)).length=s.length:=by
   simp only[List.length_append,List.length_take,List.length_replicate,List.length_drop]; omega
  show(bif zj0 i s.length s.length then bif zj0 0 i (s.take i++List.replicate ((s.length:Int)-i).toNat (0:Int)++s.drop ((i:Int).toNat+(List.replicate ((s.length:Int)-i).toNat (0:Int)).length)).length then some ((((s.take i++List.replicate ((s.length:Int)-i).toNat (0:Int)++s.drop ((i:Int).toNat+(List.replicate ((s.length:Int)-i).toNat (0:Int)).length)).drop 0).take ((i:Int)-0).toNat,()),())else none else none)=some ((s.take i,()),());rw[hL,zkz.2 (show 0≤(i:Int)∧(i:Int)≤s.length∧(s.length:Int)≤s.length by omega),zkz.2 (show(0:Int)≤0∧(0:Int)≤i∧(i:Int)≤s.length by omega),List.drop_zero,show((i:Int)-0).toNat=i by omega,List.append_assoc,List.take_append_of_le_length (by rw[List.length_take]; omega),List.take_take,Nat.min_self]; rfl
def yl3:Con:=⟨ydQ,yg0,fun x=>(fun n=>some ((n,()),())) (ybC x.1 x.2.1)⟩
theorem yB3:ConOk prog 222 yl3:=(yzR).mono (fun x r hk h=>(yBW x.1 x.2.1 hk).trans h)
def yO4:Code:=(f193.body).getD .skip
def yPt:Env:=zkw TT [(127,yi7),(133,ygy),(156,yl2),(158,yaP),(186,yvg),(222,yl3)] []
theorem yHG:FrOk prog ⟨yPt,51,fun _=>none⟩ yO4:=zkA mixed yc ⟨ypP,yme,yvt,ycA,yGc,yB3,trivial⟩
abbrev ylC:List Par:= [.rd tM,.rd tI,.rd tL]
abbrev ysm:List OT:= [⟨false,tM,(.pr (.ow (.ow .fz)) (.pr (.ow (.pr .fz (.ow .fz))) (.pr .fz (.ow .fz))))⟩,⟨false,tB,.fz⟩]
def yoO (a0:dM) (a1:Int) (a2:List Int):Option (zaY ysm×zak ylC) :=let r1:=yaj a0;let r2:=ybn a0;bif(!(!r2))then bif(!a0.2.2.1)then let r3:=ybq a0 a1;bif(!(!r3))then let r4:=ygE a2;bif(!(!r4))then bif((a0.2.1.length:Int)==60)then some ((r1,false,()),()) else let r5:=yn a2;bif(zkl r1.2.1.length ([(a1,r5)]:List dW).length 32)then let r6:=ybC r1.2.2.2 a1;some (((r1.1,(r1.2.1++([(a1,r5)]:List dW)),r1.2.2.1,r6),true,()),()) else none else some ((r1,false,()),()) else some ((r1,false,()),()) else some ((r1,false,()),()) else some ((r1,false,()),())
theorem yK0:ConOk prog 193 ⟨ylC,ysm,fun x=>yoO x.1 x.2.1 x.2.2.1⟩:=zkI (yHG) func193 ntmps193.symm fun x=>by kernel_rfl
def yh7 (a0:dM) (a1:Int) (a2:List Int):dM×Bool:=yH a0 a1 a2
theorem yNL (a0:dM) (a1:Int) (a2:List Int) (hk:zjx ylC (a0,a1,a2,())):yoO a0 a1 a2=(fun n=>some ((n.1,n.2,()),())) (yh7 a0 a1 a2):=by
 have hb1:a0.1.length*24≤2^47:=hk.1.1.1;unfold yoO yh7 yH yaV;simp only[yaj,ybn,ybq,y9,yh1 (show a0.1.length≤1152921504606846976 by omega),yEd,yn,ybC];cases hm:yr a0
 ·rfl
 have hc:=(ycZ hm).2.2.2.2.2;cases a0.2.2.1
 ·cases inb a1 a0.1.length
  ·rfl
  cases yai a2
  ·rfl
  by_cases h:(a0.2.1.length:Int)<60
  ·rw[zky h,show((a0.2.1.length:Int)==60)=false from beq_eq_false_iff_ne.2 (by omega),zkF.2 (show(a0.2.1.length+ [(a1,a2)].length)*32≤140737488355328 by simp only[List.length_cons,List.length_nil]; omega)]; rfl
  ·rw[zk3 (by omega),show((a0.2.1.length:Int)==60)=true from beq_iff_eq.2 (by omega)]; rfl
 ·rfl
def yyT:Con:=⟨ylC,ysm,fun x=>(fun n=>some ((n.1,n.2,()),())) (yh7 x.1 x.2.1 x.2.2.1)⟩
theorem yOB:ConOk prog 193 yyT:=(yK0).mono (fun x r hk h=>(yNL x.1 x.2.1 x.2.2.1 hk).trans h)
def yLL:Code:=(f139.body).getD .skip
def yL1:Env:=zkw TT [(192,ysG),(193,yyT)] []
theorem yGv:FrOk prog ⟨yL1,39,fun _=>none⟩ yLL:=zkA mixed yc ⟨yE5,yOB,trivial⟩
abbrev yga:List Par:= [.pt tA (.pr .fz (.pr (.pr .fz .fz) (.pr (.ow (.pr (.ow (.ow .fz)) (.pr (.ow (.pr .fz (.ow .fz))) (.pr .fz (.ow .fz))))) (.pr .fz (.pr .fz (.pr .fz (.pr .fz (.pr .fz (.pr (.ow (.pr .fz (.ow .fz))) (.pr .fz (.pr .fz .fz))))))))))),.rd tI,.rd tI,.rd tL]
abbrev yjR:List OT:= [⟨false,tB,.fz⟩]
def ym1 (a0:dA) (a1 a2:Int) (a3:List Int):Option (zaY yjR×zak yga) :=bif(inb a1 a0.2.2.1.length)then bif(((nth a0.2.2.1 a1 ([],[],false,[])).2).2).1 then some ((true,()),(a0,())) else let r1:=yg5 a0;bif(!r1.1)then some ((false,()),(r1.2,())) else bif(inb a1 r1.2.2.2.1.length)then let r2:=yh7 ((nth r1.2.2.2.1 a1 ([],[],false,[])).1,((nth r1.2.2.2.1 a1 ([],[],false,[])).2).1,(((nth r1.2.2.2.1 a1 ([],[],false,[])).2).2)) a2 a3;bif(inb a1 r1.2.2.2.1.length)then some ((true,()),((r1.2.1,r1.2.2.1,(r1.2.2.2.1.set (a1).toNat r2.1),r1.2.2.2.2),())) else none else none else none
theorem yIA:ConOk prog 139 ⟨yga,yjR,fun x=>ym1 x.1 x.2.1 x.2.2.1 x.2.2.2.1⟩:=zkI (yGv) func139 ntmps139.symm fun x=>by kernel_rfl
def ycy (a0:dA) (a1 a2:Int) (a3:List Int):Bool×dA:=(!(yb (ycB a0 a1 a2 a3)),ycB a0 a1 a2 a3)
def ycC (a0:dA) (a1 a2:Int) (a3:List Int):Bool:=inb a1 a0.2.2.1.length&& !(yb a0)
theorem yKM (a0:dA) (a1 a2:Int) (a3:List Int) (hk:zjx yga (a0,a1,a2,a3,())) (hq:ycC a0 a1 a2 a3=true):ym1 a0 a1 a2 a3=(fun n=>some ((n.1,()),(n.2,()))) (ycy a0 a1 a2 a3):=by
 simp only[ycC,Bool.and_eq_true,Bool.not_eq_true']at hq;unfold ym1 ycy;simp only[yX2 hq.2];unfold ycB yd2;simp only[yQB hq.2,yax,hq.1,zkX,yh7];cases(nth a0.2.2.1 a1 yd).2.2.1<;>cases(opA a0).1<;>rfl
def yec (a0:dA) (a1 a2:Int) (a3:List Int):Option (zaY yjR×zak yga):=bif ycC a0 a1 a2 a3 then(fun n=>some ((n.1,()),(n.2,()))) (ycy a0 a1 a2 a3)else none
theorem yoD (a0:dA) (a1 a2:Int) (a3:List Int) (h:ycC a0 a1 a2 a3=true):yec a0 a1 a2 a3=(fun n=>some ((n.1,()),(n.2,()))) (ycy a0 a1 a2 a3):=by unfold yec; rw[h]; rfl
def yhZ:Con:=⟨yga,yjR,fun x=>yec x.1 x.2.1 x.2.2.1 x.2.2.2.1⟩
theorem yoC:ConOk prog 139 yhZ:=(yIA).mono (fun x r hk h=>zkY h (fun hq=>yKM x.1 x.2.1 x.2.2.1 x.2.2.2.1 hk hq))
def yVA:Code:=(f164.body).getD .skip
def yV4:Env:=zkw TT [(159,yEF)] []
theorem yMp:FrOk prog ⟨yV4,17,fun _=>none⟩ yVA:=zkA mixed yc ⟨yWS,trivial⟩
abbrev ypu:List Par:= [.rd tN]
abbrev yxI:List OT:= [⟨false,tL,(.ow .fz)⟩]
def ytq (a0:dN):Option (zaY yxI×zak ypu) :=let r1:=ymT a0;bif(!r1)then some (([],()),()) else bif(zkl ([21322,a0.1,a0.2.1,(a0.2.2.length:Int)]:List Int).length a0.2.2.length 8)then some (((([21322,a0.1,a0.2.1,(a0.2.2.length:Int)]:List Int)++a0.2.2),()),()) else none
theorem yRl:ConOk prog 164 ⟨ypu,yxI,fun x=>ytq x.1⟩:=zkI (yMp) func164 ntmps164.symm fun x=>by kernel_rfl
def ykC (a0:dN):List Int:=ykN a0
theorem yTG (a0:dN) (hk:zjx ypu (a0,())):ytq a0=(fun n=>some ((n,()),())) (ykC a0):=by
 unfold ytq ykC ykN;simp only[yYq];cases hr:ybo a0
 ·rfl
 ·have:=(yVo.1 hr).2.2.1
  rw[zkF.2 (show(([21322,a0.1,a0.2.1,(a0.2.2.length:Int)]:List Int).length+a0.2.2.length)*8≤140737488355328 by simp only[List.length_cons,List.length_nil]; omega)]; rfl
def yC6:Con:=⟨ypu,yxI,fun x=>(fun n=>some ((n,()),())) (ykC x.1)⟩
theorem yUw:ConOk prog 164 yC6:=(yRl).mono (fun x r hk h=>(yTG x.1 hk).trans h)
def yln:Code:=(f205.body).getD .skip
def yrE:Env:=zkw TT [(127,yi7),(133,ygy),(158,yaP)] []
theorem yHy:FrOk prog ⟨yrE,34,fun _=>none⟩ yln:=zkA mixed yc ⟨ypP,yme,ycA,trivial⟩
def yys:Nat→Option Seg:=fun _=>none
def ybg:Shape:=⟨[(2,false,[.ptr 64 0]),(3,false,[.ptr 4224 0]),(17,false,[.br tW]),(18,false,[.int .i64]),(19,false,[.int .i64])],[(64,[.nil,.nil,.bool,.nil]),(4224,[.at 800000000,.at 800000001,.bool,.at 800000002])],[(800000000,tL,(.ow .fz)),(800000001,tW,(.pr .fz (.ow .fz))),(800000002,tI,.fz)]⟩
def yey:Shape:=⟨[(2,false,[.ptr 64 0]),(3,false,[.ptr 4224 0]),(17,false,[.br tW]),(18,false,[.int .i64]),(19,false,[.ci .i64 0])],[(64,[.nil,.nil,.bool,.nil]),(4224,[.at 800000000,.at 800000001,.bool,.at 800000002])],[(800000000,tL,(.ow .fz)),(800000001,tW,(.pr .fz (.ow .fz))),(800000002,tI,.fz)]⟩
def yer:Shape:=⟨[(2,false,[.ptr 64 0]),(3,false,[.ptr 4224 0])],[(64,[.nil,.nil,.bool,.nil]),(4224,[.at 800000000,.at 800000001,.bool,.at 800000002])],[(800000000,tL,(.ow .fz)),(800000001,tW,(.pr .fz (.ow .fz))),(800000002,tI,.fz)]⟩
def yhP:Shape:=⟨[],[],[]⟩
abbrev yk2 (v0:List dW) (v1 v2:Int) (v3 v4:dM):(ybg).X:=((((),()),((),()),(v0,()),(v1,()),(v2,()),()),(((),(),v3.2.2.1,(),()),((),(),v4.2.2.1,(),()),()),(v4.1,v4.2.1,v4.2.2.2,()))
abbrev yGF (v0:List dW) (v1:Int) (v2 v3:dM):(yey).X:=((((),()),((),()),(v0,()),(v1,()),((),()),()),(((),(),v2.2.2.1,(),()),((),(),v3.2.2.1,(),()),()),(v3.1,v3.2.1,v3.2.2.2,()))
abbrev yuc (v0 v1:dM):(yer).X:=((((),()),((),()),()),(((),(),v0.2.2.1,(),()),((),(),v1.2.2.1,(),()),()),(v1.1,v1.2.1,v1.2.2.2,()))
def ylf (v0:List dW) (v1 v2:Int) (v3 v4:Bool) (v5:List (List Int)) (v6:List dW) (v7:List Int):Option ((ybg).X ⊕ ((yer).X ⊕ (yhP).X)) :=bif(ltb v2 v1)then bif(inb v2 v0.length)then let r4:=yn ((nth v0 v2 (0,[])).2);bif(inb ((nth v0 v2 (0,[])).1) v5.length)then some (.inl ((((),()),((),()),(v0,()),(v1,()),((i64.wrap (v2+1)),()),()),(((),(),v3,(),()),((),(),v4,(),()),()),((v5.set ((nth v0 v2 (0,[])).1).toNat r4),v6,v7,()))) else none else none else some (.inr (.inl ((((),()),((),()),()),(((),(),v3,(),()),((),(),v4,(),()),()),(v5,v6,v7,()))))
def ybw (x:(ybg).X):=ylf x.1.2.2.1.1 x.1.2.2.2.1.1 x.1.2.2.2.2.1.1 x.2.1.1.2.2.1 x.2.1.2.1.2.2.1 x.2.2.1 x.2.2.2.1 x.2.2.2.2.1
def ytY (x:(yey).X):(ybg).X:=((((),()),((),()),(x.1.2.2.1.1,()),(x.1.2.2.2.1.1,()),(0,()),()),(((),(),x.2.1.1.2.2.1,(),()),((),(),x.2.1.2.1.2.2.1,(),()),()),(x.2.2.1,x.2.2.2.1,x.2.2.2.2.1,()))
def yv4:Code:=(zd7 yln 64 244).getD .skip
theorem yHe:zd7 yln 64 61=some (.block 0 (.loop yv4)):=by kernel_rfl
theorem yIP (x:(ybg).X):zhu ⟨yrE,34,yys⟩ 0 yv4 244 ybg yer yhP x=ybw x:=by kernel_rfl
def yt6 (x:(yey).X):Nat:=18446744073709551616
def ymo (x:(yey).X):Option ((yer).X ⊕ (yhP).X):=zF ybw (yt6 x) (ytY x)
def yuk:Seg:=⟨yey,yer,yhP,ymo⟩
def yJl:Nat→Option Seg:=fun q=>bif Nat.beq q 61 then some yuk else yys q
theorem yHz:FrOk prog ⟨yrE,34,yJl⟩ yln:=(yHy).loop (sg:=yuk) ybg ytY (by decide) yHe ybw yt6 (by decide) (fun _=>rfl) (fun x r _ h=>h) yIP
abbrev ylx:List Par:= [.rd tM]
abbrev ysg:List OT:= [⟨false,tM,(.pr (.ow (.ow .fz)) (.pr (.ow (.pr .fz (.ow .fz))) (.pr .fz (.ow .fz))))⟩]
def yoJ (a0:dM):Option (zaY ysg×zak ylx) :=let r1:=yaj a0;let r2:=ybn a0;bif(!(!r2))then bif a0.2.2.1 then some ((r1,()),()) else zkt (ymo ((((),()),((),()),(a0.2.1,()),((a0.2.1.length:Int),()),((),()),()),(((),(),false,(),()),((),(),r1.2.2.1,(),()),()),(r1.1,r1.2.1,r1.2.2.2,()))) (fun y4 =>some (((y4.2.2.1,[],y4.2.1.2.1.2.2.1,y4.2.2.2.2.1),()),())) (fun y4 =>none) else some ((r1,()),())
theorem yKU:ConOk prog 205 ⟨ylx,ysg,fun x=>yoJ x.1⟩:=zkI (yHz) func205 ntmps205.symm fun x=>by kernel_rfl
def yh3 (a0:dM):dM:=yq a0
theorem yNF (a0:dM) (hk:zjx ylx (a0,())):yoJ a0=(fun n=>some ((n,()),())) (yh3 a0):=by
 have hb2:a0.2.1.length*32≤2^47:=hk.1.2.1.1;unfold yoJ yh3 yq;simp only[yaj,ybn];cases hm:yr a0
 ·rfl
 have h1:ymo (yGF a0.2.1 a0.2.1.length yd a0)=some (.inl (yuc yd (yi9 (fun _=>true) a0.2.1 a0.1,a0.2))) :=
  zkD (step:=ybw) a0.2.1.length (fun i s=>yk2 a0.2.1 a0.2.1.length i yd (s,a0.2)) (ygB (fun _=>true) a0.2.1) (fun i s=>s.length=a0.1.length) (fun s=> .inl (yuc yd (s,a0.2))) (fun i s hi hs=>by
   have hw:=(yXU hm hi).1;refine⟨?_,yzP.trans hs⟩
   simp only[ybw,yk2,ylf,zky (show(i:Int)<a0.2.1.length by omega),cond_true,wq ((i:Int)+1) (by omega) (by omega),Int.natCast_add,Int.natCast_one,Int.toNat_natCast,zkR hi,hs,hw,ygB,yn]) (fun s hs=>by simp only[ybw,yk2,ylf,zk3 (Int.le_refl _),cond_false]) a0.1 rfl _ (by show _<18446744073709551616; omega)
 rw[h1];cases hf:a0.2.2.1
 ·exact congrArg (fun z=>some (((yi9 (fun _=>true) a0.2.1 a0.1,([]:List dW),z,a0.2.2.2),()),())) hf
 ·rfl
def yyP:Con:=⟨ylx,ysg,fun x=>(fun n=>some ((n,()),())) (yh3 x.1)⟩
theorem yOx:ConOk prog 205 yyP:=(yKU).mono (fun x r hk h=>(yNF x.1 hk).trans h)
def yll:Code:=(f165.body).getD .skip
def yrC:Env:=zkw TT [(192,ysG),(205,yyP)] []
theorem yHt:FrOk prog ⟨yrC,38,fun _=>none⟩ yll:=zkA mixed yc ⟨yE5,yOx,trivial⟩
def yyq:Nat→Option Seg:=fun _=>none
def ybe:Shape:=⟨[(0,false,[.ptr 1000000000 0]),(8,false,[.int .i64]),(9,false,[.int .i64])],[(1000000000,[.int .i64,.int .i64,.int .i64,.at 800000000,.int .i64,.int .i64,.int .i64,.int .i64,.int .i64,.at 800000001,.int .i64,.bool,.bool])],[(800000000,tM,(.pr (.ow (.ow .fz)) (.pr (.ow (.pr .fz (.ow .fz))) (.pr .fz (.ow .fz))))),(800000001,tW,(.pr .fz (.ow .fz)))]⟩
def yew:Shape:=⟨[(0,false,[.ptr 1000000000 0]),(8,false,[.int .i64]),(9,false,[.ci .i64 0])],[(1000000000,[.int .i64,.int .i64,.int .i64,.at 800000000,.int .i64,.int .i64,.int .i64,.int .i64,.int .i64,.at 800000001,.int .i64,.bool,.bool])],[(800000000,tM,(.pr (.ow (.ow .fz)) (.pr (.ow (.pr .fz (.ow .fz))) (.pr .fz (.ow .fz))))),(800000001,tW,(.pr .fz (.ow .fz)))]⟩
def yep:Shape:=⟨[],[(1000000000,[.int .i64,.int .i64,.int .i64,.at 800000000,.int .i64,.int .i64,.int .i64,.int .i64,.int .i64,.at 800000001,.int .i64,.bool,.bool])],[(800000000,tM,(.pr (.ow (.ow .fz)) (.pr (.ow (.pr .fz (.ow .fz))) (.pr .fz (.ow .fz))))),(800000001,tW,(.pr .fz (.ow .fz)))]⟩
def yeD:Shape:=⟨[(2,false,[.bool])],[(1000000000,[.int .i64,.int .i64,.int .i64,.at 800000000,.int .i64,.int .i64,.int .i64,.int .i64,.int .i64,.at 800000001,.int .i64,.bool,.bool])],[(800000000,tM,(.pr (.ow (.ow .fz)) (.pr (.ow (.pr .fz (.ow .fz))) (.pr .fz (.ow .fz))))),(800000001,tW,(.pr .fz (.ow .fz)))]⟩
abbrev ygW (v0 v1:Int) (v2:dA):(ybe).X:=((((),()),(v0,()),(v1,()),()),((v2.1,v2.2.1.1,v2.2.1.2,(),v2.2.2.2.1,v2.2.2.2.2.1,v2.2.2.2.2.2.1,v2.2.2.2.2.2.2.1,v2.2.2.2.2.2.2.2.1,(),v2.2.2.2.2.2.2.2.2.2.1,v2.2.2.2.2.2.2.2.2.2.2.1,v2.2.2.2.2.2.2.2.2.2.2.2,()),()),(v2.2.2.1,v2.2.2.2.2.2.2.2.2.1,()))
abbrev yGD (v0:Int) (v1:dA):(yew).X:=((((),()),(v0,()),((),()),()),((v1.1,v1.2.1.1,v1.2.1.2,(),v1.2.2.2.1,v1.2.2.2.2.1,v1.2.2.2.2.2.1,v1.2.2.2.2.2.2.1,v1.2.2.2.2.2.2.2.1,(),v1.2.2.2.2.2.2.2.2.2.1,v1.2.2.2.2.2.2.2.2.2.2.1,v1.2.2.2.2.2.2.2.2.2.2.2,()),()),(v1.2.2.1,v1.2.2.2.2.2.2.2.2.1,()))
abbrev yk7 (v0:dA):(yep).X:=((),((v0.1,v0.2.1.1,v0.2.1.2,(),v0.2.2.2.1,v0.2.2.2.2.1,v0.2.2.2.2.2.1,v0.2.2.2.2.2.2.1,v0.2.2.2.2.2.2.2.1,(),v0.2.2.2.2.2.2.2.2.2.1,v0.2.2.2.2.2.2.2.2.2.2.1,v0.2.2.2.2.2.2.2.2.2.2.2,()),()),(v0.2.2.1,v0.2.2.2.2.2.2.2.2.1,()))
abbrev yk9 (v0:Bool) (v1:dA):(yeD).X:=(((v0,()),()),((v1.1,v1.2.1.1,v1.2.1.2,(),v1.2.2.2.1,v1.2.2.2.2.1,v1.2.2.2.2.2.1,v1.2.2.2.2.2.2.1,v1.2.2.2.2.2.2.2.1,(),v1.2.2.2.2.2.2.2.2.2.1,v1.2.2.2.2.2.2.2.2.2.2.1,v1.2.2.2.2.2.2.2.2.2.2.2,()),()),(v1.2.2.1,v1.2.2.2.2.2.2.2.2.1,()))
def yld (v0 v1 v2 v3 v4 v5 v6 v7 v8 v9 v10:Int) (v11 v12:Bool) (v13:List dM) (v14:List dW):Option ((ybe).X ⊕ ((yep).X ⊕ (yeD).X)) :=bif(ltb v1 v0)then bif(inb v1 v13.length)then bif(((nth v13 v1 ([],[],false,[])).2).2).1 then some (.inl ((((),()),(v0,()),((i64.wrap (v1+1)),()),()),((v2,v3,v4,(),v5,v6,v7,v8,v9,(),v10,v11,v12,()),()),(v13,v14,()))) else let r3:=yg5 (v2,(v3,v4),v13,v5,v6,v7,v8,v9,v14,v10,v11,v12);bif(!r3.1)then some (.inr (.inr (((false,()),()),((r3.2.1,r3.2.2.1.1,r3.2.2.1.2,(),r3.2.2.2.2.1,r3.2.2.2.2.2.1,r3.2.2.2.2.2.2.1,r3.2.2.2.2.2.2.2.1,r3.2.2.2.2.2.2.2.2.1,(),r3.2.2.2.2.2.2.2.2.2.2.1,r3.2.2.2.2.2.2.2.2.2.2.2.1,r3.2.2.2.2.2.2.2.2.2.2.2.2,()),()),(r3.2.2.2.1,r3.2.2.2.2.2.2.2.2.2.1,())))) else bif(inb v1 r3.2.2.2.1.length)then let r4:=yh3 ((nth r3.2.2.2.1 v1 ([],[],false,[])).1,((nth r3.2.2.2.1 v1 ([],[],false,[])).2).1,(((nth r3.2.2.2.1 v1 ([],[],false,[])).2).2));bif(inb v1 r3.2.2.2.1.length)then some (.inl ((((),()),(v0,()),((i64.wrap (v1+1)),()),()),((r3.2.1,r3.2.2.1.1,r3.2.2.1.2,(),r3.2.2.2.2.1,r3.2.2.2.2.2.1,r3.2.2.2.2.2.2.1,r3.2.2.2.2.2.2.2.1,r3.2.2.2.2.2.2.2.2.1,(),r3.2.2.2.2.2.2.2.2.2.2.1,r3.2.2.2.2.2.2.2.2.2.2.2.1,r3.2.2.2.2.2.2.2.2.2.2.2.2,()),()),((r3.2.2.2.1.set (v1).toNat r4),r3.2.2.2.2.2.2.2.2.2.1,()))) else none else none else none else some (.inr (.inl ((),((v2,v3,v4,(),v5,v6,v7,v8,v9,(),v10,v11,v12,()),()),(v13,v14,()))))
def ybu (x:(ybe).X):=yld x.1.2.1.1 x.1.2.2.1.1 x.2.1.1.1 x.2.1.1.2.1 x.2.1.1.2.2.1 x.2.1.1.2.2.2.2.1 x.2.1.1.2.2.2.2.2.1 x.2.1.1.2.2.2.2.2.2.1 x.2.1.1.2.2.2.2.2.2.2.1 x.2.1.1.2.2.2.2.2.2.2.2.1 x.2.1.1.2.2.2.2.2.2.2.2.2.2.1 x.2.1.1.2.2.2.2.2.2.2.2.2.2.2.1 x.2.1.1.2.2.2.2.2.2.2.2.2.2.2.2.1 x.2.2.1 x.2.2.2.1
def ytW (x:(yew).X):(ybe).X:=((((),()),(x.1.2.1.1,()),(0,()),()),((x.2.1.1.1,x.2.1.1.2.1,x.2.1.1.2.2.1,(),x.2.1.1.2.2.2.2.1,x.2.1.1.2.2.2.2.2.1,x.2.1.1.2.2.2.2.2.2.1,x.2.1.1.2.2.2.2.2.2.2.1,x.2.1.1.2.2.2.2.2.2.2.2.1,(),x.2.1.1.2.2.2.2.2.2.2.2.2.2.1,x.2.1.1.2.2.2.2.2.2.2.2.2.2.2.1,x.2.1.1.2.2.2.2.2.2.2.2.2.2.2.2.1,()),()),(x.2.2.1,x.2.2.2.1,()))
def yv2:Code:=(zd7 yll 64 52).getD .skip
theorem yHc:zd7 yll 64 13=some (.block 0 (.loop yv2)):=by kernel_rfl
theorem yIN (x:(ybe).X):zhu ⟨yrC,38,yyq⟩ 0 yv2 52 ybe yep yeD x=ybu x:=by kernel_rfl
def yt4 (x:(yew).X):Nat:=18446744073709551616
def ymm (x:(yew).X):Option ((yep).X ⊕ (yeD).X):=zF ybu (yt4 x) (ytW x)
def yui:Seg:=⟨yew,yep,yeD,ymm⟩
def yJj:Nat→Option Seg:=fun q=>bif Nat.beq q 13 then some yui else yyq q
theorem yHu:FrOk prog ⟨yrC,38,yJj⟩ yll:=(yHt).loop (sg:=yui) ybe ytW (by decide) yHc ybu yt4 (by decide) (fun _=>rfl) (fun x r _ h=>h) yIN
abbrev yhf:List Par:= [.pt tA (.pr .fz (.pr (.pr .fz .fz) (.pr (.ow (.pr (.ow (.ow .fz)) (.pr (.ow (.pr .fz (.ow .fz))) (.pr .fz (.ow .fz))))) (.pr .fz (.pr .fz (.pr .fz (.pr .fz (.pr .fz (.pr (.ow (.pr .fz (.ow .fz))) (.pr .fz (.pr .fz .fz)))))))))))]
abbrev ylP:List OT:= [⟨false,tB,.fz⟩]
def yoG (a0:dA):Option (zaY ylP×zak yhf) :=zkt (ymm ((((),()),((a0.2.2.1.length:Int),()),((),()),()),((a0.1,a0.2.1.1,a0.2.1.2,(),a0.2.2.2.1,a0.2.2.2.2.1,a0.2.2.2.2.2.1,a0.2.2.2.2.2.2.1,a0.2.2.2.2.2.2.2.1,(),a0.2.2.2.2.2.2.2.2.2.1,a0.2.2.2.2.2.2.2.2.2.2.1,a0.2.2.2.2.2.2.2.2.2.2.2,()),()),(a0.2.2.1,a0.2.2.2.2.2.2.2.2.1,()))) (fun y4 =>some ((true,()),((y4.2.1.1.1,(y4.2.1.1.2.1,y4.2.1.1.2.2.1),y4.2.2.1,y4.2.1.1.2.2.2.2.1,y4.2.1.1.2.2.2.2.2.1,y4.2.1.1.2.2.2.2.2.2.1,y4.2.1.1.2.2.2.2.2.2.2.1,y4.2.1.1.2.2.2.2.2.2.2.2.1,y4.2.2.2.1,y4.2.1.1.2.2.2.2.2.2.2.2.2.2.1,y4.2.1.1.2.2.2.2.2.2.2.2.2.2.2.1,y4.2.1.1.2.2.2.2.2.2.2.2.2.2.2.2.1),()))) (fun y4 =>some ((y4.1.1.1,()),((y4.2.1.1.1,(y4.2.1.1.2.1,y4.2.1.1.2.2.1),y4.2.2.1,y4.2.1.1.2.2.2.2.1,y4.2.1.1.2.2.2.2.2.1,y4.2.1.1.2.2.2.2.2.2.1,y4.2.1.1.2.2.2.2.2.2.2.1,y4.2.1.1.2.2.2.2.2.2.2.2.1,y4.2.2.2.1,y4.2.1.1.2.2.2.2.2.2.2.2.2.2.1,y4.2.1.1.2.2.2.2.2.2.2.2.2.2.2.1,y4.2.1.1.2.2.2.2.2.2.2.2.2.2.2.2.1),())))
theorem yKR:ConOk prog 165 ⟨yhf,ylP,fun x=>yoG x.1⟩:=zkI (yHu) func165 ntmps165.symm fun x=>by kernel_rfl
def yh2 (a0:dA):Bool×dA:=(!(yb (yy a0)),yy a0)
def yeY (a0:dA):Bool:= !(yb a0)
theorem yNC (a0:dA) (hk:zjx yhf (a0,())) (hq:yeY a0=true):yoG a0=(fun n=>some ((n.1,()),(n.2,()))) (yh2 a0):=by
 have hb:a0.2.2.1.length*80≤2^47:=hk.1.2.2.1.1
 have h1:ymm (yGD a0.2.2.1.length a0)=some (bif yb (yy a0)then .inr (yk9 false (yy a0))else .inl (yk7 (yy a0))):=by
  have:=zkC (step:=ybu) a0.2.2.1.length (fun i s=>ygW a0.2.2.1.length i s) (fun i s=>bif yb (yI s i)then(.inr (yI s i):dA ⊕ dA)else .inl (yI s i)) (fun _ s=>s.2.2.1.length=a0.2.2.1.length∧yb s=false) id
   (fun b=>bif yb b then .inr (yk9 false b)else .inl (yk7 b)) (fun i s hi hs=>by
    constructor
    ·rw[yIX hs.2]
     simp only[ybu,ygW,yld,hs.1,zky (show(i:Int)<a0.2.2.1.length by omega),cond_true,wq ((i:Int)+1) (by omega) (by omega),Int.natCast_add,Int.natCast_one,Int.toNat_natCast,zkR hi,zkX,yQB hs.2,yax,yh3];cases hf:(nth s.2.2.1 i yd).2.2.1
     ·cases ho:(opA s).1
      ·have e:yI s i=(opA s).2:=by unfold yI; rw[hf,ho]; rfl
       have d:yb (opA s).2=true:=by rw[yUQ hs.2,ho]; rfl
       rw[e];simp only[Bool.not_false,Bool.and_self,cond_true,cond_false,d,yax,yk9]
      ·have e:yI s i=yd2 (opA s).2 i (yq (nth s.2.2.1 i yd)):=by unfold yI; rw[hf,ho]; rfl
       rw[e];simp only[Bool.not_true,Bool.not_false,Bool.and_false,cond_true,cond_false,ygW,yd2,yax,Int.toNat_natCast]
     ·have e:yI s i=s:=by unfold yI; rw[hf]; rfl
      rw[e]; rfl
    ·intro s' h
     cases hd:yb (yI s i)
     ·rw[hd]at h
      cases h;exact⟨(ykU s i).trans hs.1,hd⟩
     ·rw[hd]at h; cases h) (fun s hs=>by simp only[ybu,ygW,yld,hs.2,zk3 (Int.le_refl _),cond_false,id,yk7]) a0 ⟨rfl,by simpa [yeY]using hq⟩ 18446744073709551616 (by omega)
  rw[yBO (fun a i h=>yCA i h),← List.range_eq_range']at this;exact this
 unfold yoG yh2;rw[h1];cases hd:yb (yy a0)<;>rfl
def yeW (a0:dA):Option (zaY ylP×zak yhf):=bif yeY a0 then(fun n=>some ((n.1,()),(n.2,()))) (yh2 a0)else none
theorem yqt (a0:dA) (h:yeY a0=true):yeW a0=(fun n=>some ((n.1,()),(n.2,()))) (yh2 a0):=by unfold yeW; rw[h]; rfl
def yiI:Con:=⟨yhf,ylP,fun x=>yeW x.1⟩
theorem yqr:ConOk prog 165 yiI:=(yKR).mono (fun x r hk h=>zkY h (fun hq=>yNC x.1 hk hq))
def yis:Code:=(f97.body).getD .skip
def yn4:Env:=zkw TT [(88,yC7),(139,yhZ),(164,yC6),(165,yiI)] []
theorem yFD:FrOk prog ⟨yn4,26,fun _=>none⟩ yis:=zkA mixed yc ⟨yUx,yoC,yUw,yqr,trivial⟩
def ytL:Nat→Option Seg:=fun _=>none
def yaC:Shape:=⟨[(0,false,[.ptr 1000000000 0]),(3,false,[.ptr 0 0]),(10,false,[.int .i64]),(11,false,[.int .i64])],[(0,[.int .i64,.int .i64,.br tI]),(1000000000,[.int .i64,.int .i64,.int .i64,.at 800000000,.int .i64,.int .i64,.int .i64,.int .i64,.int .i64,.at 800000001,.int .i64,.bool,.bool])],[(800000000,tM,(.pr (.ow (.ow .fz)) (.pr (.ow (.pr .fz (.ow .fz))) (.pr .fz (.ow .fz))))),(800000001,tW,(.pr .fz (.ow .fz)))]⟩
def ydg:Shape:=⟨[(0,false,[.ptr 1000000000 0]),(3,false,[.ptr 0 0]),(10,false,[.int .i64]),(11,false,[.ci .i64 0])],[(0,[.int .i64,.int .i64,.br tI]),(1000000000,[.int .i64,.int .i64,.int .i64,.at 800000000,.int .i64,.int .i64,.int .i64,.int .i64,.int .i64,.at 800000001,.int .i64,.bool,.bool])],[(800000000,tM,(.pr (.ow (.ow .fz)) (.pr (.ow (.pr .fz (.ow .fz))) (.pr .fz (.ow .fz))))),(800000001,tW,(.pr .fz (.ow .fz)))]⟩
def ydd:Shape:=⟨[(0,false,[.ptr 1000000000 0])],[(1000000000,[.int .i64,.int .i64,.int .i64,.at 800000000,.int .i64,.int .i64,.int .i64,.int .i64,.int .i64,.at 800000001,.int .i64,.bool,.bool])],[(800000000,tM,(.pr (.ow (.ow .fz)) (.pr (.ow (.pr .fz (.ow .fz))) (.pr .fz (.ow .fz))))),(800000001,tW,(.pr .fz (.ow .fz)))]⟩
def ydj:Shape:=⟨[(4,false,[.bool])],[(1000000000,[.int .i64,.int .i64,.int .i64,.at 800000000,.int .i64,.int .i64,.int .i64,.int .i64,.int .i64,.at 800000001,.int .i64,.bool,.bool])],[(800000000,tM,(.pr (.ow (.ow .fz)) (.pr (.ow (.pr .fz (.ow .fz))) (.pr .fz (.ow .fz))))),(800000001,tW,(.pr .fz (.ow .fz)))]⟩
abbrev yja (v0 v1:Int) (v2:dN) (v3:dA):(yaC).X:=((((),()),((),()),(v0,()),(v1,()),()),((v2.1,v2.2.1,v2.2.2,()),(v3.1,v3.2.1.1,v3.2.1.2,(),v3.2.2.2.1,v3.2.2.2.2.1,v3.2.2.2.2.2.1,v3.2.2.2.2.2.2.1,v3.2.2.2.2.2.2.2.1,(),v3.2.2.2.2.2.2.2.2.2.1,v3.2.2.2.2.2.2.2.2.2.2.1,v3.2.2.2.2.2.2.2.2.2.2.2,()),()),(v3.2.2.1,v3.2.2.2.2.2.2.2.2.1,()))
abbrev yE2 (v0:Int) (v1:dN) (v2:dA):(ydg).X:=((((),()),((),()),(v0,()),((),()),()),((v1.1,v1.2.1,v1.2.2,()),(v2.1,v2.2.1.1,v2.2.1.2,(),v2.2.2.2.1,v2.2.2.2.2.1,v2.2.2.2.2.2.1,v2.2.2.2.2.2.2.1,v2.2.2.2.2.2.2.2.1,(),v2.2.2.2.2.2.2.2.2.2.1,v2.2.2.2.2.2.2.2.2.2.2.1,v2.2.2.2.2.2.2.2.2.2.2.2,()),()),(v2.2.2.1,v2.2.2.2.2.2.2.2.2.1,()))
abbrev yjd (v0:dA):(ydd).X:=((((),()),()),((v0.1,v0.2.1.1,v0.2.1.2,(),v0.2.2.2.1,v0.2.2.2.2.1,v0.2.2.2.2.2.1,v0.2.2.2.2.2.2.1,v0.2.2.2.2.2.2.2.1,(),v0.2.2.2.2.2.2.2.2.2.1,v0.2.2.2.2.2.2.2.2.2.2.1,v0.2.2.2.2.2.2.2.2.2.2.2,()),()),(v0.2.2.1,v0.2.2.2.2.2.2.2.2.1,()))
abbrev yjg (v0:Bool) (v1:dA):(ydj).X:=(((v0,()),()),((v1.1,v1.2.1.1,v1.2.1.2,(),v1.2.2.2.1,v1.2.2.2.2.1,v1.2.2.2.2.2.1,v1.2.2.2.2.2.2.1,v1.2.2.2.2.2.2.2.1,(),v1.2.2.2.2.2.2.2.2.2.1,v1.2.2.2.2.2.2.2.2.2.2.1,v1.2.2.2.2.2.2.2.2.2.2.2,()),()),(v1.2.2.1,v1.2.2.2.2.2.2.2.2.1,()))
def yjB (v0 v1 v2 v3:Int) (v4:List Int) (v5 v6 v7 v8 v9 v10 v11 v12 v13:Int) (v14 v15:Bool) (v16:List dM) (v17:List dW):Option ((yaC).X ⊕ ((ydd).X ⊕ (ydj).X)) :=bif(ltb v1 v0)then let r4:=ypI v2;let r5:=ykC (v2,v3,v4);bnd (yec (v5,(v6,v7),v16,v8,v9,v10,v11,v12,v17,v13,v14,v15) v1 r4 r5) fun r6 =>bif(!r6.1.1)then some (.inr (.inr (((false,()),()),((r6.2.1.1,r6.2.1.2.1.1,r6.2.1.2.1.2,(),r6.2.1.2.2.2.1,r6.2.1.2.2.2.2.1,r6.2.1.2.2.2.2.2.1,r6.2.1.2.2.2.2.2.2.1,r6.2.1.2.2.2.2.2.2.2.1,(),r6.2.1.2.2.2.2.2.2.2.2.2.1,r6.2.1.2.2.2.2.2.2.2.2.2.2.1,r6.2.1.2.2.2.2.2.2.2.2.2.2.2,()),()),(r6.2.1.2.2.1,r6.2.1.2.2.2.2.2.2.2.2.1,())))) else some (.inl ((((),()),((),()),(v0,()),((i64.wrap (v1+1)),()),()),((v2,v3,v4,()),(r6.2.1.1,r6.2.1.2.1.1,r6.2.1.2.1.2,(),r6.2.1.2.2.2.1,r6.2.1.2.2.2.2.1,r6.2.1.2.2.2.2.2.1,r6.2.1.2.2.2.2.2.2.1,r6.2.1.2.2.2.2.2.2.2.1,(),r6.2.1.2.2.2.2.2.2.2.2.2.1,r6.2.1.2.2.2.2.2.2.2.2.2.2.1,r6.2.1.2.2.2.2.2.2.2.2.2.2.2,()),()),(r6.2.1.2.2.1,r6.2.1.2.2.2.2.2.2.2.2.1,()))) else some (.inr (.inl ((((),()),()),((v5,v6,v7,(),v8,v9,v10,v11,v12,(),v13,v14,v15,()),()),(v16,v17,()))))
def yaM (x:(yaC).X):=yjB x.1.2.2.1.1 x.1.2.2.2.1.1 x.2.1.1.1 x.2.1.1.2.1 x.2.1.1.2.2.1 x.2.1.2.1.1 x.2.1.2.1.2.1 x.2.1.2.1.2.2.1 x.2.1.2.1.2.2.2.2.1 x.2.1.2.1.2.2.2.2.2.1 x.2.1.2.1.2.2.2.2.2.2.1 x.2.1.2.1.2.2.2.2.2.2.2.1 x.2.1.2.1.2.2.2.2.2.2.2.2.1 x.2.1.2.1.2.2.2.2.2.2.2.2.2.2.1 x.2.1.2.1.2.2.2.2.2.2.2.2.2.2.2.1 x.2.1.2.1.2.2.2.2.2.2.2.2.2.2.2.2.1 x.2.2.1 x.2.2.2.1
def yq9 (x:(ydg).X):(yaC).X:=((((),()),((),()),(x.1.2.2.1.1,()),(0,()),()),((x.2.1.1.1,x.2.1.1.2.1,x.2.1.1.2.2.1,()),(x.2.1.2.1.1,x.2.1.2.1.2.1,x.2.1.2.1.2.2.1,(),x.2.1.2.1.2.2.2.2.1,x.2.1.2.1.2.2.2.2.2.1,x.2.1.2.1.2.2.2.2.2.2.1,x.2.1.2.1.2.2.2.2.2.2.2.1,x.2.1.2.1.2.2.2.2.2.2.2.2.1,(),x.2.1.2.1.2.2.2.2.2.2.2.2.2.2.1,x.2.1.2.1.2.2.2.2.2.2.2.2.2.2.2.1,x.2.1.2.1.2.2.2.2.2.2.2.2.2.2.2.2.1,()),()),(x.2.2.1,x.2.2.2.1,()))
def ysD:Code:=(zd7 yis 64 52).getD .skip
theorem yFw:zd7 yis 64 13=some (.block 0 (.loop ysD)):=by kernel_rfl
theorem yF1 (x:(yaC).X):zhu ⟨yn4,26,ytL⟩ 0 ysD 52 yaC ydd ydj x=yaM x:=by kernel_rfl
def yre (x:(ydg).X):Nat:=18446744073709551616
def yjL (x:(ydg).X):Option ((ydd).X ⊕ (ydj).X):=zF yaM (yre x) (yq9 x)
def yrk:Seg:=⟨ydg,ydd,ydj,yjL⟩
def yGl:Nat→Option Seg:=fun q=>bif Nat.beq q 13 then some yrk else ytL q
theorem yFE:FrOk prog ⟨yn4,26,yGl⟩ yis:=(yFD).loop (sg:=yrk) yaC yq9 (by decide) yFw yaM yre (by decide) (fun _=>rfl) (fun x r _ h=>h) yF1
abbrev yfb:List Par:= [.pt tA (.pr .fz (.pr (.pr .fz .fz) (.pr (.ow (.pr (.ow (.ow .fz)) (.pr (.ow (.pr .fz (.ow .fz))) (.pr .fz (.ow .fz))))) (.pr .fz (.pr .fz (.pr .fz (.pr .fz (.pr .fz (.pr (.ow (.pr .fz (.ow .fz))) (.pr .fz (.pr .fz .fz))))))))))),.rd tN]
abbrev yiz:List OT:= [⟨false,tB,.fz⟩]
def yla (a0:dA) (a1:dN):Option (zaY yiz×zak yfb) :=zkt (yjL ((((),()),((),()),((a0.2.2.1.length:Int),()),((),()),()),((a1.1,a1.2.1,a1.2.2,()),(a0.1,a0.2.1.1,a0.2.1.2,(),a0.2.2.2.1,a0.2.2.2.2.1,a0.2.2.2.2.2.1,a0.2.2.2.2.2.2.1,a0.2.2.2.2.2.2.2.1,(),a0.2.2.2.2.2.2.2.2.2.1,a0.2.2.2.2.2.2.2.2.2.2.1,a0.2.2.2.2.2.2.2.2.2.2.2,()),()),(a0.2.2.1,a0.2.2.2.2.2.2.2.2.1,()))) (fun y6 =>bnd (yeW (y6.2.1.1.1,(y6.2.1.1.2.1,y6.2.1.1.2.2.1),y6.2.2.1,y6.2.1.1.2.2.2.2.1,y6.2.1.1.2.2.2.2.2.1,y6.2.1.1.2.2.2.2.2.2.1,y6.2.1.1.2.2.2.2.2.2.2.1,y6.2.1.1.2.2.2.2.2.2.2.2.1,y6.2.2.2.1,y6.2.1.1.2.2.2.2.2.2.2.2.2.2.1,y6.2.1.1.2.2.2.2.2.2.2.2.2.2.2.1,y6.2.1.1.2.2.2.2.2.2.2.2.2.2.2.2.1)) fun r8 =>some ((r8.1.1,()),(r8.2.1,()))) (fun y6 =>some ((y6.1.1.1,()),((y6.2.1.1.1,(y6.2.1.1.2.1,y6.2.1.1.2.2.1),y6.2.2.1,y6.2.1.1.2.2.2.2.1,y6.2.1.1.2.2.2.2.2.1,y6.2.1.1.2.2.2.2.2.2.1,y6.2.1.1.2.2.2.2.2.2.2.1,y6.2.1.1.2.2.2.2.2.2.2.2.1,y6.2.2.2.1,y6.2.1.1.2.2.2.2.2.2.2.2.2.2.1,y6.2.1.1.2.2.2.2.2.2.2.2.2.2.2.1,y6.2.1.1.2.2.2.2.2.2.2.2.2.2.2.2.1),())))
theorem yGP:ConOk prog 97 ⟨yfb,yiz,fun x=>yla x.1 x.2.1⟩:=zkI (yFE) func97 ntmps97.symm fun x=>by kernel_rfl
def yfI (a0:dA) (a1:dN):Bool×dA:=(!(yb (yU a0 a1)),yU a0 a1)
def yfL (a0:dA) (a1:dN):Bool:= !(yb a0)
theorem yIt (a0:dA) (a1:dN) (hk:zjx yfb (a0,a1,())) (hq:yfL a0 a1=true):yla a0 a1=(fun n=>some ((n.1,()),(n.2,()))) (yfI a0 a1):=by
 have hb:a0.2.2.1.length*80≤2^47:=hk.1.2.2.1.1;have hd0:yb a0=false:=by simpa [yfL]using hq
 have h1:yjL (yE2 a0.2.2.1.length a1 a0)=some (bif yb ((List.range a0.2.2.1.length).foldl (ybp a1) a0)then .inr (yjg false ((List.range a0.2.2.1.length).foldl (ybp a1) a0))else .inl (yjd ((List.range a0.2.2.1.length).foldl (ybp a1) a0))):=by
  have:=zkC (step:=yaM) a0.2.2.1.length (fun i s=>yja a0.2.2.1.length i a1 s) (fun i s=>bif yb (ybp a1 s i)then(.inr (ybp a1 s i):dA ⊕ dA)else .inl (ybp a1 s i)) (fun _ s=>s.2.2.1.length=a0.2.2.1.length∧yb s=false) id
   (fun b=>bif yb b then .inr (yjg false b)else .inl (yjd b)) (fun i s hi hs=>by
    constructor
    ·simp only[yaM,yja,yjB,zky (show(i:Int)<a0.2.2.1.length by omega),cond_true,wq ((i:Int)+1) (by omega) (by omega),Int.natCast_add,Int.natCast_one,Int.toNat_natCast,zkX,yXG,ykC]
     rw[yoD s i (yO a1.1) (ykN a1) (by unfold ycC; rw[zkR (by rw[hs.1]; exact hi),hs.2]; rfl)];simp only[zkH,ycy];rw[show ycB s i (yO a1.1) (ykN a1)=ybp a1 s i from rfl];cases hd:yb (ybp a1 s i)
     ·rfl
     ·simp only[hd,Bool.not_true,Bool.not_false,cond_true,yjg]
    ·intro s' h
     cases hd:yb (ybp a1 s i)
     ·rw[hd]at h
      cases h;exact⟨(yn2 a1 s i).trans hs.1,hd⟩
     ·rw[hd]at h; cases h) (fun s hs=>by simp only[yaM,yja,yjB,hs.2,zk3 (Int.le_refl _),cond_false,id,yjd]) a0 ⟨rfl,hd0⟩ 18446744073709551616 (by omega)
  rw[yBO (fun a i h=>yLH a1 i h),← List.range_eq_range']at this;exact this
 unfold yla yfI yU;refine(congrArg (fun z=>zkt z _ _) h1).trans ?_;cases hd:yb ((List.range a0.2.2.1.length).foldl (ybp a1) a0)
 ·simp only[cond_false,zkN,zkX]
  rw[yqt _ (by unfold yeY; rw[hd]; rfl)]; rfl
 ·rw[yw7 hd]
  simp only[cond_true,zkO,zkX];rw[hd]; rfl
def ydv (a0:dA) (a1:dN):Option (zaY yiz×zak yfb):=bif yfL a0 a1 then(fun n=>some ((n.1,()),(n.2,()))) (yfI a0 a1)else none
theorem yIK (a0:dA) (a1:dN) (h:yfL a0 a1=true):ydv a0 a1=(fun n=>some ((n.1,()),(n.2,()))) (yfI a0 a1):=by unfold ydv; rw[h]; rfl
def ytR:Con:=⟨yfb,yiz,fun x=>ydv x.1 x.2.1⟩
theorem yIE:ConOk prog 97 ytR:=(yGP).mono (fun x r hk h=>zkY h (fun hq=>yIt x.1 x.2.1 hk hq))
def yVx:Code:=(f111.body).getD .skip
def yV1:Env:=zkw TT [(81,yA)] []
theorem yMk:FrOk prog ⟨yV1,9,fun _=>none⟩ yVx:=zkA mixed yc ⟨yN,trivial⟩
abbrev yxj:List Par:= [.rd tI]
abbrev yxE:List OT:= [⟨false,tI,.fz⟩]
def yDN (a0:Int):Option (zaY yxE×zak yxj) :=let r1:=yf a0 0 1099511627776;bif(!r1)then some (((-1),()),()) else some (((i64.wrap ((i64.wrap (a0+2))+4)),()),())
theorem yRh:ConOk prog 111 ⟨yxj,yxE,fun x=>yDN x.1⟩:=zkI (yMk) func111 ntmps111.symm fun x=>by kernel_rfl
def yg7 (a0:Int):Int :=let r1:=yf a0 0 1099511627776;bif(!r1)then (-1) else (i64.wrap ((i64.wrap (a0+2))+4))
def yl1:Con:=⟨yxj,yxE,fun x=>(fun n=>some ((n,()),())) (yg7 x.1)⟩
theorem yTC (a0:Int):yDN a0=(fun n=>some ((n,()),())) (yg7 a0):=zkV (p:=fun(n:Int)=>((n,()),())) (zkG (p:=fun(n:Int)=>((n,()),())) rfl rfl)
theorem yvs:ConOk prog 111 yl1:=(yRh).mono (fun x r _ h=>(yTC x.1).trans h)
def yVK:Code:=(f113.body).getD .skip
def yWe:Env:=zkw TT [(82,yw)] []
theorem yMC:FrOk prog ⟨yWe,9,fun _=>none⟩ yVK:=zkA mixed yc ⟨yC,trivial⟩
abbrev yxs:List Par:= [.rd tI]
abbrev yxS:List OT:= [⟨false,tI,.fz⟩]
def yDW (a0:Int):Option (zaY yxS×zak yxs) :=let r1:=ya a0 0 1099511627776;bif(!r1)then some (((-1),()),()) else some (((i64.wrap ((i64.wrap (a0+2))+4)),()),())
theorem yRw:ConOk prog 113 ⟨yxs,yxS,fun x=>yDW x.1⟩:=zkI (yMC) func113 ntmps113.symm fun x=>by kernel_rfl
def yaH (a0:Int):Int :=let r1:=ya a0 0 1099511627776;bif(!r1)then (-1) else (i64.wrap ((i64.wrap (a0+2))+4))
def ydl:Con:=⟨yxs,yxS,fun x=>(fun n=>some ((n,()),())) (yaH x.1)⟩
theorem yTR (a0:Int):yDW a0=(fun n=>some ((n,()),())) (yaH a0):=zkV (p:=fun(n:Int)=>((n,()),())) (zkG (p:=fun(n:Int)=>((n,()),())) rfl rfl)
theorem yf4:ConOk prog 113 ydl:=(yRw).mono (fun x r _ h=>(yTR x.1).trans h)
theorem yed (s:Int):yaH s=yQ s:=by
 unfold yaH yQ;rw[ybR];by_cases h:0≤s∧s≤1099511627776
 ·rw[zk2 h.1,zk2 h.2,wq (s+2) (by omega) (by omega),wr (by omega) (by omega)]
  show s+2+4=s+6;omega
 ·cases h1:(leb 0 s&&leb s 1099511627776)
  ·rfl
  ·rw[Bool.and_eq_true,zj7,zj7]at h1; exact absurd h1 h
theorem yvo (s:Int):yg7 s=yQ s:=yed s
def yO1:Code:=(f167.body).getD .skip
def yPq:Env:=zkw TT [(109,ycJ)] []
theorem yHB:FrOk prog ⟨yPq,17,fun _=>none⟩ yO1:=zkA mixed yc ⟨yfK,trivial⟩
abbrev ylz:List Par:= [.rd tG,.rd tI]
abbrev ysi:List OT:= [⟨false,tI,.fz⟩]
def yoL (a0:dG) (a1:Int):Option (zaY ysi×zak ylz) :=let r1:=yam a0 a1;bif(!r1)then some (((-1),()),()) else bif(a0.1 !=0)then some (((i64.wrap ((i64.wrap (a0.1-1))-(a1.tmod a0.1))),()),()) else none
theorem yKW:ConOk prog 167 ⟨ylz,ysi,fun x=>yoL x.1 x.2.1⟩:=zkI (yHB) func167 ntmps167.symm fun x=>by kernel_rfl
def ydn (a0:dG) (a1:Int):Int:=yg a0 a1
theorem yNH (a0:dG) (a1:Int) (hk:zjx ylz (a0,a1,())):yoL a0 a1=(fun n=>some ((n,()),())) (ydn a0 a1):=by
 unfold yoL ydn;rw[yvU];cases hs:yX a0 a1
 ·unfold yg; rw[hs]; rfl
 ·have h1:=yaq.1 hs
  have h2:=yk.1 h1.1;have h3:=yjH hs;have h4:yg a0 a1=a0.1-1-a1.tmod a0.1:=by unfold yg; rw[hs]; rfl
  rw[show(a0.1 !=0)=true from bne_iff_ne.2 (by omega),wq (a0.1-1) (by omega) (by omega),wq (a0.1-1-a1.tmod a0.1) (by omega) (by omega),h4]; rfl
def yoo:Con:=⟨ylz,ysi,fun x=>(fun n=>some ((n,()),())) (ydn x.1 x.2.1)⟩
theorem yB1:ConOk prog 167 yoo:=(yKW).mono (fun x r hk h=>(yNH x.1 x.2.1 hk).trans h)
def yVy:Code:=(f142.body).getD .skip
def yV2:Env:=zkw TT [(81,yA),(109,ycJ),(167,yoo)] []
theorem yMn:FrOk prog ⟨yV2,28,fun _=>none⟩ yVy:=zkA mixed yc ⟨yN,yfK,yB1,trivial⟩
abbrev yps:List Par:= [.rd tG,.rd tI,.rd tI]
abbrev yxG:List OT:= [⟨false,tI,.fz⟩]
def yto (a0:dG) (a1 a2:Int):Option (zaY yxG×zak yps) :=let r1:=yam a0 a1;bif(!(!r1))then let r2:=yf a2 0 (i64.wrap (a0.1-2));bif(!r2)then some (((-1),()),()) else let r3:=ydn a0 a1;bif(a0.1 !=0)then some ((((i64.wrap ((i64.wrap (r3+1))+a2)).tmod a0.1),()),()) else none else some (((-1),()),())
theorem yRj:ConOk prog 142 ⟨yps,yxG,fun x=>yto x.1 x.2.1 x.2.2.1⟩:=zkI (yMn) func142 ntmps142.symm fun x=>by kernel_rfl
def ye6 (a0:dG) (a1 a2:Int):Int:=ybl a0 a1 a2
theorem yTE (a0:dG) (a1 a2:Int) (hk:zjx yps (a0,a1,a2,())):yto a0 a1 a2=(fun n=>some ((n,()),())) (ye6 a0 a1 a2):=by
 unfold yto ye6 ybl ydn;rw[yvU];cases hs:yX a0 a1
 ·rfl
 ·have h1:=yaq.1 hs
  have h2:=yk.1 h1.1;have h3:=yjH hs;rw[y9,ybR,wq (a0.1-2) (by omega) (by omega)];cases hi:(leb 0 a2&&leb a2 (a0.1-2))
  ·rfl
  ·rw[Bool.and_eq_true,zj7,zj7]at hi
   rw[show(a0.1 !=0)=true from bne_iff_ne.2 (by omega)];show some (((i64.wrap (i64.wrap (yg a0 a1+1)+a2)).tmod a0.1,()),())=some (((yg a0 a1+1+a2).tmod a0.1,()),());rw[wq (yg a0 a1+1) (by omega) (by omega),wq (yg a0 a1+1+a2) (by omega) (by omega)]
def ysJ:Con:=⟨yps,yxG,fun x=>(fun n=>some ((n,()),())) (ye6 x.1 x.2.1 x.2.2.1)⟩
theorem yE8:ConOk prog 142 ysJ:=(yRj).mono (fun x r hk h=>(yTE x.1 x.2.1 x.2.2.1 hk).trans h)
def yrq:Code:=(f185.body).getD .skip
def yAe:Env:=zkw TT [] []
theorem yP9:FrOk prog ⟨yAe,17,fun _=>none⟩ yrq:=zkA mixed yc trivial
def yEp:Nat→Option Seg:=fun _=>none
def yc4:Shape:=⟨[(3,false,[.int .i64]),(6,false,[.br tI]),(7,false,[.int .i64]),(8,false,[.int .i64])],[],[]⟩
def yhE:Shape:=⟨[(3,false,[.ci .i64 0]),(6,false,[.br tI]),(7,false,[.int .i64]),(8,false,[.ci .i64 0])],[],[]⟩
def yhq:Shape:=⟨[(3,false,[.int .i64])],[],[]⟩
def ylS:Shape:=⟨[],[],[]⟩
abbrev yqi (v0:Int) (v1:List Int) (v2 v3:Int):(yc4).X:=(((v0,()),(v1,()),(v2,()),(v3,()),()),(),())
abbrev yNl (v0:List Int) (v1:Int):(yhE).X:=((((),()),(v0,()),(v1,()),((),()),()),(),())
abbrev yBR (v0:Int):(yhq).X:=(((v0,()),()),(),())
def yqT (v0:Int) (v1:List Int) (v2 v3:Int):Option ((yc4).X ⊕ ((yhq).X ⊕ (ylS).X)) :=bif(ltb v3 v2)then bif(inb v3 v1.length)then some (.inl ((((i64.wrap ((BitVec.ofInt IntKind.i64.bits v0 ^^^ BitVec.ofInt IntKind.i64.bits (nth v1 v3 0)).toNat:Int)),()),(v1,()),(v2,()),((i64.wrap (v3+1)),()),()),(),())) else none else some (.inr (.inl (((v0,()),()),(),())))
def ydA (x:(yc4).X):=yqT x.1.1.1 x.1.2.1.1 x.1.2.2.1.1 x.1.2.2.2.1.1
def yBp (x:(yhE).X):(yc4).X:=(((0,()),(x.1.2.1.1,()),(x.1.2.2.1.1,()),(0,()),()),(),())
def yCW:Code:=(zd7 yrq 64 116).getD .skip
theorem yPH:zd7 yrq 64 29=some (.block 0 (.loop yCW)):=by kernel_rfl
theorem ySl (x:(yc4).X):zhu ⟨yAe,17,yEp⟩ 0 yCW 116 yc4 yhq ylS x=ydA x:=by kernel_rfl
def yBE (x:(yhE).X):Nat:=18446744073709551616
def yrP (x:(yhE).X):Option ((yhq).X ⊕ (ylS).X):=zF ydA (yBE x) (yBp x)
def yCp:Seg:=⟨yhE,yhq,ylS,yrP⟩
def ySV:Nat→Option Seg:=fun q=>bif Nat.beq q 29 then some yCp else yEp q
theorem yQa:FrOk prog ⟨yAe,17,ySV⟩ yrq:=(yP9).loop (sg:=yCp) yc4 yBp (by decide) yPH ydA yBE (by decide) (fun _=>rfl) (fun x r _ h=>h) ySl
abbrev yr3:List Par:= [.rd tL]
abbrev yAA:List OT:= [⟨false,tI,.fz⟩]
def yvG (a0:List Int):Option (zaY yAA×zak yr3) :=zkt (yrP ((((),()),(a0,()),((a0.length:Int),()),((),()),()),(),())) (fun y0 =>some ((y0.1.1.1,()),())) (fun y0 =>none)
theorem yUf:ConOk prog 185 ⟨yr3,yAA,fun x=>yvG x.1⟩:=zkI (yQa) func185 ntmps185.symm fun x=>by kernel_rfl
def yeI (a0:List Int):Int:=yao a0
theorem yWA (a0:List Int) (hk:zjx yr3 (a0,())):yvG a0=(fun n=>some ((n,()),())) (yeI a0):=by
 have hb:a0.length*8≤2^47:=hk.1.1
 have h1:yrP (yNl a0 a0.length)=some (.inl (yBR (yao a0))) :=
  zkx (step:=ydA) a0 0 (fun i s=>yqi s a0 a0.length i) xw (fun _ _=>True) (fun s=> .inl (yBR s)) (fun i s hi _=>⟨by
   simp only[ydA,yqi,yqT,zky (show(i:Int)<a0.length by omega),cond_true,wq ((i:Int)+1) (by omega) (by omega),Int.natCast_add,Int.natCast_one,Int.toNat_natCast,zkR hi,zkS]; rfl,trivial⟩) (fun s _=>by simp only[ydA,yqi,yqT,zk3 (Int.le_refl _),cond_false]) 0 trivial _ (by show _<18446744073709551616; omega)
 unfold yvG yeI;rw[h1]; rfl
def yvh:Con:=⟨yr3,yAA,fun x=>(fun n=>some ((n,()),())) (yeI x.1)⟩
theorem yGd:ConOk prog 185 yvh:=(yUf).mono (fun x r hk h=>(yWA x.1 hk).trans h)
def yJf:Code:=(f166.body).getD .skip
def yJt:Env:=zkw TT [(185,yvh)] []
theorem yFG:FrOk prog ⟨yJt,5,fun _=>none⟩ yJf:=zkA mixed yc ⟨yGd,trivial⟩
abbrev yoh:List Par:= [.rd tL]
abbrev yok:List OT:= [⟨false,tI,.fz⟩]
def yue (a0:List Int):Option (zaY yok×zak yoh) :=let r1:=yeI a0;some ((r1,()),())
theorem yGR:ConOk prog 166 ⟨yoh,yok,fun x=>yue x.1⟩:=zkI (yFG) func166 ntmps166.symm fun x=>by kernel_rfl
def yiL (a0:List Int):Int :=let r1:=yeI a0;r1
def ytT:Con:=⟨yoh,yok,fun x=>(fun n=>some ((n,()),())) (yiL x.1)⟩
theorem yIv (a0:List Int):yue a0=(fun n=>some ((n,()),())) (yiL a0):=zkV (p:=fun(n:Int)=>((n,()),())) rfl
theorem yIG:ConOk prog 166 ytT:=(yGR).mono (fun x r _ h=>(yIv x.1).trans h)
def yVz:Code:=(f168.body).getD .skip
def yV3:Env:=zkw TT [(81,yA)] []
theorem yMo:FrOk prog ⟨yV3,34,fun _=>none⟩ yVz:=zkA mixed yc ⟨yN,trivial⟩
abbrev ypt:List Par:= [.rd tA,.rd tI,.rd tI]
abbrev yxH:List OT:= [⟨false,tB,.fz⟩]
def ytp (a0:dA) (a1 a2:Int):Option (zaY yxH×zak ypt) :=let r1:=yf a1 0 (i64.wrap ((a0.2.2.1.length:Int)-1));bif r1 then bif(inb a1 a0.2.2.1.length)then bif(!((((nth a0.2.2.1 a1 ([],[],false,[])).2).2).1))then bif(!(a0.2.2.2.1 !=a1))then some (((ltb a2 a0.2.2.2.2.1),()),()) else some ((true,()),()) else some ((false,()),()) else none else some ((false,()),())
theorem yRk:ConOk prog 168 ⟨ypt,yxH,fun x=>ytp x.1 x.2.1 x.2.2.1⟩:=zkI (yMo) func168 ntmps168.symm fun x=>by kernel_rfl
def ye7 (a0:dA) (a1 a2:Int):Bool:=ycf a0 a1 a2
theorem yTF (a0:dA) (a1 a2:Int) (hk:zjx ypt (a0,a1,a2,())):ytp a0 a1 a2=(fun n=>some ((n,()),())) (ye7 a0 a1 a2):=by
 have hb:a0.2.2.1.length*80≤2^47:=hk.1.2.2.1.1;unfold ytp ye7 ycf yd;rw[y9,yh1 (show a0.2.2.1.length≤1152921504606846976 by omega),bne_comm];cases inb a1 a0.2.2.1.length
 ·rfl
 ·cases(nth a0.2.2.1 a1 ([],[],false,[])).2.2.1<;>cases(a1 !=a0.2.2.2.1)<;>rfl
def ysK:Con:=⟨ypt,yxH,fun x=>(fun n=>some ((n,()),())) (ye7 x.1 x.2.1 x.2.2.1)⟩
theorem yE9:ConOk prog 168 ysK:=(yRk).mono (fun x r hk h=>(yTF x.1 x.2.1 x.2.2.1 hk).trans h)
def ycn:Code:=(f98.body).getD .skip
def yf5:Env:=zkw TT [(111,yl1),(139,yhZ),(142,ysJ),(166,ytT),(167,yoo),(168,ysK)] []
theorem yGs:FrOk prog ⟨yf5,70,fun _=>none⟩ ycn:=zkA mixed yc ⟨yvs,yoC,yE8,yIG,yB1,yE9,trivial⟩
def yvX:Nat→Option Seg:=fun _=>none
def yaQ:Shape:=⟨[(0,false,[.ptr 1000000000 0]),(1,false,[.int .i64]),(7,false,[.at 800000000]),(28,false,[.br tI]),(29,false,[.int .i64]),(30,false,[.int .i64])],[(1000000000,[.int .i64,.int .i64,.int .i64,.at 800000001,.int .i64,.int .i64,.int .i64,.int .i64,.int .i64,.at 800000002,.int .i64,.bool,.bool])],[(800000000,tI,.fz),(800000001,tM,(.pr (.ow (.ow .fz)) (.pr (.ow (.pr .fz (.ow .fz))) (.pr .fz (.ow .fz))))),(800000002,tW,(.pr .fz (.ow .fz)))]⟩
def ydW:Shape:=⟨[(0,false,[.ptr 1000000000 0]),(1,false,[.int .i64]),(7,false,[.at 800000000]),(28,false,[.br tI]),(29,false,[.int .i64]),(30,false,[.ci .i64 0])],[(1000000000,[.int .i64,.int .i64,.int .i64,.at 800000001,.int .i64,.int .i64,.int .i64,.int .i64,.int .i64,.at 800000002,.int .i64,.bool,.bool])],[(800000000,tI,.fz),(800000001,tM,(.pr (.ow (.ow .fz)) (.pr (.ow (.pr .fz (.ow .fz))) (.pr .fz (.ow .fz))))),(800000002,tW,(.pr .fz (.ow .fz)))]⟩
def ydR:Shape:=⟨[(0,false,[.ptr 1000000000 0]),(1,false,[.int .i64]),(7,false,[.at 800000000])],[(1000000000,[.int .i64,.int .i64,.int .i64,.at 800000001,.int .i64,.int .i64,.int .i64,.int .i64,.int .i64,.at 800000002,.int .i64,.bool,.bool])],[(800000000,tI,.fz),(800000001,tM,(.pr (.ow (.ow .fz)) (.pr (.ow (.pr .fz (.ow .fz))) (.pr .fz (.ow .fz))))),(800000002,tW,(.pr .fz (.ow .fz)))]⟩
def ygS:Shape:=⟨[],[],[]⟩
abbrev yj6 (v0:Int) (v1:List Int) (v2 v3:Int) (v4:dA) (v5:List Int):(yaQ).X:=((((),()),(v0,()),((),()),(v1,()),(v2,()),(v3,()),()),((v4.1,v4.2.1.1,v4.2.1.2,(),v4.2.2.2.1,v4.2.2.2.2.1,v4.2.2.2.2.2.1,v4.2.2.2.2.2.2.1,v4.2.2.2.2.2.2.2.1,(),v4.2.2.2.2.2.2.2.2.2.1,v4.2.2.2.2.2.2.2.2.2.2.1,v4.2.2.2.2.2.2.2.2.2.2.2,()),()),(v5,v4.2.2.1,v4.2.2.2.2.2.2.2.2.1,()))
abbrev yFO (v0:Int) (v1:List Int) (v2:Int) (v3:dA) (v4:List Int):(ydW).X:=((((),()),(v0,()),((),()),(v1,()),(v2,()),((),()),()),((v3.1,v3.2.1.1,v3.2.1.2,(),v3.2.2.2.1,v3.2.2.2.2.1,v3.2.2.2.2.2.1,v3.2.2.2.2.2.2.1,v3.2.2.2.2.2.2.2.1,(),v3.2.2.2.2.2.2.2.2.2.1,v3.2.2.2.2.2.2.2.2.2.2.1,v3.2.2.2.2.2.2.2.2.2.2.2,()),()),(v4,v3.2.2.1,v3.2.2.2.2.2.2.2.2.1,()))
abbrev yta (v0:Int) (v1:dA) (v2:List Int):(ydR).X:=((((),()),(v0,()),((),()),()),((v1.1,v1.2.1.1,v1.2.1.2,(),v1.2.2.2.1,v1.2.2.2.2.1,v1.2.2.2.2.2.1,v1.2.2.2.2.2.2.1,v1.2.2.2.2.2.2.2.1,(),v1.2.2.2.2.2.2.2.2.2.1,v1.2.2.2.2.2.2.2.2.2.2.1,v1.2.2.2.2.2.2.2.2.2.2.2,()),()),(v2,v1.2.2.1,v1.2.2.2.2.2.2.2.2.1,()))
def yki (v0:Int) (v1:List Int) (v2 v3 v4 v5 v6 v7 v8 v9 v10 v11 v12:Int) (v13 v14:Bool) (v15:List Int) (v16:List dM) (v17:List dW):Option ((yaQ).X ⊕ ((ydR).X ⊕ (ygS).X)) :=bif(ltb v3 v2)then bif(inb v3 v1.length)then let r5:=ye6 (v5,v6) v0 v3;bif(inb r5 v15.length)then some (.inl ((((),()),(v0,()),((),()),(v1,()),(v2,()),((i64.wrap (v3+1)),()),()),((v4,v5,v6,(),v7,v8,v9,v10,v11,(),v12,v13,v14,()),()),((v15.set (r5).toNat (nth v1 v3 0)),v16,v17,()))) else none else none else some (.inr (.inl ((((),()),(v0,()),((),()),()),((v4,v5,v6,(),v7,v8,v9,v10,v11,(),v12,v13,v14,()),()),(v15,v16,v17,()))))
def ya8 (x:(yaQ).X):=yki x.1.2.1.1 x.1.2.2.2.1.1 x.1.2.2.2.2.1.1 x.1.2.2.2.2.2.1.1 x.2.1.1.1 x.2.1.1.2.1 x.2.1.1.2.2.1 x.2.1.1.2.2.2.2.1 x.2.1.1.2.2.2.2.2.1 x.2.1.1.2.2.2.2.2.2.1 x.2.1.1.2.2.2.2.2.2.2.1 x.2.1.1.2.2.2.2.2.2.2.2.1 x.2.1.1.2.2.2.2.2.2.2.2.2.2.1 x.2.1.1.2.2.2.2.2.2.2.2.2.2.2.1 x.2.1.1.2.2.2.2.2.2.2.2.2.2.2.2.1 x.2.2.1 x.2.2.2.1 x.2.2.2.2.1
def ysU (x:(ydW).X):(yaQ).X:=((((),()),(x.1.2.1.1,()),((),()),(x.1.2.2.2.1.1,()),(x.1.2.2.2.2.1.1,()),(0,()),()),((x.2.1.1.1,x.2.1.1.2.1,x.2.1.1.2.2.1,(),x.2.1.1.2.2.2.2.1,x.2.1.1.2.2.2.2.2.1,x.2.1.1.2.2.2.2.2.2.1,x.2.1.1.2.2.2.2.2.2.2.1,x.2.1.1.2.2.2.2.2.2.2.2.1,(),x.2.1.1.2.2.2.2.2.2.2.2.2.2.1,x.2.1.1.2.2.2.2.2.2.2.2.2.2.2.1,x.2.1.1.2.2.2.2.2.2.2.2.2.2.2.2.1,()),()),(x.2.2.1,x.2.2.2.1,x.2.2.2.2.1,()))
def ytM:Code:=(zd7 ycn 64 244).getD .skip
theorem yGm:zd7 ycn 64 61=some (.block 0 (.loop ytM)):=by kernel_rfl
theorem yGY (x:(yaQ).X):zhu ⟨yf5,70,yvX⟩ 0 ytM 244 yaQ ydR ygS x=ya8 x:=by kernel_rfl
def ys0 (x:(ydW).X):Nat:=18446744073709551616
def ykV (x:(ydW).X):Option ((ydR).X ⊕ (ygS).X):=zF ya8 (ys0 x) (ysU x)
def ytE:Seg:=⟨ydW,ydR,ygS,ykV⟩
def ymg:Nat→Option Seg:=fun q=>bif Nat.beq q 61 then some ytE else yvX q
theorem yGt:FrOk prog ⟨yf5,70,ymg⟩ ycn:=(yGs).loop (sg:=ytE) yaQ ysU (by decide) yGm ya8 ys0 (by decide) (fun _=>rfl) (fun x r _ h=>h) yGY
def yaD:Shape:=⟨[(0,false,[.ptr 1000000000 0]),(1,false,[.int .i64]),(46,false,[.at 800000000]),(47,false,[.int .i64]),(48,false,[.int .i64])],[(1000000000,[.int .i64,.int .i64,.int .i64,.at 800000001,.int .i64,.int .i64,.int .i64,.int .i64,.int .i64,.at 800000002,.int .i64,.bool,.bool])],[(800000000,tI,.fz),(800000001,tM,(.pr (.ow (.ow .fz)) (.pr (.ow (.pr .fz (.ow .fz))) (.pr .fz (.ow .fz))))),(800000002,tW,(.pr .fz (.ow .fz)))]⟩
def ydh:Shape:=⟨[(0,false,[.ptr 1000000000 0]),(1,false,[.int .i64]),(46,false,[.at 800000000]),(47,false,[.int .i64]),(48,false,[.ci .i64 0])],[(1000000000,[.int .i64,.int .i64,.int .i64,.at 800000001,.int .i64,.int .i64,.int .i64,.int .i64,.int .i64,.at 800000002,.int .i64,.bool,.bool])],[(800000000,tI,.fz),(800000001,tM,(.pr (.ow (.ow .fz)) (.pr (.ow (.pr .fz (.ow .fz))) (.pr .fz (.ow .fz))))),(800000002,tW,(.pr .fz (.ow .fz)))]⟩
def yde:Shape:=⟨[],[(1000000000,[.int .i64,.int .i64,.int .i64,.at 800000000,.int .i64,.int .i64,.int .i64,.int .i64,.int .i64,.at 800000001,.int .i64,.bool,.bool])],[(800000000,tM,(.pr (.ow (.ow .fz)) (.pr (.ow (.pr .fz (.ow .fz))) (.pr .fz (.ow .fz))))),(800000001,tW,(.pr .fz (.ow .fz)))]⟩
def ydk:Shape:=⟨[(6,false,[.bool])],[(1000000000,[.int .i64,.int .i64,.int .i64,.at 800000000,.int .i64,.int .i64,.int .i64,.int .i64,.int .i64,.at 800000001,.int .i64,.bool,.bool])],[(800000000,tM,(.pr (.ow (.ow .fz)) (.pr (.ow (.pr .fz (.ow .fz))) (.pr .fz (.ow .fz))))),(800000001,tW,(.pr .fz (.ow .fz)))]⟩
abbrev yjb (v0 v1 v2:Int) (v3:dA) (v4:List Int):(yaD).X:=((((),()),(v0,()),((),()),(v1,()),(v2,()),()),((v3.1,v3.2.1.1,v3.2.1.2,(),v3.2.2.2.1,v3.2.2.2.2.1,v3.2.2.2.2.2.1,v3.2.2.2.2.2.2.1,v3.2.2.2.2.2.2.2.1,(),v3.2.2.2.2.2.2.2.2.2.1,v3.2.2.2.2.2.2.2.2.2.2.1,v3.2.2.2.2.2.2.2.2.2.2.2,()),()),(v4,v3.2.2.1,v3.2.2.2.2.2.2.2.2.1,()))
abbrev yE3 (v0 v1:Int) (v2:dA) (v3:List Int):(ydh).X:=((((),()),(v0,()),((),()),(v1,()),((),()),()),((v2.1,v2.2.1.1,v2.2.1.2,(),v2.2.2.2.1,v2.2.2.2.2.1,v2.2.2.2.2.2.1,v2.2.2.2.2.2.2.1,v2.2.2.2.2.2.2.2.1,(),v2.2.2.2.2.2.2.2.2.2.1,v2.2.2.2.2.2.2.2.2.2.2.1,v2.2.2.2.2.2.2.2.2.2.2.2,()),()),(v3,v2.2.2.1,v2.2.2.2.2.2.2.2.2.1,()))
abbrev yje (v0:dA):(yde).X:=((),((v0.1,v0.2.1.1,v0.2.1.2,(),v0.2.2.2.1,v0.2.2.2.2.1,v0.2.2.2.2.2.1,v0.2.2.2.2.2.2.1,v0.2.2.2.2.2.2.2.1,(),v0.2.2.2.2.2.2.2.2.2.1,v0.2.2.2.2.2.2.2.2.2.2.1,v0.2.2.2.2.2.2.2.2.2.2.2,()),()),(v0.2.2.1,v0.2.2.2.2.2.2.2.2.1,()))
abbrev yjh (v0:Bool) (v1:dA):(ydk).X:=(((v0,()),()),((v1.1,v1.2.1.1,v1.2.1.2,(),v1.2.2.2.1,v1.2.2.2.2.1,v1.2.2.2.2.2.1,v1.2.2.2.2.2.2.1,v1.2.2.2.2.2.2.2.1,(),v1.2.2.2.2.2.2.2.2.2.1,v1.2.2.2.2.2.2.2.2.2.2.1,v1.2.2.2.2.2.2.2.2.2.2.2,()),()),(v1.2.2.1,v1.2.2.2.2.2.2.2.2.1,()))
def yjC (v0 v1 v2 v3 v4 v5 v6 v7 v8 v9 v10 v11:Int) (v12 v13:Bool) (v14:List Int) (v15:List dM) (v16:List dW):Option ((yaD).X ⊕ ((yde).X ⊕ (ydk).X)) :=bif(ltb v2 v1)then bif(inb v2 v14.length)then let r10:=ye7 (v3,(v4,v5),v15,v6,v7,v8,v9,v10,v16,v11,v12,v13) v2 v0;bif r10 then let r11:=yg7 v0;bnd (yec (v3,(v4,v5),v15,v6,v7,v8,v9,v10,v16,v11,v12,v13) v2 r11 ([(nth v14 v2 0)]:List Int)) fun r12 =>bif(!r12.1.1)then some (.inr (.inr (((false,()),()),((r12.2.1.1,r12.2.1.2.1.1,r12.2.1.2.1.2,(),r12.2.1.2.2.2.1,r12.2.1.2.2.2.2.1,r12.2.1.2.2.2.2.2.1,r12.2.1.2.2.2.2.2.2.1,r12.2.1.2.2.2.2.2.2.2.1,(),r12.2.1.2.2.2.2.2.2.2.2.2.1,r12.2.1.2.2.2.2.2.2.2.2.2.2.1,r12.2.1.2.2.2.2.2.2.2.2.2.2.2,()),()),(r12.2.1.2.2.1,r12.2.1.2.2.2.2.2.2.2.2.1,())))) else some (.inl ((((),()),(v0,()),((),()),(v1,()),((i64.wrap (v2+1)),()),()),((r12.2.1.1,r12.2.1.2.1.1,r12.2.1.2.1.2,(),r12.2.1.2.2.2.1,r12.2.1.2.2.2.2.1,r12.2.1.2.2.2.2.2.1,r12.2.1.2.2.2.2.2.2.1,r12.2.1.2.2.2.2.2.2.2.1,(),r12.2.1.2.2.2.2.2.2.2.2.2.1,r12.2.1.2.2.2.2.2.2.2.2.2.2.1,r12.2.1.2.2.2.2.2.2.2.2.2.2.2,()),()),(v14,r12.2.1.2.2.1,r12.2.1.2.2.2.2.2.2.2.2.1,()))) else some (.inl ((((),()),(v0,()),((),()),(v1,()),((i64.wrap (v2+1)),()),()),((v3,v4,v5,(),v6,v7,v8,v9,v10,(),v11,v12,v13,()),()),(v14,v15,v16,()))) else none else some (.inr (.inl ((),((v3,v4,v5,(),v6,v7,v8,v9,v10,(),v11,v12,v13,()),()),(v15,v16,()))))
def yaN (x:(yaD).X):=yjC x.1.2.1.1 x.1.2.2.2.1.1 x.1.2.2.2.2.1.1 x.2.1.1.1 x.2.1.1.2.1 x.2.1.1.2.2.1 x.2.1.1.2.2.2.2.1 x.2.1.1.2.2.2.2.2.1 x.2.1.1.2.2.2.2.2.2.1 x.2.1.1.2.2.2.2.2.2.2.1 x.2.1.1.2.2.2.2.2.2.2.2.1 x.2.1.1.2.2.2.2.2.2.2.2.2.2.1 x.2.1.1.2.2.2.2.2.2.2.2.2.2.2.1 x.2.1.1.2.2.2.2.2.2.2.2.2.2.2.2.1 x.2.2.1 x.2.2.2.1 x.2.2.2.2.1
def yra (x:(ydh).X):(yaD).X:=((((),()),(x.1.2.1.1,()),((),()),(x.1.2.2.2.1.1,()),(0,()),()),((x.2.1.1.1,x.2.1.1.2.1,x.2.1.1.2.2.1,(),x.2.1.1.2.2.2.2.1,x.2.1.1.2.2.2.2.2.1,x.2.1.1.2.2.2.2.2.2.1,x.2.1.1.2.2.2.2.2.2.2.1,x.2.1.1.2.2.2.2.2.2.2.2.1,(),x.2.1.1.2.2.2.2.2.2.2.2.2.2.1,x.2.1.1.2.2.2.2.2.2.2.2.2.2.2.1,x.2.1.1.2.2.2.2.2.2.2.2.2.2.2.2.1,()),()),(x.2.2.1,x.2.2.2.1,x.2.2.2.2.1,()))
def ysE:Code:=(zd7 ycn 64 500).getD .skip
theorem yFx:zd7 ycn 64 125=some (.block 2 (.loop ysE)):=by kernel_rfl
theorem yF2 (x:(yaD).X):zhu ⟨yf5,70,ymg⟩ 2 ysE 500 yaD yde ydk x=yaN x:=by kernel_rfl
def yrf (x:(ydh).X):Nat:=18446744073709551616
def yjM (x:(ydh).X):Option ((yde).X ⊕ (ydk).X):=zF yaN (yrf x) (yra x)
def yrl:Seg:=⟨ydh,yde,ydk,yjM⟩
def yG5:Nat→Option Seg:=fun q=>bif Nat.beq q 125 then some yrl else ymg q
theorem yGu:FrOk prog ⟨yf5,70,yG5⟩ ycn:=(yGt).loop (sg:=yrl) yaD yra (by decide) yFx yaN yrf (by decide) (fun _=>rfl) (fun x r _ h=>h) yF2
abbrev yf9:List Par:= [.pt tA (.pr .fz (.pr (.pr .fz .fz) (.pr (.ow (.pr (.ow (.ow .fz)) (.pr (.ow (.pr .fz (.ow .fz))) (.pr .fz (.ow .fz))))) (.pr .fz (.pr .fz (.pr .fz (.pr .fz (.pr .fz (.pr (.ow (.pr .fz (.ow .fz))) (.pr .fz (.pr .fz .fz))))))))))),.rd tI,.rd tL]
abbrev yjQ:List OT:= [⟨false,tB,.fz⟩]
def ym0 (a0:dA) (a1:Int) (a2:List Int):Option (zaY yjQ×zak yf9) :=bif(zks a0.2.1.1 8)then let r1:=ydn a0.2.1 a1;let r2:=yiL a2;bif(inb r1 (List.replicate (a0.2.1.1).toNat (0:Int)).length)then let r3:=((List.replicate (a0.2.1.1).toNat (0:Int)).set (r1).toNat r2);zkt (ykV ((((),()),(a1,()),((),()),(a2,()),((a2.length:Int),()),((),()),()),((a0.1,a0.2.1.1,a0.2.1.2,(),a0.2.2.2.1,a0.2.2.2.2.1,a0.2.2.2.2.2.1,a0.2.2.2.2.2.2.1,a0.2.2.2.2.2.2.2.1,(),a0.2.2.2.2.2.2.2.2.2.1,a0.2.2.2.2.2.2.2.2.2.2.1,a0.2.2.2.2.2.2.2.2.2.2.2,()),()),(r3,a0.2.2.1,a0.2.2.2.2.2.2.2.2.1,()))) (fun y5 =>zkt (yjM ((((),()),(y5.1.2.1.1,()),((),()),((y5.2.2.1.length:Int),()),((),()),()),((y5.2.1.1.1,y5.2.1.1.2.1,y5.2.1.1.2.2.1,(),y5.2.1.1.2.2.2.2.1,y5.2.1.1.2.2.2.2.2.1,y5.2.1.1.2.2.2.2.2.2.1,y5.2.1.1.2.2.2.2.2.2.2.1,y5.2.1.1.2.2.2.2.2.2.2.2.1,(),y5.2.1.1.2.2.2.2.2.2.2.2.2.2.1,y5.2.1.1.2.2.2.2.2.2.2.2.2.2.2.1,y5.2.1.1.2.2.2.2.2.2.2.2.2.2.2.2.1,()),()),(y5.2.2.1,y5.2.2.2.1,y5.2.2.2.2.1,()))) (fun y12 =>some ((true,()),((y12.2.1.1.1,(y12.2.1.1.2.1,y12.2.1.1.2.2.1),y12.2.2.1,y12.2.1.1.2.2.2.2.1,y12.2.1.1.2.2.2.2.2.1,y12.2.1.1.2.2.2.2.2.2.1,y12.2.1.1.2.2.2.2.2.2.2.1,y12.2.1.1.2.2.2.2.2.2.2.2.1,y12.2.2.2.1,y12.2.1.1.2.2.2.2.2.2.2.2.2.2.1,y12.2.1.1.2.2.2.2.2.2.2.2.2.2.2.1,y12.2.1.1.2.2.2.2.2.2.2.2.2.2.2.2.1),()))) (fun y12 =>some ((y12.1.1.1,()),((y12.2.1.1.1,(y12.2.1.1.2.1,y12.2.1.1.2.2.1),y12.2.2.1,y12.2.1.1.2.2.2.2.1,y12.2.1.1.2.2.2.2.2.1,y12.2.1.1.2.2.2.2.2.2.1,y12.2.1.1.2.2.2.2.2.2.2.1,y12.2.1.1.2.2.2.2.2.2.2.2.1,y12.2.2.2.1,y12.2.1.1.2.2.2.2.2.2.2.2.2.2.1,y12.2.1.1.2.2.2.2.2.2.2.2.2.2.2.1,y12.2.1.1.2.2.2.2.2.2.2.2.2.2.2.2.1),())))) (fun y5 =>none) else none else none
theorem yIz:ConOk prog 98 ⟨yf9,yjQ,fun x=>ym0 x.1 x.2.1 x.2.2.1⟩:=zkI (yGu) func98 ntmps98.symm fun x=>by kernel_rfl
def ykb (a0:dA) (a1:Int) (a2:List Int):Bool×dA:=(!(yb (yK a0 a1 a2)),yK a0 a1 a2)
def ygJ (a0:dA) (a1:Int) (a2:List Int):Bool:= !(yb a0)&&(yX a0.2.1 a1&&((a2.length:Int)==a0.2.1.1-1&&(a0.2.2.1.length:Int)==a0.2.1.1))
theorem yKL (a0:dA) (a1:Int) (a2:List Int) (hk:zjx yf9 (a0,a1,a2,())) (hq:ygJ a0 a1 a2=true):ym0 a0 a1 a2=(fun n=>some ((n.1,()),(n.2,()))) (ykb a0 a1 a2):=by
 simp only[ygJ,Bool.and_eq_true,beq_iff_eq,Bool.not_eq_true']at hq;obtain⟨hd0,hs0,hl0,hm0⟩:=hq;have hg:=yk.1 (yaq.1 hs0).1;have hp:=yjH hs0;have hL:=yZo (N:=a0.2.1.1) (p:=yg a0.2.1 a1) (x:=yao a2) (data:=a2) ⟨by omega,by omega⟩ hp hl0;generalize hw:(List.range a0.2.1.1.toNat).map (fun(i:Nat)=>ycY (yg a0.2.1 a1) a0.2.1.1 (yao a2) a2 i)=W at hL;have hWl:W.length=a0.2.2.1.length:=by rw[← hw,List.length_map,List.length_range]; omega
 have hWat: ∀i:Nat,i<a0.2.2.1.length→nth W i 0=ycY (yg a0.2.1 a1) a0.2.1.1 (yao a2) a2 i:=fun i hi=>by
  rw[← hw,zkS,zkJ (by rw[List.length_map,List.length_range]; omega)]; simp
 have h1:ykV (yFO a1 a2 a2.length a0 ((List.replicate a0.2.1.1.toNat 0).set (yg a0.2.1 a1).toNat (yao a2)))=some (.inl (yta a1 a0 W)):=by
  have:=zkD (step:=ya8) a2.length (fun i s=>yj6 a1 a2 a2.length i a0 s) (fun l (i:Nat)=>l.set ((yg a0.2.1 a1+1+i).tmod a0.2.1.1).toNat (nth a2 i 0)) (fun _ s=>s.length=a0.2.1.1.toNat) (fun s=> .inl (yta a1 a0 s)) (fun i s hi hs=>⟨by
   have hd:=yTr hs0 (show(0:Int)≤i by omega) (show(i:Int)≤a0.2.1.1-2 by omega);have he:ybl a0.2.1 a1 i=(yg a0.2.1 a1+1+i).tmod a0.2.1.1:=by unfold ybl; rw[hs0,zk2 (show(0:Int)≤i by omega),zk2 (show(i:Int)≤a0.2.1.1-2 by omega)]; rfl
   simp only[ya8,yj6,yki,zky (show(i:Int)<a2.length by omega),cond_true,wq ((i:Int)+1) (by omega) (by omega),Int.natCast_add,Int.natCast_one,Int.toNat_natCast,zkR hi,zkX,ye6,zj6.2 (show 0≤ybl a0.2.1 a1 i∧ybl a0.2.1 a1 i<s.length by omega)]
   rw[he],by rw[List.length_set]; exact hs⟩) (fun s hs=>by simp only[ya8,yj6,yki,zk3 (Int.le_refl _),cond_false]) ((List.replicate a0.2.1.1.toNat 0).set (yg a0.2.1 a1).toNat (yao a2)) (by rw[List.length_set,List.length_replicate]) 18446744073709551616 (by omega)
  rw[hL]at this;exact this
 have h2:yjM (yE3 a1 W.length a0 W)=some (bif yb (yK a0 a1 a2)then .inr (yjh false (yK a0 a1 a2))else .inl (yje (yK a0 a1 a2))):=by
  have:=zkC (step:=yaN) a0.2.2.1.length (fun i s=>yjb a1 W.length i s W) (fun i s=>bif yb (ya6 (yg a0.2.1 a1) a0.2.1.1 a1 a2 s i)then(.inr (ya6 (yg a0.2.1 a1) a0.2.1.1 a1 a2 s i):dA ⊕ dA)else .inl (ya6 (yg a0.2.1 a1) a0.2.1.1 a1 a2 s i)) (fun _ s=>s.2.2.1.length=a0.2.2.1.length∧yb s=false) id
   (fun b=>bif yb b then .inr (yjh false b)else .inl (yje b)) (fun i s hi hs=>by
    constructor
    ·simp only[yaN,yjb,yjC,zky (show(i:Int)<W.length by omega),cond_true,wq ((i:Int)+1) (by omega) (by omega),Int.natCast_add,Int.natCast_one,Int.toNat_natCast,zkR (show i<W.length by omega),zkX,ye7,yvo,hWat i hi,ya6]
     rw[yoD s i (yQ a1) [ycY (yg a0.2.1 a1) a0.2.1.1 (yao a2) a2 i] (by unfold ycC; rw[zkR (by rw[hs.1]; exact hi),hs.2]; rfl)];cases hlv:ycf s i a1
     ·simp only[cond_false,hs.2]
     ·simp only[zkH,ycy,cond_true]
      cases hd:yb (ycB s i (yQ a1) [ycY (yg a0.2.1 a1) a0.2.1.1 (yao a2) a2 i])
      ·rfl
      ·simp only[hd,Bool.not_true,Bool.not_false,cond_true,yjh]
    ·intro s' h
     cases hd:yb (ya6 (yg a0.2.1 a1) a0.2.1.1 a1 a2 s i)
     ·rw[hd]at h
      cases h;exact⟨(yvT _ _ _ _ s i).trans hs.1,hd⟩
     ·rw[hd]at h; cases h) (fun s hs=>by simp only[yaN,yjb,yjC,hs.2,hWl,zk3 (Int.le_refl _),cond_false,id,yje]) a0 ⟨rfl,hd0⟩ 18446744073709551616 (by omega)
  rw[yBO (fun a i h=>yHo _ _ _ _ i h),← List.range_eq_range']at this;exact this
 unfold ym0 ykb ydn yiL yeI;rw[zkM.2 (show 0≤a0.2.1.1∧a0.2.1.1*((8:Nat):Int)≤140737488355328 by omega)];simp only[cond_true];rw[zj6.2 (show 0≤yg a0.2.1 a1∧yg a0.2.1 a1<((List.replicate a0.2.1.1.toNat (0:Int)).length:Int)by rw[List.length_replicate]; omega),cond_true];refine(congrArg (fun z=>zkt z _ _) h1).trans ?_;rw[zkN];refine(congrArg (fun z=>zkt z _ _) h2).trans ?_;cases hd:yb (yK a0 a1 a2)
 ·rfl
 ·simp only[cond_true,zkO,zkX]; rfl
def ycz (a0:dA) (a1:Int) (a2:List Int):Option (zaY yjQ×zak yf9):=bif ygJ a0 a1 a2 then(fun n=>some ((n.1,()),(n.2,()))) (ykb a0 a1 a2)else none
theorem yLj (a0:dA) (a1:Int) (a2:List Int) (h:ygJ a0 a1 a2=true):ycz a0 a1 a2=(fun n=>some ((n.1,()),(n.2,()))) (ykb a0 a1 a2):=by unfold ycz; rw[h]; rfl
def ywb:Con:=⟨yf9,yjQ,fun x=>ycz x.1 x.2.1 x.2.2.1⟩
theorem yLg:ConOk prog 98 ywb:=(yIz).mono (fun x r hk h=>zkY h (fun hq=>yKL x.1 x.2.1 x.2.2.1 hk hq))
def ySB:Code:=(f212.body).getD .skip
def yS5:Env:=zkw TT [(81,yA),(123,yfW),(125,ysP)] []
theorem yJS:FrOk prog ⟨yS5,44,fun _=>none⟩ ySB:=zkA mixed yc ⟨yN,ykJ,yFc,trivial⟩
abbrev yuG:List Par:= [.rd tS]
abbrev yuV:List OT:= [⟨false,tB,.fz⟩]
def yCc (a0:dS):Option (zaY yuV×zak yuG) :=let r1:=yf a0.1 1 60000;bif r1 then let r2:=yf a0.2.1 0 60000;bif r2 then let r3:=yf a0.2.2.2.2.2.1 0 60000;bif r3 then let r4:=ybm (a0.2.2.2.1,a0.2.2.2.2.1);bif r4 then let r5:=yf a0.2.2.1 0 (i64.wrap (a0.2.2.2.1-1));bif r5 then let r6:=ye8 (a0.2.2.2.1,a0.2.2.2.2.1) a0.2.2.2.2.2.2.1 a0.2.2.2.2.2.2.2;some ((r6,()),()) else some ((false,()),()) else some ((false,()),()) else some ((false,()),()) else some ((false,()),()) else some ((false,()),())
theorem yN5:ConOk prog 212 ⟨yuG,yuV,fun x=>yCc x.1⟩:=zkI (yJS) func212 ntmps212.symm fun x=>by kernel_rfl
def yf0 (a0:dS):Bool :=let r1:=yf a0.1 1 60000;bif r1 then let r2:=yf a0.2.1 0 60000;bif r2 then let r3:=yf a0.2.2.2.2.2.1 0 60000;bif r3 then let r4:=ybm (a0.2.2.2.1,a0.2.2.2.2.1);bif r4 then let r5:=yf a0.2.2.1 0 (i64.wrap (a0.2.2.2.1-1));bif r5 then let r6:=ye8 (a0.2.2.2.1,a0.2.2.2.2.1) a0.2.2.2.2.2.2.1 a0.2.2.2.2.2.2.2;r6 else false else false else false else false else false
def yA4:Con:=⟨yuG,yuV,fun x=>(fun n=>some ((n,()),())) (yf0 x.1)⟩
theorem yQR (a0:dS):yCc a0=(fun n=>some ((n,()),())) (yf0 a0):=zkV (p:=fun(n:Bool)=>((n,()),())) (zkG (p:=fun(n:Bool)=>((n,()),())) (zkG (p:=fun(n:Bool)=>((n,()),())) (zkG (p:=fun(n:Bool)=>((n,()),())) (zkG (p:=fun(n:Bool)=>((n,()),())) (zkG (p:=fun(n:Bool)=>((n,()),())) rfl rfl) rfl) rfl) rfl) rfl)
theorem yRW:ConOk prog 212 yA4:=(yN5).mono (fun x r _ h=>(yQR x.1).trans h)
theorem yWt (s:dS):yf0 s=yaw s:=by
 rw[Bool.eq_iff_iff,yYA];unfold yf0 ye8;simp only[yH1,y9];cases hg:ye (s.2.2.2.1,s.2.2.2.2.1)
 ·cases ya s.1 1 60000<;>cases ya s.2.1 0 60000<;>cases ya s.2.2.2.2.2.1 0 60000<;>simp
 have hg2:=yk.1 hg;simp only at hg2;rw[wq (s.2.2.2.1-1) (by omega) (by omega)];simp only[← ys7];cases ya s.1 1 60000
 ·simp
 cases ya s.2.1 0 60000
 ·simp
 cases ya s.2.2.2.2.2.1 0 60000
 ·simp
 cases ya s.2.2.1 0 (s.2.2.2.1-1)
 ·simp
 cases hl:ya s.2.2.2.2.2.2.1 (-1) (s.2.2.2.1-1)
 ·simp
 cases ya s.2.2.2.2.2.2.2 0 s.2.2.2.2.1
 ·simp
 have:=ys7.1 hl;by_cases h0:s.2.2.2.2.2.2.2=0
 ·simp[h0]
 ·simp[h0]; omega
end
end Go.Tf
