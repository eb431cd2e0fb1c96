/- Functions of the program, and what they come to. -/
import Derived.Test.YtolmneojjjpnjaaGreatSpoiltF1
namespace Go.Tf
noncomputable section
open Go.Proofs Go.Proofs.Tryz IntKind
set_option synthInstance.maxHeartbeats 400000
set_option synthInstance.maxSize 10000
set_option linter.unusedVariables false
set_option linter.unusedSimpArgs false
set_option maxRecDepth 100000
def yKH:Code:=(f181.body).getD .skip
def yK5:Env:=zkw TT [(215,yvl),(218,yz8)] []
theorem yEi:FrOk prog ⟨yK5,28,fun _=>none⟩ yKH:=zkA mixed yc ⟨yET,yPS,trivial⟩
abbrev ygj:List Par:= [.rd tA,.rd tI]
abbrev ykx:List OT:= [⟨false,tL,(.ow .fz)⟩,⟨false,tB,.fz⟩]
def ynb (a0:dA) (a1:Int):Option (zaY ykx×zak ygj) :=let r1:=yhm a0 a1;bif(leb 0 r1)then bif(inb r1 a0.2.2.2.2.2.2.2.2.1.length)then bif(zkl ([]:List Int).length ((nth a0.2.2.2.2.2.2.2.2.1 r1 (0,[])).2).length 8)then some (((([]:List Int)++((nth a0.2.2.2.2.2.2.2.2.1 r1 (0,[])).2)),true,()),()) else none else none else bif a0.2.2.2.2.2.2.2.2.2.2.2 then some ((([]:List Int),false,()),()) else bnd (yn2 a0 a1) fun r2 =>some ((r2.1.1,r2.1.2.1,()),())
theorem yG6:ConOk prog 181 ⟨ygj,ykx,fun x=>ynb x.1 x.2.1⟩:=zkI (yEi) func181 ntmps181.symm fun x=>by kernel_rfl
def yg8 (a0:dA) (a1:Int):List Int×Bool:=ycp a0 a1
def yqZ (a0:dA) (a1:Int):Bool:=yO a0.2.1 a1
theorem yJD (a0:dA) (a1:Int) (hk:zjx ygj (a0,a1,())) (hq:yqZ a0 a1=true):ynb a0 a1=(fun n=>some ((n.1,n.2,()),())) (yg8 a0 a1):=by
 unfold ynb yg8 ycp yhm;rw[yP0 a0 a1 hq];simp only[List.nil_append];cases h:leb 0 (yaa a0.2.2.2.2.2.2.2.2.1 a1)
 ·cases a0.2.2.2.2.2.2.2.2.2.2.2<;>rfl
 ·have h1:=(yoq (d:=((0,[]):dW)) h).1
  have h2:(nth a0.2.2.2.2.2.2.2.2.1 (yaa a0.2.2.2.2.2.2.2.2.1 a1) (0,[])).2.length*8≤2^47:=ywU (P:=fun x:dW=>x.2.length*8≤2^47) h1 (fun x hx=>(hk.1.2.2.2.2.2.2.2.2.1.2 x hx).2.1);rw[show inb (yaa a0.2.2.2.2.2.2.2.2.1 a1) a0.2.2.2.2.2.2.2.2.1.length=true from h1,zkF.2 (show(([]:List Int).length+(nth a0.2.2.2.2.2.2.2.2.1 (yaa a0.2.2.2.2.2.2.2.2.1 a1) (0,[])).2.length)*8≤140737488355328 by rw[List.length_nil]; omega)]; rfl
def ykR (a0:dA) (a1:Int):Option (zaY ykx×zak ygj):=bif yqZ a0 a1 then(fun n=>some ((n.1,n.2,()),())) (yg8 a0 a1)else none
theorem yKi (a0:dA) (a1:Int) (h:yqZ a0 a1=true):ykR a0 a1=(fun n=>some ((n.1,n.2,()),())) (yg8 a0 a1):=by unfold ykR; rw[h]; rfl
def yv2:Con:=⟨ygj,ykx,fun x=>ykR x.1 x.2.1⟩
theorem yKf:ConOk prog 181 yv2:=(yG6).mono (fun x r hk h=>zkY h (fun hq=>yJD x.1 x.2.1 hk hq))
def yNX:Code:=(f182.body).getD .skip
def yOn:Env:=zkw TT [(82,yz),(119,ykJ)] []
theorem yF9:FrOk prog ⟨yOn,16,fun _=>none⟩ yNX:=zkA mixed yc ⟨yF,ysL,trivial⟩
abbrev ylX:List Par:= [.rd tG,.rd tI]
abbrev yst:List OT:= [⟨false,tI,.fz⟩]
def yoN (a0:dG) (a1:Int):Option (zaY yst×zak ylX) :=let r1:=yw a0;let r2:=ya a1 0 (i64.wrap (r1-1));bif(!r2)then some (((-1),()),()) else bif((i64.wrap (a0.1-1)) !=0)then some (((a1.tmod (i64.wrap (a0.1-1))),()),()) else none
theorem yJQ:ConOk prog 182 ⟨ylX,yst,fun x=>yoN x.1 x.2.1⟩:=zkI (yF9) func182 ntmps182.symm fun x=>by kernel_rfl
def yil (a0:dG) (a1:Int):Int:=ysH a0 a1
theorem yMq (a0:dG) (a1:Int) (hk:zjx ylX (a0,a1,())):yoN a0 a1=(fun n=>some ((n,()),())) (yil a0 a1):=by
 unfold yoN yil ysH;simp only[yUk];cases hb:ykF a0 a1
 ·rfl
 ·obtain⟨h1,h2,h3⟩:=yzE hb
  have h4:=yl.1 h1;rw[wq (a0.1-1) (by omega) (by omega),show(a0.1-1 !=0)=true from bne_iff_ne.2 (by omega)]; rfl
def yx3:Con:=⟨ylX,yst,fun x=>(fun n=>some ((n,()),())) (yil x.1 x.2.1)⟩
theorem yNn:ConOk prog 182 yx3:=(yJQ).mono (fun x r hk h=>(yMq x.1 x.2.1 hk).trans h)
def ypt:Code:=(f183.body).getD .skip
def yxe:Env:=zkw TT [] [(4096,(.pr .fz .fz)),(28800,(.pr .fz .fz)),(41472,(.pr .fz .fz)),(49280,(.pr .fz .fz))]
theorem yLY:FrOk prog ⟨yxe,67,fun _=>none⟩ ypt:=zkA mixed yc trivial
def yBl:Nat→Option Seg:=fun _=>none
def ycO:Shape:=⟨[(0,false,[.ptr 1000000000 0]),(3,false,[.ptr 0 0]),(4,false,[.at 800000000]),(5,false,[.bool]),(6,false,[.int .i64])],[(0,[.int .i64,.fz tI]),(1000000000,[.int .i64,.int .i64,.int .i64,.at 800000001,.int .i64,.int .i64,.int .i64,.int .i64,.int .i64,.at 800000002,.int .i64,.bool,.bool])],[(800000000,tW,(.pr .fz .fz)),(800000001,tM,(.pr (.ow .fz) (.pr (.ow (.pr .fz .fz)) (.pr .fz (.ow .fz))))),(800000002,tW,(.pr .fz .fz))]⟩
def ygL:Shape:=⟨[(0,false,[.ptr 1000000000 0]),(3,false,[.ptr 0 0]),(4,false,[.at 800000000]),(5,false,[.cb false]),(6,false,[.ci .i64 0])],[(0,[.int .i64,.fz tI]),(1000000000,[.int .i64,.int .i64,.int .i64,.at 800000001,.int .i64,.int .i64,.int .i64,.int .i64,.int .i64,.at 800000002,.int .i64,.bool,.bool])],[(800000000,tW,(.pr .fz .fz)),(800000001,tM,(.pr (.ow .fz) (.pr (.ow (.pr .fz .fz)) (.pr .fz (.ow .fz))))),(800000002,tW,(.pr .fz .fz))]⟩
def ygx:Shape:=⟨[(0,false,[.ptr 1000000000 0]),(3,false,[.ptr 0 0]),(4,false,[.at 800000000]),(5,false,[.bool])],[(0,[.int .i64,.fz tI]),(1000000000,[.int .i64,.int .i64,.int .i64,.at 800000001,.int .i64,.int .i64,.int .i64,.int .i64,.int .i64,.at 800000002,.int .i64,.bool,.bool])],[(800000000,tW,(.pr .fz .fz)),(800000001,tM,(.pr (.ow .fz) (.pr (.ow (.pr .fz .fz)) (.pr .fz (.ow .fz))))),(800000002,tW,(.pr .fz .fz))]⟩
def ykE:Shape:=⟨[],[],[]⟩
abbrev yoD (v0:Bool) (v1:Int) (v2:dW) (v3:dA) (v4:List dW):(ycO).X:=((((),()),((),()),((),()),(v0,()),(v1,()),()),((v2.1,v2.2,()),(v3.1,v3.2.1.1,v3.2.1.2,(),v3.2.2.2.1,v3.2.2.2.2.1,v3.2.2.2.2.2.1,v3.2.2.2.2.2.2.1,v3.2.2.2.2.2.2.2.1,(),v3.2.2.2.2.2.2.2.2.2.1,v3.2.2.2.2.2.2.2.2.2.2.1,v3.2.2.2.2.2.2.2.2.2.2.2,()),()),(v4,v3.2.2.1,v3.2.2.2.2.2.2.2.2.1,()))
abbrev yJc (v0:dW) (v1:dA) (v2:List dW):(ygL).X:=((((),()),((),()),((),()),((),()),((),()),()),((v0.1,v0.2,()),(v1.1,v1.2.1.1,v1.2.1.2,(),v1.2.2.2.1,v1.2.2.2.2.1,v1.2.2.2.2.2.1,v1.2.2.2.2.2.2.1,v1.2.2.2.2.2.2.2.1,(),v1.2.2.2.2.2.2.2.2.2.1,v1.2.2.2.2.2.2.2.2.2.2.1,v1.2.2.2.2.2.2.2.2.2.2.2,()),()),(v2,v1.2.2.1,v1.2.2.2.2.2.2.2.2.1,()))
abbrev yIZ (v0:Bool) (v1:dW) (v2:dA) (v3:List dW):(ygx).X:=((((),()),((),()),((),()),(v0,()),()),((v1.1,v1.2,()),(v2.1,v2.2.1.1,v2.2.1.2,(),v2.2.2.2.1,v2.2.2.2.2.1,v2.2.2.2.2.2.1,v2.2.2.2.2.2.2.1,v2.2.2.2.2.2.2.2.1,(),v2.2.2.2.2.2.2.2.2.2.1,v2.2.2.2.2.2.2.2.2.2.2.1,v2.2.2.2.2.2.2.2.2.2.2.2,()),()),(v3,v2.2.2.1,v2.2.2.2.2.2.2.2.2.1,()))
def yo8 (v0:Bool) (v1 v2:Int) (v3:List Int) (v4 v5 v6 v7 v8 v9 v10 v11 v12:Int) (v13 v14:Bool) (v15:List dW) (v16:List dM) (v17:List dW):Option ((ycO).X ⊕ ((ygx).X ⊕ (ykE).X)) :=bif(ltb v1 (v17.length:Int))then bif(!v0)then bif(inb v1 v17.length)then bif(leb v2 ((nth v17 v1 (0,[])).1))then bif(zkl v15.length ([(v2,v3)]:List dW).length 32)then bif(inb v1 v17.length)then bif((nth v17 v1 (0,[])).1 !=v2)then bif(inb v1 v17.length)then bif(zkl (v15++([(v2,v3)]:List dW)).length ([(nth v17 v1 (0,[]))]:List dW).length 32)then some (.inl ((((),()),((),()),((),()),(true,()),((i64.wrap (v1+1)),()),()),((v2,v3,()),(v4,v5,v6,(),v7,v8,v9,v10,v11,(),v12,v13,v14,()),()),(((v15++([(v2,v3)]:List dW))++([(nth v17 v1 (0,[]))]:List dW)),v16,v17,()))) else none else none else some (.inl ((((),()),((),()),((),()),(true,()),((i64.wrap (v1+1)),()),()),((v2,v3,()),(v4,v5,v6,(),v7,v8,v9,v10,v11,(),v12,v13,v14,()),()),((v15++([(v2,v3)]:List dW)),v16,v17,()))) else none else none else bif(inb v1 v17.length)then bif((nth v17 v1 (0,[])).1 !=v2)then bif(inb v1 v17.length)then bif(zkl v15.length ([(nth v17 v1 (0,[]))]:List dW).length 32)then some (.inl ((((),()),((),()),((),()),(v0,()),((i64.wrap (v1+1)),()),()),((v2,v3,()),(v4,v5,v6,(),v7,v8,v9,v10,v11,(),v12,v13,v14,()),()),((v15++([(nth v17 v1 (0,[]))]:List dW)),v16,v17,()))) else none else none else some (.inl ((((),()),((),()),((),()),(v0,()),((i64.wrap (v1+1)),()),()),((v2,v3,()),(v4,v5,v6,(),v7,v8,v9,v10,v11,(),v12,v13,v14,()),()),(v15,v16,v17,()))) else none else none else bif(inb v1 v17.length)then bif((nth v17 v1 (0,[])).1 !=v2)then bif(inb v1 v17.length)then bif(zkl v15.length ([(nth v17 v1 (0,[]))]:List dW).length 32)then some (.inl ((((),()),((),()),((),()),(v0,()),((i64.wrap (v1+1)),()),()),((v2,v3,()),(v4,v5,v6,(),v7,v8,v9,v10,v11,(),v12,v13,v14,()),()),((v15++([(nth v17 v1 (0,[]))]:List dW)),v16,v17,()))) else none else none else some (.inl ((((),()),((),()),((),()),(v0,()),((i64.wrap (v1+1)),()),()),((v2,v3,()),(v4,v5,v6,(),v7,v8,v9,v10,v11,(),v12,v13,v14,()),()),(v15,v16,v17,()))) else none else some (.inr (.inl ((((),()),((),()),((),()),(v0,()),()),((v2,v3,()),(v4,v5,v6,(),v7,v8,v9,v10,v11,(),v12,v13,v14,()),()),(v15,v16,v17,()))))
def ydg (x:(ycO).X):=yo8 x.1.2.2.2.1.1 x.1.2.2.2.2.1.1 x.2.1.1.1 x.2.1.1.2.1 x.2.1.2.1.1 x.2.1.2.1.2.1 x.2.1.2.1.2.2.1 x.2.1.2.1.2.2.2.2.1 x.2.1.2.1.2.2.2.2.2.1 x.2.1.2.1.2.2.2.2.2.2.1 x.2.1.2.1.2.2.2.2.2.2.2.1 x.2.1.2.1.2.2.2.2.2.2.2.2.1 x.2.1.2.1.2.2.2.2.2.2.2.2.2.2.1 x.2.1.2.1.2.2.2.2.2.2.2.2.2.2.2.1 x.2.1.2.1.2.2.2.2.2.2.2.2.2.2.2.2.1 x.2.2.1 x.2.2.2.1 x.2.2.2.2.1
def yyp (x:(ygL).X):(ycO).X:=((((),()),((),()),((),()),(false,()),(0,()),()),((x.2.1.1.1,x.2.1.1.2.1,()),(x.2.1.2.1.1,x.2.1.2.1.2.1,x.2.1.2.1.2.2.1,(),x.2.1.2.1.2.2.2.2.1,x.2.1.2.1.2.2.2.2.2.1,x.2.1.2.1.2.2.2.2.2.2.1,x.2.1.2.1.2.2.2.2.2.2.2.1,x.2.1.2.1.2.2.2.2.2.2.2.2.1,(),x.2.1.2.1.2.2.2.2.2.2.2.2.2.2.1,x.2.1.2.1.2.2.2.2.2.2.2.2.2.2.2.1,x.2.1.2.1.2.2.2.2.2.2.2.2.2.2.2.2.1,()),()),(x.2.2.1,x.2.2.2.1,x.2.2.2.2.1,()))
def yzS:Code:=(zd7 ypt 64 244).getD .skip
theorem yLj:zd7 ypt 64 61=some (.block 0 (.loop yzS)):=by kernel_rfl
theorem yNM (x:(ycO).X):zhu ⟨yxe,67,yBl⟩ 0 yzS 244 ycO ygx ykE x=ydg x:=by kernel_rfl
def yyE (x:(ygL).X):Nat:=18446744073709551616
def ypS (x:(ygL).X):Option ((ygx).X ⊕ (ykE).X):=zF ydg (yyE x) (yyp x)
def yzj:Seg:=⟨ygL,ygx,ykE,ypS⟩
def yOf:Nat→Option Seg:=fun q=>bif Nat.beq q 61 then some yzj else yBl q
theorem yLZ:FrOk prog ⟨yxe,67,yOf⟩ ypt:=(yLY).loop (sg:=yzj) ycO yyp (by decide) yLj ydg yyE (by decide) (fun _=>rfl) (fun x r _ h=>h) yNM
abbrev yk6:List Par:= [.pt tA (.pr .fz (.pr (.pr .fz .fz) (.pr (.ow (.pr (.ow .fz) (.pr (.ow (.pr .fz .fz)) (.pr .fz (.ow .fz))))) (.pr .fz (.pr .fz (.pr .fz (.pr .fz (.pr .fz (.pr (.ow (.pr .fz .fz)) (.pr .fz (.pr .fz .fz))))))))))),.kp tW .fz]
abbrev yqo:List OT:= []
def ys6 (a0:dA) (a1:dW):Option (zaY yqo×zak yk6) :=zkt (ypS ((((),()),((),()),((),()),((),()),((),()),()),((a1.1,a1.2,()),(a0.1,a0.2.1.1,a0.2.1.2,(),a0.2.2.2.1,a0.2.2.2.2.1,a0.2.2.2.2.2.1,a0.2.2.2.2.2.2.1,a0.2.2.2.2.2.2.2.1,(),a0.2.2.2.2.2.2.2.2.2.1,a0.2.2.2.2.2.2.2.2.2.2.1,a0.2.2.2.2.2.2.2.2.2.2.2,()),()),(([]:List dW),a0.2.2.1,a0.2.2.2.2.2.2.2.2.1,()))) (fun y0 =>bif(!y0.1.2.2.2.1.1)then bif(zkl y0.2.2.1.length ([(y0.2.1.1.1,y0.2.1.1.2.1)]:List dW).length 32)then some ((),((y0.2.1.2.1.1,(y0.2.1.2.1.2.1,y0.2.1.2.1.2.2.1),y0.2.2.2.1,y0.2.1.2.1.2.2.2.2.1,y0.2.1.2.1.2.2.2.2.2.1,y0.2.1.2.1.2.2.2.2.2.2.1,y0.2.1.2.1.2.2.2.2.2.2.2.1,y0.2.1.2.1.2.2.2.2.2.2.2.2.1,(y0.2.2.1++([(y0.2.1.1.1,y0.2.1.1.2.1)]:List dW)),y0.2.1.2.1.2.2.2.2.2.2.2.2.2.2.1,y0.2.1.2.1.2.2.2.2.2.2.2.2.2.2.2.1,y0.2.1.2.1.2.2.2.2.2.2.2.2.2.2.2.2.1),())) else none else some ((),((y0.2.1.2.1.1,(y0.2.1.2.1.2.1,y0.2.1.2.1.2.2.1),y0.2.2.2.1,y0.2.1.2.1.2.2.2.2.1,y0.2.1.2.1.2.2.2.2.2.1,y0.2.1.2.1.2.2.2.2.2.2.1,y0.2.1.2.1.2.2.2.2.2.2.2.1,y0.2.1.2.1.2.2.2.2.2.2.2.2.1,y0.2.2.1,y0.2.1.2.1.2.2.2.2.2.2.2.2.2.2.1,y0.2.1.2.1.2.2.2.2.2.2.2.2.2.2.2.1,y0.2.1.2.1.2.2.2.2.2.2.2.2.2.2.2.2.1),()))) (fun y0 =>none)
theorem yPB:ConOk prog 183 ⟨yk6,yqo,fun x=>ys6 x.1 x.2.1⟩:=zkI (yLZ) func183 ntmps183.symm fun x=>by kernel_rfl
def yqV (a0:dA) (a1:dW):dA:=yy4 a0 (yEX a0.2.2.2.2.2.2.2.2.1 a1)
def yyW (a0:dA) (a1:dW):Bool:=decide (a0.2.2.2.2.2.2.2.2.1.length≤1000)
theorem yRP (a0:dA) (a1:dW) (hk:zjx yk6 (a0,a1,())) (hq:yyW a0 a1=true):ys6 a0 a1=(fun n=>some ((),(n,()))) (yqV a0 a1):=by
 have hq:=of_decide_eq_true hq
 have h1:=zkx (step:=ydg) a0.2.2.2.2.2.2.2.2.1 (0,[]) (fun i s=>yoD s.1 i a1 a0 s.2) (ybV a1) (fun i s=>s.2.length≤i*2) (fun s=> .inl (yIZ s.1 a1 a0 s.2)) (fun i s hi hs=>by
  constructor
  ·simp only[ydg,yoD,yo8,zky (show(i:Int)<a0.2.2.2.2.2.2.2.2.1.length by omega),cond_true,wq ((i:Int)+1) (by omega) (by omega),Int.natCast_add,Int.natCast_one,Int.toNat_natCast,zkR hi,zkX,zkS,ybV,zkF.2 (show(s.2.length+ [a1].length)*32≤140737488355328 by simp only[List.length_cons,List.length_nil]; omega),
    show ∀x:dW,zkl s.2.length [x].length 32=true from fun x=>zkF.2 (by simp only[List.length_cons,List.length_nil]; omega),show ∀x:dW,zkl (s.2++ [a1]).length [x].length 32=true from fun x=>zkF.2 (by simp only[List.length_append,List.length_cons,List.length_nil]; omega)]
   cases s.1<;>cases leb a1.1 (a0.2.2.2.2.2.2.2.2.1.getD i (0,[])).1<;>cases((a0.2.2.2.2.2.2.2.2.1.getD i (0,[])).1 !=a1.1)<;>simp
  ·unfold ybV
   have: ∀(b c:Bool) (x:dW),((bif b then s.2++ [a1]else s.2)++(bif c then[x]else[])).length≤(i+1)*2:=fun b c x=>by
    cases b<;>cases c<;>simp<;>omega
   exact this _ _ _) (fun s hs=>by simp only[ydg,yoD,yo8,zk3 (Int.le_refl _),cond_false]) (false,[]) (Nat.zero_le _) 18446744073709551616 (by omega)
 have hl:((a0.2.2.2.2.2.2.2.2.1.foldl (ybV a1) (false,[])).2).length≤2000:=by
  have: ∀(l:List dW) (s:Bool×List dW),((l.foldl (ybV a1) s).2).length≤s.2.length+l.length*2:=by
   intro l
   induction l with
   | nil=>intro s; simp
   | cons x t ih =>
    intro s;rw[List.foldl_cons];have:=ih (ybV a1 s x)
    have h2:(ybV a1 s x).2.length≤s.2.length+2:=by
     unfold ybV;cases(!s.1&&leb a1.1 x.1)<;>cases(x.1 !=a1.1)<;>simp
    simp only[List.length_cons]; omega
  have:=this a0.2.2.2.2.2.2.2.2.1 (false,[]);simp only[List.length_nil]at this;omega
 unfold ys6 yqV yEX;refine(congrArg (fun z=>zkt z _ _) (show ypS (yJc a1 a0 [])=_ from h1)).trans ?_;generalize a0.2.2.2.2.2.2.2.2.1.foldl (ybV a1) (false,[])=R at hl;simp only[zkN,zkX];cases hr:R.1
 ·rw[zkF.2 (show(R.2.length+ [a1].length)*32≤140737488355328 by simp only[List.length_cons,List.length_nil]; omega)]; rfl
 ·rfl
def yqX (a0:dA) (a1:dW):Option (zaY yqo×zak yk6):=bif yyW a0 a1 then(fun n=>some ((),(n,()))) (yqV a0 a1)else none
theorem yR7 (a0:dA) (a1:dW) (h:yyW a0 a1=true):yqX a0 a1=(fun n=>some ((),(n,()))) (yqV a0 a1):=by unfold yqX; rw[h]; rfl
def yBB:Con:=⟨yk6,yqo,fun x=>yqX x.1 x.2.1⟩
theorem yR4:ConOk prog 183 yBB:=(yPB).mono (fun x r hk h=>zkY h (fun hq=>yRP x.1 x.2.1 hk hq))
def ySo:Code:=(f118.body).getD .skip
def ySz:Env:=zkw TT [(180,yvZ),(181,yv2),(182,yx3),(183,yBB)] []
theorem yL0:FrOk prog ⟨ySz,40,fun _=>none⟩ ySo:=zkA mixed yc ⟨yKc,yKf,yNn,yR4,trivial⟩
abbrev yk7:List Par:= [.pt tA (.pr .fz (.pr (.pr .fz .fz) (.pr (.ow (.pr (.ow .fz) (.pr (.ow (.pr .fz .fz)) (.pr .fz (.ow .fz))))) (.pr .fz (.pr .fz (.pr .fz (.pr .fz (.pr .fz (.pr (.ow (.pr .fz .fz)) (.pr .fz (.pr .fz .fz))))))))))),.rd tI,.rd tI]
abbrev yqp:List OT:= [⟨false,tI,.fz⟩]
def ys7 (a0:dA) (a1 a2:Int):Option (zaY yqp×zak yk7) :=let r1:=yg6 a0.2.1 a1;bnd (ykR a0 r1) fun r2 =>bif(!r2.1.2.1)then some ((5,()),(a0,())) else let r3:=yil a0.2.1 a1;bif(inb r3 r2.1.1.length)then bnd (yqX a0 (r1,(r2.1.1.set (r3).toNat a2))) fun r4 =>some ((0,()),(r4.2.1,())) else none
theorem yPC:ConOk prog 118 ⟨yk7,yqp,fun x=>ys7 x.1 x.2.1 x.2.2.1⟩:=zkI (yL0) func118 ntmps118.symm fun x=>by kernel_rfl
def yy5 (a:dA) (b n:Int):Int×dA:=bif(ycp a (ycY a.2.1 b)).2 then(0,yy4 a (yEX a.2.2.2.2.2.2.2.2.1 (ycY a.2.1 b,(ycp a (ycY a.2.1 b)).1.set (ysH a.2.1 b).toNat n)))else(5,a)
def yqW (a0:dA) (a1 a2:Int):Int×dA:=yy5 a0 a1 a2
def ylt (a0:dA) (a1 a2:Int):Bool:=ya2 a0&&(ykF a0.2.1 a1&&decide (a0.2.2.2.2.2.2.2.2.1.length≤1000))
theorem yRQ (a0:dA) (a1 a2:Int) (hk:zjx yk7 (a0,a1,a2,())) (hq:ylt a0 a1 a2=true):ys7 a0 a1 a2=(fun n=>some ((n.1,()),(n.2,()))) (yqW a0 a1 a2):=by
 simp only[ylt,Bool.and_eq_true]at hq;have hs:=yA9 hq.2.1;obtain⟨hg,_,hi⟩:=yzE hq.2.1;unfold ys7 yqW yy5;simp only[yg6,yil];rw[yKi a0 (ycY a0.2.1 a1) hs];simp only[zkH,yg8];cases hn:(ycp a0 (ycY a0.2.1 a1)).2
 ·rfl
 ·have hl:=yvx hq.1 hs hn
  have hx:ysH a0.2.1 a1=a1.tmod (a0.2.1.1-1):=by unfold ysH; rw[hq.2.1]; rfl
  rw[zj6.2 (show 0≤ysH a0.2.1 a1∧ysH a0.2.1 a1<(ycp a0 (ycY a0.2.1 a1)).1.length by omega),yR7 _ _ hq.2.2];rfl
def yd8 (a0:dA) (a1 a2:Int):Option (zaY yqp×zak yk7):=bif ylt a0 a1 a2 then(fun n=>some ((n.1,()),(n.2,()))) (yqW a0 a1 a2)else none
theorem yR8 (a0:dA) (a1 a2:Int) (h:ylt a0 a1 a2=true):yd8 a0 a1 a2=(fun n=>some ((n.1,()),(n.2,()))) (yqW a0 a1 a2):=by unfold yd8; rw[h]; rfl
def yBC:Con:=⟨yk7,yqp,fun x=>yd8 x.1 x.2.1 x.2.2.1⟩
theorem yR5:ConOk prog 118 yBC:=(yPC).mono (fun x r hk h=>zkY h (fun hq=>yRQ x.1 x.2.1 x.2.2.1 hk hq))
def yQT:Code:=(f147.body).getD .skip
def yRm:Env:=zkw TT [] []
theorem yIq:FrOk prog ⟨yRm,58,fun _=>none⟩ yQT:=zkA mixed yc trivial
abbrev yuD:List Par:= [.pt tU .fz]
abbrev yu7:List OT:= [⟨false,tI,.fz⟩]
def ybC (a0:dU):Option (zaY yu7×zak yuD) :=bif(ltb a0.2.1 (a0.1.length:Int))then bif(inb a0.2.1 a0.1.length)then some (((i64.wrap ((BitVec.ofInt IntKind.i64.bits (i64.wrap ((i64.wrap ((BitVec.ofInt IntKind.i64.bits (i64.wrap ((BitVec.ofInt IntKind.i64.bits ((i64.wrap ((i64.wrap (a0.2.2*6364136223846793005))+1442695040888963407)).fdiv (2^(min (33:Int).toNat IntKind.i64.bits))) ^^^ BitVec.ofInt IntKind.i64.bits ((i64.wrap ((i64.wrap (a0.2.2*6364136223846793005))+1442695040888963407)).fdiv (2^(min (47:Int).toNat IntKind.i64.bits)))).toNat:Int)) &&& BitVec.ofInt IntKind.i64.bits 255).toNat:Int))+(i64.wrap (nth a0.1 a0.2.1 0)))) &&& BitVec.ofInt IntKind.i64.bits 255).toNat:Int)),()),((a0.1,(i64.wrap (a0.2.1+1)),(i64.wrap ((i64.wrap (a0.2.2*6364136223846793005))+1442695040888963407))),())) else none else some (((i64.wrap ((BitVec.ofInt IntKind.i64.bits (i64.wrap ((BitVec.ofInt IntKind.i64.bits ((i64.wrap ((i64.wrap (a0.2.2*6364136223846793005))+1442695040888963407)).fdiv (2^(min (33:Int).toNat IntKind.i64.bits))) ^^^ BitVec.ofInt IntKind.i64.bits ((i64.wrap ((i64.wrap (a0.2.2*6364136223846793005))+1442695040888963407)).fdiv (2^(min (47:Int).toNat IntKind.i64.bits)))).toNat:Int)) &&& BitVec.ofInt IntKind.i64.bits 255).toNat:Int)),()),((a0.1,a0.2.1,(i64.wrap ((i64.wrap (a0.2.2*6364136223846793005))+1442695040888963407))),()))
theorem yMY:ConOk prog 147 ⟨yuD,yu7,fun x=>ybC x.1⟩:=zkI (yIq) func147 ntmps147.symm fun x=>by kernel_rfl
def yz3:Con:=⟨yuD,yu7,fun x=>ybC x.1⟩
theorem yPN:ConOk prog 147 yz3:=yMY
theorem yUj (x:Int):0≤i64.wrap ((BitVec.ofInt IntKind.i64.bits x &&& BitVec.ofInt IntKind.i64.bits 255).toNat:Int)∧i64.wrap ((BitVec.ofInt IntKind.i64.bits x &&& BitVec.ofInt IntKind.i64.bits 255).toNat:Int)≤255:=by
 have h:(BitVec.ofInt IntKind.i64.bits x &&& BitVec.ofInt IntKind.i64.bits 255).toNat≤255:=by
  rw[BitVec.toNat_and];exact Nat.le_trans Nat.and_le_right (by decide)
 rw[wr (by omega) (by omega)];omega
theorem yFi (u:List Int×Int×Int) (h:ydM u): ∃(r:Int) (u':List Int×Int×Int),ybC u=some ((r,()),(u',()))∧(0≤r∧r≤255)∧ydM u':=by
 unfold ybC;by_cases h1:u.2.1<(u.1.length:Int)
 ·rw[zky h1,zj6.2 ⟨h.1,h1⟩]
  refine⟨_,_,rfl,yUj _,?_,h.2⟩;show 0≤i64.wrap (u.2.1+1);have:=h.1; have:=h.2;rw[wr (by omega) (by omega)]; omega
 ·rw[zk3 (Int.not_lt.1 h1)]
  exact⟨_,_,rfl,yUj _,h⟩
def yN1:Code:=(f72.body).getD .skip
def yOr:Env:=zkw TT [(147,yz3)] []
theorem yGf:FrOk prog ⟨yOr,31,fun _=>none⟩ yN1:=zkA mixed yc ⟨yPN,trivial⟩
abbrev ysg:List Par:= [.pt tU .fz,.rd tI]
abbrev ysw:List OT:= [⟨false,tI,.fz⟩]
def yh (a0:dU) (a1:Int):Option (zaY ysw×zak ysg) :=bif(leb a1 0)then some ((0,()),(a0,())) else bif(leb a1 256)then bnd (ybC a0) fun r1 =>bif(a1 !=0)then some (((r1.1.1.tmod a1),()),(r1.2.1,())) else none else bnd (ybC a0) fun r2 =>bnd (ybC r2.2.1) fun r3 =>bnd (ybC r3.2.1) fun r4 =>bif(a1 !=0)then some ((((i64.wrap ((i64.wrap ((i64.wrap (r2.1.1*65536))+(i64.wrap (r3.1.1*256))))+r4.1.1)).tmod a1),()),(r4.2.1,())) else none
theorem yJV:ConOk prog 72 ⟨ysg,ysw,fun x=>yh x.1 x.2.1⟩:=zkI (yGf) func72 ntmps72.symm fun x=>by kernel_rfl
def ydB:Con:=⟨ysg,ysw,fun x=>yh x.1 x.2.1⟩
theorem yhb:ConOk prog 72 ydB:=yJV
theorem yeo (u:List Int×Int×Int) (n:Int) (h:ydM u): ∃(r:Int) (u':List Int×Int×Int),yh u n=some ((r,()),(u',()))∧(0≤r∧(0<n→r<n)∧(n≤0→r=0))∧ydM u':=by
 unfold yh;by_cases h0:n≤0
 ·rw[zk2 h0]
  exact⟨_,_,rfl,⟨Int.le_refl _,fun h=>absurd h0 (by omega),fun _=>rfl⟩,h⟩
 ·have hn:(n !=0)=true:=bne_iff_ne.2 (by omega)
  have key: ∀x:Int,0≤x→0≤x.tmod n∧(0<n→x.tmod n<n)∧(n≤0→x.tmod n=0):=fun x hx =>
   ⟨Int.tmod_nonneg n hx,fun hp=>Int.tmod_lt_of_pos x hp,fun hp=>absurd hp h0⟩
  rw[zk1 (by omega)];by_cases h1:n≤256
  ·rw[zk2 h1]
   obtain⟨r1,u1,e1,q1,d1⟩:=yFi u h;rw[e1,zkZ,zk0,zkH,hn];exact⟨_,_,rfl,key r1 q1.1,d1⟩
  ·rw[zk1 (by omega)]
   obtain⟨r1,u1,e1,q1,d1⟩:=yFi u h;obtain⟨r2,u2,e2,q2,d2⟩:=yFi u1 d1;obtain⟨r3,u3,e3,q3,d3⟩:=yFi u2 d2;simp only[e1,e2,e3,zkZ,zkH,hn,zk0];refine⟨_,_,rfl,key _ ?_,d3⟩;rw[wq (r1*65536) (by omega) (by omega),wq (r2*256) (by omega) (by omega),wq (r1*65536+r2*256) (by omega) (by omega),wr (by omega) (by omega)];omega
def ynz:Code:=(f177.body).getD .skip
def yuk:Env:=zkw TT [(82,yz)] [(28864,.fz),(28928,.fz)]
theorem yIm:FrOk prog ⟨yuk,22,fun _=>none⟩ ynz:=zkA mixed yc ⟨yF,trivial⟩
def yzv:Nat→Option Seg:=fun _=>none
def yb4:Shape:=⟨[(0,false,[.int .i64]),(2,false,[.ptr 0 0]),(3,false,[.ptr 12352 0]),(4,false,[.int .i64])],[(0,[.nil,.nil,.bool,.nil]),(12352,[.at 800000000,.nil,.bool,.nil])],[(800000000,tL,.fz)]⟩
def yfv:Shape:=⟨[(0,false,[.int .i64]),(2,false,[.ptr 0 0]),(3,false,[.ptr 12352 0]),(4,false,[.ci .i64 0])],[(0,[.nil,.nil,.bool,.nil]),(12352,[.at 800000000,.nil,.bool,.nil])],[(800000000,tL,.fz)]⟩
def yfk:Shape:=⟨[(2,false,[.ptr 0 0]),(3,false,[.ptr 12352 0])],[(0,[.nil,.nil,.bool,.nil]),(12352,[.at 800000000,.nil,.bool,.nil])],[(800000000,tL,.fz)]⟩
def yiV:Shape:=⟨[],[],[]⟩
abbrev ymL (v0 v1:Int) (v2 v3:dM):(yb4).X:=(((v0,()),((),()),((),()),(v1,()),()),(((),(),v2.2.2.1,(),()),((),(),v3.2.2.1,(),()),()),(v3.1,()))
abbrev yGy (v0:Int) (v1 v2:dM):(yfv).X:=(((v0,()),((),()),((),()),((),()),()),(((),(),v1.2.2.1,(),()),((),(),v2.2.2.1,(),()),()),(v2.1,()))
abbrev yGr (v0 v1:dM):(yfk).X:=((((),()),((),()),()),(((),(),v0.2.2.1,(),()),((),(),v1.2.2.1,(),()),()),(v1.1,()))
def ynf (v0 v1:Int) (v2 v3:Bool) (v4:List (List Int)):Option ((yb4).X ⊕ ((yfk).X ⊕ (yiV).X)) :=bif(ltb v1 v0)then bif(zkl v4.length ([([]:List Int)]:List (List Int)).length 24)then some (.inl (((v0,()),((),()),((),()),((i64.wrap (v1+1)),()),()),(((),(),v2,(),()),((),(),v3,(),()),()),((v4++([([]:List Int)]:List (List Int))),()))) else none else some (.inr (.inl ((((),()),((),()),()),(((),(),v2,(),()),((),(),v3,(),()),()),(v4,()))))
def yct (x:(yb4).X):=ynf x.1.1.1 x.1.2.2.2.1.1 x.2.1.1.2.2.1 x.2.1.2.1.2.2.1 x.2.2.1
def yv6 (x:(yfv).X):(yb4).X:=(((x.1.1.1,()),((),()),((),()),(0,()),()),(((),(),x.2.1.1.2.2.1,(),()),((),(),x.2.1.2.1.2.2.1,(),()),()),(x.2.2.1,()))
def yxM:Code:=(zd7 ynz 64 244).getD .skip
theorem yHP:zd7 ynz 64 61=some (.block 0 (.loop yxM)):=by kernel_rfl
theorem yKm (x:(yb4).X):zhu ⟨yuk,22,yzv⟩ 0 yxM 244 yb4 yfk yiV x=yct x:=by kernel_rfl
def ywh (x:(yfv).X):Nat:=18446744073709551616
def yob (x:(yfv).X):Option ((yfk).X ⊕ (yiV).X):=zF yct (ywh x) (yv6 x)
def ywA:Seg:=⟨yfv,yfk,yiV,yob⟩
def yKL:Nat→Option Seg:=fun q=>bif Nat.beq q 61 then some ywA else yzv q
theorem yIn:FrOk prog ⟨yuk,22,yKL⟩ ynz:=(yIm).loop (sg:=ywA) yb4 yv6 (by decide) yHP yct ywh (by decide) (fun _=>rfl) (fun x r _ h=>h) yKm
abbrev ynO:List Par:= [.rd tI]
abbrev yu4:List OT:= [⟨false,tM,(.pr (.ow .fz) (.pr (.ow (.pr .fz .fz)) (.pr .fz (.ow .fz))))⟩]
def yq9 (a0:Int):Option (zaY yu4×zak ynO) :=let r1:=ya a0 1 20;bif(!r1)then some ((([],[],false,[]),()),()) else zkt (yob (((a0,()),((),()),((),()),((),()),()),(((),(),false,(),()),((),(),false,(),()),()),([],()))) (fun y1 =>some (((y1.2.2.1,[],y1.2.1.2.1.2.2.1,[]),()),())) (fun y1 =>none)
theorem yMV:ConOk prog 177 ⟨ynO,yu4,fun x=>yq9 x.1⟩:=zkI (yIn) func177 ntmps177.symm fun x=>by kernel_rfl
def ydk (a0:Int):dM:=ybS a0
theorem yO2 (a0:Int) (hk:zjx ynO (a0,())):yq9 a0=(fun n=>some ((n,()),())) (ydk a0):=by
 unfold yq9 ydk ybS;simp only[ybA];cases hc:(leb 1 a0&&leb a0 20)
 ·rfl
 ·rw[Bool.and_eq_true,zj7,zj7]at hc
  have h1:yob (yGy a0 yf yf)=some (.inl (yGr yf (List.replicate a0.toNat [],[],false,[]))) :=
   zkL (step:=yct) (fun i=>ymL a0 i yf (List.replicate i [],[],false,[])) a0.toNat _ (fun i hi=>by
    simp only[yct,ymL,ynf,zky (show(i:Int)<a0 by omega),cond_true,wq ((i:Int)+1) (by omega) (by omega),Int.natCast_add,Int.natCast_one,Int.toNat_natCast]
    rw[zkF.2 (show((List.replicate i ([]:List Int)).length+([[]]:List (List Int)).length)*24≤140737488355328 by simp only[List.length_cons,List.length_nil,List.length_replicate]; omega),← List.replicate_succ']; rfl) (by simp only[yct,ymL,ynf,zk3 (show a0≤(a0.toNat:Int)by omega),cond_false]) _ (by show _<18446744073709551616; omega)
  rw[h1]; rfl
def yqC:Con:=⟨ynO,yu4,fun x=>(fun n=>some ((n,()),())) (ydk x.1)⟩
theorem yBV:ConOk prog 177 yqC:=(yMV).mono (fun x r hk h=>(yO2 x.1 hk).trans h)
def yel:Code:=(f115.body).getD .skip
def yji:Env:=zkw TT [(82,yz),(113,yef),(144,ymH),(150,ye5),(177,yqC),(178,ykK)] [(53440,(.pr (.ow .fz) (.pr (.ow (.pr .fz .fz)) (.pr .fz (.ow .fz))))),(53504,(.pr (.ow .fz) (.pr (.ow (.pr .fz .fz)) (.pr .fz (.ow .fz)))))]
theorem yIf:FrOk prog ⟨yji,60,fun _=>none⟩ yel:=zkA mixed yc ⟨yF,yix,yyS,yjC,yBV,ysM,trivial⟩
def yzu:Nat→Option Seg:=fun _=>none
def yaM:Shape:=⟨[(0,false,[.int .i64]),(3,false,[.ptr 0 0]),(4,false,[.ptr 64 0]),(5,false,[.ptr 12480 0]),(6,false,[.int .i64]),(7,false,[.ptr 28864 0]),(8,false,[.int .i64])],[(0,[.int .i64,.int .i64]),(64,[.int .i64,.int .i64,.int .i64,.nil,.int .i64,.int .i64,.int .i64,.int .i64,.int .i64,.nil,.int .i64,.bool,.bool]),(12480,[.int .i64,.int .i64,.int .i64,.at 800000000,.int .i64,.int .i64,.int .i64,.int .i64,.int .i64,.nil,.int .i64,.bool,.bool]),(28864,[.at 800000001,.at 800000002,.bool,.at 800000003])],[(800000000,tM,(.pr (.ow .fz) (.pr (.ow (.pr .fz .fz)) (.pr .fz (.ow .fz))))),(800000001,tL,.fz),(800000002,tW,(.pr .fz .fz)),(800000003,tI,.fz)]⟩
def ydu:Shape:=⟨[(0,false,[.int .i64]),(3,false,[.ptr 0 0]),(4,false,[.ptr 64 0]),(5,false,[.ptr 12480 0]),(6,false,[.int .i64]),(7,false,[.ptr 28864 0]),(8,false,[.ci .i64 0])],[(0,[.int .i64,.int .i64]),(64,[.int .i64,.int .i64,.int .i64,.nil,.int .i64,.int .i64,.int .i64,.int .i64,.int .i64,.nil,.int .i64,.bool,.bool]),(12480,[.int .i64,.int .i64,.int .i64,.at 800000000,.int .i64,.int .i64,.int .i64,.int .i64,.int .i64,.nil,.int .i64,.bool,.bool]),(28864,[.at 800000001,.at 800000002,.bool,.at 800000003])],[(800000000,tM,(.pr (.ow .fz) (.pr (.ow (.pr .fz .fz)) (.pr .fz (.ow .fz))))),(800000001,tL,.fz),(800000002,tW,(.pr .fz .fz)),(800000003,tI,.fz)]⟩
def ydq:Shape:=⟨[(0,false,[.int .i64]),(3,false,[.ptr 0 0]),(4,false,[.ptr 64 0]),(5,false,[.ptr 12480 0]),(6,false,[.int .i64]),(7,false,[.ptr 28864 0])],[(0,[.int .i64,.int .i64]),(64,[.int .i64,.int .i64,.int .i64,.nil,.int .i64,.int .i64,.int .i64,.int .i64,.int .i64,.nil,.int .i64,.bool,.bool]),(12480,[.int .i64,.int .i64,.int .i64,.at 800000000,.int .i64,.int .i64,.int .i64,.int .i64,.int .i64,.nil,.int .i64,.bool,.bool]),(28864,[.at 800000001,.at 800000002,.bool,.at 800000003])],[(800000000,tM,(.pr (.ow .fz) (.pr (.ow (.pr .fz .fz)) (.pr .fz (.ow .fz))))),(800000001,tL,.fz),(800000002,tW,(.pr .fz .fz)),(800000003,tI,.fz)]⟩
def yfU:Shape:=⟨[],[],[]⟩
abbrev yi4 (v0 v1 v2:Int) (v3:dG) (v4 v5:dA) (v6:dM):(yaM).X:=(((v0,()),((),()),((),()),((),()),(v1,()),((),()),(v2,()),()),((v3.1,v3.2,()),(v4.1,v4.2.1.1,v4.2.1.2,(),v4.2.2.2.1,v4.2.2.2.2.1,v4.2.2.2.2.2.1,v4.2.2.2.2.2.2.1,v4.2.2.2.2.2.2.2.1,(),v4.2.2.2.2.2.2.2.2.2.1,v4.2.2.2.2.2.2.2.2.2.2.1,v4.2.2.2.2.2.2.2.2.2.2.2,()),(v5.1,v5.2.1.1,v5.2.1.2,(),v5.2.2.2.1,v5.2.2.2.2.1,v5.2.2.2.2.2.1,v5.2.2.2.2.2.2.1,v5.2.2.2.2.2.2.2.1,(),v5.2.2.2.2.2.2.2.2.2.1,v5.2.2.2.2.2.2.2.2.2.2.1,v5.2.2.2.2.2.2.2.2.2.2.2,()),((),(),v6.2.2.1,(),()),()),(v5.2.2.1,v6.1,v6.2.1,v6.2.2.2,()))
abbrev yCv (v0 v1:Int) (v2:dG) (v3 v4:dA) (v5:dM):(ydu).X:=(((v0,()),((),()),((),()),((),()),(v1,()),((),()),((),()),()),((v2.1,v2.2,()),(v3.1,v3.2.1.1,v3.2.1.2,(),v3.2.2.2.1,v3.2.2.2.2.1,v3.2.2.2.2.2.1,v3.2.2.2.2.2.2.1,v3.2.2.2.2.2.2.2.1,(),v3.2.2.2.2.2.2.2.2.2.1,v3.2.2.2.2.2.2.2.2.2.2.1,v3.2.2.2.2.2.2.2.2.2.2.2,()),(v4.1,v4.2.1.1,v4.2.1.2,(),v4.2.2.2.1,v4.2.2.2.2.1,v4.2.2.2.2.2.1,v4.2.2.2.2.2.2.1,v4.2.2.2.2.2.2.2.1,(),v4.2.2.2.2.2.2.2.2.2.1,v4.2.2.2.2.2.2.2.2.2.2.1,v4.2.2.2.2.2.2.2.2.2.2.2,()),((),(),v5.2.2.1,(),()),()),(v4.2.2.1,v5.1,v5.2.1,v5.2.2.2,()))
abbrev yqS (v0 v1:Int) (v2:dG) (v3 v4:dA) (v5:dM):(ydq).X:=(((v0,()),((),()),((),()),((),()),(v1,()),((),()),()),((v2.1,v2.2,()),(v3.1,v3.2.1.1,v3.2.1.2,(),v3.2.2.2.1,v3.2.2.2.2.1,v3.2.2.2.2.2.1,v3.2.2.2.2.2.2.1,v3.2.2.2.2.2.2.2.1,(),v3.2.2.2.2.2.2.2.2.2.1,v3.2.2.2.2.2.2.2.2.2.2.1,v3.2.2.2.2.2.2.2.2.2.2.2,()),(v4.1,v4.2.1.1,v4.2.1.2,(),v4.2.2.2.1,v4.2.2.2.2.1,v4.2.2.2.2.2.1,v4.2.2.2.2.2.2.1,v4.2.2.2.2.2.2.2.1,(),v4.2.2.2.2.2.2.2.2.2.1,v4.2.2.2.2.2.2.2.2.2.2.1,v4.2.2.2.2.2.2.2.2.2.2.2,()),((),(),v5.2.2.1,(),()),()),(v4.2.2.1,v5.1,v5.2.1,v5.2.2.2,()))
def yjf (v0 v1 v2 v3 v4 v5 v6 v7 v8 v9 v10 v11 v12 v13:Int) (v14 v15:Bool) (v16 v17 v18 v19 v20 v21 v22 v23 v24:Int) (v25 v26 v27:Bool) (v28:List dM) (v29:List (List Int)) (v30:List dW) (v31:List Int):Option ((yaM).X ⊕ ((ydq).X ⊕ (yfU).X)) :=bif(ltb v2 v4)then let r13:=ybf v2;bif(inb r13 v29.length)then some (.inl (((v0,()),((),()),((),()),((),()),(v1,()),((),()),((i64.wrap (v2+1)),()),()),((v3,v4,()),(v5,v6,v7,(),v8,v9,v10,v11,v12,(),v13,v14,v15,()),(v16,v17,v18,(),v19,v20,v21,v22,v23,(),v24,v25,v26,()),((),(),v27,(),()),()),(v28,(v29.set (r13).toNat ([0]:List Int)),v30,v31,()))) else none else some (.inr (.inl (((v0,()),((),()),((),()),((),()),(v1,()),((),()),()),((v3,v4,()),(v5,v6,v7,(),v8,v9,v10,v11,v12,(),v13,v14,v15,()),(v16,v17,v18,(),v19,v20,v21,v22,v23,(),v24,v25,v26,()),((),(),v27,(),()),()),(v28,v29,v30,v31,()))))
def yaZ (x:(yaM).X):=yjf x.1.1.1 x.1.2.2.2.2.1.1 x.1.2.2.2.2.2.2.1.1 x.2.1.1.1 x.2.1.1.2.1 x.2.1.2.1.1 x.2.1.2.1.2.1 x.2.1.2.1.2.2.1 x.2.1.2.1.2.2.2.2.1 x.2.1.2.1.2.2.2.2.2.1 x.2.1.2.1.2.2.2.2.2.2.1 x.2.1.2.1.2.2.2.2.2.2.2.1 x.2.1.2.1.2.2.2.2.2.2.2.2.1 x.2.1.2.1.2.2.2.2.2.2.2.2.2.2.1 x.2.1.2.1.2.2.2.2.2.2.2.2.2.2.2.1 x.2.1.2.1.2.2.2.2.2.2.2.2.2.2.2.2.1 x.2.1.2.2.1.1 x.2.1.2.2.1.2.1 x.2.1.2.2.1.2.2.1 x.2.1.2.2.1.2.2.2.2.1 x.2.1.2.2.1.2.2.2.2.2.1 x.2.1.2.2.1.2.2.2.2.2.2.1 x.2.1.2.2.1.2.2.2.2.2.2.2.1 x.2.1.2.2.1.2.2.2.2.2.2.2.2.1 x.2.1.2.2.1.2.2.2.2.2.2.2.2.2.2.1 x.2.1.2.2.1.2.2.2.2.2.2.2.2.2.2.2.1 x.2.1.2.2.1.2.2.2.2.2.2.2.2.2.2.2.2.1 x.2.1.2.2.2.1.2.2.1 x.2.2.1 x.2.2.2.1 x.2.2.2.2.1 x.2.2.2.2.2.1
def yqG (x:(ydu).X):(yaM).X:=(((x.1.1.1,()),((),()),((),()),((),()),(x.1.2.2.2.2.1.1,()),((),()),(0,()),()),((x.2.1.1.1,x.2.1.1.2.1,()),(x.2.1.2.1.1,x.2.1.2.1.2.1,x.2.1.2.1.2.2.1,(),x.2.1.2.1.2.2.2.2.1,x.2.1.2.1.2.2.2.2.2.1,x.2.1.2.1.2.2.2.2.2.2.1,x.2.1.2.1.2.2.2.2.2.2.2.1,x.2.1.2.1.2.2.2.2.2.2.2.2.1,(),x.2.1.2.1.2.2.2.2.2.2.2.2.2.2.1,x.2.1.2.1.2.2.2.2.2.2.2.2.2.2.2.1,x.2.1.2.1.2.2.2.2.2.2.2.2.2.2.2.2.1,()),(x.2.1.2.2.1.1,x.2.1.2.2.1.2.1,x.2.1.2.2.1.2.2.1,(),x.2.1.2.2.1.2.2.2.2.1,x.2.1.2.2.1.2.2.2.2.2.1,x.2.1.2.2.1.2.2.2.2.2.2.1,x.2.1.2.2.1.2.2.2.2.2.2.2.1,x.2.1.2.2.1.2.2.2.2.2.2.2.2.1,(),x.2.1.2.2.1.2.2.2.2.2.2.2.2.2.2.1,x.2.1.2.2.1.2.2.2.2.2.2.2.2.2.2.2.1,x.2.1.2.2.1.2.2.2.2.2.2.2.2.2.2.2.2.1,()),((),(),x.2.1.2.2.2.1.2.2.1,(),()),()),(x.2.2.1,x.2.2.2.1,x.2.2.2.2.1,x.2.2.2.2.2.1,()))
def yrq:Code:=(zd7 yel 64 125236).getD .skip
theorem yCX:zd7 yel 64 31309=some (.block 2 (.loop yrq)):=by kernel_rfl
theorem yDs (x:(yaM).X):zhu ⟨yji,60,yzu⟩ 2 yrq 125236 yaM ydq yfU x=yaZ x:=by kernel_rfl
def yqK (x:(ydu).X):Nat:=18446744073709551616
def yjM (x:(ydu).X):Option ((ydq).X ⊕ (yfU).X):=zF yaZ (yqK x) (yqG x)
def yrj:Seg:=⟨ydu,ydq,yfU,yjM⟩
def ypv:Nat→Option Seg:=fun q=>bif Nat.beq q 31309 then some yrj else yzu q
theorem yIg:FrOk prog ⟨yji,60,ypv⟩ yel:=(yIf).loop (sg:=yrj) yaM yqG (by decide) yCX yaZ yqK (by decide) (fun _=>rfl) (fun x r _ h=>h) yDs
def yb3:Shape:=⟨[(0,false,[.int .i64]),(3,false,[.ptr 0 0]),(4,false,[.ptr 64 0]),(5,false,[.ptr 12480 0]),(6,false,[.int .i64])],[(0,[.int .i64,.int .i64]),(64,[.int .i64,.int .i64,.int .i64,.nil,.int .i64,.int .i64,.int .i64,.int .i64,.int .i64,.nil,.int .i64,.bool,.bool]),(12480,[.int .i64,.int .i64,.int .i64,.at 800000000,.int .i64,.int .i64,.int .i64,.int .i64,.int .i64,.nil,.int .i64,.bool,.bool])],[(800000000,tM,(.pr (.ow .fz) (.pr (.ow (.pr .fz .fz)) (.pr .fz (.ow .fz)))))]⟩
def yfu:Shape:=⟨[(0,false,[.int .i64]),(3,false,[.ptr 0 0]),(4,false,[.ptr 64 0]),(5,false,[.ptr 12480 0]),(6,false,[.ci .i64 0])],[(0,[.int .i64,.int .i64]),(64,[.int .i64,.int .i64,.int .i64,.nil,.int .i64,.int .i64,.int .i64,.int .i64,.int .i64,.nil,.int .i64,.bool,.bool]),(12480,[.int .i64,.int .i64,.int .i64,.at 800000000,.int .i64,.int .i64,.int .i64,.int .i64,.int .i64,.nil,.int .i64,.bool,.bool])],[(800000000,tM,(.pr (.ow .fz) (.pr (.ow (.pr .fz .fz)) (.pr .fz (.ow .fz)))))]⟩
def yfj:Shape:=⟨[(4,false,[.ptr 64 0]),(5,false,[.ptr 12480 0])],[(64,[.int .i64,.int .i64,.int .i64,.nil,.int .i64,.int .i64,.int .i64,.int .i64,.int .i64,.nil,.int .i64,.bool,.bool]),(12480,[.int .i64,.int .i64,.int .i64,.at 800000000,.int .i64,.int .i64,.int .i64,.int .i64,.int .i64,.nil,.int .i64,.bool,.bool])],[(800000000,tM,(.pr (.ow .fz) (.pr (.ow (.pr .fz .fz)) (.pr .fz (.ow .fz)))))]⟩
def yiU:Shape:=⟨[],[],[]⟩
abbrev yhH (v0 v1:Int) (v2:dG) (v3 v4:dA):(yb3).X:=(((v0,()),((),()),((),()),((),()),(v1,()),()),((v2.1,v2.2,()),(v3.1,v3.2.1.1,v3.2.1.2,(),v3.2.2.2.1,v3.2.2.2.2.1,v3.2.2.2.2.2.1,v3.2.2.2.2.2.2.1,v3.2.2.2.2.2.2.2.1,(),v3.2.2.2.2.2.2.2.2.2.1,v3.2.2.2.2.2.2.2.2.2.2.1,v3.2.2.2.2.2.2.2.2.2.2.2,()),(v4.1,v4.2.1.1,v4.2.1.2,(),v4.2.2.2.1,v4.2.2.2.2.1,v4.2.2.2.2.2.1,v4.2.2.2.2.2.2.1,v4.2.2.2.2.2.2.2.1,(),v4.2.2.2.2.2.2.2.2.2.1,v4.2.2.2.2.2.2.2.2.2.2.1,v4.2.2.2.2.2.2.2.2.2.2.2,()),()),(v4.2.2.1,()))
abbrev yGx (v0:Int) (v1:dG) (v2 v3:dA):(yfu).X:=(((v0,()),((),()),((),()),((),()),((),()),()),((v1.1,v1.2,()),(v2.1,v2.2.1.1,v2.2.1.2,(),v2.2.2.2.1,v2.2.2.2.2.1,v2.2.2.2.2.2.1,v2.2.2.2.2.2.2.1,v2.2.2.2.2.2.2.2.1,(),v2.2.2.2.2.2.2.2.2.2.1,v2.2.2.2.2.2.2.2.2.2.2.1,v2.2.2.2.2.2.2.2.2.2.2.2,()),(v3.1,v3.2.1.1,v3.2.1.2,(),v3.2.2.2.1,v3.2.2.2.2.1,v3.2.2.2.2.2.1,v3.2.2.2.2.2.2.1,v3.2.2.2.2.2.2.2.1,(),v3.2.2.2.2.2.2.2.2.2.1,v3.2.2.2.2.2.2.2.2.2.2.1,v3.2.2.2.2.2.2.2.2.2.2.2,()),()),(v3.2.2.1,()))
abbrev ywp (v0 v1:dA):(yfj).X:=((((),()),((),()),()),((v0.1,v0.2.1.1,v0.2.1.2,(),v0.2.2.2.1,v0.2.2.2.2.1,v0.2.2.2.2.2.1,v0.2.2.2.2.2.2.1,v0.2.2.2.2.2.2.2.1,(),v0.2.2.2.2.2.2.2.2.2.1,v0.2.2.2.2.2.2.2.2.2.2.1,v0.2.2.2.2.2.2.2.2.2.2.2,()),(v1.1,v1.2.1.1,v1.2.1.2,(),v1.2.2.2.1,v1.2.2.2.2.1,v1.2.2.2.2.2.1,v1.2.2.2.2.2.2.1,v1.2.2.2.2.2.2.2.1,(),v1.2.2.2.2.2.2.2.2.2.1,v1.2.2.2.2.2.2.2.2.2.2.1,v1.2.2.2.2.2.2.2.2.2.2.2,()),()),(v1.2.2.1,()))
def yne (v0 v1 v2 v3 v4 v5 v6 v7 v8 v9 v10 v11 v12:Int) (v13 v14:Bool) (v15 v16 v17 v18 v19 v20 v21 v22 v23:Int) (v24 v25:Bool) (v26:List dM):Option ((yb3).X ⊕ ((yfj).X ⊕ (yiU).X)) :=bif(ltb v1 v2)then let r15:=ybZ (v2,v3);let r16:=ydk r15;let r17:=yx (v0,0,v1,v2,v3,0,(-1),0);bif(inb 0 r16.1.length)then zkt (yjM (((v0,()),((),()),((),()),((),()),(v1,()),((),()),((),()),()),((v2,v3,()),(v4,v5,v6,(),v7,v8,v9,v10,v11,(),v12,v13,v14,()),(v15,v16,v17,(),v18,v19,v20,v21,v22,(),v23,v24,v25,()),((),(),r16.2.2.1,(),()),()),(v26,(r16.1.set (0:Int).toNat r17),r16.2.1,r16.2.2.2,()))) (fun y17 =>bif(zkl y17.2.2.1.length ([(y17.2.2.2.1,y17.2.2.2.2.1,y17.2.1.2.2.2.1.2.2.1,y17.2.2.2.2.2.1)]:List dM).length 80)then some (.inl (((y17.1.1.1,()),((),()),((),()),((),()),((i64.wrap (y17.1.2.2.2.2.1.1+1)),()),()),((y17.2.1.1.1,y17.2.1.1.2.1,()),(y17.2.1.2.1.1,y17.2.1.2.1.2.1,y17.2.1.2.1.2.2.1,(),y17.2.1.2.1.2.2.2.2.1,y17.2.1.2.1.2.2.2.2.2.1,y17.2.1.2.1.2.2.2.2.2.2.1,y17.2.1.2.1.2.2.2.2.2.2.2.1,y17.2.1.2.1.2.2.2.2.2.2.2.2.1,(),y17.2.1.2.1.2.2.2.2.2.2.2.2.2.2.1,y17.2.1.2.1.2.2.2.2.2.2.2.2.2.2.2.1,y17.2.1.2.1.2.2.2.2.2.2.2.2.2.2.2.2.1,()),(y17.2.1.2.2.1.1,y17.2.1.2.2.1.2.1,y17.2.1.2.2.1.2.2.1,(),y17.2.1.2.2.1.2.2.2.2.1,y17.2.1.2.2.1.2.2.2.2.2.1,y17.2.1.2.2.1.2.2.2.2.2.2.1,y17.2.1.2.2.1.2.2.2.2.2.2.2.1,y17.2.1.2.2.1.2.2.2.2.2.2.2.2.1,(),y17.2.1.2.2.1.2.2.2.2.2.2.2.2.2.2.1,y17.2.1.2.2.1.2.2.2.2.2.2.2.2.2.2.2.1,y17.2.1.2.2.1.2.2.2.2.2.2.2.2.2.2.2.2.1,()),()),((y17.2.2.1++([(y17.2.2.2.1,y17.2.2.2.2.1,y17.2.1.2.2.2.1.2.2.1,y17.2.2.2.2.2.1)]:List dM)),()))) else none) (fun y17 =>some (.inr (.inr ((),(),())))) else none else some (.inr (.inl ((((),()),((),()),()),((v4,v5,v6,(),v7,v8,v9,v10,v11,(),v12,v13,v14,()),(v15,v16,v17,(),v18,v19,v20,v21,v22,(),v23,v24,v25,()),()),(v26,()))))
def ycs (x:(yb3).X):=yne x.1.1.1 x.1.2.2.2.2.1.1 x.2.1.1.1 x.2.1.1.2.1 x.2.1.2.1.1 x.2.1.2.1.2.1 x.2.1.2.1.2.2.1 x.2.1.2.1.2.2.2.2.1 x.2.1.2.1.2.2.2.2.2.1 x.2.1.2.1.2.2.2.2.2.2.1 x.2.1.2.1.2.2.2.2.2.2.2.1 x.2.1.2.1.2.2.2.2.2.2.2.2.1 x.2.1.2.1.2.2.2.2.2.2.2.2.2.2.1 x.2.1.2.1.2.2.2.2.2.2.2.2.2.2.2.1 x.2.1.2.1.2.2.2.2.2.2.2.2.2.2.2.2.1 x.2.1.2.2.1.1 x.2.1.2.2.1.2.1 x.2.1.2.2.1.2.2.1 x.2.1.2.2.1.2.2.2.2.1 x.2.1.2.2.1.2.2.2.2.2.1 x.2.1.2.2.1.2.2.2.2.2.2.1 x.2.1.2.2.1.2.2.2.2.2.2.2.1 x.2.1.2.2.1.2.2.2.2.2.2.2.2.1 x.2.1.2.2.1.2.2.2.2.2.2.2.2.2.2.1 x.2.1.2.2.1.2.2.2.2.2.2.2.2.2.2.2.1 x.2.1.2.2.1.2.2.2.2.2.2.2.2.2.2.2.2.1 x.2.2.1
def yv5 (x:(yfu).X):(yb3).X:=(((x.1.1.1,()),((),()),((),()),((),()),(0,()),()),((x.2.1.1.1,x.2.1.1.2.1,()),(x.2.1.2.1.1,x.2.1.2.1.2.1,x.2.1.2.1.2.2.1,(),x.2.1.2.1.2.2.2.2.1,x.2.1.2.1.2.2.2.2.2.1,x.2.1.2.1.2.2.2.2.2.2.1,x.2.1.2.1.2.2.2.2.2.2.2.1,x.2.1.2.1.2.2.2.2.2.2.2.2.1,(),x.2.1.2.1.2.2.2.2.2.2.2.2.2.2.1,x.2.1.2.1.2.2.2.2.2.2.2.2.2.2.2.1,x.2.1.2.1.2.2.2.2.2.2.2.2.2.2.2.2.1,()),(x.2.1.2.2.1.1,x.2.1.2.2.1.2.1,x.2.1.2.2.1.2.2.1,(),x.2.1.2.2.1.2.2.2.2.1,x.2.1.2.2.1.2.2.2.2.2.1,x.2.1.2.2.1.2.2.2.2.2.2.1,x.2.1.2.2.1.2.2.2.2.2.2.2.1,x.2.1.2.2.1.2.2.2.2.2.2.2.2.1,(),x.2.1.2.2.1.2.2.2.2.2.2.2.2.2.2.1,x.2.1.2.2.1.2.2.2.2.2.2.2.2.2.2.2.1,x.2.1.2.2.1.2.2.2.2.2.2.2.2.2.2.2.2.1,()),()),(x.2.2.1,()))
def yxL:Code:=(zd7 yel 64 244).getD .skip
theorem yHO:zd7 yel 64 61=some (.block 0 (.loop yxL)):=by kernel_rfl
theorem yKl (x:(yb3).X):zhu ⟨yji,60,ypv⟩ 0 yxL 244 yb3 yfj yiU x=ycs x:=by kernel_rfl
def ywg (x:(yfu).X):Nat:=18446744073709551616
def yoa (x:(yfu).X):Option ((yfj).X ⊕ (yiU).X):=zF ycs (ywg x) (yv5 x)
def ywz:Seg:=⟨yfu,yfj,yiU,yoa⟩
def yKK:Nat→Option Seg:=fun q=>bif Nat.beq q 61 then some ywz else ypv q
theorem yIh:FrOk prog ⟨yji,60,yKK⟩ yel:=(yIg).loop (sg:=ywz) yb3 yv5 (by decide) yHO ycs ywg (by decide) (fun _=>rfl) (fun x r _ h=>h) yKl
abbrev ynL:List Par:= [.rd tI,.rd tG]
abbrev yuZ:List OT:= [⟨false,tA,(.pr .fz (.pr (.pr .fz .fz) (.pr (.ow (.pr (.ow .fz) (.pr (.ow (.pr .fz .fz)) (.pr .fz (.ow .fz))))) (.pr .fz (.pr .fz (.pr .fz (.pr .fz (.pr .fz (.pr (.ow (.pr .fz .fz)) (.pr .fz (.pr .fz .fz)))))))))))⟩]
def yq6 (a0:Int) (a1:dG):Option (zaY yuZ×zak ynL) :=let r1:=yd a1;bif(!(!r1))then let r2:=ya a0 1 60000;bif(!r2)then some (((0,(0,0),[],0,0,0,0,0,[],0,false,false),()),()) else zkt (yoa (((a0,()),((),()),((),()),((),()),((),()),()),((a1.1,a1.2,()),(0,0,0,(),0,0,0,0,0,(),0,false,false,()),(a0,a1.1,a1.2,(),(-1),0,0,0,0,(),(-1),false,false,()),()),([],()))) (fun y18 =>some (((y18.2.1.2.1.1,(y18.2.1.2.1.2.1,y18.2.1.2.1.2.2.1),y18.2.2.1,y18.2.1.2.1.2.2.2.2.1,y18.2.1.2.1.2.2.2.2.2.1,y18.2.1.2.1.2.2.2.2.2.2.1,y18.2.1.2.1.2.2.2.2.2.2.2.1,y18.2.1.2.1.2.2.2.2.2.2.2.2.1,[],y18.2.1.2.1.2.2.2.2.2.2.2.2.2.2.1,y18.2.1.2.1.2.2.2.2.2.2.2.2.2.2.2.1,y18.2.1.2.1.2.2.2.2.2.2.2.2.2.2.2.2.1),()),())) (fun y18 =>none) else some (((0,(0,0),[],0,0,0,0,0,[],0,false,false),()),())
theorem yMQ:ConOk prog 115 ⟨ynL,yuZ,fun x=>yq6 x.1 x.2.1⟩:=zkI (yIh) func115 ntmps115.symm fun x=>by kernel_rfl
def yjv (a0:Int) (a1:dG):dA:=yjo a0 a1
theorem yOX (a0:Int) (a1:dG) (hk:zjx ynL (a0,a1,())):yq6 a0 a1=(fun n=>some ((n,()),())) (yjv a0 a1):=by
 unfold yq6 yjv yjo;simp only[ybA];cases hg:yd a1
 ·rfl
 cases hid:(leb 1 a0&&leb a0 60000)
 ·rfl
 have hge:=yl.1 hg
 have inner: ∀(i:Int) (a:dA),yjM (yCv a0 i a1 yhK a (yit a0 a1 i))=some (.inl (yqS a0 i a1 yhK a (yC a0 a1 i))):=fun i a =>
  zkD (step:=yaZ) a1.2.toNat (fun s m=>yi4 a0 i s a1 yhK a m) ypg (fun _ m=>(m.1.length:Int)=6+a1.2) (fun m=> .inl (yqS a0 i a1 yhK a m)) (fun s m hs hm=>⟨by
   simp only[yaZ,yi4,yjf,zky (show(s:Int)<a1.2 by omega),cond_true,wq ((s:Int)+1) (by omega) (by omega),Int.natCast_add,Int.natCast_one,Int.toNat_natCast,yfa];have hd:yy (s:Int)=((s+6:Nat):Int):=by unfold yy; rw[zk2 (show(0:Int)≤s by omega),zk2 (show(s:Int)≤1099511627776 by omega)]; rfl
   rw[hd,zkR (show s+6<m.1.length by omega),Int.toNat_natCast]; rfl,by show((m.1.set _ _).length:Int)=_; rw[List.length_set]; exact hm⟩) (fun m hm=>by simp only[yaZ,yi4,yjf,show((a1.2.toNat:Nat):Int)=a1.2 by omega,zk3 (Int.le_refl _),cond_false]) (yit a0 a1 i) (by
   unfold yit ybS;rw[zk2 (show 1≤6+a1.2 by omega),zk2 (show 6+a1.2≤20 by omega)];show(((List.replicate (6+a1.2).toNat ([]:List Int)).set 0 _).length:Int)=_
   rw[List.length_set,List.length_replicate]; omega) 18446744073709551616 (by omega)
 have hmn:ydk (ybZ a1)=ybS (6+a1.2):=by
  unfold ydk ybZ;rw[wr (by omega) (by omega)]
 have h0:inb 0 (ybS (6+a1.2)).1.length=true:=by
  unfold ybS;rw[zk2 (show 1≤6+a1.2 by omega),zk2 (show 6+a1.2≤20 by omega)];show inb 0 (List.replicate (6+a1.2).toNat ([]:List Int)).length=true;rw[List.length_replicate,zj6]; omega
 have outer:yoa (yGx a0 a1 yhK (yxI a0 a1))=some (.inl (ywp yhK ((List.range a1.1.toNat).foldl (fun a (i:Nat)=>yxF a (yC a0 a1 i)) (yxI a0 a1)))) :=
  zkD (step:=ycs) a1.1.toNat (fun i a=>yhH a0 i a1 yhK a) (fun a i=>yxF a (yC a0 a1 i)) (fun i a=>a.2.2.1.length=i) (fun a=> .inl (ywp yhK a)) (fun i a hi ha=>⟨by
   simp only[ycs,yhH,yne,zky (show(i:Int)<a1.1 by omega),cond_true,wq ((i:Int)+1) (by omega) (by omega),Int.natCast_add,Int.natCast_one,zkX,hmn,h0];refine(congrArg (fun z=>zkt z _ _) (inner i a)).trans ?_;simp only[zkN];show(bif zkl a.2.2.1.length [yC a0 a1 i].length 80 then _ else _)=_;rw[zkF.2 (show(a.2.2.1.length+ [yC a0 a1 i].length)*80≤140737488355328 by simp only[List.length_cons,List.length_nil]; omega)];simp only[cond_true];show some (Sum.inl (yhH a0 (i64.wrap ((i:Int)+1)) a1 yhK (yxF a (yC a0 a1 i))))=_
   rw[wq ((i:Int)+1) (by omega) (by omega)],by show(a.2.2.1++ [_]).length=_; rw[List.length_append,ha]; rfl⟩) (fun a ha=>by simp only[ycs,yhH,yne,show((a1.1.toNat:Nat):Int)=a1.1 by omega,zk3 (Int.le_refl _),cond_false]) (yxI a0 a1) rfl 18446744073709551616 (by omega)
 have hdr: ∀(l:List Nat) (a:dA),a.2.2.2.2.2.2.2.2.1= []→(l.foldl (fun a (i:Nat)=>yxF a (yC a0 a1 i)) a).2.2.2.2.2.2.2.2.1= []:=by
  intro l
  induction l with
  | nil=>intro a h; exact h
  | cons x t ih=>intro a h; exact ih _ h
 have h:=hdr (List.range a1.1.toNat) (yxI a0 a1) rfl;simp only[Bool.not_true,Bool.not_false,cond_true,cond_false,Bool.and_self];refine(congrArg (fun z=>zkt z _ _) outer).trans ?_;generalize (List.range a1.1.toNat).foldl (fun a (i:Nat)=>yxF a (yC a0 a1 i)) (yxI a0 a1)=R at h;simp only[zkN];show some ((((R.1,R.2.1,R.2.2.1,R.2.2.2.1,R.2.2.2.2.1,R.2.2.2.2.2.1,R.2.2.2.2.2.2.1,R.2.2.2.2.2.2.2.1,[],R.2.2.2.2.2.2.2.2.2):dA),()),())=some ((R,()),());rw[← h]
def yzZ:Con:=⟨ynL,yuZ,fun x=>(fun n=>some ((n,()),())) (yjv x.1 x.2.1)⟩
theorem yPJ:ConOk prog 115 yzZ:=(yMQ).mono (fun x r hk h=>(yOX x.1 x.2.1 hk).trans h)
def ySm:Code:=(f116.body).getD .skip
def ySx:Env:=zkw TT [(72,ydB)] []
theorem yLS:FrOk prog ⟨ySx,10,fun _=>none⟩ ySm:=zkA mixed yc ⟨yhb,trivial⟩
abbrev yxm:List Par:= [.pt tU .fz]
abbrev yxD:List OT:= [⟨false,tG,(.pr .fz .fz)⟩]
def yiC (a0:dU):Option (zaY yxD×zak yxm) :=bnd (yh a0 3) fun r1 =>bnd (yh r1.2.1 4) fun r2 =>some ((((i64.wrap (3+r1.1.1)),(i64.wrap (1+r2.1.1))),()),(r2.2.1,()))
theorem yPx:ConOk prog 116 ⟨yxm,yxD,fun x=>yiC x.1⟩:=zkI (yLS) func116 ntmps116.symm fun x=>by kernel_rfl
def yBy:Con:=⟨yxm,yxD,fun x=>yiC x.1⟩
theorem yR1:ConOk prog 116 yBy:=yPx
theorem yUU (u:dU) (h:ydM u): ∃(g:dG) (u':dU),yiC u=some ((g,()),(u',()))∧yd g=true∧ydM u':=by
 unfold yiC;obtain⟨r1,u1,e1,q1,d1⟩:=yeo u 3 h;obtain⟨r2,u2,e2,q2,d2⟩:=yeo u1 4 d1;simp only[e1,e2,zkH];refine⟨_,_,rfl,?_,d2⟩;have:=q1.2.1 (by omega); have:=q2.2.1 (by omega); have:=q1.1; have:=q2.1;rw[wr (by omega) (by omega),wr (by omega) (by omega)];exact yl.2 ⟨⟨by show 3≤3+r1; omega,by show 3+r1≤5; omega⟩,by show 1≤1+r2; omega,by show 1+r2≤8; omega⟩
def ySj:Code:=(f162.body).getD .skip
def ySu:Env:=zkw TT [(82,yz),(200,yfH)] []
theorem yLJ:FrOk prog ⟨ySu,22,fun _=>none⟩ ySj:=zkA mixed yc ⟨yF,ykT,trivial⟩
abbrev yxj:List Par:= [.rd tN]
abbrev yxx:List OT:= [⟨false,tB,.fz⟩]
def yB5 (a0:dN):Option (zaY yxx×zak yxj) :=let r1:=ya a0.1 0 60000;bif r1 then let r2:=ya a0.2.1 0 7;bif r2 then let r3:=ya (a0.2.2.length:Int) 2 4;bif r3 then let r4:=yZ a0.2.2;some ((r4,()),()) else some ((false,()),()) else some ((false,()),()) else some ((false,()),())
theorem yPr:ConOk prog 162 ⟨yxj,yxx,fun x=>yB5 x.1⟩:=zkI (yLJ) func162 ntmps162.symm fun x=>by kernel_rfl
def ybc (a0:dN):Bool :=let r1:=ya a0.1 0 60000;bif r1 then let r2:=ya a0.2.1 0 7;bif r2 then let r3:=ya (a0.2.2.length:Int) 2 4;bif r3 then let r4:=yZ a0.2.2;r4 else false else false else false
def yBu:Con:=⟨yxj,yxx,fun x=>(fun n=>some ((n,()),())) (ybc x.1)⟩
theorem yRH (a0:dN):yB5 a0=(fun n=>some ((n,()),())) (ybc a0):=zkV (p:=fun(n:Bool)=>((n,()),())) (zkG (p:=fun(n:Bool)=>((n,()),())) (zkG (p:=fun(n:Bool)=>((n,()),())) (zkG (p:=fun(n:Bool)=>((n,()),())) rfl rfl) rfl) rfl)
theorem yRX:ConOk prog 162 yBu:=(yPr).mono (fun x r _ h=>(yRH x.1).trans h)
abbrev yV9:dN:=(0,0,[])
def yjF (r:dN):List Int:=bif ybc r then 21322::r.1::r.2.1::(r.2.2.length:Int)::r.2.2 else[]
def yVn (l:List Int):dN:=(nth l 1 0,nth l 2 0,l.drop 4)
def yVR (l:List Int):dN×Bool:=bif leb 4 (l.length:Int)&&(nth l 0 0==21322&&(nth l 3 0==(l.length:Int)-4&&ybc (yVn l)))then(yVn l,true)else(yV9,false)
theorem yQt {r:dN}:ybc r=true↔(0≤r.1∧r.1≤60000)∧(0≤r.2.1∧r.2.1≤7)∧(2≤(r.2.2.length:Int)∧(r.2.2.length:Int)≤4)∧r.2.2.all isW=true:=by
 unfold ybc;simp only[yf9,← yqO];cases ya r.1 0 60000<;>cases ya r.2.1 0 7<;>cases ya (r.2.2.length:Int) 2 4<;>simp
def ybd (r:dN) (a:dA) (i:Nat):dA:=yce a i (yN r.1) (yjF r)
def yJ (a:dA) (r:dN):dA:=yq ((List.range a.2.2.1.length).foldl (ybd r) a)
theorem yml (r:dN) (a:dA) (i:Nat):(ybd r a i).2.2.1.length=a.2.2.1.length:=yph _ _ _ _
theorem yHt (r:dN) {a:dA} (i:Nat) (h:yb a=true):ybd r a i=a:=ysP h _ _ _
theorem yTL (a:dA) (r:dN):(yJ a r).2.2.1.length=a.2.2.1.length:=(yzn _).trans (yop (yml r) _ _)
theorem ybe (a:dA) (r:dN):yo (yJ a r)=yo a:=(ycA _).trans (ytH (one:=ybd r) (fun _ _=>yoG _ _ _ _) _ _)
def ybX (p N x:Int) (data:List Int) (i:Int):Int:=bif i==p then x else nth data ((i-p-1+N).tmod N) 0
def yaW (p N s:Int) (data:List Int) (a:dA) (i:Nat):dA:=bif ybR a i s then yce a i (yy s) [ybX p N (yai data) data i]else a
def yB (a:dA) (s:Int) (data:List Int):dA:=(List.range a.2.2.1.length).foldl (yaW (yg a.2.1 s) a.2.1.1 s data) a
theorem ytb (p N s:Int) (data:List Int) (a:dA) (i:Nat):(yaW p N s data a i).2.2.1.length=a.2.2.1.length:=by
 unfold yaW; cases ybR a i s
 ·rfl
 ·exact yph _ _ _ _
theorem yDP (p N s:Int) (data:List Int) {a:dA} (i:Nat) (h:yb a=true):yaW p N s data a i=a:=by
 unfold yaW; cases ybR a i s
 ·rfl
 ·exact ysP h _ _ _
theorem yDO (p N s:Int) (data:List Int) (a:dA) (i:Nat):yo (yaW p N s data a i)=yo a:=by
 unfold yaW; cases ybR a i s
 ·rfl
 ·exact yoG _ _ _ _
theorem ytt (a:dA) (s:Int) (data:List Int):yo (yB a s data)=yo a:=ytH (yDO _ _ _ _) _ _
theorem yWm {N i p:Int} (h:3≤N∧N≤5) (hi:0≤i∧i<N) (hp:0≤p∧p≤N-1) (hne:i≠p):0≤(i-p-1+N).tmod N∧(i-p-1+N).tmod N<N-1:=by
 rw[Int.tmod_eq_emod_of_nonneg (by omega)];have:N=3∨N=4∨N=5:=by omega
 rcases this with rfl | rfl | rfl<;>omega
theorem yUe {N p x:Int} {data:List Int} (h:3≤N∧N≤5) (hp:0≤p∧p≤N-1) (hd:(data.length:Int)=N-1) :
  (List.range data.length).foldl (fun l (i:Nat)=>l.set ((p+1+i).tmod N).toNat (nth data i 0)) ((List.replicate N.toNat 0).set p.toNat x)=(List.range N.toNat).map (fun(i:Nat)=>ybX p N x data i):=by
 have:N=3∨N=4∨N=5:=by omega
 rcases this with rfl | rfl | rfl
 ·match data,hd with
  | [a,b],_ =>
   have:p=0∨p=1∨p=2:=by omega
   rcases this with rfl | rfl | rfl<;>simp[ybX,nth,List.range_succ,List.replicate_succ]
  | [],hd=>simp at hd
  | [_],hd=>simp at hd
  | _::_::_::_,hd=>simp only[List.length_cons]at hd; omega
 ·match data,hd with
  | [a,b,c],_ =>
   have:p=0∨p=1∨p=2∨p=3:=by omega
   rcases this with rfl | rfl | rfl | rfl<;>simp[ybX,nth,List.range_succ,List.replicate_succ]
  | [],hd=>simp at hd
  | [_],hd=>simp at hd
  | [_,_],hd=>simp at hd
  | _::_::_::_::_,hd=>simp only[List.length_cons]at hd; omega
 ·match data,hd with
  | [a,b,c,d],_ =>
   have:p=0∨p=1∨p=2∨p=3∨p=4:=by omega
   rcases this with rfl | rfl | rfl | rfl | rfl<;>simp[ybX,nth,List.range_succ,List.replicate_succ]
  | [],hd=>simp at hd
  | [_],hd=>simp at hd
  | [_,_],hd=>simp at hd
  | [_,_,_],hd=>simp at hd
  | _::_::_::_::_::_,hd=>simp only[List.length_cons]at hd; omega
def yi (a:dA) (i:Int):dM:=nth a.2.2.1 i yf
theorem yFj {a:dA} {m i:Int} {x:dM} (hm:inb m a.2.2.1.length=true) (hi:0≤i):yi (ycX a m x) i=bif m==i then x else yi a i:=yyN hm hi
def yf0 (n:Int) (s:List Int) (m:dM):dM:=bif m.2.2.1 then m else(yX m n s).1
def Did (g:dM→dM) (i:Int) (a r:dA):Prop:=yo r=yo a∧r.2.2.1.length=a.2.2.1.length ∧ ((yb r=false∧ ∀j,0≤j→yi r j=bif i==j then g (yi a j)else yi a j)∨(yb r=true∧ ∀j,yi r j=yi a j))
theorem yFn {a:dA} {m:Int} (n:Int) (s:List Int) (h:yb a=false) (hm:inb m a.2.2.1.length=true):Did (yf0 n s) m a (yce a m n s):=by
 refine⟨yoG _ _ _ _,yph _ _ _ _,?_⟩;have hd:=yS1 h m n s;unfold yce at hd ⊢;cases hf:(nth a.2.2.1 m yf).2.2.1
 ·rw[hf]at hd
  cases ho:(opA a).1
  ·rw[ho]at hd
   refine .inr ⟨hd,fun j=> ?_⟩;show nth (opA a).2.2.2.1 j yf=yi a j;rw[yau]; rfl
  ·rw[ho]at hd
   refine .inl ⟨hd,fun j hj=> ?_⟩;show yi (ycX (opA a).2 m (yX (nth a.2.2.1 m yf) n s).1) j=_;rw[yFj (by rw[yau]; exact hm) hj];cases hj2:(m==j)
   ·show nth (opA a).2.2.2.1 j yf=yi a j
    rw[yau]; rfl
   ·have:=beq_iff_eq.1 hj2
    subst this;show _=yf0 n s (yi a m);unfold yf0 yi;rw[hf]; rfl
 ·refine .inl ⟨h,fun j hj=> ?_⟩
  cases hj2:(m==j)
  ·rfl
  ·have:=beq_iff_eq.1 hj2
   subst this;show yi a m=yf0 n s (yi a m);unfold yf0 yi;rw[hf]; rfl
theorem yVd {a:dA} {i:Nat} (h:yb a=false) (hm:i<a.2.2.1.length):Did yr i a (yI a i):=by
 refine⟨yE5 _ _,yjK _ _,?_⟩;have hd:=yE6 h i;unfold yI at hd ⊢;cases hf:(nth a.2.2.1 i yf).2.2.1
 ·rw[hf]at hd
  cases ho:(opA a).1
  ·rw[ho]at hd
   refine .inr ⟨hd,fun j=> ?_⟩;show nth (opA a).2.2.2.1 j yf=yi a j;rw[yau]; rfl
  ·rw[ho]at hd
   refine .inl ⟨hd,fun j hj=> ?_⟩;show yi (ycX (opA a).2 i (yr (nth a.2.2.1 i yf))) j=_;rw[yFj (by rw[yau]; exact zkR hm) hj];cases hj2:((i:Int)==j)
   ·show nth (opA a).2.2.2.1 j yf=yi a j
    rw[yau]; rfl
   ·have:=beq_iff_eq.1 hj2
    subst this; rfl
 ·refine .inl ⟨h,fun j hj=> ?_⟩
  cases hj2:((i:Int)==j)
  ·rfl
  ·have:=beq_iff_eq.1 hj2
   subst this;show yi a i=yr (yi a i);unfold yr yi;rw[hf,Bool.not_true,Bool.and_false]; rfl
def Adv (g:Int→dM→dM) (a r:dA) (n:Nat):Prop:=yo r=yo a∧r.2.2.1.length=a.2.2.1.length ∧ ∃k:Nat,k≤n∧(∀j:Int,0≤j→yi r j=bif ltb j k then g j (yi a j)else yi a j)∧(yb r=false→k=n)
theorem yxH {one:dA→Nat→dA} {g:Int→dM→dM} {a:dA} (hs: ∀b i,yb b=true→one b i=b)
  (ho: ∀(b:dA) (i:Nat),yo b=yo a→b.2.2.1.length=a.2.2.1.length→i<a.2.2.1.length→yb b=false→yi b i=yi a i→Did (g i) i b (one b i)) (hd:yb a=false) :
  ∀n,n≤a.2.2.1.length→Adv g a ((List.range n).foldl one a) n
 | 0,_=>⟨rfl,rfl,0,Nat.le_refl _,fun j hj=>by rw[zk3 (show((0:Nat):Int)≤j by omega)]; rfl,fun _=>rfl⟩
 | n+1,hn=>by
  obtain⟨h1,h2,k,h3,h4,h5⟩:=yxH hs ho hd n (by omega);rw[List.range_succ,List.foldl_append,List.foldl_cons,List.foldl_nil];generalize (List.range n).foldl one a=R at h1 h2 h4 h5 ⊢;cases hR:yb R
  ·have hk:=h5 hR
   subst hk;have e:yi R k=yi a k:=by rw[h4 k (by omega),zk3 (Int.le_refl _)]; rfl
   obtain⟨g1,g2,g3⟩:=ho R k h1 h2 (by omega) hR e;refine⟨g1.trans h1,g2.trans h2,?_⟩;rcases g3 with⟨g3,g4⟩ | ⟨g3,g4⟩
   ·refine⟨k+1,Nat.le_refl _,fun j hj=> ?_,fun _=>rfl⟩
    rw[g4 j hj];by_cases hj2:(k:Int)=j
    ·subst hj2
     rw[show((k:Int)==(k:Int))=true from beq_self_eq_true _,zky (show(k:Int)<((k+1:Nat):Int)by omega),e]; try rfl
    ·rw[show((k:Int)==j)=false from beq_eq_false_iff_ne.2 hj2,cond_false,h4 j hj,show ltb j ((k+1:Nat):Int)=ltb j k by rw[Bool.eq_iff_iff,zka,zka]; omega]
   ·refine⟨k,by omega,fun j hj=>by rw[g4 j,h4 j hj],fun h=> ?_⟩
    rw[g3]at h; cases h
  ·rw[hs R n hR]
   exact⟨h1,h2,k,by omega,h4,fun h=>by rw[hR]at h; cases h⟩
theorem yVc {a:dA} (hd:yb a=false):Adv (fun _=>yr) a (yq a) a.2.2.1.length :=
 yxH (one:=yI) (g:=fun _=>yr) (fun _ i h=>yzl i h) (fun b i _ h2 hi hb _=>yVd hb (by omega)) hd _ (Nat.le_refl _)
theorem ySD {a b:dA} (h:yo b=yo a) (i:Int):yFp b i=yFp a i:=by
 unfold yo at h;simp only[Prod.mk.injEq]at h;obtain⟨h1,h2,h3,h4,h5,h6,h7,h8,h9⟩:=h;unfold yFp;rw[h1,h2,h3,h4,h6,h7]
theorem yya {a b:dA} (h:yo b=yo a):b.2.2.2.2.2.2.2.1=a.2.2.2.2.2.2.2.1:=congrArg (fun x=>x.2.2.2.2.2.2.1) h
theorem yHX {a b:dA} (h:yo b=yo a):b.2.2.2.2.2.2.2.2.2.2.2=a.2.2.2.2.2.2.2.2.2.2.2:=congrArg (fun x=>x.2.2.2.2.2.2.2.2) h
def yL1 (a:dA) (i:Int) (m:dM):dM:=yf0 (a.2.2.2.2.2.2.2.1.tmod 2) (yx (yFp a i)) m
theorem yU6 {a:dA} (hd:yb a=false):Adv (yL1 a) a ((List.range a.2.2.1.length).foldl yY a) a.2.2.1.length :=
 yxH (one:=yY) (g:=yL1 a) (fun _ i h=>ysP h _ _ _) (fun b i h1 h2 hi hb _=>by
  have:=yFn (b.2.2.2.2.2.2.2.1.tmod 2) (yx (yFp b i)) hb (show inb (i:Int) b.2.2.1.length=true from zkR (by omega));rw[yya h1,ySD h1]at this;unfold yL1 yY;rw[yya h1,ySD h1]
  exact this) hd _ (Nat.le_refl _)
theorem yVF {a:dA} (r:dN) (hd:yb a=false):Adv (fun _=>yf0 (yN r.1) (yjF r)) a ((List.range a.2.2.1.length).foldl (ybd r) a) a.2.2.1.length :=
 yxH (one:=ybd r) (g:=fun _=>yf0 (yN r.1) (yjF r)) (fun _ i h=>yHt r i h) (fun b i _ h2 hi hb _=>yFn _ _ hb (zkR (by omega))) hd _ (Nat.le_refl _)
def yK (L B i s:Int) (m:dM):Bool:= !m.2.2.1&&(i !=L||ltb s B)
theorem yTH {a:dA} {i s:Int} (hi:inb i a.2.2.1.length=true):ybR a i s=yK a.2.2.2.1 a.2.2.2.2.1 i s (yi a i):=by
 unfold ybR yK yi;rw[hi]; rfl
def yhG (L B p N s:Int) (d:List Int) (i:Int) (m:dM):dM:=bif yK L B i s m then(yX m (yy s) [ybX p N (yai d) d i]).1 else m
theorem ySE {a:dA} (s:Int) (d:List Int) (hd:yb a=false):Adv (yhG a.2.2.2.1 a.2.2.2.2.1 (yg a.2.1 s) a.2.1.1 s d) a (yB a s d) a.2.2.1.length :=
 yxH (one:=yaW (yg a.2.1 s) a.2.1.1 s d) (g:=yhG a.2.2.2.1 a.2.2.2.2.1 (yg a.2.1 s) a.2.1.1 s d) (fun _ i h=>yDP _ _ _ _ i h) (fun b i h1 h2 hi hb _=>by
  have hib:inb (i:Int) b.2.2.1.length=true:=zkR (by omega);unfold yaW;rw[yTH hib,ycm h1,yaS h1];cases hl:yK a.2.2.2.1 a.2.2.2.2.1 i s (yi b i)
  ·refine⟨rfl,rfl,.inl ⟨hb,fun j hj=> ?_⟩⟩
   by_cases hj2:(i:Int)=j
   ·subst hj2
    rw[beq_self_eq_true];show yi b i=yhG _ _ _ _ _ _ _ (yi b i);unfold yhG;rw[hl]; rfl
   ·rw[show((i:Int)==j)=false from beq_eq_false_iff_ne.2 hj2]; rfl
  ·obtain⟨g1,g2,g3⟩:=yFn (yy s) [ybX (yg a.2.1 s) a.2.1.1 (yai d) d i] hb hib
   refine⟨g1,g2,g3.imp (fun⟨g3,g4⟩=>⟨g3,fun j hj=> ?_⟩) id⟩;show yi (yce b i (yy s) _) j=_;rw[g4 j hj];by_cases hj2:(i:Int)=j
   ·subst hj2
    rw[beq_self_eq_true,cond_true,cond_true];unfold yhG yf0;rw[hl,cond_true];simp only[yK,Bool.and_eq_true,Bool.not_eq_true']at hl;rw[hl.1]; rfl
   ·rw[show((i:Int)==j)=false from beq_eq_false_iff_ne.2 hj2]; rfl) hd _ (Nat.le_refl _)
def ym (a:dA):dA:=bif leb 4 (i64.wrap (a.2.2.2.2.2.1-a.2.2.2.2.2.2.1))then yR a else a
def yH (a:dA) (s:Int) (d:List Int):Int×dA :=bif yb (ym a)then(6,ym a)else bif yb (yJ (ym a) ((ym a).2.2.2.2.2.1,s,d))then(6,yJ (ym a) ((ym a).2.2.2.2.2.1,s,d))else (bif yb (yB (yU (yJ (ym a) ((ym a).2.2.2.2.2.1,s,d))) s d)then 6 else 0,yB (yU (yJ (ym a) ((ym a).2.2.2.2.2.1,s,d))) s d)
theorem yDL (a:dA):(yR a).2.1=a.2.1:=by
 unfold yR;cases yb (yq a)
 ·exact(yaC (yle (yaV (yq a)))).trans (show(yq a).2.1=a.2.1 from yaC (ycA a))
 ·exact yaC (ycA a)
theorem yFf (a:dA):(ym a).2.1=a.2.1:=by
 unfold ym;cases leb 4 (i64.wrap (a.2.2.2.2.2.1-a.2.2.2.2.2.2.1))
 ·rfl
 ·exact yDL a
theorem yl9 {a:dA} (h:yae a) {i:Int} (h0:0≤i) (h1:i<a.2.1.1):yu (yi a i)=true∧((yi a i).1.length:Int)=6+a.2.1.2∧((yi a i).2.2.1=true→i=a.2.2.2.1∨a.2.2.2.2.2.2.2.2.2.2.2=true):=by
 have:=h.1.1 i.toNat (by have:=h.1.2; omega);unfold yvo at this;rw[Int.toNat_of_nonneg h0]at this;exact this
theorem yqE {s:Int} (h0:0≤s) (h1:s≤1000):yy s=s+6:=by
 unfold yy;rw[zk2 h0,zk2 (show s≤1099511627776 by omega)]; rfl
def yG (a:dA) (s i:Int):Bool:=yK a.2.2.2.1 a.2.2.2.2.1 i s (yi a i)&& !(yh5 (yi a i) (s+6))
def yCc (V:Int→Int→Int) (a:dA):Prop:= ∀i s,0≤i→i<a.2.1.1→0≤s→s<a.2.1.2→yG a s i=true→yjQ (yi a i) (s+6)= [V s i]
def ye3 (V:Int→Int→Int) (N:Int) (s:Int):List Int:=(List.range N.toNat).map (fun(i:Nat)=>V s i)
structure EvV (g:dG) (V:Int→Int→Int):Prop where
 ev: ∀s,0≤s→s<g.2→yai (ye3 V g.1 s)=0
 ew: ∀s i,0≤s→s<g.2→0≤i→i<g.1→isW (V s i)=true
theorem yAQ {V:Int→Int→Int} {a:dA} {i s:Int} (hg:yd a.2.1=true) (hk:yae a) (hv:yCc V a) (i0:0≤i) (i1:i<a.2.1.1) (s0:0≤s) (s1:s<a.2.1.2):yn a i s=yG a s i∧(yG a s i=true→ynm a i s=V s i):=by
 have hge:=yl.1 hg;have hin:inb i a.2.2.1.length=true:=zj6.2 (by have:=hk.1.2; omega);obtain⟨d1,d2,d3⟩:=yl9 hk i0 i1
 have key:yK a.2.2.2.1 a.2.2.2.2.1 i s (yi a i)=true→ycB a i s=bif yh5 (yi a i) (s+6)then([],false)else(yjQ (yi a i) (s+6),true):=fun hl=>by
  simp only[yK,Bool.and_eq_true,Bool.not_eq_true']at hl;unfold ycB;rw[yqE s0 (by omega)];exact yU9 d1 hl.1 (zj6.2 (show 0≤s+6∧s+6<((yi a i).1.length:Int)by omega))
 have hw:yn a i s=yG a s i:=by
  unfold yn;rw[yTH hin];cases hl:yK a.2.2.2.1 a.2.2.2.2.1 i s (yi a i)
  ·unfold yG; rw[hl]; rfl
  ·rw[key hl]
   cases hb:yh5 (yi a i) (s+6)
   ·have hh:yG a s i=true:=by unfold yG; rw[hl,hb]; rfl
    rw[hh,cond_false,hv i s i0 i1 s0 s1 hh]; rfl
   ·unfold yG; rw[hl,hb]; rfl
 refine⟨hw,fun hh=> ?_⟩;unfold ynm;rw[hw,hh,cond_true];have hh':=hh;unfold yG at hh';rw[Bool.and_eq_true,Bool.not_eq_true']at hh';rw[key hh'.1,hh'.2,cond_false,hv i s i0 i1 s0 s1 hh]; rfl
theorem yVk: ∀(l:List Int) (k:Nat) (x:Int),k<l.length→yeb (l.set k x)=yeb l ^^^ bv (nth l k 0) ^^^ bv x:=by
 intro l k x hk
 have e1:l=l.take k++nth l k 0::l.drop (k+1):=by
  rw[zkS,zkJ hk,← List.drop_eq_getElem_cons hk,List.take_append_drop]
 have e2:l.set k x=l.take k++x::l.drop (k+1):=by
  rw[List.set_eq_take_append_cons_drop,if_pos hk]
 have fo: ∀(l:List Int) (v:BitVec 64),l.foldl (fun v x=>v ^^^ bv x) v=v ^^^ yeb l:=by
  intro l
  induction l with
  | nil=>intro v; show v=v ^^^ 0#64; rw[BitVec.xor_zero]
  | cons y t ih =>
   intro v;unfold yeb;rw[List.foldl_cons,List.foldl_cons,ih,ih (0#64 ^^^ bv y),BitVec.zero_xor,BitVec.xor_assoc]
 have cut: ∀(A:List Int) (y:Int) (B:List Int),yeb (A++y::B)=yeb A ^^^ bv y ^^^ yeb B:=fun A y B=>by
  show(A++y::B).foldl _ _=_;rw[List.foldl_append,List.foldl_cons,fo]; rfl
 rw[e2,cut]
 conv=>rhs; rw[e1]
 rw[cut];have hn:nth (List.take k l++nth l (↑k) 0::List.drop (k+1) l) (k:Int) 0=nth l k 0:=by rw[← e1]
 rw[hn,BitVec.xor_assoc (yeb (l.take k)),BitVec.xor_assoc (yeb (l.take k)),BitVec.xor_comm (bv (nth l k 0)),BitVec.xor_assoc (yeb (l.take k)),yQz,BitVec.xor_comm (bv x),BitVec.xor_assoc]
theorem yUg {l:List Int} (h:yai l=0):yeb l=0#64:=by
 rw[ylJ]at h;have:=congrArg bv h;rw[ysA]at this;rw[this]; rfl
theorem yQr {p:Nat→Bool}: ∀{n:Nat},ydL p n=false→ ∀j,j<n→p j=true∨(j:Int)=yv p n
 | 0,_,j,hj=>absurd hj (Nat.not_lt_zero _)
 | n+1,h,j,hj=>by
  have h':ydL p n=false:=by
   unfold ydL at h ⊢;rw[List.range_succ,List.any_append,Bool.or_eq_false_iff]at h;exact h.1
  have hl:(!p n&&leb 0 (yv p n))=false:=by
   unfold ydL at h;rw[List.range_succ,List.any_append,Bool.or_eq_false_iff]at h;simpa using h.2
  unfold yv;rcases Nat.lt_succ_iff_lt_or_eq.1 hj with hj | rfl
  ·rcases yQr h' j hj with h1 | h1
   ·exact .inl h1
   ·cases hp:p n
    ·rw[hp,← h1]at hl
     rw[zk2 (show(0:Int)≤j by omega)]at hl; cases hl
    ·exact .inr h1
  ·cases hp:p j
   ·exact .inr rfl
   ·exact .inl rfl
theorem yQq {p:Nat→Bool}: ∀{n:Nat},leb 0 (yv p n)=false→ ∀j,j<n→p j=true
 | 0,_,j,hj=>absurd hj (Nat.not_lt_zero _)
 | n+1,h,j,hj=>by
  unfold yv at h;cases hp:p n
  ·rw[hp,cond_false,zk2 (show(0:Int)≤n by omega)]at h; cases h
  ·rw[hp,cond_true]at h
   rcases Nat.lt_succ_iff_lt_or_eq.1 hj with hj | rfl
   ·exact yQq h j hj
   ·exact hp
theorem yE9 (V:Int→Int→Int) (N s:Int):(ye3 V N s).length=N.toNat:=by unfold ye3; rw[List.length_map,List.length_range]
theorem yUE (V:Int→Int→Int) (N s:Int) {j:Nat} (h:j<(ye3 V N s).length):(ye3 V N s)[j]=V s j:=by simp[ye3]
theorem yS8 (V:Int→Int→Int) {N s i:Int} (h0:0≤i) (h1:i<N):nth (ye3 V N s) i 0=V s i:=by
 unfold ye3 nth;rw[zkJ (by rw[List.length_map,List.length_range]; omega),List.getElem_map,List.getElem_range,Int.toNat_of_nonneg h0]
theorem yNP {V:Int→Int→Int} {a:dA} {s:Int} (hg:yd a.2.1=true) (hk:yae a) (he:EvV a.2.1 V) (hv:yCc V a) (s0:0≤s) (s1:s<a.2.1.2) :
  yP a s=bif ydL (fun(i:Nat)=>yG a s i) a.2.1.1.toNat then([],false)else(ye3 V a.2.1.1 s,true):=by
 have hw: ∀i:Nat,i<a.2.1.1.toNat→yn a i s=yG a s i:=fun i hi=>(yAQ hg hk hv (by omega) (by omega) s0 s1).1
 have hm: ∀n,n≤a.2.1.1.toNat→yv (fun(i:Nat)=>yn a i s) n=yv (fun(i:Nat)=>yG a s i) n:=by
  intro n
  induction n with
  | zero=>intro _; rfl
  | succ n ih=>intro hn; unfold yv; rw[hw n (by omega),ih (by omega)]
 have h2:ydL (fun(i:Nat)=>yn a i s) a.2.1.1.toNat=ydL (fun(i:Nat)=>yG a s i) a.2.1.1.toNat:=by
  unfold ydL;rw[Bool.eq_iff_iff,List.any_eq_true,List.any_eq_true];constructor
  ·rintro⟨i,hi,h⟩
   have hi':=List.mem_range.1 hi;exact⟨i,hi,by dsimp only at h ⊢; rw[hw i hi',hm i (by omega)]at h; exact h⟩
  ·rintro⟨i,hi,h⟩
   have hi':=List.mem_range.1 hi;exact⟨i,hi,by dsimp only at h ⊢; rw[hw i hi',hm i (by omega)]; exact h⟩
 unfold yP;rw[h2,hm _ (Nat.le_refl _)];cases hc:ydL (fun(i:Nat)=>yG a s i) a.2.1.1.toNat
 ·simp only[cond_false]
  cases hn:leb 0 (yv (fun(i:Nat)=>yG a s i) a.2.1.1.toNat)
  ·simp only[cond_false]
   congr 1;refine List.map_congr_left fun i hi=> ?_
   have hi':=List.mem_range.1 hi;exact(yAQ hg hk hv (by omega) (by omega) s0 s1).2 (yQq hn i hi')
  ·simp only[cond_true]
   congr 1;rcases yEm (fun(i:Nat)=>yG a s i) a.2.1.1.toNat with h3 | ⟨k0,k1,k2⟩
   ·rw[h3]at hn; cases hn
   ·have hu:=yQr hc
    generalize yv (fun(i:Nat)=>yG a s i) a.2.1.1.toNat=k at *;obtain⟨k,rfl⟩: ∃m:Nat,k=m:=⟨k.toNat,by omega⟩;rw[Int.toNat_natCast]at k2 ⊢;have hkl:k<(ye3 V a.2.1.1 s).length:=by rw[yE9]; omega
    have e:yQ a s a.2.1.1.toNat=(ye3 V a.2.1.1 s).set k 0:=by
     refine List.ext_getElem (by rw[yea,List.length_set,yE9]) fun j h3 h4=> ?_
     rw[yea]at h3;rw[List.getElem_set];have e1:(yQ a s a.2.1.1.toNat)[j]'(by rw[yea]; exact h3)=ynm a j s:=by unfold yQ; simp
     have e2:(ye3 V a.2.1.1 s)[j]'(by rw[yE9]; exact h3)=V s j:=by unfold ye3; simp
     rw[e1];by_cases hj:k=j
     ·subst hj
      rw[if_pos rfl];unfold ynm;rw[hw k (by omega),k2]; rfl
     ·rw[if_neg hj,e2]
      rcases hu j h3 with h5 | h5
      ·exact(yAQ hg hk hv (by omega) (by omega) s0 s1).2 h5
      ·exact absurd h5 (by omega)
    have hx:yai (yQ a s a.2.1.1.toNat)=V s k:=by
     rw[e,ylJ,yVk _ _ _ hkl,yUg (he.ev s s0 s1),BitVec.zero_xor,show bv 0=0#64 by decide,BitVec.xor_zero,yS8 V (by omega) (by omega)];have:=ysI.1 (he.ew s k s0 s1 (by omega) (by omega));exact yVe (by omega) (by omega)
    rw[hx,e,List.set_set];refine List.ext_getElem (by rw[List.length_set]) fun j h3 h4=> ?_
    rw[List.getElem_set];by_cases hj:k=j
    ·subst hj
     rw[if_pos rfl];exact(yUE _ _ _ h4).symm
    ·rw[if_neg hj]
 ·rfl
def yQV:Code:=(f83.body).getD .skip
def yRo:Env:=zkw TT [(72,ydB)] []
theorem yIs:FrOk prog ⟨yRo,9,fun _=>none⟩ yQV:=zkA mixed yc ⟨yhb,trivial⟩
abbrev yuF:List Par:= [.pt tU .fz,.rd tI]
abbrev yu9:List OT:= [⟨false,tB,.fz⟩]
def ybD (a0:dU) (a1:Int):Option (zaY yu9×zak yuF) :=bnd (yh a0 a1) fun r1 =>some (((r1.1.1==0),()),(r1.2.1,()))
theorem yM0:ConOk prog 83 ⟨yuF,yu9,fun x=>ybD x.1 x.2.1⟩:=zkI (yIs) func83 ntmps83.symm fun x=>by kernel_rfl
def yz5:Con:=⟨yuF,yu9,fun x=>ybD x.1 x.2.1⟩
theorem yPP:ConOk prog 83 yz5:=yM0
theorem yTE (u:dU) (n:Int) (h:ydM u): ∃(r:Bool) (u':dU),ybD u n=some ((r,()),(u',()))∧ydM u':=by
 unfold ybD;obtain⟨r,u1,e1,_,d1⟩:=yeo u n h;simp only[e1,zkH];exact⟨_,_,rfl,d1⟩
def yem:Code:=(f76.body).getD .skip
def yjj:Env:=zkw TT [] [(21056,.fz),(21120,.fz),(37952,(.pr .fz .fz)),(38016,(.pr .fz .fz))]
theorem yIv:FrOk prog ⟨yjj,60,fun _=>none⟩ yem:=zkA mixed yc trivial
def yzw:Nat→Option Seg:=fun _=>none
def yb6:Shape:=⟨[(1,false,[.ptr 0 0]),(2,false,[.ptr 64 0]),(3,false,[.ptr 4544 0]),(4,false,[.int .i64])],[(0,[.br tL,.br tW,.bool,.br tI]),(64,[.nil,.nil,.bool,.nil]),(4544,[.at 800000001,.nil,.bool,.at 800000000])],[(800000001,tL,.fz),(800000000,tI,.fz)]⟩
def yfx:Shape:=⟨[(1,false,[.ptr 0 0]),(2,false,[.ptr 64 0]),(3,false,[.ptr 4544 0]),(4,false,[.ci .i64 0])],[(0,[.br tL,.br tW,.bool,.br tI]),(64,[.nil,.nil,.bool,.nil]),(4544,[.at 800000001,.nil,.bool,.at 800000000])],[(800000001,tL,.fz),(800000000,tI,.fz)]⟩
def yfm:Shape:=⟨[(1,false,[.ptr 0 0]),(2,false,[.ptr 64 0]),(3,false,[.ptr 4544 0])],[(0,[.br tL,.br tW,.bool,.br tI]),(64,[.nil,.nil,.bool,.nil]),(4544,[.at 800000000,.nil,.bool,.at 800000001])],[(800000000,tL,.fz),(800000001,tI,.fz)]⟩
def yiW:Shape:=⟨[],[],[]⟩
abbrev ymN (v0:Int) (v1 v2 v3:dM):(yb6).X:=((((),()),((),()),((),()),(v0,()),()),((v1.1,v1.2.1,v1.2.2.1,v1.2.2.2,()),((),(),v2.2.2.1,(),()),((),(),v3.2.2.1,(),()),()),(v3.1,v3.2.2.2,()))
abbrev yGA (v0 v1 v2:dM):(yfx).X:=((((),()),((),()),((),()),((),()),()),((v0.1,v0.2.1,v0.2.2.1,v0.2.2.2,()),((),(),v1.2.2.1,(),()),((),(),v2.2.2.1,(),()),()),(v2.1,v2.2.2.2,()))
abbrev ywq (v0 v1 v2:dM):(yfm).X:=((((),()),((),()),((),()),()),((v0.1,v0.2.1,v0.2.2.1,v0.2.2.2,()),((),(),v1.2.2.1,(),()),((),(),v2.2.2.1,(),()),()),(v2.1,v2.2.2.2,()))
def ynh (v0:Int) (v1:List (List Int)) (v2:List dW) (v3:Bool) (v4:List Int) (v5 v6:Bool) (v7:List (List Int)) (v8:List Int):Option ((yb6).X ⊕ ((yfm).X ⊕ (yiW).X)) :=bif(ltb v0 (v1.length:Int))then bif(inb v0 v1.length)then bif(zkl ([]:List Int).length (nth v1 v0 []).length 8)then bif(zkl v7.length ([(([]:List Int)++(nth v1 v0 []))]:List (List Int)).length 24)then some (.inl ((((),()),((),()),((),()),((i64.wrap (v0+1)),()),()),((v1,v2,v3,v4,()),((),(),v5,(),()),((),(),v6,(),()),()),((v7++([(([]:List Int)++(nth v1 v0 []))]:List (List Int))),v8,()))) else none else none else none else some (.inr (.inl ((((),()),((),()),((),()),()),((v1,v2,v3,v4,()),((),(),v5,(),()),((),(),v6,(),()),()),(v7,v8,()))))
def ycv (x:(yb6).X):=ynh x.1.2.2.2.1.1 x.2.1.1.1 x.2.1.1.2.1 x.2.1.1.2.2.1 x.2.1.1.2.2.2.1 x.2.1.2.1.2.2.1 x.2.1.2.2.1.2.2.1 x.2.2.1 x.2.2.2.1
def yv8 (x:(yfx).X):(yb6).X:=((((),()),((),()),((),()),(0,()),()),((x.2.1.1.1,x.2.1.1.2.1,x.2.1.1.2.2.1,x.2.1.1.2.2.2.1,()),((),(),x.2.1.2.1.2.2.1,(),()),((),(),x.2.1.2.2.1.2.2.1,(),()),()),(x.2.2.1,x.2.2.2.1,()))
def yxO:Code:=(zd7 yem 64 116).getD .skip
theorem yHR:zd7 yem 64 29=some (.block 0 (.loop yxO)):=by kernel_rfl
theorem yKo (x:(yb6).X):zhu ⟨yjj,60,yzw⟩ 0 yxO 116 yb6 yfm yiW x=ycv x:=by kernel_rfl
def ywj (x:(yfx).X):Nat:=18446744073709551616
def yod (x:(yfx).X):Option ((yfm).X ⊕ (yiW).X):=zF ycv (ywj x) (yv8 x)
def ywC:Seg:=⟨yfx,yfm,yiW,yod⟩
def ypx:Nat→Option Seg:=fun q=>bif Nat.beq q 29 then some ywC else yzw q
theorem yIw:FrOk prog ⟨yjj,60,ypx⟩ yem:=(yIv).loop (sg:=ywC) yb6 yv8 (by decide) yHR ycv ywj (by decide) (fun _=>rfl) (fun x r _ h=>h) yKo
def yb7:Shape:=⟨[(1,false,[.ptr 0 0]),(2,false,[.ptr 64 0]),(3,false,[.ptr 4544 0]),(5,false,[.int .i64])],[(0,[.br tL,.br tW,.bool,.br tI]),(64,[.nil,.nil,.bool,.nil]),(4544,[.at 800000000,.at 800000002,.bool,.at 800000001])],[(800000000,tL,.fz),(800000002,tW,(.pr .fz .fz)),(800000001,tI,.fz)]⟩
def yfy:Shape:=⟨[(1,false,[.ptr 0 0]),(2,false,[.ptr 64 0]),(3,false,[.ptr 4544 0]),(5,false,[.ci .i64 0])],[(0,[.br tL,.br tW,.bool,.br tI]),(64,[.nil,.nil,.bool,.nil]),(4544,[.at 800000000,.at 800000002,.bool,.at 800000001])],[(800000000,tL,.fz),(800000002,tW,(.pr .fz .fz)),(800000001,tI,.fz)]⟩
def yfn:Shape:=⟨[(2,false,[.ptr 64 0]),(3,false,[.ptr 4544 0])],[(64,[.nil,.nil,.bool,.nil]),(4544,[.at 800000000,.at 800000001,.bool,.at 800000002])],[(800000000,tL,.fz),(800000001,tW,(.pr .fz .fz)),(800000002,tI,.fz)]⟩
def yiX:Shape:=⟨[],[],[]⟩
abbrev ymO (v0:Int) (v1 v2 v3:dM):(yb7).X:=((((),()),((),()),((),()),(v0,()),()),((v1.1,v1.2.1,v1.2.2.1,v1.2.2.2,()),((),(),v2.2.2.1,(),()),((),(),v3.2.2.1,(),()),()),(v3.1,v3.2.1,v3.2.2.2,()))
abbrev yGB (v0 v1 v2:dM):(yfy).X:=((((),()),((),()),((),()),((),()),()),((v0.1,v0.2.1,v0.2.2.1,v0.2.2.2,()),((),(),v1.2.2.1,(),()),((),(),v2.2.2.1,(),()),()),(v2.1,v2.2.1,v2.2.2.2,()))
abbrev ywr (v0 v1:dM):(yfn).X:=((((),()),((),()),()),(((),(),v0.2.2.1,(),()),((),(),v1.2.2.1,(),()),()),(v1.1,v1.2.1,v1.2.2.2,()))
def yni (v0:Int) (v1:List (List Int)) (v2:List dW) (v3:Bool) (v4:List Int) (v5 v6:Bool) (v7:List (List Int)) (v8:List dW) (v9:List Int):Option ((yb7).X ⊕ ((yfn).X ⊕ (yiX).X)) :=bif(ltb v0 (v2.length:Int))then bif(inb v0 v2.length)then bif(inb v0 v2.length)then bif(zkl ([]:List Int).length ((nth v2 v0 (0,[])).2).length 8)then bif(zkl v8.length ([((nth v2 v0 (0,[])).1,(([]:List Int)++((nth v2 v0 (0,[])).2)))]:List dW).length 32)then some (.inl ((((),()),((),()),((),()),((i64.wrap (v0+1)),()),()),((v1,v2,v3,v4,()),((),(),v5,(),()),((),(),v6,(),()),()),(v7,(v8++([((nth v2 v0 (0,[])).1,(([]:List Int)++((nth v2 v0 (0,[])).2)))]:List dW)),v9,()))) else none else none else none else none else some (.inr (.inl ((((),()),((),()),()),(((),(),v5,(),()),((),(),v6,(),()),()),(v7,v8,v9,()))))
def ycw (x:(yb7).X):=yni x.1.2.2.2.1.1 x.2.1.1.1 x.2.1.1.2.1 x.2.1.1.2.2.1 x.2.1.1.2.2.2.1 x.2.1.2.1.2.2.1 x.2.1.2.2.1.2.2.1 x.2.2.1 x.2.2.2.1 x.2.2.2.2.1
def yv9 (x:(yfy).X):(yb7).X:=((((),()),((),()),((),()),(0,()),()),((x.2.1.1.1,x.2.1.1.2.1,x.2.1.1.2.2.1,x.2.1.1.2.2.2.1,()),((),(),x.2.1.2.1.2.2.1,(),()),((),(),x.2.1.2.2.1.2.2.1,(),()),()),(x.2.2.1,x.2.2.2.1,x.2.2.2.2.1,()))
def yxP:Code:=(zd7 yem 64 244).getD .skip
theorem yHS:zd7 yem 64 61=some (.block 2 (.loop yxP)):=by kernel_rfl
theorem yKp (x:(yb7).X):zhu ⟨yjj,60,ypx⟩ 2 yxP 244 yb7 yfn yiX x=ycw x:=by kernel_rfl
def ywk (x:(yfy).X):Nat:=18446744073709551616
def yoe (x:(yfy).X):Option ((yfn).X ⊕ (yiX).X):=zF ycw (ywk x) (yv9 x)
def ywD:Seg:=⟨yfy,yfn,yiX,yoe⟩
def yKM:Nat→Option Seg:=fun q=>bif Nat.beq q 61 then some ywD else ypx q
theorem yIx:FrOk prog ⟨yjj,60,yKM⟩ yem:=(yIw).loop (sg:=ywD) yb7 yv9 (by decide) yHS ycw ywk (by decide) (fun _=>rfl) (fun x r _ h=>h) yKp
abbrev ynQ:List Par:= [.rd tM]
abbrev yvc:List OT:= [⟨false,tM,(.pr (.ow .fz) (.pr (.ow (.pr .fz .fz)) (.pr .fz (.ow .fz))))⟩]
def yrb (a0:dM):Option (zaY yvc×zak ynQ) :=bif(zkl ([]:List Int).length a0.2.2.2.length 8)then zkt (yod ((((),()),((),()),((),()),((),()),()),((a0.1,a0.2.1,a0.2.2.1,a0.2.2.2,()),((),(),false,(),()),((),(),a0.2.2.1,(),()),()),([],(([]:List Int)++a0.2.2.2),()))) (fun y0 =>zkt (yoe ((((),()),((),()),((),()),((),()),()),((y0.2.1.1.1,y0.2.1.1.2.1,y0.2.1.1.2.2.1,y0.2.1.1.2.2.2.1,()),((),(),y0.2.1.2.1.2.2.1,(),()),((),(),y0.2.1.2.2.1.2.2.1,(),()),()),(y0.2.2.1,[],y0.2.2.2.1,()))) (fun y1 =>some (((y1.2.2.1,y1.2.2.2.1,y1.2.1.2.1.2.2.1,y1.2.2.2.2.1),()),())) (fun y1 =>none)) (fun y0 =>none) else none
theorem yM3:ConOk prog 76 ⟨ynQ,yvc,fun x=>yrb x.1⟩:=zkI (yIx) func76 ntmps76.symm fun x=>by kernel_rfl
def yan (a0:dM):dM:=a0
theorem yO7 (a0:dM) (hk:zjx ynQ (a0,())):yrb a0=(fun n=>some ((n,()),())) (yan a0):=by
 have hb1:a0.1.length*24≤2^47:=hk.1.1.1;have hb2:a0.2.1.length*32≤2^47:=hk.1.2.1.1;have hb3:a0.2.2.2.length*8≤2^47:=hk.1.2.2.2.1;have hs: ∀i,i<a0.1.length→(a0.1.getD i []).length*8≤2^47:=fun i hi=>by rw[zkJ hi]; exact(hk.1.1.2 _ (List.getElem_mem hi)).1
 have hc: ∀i,i<a0.2.1.length→(a0.2.1.getD i (0,[])).2.length*8≤2^47:=fun i hi=>by rw[zkJ hi]; exact(hk.1.2.1.2 _ (List.getElem_mem hi)).2.1
 have h1:yod (yGA a0 yf ([],[],a0.2.2.1,a0.2.2.2))=some (.inl (ywq a0 yf (a0.1,[],a0.2.2.1,a0.2.2.2))):=by
  have:=zkx (step:=ycv) a0.1 [] (fun i s=>ymN i a0 yf (s,[],a0.2.2.1,a0.2.2.2)) (fun s x=>s++ [x]) (fun i s=>s.length=i) (fun s=> .inl (ywq a0 yf (s,[],a0.2.2.1,a0.2.2.2))) (fun i s hi hs2=>⟨by
   have:=hs i hi;simp only[ycv,ymN,ynh,zky (show(i:Int)<a0.1.length by omega),cond_true,wq ((i:Int)+1) (by omega) (by omega),Int.natCast_add,Int.natCast_one,Int.toNat_natCast,zkR hi,zkS,List.nil_append]
   rw[zkF.2 (show(([]:List Int).length+(a0.1.getD i []).length)*8≤140737488355328 by rw[List.length_nil]; omega),zkF.2 (show(s.length+ [a0.1.getD i []].length)*24≤140737488355328 by simp only[List.length_cons,List.length_nil]; omega)]; rfl,by simp[hs2]⟩) (fun s _=>by simp only[ycv,ymN,ynh,zk3 (Int.le_refl _),cond_false]) [] rfl 18446744073709551616 (by omega)
  rw[ysF]at this;exact this
 have h2:yoe (yGB a0 yf (a0.1,[],a0.2.2.1,a0.2.2.2))=some (.inl (ywr yf a0)):=by
  have:=zkx (step:=ycw) a0.2.1 (0,[]) (fun i s=>ymO i a0 yf (a0.1,s,a0.2.2.1,a0.2.2.2)) (fun s x=>s++ [x]) (fun i s=>s.length=i) (fun s=> .inl (ywr yf (a0.1,s,a0.2.2.1,a0.2.2.2))) (fun i s hi hs2=>⟨by
   have:=hc i hi;simp only[ycw,ymO,yni,zky (show(i:Int)<a0.2.1.length by omega),cond_true,wq ((i:Int)+1) (by omega) (by omega),Int.natCast_add,Int.natCast_one,Int.toNat_natCast,zkR hi,zkS,List.nil_append,zkX]
   rw[zkF.2 (show(([]:List Int).length+(a0.2.1.getD i (0,[])).2.length)*8≤140737488355328 by rw[List.length_nil]; omega),zkF.2 (show(s.length+ [a0.2.1.getD i (0,[])].length)*32≤140737488355328 by simp only[List.length_cons,List.length_nil]; omega)]; rfl,by simp[hs2]⟩) (fun s _=>by simp only[ycw,ymO,yni,zk3 (Int.le_refl _),cond_false]) [] rfl 18446744073709551616 (by omega)
  rw[ysF]at this;exact this
 unfold yrb yan;rw[zkF.2 (show(([]:List Int).length+a0.2.2.2.length)*8≤140737488355328 by rw[List.length_nil]; omega)];simp only[cond_true,List.nil_append,h1,zkN,h2]
def ygZ:Con:=⟨ynQ,yvc,fun x=>(fun n=>some ((n,()),())) (yan x.1)⟩
theorem ymk:ConOk prog 76 ygZ:=(yM3).mono (fun x r hk h=>(yO7 x.1 hk).trans h)
def yNW:Code:=(f143.body).getD .skip
def yOm:Env:=zkw TT [(76,ygZ)] [(12288,(.pr .fz .fz))]
theorem yF8:FrOk prog ⟨yOm,10,fun _=>none⟩ yNW:=zkA mixed yc ⟨ymk,trivial⟩
abbrev yse:List Par:= [.rd tM]
abbrev yss:List OT:= [⟨false,tM,(.pr (.ow .fz) (.pr (.ow (.pr .fz .fz)) (.pr .fz (.ow .fz))))⟩]
def yy1 (a0:dM):Option (zaY yss×zak yse) :=let r1:=yan a0;some (((r1.1,([]:List dW),true,r1.2.2.2),()),())
theorem yJP:ConOk prog 143 ⟨yse,yss,fun x=>yy1 x.1⟩:=zkI (yF8) func143 ntmps143.symm fun x=>by kernel_rfl
def ymd (a0:dM):dM :=let r1:=yan a0;(r1.1,([]:List dW),true,r1.2.2.2)
def yx2:Con:=⟨yse,yss,fun x=>(fun n=>some ((n,()),())) (ymd x.1)⟩
theorem yMp (a0:dM):yy1 a0=(fun n=>some ((n,()),())) (ymd a0):=zkV (p:=fun(n:dM)=>((n,()),())) rfl
theorem yNm:ConOk prog 143 yx2:=(yJP).mono (fun x r _ h=>(yMp x.1).trans h)
def yiL:Code:=(f245.body).getD .skip
def yn7:Env:=zkw TT [] []
theorem yC6:FrOk prog ⟨yn7,28,fun _=>none⟩ yiL:=zkA mixed yc trivial
def ytf:Nat→Option Seg:=fun _=>none
def yaO:Shape:=⟨[(0,false,[.br tI]),(1,false,[.int .i64]),(5,false,[.at 800000000]),(6,false,[.int .i64])],[],[(800000000,tI,.fz)]⟩
def ydw:Shape:=⟨[(0,false,[.br tI]),(1,false,[.int .i64]),(5,false,[.at 800000000]),(6,false,[.ci .i64 0])],[],[(800000000,tI,.fz)]⟩
def yds:Shape:=⟨[(5,false,[.at 800000000])],[],[(800000000,tI,.fz)]⟩
def yfW:Shape:=⟨[],[],[]⟩
abbrev yi6 (v0:List Int) (v1 v2:Int) (v3:List Int):(yaO).X:=(((v0,()),(v1,()),((),()),(v2,()),()),(),(v3,()))
abbrev yCx (v0:List Int) (v1:Int) (v2:List Int):(ydw).X:=(((v0,()),(v1,()),((),()),((),()),()),(),(v2,()))
abbrev yCt (v0:List Int):(yds).X:=((((),()),()),(),(v0,()))
def yjh (v0:List Int) (v1 v2:Int) (v3:List Int):Option ((yaO).X ⊕ ((yds).X ⊕ (yfW).X)) :=bif(ltb v2 (v0.length:Int))then bif(inb v2 v0.length)then bif((nth v0 v2 0) !=v1)then bif(inb v2 v0.length)then bif(zkl v3.length ([(nth v0 v2 0)]:List Int).length 8)then some (.inl (((v0,()),(v1,()),((),()),((i64.wrap (v2+1)),()),()),(),((v3++([(nth v0 v2 0)]:List Int)),()))) else none else none else some (.inl (((v0,()),(v1,()),((),()),((i64.wrap (v2+1)),()),()),(),(v3,()))) else none else some (.inr (.inl ((((),()),()),(),(v3,()))))
def ya1 (x:(yaO).X):=yjh x.1.1.1 x.1.2.1.1 x.1.2.2.2.1.1 x.2.2.1
def yqI (x:(ydw).X):(yaO).X:=(((x.1.1.1,()),(x.1.2.1.1,()),((),()),(0,()),()),(),(x.2.2.1,()))
def yrs:Code:=(zd7 yiL 64 116).getD .skip
theorem yCZ:zd7 yiL 64 29=some (.block 0 (.loop yrs)):=by kernel_rfl
theorem yDu (x:(yaO).X):zhu ⟨yn7,28,ytf⟩ 0 yrs 116 yaO yds yfW x=ya1 x:=by kernel_rfl
def yqM (x:(ydw).X):Nat:=18446744073709551616
def yjO (x:(ydw).X):Option ((yds).X ⊕ (yfW).X):=zF ya1 (yqM x) (yqI x)
def yrl:Seg:=⟨ydw,yds,yfW,yjO⟩
def yDy:Nat→Option Seg:=fun q=>bif Nat.beq q 29 then some yrl else ytf q
theorem yC7:FrOk prog ⟨yn7,28,yDy⟩ yiL:=(yC6).loop (sg:=yrl) yaO yqI (by decide) yCZ ya1 yqM (by decide) (fun _=>rfl) (fun x r _ h=>h) yDu
abbrev yiP:List Par:= [.rd tL,.rd tI]
abbrev yok:List OT:= [⟨false,tL,(.ow .fz)⟩]
def ylx (a0:List Int) (a1:Int):Option (zaY yok×zak yiP) :=zkt (yjO (((a0,()),(a1,()),((),()),((),()),()),(),(([]:List Int),()))) (fun y0 =>some ((y0.2.2.1,()),())) (fun y0 =>none)
theorem yEM:ConOk prog 245 ⟨yiP,yok,fun x=>ylx x.1 x.2.1⟩:=zkI (yC7) func245 ntmps245.symm fun x=>by kernel_rfl
def yfO (a0:List Int) (a1:Int):List Int:=yCH a0 a1
theorem yDR {α:Type} (p:α→Bool): ∀(l:List α) (s:List α),l.foldl (fun s x=>bif p x then s++ [x]else s) s=s++l.filter p
 | [],s=>by simp
 | x::l,s=>by
  rw[List.foldl_cons,yDR p l,List.filter_cons];cases p x<;>simp
theorem yGM (a0:List Int) (a1:Int) (hk:zjx yiP (a0,a1,())):ylx a0 a1=(fun n=>some ((n,()),())) (yfO a0 a1):=by
 have hb:a0.length*8≤2^47:=hk.1.1
 have h1:=zkx (step:=ya1) a0 0 (fun i s=>yi6 a0 a1 i s) (fun s x=>bif x !=a1 then s++ [x]else s) (fun i s=>s.length≤i) (fun s=> .inl (yCt s)) (fun i s hi hs=>by
   constructor
   ·simp only[ya1,yi6,yjh,zky (show(i:Int)<a0.length by omega),cond_true,wq ((i:Int)+1) (by omega) (by omega),Int.natCast_add,Int.natCast_one,Int.toNat_natCast,zkR hi,zkS]
    rw[zkF.2 (show(s.length+ [a0.getD i 0].length)*8≤140737488355328 by simp only[List.length_cons,List.length_nil]; omega)];cases(a0.getD i 0 !=a1)<;>rfl
   ·cases(a0.getD i 0 !=a1)
    ·show s.length≤_; omega
    ·simp only[cond_true,List.length_append,List.length_cons,List.length_nil]; omega) (fun s _=>by simp only[ya1,yi6,yjh,zk3 (Int.le_refl _),cond_false]) [] (Nat.le_refl _) 18446744073709551616 (by omega)
 unfold ylx yfO yCH;rw[show yjO (yCx a0 a1 [])=_ from h1,yDR]; rfl
def yts:Con:=⟨yiP,yok,fun x=>(fun n=>some ((n,()),())) (yfO x.1 x.2.1)⟩
theorem yG9:ConOk prog 245 yts:=(yEM).mono (fun x r hk h=>(yGM x.1 x.2.1 hk).trans h)
def yKE:Code:=(f225.body).getD .skip
def yK2:Env:=zkw TT [(76,ygZ),(82,yz),(160,ye6),(202,ysD),(245,yts)] [(16832,(.pr .fz .fz))]
theorem yEf:FrOk prog ⟨yK2,55,fun _=>none⟩ yKE:=zkA mixed yc ⟨ymk,yF,yjD,yCP,yG9,trivial⟩
abbrev ykr:List Par:= [.rd tM,.rd tI,.rd tL]
abbrev yqk:List OT:= [⟨false,tM,(.pr (.ow .fz) (.pr (.ow (.pr .fz .fz)) (.pr .fz (.ow .fz))))⟩,⟨false,tB,.fz⟩]
def ym9 (a0:dM) (a1:Int) (a2:List Int):Option (zaY yqk×zak ykr) :=let r1:=yan a0;let r2:=yas a0;bif(!(!r2))then bif(!a0.2.2.1)then let r3:=ya a1 0 (i64.wrap ((a0.1.length:Int)-1));bif(!(!r3))then let r4:=yfM a2;bif(!(!r4))then bif(leb 60 (a0.2.1.length:Int))then some ((r1,false,()),()) else bif(zkl ([]:List Int).length a2.length 8)then bif(zkl r1.2.1.length ([(a1,(([]:List Int)++a2))]:List dW).length 32)then let r5:=yfO a0.2.2.2 a1;some (((r1.1,(r1.2.1++([(a1,(([]:List Int)++a2))]:List dW)),r1.2.2.1,r5),true,()),()) else none else none else some ((r1,false,()),()) else some ((r1,false,()),()) else some ((r1,false,()),()) else some ((r1,false,()),())
theorem yG3:ConOk prog 225 ⟨ykr,yqk,fun x=>ym9 x.1 x.2.1 x.2.2.1⟩:=zkI (yEf) func225 ntmps225.symm fun x=>by kernel_rfl
def yg7 (a0:dM) (a1:Int) (a2:List Int):dM×Bool:=yX a0 a1 a2
theorem yJA (a0:dM) (a1:Int) (a2:List Int) (hk:zjx ykr (a0,a1,a2,())):ym9 a0 a1 a2=(fun n=>some ((n.1,n.2,()),())) (yg7 a0 a1 a2):=by
 have hb1:a0.1.length*24≤2^47:=hk.1.1.1;have hb2:a2.length*8≤2^47:=hk.2.2.1.1;unfold ym9 yg7 yX ya9;simp only[yan,yas,yh8 (show a0.1.length≤1152921504606846976 by omega),yA8,yfO,List.nil_append];cases yu a0
 ·rfl
 cases a0.2.2.1
 ·cases inb a1 a0.1.length
  ·rfl
  cases yad a2
  ·rfl
  by_cases h:(a0.2.1.length:Int)<60
  ·rw[zky h,zk1 h,zkF.2 (show(([]:List Int).length+a2.length)*8≤140737488355328 by rw[List.length_nil]; omega),zkF.2 (show(a0.2.1.length+ [(a1,a2)].length)*32≤140737488355328 by simp only[List.length_cons,List.length_nil]; omega)]; rfl
  ·rw[zk3 (by omega),zk2 (by omega)]; rfl
 ·rfl
def yv0:Con:=⟨ykr,yqk,fun x=>(fun n=>some ((n.1,n.2,()),())) (yg7 x.1 x.2.1 x.2.2.1)⟩
theorem yKd:ConOk prog 225 yv0:=(yG3).mono (fun x r hk h=>(yJA x.1 x.2.1 x.2.2.1 hk).trans h)
def yTg:Code:=(f228.body).getD .skip
def yTi:Env:=zkw TT [] []
theorem yOB:FrOk prog ⟨yTi,31,fun _=>none⟩ yTg:=zkA mixed yc trivial
abbrev yAU:List Par:= [.pt tA (.pr .fz (.pr (.pr .fz .fz) (.pr (.ow (.pr (.ow .fz) (.pr (.ow (.pr .fz .fz)) (.pr .fz (.ow .fz))))) (.pr .fz (.pr .fz (.pr .fz (.pr .fz (.pr .fz (.pr (.ow (.pr .fz .fz)) (.pr .fz (.pr .fz .fz)))))))))))]
abbrev yAX:List OT:= [⟨false,tB,.fz⟩]
def yCS (a0:dA):Option (zaY yAX×zak yAU) :=bif a0.2.2.2.2.2.2.2.2.2.2.1 then some ((false,()),(a0,())) else bif(a0.2.2.2.2.2.2.2.2.2.1==0)then some ((false,()),((a0.1,a0.2.1,a0.2.2.1,a0.2.2.2.1,a0.2.2.2.2.1,a0.2.2.2.2.2.1,a0.2.2.2.2.2.2.1,a0.2.2.2.2.2.2.2.1,a0.2.2.2.2.2.2.2.2.1,(-1),true,a0.2.2.2.2.2.2.2.2.2.2.2),())) else bif(ltb 0 a0.2.2.2.2.2.2.2.2.2.1)then some ((true,()),((a0.1,a0.2.1,a0.2.2.1,a0.2.2.2.1,a0.2.2.2.2.1,a0.2.2.2.2.2.1,a0.2.2.2.2.2.2.1,a0.2.2.2.2.2.2.2.1,a0.2.2.2.2.2.2.2.2.1,(i64.wrap (a0.2.2.2.2.2.2.2.2.2.1-1)),a0.2.2.2.2.2.2.2.2.2.2),())) else some ((true,()),(a0,()))
theorem yRS:ConOk prog 228 ⟨yAU,yAX,fun x=>yCS x.1⟩:=zkI (yOB) func228 ntmps228.symm fun x=>by kernel_rfl
def ynu (a0:dA):Bool×dA :=bif a0.2.2.2.2.2.2.2.2.2.2.1 then (false,a0) else bif(a0.2.2.2.2.2.2.2.2.2.1==0)then (false,(a0.1,a0.2.1,a0.2.2.1,a0.2.2.2.1,a0.2.2.2.2.1,a0.2.2.2.2.2.1,a0.2.2.2.2.2.2.1,a0.2.2.2.2.2.2.2.1,a0.2.2.2.2.2.2.2.2.1,(-1),true,a0.2.2.2.2.2.2.2.2.2.2.2)) else bif(ltb 0 a0.2.2.2.2.2.2.2.2.2.1)then (true,(a0.1,a0.2.1,a0.2.2.1,a0.2.2.2.1,a0.2.2.2.2.1,a0.2.2.2.2.2.1,a0.2.2.2.2.2.2.1,a0.2.2.2.2.2.2.2.1,a0.2.2.2.2.2.2.2.2.1,(i64.wrap (a0.2.2.2.2.2.2.2.2.2.1-1)),a0.2.2.2.2.2.2.2.2.2.2)) else (true,a0)
def yvk:Con:=⟨yAU,yAX,fun x=>(fun n=>some ((n.1,()),(n.2,()))) (ynu x.1)⟩
theorem ySX (a0:dA):yCS a0=(fun n=>some ((n.1,()),(n.2,()))) (ynu a0):=zkV (p:=fun(n:Bool×dA)=>((n.1,()),(n.2,()))) (zkG (p:=fun(n:Bool×dA)=>((n.1,()),(n.2,()))) rfl (zkG (p:=fun(n:Bool×dA)=>((n.1,()),(n.2,()))) rfl (zkG (p:=fun(n:Bool×dA)=>((n.1,()),(n.2,()))) rfl rfl)))
theorem yES:ConOk prog 228 yvk:=(yRS).mono (fun x r _ h=>(ySX x.1).trans h)
theorem yNN (a:dA):ynu a=opA a:=by kernel_rfl
def ySn:Code:=(f206.body).getD .skip
def ySy:Env:=zkw TT [(225,yv0),(228,yvk)] []
theorem yLT:FrOk prog ⟨ySy,43,fun _=>none⟩ ySn:=zkA mixed yc ⟨yKd,yES,trivial⟩
abbrev yk4:List Par:= [.pt tA (.pr .fz (.pr (.pr .fz .fz) (.pr (.ow (.pr (.ow .fz) (.pr (.ow (.pr .fz .fz)) (.pr .fz (.ow .fz))))) (.pr .fz (.pr .fz (.pr .fz (.pr .fz (.pr .fz (.pr (.ow (.pr .fz .fz)) (.pr .fz (.pr .fz .fz))))))))))),.rd tI,.rd tI,.rd tL]
abbrev yqm:List OT:= []
def ys3 (a0:dA) (a1 a2:Int) (a3:List Int):Option (zaY yqm×zak yk4) :=bif(inb a1 a0.2.2.1.length)then bif(!((((nth a0.2.2.1 a1 ([],[],false,[])).2).2).1))then let r1:=ynu a0;bif(!r1.1)then some ((),(r1.2,())) else bif(inb a1 r1.2.2.2.1.length)then let r2:=yg7 ((nth r1.2.2.2.1 a1 ([],[],false,[])).1,((nth r1.2.2.2.1 a1 ([],[],false,[])).2).1,(((nth r1.2.2.2.1 a1 ([],[],false,[])).2).2)) a2 a3;bif(inb a1 r1.2.2.2.1.length)then some ((),((r1.2.1,r1.2.2.1,(r1.2.2.2.1.set (a1).toNat r2.1),r1.2.2.2.2),())) else none else none else some ((),(a0,())) else none
theorem yPy:ConOk prog 206 ⟨yk4,yqm,fun x=>ys3 x.1 x.2.1 x.2.2.1 x.2.2.2.1⟩:=zkI (yLT) func206 ntmps206.symm fun x=>by kernel_rfl
def ylr (a0:dA) (a1 a2:Int) (a3:List Int):dA:=yce a0 a1 a2 a3
def yyU (a0:dA) (a1 a2:Int) (a3:List Int):Bool:=inb a1 a0.2.2.1.length
theorem yRM (a0:dA) (a1 a2:Int) (a3:List Int) (hk:zjx yk4 (a0,a1,a2,a3,())) (hq:yyU a0 a1 a2 a3=true):ys3 a0 a1 a2 a3=(fun n=>some ((),(n,()))) (ylr a0 a1 a2 a3):=by
 have hq:inb a1 a0.2.2.1.length=true:=hq;unfold ys3 ylr yce ycX;simp only[yNN,yau,hq,zkX,yg7];cases(nth a0.2.2.1 a1 yf).2.2.1<;>cases(opA a0).1<;>rfl
def yd7 (a0:dA) (a1 a2:Int) (a3:List Int):Option (zaY yqm×zak yk4):=bif yyU a0 a1 a2 a3 then(fun n=>some ((),(n,()))) (ylr a0 a1 a2 a3)else none
theorem yjE (a0:dA) (a1 a2:Int) (a3:List Int) (h:yyU a0 a1 a2 a3=true):yd7 a0 a1 a2 a3=(fun n=>some ((),(n,()))) (ylr a0 a1 a2 a3):=by unfold yd7; rw[h]; rfl
def yh7:Con:=⟨yk4,yqm,fun x=>yd7 x.1 x.2.1 x.2.2.1 x.2.2.2.1⟩
theorem yn5:ConOk prog 206 yh7:=(yPy).mono (fun x r hk h=>zkY h (fun hq=>yRM x.1 x.2.1 x.2.2.1 x.2.2.2.1 hk hq))
def ykc:Code:=(f224.body).getD .skip
def ypD:Env:=zkw TT [(76,ygZ),(160,ye6)] [(32768,(.pr .fz .fz))]
theorem yD8:FrOk prog ⟨ypD,40,fun _=>none⟩ ykc:=zkA mixed yc ⟨ymk,yjD,trivial⟩
def yvD:Nat→Option Seg:=fun _=>none
def ya8:Shape:=⟨[(2,false,[.ptr 64 0]),(3,false,[.ptr 4224 0]),(4,false,[.int .i64])],[(64,[.nil,.nil,.bool,.nil]),(4224,[.at 800000000,.at 800000001,.bool,.at 800000002])],[(800000000,tL,.fz),(800000001,tW,(.pr .fz .fz)),(800000002,tI,.fz)]⟩
def ydW:Shape:=⟨[(2,false,[.ptr 64 0]),(3,false,[.ptr 4224 0]),(4,false,[.ci .i64 0])],[(64,[.nil,.nil,.bool,.nil]),(4224,[.at 800000000,.at 800000001,.bool,.at 800000002])],[(800000000,tL,.fz),(800000001,tW,(.pr .fz .fz)),(800000002,tI,.fz)]⟩
def ydR:Shape:=⟨[(2,false,[.ptr 64 0]),(3,false,[.ptr 4224 0])],[(64,[.nil,.nil,.bool,.nil]),(4224,[.at 800000000,.at 800000001,.bool,.at 800000002])],[(800000000,tL,.fz),(800000001,tW,(.pr .fz .fz)),(800000002,tI,.fz)]⟩
def ygT:Shape:=⟨[],[],[]⟩
abbrev yjU (v0:Int) (v1 v2:dM):(ya8).X:=((((),()),((),()),(v0,()),()),(((),(),v1.2.2.1,(),()),((),(),v2.2.2.1,(),()),()),(v2.1,v2.2.1,v2.2.2.2,()))
abbrev yDd (v0 v1:dM):(ydW).X:=((((),()),((),()),((),()),()),(((),(),v0.2.2.1,(),()),((),(),v1.2.2.1,(),()),()),(v1.1,v1.2.1,v1.2.2.2,()))
abbrev yrL (v0 v1:dM):(ydR).X:=((((),()),((),()),()),(((),(),v0.2.2.1,(),()),((),(),v1.2.2.1,(),()),()),(v1.1,v1.2.1,v1.2.2.2,()))
def yj6 (v0:Int) (v1 v2:Bool) (v3:List (List Int)) (v4:List dW) (v5:List Int):Option ((ya8).X ⊕ ((ydR).X ⊕ (ygT).X)) :=bif(ltb v0 (v4.length:Int))then bif(inb v0 v4.length)then bif(inb v0 v4.length)then bif(inb ((nth v4 v0 (0,[])).1) v3.length)then let r4:=(v3.set ((nth v4 v0 (0,[])).1).toNat ((nth v4 v0 (0,[])).2));some (.inl ((((),()),((),()),((i64.wrap (v0+1)),()),()),(((),(),v1,(),()),((),(),v2,(),()),()),(r4,v4,v5,()))) else none else none else none else some (.inr (.inl ((((),()),((),()),()),(((),(),v1,(),()),((),(),v2,(),()),()),(v3,v4,v5,()))))
def ybm (x:(ya8).X):=yj6 x.1.2.2.1.1 x.2.1.1.2.2.1 x.2.1.2.1.2.2.1 x.2.2.1 x.2.2.2.1 x.2.2.2.2.1
def yrD (x:(ydW).X):(ya8).X:=((((),()),((),()),(0,()),()),(((),(),x.2.1.1.2.2.1,(),()),((),(),x.2.1.2.1.2.2.1,(),()),()),(x.2.2.1,x.2.2.2.1,x.2.2.2.2.1,()))
def yto:Code:=(zd7 ykc 64 244).getD .skip
theorem yDI:zd7 ykc 64 61=some (.block 0 (.loop yto)):=by kernel_rfl
theorem yE3 (x:(ya8).X):zhu ⟨ypD,40,yvD⟩ 0 yto 244 ya8 ydR ygT x=ybm x:=by kernel_rfl
def yrJ (x:(ydW).X):Nat:=18446744073709551616
def yk3 (x:(ydW).X):Option ((ydR).X ⊕ (ygT).X):=zF ybm (yrJ x) (yrD x)
def yrU:Seg:=⟨ydW,ydR,ygT,yk3⟩
def yFz:Nat→Option Seg:=fun q=>bif Nat.beq q 61 then some yrU else yvD q
theorem yD9:FrOk prog ⟨ypD,40,yFz⟩ ykc:=(yD8).loop (sg:=yrU) ya8 yrD (by decide) yDI ybm yrJ (by decide) (fun _=>rfl) (fun x r _ h=>h) yE3
abbrev ykn:List Par:= [.rd tM]
abbrev yqf:List OT:= [⟨false,tM,(.pr (.ow .fz) (.pr (.ow (.pr .fz .fz)) (.pr .fz (.ow .fz))))⟩]
def ym5 (a0:dM):Option (zaY yqf×zak ykn) :=let r1:=yan a0;let r2:=yas a0;bif(!(!r2))then bif a0.2.2.1 then some ((r1,()),()) else zkt (yk3 ((((),()),((),()),((),()),()),(((),(),false,(),()),((),(),r1.2.2.1,(),()),()),(r1.1,r1.2.1,r1.2.2.2,()))) (fun y4 =>some (((y4.2.2.1,([]:List dW),y4.2.1.2.1.2.2.1,y4.2.2.2.2.1),()),())) (fun y4 =>none) else some ((r1,()),())
theorem yGY:ConOk prog 224 ⟨ykn,yqf,fun x=>ym5 x.1⟩:=zkI (yD9) func224 ntmps224.symm fun x=>by kernel_rfl
def yg5 (a0:dM):dM:=yr a0
theorem yJv (a0:dM) (hk:zjx ykn (a0,())):ym5 a0=(fun n=>some ((n,()),())) (yg5 a0):=by
 have hb2:a0.2.1.length*32≤2^47:=hk.1.2.1.1;unfold ym5 yg5 yr;simp only[yan,yas];cases hm:yu a0
 ·rfl
 have h1:yk3 (yDd yf a0)=some (.inl (yrL yf (yia (fun _=>true) a0.2.1 a0.1,a0.2))) :=
  zkD (step:=ybm) a0.2.1.length (fun i s=>yjU i yf (s,a0.2)) (yfI (fun _=>true) a0.2.1) (fun i s=>s.length=a0.1.length) (fun s=> .inl (yrL yf (s,a0.2))) (fun i s hi hs=>by
   have hw:=(ySU hm hi).1;refine⟨?_,ywP.trans hs⟩
   simp only[ybm,yjU,yj6,zky (show(i:Int)<a0.2.1.length by omega),cond_true,wq ((i:Int)+1) (by omega) (by omega),Int.natCast_add,Int.natCast_one,Int.toNat_natCast,zkR hi,hs,hw,yfI]) (fun s hs=>by simp only[ybm,yjU,yj6,zk3 (Int.le_refl _),cond_false]) a0.1 rfl _ (by show _<18446744073709551616; omega)
 rw[h1];cases hf:a0.2.2.1
 ·exact congrArg (fun z=>some (((yia (fun _=>true) a0.2.1 a0.1,([]:List dW),z,a0.2.2.2),()),())) hf
 ·rfl
def yvX:Con:=⟨ykn,yqf,fun x=>(fun n=>some ((n,()),())) (yg5 x.1)⟩
theorem yKa:ConOk prog 224 yvX:=(yGY).mono (fun x r hk h=>(yJv x.1 hk).trans h)
def ynF:Code:=(f208.body).getD .skip
def yuq:Env:=zkw TT [(224,yvX),(228,yvk)] []
theorem yIM:FrOk prog ⟨yuq,39,fun _=>none⟩ ynF:=zkA mixed yc ⟨yKa,yES,trivial⟩
def yzC:Nat→Option Seg:=fun _=>none
def ycN:Shape:=⟨[(0,false,[.ptr 1000000000 0]),(2,false,[.int .i64])],[(1000000000,[.int .i64,.int .i64,.int .i64,.at 800000000,.int .i64,.int .i64,.int .i64,.int .i64,.int .i64,.at 800000001,.int .i64,.bool,.bool])],[(800000000,tM,(.pr (.ow .fz) (.pr (.ow (.pr .fz .fz)) (.pr .fz (.ow .fz))))),(800000001,tW,(.pr .fz .fz))]⟩
def ygK:Shape:=⟨[(0,false,[.ptr 1000000000 0]),(2,false,[.ci .i64 0])],[(1000000000,[.int .i64,.int .i64,.int .i64,.at 800000000,.int .i64,.int .i64,.int .i64,.int .i64,.int .i64,.at 800000001,.int .i64,.bool,.bool])],[(800000000,tM,(.pr (.ow .fz) (.pr (.ow (.pr .fz .fz)) (.pr .fz (.ow .fz))))),(800000001,tW,(.pr .fz .fz))]⟩
def ygw:Shape:=⟨[],[(1000000000,[.int .i64,.int .i64,.int .i64,.at 800000000,.int .i64,.int .i64,.int .i64,.int .i64,.int .i64,.at 800000001,.int .i64,.bool,.bool])],[(800000000,tM,(.pr (.ow .fz) (.pr (.ow (.pr .fz .fz)) (.pr .fz (.ow .fz))))),(800000001,tW,(.pr .fz .fz))]⟩
def ykD:Shape:=⟨[],[],[]⟩
abbrev yoC (v0:Int) (v1:dA):(ycN).X:=((((),()),(v0,()),()),((v1.1,v1.2.1.1,v1.2.1.2,(),v1.2.2.2.1,v1.2.2.2.2.1,v1.2.2.2.2.2.1,v1.2.2.2.2.2.2.1,v1.2.2.2.2.2.2.2.1,(),v1.2.2.2.2.2.2.2.2.2.1,v1.2.2.2.2.2.2.2.2.2.2.1,v1.2.2.2.2.2.2.2.2.2.2.2,()),()),(v1.2.2.1,v1.2.2.2.2.2.2.2.2.1,()))
abbrev yJb (v0:dA):(ygK).X:=((((),()),((),()),()),((v0.1,v0.2.1.1,v0.2.1.2,(),v0.2.2.2.1,v0.2.2.2.2.1,v0.2.2.2.2.2.1,v0.2.2.2.2.2.2.1,v0.2.2.2.2.2.2.2.1,(),v0.2.2.2.2.2.2.2.2.2.1,v0.2.2.2.2.2.2.2.2.2.2.1,v0.2.2.2.2.2.2.2.2.2.2.2,()),()),(v0.2.2.1,v0.2.2.2.2.2.2.2.2.1,()))
abbrev yyL (v0:dA):(ygw).X:=((),((v0.1,v0.2.1.1,v0.2.1.2,(),v0.2.2.2.1,v0.2.2.2.2.1,v0.2.2.2.2.2.1,v0.2.2.2.2.2.2.1,v0.2.2.2.2.2.2.2.1,(),v0.2.2.2.2.2.2.2.2.2.1,v0.2.2.2.2.2.2.2.2.2.2.1,v0.2.2.2.2.2.2.2.2.2.2.2,()),()),(v0.2.2.1,v0.2.2.2.2.2.2.2.2.1,()))
def yo7 (v0 v1 v2 v3 v4 v5 v6 v7 v8 v9:Int) (v10 v11:Bool) (v12:List dM) (v13:List dW):Option ((ycN).X ⊕ ((ygw).X ⊕ (ykD).X)) :=bif(ltb v0 (v12.length:Int))then bif(inb v0 v12.length)then bif(!((((nth v12 v0 ([],[],false,[])).2).2).1))then let r3:=ynu (v1,(v2,v3),v12,v4,v5,v6,v7,v8,v13,v9,v10,v11);bif r3.1 then bif(inb v0 r3.2.2.2.1.length)then let r4:=yg5 ((nth r3.2.2.2.1 v0 ([],[],false,[])).1,((nth r3.2.2.2.1 v0 ([],[],false,[])).2).1,(((nth r3.2.2.2.1 v0 ([],[],false,[])).2).2));bif(inb v0 r3.2.2.2.1.length)then some (.inl ((((),()),((i64.wrap (v0+1)),()),()),((r3.2.1,r3.2.2.1.1,r3.2.2.1.2,(),r3.2.2.2.2.1,r3.2.2.2.2.2.1,r3.2.2.2.2.2.2.1,r3.2.2.2.2.2.2.2.1,r3.2.2.2.2.2.2.2.2.1,(),r3.2.2.2.2.2.2.2.2.2.2.1,r3.2.2.2.2.2.2.2.2.2.2.2.1,r3.2.2.2.2.2.2.2.2.2.2.2.2,()),()),((r3.2.2.2.1.set (v0).toNat r4),r3.2.2.2.2.2.2.2.2.2.1,()))) else none else none else some (.inl ((((),()),((i64.wrap (v0+1)),()),()),((r3.2.1,r3.2.2.1.1,r3.2.2.1.2,(),r3.2.2.2.2.1,r3.2.2.2.2.2.1,r3.2.2.2.2.2.2.1,r3.2.2.2.2.2.2.2.1,r3.2.2.2.2.2.2.2.2.1,(),r3.2.2.2.2.2.2.2.2.2.2.1,r3.2.2.2.2.2.2.2.2.2.2.2.1,r3.2.2.2.2.2.2.2.2.2.2.2.2,()),()),(r3.2.2.2.1,r3.2.2.2.2.2.2.2.2.2.1,()))) else some (.inl ((((),()),((i64.wrap (v0+1)),()),()),((v1,v2,v3,(),v4,v5,v6,v7,v8,(),v9,v10,v11,()),()),(v12,v13,()))) else none else some (.inr (.inl ((),((v1,v2,v3,(),v4,v5,v6,v7,v8,(),v9,v10,v11,()),()),(v12,v13,()))))
def ydf (x:(ycN).X):=yo7 x.1.2.1.1 x.2.1.1.1 x.2.1.1.2.1 x.2.1.1.2.2.1 x.2.1.1.2.2.2.2.1 x.2.1.1.2.2.2.2.2.1 x.2.1.1.2.2.2.2.2.2.1 x.2.1.1.2.2.2.2.2.2.2.1 x.2.1.1.2.2.2.2.2.2.2.2.1 x.2.1.1.2.2.2.2.2.2.2.2.2.2.1 x.2.1.1.2.2.2.2.2.2.2.2.2.2.2.1 x.2.1.1.2.2.2.2.2.2.2.2.2.2.2.2.1 x.2.2.1 x.2.2.2.1
def yyo (x:(ygK).X):(ycN).X:=((((),()),(0,()),()),((x.2.1.1.1,x.2.1.1.2.1,x.2.1.1.2.2.1,(),x.2.1.1.2.2.2.2.1,x.2.1.1.2.2.2.2.2.1,x.2.1.1.2.2.2.2.2.2.1,x.2.1.1.2.2.2.2.2.2.2.1,x.2.1.1.2.2.2.2.2.2.2.2.1,(),x.2.1.1.2.2.2.2.2.2.2.2.2.2.1,x.2.1.1.2.2.2.2.2.2.2.2.2.2.2.1,x.2.1.1.2.2.2.2.2.2.2.2.2.2.2.2.1,()),()),(x.2.2.1,x.2.2.2.1,()))
def yzR:Code:=(zd7 ynF 64 12).getD .skip
theorem yLi:zd7 ynF 64 3=some (.block 0 (.loop yzR)):=by kernel_rfl
theorem yNL (x:(ycN).X):zhu ⟨yuq,39,yzC⟩ 0 yzR 12 ycN ygw ykD x=ydf x:=by kernel_rfl
def yyD (x:(ygK).X):Nat:=18446744073709551616
def ypR (x:(ygK).X):Option ((ygw).X ⊕ (ykD).X):=zF ydf (yyD x) (yyo x)
def yzi:Seg:=⟨ygK,ygw,ykD,ypR⟩
def yKS:Nat→Option Seg:=fun q=>bif Nat.beq q 3 then some yzi else yzC q
theorem yIN:FrOk prog ⟨yuq,39,yKS⟩ ynF:=(yIM).loop (sg:=yzi) ycN yyo (by decide) yLi ydf yyD (by decide) (fun _=>rfl) (fun x r _ h=>h) yNL
abbrev ynT:List Par:= [.pt tA (.pr .fz (.pr (.pr .fz .fz) (.pr (.ow (.pr (.ow .fz) (.pr (.ow (.pr .fz .fz)) (.pr .fz (.ow .fz))))) (.pr .fz (.pr .fz (.pr .fz (.pr .fz (.pr .fz (.pr (.ow (.pr .fz .fz)) (.pr .fz (.pr .fz .fz)))))))))))]
abbrev yvi:List OT:= []
def yrh (a0:dA):Option (zaY yvi×zak ynT) :=zkt (ypR ((((),()),((),()),()),((a0.1,a0.2.1.1,a0.2.1.2,(),a0.2.2.2.1,a0.2.2.2.2.1,a0.2.2.2.2.2.1,a0.2.2.2.2.2.2.1,a0.2.2.2.2.2.2.2.1,(),a0.2.2.2.2.2.2.2.2.2.1,a0.2.2.2.2.2.2.2.2.2.2.1,a0.2.2.2.2.2.2.2.2.2.2.2,()),()),(a0.2.2.1,a0.2.2.2.2.2.2.2.2.1,()))) (fun y4 =>some ((),((y4.2.1.1.1,(y4.2.1.1.2.1,y4.2.1.1.2.2.1),y4.2.2.1,y4.2.1.1.2.2.2.2.1,y4.2.1.1.2.2.2.2.2.1,y4.2.1.1.2.2.2.2.2.2.1,y4.2.1.1.2.2.2.2.2.2.2.1,y4.2.1.1.2.2.2.2.2.2.2.2.1,y4.2.2.2.1,y4.2.1.1.2.2.2.2.2.2.2.2.2.2.1,y4.2.1.1.2.2.2.2.2.2.2.2.2.2.2.1,y4.2.1.1.2.2.2.2.2.2.2.2.2.2.2.2.1),()))) (fun y4 =>none)
theorem yNd:ConOk prog 208 ⟨ynT,yvi,fun x=>yrh x.1⟩:=zkI (yIN) func208 ntmps208.symm fun x=>by kernel_rfl
def ydm (a0:dA):dA:=yq a0
theorem yPf (a0:dA) (hk:zjx ynT (a0,())):yrh a0=(fun n=>some ((),(n,()))) (ydm a0):=by
 have hb:a0.2.2.1.length*80≤2^47:=hk.1.2.2.1.1
 have h1:ypR (yJb a0)=some (.inl (yyL (yq a0))) :=
  zkD (step:=ydf) a0.2.2.1.length (fun i s=>yoC i s) yI (fun _ s=>s.2.2.1.length=a0.2.2.1.length) (fun s=> .inl (yyL s)) (fun i s hi hs=>⟨by
   simp only[ydf,yoC,yo7,hs,zky (show(i:Int)<a0.2.2.1.length by omega),cond_true,wq ((i:Int)+1) (by omega) (by omega),Int.natCast_add,Int.natCast_one,Int.toNat_natCast,zkR hi,zkX,yNN,yau,yg5,yI,ycX]
   cases(nth s.2.2.1 i yf).2.2.1<;>cases(opA s).1<;>simp only[cond_true,cond_false,Bool.not_true,Bool.not_false,yau,Int.toNat_natCast],(yjK s i).trans hs⟩) (fun s hs=>by simp only[ydf,yoC,yo7,hs,zk3 (Int.le_refl _),cond_false]) a0 rfl _ (by show _<18446744073709551616; omega)
 unfold yrh ydm;rw[h1]; rfl
def ykM:Con:=⟨ynT,yvi,fun x=>(fun n=>some ((),(n,()))) (ydm x.1)⟩
theorem ysO:ConOk prog 208 ykM:=(yNd).mono (fun x r hk h=>(yPf x.1 hk).trans h)
def ynE:Code:=(f174.body).getD .skip
def yup:Env:=zkw TT [(144,ymH),(206,yh7),(208,ykM)] []
theorem yIK:FrOk prog ⟨yup,63,fun _=>none⟩ ynE:=zkA mixed yc ⟨yyS,yn5,ysO,trivial⟩
def yzB:Nat→Option Seg:=fun _=>none
def ycb:Shape:=⟨[(0,false,[.ptr 1000000000 0]),(2,false,[.int .i64])],[(1000000000,[.int .i64,.int .i64,.int .i64,.at 800000000,.int .i64,.int .i64,.int .i64,.int .i64,.int .i64,.at 800000001,.int .i64,.bool,.bool])],[(800000000,tM,(.pr (.ow .fz) (.pr (.ow (.pr .fz .fz)) (.pr .fz (.ow .fz))))),(800000001,tW,(.pr .fz .fz))]⟩
def yfC:Shape:=⟨[(0,false,[.ptr 1000000000 0]),(2,false,[.ci .i64 0])],[(1000000000,[.int .i64,.int .i64,.int .i64,.at 800000000,.int .i64,.int .i64,.int .i64,.int .i64,.int .i64,.at 800000001,.int .i64,.bool,.bool])],[(800000000,tM,(.pr (.ow .fz) (.pr (.ow (.pr .fz .fz)) (.pr .fz (.ow .fz))))),(800000001,tW,(.pr .fz .fz))]⟩
def yfr:Shape:=⟨[(0,false,[.ptr 1000000000 0])],[(1000000000,[.int .i64,.int .i64,.int .i64,.at 800000000,.int .i64,.int .i64,.int .i64,.int .i64,.int .i64,.at 800000001,.int .i64,.bool,.bool])],[(800000000,tM,(.pr (.ow .fz) (.pr (.ow (.pr .fz .fz)) (.pr .fz (.ow .fz))))),(800000001,tW,(.pr .fz .fz))]⟩
def yi0:Shape:=⟨[],[],[]⟩
abbrev ymR (v0:Int) (v1:dA):(ycb).X:=((((),()),(v0,()),()),((v1.1,v1.2.1.1,v1.2.1.2,(),v1.2.2.2.1,v1.2.2.2.2.1,v1.2.2.2.2.2.1,v1.2.2.2.2.2.2.1,v1.2.2.2.2.2.2.2.1,(),v1.2.2.2.2.2.2.2.2.2.1,v1.2.2.2.2.2.2.2.2.2.2.1,v1.2.2.2.2.2.2.2.2.2.2.2,()),()),(v1.2.2.1,v1.2.2.2.2.2.2.2.2.1,()))
abbrev yGE (v0:dA):(yfC).X:=((((),()),((),()),()),((v0.1,v0.2.1.1,v0.2.1.2,(),v0.2.2.2.1,v0.2.2.2.2.1,v0.2.2.2.2.2.1,v0.2.2.2.2.2.2.1,v0.2.2.2.2.2.2.2.1,(),v0.2.2.2.2.2.2.2.2.2.1,v0.2.2.2.2.2.2.2.2.2.2.1,v0.2.2.2.2.2.2.2.2.2.2.2,()),()),(v0.2.2.1,v0.2.2.2.2.2.2.2.2.1,()))
abbrev yws (v0:dA):(yfr).X:=((((),()),()),((v0.1,v0.2.1.1,v0.2.1.2,(),v0.2.2.2.1,v0.2.2.2.2.1,v0.2.2.2.2.2.1,v0.2.2.2.2.2.2.1,v0.2.2.2.2.2.2.2.1,(),v0.2.2.2.2.2.2.2.2.2.1,v0.2.2.2.2.2.2.2.2.2.2.1,v0.2.2.2.2.2.2.2.2.2.2.2,()),()),(v0.2.2.1,v0.2.2.2.2.2.2.2.2.1,()))
def ynl (v0 v1 v2 v3 v4 v5 v6 v7 v8 v9:Int) (v10 v11:Bool) (v12:List dM) (v13:List dW):Option ((ycb).X ⊕ ((yfr).X ⊕ (yi0).X)) :=bif(ltb v0 (v12.length:Int))then let r3:=yx (v1,v8,v0,v2,v3,v7,v4,v5);bnd (yd7 (v1,(v2,v3),v12,v4,v5,v6,v7,v8,v13,v9,v10,v11) v0 (v8.tmod 2) r3) fun r4 =>some (.inl ((((),()),((i64.wrap (v0+1)),()),()),((r4.2.1.1,r4.2.1.2.1.1,r4.2.1.2.1.2,(),r4.2.1.2.2.2.1,r4.2.1.2.2.2.2.1,r4.2.1.2.2.2.2.2.1,r4.2.1.2.2.2.2.2.2.1,r4.2.1.2.2.2.2.2.2.2.1,(),r4.2.1.2.2.2.2.2.2.2.2.2.1,r4.2.1.2.2.2.2.2.2.2.2.2.2.1,r4.2.1.2.2.2.2.2.2.2.2.2.2.2,()),()),(r4.2.1.2.2.1,r4.2.1.2.2.2.2.2.2.2.2.1,()))) else some (.inr (.inl ((((),()),()),((v1,v2,v3,(),v4,v5,v6,v7,v8,(),v9,v10,v11,()),()),(v12,v13,()))))
def ycz (x:(ycb).X):=ynl x.1.2.1.1 x.2.1.1.1 x.2.1.1.2.1 x.2.1.1.2.2.1 x.2.1.1.2.2.2.2.1 x.2.1.1.2.2.2.2.2.1 x.2.1.1.2.2.2.2.2.2.1 x.2.1.1.2.2.2.2.2.2.2.1 x.2.1.1.2.2.2.2.2.2.2.2.1 x.2.1.1.2.2.2.2.2.2.2.2.2.2.1 x.2.1.1.2.2.2.2.2.2.2.2.2.2.2.1 x.2.1.1.2.2.2.2.2.2.2.2.2.2.2.2.1 x.2.2.1 x.2.2.2.1
def ywd (x:(yfC).X):(ycb).X:=((((),()),(0,()),()),((x.2.1.1.1,x.2.1.1.2.1,x.2.1.1.2.2.1,(),x.2.1.1.2.2.2.2.1,x.2.1.1.2.2.2.2.2.1,x.2.1.1.2.2.2.2.2.2.1,x.2.1.1.2.2.2.2.2.2.2.1,x.2.1.1.2.2.2.2.2.2.2.2.1,(),x.2.1.1.2.2.2.2.2.2.2.2.2.2.1,x.2.1.1.2.2.2.2.2.2.2.2.2.2.2.1,x.2.1.1.2.2.2.2.2.2.2.2.2.2.2.2.1,()),()),(x.2.2.1,x.2.2.2.1,()))
def yxT:Code:=(zd7 ynE 64 52).getD .skip
theorem yHW:zd7 ynE 64 13=some (.block 0 (.loop yxT)):=by kernel_rfl
theorem yKt (x:(ycb).X):zhu ⟨yup,63,yzB⟩ 0 yxT 52 ycb yfr yi0 x=ycz x:=by kernel_rfl
def ywo (x:(yfC).X):Nat:=18446744073709551616
def yoh (x:(yfC).X):Option ((yfr).X ⊕ (yi0).X):=zF ycz (ywo x) (ywd x)
def ywH:Seg:=⟨yfC,yfr,yi0,yoh⟩
def yKR:Nat→Option Seg:=fun q=>bif Nat.beq q 13 then some ywH else yzB q
theorem yIL:FrOk prog ⟨yup,63,yKR⟩ ynE:=(yIK).loop (sg:=ywH) ycb ywd (by decide) yHW ycz ywo (by decide) (fun _=>rfl) (fun x r _ h=>h) yKt
abbrev ynS:List Par:= [.pt tA (.pr .fz (.pr (.pr .fz .fz) (.pr (.ow (.pr (.ow .fz) (.pr (.ow (.pr .fz .fz)) (.pr .fz (.ow .fz))))) (.pr .fz (.pr .fz (.pr .fz (.pr .fz (.pr .fz (.pr (.ow (.pr .fz .fz)) (.pr .fz (.pr .fz .fz)))))))))))]
abbrev yvh:List OT:= []
def yrg (a0:dA):Option (zaY yvh×zak ynS) :=zkt (yoh ((((),()),((),()),()),((a0.1,a0.2.1.1,a0.2.1.2,(),a0.2.2.2.1,a0.2.2.2.2.1,a0.2.2.2.2.2.1,a0.2.2.2.2.2.2.1,(i64.wrap (a0.2.2.2.2.2.2.2.1+1)),(),a0.2.2.2.2.2.2.2.2.2.1,a0.2.2.2.2.2.2.2.2.2.2.1,a0.2.2.2.2.2.2.2.2.2.2.2,()),()),(a0.2.2.1,a0.2.2.2.2.2.2.2.2.1,()))) (fun y4 =>let r6:=ydm (y4.2.1.1.1,(y4.2.1.1.2.1,y4.2.1.1.2.2.1),y4.2.2.1,y4.2.1.1.2.2.2.2.1,y4.2.1.1.2.2.2.2.2.1,y4.2.1.1.2.2.2.2.2.2.1,y4.2.1.1.2.2.2.2.2.2.2.1,y4.2.1.1.2.2.2.2.2.2.2.2.1,y4.2.2.2.1,y4.2.1.1.2.2.2.2.2.2.2.2.2.2.1,y4.2.1.1.2.2.2.2.2.2.2.2.2.2.2.1,y4.2.1.1.2.2.2.2.2.2.2.2.2.2.2.2.1);some ((),(r6,()))) (fun y4 =>none)
theorem yNc:ConOk prog 174 ⟨ynS,yvh,fun x=>yrg x.1⟩:=zkI (yIL) func174 ntmps174.symm fun x=>by kernel_rfl
def yaG (a0:dA):dA:=yab a0
theorem yHq (a:dA) (i:Nat):(yY a i).2.2.1.length=a.2.2.1.length:=yph _ _ _ _
theorem yPe (a0:dA) (hk:zjx ynS (a0,())):yrg a0=(fun n=>some ((),(n,()))) (yaG a0):=by
 have hb:a0.2.2.1.length*80≤2^47:=hk.1.2.2.1.1
 have h1:yoh (yGE (yaj a0))=some (.inl (yws ((List.range a0.2.2.1.length).foldl yY (yaj a0)))) :=
  zkD (step:=ycz) a0.2.2.1.length (fun i s=>ymR i s) yY (fun _ s=>s.2.2.1.length=a0.2.2.1.length) (fun s=> .inl (yws s)) (fun i s hi hs=>⟨by
   simp only[ycz,ymR,ynl,hs,zky (show(i:Int)<a0.2.2.1.length by omega),cond_true,wq ((i:Int)+1) (by omega) (by omega),Int.natCast_add,Int.natCast_one,Int.toNat_natCast,zkX];rw[yjE s i (s.2.2.2.2.2.2.2.1.tmod 2) (yx (s.1,s.2.2.2.2.2.2.2.1,(i:Int),s.2.1.1,s.2.1.2,s.2.2.2.2.2.2.1,s.2.2.2.1,s.2.2.2.2.1)) (zkR (by rw[hs]; exact hi))]
   rfl,(yHq s i).trans hs⟩) (fun s hs=>by simp only[ycz,ymR,ynl,hs,zk3 (Int.le_refl _),cond_false]) (yaj a0) rfl _ (by show _<18446744073709551616; omega)
 unfold yrg yaG yab;exact(congrArg (fun z=>zkt z _ _) h1).trans rfl
def ykL:Con:=⟨ynS,yvh,fun x=>(fun n=>some ((),(n,()))) (yaG x.1)⟩
theorem ysN:ConOk prog 174 ykL:=(yNc).mono (fun x r hk h=>(yPe x.1 hk).trans h)
def yNZ:Code:=(f108.body).getD .skip
def yOp:Env:=zkw TT [(143,yx2),(174,ykL)] []
theorem yGd:FrOk prog ⟨yOp,62,fun _=>none⟩ yNZ:=zkA mixed yc ⟨yNm,ysN,trivial⟩
abbrev yhS:List Par:= [.pt tA (.pr .fz (.pr (.pr .fz .fz) (.pr (.ow (.pr (.ow .fz) (.pr (.ow (.pr .fz .fz)) (.pr .fz (.ow .fz))))) (.pr .fz (.pr .fz (.pr .fz (.pr .fz (.pr .fz (.pr (.ow (.pr .fz .fz)) (.pr .fz (.pr .fz .fz))))))))))),.rd tI]
abbrev yl1:List OT:= []
def yoP (a0:dA) (a1:Int):Option (zaY yl1×zak yhS) :=bif(inb a1 a0.2.2.1.length)then let r1:=ymd ((nth a0.2.2.1 a1 ([],[],false,[])).1,((nth a0.2.2.1 a1 ([],[],false,[])).2).1,(((nth a0.2.2.1 a1 ([],[],false,[])).2).2));bif(inb a1 a0.2.2.1.length)then bif(!(a0.2.2.2.1==(-1)))then bif(a0.2.2.2.1==a1)then bif(!a0.2.2.2.2.2.2.2.2.2.2.1)then bif(!a0.2.2.2.2.2.2.2.2.2.2.2)then bif(ltb a0.2.2.2.2.2.2.2.1 60000)then let r2:=yaG (a0.1,a0.2.1,(a0.2.2.1.set (a1).toNat r1),a1,0,a0.2.2.2.2.2);some ((),(r2,())) else some ((),((a0.1,a0.2.1,(a0.2.2.1.set (a1).toNat r1),a1,0,a0.2.2.2.2.2),())) else some ((),((a0.1,a0.2.1,(a0.2.2.1.set (a1).toNat r1),a1,0,a0.2.2.2.2.2),())) else some ((),((a0.1,a0.2.1,(a0.2.2.1.set (a1).toNat r1),a1,0,a0.2.2.2.2.2),())) else bif(!a0.2.2.2.2.2.2.2.2.2.2.1)then some ((),((a0.1,a0.2.1,(a0.2.2.1.set (a1).toNat r1),a0.2.2.2.1,a0.2.2.2.2.1,a0.2.2.2.2.2.1,a0.2.2.2.2.2.2.1,a0.2.2.2.2.2.2.2.1,a0.2.2.2.2.2.2.2.2.1,a0.2.2.2.2.2.2.2.2.2.1,a0.2.2.2.2.2.2.2.2.2.2.1,true),())) else some ((),((a0.1,a0.2.1,(a0.2.2.1.set (a1).toNat r1),a0.2.2.2.1,a0.2.2.2.2.1,a0.2.2.2.2.2.1,a0.2.2.2.2.2.2.1,a0.2.2.2.2.2.2.2.1,a0.2.2.2.2.2.2.2.2.1,a0.2.2.2.2.2.2.2.2.2.1,a0.2.2.2.2.2.2.2.2.2.2.1,true),())) else bif(!a0.2.2.2.2.2.2.2.2.2.2.1)then bif(!a0.2.2.2.2.2.2.2.2.2.2.2)then bif(ltb a0.2.2.2.2.2.2.2.1 60000)then let r3:=yaG (a0.1,a0.2.1,(a0.2.2.1.set (a1).toNat r1),a1,0,a0.2.2.2.2.2);some ((),(r3,())) else some ((),((a0.1,a0.2.1,(a0.2.2.1.set (a1).toNat r1),a1,0,a0.2.2.2.2.2),())) else some ((),((a0.1,a0.2.1,(a0.2.2.1.set (a1).toNat r1),a1,0,a0.2.2.2.2.2),())) else some ((),((a0.1,a0.2.1,(a0.2.2.1.set (a1).toNat r1),a1,0,a0.2.2.2.2.2),())) else none else none
theorem yJT:ConOk prog 108 ⟨yhS,yl1,fun x=>yoP x.1 x.2.1⟩:=zkI (yGd) func108 ntmps108.symm fun x=>by kernel_rfl
def yme (a0:dA) (a1:Int):dA:=yma a0 a1
def ysR (a0:dA) (a1:Int):Bool:=inb a1 a0.2.2.1.length
theorem yMt (a0:dA) (a1:Int) (hk:zjx yhS (a0,a1,())) (hq:ysR a0 a1=true):yoP a0 a1=(fun n=>some ((),(n,()))) (yme a0 a1):=by
 have hq:inb a1 a0.2.2.1.length=true:=hq;unfold yoP yme yma ydC yLo yjI yb;simp only[hq,zkX,ymd,yan,yaG];cases(a0.2.2.2.1== -1)<;>cases(a0.2.2.2.1==a1)<;>cases a0.2.2.2.2.2.2.2.2.2.2.1<;>cases a0.2.2.2.2.2.2.2.2.2.2.2<;>cases ltb a0.2.2.2.2.2.2.2.1 60000<;>rfl
def yiu (a0:dA) (a1:Int):Option (zaY yl1×zak yhS):=bif ysR a0 a1 then(fun n=>some ((),(n,()))) (yme a0 a1)else none
theorem yNv (a0:dA) (a1:Int) (h:ysR a0 a1=true):yiu a0 a1=(fun n=>some ((),(n,()))) (yme a0 a1):=by unfold yiu; rw[h]; rfl
def yx6:Con:=⟨yhS,yl1,fun x=>yiu x.1 x.2.1⟩
theorem yNq:ConOk prog 108 yx6:=(yJT).mono (fun x r hk h=>zkY h (fun hq=>yMt x.1 x.2.1 hk hq))
def ykd:Code:=(f112.body).getD .skip
def ypE:Env:=zkw TT [(76,ygZ),(82,yz),(160,ye6),(161,ysE)] []
theorem yEc:FrOk prog ⟨ypE,68,fun _=>none⟩ ykd:=zkA mixed yc ⟨ymk,yF,yjD,yCQ,trivial⟩
def yvE:Nat→Option Seg:=fun _=>none
def yaN:Shape:=⟨[(1,false,[.int .i64]),(4,false,[.ptr 64 0]),(5,false,[.ptr 4224 0]),(6,false,[.int .i64])],[(64,[.nil,.nil,.bool,.nil]),(4224,[.at 800000000,.at 800000001,.bool,.at 800000002])],[(800000000,tL,.fz),(800000001,tW,(.pr .fz .fz)),(800000002,tI,.fz)]⟩
def ydv:Shape:=⟨[(1,false,[.int .i64]),(4,false,[.ptr 64 0]),(5,false,[.ptr 4224 0]),(6,false,[.int .i64])],[(64,[.nil,.nil,.bool,.nil]),(4224,[.at 800000000,.at 800000001,.bool,.at 800000002])],[(800000000,tL,.fz),(800000001,tW,(.pr .fz .fz)),(800000002,tI,.fz)]⟩
def ydr:Shape:=⟨[(1,false,[.int .i64]),(4,false,[.ptr 64 0]),(5,false,[.ptr 4224 0]),(6,false,[.int .i64])],[(64,[.nil,.nil,.bool,.nil]),(4224,[.at 800000000,.at 800000001,.bool,.at 800000002])],[(800000000,tL,.fz),(800000001,tW,(.pr .fz .fz)),(800000002,tI,.fz)]⟩
def yfV:Shape:=⟨[],[],[]⟩
abbrev yi5 (v0 v1:Int) (v2 v3:dM):(yaN).X:=(((v0,()),((),()),((),()),(v1,()),()),(((),(),v2.2.2.1,(),()),((),(),v3.2.2.1,(),()),()),(v3.1,v3.2.1,v3.2.2.2,()))
abbrev yCw (v0 v1:Int) (v2 v3:dM):(ydv).X:=(((v0,()),((),()),((),()),(v1,()),()),(((),(),v2.2.2.1,(),()),((),(),v3.2.2.1,(),()),()),(v3.1,v3.2.1,v3.2.2.2,()))
abbrev yCs (v0 v1:Int) (v2 v3:dM):(ydr).X:=(((v0,()),((),()),((),()),(v1,()),()),(((),(),v2.2.2.1,(),()),((),(),v3.2.2.1,(),()),()),(v3.1,v3.2.1,v3.2.2.2,()))
def yjg (v0 v1:Int) (v2 v3:Bool) (v4:List (List Int)) (v5:List dW) (v6:List Int):Option ((yaN).X ⊕ ((ydr).X ⊕ (yfV).X)) :=bif(ltb 0 v1)then bif(inb (i64.wrap (v1-1)) v6.length)then bif(ltb v0 (nth v6 (i64.wrap (v1-1)) 0))then bif(inb (i64.wrap (v1-1)) v6.length)then bif(inb v1 v6.length)then some (.inl (((v0,()),((),()),((),()),((i64.wrap (v1-1)),()),()),(((),(),v2,(),()),((),(),v3,(),()),()),(v4,v5,(v6.set (v1).toNat (nth v6 (i64.wrap (v1-1)) 0)),()))) else none else none else some (.inr (.inl (((v0,()),((),()),((),()),(v1,()),()),(((),(),v2,(),()),((),(),v3,(),()),()),(v4,v5,v6,())))) else none else some (.inr (.inl (((v0,()),((),()),((),()),(v1,()),()),(((),(),v2,(),()),((),(),v3,(),()),()),(v4,v5,v6,()))))
def ya0 (x:(yaN).X):=yjg x.1.1.1 x.1.2.2.2.1.1 x.2.1.1.2.2.1 x.2.1.2.1.2.2.1 x.2.2.1 x.2.2.2.1 x.2.2.2.2.1
def yqH (x:(ydv).X):(yaN).X:=(((x.1.1.1,()),((),()),((),()),(x.1.2.2.2.1.1,()),()),(((),(),x.2.1.1.2.2.1,(),()),((),(),x.2.1.2.1.2.2.1,(),()),()),(x.2.2.1,x.2.2.2.1,x.2.2.2.2.1,()))
def yrr:Code:=(zd7 ykd 64 504).getD .skip
theorem yCY:zd7 ykd 64 126=some (.block 0 (.loop yrr)):=by kernel_rfl
theorem yDt (x:(yaN).X):zhu ⟨ypE,68,yvE⟩ 0 yrr 504 yaN ydr yfV x=ya0 x:=by kernel_rfl
def yqL (x:(ydv).X):Nat:=18446744073709551616
def yjN (x:(ydv).X):Option ((ydr).X ⊕ (yfV).X):=zF ya0 (yqL x) (yqH x)
def yrk:Seg:=⟨ydv,ydr,yfV,yjN⟩
def yFA:Nat→Option Seg:=fun q=>bif Nat.beq q 126 then some yrk else yvE q
theorem yEd:FrOk prog ⟨ypE,68,yFA⟩ ykd:=(yEc).loop (sg:=yrk) yaN yqH (by decide) yCY ya0 yqL (by decide) (fun _=>rfl) (fun x r _ h=>h) yDt
abbrev ykp:List Par:= [.rd tM,.rd tI]
abbrev yqi:List OT:= [⟨false,tM,(.pr (.ow .fz) (.pr (.ow (.pr .fz .fz)) (.pr .fz (.ow .fz))))⟩]
def ym7 (a0:dM) (a1:Int):Option (zaY yqi×zak ykp) :=let r1:=yan a0;let r2:=yas a0;bif(!(!r2))then let r3:=ya a1 0 (i64.wrap ((a0.1.length:Int)-1));bif(!(!r3))then let r4:=yfN a0.2.2.2 a1;bif r4 then some ((r1,()),()) else bif(zkl r1.2.2.2.length ([a1]:List Int).length 8)then zkt (yjN (((a1,()),((),()),((),()),((i64.wrap (((r1.2.2.2++([a1]:List Int)).length:Int)-1)),()),()),(((),(),false,(),()),((),(),r1.2.2.1,(),()),()),(r1.1,r1.2.1,(r1.2.2.2++([a1]:List Int)),()))) (fun y4 =>bif(inb y4.1.2.2.2.1.1 y4.2.2.2.2.1.length)then some (((y4.2.2.1,y4.2.2.2.1,y4.2.1.2.1.2.2.1,(y4.2.2.2.2.1.set (y4.1.2.2.2.1.1).toNat y4.1.1.1)),()),()) else none) (fun y4 =>none) else none else some ((r1,()),()) else some ((r1,()),())
theorem yG1:ConOk prog 112 ⟨ykp,yqi,fun x=>ym7 x.1 x.2.1⟩:=zkI (yEd) func112 ntmps112.symm fun x=>by kernel_rfl
def ykP (a0:dM) (a1:Int):dM:=spoil a0 a1
theorem yNO (n:Int) (m:dM) (p:List Int) (hp: ∀x∈p,x<n): ∀(j:Nat) (q1 q2:List Int) (x:Int) (fuel:Nat),q1.length=j→j<fuel→(∀y∈q1,n<y)→p.length+q1.length≤1000 →
  ∃(x':Int) (q':List Int),q1++q2=q'∧zF ya0 fuel (yi5 n ((p.length+q1.length:Nat):Int) yf (m.1,m.2.1,m.2.2.1,(p++q1)++x::q2))=some (.inl (yCs n (p.length:Nat) yf (m.1,m.2.1,m.2.2.1,p++x'::q')))
 | 0,q1,q2,x,fuel+1,hj,hf,hq,hb=>by
  have:q1= []:=List.length_eq_zero_iff.1 hj;subst this;refine⟨x,q2,rfl,?_⟩;simp only[zF,ya0,yi5,yjg,List.length_nil,Nat.add_zero,List.append_nil];rcases List.eq_nil_or_concat p with rfl | ⟨P,y,rfl⟩
  ·rfl
  ·have hy:=hp y (by simp)
   simp only[List.concat_eq_append,List.length_append,List.length_cons,List.length_nil,List.append_assoc,List.cons_append,List.nil_append]at hb ⊢
   rw[zky (show(0:Int)<((P.length+(0+1):Nat):Int)by omega),wq (((P.length+(0+1):Nat):Int)-1) (by omega) (by omega),show((P.length+(0+1):Nat):Int)-1=(P.length:Nat)by omega,
    zkR (by simp),zkS,yTI,zk3 (show y≤n by omega)]
   rfl
 | j+1,q1,q2,x,fuel+1,hj,hf,hq,hb=>by
  rcases List.eq_nil_or_concat q1 with rfl | ⟨Q,y,rfl⟩
  ·cases hj
  ·rw[List.concat_eq_append]at hj hq hb ⊢
   have hQ:Q.length=j:=by simpa using hj
   have hy:=hq y (by simp);obtain⟨x',q',e1,e2⟩:=yNO n m p hp j Q (y::q2) y fuel hQ (by omega) (fun z hz=>hq z (by simp[hz])) (by simp at hb; omega);refine⟨x',q',by rw[← e1]; simp,?_⟩;rw[← e2];have ea:((p++(Q++ [y]))++x::q2)=(p++Q)++y::x::q2:=by simp
   have el:p.length+(Q++ [y]).length=(p++Q).length+1:=by simp; omega
   have el2:p.length+Q.length=(p++Q).length:=by simp
   have hb2:(p++Q).length≤1000:=by simp at hb ⊢; omega
   rw[ea,el,el2];generalize p++Q=A at hb2;rw[zF];simp only[ya0,yi5,yjg]
   have es:(A++y::x::q2).set (A.length+1) y=A++y::y::q2:=by
    have:=yTM (A++ [y]) x y q2;simp at this ⊢
   rw[zky (show(0:Int)<((A.length+1:Nat):Int)by omega),wq (((A.length+1:Nat):Int)-1) (by omega) (by omega),show((A.length+1:Nat):Int)-1=(A.length:Nat)by omega,zkR (show A.length<(A++y::x::q2).length by simp),zkS,yTI,zky hy,
    zkR (show A.length+1<(A++y::x::q2).length by simp),Int.toNat_natCast,es]
   rfl
theorem yJy (a0:dM) (a1:Int) (hk:zjx ykp (a0,a1,())):ym7 a0 a1=(fun n=>some ((n,()),())) (ykP a0 a1):=by
 unfold ym7 ykP spoil;simp only[yan,yas,ybA,yfN];cases hm:yu a0
 ·rfl
 obtain⟨h1,h2,h3,h4,h5,h6⟩:=ybT hm;rw[ylc]at h3;have hlen:=yFe h3.2 (lo:=0) (n:=a0.1.length) h3.1 (by omega);rw[wq ((a0.1.length:Int)-1) (by omega) (by omega)]
 have hi:(leb 0 a1&&leb a1 ((a0.1.length:Int)-1))=inb a1 a0.1.length:=by
  rw[Bool.eq_iff_iff,Bool.and_eq_true,zj7,zj7,zj6]; omega
 rw[hi];cases hin:inb a1 a0.1.length
 ·rfl
 cases hh:a0.2.2.2.any (· ==a1)
 ·have hn:a1∉a0.2.2.2:=fun h=>by
   have:=List.any_eq_false.1 hh a1 h;simp at this
  have hsp:=yS3 h3.2 hn;have hp: ∀x∈a0.2.2.2.filter (fun x=>ltb x a1),x<a1:=fun x hx=>zka.1 (List.mem_filter.1 hx).2
  have hq: ∀x∈a0.2.2.2.filter (fun x=>ltb a1 x),a1<x:=fun x hx=>zka.1 (List.mem_filter.1 hx).2
  unfold yh9;generalize a0.2.2.2.filter (fun x=>ltb x a1)=P at hsp hp;generalize a0.2.2.2.filter (fun x=>ltb a1 x)=Q at hsp hq;have hPQ:P.length+Q.length=a0.2.2.2.length:=by rw[hsp,List.length_append]
  obtain⟨x',q',e1,e2⟩:=yNO a1 a0 P hp Q.length Q [] a1 18446744073709551616 rfl (by omega) hq (by omega);rw[List.append_nil]at e1;subst e1;simp only[cond_true,cond_false,Bool.not_true,Bool.not_false,Bool.and_self]
  rw[zkF.2 (show(a0.2.2.2.length+ [a1].length)*8≤140737488355328 by simp only[List.length_cons,List.length_nil]; omega),wr (show -9223372036854775808≤((a0.2.2.2++ [a1]).length:Int)-1 by omega) (by simp only[List.length_append,List.length_cons,List.length_nil]; omega),
   show((a0.2.2.2++ [a1]).length:Int)-1=((P.length+Q.length:Nat):Int)by simp only[List.length_append,List.length_cons,List.length_nil]; omega,hsp,cond_true]
  refine(congrArg (fun z=>zkt z _ _) (show yjN (yCw a1 ((P.length+Q.length:Nat):Int) yf (a0.1,a0.2.1,a0.2.2.1,(P++Q)++ [a1]))=_ from e2)).trans ?_;simp only[zkN];show(bif inb (P.length:Int) (P++x'::Q).length then some (((a0.1,a0.2.1,a0.2.2.1,(P++x'::Q).set (P.length:Int).toNat a1),()),())else none)=_;rw[zkR (by simp),Int.toNat_natCast,yTM]; rfl
 ·rfl
def yvY:Con:=⟨ykp,yqi,fun x=>(fun n=>some ((n,()),())) (ykP x.1 x.2.1)⟩
theorem yKb:ConOk prog 112 yvY:=(yG1).mono (fun x r hk h=>(yJy x.1 x.2.1 hk).trans h)
section
def yQ1:Code:=(f216.body).getD .skip
def yRu:Env:=zkw TT [(78,yBt),(82,yz),(200,yfH)] []
theorem yIH:FrOk prog ⟨yRu,48,fun _=>none⟩ yQ1:=zkA mixed yc ⟨yRW,yF,ykT,trivial⟩
abbrev yuK:List Par:= [.rd tA,.rd tI,.rd tL]
abbrev yvg:List OT:= [⟨false,tI,.fz⟩]
def yAL (a0:dA) (a1:Int) (a2:List Int):Option (zaY yvg×zak yuK) :=let r1:=yd5 a0;bif(!(!r1))then bif(!((a2.length:Int) !=(i64.wrap (a0.2.1.1-1))))then let r2:=yZ a2;bif(!r2)then some ((1,()),()) else bif a0.2.2.2.2.2.2.2.2.2.2.1 then some ((6,()),()) else let r3:=ya a1 0 (i64.wrap (a0.2.1.2-1));bif(!r3)then some ((2,()),()) else bif a0.2.2.2.2.2.2.2.2.2.2.2 then some ((5,()),()) else bif(!(leb 60000 a0.2.2.2.2.2.1))then bif(leb 59990 a0.2.2.2.2.2.2.2.1)then some ((7,()),()) else some ((0,()),()) else some ((7,()),()) else some ((1,()),()) else some ((1,()),())
theorem yNa:ConOk prog 216 ⟨yuK,yvg,fun x=>yAL x.1 x.2.1 x.2.2.1⟩:=zkI (yIH) func216 ntmps216.symm fun x=>by kernel_rfl
def yD (a0:dA) (a1:Int) (a2:List Int):Int :=let r1:=yd5 a0;bif(!(!r1))then bif(!((a2.length:Int) !=(i64.wrap (a0.2.1.1-1))))then let r2:=yZ a2;bif(!r2)then 1 else bif a0.2.2.2.2.2.2.2.2.2.2.1 then 6 else let r3:=ya a1 0 (i64.wrap (a0.2.1.2-1));bif(!r3)then 2 else bif a0.2.2.2.2.2.2.2.2.2.2.2 then 5 else bif(!(leb 60000 a0.2.2.2.2.2.1))then bif(leb 59990 a0.2.2.2.2.2.2.2.1)then 7 else 0 else 7 else 1 else 1
def yAd:Con:=⟨yuK,yvg,fun x=>(fun n=>some ((n,()),())) (yD x.1 x.2.1 x.2.2.1)⟩
theorem yPc (a0:dA) (a1:Int) (a2:List Int):yAL a0 a1 a2=(fun n=>some ((n,()),())) (yD a0 a1 a2):=zkV (p:=fun(n:Int)=>((n,()),())) (zkG (p:=fun(n:Int)=>((n,()),())) (zkG (p:=fun(n:Int)=>((n,()),())) (zkG (p:=fun(n:Int)=>((n,()),())) rfl (zkG (p:=fun(n:Int)=>((n,()),())) rfl (zkG (p:=fun(n:Int)=>((n,()),())) rfl (zkG (p:=fun(n:Int)=>((n,()),())) rfl (zkG (p:=fun(n:Int)=>((n,()),())) (zkG (p:=fun(n:Int)=>((n,()),())) rfl rfl) rfl))))) rfl) rfl)
theorem yPX:ConOk prog 216 yAd:=(yNa).mono (fun x r _ h=>(yPc x.1 x.2.1 x.2.2.1).trans h)
def yFh (l:List dW) (k:Nat):List dW:=l.take k++l.drop (k+1)
def yaT (a:dA) (s:Int):Int×dA :=bif ltb (yaa a.2.2.2.2.2.2.2.2.1 s) 0 then(0,a)else bif yD a s (nth a.2.2.2.2.2.2.2.2.1 (yaa a.2.2.2.2.2.2.2.2.1 s) (0,[])).2 !=0 then(yD a s (nth a.2.2.2.2.2.2.2.2.1 (yaa a.2.2.2.2.2.2.2.2.1 s) (0,[])).2,a)else bif(yH a s (nth a.2.2.2.2.2.2.2.2.1 (yaa a.2.2.2.2.2.2.2.2.1 s) (0,[])).2).1==0 then (0,yy4 (yH a s (nth a.2.2.2.2.2.2.2.2.1 (yaa a.2.2.2.2.2.2.2.2.1 s) (0,[])).2).2 (yFh a.2.2.2.2.2.2.2.2.1 (yaa a.2.2.2.2.2.2.2.2.1 s).toNat)) else yH a s (nth a.2.2.2.2.2.2.2.2.1 (yaa a.2.2.2.2.2.2.2.2.1 s) (0,[])).2
theorem ytp {a:dA} {s:Int} {d:List Int} (h:yD a s d=0):ya2 a=true∧(d.length:Int)=a.2.1.1-1∧d.all isW=true∧yb a=false∧yO a.2.1 s=true∧a.2.2.2.2.2.2.2.2.2.2.2=false∧a.2.2.2.2.2.1<60000∧a.2.2.2.2.2.2.2.1<59990:=by
 unfold yD at h;simp only[yd5,yf9,ybA]at h;cases ha:ya2 a
 ·rw[ha]at h; exact absurd (show(1:Int)=0 from h) (by decide)
 have hg:=yl.1 (ydZ ha);rw[ha,wq (a.2.1.1-1) (by omega) (by omega),wq (a.2.1.2-1) (by omega) (by omega)]at h;cases hl:((d.length:Int) !=a.2.1.1-1)
 ·cases hw:d.all isW
  ·rw[hl,hw]at h; exact absurd (show(1:Int)=0 from h) (by decide)
  cases hd:a.2.2.2.2.2.2.2.2.2.2.1
  ·cases hs:(leb 0 s&&leb s (a.2.1.2-1))
   ·rw[hl,hw,hd,hs]at h; exact absurd (show(2:Int)=0 from h) (by decide)
   cases hb:a.2.2.2.2.2.2.2.2.2.2.2
   ·cases h6:leb 60000 a.2.2.2.2.2.1
    ·cases h7:leb 59990 a.2.2.2.2.2.2.2.1
     ·have e6: ¬(60000≤a.2.2.2.2.2.1):=fun g=>by rw[zk2 g]at h6; cases h6
      have e7: ¬(59990≤a.2.2.2.2.2.2.2.1):=fun g=>by rw[zk2 g]at h7; cases h7
      exact⟨rfl,bne_eq_false_iff_eq.1 hl,rfl,hd,by unfold yO; rw[ydZ ha,hs]; rfl,rfl,by omega,by omega⟩
     ·rw[hl,hw,hd,hs,hb,h6,h7]at h; exact absurd (show(7:Int)=0 from h) (by decide)
    ·rw[hl,hw,hd,hs,hb,h6]at h; exact absurd (show(7:Int)=0 from h) (by decide)
   ·rw[hl,hw,hd,hs,hb]at h; exact absurd (show(5:Int)=0 from h) (by decide)
  ·rw[hl,hw,hd]at h; exact absurd (show(6:Int)=0 from h) (by decide)
 ·rw[hl]at h; exact absurd (show(1:Int)=0 from h) (by decide)
theorem yQc (a:dA):(ym a).2.2.2.2.2.2.2.2.1=a.2.2.2.2.2.2.2.2.1:=by
 unfold ym;cases leb 4 (i64.wrap (a.2.2.2.2.2.1-a.2.2.2.2.2.2.1))
 ·rfl
 ·exact yTk a
theorem yTx (a:dA):(yU a).2.2.2.2.2.2.2.2.1=a.2.2.2.2.2.2.2.2.1:=rfl
theorem yTB (a:dA) (s:Int) (d:List Int):(yH a s d).2.2.2.2.2.2.2.2.2.1=a.2.2.2.2.2.2.2.2.1:=by
 unfold yH;have h2:=(yLm (ybe (ym a) ((ym a).2.2.2.2.2.1,s,d))).trans (yQc a);generalize yJ (ym a) ((ym a).2.2.2.2.2.1,s,d)=R at h2 ⊢;have h3:=(yLm (ytt (yU R) s d)).trans ((yTx R).trans h2);generalize yB (yU R) s d=Q at h3 ⊢;cases yb (ym a)
 ·cases yb R
  ·exact h3
  ·exact h2
 ·exact yQc a
theorem yUl {l:List dW} {k:Int} (h0:0≤k) (h1:k<(l.length:Int)):(([]:List dW)++((l.drop (0:Int).toNat).take (k-0).toNat))++((l.drop (k+1).toNat).take ((l.length:Int)-(k+1)).toNat)=yFh l k.toNat:=by
 unfold yFh;rw[List.nil_append,show(0:Int).toNat=0 from rfl,List.drop_zero,Int.sub_zero,show(k+1).toNat=k.toNat+1 by omega,List.take_of_length_le (l:=l.drop (k.toNat+1)) (by rw[List.length_drop]; omega)]
def ysz (_:Nat) (a:dA):dA ⊕ (Int×dA):=bif(yaT a (nth a.2.2.2.2.2.2.2.2.1 0 (0,[])).1).1 !=0 then .inr (yaT a (nth a.2.2.2.2.2.2.2.2.1 0 (0,[])).1)else .inl (yaT a (nth a.2.2.2.2.2.2.2.2.1 0 (0,[])).1).2
def yOx (a:dA):Int×dA:=goE ysz (fun b=>(0,b)) a.2.2.2.2.2.2.2.2.1.length 0 a
theorem yT0 {e:dW} {l:List dW}:yaa (e::l) e.1=0:=by
 unfold yaa;rw[ywN,show(e.1==e.1)=true from beq_self_eq_true _]; rfl
theorem yT1 {a:dA} (h:0<a.2.2.2.2.2.2.2.2.1.length) (h0:(yaT a (nth a.2.2.2.2.2.2.2.2.1 0 (0,[])).1).1=0):(yaT a (nth a.2.2.2.2.2.2.2.2.1 0 (0,[])).1).2.2.2.2.2.2.2.2.2.1=a.2.2.2.2.2.2.2.2.1.drop 1:=by
 unfold yaT at h0 ⊢
 have hk:yaa a.2.2.2.2.2.2.2.2.1 (nth a.2.2.2.2.2.2.2.2.1 0 (0,[])).1=0:=by
  cases hl:a.2.2.2.2.2.2.2.2.1 with
  | nil=>rw[hl]at h; exact absurd h (Nat.lt_irrefl 0)
  | cons e l=>exact yT0
 rw[hk]at h0 ⊢;generalize (nth a.2.2.2.2.2.2.2.2.1 0 (0,[])).2=D at h0 ⊢;generalize (nth a.2.2.2.2.2.2.2.2.1 0 (0,[])).1=s at h0 ⊢;cases hc:(yD a s D !=0)
 ·rw[hc]at h0
  cases hr:((yH a s D).1==0)
  ·rw[hr]at h0
   exact absurd (show(yH a s D).1=0 from h0) (beq_eq_false_iff_ne.1 hr)
  ·rfl
 ·rw[hc]at h0
  exact absurd (show yD a s D=0 from h0) (bne_iff_ne.1 hc)
inductive Turned (a:dA):dA→Prop where
 | same:Turned a a
 | put (b x:Int):ykF a.2.1 b=true→isW x=true→Turned a (yy5 a b x).2
 | flush (s:Int):Turned a (yaT a s).2
 | all:Turned a (yOx a).2
 | fail (m:Int):a.2.2.2.1= -1→inb m a.2.2.1.length=true→Turned a (yma a m)
 | spare:inb a.2.2.2.1 a.2.2.1.length=true→(nth a.2.2.1 a.2.2.2.1 yf).2.2.1=true→Turned a (yab (ybz a))
 | step:inb a.2.2.2.1 a.2.2.1.length=true→(nth a.2.2.1 a.2.2.2.1 yf).2.2.1=false→a.2.2.2.2.1<a.2.1.2→Turned a (ypk a).2
 | check:Turned a (yR a)
 | spoil (m s:Int):a.2.2.2.1= -1→inb m a.2.2.1.length=true→0≤s→s<a.2.1.2→Turned a (ycX a m (spoil (nth a.2.2.1 m yf) (yy s)))
def ySb (g:dG) (e:dW):Prop:=(0≤e.1∧e.1≤g.2-1)∧(e.2.length:Int)=g.1-1∧e.2.all isW=true
theorem ytu {g:dG} {l:List dW}:yaH g l=true↔(∀e∈l,ySb g e)∧l.Pairwise (fun x y=>x.1<y.1):=by
 have bad: ∀i,yf2 g l i=false↔ySb g (nth l i (0,[]))∧(0<i→(nth l ((i-1:Nat):Int) (0,[])).1<(nth l i (0,[])).1):=by
  intro i;unfold yf2 ySb;simp only[Bool.or_eq_false_iff,Bool.not_eq_false',bne_eq_false_iff_eq,Bool.and_eq_true,Bool.and_eq_false_iff,decide_eq_false_iff_not,zj7];constructor
  ·rintro⟨h1,h2,h3,h4⟩
   refine⟨⟨h1,h2,h3⟩,fun h0=> ?_⟩;rcases h4 with h4 | h4
   ·exact absurd h0 h4
   ·have:=mt zk2 (by rw[h4]; simp: ¬leb (nth l i (0,[])).1 (nth l ((i-1:Nat):Int) (0,[])).1=true)
    omega
  ·rintro⟨⟨h1,h2,h3⟩,h4⟩
   refine⟨h1,h2,h3,?_⟩;by_cases h0:0<i
   ·exact .inr (zk1 (by have:=h4 h0; omega))
   ·exact .inl h0
 unfold yaH;simp only[Bool.not_eq_true',List.any_eq_false,List.mem_range,Bool.not_eq_true,bad];constructor
 ·intro h
  refine⟨fun e he=> ?_,?_⟩
  ·obtain⟨i,hi,rfl⟩:=List.getElem_of_mem he
   have:=(h i hi).1;rwa[zkS,zkJ hi]at this
  ·rw[List.pairwise_iff_getElem]
   have step: ∀(d i:Nat) (hi:i<l.length) (hj:i+d+1<l.length),l[i].1<l[i+d+1].1:=by
    intro d
    induction d with
    | zero =>
     intro i hi hj;have:=(h (i+1) hj).2 (by omega);rwa[Nat.add_sub_cancel,zkS,zkS,zkJ hi,zkJ hj]at this
    | succ d ih =>
     intro i hi hj;have h1:=ih i hi (by omega);have:=(h (i+d+1+1) hj).2 (by omega);rw[Nat.add_sub_cancel,zkS,zkS,zkJ (show i+d+1<l.length by omega),zkJ (show i+d+1+1<l.length from hj)]at this;exact Int.lt_trans h1 this
   intro i j hi hj hij;have:=step (j-i-1) i hi (by omega);have e:i+(j-i-1)+1=j:=by omega
   simp only[e]at this;exact this
 ·rintro⟨h1,h2⟩ i hi
  rw[List.pairwise_iff_getElem]at h2;refine⟨by rw[zkS,zkJ hi]; exact h1 _ (List.getElem_mem hi),fun h0=> ?_⟩;rw[zkS,zkS,zkJ hi,zkJ (show i-1<l.length by omega)];exact h2 (i-1) i (by omega) hi (by omega)
theorem yQe {g:dG} {l:List dW} (k:Nat) (h:yaH g l=true):yaH g (yFh l k)=true:=by
 rw[ytu]at h ⊢
 have hs:(yFh l k).Sublist l:=by
  unfold yFh;have:(l.take k++l.drop (k+1)).Sublist (l.take k++l.drop k):=List.Sublist.append_left (by rw[← List.drop_drop]; exact List.drop_sublist _ _) _;rwa[List.take_append_drop]at this
 exact⟨fun e he=>h.1 e (hs.subset he),h.2.sublist hs⟩
theorem yS0 (e:dW): ∀(l acc:List dW),l.foldl (ybV e) (true,acc)=(true,acc++l.filter (fun x=>x.1 !=e.1))
 | [],acc=>by simp
 | x::t,acc=>by
  rw[List.foldl_cons];have:ybV e (true,acc) x=(true,acc++(bif x.1 !=e.1 then[x]else[])):=rfl;rw[this,yS0 e t,List.filter_cons];cases x.1 !=e.1<;>simp
theorem yUy {e:dW} {l:List dW} (h:l.Pairwise (fun x y=>x.1<y.1)):yEX l e=l.filter (fun x=>ltb x.1 e.1)++e::l.filter (fun x=>ltb e.1 x.1):=by
 have: ∀(l acc:List dW),l.Pairwise (fun x y=>x.1<y.1)→(bif(l.foldl (ybV e) (false,acc)).1 then(l.foldl (ybV e) (false,acc)).2 else(l.foldl (ybV e) (false,acc)).2++ [e])=acc++(l.filter (fun x=>ltb x.1 e.1)++e::l.filter (fun x=>ltb e.1 x.1)):=by
  intro l
  induction l with
  | nil=>intro acc _; simp
  | cons x t ih =>
   intro acc h;obtain⟨hx,ht⟩:=List.pairwise_cons.1 h;rw[List.foldl_cons];by_cases hle:e.1≤x.1
   ·have h1:ybV e (false,acc) x=(true,(acc++ [e])++(bif x.1 !=e.1 then[x]else[])):=by
     unfold ybV; rw[zk2 hle]; rfl
    have h2:t.filter (fun x=>x.1 !=e.1)=t:=List.filter_eq_self.2 (fun y hy=>bne_iff_ne.2 (by have:=hx y hy; omega));have h3:t.filter (fun x=>ltb x.1 e.1)= []:=List.filter_eq_nil_iff.2 (fun y hy=>by rw[zk3 (by have:=hx y hy; omega)]; simp);have h4:t.filter (fun x=>ltb e.1 x.1)=t:=List.filter_eq_self.2 (fun y hy=>zky (by have:=hx y hy; omega));rw[h1,yS0,h2,List.filter_cons,List.filter_cons,h3,h4,zk3 (show e.1≤x.1 by omega)];by_cases he:x.1=e.1
    ·rw[show(x.1 !=e.1)=false from bne_eq_false_iff_eq.2 he,zk3 (show x.1≤e.1 by omega)]; simp
    ·rw[show(x.1 !=e.1)=true from bne_iff_ne.2 he,zky (show e.1<x.1 by omega)]; simp
   ·have h1:ybV e (false,acc) x=(false,acc++ [x]):=by
     unfold ybV; rw[zk1 (show x.1<e.1 by omega),show(x.1 !=e.1)=true from bne_iff_ne.2 (by omega)]; rfl
    rw[h1,ih _ ht,List.filter_cons,List.filter_cons,zky (show x.1<e.1 by omega),zk3 (show x.1≤e.1 by omega)];simp
 have:=this l [] h;rw[List.nil_append]at this;exact this
theorem yQf {g:dG} {l:List dW} {e:dW} (h:yaH g l=true) (he:ySb g e):yaH g (yEX l e)=true:=by
 rw[ytu]at h ⊢;rw[yUy h.2];refine⟨fun x hx=> ?_,?_⟩
 ·rcases List.mem_append.1 hx with h1 | h1
  ·exact h.1 x (List.mem_filter.1 h1).1
  ·rcases List.mem_cons.1 h1 with rfl | h1
   ·exact he
   ·exact h.1 x (List.mem_filter.1 h1).1
 ·rw[List.pairwise_append,List.pairwise_cons]
  refine⟨h.2.filter _,⟨fun y hy=>zka.1 (List.mem_filter.1 hy).2,h.2.filter _⟩,fun x hx y hy=> ?_⟩;have h1:=zka.1 (List.mem_filter.1 hx).2;rcases List.mem_cons.1 hy with rfl | hy
  ·exact h1
  ·exact Int.lt_trans h1 (zka.1 (List.mem_filter.1 hy).2)
theorem ytv {g:dG} {l:List dW} (h:yaH g l=true) (hg:yd g=true):l.length≤8:=by
 rw[ytu]at h;have hg:=yl.1 hg
 have:=yFe (l:=l.map (fun e=>e.1)) (lo:=0) (n:=g.2) (by rw[List.pairwise_map]; exact h.2) (fun x hx=>by
  obtain⟨e,he,rfl⟩:=List.mem_map.1 hx
  have:=(h.1 e he).1; omega) (by omega)
 rw[List.length_map]at this;omega
theorem ySO {a:dA} (r:dN) (h:yae a):yae (yJ a r) :=yAn (yi2 (P:=yae) (one:=ybd r) (yml r) (fun _ _ h hi=>yyG h (zkR hi)) _ a (Nat.le_refl _) h)
theorem yUX {a:dA} (r:dN) (h:yhh a):yhh (yJ a r) :=yAj (yi2 (P:=yhh) (one:=ybd r) (yml r) (fun _ _ h _=>yCo h _ _ _) _ a (Nat.le_refl _) h)
theorem yQm {a:dA} (s:Int) (d:List Int) (h:yae a):yae (yB a s d) :=
 yi2 (P:=yae) (one:=yaW (yg a.2.1 s) a.2.1.1 s d) (ytb _ _ _ _) (fun b i h hi=>by
  unfold yaW;cases ybR b i s
  ·exact h
  ·exact yyG h (zkR hi)) _ a (Nat.le_refl _) h
theorem yUp {a:dA} (s:Int) (d:List Int) (h:yhh a):yhh (yB a s d) :=
 yi2 (P:=yhh) (one:=yaW (yg a.2.1 s) a.2.1.1 s d) (ytb _ _ _ _) (fun b i h hi=>by
  unfold yaW;cases ybR b i s
  ·exact h
  ·exact yCo h _ _ _) _ a (Nat.le_refl _) h
theorem yV6 {k:Int} {a:dA} (r:dN) (h:Wk k a):Wk k (yJ a r):=ywV (ybe _ _) (ySO r h.2.1) (yUX r h.2.2.1) h
theorem yVI {k:Int} {a:dA} (s:Int) (d:List Int) (h:Wk k a):Wk k (yB a s d):=ywV (ytt _ _ _) (yQm s d h.2.1) (yUp s d h.2.2.1) h
theorem yVh {k:Int} {a:dA} (h:Wk k a) (h1:a.2.2.2.2.2.1<60000) (h2:a.2.2.2.2.2.1-a.2.2.2.2.2.2.1≤3):Wk k (yU a):=by
 obtain⟨⟨c1,c2,c3,c4,c5,c6,c7,c8,c9,c10,c11⟩,g2,g3,g4,g5⟩:=h;have e:i64.wrap (a.2.2.2.2.2.1+1)=a.2.2.2.2.2.1+1:=wr (by omega) (by omega);refine⟨⟨c1,c2,c3,c4,c5,c6,c7,⟨?_,?_⟩,?_,c10,c11⟩,g2,g3,g4,g5⟩
 ·show a.2.2.2.2.2.2.1≤i64.wrap (a.2.2.2.2.2.1+1); omega
 ·show i64.wrap (a.2.2.2.2.2.1+1)≤60000; omega
 ·show i64.wrap (a.2.2.2.2.2.1+1)≤a.2.2.2.2.2.2.1+4; omega
theorem yhj {a b:dA} (h:yo a=yo b):a.2.2.2.2.2.1=b.2.2.2.2.2.1:=congrArg (fun x=>x.2.2.2.2.1) h
theorem yQd {a b:dA} (h:yo a=yo b):a.2.2.2.2.2.2.1=b.2.2.2.2.2.2.1:=congrArg (fun x=>x.2.2.2.2.2.1) h
theorem yLk {a:dA} (h:yhh a):yo (yR a)=yo (yaj (yaV a)):=by
 rw[yLl h,yle];have:=ycA a;unfold yo at this ⊢;simp only[Prod.mk.injEq]at this;obtain⟨h1,h2,h3,h4,h5,h6,h7,h8,h9⟩:=this;unfold yaj yaV;simp only[h1,h2,h3,h4,h5,h7,h8,h9]
theorem yV4 {k:Int} {a:dA} (h:Wk k a) (hk:k+1≤60000):Wk (k+1) (ym a)∧(ym a).2.2.2.2.2.1=a.2.2.2.2.2.1∧(ym a).2.2.2.2.2.1-(ym a).2.2.2.2.2.2.1≤3:=by
 have c:=h.1;unfold yaw at c;unfold ym;rw[wr (by omega) (by omega)];cases h4:leb 4 (a.2.2.2.2.2.1-a.2.2.2.2.2.2.1)
 ·refine⟨ydh h (by omega),rfl,?_⟩
  have: ¬(4≤a.2.2.2.2.2.1-a.2.2.2.2.2.2.1):=fun g=>by rw[zk2 g]at h4; cases h4
  show a.2.2.2.2.2.1-a.2.2.2.2.2.2.1≤3; omega
 ·have e1:(yR a).2.2.2.2.2.1=a.2.2.2.2.2.1:=(yhj (yLk h.2.2.1)).trans rfl
  have e2:(yR a).2.2.2.2.2.2.1=a.2.2.2.2.2.1:=(yQd (yLk h.2.2.1)).trans rfl;rw[cond_true];exact⟨yS9 h hk,e1,by omega⟩
theorem yTd {k:Int} {a:dA} (s:Int) (d:List Int) (h:Wk k a) (hs:a.2.2.2.2.2.1<60000) (hk:k+1≤60000):Wk (k+1) (yH a s d).2∧(yH a s d).1=0:=by
 obtain⟨h1,h2,h3⟩:=yV4 h hk;have h4:=yV6 ((ym a).2.2.2.2.2.1,s,d) h1;have e1:=yhj (ybe (ym a) ((ym a).2.2.2.2.2.1,s,d));have e2:=yQd (ybe (ym a) ((ym a).2.2.2.2.2.1,s,d));unfold yH;generalize yJ (ym a) ((ym a).2.2.2.2.2.1,s,d)=R at h4 e1 e2 ⊢;have h5:=yVI s d (yVh h4 (by omega) (by omega));generalize yB (yU R) s d=Q at h5 ⊢;rw[h1.2.2.1.1,h4.2.2.1.1,h5.2.2.1.1];exact⟨h5,rfl⟩
theorem yHw {k:Int} {a:dA} {l:List dW} (h:Wk k a) (hd:yaH a.2.1 l=true):Wk k (yy4 a l):=by
 obtain⟨⟨c1,c2,c3,c4,c5,c6,c7,c8,c9,c10,c11⟩,g2,g3,g4,g5⟩:=h;exact⟨⟨c1,c2,hd,c4,c5,c6,c7,c8,c9,c10,c11⟩,g2,g3,g4,g5⟩
theorem yAR (a:dA) (s:Int) (d:List Int):(yH a s d).2.2.1=a.2.1:=by
 unfold yH;have h2:=(yaC (ybe (ym a) ((ym a).2.2.2.2.2.1,s,d))).trans (yFf a);generalize yJ (ym a) ((ym a).2.2.2.2.2.1,s,d)=R at h2 ⊢;have h3:=(yaC (ytt (yU R) s d)).trans (show(yU R).2.1=a.2.1 from h2);generalize yB (yU R) s d=Q at h3 ⊢;cases yb (ym a)
 ·cases yb R
  ·exact h3
  ·exact h2
 ·exact yFf a
theorem yTa {k:Int} {a:dA} (s:Int) (h:Wk k a) (hk:k+1≤60000):Wk (k+1) (yaT a s).2:=by
 unfold yaT;cases ltb (yaa a.2.2.2.2.2.2.2.2.1 s) 0
 ·generalize hD:(nth a.2.2.2.2.2.2.2.2.1 (yaa a.2.2.2.2.2.2.2.2.1 s) (0,[])).2=D
  cases hc:(yD a s D !=0)
  ·have hz:=ytp (bne_eq_false_iff_eq.1 hc)
   obtain⟨h1,h2⟩:=yTd s D h hz.2.2.2.2.2.2.1 hk;rw[show((yH a s D).1==0)=true from beq_iff_eq.2 h2];exact yHw h1 (by rw[yAR]; exact yQe _ h.1.2.2.1)
  ·exact ydh h (by omega)
 ·exact ydh h (by omega)
theorem yTb {k:Int}: ∀(n i:Nat) (j:Int) (a:dA),Wk j a→j+n≤k→k≤60000→Wk k (goE ysz (fun b=>((0:Int),b)) n i a).2
 | 0,_,j,a,h,h1,_=>ydh h (by omega)
 | n+1,i,j,a,h,h1,h2=>by
  have h3:=yTa (nth a.2.2.2.2.2.2.2.2.1 0 (0,[])).1 h (by omega);unfold goE ysz;cases((yaT a (nth a.2.2.2.2.2.2.2.2.1 0 (0,[])).1).1 !=0)
  ·exact yTb n (i+1) (j+1) _ h3 (by omega) h2
  ·exact ydh h3 (by omega)
theorem yV2 {k:Int} {a:dA} (h:Wk k a) (hk:k+8≤60000):Wk (k+8) (yOx a).2:=by
 have:=ytv h.1.2.2.1 h.1.1;exact yTb _ 0 k a h (by omega) hk
theorem yV7 {k:Int} {a:dA} {b n:Int} (h:Wk k a) (hb:ykF a.2.1 b=true) (hn:isW n=true):Wk k (yy5 a b n).2:=by
 unfold yy5;cases hs:(ycp a (ycY a.2.1 b)).2
 ·exact h
 ·have hstr:=yA9 hb
  have hl:=yvx (yV3 h) hstr hs;refine yHw h (yQf h.1.2.2.1 ⟨(yah.1 hstr).2,by rw[List.length_set]; exact hl,yP5 ?_ hn⟩);unfold ycp;cases hk:leb 0 (yaa a.2.2.2.2.2.2.2.2.1 (ycY a.2.1 b))
  ·rw[h.2.2.2.1]; exact yDN _ _
  ·have:=(yoq (d:=((0:Int),([]:List Int))) hk).1
   exact ywU (P:=fun e:dW=>e.2.all isW=true) this (fun e he=>((ytu.1 h.1.2.2.1).1 e he).2.2)
def yCL (a:dA) (s:Int) (d:List Int):dA×Int:=bif yD a s d !=0 then(a,yD a s d)else((yH a s d).2,(yH a s d).1)
theorem yUf (a:dA) (s:Int) (d:List Int):(yH a s d).1=bif yb (yH a s d).2 then 6 else 0:=by
 unfold yH;generalize ym a=C;generalize yJ C (C.2.2.2.2.2.1,s,d)=R;generalize yB (yU R) s d=Q;rcases Bool.eq_false_or_eq_true (yb C)with h | h
 ·rw[h,cond_true]
  exact(congrArg (fun x=>bif x then(6:Int)else 0) h).symm
 ·rw[h,cond_false]
  rcases Bool.eq_false_or_eq_true (yb R)with h2 | h2
  ·rw[h2,cond_true]
   exact(congrArg (fun x=>bif x then(6:Int)else 0) h2).symm
  ·rw[h2,cond_false]
theorem yUI {k:Int} {a b:dA} (h:Wk k a) (ht:Turned a b) (hk:k+8≤60000):Wk (k+8) b:=by
 cases ht with
 | same=>exact ydh h (by omega)
 | put b x hb hx=>exact ydh (yV7 h hb hx) (by omega)
 | flush s=>exact ydh (yTa s h (by omega)) (by omega)
 | all=>exact yV2 h hk
 | fail m hl hm=>exact ydh (yVJ h hl hm (by omega)) (by omega)
 | spare hl _=>exact ydh (yVi h hl (by omega)) (by omega)
 | step hl _ hb=>exact ydh (yVK h hl hb) (by omega)
 | check=>exact ydh (yS9 h (by omega)) (by omega)
 | spoil m s _ hm _ _=>exact ydh (yTc h hm) (by omega)
structure Ix (k:Int) (V:Int→Int→Int) (a:dA):Prop where
 xc:yaw a
 xk:yae a
 xu:yb a=false
 xb:a.2.2.2.2.2.2.2.2.2.2.2=false
 xg:a.2.2.2.2.2.2.2.1≤k
 xs:a.2.2.2.2.2.1≤k
 xe:EvV a.2.1 V
 xv:yCc V a
 xn: ∀i,0≤i→i<a.2.1.1→((yi a i).2.1.length:Int)≤1+(bif i==a.2.2.2.1 then a.2.2.2.2.1 else 0)
theorem yBJ {k:Int} {V:Int→Int→Int} {a:dA} (h:Ix k V a):ya2 a=true:=yFd.2 ⟨h.xc,h.xk⟩
theorem ydD {k j:Int} {V:Int→Int→Int} {a:dA} (h:Ix k V a) (hj:k≤j):Ix j V a:=⟨h.xc,h.xk,h.xu,h.xb,Int.le_trans h.xg hj,Int.le_trans h.xs hj,h.xe,h.xv,h.xn⟩
def yAV (S:Int) (m x:dM):Prop:=(x.2.2.1=false→m.2.2.1=false∧ ∀k,6≤k→k<6+S→yh5 x k=false→yh5 m k=false∧yjQ x k=yjQ m k)
theorem yAo (S:Int) (m:dM):yAV S m m:=fun h=>⟨h,fun _ _ _ hb=>⟨hb,rfl⟩⟩
theorem yL7 {S:Int} {m x y:dM} (h:yAV S m x) (g:yAV S x y):yAV S m y:=fun hy=>by
 obtain⟨h1,h2⟩:=g hy;obtain⟨h3,h4⟩:=h h1;exact⟨h3,fun k k0 k1 hb=>⟨(h4 k k0 k1 (h2 k k0 k1 hb).1).1,(h2 k k0 k1 hb).2.trans (h4 k k0 k1 (h2 k k0 k1 hb).1).2⟩⟩
theorem yCq {S:Int} {m:dM} (h:yu m=true):yAV S m (yr m):=fun hf=>by
 rw[(yiG m).2]at hf;exact⟨hf,fun k k0 k1 hb=>⟨by rw[yQh]at hb; exact hb,yUn h hf (by omega)⟩⟩
theorem ySS {S n:Int} {s:List Int} {m:dM} (hn:n<6):yAV S m (yf0 n s m):=fun hf=>by
 unfold yf0 at hf ⊢;cases hm:m.2.2.1
 ·refine⟨rfl,fun k k0 k1 hb=> ?_⟩
  rw[cond_false]at hb ⊢;cases hc:ya9 m n s
  ·unfold yX at hb ⊢
   rw[hc]at hb ⊢; exact⟨hb,rfl⟩
  ·rw[yti hc,show(k !=n)=true from bne_iff_ne.2 (by omega),Bool.and_true]at hb
   rw[yAf hc,show(n==k)=false from beq_eq_false_iff_ne.2 (by omega)];exact⟨hb,rfl⟩
 ·rw[hm]at hf
  rw[cond_true,hm]at hf; cases hf
theorem yAm (n:Int) (s:List Int) (m:dM):(yf0 n s m).2.2.1=m.2.2.1:=by
 unfold yf0;cases hm:m.2.2.1
 ·show(yX m n s).1.2.2.1=false
  rw[(yuh m n s).2]; exact hm
 ·exact hm
theorem yE8 {V:Int→Int→Int} {a b:dA} (hg:b.2.1=a.2.1) (hl: ∀i s,0≤i→i<a.2.1.1→0≤s→yK b.2.2.2.1 b.2.2.2.2.1 i s (yi b i)=true→(i !=a.2.2.2.1||ltb s a.2.2.2.2.1)=true∧yAV a.2.1.2 (yi a i) (yi b i)) (h:yCc V a):yCc V b:=fun i s i0 i1 s0 s1 hh=>by
 rw[hg]at i1 s1;unfold yG at hh;rw[Bool.and_eq_true,Bool.not_eq_true']at hh;obtain⟨h1,h2⟩:=hl i s i0 i1 s0 hh.1
 have hf:(yi b i).2.2.1=false:=by
  have:=hh.1;simp only[yK,Bool.and_eq_true,Bool.not_eq_true']at this; exact this.1
 obtain⟨h3,h4⟩:=h2 hf;obtain⟨h5,h6⟩:=h4 (s+6) (by omega) (by omega) hh.2;rw[h6];exact h i s i0 i1 s0 s1 (by unfold yG yK; rw[h3,h1,h5]; rfl)
theorem yUD {V:Int→Int→Int} {a b:dA} (hc:yo b=yo a) (hl: ∀i,0≤i→i<a.2.1.1→yAV a.2.1.2 (yi a i) (yi b i)) (h:yCc V a):yCc V b :=
 yE8 (yaC hc) (fun i s i0 i1 s0 hh=>⟨by
  rw[ycm hc,yaS hc]at hh
  simp only[yK,Bool.and_eq_true]at hh; exact hh.2,hl i i0 i1⟩) h
theorem yFl {k:Int} {V:Int→Int→Int} {a b:dA} (hc:yo b=yo a) (hk:yae b) (hu:yb b=false) (hl: ∀i,0≤i→i<a.2.1.1→yAV a.2.1.2 (yi a i) (yi b i)∧(yi b i).2.1.length≤(yi a i).2.1.length) (h:Ix k V a):Ix k V b:=by
 refine⟨yFg hc h.xc,hk,hu,(yHX hc).trans h.xb,by rw[yya hc]; exact h.xg,by rw[yhj hc]; exact h.xs,by rw[yaC hc]; exact h.xe,yUD hc (fun i i0 i1=>(hl i i0 i1).1) h.xv,fun i i0 i1=> ?_⟩;rw[yaC hc]at i1;rw[ycm hc,yaS hc];have:=h.xn i i0 i1;have:=(hl i i0 i1).2;omega
theorem yxG {g:Int→dM→dM} {a r:dA} (h:Adv g a r a.2.2.1.length) (hu:yb r=false) {i:Int} (i0:0≤i) (i1:i<(a.2.2.1.length:Int)):yi r i=g i (yi a i):=by
 obtain⟨_,_,k,h1,h2,h3⟩:=h;rw[h2 i i0,h3 hu,zky i1]; rfl
theorem yzm {a:dA} (hu:yb (yq a)=false) {i:Int} (i0:0≤i) (i1:i<(a.2.2.1.length:Int)):yi (yq a) i=yr (yi a i):=by
 cases hd:yb a
 ·exact yxG (yVc hd) hu i0 i1
 ·rw[yAP hd]at hu; rw[hd]at hu; cases hu
theorem yTP {a:dA} (hu:yb (yq a)=false):yb a=false:=by
 cases hd:yb a
 ·rfl
 ·rw[yAP hd]at hu; rw[hd]at hu; cases hu
theorem yHo {m:dM} (h:yu m=true):(yr m).2.1.length≤m.2.1.length:=by
 unfold yr;rw[h];cases m.2.2.1
 ·exact Nat.zero_le _
 ·exact Nat.le_refl _
theorem yTG {k:Int} {V:Int→Int→Int} {a:dA} (h:Ix k V a) (hu:yb (yq a)=false):Ix k V (yq a) :=
 yFl (ycA a) (yAn h.xk) hu (fun i i0 i1=>by
  obtain⟨d1,_,_⟩:=yl9 h.xk i0 i1;rw[yzm hu i0 (by have:=h.xk.1.2; omega)]
  exact⟨yCq d1,yHo d1⟩) h
theorem yVD {a:dA} (hu:yb (yab a)=false):yb ((List.range a.2.2.1.length).foldl yY (yaj a))=false∧yb a=false:=by
 have h1:=yTP hu;refine⟨h1,?_⟩;cases hd:yb a
 ·rfl
 ·rw[ytI (one:=yY) (fun _ _ h=>ysP h _ _ _) _ (yaj a) hd]at h1
  exact(hd.symm.trans h1)
theorem yIR {a:dA} (hu:yb (yab a)=false) {i:Int} (i0:0≤i) (i1:i<(a.2.2.1.length:Int)):yi (yab a) i=yr (yL1 (yaj a) i (yi a i)):=by
 obtain⟨h1,h2⟩:=yVD hu;have hl:((List.range a.2.2.1.length).foldl yY (yaj a)).2.2.1.length=a.2.2.1.length:=yop (one:=yY) (fun _ _=>yph _ _ _ _) _ (yaj a);unfold yab at hu ⊢;rw[yzm hu i0 (by omega)];exact congrArg yr (yxG (a:=yaj a) (yU6 (a:=yaj a) h2) h1 i0 i1)
theorem yFk {n:Int} {s:List Int} {m:dM} (h:yu m=true):yu (yf0 n s m)=true:=by
 unfold yf0;cases m.2.2.1
 ·exact yTe _ _ h
 ·exact h
theorem yAi {n:Int} {s:List Int} {m:dM} (h:yu m=true):(yr (yf0 n s m)).2.1.length≤m.2.1.length:=by
 cases hf:m.2.2.1
 ·rw[(yCg (yFk h) ((yAm n s m).trans hf)).1]; exact Nat.zero_le _
 ·have e:yf0 n s m=m:=by unfold yf0; rw[hf]; rfl
  rw[e]; exact yHo h
theorem yTN {q:Int} (h:0≤q):2≤yN q∧yN q<6∧yN q=2+q % 4:=by
 unfold yN;rw[zk3 h,cond_false,Int.tmod_eq_emod_of_nonneg h];have:=Int.emod_nonneg q (show(4:Int)≠0 by omega);have:=Int.emod_lt_of_pos q (show(0:Int)<4 by omega);rw[wr (by omega) (by omega)]; omega
theorem yS5 {g:Int} (h:0≤g):0≤g.tmod 2∧g.tmod 2<2:=by
 rw[Int.tmod_eq_emod_of_nonneg h]; omega
theorem yOy {a b:dA} (h:yo a=yo b):a.2.2.2.2.2.2.1=b.2.2.2.2.2.2.1:=congrArg (fun x=>x.2.2.2.2.2.1) h
theorem yOH {k:Int} {V:Int→Int→Int} {a:dA} (h:Ix k V a) (hk:k+1≤60000) (hu:yb (yab a)=false):Ix (k+1) V (yab a):=by
 have c:=h.xc;unfold yaw at c;have hgk:=h.xg;have hsk:=h.xs;have e:i64.wrap (a.2.2.2.2.2.2.2.1+1)=a.2.2.2.2.2.2.2.1+1:=wr (by omega) (by omega)
 have hG:Ix (k+1) V (yaj a):=by
  obtain⟨⟨c1,c2,c3,c4,c5,c6,c7,c8,c9,c10,c11⟩,g2,g3,g4,g5,g6,g7,g8,g9⟩:=h;refine⟨⟨c1,c2,c3,c4,c5,c6,c7,c8,c9,?_,?_⟩,g2,g3,g4,?_,?_,g7,g8,g9⟩
  ·show 0≤i64.wrap (a.2.2.2.2.2.2.2.1+1); omega
  ·show i64.wrap (a.2.2.2.2.2.2.2.1+1)≤_; omega
  ·show i64.wrap (a.2.2.2.2.2.2.2.1+1)≤_; omega
  ·show a.2.2.2.2.2.1≤k+1; omega
 refine yFl (a:=yaj a) (yle a) (yQn h.xk) hu (fun i i0 i1=> ?_) hG;have i1':i<a.2.1.1:=i1;obtain⟨d1,_,_⟩:=yl9 h.xk i0 i1';rw[yIR hu i0 (by have:=h.xk.1.2; omega)]
 have hn:(yaj a).2.2.2.2.2.2.2.1.tmod 2<6:=by
  show(i64.wrap (a.2.2.2.2.2.2.2.1+1)).tmod 2<6;have:=yS5 (g:=i64.wrap (a.2.2.2.2.2.2.2.1+1)) (by omega);omega
 exact⟨yL7 (ySS hn) (yCq (yFk d1)),yAi d1⟩
theorem yQl {k:Int} {V:Int→Int→Int} {a:dA} (h:Ix k V a):Ix k V (yaV a):=by
 obtain⟨⟨c1,c2,c3,c4,c5,c6,c7,c8,c9,c10,c11⟩,g2,g3,g4,g5,g6,g7,g8,g9⟩:=h;refine⟨⟨c1,c2,c3,c4,c5,c6,⟨?_,?_⟩,⟨Int.le_refl _,c8.2⟩,?_,c10,c11⟩,g2,g3,g4,g5,g6,g7,g8,g9⟩
 ·show 0≤a.2.2.2.2.2.1; omega
 ·show a.2.2.2.2.2.1≤60000; omega
 ·show a.2.2.2.2.2.1≤a.2.2.2.2.2.1+4; omega
theorem yCf {a:dA} (hu:yb (yR a)=false):yb (yq a)=false∧yR a=yab (yaV (yq a)):=by
 unfold yR at hu ⊢;cases hd:yb (yq a)
 ·exact⟨rfl,rfl⟩
 ·rw[hd]at hu; exact absurd (hd.symm.trans hu) (by simp)
theorem ySJ {k:Int} {V:Int→Int→Int} {a:dA} (h:Ix k V a) (hk:k+1≤60000) (hu:yb (yR a)=false):Ix (k+1) V (yR a):=by
 obtain⟨h1,h2⟩:=yCf hu;rw[h2]at hu ⊢;exact yOH (yQl (yTG h h1)) hk hu
theorem yVY {a:dA} {r:dN} (hu:yb (yJ a r)=false):yb ((List.range a.2.2.1.length).foldl (ybd r) a)=false∧yb a=false:=by
 have h1:=yTP hu;refine⟨h1,?_⟩;cases hd:yb a
 ·rfl
 ·rw[ytI (one:=ybd r) (fun _ _ h=>ysP h _ _ _) _ a hd]at h1
  exact(hd.symm.trans h1)
theorem yFo {a:dA} {r:dN} (hu:yb (yJ a r)=false) {i:Int} (i0:0≤i) (i1:i<(a.2.2.1.length:Int)):yi (yJ a r) i=yr (yf0 (yN r.1) (yjF r) (yi a i)):=by
 obtain⟨h1,h2⟩:=yVY hu;have hl:((List.range a.2.2.1.length).foldl (ybd r) a).2.2.1.length=a.2.2.1.length:=yop (yml r) _ a;unfold yJ at hu ⊢;rw[yzm hu i0 (by omega)];exact congrArg yr (yxG (yVF r h2) h1 i0 i1)
theorem yUt {k:Int} {V:Int→Int→Int} {a:dA} {r:dN} (h:Ix k V a) (hr:0≤r.1) (hu:yb (yJ a r)=false):Ix k V (yJ a r)∧ ∀i,0≤i→i<a.2.1.1→(yi (yJ a r) i).2.2.1=false→(yi (yJ a r) i).2.1= []:=by
 refine⟨yFl (ybe a r) (ySO r h.xk) hu (fun i i0 i1=> ?_) h,fun i i0 i1 hf=> ?_⟩
 ·obtain⟨d1,_,_⟩:=yl9 h.xk i0 i1
  rw[yFo hu i0 (by have:=h.xk.1.2; omega)];exact⟨yL7 (ySS (yTN hr).2.1) (yCq (yFk d1)),yAi d1⟩
 ·obtain⟨d1,_,_⟩:=yl9 h.xk i0 i1
  rw[yFo hu i0 (by have:=h.xk.1.2; omega)]at hf ⊢;rw[(yiG _).2]at hf;exact(yCg (yFk d1) hf).1
theorem ySL {k:Int} {V:Int→Int→Int} {a:dA} (h:Ix k V a) (h1:a.2.2.2.2.2.1<60000) (h2:a.2.2.2.2.2.1-a.2.2.2.2.2.2.1≤3):Ix (k+1) V (yU a):=by
 obtain⟨⟨c1,c2,c3,c4,c5,c6,c7,c8,c9,c10,c11⟩,g2,g3,g4,g5,g6,g7,g8,g9⟩:=h;have e:i64.wrap (a.2.2.2.2.2.1+1)=a.2.2.2.2.2.1+1:=wr (by omega) (by omega);refine⟨⟨c1,c2,c3,c4,c5,c6,c7,⟨?_,?_⟩,?_,c10,c11⟩,g2,g3,g4,?_,?_,g7,g8,g9⟩
 ·show a.2.2.2.2.2.2.1≤i64.wrap (a.2.2.2.2.2.1+1); omega
 ·show i64.wrap (a.2.2.2.2.2.1+1)≤60000; omega
 ·show i64.wrap (a.2.2.2.2.2.1+1)≤a.2.2.2.2.2.2.1+4; omega
 ·show a.2.2.2.2.2.2.2.1≤k+1; omega
 ·show i64.wrap (a.2.2.2.2.2.1+1)≤k+1; omega
def yP7 (V:Int→Int→Int) (g:dG) (s:Int) (d:List Int):Int→Int→Int:=fun t i=>bif t==s then ybX (yg g s) g.1 (yai d) d i else V t i
theorem yTX {N p x:Int} {d:List Int} (h:3≤N∧N≤5) (hp:0≤p∧p≤N-1) (hd:(d.length:Int)=N-1):((List.range N.toNat).map (fun(i:Nat)=>ybX p N x d i)).Perm (x::d):=by
 have:N=3∨N=4∨N=5:=by omega
 rcases this with rfl | rfl | rfl
 ·match d,hd with
  | [a,b],_ =>
   have:p=0∨p=1∨p=2:=by omega
   rcases this with rfl | rfl | rfl<;>simp[ybX,nth,List.range_succ,List.perm_iff_count,List.count_cons]<;>(intro z; omega)
  | [],hd=>simp at hd
  | [_],hd=>simp at hd
  | _::_::_::_,hd=>simp only[List.length_cons]at hd; omega
 ·match d,hd with
  | [a,b,c],_ =>
   have:p=0∨p=1∨p=2∨p=3:=by omega
   rcases this with rfl | rfl | rfl | rfl<;>simp[ybX,nth,List.range_succ,List.perm_iff_count,List.count_cons]<;>(intro z; omega)
  | [],hd=>simp at hd
  | [_],hd=>simp at hd
  | [_,_],hd=>simp at hd
  | _::_::_::_::_,hd=>simp only[List.length_cons]at hd; omega
 ·match d,hd with
  | [a,b,c,e],_ =>
   have:p=0∨p=1∨p=2∨p=3∨p=4:=by omega
   rcases this with rfl | rfl | rfl | rfl | rfl<;>simp[ybX,nth,List.range_succ,List.perm_iff_count,List.count_cons]<;>(intro z; omega)
  | [],hd=>simp at hd
  | [_],hd=>simp at hd
  | [_,_],hd=>simp at hd
  | [_,_,_],hd=>simp at hd
  | _::_::_::_::_::_,hd=>simp only[List.length_cons]at hd; omega
theorem yiK (x:Int) (l:List Int):yeb (x::l)=bv x ^^^ yeb l:=by
 have fo: ∀(l:List Int) (v:BitVec 64),l.foldl (fun v x=>v ^^^ bv x) v=v ^^^ yeb l:=by
  intro l
  induction l with
  | nil=>intro v; show v=v ^^^ 0#64; rw[BitVec.xor_zero]
  | cons y t ih =>
   intro v;unfold yeb;rw[List.foldl_cons,List.foldl_cons,ih,ih (0#64 ^^^ bv y),BitVec.zero_xor,BitVec.xor_assoc]
 show l.foldl _ (0#64 ^^^ bv x)=_;rw[fo,BitVec.zero_xor]
theorem yUM {l m:List Int} (h:l.Perm m):yeb l=yeb m:=by
 induction h with
 | nil=>rfl
 | cons x _ ih=>rw[yiK,yiK,ih]
 | swap x y l=>rw[yiK,yiK,yiK,yiK,← BitVec.xor_assoc,BitVec.xor_comm (bv y),BitVec.xor_assoc]
 | trans _ _ h1 h2=>exact h1.trans h2
theorem yUL (d:List Int):yeb (yai d::d)=0#64:=by rw[yiK,ylJ,ysA,BitVec.xor_self]
theorem yTW {N p:Int} {d:List Int} (h:3≤N∧N≤5) (hp:0≤p∧p≤N-1) (hd:(d.length:Int)=N-1):yai ((List.range N.toNat).map (fun(i:Nat)=>ybX p N (yai d) d i))=0:=by
 rw[ylJ,yUM (yTX h hp hd),yUL]; rfl
theorem yDQ {N p i:Int} {d:List Int} (hd:d.all isW=true):isW (ybX p N (yai d) d i)=true:=by
 unfold ybX;cases(i==p)
 ·exact yPg hd
 ·exact yQy hd
theorem yVt {V:Int→Int→Int} {g:dG} {s:Int} {d:List Int} (h:EvV g V) (hs:yO g s=true) (hl:(d.length:Int)=g.1-1) (hd:d.all isW=true):EvV g (yP7 V g s d):=by
 have h1:=yah.1 hs;have hg:=yl.1 h1.1;refine⟨fun t t0 t1=> ?_,fun t i t0 t1 i0 i1=> ?_⟩
 ·unfold ye3 yP7
  cases ht:(t==s)
  ·exact h.ev t t0 t1
  ·exact yTW hg.1 (yiI hs) hl
 ·unfold yP7
  cases ht:(t==s)
  ·exact h.ew t i t0 t1 i0 i1
  ·exact yDQ hd
theorem yCp {L B p N s i:Int} {d:List Int} {S:Int} {m:dM} (k:Int) (hk:k≠yy s):(yhG L B p N s d i m).2.2.1=m.2.2.1∧yh5 (yhG L B p N s d i m) k=yh5 m k∧yjQ (yhG L B p N s d i m) k=yjQ m k:=by
 unfold yhG;cases hl:yK L B i s m
 ·exact⟨rfl,rfl,rfl⟩
 ·refine⟨(yuh _ _ _).2,?_⟩
  rw[cond_true];cases hc:ya9 m (yy s) [ybX p N (yai d) d i]
  ·unfold yX; rw[hc]; exact⟨rfl,rfl⟩
  ·rw[yti hc,yAf hc,show(k !=yy s)=true from bne_iff_ne.2 hk,show(yy s==k)=false from beq_eq_false_iff_ne.2 (fun e=>hk e.symm),Bool.and_true]
   exact⟨rfl,rfl⟩
theorem yTn (L B p N s:Int) (d:List Int) (i:Int) (m:dM):(yhG L B p N s d i m).2.1.length≤m.2.1.length+1∧(m.2.2.1=true→yhG L B p N s d i m=m):=by
 unfold yhG;cases hl:yK L B i s m
 ·exact⟨Nat.le_succ _,fun _=>rfl⟩
 ·simp only[yK,Bool.and_eq_true,Bool.not_eq_true']at hl
  refine⟨?_,fun h=>by rw[hl.1]at h; cases h⟩;rw[cond_true];unfold yX;cases ya9 m (yy s) [ybX p N (yai d) d i]
  ·exact Nat.le_succ _
  ·show(m.2.1++ [(yy s,[ybX p N (yai d) d i])]).length≤_; rw[List.length_append]; simp only[List.length_cons,List.length_nil]; omega
theorem yVx {k:Int} {V:Int→Int→Int} {a:dA} {s:Int} {d:List Int} (h:Ix k V a) (hs:yO a.2.1 s=true) (hl:(d.length:Int)=a.2.1.1-1) (hd:d.all isW=true)
  (hz: ∀i,0≤i→i<a.2.1.1→(yi a i).2.2.1=false→(yi a i).2.1= []) (hu:yb (yB a s d)=false):Ix k (yP7 V a.2.1 s d) (yB a s d):=by
 have hc:=ytt a s d;have h1:=yah.1 hs;have hg:=yl.1 h1.1;have hlen:=h.xk.1.2;have hdsk: ∀i,0≤i→i<a.2.1.1→yi (yB a s d) i=yhG a.2.2.2.1 a.2.2.2.2.1 (yg a.2.1 s) a.2.1.1 s d i (yi a i):=fun i i0 i1=>yxG (ySE s d h.xu) hu i0 (by omega)
 refine⟨yFg hc h.xc,yQm s d h.xk,hu,(yHX hc).trans h.xb,by rw[yya hc]; exact h.xg,by rw[yhj hc]; exact h.xs,by rw[yaC hc]; exact yVt h.xe hs hl hd,fun i t i0 i1 t0 t1 hh=> ?_,fun i i0 i1=> ?_⟩
 ·rw[yaC hc]at i1 t1
  obtain⟨d1,d2,d3⟩:=yl9 h.xk i0 i1;unfold yG at hh;rw[ycm hc,yaS hc,hdsk i i0 i1,Bool.and_eq_true,Bool.not_eq_true']at hh;rw[hdsk i i0 i1];have hda:=yqE (s:=s) h1.2.1 (by omega);unfold yP7;by_cases ht:t=s
  ·subst ht
   rw[beq_self_eq_true,cond_true]
   have hlv:yK a.2.2.2.1 a.2.2.2.2.1 i t (yi a i)=true:=by
    have:=hh.1;unfold yK at this ⊢;rw[(yCp (S:=0) (-1) (by omega)).1]at this;exact this
   have hf:(yi a i).2.2.1=false:=by
    simp only[yK,Bool.and_eq_true,Bool.not_eq_true']at hlv; exact hlv.1
   unfold yhG;rw[hlv,cond_true,yAf (yAZ d1 hf (by rw[hda]; exact zj6.2 (by omega)) (yAM.2 ⟨by simp,fun x hx=> ?_⟩) (by rw[hz i i0 i1 hf]; decide)),hda,beq_self_eq_true]; rfl;rw[List.mem_singleton.1 hx];exact ysI.1 (yDQ hd)
  ·rw[show(t==s)=false from beq_eq_false_iff_ne.2 ht]
   obtain⟨e1,e2,e3⟩:=yCp (L:=a.2.2.2.1) (B:=a.2.2.2.2.1) (p:=yg a.2.1 s) (N:=a.2.1.1) (s:=s) (i:=i) (d:=d) (S:=0) (m:=yi a i) (t+6) (by omega);rw[e3];refine h.xv i t i0 i1 t0 t1 ?_;unfold yG;rw[e2]at hh;have h2:=hh.1;unfold yK at h2 ⊢;rw[e1]at h2;rw[h2,hh.2]; rfl
 ·rw[yaC hc]at i1
  rw[ycm hc,yaS hc,hdsk i i0 i1];obtain⟨g1,g2⟩:=yTn a.2.2.2.1 a.2.2.2.2.1 (yg a.2.1 s) a.2.1.1 s d i (yi a i);have c:=h.xc;unfold yaw at c;cases hf:(yi a i).2.2.1
  ·rw[hz i i0 i1 hf]at g1
   simp only[List.length_nil]at g1;cases(i==a.2.2.2.1)
   ·simp only[cond_false]; omega
   ·simp only[cond_true]; omega
  ·rw[g2 hf]
   exact h.xn i i0 i1
theorem yUs {k:Int} {V:Int→Int→Int} {a:dA} (h:Ix k V a) (hk:k+1≤60000) (hu:yb (ym a)=false):Ix (k+1) V (ym a)∧(ym a).2.2.2.2.2.1=a.2.2.2.2.2.1∧(ym a).2.2.2.2.2.1-(ym a).2.2.2.2.2.2.1≤3:=by
 have c:=h.xc;unfold yaw at c
 have e0:ym a=bif leb 4 (a.2.2.2.2.2.1-a.2.2.2.2.2.2.1)then yR a else a:=by
  unfold ym;rw[wr (by omega) (by omega)]
 rw[e0]at hu ⊢;cases h4:leb 4 (a.2.2.2.2.2.1-a.2.2.2.2.2.2.1)
 ·refine⟨ydD h (by omega),rfl,?_⟩
  have: ¬(4≤a.2.2.2.2.2.1-a.2.2.2.2.2.2.1):=fun g=>by rw[zk2 g]at h4; cases h4
  show a.2.2.2.2.2.1-a.2.2.2.2.2.2.1≤3; omega
 ·rw[h4]at hu
  simp only[cond_true]at hu ⊢;have hi:=ySJ h hk hu;obtain⟨_,h2⟩:=yCf hu;have e:=yle (yaV (yq a));have e1:(yR a).2.2.2.2.2.1=a.2.2.2.2.2.1:=by rw[h2]; exact(yhj e).trans (show(yaj (yaV (yq a))).2.2.2.2.2.1=_ from yhj (a:=yq a) (b:=a) (ycA a))
  have e2:(yR a).2.2.2.2.2.2.1=a.2.2.2.2.2.1:=by rw[h2]; exact(yOy e).trans (show(yaj (yaV (yq a))).2.2.2.2.2.2.1=_ from yhj (a:=yq a) (b:=a) (ycA a))
  exact⟨hi,e1,by omega⟩
theorem yIQ {k:Int} {V:Int→Int→Int} {a:dA} {s:Int} {d:List Int} (h:Ix k V a) (hs:yO a.2.1 s=true) (hl:(d.length:Int)=a.2.1.1-1) (hd:d.all isW=true) (hq:a.2.2.2.2.2.1<60000) (hk:k+1≤60000)
  (hu:yb (yH a s d).2=false):Ix (k+2) (yP7 V a.2.1 s d) (yH a s d).2∧(yH a s d).1=0:=by
 unfold yH at hu ⊢;cases hc:yb (ym a)
 ·obtain⟨h1,h2,h3⟩:=yUs h hk hc
  have eg:(ym a).2.1=a.2.1:=yFf a;rw[hc]at hu;simp only[cond_false]at hu ⊢;have c:=h.xc;unfold yaw at c;cases hr:yb (yJ (ym a) ((ym a).2.2.2.2.2.1,s,d))
  ·rw[hr]at hu
   simp only[cond_false]at hu ⊢;obtain⟨h4,h5⟩:=yUt (r:=((ym a).2.2.2.2.2.1,s,d)) h1 (by show 0≤(ym a).2.2.2.2.2.1; omega) hr;have e1:=yhj (ybe (ym a) ((ym a).2.2.2.2.2.1,s,d));have e2:=yOy (ybe (ym a) ((ym a).2.2.2.2.2.1,s,d));have e3:=(yaC (ybe (ym a) ((ym a).2.2.2.2.2.1,s,d))).trans eg;rw[eg]at h5;generalize yJ (ym a) ((ym a).2.2.2.2.2.1,s,d)=R at h4 h5 e1 e2 e3 hu ⊢;have h6:=ySL h4 (by omega) (by omega);have e4:(yU R).2.1=a.2.1:=e3;have h7:=yVx (s:=s) (d:=d) h6 (by rw[e4]; exact hs) (by rw[e4]; exact hl) hd (fun i i0 i1 hf=>h5 i i0 (by rw[e4]at i1; exact i1) hf) hu;rw[hu,e4]at *;exact⟨ydD h7 (by omega),rfl⟩
  ·rw[hr]at hu
   exact absurd (hr.symm.trans hu) (by simp)
 ·rw[hc]at hu
  exact absurd (hc.symm.trans hu) (by simp)
theorem yHp {k:Int} {V:Int→Int→Int} {a:dA} {l:List dW} (h:Ix k V a) (hd:yaH a.2.1 l=true):Ix k V (yy4 a l):=by
 obtain⟨⟨c1,c2,c3,c4,c5,c6,c7,c8,c9,c10,c11⟩,g2,g3,g4,g5,g6,g7,g8,g9⟩:=h;exact⟨⟨c1,c2,hd,c4,c5,c6,c7,c8,c9,c10,c11⟩,g2,g3,g4,g5,g6,g7,g8,g9⟩
theorem yIP {k:Int} {V:Int→Int→Int} {a:dA} (s:Int) (h:Ix k V a) (hk:k+1≤60000) (hu:yb (yaT a s).2=false): ∃V',Ix (k+2) V' (yaT a s).2:=by
 unfold yaT at hu ⊢;cases h0:ltb (yaa a.2.2.2.2.2.2.2.2.1 s) 0
 ·rw[h0]at hu
  generalize (nth a.2.2.2.2.2.2.2.2.1 (yaa a.2.2.2.2.2.2.2.2.1 s) (0,[])).2=D at hu ⊢;cases hc:(yD a s D !=0)
  ·rw[hc]at hu
   obtain⟨_,z1,z2,_,z4,_,z6,_⟩:=ytp (bne_eq_false_iff_eq.1 hc);simp only[cond_false]at hu ⊢;cases hw:((yH a s D).1==0)
   ·rw[hw]at hu
    obtain⟨h1,h2⟩:=yIQ h z4 z1 z2 z6 hk hu;exact⟨_,h1⟩
   ·rw[hw]at hu
    obtain⟨h1,h2⟩:=yIQ h z4 z1 z2 z6 hk hu;exact⟨_,yHp h1 (by rw[yAR]; exact yQe _ h.xc.2.2.1)⟩
  ·exact⟨V,ydD h (by omega)⟩
 ·exact⟨V,ydD h (by omega)⟩
theorem yTm {a:dA} (s:Int) (h:yb a=true):(yaT a s).2=a:=by
 unfold yaT;cases ltb (yaa a.2.2.2.2.2.2.2.2.1 s) 0
 ·cases hc:(yD a s (nth a.2.2.2.2.2.2.2.2.1 (yaa a.2.2.2.2.2.2.2.2.1 s) (0,[])).2 !=0)
  ·have:=(ytp (bne_eq_false_iff_eq.1 hc)).2.2.2.1
   rw[h]at this; cases this
  ·rfl
 ·rfl
theorem yP9: ∀(n i:Nat) {a:dA},yb a=true→(goE ysz (fun b=>((0:Int),b)) n i a).2=a
 | 0,_,_,_=>rfl
 | n+1,i,a,h=>by
  unfold goE ysz;have e:=yTm (nth a.2.2.2.2.2.2.2.2.1 0 (0,[])).1 h;cases((yaT a (nth a.2.2.2.2.2.2.2.2.1 0 (0,[])).1).1 !=0)
  ·simp only[cond_false,e]
   exact yP9 n (i+1) h
  ·exact e
theorem ySK {k:Int}: ∀(n i:Nat) (j:Int) (V:Int→Int→Int) (a:dA),Ix j V a→j+2*n≤k→k≤60000→yb (goE ysz (fun b=>((0:Int),b)) n i a).2=false→ ∃V',Ix k V' (goE ysz (fun b=>((0:Int),b)) n i a).2
 | 0,_,j,V,a,h,h1,_,_=>⟨V,ydD h (by omega)⟩
 | n+1,i,j,V,a,h,h1,h2,hu=>by
  unfold goE ysz at hu ⊢;cases hc:((yaT a (nth a.2.2.2.2.2.2.2.2.1 0 (0,[])).1).1 !=0)
  ·rw[hc]at hu
   simp only[cond_false]at hu ⊢;have hu:yb (goE ysz (fun b=>((0:Int),b)) n (i+1) (yaT a (nth a.2.2.2.2.2.2.2.2.1 0 (0,[])).1).2).2=false:=hu
   have hf:yb (yaT a (nth a.2.2.2.2.2.2.2.2.1 0 (0,[])).1).2=false:=by
    cases hd:yb (yaT a (nth a.2.2.2.2.2.2.2.2.1 0 (0,[])).1).2
    ·rfl
    ·rw[yP9 n (i+1) hd]at hu; exact hd.symm.trans hu
   obtain⟨V1,h3⟩:=yIP (nth a.2.2.2.2.2.2.2.2.1 0 (0,[])).1 h (by omega) hf;exact ySK n (i+1) (j+2) V1 _ h3 (by omega) h2 hu
  ·rw[hc]at hu
   simp only[cond_true]at hu ⊢;obtain⟨V1,h3⟩:=yIP (nth a.2.2.2.2.2.2.2.2.1 0 (0,[])).1 h (by omega) hu;exact⟨V1,ydD h3 (by omega)⟩
theorem yVT {k:Int} {V:Int→Int→Int} {a:dA} (h:Ix k V a) (hk:k+16≤60000) (hu:yb (yOx a).2=false): ∃V',Ix (k+16) V' (yOx a).2:=by
 have:=ytv h.xc.2.2.1 h.xc.1;exact ySK _ 0 k V a h (by omega) hk hu
theorem yVV {k:Int} {V:Int→Int→Int} {a:dA} {b n:Int} (h:Ix k V a) (hb:ykF a.2.1 b=true) (hn:isW n=true):Ix k V (yy5 a b n).2:=by
 unfold yy5;cases hs:(ycp a (ycY a.2.1 b)).2
 ·exact h
 ·have hstr:=yA9 hb
  have hl:=yvx (yBJ h) hstr hs;refine yHp h (yQf h.xc.2.2.1 ⟨(yah.1 hstr).2,by rw[List.length_set]; exact hl,yP5 ?_ hn⟩);unfold ycp;cases hk:leb 0 (yaa a.2.2.2.2.2.2.2.2.1 (ycY a.2.1 b))
  ·rw[h.xb]; exact yDN _ _
  ·have:=(yoq (d:=((0:Int),([]:List Int))) hk).1
   exact ywU (P:=fun e:dW=>e.2.all isW=true) this (fun e he=>((ytu.1 h.xc.2.2.1).1 e he).2.2)
theorem ySF {a:dA} {m i:Int} {x:dM} (l:Int) (t:Int×Int×Int×Int×List dW×Int×Bool×Bool) (hm:inb m a.2.2.1.length=true) (hi:0≤i):yi (a.1,a.2.1,a.2.2.1.set m.toNat x,l,t) i=bif m==i then x else yi a i:=yyN hm hi
theorem yUm {a:dA} {m:Int} (hl:a.2.2.2.1= -1∨a.2.2.2.1=m) (hm:inb m a.2.2.1.length=true) (i s:Int) (i0:0≤i) (s0:0≤s) (hh:yK m 0 i s (yi (ydC a m) i)=true):(i !=a.2.2.2.1||ltb s a.2.2.2.2.1)=true∧i≠m∧yi (ydC a m) i=yi a i:=by
 have e:yi (ydC a m) i=bif m==i then yjI (yi a m)else yi a i:=ySF m _ hm i0;by_cases hi:m=i
 ·subst hi
  rw[e,beq_self_eq_true]at hh;simp only[yK,Bool.and_eq_true,Bool.not_eq_true',cond_true]at hh;have:=hh.1;cases this
 ·rw[show(m==i)=false from beq_eq_false_iff_ne.2 hi]at e
  refine⟨?_,fun e=>hi e.symm,e⟩;rw[show(i !=a.2.2.2.1)=true from bne_iff_ne.2 (by omega)]; rfl
theorem yTq {k m:Int} {V:Int→Int→Int} {a:dA} (h:Ix k V a) (hl:a.2.2.2.1= -1∨a.2.2.2.1=m) (hm:inb m a.2.2.1.length=true):Ix k V (ydC a m):=by
 have hmi:=zj6.1 hm
 have hv:yCc V (ydC a m):=yE8 (a:=a) (b:=ydC a m) rfl (fun i s i0 i1 s0 hh=>by
  obtain⟨h1,h2,h3⟩:=yUm hl hm i s i0 s0 hh;rw[h3]
  exact⟨h1,yAo _ _⟩) h.xv
 have hn: ∀i,0≤i→i<a.2.1.1→((yi (ydC a m) i).2.1.length:Int)≤1+(bif i==m then 0 else 0):=fun i i0 i1=>by
  have e:yi (ydC a m) i=bif m==i then yjI (yi a m)else yi a i:=ySF m _ hm i0;rw[e];by_cases hi:m=i
  ·rw[show(m==i)=true from beq_iff_eq.2 hi]
   show(([]:List dW).length:Int)≤_;rw[List.length_nil];cases(i==m)<;>decide
  ·rw[show(m==i)=false from beq_eq_false_iff_ne.2 hi,cond_false]
   have:=h.xn i i0 i1;rw[show(i==a.2.2.2.1)=false from beq_eq_false_iff_ne.2 (by omega)]at this;simp only[cond_false]at this;cases(i==m)<;>simp only[cond_true,cond_false]<;>omega
 obtain⟨⟨c1,c2,c3,c4,c5,c6,c7,c8,c9,c10,c11⟩,⟨⟨g1,g2⟩,g3⟩,f,b,t,t2,t3,_,_⟩:=h;refine⟨⟨c1,c2,c3,⟨?_,?_⟩,⟨Int.le_refl _,by show(0:Int)≤a.2.1.2; omega⟩,fun e=>rfl,c7,c8,c9,c10,c11⟩,⟨⟨?_,?_⟩,g3⟩,f,b,t,t2,t3,hv,hn⟩
 ·show -1≤m; omega
 ·show m≤a.2.1.1-1; omega
 ·show yCr m a.2.2.2.2.2.2.2.2.2.2.2 a.2.1.2 (a.2.2.1.set m.toNat (yjI (nth a.2.2.1 m yf)))
  refine ytV (fun i hi=> ?_) (fun hi=> ?_)
  ·obtain⟨e1,e2,e3⟩:=g1 i hi
   refine⟨e1,e2,fun e=> ?_⟩;rcases e3 e with e | e
   ·exact .inl (by omega)
   ·exact .inr e
  ·have:=g1 m.toNat hi
   rw[Int.toNat_of_nonneg hmi.1]at this;exact⟨yTF this.1,this.2.1,fun _=> .inl (Int.toNat_of_nonneg hmi.1)⟩
 ·show((a.2.2.1.set m.toNat (yjI (nth a.2.2.1 m yf))).length:Int)=a.2.1.1
  rw[List.length_set]; exact g2
theorem yVu {k m:Int} {V:Int→Int→Int} {a:dA} (h:Ix k V a) (hl:a.2.2.2.1= -1∨a.2.2.2.1=m) (hk:k+1≤60000):yma a m=yab (ydC a m):=by
 have:=h.xg;unfold yma;rw[h.xu,h.xb,zky (show a.2.2.2.2.2.2.2.1<60000 by omega)];rcases hl with e | e
 ·rw[show(a.2.2.2.1== -1)=true from beq_iff_eq.2 e]; rfl
 ·rw[show(a.2.2.2.1==m)=true from beq_iff_eq.2 e,Bool.or_true]; rfl
theorem yVy {k m:Int} {V:Int→Int→Int} {a:dA} (h:Ix k V a) (hl:a.2.2.2.1= -1∨a.2.2.2.1=m) (hm:inb m a.2.2.1.length=true) (hk:k+1≤60000) (hu:yb (yma a m)=false):Ix (k+1) V (yma a m):=by
 rw[yVu h hl hk]at hu ⊢;exact yOH (yTq h hl hm) hk hu
theorem ytU {S:Int} (h:1≤S∧S≤8):ybS (6+S)=(List.replicate (6+S).toNat [],[],false,[]):=by
 unfold ybS;rw[zk2 (show 1≤6+S by omega),zk2 (show 6+S≤20 by omega)]; rfl
theorem yTr {k:Int} {V:Int→Int→Int} {a:dA} (h:Ix k V a) (hm:inb a.2.2.2.1 a.2.2.1.length=true):Ix k V (ybz a):=by
 have hg:=yl.1 h.xc.1;have e: ∀i,0≤i→yi (ybz a) i=bif a.2.2.2.1==i then ybS (6+a.2.1.2)else yi a i:=fun i i0=>ySF _ _ hm i0
 have hv:yCc V (ybz a):=yE8 (a:=a) (b:=ybz a) rfl (fun i s i0 i1 s0 hh=>by
  have hh:yK a.2.2.2.1 0 i s (yi (ybz a) i)=true:=hh;rw[e i i0]at hh ⊢;simp only[yK,Bool.and_eq_true,Bool.or_eq_true,bne_iff_ne,ne_eq,zka]at hh;have hne:i≠a.2.2.2.1:=hh.2.resolve_right (by omega);rw[show(a.2.2.2.1==i)=false from beq_eq_false_iff_ne.2 (fun e=>hne e.symm),show(i !=a.2.2.2.1)=true from bne_iff_ne.2 hne]
  exact⟨rfl,yAo _ _⟩) h.xv
 have hn: ∀i,0≤i→i<a.2.1.1→((yi (ybz a) i).2.1.length:Int)≤1+(bif i==a.2.2.2.1 then 0 else 0):=fun i i0 i1=>by
  rw[e i i0];by_cases hi:a.2.2.2.1=i
  ·rw[show(a.2.2.2.1==i)=true from beq_iff_eq.2 hi,cond_true,ytU hg.2]
   show(([]:List dW).length:Int)≤_;rw[List.length_nil];cases(i==a.2.2.2.1)<;>decide
  ·rw[show(a.2.2.2.1==i)=false from beq_eq_false_iff_ne.2 hi,cond_false]
   have:=h.xn i i0 i1;rw[show(i==a.2.2.2.1)=false from beq_eq_false_iff_ne.2 (fun e=>hi e.symm)]at this ⊢;exact this
 have hmi:=zj6.1 hm;obtain⟨⟨c1,c2,c3,c4,c5,c6,c7,c8,c9,c10,c11⟩,⟨⟨g1,g2⟩,g3⟩,f,b,t,t2,t3,_,_⟩:=h;refine⟨⟨c1,c2,c3,c4,⟨Int.le_refl _,by show(0:Int)≤a.2.1.2; omega⟩,fun e=>rfl,c7,c8,c9,c10,c11⟩,⟨⟨ytV g1 (fun hi=>⟨yQp (by omega) (by omega),?_,fun e=> ?_⟩),?_⟩,g3⟩,f,b,t,t2,t3,hv,hn⟩
 ·rw[ytU hg.2]
  show((List.replicate (6+a.2.1.2).toNat ([]:List Int)).length:Int)=6+a.2.1.2;rw[List.length_replicate]; omega
 ·rw[ytU hg.2]at e
  cases e
 ·show((a.2.2.1.set a.2.2.2.1.toNat (ybS (6+a.2.1.2))).length:Int)=a.2.1.1
  rw[List.length_set]; exact g2
theorem yU3 {k:Int} {V:Int→Int→Int} {a:dA} (h:Ix k V a) (hm:inb a.2.2.2.1 a.2.2.1.length=true) (hk:k+1≤60000) (hu:yb (yab (ybz a))=false):Ix (k+1) V (yab (ybz a)):=yOH (yTr h hm) hk hu
theorem yUb (S:Int) (m:dM) (n:Int):yAV S m (spoil m n):=by
 unfold spoil;cases(yu m&&(inb n m.1.length&& !(m.2.2.2.any (· ==n))))
 ·exact yAo _ _
 ·refine fun h=>⟨h,fun k k0 k1 hb=>⟨?_,rfl⟩⟩
  have hb:(yh9 m.2.2.2 n).any (· ==k)=false:=hb;show m.2.2.2.any (· ==k)=false;rw[List.any_eq_false]at hb ⊢;intro x hx hxk;have hxk':=beq_iff_eq.1 hxk;refine hb x ?_ hxk;unfold yh9;rw[List.mem_append,List.mem_cons,List.mem_filter,List.mem_filter];rcases Int.lt_trichotomy x n with h1 | h1 | h1
  ·exact .inl ⟨hx,zky h1⟩
  ·exact .inr (.inl h1)
  ·exact .inr (.inr ⟨hx,zky h1⟩)
theorem yTy (m:dM) (n:Int):(spoil m n).2.1=m.2.1:=by
 unfold spoil;cases(yu m&&(inb n m.1.length&& !(m.2.2.2.any (· ==n))))<;>rfl
theorem ySM {k m n:Int} {V:Int→Int→Int} {a:dA} (h:Ix k V a) (hm:inb m a.2.2.1.length=true):Ix k V (ycX a m (spoil (nth a.2.2.1 m yf) n)) :=
 yFl (a:=a) (b:=ycX a m (spoil (nth a.2.2.1 m yf) n)) rfl (ytc h.xk hm (fun g=>⟨yS4 n g.1,by rw[(yug _ _).1]; exact g.2.1,by rw[(yug _ _).2]; exact g.2.2⟩)) h.xu (fun i i0 i1=>by
  rw[yFj hm i0];by_cases hi:m=i
  ·subst hi
   rw[beq_self_eq_true,cond_true];exact⟨yUb _ _ _,by rw[yTy]; exact Nat.le_refl _⟩
  ·rw[show(m==i)=false from beq_eq_false_iff_ne.2 hi]
   exact⟨yAo _ _,Nat.le_refl _⟩) h
theorem yVz {k:Int} {V:Int→Int→Int} {a:dA} (h:Ix k V a) (hl:inb a.2.2.2.1 a.2.2.1.length=true) (hf:(nth a.2.2.1 a.2.2.2.1 yf).2.2.1=false) (hb:a.2.2.2.2.1<a.2.1.2) (hu:yb (ypk a).2=false):Ix k V (ypk a).2:=by
 have hmi:=zj6.1 hl;have hlen:=h.xk.1.2;have hg:=yl.1 h.xc.1;have c:=h.xc;unfold yaw at c;have hb0:0≤a.2.2.2.2.1:=by omega
 have hda:=yqE hb0 (by omega);have e:=yoG a a.2.2.2.1 (yy a.2.2.2.2.1) [nth (yP a a.2.2.2.2.1).1 a.2.2.2.1 0];have hkp:yae (yaX a):=yyG h.xk hl;have hd:=yFn (yy a.2.2.2.2.1) [nth (yP a a.2.2.2.2.1).1 a.2.2.2.1 0] h.xu hl;have e1:(yaX a).2.2.2.2.1=a.2.2.2.2.1:=yaS e;have e2:(yaX a).2.1=a.2.1:=yaC e;have e3:(yaX a).2.2.2.1=a.2.2.2.1:=ycm e;unfold ypk at hu ⊢;cases hw:(yP a a.2.2.2.2.1).2
 ·exact h
 ·rw[hw]at hu
  have hwv:=yNP h.xc.1 h.xk h.xe h.xv hb0 hb
  have hw1:(yP a a.2.2.2.2.1).1=ye3 V a.2.1.1 a.2.2.2.2.1:=by
   rw[hwv]at hw ⊢;cases hm:ydL (fun(i:Nat)=>yG a a.2.2.2.2.1 i) a.2.1.1.toNat
   ·rfl
   ·rw[hm]at hw; cases hw
  have hx:nth (yP a a.2.2.2.2.1).1 a.2.2.2.1 0=V a.2.2.2.2.1 a.2.2.2.1:=by rw[hw1]; exact yS8 V (by omega) (by omega)
  rw[hx]at hd e;have hst:yaX a=yce a a.2.2.2.1 (yy a.2.2.2.2.1) [V a.2.2.2.2.1 a.2.2.2.1]:=by unfold yaX; rw[hx]
  have hcc:yo (yaX a)=yo a:=by rw[hst]; exact e
  rw[← hst]at hd;generalize yaX a=R at *;simp only[cond_true]at hu ⊢;cases hr:yb R
  ·rw[hr]at hu
   obtain⟨_,_,⟨_,hdd⟩ | ⟨hdd,_⟩⟩:=hd
   ·obtain⟨d1,d2,d3⟩:=yl9 h.xk (i:=a.2.2.2.1) (by omega) (by omega)
    have hf':(yi a a.2.2.2.1).2.2.1=false:=hf;have hxw:=h.xe.ew a.2.2.2.2.1 a.2.2.2.1 hb0 hb (by omega) (by omega);have hcn:=h.xn a.2.2.2.1 (by omega) (by omega);rw[beq_self_eq_true,cond_true]at hcn;have hcw:ya9 (yi a a.2.2.2.1) (a.2.2.2.2.1+6) [V a.2.2.2.2.1 a.2.2.2.1]=true:=yAZ d1 hf' (zj6.2 (by omega)) (yAM.2 ⟨by simp,fun x hx=>by rw[List.mem_singleton.1 hx]; exact ysI.1 hxw⟩) (by omega);have e4:i64.wrap (R.2.2.2.2.1+1)=a.2.2.2.2.1+1:=by rw[e1]; exact wr (by omega) (by omega)
    have hRL:yi R a.2.2.2.1=(yX (yi a a.2.2.2.1) (a.2.2.2.2.1+6) [V a.2.2.2.2.1 a.2.2.2.1]).1:=by
     rw[hdd _ (by omega),beq_self_eq_true,cond_true,hda];unfold yf0;rw[hf']; rfl
    have hRo: ∀i,0≤i→i≠a.2.2.2.1→yi R i=yi a i:=fun i i0 hi=>by rw[hdd i i0,show(a.2.2.2.1==i)=false from beq_eq_false_iff_ne.2 (fun e=>hi e.symm)]; rfl
    have hco:=yFg hcc h.xc;refine⟨?_,hkp,hr,(yHX hcc).trans h.xb,by show R.2.2.2.2.2.2.2.1≤k; rw[yya hcc]; exact h.xg,by show R.2.2.2.2.2.1≤k; rw[yhj hcc]; exact h.xs,by show EvV R.2.1 V; rw[e2]; exact h.xe,?_,?_⟩
    ·obtain⟨c1,c2,c3,c4,c5,c6,c7,c8,c9,c10,c11⟩:=hco
     refine⟨c1,c2,c3,c4,⟨?_,?_⟩,fun e=> ?_,c7,c8,c9,c10,c11⟩
     ·show 0≤i64.wrap (R.2.2.2.2.1+1); omega
     ·show i64.wrap (R.2.2.2.2.1+1)≤R.2.1.2; rw[e4,e2]; omega
     ·have:R.2.2.2.1= -1:=e
      omega
    ·intro i t i0 i1 t0 t1 hh
     have i1:i<R.2.1.1:=i1;have t1:t<R.2.1.2:=t1;rw[e2]at i1 t1;unfold yG at hh;have hh:(yK R.2.2.2.1 (i64.wrap (R.2.2.2.2.1+1)) i t (yi R i)&& !(yh5 (yi R i) (t+6)))=true:=hh;show yjQ (yi R i) (t+6)= [V t i];rw[e3,e4]at hh;by_cases hi:i=a.2.2.2.1
     ·subst hi
      rw[hRL]at hh ⊢;rw[yAf hcw];by_cases ht:a.2.2.2.2.1+6=t+6
      ·rw[show(a.2.2.2.2.1+6==t+6)=true from beq_iff_eq.2 ht,show a.2.2.2.2.1=t by omega]; rfl
      ·rw[show(a.2.2.2.2.1+6==t+6)=false from beq_eq_false_iff_ne.2 ht,cond_false]
       refine h.xv _ t i0 i1 t0 t1 ?_;rw[yti hcw,show(t+6 !=a.2.2.2.2.1+6)=true from bne_iff_ne.2 (fun e=>ht e.symm),Bool.and_true,Bool.and_eq_true]at hh;have h2:=hh.1;simp only[yK,Bool.and_eq_true,Bool.or_eq_true,bne_self_eq_false,Bool.false_eq_true,false_or,zka]at h2;unfold yG yK;rw[hf',hh.2,zky (show t<a.2.2.2.2.1 by omega),Bool.or_true]; rfl
     ·rw[hRo i i0 hi]at hh ⊢
      refine h.xv i t i0 i1 t0 t1 ?_;rw[Bool.and_eq_true]at hh;have h2:=hh.1;simp only[yK,Bool.and_eq_true]at h2;unfold yG yK;rw[h2.1,hh.2,show(i !=a.2.2.2.1)=true from bne_iff_ne.2 hi]; rfl
    ·intro i i0 i1
     have i1:i<R.2.1.1:=i1;rw[e2]at i1;show((yi R i).2.1.length:Int)≤1+(bif i==R.2.2.2.1 then i64.wrap (R.2.2.2.2.1+1)else 0);rw[e3,e4];by_cases hi:i=a.2.2.2.1
     ·subst hi
      rw[hRL,yKu hcw,beq_self_eq_true,cond_true];show(((yi a a.2.2.2.1).2.1++ [(a.2.2.2.2.1+6,[V a.2.2.2.2.1 a.2.2.2.1])]).length:Int)≤_;rw[List.length_append];simp only[List.length_cons,List.length_nil];omega
     ·rw[hRo i i0 hi,show(i==a.2.2.2.1)=false from beq_eq_false_iff_ne.2 hi]
      have:=h.xn i i0 i1;rw[show(i==a.2.2.2.1)=false from beq_eq_false_iff_ne.2 hi]at this;exact this
   ·rw[hr]at hdd; cases hdd
  ·rw[hr]at hu
   exact absurd (hr.symm.trans hu) (by simp)
theorem yTt {id i:Int} {g:dG} (hg:yd g=true): ∀n:Nat,n≤g.2.toNat→ ∀k:Int,0≤k→nth ((List.range n).foldl ypg (yit id g i)).1 k []=bif leb 6 k&&ltb k (6+n)then[0]else bif k==0 then yx (ySV id g i)else[]:=by
 have hge:=yl.1 hg;intro n
 induction n with
 | zero =>
  intro _ k hk;show nth (yit id g i).1 k []=_;unfold yit;rw[ytU hge.2];have h0:inb 0 (List.replicate (6+g.2).toNat ([]:List Int)).length=true:=by rw[List.length_replicate]; exact zj6.2 (by omega)
  have:=yyN (x:=yx (ySV id g i)) (d:=([]:List Int)) h0 hk;rw[show(0:Int).toNat=0 from rfl]at this;rw[this]
  have e1:(leb 6 k&&ltb k (6+((0:Nat):Int)))=false:=by
   cases h:(leb 6 k&&ltb k (6+((0:Nat):Int)))
   ·rfl
   ·rw[Bool.and_eq_true,zj7,zka]at h; omega
  rw[e1,cond_false];by_cases h:k=0
  ·rw[show((0:Int)==k)=true from beq_iff_eq.2 h.symm,show(k==0)=true from beq_iff_eq.2 h]; rfl
  ·rw[show((0:Int)==k)=false from beq_eq_false_iff_ne.2 (fun e=>h e.symm),show(k==0)=false from beq_eq_false_iff_ne.2 h,cond_false,cond_false]
   unfold nth;rw[List.getD_eq_getElem?_getD,List.getElem?_replicate];split<;>rfl
 | succ n ih =>
  intro hn k hk;rw[List.range_succ,List.foldl_append,List.foldl_cons,List.foldl_nil]
  have hlen:((List.range n).foldl ypg (yit id g i)).1.length=(6+g.2).toNat:=by
   rw[yHr];show((ybS (6+g.2)).1.set 0 _).length=_;rw[List.length_set,ytU hge.2];show(List.replicate (6+g.2).toNat ([]:List Int)).length=_;rw[List.length_replicate]
  have h1:=ih (by omega) k hk;generalize (List.range n).foldl ypg (yit id g i)=M at h1 hlen ⊢;show nth (M.1.set (n+6) [0]) k []=_;have:=yyN (l:=M.1) (i:=((n+6:Nat):Int)) (x:= [0]) (d:=([]:List Int)) (zkR (by omega)) hk;rw[Int.toNat_natCast]at this;rw[this,h1];by_cases h:((n+6:Nat):Int)=k
  ·rw[show(((n+6:Nat):Int)==k)=true from beq_iff_eq.2 h,zk2 (show 6≤k by omega),zky (show k<6+((n+1:Nat):Int)by omega)]; rfl
  ·rw[show(((n+6:Nat):Int)==k)=false from beq_eq_false_iff_ne.2 h,cond_false,show ltb k (6+((n+1:Nat):Int))=ltb k (6+(n:Int))by rw[Bool.eq_iff_iff,zka,zka]; omega]
theorem yUV (g:dG):EvV g (fun _ _=>0):=by
 refine⟨fun s _ _=> ?_,fun _ _ _ _ _ _=>rfl⟩;unfold ye3;rw[ylJ]
 have: ∀l:List Nat,yeb (l.map (fun(_:Nat)=>(0:Int)))=0#64:=by
  intro l
  induction l with
  | nil=>rfl
  | cons x t ih=>rw[List.map_cons,yiK,ih]; decide
 rw[this]; rfl
theorem yVW {id:Int} {g:dG} (hg:yd g=true) (h1:1≤id) (h2:id≤60000) {i:Int} (i0:0≤i) (i1:i<g.1):yi (yjo id g) i=yC id g i:=by
 rw[yDJ hg h1 h2];show nth ((List.range g.1.toNat).map (fun(i:Nat)=>yC id g i)) i yf=_;unfold nth;rw[zkJ (by rw[List.length_map,List.length_range]; omega),List.getElem_map,List.getElem_range,Int.toNat_of_nonneg i0]
theorem yVU {id:Int} {g:dG} (hg:yd g=true) (h1:1≤id) (h2:id≤60000):Ix 0 (fun _ _=>0) (yjo id g):=by
 have hw:=yUF hg h1 h2;have hge:=yl.1 hg;have e:=yDJ hg h1 h2;have eg:(yjo id g).2.1=g:=by rw[e]
 have ed: ∀i,0≤i→i<g.1→yi (yjo id g) i=yC id g i:=fun i i0 i1=>yVW hg h1 h2 i0 i1
 refine⟨hw.1,hw.2.1,hw.2.2.1.1,hw.2.2.2.1,hw.2.2.2.2,by rw[e]; exact Int.le_refl _,yUV _,fun i s i0 i1 s0 s1 _=> ?_,fun i i0 i1=> ?_⟩
 ·rw[eg]at i1 s1
  rw[ed i i0 i1];obtain⟨_,_,n3⟩:=yCy id i hg;unfold yjQ;rw[n3];show nth (yC id g i).1 (s+6) []=_;unfold yC;rw[yTt hg g.2.toNat (Nat.le_refl _) (s+6) (by omega),zk2 (show 6≤s+6 by omega),zky (show s+6<6+(g.2.toNat:Int)by omega)]; rfl
 ·rw[eg]at i1
  rw[ed i i0 i1,(yCy id i hg).2.2,e];show((([]:List dW).length:Nat):Int)≤1+(bif i== -1 then 0 else 0);rw[List.length_nil];cases(i== -1)<;>decide
theorem yUu {k:Int} {V:Int→Int→Int} {a b:dA} (h:Ix k V a) (ht:Turned a b) (hk:k+16≤60000) (hu:yb b=false): ∃V',Ix (k+16) V' b:=by
 cases ht with
 | same=>exact⟨V,ydD h (by omega)⟩
 | put b x hb hx=>exact⟨V,ydD (yVV h hb hx) (by omega)⟩
 | flush s=>obtain⟨V',h'⟩:=yIP s h (by omega) hu; exact⟨V',ydD h' (by omega)⟩
 | all=>exact yVT h hk hu
 | fail m hl hm=>exact⟨V,ydD (yVy h (.inl hl) hm (by omega) hu) (by omega)⟩
 | spare hl _=>exact⟨V,ydD (yU3 h hl (by omega) hu) (by omega)⟩
 | step hl hf hb=>exact⟨V,ydD (yVz h hl hf hb hu) (by omega)⟩
 | check=>exact⟨V,ydD (ySJ h (by omega) hu) (by omega)⟩
 | spoil m s _ hm _ _=>exact⟨V,ydD (ySM h hm) (by omega)⟩
def ya3 (a:dA) (s:Int):Nat:=yeg (fun(i:Nat)=>yG a s i) a.2.1.1.toNat
theorem yU4 {k:Int} {V:Int→Int→Int} {a:dA} {s:Int} (h:Ix k V a) (s0:0≤s) (s1:s<a.2.1.2):yP a s=bif decide (ya3 a s<2)then(ye3 V a.2.1.1 s,true)else([],false):=by
 rw[yNP h.xc.1 h.xk h.xe h.xv s0 s1,(yL8 _ _).2];show(bif decide (2≤ya3 a s)then([],false)else(ye3 V a.2.1.1 s,true))=_;by_cases h2:ya3 a s<2
 ·rw[decide_eq_true h2,decide_eq_false (by omega)]; rfl
 ·rw[decide_eq_false h2,decide_eq_true (by omega)]; rfl
theorem yOG {k:Int} {V:Int→Int→Int} {a:dA} {s:Int} (h:Ix k V a) (s0:0≤s) (s1:s<a.2.1.2):yBK a s=(ya3 a s:Nat):=by
 unfold yBK ya3;rw[yBJ h,zk2 s0,zk2 (show s≤a.2.1.2-1 by omega)]
 have: ∀n,n≤a.2.1.1.toNat→yeg (fun(i:Nat)=>yn a i s) n=yeg (fun(i:Nat)=>yG a s i) n:=by
  intro n
  induction n with
  | zero=>intro _; rfl
  | succ n ih=>intro hn; rw[ye0,ye0,ih (by omega),(yAQ h.xc.1 h.xk h.xv (show(0:Int)≤(n:Int)by omega) (by omega) s0 s1).1]
 rw[this _ (Nat.le_refl _)]; rfl
def ydA (V:Int→Int→Int) (g:dG) (s:Int):List Int:=(List.range (g.1-1).toNat).map (fun(i:Nat)=>nth (ye3 V g.1 s) (yba g s i) 0)
theorem ySN {k:Int} {V:Int→Int→Int} {a:dA} {s:Int} (h:Ix k V a) (s0:0≤s) (s1:s<a.2.1.2):yO a.2.1 s=true:=yah.2 ⟨h.xc.1,s0,by omega⟩
theorem yL5 {k:Int} {V:Int→Int→Int} {a:dA} {s:Int} (h:Ix k V a) (s0:0≤s) (s1:s<a.2.1.2):yyb a s=bif decide (ya3 a s<2)then(ydA V a.2.1 s,true)else([],false):=by
 unfold yyb yta;rw[yBJ h,h.xb,ySN h s0 s1,yU4 h s0 s1];cases decide (ya3 a s<2)<;>rfl
theorem yTj (V:Int→Int→Int) (g:dG) (s:Int):(ydA V g s).length=(g.1-1).toNat:=by unfold ydA; rw[List.length_map,List.length_range]
def yVb (id:Int) (g:dG) (G T L B i:Int):dS:=(id,G,i,g.1,g.2,T,L,B)
def yVN (id n:Int) (v:List Int) (s:dS):Prop:=yUY v=(s,true)∧s.1=id∧s.2.1.tmod 2=n
def yTT (id:Int) (f:Int→List Int):Prop:= ∃n s,(n=0∨n=1)∧yVN id n (f n) s
structure Wsup (id:Int) (g:dG) (G T L B Lf Bf:Int) (f:Int→Int→List Int) (fl:Int→Bool):Prop where
 u0: ∀i,0≤i→i<g.1→yat (yVb id g G T L B i)=true
 u1: ∀i n s,0≤i→i<g.1→fl i=false→(n=0∨n=1)→yVN id n (f i n) s→s.2.2.1=i∧(s.2.1<G∨s=yVb id g G T L B i)
 u2: ∀i,0≤i→i<g.1→i≠Lf→fl i=false∧yTT id (f i)
 u3: ∃i,0≤i∧i<g.1∧fl i=false∧f i (G.tmod 2)=yx (yVb id g G T L B i)
 u4:(Lf=L∧Bf=B∧(Lf= -1∨(fl Lf=false∧yTT id (f Lf))))∨(0≤Lf∧Lf<g.1∧ ¬(fl Lf=false∧yTT id (f Lf))∧(L= -1∨L=Lf)∧Bf=0)
structure Wdat (g:dG) (T Q:Int) (R:Int→Int×List Int) (V:Int→Int→Int) (Lf Bf:Int) (f:Int→Int→List Int) (fl:Int→Bool) (bd:Int→Int→Bool):Prop where
 e:EvV g V
 q:0≤T∧T≤Q∧Q≤T+4∧Q≤60000
 d: ∀i s,0≤i→i<g.1→0≤s→s<g.2→fl i=false→(i≠Lf∨s<Bf)→bd i (s+6)=false→(∀q,T≤q→q<Q→(R q).1≠s)→f i (s+6)= [V s i]
 r: ∀q,T≤q→q<Q→ ∃i,0≤i∧i<g.1∧fl i=false∧f i (yN q)=yjF (q,R q)
 h: ∀i n r,0≤i→i<g.1→fl i=false→2≤n→n<6→yVR (f i n)=(r,true)→r.1<Q∧(T≤r.1→r.2=R r.1)
 v: ∀q,T≤q→q<Q→yO g (R q).1=true∧((R q).2.length:Int)=g.1-1∧(R q).2.all isW=true
 l: ∀q,T≤q→q<Q→(∀p,q<p→p<Q→(R p).1≠(R q).1)→ ∀i,0≤i→i<g.1→V (R q).1 i=ybX (yg g (R q).1) g.1 (yai (R q).2) (R q).2 i
 b: ∀i n,0≤i→i<g.1→fl i=false→bd i n=true→6≤n
def flA (a:dA) (i:Int):Bool:=(yi a i).2.2.1
def bdA (a:dA) (i n:Int):Bool:=yh5 (yi a i) n
def Ch (a:dA) (f:Int→Int→List Int):Prop:= ∀i n,0≤i→i<a.2.1.1→0≤n→yUO (yi a i) n (f i n)
structure Trn (n:Int) (v:Int→List Int) (a r:dA):Prop where
 g:r.2.1=a.2.1
 c: ∀f',Ch r f'→ ∃f,Ch a f∧ ∀i m,0≤i→i<a.2.1.1→0≤m→f' i m=f i m∨(m=n∧f' i m=v i)
 f: ∀i,0≤i→i<a.2.1.1→flA r i=flA a i
 b: ∀i m,0≤i→i<a.2.1.1→m≠n→bdA r i m=bdA a i m
 d: ∀i m,0≤i→i<a.2.1.1→bdA r i m=true→bdA a i m=true
def yV8 (a:dA):Prop:=(a.2.2.1.length:Int)=a.2.1.1∧ ∀i,0≤i→i<a.2.1.1→yu (yi a i)=true
def Al (L N:Int) (fl0 fl:Int→Bool) (Lf:Int):Prop:=(Lf=L∧ ∀i,0≤i→i<N→fl i=fl0 i)∨(0≤Lf∧Lf<N∧(L= -1∨L=Lf)∧ ∀i,0≤i→i<N→fl i=(fl0 i||i==Lf))
def Eq0 (a:dA) (fl:Int→Bool) (Lf:Int):Prop:=Lf=a.2.2.2.1∧ ∀i,0≤i→i<a.2.1.1→fl i=flA a i
def WW (K id:Int) (g:dG) (V:Int→Int→Int) (Lf:Int) (f:Int→Int→List Int) (fl:Int→Bool) (bd:Int→Int→Bool):Prop:= ∃(G T L B Q:Int) (R:Int→Int×List Int) (Bf:Int),G≤K∧Q≤K∧Wsup id g G T L B Lf Bf f fl∧Wdat g T Q R V Lf Bf f fl bd
structure Mk (a:dA):Prop where
 k:yV8 a
 g:yd a.2.1=true
 i:1≤a.1∧a.1≤60000
 l: -1≤a.2.2.2.1∧a.2.2.2.1≤a.2.1.1-1
 b:0≤a.2.2.2.2.1∧a.2.2.2.2.1≤a.2.1.2
 z:0≤a.2.2.2.1∨a.2.2.2.2.1=0
 t:0≤a.2.2.2.2.2.2.1∧a.2.2.2.2.2.2.1≤60000
 n:0≤a.2.2.2.2.2.2.2.1∧a.2.2.2.2.2.2.2.1<60000
def yWl (R:Int→Int×List Int) (B0:Int) (V:Int→Int→Int) (a:dA):Prop:=B0≤a.2.2.2.2.1∧ ∀f fl Lf,Ch a f→Al a.2.2.2.1 a.2.1.1 (flA a) fl Lf→ ∃Bf,((Eq0 a fl Lf→Bf=B0)∧(Eq0 a fl Lf→Lf≠ -1→fl Lf=false→yTT a.1 (f Lf)))∧Wsup a.1 a.2.1 a.2.2.2.2.2.2.2.1 a.2.2.2.2.2.2.1 a.2.2.2.1 B0 Lf Bf f fl∧Wdat a.2.1 a.2.2.2.2.2.2.1 a.2.2.2.2.2.1 R V Lf Bf f fl (bdA a)
def Rob (B0:Int) (V:Int→Int→Int) (a:dA):Prop:= ∃R,yWl R B0 V a
structure Nb (a:dA):Prop where
 n:a.2.2.2.1≠ -1→ ∀i s,0≤i→i<a.2.1.1→i≠a.2.2.2.1→0≤s→s<a.2.2.2.2.1→bdA a i (s+6)=false
 z:a.2.2.2.1≠ -1→flA a a.2.2.2.1=true→a.2.2.2.2.1=0
structure Lv (K:Int) (V:Int→Int→Int) (a:dA):Prop where
 x:Ix K V a
 r: ∃B0,Rob B0 V a
 n:Nb a
structure CoreEq (a b:dA):Prop where
 i:a.1=b.1
 g:a.2.1=b.2.1
 l:a.2.2.2.1=b.2.2.2.1
 u:a.2.2.2.2.1=b.2.2.2.2.1
 s:a.2.2.2.2.2.1=b.2.2.2.2.2.1
 t:a.2.2.2.2.2.2.1=b.2.2.2.2.2.2.1
 e:a.2.2.2.2.2.2.2.1=b.2.2.2.2.2.2.2.1
structure Fell (S:Int) (m:dM):Prop where
 ok:yu m=true
 len:(m.1.length:Int)=6+S
 cac:m.2.1= []
structure FellAll (g:dG) (l:List dM):Prop where
 n:(l.length:Int)=g.1
 f: ∀i,0≤i→i<g.1→Fell g.2 (nth l i yf)
def flF (l:List dM) (i:Int):Bool:=(nth l i yf).2.2.1
def bdF (l:List dM) (i n:Int):Bool:=yh5 (nth l i yf) n
structure Way (id:Int) (g:dG) (G T L B Q:Int) (R:Int→Int×List Int) (V:Int→Int→Int) (Lf Bf:Int) (l0:List dM) (a:dA):Prop where
 e1:a.1=id
 e2:a.2.1=g
 e3:a.2.2.2.1=Lf
 e4:a.2.2.2.2.1=Bf
 e6:a.2.2.2.2.2.2.1=T
 e7:a.2.2.2.2.2.2.2.1=G
 e8:a.2.2.2.2.2.2.2.2.1= []
 e9:a.2.2.2.2.2.2.2.2.2.2.2=false
 kp:yae a
 st: ∀f,Ch a f→Wsup id g G T L B Lf Bf f (flA a)∧Wdat g T Q R V Lf Bf f (flA a) (bdA a)
 fl: ∀i,0≤i→i<g.1→flA a i=flF l0 i
 bd: ∀i m,0≤i→i<g.1→6≤m→(bdA a i m=true→bdF l0 i m=true)∧(T=Q→bdA a i m=bdF l0 i m)
structure Rp (id:Int) (g:dG) (G T L B Q:Int) (R:Int→Int×List Int) (V:Int→Int→Int) (Lf Bf:Int) (l0:List dM) (q:Int) (a:dA):Prop where
 w:Way id g G T L B Q R V Lf Bf l0 a
 q0:T≤q
 q1:q≤Q
 s:a.2.2.2.2.2.1=q
 u:yb a=false
 c: ∀i,0≤i→i<g.1→(yi a i).2.1.length≤1
 v: ∀i s,0≤i→i<g.1→0≤s→s<g.2→yG a s i=true→(∀p,q≤p→p<Q→(R p).1≠s)→yjQ (yi a i) (s+6)= [V s i]
section
variable {id:Int} {g:dG} {G T L B Q:Int} {R:Int→Int×List Int} {V:Int→Int→Int} {Lf Bf:Int} {l0:List dM}
end
structure Back (K id:Int) (g:dG) (V:Int→Int→Int) (Lf:Int) (l:List dM) (x:dA):Prop where
 bi:x.1=id
 bg:x.2.1=g
 bl:x.2.2.2.1=Lf
 bc:x.2.2.2.2.2.2.2.2.1= []
 bb:x.2.2.2.2.2.2.2.2.2.2.2=false
 bk:yae x
 bf: ∀i,0≤i→i<g.1→flA x i=flF l i
 be: ∀i m,0≤i→i<g.1→6≤m→bdA x i m=true→bdF l i m=true
 dn:yb x=true→ ∀f,Ch x f→WW K id g V Lf f (flA x) (bdA x)
 up:yb x=false→Ix K V x∧Rob x.2.2.2.2.1 V x∧x.2.2.2.2.2.2.1=x.2.2.2.2.2.1∧(x.2.2.2.1≠ -1→flA x x.2.2.2.1=true→x.2.2.2.2.1=0)
def yFb (S:Int) (m x:dM):Prop:=x.2.2.1=m.2.2.1∧ ∀k,6≤k→k<6+S→yh5 x k=yh5 m k
theorem yHu {S:Int} {m x y:dM} (h:yFb S m x) (g:yFb S x y):yFb S m y:=⟨g.1.trans h.1,fun k k0 k1=>(g.2 k k0 k1).trans (h.2 k k0 k1)⟩
theorem yA7 (S:Int) (m:dM):yFb S m (yr m):=⟨(yiG m).2,fun k _ _=>yQh m k⟩
theorem yQu {S n:Int} (s:List Int) (m:dM) (hn:n<6):yFb S m (yf0 n s m):=⟨yAm n s m,fun k k0 k1=>by
 unfold yf0;cases m.2.2.1
 ·rw[cond_false]
  cases hc:ya9 m n s
  ·unfold yX; rw[hc]; rfl
  ·rw[yti hc,show(k !=n)=true from bne_iff_ne.2 (by omega),Bool.and_true]
 ·rfl⟩
theorem yIO {a b:dA} {s i:Int} (h1:b.2.2.2.1=a.2.2.2.1) (h2:b.2.2.2.2.1=a.2.2.2.2.1) (s0:0≤s) (s1:s<a.2.1.2) (h:yFb a.2.1.2 (yi a i) (yi b i)):yG b s i=yG a s i:=by
 unfold yG yK;rw[h1,h2,h.1,h.2 (s+6) (by omega) (by omega)]
theorem yU1 {a:dA} {s i:Int} (hk:yae a) (hu:yb (yq a)=false) (i0:0≤i) (i1:i<a.2.1.1) (s0:0≤s) (s1:s<a.2.1.2):yG (yq a) s i=yG a s i:=by
 have e:=ycA a;refine yIO (ycm e) (yaS e) s0 s1 ?_;rw[yzm hu i0 (by have:=hk.1.2; omega)];exact yA7 _ _
theorem yU0 {a:dA} {s i:Int} (hk:yae a) (hg:0≤a.2.2.2.2.2.2.2.1) (hg2:a.2.2.2.2.2.2.2.1<60000) (hu:yb (yab a)=false) (i0:0≤i) (i1:i<a.2.1.1) (s0:0≤s) (s1:s<a.2.1.2):yG (yab a) s i=yG a s i:=by
 have e:=yle a;refine yIO ((ycm e).trans rfl) ((yaS e).trans rfl) s0 s1 ?_;rw[yIR hu i0 (by have:=hk.1.2; omega)]
 have hn:(yaj a).2.2.2.2.2.2.2.1.tmod 2<6:=by
  show(i64.wrap (a.2.2.2.2.2.2.2.1+1)).tmod 2<6;rw[wr (by omega) (by omega)];have:=yS5 (g:=a.2.2.2.2.2.2.2.1+1) (by omega);omega
 exact yHu (yQu _ _ hn) (yA7 _ _)
theorem yVw {a:dA} {r:dN} {s i:Int} (hk:yae a) (hr:0≤r.1) (hu:yb (yJ a r)=false) (i0:0≤i) (i1:i<a.2.1.1) (s0:0≤s) (s1:s<a.2.1.2):yG (yJ a r) s i=yG a s i:=by
 have e:=ybe a r;refine yIO (ycm e) (yaS e) s0 s1 ?_;rw[yFo hu i0 (by have:=hk.1.2; omega)];exact yHu (yQu _ _ (yTN hr).2.1) (yA7 _ _)
theorem yUr {k:Int} {V:Int→Int→Int} {a:dA} {s i:Int} (h:Ix k V a) (hk:k+1≤60000) (hu:yb (yR a)=false) (i0:0≤i) (i1:i<a.2.1.1) (s0:0≤s) (s1:s<a.2.1.2):yG (yR a) s i=yG a s i:=by
 obtain⟨h1,h2⟩:=yCf hu;rw[h2]at hu ⊢;have hs:=yQl (yTG h h1);have eg:(yaV (yq a)).2.1=a.2.1:=(by have h9:=yaC (ycA a); exact h9);have c:=hs.xc;unfold yaw at c;have:=hs.xg;rw[yU0 hs.xk (by omega) (by omega) hu i0 (by rw[eg]; exact i1) s0 (by rw[eg]; exact s1)];exact yU1 h.xk h1 i0 i1 s0 s1
theorem yVv {k:Int} {V:Int→Int→Int} {a:dA} {s i:Int} (h:Ix k V a) (hk:k+1≤60000) (hu:yb (ym a)=false) (i0:0≤i) (i1:i<a.2.1.1) (s0:0≤s) (s1:s<a.2.1.2):yG (ym a) s i=yG a s i:=by
 unfold ym at hu ⊢;cases h4:leb 4 (i64.wrap (a.2.2.2.2.2.1-a.2.2.2.2.2.2.1))
 ·rfl
 ·rw[h4]at hu
  exact yUr h hk hu i0 i1 s0 s1
theorem yUZ {k:Int} {V:Int→Int→Int} {a:dA} {s:Int} {d:List Int} {i t:Int} (h:Ix k V a) (hs:yO a.2.1 s=true) (hd:d.all isW=true) (hz:(yi a i).2.2.1=false→(yi a i).2.1= []) (hu:yb (yB a s d)=false)
  (i0:0≤i) (i1:i<a.2.1.1) (t0:0≤t) (t1:t<a.2.1.2):yG (yB a s d) t i=bif t==s then yK a.2.2.2.1 a.2.2.2.2.1 i s (yi a i)else yG a t i:=by
 have hc:=ytt a s d;have h1:=yah.1 hs;have hg:=yl.1 h1.1;have hlen:=h.xk.1.2;have e:yi (yB a s d) i=yhG a.2.2.2.1 a.2.2.2.2.1 (yg a.2.1 s) a.2.1.1 s d i (yi a i):=yxG (ySE s d h.xu) hu i0 (by omega);obtain⟨d1,d2,d3⟩:=yl9 h.xk i0 i1;have hda:=yqE (s:=s) h1.2.1 (by omega);unfold yG;rw[ycm hc,yaS hc,e];by_cases ht:t=s
 ·subst ht
  rw[beq_self_eq_true,cond_true];unfold yhG;cases hl:yK a.2.2.2.1 a.2.2.2.2.1 i t (yi a i)
  ·rw[cond_false,hl]; rfl
  ·have hf:(yi a i).2.2.1=false:=by
    simp only[yK,Bool.and_eq_true,Bool.not_eq_true']at hl; exact hl.1
   have hcw:ya9 (yi a i) (yy t) [ybX (yg a.2.1 t) a.2.1.1 (yai d) d i]=true:=yAZ d1 hf (by rw[hda]; exact zj6.2 (by omega)) (yAM.2 ⟨by simp,fun x hx=>by rw[List.mem_singleton.1 hx]; exact ysI.1 (yDQ hd)⟩) (by rw[hz hf]; decide);rw[cond_true,yti hcw,hda,bne_self_eq_false,Bool.and_false,Bool.not_false,Bool.and_true];unfold yK at hl ⊢;rw[(yuh _ _ _).2]; exact hl
 ·rw[show(t==s)=false from beq_eq_false_iff_ne.2 ht,cond_false]
  obtain⟨e1,e2,e3⟩:=yCp (L:=a.2.2.2.1) (B:=a.2.2.2.2.1) (p:=yg a.2.1 s) (N:=a.2.1.1) (s:=s) (i:=i) (d:=d) (S:=0) (m:=yi a i) (t+6) (by omega);unfold yK;rw[e1,e2]
theorem yUK {k:Int} {V:Int→Int→Int} {a:dA} {s:Int} {d:List Int} {i t:Int} (h:Ix k V a) (hs:yO a.2.1 s=true) (hd:d.all isW=true) (hq:a.2.2.2.2.2.1<60000) (hk:k+1≤60000) (hu:yb (yH a s d).2=false)
  (i0:0≤i) (i1:i<a.2.1.1) (t0:0≤t) (t1:t<a.2.1.2):yG (yH a s d).2 t i=bif t==s then yK a.2.2.2.1 a.2.2.2.2.1 i s (yi a i)else yG a t i:=by
 unfold yH at hu ⊢;cases hc:yb (ym a)
 ·obtain⟨h1,h2,h3⟩:=yUs h hk hc
  have eg:(ym a).2.1=a.2.1:=yFf a;have hb0:=fun t t0 t1=>yVv (s:=t) h hk hc i0 i1 t0 t1
  have hlv:yK (ym a).2.2.2.1 (ym a).2.2.2.2.1 i s (yi (ym a) i)=yK a.2.2.2.1 a.2.2.2.2.1 i s (yi a i):=by
   unfold ym at hc ⊢;cases h4:leb 4 (i64.wrap (a.2.2.2.2.2.1-a.2.2.2.2.2.2.1))
   ·rfl
   ·rw[h4]at hc
    simp only[cond_true]at hc ⊢;obtain⟨g1,g2⟩:=yCf hc;have e:=yle (yaV (yq a));rw[g2]at hc ⊢;rw[ycm e,yaS e,yIR hc i0 (by show i<((yq a).2.2.1.length:Int); rw[yzn]; have:=h.xk.1.2; omega)];have el:(yaj (yaV (yq a))).2.2.2.1=a.2.2.2.1:=(by have h9:=ycm (ycA a); exact h9);have eb:(yaj (yaV (yq a))).2.2.2.2.1=a.2.2.2.2.1:=(by have h9:=yaS (ycA a); exact h9);rw[el,eb];unfold yK yL1;rw[(yiG _).2,yAm,show yi (yaV (yq a)) i=yi (yq a) i from rfl,yzm g1 i0 (by have:=h.xk.1.2; omega),(yiG _).2]
  rw[hc]at hu;simp only[cond_false]at hu ⊢;have c:=h.xc;unfold yaw at c;cases hr:yb (yJ (ym a) ((ym a).2.2.2.2.2.1,s,d))
  ·rw[hr]at hu
   simp only[cond_false]at hu ⊢;have hq0:0≤(ym a).2.2.2.2.2.1:=by omega
   obtain⟨h4,h5⟩:=yUt (r:=((ym a).2.2.2.2.2.1,s,d)) h1 hq0 hr;have e1:=yhj (ybe (ym a) ((ym a).2.2.2.2.2.1,s,d));have e2:=yOy (ybe (ym a) ((ym a).2.2.2.2.2.1,s,d));have e3:=(yaC (ybe (ym a) ((ym a).2.2.2.2.2.1,s,d))).trans eg;have e5:=ycm (ybe (ym a) ((ym a).2.2.2.2.2.1,s,d));have e6:=yaS (ybe (ym a) ((ym a).2.2.2.2.2.1,s,d));have hb1:=fun t t0 t1=>yVw (s:=t) (r:=((ym a).2.2.2.2.2.1,s,d)) h1.xk hq0 hr i0 (by rw[eg]; exact i1) t0 t1
   have hfl:(yi (yJ (ym a) ((ym a).2.2.2.2.2.1,s,d)) i).2.2.1=(yi (ym a) i).2.2.1:=by
    rw[yFo hr i0 (by have:=h1.xk.1.2; rw[eg]at this; omega),(yiG _).2,yAm]
   rw[eg]at h5 hb1;generalize yJ (ym a) ((ym a).2.2.2.2.2.1,s,d)=R at h4 h5 e1 e2 e3 e5 e6 hb1 hfl hu ⊢;have h6:=ySL h4 (by omega) (by omega);have e4:(yU R).2.1=a.2.1:=e3;have h7:=yUZ (s:=s) (d:=d) (i:=i) (t:=t) h6 (by rw[e4]; exact hs) hd (fun hf=>h5 i i0 i1 hf) hu i0 (by rw[e4]; exact i1) t0 (by rw[e4]; exact t1);show yG (yB (yU R) s d) t i=_;rw[h7]
   have e7:yK (yU R).2.2.2.1 (yU R).2.2.2.2.1 i s (yi (yU R) i)=yK a.2.2.2.1 a.2.2.2.2.1 i s (yi a i):=by
    rw[← hlv];show yK R.2.2.2.1 R.2.2.2.2.1 i s (yi R i)=_;unfold yK;rw[e5,e6,hfl]
   have e8:yG (yU R) t i=yG a t i:=(hb1 t t0 t1).trans (hb0 t t0 t1);rw[e7,e8]
  ·rw[hr]at hu
   exact absurd (hr.symm.trans hu) (by simp)
 ·rw[hc]at hu
  exact absurd (hc.symm.trans hu) (by simp)
theorem ywO (p:Nat→Bool): ∀n,decide (yeg p n=0)=(List.range n).all p
 | 0=>rfl
 | n+1=>by
  rw[List.range_succ,List.all_append,← ywO p n,ye0];cases hp:p n
  ·simp[hp]
  ·simp[hp]
theorem yEl {p:Nat→Bool} {j:Nat}: ∀{n:Nat},(∀i,i<n→i≠j→p i=true)→yeg p n≤1∧(n≤j→yeg p n=0)
 | 0,_=>⟨Nat.zero_le _,fun _=>rfl⟩
 | n+1,h=>by
  obtain⟨h1,h2⟩:=yEl (n:=n) (fun i hi hj=>h i (by omega) hj);rw[ye0];cases hp:p n
  ·have:n=j:=Classical.byContradiction fun e=>by rw[h n (by omega) e]at hp; cases hp
   rw[cond_false,h2 (by omega)];exact⟨by omega,fun h=>by omega⟩
  ·rw[cond_true]
   exact⟨h1,fun h=>h2 (by omega)⟩
theorem yVB {a:dA} {s j:Int} (j0:0≤j) (h: ∀i,0≤i→i<a.2.1.1→i≠j→yG a s i=true):ya3 a s<2:=by
 have:=(yEl (p:=fun(i:Nat)=>yG a s i) (j:=j.toNat) (n:=a.2.1.1.toNat) (fun i hi hj=>h i (by omega) (by omega) (by omega))).1;unfold ya3;omega
end
def yQR:Code:=(f207.body).getD .skip
def yRk:Env:=zkw TT [(162,yBu)] []
theorem yIo:FrOk prog ⟨yRk,18,fun _=>none⟩ yQR:=zkA mixed yc ⟨yRX,trivial⟩
abbrev ynP:List Par:= [.rd tN]
abbrev yu5:List OT:= [⟨false,tL,(.ow .fz)⟩]
def yra (a0:dN):Option (zaY yu5×zak ynP) :=let r1:=ybc a0;bif(!r1)then some ((([]:List Int),()),()) else bif(zkl ([21322,a0.1,a0.2.1,(a0.2.2.length:Int)]:List Int).length a0.2.2.length 8)then some (((([21322,a0.1,a0.2.1,(a0.2.2.length:Int)]:List Int)++a0.2.2),()),()) else none
theorem yMW:ConOk prog 207 ⟨ynP,yu5,fun x=>yra x.1⟩:=zkI (yIo) func207 ntmps207.symm fun x=>by kernel_rfl
def yjx (a0:dN):List Int:=yjF a0
theorem yO3 (a0:dN) (hk:zjx ynP (a0,())):yra a0=(fun n=>some ((n,()),())) (yjx a0):=by
 unfold yra yjx yjF;cases hr:ybc a0
 ·rfl
 ·have:=(yQt.1 hr).2.2.1
  rw[zkF.2 (show(([21322,a0.1,a0.2.1,(a0.2.2.length:Int)]:List Int).length+a0.2.2.length)*8≤140737488355328 by simp only[List.length_cons,List.length_nil]; omega)]; rfl
def yz1:Con:=⟨ynP,yu5,fun x=>(fun n=>some ((n,()),())) (yjx x.1)⟩
theorem yPL:ConOk prog 207 yz1:=(yMW).mono (fun x r hk h=>(yO3 x.1 hk).trans h)
def ypr:Code:=(f169.body).getD .skip
def yxc:Env:=zkw TT [(91,yz2),(206,yh7),(207,yz1),(208,ykM)] []
theorem yLU:FrOk prog ⟨yxc,24,fun _=>none⟩ ypr:=zkA mixed yc ⟨yPM,yn5,yPL,ysO,trivial⟩
def yBj:Nat→Option Seg:=fun _=>none
def ycM:Shape:=⟨[(0,false,[.ptr 1000000000 0]),(3,false,[.ptr 0 0]),(4,false,[.int .i64])],[(0,[.int .i64,.int .i64,.br tI]),(1000000000,[.int .i64,.int .i64,.int .i64,.at 800000000,.int .i64,.int .i64,.int .i64,.int .i64,.int .i64,.at 800000001,.int .i64,.bool,.bool])],[(800000000,tM,(.pr (.ow .fz) (.pr (.ow (.pr .fz .fz)) (.pr .fz (.ow .fz))))),(800000001,tW,(.pr .fz .fz))]⟩
def ygJ:Shape:=⟨[(0,false,[.ptr 1000000000 0]),(3,false,[.ptr 0 0]),(4,false,[.ci .i64 0])],[(0,[.int .i64,.int .i64,.br tI]),(1000000000,[.int .i64,.int .i64,.int .i64,.at 800000000,.int .i64,.int .i64,.int .i64,.int .i64,.int .i64,.at 800000001,.int .i64,.bool,.bool])],[(800000000,tM,(.pr (.ow .fz) (.pr (.ow (.pr .fz .fz)) (.pr .fz (.ow .fz))))),(800000001,tW,(.pr .fz .fz))]⟩
def ygv:Shape:=⟨[(0,false,[.ptr 1000000000 0])],[(1000000000,[.int .i64,.int .i64,.int .i64,.at 800000000,.int .i64,.int .i64,.int .i64,.int .i64,.int .i64,.at 800000001,.int .i64,.bool,.bool])],[(800000000,tM,(.pr (.ow .fz) (.pr (.ow (.pr .fz .fz)) (.pr .fz (.ow .fz))))),(800000001,tW,(.pr .fz .fz))]⟩
def ykC:Shape:=⟨[],[],[]⟩
abbrev yoB (v0:Int) (v1:dN) (v2:dA):(ycM).X:=((((),()),((),()),(v0,()),()),((v1.1,v1.2.1,v1.2.2,()),(v2.1,v2.2.1.1,v2.2.1.2,(),v2.2.2.2.1,v2.2.2.2.2.1,v2.2.2.2.2.2.1,v2.2.2.2.2.2.2.1,v2.2.2.2.2.2.2.2.1,(),v2.2.2.2.2.2.2.2.2.2.1,v2.2.2.2.2.2.2.2.2.2.2.1,v2.2.2.2.2.2.2.2.2.2.2.2,()),()),(v2.2.2.1,v2.2.2.2.2.2.2.2.2.1,()))
abbrev yJa (v0:dN) (v1:dA):(ygJ).X:=((((),()),((),()),((),()),()),((v0.1,v0.2.1,v0.2.2,()),(v1.1,v1.2.1.1,v1.2.1.2,(),v1.2.2.2.1,v1.2.2.2.2.1,v1.2.2.2.2.2.1,v1.2.2.2.2.2.2.1,v1.2.2.2.2.2.2.2.1,(),v1.2.2.2.2.2.2.2.2.2.1,v1.2.2.2.2.2.2.2.2.2.2.1,v1.2.2.2.2.2.2.2.2.2.2.2,()),()),(v1.2.2.1,v1.2.2.2.2.2.2.2.2.1,()))
abbrev yyK (v0:dA):(ygv).X:=((((),()),()),((v0.1,v0.2.1.1,v0.2.1.2,(),v0.2.2.2.1,v0.2.2.2.2.1,v0.2.2.2.2.2.1,v0.2.2.2.2.2.2.1,v0.2.2.2.2.2.2.2.1,(),v0.2.2.2.2.2.2.2.2.2.1,v0.2.2.2.2.2.2.2.2.2.2.1,v0.2.2.2.2.2.2.2.2.2.2.2,()),()),(v0.2.2.1,v0.2.2.2.2.2.2.2.2.1,()))
def yo6 (v0 v1 v2:Int) (v3:List Int) (v4 v5 v6 v7 v8 v9 v10 v11 v12:Int) (v13 v14:Bool) (v15:List dM) (v16:List dW):Option ((ycM).X ⊕ ((ygv).X ⊕ (ykC).X)) :=bif(ltb v0 (v15.length:Int))then let r4:=yN v1;let r5:=yjx (v1,v2,v3);bnd (yd7 (v4,(v5,v6),v15,v7,v8,v9,v10,v11,v16,v12,v13,v14) v0 r4 r5) fun r6 =>some (.inl ((((),()),((),()),((i64.wrap (v0+1)),()),()),((v1,v2,v3,()),(r6.2.1.1,r6.2.1.2.1.1,r6.2.1.2.1.2,(),r6.2.1.2.2.2.1,r6.2.1.2.2.2.2.1,r6.2.1.2.2.2.2.2.1,r6.2.1.2.2.2.2.2.2.1,r6.2.1.2.2.2.2.2.2.2.1,(),r6.2.1.2.2.2.2.2.2.2.2.2.1,r6.2.1.2.2.2.2.2.2.2.2.2.2.1,r6.2.1.2.2.2.2.2.2.2.2.2.2.2,()),()),(r6.2.1.2.2.1,r6.2.1.2.2.2.2.2.2.2.2.1,()))) else some (.inr (.inl ((((),()),()),((v4,v5,v6,(),v7,v8,v9,v10,v11,(),v12,v13,v14,()),()),(v15,v16,()))))
def yde (x:(ycM).X):=yo6 x.1.2.2.1.1 x.2.1.1.1 x.2.1.1.2.1 x.2.1.1.2.2.1 x.2.1.2.1.1 x.2.1.2.1.2.1 x.2.1.2.1.2.2.1 x.2.1.2.1.2.2.2.2.1 x.2.1.2.1.2.2.2.2.2.1 x.2.1.2.1.2.2.2.2.2.2.1 x.2.1.2.1.2.2.2.2.2.2.2.1 x.2.1.2.1.2.2.2.2.2.2.2.2.1 x.2.1.2.1.2.2.2.2.2.2.2.2.2.2.1 x.2.1.2.1.2.2.2.2.2.2.2.2.2.2.2.1 x.2.1.2.1.2.2.2.2.2.2.2.2.2.2.2.2.1 x.2.2.1 x.2.2.2.1
def yyn (x:(ygJ).X):(ycM).X:=((((),()),((),()),(0,()),()),((x.2.1.1.1,x.2.1.1.2.1,x.2.1.1.2.2.1,()),(x.2.1.2.1.1,x.2.1.2.1.2.1,x.2.1.2.1.2.2.1,(),x.2.1.2.1.2.2.2.2.1,x.2.1.2.1.2.2.2.2.2.1,x.2.1.2.1.2.2.2.2.2.2.1,x.2.1.2.1.2.2.2.2.2.2.2.1,x.2.1.2.1.2.2.2.2.2.2.2.2.1,(),x.2.1.2.1.2.2.2.2.2.2.2.2.2.2.1,x.2.1.2.1.2.2.2.2.2.2.2.2.2.2.2.1,x.2.1.2.1.2.2.2.2.2.2.2.2.2.2.2.2.1,()),()),(x.2.2.1,x.2.2.2.1,()))
def yzQ:Code:=(zd7 ypr 64 52).getD .skip
theorem yLh:zd7 ypr 64 13=some (.block 0 (.loop yzQ)):=by kernel_rfl
theorem yNK (x:(ycM).X):zhu ⟨yxc,24,yBj⟩ 0 yzQ 52 ycM ygv ykC x=yde x:=by kernel_rfl
def yyC (x:(ygJ).X):Nat:=18446744073709551616
def ypQ (x:(ygJ).X):Option ((ygv).X ⊕ (ykC).X):=zF yde (yyC x) (yyn x)
def yzh:Seg:=⟨ygJ,ygv,ykC,ypQ⟩
def yOd:Nat→Option Seg:=fun q=>bif Nat.beq q 13 then some yzh else yBj q
theorem yLV:FrOk prog ⟨yxc,24,yOd⟩ ypr:=(yLU).loop (sg:=yzh) ycM yyn (by decide) yLh yde yyC (by decide) (fun _=>rfl) (fun x r _ h=>h) yNK
abbrev yp5:List Par:= [.pt tA (.pr .fz (.pr (.pr .fz .fz) (.pr (.ow (.pr (.ow .fz) (.pr (.ow (.pr .fz .fz)) (.pr .fz (.ow .fz))))) (.pr .fz (.pr .fz (.pr .fz (.pr .fz (.pr .fz (.pr (.ow (.pr .fz .fz)) (.pr .fz (.pr .fz .fz))))))))))),.rd tN]
abbrev yxE:List OT:= []
def ys4 (a0:dA) (a1:dN):Option (zaY yxE×zak yp5) :=zkt (ypQ ((((),()),((),()),((),()),()),((a1.1,a1.2.1,a1.2.2,()),(a0.1,a0.2.1.1,a0.2.1.2,(),a0.2.2.2.1,a0.2.2.2.2.1,a0.2.2.2.2.2.1,a0.2.2.2.2.2.2.1,a0.2.2.2.2.2.2.2.1,(),a0.2.2.2.2.2.2.2.2.2.1,a0.2.2.2.2.2.2.2.2.2.2.1,a0.2.2.2.2.2.2.2.2.2.2.2,()),()),(a0.2.2.1,a0.2.2.2.2.2.2.2.2.1,()))) (fun y6 =>let r8:=ydm (y6.2.1.1.1,(y6.2.1.1.2.1,y6.2.1.1.2.2.1),y6.2.2.1,y6.2.1.1.2.2.2.2.1,y6.2.1.1.2.2.2.2.2.1,y6.2.1.1.2.2.2.2.2.2.1,y6.2.1.1.2.2.2.2.2.2.2.1,y6.2.1.1.2.2.2.2.2.2.2.2.1,y6.2.2.2.1,y6.2.1.1.2.2.2.2.2.2.2.2.2.2.1,y6.2.1.1.2.2.2.2.2.2.2.2.2.2.2.1,y6.2.1.1.2.2.2.2.2.2.2.2.2.2.2.2.1);some ((),(r8,()))) (fun y6 =>none)
theorem yPz:ConOk prog 169 ⟨yp5,yxE,fun x=>ys4 x.1 x.2.1⟩:=zkI (yLV) func169 ntmps169.symm fun x=>by kernel_rfl
def yiq (a0:dA) (a1:dN):dA:=yJ a0 a1
theorem yRN (a0:dA) (a1:dN) (hk:zjx yp5 (a0,a1,())):ys4 a0 a1=(fun n=>some ((),(n,()))) (yiq a0 a1):=by
 have hb:a0.2.2.1.length*80≤2^47:=hk.1.2.2.1.1
 have h1:ypQ (yJa a1 a0)=some (.inl (yyK ((List.range a0.2.2.1.length).foldl (ybd a1) a0))) :=
  zkD (step:=yde) a0.2.2.1.length (fun i s=>yoB i a1 s) (ybd a1) (fun _ s=>s.2.2.1.length=a0.2.2.1.length) (fun s=> .inl (yyK s)) (fun i s hi hs=>⟨by
   simp only[yde,yoB,yo6,hs,zky (show(i:Int)<a0.2.2.1.length by omega),cond_true,wq ((i:Int)+1) (by omega) (by omega),Int.natCast_add,Int.natCast_one,Int.toNat_natCast,zkX,yjx];rw[yjE s i (yN a1.1) (yjF a1) (zkR (by rw[hs]; exact hi))]
   rfl,(yml a1 s i).trans hs⟩) (fun s hs=>by simp only[yde,yoB,yo6,hs,zk3 (Int.le_refl _),cond_false]) a0 rfl _ (by show _<18446744073709551616; omega)
 unfold ys4 yiq yJ;exact(congrArg (fun z=>zkt z _ _) h1).trans rfl
def yBz:Con:=⟨yp5,yxE,fun x=>(fun n=>some ((),(n,()))) (yiq x.1 x.2.1)⟩
theorem yR2:ConOk prog 169 yBz:=(yPz).mono (fun x r hk h=>(yRN x.1 x.2.1 hk).trans h)
def ypo:Code:=(f230.body).getD .skip
def yw9:Env:=zkw TT [] []
theorem yLL:FrOk prog ⟨yw9,18,fun _=>none⟩ ypo:=zkA mixed yc trivial
def yBg:Nat→Option Seg:=fun _=>none
def ycJ:Shape:=⟨[(0,false,[.br tI]),(3,false,[.int .i64]),(4,false,[.int .i64])],[],[]⟩
def ygG:Shape:=⟨[(0,false,[.br tI]),(3,false,[.ci .i64 0]),(4,false,[.ci .i64 0])],[],[]⟩
def ygs:Shape:=⟨[(3,false,[.int .i64])],[],[]⟩
def ykz:Shape:=⟨[],[],[]⟩
abbrev yoy (v0:List Int) (v1 v2:Int):(ycJ).X:=(((v0,()),(v1,()),(v2,()),()),(),())
abbrev yI7 (v0:List Int):(ygG).X:=(((v0,()),((),()),((),()),()),(),())
abbrev yyI (v0:Int):(ygs).X:=(((v0,()),()),(),())
def yo3 (v0:List Int) (v1 v2:Int):Option ((ycJ).X ⊕ ((ygs).X ⊕ (ykz).X)) :=bif(ltb v2 (v0.length:Int))then bif(inb v2 v0.length)then some (.inl (((v0,()),((i64.wrap ((BitVec.ofInt IntKind.i64.bits v1 ^^^ BitVec.ofInt IntKind.i64.bits (nth v0 v2 0)).toNat:Int)),()),((i64.wrap (v2+1)),()),()),(),())) else none else some (.inr (.inl (((v1,()),()),(),())))
def ydb (x:(ycJ).X):=yo3 x.1.1.1 x.1.2.1.1 x.1.2.2.1.1
def yyj (x:(ygG).X):(ycJ).X:=(((x.1.1.1,()),(0,()),(0,()),()),(),())
def yzM:Code:=(zd7 ypo 64 116).getD .skip
theorem yLd:zd7 ypo 64 29=some (.block 0 (.loop yzM)):=by kernel_rfl
theorem yNG (x:(ycJ).X):zhu ⟨yw9,18,yBg⟩ 0 yzM 116 ycJ ygs ykz x=ydb x:=by kernel_rfl
def yyy (x:(ygG).X):Nat:=18446744073709551616
def ypM (x:(ygG).X):Option ((ygs).X ⊕ (ykz).X):=zF ydb (yyy x) (yyj x)
def yzd:Seg:=⟨ygG,ygs,ykz,ypM⟩
def yOa:Nat→Option Seg:=fun q=>bif Nat.beq q 29 then some yzd else yBg q
theorem yLM:FrOk prog ⟨yw9,18,yOa⟩ ypo:=(yLL).loop (sg:=yzd) ycJ yyj (by decide) yLd ydb yyy (by decide) (fun _=>rfl) (fun x r _ h=>h) yNG
abbrev yp1:List Par:= [.rd tL]
abbrev yxz:List OT:= [⟨false,tI,.fz⟩]
def ys1 (a0:List Int):Option (zaY yxz×zak yp1) :=zkt (ypM (((a0,()),((),()),((),()),()),(),())) (fun y0 =>some ((y0.1.1.1,()),())) (fun y0 =>none)
theorem yPt:ConOk prog 230 ⟨yp1,yxz,fun x=>ys1 x.1⟩:=zkI (yLM) func230 ntmps230.symm fun x=>by kernel_rfl
def yin (a0:List Int):Int:=yai a0
theorem yRJ (a0:List Int) (hk:zjx yp1 (a0,())):ys1 a0=(fun n=>some ((n,()),())) (yin a0):=by
 have hb:a0.length*8≤2^47:=hk.1.1
 have h1:ypM (yI7 a0)=some (.inl (yyI (yai a0))) :=
  zkx (step:=ydb) a0 0 (fun i s=>yoy a0 s i) xw (fun _ _=>True) (fun s=> .inl (yyI s)) (fun i s hi _=>⟨by
   simp only[ydb,yoy,yo3,zky (show(i:Int)<a0.length by omega),cond_true,wq ((i:Int)+1) (by omega) (by omega),Int.natCast_add,Int.natCast_one,Int.toNat_natCast,zkR hi,zkS]; rfl,trivial⟩) (fun s _=>by simp only[ydb,yoy,yo3,zk3 (Int.le_refl _),cond_false]) 0 trivial _ (by show _<18446744073709551616; omega)
 unfold ys1 yin;rw[h1]; rfl
def yBv:Con:=⟨yp1,yxz,fun x=>(fun n=>some ((n,()),())) (yin x.1)⟩
theorem yRY:ConOk prog 230 yBv:=(yPt).mono (fun x r hk h=>(yRJ x.1 hk).trans h)
def yFt:Code:=(f210.body).getD .skip
def yFE:Env:=zkw TT [(230,yBv)] []
theorem yCn:FrOk prog ⟨yFE,5,fun _=>none⟩ yFt:=zkA mixed yc ⟨yRY,trivial⟩
abbrev ymB:List Par:= [.rd tL]
abbrev ymE:List OT:= [⟨false,tI,.fz⟩]
def yrO (a0:List Int):Option (zaY ymE×zak ymB) :=let r1:=yin a0;some ((r1,()),())
theorem yDm:ConOk prog 210 ⟨ymB,ymE,fun x=>yrO x.1⟩:=zkI (yCn) func210 ntmps210.symm fun x=>by kernel_rfl
def yhJ (a0:List Int):Int :=let r1:=yin a0;r1
def yrx:Con:=⟨ymB,ymE,fun x=>(fun n=>some ((n,()),())) (yhJ x.1)⟩
theorem yEH (a0:List Int):yrO a0=(fun n=>some ((n,()),())) (yhJ a0):=zkV (p:=fun(n:Int)=>((n,()),())) rfl
theorem yER:ConOk prog 210 yrx:=(yDm).mono (fun x r _ h=>(yEH x.1).trans h)
end
end Go.Tf
