/- Functions of the program, and what they come to. -/
import Derived.Test.YtolmneojjjpnjaaGreatTornLostF4
namespace Go.Tf
noncomputable section
open Go.Proofs Go.Proofs.Tryz IntKind
set_option synthInstance.maxHeartbeats 400000
set_option synthInstance.maxSize 10000
set_option linter.unusedVariables false
set_option linter.unusedSimpArgs false
set_option maxRecDepth 100000
def yto:Code:=(f138.body).getD .skip
def yDm:Env:=zku TT [(55,yeP),(109,ydi),(141,yGk),(191,yuL)] []
theorem yUy:FrOk prog ⟨yDm,62,fun _=>none⟩ yto:=zky yf yg ⟨yif,ygM,yZe,yKj,trivial⟩
def yHz:Nat→Option Seg:=fun _=>none
def yc0:Shape:=⟨[(1,false,[.int .i64]),(2,false,[.ptr 0 0]),(6,false,[.at 800000000]),(7,false,[.int .i64]),(28,false,[.int .i64]),(29,false,[.int .i64])],[(0,[.int .i64,.int .i64,.int .i64,.br tM,.int .i64,.int .i64,.int .i64,.int .i64,.int .i64,.br tW,.int .i64,.bool,.bool])],[(800000000,tI,.fz)]⟩
def yho:Shape:=⟨[(1,false,[.int .i64]),(2,false,[.ptr 0 0]),(6,false,[.at 800000000]),(7,false,[.ci .i64 (-1)]),(28,false,[.int .i64]),(29,false,[.ci .i64 0])],[(0,[.int .i64,.int .i64,.int .i64,.br tM,.int .i64,.int .i64,.int .i64,.int .i64,.int .i64,.br tW,.int .i64,.bool,.bool])],[(800000000,tI,.fz)]⟩
def yhd:Shape:=⟨[(6,false,[.at 800000000]),(7,false,[.int .i64])],[],[(800000000,tI,.fz)]⟩
def yhz:Shape:=⟨[(4,false,[.nil]),(5,false,[.bool])],[],[]⟩
abbrev yqk (v0 v1 v2 v3:Int) (v4:dA) (v5:List Int):(yc0).X:=(((v0,()),((),()),((),()),(v1,()),(v2,()),(v3,()),()),((v4.1,v4.2.1.1,v4.2.1.2,v4.2.2.1,v4.2.2.2.1,v4.2.2.2.2.1,v4.2.2.2.2.2.1,v4.2.2.2.2.2.2.1,v4.2.2.2.2.2.2.2.1,v4.2.2.2.2.2.2.2.2.1,v4.2.2.2.2.2.2.2.2.2.1,v4.2.2.2.2.2.2.2.2.2.2.1,v4.2.2.2.2.2.2.2.2.2.2.2,()),()),(v5,()))
abbrev yOs (v0 v1:Int) (v2:dA) (v3:List Int):(yho).X:=(((v0,()),((),()),((),()),((),()),(v1,()),((),()),()),((v2.1,v2.2.1.1,v2.2.1.2,v2.2.2.1,v2.2.2.2.1,v2.2.2.2.2.1,v2.2.2.2.2.2.1,v2.2.2.2.2.2.2.1,v2.2.2.2.2.2.2.2.1,v2.2.2.2.2.2.2.2.2.1,v2.2.2.2.2.2.2.2.2.2.1,v2.2.2.2.2.2.2.2.2.2.2.1,v2.2.2.2.2.2.2.2.2.2.2.2,()),()),(v3,()))
abbrev yOm (v0:Int) (v1:List Int):(yhd).X:=((((),()),(v0,()),()),(),(v1,()))
abbrev yOB (v0:Bool):(yhz).X:=((((),()),(v0,()),()),(),())
def yqT (v0 v1 v2 v3 v4 v5 v6:Int) (v7:List dM) (v8 v9 v10 v11 v12:Int) (v13:List dW) (v14:Int) (v15 v16:Bool) (v17:List Int):Option ((yc0).X ⊕ ((yhd).X ⊕ (yhz).X)) :=bif(ltb v3 v2)then bnd (yrP (v4,(v5,v6),v7,v8,v9,v10,v11,v12,v13,v14,v15,v16) v3 v0) fun r4 =>bif(!r4.1.2.1)then bif(leb 0 v1)then some (.inr (.inr ((((),()),(false,()),()),(),()))) else bif(!r4.1.2.1)then bif(zkj v17.length ([r4.1.1]:List Int).length 8)then some (.inl (((v0,()),((),()),((),()),(v3,()),(v2,()),((i64.wrap (v3+1)),()),()),((v4,v5,v6,v7,v8,v9,v10,v11,v12,v13,v14,v15,v16,()),()),((v17++([r4.1.1]:List Int)),()))) else none else bif(zkj v17.length ([r4.1.1]:List Int).length 8)then some (.inl (((v0,()),((),()),((),()),(v1,()),(v2,()),((i64.wrap (v3+1)),()),()),((v4,v5,v6,v7,v8,v9,v10,v11,v12,v13,v14,v15,v16,()),()),((v17++([r4.1.1]:List Int)),()))) else none else bif(!r4.1.2.1)then bif(zkj v17.length ([r4.1.1]:List Int).length 8)then some (.inl (((v0,()),((),()),((),()),(v3,()),(v2,()),((i64.wrap (v3+1)),()),()),((v4,v5,v6,v7,v8,v9,v10,v11,v12,v13,v14,v15,v16,()),()),((v17++([r4.1.1]:List Int)),()))) else none else bif(zkj v17.length ([r4.1.1]:List Int).length 8)then some (.inl (((v0,()),((),()),((),()),(v1,()),(v2,()),((i64.wrap (v3+1)),()),()),((v4,v5,v6,v7,v8,v9,v10,v11,v12,v13,v14,v15,v16,()),()),((v17++([r4.1.1]:List Int)),()))) else none else some (.inr (.inl ((((),()),(v1,()),()),(),(v17,()))))
def ydm (x:(yc0).X):=yqT x.1.1.1 x.1.2.2.2.1.1 x.1.2.2.2.2.1.1 x.1.2.2.2.2.2.1.1 x.2.1.1.1 x.2.1.1.2.1 x.2.1.1.2.2.1 x.2.1.1.2.2.2.1 x.2.1.1.2.2.2.2.1 x.2.1.1.2.2.2.2.2.1 x.2.1.1.2.2.2.2.2.2.1 x.2.1.1.2.2.2.2.2.2.2.1 x.2.1.1.2.2.2.2.2.2.2.2.1 x.2.1.1.2.2.2.2.2.2.2.2.2.1 x.2.1.1.2.2.2.2.2.2.2.2.2.2.1 x.2.1.1.2.2.2.2.2.2.2.2.2.2.2.1 x.2.1.1.2.2.2.2.2.2.2.2.2.2.2.2.1 x.2.2.1
def yB0 (x:(yho).X):(yc0).X:=(((x.1.1.1,()),((),()),((),()),((-1),()),(x.1.2.2.2.2.1.1,()),(0,()),()),((x.2.1.1.1,x.2.1.1.2.1,x.2.1.1.2.2.1,x.2.1.1.2.2.2.1,x.2.1.1.2.2.2.2.1,x.2.1.1.2.2.2.2.2.1,x.2.1.1.2.2.2.2.2.2.1,x.2.1.1.2.2.2.2.2.2.2.1,x.2.1.1.2.2.2.2.2.2.2.2.1,x.2.1.1.2.2.2.2.2.2.2.2.2.1,x.2.1.1.2.2.2.2.2.2.2.2.2.2.1,x.2.1.1.2.2.2.2.2.2.2.2.2.2.2.1,x.2.1.1.2.2.2.2.2.2.2.2.2.2.2.2.1,()),()),(x.2.2.1,()))
def yD1:Code:=(zeJ yto 64 500).getD .skip
theorem yP7:zeJ yto 64 125=some (.block 0 (.loop yD1)):=by kernel_rfl
theorem yS3 (x:(yc0).X):zhu ⟨yDm,62,yHz⟩ 0 yD1 500 yc0 yhd yhz x=ydm x:=by kernel_rfl
def yCb (x:(yho).X):Nat:=18446744073709551616
def yrZ (x:(yho).X):Option ((yhd).X ⊕ (yhz).X):=zF ydm (yCb x) (yB0 x)
def yCA:Seg:=⟨yho,yhd,yhz,yrZ⟩
def yXu:Nat→Option Seg:=fun q=>bif Nat.beq q 125 then some yCA else yHz q
theorem yUz:FrOk prog ⟨yDm,62,yXu⟩ yto:=(yUy).loop (sg:=yCA) yc0 yB0 (by decide) yP7 ydm yCb (by decide) (fun _=>rfl) (fun x r _ h=>h) yS3
abbrev ytZ:List Par:= [.rd tA,.rd tI]
abbrev yDI:List OT:= [⟨false,tL,(.ow .fz)⟩,⟨false,tB,.fz⟩]
def yx9 (a0:dA) (a1:Int):Option (zaY yDI×zak ytZ) :=let r1:=yah a0;bif(!(!r1))then bif(!a0.2.2.2.2.2.2.2.2.2.2.2)then let r2:=yaI a0.2.1 a1;bif(!r2)then some (([],false,()),()) else zkr (yrZ (((a1,()),((),()),((),()),((),()),((a0.2.2.1.length:Int),()),((),()),()),((a0.1,a0.2.1.1,a0.2.1.2,a0.2.2.1,a0.2.2.2.1,a0.2.2.2.2.1,a0.2.2.2.2.2.1,a0.2.2.2.2.2.2.1,a0.2.2.2.2.2.2.2.1,a0.2.2.2.2.2.2.2.2.1,a0.2.2.2.2.2.2.2.2.2.1,a0.2.2.2.2.2.2.2.2.2.2.1,a0.2.2.2.2.2.2.2.2.2.2.2,()),()),(([]:List Int),()))) (fun y4 =>bif(leb 0 y4.1.2.1.1)then let r6:=yfx y4.2.2.1 y4.1.2.1.1;bif(inb y4.1.2.1.1 y4.2.2.1.length)then some (((y4.2.2.1.set (y4.1.2.1.1).toNat r6),true,()),()) else none else some ((y4.2.2.1,true,()),())) (fun y4 =>some (([],y4.1.2.1.1,()),())) else some (([],false,()),()) else some (([],false,()),())
theorem yYR:ConOk prog 138 ⟨ytZ,yDI,fun x=>yx9 x.1 x.2.1⟩:=zkG (yUz) func138 ntmps138.symm fun x=>by kernel_rfl
def yop (a0:dA) (a1:Int):List Int×Bool:=bif yae a0&&(!a0.2.2.2.2.2.2.2.2.2.2.2&&yN a0.2.1 a1)then yR a0 a1 else([],false)
theorem y1q (a0:dA) (a1:Int) (hk:zjw ytZ (a0,a1,())):yx9 a0 a1=(fun n=>some ((n.1,n.2,()),())) (yop a0 a1):=by
 unfold yx9 yop yah;rw[yyy];cases ha:yae a0
 ·rfl
 have hg:=yl.1 (yi7 ha);have hl:=yFY ha
 have h1:yrZ (yOs a1 a0.2.2.1.length a0 [])=some (bif ye8 (fun(i:Nat)=>yG a0 i a1) a0.2.1.1.toNat then .inr (yOB false)else .inl (yOm (yK (fun(i:Nat)=>yG a0 i a1) a0.2.1.1.toNat) (yai a0 a1 a0.2.1.1.toNat))) :=
  zjh (step:=ydm) (fun i=>yqk a1 (yK (fun(i:Nat)=>yG a0 i a1) i) a0.2.2.1.length i a0 (yai a0 a1 i)) a0.2.1.1.toNat (fun i=> !yG a0 i a1&&leb 0 (yK (fun(i:Nat)=>yG a0 i a1) i)) _ _ (fun i hi=>by
   simp only[ydm,yqk,yqT,zkw (show(i:Int)<a0.2.2.1.length by omega),cond_true,wq ((i:Int)+1) (by omega) (by omega),Int.natCast_add,Int.natCast_one,Int.toNat_natCast,zkV,yZt a0 i a1 (zkP (show i<a0.2.2.1.length by omega)),yl3,zkF,yK];rw[zkD.2 (show((yai a0 a1 i).length+ [yq2 a0 i a1].length)*8≤140737488355328 by simp only[List.length_cons,List.length_nil,yfG]; omega),yJB]
   cases yG a0 i a1<;>cases leb 0 (yK (fun(i:Nat)=>yG a0 i a1) i)<;>rfl) (by simp only[ydm,yqk,yqT,zk1 (show(a0.2.2.1.length:Int)≤(a0.2.1.1.toNat:Int)by omega),cond_false]) _ (by show _<18446744073709551616; omega)
 rw[h1];cases a0.2.2.2.2.2.2.2.2.2.2.2
 ·cases yN a0.2.1 a1
  ·rfl
  ·unfold yR
   cases ye8 (fun(i:Nat)=>yG a0 i a1) a0.2.1.1.toNat
   ·simp only[cond_false,zkL,yfx]
    cases hm:leb 0 (yK (fun(i:Nat)=>yG a0 i a1) a0.2.1.1.toNat)
    ·rfl
    ·obtain⟨h2,h3⟩:=yZ4 a0 a1 a0.2.1.1.toNat hm
     rw[h2,h3]; rfl
   ·rfl
 ·rfl
def yHQ:Con:=⟨ytZ,yDI,fun x=>(fun n=>some ((n.1,n.2,()),())) (yop x.1 x.2.1)⟩
theorem y1J:ConOk prog 138 yHQ:=(yYR).mono (fun x r hk h=>(y1q x.1 x.2.1 hk).trans h)
def yrj:Code:=(f68.body).getD .skip
def yzW:Env:=zku TT [(138,yHQ),(142,yuJ)] []
theorem yQq:FrOk prog ⟨yzW,39,fun _=>none⟩ yrj:=zky yf yg ⟨y1J,yIb,trivial⟩
def yFM:Nat→Option Seg:=fun _=>none
def yca:Shape:=⟨[(1,false,[.int .i64]),(2,false,[.ptr 0 0]),(6,false,[.at 800000000]),(8,false,[.at 800000001]),(22,false,[.int .i64]),(23,false,[.int .i64])],[(0,[.int .i64,.int .i64,.int .i64,.br tM,.int .i64,.int .i64,.int .i64,.int .i64,.int .i64,.br tW,.int .i64,.bool,.bool])],[(800000000,tI,.fz),(800000001,tI,.fz)]⟩
def ygo:Shape:=⟨[(1,false,[.int .i64]),(2,false,[.ptr 0 0]),(6,false,[.at 800000000]),(8,false,[.at 800000001]),(22,false,[.int .i64]),(23,false,[.ci .i64 0])],[(0,[.int .i64,.int .i64,.int .i64,.br tM,.int .i64,.int .i64,.int .i64,.int .i64,.int .i64,.br tW,.int .i64,.bool,.bool])],[(800000000,tI,.fz),(800000001,tI,.fz)]⟩
def yga:Shape:=⟨[(8,false,[.at 800000000])],[],[(800000000,tI,.fz)]⟩
def yjQ:Shape:=⟨[],[],[]⟩
abbrev yoc (v0 v1 v2:Int) (v3:dA) (v4 v5:List Int):(yca).X:=(((v0,()),((),()),((),()),((),()),(v1,()),(v2,()),()),((v3.1,v3.2.1.1,v3.2.1.2,v3.2.2.1,v3.2.2.2.1,v3.2.2.2.2.1,v3.2.2.2.2.2.1,v3.2.2.2.2.2.2.1,v3.2.2.2.2.2.2.2.1,v3.2.2.2.2.2.2.2.2.1,v3.2.2.2.2.2.2.2.2.2.1,v3.2.2.2.2.2.2.2.2.2.2.1,v3.2.2.2.2.2.2.2.2.2.2.2,()),()),(v4,v5,()))
abbrev yLN (v0 v1:Int) (v2:dA) (v3 v4:List Int):(ygo).X:=(((v0,()),((),()),((),()),((),()),(v1,()),((),()),()),((v2.1,v2.2.1.1,v2.2.1.2,v2.2.2.1,v2.2.2.2.1,v2.2.2.2.2.1,v2.2.2.2.2.2.1,v2.2.2.2.2.2.2.1,v2.2.2.2.2.2.2.2.1,v2.2.2.2.2.2.2.2.2.1,v2.2.2.2.2.2.2.2.2.2.1,v2.2.2.2.2.2.2.2.2.2.2.1,v2.2.2.2.2.2.2.2.2.2.2.2,()),()),(v3,v4,()))
abbrev yzs (v0:List Int):(yga).X:=((((),()),()),(),(v0,()))
def yoB (v0 v1 v2 v3 v4 v5:Int) (v6:List dM) (v7 v8 v9 v10 v11:Int) (v12:List dW) (v13:Int) (v14 v15:Bool) (v16 v17:List Int):Option ((yca).X ⊕ ((yga).X ⊕ (yjQ).X)) :=bif(ltb v2 v1)then let r3:=yf2 (v4,v5) v0 v2;bif(inb r3 v16.length)then bif(zkj v17.length ([(nth v16 r3 0)]:List Int).length 8)then some (.inl (((v0,()),((),()),((),()),((),()),(v1,()),((i64.wrap (v2+1)),()),()),((v3,v4,v5,v6,v7,v8,v9,v10,v11,v12,v13,v14,v15,()),()),(v16,(v17++([(nth v16 r3 0)]:List Int)),()))) else none else none else some (.inr (.inl ((((),()),()),(),(v17,()))))
def ycv (x:(yca).X):=yoB x.1.1.1 x.1.2.2.2.2.1.1 x.1.2.2.2.2.2.1.1 x.2.1.1.1 x.2.1.1.2.1 x.2.1.1.2.2.1 x.2.1.1.2.2.2.1 x.2.1.1.2.2.2.2.1 x.2.1.1.2.2.2.2.2.1 x.2.1.1.2.2.2.2.2.2.1 x.2.1.1.2.2.2.2.2.2.2.1 x.2.1.1.2.2.2.2.2.2.2.2.1 x.2.1.1.2.2.2.2.2.2.2.2.2.1 x.2.1.1.2.2.2.2.2.2.2.2.2.2.1 x.2.1.1.2.2.2.2.2.2.2.2.2.2.2.1 x.2.1.1.2.2.2.2.2.2.2.2.2.2.2.2.1 x.2.2.1 x.2.2.2.1
def yyV (x:(ygo).X):(yca).X:=(((x.1.1.1,()),((),()),((),()),((),()),(x.1.2.2.2.2.1.1,()),(0,()),()),((x.2.1.1.1,x.2.1.1.2.1,x.2.1.1.2.2.1,x.2.1.1.2.2.2.1,x.2.1.1.2.2.2.2.1,x.2.1.1.2.2.2.2.2.1,x.2.1.1.2.2.2.2.2.2.1,x.2.1.1.2.2.2.2.2.2.2.1,x.2.1.1.2.2.2.2.2.2.2.2.1,x.2.1.1.2.2.2.2.2.2.2.2.2.1,x.2.1.1.2.2.2.2.2.2.2.2.2.2.1,x.2.1.1.2.2.2.2.2.2.2.2.2.2.2.1,x.2.1.1.2.2.2.2.2.2.2.2.2.2.2.2.1,()),()),(x.2.2.1,x.2.2.2.1,()))
def yBr:Code:=(zeJ yrj 64 500).getD .skip
theorem yNj:zeJ yrj 64 125=some (.block 0 (.loop yBr)):=by kernel_rfl
theorem yPe (x:(yca).X):zhu ⟨yzW,39,yFM⟩ 0 yBr 500 yca yga yjQ x=ycv x:=by kernel_rfl
def yzc (x:(ygo).X):Nat:=18446744073709551616
def ypS (x:(ygo).X):Option ((yga).X ⊕ (yjQ).X):=zF ycv (yzc x) (yyV x)
def yzG:Seg:=⟨ygo,yga,yjQ,ypS⟩
def yTB:Nat→Option Seg:=fun q=>bif Nat.beq q 125 then some yzG else yFM q
theorem yQr:FrOk prog ⟨yzW,39,yTB⟩ yrj:=(yQq).loop (sg:=yzG) yca yyV (by decide) yNj ycv yzc (by decide) (fun _=>rfl) (fun x r _ h=>h) yPe
abbrev yrs:List Par:= [.rd tA,.rd tI]
abbrev yAt:List OT:= [⟨false,tL,(.ow .fz)⟩,⟨false,tB,.fz⟩]
def yvy (a0:dA) (a1:Int):Option (zaY yAt×zak yrs) :=let r1:=yop a0 a1;bif(!r1.2)then some (([],false,()),()) else zkr (ypS (((a1,()),((),()),((),()),((),()),((i64.wrap (a0.2.1.1-1)),()),((),()),()),((a0.1,a0.2.1.1,a0.2.1.2,a0.2.2.1,a0.2.2.2.1,a0.2.2.2.2.1,a0.2.2.2.2.2.1,a0.2.2.2.2.2.2.1,a0.2.2.2.2.2.2.2.1,a0.2.2.2.2.2.2.2.2.1,a0.2.2.2.2.2.2.2.2.2.1,a0.2.2.2.2.2.2.2.2.2.2.1,a0.2.2.2.2.2.2.2.2.2.2.2,()),()),(r1.1,([]:List Int),()))) (fun y3 =>some ((y3.2.2.1,true,()),())) (fun y3 =>none)
theorem yVM:ConOk prog 68 ⟨yrs,yAt,fun x=>yvy x.1 x.2.1⟩:=zkG (yQr) func68 ntmps68.symm fun x=>by kernel_rfl
def ylZ (a0:dA) (a1:Int):List Int×Bool:=ydU a0 a1
theorem yYe (a0:dA) (a1:Int) (hk:zjw yrs (a0,a1,())):yvy a0 a1=(fun n=>some ((n.1,n.2,()),())) (ylZ a0 a1):=by
 unfold yvy ylZ ydU yop;cases hc:(yae a0&&(!a0.2.2.2.2.2.2.2.2.2.2.2&&yN a0.2.1 a1))
 ·rfl
 simp only[Bool.and_eq_true]at hc;have hg:=yl.1 (yi7 hc.1);have hs:=hc.2.2;unfold yrL;simp only[cond_true];cases hw:(yR a0 a1).2
 ·rfl
 ·have hL:=yMK hw
  have h1:ypS (yLN a1 (a0.2.1.1-1) a0 (yR a0 a1).1 [])=some (.inl (yzs ((List.range (a0.2.1.1-1).toNat).foldl (fun l (i:Nat)=>l++ [nth (yR a0 a1).1 (yaV a0.2.1 a1 i) 0]) []))) :=
   zkB (step:=ycv) (a0.2.1.1-1).toNat (fun i s=>yoc a1 (a0.2.1.1-1) i a0 (yR a0 a1).1 s) (fun l (i:Nat)=>l++ [nth (yR a0 a1).1 (yaV a0.2.1 a1 i) 0]) (fun i s=>s.length=i) (fun s=> .inl (yzs s)) (fun i s hi hs2=>⟨by
    have hd:=yMP hs (show(0:Int)≤i by omega) (show(i:Int)≤a0.2.1.1-2 by omega);simp only[ycv,yoc,yoB,zkw (show(i:Int)<a0.2.1.1-1 by omega),cond_true,wq ((i:Int)+1) (by omega) (by omega),Int.natCast_add,Int.natCast_one,Int.toNat_natCast,zkV,yf2,zj4.2 (show 0≤yaV a0.2.1 a1 i∧yaV a0.2.1 a1 i<(yR a0 a1).1.length by omega)]
    rw[zkD.2 (show(s.length+ [nth (yR a0 a1).1 (yaV a0.2.1 a1 i) 0].length)*8≤140737488355328 by simp only[List.length_cons,List.length_nil]; omega)]; rfl,by simp[hs2]⟩) (fun s hs2=>by simp only[ycv,yoc,yoB,zk1 (show a0.2.1.1-1≤((a0.2.1.1-1).toNat:Int)by omega),cond_false]) [] rfl _ (by show _<18446744073709551616; omega)
  simp only[wq (a0.2.1.1-1) (by omega) (by omega)];rw[h1,yps]; rfl
def yGe:Con:=⟨yrs,yAt,fun x=>(fun n=>some ((n.1,n.2,()),())) (ylZ x.1 x.2.1)⟩
theorem yY8:ConOk prog 68 yGe:=(yVM).mono (fun x r hk h=>(yYe x.1 x.2.1 hk).trans h)
def yoS:Code:=(f54.body).getD .skip
def ywQ:Env:=zku TT [(68,yGe),(123,ygV)] []
theorem yNA:FrOk prog ⟨ywQ,32,fun _=>none⟩ yoS:=zky yf yg ⟨yY8,yl9,trivial⟩
def yC6:Nat→Option Seg:=fun _=>none
def ycb:Shape:=⟨[(1,false,[.ptr 0 0]),(3,false,[.at 800000000]),(15,false,[.int .i64]),(16,false,[.int .i64])],[(0,[.int .i64,.int .i64,.int .i64,.br tM,.int .i64,.int .i64,.int .i64,.int .i64,.int .i64,.br tW,.int .i64,.bool,.bool])],[(800000000,tI,.fz)]⟩
def ygp:Shape:=⟨[(1,false,[.ptr 0 0]),(3,false,[.at 800000000]),(15,false,[.int .i64]),(16,false,[.ci .i64 0])],[(0,[.int .i64,.int .i64,.int .i64,.br tM,.int .i64,.int .i64,.int .i64,.int .i64,.int .i64,.br tW,.int .i64,.bool,.bool])],[(800000000,tI,.fz)]⟩
def ygb:Shape:=⟨[(3,false,[.at 800000000])],[],[(800000000,tI,.fz)]⟩
def ygD:Shape:=⟨[(2,false,[.nil])],[],[]⟩
abbrev yod (v0 v1:Int) (v2:dA) (v3:List Int):(ycb).X:=((((),()),((),()),(v0,()),(v1,()),()),((v2.1,v2.2.1.1,v2.2.1.2,v2.2.2.1,v2.2.2.2.1,v2.2.2.2.2.1,v2.2.2.2.2.2.1,v2.2.2.2.2.2.2.1,v2.2.2.2.2.2.2.2.1,v2.2.2.2.2.2.2.2.2.1,v2.2.2.2.2.2.2.2.2.2.1,v2.2.2.2.2.2.2.2.2.2.2.1,v2.2.2.2.2.2.2.2.2.2.2.2,()),()),(v3,()))
abbrev yLO (v0:Int) (v1:dA) (v2:List Int):(ygp).X:=((((),()),((),()),(v0,()),((),()),()),((v1.1,v1.2.1.1,v1.2.1.2,v1.2.2.1,v1.2.2.2.1,v1.2.2.2.2.1,v1.2.2.2.2.2.1,v1.2.2.2.2.2.2.1,v1.2.2.2.2.2.2.2.1,v1.2.2.2.2.2.2.2.2.1,v1.2.2.2.2.2.2.2.2.2.1,v1.2.2.2.2.2.2.2.2.2.2.1,v1.2.2.2.2.2.2.2.2.2.2.2,()),()),(v2,()))
abbrev yzt (v0:List Int):(ygb).X:=((((),()),()),(),(v0,()))
abbrev yL1  :(ygD).X:=((((),()),()),(),())
def yoC (v0 v1 v2 v3 v4:Int) (v5:List dM) (v6 v7 v8 v9 v10:Int) (v11:List dW) (v12:Int) (v13 v14:Bool) (v15:List Int):Option ((ycb).X ⊕ ((ygb).X ⊕ (ygD).X)) :=bif(ltb v1 v0)then let r3:=ylZ (v2,(v3,v4),v5,v6,v7,v8,v9,v10,v11,v12,v13,v14) v1;bif(!r3.2)then some (.inr (.inr ((((),()),()),(),()))) else bif(zkj v15.length r3.1.length 8)then some (.inl ((((),()),((),()),(v0,()),((i64.wrap (v1+1)),()),()),((v2,v3,v4,v5,v6,v7,v8,v9,v10,v11,v12,v13,v14,()),()),((v15++r3.1),()))) else none else some (.inr (.inl ((((),()),()),(),(v15,()))))
def ycw (x:(ycb).X):=yoC x.1.2.2.1.1 x.1.2.2.2.1.1 x.2.1.1.1 x.2.1.1.2.1 x.2.1.1.2.2.1 x.2.1.1.2.2.2.1 x.2.1.1.2.2.2.2.1 x.2.1.1.2.2.2.2.2.1 x.2.1.1.2.2.2.2.2.2.1 x.2.1.1.2.2.2.2.2.2.2.1 x.2.1.1.2.2.2.2.2.2.2.2.1 x.2.1.1.2.2.2.2.2.2.2.2.2.1 x.2.1.1.2.2.2.2.2.2.2.2.2.2.1 x.2.1.1.2.2.2.2.2.2.2.2.2.2.2.1 x.2.1.1.2.2.2.2.2.2.2.2.2.2.2.2.1 x.2.2.1
def yyW (x:(ygp).X):(ycb).X:=((((),()),((),()),(x.1.2.2.1.1,()),(0,()),()),((x.2.1.1.1,x.2.1.1.2.1,x.2.1.1.2.2.1,x.2.1.1.2.2.2.1,x.2.1.1.2.2.2.2.1,x.2.1.1.2.2.2.2.2.1,x.2.1.1.2.2.2.2.2.2.1,x.2.1.1.2.2.2.2.2.2.2.1,x.2.1.1.2.2.2.2.2.2.2.2.1,x.2.1.1.2.2.2.2.2.2.2.2.2.1,x.2.1.1.2.2.2.2.2.2.2.2.2.2.1,x.2.1.1.2.2.2.2.2.2.2.2.2.2.2.1,x.2.1.1.2.2.2.2.2.2.2.2.2.2.2.2.1,()),()),(x.2.2.1,()))
def yBs:Code:=(zeJ yoS 64 244).getD .skip
theorem yNk:zeJ yoS 64 61=some (.block 0 (.loop yBs)):=by kernel_rfl
theorem yPf (x:(ycb).X):zhu ⟨ywQ,32,yC6⟩ 0 yBs 244 ycb ygb ygD x=ycw x:=by kernel_rfl
def yzd (x:(ygp).X):Nat:=18446744073709551616
def ypT (x:(ygp).X):Option ((ygb).X ⊕ (ygD).X):=zF ycw (yzd x) (yyW x)
def yzH:Seg:=⟨ygp,ygb,ygD,ypT⟩
def yPO:Nat→Option Seg:=fun q=>bif Nat.beq q 61 then some yzH else yC6 q
theorem yNB:FrOk prog ⟨ywQ,32,yPO⟩ yoS:=(yNA).loop (sg:=yzH) ycb yyW (by decide) yNk ycw yzd (by decide) (fun _=>rfl) (fun x r _ h=>h) yPf
abbrev yo5:List Par:= [.rd tA]
abbrev yxi:List OT:= [⟨false,tL,(.ow .fz)⟩]
def ysz (a0:dA):Option (zaY yxi×zak yo5) :=let r1:=ybP a0.2.1;bif(!r1)then some ((([]:List Int),()),()) else zkr (ypT ((((),()),((),()),(a0.2.1.2,()),((),()),()),((a0.1,a0.2.1.1,a0.2.1.2,a0.2.2.1,a0.2.2.2.1,a0.2.2.2.2.1,a0.2.2.2.2.2.1,a0.2.2.2.2.2.2.1,a0.2.2.2.2.2.2.2.1,a0.2.2.2.2.2.2.2.2.1,a0.2.2.2.2.2.2.2.2.2.1,a0.2.2.2.2.2.2.2.2.2.2.1,a0.2.2.2.2.2.2.2.2.2.2.2,()),()),(([]:List Int),()))) (fun y3 =>some ((y3.2.2.1,()),())) (fun y3 =>some (([],()),()))
theorem ySa:ConOk prog 54 ⟨yo5,yxi,fun x=>ysz x.1⟩:=zkG (yNB) func54 ntmps54.symm fun x=>by kernel_rfl
def yg0 (a0:dA):List Int:=yxP a0
theorem yVh (a0:dA) (hk:zjw yo5 (a0,())):ysz a0=(fun n=>some ((n,()),())) (yg0 a0):=by
 unfold ysz yg0 yxP;rw[yLx];cases hg0:yd a0.2.1
 ·rw[show yae a0=false by unfold yae; rw[hg0]; rfl]; rfl
 have hg:=yl.1 hg0
 have h1:ypT (yLO a0.2.1.2 a0 [])=some (bif(List.range a0.2.1.2.toNat).all (fun(s:Nat)=>(ydU a0 s).2)then .inl (yzt ((List.range a0.2.1.2.toNat).foldl (fun l (s:Nat)=>l++(ydU a0 s).1) []))else .inr (yL1)) :=
  zhU (step:=ycw) a0.2.1.2.toNat (fun i s=>yod a0.2.1.2 i a0 s) (fun(s:Nat)=>(ydU a0 s).2) (fun l (s:Nat)=>l++(ydU a0 s).1) (fun i s=>s.length≤4*i) (fun s=> .inl (yzt s)) _ (fun i s hi hs=>by
   have:=y37 i hg0;refine⟨?_,fun _=>by rw[List.length_append]; omega⟩;simp only[ycw,yod,yoC,zkw (show(i:Int)<a0.2.1.2 by omega),cond_true,wq ((i:Int)+1) (by omega) (by omega),Int.natCast_add,Int.natCast_one,Int.toNat_natCast,zkV,ylZ,zkD.2 (show(s.length+(ydU a0 i).1.length)*8≤140737488355328 by omega)]
   cases(ydU a0 i).2<;>rfl) (fun s hs=>by simp only[ycw,yod,yoC,zk1 (show a0.2.1.2≤(a0.2.1.2.toNat:Int)by omega),cond_false]) [] (Nat.zero_le _) _ (by show _<18446744073709551616; omega)
 rw[h1,yZT];cases ha:yae a0
 ·have:(List.range a0.2.1.2.toNat).all (fun(s:Nat)=>(ydU a0 s).2)=false:=by
   rw[List.all_eq_false];refine⟨0,List.mem_range.2 (by omega),?_⟩;unfold ydU;rw[ha]; simp
  rw[this]; rfl
 ·cases(List.range a0.2.1.2.toNat).all (fun(s:Nat)=>(ydU a0 s).2)<;>rfl
def yEc:Con:=⟨yo5,yxi,fun x=>(fun n=>some ((n,()),())) (yg0 x.1)⟩
theorem yWp:ConOk prog 54 yEc:=(ySa).mono (fun x r hk h=>(yVh x.1 hk).trans h)
def y4B:Code:=(f57.body).getD .skip
def y4C:Env:=zku TT [] []
theorem y2x:FrOk prog ⟨y4C,21,fun _=>none⟩ y4B:=zky yf yg trivial
abbrev yKB:List Par:= [.rd tYs,.rd tI]
abbrev yKC:List OT:= [⟨false,tI,.fz⟩]
def yjE (a0:List Int) (a1:Int):Option (zaY yKC×zak yKB) :=bif(ltb a1 (a0.length:Int))then bif(inb a1 a0.length)then some (((i64.wrap (nth a0 a1 0)),()),()) else none else some ((((i64.wrap ((i64.wrap (a1*31))+(i64.wrap ((a0.length:Int)*7)))).tmod 256),()),())
theorem y3q:ConOk prog 57 ⟨yKB,yKC,fun x=>yjE x.1 x.2.1⟩:=zkG (y2x) func57 ntmps57.symm fun x=>by kernel_rfl
def yPu:Con:=⟨yKB,yKC,fun x=>yjE x.1 x.2.1⟩
theorem y4o:ConOk prog 57 yPu:=y3q
def atV (a0:List Int) (i:Int):Int:=bif ltb i (a0.length:Int)then nth a0 i 0 else(i*31+(a0.length:Int)*7).tmod 256
theorem y1V {a0:List Int} {i:Int} (hb:a0.length≤140737488355328) (hx: ∀x∈a0,0≤x∧x≤255) (i0:0≤i) (i1:i≤1000):yjE a0 i=some ((atV a0 i,()),())∧0≤atV a0 i∧atV a0 i≤255:=by
 unfold yjE atV;by_cases h:i<(a0.length:Int)
 ·have hi:inb i a0.length=true:=zj4.2 ⟨i0,h⟩
  have hr:=yxU (P:=fun x:Int=>0≤x∧x≤255) (d:=0) hi hx;rw[zkw h,hi,wq (nth a0 i 0) (by omega) (by omega)];exact⟨rfl,hr⟩
 ·rw[zk1 (by omega),cond_false,cond_false,wq (i*31) (by omega) (by omega),wq ((a0.length:Int)*7) (by omega) (by omega),wq (i*31+(a0.length:Int)*7) (by omega) (by omega)]
  refine⟨rfl,Int.tmod_nonneg _ (by omega),?_⟩;have:=Int.tmod_lt_of_pos (i*31+(a0.length:Int)*7) (show(0:Int)<256 by omega);omega
theorem y35 {a0:List Int} (h:Ty.Ok (.sl (.int .u8)) a0): ∀x∈a0,0≤x∧x≤255:=fun x hx=>h.2 x hx
theorem y5p {k:Int} {V:Int→Int→Int} {a:dA} {s:Int} {d:List Int} (h:Ix k V a) (hk:k<59990) (hs:yN a.2.1 s=true) (hl:(d.length:Int)=a.2.1.1-1) (hd:d.all isW=true):yO a s d=0:=by
 have h1:=yW.1 hs;have hg:=yl.1 h1.1;have:=h.xg;have:=h.xs;unfold yO;simp only[ycT,yih,ybU,yU1 h,hd,show a.2.2.2.2.2.2.2.2.2.2.1=false from h.xu,h.xb,wq (a.2.1.1-1) (by omega) (by omega),wq (a.2.1.2-1) (by omega) (by omega),hl,bne_self_eq_false,zk0 h1.2.1,zk0 h1.2.2,zkZ (show a.2.2.2.2.2.1<60000 by omega),zkZ (show a.2.2.2.2.2.2.2.1<59990 by omega)];rfl
theorem y5J {N p i:Int} (h:3≤N∧N≤5) (hp:0≤p∧p≤N-1) (hi:0≤i∧i≤N-2):(p+1+i).tmod N≠p∧((p+1+i).tmod N-p-1+N).tmod N=i:=by
 have e1:(p+1+i).tmod N=(p+1+i) % N:=Int.tmod_eq_emod_of_nonneg (by omega);rw[e1];have h0:0≤(p+1+i) % N∧(p+1+i) % N<N:=⟨Int.emod_nonneg _ (by omega),Int.emod_lt_of_pos _ (by omega)⟩;rw[Int.tmod_eq_emod_of_nonneg (by omega)];have:N=3∨N=4∨N=5:=by omega
 rcases this with rfl | rfl | rfl<;>omega
theorem y4K {g:dG} {s i:Int} (hs:yN g s=true) (h0:0≤i) (h1:i≤g.1-2):yaV g s i=(yk g s+1+i).tmod g.1:=by
 unfold yaV;rw[hs,zk0 h0,zk0 h1]; rfl
theorem y33 {V:Int→Int→Int} {g:dG} {s:Int} {d:List Int} (hs:yN g s=true) (hl:(d.length:Int)=g.1-1):yeO (ycV V g s d) g s=d:=by
 have hg:=yl.1 (yW.1 hs).1;have hp:=yju hs;refine List.ext_getElem (by rw[yyx]; omega) fun i h1 h2=> ?_
 rw[yyx]at h1;have hdi:=yMP hs (show(0:Int)≤(i:Int)by omega) (show(i:Int)≤g.1-2 by omega);have e:(yeO (ycV V g s d) g s)[i]'(by rw[yyx]; exact h1)=nth (ye9 (ycV V g s d) g.1 s) (yaV g s i) 0:=by unfold yeO; simp
 rw[e,yTi _ hdi.1 (by omega)];obtain⟨r1,r2⟩:=y5J (i:=(i:Int)) hg.1 hp (by omega);unfold ycV yco;rw[beq_self_eq_true,cond_true,y4K hs (by omega) (by omega),show((yk g s+1+(i:Int)).tmod g.1==yk g s)=false from beq_eq_false_iff_ne.2 r1,cond_false,r2,zkQ,zkH h2]
theorem y2s {V:Int→Int→Int} {g:dG} {s t:Int} {d:List Int} (hts:t≠s):yeO (ycV V g s d) g t=yeO V g t:=by
 unfold yeO ye9 ycV;rw[show(t==s)=false from beq_eq_false_iff_ne.2 hts]; rfl
theorem y36 {a0:List Int} (hb:a0.length≤140737488355328) (hx: ∀x∈a0,0≤x∧x≤255) (f:Int) (h0:0≤f) (h1:f≤257) (j n:Nat) (hn:n+j≤900):((List.range n).map (fun(i:Nat)=>atV a0 ((i:Int)+j)*f)).all isW=true:=by
 rw[yC0];intro x hx';obtain⟨i,hi,rfl⟩:=List.mem_map.1 hx';have hi:=List.mem_range.1 hi;obtain⟨_,a1,a2⟩:=y1V (i:=(i:Int)+j) hb hx (by omega) (by omega);refine ypu.2 ⟨Int.mul_nonneg a1 h0,?_⟩;have:=Int.mul_le_mul a2 h1 h0 (by omega:(0:Int)≤255);omega
theorem y3C {f:Nat→List Int} {c:Nat} (hc:0<c) (h: ∀i,(f i).length=c): ∀n,((List.range n).flatMap f).length=c*n∧ ∀b:Nat,b<c*n→nth ((List.range n).flatMap f) b 0=nth (f (b / c)) ((b % c:Nat):Int) 0
 | 0=>⟨by simp,fun b hb=>by simp at hb⟩
 | n+1=>by
  obtain⟨h1,h2⟩:=y3C hc h n
  have e:(List.range (n+1)).flatMap f=(List.range n).flatMap f++f n:=by
   rw[List.range_succ,List.flatMap_append]; simp
  rw[e];refine⟨by rw[List.length_append,h1,h n,Nat.mul_succ],fun b hb=> ?_⟩;rw[zkQ,List.getD_eq_getElem?_getD];by_cases hlt:b<c*n
  ·rw[List.getElem?_append_left (by rw[h1]; exact hlt),← List.getD_eq_getElem?_getD,← zkQ,h2 b hlt]
  ·rw[Nat.mul_succ]at hb
   have hd:b / c=n:=by
    rw[Nat.div_eq_of_lt_le]
    ·rw[Nat.mul_comm]; omega
    ·rw[Nat.mul_comm,Nat.mul_succ]; omega
   have hm:b % c=b-c*n:=by
    have:=Nat.div_add_mod b c;rw[hd]at this; omega
   rw[List.getElem?_append_right (by rw[h1]; omega),h1,hd,hm,zkQ,List.getD_eq_getElem?_getD]
def yeN (V:Int→Int→Int) (g:dG):List Int:=(List.range g.2.toNat).flatMap (fun(s:Nat)=>yeO V g s)
theorem yxF {V:Int→Int→Int} {g:dG} (hg:yd g=true):((yeN V g).length:Int)=yn g∧ ∀b:Nat,(b:Int)<yn g→ye7 g b=true∧(0≤yY g b∧yY g b<g.2)∧(0≤ybV g b∧ybV g b<g.1-1)∧nth (yeN V g) b 0=nth (yeO V g (yY g b)) (ybV g b) 0:=by
 have h1:=yl.1 hg;obtain⟨f1,f2⟩:=y3C (f:=fun(s:Nat)=>yeO V g s) (c:=(g.1-1).toNat) (by omega) (fun i=>yyx V g i) g.2.toNat
 have hB:yn g=(((g.1-1).toNat*g.2.toNat:Nat):Int):=by
  rw[yyn hg,Int.natCast_mul,Int.mul_comm,show(((g.1-1).toNat:Nat):Int)=g.1-1 by omega,show((g.2.toNat:Nat):Int)=g.2 by omega]
 refine⟨by rw[hB]; unfold yeN; rw[f1],fun b hb=> ?_⟩
 have hok:ye7 g b=true:=by
  unfold ye7;rw[zk0 (show(0:Int)≤b by omega),zk0 (show(b:Int)≤yn g-1 by omega)]; rfl
 obtain⟨_,b1,b2⟩:=yn1 hok
 have e1:yY g b=((b / (g.1-1).toNat:Nat):Int):=by
  unfold yY;rw[hok,cond_true,Int.tdiv_eq_ediv_of_nonneg (by omega),Int.natCast_ediv,show(((g.1-1).toNat:Nat):Int)=g.1-1 by omega]
 have e2:ybV g b=((b % (g.1-1).toNat:Nat):Int):=by
  unfold ybV;rw[hok,cond_true,Int.tmod_eq_emod_of_nonneg (by omega),Int.natCast_emod,show(((g.1-1).toNat:Nat):Int)=g.1-1 by omega]
 have e3:yY g b=(b:Int).tdiv (g.1-1):=by unfold yY; rw[hok]; rfl
 have e4:ybV g b=(b:Int).tmod (g.1-1):=by unfold ybV; rw[hok]; rfl
 refine⟨hok,by rw[e3]; omega,by rw[e4]; omega,?_⟩;have hlt:(b:Int)<(((g.1-1).toNat*g.2.toNat:Nat):Int):=by omega
 have:=f2 b (by omega);unfold yeN;rw[this,e1,e2]
def yMY (g:dG) (s:Int) (d before after:List Int) (p:Bool×Bool) (b:Nat):Bool×Bool :=bif yY g b !=s then p else(p.1&&(nth after b 0==nth before b 0),p.2&&(nth after b 0==nth d (ybV g b) 0))
theorem yZ6 {V W:Int→Int→Int} {g:dG} {s:Int} {d:List Int} (hg:yd g=true) (hs:yN g s=true) (hl:(d.length:Int)=g.1-1) (hW:W=V∨W=ycV V g s d): ∀n:Nat,(n:Int)≤yn g →
  (W=V→((List.range n).foldl (yMY g s d (yeN V g) (yeN W g)) (true,true)).1=true)∧(W=ycV V g s d→((List.range n).foldl (yMY g s d (yeN V g) (yeN W g)) (true,true)).2=true)
 | 0,_=>⟨fun _=>rfl,fun _=>rfl⟩
 | n+1,hn=>by
  obtain⟨h1,h2⟩:=yZ6 hg hs hl hW n (by omega);obtain⟨_,a1⟩:=yxF (V:=V) hg;obtain⟨_,a2⟩:=yxF (V:=W) hg;obtain⟨b1,b2,b3,b4⟩:=a1 n (by omega);obtain⟨_,_,_,b5⟩:=a2 n (by omega);rw[List.range_succ,List.foldl_append,List.foldl_cons,List.foldl_nil];generalize (List.range n).foldl (yMY g s d (yeN V g) (yeN W g)) (true,true)=p at h1 h2;unfold yMY;cases hx:(yY g n !=s)
  ·have hx:=bne_eq_false_iff_eq.1 hx
   refine⟨fun e=> ?_,fun e=> ?_⟩
   ·rw[cond_false,h1 e,e,beq_self_eq_true]; rfl
   ·rw[cond_false,h2 e,b5,e,hx,y33 hs hl,beq_self_eq_true]; rfl
  ·exact⟨h1,h2⟩
theorem y4v {V W:Int→Int→Int} {g:dG} {s:Int} {d:List Int} (hg:yd g=true) (hW:W=V∨W=ycV V g s d) {b:Nat} (hb:(b:Int)<yn g) (hx:(yY g b !=s)=true):nth (yeN W g) b 0=nth (yeN V g) b 0:=by
 obtain⟨_,a1⟩:=yxF (V:=V) hg;obtain⟨_,a2⟩:=yxF (V:=W) hg;rw[(a1 b hb).2.2.2,(a2 b hb).2.2.2];rcases hW with rfl | rfl
 ·rfl
 ·rw[y2s (bne_iff_ne.1 hx)]
theorem y5X {K s:Int} {d:List Int} {V:Int→Int→Int} {a:dA} (h:Lv K V a) (hs:yN a.2.1 s=true) (hl:(d.length:Int)=a.2.1.1-1) (hd:d.all isW=true) (hq:a.2.2.2.2.2.1<60000) (hk:K+1≤60000) :
  Dd (K+2) (fun W=>W=ycV V a.2.1 s d∨(W=V∧(yA a s d).1≠0)) (yA a s d).2:=by
 obtain⟨h1,h2⟩:=y2J h hs hl hd hq hk;generalize yA a s d=X at h1 h2;rcases Bool.eq_false_or_eq_true (ya X.2)with hu | hu
 ·obtain⟨g1,g2⟩:=h2 hu
  refine ymh g1 (Int.le_refl _) fun W hW=> ?_
  rcases hW with hW | hW
  ·exact .inr ⟨hW,g2⟩
  ·exact .inl hW
 ·obtain⟨B0,hr⟩:=(h1 hu).1.r
  exact ymh (yW5 hr (h1 hu).1.x.xg (h1 hu).1.x.xs) (Int.le_refl _) fun W hW=> .inl hW
def yM1:Code:=(f130.body).getD .skip
def yNe:Env:=zku TT [(97,ymr),(98,yn3),(99,yn2),(158,yaM)] []
theorem yIK:FrOk prog ⟨yNe,44,fun _=>none⟩ yM1:=zky yf yg ⟨yzA,yCr,yCq,ybQ,trivial⟩
abbrev ydZ:List Par:= [.pt tA (.pr .fz (.pr (.pr .fz .fz) (.pr (.ow (.pr (.ow (.ow .fz)) (.pr (.ow (.pr .fz (.ow .fz))) (.pr .fz (.ow .fz))))) (.pr .fz (.pr .fz (.pr .fz (.pr .fz (.pr .fz (.pr (.ow (.pr .fz (.ow .fz))) (.pr .fz (.pr .fz .fz))))))))))),.rd tI,.rd tL]
abbrev ygB:List OT:= [⟨false,tB,.fz⟩]
def ymF (a0:dA) (a1:Int) (a2:List Int):Option (zaY ygB×zak ydZ) :=bif(leb 4 (i64.wrap (a0.2.2.2.2.2.1-a0.2.2.2.2.2.2.1)))then bnd (yhM a0) fun r1 =>bif(!r1.1.1)then some ((false,()),(r1.2.1,())) else let r2:=yx a2;bnd (ybh r1.2.1 (r1.2.1.2.2.2.2.2.1,a1,r2)) fun r3 =>bif(!r3.1.1)then some ((false,()),(r3.2.1,())) else bnd (ya5 (r3.2.1.1,r3.2.1.2.1,r3.2.1.2.2.1,r3.2.1.2.2.2.1,r3.2.1.2.2.2.2.1,(i64.wrap (r3.2.1.2.2.2.2.2.1+1)),r3.2.1.2.2.2.2.2.2) a1 a2) fun r4 =>some ((r4.1.1,()),(r4.2.1,())) else let r5:=yx a2;bnd (ybh a0 (a0.2.2.2.2.2.1,a1,r5)) fun r6 =>bif(!r6.1.1)then some ((false,()),(r6.2.1,())) else bnd (ya5 (r6.2.1.1,r6.2.1.2.1,r6.2.1.2.2.1,r6.2.1.2.2.2.1,r6.2.1.2.2.2.2.1,(i64.wrap (r6.2.1.2.2.2.2.2.1+1)),r6.2.1.2.2.2.2.2.2) a1 a2) fun r7 =>some ((r7.1.1,()),(r7.2.1,()))
theorem yKe:ConOk prog 130 ⟨ydZ,ygB,fun x=>ymF x.1 x.2.1 x.2.2.1⟩:=zkG (yIK) func130 ntmps130.symm fun x=>by kernel_rfl
def ygL (a0:dA) (a1:Int) (a2:List Int):Bool×dA:=(!(ya (yA a0 a1 a2).2),(yA a0 a1 a2).2)
def ygN (a0:dA) (a1:Int) (a2:List Int):Bool:= !(ya a0)&&(yN a0.2.1 a1&&((a2.length:Int)==a0.2.1.1-1&&(a0.2.2.1.length:Int)==a0.2.1.1))
theorem yL8 (a0:dA) (a1:Int) (a2:List Int) (hk:zjw ydZ (a0,a1,a2,())) (hq:ygN a0 a1 a2=true):ymF a0 a1 a2=(fun n=>some ((n.1,()),(n.2,()))) (ygL a0 a1 a2):=by
 simp only[ygN,Bool.and_eq_true,beq_iff_eq,Bool.not_eq_true']at hq;obtain⟨hd0,hs0,hl0,hm0⟩:=hq
 have key: ∀b:dA,b.2.1=a0.2.1→b.2.2.1.length=a0.2.2.1.length→ya (yp b (b.2.2.2.2.2.1,a1,a2))=false→ya5 (yC (yp b (b.2.2.2.2.2.1,a1,a2))) a1 a2=some ((!(ya (yB (yC (yp b (b.2.2.2.2.2.1,a1,a2))) a1 a2)),()),(yB (yC (yp b (b.2.2.2.2.2.1,a1,a2))) a1 a2,())):=fun b h1 h2 h3=>yCt _ _ _ (by
  unfold yeX;rw[show ya (yC (yp b (b.2.2.2.2.2.1,a1,a2)))=ya (yp b (b.2.2.2.2.2.1,a1,a2))from rfl,h3,show(yC (yp b (b.2.2.2.2.2.1,a1,a2))).2.1=a0.2.1 from(yag (ya6 _ _)).trans h1,show(yC (yp b (b.2.2.2.2.2.1,a1,a2))).2.2.1.length=a0.2.2.1.length from(yIv _ _).trans h2,hs0,hl0,hm0]
  simp)
 have fin: ∀b:dA,b.2.1=a0.2.1→b.2.2.1.length=a0.2.2.1.length→ya b=false →
   (bnd (ybh b (b.2.2.2.2.2.1,a1,a2)) fun r3=>bif !r3.1.1 then some ((false,()),(r3.2.1,()))else bnd (ya5 (yC r3.2.1) a1 a2) fun r4=>(some ((r4.1.1,()),(r4.2.1,())):Option (zaY ygB×zak ydZ))) =
   some ((!(ya (bif ya (yp b (b.2.2.2.2.2.1,a1,a2))then(6,yp b (b.2.2.2.2.2.1,a1,a2))else(bif ya (yB (yC (yp b (b.2.2.2.2.2.1,a1,a2))) a1 a2)then 6 else 0,yB (yC (yp b (b.2.2.2.2.2.1,a1,a2))) a1 a2):Int×dA).2),()),((bif ya (yp b (b.2.2.2.2.2.1,a1,a2))then(6,yp b (b.2.2.2.2.2.1,a1,a2))else(bif ya (yB (yC (yp b (b.2.2.2.2.2.1,a1,a2))) a1 a2)then 6 else 0,yB (yC (yp b (b.2.2.2.2.2.1,a1,a2))) a1 a2):Int×dA).2,())):=fun b h1 h2 h3=>by
  rw[yzC b _ (by unfold yd4; rw[h3]; rfl)];have hk:=key b h1 h2;simp only[zkF,ygK];generalize yp b (b.2.2.2.2.2.1,a1,a2)=R at hk ⊢;rcases Bool.eq_false_or_eq_true (ya R)with hr | hr
  ·simp only[hr,Bool.not_true,Bool.not_false,cond_true]
  ·rw[hk hr]
   simp only[hr,Bool.not_false,Bool.not_true,cond_false,zkF]
 unfold ymF ygL yA yw;simp only[yx];cases h4:leb 4 (i64.wrap (a0.2.2.2.2.2.1-a0.2.2.2.2.2.2.1))
 ·simp only[cond_false]
  have:=fin a0 rfl rfl hd0;unfold yC at this ⊢;rw[this];rw[show ya a0=false from hd0]; rfl
 ·simp only[cond_true]
  rw[yCs a0 (by unfold yhO; rw[hd0]; rfl)];simp only[zkF,yhE];rcases Bool.eq_false_or_eq_true (ya (yq a0))with hc | hc
  ·simp only[hc,Bool.not_true,Bool.not_false,cond_true]
  ·have:=fin (yq a0) (yKO a0) (yZH a0) hc
   simp only[hc,Bool.not_false,Bool.not_true,cond_false];unfold yC at this ⊢;exact this
def yj4 (a0:dA) (a1:Int) (a2:List Int):Option (zaY ygB×zak ydZ):=bif ygN a0 a1 a2 then(fun n=>some ((n.1,()),(n.2,()))) (ygL a0 a1 a2)else none
theorem yMp (a0:dA) (a1:Int) (a2:List Int) (h:ygN a0 a1 a2=true):yj4 a0 a1 a2=(fun n=>some ((n.1,()),(n.2,()))) (ygL a0 a1 a2):=by unfold yj4; rw[h]; rfl
def ywa:Con:=⟨ydZ,ygB,fun x=>yj4 x.1 x.2.1 x.2.2.1⟩
theorem yMj:ConOk prog 130 ywa:=(yKe).mono (fun x r hk h=>zkW h (fun hq=>yL8 x.1 x.2.1 x.2.2.1 hk hq))
def y0r:Code:=(f131.body).getD .skip
def y0X:Env:=zku TT [] []
theorem yQA:FrOk prog ⟨y0X,4,fun _=>none⟩ y0r:=zky yf yg trivial
abbrev yAa:List Par:= [.rd tB]
abbrev yAB:List OT:= [⟨false,tI,.fz⟩]
def yGV (a0:Bool):Option (zaY yAB×zak yAa) :=bif a0 then some ((0,()),()) else some ((6,()),())
theorem yVU:ConOk prog 131 ⟨yAa,yAB,fun x=>yGV x.1⟩:=zkG (yQA) func131 ntmps131.symm fun x=>by kernel_rfl
def yrM (a0:Bool):Int :=bif a0 then 0 else 6
def yGi:Con:=⟨yAa,yAB,fun x=>(fun n=>some ((n,()),())) (yrM x.1)⟩
theorem yYm (a0:Bool):yGV a0=(fun n=>some ((n,()),())) (yrM a0):=zkT (p:=fun(n:Int)=>((n,()),())) (zkE (p:=fun(n:Int)=>((n,()),())) rfl rfl)
theorem yZc:ConOk prog 131 yGi:=(yVU).mono (fun x r _ h=>(yYm x.1).trans h)
def yKv:Code:=(f58.body).getD .skip
def yKA:Env:=zku TT [(55,yeP),(95,ylm),(109,ydi),(129,yuO),(130,ywa),(131,yGi)] []
theorem yH0:FrOk prog ⟨yKA,55,fun _=>none⟩ yKv:=zky yf yg ⟨yif,yvv,ygM,yIe,yMj,yZc,trivial⟩
abbrev yip:List Par:= [.rd tA,.rd tI,.rd tL]
abbrev ynY:List OT:= [⟨false,tA,(.pr .fz (.pr (.pr .fz .fz) (.pr (.ow (.pr (.ow (.ow .fz)) (.pr (.ow (.pr .fz (.ow .fz))) (.pr .fz (.ow .fz))))) (.pr .fz (.pr .fz (.pr .fz (.pr .fz (.pr .fz (.pr (.ow (.pr .fz (.ow .fz))) (.pr .fz (.pr .fz .fz)))))))))))⟩,⟨false,tI,.fz⟩]
def yly (a0:dA) (a1:Int) (a2:List Int):Option (zaY ynY×zak yip) :=let r1:=ybX a0;let r2:=yah a0;bif(!(!r2))then let r3:=yek a0.2.1 a2;bif(!r3)then some ((r1,1,()),()) else bif a0.2.2.2.2.2.2.2.2.2.2.1 then some ((r1,6,()),()) else let r4:=yaI a0.2.1 a1;bif(!r4)then some ((r1,2,()),()) else bif a0.2.2.2.2.2.2.2.2.2.2.2 then some ((r1,5,()),()) else bif(!(a0.2.2.2.2.2.1==60000))then bif(leb 59990 a0.2.2.2.2.2.2.2.1)then some ((r1,7,()),()) else bnd (yj4 r1 a1 a2) fun r5 =>let r6:=yrM r5.1.1;some ((r5.2.1,r6,()),()) else some ((r1,7,()),()) else some ((r1,1,()),())
theorem yI4:ConOk prog 58 ⟨yip,ynY,fun x=>yly x.1 x.2.1 x.2.2.1⟩:=zkG (yH0) func58 ntmps58.symm fun x=>by kernel_rfl
def yfy (a0:dA) (a1:Int) (a2:List Int):dA×Int:=yJk a0 a1 a2
theorem yKa (a0:dA) (a1:Int) (a2:List Int) (hk:zjw yip (a0,a1,a2,())):yly a0 a1 a2=(fun n=>some ((n.1,n.2,()),())) (yfy a0 a1 a2):=by
 have hz:=fun h=>yyP (a:=a0) (s:=a1) (d:=a2) h
 unfold yly yfy yJk;unfold yO at hz ⊢;simp only[ybX,yah,ycT,yih,ybU]at hz ⊢;cases ha:yae a0
 ·rfl
 have hg:=yl.1 (yi7 ha);have hc:=(yC1.1 ha).1;unfold yU at hc
 have hdo:yek a0.2.1 a2=((a2.length:Int)==a0.2.1.1-1&&a2.all isW):=by
  unfold yek;rw[yvd,wq (a0.2.1.1-1) (by omega) (by omega)];cases((a2.length:Int)==a0.2.1.1-1)<;>rfl
 rw[hdo,yyy,show yN a0.2.1 a1=(leb 0 a1&&leb a1 (a0.2.1.2-1))by unfold yN; rw[yi7 ha]; rfl];rw[ha,wq (a0.2.1.1-1) (by omega) (by omega),wq (a0.2.1.2-1) (by omega) (by omega)]at hz;rw[wq (a0.2.1.1-1) (by omega) (by omega),wq (a0.2.1.2-1) (by omega) (by omega)];rw[show(a0.2.2.2.2.2.1==60000)=leb 60000 a0.2.2.2.2.2.1 by rw[Bool.eq_iff_iff,beq_iff_eq,zj5]; omega];unfold bne at hz ⊢;cases hl:((a2.length:Int)==a0.2.1.1-1)
 ·rfl
 cases hw:a2.all isW
 ·rfl
 rcases Bool.eq_false_or_eq_true a0.2.2.2.2.2.2.2.2.2.2.1 with hd | hd
 ·simp only[hd,Bool.not_true,Bool.not_false,Bool.and_self,cond_true,cond_false]; rfl
 cases hs:(leb 0 a1&&leb a1 (a0.2.1.2-1))
 ·simp only[hd,Bool.not_true,Bool.not_false,Bool.and_self,cond_true,cond_false]; rfl
 rcases Bool.eq_false_or_eq_true a0.2.2.2.2.2.2.2.2.2.2.2 with hb | hb
 ·simp only[hd,hb,Bool.not_true,Bool.not_false,Bool.and_self,cond_true,cond_false]; rfl
 cases h6:leb 60000 a0.2.2.2.2.2.1
 ·cases h7:leb 59990 a0.2.2.2.2.2.2.2.1
  ·simp only[hd,hb,Bool.not_true,Bool.not_false,Bool.and_self,cond_true,cond_false,beq_self_eq_true]
   have hso:yN a0.2.1 a1=true:=by unfold yN; rw[yi7 ha,hs]; rfl
   rw[yMp a0 a1 a2 (by unfold ygN; rw[show ya a0=false from hd,hso,hl,beq_iff_eq.2 (yFY ha)]; rfl)];simp only[zkF,ygL,yrM];rw[y4z];cases ya (yA a0 a1 a2).2<;>rfl
  ·simp only[hd,hb,Bool.not_true,Bool.not_false,Bool.and_self,cond_true,cond_false]; rfl
 ·simp only[hd,hb,Bool.not_true,Bool.not_false,Bool.and_self,cond_true,cond_false]; rfl
def yuN:Con:=⟨yip,ynY,fun x=>(fun n=>some ((n.1,n.2,()),())) (yfy x.1 x.2.1 x.2.2.1)⟩
theorem yKk:ConOk prog 58 yuN:=(yI4).mono (fun x r hk h=>(yKa x.1 x.2.1 x.2.2.1 hk).trans h)
def yTq:Code:=(f132.body).getD .skip
def yTT:Env:=zku TT [(51,yuI),(81,yM)] []
theorem yLd:FrOk prog ⟨yTT,10,fun _=>none⟩ yTq:=zky yf yg ⟨yIa,yS,trivial⟩
abbrev yt1:List Par:= [.rd tG,.rd tI]
abbrev yun:List OT:= [⟨false,tB,.fz⟩]
def yCv (a0:dG) (a1:Int):Option (zaY yun×zak yt1) :=let r1:=yej a0;let r2:=yj a1 0 (i64.wrap (r1-1));some ((r2,()),())
theorem yOW:ConOk prog 132 ⟨yt1,yun,fun x=>yCv x.1 x.2.1⟩:=zkG (yLd) func132 ntmps132.symm fun x=>by kernel_rfl
def yfN (a0:dG) (a1:Int):Bool :=let r1:=yej a0;let r2:=yj a1 0 (i64.wrap (r1-1));r2
def yqf:Con:=⟨yt1,yun,fun x=>(fun n=>some ((n,()),())) (yfN x.1 x.2.1)⟩
theorem yRW (a0:dG) (a1:Int):yCv a0 a1=(fun n=>some ((n,()),())) (yfN a0 a1):=zkT (p:=fun(n:Bool)=>((n,()),())) rfl
theorem yFb:ConOk prog 132 yqf:=(yOW).mono (fun x r _ h=>(yRW x.1 x.2.1).trans h)
theorem yPz (g:dG) (b:Int):yfN g b=ye7 g b:=by
 unfold yfN;simp only[yX8,yal,y2r]
def yTn:Code:=(f59.body).getD .skip
def yTQ:Env:=zku TT [(132,yqf)] []
theorem yK8:FrOk prog ⟨yTQ,14,fun _=>none⟩ yTn:=zky yf yg ⟨yFb,trivial⟩
abbrev ym3:List Par:= [.rd tG,.rd tI]
abbrev yuj:List OT:= [⟨false,tI,.fz⟩]
def yqE (a0:dG) (a1:Int):Option (zaY yuj×zak ym3) :=let r1:=yfN a0 a1;bif(!r1)then some (((-1),()),()) else bif((i64.wrap (a0.1-1)) !=0)then some (((i64.wrap (a1.tdiv (i64.wrap (a0.1-1)))),()),()) else none
theorem yOS:ConOk prog 59 ⟨ym3,yuj,fun x=>yqE x.1 x.2.1⟩:=zkG (yK8) func59 ntmps59.symm fun x=>by kernel_rfl
def yjj (a0:dG) (a1:Int):Int:=yY a0 a1
theorem yRS (a0:dG) (a1:Int) (hk:zjw ym3 (a0,a1,())):yqE a0 a1=(fun n=>some ((n,()),())) (yjj a0 a1):=by
 unfold yqE yjj yY;rw[yPz];cases hb:ye7 a0 a1
 ·rfl
 ·obtain⟨h1,h2,h3⟩:=yn1 hb
  have h4:=yl.1 h1;rw[wq (a0.1-1) (by omega) (by omega),show(a0.1-1 !=0)=true from bne_iff_ne.2 (by omega),wr (by omega) (by omega)]; rfl
def yBM:Con:=⟨ym3,yuj,fun x=>(fun n=>some ((n,()),())) (yjj x.1 x.2.1)⟩
theorem ySL:ConOk prog 59 yBM:=(yOS).mono (fun x r hk h=>(yRS x.1 x.2.1 hk).trans h)
def yXc:Code:=(f60.body).getD .skip
def yXE:Env:=zku TT [(132,yqf)] []
theorem yNH:FrOk prog ⟨yXE,14,fun _=>none⟩ yXc:=zky yf yg ⟨yFb,trivial⟩
abbrev yo7:List Par:= [.rd tG,.rd tI]
abbrev yxl:List OT:= [⟨false,tI,.fz⟩]
def ysC (a0:dG) (a1:Int):Option (zaY yxl×zak yo7) :=let r1:=yfN a0 a1;bif(!r1)then some (((-1),()),()) else bif((i64.wrap (a0.1-1)) !=0)then some (((a1.tmod (i64.wrap (a0.1-1))),()),()) else none
theorem ySe:ConOk prog 60 ⟨yo7,yxl,fun x=>ysC x.1 x.2.1⟩:=zkG (yNH) func60 ntmps60.symm fun x=>by kernel_rfl
def yg2 (a0:dG) (a1:Int):Int:=ybV a0 a1
theorem yVl (a0:dG) (a1:Int) (hk:zjw yo7 (a0,a1,())):ysC a0 a1=(fun n=>some ((n,()),())) (yg2 a0 a1):=by
 unfold ysC yg2 ybV;rw[yPz];cases hb:ye7 a0 a1
 ·rfl
 ·obtain⟨h1,h2,h3⟩:=yn1 hb
  have h4:=yl.1 h1;rw[wq (a0.1-1) (by omega) (by omega),show(a0.1-1 !=0)=true from bne_iff_ne.2 (by omega)]; rfl
def yEg:Con:=⟨yo7,yxl,fun x=>(fun n=>some ((n,()),())) (yg2 x.1 x.2.1)⟩
theorem yWt:ConOk prog 60 yEg:=(ySe).mono (fun x r hk h=>(yVl x.1 x.2.1 hk).trans h)
def yXb:Code:=(f61.body).getD .skip
def yXD:Env:=zku TT [(133,yeR)] []
theorem yNC:FrOk prog ⟨yXD,9,fun _=>none⟩ yXb:=zky yf yg ⟨yjt,trivial⟩
abbrev yw5:List Par:= [.rd tM]
abbrev yxj:List OT:= [⟨false,tM,(.pr (.ow (.ow .fz)) (.pr (.ow (.pr .fz (.ow .fz))) (.pr .fz (.ow .fz))))⟩]
def yFj (a0:dM):Option (zaY yxj×zak yw5) :=let r1:=yat a0;some (((r1.1,[],true,r1.2.2.2),()),())
theorem ySb:ConOk prog 61 ⟨yw5,yxj,fun x=>yFj x.1⟩:=zkG (yNC) func61 ntmps61.symm fun x=>by kernel_rfl
def ypv (a0:dM):dM :=let r1:=yat a0;(r1.1,[],true,r1.2.2.2)
def yEd:Con:=⟨yw5,yxj,fun x=>(fun n=>some ((n,()),())) (ypv x.1)⟩
theorem yVi (a0:dM):yFj a0=(fun n=>some ((n,()),())) (ypv a0):=zkT (p:=fun(n:dM)=>((n,()),())) rfl
theorem yWq:ConOk prog 61 yEd:=(ySb).mono (fun x r _ h=>(yVi x.1).trans h)
def yb8:Code:=(f9.body).getD .skip
def yf7:Env:=zku TT [(14,yKP),(19,yEh),(34,yBK),(43,yEb),(44,yEm),(51,yuI),(52,yEn),(53,yBR),(54,yEc),(57,yPu),(58,yuN),(59,yBM),(60,yEg),(61,yEd)] []
theorem yIN:FrOk prog ⟨yf7,180,fun _=>none⟩ yb8:=zky yf yg ⟨y3r,yWu,ySJ,yWo,yWz,yIa,yWA,ySQ,yWp,y4o,yKk,ySL,yWt,yWq,trivial⟩
def yv2:Nat→Option Seg:=fun _=>none
def yaH:Shape:=⟨[(0,false,[.fz tY]),(3,false,[.ptr 12416 0]),(5,false,[.at 800000000]),(6,false,[.int .i64]),(7,false,[.int .i64]),(8,false,[.int .i64]),(9,false,[.at 800000001]),(10,false,[.int .i64])],[(12416,[.int .i64,.int .i64,.int .i64,.at 800000002,.int .i64,.int .i64,.int .i64,.int .i64,.int .i64,.at 800000003,.int .i64,.bool,.bool])],[(800000000,tI,.fz),(800000001,tI,.fz),(800000002,tM,(.pr (.ow .fz) (.pr (.ow (.pr .fz .fz)) (.pr .fz (.ow .fz))))),(800000003,tW,(.pr .fz .fz))]⟩
def ycP:Shape:=⟨[(0,false,[.fz tY]),(3,false,[.ptr 12416 0]),(5,false,[.at 800000000]),(6,false,[.int .i64]),(7,false,[.int .i64]),(8,false,[.int .i64]),(9,false,[.at 800000001]),(10,false,[.ci .i64 0])],[(12416,[.int .i64,.int .i64,.int .i64,.at 800000002,.int .i64,.int .i64,.int .i64,.int .i64,.int .i64,.at 800000003,.int .i64,.bool,.bool])],[(800000000,tI,.fz),(800000001,tI,.fz),(800000002,tM,(.pr (.ow .fz) (.pr (.ow (.pr .fz .fz)) (.pr .fz (.ow .fz))))),(800000003,tW,(.pr .fz .fz))]⟩
def ycO:Shape:=⟨[(3,false,[.ptr 12416 0]),(5,false,[.at 800000000]),(6,false,[.int .i64]),(7,false,[.int .i64]),(8,false,[.int .i64]),(9,false,[.at 800000001])],[(12416,[.int .i64,.int .i64,.int .i64,.at 800000002,.int .i64,.int .i64,.int .i64,.int .i64,.int .i64,.at 800000003,.int .i64,.bool,.bool])],[(800000000,tI,.fz),(800000001,tI,.fz),(800000002,tM,(.pr (.ow .fz) (.pr (.ow (.pr .fz .fz)) (.pr .fz (.ow .fz))))),(800000003,tW,(.pr .fz .fz))]⟩
def ye6:Shape:=⟨[],[],[]⟩
abbrev yh5 (v0:List Int) (v1 v2 v3 v4:Int) (v5:dA) (v6 v7:List Int):(yaH).X:=(((v0,()),((),()),((),()),(v1,()),(v2,()),(v3,()),((),()),(v4,()),()),((v5.1,v5.2.1.1,v5.2.1.2,(),v5.2.2.2.1,v5.2.2.2.2.1,v5.2.2.2.2.2.1,v5.2.2.2.2.2.2.1,v5.2.2.2.2.2.2.2.1,(),v5.2.2.2.2.2.2.2.2.2.1,v5.2.2.2.2.2.2.2.2.2.2.1,v5.2.2.2.2.2.2.2.2.2.2.2,()),()),(v6,v7,v5.2.2.1,v5.2.2.2.2.2.2.2.2.1,()))
abbrev yFI (v0:List Int) (v1 v2 v3:Int) (v4:dA) (v5 v6:List Int):(ycP).X:=(((v0,()),((),()),((),()),(v1,()),(v2,()),(v3,()),((),()),((),()),()),((v4.1,v4.2.1.1,v4.2.1.2,(),v4.2.2.2.1,v4.2.2.2.2.1,v4.2.2.2.2.2.1,v4.2.2.2.2.2.2.1,v4.2.2.2.2.2.2.2.1,(),v4.2.2.2.2.2.2.2.2.2.1,v4.2.2.2.2.2.2.2.2.2.2.1,v4.2.2.2.2.2.2.2.2.2.2.2,()),()),(v5,v6,v4.2.2.1,v4.2.2.2.2.2.2.2.2.1,()))
abbrev ypO (v0 v1 v2:Int) (v3:dA) (v4 v5:List Int):(ycO).X:=((((),()),((),()),(v0,()),(v1,()),(v2,()),((),()),()),((v3.1,v3.2.1.1,v3.2.1.2,(),v3.2.2.2.1,v3.2.2.2.2.1,v3.2.2.2.2.2.1,v3.2.2.2.2.2.2.1,v3.2.2.2.2.2.2.2.1,(),v3.2.2.2.2.2.2.2.2.2.1,v3.2.2.2.2.2.2.2.2.2.2.1,v3.2.2.2.2.2.2.2.2.2.2.2,()),()),(v4,v5,v3.2.2.1,v3.2.2.2.2.2.2.2.2.1,()))
def yh8 (v0:List Int) (v1 v2 v3 v4 v5 v6 v7 v8 v9 v10 v11 v12 v13:Int) (v14 v15:Bool) (v16 v17:List Int) (v18:List dM) (v19:List dW):Option ((yaH).X ⊕ ((ycO).X ⊕ (ye6).X)) :=bif(ltb v4 (i64.wrap (v6-1)))then bnd (yjE v0 (i64.wrap (v4+3))) fun r9 =>bif(zkj v17.length ([(i64.wrap (r9.1.1*200))]:List Int).length 8)then some (.inl (((v0,()),((),()),((),()),(v1,()),(v2,()),(v3,()),((),()),((i64.wrap (v4+1)),()),()),((v5,v6,v7,(),v8,v9,v10,v11,v12,(),v13,v14,v15,()),()),(v16,(v17++([(i64.wrap (r9.1.1*200))]:List Int)),v18,v19,()))) else none else some (.inr (.inl ((((),()),((),()),(v1,()),(v2,()),(v3,()),((),()),()),((v5,v6,v7,(),v8,v9,v10,v11,v12,(),v13,v14,v15,()),()),(v16,v17,v18,v19,()))))
def yaU (x:(yaH).X):=yh8 x.1.1.1 x.1.2.2.2.1.1 x.1.2.2.2.2.1.1 x.1.2.2.2.2.2.1.1 x.1.2.2.2.2.2.2.2.1.1 x.2.1.1.1 x.2.1.1.2.1 x.2.1.1.2.2.1 x.2.1.1.2.2.2.2.1 x.2.1.1.2.2.2.2.2.1 x.2.1.1.2.2.2.2.2.2.1 x.2.1.1.2.2.2.2.2.2.2.1 x.2.1.1.2.2.2.2.2.2.2.2.1 x.2.1.1.2.2.2.2.2.2.2.2.2.2.1 x.2.1.1.2.2.2.2.2.2.2.2.2.2.2.1 x.2.1.1.2.2.2.2.2.2.2.2.2.2.2.2.1 x.2.2.1 x.2.2.2.1 x.2.2.2.2.1 x.2.2.2.2.2.1
def ypM (x:(ycP).X):(yaH).X:=(((x.1.1.1,()),((),()),((),()),(x.1.2.2.2.1.1,()),(x.1.2.2.2.2.1.1,()),(x.1.2.2.2.2.2.1.1,()),((),()),(0,()),()),((x.2.1.1.1,x.2.1.1.2.1,x.2.1.1.2.2.1,(),x.2.1.1.2.2.2.2.1,x.2.1.1.2.2.2.2.2.1,x.2.1.1.2.2.2.2.2.2.1,x.2.1.1.2.2.2.2.2.2.2.1,x.2.1.1.2.2.2.2.2.2.2.2.1,(),x.2.1.1.2.2.2.2.2.2.2.2.2.2.1,x.2.1.1.2.2.2.2.2.2.2.2.2.2.2.1,x.2.1.1.2.2.2.2.2.2.2.2.2.2.2.2.1,()),()),(x.2.2.1,x.2.2.2.1,x.2.2.2.2.1,x.2.2.2.2.2.1,()))
def yq3:Code:=(zeJ yb8 64 8180).getD .skip
theorem yHi:zeJ yb8 64 2045=some (.block 0 (.loop yq3)):=by kernel_rfl
theorem yHt (x:(yaH).X):zhu ⟨yf7,180,yv2⟩ 0 yq3 8180 yaH ycO ye6 x=yaU x:=by kernel_rfl
def ypN (x:(ycP).X):Nat:=18446744073709551616
def yjy (x:(ycP).X):Option ((ycO).X ⊕ (ye6).X):=zF yaU (ypN x) (ypM x)
def ypP:Seg:=⟨ycP,ycO,ye6,yjy⟩
def ymj:Nat→Option Seg:=fun q=>bif Nat.beq q 2045 then some ypP else yv2 q
theorem yIO:FrOk prog ⟨yf7,180,ymj⟩ yb8:=(yIN).loop (sg:=ypP) yaH ypM (by decide) yHi yaU ypN (by decide) (fun _=>rfl) (fun x r _ h=>h) yHt
def yap:Shape:=⟨[(3,false,[.ptr 12416 0]),(8,false,[.int .i64]),(9,false,[.at 800000000]),(11,false,[.at 800000001]),(13,false,[.int .i64]),(17,false,[.at 800000002]),(18,false,[.bool]),(19,false,[.bool]),(20,false,[.int .i64])],[(12416,[.int .i64,.int .i64,.int .i64,.at 800000003,.int .i64,.int .i64,.int .i64,.int .i64,.int .i64,.at 800000004,.int .i64,.bool,.bool])],[(800000000,tI,.fz),(800000001,tI,.fz),(800000002,tI,.fz),(800000003,tM,(.pr (.ow .fz) (.pr (.ow (.pr .fz .fz)) (.pr .fz (.ow .fz))))),(800000004,tW,(.pr .fz .fz))]⟩
def ybt:Shape:=⟨[(3,false,[.ptr 12416 0]),(8,false,[.int .i64]),(9,false,[.at 800000000]),(11,false,[.at 800000001]),(13,false,[.int .i64]),(17,false,[.at 800000002]),(18,false,[.cb true]),(19,false,[.cb true]),(20,false,[.ci .i64 0])],[(12416,[.int .i64,.int .i64,.int .i64,.at 800000003,.int .i64,.int .i64,.int .i64,.int .i64,.int .i64,.at 800000004,.int .i64,.bool,.bool])],[(800000000,tI,.fz),(800000001,tI,.fz),(800000002,tI,.fz),(800000003,tM,(.pr (.ow .fz) (.pr (.ow (.pr .fz .fz)) (.pr .fz (.ow .fz))))),(800000004,tW,(.pr .fz .fz))]⟩
def ybr:Shape:=⟨[(3,false,[.ptr 12416 0]),(13,false,[.int .i64]),(17,false,[.at 800000000]),(18,false,[.bool]),(19,false,[.bool])],[(12416,[.int .i64,.int .i64,.int .i64,.at 800000001,.int .i64,.int .i64,.int .i64,.int .i64,.int .i64,.at 800000002,.int .i64,.bool,.bool])],[(800000000,tI,.fz),(800000001,tM,(.pr (.ow .fz) (.pr (.ow (.pr .fz .fz)) (.pr .fz (.ow .fz))))),(800000002,tW,(.pr .fz .fz))]⟩
def ydx:Shape:=⟨[(2,false,[.bool])],[],[]⟩
abbrev yf0 (v0 v1:Int) (v2 v3:Bool) (v4:Int) (v5:dA) (v6 v7 v8:List Int):(yap).X:=((((),()),(v0,()),((),()),((),()),(v1,()),((),()),(v2,()),(v3,()),(v4,()),()),((v5.1,v5.2.1.1,v5.2.1.2,(),v5.2.2.2.1,v5.2.2.2.2.1,v5.2.2.2.2.2.1,v5.2.2.2.2.2.2.1,v5.2.2.2.2.2.2.2.1,(),v5.2.2.2.2.2.2.2.2.2.1,v5.2.2.2.2.2.2.2.2.2.2.1,v5.2.2.2.2.2.2.2.2.2.2.2,()),()),(v6,v7,v8,v5.2.2.1,v5.2.2.2.2.2.2.2.2.1,()))
abbrev yA7 (v0 v1:Int) (v2:dA) (v3 v4 v5:List Int):(ybt).X:=((((),()),(v0,()),((),()),((),()),(v1,()),((),()),((),()),((),()),((),()),()),((v2.1,v2.2.1.1,v2.2.1.2,(),v2.2.2.2.1,v2.2.2.2.2.1,v2.2.2.2.2.2.1,v2.2.2.2.2.2.2.1,v2.2.2.2.2.2.2.2.1,(),v2.2.2.2.2.2.2.2.2.2.1,v2.2.2.2.2.2.2.2.2.2.2.1,v2.2.2.2.2.2.2.2.2.2.2.2,()),()),(v3,v4,v5,v2.2.2.1,v2.2.2.2.2.2.2.2.2.1,()))
abbrev ylX (v0:Int) (v1 v2:Bool) (v3:dA) (v4:List Int):(ybr).X:=((((),()),(v0,()),((),()),(v1,()),(v2,()),()),((v3.1,v3.2.1.1,v3.2.1.2,(),v3.2.2.2.1,v3.2.2.2.2.1,v3.2.2.2.2.2.1,v3.2.2.2.2.2.2.1,v3.2.2.2.2.2.2.2.1,(),v3.2.2.2.2.2.2.2.2.2.1,v3.2.2.2.2.2.2.2.2.2.2.1,v3.2.2.2.2.2.2.2.2.2.2.2,()),()),(v4,v3.2.2.1,v3.2.2.2.2.2.2.2.2.1,()))
def yf5 (v0 v1:Int) (v2 v3:Bool) (v4 v5 v6 v7 v8 v9 v10 v11 v12 v13:Int) (v14 v15:Bool) (v16 v17 v18:List Int) (v19:List dM) (v20:List dW):Option ((yap).X ⊕ ((ybr).X ⊕ (ydx).X)) :=bif(ltb v4 (v17.length:Int))then bif(leb (v18.length:Int) v4)then some (.inr (.inr (((false,()),()),(),()))) else let r20:=yjj (v6,v7) v4;bif(r20 !=v0)then bif(inb v4 v18.length)then bif(inb v4 v17.length)then bif((nth v18 v4 0) !=(nth v17 v4 0))then some (.inr (.inr (((false,()),()),(),()))) else some (.inl ((((),()),(v0,()),((),()),((),()),(v1,()),((),()),(v2,()),(v3,()),((i64.wrap (v4+1)),()),()),((v5,v6,v7,(),v8,v9,v10,v11,v12,(),v13,v14,v15,()),()),(v16,v17,v18,v19,v20,()))) else none else none else bif v2 then bif(inb v4 v18.length)then bif(inb v4 v17.length)then bif v3 then bif(inb v4 v18.length)then let r21:=yg2 (v6,v7) v4;bif(inb r21 v16.length)then some (.inl ((((),()),(v0,()),((),()),((),()),(v1,()),((),()),(((nth v18 v4 0)==(nth v17 v4 0)),()),(((nth v18 v4 0)==(nth v16 r21 0)),()),((i64.wrap (v4+1)),()),()),((v5,v6,v7,(),v8,v9,v10,v11,v12,(),v13,v14,v15,()),()),(v16,v17,v18,v19,v20,()))) else none else none else some (.inl ((((),()),(v0,()),((),()),((),()),(v1,()),((),()),(((nth v18 v4 0)==(nth v17 v4 0)),()),(false,()),((i64.wrap (v4+1)),()),()),((v5,v6,v7,(),v8,v9,v10,v11,v12,(),v13,v14,v15,()),()),(v16,v17,v18,v19,v20,()))) else none else none else bif v3 then bif(inb v4 v18.length)then let r22:=yg2 (v6,v7) v4;bif(inb r22 v16.length)then some (.inl ((((),()),(v0,()),((),()),((),()),(v1,()),((),()),(false,()),(((nth v18 v4 0)==(nth v16 r22 0)),()),((i64.wrap (v4+1)),()),()),((v5,v6,v7,(),v8,v9,v10,v11,v12,(),v13,v14,v15,()),()),(v16,v17,v18,v19,v20,()))) else none else none else some (.inl ((((),()),(v0,()),((),()),((),()),(v1,()),((),()),(false,()),(false,()),((i64.wrap (v4+1)),()),()),((v5,v6,v7,(),v8,v9,v10,v11,v12,(),v13,v14,v15,()),()),(v16,v17,v18,v19,v20,()))) else some (.inr (.inl ((((),()),(v1,()),((),()),(v2,()),(v3,()),()),((v5,v6,v7,(),v8,v9,v10,v11,v12,(),v13,v14,v15,()),()),(v18,v19,v20,()))))
def yaA (x:(yap).X):=yf5 x.1.2.1.1 x.1.2.2.2.2.1.1 x.1.2.2.2.2.2.2.1.1 x.1.2.2.2.2.2.2.2.1.1 x.1.2.2.2.2.2.2.2.2.1.1 x.2.1.1.1 x.2.1.1.2.1 x.2.1.1.2.2.1 x.2.1.1.2.2.2.2.1 x.2.1.1.2.2.2.2.2.1 x.2.1.1.2.2.2.2.2.2.1 x.2.1.1.2.2.2.2.2.2.2.1 x.2.1.1.2.2.2.2.2.2.2.2.1 x.2.1.1.2.2.2.2.2.2.2.2.2.2.1 x.2.1.1.2.2.2.2.2.2.2.2.2.2.2.1 x.2.1.1.2.2.2.2.2.2.2.2.2.2.2.2.1 x.2.2.1 x.2.2.2.1 x.2.2.2.2.1 x.2.2.2.2.2.1 x.2.2.2.2.2.2.1
def ylS (x:(ybt).X):(yap).X:=((((),()),(x.1.2.1.1,()),((),()),((),()),(x.1.2.2.2.2.1.1,()),((),()),(true,()),(true,()),(0,()),()),((x.2.1.1.1,x.2.1.1.2.1,x.2.1.1.2.2.1,(),x.2.1.1.2.2.2.2.1,x.2.1.1.2.2.2.2.2.1,x.2.1.1.2.2.2.2.2.2.1,x.2.1.1.2.2.2.2.2.2.2.1,x.2.1.1.2.2.2.2.2.2.2.2.1,(),x.2.1.1.2.2.2.2.2.2.2.2.2.2.1,x.2.1.1.2.2.2.2.2.2.2.2.2.2.2.1,x.2.1.1.2.2.2.2.2.2.2.2.2.2.2.2.1,()),()),(x.2.2.1,x.2.2.2.1,x.2.2.2.2.1,x.2.2.2.2.2.1,x.2.2.2.2.2.2.1,()))
def yns:Code:=(zeJ yb8 64 16777204).getD .skip
theorem yCL:zeJ yb8 64 4194301=some (.block 2 (.loop yns)):=by kernel_rfl
theorem yCY (x:(yap).X):zhu ⟨yf7,180,ymj⟩ 2 yns 16777204 yap ybr ydx x=yaA x:=by kernel_rfl
def ylU (x:(ybt).X):Nat:=18446744073709551616
def ygR (x:(ybt).X):Option ((ybr).X ⊕ (ydx).X):=zF yaA (ylU x) (ylS x)
def ymf:Seg:=⟨ybt,ybr,ydx,ygR⟩
def yJD:Nat→Option Seg:=fun q=>bif Nat.beq q 4194301 then some ymf else ymj q
theorem yIP:FrOk prog ⟨yf7,180,yJD⟩ yb8:=(yIO).loop (sg:=ymf) yap ylS (by decide) yCL yaA ylU (by decide) (fun _=>rfl) (fun x r _ h=>h) yCY
abbrev yjK:List Par:= [.kp tYs .fz]
abbrev yqb:List OT:= [⟨false,tB,.fz⟩]
def ymG (a0:List Int):Option (zaY yqb×zak yjK) :=let r1:=yCW a0;bif r1 then some ((true,()),()) else bnd (yhQ a0) fun r2 =>bnd (ygO a0) fun r3 =>bnd (yjE a0 9) fun r4 =>bif(r2.1.1.2.1.1 !=0)then let r5:=ygZ r2.1.1 (r4.1.1.tmod r2.1.1.2.1.1);bif(!r5)then let r6:=ybY r2.1.1 (r4.1.1.tmod r2.1.1.2.1.1);some (((!r6),()),()) else bnd (yjE a0 2) fun r7 =>bif(r2.1.1.2.1.2 !=0)then zkr (yjy (((a0,()),((),()),((),()),(r3.1.2.2.1,()),((r4.1.1.tmod r2.1.1.2.1.1),()),((r7.1.1.tmod r2.1.1.2.1.2),()),((),()),((),()),()),((r2.1.1.1,r2.1.1.2.1.1,r2.1.1.2.1.2,(),r2.1.1.2.2.2.1,r2.1.1.2.2.2.2.1,r2.1.1.2.2.2.2.2.1,r2.1.1.2.2.2.2.2.2.1,r2.1.1.2.2.2.2.2.2.2.1,(),r2.1.1.2.2.2.2.2.2.2.2.2.1,r2.1.1.2.2.2.2.2.2.2.2.2.2.1,r2.1.1.2.2.2.2.2.2.2.2.2.2.2,()),()),(r3.1.2.1,([]:List Int),r2.1.1.2.2.1,r2.1.1.2.2.2.2.2.2.2.2.1,()))) (fun y9 =>let r11:=yg0 (y9.2.1.1.1,(y9.2.1.1.2.1,y9.2.1.1.2.2.1),y9.2.2.2.2.1,y9.2.1.1.2.2.2.2.1,y9.2.1.1.2.2.2.2.2.1,y9.2.1.1.2.2.2.2.2.2.1,y9.2.1.1.2.2.2.2.2.2.2.1,y9.2.1.1.2.2.2.2.2.2.2.2.1,y9.2.2.2.2.2.1,y9.2.1.1.2.2.2.2.2.2.2.2.2.2.1,y9.2.1.1.2.2.2.2.2.2.2.2.2.2.2.1,y9.2.1.1.2.2.2.2.2.2.2.2.2.2.2.2.1);let r12:=yfy (y9.2.1.1.1,(y9.2.1.1.2.1,y9.2.1.1.2.2.1),y9.2.2.2.2.1,y9.2.1.1.2.2.2.2.1,y9.2.1.1.2.2.2.2.2.1,y9.2.1.1.2.2.2.2.2.2.1,y9.2.1.1.2.2.2.2.2.2.2.1,y9.2.1.1.2.2.2.2.2.2.2.2.1,y9.2.2.2.2.2.1,y9.1.2.2.1.1,y9.2.1.1.2.2.2.2.2.2.2.2.2.2.2.1,y9.2.1.1.2.2.2.2.2.2.2.2.2.2.2.2.1) y9.1.2.2.2.2.1.1 y9.2.2.2.1;let r13:=yfL r12.1;bif(inb y9.1.2.2.2.1.1 r13.2.2.1.length)then let r14:=ypv ((nth r13.2.2.1 y9.1.2.2.2.1.1 ([],[],false,[])).1,((nth r13.2.2.1 y9.1.2.2.2.1.1 ([],[],false,[])).2).1,(((nth r13.2.2.1 y9.1.2.2.2.1.1 ([],[],false,[])).2).2));bif(inb y9.1.2.2.2.1.1 r13.2.2.1.length)then let r15:=ykC (r13.2.2.1.set (y9.1.2.2.2.1.1).toNat r14) y9.2.2.1 y9.2.1.1.1 (-1);bif(!(!r15.2))then bif(!r15.1.2.2.2.2.2.2.2.2.2.2.2)then bif(r15.1.2.2.2.1 !=y9.1.2.2.2.1.1)then some ((false,()),()) else let r16:=yg0 r15.1;zkr (ygR ((((),()),(y9.1.2.2.2.2.1.1,()),((),()),((),()),(r12.2,()),((),()),((),()),((),()),((),()),()),((y9.2.1.1.1,y9.2.1.1.2.1,y9.2.1.1.2.2.1,(),y9.2.1.1.2.2.2.2.1,y9.2.1.1.2.2.2.2.2.1,y9.2.1.1.2.2.2.2.2.2.1,y9.2.1.1.2.2.2.2.2.2.2.1,y9.2.1.1.2.2.2.2.2.2.2.2.1,(),y9.1.2.2.1.1,y9.2.1.1.2.2.2.2.2.2.2.2.2.2.2.1,y9.2.1.1.2.2.2.2.2.2.2.2.2.2.2.2.1,()),()),(y9.2.2.2.1,r11,r16,y9.2.2.2.2.1,y9.2.2.2.2.2.1,()))) (fun y22 =>bif(!y22.1.2.2.2.2.1.1)then bif y22.1.2.2.2.1.1 then bif(y22.1.2.1.1 !=0)then let r24:=yej (y22.2.1.1.2.1,y22.2.1.1.2.2.1);some ((((y22.2.2.1.length:Int)==r24),()),()) else some ((false,()),()) else some ((false,()),()) else let r25:=yej (y22.2.1.1.2.1,y22.2.1.1.2.2.1);some ((((y22.2.2.1.length:Int)==r25),()),())) (fun y22 =>some ((y22.1.1.1,()),())) else some ((false,()),()) else some ((false,()),()) else none else none) (fun y9 =>none) else none else none
theorem yKh:ConOk prog 9 ⟨yjK,yqb,fun x=>ymG x.1⟩:=zkG (yIP) func9 ntmps9.symm fun x=>by kernel_rfl
def yqu (a0:List Int):Bool:=true
set_option maxHeartbeats 4000000 in
theorem y4W {V W:Int→Int→Int} {m s c:Int} {d:List Int} {a:dA} (hg:yd a.2.1=true) (hs:yN a.2.1 s=true) (hl:(d.length:Int)=a.2.1.1-1) (hW:W=V∨W=ycV V a.2.1 s d): ∃p:Bool×Bool,(W=V→p.1=true)∧(W=ycV V a.2.1 s d→p.2=true) ∧
  ygR (yA7 s c a d (yeN V a.2.1) (yeN W a.2.1))=some (.inl (ylX c p.1 p.2 a (yeN W a.2.1))):=by
 obtain⟨h1,h2⟩:=yZ6 hg hs hl hW (yn a.2.1).toNat (by have:=yyo a.2.1; omega);refine⟨_,h1,h2,?_⟩;have hB:=yyo a.2.1;obtain⟨lv,av⟩:=yxF (V:=V) hg;obtain⟨lw,_⟩:=yxF (V:=W) hg
 exact zkB (step:=yaA) (yn a.2.1).toNat (fun i p=>yf0 s c p.1 p.2 i a d (yeN V a.2.1) (yeN W a.2.1)) (yMY a.2.1 s d (yeN V a.2.1) (yeN W a.2.1)) (fun _ _=>True) (fun p=> .inl (ylX c p.1 p.2 a (yeN W a.2.1))) (fun i p hi _=>⟨by
  obtain⟨_,_,a3,_⟩:=av i (by omega);simp only[yaA,yf0,yf5,zkw (show(i:Int)<((yeN V a.2.1).length:Int)by omega),zkZ (show(i:Int)<((yeN W a.2.1).length:Int)by omega),zj4.2 (show(0:Int)≤i∧(i:Int)<((yeN V a.2.1).length:Int)by omega),zj4.2 (show(0:Int)≤i∧(i:Int)<((yeN W a.2.1).length:Int)by omega),zkV,yjj,yg2,zj4.2 (show 0≤ybV a.2.1 i∧ybV a.2.1 i<(d.length:Int)by omega),wq ((i:Int)+1) (by omega) (by omega)];unfold yMY;cases hx:(yY a.2.1 i !=s)
  ·cases p.1<;>cases p.2<;>rfl
  ·rw[y4v hg hW (by omega) hx,bne_self_eq_false]; rfl,trivial⟩) (fun p _=>by
  simp only[yaA,yf0,yf5,zk1 (show((yeN V a.2.1).length:Int)≤(((yn a.2.1).toNat:Nat):Int)by omega),cond_false]) (true,true) trivial 18446744073709551616 (by omega)
theorem y42 (a:dA):(yfL a).2.2.1=a.2.2.1:=by unfold yfL; cases yae a<;>rfl
set_option maxHeartbeats 4000000 in
theorem yMb (a0:List Int) (hk:zjw yjK (a0,())):ymG a0=(fun n=>some ((n,()),())) (yqu a0):=by
 have hb:a0.length≤140737488355328:=by have:a0.length*1≤2^47:=hk.1.1; omega
 have hx:=y35 hk.1;obtain⟨a,V,e,_,hi⟩:=y3g a0 hb;obtain⟨a2,ks,n,e1,_,n0,n1⟩:=y3h a0 hb;have hg:=yl.1 hi.x.xc.1;have hlen:=hi.x.xk.1.2;obtain⟨e2,r0,r1⟩:=y1V (i:=2) hb hx (by omega) (by omega);obtain⟨e9,q0,q1⟩:=y1V (i:=9) hb hx (by omega) (by omega);have s0:0≤(atV a0 2).tmod a.2.1.2:=Int.tmod_nonneg _ r0;have s1:(atV a0 2).tmod a.2.1.2<a.2.1.2:=Int.tmod_lt_of_pos _ (by omega);have hso:=y2A hi.x s0 s1;obtain⟨s,hse⟩: ∃s,s=(atV a0 2).tmod a.2.1.2:=⟨_,rfl⟩;rw[← hse]at s0 s1 hso;have m0:0≤(atV a0 9).tmod a.2.1.1:=Int.tmod_nonneg _ q0;have m1:(atV a0 9).tmod a.2.1.1<a.2.1.1:=Int.tmod_lt_of_pos _ (by omega);obtain⟨m,hme⟩: ∃m,m=(atV a0 9).tmod a.2.1.1:=⟨_,rfl⟩;rw[← hme]at m0 m1;obtain⟨d,hd⟩: ∃d,d=(List.range (a.2.1.1-1).toNat).map (fun(i:Nat)=>atV a0 ((i:Int)+(3:Nat))*200):=⟨_,rfl⟩;have hdl:(d.length:Int)=a.2.1.1-1:=by rw[hd,List.length_map,List.length_range]; omega
 have hdw:d.all isW=true:=by rw[hd]; exact y36 hb hx 200 (by omega) (by omega) 3 _ (by omega)
 have l1:yjy (yFI a0 n m s a ks [])=some (.inl (ypO n m s a ks d)):=by
  have:=zkB (step:=yaU) (a.2.1.1-1).toNat (fun i l=>yh5 a0 n m s i a ks l) (fun l (i:Nat)=>l++ [atV a0 ((i:Int)+(3:Nat))*200]) (fun i l=>l.length=i) (fun l=> .inl (ypO n m s a ks l)) (fun i l hil hl=>by
   obtain⟨e3,a1,a2⟩:=y1V (i:=(i:Int)+3) hb hx (by omega) (by omega);refine⟨?_,by rw[List.length_append,hl]; rfl⟩;simp only[yaU,yh5,yh8,wq (a.2.1.1-1) (by omega) (by omega),zkw (show(i:Int)<a.2.1.1-1 by omega),cond_true,wq ((i:Int)+3) (by omega) (by omega),e3,zkF,wq (atV a0 ((i:Int)+3)*200) (by omega) (by omega),wq ((i:Int)+1) (by omega) (by omega)]
   rw[zkD.2 (show(l.length+ [atV a0 ((i:Int)+3)*200].length)*8≤140737488355328 by simp only[List.length_cons,List.length_nil]; omega)]; rfl) (fun l hl=>by simp only[yaU,yh5,yh8,wq (a.2.1.1-1) (by omega) (by omega),zk1 (show a.2.1.1-1≤(((a.2.1.1-1).toNat:Nat):Int)by omega),cond_false]) [] rfl 18446744073709551616 (by omega)
  rw[yps,List.nil_append,← hd]at this;exact this
 have hcl:ybY a m=ygZ a m:=rfl;unfold ymG yqu;simp only[e,e1,e9,zkF,← hme];cases yCW a0
 ·rw[show(a.2.1.1 !=0)=true from bne_iff_ne.2 (by omega)]
  simp only[cond_false,cond_true];cases hcn:ygZ a m
  ·rw[hcl,hcn]; rfl
  ·have hcl2:ybY a m=true:=hcl.trans hcn
   unfold ybY at hcl2;simp only[Bool.and_eq_true,Bool.or_eq_true,beq_iff_eq]at hcl2;obtain⟨_,_,_,hlo,hca⟩:=hcl2;have hA:=y3J (x:=n) hi (by omega)
   have hAd:yh2 a n false=(a.1,a.2.1,a.2.2.1,a.2.2.2.1,a.2.2.2.2.1,a.2.2.2.2.2.1,a.2.2.2.2.2.2.1,a.2.2.2.2.2.2.2.1,a.2.2.2.2.2.2.2.2.1,n,a.2.2.2.2.2.2.2.2.2.2):=by
    unfold yh2;rw[← show a.2.2.2.2.2.2.2.2.2.2.1=false from hi.x.xu]
   obtain⟨A,hAe⟩: ∃A,A=yh2 a n false:=⟨_,rfl⟩;have Ag:A.2.1=a.2.1:=by rw[hAe]; rfl
   have Al:A.2.2.2.1=a.2.2.2.1:=by rw[hAe]; rfl
   have Ai:A.1=a.1:=by rw[hAe]; rfl
   have Af: ∀i,yF A i=yF a i:=fun i=>by rw[hAe]; rfl
   have Ab: ∀i m,yJ A i m=yJ a i m:=fun i m=>by rw[hAe]; rfl
   rw[← hAe]at hA hAd;have hxs:=hA.x.xs;have hc:=y5p hA.x (by omega) (by rw[Ag]; exact hso) (by rw[Ag]; exact hdl) hdw;have can:=y5X hA (by rw[Ag]; exact hso) (by rw[Ag]; exact hdl) hdw (by omega) (by omega);obtain⟨w1,w2,w3,_⟩:=yPJ A s d;have wb:=fun i m i0 i1 m0=>y0e (s:=s) (d:=d) hA.x.xk (by rw[Ag]; exact hso) (by have c:=hA.x.xc; unfold yU at c; omega) (i:=i) (m:=m) i0 i1 m0
   have wk:=yU4 s d hA.x.xk;have hwr:yJk A s d=((yA A s d).2,(yA A s d).1):=by unfold yJk; rw[hc]; rfl
   generalize yA A s d=X at can w1 w2 w3 wb wk hwr;rw[Ai]at w1;rw[Ag]at w2 wb can;rw[Al]at w3;have hXl:=wk.1.2;rw[w2]at hXl;obtain⟨y,W,ey,hW,byy,hfb⟩:=y2Y wk can (by omega) (by rw[w3]; exact hlo) m0 (by rw[w2]; exact m1) ks;rw[w1]at ey;rw[w1,w2]at byy;rw[w2]at hfb;have hu:=y4t ey;have hyi:=(byy.up hu).1;have hWV:W=V∨W=ycV V a.2.1 s d:=hW.elim .inr (fun h=> .inl h.1)
   have hfa:y30 a:=fun s s0 s1=>y3G m0 fun i i0 i1 hi2=>by
    obtain⟨k1,k2,k3⟩:=y2F hi.x hca hlo i0 i1 hi2 s0;exact y4T k1 k2 k3
   have hfy:y30 y:=y4E byy fun s s0 s1=>⟨m,m0,fun i i0 i1 hi2=>by
    obtain⟨k1,k2,k3⟩:=y2F hi.x hca hlo i0 i1 hi2 s0;obtain⟨g1,g2⟩:=hfb i i0 i1;refine⟨hi2,?_,?_⟩
    ·rw[g1,(wb i 6 i0 i1 (by omega)).2,Af,k2,show(i==m)=false from beq_eq_false_iff_ne.2 hi2]; rfl
    ·rw[g2]
     cases hb:yJ X.2 i (s+6)
     ·rfl
     ·have:=(wb i (s+6) i0 i1 (by omega)).1 hb
      rw[Ab,k3]at this; cases this⟩
   have hda:yxP a=yeN V a.2.1:=yLw hi.x hfa;have hyd:yxP y=yeN W a.2.1:=by rw[yLw hyi hfy,byy.bg]; rfl
   obtain⟨p,p1,p2,p3⟩:=y4W (c:=X.1) (a:=A) (V:=V) (W:=W) (s:=s) (d:=d) (m:=m) (by rw[Ag]; exact hi.x.xc.1) (by rw[Ag]; exact hso) (by rw[Ag]; exact hdl) (by rw[Ag]; exact hWV);rw[Ag]at p2 p3;rw[hAd]at p3;have hlv:=(yxF (V:=W) hi.x.xc.1).1;simp only[Bool.not_true,cond_false,e2,zkF,← hse];rw[show(a.2.1.2 !=0)=true from bne_iff_ne.2 (by omega)];simp only[cond_true];refine(congrArg (fun z=>zkr z _ _) l1).trans ?_;simp only[zkL,zkV,yg0,yej];rw[← hAd];simp only[yfy,hwr,y42,zj4.2 (show 0≤m∧m<(X.2.2.2.1.length:Int)by omega),cond_true,ykC];have ey2:ylC (X.2.2.2.1.set m.toNat (ypv (nth X.2.2.2.1 m yc))) ks a.1 (-1)=(y,true):=ey;rw[ey2];simp only[Bool.not_true,Bool.not_false,cond_true];rw[yQj byy.bb,byy.bl,bne_self_eq_false,cond_false,hyd,hda];refine(congrArg (fun z=>zkr z _ _) p3).trans ?_;simp only[zkL,zkV,hlv];rcases hW with h | ⟨h,h3⟩
   ·rw[p2 h]
    show some (((yn a.2.1==yn a.2.1),()),())=_;rw[beq_self_eq_true]
   ·rw[p1 h,show(X.1 !=0)=true from bne_iff_ne.2 h3]
    cases p.2
    ·show some (((yn a.2.1==yn a.2.1),()),())=_
     rw[beq_self_eq_true]
    ·show some (((yn a.2.1==yn a.2.1),()),())=_
     rw[beq_self_eq_true]
 ·rfl
def yJL:Con:=⟨yjK,yqb,fun x=>(fun n=>some ((n,()),())) (yqu x.1)⟩
theorem yMl:ConOk prog 9 yJL:=(yKh).mono (fun x r hk h=>(yMb x.1 hk).trans h)
end
end Go.Tf
