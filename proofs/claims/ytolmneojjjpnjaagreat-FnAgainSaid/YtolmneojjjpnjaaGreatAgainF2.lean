/- Functions of the program, and what they come to. -/
import Derived.Test.YtolmneojjjpnjaaGreatAgainF1
namespace Go.Tf
noncomputable section
open Go.Proofs Go.Proofs.Tryz
set_option synthInstance.maxHeartbeats 400000
set_option synthInstance.maxSize 10000
set_option linter.unusedVariables false
set_option linter.unusedSimpArgs false
set_option maxRecDepth 100000
section
def yIV:Code:=(f192.body).getD .skip
def yJt:Env:=zj0 TT [] []
theorem yQG:FrOk prog ⟨yJt,26,fun _=>none⟩ yIV:=zj4 yc yd trivial
def yTu:Nat→Option Seg:=fun _=>none
abbrev ync:List Par:= [.pt tA (.pr .fz (.pr (.pr .fz .fz) (.pr (.ow (.pr (.ow (.ow .fz)) (.pr (.ow (.pr .fz (.ow .fz))) (.pr .fz (.ow .fz))))) (.pr .fz (.pr .fz (.pr .fz (.pr .fz (.pr .fz (.pr (.ow (.pr .fz (.ow .fz))) (.pr .fz (.pr .fz .fz)))))))))))]
abbrev yte:List OT:= [⟨false,tB,.fz⟩]
def ywS (a0:dA):Option (ResD yte×MutD ync) :=
 bif(a0.2.2.2.2.2.2.2.2.2.1==0)then
 some ((false,()),((a0.1,a0.2.1,a0.2.2.1,a0.2.2.2.1,a0.2.2.2.2.1,a0.2.2.2.2.2.1,a0.2.2.2.2.2.2.1,a0.2.2.2.2.2.2.2.1,a0.2.2.2.2.2.2.2.2.1,(-1),true,a0.2.2.2.2.2.2.2.2.2.2.2),()))
 else
 bif(ltb 0 a0.2.2.2.2.2.2.2.2.2.1)then
 some ((true,()),((a0.1,a0.2.1,a0.2.2.1,a0.2.2.2.1,a0.2.2.2.2.1,a0.2.2.2.2.2.1,a0.2.2.2.2.2.2.1,a0.2.2.2.2.2.2.2.1,a0.2.2.2.2.2.2.2.2.1,(IntKind.i64.wrap (a0.2.2.2.2.2.2.2.2.2.1-1)),a0.2.2.2.2.2.2.2.2.2.2),()))
 else
 some ((true,()),(a0,()))
theorem y0v (x:InD ync):zju ⟨yJt,26,yTu⟩ f192.results.toList yIV ync yte x=ywS x.1:=by kernel_rfl
theorem yV2:ConOk prog 192 ⟨ync,yte,fun x=>ywS x.1⟩:=zjZ (yQG) func192 (by kernel_rfl) (by kernel_rfl) ntmps192.symm (by decide) (fun x r h=>(y0v x).trans h)
def yid (a0:dA):Bool×dA :=
 bif(a0.2.2.2.2.2.2.2.2.2.1==0)then
 (false,(a0.1,a0.2.1,a0.2.2.1,a0.2.2.2.1,a0.2.2.2.2.1,a0.2.2.2.2.2.1,a0.2.2.2.2.2.2.1,a0.2.2.2.2.2.2.2.1,a0.2.2.2.2.2.2.2.2.1,(-1),true,a0.2.2.2.2.2.2.2.2.2.2.2))
 else
 bif(ltb 0 a0.2.2.2.2.2.2.2.2.2.1)then
 (true,(a0.1,a0.2.1,a0.2.2.1,a0.2.2.2.1,a0.2.2.2.2.1,a0.2.2.2.2.2.1,a0.2.2.2.2.2.2.1,a0.2.2.2.2.2.2.2.1,a0.2.2.2.2.2.2.2.2.1,(IntKind.i64.wrap (a0.2.2.2.2.2.2.2.2.2.1-1)),a0.2.2.2.2.2.2.2.2.2.2))
 else
 (true,a0)
def yv8:Con:=⟨ync,yte,fun x=>(fun n=>some ((n.1,()),(n.2,()))) (yid x.1)⟩
theorem yYn (a0:dA):ywS a0=(fun n=>some ((n.1,()),(n.2,()))) (yid a0):=zkn (p:=fun(n:Bool×dA)=>((n.1,()),(n.2,()))) (zj9 (p:=fun(n:Bool×dA)=>((n.1,()),(n.2,()))) rfl (zj9 (p:=fun(n:Bool×dA)=>((n.1,()),(n.2,()))) rfl rfl))
theorem yHZ:ConOk prog 192 yv8:=(yV2).mono (fun x r _ h=>(yYn x.1).trans h)
theorem yVm {a:dA} (h:downA a=false):yid a=opA a:=by
 unfold yid opA;rw[h]
 cases(a.2.2.2.2.2.2.2.2.2.1==0)
 ·cases ltb 0 a.2.2.2.2.2.2.2.2.2.1
  ·rfl
  ·show(true,_)=(true,ymV a _ false)
   unfold ymV;rw[show a.2.2.2.2.2.2.2.2.2.2=(downA a,a.2.2.2.2.2.2.2.2.2.2.2)from rfl,h]
 ·rfl
end
section
def yAo:Code:=(f223.body).getD .skip
def yAJ:Env:=zj0 TT [] []
theorem yIq:FrOk prog ⟨yAJ,7,fun _=>none⟩ yAo:=zj4 yc yd trivial
def yJ7:Nat→Option Seg:=fun _=>none
abbrev yfY:List Par:= [.rd tI,.rp tI]
abbrev yj2:List OT:= [⟨false,tB,.fz⟩]
def yok (a0 a1:Int):Option (ResD yj2×MutD yfY) :=
 some (((a0==a1),()),())
theorem yNW (x:InD yfY):zju ⟨yAJ,7,yJ7⟩ f223.results.toList yAo yfY yj2 x=yok x.1 x.2.1:=by kernel_rfl
theorem yKE:ConOk prog 223 ⟨yfY,yj2,fun x=>yok x.1 x.2.1⟩:=zjZ (yIq) func223 (by kernel_rfl) (by kernel_rfl) ntmps223.symm (by decide) (fun x r h=>(yNW x).trans h)
def ydB (a0 a1:Int):Bool :=
 (a0==a1)
def yn8:Con:=⟨yfY,yj2,fun x=>(fun n=>some ((n,()),())) (ydB x.1 x.2.1)⟩
theorem yME (a0 a1:Int):yok a0 a1=(fun n=>some ((n,()),())) (ydB a0 a1):=zkn (p:=fun(n:Bool)=>((n,()),())) rfl
theorem yzP:ConOk prog 223 yn8:=(yKE).mono (fun x r _ h=>(yME x.1 x.2.1).trans h)
end
section
def yb6:Code:=(f244.body).getD .skip
def yeJ:Env:=zj0 TT [(223,yn8)] []
theorem yBX:FrOk prog ⟨yeJ,19,fun _=>none⟩ yb6:=zj4 yc yd ⟨yzP,trivial⟩
def ypR:Nat→Option Seg:=fun _=>none
def yQ:Shape:=⟨[(0,false,[.br tI]),(1,false,[.fx 223 tI]),(7,false,[.int .i64]),(8,false,[.int .i64])],[],[]⟩
def yaV:Shape:=⟨[(0,false,[.br tI]),(1,false,[.fx 223 tI]),(7,false,[.int .i64]),(8,false,[.ci .i64 0])],[],[]⟩
def yaU:Shape:=⟨[],[],[]⟩
def yaW:Shape:=⟨[(4,false,[.int .i64])],[],[]⟩
abbrev yfR (v0:List Int) (v1 v2 v3:Int):(yQ).X:=(((v0,()),(v1,()),(v2,()),(v3,()),()),(),())
abbrev yAd (v0:List Int) (v1 v2:Int):(yaV).X:=(((v0,()),(v1,()),(v2,()),((),()),()),(),())
abbrev yAc  :(yaU).X:=((),(),())
abbrev ynE (v0:Int):(yaW).X:=(((v0,()),()),(),())
def yfV (v0:List Int) (v1 v2 v3:Int):Option ((yQ).X ⊕ ((yaU).X ⊕ (yaW).X)) :=
 bif(ltb v3 v2)then
 bif(inb v3 v0.length)then
 let r2:=ydB (nth v0 v3 0) v1
 bif r2 then
 some (.inr (.inr (((v3,()),()),(),())))
 else
 some (.inl (((v0,()),(v1,()),(v2,()),((IntKind.i64.wrap (v3+1)),()),()),(),()))
 else none
 else
 some (.inr (.inl ((),(),())))
def yab (x:(yQ).X):=yfV x.1.1.1 x.1.2.1.1 x.1.2.2.1.1 x.1.2.2.2.1.1
def ynB (x:(yaV).X):(yQ).X:=(((x.1.1.1,()),(x.1.2.1.1,()),(x.1.2.2.1.1,()),(0,()),()),(),())
def yo9:Code:=(zef yb6 64 52).getD .skip
theorem yBU:zef yb6 64 13=some (.block 0 (.loop yo9)):=by kernel_rfl
theorem yB5 (x:(yQ).X):zg0 ⟨yeJ,19,ypR⟩ 0 yo9 52 yQ yaU yaW x=yab x:=by kernel_rfl
def ynC (x:(yaV).X):Nat:=18446744073709551616
def ygy (x:(yaV).X):Option ((yaU).X ⊕ (yaW).X):=zz yab (ynC x) (ynB x)
def ynW:Seg:=⟨yaV,yaU,yaW,ygy⟩
def ypS:Nat→Option Seg:=fun q=>bif Nat.beq q 13 then some ynW else ypR q
theorem yBY:FrOk prog ⟨yeJ,19,ypS⟩ yb6:=(yBX).loop (sg:=ynW) yQ ynB (by decide) yBU yab ynC (by decide) (fun _=>rfl) (fun x r _ h=>h) yB5
abbrev yaG:List Par:= [.rd tL,.fn 223 tI]
abbrev yeK:List OT:= [⟨false,tI,.fz⟩]
def ydw (a0:List Int) (a1:Int):Option (ResD yeK×MutD yaG) :=
 zjW (ygy (((a0,()),(a1,()),((a0.length:Int),()),((),()),()),(),())) (fun y2 =>
 some (((-1),()),())) (fun y2 =>
 some ((y2.1.1.1,()),()))
theorem yGp (x:InD yaG):zju ⟨yeJ,19,ypS⟩ f244.results.toList yb6 yaG yeK x=ydw x.1 x.2.1:=by kernel_rfl
theorem yDT:ConOk prog 244 ⟨yaG,yeK,fun x=>ydw x.1 x.2.1⟩:=zjZ (yBY) func244 (by kernel_rfl) (by kernel_rfl) ntmps244.symm (by decide) (fun x r h=>(yGp x).trans h)
def ycc (a0:List Int) (a1:Int):Int:=yL (fun e:Int=>e==a1) a0
theorem yEo (a0:List Int) (a1:Int) (hk:zi0 yaG (a0,a1,())):ydw a0 a1=(fun n=>some ((n,()),())) (ycc a0 a1):=by
 have hb:a0.length*8≤2^47:=hk.1.1
 have h1:ygy (yAd a0 a1 a0.length)=some (bif leb 0 (yL (fun e:Int=>e==a1) a0)then .inr (ynE (yL (fun e:Int=>e==a1) a0))else .inl yAc) :=
  yMc (step:=yab) a0 0 (fun i=>yfR a0 a1 a0.length i) (fun e:Int=>e==a1) (fun i=> .inr (ynE i)) _ (fun i hi=>by
   simp only[yab,yfR,yfV,zj2 (show(i:Int)<a0.length by omega),cond_true,wr (show -9223372036854775808≤(i:Int)+1 by omega) (by omega),Int.natCast_add,Int.natCast_one,Int.toNat_natCast,zkj hi,zkk,ydB]
   cases(a0.getD i 0==a1)<;>rfl) (by simp only[yab,yfR,yfV,zkv (Int.le_refl _),cond_false]) _ (by show _<18446744073709551616; omega)
 unfold ydw ycc;rw[h1]
 cases h:leb 0 (yL (fun e:Int=>e==a1) a0)
 ·rw[yYk h]; rfl
 ·rfl
def yqf:Con:=⟨yaG,yeK,fun x=>(fun n=>some ((n,()),())) (ycc x.1 x.2.1)⟩
theorem yEq:ConOk prog 244 yqf:=(yDT).mono (fun x r hk h=>(yEo x.1 x.2.1 hk).trans h)
end
section
def ybx:Code:=(f222.body).getD .skip
def yd0:Env:=zj0 TT [(223,yn8),(244,yqf)] []
theorem yz9:FrOk prog ⟨yd0,42,fun _=>none⟩ ybx:=zj4 yc yd ⟨yzP,yEq,trivial⟩
def you:Nat→Option Seg:=fun _=>none
def yN:Shape:=⟨[(0,false,[.at 800000000]),(1,false,[.fx 223 tI]),(5,false,[.int .i64]),(6,false,[.int .i64])],[],[(800000000,tI,.fz)]⟩
def yaB:Shape:=⟨[(0,false,[.at 800000000]),(1,false,[.fx 223 tI]),(5,false,[.int .i64]),(6,false,[.int .i64])],[],[(800000000,tI,.fz)]⟩
def yaA:Shape:=⟨[(0,false,[.at 800000000]),(5,false,[.int .i64])],[],[(800000000,tI,.fz)]⟩
def yce:Shape:=⟨[],[],[]⟩
abbrev ybO (v0 v1 v2:Int) (v3:List Int):(yN).X:=((((),()),(v0,()),(v1,()),(v2,()),()),(),(v3,()))
abbrev yzO (v0 v1 v2:Int) (v3:List Int):(yaB).X:=((((),()),(v0,()),(v1,()),(v2,()),()),(),(v3,()))
abbrev yzM (v0:Int) (v1:List Int):(yaA).X:=((((),()),(v0,()),()),(),(v1,()))
def yfg (v0 v1 v2:Int) (v3:List Int):Option ((yN).X ⊕ ((yaA).X ⊕ (yce).X)) :=
 bif(ltb v2 (v3.length:Int))then
 bif(inb v2 v3.length)then
 let r3:=ydB (nth v3 v2 0) v0
 bif(!r3)then
 bif(inb v1 v3.length)then
 some (.inl ((((),()),(v0,()),((IntKind.i64.wrap (v1+1)),()),((IntKind.i64.wrap (v2+1)),()),()),(),((v3.set (v1).toNat (nth v3 v2 0)),())))
 else none
 else
 some (.inl ((((),()),(v0,()),(v1,()),((IntKind.i64.wrap (v2+1)),()),()),(),(v3,())))
 else none
 else
 some (.inr (.inl ((((),()),(v1,()),()),(),(v3,()))))
def yV (x:(yN).X):=yfg x.1.2.1.1 x.1.2.2.1.1 x.1.2.2.2.1.1 x.2.2.1
def yl1 (x:(yaB).X):(yN).X:=((((),()),(x.1.2.1.1,()),(x.1.2.2.1.1,()),(x.1.2.2.2.1.1,()),()),(),(x.2.2.1,()))
def ynA:Code:=(zef ybx 64 244).getD .skip
theorem yz6:zef ybx 64 61=some (.block 0 (.loop ynA)):=by kernel_rfl
theorem yAj (x:(yN).X):zg0 ⟨yd0,42,you⟩ 0 ynA 244 yN yaA yce x=yV x:=by kernel_rfl
def yl3 (x:(yaB).X):Nat:=18446744073709551616
def yfK (x:(yaB).X):Option ((yaA).X ⊕ (yce).X):=zz yV (yl3 x) (yl1 x)
def yl6:Seg:=⟨yaB,yaA,yce,yfK⟩
def yov:Nat→Option Seg:=fun q=>bif Nat.beq q 61 then some yl6 else you q
theorem yAa:FrOk prog ⟨yd0,42,yov⟩ ybx:=(yz9).loop (sg:=yl6) yN yl1 (by decide) yz6 yV yl3 (by decide) (fun _=>rfl) (fun x r _ h=>h) yAj
abbrev yas:List Par:= [.kp tL (.ow .fz),.fn 223 tI]
abbrev yd1:List OT:= [⟨false,tL,(.ow .fz)⟩]
def ycZ (a0:List Int) (a1:Int):Option (ResD yd1×MutD yas) :=
 let r1:=ycc a0 a1
 bif(r1==(-1))then
 some ((a0,()),())
 else
 zjW (yfK ((((),()),(a1,()),(r1,()),((IntKind.i64.wrap (r1+1)),()),()),(),(a0,()))) (fun y3 =>
 bif(zjt y3.1.2.1.1 (y3.2.2.1.length:Int) y3.2.2.1.length)then
 bif(zjt 0 y3.1.2.1.1 (y3.2.2.1.take (y3.1.2.1.1).toNat++(List.replicate ((y3.2.2.1.length:Int)-y3.1.2.1.1).toNat (0:Int))++y3.2.2.1.drop ((y3.1.2.1.1).toNat+(List.replicate ((y3.2.2.1.length:Int)-y3.1.2.1.1).toNat (0:Int)).length)).length)then
 some (((((y3.2.2.1.take (y3.1.2.1.1).toNat++(List.replicate ((y3.2.2.1.length:Int)-y3.1.2.1.1).toNat (0:Int))++y3.2.2.1.drop ((y3.1.2.1.1).toNat+(List.replicate ((y3.2.2.1.length:Int)-y3.1.2.1.1).toNat (0:Int)).length)).drop (0:Int).toNat).take (y3.1.2.1.1-0).toNat),()),())
 else none
 else none) (fun y3 =>
 none)
theorem yEn (x:InD yas):zju ⟨yd0,42,yov⟩ f222.results.toList ybx yas yd1 x=ycZ x.1 x.2.1:=by kernel_rfl
theorem yB4:ConOk prog 222 ⟨yas,yd1,fun x=>ycZ x.1 x.2.1⟩:=zjZ (yAa) func222 (by kernel_rfl) (by kernel_rfl) ntmps222.symm (by decide) (fun x r h=>(yEn x).trans h)
def yby (a0:List Int) (a1:Int):List Int:=yIL a0 a1
theorem yDR (a0:List Int) (a1:Int) (hk:zi0 yas (a0,a1,())):ycZ a0 a1=(fun n=>some ((n,()),())) (yby a0 a1):=by
 have hb:a0.length*8≤2^47:=hk.1.1;have hs:yIL a0 a1=a0.filter (fun x=> !(x==a1)):=rfl;unfold ycZ yby ycc;simp only[]
 cases hi:leb 0 (yL (fun e:Int=>e==a1) a0)
 ·rw[yYk hi,hs,y5d hi]; rfl
 ·obtain⟨h1,h2⟩:=yqj (d:=(0:Int)) hi
  have h3:=zjA.1 h1;have h4:=y0b hi;generalize hk0:yL (fun e:Int=>e==a1) a0=k at *;obtain⟨k,rfl⟩: ∃m:Nat,k=m:=⟨k.toNat,by omega⟩;rw[Int.toNat_natCast]at h4;rw[show((k:Int)== -1)=false from beq_eq_false_iff_ne.2 (by omega),cond_false,wr (show -9223372036854775808≤(k:Int)+1 by omega) (by omega)]
  obtain⟨b,e,i,s,rfl,q1,q2,q3⟩:=ziN (step:=yV) (fun x=>(a0.length-Int.toNat x.1.2.2.2.1.1))
   (fun x=> ∃(i j:Nat) (s:List Int),x=ybO a1 i j s∧i<j∧j≤a0.length∧s.length=a0.length∧s.take i=(a0.take j).filter (fun x=> !(x==a1))∧s.drop j=a0.drop j)
   (fun b=> ∃(i:Nat) (s:List Int),b= .inl (yzM i s)∧i≤a0.length∧s.length=a0.length∧s.take i=a0.filter (fun x=> !(x==a1)))
   (fun x hx=>by
    obtain⟨i,j,s,rfl,p1,p2,p3,p4,p5⟩:=hx
    by_cases hj:j<a0.length
    ·left
     have e1:nth s j 0=a0[j]:=by
      rw[zkk,zkb (by omega)];have:=List.getElem_drop (xs:=s) (i:=j) (j:=0) (h:=by rw[List.length_drop]; omega);have h6:(s.drop j)[0]'(by rw[List.length_drop]; omega)=(a0.drop j)[0]'(by rw[List.length_drop]; omega):=by simp only[p5]
      simpa using h6
     have e2:a0.take (j+1)=a0.take j++ [a0[j]]:=(List.take_append_getElem hj).symm;simp only[yV,ybO,yfg,p3,zj2 (show(j:Int)<a0.length by omega),zkj hj,zkj (show i<a0.length by omega),e1,ydB,wr (show -9223372036854775808≤(j:Int)+1 by omega) (by omega),wr (show -9223372036854775808≤(i:Int)+1 by omega) (by omega),cond_true,Int.toNat_natCast]
     cases hx:(a0[j]==a1)
     ·refine⟨_,rfl,⟨i+1,j+1,s.set i a0[j],rfl,by omega,by omega,by rw[List.length_set,p3],?_,?_⟩,by show a0.length-((j:Int)+1).toNat<a0.length-((j:Int)).toNat; omega⟩
      ·rw[List.take_set,← List.take_append_getElem (show i<s.length by omega),List.set_append_right _ _ (by rw[List.length_take]; omega),p4,e2,List.filter_append,List.filter_cons,hx]
       have:i-(List.filter (fun x=> !x==a1) (a0.take j)).length=0:=by rw[← p4,List.length_take]; omega
       rw[this]; rfl
      ·rw[List.drop_set_of_lt (by omega),← List.drop_drop,p5,List.drop_drop]
     ·refine⟨_,rfl,⟨i,j+1,s,rfl,by omega,by omega,p3,?_,?_⟩,by show a0.length-((j:Int)+1).toNat<a0.length-((j:Int)).toNat; omega⟩
      ·rw[p4,e2,List.filter_append,List.filter_cons,hx]; simp
      ·rw[← List.drop_drop,p5,List.drop_drop]
    ·right
     have:j=a0.length:=by omega
     subst this;rw[List.take_length]at p4;refine⟨_,?_,i,s,rfl,by omega,p3,p4⟩
     simp only[yV,ybO,yfg,p3,zkv (Int.le_refl _),cond_false]) 18446744073709551616 (ybO a1 k (k+1:Nat) a0) ⟨k,k+1,a0,rfl,by omega,by omega,rfl,h4.symm,rfl⟩ (by show a0.length-((k+1:Nat):Int).toNat<18446744073709551616; omega)
  rw[show((k+1:Nat):Int)=(k:Int)+1 by omega]at e;rw[show yfK (yzO a1 k ((k:Int)+1) a0)=_ from e];rw[hs,← q3]
  have hL:(s.take i++List.replicate ((s.length:Int)-i).toNat (0:Int)++s.drop ((i:Int).toNat+(List.replicate ((s.length:Int)-i).toNat (0:Int)).length)).length=s.length:=by
   simp only[List.length_append,List.length_take,List.length_replicate,List.length_drop]; omega
  show(bif zjt i s.length s.length then bif zjt 0 i (s.take i++List.replicate ((s.length:Int)-i).toNat (0:Int)++s.drop ((i:Int).toNat+(List.replicate ((s.length:Int)-i).toNat (0:Int)).length)).length then some ((((s.take i++List.replicate ((s.length:Int)-i).toNat (0:Int)++s.drop ((i:Int).toNat+(List.replicate ((s.length:Int)-i).toNat (0:Int)).length)).drop 0).take ((i:Int)-0).toNat,()),())else none else none)=some ((s.take i,()),());rw[hL,zj3.2 (show 0≤(i:Int)∧(i:Int)≤s.length∧(s.length:Int)≤s.length by omega),zj3.2 (show(0:Int)≤0∧(0:Int)≤i∧(i:Int)≤s.length by omega),List.drop_zero,show((i:Int)-0).toNat=i by omega,List.append_assoc,List.take_append_of_le_length (by rw[List.length_take]; omega),List.take_take,Nat.min_self]; rfl
def ypb:Con:=⟨yas,yd1,fun x=>(fun n=>some ((n,()),())) (yby x.1 x.2.1)⟩
theorem yDW:ConOk prog 222 ypb:=(yB4).mono (fun x r hk h=>(yDR x.1 x.2.1 hk).trans h)
end
section
def yEv:Code:=(f193.body).getD .skip
def yE7:Env:=zj0 TT [(127,yex),(133,yhz),(156,ypa),(158,yaK),(186,yx7),(222,ypb)] []
theorem yLN:FrOk prog ⟨yE7,51,fun _=>none⟩ yEv:=zj4 yc yd ⟨yih,ypl,yyh,ycx,yJ0,yDW,trivial⟩
def yNu:Nat→Option Seg:=fun _=>none
abbrev yfq:List Par:= [.rd tM,.rd tI,.rd tL]
abbrev yoM:List OT:= [⟨false,tM,(.pr (.ow (.ow .fz)) (.pr (.ow (.pr .fz (.ow .fz))) (.pr .fz (.ow .fz))))⟩,⟨false,tB,.fz⟩]
def ykq (a0:dM) (a1:Int) (a2:List Int):Option (ResD yoM×MutD yfq) :=
 let r1:=yan a0
 let r2:=yZ a0
 bif(!(!r2))then
 bif(!a0.2.2.1)then
 let r3:=ybk a0 a1
 bif(!(!r3))then
 let r4:=yhD a2
 bif(!(!r4))then
 bif((a0.2.1.length:Int)==60)then
 some ((r1,false,()),())
 else
 let r5:=yo a2
 bif(zjO r1.2.1.length ([(a1,r5)]:List dW).length 32)then
 let r6:=yby r1.2.2.2 a1
 some (((r1.1,(r1.2.1++([(a1,r5)]:List dW)),r1.2.2.1,r6),true,()),())
 else none
 else
 some ((r1,false,()),())
 else
 some ((r1,false,()),())
 else
 some ((r1,false,()),())
 else
 some ((r1,false,()),())
theorem yUp (x:InD yfq):zju ⟨yE7,51,yNu⟩ f193.results.toList yEv yfq yoM x=ykq x.1 x.2.1 x.2.2.1:=by kernel_rfl
theorem yPa:ConOk prog 193 ⟨yfq,yoM,fun x=>ykq x.1 x.2.1 x.2.2.1⟩:=zjZ (yLN) func193 (by kernel_rfl) (by kernel_rfl) ntmps193.symm (by decide) (fun x r h=>(yUp x).trans h)
def yjA (a0:dM) (a1:Int) (a2:List Int):dM×Bool:=yE a0 a1 a2
theorem ySb (a0:dM) (a1:Int) (a2:List Int) (hk:zi0 yfq (a0,a1,a2,())):ykq a0 a1 a2=(fun n=>some ((n.1,n.2,()),())) (yjA a0 a1 a2):=by
 have hb1:a0.1.length*24≤2^47:=hk.1.1.1;unfold ykq yjA yE yaR;simp only[yan,yZ,ybk,y9,yqk (show a0.1.length≤1152921504606846976 by omega),yGr,yo,yby]
 cases hm:memOk a0
 ·rfl
 have hc:=(yca hm).2.2.2.2.2
 cases a0.2.2.1
 ·cases inb a1 a0.1.length
  ·rfl
  cases yaa a2
  ·rfl
  by_cases h:(a0.2.1.length:Int)<60
  ·rw[zj2 h,show((a0.2.1.length:Int)==60)=false from beq_eq_false_iff_ne.2 (by omega),zj8.2 (show(a0.2.1.length+ [(a1,a2)].length)*32≤140737488355328 by simp only[List.length_cons,List.length_nil]; omega)]; rfl
  ·rw[zkv (by omega),show((a0.2.1.length:Int)==60)=true from beq_iff_eq.2 (by omega)]; rfl
 ·rfl
def yA5:Con:=⟨yfq,yoM,fun x=>(fun n=>some ((n.1,n.2,()),())) (yjA x.1 x.2.1 x.2.2.1)⟩
theorem ySX:ConOk prog 193 yA5:=(yPa).mono (fun x r hk h=>(ySb x.1 x.2.1 x.2.2.1 hk).trans h)
end
section
def yCb:Code:=(f139.body).getD .skip
def yCE:Env:=zj0 TT [(192,yv8),(193,yA5)] []
theorem yKj:FrOk prog ⟨yCE,39,fun _=>none⟩ yCb:=zj4 yc yd ⟨yHZ,ySX,trivial⟩
def yK2:Nat→Option Seg:=fun _=>none
abbrev ycj:List Par:= [.pt tA (.pr .fz (.pr (.pr .fz .fz) (.pr (.ow (.pr (.ow (.ow .fz)) (.pr (.ow (.pr .fz (.ow .fz))) (.pr .fz (.ow .fz))))) (.pr .fz (.pr .fz (.pr .fz (.pr .fz (.pr .fz (.pr (.ow (.pr .fz (.ow .fz))) (.pr .fz (.pr .fz .fz))))))))))),.rd tI,.rd tI,.rd tL]
abbrev yhu:List OT:= [⟨false,tB,.fz⟩]
def yjM (a0:dA) (a1 a2:Int) (a3:List Int):Option (ResD yhu×MutD ycj) :=
 bif(inb a1 a0.2.2.1.length)then
 bif(((nth a0.2.2.1 a1 ([],[],false,[])).2).2).1 then
 some ((true,()),(a0,()))
 else
 let r1:=yid a0
 bif(!r1.1)then
 some ((false,()),(r1.2,()))
 else
 bif(inb a1 r1.2.2.2.1.length)then
 let r2:=yjA ((nth r1.2.2.2.1 a1 ([],[],false,[])).1,((nth r1.2.2.2.1 a1 ([],[],false,[])).2).1,(((nth r1.2.2.2.1 a1 ([],[],false,[])).2).2)) a2 a3
 bif(inb a1 r1.2.2.2.1.length)then
 some ((true,()),((r1.2.1,r1.2.2.1,(r1.2.2.2.1.set (a1).toNat r2.1),r1.2.2.2.2),()))
 else none
 else none
 else none
theorem yQA (x:InD ycj):zju ⟨yCE,39,yK2⟩ f139.results.toList yCb ycj yhu x=yjM x.1 x.2.1 x.2.2.1 x.2.2.2.1:=by kernel_rfl
theorem yMI:ConOk prog 139 ⟨ycj,yhu,fun x=>yjM x.1 x.2.1 x.2.2.1 x.2.2.2.1⟩:=zjZ (yKj) func139 (by kernel_rfl) (by kernel_rfl) ntmps139.symm (by decide) (fun x r h=>(yQA x).trans h)
def ycw (a0:dA) (a1 a2:Int) (a3:List Int):Bool×dA:=(!(downA (yaZ a0 a1 a2 a3)),yaZ a0 a1 a2 a3)
def ycy (a0:dA) (a1 a2:Int) (a3:List Int):Bool:=inb a1 a0.2.2.1.length&& !(downA a0)
theorem yOY (a0:dA) (a1 a2:Int) (a3:List Int) (hk:zi0 ycj (a0,a1,a2,a3,())) (hq:ycy a0 a1 a2 a3=true):yjM a0 a1 a2 a3=(fun n=>some ((n.1,()),(n.2,()))) (ycw a0 a1 a2 a3):=by
 simp only[ycy,Bool.and_eq_true,Bool.not_eq_true']at hq;unfold yjM ycw;simp only[y2U hq.2];unfold yaZ setMem;simp only[yVm hq.2,yap,hq.1,zkp,yjA]
 cases(nth a0.2.2.1 a1 noMem).2.2.1<;>cases(opA a0).1<;>rfl
def yeC (a0:dA) (a1 a2:Int) (a3:List Int):Option (ResD yhu×MutD ycj):=bif ycy a0 a1 a2 a3 then(fun n=>some ((n.1,()),(n.2,()))) (ycw a0 a1 a2 a3)else none
theorem ysw (a0:dA) (a1 a2:Int) (a3:List Int) (h:ycy a0 a1 a2 a3=true):yeC a0 a1 a2 a3=(fun n=>some ((n.1,()),(n.2,()))) (ycw a0 a1 a2 a3):=by unfold yeC; rw[h]; rfl
def yjp:Con:=⟨ycj,yhu,fun x=>yeC x.1 x.2.1 x.2.2.1 x.2.2.2.1⟩
theorem ysv:ConOk prog 139 yjp:=(yMI).mono (fun x r hk h=>zkq h (fun hq=>yOY x.1 x.2.1 x.2.2.1 x.2.2.2.1 hk hq))
end
section
def yI0:Code:=(f164.body).getD .skip
def yJy:Env:=zj0 TT [(159,yx6)] []
theorem yQN:FrOk prog ⟨yJy,17,fun _=>none⟩ yI0:=zj4 yc yd ⟨yJZ,trivial⟩
def yTz:Nat→Option Seg:=fun _=>none
abbrev yh1:List Par:= [.rd tN]
abbrev ytk:List OT:= [⟨false,tL,(.ow .fz)⟩]
def ypr (a0:dN):Option (ResD ytk×MutD yh1) :=
 let r1:=ylF a0
 bif(!r1)then
 some (([],()),())
 else
 bif(zjO ([21322,a0.1,a0.2.1,(a0.2.2.length:Int)]:List Int).length a0.2.2.length 8)then
 some (((([21322,a0.1,a0.2.1,(a0.2.2.length:Int)]:List Int)++a0.2.2),()),())
 else none
theorem y0B (x:InD yh1):zju ⟨yJy,17,yTz⟩ f164.results.toList yI0 yh1 ytk x=ypr x.1:=by kernel_rfl
theorem yV8:ConOk prog 164 ⟨yh1,ytk,fun x=>ypr x.1⟩:=zjZ (yQN) func164 (by kernel_rfl) (by kernel_rfl) ntmps164.symm (by decide) (fun x r h=>(y0B x).trans h)
def ynI (a0:dN):List Int:=putRec a0
theorem yYt (a0:dN) (hk:zi0 yh1 (a0,())):ypr a0=(fun n=>some ((n,()),())) (ynI a0):=by
 unfold ypr ynI putRec;simp only[yPU]
 cases hr:yC a0
 ·rfl
 ·have:=(yu9.1 hr).2.2.1
  rw[zj8.2 (show(([21322,a0.1,a0.2.1,(a0.2.2.length:Int)]:List Int).length+a0.2.2.length)*8≤140737488355328 by simp only[List.length_cons,List.length_nil]; omega)]; rfl
def yFE:Con:=⟨yh1,ytk,fun x=>(fun n=>some ((n,()),())) (ynI x.1)⟩
theorem yZm:ConOk prog 164 yFE:=(yV8).mono (fun x r hk h=>(yYt x.1 hk).trans h)
end
section
def yik:Code:=(f205.body).getD .skip
def yoy:Env:=zj0 TT [(127,yex),(133,yhz),(158,yaK)] []
theorem yLH:FrOk prog ⟨yoy,34,fun _=>none⟩ yik:=zj4 yc yd ⟨yih,ypl,ycx,trivial⟩
def yAw:Nat→Option Seg:=fun _=>none
def ybe:Shape:=⟨[(2,false,[.ptr 64 0]),(3,false,[.ptr 4224 0]),(17,false,[.br tW]),(18,false,[.int .i64]),(19,false,[.int .i64])],[(64,[.nil,.nil,.bool,.nil]),(4224,[.at 800000000,.at 800000001,.bool,.at 800000002])],[(800000000,tL,(.ow .fz)),(800000001,tW,(.pr .fz (.ow .fz))),(800000002,tI,.fz)]⟩
def ye3:Shape:=⟨[(2,false,[.ptr 64 0]),(3,false,[.ptr 4224 0]),(17,false,[.br tW]),(18,false,[.int .i64]),(19,false,[.ci .i64 0])],[(64,[.nil,.nil,.bool,.nil]),(4224,[.at 800000000,.at 800000001,.bool,.at 800000002])],[(800000000,tL,(.ow .fz)),(800000001,tW,(.pr .fz (.ow .fz))),(800000002,tI,.fz)]⟩
def yeV:Shape:=⟨[(2,false,[.ptr 64 0]),(3,false,[.ptr 4224 0])],[(64,[.nil,.nil,.bool,.nil]),(4224,[.at 800000000,.at 800000001,.bool,.at 800000002])],[(800000000,tL,(.ow .fz)),(800000001,tW,(.pr .fz (.ow .fz))),(800000002,tI,.fz)]⟩
def yjd:Shape:=⟨[],[],[]⟩
abbrev yoc (v0:List dW) (v1 v2:Int) (v3 v4:dM):(ybe).X:=((((),()),((),()),(v0,()),(v1,()),(v2,()),()),(((),(),v3.2.2.1,(),()),((),(),v4.2.2.1,(),()),()),(v4.1,v4.2.1,v4.2.2.2,()))
abbrev yKv (v0:List dW) (v1:Int) (v2 v3:dM):(ye3).X:=((((),()),((),()),(v0,()),(v1,()),((),()),()),(((),(),v2.2.2.1,(),()),((),(),v3.2.2.1,(),()),()),(v3.1,v3.2.1,v3.2.2.2,()))
abbrev yxM (v0 v1:dM):(yeV).X:=((((),()),((),()),()),(((),(),v0.2.2.1,(),()),((),(),v1.2.2.1,(),()),()),(v1.1,v1.2.1,v1.2.2.2,()))
def yoq (v0:List dW) (v1 v2:Int) (v3 v4:Bool) (v5:List (List Int)) (v6:List dW) (v7:List Int):Option ((ybe).X ⊕ ((yeV).X ⊕ (yjd).X)) :=
 bif(ltb v2 v1)then
 bif(inb v2 v0.length)then
 let r4:=yo ((nth v0 v2 (0,[])).2)
 bif(inb ((nth v0 v2 (0,[])).1) v5.length)then
 some (.inl ((((),()),((),()),(v0,()),(v1,()),((IntKind.i64.wrap (v2+1)),()),()),(((),(),v3,(),()),((),(),v4,(),()),()),((v5.set ((nth v0 v2 (0,[])).1).toNat r4),v6,v7,())))
 else none
 else none
 else
 some (.inr (.inl ((((),()),((),()),()),(((),(),v3,(),()),((),(),v4,(),()),()),(v5,v6,v7,()))))
def ybt (x:(ybe).X):=yoq x.1.2.2.1.1 x.1.2.2.2.1.1 x.1.2.2.2.2.1.1 x.2.1.1.2.2.1 x.2.1.2.1.2.2.1 x.2.2.1 x.2.2.2.1 x.2.2.2.2.1
def yxw (x:(ye3).X):(ybe).X:=((((),()),((),()),(x.1.2.2.1.1,()),(x.1.2.2.2.1.1,()),(0,()),()),(((),(),x.2.1.1.2.2.1,(),()),((),(),x.2.1.2.1.2.2.1,(),()),()),(x.2.2.1,x.2.2.2.1,x.2.2.2.2.1,()))
def yy1:Code:=(zef yik 64 244).getD .skip
theorem yLk:zef yik 64 61=some (.block 0 (.loop yy1)):=by kernel_rfl
theorem yMY (x:(ybe).X):zg0 ⟨yoy,34,yAw⟩ 0 yy1 244 ybe yeV yjd x=ybt x:=by kernel_rfl
def yxF (x:(ye3).X):Nat:=18446744073709551616
def ypW (x:(ye3).X):Option ((yeV).X ⊕ (yjd).X):=zz ybt (yxF x) (yxw x)
def yxS:Seg:=⟨ye3,yeV,yjd,ypW⟩
def yAx:Nat→Option Seg:=fun q=>bif Nat.beq q 61 then some yxS else yAw q
theorem yLI:FrOk prog ⟨yoy,34,yAx⟩ yik:=(yLH).loop (sg:=yxS) ybe yxw (by decide) yLk ybt yxF (by decide) (fun _=>rfl) (fun x r _ h=>h) yMY
abbrev yfm:List Par:= [.rd tM]
abbrev yoH:List OT:= [⟨false,tM,(.pr (.ow (.ow .fz)) (.pr (.ow (.pr .fz (.ow .fz))) (.pr .fz (.ow .fz))))⟩]
def ykm (a0:dM):Option (ResD yoH×MutD yfm) :=
 let r1:=yan a0
 let r2:=yZ a0
 bif(!(!r2))then
 bif a0.2.2.1 then
 some ((r1,()),())
 else
 zjW (ypW ((((),()),((),()),(a0.2.1,()),((a0.2.1.length:Int),()),((),()),()),(((),(),false,(),()),((),(),r1.2.2.1,(),()),()),(r1.1,r1.2.1,r1.2.2.2,()))) (fun y4 =>
 some (((y4.2.2.1,[],y4.2.1.2.1.2.2.1,y4.2.2.2.2.1),()),())) (fun y4 =>
 none)
 else
 some ((r1,()),())
theorem yUk (x:InD yfm):zju ⟨yoy,34,yAx⟩ f205.results.toList yik yfm yoH x=ykm x.1:=by kernel_rfl
theorem yO5:ConOk prog 205 ⟨yfm,yoH,fun x=>ykm x.1⟩:=zjZ (yLI) func205 (by kernel_rfl) (by kernel_rfl) ntmps205.symm (by decide) (fun x r h=>(yUk x).trans h)
def yjx (a0:dM):dM:=ym a0
theorem yR6 (a0:dM) (hk:zi0 yfm (a0,())):ykm a0=(fun n=>some ((n,()),())) (yjx a0):=by
 have hb2:a0.2.1.length*32≤2^47:=hk.1.2.1.1;unfold ykm yjx ym;simp only[yan,yZ]
 cases hm:memOk a0
 ·rfl
 have h1:ypW (yKv a0.2.1 a0.2.1.length noMem a0)=some (.inl (yxM noMem (ygS (fun _=>true) a0.2.1 a0.1,a0.2))) :=
  zj6 (step:=ybt) a0.2.1.length (fun i s=>yoc a0.2.1 a0.2.1.length i noMem (s,a0.2)) (yfa (fun _=>true) a0.2.1) (fun i s=>s.length=a0.1.length) (fun s=> .inl (yxM noMem (s,a0.2))) (fun i s hi hs=>by
   have hw:=(yRy hm hi).1;refine⟨?_,ywC.trans hs⟩
   simp only[ybt,yoc,yoq,zj2 (show(i:Int)<a0.2.1.length by omega),cond_true,wr (show -9223372036854775808≤(i:Int)+1 by omega) (by omega),Int.natCast_add,Int.natCast_one,Int.toNat_natCast,zkj hi,hs,hw,yfa,yo]) (fun s hs=>by simp only[ybt,yoc,yoq,zkv (Int.le_refl _),cond_false]) a0.1 rfl _ (by show _<18446744073709551616; omega)
 rw[h1]
 cases hf:a0.2.2.1
 ·exact congrArg (fun z=>some (((ygS (fun _=>true) a0.2.1 a0.1,([]:List dW),z,a0.2.2.2),()),())) hf
 ·rfl
def yA1:Con:=⟨yfm,yoH,fun x=>(fun n=>some ((n,()),())) (yjx x.1)⟩
theorem yST:ConOk prog 205 yA1:=(yO5).mono (fun x r hk h=>(yR6 x.1 hk).trans h)
end
section
def yij:Code:=(f165.body).getD .skip
def yox:Env:=zj0 TT [(192,yv8),(205,yA1)] []
theorem yLC:FrOk prog ⟨yox,38,fun _=>none⟩ yij:=zj4 yc yd ⟨yHZ,yST,trivial⟩
def yAs:Nat→Option Seg:=fun _=>none
def ybb:Shape:=⟨[(0,false,[.ptr 1000000000 0]),(8,false,[.int .i64]),(9,false,[.int .i64])],[(1000000000,[.int .i64,.int .i64,.int .i64,.at 800000000,.int .i64,.int .i64,.int .i64,.int .i64,.int .i64,.at 800000001,.int .i64,.bool,.bool])],[(800000000,tM,(.pr (.ow (.ow .fz)) (.pr (.ow (.pr .fz (.ow .fz))) (.pr .fz (.ow .fz))))),(800000001,tW,(.pr .fz (.ow .fz)))]⟩
def ye0:Shape:=⟨[(0,false,[.ptr 1000000000 0]),(8,false,[.int .i64]),(9,false,[.ci .i64 0])],[(1000000000,[.int .i64,.int .i64,.int .i64,.at 800000000,.int .i64,.int .i64,.int .i64,.int .i64,.int .i64,.at 800000001,.int .i64,.bool,.bool])],[(800000000,tM,(.pr (.ow (.ow .fz)) (.pr (.ow (.pr .fz (.ow .fz))) (.pr .fz (.ow .fz))))),(800000001,tW,(.pr .fz (.ow .fz)))]⟩
def yeS:Shape:=⟨[],[(1000000000,[.int .i64,.int .i64,.int .i64,.at 800000000,.int .i64,.int .i64,.int .i64,.int .i64,.int .i64,.at 800000001,.int .i64,.bool,.bool])],[(800000000,tM,(.pr (.ow (.ow .fz)) (.pr (.ow (.pr .fz (.ow .fz))) (.pr .fz (.ow .fz))))),(800000001,tW,(.pr .fz (.ow .fz)))]⟩
def ye8:Shape:=⟨[(2,false,[.bool])],[(1000000000,[.int .i64,.int .i64,.int .i64,.at 800000000,.int .i64,.int .i64,.int .i64,.int .i64,.int .i64,.at 800000001,.int .i64,.bool,.bool])],[(800000000,tM,(.pr (.ow (.ow .fz)) (.pr (.ow (.pr .fz (.ow .fz))) (.pr .fz (.ow .fz))))),(800000001,tW,(.pr .fz (.ow .fz)))]⟩
abbrev yhR (v0 v1:Int) (v2:dA):(ybb).X:=((((),()),(v0,()),(v1,()),()),((v2.1,v2.2.1.1,v2.2.1.2,(),v2.2.2.2.1,v2.2.2.2.2.1,v2.2.2.2.2.2.1,v2.2.2.2.2.2.2.1,v2.2.2.2.2.2.2.2.1,(),v2.2.2.2.2.2.2.2.2.2.1,v2.2.2.2.2.2.2.2.2.2.2.1,v2.2.2.2.2.2.2.2.2.2.2.2,()),()),(v2.2.2.1,v2.2.2.2.2.2.2.2.2.1,()))
abbrev yKs (v0:Int) (v1:dA):(ye0).X:=((((),()),(v0,()),((),()),()),((v1.1,v1.2.1.1,v1.2.1.2,(),v1.2.2.2.1,v1.2.2.2.2.1,v1.2.2.2.2.2.1,v1.2.2.2.2.2.2.1,v1.2.2.2.2.2.2.2.1,(),v1.2.2.2.2.2.2.2.2.2.1,v1.2.2.2.2.2.2.2.2.2.2.1,v1.2.2.2.2.2.2.2.2.2.2.2,()),()),(v1.2.2.1,v1.2.2.2.2.2.2.2.2.1,()))
abbrev yog (v0:dA):(yeS).X:=((),((v0.1,v0.2.1.1,v0.2.1.2,(),v0.2.2.2.1,v0.2.2.2.2.1,v0.2.2.2.2.2.1,v0.2.2.2.2.2.2.1,v0.2.2.2.2.2.2.2.1,(),v0.2.2.2.2.2.2.2.2.2.1,v0.2.2.2.2.2.2.2.2.2.2.1,v0.2.2.2.2.2.2.2.2.2.2.2,()),()),(v0.2.2.1,v0.2.2.2.2.2.2.2.2.1,()))
abbrev yoi (v0:Bool) (v1:dA):(ye8).X:=(((v0,()),()),((v1.1,v1.2.1.1,v1.2.1.2,(),v1.2.2.2.1,v1.2.2.2.2.1,v1.2.2.2.2.2.1,v1.2.2.2.2.2.2.1,v1.2.2.2.2.2.2.2.1,(),v1.2.2.2.2.2.2.2.2.2.1,v1.2.2.2.2.2.2.2.2.2.2.1,v1.2.2.2.2.2.2.2.2.2.2.2,()),()),(v1.2.2.1,v1.2.2.2.2.2.2.2.2.1,()))
def yon (v0 v1 v2 v3 v4 v5 v6 v7 v8 v9 v10:Int) (v11 v12:Bool) (v13:List dM) (v14:List dW):Option ((ybb).X ⊕ ((yeS).X ⊕ (ye8).X)) :=
 bif(ltb v1 v0)then
 bif(inb v1 v13.length)then
 bif(((nth v13 v1 ([],[],false,[])).2).2).1 then
 some (.inl ((((),()),(v0,()),((IntKind.i64.wrap (v1+1)),()),()),((v2,v3,v4,(),v5,v6,v7,v8,v9,(),v10,v11,v12,()),()),(v13,v14,())))
 else
 let r3:=yid (v2,(v3,v4),v13,v5,v6,v7,v8,v9,v14,v10,v11,v12)
 bif(!r3.1)then
 some (.inr (.inr (((false,()),()),((r3.2.1,r3.2.2.1.1,r3.2.2.1.2,(),r3.2.2.2.2.1,r3.2.2.2.2.2.1,r3.2.2.2.2.2.2.1,r3.2.2.2.2.2.2.2.1,r3.2.2.2.2.2.2.2.2.1,(),r3.2.2.2.2.2.2.2.2.2.2.1,r3.2.2.2.2.2.2.2.2.2.2.2.1,r3.2.2.2.2.2.2.2.2.2.2.2.2,()),()),(r3.2.2.2.1,r3.2.2.2.2.2.2.2.2.2.1,()))))
 else
 bif(inb v1 r3.2.2.2.1.length)then
 let r4:=yjx ((nth r3.2.2.2.1 v1 ([],[],false,[])).1,((nth r3.2.2.2.1 v1 ([],[],false,[])).2).1,(((nth r3.2.2.2.1 v1 ([],[],false,[])).2).2))
 bif(inb v1 r3.2.2.2.1.length)then
 some (.inl ((((),()),(v0,()),((IntKind.i64.wrap (v1+1)),()),()),((r3.2.1,r3.2.2.1.1,r3.2.2.1.2,(),r3.2.2.2.2.1,r3.2.2.2.2.2.1,r3.2.2.2.2.2.2.1,r3.2.2.2.2.2.2.2.1,r3.2.2.2.2.2.2.2.2.1,(),r3.2.2.2.2.2.2.2.2.2.2.1,r3.2.2.2.2.2.2.2.2.2.2.2.1,r3.2.2.2.2.2.2.2.2.2.2.2.2,()),()),((r3.2.2.2.1.set (v1).toNat r4),r3.2.2.2.2.2.2.2.2.2.1,())))
 else none
 else none
 else none
 else
 some (.inr (.inl ((),((v2,v3,v4,(),v5,v6,v7,v8,v9,(),v10,v11,v12,()),()),(v13,v14,()))))
def ybq (x:(ybb).X):=yon x.1.2.1.1 x.1.2.2.1.1 x.2.1.1.1 x.2.1.1.2.1 x.2.1.1.2.2.1 x.2.1.1.2.2.2.2.1 x.2.1.1.2.2.2.2.2.1 x.2.1.1.2.2.2.2.2.2.1 x.2.1.1.2.2.2.2.2.2.2.1 x.2.1.1.2.2.2.2.2.2.2.2.1 x.2.1.1.2.2.2.2.2.2.2.2.2.2.1 x.2.1.1.2.2.2.2.2.2.2.2.2.2.2.1 x.2.1.1.2.2.2.2.2.2.2.2.2.2.2.2.1 x.2.2.1 x.2.2.2.1
def yxt (x:(ye0).X):(ybb).X:=((((),()),(x.1.2.1.1,()),(0,()),()),((x.2.1.1.1,x.2.1.1.2.1,x.2.1.1.2.2.1,(),x.2.1.1.2.2.2.2.1,x.2.1.1.2.2.2.2.2.1,x.2.1.1.2.2.2.2.2.2.1,x.2.1.1.2.2.2.2.2.2.2.1,x.2.1.1.2.2.2.2.2.2.2.2.1,(),x.2.1.1.2.2.2.2.2.2.2.2.2.2.1,x.2.1.1.2.2.2.2.2.2.2.2.2.2.2.1,x.2.1.1.2.2.2.2.2.2.2.2.2.2.2.2.1,()),()),(x.2.2.1,x.2.2.2.1,()))
def yyY:Code:=(zef yij 64 52).getD .skip
theorem yLh:zef yij 64 13=some (.block 0 (.loop yyY)):=by kernel_rfl
theorem yMV (x:(ybb).X):zg0 ⟨yox,38,yAs⟩ 0 yyY 52 ybb yeS ye8 x=ybq x:=by kernel_rfl
def yxC (x:(ye0).X):Nat:=18446744073709551616
def ypU (x:(ye0).X):Option ((yeS).X ⊕ (ye8).X):=zz ybq (yxC x) (yxt x)
def yxP:Seg:=⟨ye0,yeS,ye8,ypU⟩
def yAt:Nat→Option Seg:=fun q=>bif Nat.beq q 13 then some yxP else yAs q
theorem yLD:FrOk prog ⟨yox,38,yAt⟩ yij:=(yLC).loop (sg:=yxP) ybb yxt (by decide) yLh ybq yxC (by decide) (fun _=>rfl) (fun x r _ h=>h) yMV
abbrev yc1:List Par:= [.pt tA (.pr .fz (.pr (.pr .fz .fz) (.pr (.ow (.pr (.ow (.ow .fz)) (.pr (.ow (.pr .fz (.ow .fz))) (.pr .fz (.ow .fz))))) (.pr .fz (.pr .fz (.pr .fz (.pr .fz (.pr .fz (.pr (.ow (.pr .fz (.ow .fz))) (.pr .fz (.pr .fz .fz)))))))))))]
abbrev yi4:List OT:= [⟨false,tB,.fz⟩]
def ykk (a0:dA):Option (ResD yi4×MutD yc1) :=
 zjW (ypU ((((),()),((a0.2.2.1.length:Int),()),((),()),()),((a0.1,a0.2.1.1,a0.2.1.2,(),a0.2.2.2.1,a0.2.2.2.2.1,a0.2.2.2.2.2.1,a0.2.2.2.2.2.2.1,a0.2.2.2.2.2.2.2.1,(),a0.2.2.2.2.2.2.2.2.2.1,a0.2.2.2.2.2.2.2.2.2.2.1,a0.2.2.2.2.2.2.2.2.2.2.2,()),()),(a0.2.2.1,a0.2.2.2.2.2.2.2.2.1,()))) (fun y4 =>
 some ((true,()),((y4.2.1.1.1,(y4.2.1.1.2.1,y4.2.1.1.2.2.1),y4.2.2.1,y4.2.1.1.2.2.2.2.1,y4.2.1.1.2.2.2.2.2.1,y4.2.1.1.2.2.2.2.2.2.1,y4.2.1.1.2.2.2.2.2.2.2.1,y4.2.1.1.2.2.2.2.2.2.2.2.1,y4.2.2.2.1,y4.2.1.1.2.2.2.2.2.2.2.2.2.2.1,y4.2.1.1.2.2.2.2.2.2.2.2.2.2.2.1,y4.2.1.1.2.2.2.2.2.2.2.2.2.2.2.2.1),()))) (fun y4 =>
 some ((y4.1.1.1,()),((y4.2.1.1.1,(y4.2.1.1.2.1,y4.2.1.1.2.2.1),y4.2.2.1,y4.2.1.1.2.2.2.2.1,y4.2.1.1.2.2.2.2.2.1,y4.2.1.1.2.2.2.2.2.2.1,y4.2.1.1.2.2.2.2.2.2.2.1,y4.2.1.1.2.2.2.2.2.2.2.2.1,y4.2.2.2.1,y4.2.1.1.2.2.2.2.2.2.2.2.2.2.1,y4.2.1.1.2.2.2.2.2.2.2.2.2.2.2.1,y4.2.1.1.2.2.2.2.2.2.2.2.2.2.2.2.1),())))
theorem yUi (x:InD yc1):zju ⟨yox,38,yAt⟩ f165.results.toList yij yc1 yi4 x=ykk x.1:=by kernel_rfl
theorem yO3:ConOk prog 165 ⟨yc1,yi4,fun x=>ykk x.1⟩:=zjZ (yLD) func165 (by kernel_rfl) (by kernel_rfl) ntmps165.symm (by decide) (fun x r h=>(yUi x).trans h)
def yjv (a0:dA):Bool×dA:=(!(downA (yb a0)),yb a0)
def yfI (a0:dA):Bool:= !(downA a0)
theorem yR4 (a0:dA) (hk:zi0 yc1 (a0,())) (hq:yfI a0=true):ykk a0=(fun n=>some ((n.1,()),(n.2,()))) (yjv a0):=by
 have hb:a0.2.2.1.length*80≤2^47:=hk.1.2.2.1.1
 have h1:ypU (yKs a0.2.2.1.length a0)=some (bif downA (yb a0)then .inr (yoi false (yb a0))else .inl (yog (yb a0))):=by
  have:=zj5 (step:=ybq) a0.2.2.1.length (fun i s=>yhR a0.2.2.1.length i s) (fun i s=>bif downA (yF s i)then(.inr (yF s i):dA ⊕ dA)else .inl (yF s i)) (fun _ s=>s.2.2.1.length=a0.2.2.1.length∧downA s=false) id
   (fun b=>bif downA b then .inr (yoi false b)else .inl (yog b)) (fun i s hi hs=>by
    constructor
    ·rw[yM7 hs.2]
     simp only[ybq,yhR,yon,hs.1,zj2 (show(i:Int)<a0.2.2.1.length by omega),cond_true,wr (show -9223372036854775808≤(i:Int)+1 by omega) (by omega),Int.natCast_add,Int.natCast_one,Int.toNat_natCast,zkj hi,zkp,yVm hs.2,yap,yjx]
     cases hf:(nth s.2.2.1 i noMem).2.2.1
     ·cases ho:(opA s).1
      ·have e:yF s i=(opA s).2:=by unfold yF; rw[hf,ho]; rfl
       have d:downA (opA s).2=true:=by rw[yZF hs.2,ho]; rfl
       rw[e];simp only[Bool.not_false,Bool.and_self,cond_true,cond_false,d,yap,yoi]
      ·have e:yF s i=setMem (opA s).2 i (ym (nth s.2.2.1 i noMem)):=by unfold yF; rw[hf,ho]; rfl
       rw[e];simp only[Bool.not_true,Bool.not_false,Bool.and_false,cond_true,cond_false,yhR,setMem,yap,Int.toNat_natCast]
     ·have e:yF s i=s:=by unfold yF; rw[hf]; rfl
      rw[e]; rfl
    ·intro s' h
     cases hd:downA (yF s i)
     ·rw[hd]at h
      cases h
      exact⟨(yn0 s i).trans hs.1,hd⟩
     ·rw[hd]at h; cases h) (fun s hs=>by simp only[ybq,yhR,yon,hs.2,zkv (Int.le_refl _),cond_false,id,yog]) a0 ⟨rfl,by simpa [yfI]using hq⟩ 18446744073709551616 (by omega)
  rw[yDK (fun a i h=>yEk i h),← List.range_eq_range']at this;exact this
 unfold ykk yjv;rw[h1]
 cases hd:downA (yb a0)<;>rfl
def yfH (a0:dA):Option (ResD yi4×MutD yc1):=bif yfI a0 then(fun n=>some ((n.1,()),(n.2,()))) (yjv a0)else none
theorem yuy (a0:dA) (h:yfI a0=true):yfH a0=(fun n=>some ((n.1,()),(n.2,()))) (yjv a0):=by unfold yfH; rw[h]; rfl
def ykd:Con:=⟨yc1,yi4,fun x=>yfH x.1⟩
theorem yux:ConOk prog 165 ykd:=(yO3).mono (fun x r hk h=>zkq h (fun hq=>yR4 x.1 hk hq))
end
section
def yfW:Code:=(f97.body).getD .skip
def yjW:Env:=zj0 TT [(88,ywd),(139,yjp),(164,yFE),(165,ykd)] []
theorem yIn:FrOk prog ⟨yjW,26,fun _=>none⟩ yfW:=zj4 yc yd ⟨yH3,ysv,yZm,yux,trivial⟩
def yxh:Nat→Option Seg:=fun _=>none
def yaw:Shape:=⟨[(0,false,[.ptr 1000000000 0]),(3,false,[.ptr 0 0]),(10,false,[.int .i64]),(11,false,[.int .i64])],[(0,[.int .i64,.int .i64,.br tI]),(1000000000,[.int .i64,.int .i64,.int .i64,.at 800000000,.int .i64,.int .i64,.int .i64,.int .i64,.int .i64,.at 800000001,.int .i64,.bool,.bool])],[(800000000,tM,(.pr (.ow (.ow .fz)) (.pr (.ow (.pr .fz (.ow .fz))) (.pr .fz (.ow .fz))))),(800000001,tW,(.pr .fz (.ow .fz)))]⟩
def ydk:Shape:=⟨[(0,false,[.ptr 1000000000 0]),(3,false,[.ptr 0 0]),(10,false,[.int .i64]),(11,false,[.ci .i64 0])],[(0,[.int .i64,.int .i64,.br tI]),(1000000000,[.int .i64,.int .i64,.int .i64,.at 800000000,.int .i64,.int .i64,.int .i64,.int .i64,.int .i64,.at 800000001,.int .i64,.bool,.bool])],[(800000000,tM,(.pr (.ow (.ow .fz)) (.pr (.ow (.pr .fz (.ow .fz))) (.pr .fz (.ow .fz))))),(800000001,tW,(.pr .fz (.ow .fz)))]⟩
def ydi:Shape:=⟨[(0,false,[.ptr 1000000000 0])],[(1000000000,[.int .i64,.int .i64,.int .i64,.at 800000000,.int .i64,.int .i64,.int .i64,.int .i64,.int .i64,.at 800000001,.int .i64,.bool,.bool])],[(800000000,tM,(.pr (.ow (.ow .fz)) (.pr (.ow (.pr .fz (.ow .fz))) (.pr .fz (.ow .fz))))),(800000001,tW,(.pr .fz (.ow .fz)))]⟩
def ydm:Shape:=⟨[(4,false,[.bool])],[(1000000000,[.int .i64,.int .i64,.int .i64,.at 800000000,.int .i64,.int .i64,.int .i64,.int .i64,.int .i64,.at 800000001,.int .i64,.bool,.bool])],[(800000000,tM,(.pr (.ow (.ow .fz)) (.pr (.ow (.pr .fz (.ow .fz))) (.pr .fz (.ow .fz))))),(800000001,tW,(.pr .fz (.ow .fz)))]⟩
abbrev ylx (v0 v1:Int) (v2:dN) (v3:dA):(yaw).X:=((((),()),((),()),(v0,()),(v1,()),()),((v2.1,v2.2.1,v2.2.2,()),(v3.1,v3.2.1.1,v3.2.1.2,(),v3.2.2.2.1,v3.2.2.2.2.1,v3.2.2.2.2.2.1,v3.2.2.2.2.2.2.1,v3.2.2.2.2.2.2.2.1,(),v3.2.2.2.2.2.2.2.2.2.1,v3.2.2.2.2.2.2.2.2.2.2.1,v3.2.2.2.2.2.2.2.2.2.2.2,()),()),(v3.2.2.1,v3.2.2.2.2.2.2.2.2.1,()))
abbrev yHW (v0:Int) (v1:dN) (v2:dA):(ydk).X:=((((),()),((),()),(v0,()),((),()),()),((v1.1,v1.2.1,v1.2.2,()),(v2.1,v2.2.1.1,v2.2.1.2,(),v2.2.2.2.1,v2.2.2.2.2.1,v2.2.2.2.2.2.1,v2.2.2.2.2.2.2.1,v2.2.2.2.2.2.2.2.1,(),v2.2.2.2.2.2.2.2.2.2.1,v2.2.2.2.2.2.2.2.2.2.2.1,v2.2.2.2.2.2.2.2.2.2.2.2,()),()),(v2.2.2.1,v2.2.2.2.2.2.2.2.2.1,()))
abbrev ylz (v0:dA):(ydi).X:=((((),()),()),((v0.1,v0.2.1.1,v0.2.1.2,(),v0.2.2.2.1,v0.2.2.2.2.1,v0.2.2.2.2.2.1,v0.2.2.2.2.2.2.1,v0.2.2.2.2.2.2.2.1,(),v0.2.2.2.2.2.2.2.2.2.1,v0.2.2.2.2.2.2.2.2.2.2.1,v0.2.2.2.2.2.2.2.2.2.2.2,()),()),(v0.2.2.1,v0.2.2.2.2.2.2.2.2.1,()))
abbrev ylB (v0:Bool) (v1:dA):(ydm).X:=(((v0,()),()),((v1.1,v1.2.1.1,v1.2.1.2,(),v1.2.2.2.1,v1.2.2.2.2.1,v1.2.2.2.2.2.1,v1.2.2.2.2.2.2.1,v1.2.2.2.2.2.2.2.1,(),v1.2.2.2.2.2.2.2.2.2.1,v1.2.2.2.2.2.2.2.2.2.2.1,v1.2.2.2.2.2.2.2.2.2.2.2,()),()),(v1.2.2.1,v1.2.2.2.2.2.2.2.2.1,()))
def ylZ (v0 v1 v2 v3:Int) (v4:List Int) (v5 v6 v7 v8 v9 v10 v11 v12 v13:Int) (v14 v15:Bool) (v16:List dM) (v17:List dW):Option ((yaw).X ⊕ ((ydi).X ⊕ (ydm).X)) :=
 bif(ltb v1 v0)then
 let r4:=ynJ v2
 let r5:=ynI (v2,v3,v4)
 bnd (yeC (v5,(v6,v7),v16,v8,v9,v10,v11,v12,v17,v13,v14,v15) v1 r4 r5) fun r6 =>
 bif(!r6.1.1)then
 some (.inr (.inr (((false,()),()),((r6.2.1.1,r6.2.1.2.1.1,r6.2.1.2.1.2,(),r6.2.1.2.2.2.1,r6.2.1.2.2.2.2.1,r6.2.1.2.2.2.2.2.1,r6.2.1.2.2.2.2.2.2.1,r6.2.1.2.2.2.2.2.2.2.1,(),r6.2.1.2.2.2.2.2.2.2.2.2.1,r6.2.1.2.2.2.2.2.2.2.2.2.2.1,r6.2.1.2.2.2.2.2.2.2.2.2.2.2,()),()),(r6.2.1.2.2.1,r6.2.1.2.2.2.2.2.2.2.2.1,()))))
 else
 some (.inl ((((),()),((),()),(v0,()),((IntKind.i64.wrap (v1+1)),()),()),((v2,v3,v4,()),(r6.2.1.1,r6.2.1.2.1.1,r6.2.1.2.1.2,(),r6.2.1.2.2.2.1,r6.2.1.2.2.2.2.1,r6.2.1.2.2.2.2.2.1,r6.2.1.2.2.2.2.2.2.1,r6.2.1.2.2.2.2.2.2.2.1,(),r6.2.1.2.2.2.2.2.2.2.2.2.1,r6.2.1.2.2.2.2.2.2.2.2.2.2.1,r6.2.1.2.2.2.2.2.2.2.2.2.2.2,()),()),(r6.2.1.2.2.1,r6.2.1.2.2.2.2.2.2.2.2.1,())))
 else
 some (.inr (.inl ((((),()),()),((v5,v6,v7,(),v8,v9,v10,v11,v12,(),v13,v14,v15,()),()),(v16,v17,()))))
def yaI (x:(yaw).X):=ylZ x.1.2.2.1.1 x.1.2.2.2.1.1 x.2.1.1.1 x.2.1.1.2.1 x.2.1.1.2.2.1 x.2.1.2.1.1 x.2.1.2.1.2.1 x.2.1.2.1.2.2.1 x.2.1.2.1.2.2.2.2.1 x.2.1.2.1.2.2.2.2.2.1 x.2.1.2.1.2.2.2.2.2.2.1 x.2.1.2.1.2.2.2.2.2.2.2.1 x.2.1.2.1.2.2.2.2.2.2.2.2.1 x.2.1.2.1.2.2.2.2.2.2.2.2.2.2.1 x.2.1.2.1.2.2.2.2.2.2.2.2.2.2.2.1 x.2.1.2.1.2.2.2.2.2.2.2.2.2.2.2.2.1 x.2.2.1 x.2.2.2.1
def yu2 (x:(ydk).X):(yaw).X:=((((),()),((),()),(x.1.2.2.1.1,()),(0,()),()),((x.2.1.1.1,x.2.1.1.2.1,x.2.1.1.2.2.1,()),(x.2.1.2.1.1,x.2.1.2.1.2.1,x.2.1.2.1.2.2.1,(),x.2.1.2.1.2.2.2.2.1,x.2.1.2.1.2.2.2.2.2.1,x.2.1.2.1.2.2.2.2.2.2.1,x.2.1.2.1.2.2.2.2.2.2.2.1,x.2.1.2.1.2.2.2.2.2.2.2.2.1,(),x.2.1.2.1.2.2.2.2.2.2.2.2.2.2.1,x.2.1.2.1.2.2.2.2.2.2.2.2.2.2.2.1,x.2.1.2.1.2.2.2.2.2.2.2.2.2.2.2.2.1,()),()),(x.2.2.1,x.2.2.2.1,()))
def yv6:Code:=(zef yfW 64 52).getD .skip
theorem yIi:zef yfW 64 13=some (.block 0 (.loop yv6)):=by kernel_rfl
theorem yII (x:(yaw).X):zg0 ⟨yjW,26,yxh⟩ 0 yv6 52 yaw ydi ydm x=yaI x:=by kernel_rfl
def yu5 (x:(ydk).X):Nat:=18446744073709551616
def yma (x:(ydk).X):Option ((ydi).X ⊕ (ydm).X):=zz yaI (yu5 x) (yu2 x)
def yvb:Seg:=⟨ydk,ydi,ydm,yma⟩
def yxi:Nat→Option Seg:=fun q=>bif Nat.beq q 13 then some yvb else yxh q
theorem yIo:FrOk prog ⟨yjW,26,yxi⟩ yfW:=(yIn).loop (sg:=yvb) yaw yu2 (by decide) yIi yaI yu5 (by decide) (fun _=>rfl) (fun x r _ h=>h) yII
abbrev ybz:List Par:= [.pt tA (.pr .fz (.pr (.pr .fz .fz) (.pr (.ow (.pr (.ow (.ow .fz)) (.pr (.ow (.pr .fz (.ow .fz))) (.pr .fz (.ow .fz))))) (.pr .fz (.pr .fz (.pr .fz (.pr .fz (.pr .fz (.pr (.ow (.pr .fz (.ow .fz))) (.pr .fz (.pr .fz .fz))))))))))),.rd tN]
abbrev ygo:List OT:= [⟨false,tB,.fz⟩]
def yhT (a0:dA) (a1:dN):Option (ResD ygo×MutD ybz) :=
 zjW (yma ((((),()),((),()),((a0.2.2.1.length:Int),()),((),()),()),((a1.1,a1.2.1,a1.2.2,()),(a0.1,a0.2.1.1,a0.2.1.2,(),a0.2.2.2.1,a0.2.2.2.2.1,a0.2.2.2.2.2.1,a0.2.2.2.2.2.2.1,a0.2.2.2.2.2.2.2.1,(),a0.2.2.2.2.2.2.2.2.2.1,a0.2.2.2.2.2.2.2.2.2.2.1,a0.2.2.2.2.2.2.2.2.2.2.2,()),()),(a0.2.2.1,a0.2.2.2.2.2.2.2.2.1,()))) (fun y6 =>
 bnd (yfH (y6.2.1.1.1,(y6.2.1.1.2.1,y6.2.1.1.2.2.1),y6.2.2.1,y6.2.1.1.2.2.2.2.1,y6.2.1.1.2.2.2.2.2.1,y6.2.1.1.2.2.2.2.2.2.1,y6.2.1.1.2.2.2.2.2.2.2.1,y6.2.1.1.2.2.2.2.2.2.2.2.1,y6.2.2.2.1,y6.2.1.1.2.2.2.2.2.2.2.2.2.2.1,y6.2.1.1.2.2.2.2.2.2.2.2.2.2.2.1,y6.2.1.1.2.2.2.2.2.2.2.2.2.2.2.2.1)) fun r8 =>
 some ((r8.1.1,()),(r8.2.1,()))) (fun y6 =>
 some ((y6.1.1.1,()),((y6.2.1.1.1,(y6.2.1.1.2.1,y6.2.1.1.2.2.1),y6.2.2.1,y6.2.1.1.2.2.2.2.1,y6.2.1.1.2.2.2.2.2.1,y6.2.1.1.2.2.2.2.2.2.1,y6.2.1.1.2.2.2.2.2.2.2.1,y6.2.1.1.2.2.2.2.2.2.2.2.1,y6.2.2.2.1,y6.2.1.1.2.2.2.2.2.2.2.2.2.2.1,y6.2.1.1.2.2.2.2.2.2.2.2.2.2.2.1,y6.2.1.1.2.2.2.2.2.2.2.2.2.2.2.2.1),())))
theorem yNU (x:InD ybz):zju ⟨yjW,26,yxi⟩ f97.results.toList yfW ybz ygo x=yhT x.1 x.2.1:=by kernel_rfl
theorem yKC:ConOk prog 97 ⟨ybz,ygo,fun x=>yhT x.1 x.2.1⟩:=zjZ (yIo) func97 (by kernel_rfl) (by kernel_rfl) ntmps97.symm (by decide) (fun x r h=>(yNU x).trans h)
def ykf (a0:dA) (a1:dN):Bool×dA:=(!(downA (yj a0 a1)),yj a0 a1)
def ygw (a0:dA) (a1:dN):Bool:= !(downA a0)
theorem yMC (a0:dA) (a1:dN) (hk:zi0 ybz (a0,a1,())) (hq:ygw a0 a1=true):yhT a0 a1=(fun n=>some ((n.1,()),(n.2,()))) (ykf a0 a1):=by
 have hb:a0.2.2.1.length*80≤2^47:=hk.1.2.2.1.1;have hd0:downA a0=false:=by simpa [ygw]using hq
 have h1:yma (yHW a0.2.2.1.length a1 a0)=some (bif downA ((List.range a0.2.2.1.length).foldl (yaF a1) a0)then .inr (ylB false ((List.range a0.2.2.1.length).foldl (yaF a1) a0))else .inl (ylz ((List.range a0.2.2.1.length).foldl (yaF a1) a0))):=by
  have:=zj5 (step:=yaI) a0.2.2.1.length (fun i s=>ylx a0.2.2.1.length i a1 s) (fun i s=>bif downA (yaF a1 s i)then(.inr (yaF a1 s i):dA ⊕ dA)else .inl (yaF a1 s i)) (fun _ s=>s.2.2.1.length=a0.2.2.1.length∧downA s=false) id
   (fun b=>bif downA b then .inr (ylB false b)else .inl (ylz b)) (fun i s hi hs=>by
    constructor
    ·simp only[yaI,ylx,ylZ,zj2 (show(i:Int)<a0.2.2.1.length by omega),cond_true,wr (show -9223372036854775808≤(i:Int)+1 by omega) (by omega),Int.natCast_add,Int.natCast_one,Int.toNat_natCast,zkp,yMa,ynI]
     rw[ysw s i (n_spec_SlotOf a1.1) (putRec a1) (by unfold ycy; rw[zkj (by rw[hs.1]; exact hi),hs.2]; rfl)];simp only[zka,ycw];rw[show yaZ s i (n_spec_SlotOf a1.1) (putRec a1)=yaF a1 s i from rfl]
     cases hd:downA (yaF a1 s i)
     ·rfl
     ·simp only[hd,Bool.not_true,Bool.not_false,cond_true,ylB]
    ·intro s' h
     cases hd:downA (yaF a1 s i)
     ·rw[hd]at h
      cases h
      exact⟨(ymT a1 s i).trans hs.1,hd⟩
     ·rw[hd]at h; cases h) (fun s hs=>by simp only[yaI,ylx,ylZ,hs.2,zkv (Int.le_refl _),cond_false,id,ylz]) a0 ⟨rfl,hd0⟩ 18446744073709551616 (by omega)
  rw[yDK (fun a i h=>yP0 a1 i h),← List.range_eq_range']at this;exact this
 unfold yhT ykf yj;refine(congrArg (fun z=>zjW z _ _) h1).trans ?_
 cases hd:downA ((List.range a0.2.2.1.length).foldl (yaF a1) a0)
 ·simp only[cond_false,zkf,zkp]
  rw[yuy _ (by unfold yfI; rw[hd]; rfl)]; rfl
 ·rw[yvd hd]
  simp only[cond_true,zkg,zkp];rw[hd]; rfl
def ygv (a0:dA) (a1:dN):Option (ResD ygo×MutD ybz):=bif ygw a0 a1 then(fun n=>some ((n.1,()),(n.2,()))) (ykf a0 a1)else none
theorem yMR (a0:dA) (a1:dN) (h:ygw a0 a1=true):ygv a0 a1=(fun n=>some ((n.1,()),(n.2,()))) (ykf a0 a1):=by unfold ygv; rw[h]; rfl
def yxp:Con:=⟨ybz,ygo,fun x=>ygv x.1 x.2.1⟩
theorem yMM:ConOk prog 97 yxp:=(yKC).mono (fun x r hk h=>zkq h (fun hq=>yMC x.1 x.2.1 hk hq))
end
section
def yIW:Code:=(f111.body).getD .skip
def yJu:Env:=zj0 TT [(81,yz)] []
theorem yQH:FrOk prog ⟨yJu,9,fun _=>none⟩ yIW:=zj4 yc yd ⟨yI,trivial⟩
def yTv:Nat→Option Seg:=fun _=>none
abbrev ynd:List Par:= [.rd tI]
abbrev ytf:List OT:= [⟨false,tI,.fz⟩]
def ywT (a0:Int):Option (ResD ytf×MutD ynd) :=
 let r1:=ye a0 0 1099511627776
 bif(!r1)then
 some (((-1),()),())
 else
 some (((IntKind.i64.wrap ((IntKind.i64.wrap (a0+2))+4)),()),())
theorem y0w (x:InD ynd):zju ⟨yJu,9,yTv⟩ f111.results.toList yIW ynd ytf x=ywT x.1:=by kernel_rfl
theorem yV3:ConOk prog 111 ⟨ynd,ytf,fun x=>ywT x.1⟩:=zjZ (yQH) func111 (by kernel_rfl) (by kernel_rfl) ntmps111.symm (by decide) (fun x r h=>(y0w x).trans h)
def ynF (a0:Int):Int :=
 let r1:=ye a0 0 1099511627776
 bif(!r1)then
 (-1)
 else
 (IntKind.i64.wrap ((IntKind.i64.wrap (a0+2))+4))
def yv9:Con:=⟨ynd,ytf,fun x=>(fun n=>some ((n,()),())) (ynF x.1)⟩
theorem yYo (a0:Int):ywT a0=(fun n=>some ((n,()),())) (ynF a0):=zkn (p:=fun(n:Int)=>((n,()),())) (zj9 (p:=fun(n:Int)=>((n,()),())) rfl rfl)
theorem yH0:ConOk prog 111 yv9:=(yV3).mono (fun x r _ h=>(yYo x.1).trans h)
end
section
def yI9:Code:=(f113.body).getD .skip
def yJH:Env:=zj0 TT [(82,yw)] []
theorem yQ1:FrOk prog ⟨yJH,9,fun _=>none⟩ yI9:=zj4 yc yd ⟨yD,trivial⟩
def yTI:Nat→Option Seg:=fun _=>none
abbrev ynl:List Par:= [.rd tI]
abbrev ytu:List OT:= [⟨false,tI,.fz⟩]
def yw1 (a0:Int):Option (ResD ytu×MutD ynl) :=
 let r1:=ya a0 0 1099511627776
 bif(!r1)then
 some (((-1),()),())
 else
 some (((IntKind.i64.wrap ((IntKind.i64.wrap (a0+2))+4)),()),())
theorem y0M (x:InD ynl):zju ⟨yJH,9,yTI⟩ f113.results.toList yI9 ynl ytu x=yw1 x.1:=by kernel_rfl
theorem yWj:ConOk prog 113 ⟨ynl,ytu,fun x=>yw1 x.1⟩:=zjZ (yQ1) func113 (by kernel_rfl) (by kernel_rfl) ntmps113.symm (by decide) (fun x r h=>(y0M x).trans h)
def ybl (a0:Int):Int :=
 let r1:=ya a0 0 1099511627776
 bif(!r1)then
 (-1)
 else
 (IntKind.i64.wrap ((IntKind.i64.wrap (a0+2))+4))
def yfD:Con:=⟨ynl,ytu,fun x=>(fun n=>some ((n,()),())) (ybl x.1)⟩
theorem yYE (a0:Int):yw1 a0=(fun n=>some ((n,()),())) (ybl a0):=zkn (p:=fun(n:Int)=>((n,()),())) (zj9 (p:=fun(n:Int)=>((n,()),())) rfl rfl)
theorem ylT:ConOk prog 113 yfD:=(yWj).mono (fun x r _ h=>(yYE x.1).trans h)
theorem ygY (s:Int):ybl s=dataAt s:=by
 unfold ybl dataAt;rw[ycf]
 by_cases h:0≤s∧s≤1099511627776
 ·rw[zku h.1,zku h.2,wr (show -9223372036854775808≤s+2 by omega) (by omega),wr (by omega) (by omega)]
  show s+2+4=s+6;omega
 ·cases h1:(leb 0 s&&leb s 1099511627776)
  ·rfl
  ·rw[Bool.and_eq_true,zjB,zjB]at h1; exact absurd h1 h
theorem yHV (s:Int):ynF s=dataAt s:=ygY s
end
section
def yEs:Code:=(f167.body).getD .skip
def yE4:Env:=zj0 TT [(109,ye9)] []
theorem yLK:FrOk prog ⟨yE4,17,fun _=>none⟩ yEs:=zj4 yc yd ⟨yki,trivial⟩
def yNr:Nat→Option Seg:=fun _=>none
abbrev yfo:List Par:= [.rd tG,.rd tI]
abbrev yoJ:List OT:= [⟨false,tI,.fz⟩]
def yko (a0:dG) (a1:Int):Option (ResD yoJ×MutD yfo) :=
 let r1:=yaz a0 a1
 bif(!r1)then
 some (((-1),()),())
 else
 bif(a0.1 !=0)then
 some (((IntKind.i64.wrap ((IntKind.i64.wrap (a0.1-1))-(a1.tmod a0.1))),()),())
 else none
theorem yUm (x:InD yfo):zju ⟨yE4,17,yNr⟩ f167.results.toList yEs yfo yoJ x=yko x.1 x.2.1:=by kernel_rfl
theorem yO7:ConOk prog 167 ⟨yfo,yoJ,fun x=>yko x.1 x.2.1⟩:=zjZ (yLK) func167 (by kernel_rfl) (by kernel_rfl) ntmps167.symm (by decide) (fun x r h=>(yUm x).trans h)
def ydr (a0:dG) (a1:Int):Int:=parityOf a0 a1
theorem yR8 (a0:dG) (a1:Int) (hk:zi0 yfo (a0,a1,())):yko a0 a1=(fun n=>some ((n,()),())) (ydr a0 a1):=by
 unfold yko ydr;rw[yGs]
 cases hs:strOk a0 a1
 ·unfold parityOf; rw[hs]; rfl
 ·have h1:=yG.1 hs
  have h2:=yg.1 h1.1;have h3:=yl5 hs;have h4:parityOf a0 a1=a0.1-1-a1.tmod a0.1:=by unfold parityOf; rw[hs]; rfl
  rw[show(a0.1 !=0)=true from bne_iff_ne.2 (by omega),wr (show -9223372036854775808≤a0.1-1 by omega) (by omega),wr (show -9223372036854775808≤a0.1-1-a1.tmod a0.1 by omega) (by omega),h4]; rfl
def ysf:Con:=⟨yfo,yoJ,fun x=>(fun n=>some ((n,()),())) (ydr x.1 x.2.1)⟩
theorem yDU:ConOk prog 167 ysf:=(yO7).mono (fun x r hk h=>(yR8 x.1 x.2.1 hk).trans h)
end
section
def yIX:Code:=(f142.body).getD .skip
def yJv:Env:=zj0 TT [(81,yz),(109,ye9),(167,ysf)] []
theorem yQK:FrOk prog ⟨yJv,28,fun _=>none⟩ yIX:=zj4 yc yd ⟨yI,yki,yDU,trivial⟩
def yTw:Nat→Option Seg:=fun _=>none
abbrev yhY:List Par:= [.rd tG,.rd tI,.rd tI]
abbrev yth:List OT:= [⟨false,tI,.fz⟩]
def ypo (a0:dG) (a1 a2:Int):Option (ResD yth×MutD yhY) :=
 let r1:=yaz a0 a1
 bif(!(!r1))then
 let r2:=ye a2 0 (IntKind.i64.wrap (a0.1-2))
 bif(!r2)then
 some (((-1),()),())
 else
 let r3:=ydr a0 a1
 bif(a0.1 !=0)then
 some ((((IntKind.i64.wrap ((IntKind.i64.wrap (r3+1))+a2)).tmod a0.1),()),())
 else none
 else
 some (((-1),()),())
theorem y0y (x:InD yhY):zju ⟨yJv,28,yTw⟩ f142.results.toList yIX yhY yth x=ypo x.1 x.2.1 x.2.2.1:=by kernel_rfl
theorem yV5:ConOk prog 142 ⟨yhY,yth,fun x=>ypo x.1 x.2.1 x.2.2.1⟩:=zjZ (yQK) func142 (by kernel_rfl) (by kernel_rfl) ntmps142.symm (by decide) (fun x r h=>(y0y x).trans h)
def yfS (a0:dG) (a1 a2:Int):Int:=ybi a0 a1 a2
theorem yYq (a0:dG) (a1 a2:Int) (hk:zi0 yhY (a0,a1,a2,())):ypo a0 a1 a2=(fun n=>some ((n,()),())) (yfS a0 a1 a2):=by
 unfold ypo yfS ybi ydr;rw[yGs]
 cases hs:strOk a0 a1
 ·rfl
 ·have h1:=yG.1 hs
  have h2:=yg.1 h1.1;have h3:=yl5 hs;rw[y9,ycf,wr (show -9223372036854775808≤a0.1-2 by omega) (by omega)]
  cases hi:(leb 0 a2&&leb a2 (a0.1-2))
  ·rfl
  ·rw[Bool.and_eq_true,zjB,zjB]at hi
   rw[show(a0.1 !=0)=true from bne_iff_ne.2 (by omega)];show some (((IntKind.i64.wrap (IntKind.i64.wrap (parityOf a0 a1+1)+a2)).tmod a0.1,()),())=some (((parityOf a0 a1+1+a2).tmod a0.1,()),());rw[wr (show -9223372036854775808≤parityOf a0 a1+1 by omega) (by omega),wr (show -9223372036854775808≤parityOf a0 a1+1+a2 by omega) (by omega)]
def ywa:Con:=⟨yhY,yth,fun x=>(fun n=>some ((n,()),())) (yfS x.1 x.2.1 x.2.2.1)⟩
theorem yH1:ConOk prog 142 ywa:=(yV5).mono (fun x r hk h=>(yYq x.1 x.2.1 x.2.2.1 hk).trans h)
end
section
def ypJ:Code:=(f185.body).getD .skip
def yvo:Env:=zj0 TT [] []
theorem yUW:FrOk prog ⟨yvo,17,fun _=>none⟩ ypJ:=zj4 yc yd trivial
def yGX:Nat→Option Seg:=fun _=>none
def yc9:Shape:=⟨[(3,false,[.int .i64]),(6,false,[.br tI]),(7,false,[.int .i64]),(8,false,[.int .i64])],[],[]⟩
def yiT:Shape:=⟨[(3,false,[.ci .i64 0]),(6,false,[.br tI]),(7,false,[.int .i64]),(8,false,[.ci .i64 0])],[],[]⟩
def yiE:Shape:=⟨[(3,false,[.int .i64])],[],[]⟩
def yo1:Shape:=⟨[],[],[]⟩
abbrev yuo (v0:Int) (v1:List Int) (v2 v3:Int):(yc9).X:=(((v0,()),(v1,()),(v2,()),(v3,()),()),(),())
abbrev yRM (v0:List Int) (v1:Int):(yiT).X:=((((),()),(v0,()),(v1,()),((),()),()),(),())
abbrev yDM (v0:Int):(yiE).X:=(((v0,()),()),(),())
def yuK (v0:Int) (v1:List Int) (v2 v3:Int):Option ((yc9).X ⊕ ((yiE).X ⊕ (yo1).X)) :=
 bif(ltb v3 v2)then
 bif(inb v3 v1.length)then
 some (.inl ((((IntKind.i64.wrap ((BitVec.ofInt IntKind.i64.bits v0 ^^^ BitVec.ofInt IntKind.i64.bits (nth v1 v3 0)).toNat:Int)),()),(v1,()),(v2,()),((IntKind.i64.wrap (v3+1)),()),()),(),()))
 else none
 else
 some (.inr (.inl (((v0,()),()),(),())))
def ydJ (x:(yc9).X):=yuK x.1.1.1 x.1.2.1.1 x.1.2.2.1.1 x.1.2.2.2.1.1
def yDk (x:(yiT).X):(yc9).X:=(((0,()),(x.1.2.1.1,()),(x.1.2.2.1.1,()),(0,()),()),(),())
def yFr:Code:=(zef ypJ 64 116).getD .skip
theorem yT2:zef ypJ 64 29=some (.block 0 (.loop yFr)):=by kernel_rfl
theorem yW7 (x:(yc9).X):zg0 ⟨yvo,17,yGX⟩ 0 yFr 116 yc9 yiE yo1 x=ydJ x:=by kernel_rfl
def yDA (x:(yiT).X):Nat:=18446744073709551616
def yvA (x:(yiT).X):Option ((yiE).X ⊕ (yo1).X):=zz ydJ (yDA x) (yDk x)
def yD9:Seg:=⟨yiT,yiE,yo1,yvA⟩
def yGY:Nat→Option Seg:=fun q=>bif Nat.beq q 29 then some yD9 else yGX q
theorem yUX:FrOk prog ⟨yvo,17,yGY⟩ ypJ:=(yUW).loop (sg:=yD9) yc9 yDk (by decide) yT2 ydJ yDA (by decide) (fun _=>rfl) (fun x r _ h=>h) yW7
abbrev ykW:List Par:= [.rd tL]
abbrev yvT:List OT:= [⟨false,tI,.fz⟩]
def yrP (a0:List Int):Option (ResD yvT×MutD ykW) :=
 zjW (yvA ((((),()),(a0,()),((a0.length:Int),()),((),()),()),(),())) (fun y0 =>
 some ((y0.1.1.1,()),())) (fun y0 =>
 none)
theorem y2f (x:InD ykW):zju ⟨yvo,17,yGY⟩ f185.results.toList ypJ ykW yvT x=yrP x.1:=by kernel_rfl
theorem yY4:ConOk prog 185 ⟨ykW,yvT,fun x=>yrP x.1⟩:=zjZ (yUX) func185 (by kernel_rfl) (by kernel_rfl) ntmps185.symm (by decide) (fun x r h=>(y2f x).trans h)
def ycb (a0:List Int):Int:=xorOf a0
theorem y1j (a0:List Int) (hk:zi0 ykW (a0,())):yrP a0=(fun n=>some ((n,()),())) (ycb a0):=by
 have hb:a0.length*8≤2^47:=hk.1.1
 have h1:yvA (yRM a0 a0.length)=some (.inl (yDM (xorOf a0))) :=
  zj1 (step:=ydJ) a0 0 (fun i s=>yuo s a0 a0.length i) xw (fun _ _=>True) (fun s=> .inl (yDM s)) (fun i s hi _=>⟨by
   simp only[ydJ,yuo,yuK,zj2 (show(i:Int)<a0.length by omega),cond_true,wr (show -9223372036854775808≤(i:Int)+1 by omega) (by omega),Int.natCast_add,Int.natCast_one,Int.toNat_natCast,zkj hi,zkk]; rfl,trivial⟩) (fun s _=>by simp only[ydJ,yuo,yuK,zkv (Int.le_refl _),cond_false]) 0 trivial _ (by show _<18446744073709551616; omega)
 unfold yrP ycb;rw[h1]; rfl
def yrt:Con:=⟨ykW,yvT,fun x=>(fun n=>some ((n,()),())) (ycb x.1)⟩
theorem yAe:ConOk prog 185 yrt:=(yY4).mono (fun x r hk h=>(y1j x.1 hk).trans h)
end
section
def yAn:Code:=(f166.body).getD .skip
def yAI:Env:=zj0 TT [(185,yrt)] []
theorem yIp:FrOk prog ⟨yAI,5,fun _=>none⟩ yAn:=zj4 yc yd ⟨yAe,trivial⟩
def yJ6:Nat→Option Seg:=fun _=>none
abbrev yfX:List Par:= [.rd tL]
abbrev yj1:List OT:= [⟨false,tI,.fz⟩]
def yoj (a0:List Int):Option (ResD yj1×MutD yfX) :=
 let r1:=ycb a0
 some ((r1,()),())
theorem yNV (x:InD yfX):zju ⟨yAI,5,yJ6⟩ f166.results.toList yAn yfX yj1 x=yoj x.1:=by kernel_rfl
theorem yKD:ConOk prog 166 ⟨yfX,yj1,fun x=>yoj x.1⟩:=zjZ (yIp) func166 (by kernel_rfl) (by kernel_rfl) ntmps166.symm (by decide) (fun x r h=>(yNV x).trans h)
def ykg (a0:List Int):Int :=
 let r1:=ycb a0
 r1
def yxq:Con:=⟨yfX,yj1,fun x=>(fun n=>some ((n,()),())) (ykg x.1)⟩
theorem yMD (a0:List Int):yoj a0=(fun n=>some ((n,()),())) (ykg a0):=zkn (p:=fun(n:Int)=>((n,()),())) rfl
theorem yMN:ConOk prog 166 yxq:=(yKD).mono (fun x r _ h=>(yMD x.1).trans h)
end
section
def yIZ:Code:=(f168.body).getD .skip
def yJx:Env:=zj0 TT [(81,yz)] []
theorem yQM:FrOk prog ⟨yJx,34,fun _=>none⟩ yIZ:=zj4 yc yd ⟨yI,trivial⟩
def yTy:Nat→Option Seg:=fun _=>none
abbrev yh0:List Par:= [.rd tA,.rd tI,.rd tI]
abbrev ytj:List OT:= [⟨false,tB,.fz⟩]
def ypq (a0:dA) (a1 a2:Int):Option (ResD ytj×MutD yh0) :=
 let r1:=ye a1 0 (IntKind.i64.wrap ((a0.2.2.1.length:Int)-1))
 bif r1 then
 bif(inb a1 a0.2.2.1.length)then
 bif(!((((nth a0.2.2.1 a1 ([],[],false,[])).2).2).1))then
 bif(!(a0.2.2.2.1 !=a1))then
 some (((ltb a2 a0.2.2.2.2.1),()),())
 else
 some ((true,()),())
 else
 some ((false,()),())
 else none
 else
 some ((false,()),())
theorem y0A (x:InD yh0):zju ⟨yJx,34,yTy⟩ f168.results.toList yIZ yh0 ytj x=ypq x.1 x.2.1 x.2.2.1:=by kernel_rfl
theorem yV7:ConOk prog 168 ⟨yh0,ytj,fun x=>ypq x.1 x.2.1 x.2.2.1⟩:=zjZ (yQM) func168 (by kernel_rfl) (by kernel_rfl) ntmps168.symm (by decide) (fun x r h=>(y0A x).trans h)
def yfT (a0:dA) (a1 a2:Int):Bool:=yb9 a0 a1 a2
theorem yYs (a0:dA) (a1 a2:Int) (hk:zi0 yh0 (a0,a1,a2,())):ypq a0 a1 a2=(fun n=>some ((n,()),())) (yfT a0 a1 a2):=by
 have hb:a0.2.2.1.length*80≤2^47:=hk.1.2.2.1.1;unfold ypq yfT yb9 noMem;rw[y9,yqk (show a0.2.2.1.length≤1152921504606846976 by omega),bne_comm]
 cases inb a1 a0.2.2.1.length
 ·rfl
 ·cases(nth a0.2.2.1 a1 ([],[],false,[])).2.2.1<;>cases(a1 !=a0.2.2.2.1)<;>rfl
def ywb:Con:=⟨yh0,ytj,fun x=>(fun n=>some ((n,()),())) (yfT x.1 x.2.1 x.2.2.1)⟩
theorem yH2:ConOk prog 168 ywb:=(yV7).mono (fun x r hk h=>(yYs x.1 x.2.1 x.2.2.1 hk).trans h)
end
section
def ya7:Code:=(f98.body).getD .skip
def yei:Env:=zj0 TT [(111,yv9),(139,yjp),(142,ywa),(166,yxq),(167,ysf),(168,ywb)] []
theorem yKg:FrOk prog ⟨yei,70,fun _=>none⟩ ya7:=zj4 yc yd ⟨yH0,ysv,yH1,yMN,yDU,yH2,trivial⟩
def yyO:Nat→Option Seg:=fun _=>none
def yaL:Shape:=⟨[(0,false,[.ptr 1000000000 0]),(1,false,[.int .i64]),(7,false,[.at 800000000]),(28,false,[.br tI]),(29,false,[.int .i64]),(30,false,[.int .i64])],[(1000000000,[.int .i64,.int .i64,.int .i64,.at 800000001,.int .i64,.int .i64,.int .i64,.int .i64,.int .i64,.at 800000002,.int .i64,.bool,.bool])],[(800000000,tI,.fz),(800000001,tM,(.pr (.ow (.ow .fz)) (.pr (.ow (.pr .fz (.ow .fz))) (.pr .fz (.ow .fz))))),(800000002,tW,(.pr .fz (.ow .fz)))]⟩
def yea:Shape:=⟨[(0,false,[.ptr 1000000000 0]),(1,false,[.int .i64]),(7,false,[.at 800000000]),(28,false,[.br tI]),(29,false,[.int .i64]),(30,false,[.ci .i64 0])],[(1000000000,[.int .i64,.int .i64,.int .i64,.at 800000001,.int .i64,.int .i64,.int .i64,.int .i64,.int .i64,.at 800000002,.int .i64,.bool,.bool])],[(800000000,tI,.fz),(800000001,tM,(.pr (.ow (.ow .fz)) (.pr (.ow (.pr .fz (.ow .fz))) (.pr .fz (.ow .fz))))),(800000002,tW,(.pr .fz (.ow .fz)))]⟩
def yd4:Shape:=⟨[(0,false,[.ptr 1000000000 0]),(1,false,[.int .i64]),(7,false,[.at 800000000])],[(1000000000,[.int .i64,.int .i64,.int .i64,.at 800000001,.int .i64,.int .i64,.int .i64,.int .i64,.int .i64,.at 800000002,.int .i64,.bool,.bool])],[(800000000,tI,.fz),(800000001,tM,(.pr (.ow (.ow .fz)) (.pr (.ow (.pr .fz (.ow .fz))) (.pr .fz (.ow .fz))))),(800000002,tW,(.pr .fz (.ow .fz)))]⟩
def yhL:Shape:=⟨[],[],[]⟩
abbrev ymq (v0:Int) (v1:List Int) (v2 v3:Int) (v4:dA) (v5:List Int):(yaL).X:=((((),()),(v0,()),((),()),(v1,()),(v2,()),(v3,()),()),((v4.1,v4.2.1.1,v4.2.1.2,(),v4.2.2.2.1,v4.2.2.2.2.1,v4.2.2.2.2.2.1,v4.2.2.2.2.2.2.1,v4.2.2.2.2.2.2.2.1,(),v4.2.2.2.2.2.2.2.2.2.1,v4.2.2.2.2.2.2.2.2.2.2.1,v4.2.2.2.2.2.2.2.2.2.2.2,()),()),(v5,v4.2.2.1,v4.2.2.2.2.2.2.2.2.1,()))
abbrev yIx (v0:Int) (v1:List Int) (v2:Int) (v3:dA) (v4:List Int):(yea).X:=((((),()),(v0,()),((),()),(v1,()),(v2,()),((),()),()),((v3.1,v3.2.1.1,v3.2.1.2,(),v3.2.2.2.1,v3.2.2.2.2.1,v3.2.2.2.2.2.1,v3.2.2.2.2.2.2.1,v3.2.2.2.2.2.2.2.1,(),v3.2.2.2.2.2.2.2.2.2.1,v3.2.2.2.2.2.2.2.2.2.2.1,v3.2.2.2.2.2.2.2.2.2.2.2,()),()),(v4,v3.2.2.1,v3.2.2.2.2.2.2.2.2.1,()))
abbrev ywH (v0:Int) (v1:dA) (v2:List Int):(yd4).X:=((((),()),(v0,()),((),()),()),((v1.1,v1.2.1.1,v1.2.1.2,(),v1.2.2.2.1,v1.2.2.2.2.1,v1.2.2.2.2.2.1,v1.2.2.2.2.2.2.1,v1.2.2.2.2.2.2.2.1,(),v1.2.2.2.2.2.2.2.2.2.1,v1.2.2.2.2.2.2.2.2.2.2.1,v1.2.2.2.2.2.2.2.2.2.2.2,()),()),(v2,v1.2.2.1,v1.2.2.2.2.2.2.2.2.1,()))
def ymW (v0:Int) (v1:List Int) (v2 v3 v4 v5 v6 v7 v8 v9 v10 v11 v12:Int) (v13 v14:Bool) (v15:List Int) (v16:List dM) (v17:List dW):Option ((yaL).X ⊕ ((yd4).X ⊕ (yhL).X)) :=
 bif(ltb v3 v2)then
 bif(inb v3 v1.length)then
 let r5:=yfS (v5,v6) v0 v3
 bif(inb r5 v15.length)then
 some (.inl ((((),()),(v0,()),((),()),(v1,()),(v2,()),((IntKind.i64.wrap (v3+1)),()),()),((v4,v5,v6,(),v7,v8,v9,v10,v11,(),v12,v13,v14,()),()),((v15.set (r5).toNat (nth v1 v3 0)),v16,v17,())))
 else none
 else none
 else
 some (.inr (.inl ((((),()),(v0,()),((),()),()),((v4,v5,v6,(),v7,v8,v9,v10,v11,(),v12,v13,v14,()),()),(v15,v16,v17,()))))
def ya1 (x:(yaL).X):=ymW x.1.2.1.1 x.1.2.2.2.1.1 x.1.2.2.2.2.1.1 x.1.2.2.2.2.2.1.1 x.2.1.1.1 x.2.1.1.2.1 x.2.1.1.2.2.1 x.2.1.1.2.2.2.2.1 x.2.1.1.2.2.2.2.2.1 x.2.1.1.2.2.2.2.2.2.1 x.2.1.1.2.2.2.2.2.2.2.1 x.2.1.1.2.2.2.2.2.2.2.2.1 x.2.1.1.2.2.2.2.2.2.2.2.2.2.1 x.2.1.1.2.2.2.2.2.2.2.2.2.2.2.1 x.2.1.1.2.2.2.2.2.2.2.2.2.2.2.2.1 x.2.2.1 x.2.2.2.1 x.2.2.2.2.1
def ywl (x:(yea).X):(yaL).X:=((((),()),(x.1.2.1.1,()),((),()),(x.1.2.2.2.1.1,()),(x.1.2.2.2.2.1.1,()),(0,()),()),((x.2.1.1.1,x.2.1.1.2.1,x.2.1.1.2.2.1,(),x.2.1.1.2.2.2.2.1,x.2.1.1.2.2.2.2.2.1,x.2.1.1.2.2.2.2.2.2.1,x.2.1.1.2.2.2.2.2.2.2.1,x.2.1.1.2.2.2.2.2.2.2.2.1,(),x.2.1.1.2.2.2.2.2.2.2.2.2.2.1,x.2.1.1.2.2.2.2.2.2.2.2.2.2.2.1,x.2.1.1.2.2.2.2.2.2.2.2.2.2.2.2.1,()),()),(x.2.2.1,x.2.2.2.1,x.2.2.2.2.1,()))
def yxj:Code:=(zef ya7 64 244).getD .skip
theorem yJ9:zef ya7 64 61=some (.block 0 (.loop yxj)):=by kernel_rfl
theorem yKJ (x:(yaL).X):zg0 ⟨yei,70,yyO⟩ 0 yxj 244 yaL yd4 yhL x=ya1 x:=by kernel_rfl
def ywt (x:(yea).X):Nat:=18446744073709551616
def yn1 (x:(yea).X):Option ((yd4).X ⊕ (yhL).X):=zz ya1 (ywt x) (ywl x)
def yw7:Seg:=⟨yea,yd4,yhL,yn1⟩
def ypQ:Nat→Option Seg:=fun q=>bif Nat.beq q 61 then some yw7 else yyO q
theorem yKh:FrOk prog ⟨yei,70,ypQ⟩ ya7:=(yKg).loop (sg:=yw7) yaL ywl (by decide) yJ9 ya1 ywt (by decide) (fun _=>rfl) (fun x r _ h=>h) yKJ
def yax:Shape:=⟨[(0,false,[.ptr 1000000000 0]),(1,false,[.int .i64]),(46,false,[.at 800000000]),(47,false,[.int .i64]),(48,false,[.int .i64])],[(1000000000,[.int .i64,.int .i64,.int .i64,.at 800000001,.int .i64,.int .i64,.int .i64,.int .i64,.int .i64,.at 800000002,.int .i64,.bool,.bool])],[(800000000,tI,.fz),(800000001,tM,(.pr (.ow (.ow .fz)) (.pr (.ow (.pr .fz (.ow .fz))) (.pr .fz (.ow .fz))))),(800000002,tW,(.pr .fz (.ow .fz)))]⟩
def ydl:Shape:=⟨[(0,false,[.ptr 1000000000 0]),(1,false,[.int .i64]),(46,false,[.at 800000000]),(47,false,[.int .i64]),(48,false,[.ci .i64 0])],[(1000000000,[.int .i64,.int .i64,.int .i64,.at 800000001,.int .i64,.int .i64,.int .i64,.int .i64,.int .i64,.at 800000002,.int .i64,.bool,.bool])],[(800000000,tI,.fz),(800000001,tM,(.pr (.ow (.ow .fz)) (.pr (.ow (.pr .fz (.ow .fz))) (.pr .fz (.ow .fz))))),(800000002,tW,(.pr .fz (.ow .fz)))]⟩
def ydj:Shape:=⟨[],[(1000000000,[.int .i64,.int .i64,.int .i64,.at 800000000,.int .i64,.int .i64,.int .i64,.int .i64,.int .i64,.at 800000001,.int .i64,.bool,.bool])],[(800000000,tM,(.pr (.ow (.ow .fz)) (.pr (.ow (.pr .fz (.ow .fz))) (.pr .fz (.ow .fz))))),(800000001,tW,(.pr .fz (.ow .fz)))]⟩
def ydn:Shape:=⟨[(6,false,[.bool])],[(1000000000,[.int .i64,.int .i64,.int .i64,.at 800000000,.int .i64,.int .i64,.int .i64,.int .i64,.int .i64,.at 800000001,.int .i64,.bool,.bool])],[(800000000,tM,(.pr (.ow (.ow .fz)) (.pr (.ow (.pr .fz (.ow .fz))) (.pr .fz (.ow .fz))))),(800000001,tW,(.pr .fz (.ow .fz)))]⟩
abbrev yly (v0 v1 v2:Int) (v3:dA) (v4:List Int):(yax).X:=((((),()),(v0,()),((),()),(v1,()),(v2,()),()),((v3.1,v3.2.1.1,v3.2.1.2,(),v3.2.2.2.1,v3.2.2.2.2.1,v3.2.2.2.2.2.1,v3.2.2.2.2.2.2.1,v3.2.2.2.2.2.2.2.1,(),v3.2.2.2.2.2.2.2.2.2.1,v3.2.2.2.2.2.2.2.2.2.2.1,v3.2.2.2.2.2.2.2.2.2.2.2,()),()),(v4,v3.2.2.1,v3.2.2.2.2.2.2.2.2.1,()))
abbrev yHX (v0 v1:Int) (v2:dA) (v3:List Int):(ydl).X:=((((),()),(v0,()),((),()),(v1,()),((),()),()),((v2.1,v2.2.1.1,v2.2.1.2,(),v2.2.2.2.1,v2.2.2.2.2.1,v2.2.2.2.2.2.1,v2.2.2.2.2.2.2.1,v2.2.2.2.2.2.2.2.1,(),v2.2.2.2.2.2.2.2.2.2.1,v2.2.2.2.2.2.2.2.2.2.2.1,v2.2.2.2.2.2.2.2.2.2.2.2,()),()),(v3,v2.2.2.1,v2.2.2.2.2.2.2.2.2.1,()))
abbrev ylA (v0:dA):(ydj).X:=((),((v0.1,v0.2.1.1,v0.2.1.2,(),v0.2.2.2.1,v0.2.2.2.2.1,v0.2.2.2.2.2.1,v0.2.2.2.2.2.2.1,v0.2.2.2.2.2.2.2.1,(),v0.2.2.2.2.2.2.2.2.2.1,v0.2.2.2.2.2.2.2.2.2.2.1,v0.2.2.2.2.2.2.2.2.2.2.2,()),()),(v0.2.2.1,v0.2.2.2.2.2.2.2.2.1,()))
abbrev ylC (v0:Bool) (v1:dA):(ydn).X:=(((v0,()),()),((v1.1,v1.2.1.1,v1.2.1.2,(),v1.2.2.2.1,v1.2.2.2.2.1,v1.2.2.2.2.2.1,v1.2.2.2.2.2.2.1,v1.2.2.2.2.2.2.2.1,(),v1.2.2.2.2.2.2.2.2.2.1,v1.2.2.2.2.2.2.2.2.2.2.1,v1.2.2.2.2.2.2.2.2.2.2.2,()),()),(v1.2.2.1,v1.2.2.2.2.2.2.2.2.1,()))
def yl0 (v0 v1 v2 v3 v4 v5 v6 v7 v8 v9 v10 v11:Int) (v12 v13:Bool) (v14:List Int) (v15:List dM) (v16:List dW):Option ((yax).X ⊕ ((ydj).X ⊕ (ydn).X)) :=
 bif(ltb v2 v1)then
 bif(inb v2 v14.length)then
 let r10:=yfT (v3,(v4,v5),v15,v6,v7,v8,v9,v10,v16,v11,v12,v13) v2 v0
 bif r10 then
 let r11:=ynF v0
 bnd (yeC (v3,(v4,v5),v15,v6,v7,v8,v9,v10,v16,v11,v12,v13) v2 r11 ([(nth v14 v2 0)]:List Int)) fun r12 =>
 bif(!r12.1.1)then
 some (.inr (.inr (((false,()),()),((r12.2.1.1,r12.2.1.2.1.1,r12.2.1.2.1.2,(),r12.2.1.2.2.2.1,r12.2.1.2.2.2.2.1,r12.2.1.2.2.2.2.2.1,r12.2.1.2.2.2.2.2.2.1,r12.2.1.2.2.2.2.2.2.2.1,(),r12.2.1.2.2.2.2.2.2.2.2.2.1,r12.2.1.2.2.2.2.2.2.2.2.2.2.1,r12.2.1.2.2.2.2.2.2.2.2.2.2.2,()),()),(r12.2.1.2.2.1,r12.2.1.2.2.2.2.2.2.2.2.1,()))))
 else
 some (.inl ((((),()),(v0,()),((),()),(v1,()),((IntKind.i64.wrap (v2+1)),()),()),((r12.2.1.1,r12.2.1.2.1.1,r12.2.1.2.1.2,(),r12.2.1.2.2.2.1,r12.2.1.2.2.2.2.1,r12.2.1.2.2.2.2.2.1,r12.2.1.2.2.2.2.2.2.1,r12.2.1.2.2.2.2.2.2.2.1,(),r12.2.1.2.2.2.2.2.2.2.2.2.1,r12.2.1.2.2.2.2.2.2.2.2.2.2.1,r12.2.1.2.2.2.2.2.2.2.2.2.2.2,()),()),(v14,r12.2.1.2.2.1,r12.2.1.2.2.2.2.2.2.2.2.1,())))
 else
 some (.inl ((((),()),(v0,()),((),()),(v1,()),((IntKind.i64.wrap (v2+1)),()),()),((v3,v4,v5,(),v6,v7,v8,v9,v10,(),v11,v12,v13,()),()),(v14,v15,v16,())))
 else none
 else
 some (.inr (.inl ((),((v3,v4,v5,(),v6,v7,v8,v9,v10,(),v11,v12,v13,()),()),(v15,v16,()))))
def yaJ (x:(yax).X):=yl0 x.1.2.1.1 x.1.2.2.2.1.1 x.1.2.2.2.2.1.1 x.2.1.1.1 x.2.1.1.2.1 x.2.1.1.2.2.1 x.2.1.1.2.2.2.2.1 x.2.1.1.2.2.2.2.2.1 x.2.1.1.2.2.2.2.2.2.1 x.2.1.1.2.2.2.2.2.2.2.1 x.2.1.1.2.2.2.2.2.2.2.2.1 x.2.1.1.2.2.2.2.2.2.2.2.2.2.1 x.2.1.1.2.2.2.2.2.2.2.2.2.2.2.1 x.2.1.1.2.2.2.2.2.2.2.2.2.2.2.2.1 x.2.2.1 x.2.2.2.1 x.2.2.2.2.1
def yu3 (x:(ydl).X):(yax).X:=((((),()),(x.1.2.1.1,()),((),()),(x.1.2.2.2.1.1,()),(0,()),()),((x.2.1.1.1,x.2.1.1.2.1,x.2.1.1.2.2.1,(),x.2.1.1.2.2.2.2.1,x.2.1.1.2.2.2.2.2.1,x.2.1.1.2.2.2.2.2.2.1,x.2.1.1.2.2.2.2.2.2.2.1,x.2.1.1.2.2.2.2.2.2.2.2.1,(),x.2.1.1.2.2.2.2.2.2.2.2.2.2.1,x.2.1.1.2.2.2.2.2.2.2.2.2.2.2.1,x.2.1.1.2.2.2.2.2.2.2.2.2.2.2.2.1,()),()),(x.2.2.1,x.2.2.2.1,x.2.2.2.2.1,()))
def yv7:Code:=(zef ya7 64 500).getD .skip
theorem yIj:zef ya7 64 125=some (.block 2 (.loop yv7)):=by kernel_rfl
theorem yIJ (x:(yax).X):zg0 ⟨yei,70,ypQ⟩ 2 yv7 500 yax ydj ydn x=yaJ x:=by kernel_rfl
def yu6 (x:(ydl).X):Nat:=18446744073709551616
def ymb (x:(ydl).X):Option ((ydj).X ⊕ (ydn).X):=zz yaJ (yu6 x) (yu3 x)
def yvc:Seg:=⟨ydl,ydj,ydn,ymb⟩
def yyP:Nat→Option Seg:=fun q=>bif Nat.beq q 125 then some yvc else ypQ q
theorem yKi:FrOk prog ⟨yei,70,yyP⟩ ya7:=(yKh).loop (sg:=yvc) yax yu3 (by decide) yIj yaJ yu6 (by decide) (fun _=>rfl) (fun x r _ h=>h) yIJ
abbrev yci:List Par:= [.pt tA (.pr .fz (.pr (.pr .fz .fz) (.pr (.ow (.pr (.ow (.ow .fz)) (.pr (.ow (.pr .fz (.ow .fz))) (.pr .fz (.ow .fz))))) (.pr .fz (.pr .fz (.pr .fz (.pr .fz (.pr .fz (.pr (.ow (.pr .fz (.ow .fz))) (.pr .fz (.pr .fz .fz))))))))))),.rd tI,.rd tL]
abbrev yht:List OT:= [⟨false,tB,.fz⟩]
def yjL (a0:dA) (a1:Int) (a2:List Int):Option (ResD yht×MutD yci) :=
 bif(zjV a0.2.1.1 8)then
 let r1:=ydr a0.2.1 a1
 let r2:=ykg a2
 bif(inb r1 (List.replicate (a0.2.1.1).toNat (0:Int)).length)then
 let r3:=((List.replicate (a0.2.1.1).toNat (0:Int)).set (r1).toNat r2)
 zjW (yn1 ((((),()),(a1,()),((),()),(a2,()),((a2.length:Int),()),((),()),()),((a0.1,a0.2.1.1,a0.2.1.2,(),a0.2.2.2.1,a0.2.2.2.2.1,a0.2.2.2.2.2.1,a0.2.2.2.2.2.2.1,a0.2.2.2.2.2.2.2.1,(),a0.2.2.2.2.2.2.2.2.2.1,a0.2.2.2.2.2.2.2.2.2.2.1,a0.2.2.2.2.2.2.2.2.2.2.2,()),()),(r3,a0.2.2.1,a0.2.2.2.2.2.2.2.2.1,()))) (fun y5 =>
 zjW (ymb ((((),()),(y5.1.2.1.1,()),((),()),((y5.2.2.1.length:Int),()),((),()),()),((y5.2.1.1.1,y5.2.1.1.2.1,y5.2.1.1.2.2.1,(),y5.2.1.1.2.2.2.2.1,y5.2.1.1.2.2.2.2.2.1,y5.2.1.1.2.2.2.2.2.2.1,y5.2.1.1.2.2.2.2.2.2.2.1,y5.2.1.1.2.2.2.2.2.2.2.2.1,(),y5.2.1.1.2.2.2.2.2.2.2.2.2.2.1,y5.2.1.1.2.2.2.2.2.2.2.2.2.2.2.1,y5.2.1.1.2.2.2.2.2.2.2.2.2.2.2.2.1,()),()),(y5.2.2.1,y5.2.2.2.1,y5.2.2.2.2.1,()))) (fun y12 =>
 some ((true,()),((y12.2.1.1.1,(y12.2.1.1.2.1,y12.2.1.1.2.2.1),y12.2.2.1,y12.2.1.1.2.2.2.2.1,y12.2.1.1.2.2.2.2.2.1,y12.2.1.1.2.2.2.2.2.2.1,y12.2.1.1.2.2.2.2.2.2.2.1,y12.2.1.1.2.2.2.2.2.2.2.2.1,y12.2.2.2.1,y12.2.1.1.2.2.2.2.2.2.2.2.2.2.1,y12.2.1.1.2.2.2.2.2.2.2.2.2.2.2.1,y12.2.1.1.2.2.2.2.2.2.2.2.2.2.2.2.1),()))) (fun y12 =>
 some ((y12.1.1.1,()),((y12.2.1.1.1,(y12.2.1.1.2.1,y12.2.1.1.2.2.1),y12.2.2.1,y12.2.1.1.2.2.2.2.1,y12.2.1.1.2.2.2.2.2.1,y12.2.1.1.2.2.2.2.2.2.1,y12.2.1.1.2.2.2.2.2.2.2.1,y12.2.1.1.2.2.2.2.2.2.2.2.1,y12.2.2.2.1,y12.2.1.1.2.2.2.2.2.2.2.2.2.2.1,y12.2.1.1.2.2.2.2.2.2.2.2.2.2.2.1,y12.2.1.1.2.2.2.2.2.2.2.2.2.2.2.2.1),())))) (fun y5 =>
 none)
 else none
 else none
theorem yQz (x:InD yci):zju ⟨yei,70,yyP⟩ f98.results.toList ya7 yci yht x=yjL x.1 x.2.1 x.2.2.1:=by kernel_rfl
theorem yMH:ConOk prog 98 ⟨yci,yht,fun x=>yjL x.1 x.2.1 x.2.2.1⟩:=zjZ (yKi) func98 (by kernel_rfl) (by kernel_rfl) ntmps98.symm (by decide) (fun x r h=>(yQz x).trans h)
def ymx (a0:dA) (a1:Int) (a2:List Int):Bool×dA:=(!(downA (yp a0 a1 a2)),yp a0 a1 a2)
def yhK (a0:dA) (a1:Int) (a2:List Int):Bool:= !(downA a0)&&(strOk a0.2.1 a1&&((a2.length:Int)==a0.2.1.1-1&&(a0.2.2.1.length:Int)==a0.2.1.1))
theorem yOX (a0:dA) (a1:Int) (a2:List Int) (hk:zi0 yci (a0,a1,a2,())) (hq:yhK a0 a1 a2=true):yjL a0 a1 a2=(fun n=>some ((n.1,()),(n.2,()))) (ymx a0 a1 a2):=by
 simp only[yhK,Bool.and_eq_true,beq_iff_eq,Bool.not_eq_true']at hq;obtain⟨hd0,hs0,hl0,hm0⟩:=hq;have hg:=yg.1 (yG.1 hs0).1;have hp:=yl5 hs0;have hL:=y4j (N:=a0.2.1.1) (p:=parityOf a0.2.1 a1) (x:=xorOf a2) (data:=a2) ⟨by omega,by omega⟩ hp hl0;generalize hw:(List.range a0.2.1.1.toNat).map (fun(i:Nat)=>dataW (parityOf a0.2.1 a1) a0.2.1.1 (xorOf a2) a2 i)=W at hL;have hWl:W.length=a0.2.2.1.length:=by rw[← hw,List.length_map,List.length_range]; omega
 have hWat: ∀i:Nat,i<a0.2.2.1.length→nth W i 0=dataW (parityOf a0.2.1 a1) a0.2.1.1 (xorOf a2) a2 i:=fun i hi=>by
  rw[← hw,zkk,zkb (by rw[List.length_map,List.length_range]; omega)]; simp
 have h1:yn1 (yIx a1 a2 a2.length a0 ((List.replicate a0.2.1.1.toNat 0).set (parityOf a0.2.1 a1).toNat (xorOf a2)))=some (.inl (ywH a1 a0 W)):=by
  have:=zj6 (step:=ya1) a2.length (fun i s=>ymq a1 a2 a2.length i a0 s) (fun l (i:Nat)=>l.set ((parityOf a0.2.1 a1+1+i).tmod a0.2.1.1).toNat (nth a2 i 0)) (fun _ s=>s.length=a0.2.1.1.toNat) (fun s=> .inl (ywH a1 a0 s)) (fun i s hi hs=>⟨by
   have hd:=yXJ hs0 (show(0:Int)≤i by omega) (show(i:Int)≤a0.2.1.1-2 by omega);have he:ybi a0.2.1 a1 i=(parityOf a0.2.1 a1+1+i).tmod a0.2.1.1:=by unfold ybi; rw[hs0,zku (show(0:Int)≤i by omega),zku (show(i:Int)≤a0.2.1.1-2 by omega)]; rfl
   simp only[ya1,ymq,ymW,zj2 (show(i:Int)<a2.length by omega),cond_true,wr (show -9223372036854775808≤(i:Int)+1 by omega) (by omega),Int.natCast_add,Int.natCast_one,Int.toNat_natCast,zkj hi,zkp,yfS,zjA.2 (show 0≤ybi a0.2.1 a1 i∧ybi a0.2.1 a1 i<s.length by omega)]
   rw[he],by rw[List.length_set]; exact hs⟩) (fun s hs=>by simp only[ya1,ymq,ymW,zkv (Int.le_refl _),cond_false]) ((List.replicate a0.2.1.1.toNat 0).set (parityOf a0.2.1 a1).toNat (xorOf a2)) (by rw[List.length_set,List.length_replicate]) 18446744073709551616 (by omega)
  rw[hL]at this;exact this
 have h2:ymb (yHX a1 W.length a0 W)=some (bif downA (yp a0 a1 a2)then .inr (ylC false (yp a0 a1 a2))else .inl (ylA (yp a0 a1 a2))):=by
  have:=zj5 (step:=yaJ) a0.2.2.1.length (fun i s=>yly a1 W.length i s W) (fun i s=>bif downA (yaH (parityOf a0.2.1 a1) a0.2.1.1 a1 a2 s i)then(.inr (yaH (parityOf a0.2.1 a1) a0.2.1.1 a1 a2 s i):dA ⊕ dA)else .inl (yaH (parityOf a0.2.1 a1) a0.2.1.1 a1 a2 s i)) (fun _ s=>s.2.2.1.length=a0.2.2.1.length∧downA s=false) id
   (fun b=>bif downA b then .inr (ylC false b)else .inl (ylA b)) (fun i s hi hs=>by
    constructor
    ·simp only[yaJ,yly,yl0,zj2 (show(i:Int)<W.length by omega),cond_true,wr (show -9223372036854775808≤(i:Int)+1 by omega) (by omega),Int.natCast_add,Int.natCast_one,Int.toNat_natCast,zkj (show i<W.length by omega),zkp,yfT,yHV,hWat i hi,yaH]
     rw[ysw s i (dataAt a1) [dataW (parityOf a0.2.1 a1) a0.2.1.1 (xorOf a2) a2 i] (by unfold ycy; rw[zkj (by rw[hs.1]; exact hi),hs.2]; rfl)]
     cases hlv:yb9 s i a1
     ·simp only[cond_false,hs.2]
     ·simp only[zka,ycw,cond_true]
      cases hd:downA (yaZ s i (dataAt a1) [dataW (parityOf a0.2.1 a1) a0.2.1.1 (xorOf a2) a2 i])
      ·rfl
      ·simp only[hd,Bool.not_true,Bool.not_false,cond_true,ylC]
    ·intro s' h
     cases hd:downA (yaH (parityOf a0.2.1 a1) a0.2.1.1 a1 a2 s i)
     ·rw[hd]at h
      cases h
      exact⟨(ysT _ _ _ _ s i).trans hs.1,hd⟩
     ·rw[hd]at h; cases h) (fun s hs=>by simp only[yaJ,yly,yl0,hs.2,hWl,zkv (Int.le_refl _),cond_false,id,ylA]) a0 ⟨rfl,hd0⟩ 18446744073709551616 (by omega)
  rw[yDK (fun a i h=>yDe _ _ _ _ i h),← List.range_eq_range']at this;exact this
 unfold yjL ymx ydr ykg ycb;rw[zke.2 (show 0≤a0.2.1.1∧a0.2.1.1*((8:Nat):Int)≤140737488355328 by omega)];simp only[cond_true];rw[zjA.2 (show 0≤parityOf a0.2.1 a1∧parityOf a0.2.1 a1<((List.replicate a0.2.1.1.toNat (0:Int)).length:Int)by rw[List.length_replicate]; omega),cond_true];refine(congrArg (fun z=>zjW z _ _) h1).trans ?_;rw[zkf];refine(congrArg (fun z=>zjW z _ _) h2).trans ?_
 cases hd:downA (yp a0 a1 a2)
 ·rfl
 ·simp only[cond_true,zkg,zkp]; rfl
def yhI (a0:dA) (a1:Int) (a2:List Int):Option (ResD yht×MutD yci):=bif yhK a0 a1 a2 then(fun n=>some ((n.1,()),(n.2,()))) (ymx a0 a1 a2)else none
theorem yPw (a0:dA) (a1:Int) (a2:List Int) (h:yhK a0 a1 a2=true):yhI a0 a1 a2=(fun n=>some ((n.1,()),(n.2,()))) (ymx a0 a1 a2):=by unfold yhI; rw[h]; rfl
def yy8:Con:=⟨yci,yht,fun x=>yhI x.1 x.2.1 x.2.2.1⟩
theorem yPs:ConOk prog 98 yy8:=(yMH).mono (fun x r hk h=>zkq h (fun hq=>yOX x.1 x.2.1 x.2.2.1 hk hq))
end
section
def yEu:Code:=(f172.body).getD .skip
def yE6:Env:=zj0 TT [(212,yub)] []
theorem yLM:FrOk prog ⟨yE6,24,fun _=>none⟩ yEu:=zj4 yc yd ⟨yGc,trivial⟩
def yNt:Nat→Option Seg:=fun _=>none
abbrev yit:List Par:= [.rd tS]
abbrev yoL:List OT:= [⟨false,tL,(.ow .fz)⟩]
def ysx (a0:dS):Option (ResD yoL×MutD yit) :=
 let r1:=yez a0
 bif(!r1)then
 some (([],()),())
 else
 some ((([21317,a0.1,a0.2.1,a0.2.2.1,a0.2.2.2.1,a0.2.2.2.2.1,a0.2.2.2.2.2.1,(IntKind.i64.wrap (a0.2.2.2.2.2.2.1+1)),a0.2.2.2.2.2.2.2]:List Int),()),())
theorem yUo (x:InD yit):zju ⟨yE6,24,yNt⟩ f172.results.toList yEu yit yoL x=ysx x.1:=by kernel_rfl
theorem yO9:ConOk prog 172 ⟨yit,yoL,fun x=>ysx x.1⟩:=zjZ (yLM) func172 (by kernel_rfl) (by kernel_rfl) ntmps172.symm (by decide) (fun x r h=>(yUo x).trans h)
def yjz (a0:dS):(List Int) :=
 let r1:=yez a0
 bif(!r1)then
 []
 else
 ([21317,a0.1,a0.2.1,a0.2.2.1,a0.2.2.2.1,a0.2.2.2.2.1,a0.2.2.2.2.2.1,(IntKind.i64.wrap (a0.2.2.2.2.2.2.1+1)),a0.2.2.2.2.2.2.2]:List Int)
def yA4:Con:=⟨yit,yoL,fun x=>(fun n=>some ((n,()),())) (yjz x.1)⟩
theorem ySa (a0:dS):ysx a0=(fun n=>some ((n,()),())) (yjz a0):=zkn (p:=fun(n:(List Int))=>((n,()),())) (zj9 (p:=fun(n:(List Int))=>((n,()),())) rfl rfl)
theorem ySW:ConOk prog 172 yA4:=(yO9).mono (fun x r _ h=>(ySa x.1).trans h)
theorem y3g (s:dS):yjz s=n_spec_PutSuper s:=by
 unfold yjz n_spec_PutSuper;rw[yJY]
end
section
def yGE:Code:=(f173.body).getD .skip
def yHg:Env:=zj0 TT [] []
theorem yOg:FrOk prog ⟨yHg,23,fun _=>none⟩ yGE:=zj4 yc yd trivial
def yP7:Nat→Option Seg:=fun _=>none
abbrev ykY:List Par:= [.rd tA,.rd tI]
abbrev yrg:List OT:= [⟨false,tS,(.pr .fz (.pr .fz (.pr .fz (.pr .fz (.pr .fz (.pr .fz (.pr .fz .fz)))))))⟩]
def yuB (a0:dA) (a1:Int):Option (ResD yrg×MutD ykY) :=
 some (((a0.1,a0.2.2.2.2.2.2.2.1,a1,a0.2.1.1,a0.2.1.2,a0.2.2.2.2.2.2.1,a0.2.2.2.1,a0.2.2.2.2.1),()),())
theorem yXU (x:InD ykY):zju ⟨yHg,23,yP7⟩ f173.results.toList yGE ykY yrg x=yuB x.1 x.2.1:=by kernel_rfl
theorem ySA:ConOk prog 173 ⟨ykY,yrg,fun x=>yuB x.1 x.2.1⟩:=zjZ (yOg) func173 (by kernel_rfl) (by kernel_rfl) ntmps173.symm (by decide) (fun x r h=>(yXU x).trans h)
def yry (a0:dA) (a1:Int):dS :=
 (a0.1,a0.2.2.2.2.2.2.2.1,a1,a0.2.1.1,a0.2.1.2,a0.2.2.2.2.2.2.1,a0.2.2.2.1,a0.2.2.2.2.1)
def yC4:Con:=⟨ykY,yrg,fun x=>(fun n=>some ((n,()),())) (yry x.1 x.2.1)⟩
theorem yVN (a0:dA) (a1:Int):yuB a0 a1=(fun n=>some ((n,()),())) (yry a0 a1):=zkn (p:=fun(n:dS)=>((n,()),())) rfl
theorem yWL:ConOk prog 173 yC4:=(ySA).mono (fun x r _ h=>(yVN x.1 x.2.1).trans h)
end
end
end Go.Tf
