/- Functions of the program, and what they come to. -/
import Derived.Test.YtgmadfpnljibhaaGreatFallsBentF5
namespace Go.Tf
noncomputable section
open Go.Proofs
set_option synthInstance.maxHeartbeats 400000
set_option synthInstance.maxSize 10000
set_option linter.unusedVariables false
set_option linter.unusedSimpArgs false
set_option maxRecDepth 100000
section
def yb4:Code:=(Tryz.f222.body).getD .skip
def yeR:Env:=zj2 TT [(223,yqD),(268,ys7)] []
theorem yEp:FrOk Tryz.prog ⟨yeR,42,fun _=>none⟩ yb4:=zj6 yc yd ⟨yD2,yI5,trivial⟩
def yq3:Nat→Option Seg:=fun _=>none
def yT:Shape:=⟨[(0,false,[.at 800000000]),(1,false,[.fx 223 tI]),(5,false,[.int .i64]),(6,false,[.int .i64])],[],[(800000000,tI,.fz)]⟩
def yaL:Shape:=⟨[(0,false,[.at 800000000]),(1,false,[.fx 223 tI]),(5,false,[.int .i64]),(6,false,[.int .i64])],[],[(800000000,tI,.fz)]⟩
def yaK:Shape:=⟨[(0,false,[.at 800000000]),(5,false,[.int .i64])],[],[(800000000,tI,.fz)]⟩
def ycS:Shape:=⟨[],[],[]⟩
abbrev ycr (v0 v1 v2:Int) (v3:List Int):(yT).X:=((((),()),(v0,()),(v1,()),(v2,()),()),(),(v3,()))
abbrev yD0 (v0 v1 v2:Int) (v3:List Int):(yaL).X:=((((),()),(v0,()),(v1,()),(v2,()),()),(),(v3,()))
abbrev yDY (v0:Int) (v1:List Int):(yaK).X:=((((),()),(v0,()),()),(),(v1,()))
def ygw (v0 v1 v2:Int) (v3:List Int):Option ((yT).X ⊕ ((yaK).X ⊕ (ycS).X)) :=
 bif (ltb v2 (v3.length:Int)) then
 bif (inb v2 v3.length) then
 let r3:=yer (nth v3 v2 0) v0
 bif (!r3) then
 bif (inb v1 v3.length) then
 some (.inl ((((),()),(v0,()),((IntKind.i64.wrap (v1+1)),()),((IntKind.i64.wrap (v2+1)),()),()),(),((v3.set (v1).toNat (nth v3 v2 0)),())))
 else none
 else
 some (.inl ((((),()),(v0,()),(v1,()),((IntKind.i64.wrap (v2+1)),()),()),(),(v3,())))
 else none
 else
 some (.inr (.inl ((((),()),(v1,()),()),(),(v3,()))))
def yY (x:(yT).X):=ygw x.1.2.1.1 x.1.2.2.1.1 x.1.2.2.2.1.1 x.2.2.1
def yob (x:(yaL).X):(yT).X:=((((),()),(x.1.2.1.1,()),(x.1.2.2.1.1,()),(x.1.2.2.2.1.1,()),()),(),(x.2.2.1,()))
def yp1:Code:=(zdD yb4 64 244).getD .skip
theorem yEk:zdD yb4 64 61=some (.block 0 (.loop yp1)):=by kernel_rfl
theorem yEz (x:(yT).X):zg0 ⟨yeR,42,yq3⟩ 0 yp1 244 yT yaK ycS x=yY x:=by kernel_rfl
def yoc (x:(yaL).X):Nat:=18446744073709551616
def yg4 (x:(yaL).X):Option ((yaK).X ⊕ (ycS).X):=zz yY (yoc x) (yob x)
def yod:Seg:=⟨yaL,yaK,ycS,yg4⟩
def yq4:Nat→Option Seg:=fun q=>bif Nat.beq q 61 then some yod else yq3 q
theorem yEq:FrOk Tryz.prog ⟨yeR,42,yq4⟩ yb4:=(yEp).loop (sg:=yod) yT yob (by decide) yEk yY yoc (by decide) (fun _=>rfl) (fun x r _ h=>h) yEz
abbrev yaz:List Par:= [.kp tL (.ow .fz),.fn 223 tI]
abbrev yeS:List OT:= [⟨false,tL,(.ow .fz)⟩]
def ydL (a0:List Int) (a1:Int):Option (ResD yeS×MutD yaz) :=
 let r1:=ycP a0 a1
 bif (r1==(-1)) then
 some ((a0,()),())
 else
 zjY (yg4 ((((),()),(a1,()),(r1,()),((IntKind.i64.wrap (r1+1)),()),()),(),(a0,()))) (fun y3 =>
 bif (zjv y3.1.2.1.1 (y3.2.2.1.length:Int) y3.2.2.1.length) then
 bif (zjv 0 y3.1.2.1.1 (y3.2.2.1.take (y3.1.2.1.1).toNat++(List.replicate ((y3.2.2.1.length:Int) - y3.1.2.1.1).toNat (0:Int))++y3.2.2.1.drop ((y3.1.2.1.1).toNat+(List.replicate ((y3.2.2.1.length:Int) - y3.1.2.1.1).toNat (0:Int)).length)).length) then
 some (((((y3.2.2.1.take (y3.1.2.1.1).toNat++(List.replicate ((y3.2.2.1.length:Int) - y3.1.2.1.1).toNat (0:Int))++y3.2.2.1.drop ((y3.1.2.1.1).toNat+(List.replicate ((y3.2.2.1.length:Int) - y3.1.2.1.1).toNat (0:Int)).length)).drop (0:Int).toNat).take (y3.1.2.1.1 - 0).toNat),()),())
 else none
 else none) (fun y3 =>
 none)
theorem yI2 (x:InD yaz):zjw ⟨yeR,42,yq4⟩ Tryz.f222.results.toList yb4 yaz yeS x=ydL x.1 x.2.1:=by kernel_rfl
theorem yGv:ConOk Tryz.prog 222 ⟨yaz,yeS,fun x=>ydL x.1 x.2.1⟩:=zj1 (yEq) Tryz.func222 (by kernel_rfl) (by kernel_rfl) Tryz.ntmps222.symm (by decide) (fun x r h=>(yI2 x).trans h)
def yb5 (a0:List Int) (a1:Int):List Int:=y66 a0 a1
theorem yIq (a0:List Int) (a1:Int) (hk:zi1 yaz (a0,a1,())):ydL a0 a1=(fun n=>some ((n,()),())) (yb5 a0 a1):=by
 have hb:a0.length * 8≤2 ^ 47:=hk.1.1
 have hs:y66 a0 a1=a0.filter (fun x=> !(x==a1)):=rfl
 unfold ydL yb5 ycP
 simp only []
 cases hi:leb 0 (yR (fun e:Int=>e==a1) a0)
 ·rw [y5z hi,hs,yabY hi]; rfl
 ·obtain ⟨h1,h2⟩:=yta (d:=(0:Int)) hi
  have h3:=zjC.1 h1
  have h4:=y7p hi
  generalize hk0:yR (fun e:Int=>e==a1) a0=k at *
  obtain ⟨k,rfl⟩: ∃ m:Nat,k=m:=⟨k.toNat,by omega⟩
  rw [Int.toNat_natCast]at h4
  rw [show ((k:Int)== -1)=false from beq_eq_false_iff_ne.2 (by omega),cond_false,wr (show -9223372036854775808≤(k:Int)+1 by omega) (by omega)]
  obtain ⟨b,e,i,s,rfl,q1,q2,q3⟩:=ziO (step:=yY) (fun x=>(a0.length - Int.toNat x.1.2.2.2.1.1))
   (fun x=> ∃ (i j:Nat) (s:List Int),x=ycr a1 i j s∧i < j∧j≤a0.length∧s.length=a0.length∧s.take i=(a0.take j).filter (fun x=> !(x==a1))∧s.drop j=a0.drop j)
   (fun b=> ∃ (i:Nat) (s:List Int),b= .inl (yDY i s)∧i≤a0.length∧s.length=a0.length∧s.take i=a0.filter (fun x=> !(x==a1)))
   (fun x hx=>by
    obtain ⟨i,j,s,rfl,p1,p2,p3,p4,p5⟩:=hx
    by_cases hj:j < a0.length
    ·left
     have e1:nth s j 0=a0[j]:=by
      rw [zkm,zkd (by omega)]
      have:=List.getElem_drop (xs:=s) (i:=j) (j:=0) (h:=by rw [List.length_drop]; omega)
      have h6:(s.drop j)[0]'(by rw [List.length_drop]; omega)=(a0.drop j)[0]'(by rw [List.length_drop]; omega):=by simp only [p5]
      simpa using h6
     have e2:a0.take (j+1)=a0.take j++ [a0[j]]:=(List.take_append_getElem hj).symm
     simp only [yY,ycr,ygw,p3,zj4 (show (j:Int) < a0.length by omega),zkl hj,zkl (show i < a0.length by omega),e1,yer,wr (show -9223372036854775808≤(j:Int)+1 by omega) (by omega),wr (show -9223372036854775808≤(i:Int)+1 by omega) (by omega),cond_true,Int.toNat_natCast]
     cases hx:(a0[j]==a1)
     ·refine ⟨_,rfl,⟨i+1,j+1,s.set i a0[j],rfl,by omega,by omega,by rw [List.length_set,p3],?_,?_⟩,by show a0.length - ((j:Int)+1).toNat < a0.length - ((j:Int)).toNat; omega⟩
      ·rw [List.take_set,← List.take_append_getElem (show i < s.length by omega),List.set_append_right _ _ (by rw [List.length_take]; omega),p4,e2,List.filter_append,List.filter_cons,hx]
       have:i - (List.filter (fun x=> !x==a1) (a0.take j)).length=0:=by rw [← p4,List.length_take]; omega
       rw [this]; rfl
      ·rw [List.drop_set_of_lt (by omega),← List.drop_drop,p5,List.drop_drop]
     ·refine ⟨_,rfl,⟨i,j+1,s,rfl,by omega,by omega,p3,?_,?_⟩,by show a0.length - ((j:Int)+1).toNat < a0.length - ((j:Int)).toNat; omega⟩
      ·rw [p4,e2,List.filter_append,List.filter_cons,hx]; simp
      ·rw [← List.drop_drop,p5,List.drop_drop]
    ·right
     have:j=a0.length:=by omega
     subst this
     rw [List.take_length]at p4
     refine ⟨_,?_,i,s,rfl,by omega,p3,p4⟩
     simp only [yY,ycr,ygw,p3,zkx (Int.le_refl _),cond_false]) 18446744073709551616 (ycr a1 k (k+1:Nat) a0) ⟨k,k+1,a0,rfl,by omega,by omega,rfl,h4.symm,rfl⟩ (by show a0.length - ((k+1:Nat):Int).toNat < 18446744073709551616; omega)
  rw [show ((k+1:Nat):Int)=(k:Int)+1 by omega]at e
  rw [show yg4 (yD0 a1 k ((k:Int)+1) a0)=_ from e]
  rw [hs,← q3]
  have hL:(s.take i++List.replicate ((s.length:Int) - i).toNat (0:Int)++s.drop ((i:Int).toNat+(List.replicate ((s.length:Int) - i).toNat (0:Int)).length)).length=s.length:=by
   simp only [List.length_append,List.length_take,List.length_replicate,List.length_drop]; omega
  show (bif zjv i s.length s.length then bif zjv 0 i (s.take i++List.replicate ((s.length:Int) - i).toNat (0:Int)++s.drop ((i:Int).toNat+(List.replicate ((s.length:Int) - i).toNat (0:Int)).length)).length then some ((((s.take i++List.replicate ((s.length:Int) - i).toNat (0:Int)++s.drop ((i:Int).toNat+(List.replicate ((s.length:Int) - i).toNat (0:Int)).length)).drop 0).take ((i:Int) - 0).toNat,()),()) else none else none)=some ((s.take i,()),())
  rw [hL,zj5.2 (show 0≤(i:Int)∧(i:Int)≤s.length∧(s.length:Int)≤s.length by omega),zj5.2 (show (0:Int)≤0∧(0:Int)≤i∧(i:Int)≤s.length by omega),List.drop_zero,show ((i:Int) - 0).toNat=i by omega,List.append_assoc,List.take_append_of_le_length (by rw [List.length_take]; omega),List.take_take,Nat.min_self]; rfl
def yrS:Con:=⟨yaz,yeS,fun x=>(fun n=>some ((n,()),())) (yb5 x.1 x.2.1)⟩
theorem yIw:ConOk Tryz.prog 222 yrS:=(yGv).mono (fun x r hk h=>(yIq x.1 x.2.1 hk).trans h)
end
section
def yJa:Code:=(Tryz.f129.body).getD .skip
def yJV:Env:=zj2 TT [(133,yfA),(200,yaX),(219,yjd),(220,yrR),(221,yBY),(222,yrS)] []
theorem yRJ:FrOk Tryz.prog ⟨yJV,51,fun _=>none⟩ yJa:=zj6 yc yd ⟨yj0,ydd,yr3,yCa,yPp,yIw,trivial⟩
def yTw:Nat→Option Seg:=fun _=>none
abbrev ygD:List Par:= [.rd tM,.rd tI,.rd tL]
abbrev yro:List OT:= [⟨false,tM,(.pr (.ow (.ow .fz)) (.pr (.ow (.pr .fz (.ow .fz))) (.pr .fz (.ow .fz))))⟩,⟨false,tB,.fz⟩]
def ymu (a0:dM) (a1:Int) (a2:List Int):Option (ResD yro×MutD ygD) :=
 let r1:=yau a0
 let r2:=yaa a0
 bif (!(!r2)) then
 bif (!a0.2.2.1) then
 let r3:=ybM a0 a1
 bif (!(!r3)) then
 let r4:=yjh a2
 bif (!(!r4)) then
 bif ((a0.2.1.length:Int)==60) then
 some ((r1,false,()),())
 else
 let r5:=yo a2
 bif (zjQ r1.2.1.length ([(a1,r5)]:List dW).length 32) then
 let r6:=yb5 r1.2.2.2 a1
 some (((r1.1,(r1.2.1++([(a1,r5)]:List dW)),r1.2.2.1,r6),true,()),())
 else none
 else
 some ((r1,false,()),())
 else
 some ((r1,false,()),())
 else
 some ((r1,false,()),())
 else
 some ((r1,false,()),())
theorem y1k (x:InD ygD):zjw ⟨yJV,51,yTw⟩ Tryz.f129.results.toList yJa ygD yro x=ymu x.1 x.2.1 x.2.2.1:=by kernel_rfl
theorem yVv:ConOk Tryz.prog 129 ⟨ygD,yro,fun x=>ymu x.1 x.2.1 x.2.2.1⟩:=zj1 (yRJ) Tryz.func129 (by kernel_rfl) (by kernel_rfl) Tryz.ntmps129.symm (by decide) (fun x r h=>(y1k x).trans h)
def ylv (a0:dM) (a1:Int) (a2:List Int):dM×Bool:=yhd a0 a1 a2
theorem yYR (a0:dM) (a1:Int) (a2:List Int) (hk:zi1 ygD (a0,a1,a2,())):ymu a0 a1 a2=(fun n=>some ((n.1,n.2,()),())) (ylv a0 a1 a2):=by
 have hb1:a0.1.length * 24≤2 ^ 47:=hk.1.1.1
 unfold ymu ylv yhd yBW
 simp only [yau,yaa,ybM,yah,yvZ (show a0.1.length≤1152921504606846976 by omega),yLu,yo,yb5]
 cases hm:yu a0
 ·rfl
 have hc:=(yaw hm).2.2.2.2.2
 cases a0.2.2.1
 ·cases inb a1 a0.1.length
  ·rfl
  cases yal a2
  ·rfl
  by_cases h:(a0.2.1.length:Int) < 60
  ·rw [zj4 h,show ((a0.2.1.length:Int)==60)=false from beq_eq_false_iff_ne.2 (by omega),zka.2 (show (a0.2.1.length+ [(a1,a2)].length) * 32≤140737488355328 by simp only [List.length_cons,List.length_nil]; omega)]; rfl
  ·rw [zkx (by omega),show ((a0.2.1.length:Int)==60)=true from beq_iff_eq.2 (by omega)]; rfl
 ·rfl
def yFw:Con:=⟨ygD,yro,fun x=>(fun n=>some ((n.1,n.2,()),())) (ylv x.1 x.2.1 x.2.2.1)⟩
theorem yZL:ConOk Tryz.prog 129 yFw:=(yVv).mono (fun x r hk h=>(yYR x.1 x.2.1 x.2.2.1 hk).trans h)
end
section
def yOg:Code:=(Tryz.f205.body).getD .skip
def yOR:Env:=zj2 TT [] []
theorem yXd:FrOk Tryz.prog ⟨yOR,26,fun _=>none⟩ yOg:=zj6 yc yd trivial
def y0j:Nat→Option Seg:=fun _=>none
abbrev ypA:List Par:= [.pt tA (.pr .fz (.pr (.pr .fz .fz) (.pr (.ow (.pr (.ow (.ow .fz)) (.pr (.ow (.pr .fz (.ow .fz))) (.pr .fz (.ow .fz))))) (.pr .fz (.pr .fz (.pr .fz (.pr .fz (.pr .fz (.pr (.ow (.pr .fz (.ow .fz))) (.pr .fz (.pr .fz .fz)))))))))))]
abbrev ywf:List OT:= [⟨false,tB,.fz⟩]
def yAj (a0:dA):Option (ResD ywf×MutD ypA) :=
 bif (a0.2.2.2.2.2.2.2.2.2.1==0) then
 some ((false,()),((a0.1,a0.2.1,a0.2.2.1,a0.2.2.2.1,a0.2.2.2.2.1,a0.2.2.2.2.2.1,a0.2.2.2.2.2.2.1,a0.2.2.2.2.2.2.2.1,a0.2.2.2.2.2.2.2.2.1,(-1),true,a0.2.2.2.2.2.2.2.2.2.2.2),()))
 else
 bif (ltb 0 a0.2.2.2.2.2.2.2.2.2.1) then
 some ((true,()),((a0.1,a0.2.1,a0.2.2.1,a0.2.2.2.1,a0.2.2.2.2.1,a0.2.2.2.2.2.1,a0.2.2.2.2.2.2.1,a0.2.2.2.2.2.2.2.1,a0.2.2.2.2.2.2.2.2.1,(IntKind.i64.wrap (a0.2.2.2.2.2.2.2.2.2.1 - 1)),a0.2.2.2.2.2.2.2.2.2.2),()))
 else
 some ((true,()),(a0,()))
theorem y7L (x:InD ypA):zjw ⟨yOR,26,y0j⟩ Tryz.f205.results.toList yOg ypA ywf x=yAj x.1:=by kernel_rfl
theorem y3c:ConOk Tryz.prog 205 ⟨ypA,ywf,fun x=>yAj x.1⟩:=zj1 (yXd) Tryz.func205 (by kernel_rfl) (by kernel_rfl) Tryz.ntmps205.symm (by decide) (fun x r h=>(y7L x).trans h)
def yjZ (a0:dA):Bool×dA :=
 bif (a0.2.2.2.2.2.2.2.2.2.1==0) then
 (false,(a0.1,a0.2.1,a0.2.2.1,a0.2.2.2.1,a0.2.2.2.2.1,a0.2.2.2.2.2.1,a0.2.2.2.2.2.2.1,a0.2.2.2.2.2.2.2.1,a0.2.2.2.2.2.2.2.2.1,(-1),true,a0.2.2.2.2.2.2.2.2.2.2.2))
 else
 bif (ltb 0 a0.2.2.2.2.2.2.2.2.2.1) then
 (true,(a0.1,a0.2.1,a0.2.2.1,a0.2.2.2.1,a0.2.2.2.2.1,a0.2.2.2.2.2.1,a0.2.2.2.2.2.2.1,a0.2.2.2.2.2.2.2.1,a0.2.2.2.2.2.2.2.2.1,(IntKind.i64.wrap (a0.2.2.2.2.2.2.2.2.2.1 - 1)),a0.2.2.2.2.2.2.2.2.2.2))
 else
 (true,a0)
def yzn:Con:=⟨ypA,ywf,fun x=>(fun n=>some ((n.1,()),(n.2,()))) (yjZ x.1)⟩
theorem y5E (a0:dA):yAj a0=(fun n=>some ((n.1,()),(n.2,()))) (yjZ a0):=zkp (p:=fun (n:Bool×dA)=>((n.1,()),(n.2,()))) (zkb (p:=fun (n:Bool×dA)=>((n.1,()),(n.2,()))) rfl (zkb (p:=fun (n:Bool×dA)=>((n.1,()),(n.2,()))) rfl rfl))
theorem yM6:ConOk Tryz.prog 205 yzn:=(y3c).mono (fun x r _ h=>(y5E x.1).trans h)
theorem y2x {a:dA} (h:ye a=false):yjZ a=opA a:=by
 unfold yjZ opA
 rw [h]
 cases (a.2.2.2.2.2.2.2.2.2.1==0)
 ·cases ltb 0 a.2.2.2.2.2.2.2.2.2.1
  ·rfl
  ·show (true,_)=(true,yAy a _ false)
   unfold yAy
   rw [show a.2.2.2.2.2.2.2.2.2.2=(ye a,a.2.2.2.2.2.2.2.2.2.2.2) from rfl,h]
 ·rfl
end
section
def yGC:Code:=(Tryz.f107.body).getD .skip
def yG9:Env:=zj2 TT [(129,yFw),(205,yzn)] []
theorem yPQ:FrOk Tryz.prog ⟨yG9,39,fun _=>none⟩ yGC:=zj6 yc yd ⟨yZL,yM6,trivial⟩
def yQQ:Nat→Option Seg:=fun _=>none
abbrev ycX:List Par:= [.pt tA (.pr .fz (.pr (.pr .fz .fz) (.pr (.ow (.pr (.ow (.ow .fz)) (.pr (.ow (.pr .fz (.ow .fz))) (.pr .fz (.ow .fz))))) (.pr .fz (.pr .fz (.pr .fz (.pr .fz (.pr .fz (.pr (.ow (.pr .fz (.ow .fz))) (.pr .fz (.pr .fz .fz))))))))))),.rd tI,.rd tI,.rd tL]
abbrev yi8:List OT:= [⟨false,tB,.fz⟩]
def ylI (a0:dA) (a1 a2:Int) (a3:List Int):Option (ResD yi8×MutD ycX) :=
 bif (inb a1 a0.2.2.1.length) then
 bif (((nth a0.2.2.1 a1 ([],[],false,[])).2).2).1 then
 some ((true,()),(a0,()))
 else
 let r1:=yjZ a0
 bif (!r1.1) then
 some ((false,()),(r1.2,()))
 else
 bif (inb a1 r1.2.2.2.1.length) then
 let r2:=ylv ((nth r1.2.2.2.1 a1 ([],[],false,[])).1,((nth r1.2.2.2.1 a1 ([],[],false,[])).2).1,(((nth r1.2.2.2.1 a1 ([],[],false,[])).2).2)) a2 a3
 bif (inb a1 r1.2.2.2.1.length) then
 some ((true,()),((r1.2.1,r1.2.2.1,(r1.2.2.2.1.set (a1).toNat r2.1),r1.2.2.2.2),()))
 else none
 else none
 else none
theorem yW6 (x:InD ycX):zjw ⟨yG9,39,yQQ⟩ Tryz.f107.results.toList yGC ycX yi8 x=ylI x.1 x.2.1 x.2.2.1 x.2.2.2.1:=by kernel_rfl
theorem ySP:ConOk Tryz.prog 107 ⟨ycX,yi8,fun x=>ylI x.1 x.2.1 x.2.2.1 x.2.2.2.1⟩:=zj1 (yPQ) Tryz.func107 (by kernel_rfl) (by kernel_rfl) Tryz.ntmps107.symm (by decide) (fun x r h=>(yW6 x).trans h)
def ydc (a0:dA) (a1 a2:Int) (a3:List Int):Bool×dA:=(!(ye (ydM a0 a1 a2 a3)),ydM a0 a1 a2 a3)
def yde (a0:dA) (a1 a2:Int) (a3:List Int):Bool:=inb a1 a0.2.2.1.length&& !(ye a0)
theorem yVi (a0:dA) (a1 a2:Int) (a3:List Int) (hk:zi1 ycX (a0,a1,a2,a3,())) (hq:yde a0 a1 a2 a3=true):ylI a0 a1 a2 a3=(fun n=>some ((n.1,()),(n.2,()))) (ydc a0 a1 a2 a3):=by
 simp only [yde,Bool.and_eq_true,Bool.not_eq_true'] at hq
 unfold ylI ydc
 simp only [yab2 hq.2]
 unfold ydM setMem
 simp only [y2x hq.2,yaT,hq.1,zkr,ylv]
 cases (nth a0.2.2.1 a1 noMem).2.2.1<;>cases (opA a0).1<;>rfl
def yfI (a0:dA) (a1 a2:Int) (a3:List Int):Option (ResD yi8×MutD ycX):=bif yde a0 a1 a2 a3 then (fun n=>some ((n.1,()),(n.2,()))) (ydc a0 a1 a2 a3) else none
theorem yvz (a0:dA) (a1 a2:Int) (a3:List Int) (h:yde a0 a1 a2 a3=true):yfI a0 a1 a2 a3=(fun n=>some ((n.1,()),(n.2,()))) (ydc a0 a1 a2 a3):=by unfold yfI; rw [h]; rfl
def ylm:Con:=⟨ycX,yi8,fun x=>yfI x.1 x.2.1 x.2.2.1 x.2.2.2.1⟩
theorem yvx:ConOk Tryz.prog 107 ylm:=(ySP).mono (fun x r hk h=>zks h (fun hq=>yVi x.1 x.2.1 x.2.2.1 x.2.2.2.1 hk hq))
end
section
def yLG:Code:=(Tryz.f128.body).getD .skip
def yMn:Env:=zj2 TT [] []
theorem yUn:FrOk Tryz.prog ⟨yMn,23,fun _=>none⟩ yLG:=zj6 yc yd trivial
def yWA:Nat→Option Seg:=fun _=>none
abbrev ym5:List Par:= [.rd tA,.rd tI]
abbrev yt9:List OT:= [⟨false,tS,(.pr .fz (.pr .fz (.pr .fz (.pr .fz (.pr .fz (.pr .fz (.pr .fz .fz)))))))⟩]
def yxQ (a0:dA) (a1:Int):Option (ResD yt9×MutD ym5) :=
 some (((a0.1,a0.2.2.2.2.2.2.2.1,a1,a0.2.1.1,a0.2.1.2,a0.2.2.2.2.2.2.1,a0.2.2.2.1,a0.2.2.2.2.1),()),())
theorem y43 (x:InD ym5):zjw ⟨yMn,23,yWA⟩ Tryz.f128.results.toList yLG ym5 yt9 x=yxQ x.1 x.2.1:=by kernel_rfl
theorem yZj:ConOk Tryz.prog 128 ⟨ym5,yt9,fun x=>yxQ x.1 x.2.1⟩:=zj1 (yUn) Tryz.func128 (by kernel_rfl) (by kernel_rfl) Tryz.ntmps128.symm (by decide) (fun x r h=>(y43 x).trans h)
def yuw (a0:dA) (a1:Int):dS :=
 (a0.1,a0.2.2.2.2.2.2.2.1,a1,a0.2.1.1,a0.2.1.2,a0.2.2.2.2.2.2.1,a0.2.2.2.1,a0.2.2.2.2.1)
def yHv:Con:=⟨ym5,yt9,fun x=>(fun n=>some ((n,()),())) (yuw x.1 x.2.1)⟩
theorem y2T (a0:dA) (a1:Int):yxQ a0 a1=(fun n=>some ((n,()),())) (yuw a0 a1):=zkp (p:=fun (n:dS)=>((n,()),())) rfl
theorem y3Z:ConOk Tryz.prog 128 yHv:=(yZj).mono (fun x r _ h=>(y2T x.1 x.2.1).trans h)
end
section
def yI9:Code:=(Tryz.f201.body).getD .skip
def yJU:Env:=zj2 TT [(218,yxl)] []
theorem yRI:FrOk Tryz.prog ⟨yJU,24,fun _=>none⟩ yI9:=zj6 yc yd ⟨yK7,trivial⟩
def yTv:Nat→Option Seg:=fun _=>none
abbrev yki:List Par:= [.rd tS]
abbrev yrn:List OT:= [⟨false,tL,(.ow .fz)⟩]
def yvA (a0:dS):Option (ResD yrn×MutD yki) :=
 let r1:=yfE a0
 bif (!r1) then
 some (([],()),())
 else
 some ((([21317,a0.1,a0.2.1,a0.2.2.1,a0.2.2.2.1,a0.2.2.2.2.1,a0.2.2.2.2.2.1,(IntKind.i64.wrap (a0.2.2.2.2.2.2.1+1)),a0.2.2.2.2.2.2.2]:List Int),()),())
theorem y1j (x:InD yki):zjw ⟨yJU,24,yTv⟩ Tryz.f201.results.toList yI9 yki yrn x=yvA x.1:=by kernel_rfl
theorem yVu:ConOk Tryz.prog 201 ⟨yki,yrn,fun x=>yvA x.1⟩:=zj1 (yRI) Tryz.func201 (by kernel_rfl) (by kernel_rfl) Tryz.ntmps201.symm (by decide) (fun x r h=>(y1j x).trans h)
def ylu (a0:dS):(List Int) :=
 let r1:=yfE a0
 bif (!r1) then
 []
 else
 ([21317,a0.1,a0.2.1,a0.2.2.1,a0.2.2.2.1,a0.2.2.2.2.1,a0.2.2.2.2.2.1,(IntKind.i64.wrap (a0.2.2.2.2.2.2.1+1)),a0.2.2.2.2.2.2.2]:List Int)
def yFv:Con:=⟨yki,yrn,fun x=>(fun n=>some ((n,()),())) (ylu x.1)⟩
theorem yYQ (a0:dS):yvA a0=(fun n=>some ((n,()),())) (ylu a0):=zkp (p:=fun (n:(List Int))=>((n,()),())) (zkb (p:=fun (n:(List Int))=>((n,()),())) rfl rfl)
theorem yZK:ConOk Tryz.prog 201 yFv:=(yVu).mono (fun x r _ h=>(yYQ x.1).trans h)
theorem yaao (s:dS):ylu s=yJ s:=by
 unfold ylu yJ
 rw [yPn]
end
section
def yj5:Code:=(Tryz.f130.body).getD .skip
def yq7:Env:=zj2 TT [(133,yfA),(200,yaX),(219,yjd)] []
theorem yRD:FrOk Tryz.prog ⟨yq7,34,fun _=>none⟩ yj5:=zj6 yc yd ⟨yj0,ydd,yr3,trivial⟩
def yEO:Nat→Option Seg:=fun _=>none
def ybz:Shape:=⟨[(2,false,[.ptr 64 0]),(3,false,[.ptr 4224 0]),(17,false,[.br tW]),(18,false,[.int .i64]),(19,false,[.int .i64])],[(64,[.nil,.nil,.bool,.nil]),(4224,[.at 800000000,.at 800000001,.bool,.at 800000002])],[(800000000,tL,(.ow .fz)),(800000001,tW,(.pr .fz (.ow .fz))),(800000002,tI,.fz)]⟩
def ygg:Shape:=⟨[(2,false,[.ptr 64 0]),(3,false,[.ptr 4224 0]),(17,false,[.br tW]),(18,false,[.int .i64]),(19,false,[.ci .i64 0])],[(64,[.nil,.nil,.bool,.nil]),(4224,[.at 800000000,.at 800000001,.bool,.at 800000002])],[(800000000,tL,(.ow .fz)),(800000001,tW,(.pr .fz (.ow .fz))),(800000002,tI,.fz)]⟩
def yf5:Shape:=⟨[(2,false,[.ptr 64 0]),(3,false,[.ptr 4224 0])],[(64,[.nil,.nil,.bool,.nil]),(4224,[.at 800000000,.at 800000001,.bool,.at 800000002])],[(800000000,tL,(.ow .fz)),(800000001,tW,(.pr .fz (.ow .fz))),(800000002,tI,.fz)]⟩
def yk7:Shape:=⟨[],[],[]⟩
abbrev yqH (v0:List dW) (v1 v2:Int) (v3 v4:dM):(ybz).X:=((((),()),((),()),(v0,()),(v1,()),(v2,()),()),(((),(),v3.2.2.1,(),()),((),(),v4.2.2.1,(),()),()),(v4.1,v4.2.1,v4.2.2.2,()))
abbrev yP7 (v0:List dW) (v1:Int) (v2 v3:dM):(ygg).X:=((((),()),((),()),(v0,()),(v1,()),((),()),()),(((),(),v2.2.2.1,(),()),((),(),v3.2.2.1,(),()),()),(v3.1,v3.2.1,v3.2.2.2,()))
abbrev yBx (v0 v1:dM):(yf5).X:=((((),()),((),()),()),(((),(),v0.2.2.1,(),()),((),(),v1.2.2.1,(),()),()),(v1.1,v1.2.1,v1.2.2.2,()))
def yqX (v0:List dW) (v1 v2:Int) (v3 v4:Bool) (v5:List (List Int)) (v6:List dW) (v7:List Int):Option ((ybz).X ⊕ ((yf5).X ⊕ (yk7).X)) :=
 bif (ltb v2 v1) then
 bif (inb v2 v0.length) then
 let r4:=yo ((nth v0 v2 (0,[])).2)
 bif (inb ((nth v0 v2 (0,[])).1) v5.length) then
 some (.inl ((((),()),((),()),(v0,()),(v1,()),((IntKind.i64.wrap (v2+1)),()),()),(((),(),v3,(),()),((),(),v4,(),()),()),((v5.set ((nth v0 v2 (0,[])).1).toNat r4),v6,v7,())))
 else none
 else none
 else
 some (.inr (.inl ((((),()),((),()),()),(((),(),v3,(),()),((),(),v4,(),()),()),(v5,v6,v7,()))))
def ybY (x:(ybz).X):=yqX x.1.2.2.1.1 x.1.2.2.2.1.1 x.1.2.2.2.2.1.1 x.2.1.1.2.2.1 x.2.1.2.1.2.2.1 x.2.2.1 x.2.2.2.1 x.2.2.2.2.1
def yBb (x:(ygg).X):(ybz).X:=((((),()),((),()),(x.1.2.2.1.1,()),(x.1.2.2.2.1.1,()),(0,()),()),(((),(),x.2.1.1.2.2.1,(),()),((),(),x.2.1.2.1.2.2.1,(),()),()),(x.2.2.1,x.2.2.2.1,x.2.2.2.2.1,()))
def yC3:Code:=(zdD yj5 64 244).getD .skip
theorem yRb:zdD yj5 64 61=some (.block 0 (.loop yC3)):=by kernel_rfl
theorem yS9 (x:(ybz).X):zg0 ⟨yq7,34,yEO⟩ 0 yC3 244 ybz yf5 yk7 x=ybY x:=by kernel_rfl
def yBn (x:(ygg).X):Nat:=18446744073709551616
def ysG (x:(ygg).X):Option ((yf5).X ⊕ (yk7).X):=zz ybY (yBn x) (yBb x)
def yBF:Seg:=⟨ygg,yf5,yk7,ysG⟩
def yEP:Nat→Option Seg:=fun q=>bif Nat.beq q 61 then some yBF else yEO q
theorem yRE:FrOk Tryz.prog ⟨yq7,34,yEP⟩ yj5:=(yRD).loop (sg:=yBF) ybz yBb (by decide) yRb ybY yBn (by decide) (fun _=>rfl) (fun x r _ h=>h) yS9
abbrev ygz:List Par:= [.rd tM]
abbrev yrj:List OT:= [⟨false,tM,(.pr (.ow (.ow .fz)) (.pr (.ow (.pr .fz (.ow .fz))) (.pr .fz (.ow .fz))))⟩]
def ymq (a0:dM):Option (ResD yrj×MutD ygz) :=
 let r1:=yau a0
 let r2:=yaa a0
 bif (!(!r2)) then
 bif a0.2.2.1 then
 some ((r1,()),())
 else
 zjY (ysG ((((),()),((),()),(a0.2.1,()),((a0.2.1.length:Int),()),((),()),()),(((),(),false,(),()),((),(),r1.2.2.1,(),()),()),(r1.1,r1.2.1,r1.2.2.2,()))) (fun y4 =>
 some (((y4.2.2.1,[],y4.2.1.2.1.2.2.1,y4.2.2.2.2.1),()),())) (fun y4 =>
 none)
 else
 some ((r1,()),())
theorem y1f (x:InD ygz):zjw ⟨yq7,34,yEP⟩ Tryz.f130.results.toList yj5 ygz yrj x=ymq x.1:=by kernel_rfl
theorem yVq:ConOk Tryz.prog 130 ⟨ygz,yrj,fun x=>ymq x.1⟩:=zj1 (yRE) Tryz.func130 (by kernel_rfl) (by kernel_rfl) Tryz.ntmps130.symm (by decide) (fun x r h=>(y1f x).trans h)
def ylr (a0:dM):dM:=yfC a0
theorem yYM (a0:dM) (hk:zi1 ygz (a0,())):ymq a0=(fun n=>some ((n,()),())) (ylr a0):=by
 have hb2:a0.2.1.length * 32≤2 ^ 47:=hk.1.2.1.1
 unfold ymq ylr yfC
 simp only [yau,yaa]
 cases hm:yu a0
 ·rfl
 have h1:ysG (yP7 a0.2.1 a0.2.1.length noMem a0)=some (.inl (yBx noMem (ybP (fun _=>true) a0.2.1 a0.1,a0.2))) :=
  zj8 (step:=ybY) a0.2.1.length (fun i s=>yqH a0.2.1 a0.2.1.length i noMem (s,a0.2)) (ybH (fun _=>true) a0.2.1) (fun i s=>s.length=a0.1.length) (fun s=> .inl (yBx noMem (s,a0.2))) (fun i s hi hs=>by
   have hw:=(yNI hm hi).1
   refine ⟨?_,yzZ.trans hs⟩
   simp only [ybY,yqH,yqX,zj4 (show (i:Int) < a0.2.1.length by omega),cond_true,wr (show -9223372036854775808≤(i:Int)+1 by omega) (by omega),Int.natCast_add,Int.natCast_one,Int.toNat_natCast,zkl hi,hs,hw,ybH,yo]) (fun s hs=>by simp only [ybY,yqH,yqX,zkx (Int.le_refl _),cond_false]) a0.1 rfl _ (by show _ < 18446744073709551616; omega)
 rw [h1]
 cases hf:a0.2.2.1
 ·exact congrArg (fun z=>some (((ybP (fun _=>true) a0.2.1 a0.1,([]:List dW),z,a0.2.2.2),()),())) hf
 ·rfl
def yFs:Con:=⟨ygz,yrj,fun x=>(fun n=>some ((n,()),())) (ylr x.1)⟩
theorem yZH:ConOk Tryz.prog 130 yFs:=(yVq).mono (fun x r hk h=>(yYM x.1 hk).trans h)
end
section
def yj4:Code:=(Tryz.f202.body).getD .skip
def yq6:Env:=zj2 TT [(130,yFs),(205,yzn)] []
theorem yRy:FrOk Tryz.prog ⟨yq6,38,fun _=>none⟩ yj4:=zj6 yc yd ⟨yZH,yM6,trivial⟩
def yEK:Nat→Option Seg:=fun _=>none
def ybw:Shape:=⟨[(0,false,[.ptr 1000000000 0]),(8,false,[.int .i64]),(9,false,[.int .i64])],[(1000000000,[.int .i64,.int .i64,.int .i64,.at 800000000,.int .i64,.int .i64,.int .i64,.int .i64,.int .i64,.at 800000001,.int .i64,.bool,.bool])],[(800000000,tM,(.pr (.ow (.ow .fz)) (.pr (.ow (.pr .fz (.ow .fz))) (.pr .fz (.ow .fz))))),(800000001,tW,(.pr .fz (.ow .fz)))]⟩
def ygd:Shape:=⟨[(0,false,[.ptr 1000000000 0]),(8,false,[.int .i64]),(9,false,[.ci .i64 0])],[(1000000000,[.int .i64,.int .i64,.int .i64,.at 800000000,.int .i64,.int .i64,.int .i64,.int .i64,.int .i64,.at 800000001,.int .i64,.bool,.bool])],[(800000000,tM,(.pr (.ow (.ow .fz)) (.pr (.ow (.pr .fz (.ow .fz))) (.pr .fz (.ow .fz))))),(800000001,tW,(.pr .fz (.ow .fz)))]⟩
def yf2:Shape:=⟨[],[(1000000000,[.int .i64,.int .i64,.int .i64,.at 800000000,.int .i64,.int .i64,.int .i64,.int .i64,.int .i64,.at 800000001,.int .i64,.bool,.bool])],[(800000000,tM,(.pr (.ow (.ow .fz)) (.pr (.ow (.pr .fz (.ow .fz))) (.pr .fz (.ow .fz))))),(800000001,tW,(.pr .fz (.ow .fz)))]⟩
def ygo:Shape:=⟨[(2,false,[.bool])],[(1000000000,[.int .i64,.int .i64,.int .i64,.at 800000000,.int .i64,.int .i64,.int .i64,.int .i64,.int .i64,.at 800000001,.int .i64,.bool,.bool])],[(800000000,tM,(.pr (.ow (.ow .fz)) (.pr (.ow (.pr .fz (.ow .fz))) (.pr .fz (.ow .fz))))),(800000001,tW,(.pr .fz (.ow .fz)))]⟩
abbrev yjz (v0 v1:Int) (v2:dA):(ybw).X:=((((),()),(v0,()),(v1,()),()),((v2.1,v2.2.1.1,v2.2.1.2,(),v2.2.2.2.1,v2.2.2.2.2.1,v2.2.2.2.2.2.1,v2.2.2.2.2.2.2.1,v2.2.2.2.2.2.2.2.1,(),v2.2.2.2.2.2.2.2.2.2.1,v2.2.2.2.2.2.2.2.2.2.2.1,v2.2.2.2.2.2.2.2.2.2.2.2,()),()),(v2.2.2.1,v2.2.2.2.2.2.2.2.2.1,()))
abbrev yP4 (v0:Int) (v1:dA):(ygd).X:=((((),()),(v0,()),((),()),()),((v1.1,v1.2.1.1,v1.2.1.2,(),v1.2.2.2.1,v1.2.2.2.2.1,v1.2.2.2.2.2.1,v1.2.2.2.2.2.2.1,v1.2.2.2.2.2.2.2.1,(),v1.2.2.2.2.2.2.2.2.2.1,v1.2.2.2.2.2.2.2.2.2.2.1,v1.2.2.2.2.2.2.2.2.2.2.2,()),()),(v1.2.2.1,v1.2.2.2.2.2.2.2.2.1,()))
abbrev yqN (v0:dA):(yf2).X:=((),((v0.1,v0.2.1.1,v0.2.1.2,(),v0.2.2.2.1,v0.2.2.2.2.1,v0.2.2.2.2.2.1,v0.2.2.2.2.2.2.1,v0.2.2.2.2.2.2.2.1,(),v0.2.2.2.2.2.2.2.2.2.1,v0.2.2.2.2.2.2.2.2.2.2.1,v0.2.2.2.2.2.2.2.2.2.2.2,()),()),(v0.2.2.1,v0.2.2.2.2.2.2.2.2.1,()))
abbrev yqP (v0:Bool) (v1:dA):(ygo).X:=(((v0,()),()),((v1.1,v1.2.1.1,v1.2.1.2,(),v1.2.2.2.1,v1.2.2.2.2.1,v1.2.2.2.2.2.1,v1.2.2.2.2.2.2.1,v1.2.2.2.2.2.2.2.1,(),v1.2.2.2.2.2.2.2.2.2.1,v1.2.2.2.2.2.2.2.2.2.2.1,v1.2.2.2.2.2.2.2.2.2.2.2,()),()),(v1.2.2.1,v1.2.2.2.2.2.2.2.2.1,()))
def yqU (v0 v1 v2 v3 v4 v5 v6 v7 v8 v9 v10:Int) (v11 v12:Bool) (v13:List dM) (v14:List dW):Option ((ybw).X ⊕ ((yf2).X ⊕ (ygo).X)) :=
 bif (ltb v1 v0) then
 bif (inb v1 v13.length) then
 bif (((nth v13 v1 ([],[],false,[])).2).2).1 then
 some (.inl ((((),()),(v0,()),((IntKind.i64.wrap (v1+1)),()),()),((v2,v3,v4,(),v5,v6,v7,v8,v9,(),v10,v11,v12,()),()),(v13,v14,())))
 else
 let r3:=yjZ (v2,(v3,v4),v13,v5,v6,v7,v8,v9,v14,v10,v11,v12)
 bif (!r3.1) then
 some (.inr (.inr (((false,()),()),((r3.2.1,r3.2.2.1.1,r3.2.2.1.2,(),r3.2.2.2.2.1,r3.2.2.2.2.2.1,r3.2.2.2.2.2.2.1,r3.2.2.2.2.2.2.2.1,r3.2.2.2.2.2.2.2.2.1,(),r3.2.2.2.2.2.2.2.2.2.2.1,r3.2.2.2.2.2.2.2.2.2.2.2.1,r3.2.2.2.2.2.2.2.2.2.2.2.2,()),()),(r3.2.2.2.1,r3.2.2.2.2.2.2.2.2.2.1,()))))
 else
 bif (inb v1 r3.2.2.2.1.length) then
 let r4:=ylr ((nth r3.2.2.2.1 v1 ([],[],false,[])).1,((nth r3.2.2.2.1 v1 ([],[],false,[])).2).1,(((nth r3.2.2.2.1 v1 ([],[],false,[])).2).2))
 bif (inb v1 r3.2.2.2.1.length) then
 some (.inl ((((),()),(v0,()),((IntKind.i64.wrap (v1+1)),()),()),((r3.2.1,r3.2.2.1.1,r3.2.2.1.2,(),r3.2.2.2.2.1,r3.2.2.2.2.2.1,r3.2.2.2.2.2.2.1,r3.2.2.2.2.2.2.2.1,r3.2.2.2.2.2.2.2.2.1,(),r3.2.2.2.2.2.2.2.2.2.2.1,r3.2.2.2.2.2.2.2.2.2.2.2.1,r3.2.2.2.2.2.2.2.2.2.2.2.2,()),()),((r3.2.2.2.1.set (v1).toNat r4),r3.2.2.2.2.2.2.2.2.2.1,())))
 else none
 else none
 else none
 else
 some (.inr (.inl ((),((v2,v3,v4,(),v5,v6,v7,v8,v9,(),v10,v11,v12,()),()),(v13,v14,()))))
def ybV (x:(ybw).X):=yqU x.1.2.1.1 x.1.2.2.1.1 x.2.1.1.1 x.2.1.1.2.1 x.2.1.1.2.2.1 x.2.1.1.2.2.2.2.1 x.2.1.1.2.2.2.2.2.1 x.2.1.1.2.2.2.2.2.2.1 x.2.1.1.2.2.2.2.2.2.2.1 x.2.1.1.2.2.2.2.2.2.2.2.1 x.2.1.1.2.2.2.2.2.2.2.2.2.2.1 x.2.1.1.2.2.2.2.2.2.2.2.2.2.2.1 x.2.1.1.2.2.2.2.2.2.2.2.2.2.2.2.1 x.2.2.1 x.2.2.2.1
def yA8 (x:(ygd).X):(ybw).X:=((((),()),(x.1.2.1.1,()),(0,()),()),((x.2.1.1.1,x.2.1.1.2.1,x.2.1.1.2.2.1,(),x.2.1.1.2.2.2.2.1,x.2.1.1.2.2.2.2.2.1,x.2.1.1.2.2.2.2.2.2.1,x.2.1.1.2.2.2.2.2.2.2.1,x.2.1.1.2.2.2.2.2.2.2.2.1,(),x.2.1.1.2.2.2.2.2.2.2.2.2.2.1,x.2.1.1.2.2.2.2.2.2.2.2.2.2.2.1,x.2.1.1.2.2.2.2.2.2.2.2.2.2.2.2.1,()),()),(x.2.2.1,x.2.2.2.1,()))
def yC0:Code:=(zdD yj4 64 52).getD .skip
theorem yQ8:zdD yj4 64 13=some (.block 0 (.loop yC0)):=by kernel_rfl
theorem yS6 (x:(ybw).X):zg0 ⟨yq6,38,yEK⟩ 0 yC0 52 ybw yf2 ygo x=ybV x:=by kernel_rfl
def yBk (x:(ygd).X):Nat:=18446744073709551616
def ysE (x:(ygd).X):Option ((yf2).X ⊕ (ygo).X):=zz ybV (yBk x) (yA8 x)
def yBC:Seg:=⟨ygd,yf2,ygo,ysE⟩
def yEL:Nat→Option Seg:=fun q=>bif Nat.beq q 13 then some yBC else yEK q
theorem yRz:FrOk Tryz.prog ⟨yq6,38,yEL⟩ yj4:=(yRy).loop (sg:=yBC) ybw yA8 (by decide) yQ8 ybV yBk (by decide) (fun _=>rfl) (fun x r _ h=>h) yS6
abbrev ydO:List Par:= [.pt tA (.pr .fz (.pr (.pr .fz .fz) (.pr (.ow (.pr (.ow (.ow .fz)) (.pr (.ow (.pr .fz (.ow .fz))) (.pr .fz (.ow .fz))))) (.pr .fz (.pr .fz (.pr .fz (.pr .fz (.pr .fz (.pr (.ow (.pr .fz (.ow .fz))) (.pr .fz (.pr .fz .fz)))))))))))]
abbrev ykV:List OT:= [⟨false,tB,.fz⟩]
def ymo (a0:dA):Option (ResD ykV×MutD ydO) :=
 zjY (ysE ((((),()),((a0.2.2.1.length:Int),()),((),()),()),((a0.1,a0.2.1.1,a0.2.1.2,(),a0.2.2.2.1,a0.2.2.2.2.1,a0.2.2.2.2.2.1,a0.2.2.2.2.2.2.1,a0.2.2.2.2.2.2.2.1,(),a0.2.2.2.2.2.2.2.2.2.1,a0.2.2.2.2.2.2.2.2.2.2.1,a0.2.2.2.2.2.2.2.2.2.2.2,()),()),(a0.2.2.1,a0.2.2.2.2.2.2.2.2.1,()))) (fun y4 =>
 some ((true,()),((y4.2.1.1.1,(y4.2.1.1.2.1,y4.2.1.1.2.2.1),y4.2.2.1,y4.2.1.1.2.2.2.2.1,y4.2.1.1.2.2.2.2.2.1,y4.2.1.1.2.2.2.2.2.2.1,y4.2.1.1.2.2.2.2.2.2.2.1,y4.2.1.1.2.2.2.2.2.2.2.2.1,y4.2.2.2.1,y4.2.1.1.2.2.2.2.2.2.2.2.2.2.1,y4.2.1.1.2.2.2.2.2.2.2.2.2.2.2.1,y4.2.1.1.2.2.2.2.2.2.2.2.2.2.2.2.1),()))) (fun y4 =>
 some ((y4.1.1.1,()),((y4.2.1.1.1,(y4.2.1.1.2.1,y4.2.1.1.2.2.1),y4.2.2.1,y4.2.1.1.2.2.2.2.1,y4.2.1.1.2.2.2.2.2.1,y4.2.1.1.2.2.2.2.2.2.1,y4.2.1.1.2.2.2.2.2.2.2.1,y4.2.1.1.2.2.2.2.2.2.2.2.1,y4.2.2.2.1,y4.2.1.1.2.2.2.2.2.2.2.2.2.2.1,y4.2.1.1.2.2.2.2.2.2.2.2.2.2.2.1,y4.2.1.1.2.2.2.2.2.2.2.2.2.2.2.2.1),())))
theorem y1d (x:InD ydO):zjw ⟨yq6,38,yEL⟩ Tryz.f202.results.toList yj4 ydO ykV x=ymo x.1:=by kernel_rfl
theorem yVo:ConOk Tryz.prog 202 ⟨ydO,ykV,fun x=>ymo x.1⟩:=zj1 (yRz) Tryz.func202 (by kernel_rfl) (by kernel_rfl) Tryz.ntmps202.symm (by decide) (fun x r h=>(y1d x).trans h)
def ylq (a0:dA):Bool×dA:=(!(ye (yz a0)),yz a0)
def yg0 (a0:dA):Bool:= !(ye a0)
theorem yYK (a0:dA) (hk:zi1 ydO (a0,())) (hq:yg0 a0=true):ymo a0=(fun n=>some ((n.1,()),(n.2,()))) (ylq a0):=by
 have hb:a0.2.2.1.length * 80≤2 ^ 47:=hk.1.2.2.1.1
 have h1:ysE (yP4 a0.2.2.1.length a0)=some (bif ye (yz a0) then .inr (yqP false (yz a0)) else .inl (yqN (yz a0))):=by
  have:=zj7 (step:=ybV) a0.2.2.1.length (fun i s=>yjz a0.2.2.1.length i s) (fun i s=>bif ye (yM s i) then (.inr (yM s i):dA ⊕ dA) else .inl (yM s i)) (fun _ s=>s.2.2.1.length=a0.2.2.1.length∧ye s=false) id
   (fun b=>bif ye b then .inr (yqP false b) else .inl (yqN b)) (fun i s hi hs=>by
    constructor
    ·rw [yaaa hs.2]
     simp only [ybV,yjz,yqU,hs.1,zj4 (show (i:Int) < a0.2.2.1.length by omega),cond_true,wr (show -9223372036854775808≤(i:Int)+1 by omega) (by omega),Int.natCast_add,Int.natCast_one,Int.toNat_natCast,zkl hi,zkr,y2x hs.2,yaT,ylr]
     cases hf:(nth s.2.2.1 i noMem).2.2.1
     ·cases ho:(opA s).1
      ·have e:yM s i=(opA s).2:=by unfold yM; rw [hf,ho]; rfl
       have d:ye (opA s).2=true:=by rw [y6Z hs.2,ho]; rfl
       rw [e]
       simp only [Bool.not_false,Bool.and_self,cond_true,cond_false,d,yaT,yqP]
      ·have e:yM s i=setMem (opA s).2 i (yfC (nth s.2.2.1 i noMem)):=by unfold yM; rw [hf,ho]; rfl
       rw [e]
       simp only [Bool.not_true,Bool.not_false,Bool.and_false,cond_true,cond_false,yjz,setMem,yaT,Int.toNat_natCast]
     ·have e:yM s i=s:=by unfold yM; rw [hf]; rfl
      rw [e]; rfl
    ·intro s' h
     cases hd:ye (yM s i)
     ·rw [hd]at h
      cases h
      exact ⟨(yqt s i).trans hs.1,hd⟩
     ·rw [hd]at h; cases h) (fun s hs=>by simp only [ybV,yjz,yqU,hs.2,zkx (Int.le_refl _),cond_false,id,yqN]) a0 ⟨rfl,by simpa [yg0] using hq⟩ 18446744073709551616 (by omega)
  rw [yId (fun a i h=>yTk i h),← List.range_eq_range'] at this
  exact this
 unfold ymo ylq
 rw [h1]
 cases hd:ye (yz a0)<;>rfl
def ygZ (a0:dA):Option (ResD ykV×MutD ydO):=bif yg0 a0 then (fun n=>some ((n.1,()),(n.2,()))) (ylq a0) else none
theorem yxM (a0:dA) (h:yg0 a0=true):ygZ a0=(fun n=>some ((n.1,()),(n.2,()))) (ylq a0):=by unfold ygZ; rw [h]; rfl
def ymf:Con:=⟨ydO,ykV,fun x=>ygZ x.1⟩
theorem yxI:ConOk Tryz.prog 202 ymf:=(yVo).mono (fun x r hk h=>zks h (fun hq=>yYK x.1 hk hq))
end
section
def yj3:Code:=(Tryz.f101.body).getD .skip
def yq5:Env:=zj2 TT [(107,ylm),(128,yHv),(201,yFv),(202,ymf)] []
theorem yRw:FrOk Tryz.prog ⟨yq5,37,fun _=>none⟩ yj3:=zj6 yc yd ⟨yvx,y3Z,yZK,yxI,trivial⟩
def yEI:Nat→Option Seg:=fun _=>none
def ybv:Shape:=⟨[(0,false,[.ptr 1000000000 0]),(15,false,[.int .i64]),(16,false,[.int .i64])],[(1000000000,[.int .i64,.int .i64,.int .i64,.at 800000000,.int .i64,.int .i64,.int .i64,.int .i64,.int .i64,.at 800000001,.int .i64,.bool,.bool])],[(800000000,tM,(.pr (.ow (.ow .fz)) (.pr (.ow (.pr .fz (.ow .fz))) (.pr .fz (.ow .fz))))),(800000001,tW,(.pr .fz (.ow .fz)))]⟩
def ygc:Shape:=⟨[(0,false,[.ptr 1000000000 0]),(15,false,[.int .i64]),(16,false,[.ci .i64 0])],[(1000000000,[.int .i64,.int .i64,.int .i64,.at 800000000,.int .i64,.int .i64,.int .i64,.int .i64,.int .i64,.at 800000001,.int .i64,.bool,.bool])],[(800000000,tM,(.pr (.ow (.ow .fz)) (.pr (.ow (.pr .fz (.ow .fz))) (.pr .fz (.ow .fz))))),(800000001,tW,(.pr .fz (.ow .fz)))]⟩
def yf1:Shape:=⟨[(0,false,[.ptr 1000000000 0])],[(1000000000,[.int .i64,.int .i64,.int .i64,.at 800000000,.int .i64,.int .i64,.int .i64,.int .i64,.int .i64,.at 800000001,.int .i64,.bool,.bool])],[(800000000,tM,(.pr (.ow (.ow .fz)) (.pr (.ow (.pr .fz (.ow .fz))) (.pr .fz (.ow .fz))))),(800000001,tW,(.pr .fz (.ow .fz)))]⟩
def ygn:Shape:=⟨[(2,false,[.bool])],[(1000000000,[.int .i64,.int .i64,.int .i64,.at 800000000,.int .i64,.int .i64,.int .i64,.int .i64,.int .i64,.at 800000001,.int .i64,.bool,.bool])],[(800000000,tM,(.pr (.ow (.ow .fz)) (.pr (.ow (.pr .fz (.ow .fz))) (.pr .fz (.ow .fz))))),(800000001,tW,(.pr .fz (.ow .fz)))]⟩
abbrev yqE (v0 v1:Int) (v2:dA):(ybv).X:=((((),()),(v0,()),(v1,()),()),((v2.1,v2.2.1.1,v2.2.1.2,(),v2.2.2.2.1,v2.2.2.2.2.1,v2.2.2.2.2.2.1,v2.2.2.2.2.2.2.1,v2.2.2.2.2.2.2.2.1,(),v2.2.2.2.2.2.2.2.2.2.1,v2.2.2.2.2.2.2.2.2.2.2.1,v2.2.2.2.2.2.2.2.2.2.2.2,()),()),(v2.2.2.1,v2.2.2.2.2.2.2.2.2.1,()))
abbrev yP3 (v0:Int) (v1:dA):(ygc).X:=((((),()),(v0,()),((),()),()),((v1.1,v1.2.1.1,v1.2.1.2,(),v1.2.2.2.1,v1.2.2.2.2.1,v1.2.2.2.2.2.1,v1.2.2.2.2.2.2.1,v1.2.2.2.2.2.2.2.1,(),v1.2.2.2.2.2.2.2.2.2.1,v1.2.2.2.2.2.2.2.2.2.2.1,v1.2.2.2.2.2.2.2.2.2.2.2,()),()),(v1.2.2.1,v1.2.2.2.2.2.2.2.2.1,()))
abbrev yqM (v0:dA):(yf1).X:=((((),()),()),((v0.1,v0.2.1.1,v0.2.1.2,(),v0.2.2.2.1,v0.2.2.2.2.1,v0.2.2.2.2.2.1,v0.2.2.2.2.2.2.1,v0.2.2.2.2.2.2.2.1,(),v0.2.2.2.2.2.2.2.2.2.1,v0.2.2.2.2.2.2.2.2.2.2.1,v0.2.2.2.2.2.2.2.2.2.2.2,()),()),(v0.2.2.1,v0.2.2.2.2.2.2.2.2.1,()))
abbrev yqO (v0:Bool) (v1:dA):(ygn).X:=(((v0,()),()),((v1.1,v1.2.1.1,v1.2.1.2,(),v1.2.2.2.1,v1.2.2.2.2.1,v1.2.2.2.2.2.1,v1.2.2.2.2.2.2.1,v1.2.2.2.2.2.2.2.1,(),v1.2.2.2.2.2.2.2.2.2.1,v1.2.2.2.2.2.2.2.2.2.2.1,v1.2.2.2.2.2.2.2.2.2.2.2,()),()),(v1.2.2.1,v1.2.2.2.2.2.2.2.2.1,()))
def yqT (v0 v1 v2 v3 v4 v5 v6 v7 v8 v9 v10:Int) (v11 v12:Bool) (v13:List dM) (v14:List dW):Option ((ybv).X ⊕ ((yf1).X ⊕ (ygn).X)) :=
 bif (ltb v1 v0) then
 let r4:=yuw (v2,(v3,v4),v13,v5,v6,v7,v8,v9,v14,v10,v11,v12) v1
 let r5:=ylu r4
 bnd (yfI (v2,(v3,v4),v13,v5,v6,v7,v8,v9,v14,v10,v11,v12) v1 (v9.tmod 2) r5) fun r6 =>
 bif (!r6.1.1) then
 some (.inr (.inr (((false,()),()),((r6.2.1.1,r6.2.1.2.1.1,r6.2.1.2.1.2,(),r6.2.1.2.2.2.1,r6.2.1.2.2.2.2.1,r6.2.1.2.2.2.2.2.1,r6.2.1.2.2.2.2.2.2.1,r6.2.1.2.2.2.2.2.2.2.1,(),r6.2.1.2.2.2.2.2.2.2.2.2.1,r6.2.1.2.2.2.2.2.2.2.2.2.2.1,r6.2.1.2.2.2.2.2.2.2.2.2.2.2,()),()),(r6.2.1.2.2.1,r6.2.1.2.2.2.2.2.2.2.2.1,()))))
 else
 some (.inl ((((),()),(v0,()),((IntKind.i64.wrap (v1+1)),()),()),((r6.2.1.1,r6.2.1.2.1.1,r6.2.1.2.1.2,(),r6.2.1.2.2.2.1,r6.2.1.2.2.2.2.1,r6.2.1.2.2.2.2.2.1,r6.2.1.2.2.2.2.2.2.1,r6.2.1.2.2.2.2.2.2.2.1,(),r6.2.1.2.2.2.2.2.2.2.2.2.1,r6.2.1.2.2.2.2.2.2.2.2.2.2.1,r6.2.1.2.2.2.2.2.2.2.2.2.2.2,()),()),(r6.2.1.2.2.1,r6.2.1.2.2.2.2.2.2.2.2.1,())))
 else
 some (.inr (.inl ((((),()),()),((v2,v3,v4,(),v5,v6,v7,v8,v9,(),v10,v11,v12,()),()),(v13,v14,()))))
def ybU (x:(ybv).X):=yqT x.1.2.1.1 x.1.2.2.1.1 x.2.1.1.1 x.2.1.1.2.1 x.2.1.1.2.2.1 x.2.1.1.2.2.2.2.1 x.2.1.1.2.2.2.2.2.1 x.2.1.1.2.2.2.2.2.2.1 x.2.1.1.2.2.2.2.2.2.2.1 x.2.1.1.2.2.2.2.2.2.2.2.1 x.2.1.1.2.2.2.2.2.2.2.2.2.2.1 x.2.1.1.2.2.2.2.2.2.2.2.2.2.2.1 x.2.1.1.2.2.2.2.2.2.2.2.2.2.2.2.1 x.2.2.1 x.2.2.2.1
def yA7 (x:(ygc).X):(ybv).X:=((((),()),(x.1.2.1.1,()),(0,()),()),((x.2.1.1.1,x.2.1.1.2.1,x.2.1.1.2.2.1,(),x.2.1.1.2.2.2.2.1,x.2.1.1.2.2.2.2.2.1,x.2.1.1.2.2.2.2.2.2.1,x.2.1.1.2.2.2.2.2.2.2.1,x.2.1.1.2.2.2.2.2.2.2.2.1,(),x.2.1.1.2.2.2.2.2.2.2.2.2.2.1,x.2.1.1.2.2.2.2.2.2.2.2.2.2.2.1,x.2.1.1.2.2.2.2.2.2.2.2.2.2.2.2.1,()),()),(x.2.2.1,x.2.2.2.1,()))
def yCZ:Code:=(zdD yj3 64 116).getD .skip
theorem yQ7:zdD yj3 64 29=some (.block 0 (.loop yCZ)):=by kernel_rfl
theorem yS5 (x:(ybv).X):zg0 ⟨yq5,37,yEI⟩ 0 yCZ 116 ybv yf1 ygn x=ybU x:=by kernel_rfl
def yBj (x:(ygc).X):Nat:=18446744073709551616
def ysD (x:(ygc).X):Option ((yf1).X ⊕ (ygn).X):=zz ybU (yBj x) (yA7 x)
def yBB:Seg:=⟨ygc,yf1,ygn,ysD⟩
def yEJ:Nat→Option Seg:=fun q=>bif Nat.beq q 29 then some yBB else yEI q
theorem yRx:FrOk Tryz.prog ⟨yq5,37,yEJ⟩ yj3:=(yRw).loop (sg:=yBB) ybv yA7 (by decide) yQ7 ybU yBj (by decide) (fun _=>rfl) (fun x r _ h=>h) yS5
abbrev ydN:List Par:= [.pt tA (.pr .fz (.pr (.pr .fz .fz) (.pr (.ow (.pr (.ow (.ow .fz)) (.pr (.ow (.pr .fz (.ow .fz))) (.pr .fz (.ow .fz))))) (.pr .fz (.pr .fz (.pr .fz (.pr .fz (.pr .fz (.pr (.ow (.pr .fz (.ow .fz))) (.pr .fz (.pr .fz .fz)))))))))))]
abbrev ykU:List OT:= [⟨false,tB,.fz⟩]
def ymn (a0:dA):Option (ResD ykU×MutD ydN) :=
 zjY (ysD ((((),()),((a0.2.2.1.length:Int),()),((),()),()),((a0.1,a0.2.1.1,a0.2.1.2,(),a0.2.2.2.1,a0.2.2.2.2.1,a0.2.2.2.2.2.1,a0.2.2.2.2.2.2.1,(IntKind.i64.wrap (a0.2.2.2.2.2.2.2.1+1)),(),a0.2.2.2.2.2.2.2.2.2.1,a0.2.2.2.2.2.2.2.2.2.2.1,a0.2.2.2.2.2.2.2.2.2.2.2,()),()),(a0.2.2.1,a0.2.2.2.2.2.2.2.2.1,()))) (fun y6 =>
 bnd (ygZ (y6.2.1.1.1,(y6.2.1.1.2.1,y6.2.1.1.2.2.1),y6.2.2.1,y6.2.1.1.2.2.2.2.1,y6.2.1.1.2.2.2.2.2.1,y6.2.1.1.2.2.2.2.2.2.1,y6.2.1.1.2.2.2.2.2.2.2.1,y6.2.1.1.2.2.2.2.2.2.2.2.1,y6.2.2.2.1,y6.2.1.1.2.2.2.2.2.2.2.2.2.2.1,y6.2.1.1.2.2.2.2.2.2.2.2.2.2.2.1,y6.2.1.1.2.2.2.2.2.2.2.2.2.2.2.2.1)) fun r8 =>
 some ((r8.1.1,()),(r8.2.1,()))) (fun y6 =>
 some ((y6.1.1.1,()),((y6.2.1.1.1,(y6.2.1.1.2.1,y6.2.1.1.2.2.1),y6.2.2.1,y6.2.1.1.2.2.2.2.1,y6.2.1.1.2.2.2.2.2.1,y6.2.1.1.2.2.2.2.2.2.1,y6.2.1.1.2.2.2.2.2.2.2.1,y6.2.1.1.2.2.2.2.2.2.2.2.1,y6.2.2.2.1,y6.2.1.1.2.2.2.2.2.2.2.2.2.2.1,y6.2.1.1.2.2.2.2.2.2.2.2.2.2.2.1,y6.2.1.1.2.2.2.2.2.2.2.2.2.2.2.2.1),())))
theorem y1c (x:InD ydN):zjw ⟨yq5,37,yEJ⟩ Tryz.f101.results.toList yj3 ydN ykU x=ymn x.1:=by kernel_rfl
theorem yVn:ConOk Tryz.prog 101 ⟨ydN,ykU,fun x=>ymn x.1⟩:=zj1 (yRx) Tryz.func101 (by kernel_rfl) (by kernel_rfl) Tryz.ntmps101.symm (by decide) (fun x r h=>(y1c x).trans h)
def yrZ (a0:dA):Bool×dA:=(!(ye (markA a0)),markA a0)
def ylD (a0:dA):Bool:= !(ye a0)
theorem y9S {a:dA} (i:Nat) (h:ye a=true):yaS a i=a:=yZ0 h _ _ _
theorem yYJ (a0:dA) (hk:zi1 ydN (a0,())) (hq:ylD a0=true):ymn a0=(fun n=>some ((n.1,()),(n.2,()))) (yrZ a0):=by
 have hb:a0.2.2.1.length * 80≤2 ^ 47:=hk.1.2.2.1.1
 have hd0:ye a0=false:=by simpa [ylD] using hq
 have h1:ysD (yP3 a0.2.2.1.length (ygV a0))=some (bif ye ((List.range a0.2.2.1.length).foldl yaS (ygV a0)) then .inr (yqO false ((List.range a0.2.2.1.length).foldl yaS (ygV a0))) else .inl (yqM ((List.range a0.2.2.1.length).foldl yaS (ygV a0)))):=by
  have:=zj7 (step:=ybU) a0.2.2.1.length (fun i s=>yqE a0.2.2.1.length i s) (fun i s=>bif ye (yaS s i) then (.inr (yaS s i):dA ⊕ dA) else .inl (yaS s i)) (fun _ s=>s.2.2.1.length=a0.2.2.1.length∧ye s=false) id
   (fun b=>bif ye b then .inr (yqO false b) else .inl (yqM b)) (fun i s hi hs=>by
    constructor
    ·simp only [ybU,yqE,yqT,zj4 (show (i:Int) < a0.2.2.1.length by omega),cond_true,wr (show -9223372036854775808≤(i:Int)+1 by omega) (by omega),Int.natCast_add,Int.natCast_one,Int.toNat_natCast,zkr,yaao,yuw]
     rw [yvz s i (s.2.2.2.2.2.2.2.1.tmod 2) (yJ (s.1,s.2.2.2.2.2.2.2.1,(i:Int),s.2.1.1,s.2.1.2,s.2.2.2.2.2.2.1,s.2.2.2.1,s.2.2.2.2.1)) (by unfold yde; rw [zkl (by rw [hs.1]; exact hi),hs.2]; rfl)]
     simp only [zkc,ydc]
     rw [show ydM s i (s.2.2.2.2.2.2.2.1.tmod 2) (yJ (s.1,s.2.2.2.2.2.2.2.1,(i:Int),s.2.1.1,s.2.1.2,s.2.2.2.2.2.2.1,s.2.2.2.1,s.2.2.2.2.1))=yaS s i from rfl]
     cases hd:ye (yaS s i)
     ·rfl
     ·simp only [hd,Bool.not_true,Bool.not_false,cond_true,yqO]
    ·intro s' h
     cases hd:ye (yaS s i)
     ·rw [hd]at h
      cases h
      exact ⟨(yWt s i).trans hs.1,hd⟩
     ·rw [hd]at h; cases h) (fun s hs=>by simp only [ybU,yqE,yqT,hs.2,zkx (Int.le_refl _),cond_false,id,yqM]) (ygV a0) ⟨rfl,hd0⟩ 18446744073709551616 (by omega)
  rw [yId (fun a i h=>y9S i h),← List.range_eq_range'] at this
  exact this
 unfold ymn yrZ markA
 refine (congrArg (fun z=>zjY z _ _) h1).trans ?_
 cases hd:ye ((List.range a0.2.2.1.length).foldl yaS (ygV a0))
 ·simp only [cond_false,zkh,zkr]
  rw [yxM _ (by unfold yg0; rw [hd]; rfl)]; rfl
 ·rw [y7B hd]
  simp only [cond_true,zki,zkr]
  rw [hd]; rfl
def ylB (a0:dA):Option (ResD ykU×MutD ydN):=bif ylD a0 then (fun n=>some ((n.1,()),(n.2,()))) (yrZ a0) else none
theorem yZW (a0:dA) (h:ylD a0=true):ylB a0=(fun n=>some ((n.1,()),(n.2,()))) (yrZ a0):=by unfold ylB; rw [h]; rfl
def yFr:Con:=⟨ydN,ykU,fun x=>ylB x.1⟩
theorem yZG:ConOk Tryz.prog 101 yFr:=(yVn).mono (fun x r hk h=>zks h (fun hq=>yYJ x.1 hk hq))
end
section
def yGB:Code:=(Tryz.f111.body).getD .skip
def yG8:Env:=zj2 TT [(101,yFr),(202,ymf)] []
theorem yPM:FrOk Tryz.prog ⟨yG8,15,fun _=>none⟩ yGB:=zj6 yc yd ⟨yZG,yxI,trivial⟩
def yQP:Nat→Option Seg:=fun _=>none
abbrev ycV:List Par:= [.pt tA (.pr .fz (.pr (.pr .fz .fz) (.pr (.ow (.pr (.ow (.ow .fz)) (.pr (.ow (.pr .fz (.ow .fz))) (.pr .fz (.ow .fz))))) (.pr .fz (.pr .fz (.pr .fz (.pr .fz (.pr .fz (.pr (.ow (.pr .fz (.ow .fz))) (.pr .fz (.pr .fz .fz)))))))))))]
abbrev yi6:List OT:= [⟨false,tB,.fz⟩]
def ylG (a0:dA):Option (ResD yi6×MutD ycV) :=
 bnd (ygZ a0) fun r1 =>
 bif (!r1.1.1) then
 some ((false,()),(r1.2.1,()))
 else
 bnd (ylB (r1.2.1.1,r1.2.1.2.1,r1.2.1.2.2.1,r1.2.1.2.2.2.1,r1.2.1.2.2.2.2.1,r1.2.1.2.2.2.2.2.1,r1.2.1.2.2.2.2.2.1,r1.2.1.2.2.2.2.2.2.2)) fun r2 =>
 some ((r2.1.1,()),(r2.2.1,()))
theorem yW4 (x:InD ycV):zjw ⟨yG8,15,yQP⟩ Tryz.f111.results.toList yGB ycV yi6 x=ylG x.1:=by kernel_rfl
theorem ySN:ConOk Tryz.prog 111 ⟨ycV,yi6,fun x=>ylG x.1⟩:=zj1 (yPM) Tryz.func111 (by kernel_rfl) (by kernel_rfl) Tryz.ntmps111.symm (by decide) (fun x r h=>(yW4 x).trans h)
def yoQ (a0:dA):Bool×dA:=(!(ye (checkA a0)),checkA a0)
def yoU (a0:dA):Bool:= !(ye a0)
theorem yVg (a0:dA) (hk:zi1 ycV (a0,())) (hq:yoU a0=true):ylG a0=(fun n=>some ((n.1,()),(n.2,()))) (yoQ a0):=by
 unfold ylG yoQ checkA
 rw [yxM a0 hq]
 simp only [zkc,ylq]
 cases hd:ye (yz a0)
 ·have hm:ylB (ycR (yz a0))=some ((!(ye (markA (ycR (yz a0)))),()),(markA (ycR (yz a0)),())):=yZW (ycR (yz a0)) (by unfold ylD; rw [show ye (ycR (yz a0))=ye (yz a0) from rfl,hd]; rfl)
  exact (congrArg (fun z=>bnd z _) hm).trans rfl
 ·simp only [Bool.not_true,Bool.not_false,cond_true]
  rw [hd]; rfl
def yoS (a0:dA):Option (ResD yi6×MutD ycV):=bif yoU a0 then (fun n=>some ((n.1,()),(n.2,()))) (yoQ a0) else none
theorem yVY (a0:dA) (h:yoU a0=true):yoS a0=(fun n=>some ((n.1,()),(n.2,()))) (yoQ a0):=by unfold yoS; rw [h]; rfl
def yDb:Con:=⟨ycV,yi6,fun x=>yoS x.1⟩
theorem yVS:ConOk Tryz.prog 111 yDb:=(ySN).mono (fun x r hk h=>zks h (fun hq=>yVg x.1 hk hq))
end
section
def yJc:Code:=(Tryz.f163.body).getD .skip
def yJX:Env:=zj2 TT [(45,yur)] []
theorem yRN:FrOk Tryz.prog ⟨yJX,15,fun _=>none⟩ yJc:=zj6 yc yd ⟨yEt,trivial⟩
def yTy:Nat→Option Seg:=fun _=>none
abbrev ykj:List Par:= [.rd tA]
abbrev yrr:List OT:= [⟨false,tB,.fz⟩]
def yvB (a0:dA):Option (ResD yrr×MutD ykj) :=
 let r1:=ybI a0
 bif r1 then
 bif (!a0.2.2.2.2.2.2.2.2.2.2.1) then
 some (((ltb a0.2.2.2.2.2.2.2.1 60000),()),())
 else
 some ((false,()),())
 else
 some ((false,()),())
theorem y1n (x:InD ykj):zjw ⟨yJX,15,yTy⟩ Tryz.f163.results.toList yJc ykj yrr x=yvB x.1:=by kernel_rfl
theorem yVy:ConOk Tryz.prog 163 ⟨ykj,yrr,fun x=>yvB x.1⟩:=zj1 (yRN) Tryz.func163 (by kernel_rfl) (by kernel_rfl) Tryz.ntmps163.symm (by decide) (fun x r h=>(y1n x).trans h)
def yeh (a0:dA):Bool :=
 let r1:=ybI a0
 bif r1 then
 bif (!a0.2.2.2.2.2.2.2.2.2.2.1) then
 (ltb a0.2.2.2.2.2.2.2.1 60000)
 else
 false
 else
 false
def yFx:Con:=⟨ykj,yrr,fun x=>(fun n=>some ((n,()),())) (yeh x.1)⟩
theorem yYU (a0:dA):yvB a0=(fun n=>some ((n,()),())) (yeh a0):=zkp (p:=fun (n:Bool)=>((n,()),())) (zkb (p:=fun (n:Bool)=>((n,()),())) (zkb (p:=fun (n:Bool)=>((n,()),())) rfl rfl) rfl)
theorem yZM:ConOk Tryz.prog 163 yFx:=(yVy).mono (fun x r _ h=>(yYU x.1).trans h)
end
section
def yOl:Code:=(Tryz.f240.body).getD .skip
def yOW:Env:=zj2 TT [(237,yBX)] []
theorem yXi:FrOk Tryz.prog ⟨yOW,17,fun _=>none⟩ yOl:=zj6 yc yd ⟨yPo,trivial⟩
def y0o:Nat→Option Seg:=fun _=>none
abbrev yjJ:List Par:= [.rd tN]
abbrev ywk:List OT:= [⟨false,tL,(.ow .fz)⟩]
def yr8 (a0:dN):Option (ResD ywk×MutD yjJ) :=
 let r1:=ynN a0
 bif (!r1) then
 some (([],()),())
 else
 bif (zjQ ([21322,a0.1,a0.2.1,(a0.2.2.length:Int)]:List Int).length a0.2.2.length 8) then
 some (((([21322,a0.1,a0.2.1,(a0.2.2.length:Int)]:List Int)++a0.2.2),()),())
 else none
theorem y7Q (x:InD yjJ):zjw ⟨yOW,17,y0o⟩ Tryz.f240.results.toList yOl yjJ ywk x=yr8 x.1:=by kernel_rfl
theorem y3h:ConOk Tryz.prog 240 ⟨yjJ,ywk,fun x=>yr8 x.1⟩:=zj1 (yXi) Tryz.func240 (by kernel_rfl) (by kernel_rfl) Tryz.ntmps240.symm (by decide) (fun x r h=>(y7Q x).trans h)
def yp9 (a0:dN):List Int:=ytu a0
theorem y5J (a0:dN) (hk:zi1 yjJ (a0,())):yr8 a0=(fun n=>some ((n,()),())) (yp9 a0):=by
 unfold yr8 yp9 ytu
 simp only [yWq]
 cases hr:yB a0
 ·rfl
 ·have:=(yTh.1 hr).2.2.1
  rw [zka.2 (show (([21322,a0.1,a0.2.1,(a0.2.2.length:Int)]:List Int).length+a0.2.2.length) * 8≤140737488355328 by simp only [List.length_cons,List.length_nil]; omega)]; rfl
def yKw:Con:=⟨yjJ,ywk,fun x=>(fun n=>some ((n,()),())) (yp9 x.1)⟩
theorem y6J:ConOk Tryz.prog 240 yKw:=(y3h).mono (fun x r hk h=>(y5J x.1 hk).trans h)
end
section
def yhe:Code:=(Tryz.f164.body).getD .skip
def ylV:Env:=zj2 TT [(107,ylm),(157,yzp),(202,ymf),(240,yKw)] []
theorem yNA:FrOk Tryz.prog ⟨ylV,26,fun _=>none⟩ yhe:=zj6 yc yd ⟨yvx,yM8,yxI,y6J,trivial⟩
def yAQ:Nat→Option Seg:=fun _=>none
def yaE:Shape:=⟨[(0,false,[.ptr 1000000000 0]),(3,false,[.ptr 0 0]),(10,false,[.int .i64]),(11,false,[.int .i64])],[(0,[.int .i64,.int .i64,.br tI]),(1000000000,[.int .i64,.int .i64,.int .i64,.at 800000000,.int .i64,.int .i64,.int .i64,.int .i64,.int .i64,.at 800000001,.int .i64,.bool,.bool])],[(800000000,tM,(.pr (.ow (.ow .fz)) (.pr (.ow (.pr .fz (.ow .fz))) (.pr .fz (.ow .fz))))),(800000001,tW,(.pr .fz (.ow .fz)))]⟩
def yd8:Shape:=⟨[(0,false,[.ptr 1000000000 0]),(3,false,[.ptr 0 0]),(10,false,[.int .i64]),(11,false,[.ci .i64 0])],[(0,[.int .i64,.int .i64,.br tI]),(1000000000,[.int .i64,.int .i64,.int .i64,.at 800000000,.int .i64,.int .i64,.int .i64,.int .i64,.int .i64,.at 800000001,.int .i64,.bool,.bool])],[(800000000,tM,(.pr (.ow (.ow .fz)) (.pr (.ow (.pr .fz (.ow .fz))) (.pr .fz (.ow .fz))))),(800000001,tW,(.pr .fz (.ow .fz)))]⟩
def yd6:Shape:=⟨[(0,false,[.ptr 1000000000 0])],[(1000000000,[.int .i64,.int .i64,.int .i64,.at 800000000,.int .i64,.int .i64,.int .i64,.int .i64,.int .i64,.at 800000001,.int .i64,.bool,.bool])],[(800000000,tM,(.pr (.ow (.ow .fz)) (.pr (.ow (.pr .fz (.ow .fz))) (.pr .fz (.ow .fz))))),(800000001,tW,(.pr .fz (.ow .fz)))]⟩
def yeb:Shape:=⟨[(4,false,[.bool])],[(1000000000,[.int .i64,.int .i64,.int .i64,.at 800000000,.int .i64,.int .i64,.int .i64,.int .i64,.int .i64,.at 800000001,.int .i64,.bool,.bool])],[(800000000,tM,(.pr (.ow (.ow .fz)) (.pr (.ow (.pr .fz (.ow .fz))) (.pr .fz (.ow .fz))))),(800000001,tW,(.pr .fz (.ow .fz)))]⟩
abbrev ynH (v0 v1:Int) (v2:dN) (v3:dA):(yaE).X:=((((),()),((),()),(v0,()),(v1,()),()),((v2.1,v2.2.1,v2.2.2,()),(v3.1,v3.2.1.1,v3.2.1.2,(),v3.2.2.2.1,v3.2.2.2.2.1,v3.2.2.2.2.2.1,v3.2.2.2.2.2.2.1,v3.2.2.2.2.2.2.2.1,(),v3.2.2.2.2.2.2.2.2.2.1,v3.2.2.2.2.2.2.2.2.2.2.1,v3.2.2.2.2.2.2.2.2.2.2.2,()),()),(v3.2.2.1,v3.2.2.2.2.2.2.2.2.1,()))
abbrev yMZ (v0:Int) (v1:dN) (v2:dA):(yd8).X:=((((),()),((),()),(v0,()),((),()),()),((v1.1,v1.2.1,v1.2.2,()),(v2.1,v2.2.1.1,v2.2.1.2,(),v2.2.2.2.1,v2.2.2.2.2.1,v2.2.2.2.2.2.1,v2.2.2.2.2.2.2.1,v2.2.2.2.2.2.2.2.1,(),v2.2.2.2.2.2.2.2.2.2.1,v2.2.2.2.2.2.2.2.2.2.2.1,v2.2.2.2.2.2.2.2.2.2.2.2,()),()),(v2.2.2.1,v2.2.2.2.2.2.2.2.2.1,()))
abbrev ynJ (v0:dA):(yd6).X:=((((),()),()),((v0.1,v0.2.1.1,v0.2.1.2,(),v0.2.2.2.1,v0.2.2.2.2.1,v0.2.2.2.2.2.1,v0.2.2.2.2.2.2.1,v0.2.2.2.2.2.2.2.1,(),v0.2.2.2.2.2.2.2.2.2.1,v0.2.2.2.2.2.2.2.2.2.2.1,v0.2.2.2.2.2.2.2.2.2.2.2,()),()),(v0.2.2.1,v0.2.2.2.2.2.2.2.2.1,()))
abbrev ynL (v0:Bool) (v1:dA):(yeb).X:=(((v0,()),()),((v1.1,v1.2.1.1,v1.2.1.2,(),v1.2.2.2.1,v1.2.2.2.2.1,v1.2.2.2.2.2.1,v1.2.2.2.2.2.2.1,v1.2.2.2.2.2.2.2.1,(),v1.2.2.2.2.2.2.2.2.2.1,v1.2.2.2.2.2.2.2.2.2.2.1,v1.2.2.2.2.2.2.2.2.2.2.2,()),()),(v1.2.2.1,v1.2.2.2.2.2.2.2.2.1,()))
def yn8 (v0 v1 v2 v3:Int) (v4:List Int) (v5 v6 v7 v8 v9 v10 v11 v12 v13:Int) (v14 v15:Bool) (v16:List dM) (v17:List dW):Option ((yaE).X ⊕ ((yd6).X ⊕ (yeb).X)) :=
 bif (ltb v1 v0) then
 let r4:=yqa v2
 let r5:=yp9 (v2,v3,v4)
 bnd (yfI (v5,(v6,v7),v16,v8,v9,v10,v11,v12,v17,v13,v14,v15) v1 r4 r5) fun r6 =>
 bif (!r6.1.1) then
 some (.inr (.inr (((false,()),()),((r6.2.1.1,r6.2.1.2.1.1,r6.2.1.2.1.2,(),r6.2.1.2.2.2.1,r6.2.1.2.2.2.2.1,r6.2.1.2.2.2.2.2.1,r6.2.1.2.2.2.2.2.2.1,r6.2.1.2.2.2.2.2.2.2.1,(),r6.2.1.2.2.2.2.2.2.2.2.2.1,r6.2.1.2.2.2.2.2.2.2.2.2.2.1,r6.2.1.2.2.2.2.2.2.2.2.2.2.2,()),()),(r6.2.1.2.2.1,r6.2.1.2.2.2.2.2.2.2.2.1,()))))
 else
 some (.inl ((((),()),((),()),(v0,()),((IntKind.i64.wrap (v1+1)),()),()),((v2,v3,v4,()),(r6.2.1.1,r6.2.1.2.1.1,r6.2.1.2.1.2,(),r6.2.1.2.2.2.1,r6.2.1.2.2.2.2.1,r6.2.1.2.2.2.2.2.1,r6.2.1.2.2.2.2.2.2.1,r6.2.1.2.2.2.2.2.2.2.1,(),r6.2.1.2.2.2.2.2.2.2.2.2.1,r6.2.1.2.2.2.2.2.2.2.2.2.2.1,r6.2.1.2.2.2.2.2.2.2.2.2.2.2,()),()),(r6.2.1.2.2.1,r6.2.1.2.2.2.2.2.2.2.2.1,())))
 else
 some (.inr (.inl ((((),()),()),((v5,v6,v7,(),v8,v9,v10,v11,v12,(),v13,v14,v15,()),()),(v16,v17,()))))
def yaU (x:(yaE).X):=yn8 x.1.2.2.1.1 x.1.2.2.2.1.1 x.2.1.1.1 x.2.1.1.2.1 x.2.1.1.2.2.1 x.2.1.2.1.1 x.2.1.2.1.2.1 x.2.1.2.1.2.2.1 x.2.1.2.1.2.2.2.2.1 x.2.1.2.1.2.2.2.2.2.1 x.2.1.2.1.2.2.2.2.2.2.1 x.2.1.2.1.2.2.2.2.2.2.2.1 x.2.1.2.1.2.2.2.2.2.2.2.2.1 x.2.1.2.1.2.2.2.2.2.2.2.2.2.2.1 x.2.1.2.1.2.2.2.2.2.2.2.2.2.2.2.1 x.2.1.2.1.2.2.2.2.2.2.2.2.2.2.2.2.1 x.2.2.1 x.2.2.2.1
def yyh (x:(yd8).X):(yaE).X:=((((),()),((),()),(x.1.2.2.1.1,()),(0,()),()),((x.2.1.1.1,x.2.1.1.2.1,x.2.1.1.2.2.1,()),(x.2.1.2.1.1,x.2.1.2.1.2.1,x.2.1.2.1.2.2.1,(),x.2.1.2.1.2.2.2.2.1,x.2.1.2.1.2.2.2.2.2.1,x.2.1.2.1.2.2.2.2.2.2.1,x.2.1.2.1.2.2.2.2.2.2.2.1,x.2.1.2.1.2.2.2.2.2.2.2.2.1,(),x.2.1.2.1.2.2.2.2.2.2.2.2.2.2.1,x.2.1.2.1.2.2.2.2.2.2.2.2.2.2.2.1,x.2.1.2.1.2.2.2.2.2.2.2.2.2.2.2.2.1,()),()),(x.2.2.1,x.2.2.2.1,()))
def yzk:Code:=(zdD yhe 64 52).getD .skip
theorem yNs:zdD yhe 64 13=some (.block 0 (.loop yzk)):=by kernel_rfl
theorem yN7 (x:(yaE).X):zg0 ⟨ylV,26,yAQ⟩ 0 yzk 52 yaE yd6 yeb x=yaU x:=by kernel_rfl
def yyk (x:(yd8).X):Nat:=18446744073709551616
def yoj (x:(yd8).X):Option ((yd6).X ⊕ (yeb).X):=zz yaU (yyk x) (yyh x)
def yyn:Seg:=⟨yd8,yd6,yeb,yoj⟩
def yAR:Nat→Option Seg:=fun q=>bif Nat.beq q 13 then some yyn else yAQ q
theorem yNB:FrOk Tryz.prog ⟨ylV,26,yAR⟩ yhe:=(yNA).loop (sg:=yyn) yaE yyh (by decide) yNs yaU yyk (by decide) (fun _=>rfl) (fun x r _ h=>h) yN7
abbrev yb6:List Par:= [.pt tA (.pr .fz (.pr (.pr .fz .fz) (.pr (.ow (.pr (.ow (.ow .fz)) (.pr (.ow (.pr .fz (.ow .fz))) (.pr .fz (.ow .fz))))) (.pr .fz (.pr .fz (.pr .fz (.pr .fz (.pr .fz (.pr (.ow (.pr .fz (.ow .fz))) (.pr .fz (.pr .fz .fz))))))))))),.rd tN]
abbrev yhN:List OT:= [⟨false,tB,.fz⟩]
def yjB (a0:dA) (a1:dN):Option (ResD yhN×MutD yb6) :=
 zjY (yoj ((((),()),((),()),((a0.2.2.1.length:Int),()),((),()),()),((a1.1,a1.2.1,a1.2.2,()),(a0.1,a0.2.1.1,a0.2.1.2,(),a0.2.2.2.1,a0.2.2.2.2.1,a0.2.2.2.2.2.1,a0.2.2.2.2.2.2.1,a0.2.2.2.2.2.2.2.1,(),a0.2.2.2.2.2.2.2.2.2.1,a0.2.2.2.2.2.2.2.2.2.2.1,a0.2.2.2.2.2.2.2.2.2.2.2,()),()),(a0.2.2.1,a0.2.2.2.2.2.2.2.2.1,()))) (fun y6 =>
 bnd (ygZ (y6.2.1.1.1,(y6.2.1.1.2.1,y6.2.1.1.2.2.1),y6.2.2.1,y6.2.1.1.2.2.2.2.1,y6.2.1.1.2.2.2.2.2.1,y6.2.1.1.2.2.2.2.2.2.1,y6.2.1.1.2.2.2.2.2.2.2.1,y6.2.1.1.2.2.2.2.2.2.2.2.1,y6.2.2.2.1,y6.2.1.1.2.2.2.2.2.2.2.2.2.2.1,y6.2.1.1.2.2.2.2.2.2.2.2.2.2.2.1,y6.2.1.1.2.2.2.2.2.2.2.2.2.2.2.2.1)) fun r8 =>
 some ((r8.1.1,()),(r8.2.1,()))) (fun y6 =>
 some ((y6.1.1.1,()),((y6.2.1.1.1,(y6.2.1.1.2.1,y6.2.1.1.2.2.1),y6.2.2.1,y6.2.1.1.2.2.2.2.1,y6.2.1.1.2.2.2.2.2.1,y6.2.1.1.2.2.2.2.2.2.1,y6.2.1.1.2.2.2.2.2.2.2.1,y6.2.1.1.2.2.2.2.2.2.2.2.1,y6.2.2.2.1,y6.2.1.1.2.2.2.2.2.2.2.2.2.2.1,y6.2.1.1.2.2.2.2.2.2.2.2.2.2.2.1,y6.2.1.1.2.2.2.2.2.2.2.2.2.2.2.2.1),())))
theorem yT2 (x:InD yb6):zjw ⟨ylV,26,yAR⟩ Tryz.f164.results.toList yhe yb6 yhN x=yjB x.1 x.2.1:=by kernel_rfl
theorem yQh:ConOk Tryz.prog 164 ⟨yb6,yhN,fun x=>yjB x.1 x.2.1⟩:=zj1 (yNB) Tryz.func164 (by kernel_rfl) (by kernel_rfl) Tryz.ntmps164.symm (by decide) (fun x r h=>(yT2 x).trans h)
def ymk (a0:dA) (a1:dN):Bool×dA:=(!(ye (ydg a0 a1)),ydg a0 a1)
def yhX (a0:dA) (a1:dN):Bool:= !(ye a0)
theorem ySJ (a0:dA) (a1:dN) (hk:zi1 yb6 (a0,a1,())) (hq:yhX a0 a1=true):yjB a0 a1=(fun n=>some ((n.1,()),(n.2,()))) (ymk a0 a1):=by
 have hb:a0.2.2.1.length * 80≤2 ^ 47:=hk.1.2.2.1.1
 have hd0:ye a0=false:=by simpa [yhX] using hq
 have h1:yoj (yMZ a0.2.2.1.length a1 a0)=some (bif ye ((List.range a0.2.2.1.length).foldl (yfg a1) a0) then .inr (ynL false ((List.range a0.2.2.1.length).foldl (yfg a1) a0)) else .inl (ynJ ((List.range a0.2.2.1.length).foldl (yfg a1) a0))):=by
  have:=zj7 (step:=yaU) a0.2.2.1.length (fun i s=>ynH a0.2.2.1.length i a1 s) (fun i s=>bif ye (yfg a1 s i) then (.inr (yfg a1 s i):dA ⊕ dA) else .inl (yfg a1 s i)) (fun _ s=>s.2.2.1.length=a0.2.2.1.length∧ye s=false) id
   (fun b=>bif ye b then .inr (ynL false b) else .inl (ynJ b)) (fun i s hi hs=>by
    constructor
    ·simp only [yaU,ynH,yn8,zj4 (show (i:Int) < a0.2.2.1.length by omega),cond_true,wr (show -9223372036854775808≤(i:Int)+1 by omega) (by omega),Int.natCast_add,Int.natCast_one,Int.toNat_natCast,zkr,ySe,yp9]
     rw [yvz s i (yl a1.1) (ytu a1) (by unfold yde; rw [zkl (by rw [hs.1]; exact hi),hs.2]; rfl)]
     simp only [zkc,ydc]
     rw [show ydM s i (yl a1.1) (ytu a1)=yfg a1 s i from rfl]
     cases hd:ye (yfg a1 s i)
     ·rfl
     ·simp only [hd,Bool.not_true,Bool.not_false,cond_true,ynL]
    ·intro s' h
     cases hd:ye (yfg a1 s i)
     ·rw [hd]at h
      cases h
      exact ⟨(yuQ a1 s i).trans hs.1,hd⟩
     ·rw [hd]at h; cases h) (fun s hs=>by simp only [yaU,ynH,yn8,hs.2,zkx (Int.le_refl _),cond_false,id,ynJ]) a0 ⟨rfl,hd0⟩ 18446744073709551616 (by omega)
  rw [yId (fun a i h=>yaax a1 i h),← List.range_eq_range'] at this
  exact this
 unfold yjB ymk ydg
 refine (congrArg (fun z=>zjY z _ _) h1).trans ?_
 cases hd:ye ((List.range a0.2.2.1.length).foldl (yfg a1) a0)
 ·simp only [cond_false,zkh,zkr]
  rw [yxM _ (by unfold yg0; rw [hd]; rfl)]; rfl
 ·rw [y7B hd]
  simp only [cond_true,zki,zkr]
  rw [hd]; rfl
def yhW (a0:dA) (a1:dN):Option (ResD yhN×MutD yb6):=bif yhX a0 a1 then (fun n=>some ((n.1,()),(n.2,()))) (ymk a0 a1) else none
theorem yS4 (a0:dA) (a1:dN) (h:yhX a0 a1=true):yhW a0 a1=(fun n=>some ((n.1,()),(n.2,()))) (ymk a0 a1):=by unfold yhW; rw [h]; rfl
def yA3:Con:=⟨yb6,yhN,fun x=>yhW x.1 x.2.1⟩
theorem ySW:ConOk Tryz.prog 164 yA3:=(yQh).mono (fun x r hk h=>zks h (fun hq=>ySJ x.1 x.2.1 hk hq))
end
section
def yOk:Code:=(Tryz.f47.body).getD .skip
def yOV:Env:=zj2 TT [(126,yF)] []
theorem yXh:FrOk Tryz.prog ⟨yOV,34,fun _=>none⟩ yOk:=zj6 yc yd ⟨yS,trivial⟩
def y0n:Nat→Option Seg:=fun _=>none
abbrev yjI:List Par:= [.rd tA,.rd tI,.rd tI]
abbrev ywj:List OT:= [⟨false,tB,.fz⟩]
def yr7 (a0:dA) (a1 a2:Int):Option (ResD ywj×MutD yjI) :=
 let r1:=yg a1 0 (IntKind.i64.wrap ((a0.2.2.1.length:Int) - 1))
 bif r1 then
 bif (inb a1 a0.2.2.1.length) then
 bif (!((((nth a0.2.2.1 a1 ([],[],false,[])).2).2).1)) then
 bif (!(a0.2.2.2.1 !=a1)) then
 some (((ltb a2 a0.2.2.2.2.1),()),())
 else
 some ((true,()),())
 else
 some ((false,()),())
 else none
 else
 some ((false,()),())
theorem y7P (x:InD yjI):zjw ⟨yOV,34,y0n⟩ Tryz.f47.results.toList yOk yjI ywj x=yr7 x.1 x.2.1 x.2.2.1:=by kernel_rfl
theorem y3g:ConOk Tryz.prog 47 ⟨yjI,ywj,fun x=>yr7 x.1 x.2.1 x.2.2.1⟩:=zj1 (yXh) Tryz.func47 (by kernel_rfl) (by kernel_rfl) Tryz.ntmps47.symm (by decide) (fun x r h=>(y7P x).trans h)
def yp8 (a0:dA) (a1 a2:Int):Bool:=yff a0 a1 a2
theorem y5I (a0:dA) (a1 a2:Int) (hk:zi1 yjI (a0,a1,a2,())):yr7 a0 a1 a2=(fun n=>some ((n,()),())) (yp8 a0 a1 a2):=by
 have hb:a0.2.2.1.length * 80≤2 ^ 47:=hk.1.2.2.1.1
 unfold yr7 yp8 yff noMem
 rw [yah,yvZ (show a0.2.2.1.length≤1152921504606846976 by omega),bne_comm]
 cases inb a1 a0.2.2.1.length
 ·rfl
 ·cases (nth a0.2.2.1 a1 ([],[],false,[])).2.2.1<;>cases (a1 !=a0.2.2.2.1)<;>rfl
def yKv:Con:=⟨yjI,ywj,fun x=>(fun n=>some ((n,()),())) (yp8 x.1 x.2.1 x.2.2.1)⟩
theorem y6I:ConOk Tryz.prog 47 yKv:=(y3g).mono (fun x r hk h=>(y5I x.1 x.2.1 x.2.2.1 hk).trans h)
end
section
def yOh:Code:=(Tryz.f108.body).getD .skip
def yOS:Env:=zj2 TT [(126,yF)] []
theorem yXe:FrOk Tryz.prog ⟨yOS,9,fun _=>none⟩ yOh:=zj6 yc yd ⟨yS,trivial⟩
def y0k:Nat→Option Seg:=fun _=>none
abbrev ypB:List Par:= [.rd tI]
abbrev ywg:List OT:= [⟨false,tI,.fz⟩]
def yAk (a0:Int):Option (ResD ywg×MutD ypB) :=
 let r1:=yg a0 0 1099511627776
 bif (!r1) then
 some (((-1),()),())
 else
 some (((IntKind.i64.wrap ((IntKind.i64.wrap (a0+2))+4)),()),())
theorem y7M (x:InD ypB):zjw ⟨yOS,9,y0k⟩ Tryz.f108.results.toList yOh ypB ywg x=yAk x.1:=by kernel_rfl
theorem y3d:ConOk Tryz.prog 108 ⟨ypB,ywg,fun x=>yAk x.1⟩:=zj1 (yXe) Tryz.func108 (by kernel_rfl) (by kernel_rfl) Tryz.ntmps108.symm (by decide) (fun x r h=>(y7M x).trans h)
def ywU (a0:Int):Int :=
 let r1:=yg a0 0 1099511627776
 bif (!r1) then
 (-1)
 else
 (IntKind.i64.wrap ((IntKind.i64.wrap (a0+2))+4))
def yKs:Con:=⟨ypB,ywg,fun x=>(fun n=>some ((n,()),())) (ywU x.1)⟩
theorem y5F (a0:Int):yAk a0=(fun n=>some ((n,()),())) (ywU a0):=zkp (p:=fun (n:Int)=>((n,()),())) (zkb (p:=fun (n:Int)=>((n,()),())) rfl rfl)
theorem y6F:ConOk Tryz.prog 108 yKs:=(y3d).mono (fun x r _ h=>(y5F x.1).trans h)
theorem y5A (s:Int):ywU s=dataAt s:=yfO s
end
section
def yI7:Code:=(Tryz.f231.body).getD .skip
def yJS:Env:=zj2 TT [(116,yln)] []
theorem yRG:FrOk Tryz.prog ⟨yJS,17,fun _=>none⟩ yI7:=zj6 yc yd ⟨yvy,trivial⟩
def yTt:Nat→Option Seg:=fun _=>none
abbrev ygB:List Par:= [.rd tG,.rd tI]
abbrev yrl:List OT:= [⟨false,tI,.fz⟩]
def yms (a0:dG) (a1:Int):Option (ResD yrl×MutD ygB) :=
 let r1:=ybJ a0 a1
 bif (!r1) then
 some (((-1),()),())
 else
 bif (a0.1 !=0) then
 some (((IntKind.i64.wrap ((IntKind.i64.wrap (a0.1 - 1)) - (a1.tmod a0.1))),()),())
 else none
theorem y1h (x:InD ygB):zjw ⟨yJS,17,yTt⟩ Tryz.f231.results.toList yI7 ygB yrl x=yms x.1 x.2.1:=by kernel_rfl
theorem yVs:ConOk Tryz.prog 231 ⟨ygB,yrl,fun x=>yms x.1 x.2.1⟩:=zj1 (yRG) Tryz.func231 (by kernel_rfl) (by kernel_rfl) Tryz.ntmps231.symm (by decide) (fun x r h=>(y1h x).trans h)
def yeg (a0:dG) (a1:Int):Int:=yh a0 a1
theorem yYO (a0:dG) (a1:Int) (hk:zi1 ygB (a0,a1,())):yms a0 a1=(fun n=>some ((n,()),())) (yeg a0 a1):=by
 unfold yms yeg
 rw [yWr]
 cases hs:ycU a0 a1
 ·unfold yh; rw [hs]; rfl
 ·have h1:=ybK.1 hs
  have h2:=yk.1 h1.1
  have h3:=ytt hs
  have h4:yh a0 a1=a0.1 - 1 - a1.tmod a0.1:=by unfold yh; rw [hs]; rfl
  rw [show (a0.1 !=0)=true from bne_iff_ne.2 (by omega),wr (show -9223372036854775808≤a0.1 - 1 by omega) (by omega),wr (show -9223372036854775808≤a0.1 - 1 - a1.tmod a0.1 by omega) (by omega),h4]; rfl
def yvc:Con:=⟨ygB,yrl,fun x=>(fun n=>some ((n,()),())) (yeg x.1 x.2.1)⟩
theorem yIt:ConOk Tryz.prog 231 yvc:=(yVs).mono (fun x r hk h=>(yYO x.1 x.2.1 hk).trans h)
end
section
def yOi:Code:=(Tryz.f148.body).getD .skip
def yOT:Env:=zj2 TT [(116,yln),(126,yF),(231,yvc)] []
theorem yXf:FrOk Tryz.prog ⟨yOT,28,fun _=>none⟩ yOi:=zj6 yc yd ⟨yvy,yS,yIt,trivial⟩
def y0l:Nat→Option Seg:=fun _=>none
abbrev yjG:List Par:= [.rd tG,.rd tI,.rd tI]
abbrev ywh:List OT:= [⟨false,tI,.fz⟩]
def yr5 (a0:dG) (a1 a2:Int):Option (ResD ywh×MutD yjG) :=
 let r1:=ybJ a0 a1
 bif (!(!r1)) then
 let r2:=yg a2 0 (IntKind.i64.wrap (a0.1 - 2))
 bif (!r2) then
 some (((-1),()),())
 else
 let r3:=yeg a0 a1
 bif (a0.1 !=0) then
 some ((((IntKind.i64.wrap ((IntKind.i64.wrap (r3+1))+a2)).tmod a0.1),()),())
 else none
 else
 some (((-1),()),())
theorem y7N (x:InD yjG):zjw ⟨yOT,28,y0l⟩ Tryz.f148.results.toList yOi yjG ywh x=yr5 x.1 x.2.1 x.2.2.1:=by kernel_rfl
theorem y3e:ConOk Tryz.prog 148 ⟨yjG,ywh,fun x=>yr5 x.1 x.2.1 x.2.2.1⟩:=zj1 (yXf) Tryz.func148 (by kernel_rfl) (by kernel_rfl) Tryz.ntmps148.symm (by decide) (fun x r h=>(y7N x).trans h)
def yp6 (a0:dG) (a1 a2:Int):Int:=ygp a0 a1 a2
theorem y5G (a0:dG) (a1 a2:Int) (hk:zi1 yjG (a0,a1,a2,())):yr5 a0 a1 a2=(fun n=>some ((n,()),())) (yp6 a0 a1 a2):=by
 unfold yr5 yp6 ygp yeg
 rw [yWr]
 cases hs:ycU a0 a1
 ·rfl
 ·have h1:=ybK.1 hs
  have h2:=yk.1 h1.1
  have h3:=ytt hs
  rw [yah,ybr,wr (show -9223372036854775808≤a0.1 - 2 by omega) (by omega)]
  cases hi:(leb 0 a2&&leb a2 (a0.1 - 2))
  ·rfl
  ·rw [Bool.and_eq_true,zjD,zjD]at hi
   rw [show (a0.1 !=0)=true from bne_iff_ne.2 (by omega)]
   show some (((IntKind.i64.wrap (IntKind.i64.wrap (yh a0 a1+1)+a2)).tmod a0.1,()),())=some (((yh a0 a1+1+a2).tmod a0.1,()),())
   rw [wr (show -9223372036854775808≤yh a0 a1+1 by omega) (by omega),wr (show -9223372036854775808≤yh a0 a1+1+a2 by omega) (by omega)]
def yKt:Con:=⟨yjG,ywh,fun x=>(fun n=>some ((n,()),())) (yp6 x.1 x.2.1 x.2.2.1)⟩
theorem y6G:ConOk Tryz.prog 148 yKt:=(y3e).mono (fun x r hk h=>(y5G x.1 x.2.1 x.2.2.1 hk).trans h)
end
section
def ysr:Code:=(Tryz.f214.body).getD .skip
def yyy:Env:=zj2 TT [] []
theorem y1S:FrOk Tryz.prog ⟨yyy,17,fun _=>none⟩ ysr:=zj6 yc yd trivial
def yLY:Nat→Option Seg:=fun _=>none
def ydW:Shape:=⟨[(3,false,[.int .i64]),(6,false,[.br tI]),(7,false,[.int .i64]),(8,false,[.int .i64])],[],[]⟩
def ykJ:Shape:=⟨[(3,false,[.ci .i64 0]),(6,false,[.br tI]),(7,false,[.int .i64]),(8,false,[.ci .i64 0])],[],[]⟩
def yku:Shape:=⟨[(3,false,[.int .i64])],[],[]⟩
def yrI:Shape:=⟨[],[],[]⟩
abbrev yxy (v0:Int) (v1:List Int) (v2 v3:Int):(ydW).X:=(((v0,()),(v1,()),(v2,()),(v3,()),()),(),())
abbrev yYq (v0:List Int) (v1:Int):(ykJ).X:=((((),()),(v0,()),(v1,()),((),()),()),(),())
abbrev yIj (v0:Int):(yku).X:=(((v0,()),()),(),())
def yx0 (v0:Int) (v1:List Int) (v2 v3:Int):Option ((ydW).X ⊕ ((yku).X ⊕ (yrI).X)) :=
 bif (ltb v3 v2) then
 bif (inb v3 v1.length) then
 some (.inl ((((IntKind.i64.wrap ((BitVec.ofInt IntKind.i64.bits v0 ^^^ BitVec.ofInt IntKind.i64.bits (nth v1 v3 0)).toNat:Int)),()),(v1,()),(v2,()),((IntKind.i64.wrap (v3+1)),()),()),(),()))
 else none
 else
 some (.inr (.inl (((v0,()),()),(),())))
def yey (x:(ydW).X):=yx0 x.1.1.1 x.1.2.1.1 x.1.2.2.1.1 x.1.2.2.2.1.1
def yHM (x:(ykJ).X):(ydW).X:=(((0,()),(x.1.2.1.1,()),(x.1.2.2.1.1,()),(0,()),()),(),())
def yKg:Code:=(zdD ysr 64 116).getD .skip
theorem y0T:zdD ysr 64 29=some (.block 0 (.loop yKg)):=by kernel_rfl
theorem y4j (x:(ydW).X):zg0 ⟨yyy,17,yLY⟩ 0 yKg 116 ydW yku yrI x=yey x:=by kernel_rfl
def yH2 (x:(ykJ).X):Nat:=18446744073709551616
def yyL (x:(ykJ).X):Option ((yku).X ⊕ (yrI).X):=zz yey (yH2 x) (yHM x)
def yIN:Seg:=⟨ykJ,yku,yrI,yyL⟩
def yLZ:Nat→Option Seg:=fun q=>bif Nat.beq q 29 then some yIN else yLY q
theorem y1T:FrOk Tryz.prog ⟨yyy,17,yLZ⟩ ysr:=(y1S).loop (sg:=yIN) ydW yHM (by decide) y0T yey yH2 (by decide) (fun _=>rfl) (fun x r _ h=>h) y4j
abbrev ym3:List Par:= [.rd tL]
abbrev yy2:List OT:= [⟨false,tI,.fz⟩]
def yuG (a0:List Int):Option (ResD yy2×MutD ym3) :=
 zjY (yyL ((((),()),(a0,()),((a0.length:Int),()),((),()),()),(),())) (fun y0 =>
 some ((y0.1.1.1,()),())) (fun y0 =>
 none)
theorem y9p (x:InD ym3):zjw ⟨yyy,17,yLZ⟩ Tryz.f214.results.toList ysr ym3 yy2 x=yuG x.1:=by kernel_rfl
theorem y6j:ConOk Tryz.prog 214 ⟨ym3,yy2,fun x=>yuG x.1⟩:=zj1 (y1T) Tryz.func214 (by kernel_rfl) (by kernel_rfl) Tryz.ntmps214.symm (by decide) (fun x r h=>(y9p x).trans h)
def ynP (a0:List Int):Int:=yg3 a0
theorem y8C (a0:List Int) (hk:zi1 ym3 (a0,())):yuG a0=(fun n=>some ((n,()),())) (ynP a0):=by
 have hb:a0.length * 8≤2 ^ 47:=hk.1.1
 have h1:yyL (yYq a0 a0.length)=some (.inl (yIj (yg3 a0))) :=
  zj3 (step:=yey) a0 0 (fun i s=>yxy s a0 a0.length i) xw (fun _ _=>True) (fun s=> .inl (yIj s)) (fun i s hi _=>⟨by
   simp only [yey,yxy,yx0,zj4 (show (i:Int) < a0.length by omega),cond_true,wr (show -9223372036854775808≤(i:Int)+1 by omega) (by omega),Int.natCast_add,Int.natCast_one,Int.toNat_natCast,zkl hi,zkm]; rfl,trivial⟩) (fun s _=>by simp only [yey,yxy,yx0,zkx (Int.le_refl _),cond_false]) 0 trivial _ (by show _ < 18446744073709551616; omega)
 unfold yuG ynP
 rw [h1]; rfl
def yMI:Con:=⟨ym3,yy2,fun x=>(fun n=>some ((n,()),())) (ynP x.1)⟩
theorem y8V:ConOk Tryz.prog 214 yMI:=(y6j).mono (fun x r hk h=>(y8C x.1 hk).trans h)
end
section
def yEE:Code:=(Tryz.f241.body).getD .skip
def yE6:Env:=zj2 TT [(214,yMI)] []
theorem yNC:FrOk Tryz.prog ⟨yE6,5,fun _=>none⟩ yEE:=zj6 yc yd ⟨y8V,trivial⟩
def yPx:Nat→Option Seg:=fun _=>none
abbrev yhf:List Par:= [.rd tL]
abbrev yl0:List OT:= [⟨false,tI,.fz⟩]
def yqQ (a0:List Int):Option (ResD yl0×MutD yhf) :=
 let r1:=ynP a0
 some ((r1,()),())
theorem yT3 (x:InD yhf):zjw ⟨yE6,5,yPx⟩ Tryz.f241.results.toList yEE yhf yl0 x=yqQ x.1:=by kernel_rfl
theorem yQi:ConOk Tryz.prog 241 ⟨yhf,yl0,fun x=>yqQ x.1⟩:=zj1 (yNC) Tryz.func241 (by kernel_rfl) (by kernel_rfl) Tryz.ntmps241.symm (by decide) (fun x r h=>(yT3 x).trans h)
def yml (a0:List Int):Int :=
 let r1:=ynP a0
 r1
def yA4:Con:=⟨yhf,yl0,fun x=>(fun n=>some ((n,()),())) (yml x.1)⟩
theorem ySK (a0:List Int):yqQ a0=(fun n=>some ((n,()),())) (yml a0):=zkp (p:=fun (n:Int)=>((n,()),())) rfl
theorem ySY:ConOk Tryz.prog 241 yA4:=(yQi).mono (fun x r _ h=>(ySK x.1).trans h)
end
section
def ybs:Code:=(Tryz.f165.body).getD .skip
def yfi:Env:=zj2 TT [(47,yKv),(107,ylm),(108,yKs),(148,yKt),(231,yvc),(241,yA4)] []
theorem yPN:FrOk Tryz.prog ⟨yfi,70,fun _=>none⟩ ybs:=zj6 yc yd ⟨y6I,yvx,y6F,y6G,yIt,ySY,trivial⟩
def yCJ:Nat→Option Seg:=fun _=>none
def yaZ:Shape:=⟨[(0,false,[.ptr 1000000000 0]),(1,false,[.int .i64]),(7,false,[.at 800000000]),(28,false,[.br tI]),(29,false,[.int .i64]),(30,false,[.int .i64])],[(1000000000,[.int .i64,.int .i64,.int .i64,.at 800000001,.int .i64,.int .i64,.int .i64,.int .i64,.int .i64,.at 800000002,.int .i64,.bool,.bool])],[(800000000,tI,.fz),(800000001,tM,(.pr (.ow (.ow .fz)) (.pr (.ow (.pr .fz (.ow .fz))) (.pr .fz (.ow .fz))))),(800000002,tW,(.pr .fz (.ow .fz)))]⟩
def ye5:Shape:=⟨[(0,false,[.ptr 1000000000 0]),(1,false,[.int .i64]),(7,false,[.at 800000000]),(28,false,[.br tI]),(29,false,[.int .i64]),(30,false,[.ci .i64 0])],[(1000000000,[.int .i64,.int .i64,.int .i64,.at 800000001,.int .i64,.int .i64,.int .i64,.int .i64,.int .i64,.at 800000002,.int .i64,.bool,.bool])],[(800000000,tI,.fz),(800000001,tM,(.pr (.ow (.ow .fz)) (.pr (.ow (.pr .fz (.ow .fz))) (.pr .fz (.ow .fz))))),(800000002,tW,(.pr .fz (.ow .fz)))]⟩
def yeW:Shape:=⟨[(0,false,[.ptr 1000000000 0]),(1,false,[.int .i64]),(7,false,[.at 800000000])],[(1000000000,[.int .i64,.int .i64,.int .i64,.at 800000001,.int .i64,.int .i64,.int .i64,.int .i64,.int .i64,.at 800000002,.int .i64,.bool,.bool])],[(800000000,tI,.fz),(800000001,tM,(.pr (.ow (.ow .fz)) (.pr (.ow (.pr .fz (.ow .fz))) (.pr .fz (.ow .fz))))),(800000002,tW,(.pr .fz (.ow .fz)))]⟩
def yjq:Shape:=⟨[],[],[]⟩
abbrev yoH (v0:Int) (v1:List Int) (v2 v3:Int) (v4:dA) (v5:List Int):(yaZ).X:=((((),()),(v0,()),((),()),(v1,()),(v2,()),(v3,()),()),((v4.1,v4.2.1.1,v4.2.1.2,(),v4.2.2.2.1,v4.2.2.2.2.1,v4.2.2.2.2.2.1,v4.2.2.2.2.2.2.1,v4.2.2.2.2.2.2.2.1,(),v4.2.2.2.2.2.2.2.2.2.1,v4.2.2.2.2.2.2.2.2.2.2.1,v4.2.2.2.2.2.2.2.2.2.2.2,()),()),(v5,v4.2.2.1,v4.2.2.2.2.2.2.2.2.1,()))
abbrev yNO (v0:Int) (v1:List Int) (v2:Int) (v3:dA) (v4:List Int):(ye5).X:=((((),()),(v0,()),((),()),(v1,()),(v2,()),((),()),()),((v3.1,v3.2.1.1,v3.2.1.2,(),v3.2.2.2.1,v3.2.2.2.2.1,v3.2.2.2.2.2.1,v3.2.2.2.2.2.2.1,v3.2.2.2.2.2.2.2.1,(),v3.2.2.2.2.2.2.2.2.2.1,v3.2.2.2.2.2.2.2.2.2.2.1,v3.2.2.2.2.2.2.2.2.2.2.2,()),()),(v4,v3.2.2.1,v3.2.2.2.2.2.2.2.2.1,()))
abbrev yz4 (v0:Int) (v1:dA) (v2:List Int):(yeW).X:=((((),()),(v0,()),((),()),()),((v1.1,v1.2.1.1,v1.2.1.2,(),v1.2.2.2.1,v1.2.2.2.2.1,v1.2.2.2.2.2.1,v1.2.2.2.2.2.2.1,v1.2.2.2.2.2.2.2.1,(),v1.2.2.2.2.2.2.2.2.2.1,v1.2.2.2.2.2.2.2.2.2.2.1,v1.2.2.2.2.2.2.2.2.2.2.2,()),()),(v2,v1.2.2.1,v1.2.2.2.2.2.2.2.2.1,()))
def ypg (v0:Int) (v1:List Int) (v2 v3 v4 v5 v6 v7 v8 v9 v10 v11 v12:Int) (v13 v14:Bool) (v15:List Int) (v16:List dM) (v17:List dW):Option ((yaZ).X ⊕ ((yeW).X ⊕ (yjq).X)) :=
 bif (ltb v3 v2) then
 bif (inb v3 v1.length) then
 let r5:=yp6 (v5,v6) v0 v3
 bif (inb r5 v15.length) then
 some (.inl ((((),()),(v0,()),((),()),(v1,()),(v2,()),((IntKind.i64.wrap (v3+1)),()),()),((v4,v5,v6,(),v7,v8,v9,v10,v11,(),v12,v13,v14,()),()),((v15.set (r5).toNat (nth v1 v3 0)),v16,v17,())))
 else none
 else none
 else
 some (.inr (.inl ((((),()),(v0,()),((),()),()),((v4,v5,v6,(),v7,v8,v9,v10,v11,(),v12,v13,v14,()),()),(v15,v16,v17,()))))
def ybi (x:(yaZ).X):=ypg x.1.2.1.1 x.1.2.2.2.1.1 x.1.2.2.2.2.1.1 x.1.2.2.2.2.2.1.1 x.2.1.1.1 x.2.1.1.2.1 x.2.1.1.2.2.1 x.2.1.1.2.2.2.2.1 x.2.1.1.2.2.2.2.2.1 x.2.1.1.2.2.2.2.2.2.1 x.2.1.1.2.2.2.2.2.2.2.1 x.2.1.1.2.2.2.2.2.2.2.2.1 x.2.1.1.2.2.2.2.2.2.2.2.2.2.1 x.2.1.1.2.2.2.2.2.2.2.2.2.2.2.1 x.2.1.1.2.2.2.2.2.2.2.2.2.2.2.2.1 x.2.2.1 x.2.2.2.1 x.2.2.2.2.1
def yzE (x:(ye5).X):(yaZ).X:=((((),()),(x.1.2.1.1,()),((),()),(x.1.2.2.2.1.1,()),(x.1.2.2.2.2.1.1,()),(0,()),()),((x.2.1.1.1,x.2.1.1.2.1,x.2.1.1.2.2.1,(),x.2.1.1.2.2.2.2.1,x.2.1.1.2.2.2.2.2.1,x.2.1.1.2.2.2.2.2.2.1,x.2.1.1.2.2.2.2.2.2.2.1,x.2.1.1.2.2.2.2.2.2.2.2.1,(),x.2.1.1.2.2.2.2.2.2.2.2.2.2.1,x.2.1.1.2.2.2.2.2.2.2.2.2.2.2.1,x.2.1.1.2.2.2.2.2.2.2.2.2.2.2.2.1,()),()),(x.2.2.1,x.2.2.2.1,x.2.2.2.2.1,()))
def yAU:Code:=(zdD ybs 64 244).getD .skip
theorem yPB:zdD ybs 64 61=some (.block 0 (.loop yAU)):=by kernel_rfl
theorem yQr (x:(yaZ).X):zg0 ⟨yfi,70,yCJ⟩ 0 yAU 244 yaZ yeW yjq x=ybi x:=by kernel_rfl
def yzP (x:(ye5).X):Nat:=18446744073709551616
def yqu (x:(ye5).X):Option ((yeW).X ⊕ (yjq).X):=zz ybi (yzP x) (yzE x)
def yAz:Seg:=⟨ye5,yeW,yjq,yqu⟩
def ysA:Nat→Option Seg:=fun q=>bif Nat.beq q 61 then some yAz else yCJ q
theorem yPO:FrOk Tryz.prog ⟨yfi,70,ysA⟩ ybs:=(yPN).loop (sg:=yAz) yaZ yzE (by decide) yPB ybi yzP (by decide) (fun _=>rfl) (fun x r _ h=>h) yQr
def yaF:Shape:=⟨[(0,false,[.ptr 1000000000 0]),(1,false,[.int .i64]),(46,false,[.at 800000000]),(47,false,[.int .i64]),(48,false,[.int .i64])],[(1000000000,[.int .i64,.int .i64,.int .i64,.at 800000001,.int .i64,.int .i64,.int .i64,.int .i64,.int .i64,.at 800000002,.int .i64,.bool,.bool])],[(800000000,tI,.fz),(800000001,tM,(.pr (.ow (.ow .fz)) (.pr (.ow (.pr .fz (.ow .fz))) (.pr .fz (.ow .fz))))),(800000002,tW,(.pr .fz (.ow .fz)))]⟩
def yd9:Shape:=⟨[(0,false,[.ptr 1000000000 0]),(1,false,[.int .i64]),(46,false,[.at 800000000]),(47,false,[.int .i64]),(48,false,[.ci .i64 0])],[(1000000000,[.int .i64,.int .i64,.int .i64,.at 800000001,.int .i64,.int .i64,.int .i64,.int .i64,.int .i64,.at 800000002,.int .i64,.bool,.bool])],[(800000000,tI,.fz),(800000001,tM,(.pr (.ow (.ow .fz)) (.pr (.ow (.pr .fz (.ow .fz))) (.pr .fz (.ow .fz))))),(800000002,tW,(.pr .fz (.ow .fz)))]⟩
def yd7:Shape:=⟨[],[(1000000000,[.int .i64,.int .i64,.int .i64,.at 800000000,.int .i64,.int .i64,.int .i64,.int .i64,.int .i64,.at 800000001,.int .i64,.bool,.bool])],[(800000000,tM,(.pr (.ow (.ow .fz)) (.pr (.ow (.pr .fz (.ow .fz))) (.pr .fz (.ow .fz))))),(800000001,tW,(.pr .fz (.ow .fz)))]⟩
def yec:Shape:=⟨[(6,false,[.bool])],[(1000000000,[.int .i64,.int .i64,.int .i64,.at 800000000,.int .i64,.int .i64,.int .i64,.int .i64,.int .i64,.at 800000001,.int .i64,.bool,.bool])],[(800000000,tM,(.pr (.ow (.ow .fz)) (.pr (.ow (.pr .fz (.ow .fz))) (.pr .fz (.ow .fz))))),(800000001,tW,(.pr .fz (.ow .fz)))]⟩
abbrev ynI (v0 v1 v2:Int) (v3:dA) (v4:List Int):(yaF).X:=((((),()),(v0,()),((),()),(v1,()),(v2,()),()),((v3.1,v3.2.1.1,v3.2.1.2,(),v3.2.2.2.1,v3.2.2.2.2.1,v3.2.2.2.2.2.1,v3.2.2.2.2.2.2.1,v3.2.2.2.2.2.2.2.1,(),v3.2.2.2.2.2.2.2.2.2.1,v3.2.2.2.2.2.2.2.2.2.2.1,v3.2.2.2.2.2.2.2.2.2.2.2,()),()),(v4,v3.2.2.1,v3.2.2.2.2.2.2.2.2.1,()))
abbrev yM0 (v0 v1:Int) (v2:dA) (v3:List Int):(yd9).X:=((((),()),(v0,()),((),()),(v1,()),((),()),()),((v2.1,v2.2.1.1,v2.2.1.2,(),v2.2.2.2.1,v2.2.2.2.2.1,v2.2.2.2.2.2.1,v2.2.2.2.2.2.2.1,v2.2.2.2.2.2.2.2.1,(),v2.2.2.2.2.2.2.2.2.2.1,v2.2.2.2.2.2.2.2.2.2.2.1,v2.2.2.2.2.2.2.2.2.2.2.2,()),()),(v3,v2.2.2.1,v2.2.2.2.2.2.2.2.2.1,()))
abbrev ynK (v0:dA):(yd7).X:=((),((v0.1,v0.2.1.1,v0.2.1.2,(),v0.2.2.2.1,v0.2.2.2.2.1,v0.2.2.2.2.2.1,v0.2.2.2.2.2.2.1,v0.2.2.2.2.2.2.2.1,(),v0.2.2.2.2.2.2.2.2.2.1,v0.2.2.2.2.2.2.2.2.2.2.1,v0.2.2.2.2.2.2.2.2.2.2.2,()),()),(v0.2.2.1,v0.2.2.2.2.2.2.2.2.1,()))
abbrev ynM (v0:Bool) (v1:dA):(yec).X:=(((v0,()),()),((v1.1,v1.2.1.1,v1.2.1.2,(),v1.2.2.2.1,v1.2.2.2.2.1,v1.2.2.2.2.2.1,v1.2.2.2.2.2.2.1,v1.2.2.2.2.2.2.2.1,(),v1.2.2.2.2.2.2.2.2.2.1,v1.2.2.2.2.2.2.2.2.2.2.1,v1.2.2.2.2.2.2.2.2.2.2.2,()),()),(v1.2.2.1,v1.2.2.2.2.2.2.2.2.1,()))
def yn9 (v0 v1 v2 v3 v4 v5 v6 v7 v8 v9 v10 v11:Int) (v12 v13:Bool) (v14:List Int) (v15:List dM) (v16:List dW):Option ((yaF).X ⊕ ((yd7).X ⊕ (yec).X)) :=
 bif (ltb v2 v1) then
 bif (inb v2 v14.length) then
 let r10:=yp8 (v3,(v4,v5),v15,v6,v7,v8,v9,v10,v16,v11,v12,v13) v2 v0
 bif r10 then
 let r11:=ywU v0
 bnd (yfI (v3,(v4,v5),v15,v6,v7,v8,v9,v10,v16,v11,v12,v13) v2 r11 ([(nth v14 v2 0)]:List Int)) fun r12 =>
 bif (!r12.1.1) then
 some (.inr (.inr (((false,()),()),((r12.2.1.1,r12.2.1.2.1.1,r12.2.1.2.1.2,(),r12.2.1.2.2.2.1,r12.2.1.2.2.2.2.1,r12.2.1.2.2.2.2.2.1,r12.2.1.2.2.2.2.2.2.1,r12.2.1.2.2.2.2.2.2.2.1,(),r12.2.1.2.2.2.2.2.2.2.2.2.1,r12.2.1.2.2.2.2.2.2.2.2.2.2.1,r12.2.1.2.2.2.2.2.2.2.2.2.2.2,()),()),(r12.2.1.2.2.1,r12.2.1.2.2.2.2.2.2.2.2.1,()))))
 else
 some (.inl ((((),()),(v0,()),((),()),(v1,()),((IntKind.i64.wrap (v2+1)),()),()),((r12.2.1.1,r12.2.1.2.1.1,r12.2.1.2.1.2,(),r12.2.1.2.2.2.1,r12.2.1.2.2.2.2.1,r12.2.1.2.2.2.2.2.1,r12.2.1.2.2.2.2.2.2.1,r12.2.1.2.2.2.2.2.2.2.1,(),r12.2.1.2.2.2.2.2.2.2.2.2.1,r12.2.1.2.2.2.2.2.2.2.2.2.2.1,r12.2.1.2.2.2.2.2.2.2.2.2.2.2,()),()),(v14,r12.2.1.2.2.1,r12.2.1.2.2.2.2.2.2.2.2.1,())))
 else
 some (.inl ((((),()),(v0,()),((),()),(v1,()),((IntKind.i64.wrap (v2+1)),()),()),((v3,v4,v5,(),v6,v7,v8,v9,v10,(),v11,v12,v13,()),()),(v14,v15,v16,())))
 else none
 else
 some (.inr (.inl ((),((v3,v4,v5,(),v6,v7,v8,v9,v10,(),v11,v12,v13,()),()),(v15,v16,()))))
def yaV (x:(yaF).X):=yn9 x.1.2.1.1 x.1.2.2.2.1.1 x.1.2.2.2.2.1.1 x.2.1.1.1 x.2.1.1.2.1 x.2.1.1.2.2.1 x.2.1.1.2.2.2.2.1 x.2.1.1.2.2.2.2.2.1 x.2.1.1.2.2.2.2.2.2.1 x.2.1.1.2.2.2.2.2.2.2.1 x.2.1.1.2.2.2.2.2.2.2.2.1 x.2.1.1.2.2.2.2.2.2.2.2.2.2.1 x.2.1.1.2.2.2.2.2.2.2.2.2.2.2.1 x.2.1.1.2.2.2.2.2.2.2.2.2.2.2.2.1 x.2.2.1 x.2.2.2.1 x.2.2.2.2.1
def yyi (x:(yd9).X):(yaF).X:=((((),()),(x.1.2.1.1,()),((),()),(x.1.2.2.2.1.1,()),(0,()),()),((x.2.1.1.1,x.2.1.1.2.1,x.2.1.1.2.2.1,(),x.2.1.1.2.2.2.2.1,x.2.1.1.2.2.2.2.2.1,x.2.1.1.2.2.2.2.2.2.1,x.2.1.1.2.2.2.2.2.2.2.1,x.2.1.1.2.2.2.2.2.2.2.2.1,(),x.2.1.1.2.2.2.2.2.2.2.2.2.2.1,x.2.1.1.2.2.2.2.2.2.2.2.2.2.2.1,x.2.1.1.2.2.2.2.2.2.2.2.2.2.2.2.1,()),()),(x.2.2.1,x.2.2.2.1,x.2.2.2.2.1,()))
def yzl:Code:=(zdD ybs 64 500).getD .skip
theorem yNt:zdD ybs 64 125=some (.block 2 (.loop yzl)):=by kernel_rfl
theorem yN8 (x:(yaF).X):zg0 ⟨yfi,70,ysA⟩ 2 yzl 500 yaF yd7 yec x=yaV x:=by kernel_rfl
def yyl (x:(yd9).X):Nat:=18446744073709551616
def yok (x:(yd9).X):Option ((yd7).X ⊕ (yec).X):=zz yaV (yyl x) (yyi x)
def yyo:Seg:=⟨yd9,yd7,yec,yok⟩
def yCK:Nat→Option Seg:=fun q=>bif Nat.beq q 125 then some yyo else ysA q
theorem yPP:FrOk Tryz.prog ⟨yfi,70,yCK⟩ ybs:=(yPO).loop (sg:=yyo) yaF yyi (by decide) yNt yaV yyl (by decide) (fun _=>rfl) (fun x r _ h=>h) yN8
abbrev ycW:List Par:= [.pt tA (.pr .fz (.pr (.pr .fz .fz) (.pr (.ow (.pr (.ow (.ow .fz)) (.pr (.ow (.pr .fz (.ow .fz))) (.pr .fz (.ow .fz))))) (.pr .fz (.pr .fz (.pr .fz (.pr .fz (.pr .fz (.pr (.ow (.pr .fz (.ow .fz))) (.pr .fz (.pr .fz .fz))))))))))),.rd tI,.rd tL]
abbrev yi7:List OT:= [⟨false,tB,.fz⟩]
def ylH (a0:dA) (a1:Int) (a2:List Int):Option (ResD yi7×MutD ycW) :=
 bif (zjX a0.2.1.1 8) then
 let r1:=yeg a0.2.1 a1
 let r2:=yml a2
 bif (inb r1 (List.replicate (a0.2.1.1).toNat (0:Int)).length) then
 let r3:=((List.replicate (a0.2.1.1).toNat (0:Int)).set (r1).toNat r2)
 zjY (yqu ((((),()),(a1,()),((),()),(a2,()),((a2.length:Int),()),((),()),()),((a0.1,a0.2.1.1,a0.2.1.2,(),a0.2.2.2.1,a0.2.2.2.2.1,a0.2.2.2.2.2.1,a0.2.2.2.2.2.2.1,a0.2.2.2.2.2.2.2.1,(),a0.2.2.2.2.2.2.2.2.2.1,a0.2.2.2.2.2.2.2.2.2.2.1,a0.2.2.2.2.2.2.2.2.2.2.2,()),()),(r3,a0.2.2.1,a0.2.2.2.2.2.2.2.2.1,()))) (fun y5 =>
 zjY (yok ((((),()),(y5.1.2.1.1,()),((),()),((y5.2.2.1.length:Int),()),((),()),()),((y5.2.1.1.1,y5.2.1.1.2.1,y5.2.1.1.2.2.1,(),y5.2.1.1.2.2.2.2.1,y5.2.1.1.2.2.2.2.2.1,y5.2.1.1.2.2.2.2.2.2.1,y5.2.1.1.2.2.2.2.2.2.2.1,y5.2.1.1.2.2.2.2.2.2.2.2.1,(),y5.2.1.1.2.2.2.2.2.2.2.2.2.2.1,y5.2.1.1.2.2.2.2.2.2.2.2.2.2.2.1,y5.2.1.1.2.2.2.2.2.2.2.2.2.2.2.2.1,()),()),(y5.2.2.1,y5.2.2.2.1,y5.2.2.2.2.1,()))) (fun y12 =>
 some ((true,()),((y12.2.1.1.1,(y12.2.1.1.2.1,y12.2.1.1.2.2.1),y12.2.2.1,y12.2.1.1.2.2.2.2.1,y12.2.1.1.2.2.2.2.2.1,y12.2.1.1.2.2.2.2.2.2.1,y12.2.1.1.2.2.2.2.2.2.2.1,y12.2.1.1.2.2.2.2.2.2.2.2.1,y12.2.2.2.1,y12.2.1.1.2.2.2.2.2.2.2.2.2.2.1,y12.2.1.1.2.2.2.2.2.2.2.2.2.2.2.1,y12.2.1.1.2.2.2.2.2.2.2.2.2.2.2.2.1),()))) (fun y12 =>
 some ((y12.1.1.1,()),((y12.2.1.1.1,(y12.2.1.1.2.1,y12.2.1.1.2.2.1),y12.2.2.1,y12.2.1.1.2.2.2.2.1,y12.2.1.1.2.2.2.2.2.1,y12.2.1.1.2.2.2.2.2.2.1,y12.2.1.1.2.2.2.2.2.2.2.1,y12.2.1.1.2.2.2.2.2.2.2.2.1,y12.2.2.2.1,y12.2.1.1.2.2.2.2.2.2.2.2.2.2.1,y12.2.1.1.2.2.2.2.2.2.2.2.2.2.2.1,y12.2.1.1.2.2.2.2.2.2.2.2.2.2.2.2.1),())))) (fun y5 =>
 none)
 else none
 else none
theorem yW5 (x:InD ycW):zjw ⟨yfi,70,yCK⟩ Tryz.f165.results.toList ybs ycW yi7 x=ylH x.1 x.2.1 x.2.2.1:=by kernel_rfl
theorem ySO:ConOk Tryz.prog 165 ⟨ycW,yi7,fun x=>ylH x.1 x.2.1 x.2.2.1⟩:=zj1 (yPP) Tryz.func165 (by kernel_rfl) (by kernel_rfl) Tryz.ntmps165.symm (by decide) (fun x r h=>(yW5 x).trans h)
def yoR (a0:dA) (a1:Int) (a2:List Int):Bool×dA:=(!(ye (yL a0 a1 a2)),yL a0 a1 a2)
def yjn (a0:dA) (a1:Int) (a2:List Int):Bool:= !(ye a0)&&(ycU a0.2.1 a1&&((a2.length:Int)==a0.2.1.1 - 1&&(a0.2.2.1.length:Int)==a0.2.1.1))
theorem yVh (a0:dA) (a1:Int) (a2:List Int) (hk:zi1 ycW (a0,a1,a2,())) (hq:yjn a0 a1 a2=true):ylH a0 a1 a2=(fun n=>some ((n.1,()),(n.2,()))) (yoR a0 a1 a2):=by
 simp only [yjn,Bool.and_eq_true,beq_iff_eq,Bool.not_eq_true'] at hq
 obtain ⟨hd0,hs0,hl0,hm0⟩:=hq
 have hg:=yk.1 (ybK.1 hs0).1
 have hp:=ytt hs0
 have hL:=yabd (N:=a0.2.1.1) (p:=yh a0.2.1 a1) (x:=yg3 a2) (data:=a2) ⟨by omega,by omega⟩ hp hl0
 generalize hw:(List.range a0.2.1.1.toNat).map (fun (i:Nat)=>yCC (yh a0.2.1 a1) a0.2.1.1 (yg3 a2) a2 i)=W at hL
 have hWl:W.length=a0.2.2.1.length:=by rw [← hw,List.length_map,List.length_range]; omega
 have hWat: ∀ i:Nat,i < a0.2.2.1.length→nth W i 0=yCC (yh a0.2.1 a1) a0.2.1.1 (yg3 a2) a2 i:=fun i hi=>by
  rw [← hw,zkm,zkd (by rw [List.length_map,List.length_range]; omega)]; simp
 have h1:yqu (yNO a1 a2 a2.length a0 ((List.replicate a0.2.1.1.toNat 0).set (yh a0.2.1 a1).toNat (yg3 a2)))=some (.inl (yz4 a1 a0 W)):=by
  have:=zj8 (step:=ybi) a2.length (fun i s=>yoH a1 a2 a2.length i a0 s) (fun l (i:Nat)=>l.set ((yh a0.2.1 a1+1+i).tmod a0.2.1.1).toNat (nth a2 i 0)) (fun _ s=>s.length=a0.2.1.1.toNat) (fun s=> .inl (yz4 a1 a0 s)) (fun i s hi hs=>⟨by
   have hd:=yaaF hs0 (show (0:Int)≤i by omega) (show (i:Int)≤a0.2.1.1 - 2 by omega)
   have he:ygp a0.2.1 a1 i=(yh a0.2.1 a1+1+i).tmod a0.2.1.1:=by unfold ygp; rw [hs0,zkw (show (0:Int)≤i by omega),zkw (show (i:Int)≤a0.2.1.1 - 2 by omega)]; rfl
   simp only [ybi,yoH,ypg,zj4 (show (i:Int) < a2.length by omega),cond_true,wr (show -9223372036854775808≤(i:Int)+1 by omega) (by omega),Int.natCast_add,Int.natCast_one,Int.toNat_natCast,zkl hi,zkr,yp6,zjC.2 (show 0≤ygp a0.2.1 a1 i∧ygp a0.2.1 a1 i < s.length by omega)]
   rw [he],by rw [List.length_set]; exact hs⟩) (fun s hs=>by simp only [ybi,yoH,ypg,zkx (Int.le_refl _),cond_false]) ((List.replicate a0.2.1.1.toNat 0).set (yh a0.2.1 a1).toNat (yg3 a2)) (by rw [List.length_set,List.length_replicate]) 18446744073709551616 (by omega)
  rw [hL]at this
  exact this
 have h2:yok (yM0 a1 W.length a0 W)=some (bif ye (yL a0 a1 a2) then .inr (ynM false (yL a0 a1 a2)) else .inl (ynK (yL a0 a1 a2))):=by
  have:=zj7 (step:=yaV) a0.2.2.1.length (fun i s=>ynI a1 W.length i s W) (fun i s=>bif ye (ybO (yh a0.2.1 a1) a0.2.1.1 a1 a2 s i) then (.inr (ybO (yh a0.2.1 a1) a0.2.1.1 a1 a2 s i):dA ⊕ dA) else .inl (ybO (yh a0.2.1 a1) a0.2.1.1 a1 a2 s i)) (fun _ s=>s.2.2.1.length=a0.2.2.1.length∧ye s=false) id
   (fun b=>bif ye b then .inr (ynM false b) else .inl (ynK b)) (fun i s hi hs=>by
    constructor
    ·simp only [yaV,ynI,yn9,zj4 (show (i:Int) < W.length by omega),cond_true,wr (show -9223372036854775808≤(i:Int)+1 by omega) (by omega),Int.natCast_add,Int.natCast_one,Int.toNat_natCast,zkl (show i < W.length by omega),zkr,yp8,y5A,hWat i hi,ybO]
     rw [yvz s i (dataAt a1) [yCC (yh a0.2.1 a1) a0.2.1.1 (yg3 a2) a2 i] (by unfold yde; rw [zkl (by rw [hs.1]; exact hi),hs.2]; rfl)]
     cases hlv:yff s i a1
     ·simp only [cond_false,hs.2]
     ·simp only [zkc,ydc,cond_true]
      cases hd:ye (ydM s i (dataAt a1) [yCC (yh a0.2.1 a1) a0.2.1.1 (yg3 a2) a2 i])
      ·rfl
      ·simp only [hd,Bool.not_true,Bool.not_false,cond_true,ynM]
    ·intro s' h
     cases hd:ye (ybO (yh a0.2.1 a1) a0.2.1.1 a1 a2 s i)
     ·rw [hd]at h
      cases h
      exact ⟨(yqs _ _ _ _ s i).trans hs.1,hd⟩
     ·rw [hd]at h; cases h) (fun s hs=>by simp only [yaV,ynI,yn9,hs.2,hWl,zkx (Int.le_refl _),cond_false,id,ynK]) a0 ⟨rfl,hd0⟩ 18446744073709551616 (by omega)
  rw [yId (fun a i h=>y9g _ _ _ _ i h),← List.range_eq_range'] at this
  exact this
 unfold ylH yoR yeg yml ynP
 rw [zkg.2 (show 0≤a0.2.1.1∧a0.2.1.1 * ((8:Nat):Int)≤140737488355328 by omega)]
 simp only [cond_true]
 rw [zjC.2 (show 0≤yh a0.2.1 a1∧yh a0.2.1 a1 < ((List.replicate a0.2.1.1.toNat (0:Int)).length:Int) by rw [List.length_replicate]; omega),cond_true]
 refine (congrArg (fun z=>zjY z _ _) h1).trans ?_
 rw [zkh]
 refine (congrArg (fun z=>zjY z _ _) h2).trans ?_
 cases hd:ye (yL a0 a1 a2)
 ·rfl
 ·simp only [cond_true,zki,zkr]; rfl
def yjm (a0:dA) (a1:Int) (a2:List Int):Option (ResD yi7×MutD ycW):=bif yjn a0 a1 a2 then (fun n=>some ((n.1,()),(n.2,()))) (yoR a0 a1 a2) else none
theorem yVZ (a0:dA) (a1:Int) (a2:List Int) (h:yjn a0 a1 a2=true):yjm a0 a1 a2=(fun n=>some ((n.1,()),(n.2,()))) (yoR a0 a1 a2):=by unfold yjm; rw [h]; rfl
def yDc:Con:=⟨ycW,yi7,fun x=>yjm x.1 x.2.1 x.2.2.1⟩
theorem yVT:ConOk Tryz.prog 165 yDc:=(ySO).mono (fun x r hk h=>zks h (fun hq=>yVh x.1 x.2.1 x.2.2.1 hk hq))
end
end
end Go.Tf
