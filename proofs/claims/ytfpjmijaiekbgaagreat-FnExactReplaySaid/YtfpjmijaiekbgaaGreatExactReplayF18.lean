/- Functions of the program, and what they come to. -/
import Derived.Test.YtfpjmijaiekbgaaGreatExactReplayF17
namespace Go.Tf
noncomputable section
open Go.Proofs
set_option synthInstance.maxHeartbeats 400000
set_option synthInstance.maxSize 10000
set_option linter.unusedVariables false
set_option linter.unusedSimpArgs false
set_option maxRecDepth 100000
section
def yaU:Code:=(Tryz.f216.body).getD .skip
def yda:Env:=zki TT [(217,ymg),(251,yoA)] []
theorem yxF:FrOk Tryz.prog ⟨yda,42,fun _=>none⟩ yaU:=zkp yb yc ⟨yxk,yB8,trivial⟩
def ymD:Nat→Option Seg:=fun _=>none
def yq:Shape:=⟨[(0,false,[.at 800000000]),(1,false,[.fx 217 tI]),(5,false,[.int .i64]),(6,false,[.int .i64])],[],[(800000000,tI,.fz)]⟩
def yX:Shape:=⟨[(0,false,[.at 800000000]),(1,false,[.fx 217 tI]),(5,false,[.int .i64]),(6,false,[.int .i64])],[],[(800000000,tI,.fz)]⟩
def yW:Shape:=⟨[(0,false,[.at 800000000]),(5,false,[.int .i64])],[],[(800000000,tI,.fz)]⟩
def ybA:Shape:=⟨[],[],[]⟩
abbrev yba (v0:Int) (v1:Int) (v2:Int) (v3:List Int):(yq).X:=((((),()),(v0,()),(v1,()),(v2,()),()),(),(v3,()))
abbrev yxj (v0:Int) (v1:Int) (v2:Int) (v3:List Int):(yX).X:=((((),()),(v0,()),(v1,()),(v2,()),()),(),(v3,()))
abbrev yxh (v0:Int) (v1:List Int):(yW).X:=((((),()),(v0,()),()),(),(v1,()))
def yd2 (v0:Int) (v1:Int) (v2:Int) (v3:List Int):Option ((yq).X ⊕ ((yW).X ⊕ (ybA).X)) :=
  bif (ltb v2 (v3.length:Int)) then
    bif (inb v2 v3.length) then
      let r3:=ycR (nth v3 v2 0) v0
      bif (!r3) then
        bif (inb v1 v3.length) then
          some (.inl ((((),()),(v0,()),((IntKind.i64.wrap (v1+1)),()),((IntKind.i64.wrap (v2+1)),()),()),(),((v3.set (v1).toNat (nth v3 v2 0)),())))
        else none
      else
        some (.inl ((((),()),(v0,()),(v1,()),((IntKind.i64.wrap (v2+1)),()),()),(),(v3,())))
    else none
  else
    some (.inr (.inl ((((),()),(v1,()),()),(),(v3,()))))
def yy (x:(yq).X):=yd2 x.1.2.1.1 x.1.2.2.1.1 x.1.2.2.2.1.1 x.2.2.1
def ykh (x:(yX).X):(yq).X:=((((),()),(x.1.2.1.1,()),(x.1.2.2.1.1,()),(x.1.2.2.2.1.1,()),()),(),(x.2.2.1,()))
def ylT:Code:=(zdI yaU 64 244).getD .skip
theorem yxD:zdI yaU 64 61=some (.block 0 (.loop ylT)):=by kernel_rfl
theorem yxN (x:(yq).X):zg7 ⟨yda,42,ymD⟩ 0 ylT 244 yq yW ybA x=yy x:=by kernel_rfl
def yki (x:(yX).X):Nat:=(fun (u0:Int) (u1:Int) (u2:Int) (u3:List Int)=>18446744073709551616) x.1.2.1.1 x.1.2.2.1.1 x.1.2.2.2.1.1 x.2.2.1
def yep (x:(yX).X):Option ((yW).X ⊕ (ybA).X):=zr yy (yki x) (ykh x)
def ykj:Seg:=⟨yX,yW,ybA,yep⟩
def ymE:Nat→Option Seg:=fun q=>bif Nat.beq q 61 then some ykj else ymD q
theorem yxG:FrOk Tryz.prog ⟨yda,42,ymE⟩ yaU:=(yxF).loop (sg:=ykj) yq ykh (by decide) yxD yy yki (by decide) (fun _=>rfl) (fun x r _ h=>h) yxN
abbrev yR:List Par:= [.kp tL (.ow .fz),.fn 217 tI]
abbrev ydb:List OT:= [⟨false,tL,(.ow .fz)⟩]
def ycj (a0:List Int) (a1:Int):Option (ResD ydb×MutD yR) :=
  let r1:=ybz a0 a1
  bif (r1==(-1)) then
    some ((a0,()),())
  else
    zjw (yep ((((),()),(a1,()),(r1,()),((IntKind.i64.wrap (r1+1)),()),()),(),(a0,()))) (fun y3 =>
      bif (zjG y3.1.2.1.1 (y3.2.2.1.length:Int) y3.2.2.1.length) then
        bif (zjG 0 y3.1.2.1.1 (y3.2.2.1.take (y3.1.2.1.1).toNat++(List.replicate ((y3.2.2.1.length:Int) - y3.1.2.1.1).toNat (0:Int))++y3.2.2.1.drop ((y3.1.2.1.1).toNat+(List.replicate ((y3.2.2.1.length:Int) - y3.1.2.1.1).toNat (0:Int)).length)).length) then
          some (((((y3.2.2.1.take (y3.1.2.1.1).toNat++(List.replicate ((y3.2.2.1.length:Int) - y3.1.2.1.1).toNat (0:Int))++y3.2.2.1.drop ((y3.1.2.1.1).toNat+(List.replicate ((y3.2.2.1.length:Int) - y3.1.2.1.1).toNat (0:Int)).length)).drop (0:Int).toNat).take (y3.1.2.1.1 - 0).toNat),()),())
        else none
      else none) (fun y3 =>
      none)
theorem yB4 (x:InD yR):zjH ⟨yda,42,ymE⟩ Tryz.f216.results.toList yaU yR ydb x=ycj x.1 x.2.1:=by kernel_rfl
theorem yzN:ConOk Tryz.prog 216 ⟨yR,ydb,fun x=>ycj x.1 x.2.1⟩:=zkh (yxG) Tryz.func216 (by kernel_rfl) (by kernel_rfl) Tryz.ntmps216.symm (by decide) (fun x r h=>(yB4 x).trans h)
def yaV (a0:List Int) (a1:Int):List Int:=yUI a0 a1
theorem yBG (a0:List Int) (a1:Int) (hk:zi9 yR (a0,a1,())):ycj a0 a1=(fun n=>some ((n,()),())) (yaV a0 a1):=by
  have hb:a0.length * 8≤2 ^ 47:=hk.1.1
  have hs:yUI a0 a1=a0.filter (fun x=> !(x==a1)):=rfl
  unfold ycj yaV ybz
  simp only []
  cases hi:leb 0 (yr (fun e:Int=>e==a1) a0)
  · rw [yXK hi,hs,yYj hi]; rfl
  · obtain ⟨h1,h2⟩:=yM8 (d:=(0:Int)) hi
    have h3:=zjP.1 h1
    have h4:=yUO hi
    generalize hk0:yr (fun e:Int=>e==a1) a0=k at *
    obtain ⟨k,rfl⟩: ∃ m:Nat,k=m:=⟨k.toNat,by omega⟩
    rw [Int.toNat_natCast]at h4
    rw [show ((k:Int)== -1)=false from beq_eq_false_iff_ne.2 (by omega),cond_false,wr (show -9223372036854775808≤(k:Int)+1 by omega) (by omega)]
    obtain ⟨b,e,i,s,rfl,q1,q2,q3⟩:=ziU (step:=yy) (fun x=>(a0.length - Int.toNat x.1.2.2.2.1.1))
      (fun x=> ∃ (i j:Nat) (s:List Int),x=yba a1 i j s∧i < j∧j≤a0.length∧s.length=a0.length∧s.take i=(a0.take j).filter (fun x=> !(x==a1))∧s.drop j=a0.drop j)
      (fun b=> ∃ (i:Nat) (s:List Int),b= .inl (yxh i s)∧i≤a0.length∧s.length=a0.length∧s.take i=a0.filter (fun x=> !(x==a1)))
      (fun x hx=>by
        obtain ⟨i,j,s,rfl,p1,p2,p3,p4,p5⟩:=hx
        by_cases hj:j < a0.length
        · left
          have e1:nth s j 0=a0[j]:=by
            rw [zjW,zcq (by omega)]
            have:=List.getElem_drop (xs:=s) (i:=j) (j:=0) (h:=by rw [List.length_drop]; omega)
            have h6:(s.drop j)[0]'(by rw [List.length_drop]; omega)=(a0.drop j)[0]'(by rw [List.length_drop]; omega):=by simp only [p5]
            simpa using h6
          have e2:a0.take (j+1)=a0.take j++ [a0[j]]:=(List.take_append_getElem hj).symm
          simp only [yy,yba,yd2,p3,zjI (show (j:Int) < a0.length by omega),zkO hj,zkO (show i < a0.length by omega),e1,ycR,wr (show -9223372036854775808≤(j:Int)+1 by omega) (by omega),wr (show -9223372036854775808≤(i:Int)+1 by omega) (by omega),cond_true,Int.toNat_natCast]
          cases hx:(a0[j]==a1)
          · refine ⟨_,rfl,⟨i+1,j+1,s.set i a0[j],rfl,by omega,by omega,by rw [List.length_set,p3],?_,?_⟩,by show a0.length - ((j:Int)+1).toNat < a0.length - ((j:Int)).toNat; omega⟩
            · rw [List.take_set,← List.take_append_getElem (show i < s.length by omega),List.set_append_right _ _ (by rw [List.length_take]; omega),p4,e2,List.filter_append,List.filter_cons,hx]
              have:i - (List.filter (fun x=> !x==a1) (a0.take j)).length=0:=by rw [← p4,List.length_take]; omega
              rw [this]; rfl
            · rw [List.drop_set_of_lt (by omega),← List.drop_drop,p5,List.drop_drop]
          · refine ⟨_,rfl,⟨i,j+1,s,rfl,by omega,by omega,p3,?_,?_⟩,by show a0.length - ((j:Int)+1).toNat < a0.length - ((j:Int)).toNat; omega⟩
            · rw [p4,e2,List.filter_append,List.filter_cons,hx]; simp
            · rw [← List.drop_drop,p5,List.drop_drop]
        · right
          have:j=a0.length:=by omega
          subst this
          rw [List.take_length]at p4
          refine ⟨_,?_,i,s,rfl,by omega,p3,p4⟩
          simp only [yy,yba,yd2,p3,zkm (Int.le_refl _),cond_false]) 18446744073709551616 (yba a1 k (k+1:Nat) a0) ⟨k,k+1,a0,rfl,by omega,by omega,rfl,h4.symm,rfl⟩ (by show a0.length - ((k+1:Nat):Int).toNat < 18446744073709551616; omega)
    rw [show ((k+1:Nat):Int)=(k:Int)+1 by omega]at e
    rw [show yep (yxj a1 k ((k:Int)+1) a0)=_ from e]
    rw [hs,← q3]
    have hL:(s.take i++List.replicate ((s.length:Int) - i).toNat (0:Int)++s.drop ((i:Int).toNat+(List.replicate ((s.length:Int) - i).toNat (0:Int)).length)).length=s.length:=by
      simp only [List.length_append,List.length_take,List.length_replicate,List.length_drop]; omega
    show (bif zjG i s.length s.length then bif zjG 0 i (s.take i++List.replicate ((s.length:Int) - i).toNat (0:Int)++s.drop ((i:Int).toNat+(List.replicate ((s.length:Int) - i).toNat (0:Int)).length)).length then some ((((s.take i++List.replicate ((s.length:Int) - i).toNat (0:Int)++s.drop ((i:Int).toNat+(List.replicate ((s.length:Int) - i).toNat (0:Int)).length)).drop 0).take ((i:Int) - 0).toNat,()),()) else none else none)=some ((s.take i,()),())
    rw [hL,zko.2 (show 0≤(i:Int)∧(i:Int)≤s.length∧(s.length:Int)≤s.length by omega),zko.2 (show (0:Int)≤0∧(0:Int)≤i∧(i:Int)≤s.length by omega),List.drop_zero,show ((i:Int) - 0).toNat=i by omega,List.append_assoc,List.take_append_of_le_length (by rw [List.length_take]; omega),List.take_take,Nat.min_self]; rfl
def ynp:Con:=⟨yR,ydb,fun x=>(fun n=>some ((n,()),())) (yaV x.1 x.2.1)⟩
theorem yBJ:ConOk Tryz.prog 216 ynp:=(yzN).mono (fun x r hk h=>(yBG x.1 x.2.1 hk).trans h)
end
section
def yCb:Code:=(Tryz.f155.body).getD .skip
def yCO:Env:=zki TT [(132,yjT),(151,ya8),(203,yvC),(204,yno),(215,ykW),(216,ynp)] []
theorem yHY:FrOk Tryz.prog ⟨yCO,51,fun _=>none⟩ yCb:=zkp yb yc ⟨yr3,ydC,yGf,yvG,yuu,yBJ,trivial⟩
def yJq:Nat→Option Seg:=fun _=>none
abbrev yd5:List Par:= [.rd tM,.rd tI,.rd tL]
abbrev ym0:List OT:= [⟨false,tM,(.pr (.ow (.ow .fz)) (.pr (.ow (.pr .fz (.ow .fz))) (.pr .fz (.ow .fz))))⟩,⟨false,tB,.fz⟩]
def yi4 (a0:dM) (a1:Int) (a2:List Int):Option (ResD ym0×MutD yd5) :=
  let r1:=yaH a0
  let r2:=yay a0
  bif (!(!r2)) then
    bif (!a0.2.2.1) then
      let r3:=yaC a0 a1
      bif (!(!r3)) then
        let r4:=yfW a2
        bif (!(!r4)) then
          bif ((a0.2.1.length:Int)==60) then
            some ((r1,false,()),())
          else
            let r5:=yj a2
            bif (zj4 r1.2.1.length ([(a1,r5)]:List dW).length 32) then
              let r6:=yaV r1.2.2.2 a1
              some (((r1.1,(r1.2.1++([(a1,r5)]:List dW)),r1.2.2.1,r6),true,()),())
            else none
        else
          some ((r1,false,()),())
      else
        some ((r1,false,()),())
    else
      some ((r1,false,()),())
  else
    some ((r1,false,()),())
theorem yPE (x:InD yd5):zjH ⟨yCO,51,yJq⟩ Tryz.f155.results.toList yCb yd5 ym0 x=yi4 x.1 x.2.1 x.2.2.1:=by kernel_rfl
theorem yKU:ConOk Tryz.prog 155 ⟨yd5,ym0,fun x=>yi4 x.1 x.2.1 x.2.2.1⟩:=zkh (yHY) Tryz.func155 (by kernel_rfl) (by kernel_rfl) Tryz.ntmps155.symm (by decide) (fun x r h=>(yPE x).trans h)
def yh8 (a0:dM) (a1:Int) (a2:List Int):dM×Bool:=yip a0 a1 a2
theorem yNG (a0:dM) (a1:Int) (a2:List Int) (hk:zi9 yd5 (a0,a1,a2,())):yi4 a0 a1 a2=(fun n=>some ((n.1,n.2,()),())) (yh8 a0 a1 a2):=by
  have hb1:a0.1.length * 24≤2 ^ 47:=hk.1.1.1
  unfold yi4 yh8 yip yvA
  simp only [yaH,yay,yaC,yV,yq8 (show a0.1.length≤1152921504606846976 by omega),yDM,yj,yaV]
  cases hm:yo a0
  · rfl
  have hc:=(yfe hm).2.2.2.2.2
  cases a0.2.2.1
  · cases inb a1 a0.1.length
    · rfl
    cases ybc a2
    · rfl
    by_cases h:(a0.2.1.length:Int) < 60
    · rw [zjI h,show ((a0.2.1.length:Int)==60)=false from beq_eq_false_iff_ne.2 (by omega),zkw.2 (show (a0.2.1.length+ [(a1,a2)].length) * 32≤140737488355328 by simp only [List.length_cons,List.length_nil]; omega)]; rfl
    · rw [zkm (by omega),show ((a0.2.1.length:Int)==60)=true from beq_iff_eq.2 (by omega)]; rfl
  · rfl
def yyJ:Con:=⟨yd5,ym0,fun x=>(fun n=>some ((n.1,n.2,()),())) (yh8 x.1 x.2.1 x.2.2.1)⟩
theorem yOl:ConOk Tryz.prog 155 yyJ:=(yKU).mono (fun x r hk h=>(yNG x.1 x.2.1 x.2.2.1 hk).trans h)
end
section
def yzU:Code:=(Tryz.f78.body).getD .skip
def yAr:Env:=zki TT [(154,yua),(155,yyJ)] []
theorem yGt:FrOk Tryz.prog ⟨yAr,39,fun _=>none⟩ yzU:=zkp yb yc ⟨yEZ,yOl,trivial⟩
def yHb:Nat→Option Seg:=fun _=>none
abbrev ybF:List Par:= [.pt tA (.pr .fz (.pr (.pr .fz .fz) (.pr (.ow (.pr (.ow (.ow .fz)) (.pr (.ow (.pr .fz (.ow .fz))) (.pr .fz (.ow .fz))))) (.pr .fz (.pr .fz (.pr .fz (.pr .fz (.pr .fz (.pr (.ow (.pr .fz (.ow .fz))) (.pr .fz (.pr .fz .fz))))))))))),.rd tI,.rd tI,.rd tL]
abbrev yfP:List OT:= [⟨false,tB,.fz⟩]
def yij (a0:dA) (a1:Int) (a2:Int) (a3:List Int):Option (ResD yfP×MutD ybF) :=
  bif (inb a1 a0.2.2.1.length) then
    bif (((nth a0.2.2.1 a1 ([],[],false,[])).2).2).1 then
      some ((true,()),(a0,()))
    else
      let r1:=ygF a0
      bif (!r1.1) then
        some ((false,()),(r1.2,()))
      else
        bif (inb a1 r1.2.2.2.1.length) then
          let r2:=yh8 ((nth r1.2.2.2.1 a1 ([],[],false,[])).1,((nth r1.2.2.2.1 a1 ([],[],false,[])).2).1,(((nth r1.2.2.2.1 a1 ([],[],false,[])).2).2)) a2 a3
          bif (inb a1 r1.2.2.2.1.length) then
            some ((true,()),((r1.2.1,r1.2.2.1,(r1.2.2.2.1.set (a1).toNat r2.1),r1.2.2.2.2),()))
          else none
        else none
  else none
theorem yMc (x:InD ybF):zjH ⟨yAr,39,yHb⟩ Tryz.f78.results.toList yzU ybF yfP x=yij x.1 x.2.1 x.2.2.1 x.2.2.2.1:=by kernel_rfl
theorem yIT:ConOk Tryz.prog 78 ⟨ybF,yfP,fun x=>yij x.1 x.2.1 x.2.2.1 x.2.2.2.1⟩:=zkh (yGt) Tryz.func78 (by kernel_rfl) (by kernel_rfl) Tryz.ntmps78.symm (by decide) (fun x r h=>(yMc x).trans h)
def ybN (a0:dA) (a1 a2:Int) (a3:List Int):Bool×dA:=(!(yd (yfb a0 a1 a2 a3)),yfb a0 a1 a2 a3)
def ybO (a0:dA) (a1 a2:Int) (a3:List Int):Bool:=inb a1 a0.2.2.1.length&& !(yd a0)
theorem yKK (a0:dA) (a1 a2:Int) (a3:List Int) (hk:zi9 ybF (a0,a1,a2,a3,())) (hq:ybO a0 a1 a2 a3=true):yij a0 a1 a2 a3=(fun n=>some ((n.1,()),(n.2,()))) (ybN a0 a1 a2 a3):=by
  simp only [ybO,Bool.and_eq_true,Bool.not_eq_true'] at hq
  unfold yij ybN
  simp only [yYn hq.2]
  unfold yfb yBL
  simp only [yQE hq.2,ydD,hq.1,zkV,yh8]
  cases (nth a0.2.2.1 a1 yh).2.2.1<;>cases (opA a0).1<;>rfl
def ydB (a0:dA) (a1:Int) (a2:Int) (a3:List Int):Option (ResD yfP×MutD ybF):=bif ybO a0 a1 a2 a3 then (fun n=>some ((n.1,()),(n.2,()))) (ybN a0 a1 a2 a3) else none
theorem yqG (a0:dA) (a1:Int) (a2:Int) (a3:List Int) (h:ybO a0 a1 a2 a3=true):ydB a0 a1 a2 a3=(fun n=>some ((n.1,()),(n.2,()))) (ybN a0 a1 a2 a3):=by unfold ydB; rw [h]; rfl
def yhX:Con:=⟨ybF,yfP,fun x=>ydB x.1 x.2.1 x.2.2.1 x.2.2.2.1⟩
theorem yqE:ConOk Tryz.prog 78 yhX:=(yIT).mono (fun x r hk h=>zkW h (fun hq=>yKK x.1 x.2.1 x.2.2.1 x.2.2.2.1 hk hq))
end
section
def yFz:Code:=(Tryz.f167.body).getD .skip
def yFU:Env:=zki TT [(230,yvB)] []
theorem yMm:FrOk Tryz.prog ⟨yFU,17,fun _=>none⟩ yFz:=zkp yb yc ⟨yGe,trivial⟩
def yOZ:Nat→Option Seg:=fun _=>none
abbrev ygm:List Par:= [.rd tN]
abbrev yrw:List OT:= [⟨false,tL,(.ow .fz)⟩]
def ynB (a0:dN):Option (ResD yrw×MutD ygm) :=
  let r1:=yj4 a0
  bif (!r1) then
    some (([],()),())
  else
    bif (zj4 ([21322,a0.1,a0.2.1,(a0.2.2.length:Int)]:List Int).length a0.2.2.length 8) then
      some (((([21322,a0.1,a0.2.1,(a0.2.2.length:Int)]:List Int)++a0.2.2),()),())
    else none
theorem yU6 (x:InD ygm):zjH ⟨yFU,17,yOZ⟩ Tryz.f167.results.toList yFz ygm yrw x=ynB x.1:=by kernel_rfl
theorem yQ8:ConOk Tryz.prog 167 ⟨ygm,yrw,fun x=>ynB x.1⟩:=zkh (yMm) Tryz.func167 (by kernel_rfl) (by kernel_rfl) Tryz.ntmps167.symm (by decide) (fun x r h=>(yU6 x).trans h)
def yl0 (a0:dN):List Int:=yoQ a0
theorem yTg (a0:dN) (hk:zi9 ygm (a0,())):ynB a0=(fun n=>some ((n,()),())) (yl0 a0):=by
  unfold ynB yl0 yoQ
  simp only [yLJ]
  cases hr:ym a0
  · rfl
  · have:=(yJf.1 hr).2.2.1
    rw [zkw.2 (show (([21322,a0.1,a0.2.1,(a0.2.2.length:Int)]:List Int).length+a0.2.2.length) * 8≤140737488355328 by simp only [List.length_cons,List.length_nil]; omega)]; rfl
def yDf:Con:=⟨ygm,yrw,fun x=>(fun n=>some ((n,()),())) (yl0 x.1)⟩
theorem yUj:ConOk Tryz.prog 167 yDf:=(yQ8).mono (fun x r hk h=>(yTg x.1 hk).trans h)
end
section
def ygO:Code:=(Tryz.f231.body).getD .skip
def ymH:Env:=zki TT [(132,yjT),(151,ya8),(215,ykW)] []
theorem yHU:FrOk Tryz.prog ⟨ymH,34,fun _=>none⟩ ygO:=zkp yb yc ⟨yr3,ydC,yuu,trivial⟩
def yx1:Nat→Option Seg:=fun _=>none
def yau:Shape:=⟨[(2,false,[.ptr 64 0]),(3,false,[.ptr 4224 0]),(17,false,[.br tW]),(18,false,[.int .i64]),(19,false,[.int .i64])],[(64,[.nil,.nil,.bool,.nil]),(4224,[.at 800000000,.at 800000001,.bool,.at 800000002])],[(800000000,tL,(.ow .fz)),(800000001,tW,(.pr .fz (.ow .fz))),(800000002,tI,.fz)]⟩
def ydS:Shape:=⟨[(2,false,[.ptr 64 0]),(3,false,[.ptr 4224 0]),(17,false,[.br tW]),(18,false,[.int .i64]),(19,false,[.ci .i64 0])],[(64,[.nil,.nil,.bool,.nil]),(4224,[.at 800000000,.at 800000001,.bool,.at 800000002])],[(800000000,tL,(.ow .fz)),(800000001,tW,(.pr .fz (.ow .fz))),(800000002,tI,.fz)]⟩
def ydN:Shape:=⟨[(2,false,[.ptr 64 0]),(3,false,[.ptr 4224 0])],[(64,[.nil,.nil,.bool,.nil]),(4224,[.at 800000000,.at 800000001,.bool,.at 800000002])],[(800000000,tL,(.ow .fz)),(800000001,tW,(.pr .fz (.ow .fz))),(800000002,tI,.fz)]⟩
def yhI:Shape:=⟨[],[],[]⟩
abbrev ymi (v0:List dW) (v1:Int) (v2:Int) (v3:dM) (v4:dM):(yau).X:=((((),()),((),()),(v0,()),(v1,()),(v2,()),()),(((),(),v3.2.2.1,(),()),((),(),v4.2.2.1,(),()),()),(v4.1,v4.2.1,v4.2.2.2,()))
abbrev yGE (v0:List dW) (v1:Int) (v2:dM) (v3:dM):(ydS).X:=((((),()),((),()),(v0,()),(v1,()),((),()),()),(((),(),v2.2.2.1,(),()),((),(),v3.2.2.1,(),()),()),(v3.1,v3.2.1,v3.2.2.2,()))
abbrev yvj (v0:dM) (v1:dM):(ydN).X:=((((),()),((),()),()),(((),(),v0.2.2.1,(),()),((),(),v1.2.2.1,(),()),()),(v1.1,v1.2.1,v1.2.2.2,()))
def ymu (v0:List dW) (v1:Int) (v2:Int) (v3:Bool) (v4:Bool) (v5:List (List Int)) (v6:List dW) (v7:List Int):Option ((yau).X ⊕ ((ydN).X ⊕ (yhI).X)) :=
  bif (ltb v2 v1) then
    bif (inb v2 v0.length) then
      let r4:=yj ((nth v0 v2 (0,[])).2)
      bif (inb ((nth v0 v2 (0,[])).1) v5.length) then
        some (.inl ((((),()),((),()),(v0,()),(v1,()),((IntKind.i64.wrap (v2+1)),()),()),(((),(),v3,(),()),((),(),v4,(),()),()),((v5.set ((nth v0 v2 (0,[])).1).toNat r4),v6,v7,())))
      else none
    else none
  else
    some (.inr (.inl ((((),()),((),()),()),(((),(),v3,(),()),((),(),v4,(),()),()),(v5,v6,v7,()))))
def yaL (x:(yau).X):=ymu x.1.2.2.1.1 x.1.2.2.2.1.1 x.1.2.2.2.2.1.1 x.2.1.1.2.2.1 x.2.1.2.1.2.2.1 x.2.2.1 x.2.2.2.1 x.2.2.2.2.1
def yuZ (x:(ydS).X):(yau).X:=((((),()),((),()),(x.1.2.2.1.1,()),(x.1.2.2.2.1.1,()),(0,()),()),(((),(),x.2.1.1.2.2.1,(),()),((),(),x.2.1.2.1.2.2.1,(),()),()),(x.2.2.1,x.2.2.2.1,x.2.2.2.2.1,()))
def ywo:Code:=(zdI ygO 64 244).getD .skip
theorem yHy:zdI ygO 64 61=some (.block 0 (.loop ywo)):=by kernel_rfl
theorem yI6 (x:(yau).X):zg7 ⟨ymH,34,yx1⟩ 0 ywo 244 yau ydN yhI x=yaL x:=by kernel_rfl
def yva (x:(ydS).X):Nat:=(fun (u0:List dW) (u1:Int) (u2:Bool) (u3:Bool) (u4:List (List Int)) (u5:List dW) (u6:List Int)=>18446744073709551616) x.1.2.2.1.1 x.1.2.2.2.1.1 x.2.1.1.2.2.1 x.2.1.2.1.2.2.1 x.2.2.1 x.2.2.2.1 x.2.2.2.2.1
def yn9 (x:(ydS).X):Option ((ydN).X ⊕ (yhI).X):=zr yaL (yva x) (yuZ x)
def yvn:Seg:=⟨ydS,ydN,yhI,yn9⟩
def yx2:Nat→Option Seg:=fun q=>bif Nat.beq q 61 then some yvn else yx1 q
theorem yHV:FrOk Tryz.prog ⟨ymH,34,yx2⟩ ygO:=(yHU).loop (sg:=yvn) yau yuZ (by decide) yHy yaL yva (by decide) (fun _=>rfl) (fun x r _ h=>h) yI6
abbrev yd3:List Par:= [.rd tM]
abbrev ymX:List OT:= [⟨false,tM,(.pr (.ow (.ow .fz)) (.pr (.ow (.pr .fz (.ow .fz))) (.pr .fz (.ow .fz))))⟩]
def yi2 (a0:dM):Option (ResD ymX×MutD yd3) :=
  let r1:=yaH a0
  let r2:=yay a0
  bif (!(!r2)) then
    bif a0.2.2.1 then
      some ((r1,()),())
    else
      zjw (yn9 ((((),()),((),()),(a0.2.1,()),((a0.2.1.length:Int),()),((),()),()),(((),(),false,(),()),((),(),r1.2.2.1,(),()),()),(r1.1,r1.2.1,r1.2.2.2,()))) (fun y4 =>
        some (((y4.2.2.1,[],y4.2.1.2.1.2.2.1,y4.2.2.2.2.1),()),())) (fun y4 =>
        none)
  else
    some ((r1,()),())
theorem yPB (x:InD yd3):zjH ⟨ymH,34,yx2⟩ Tryz.f231.results.toList ygO yd3 ymX x=yi2 x.1:=by kernel_rfl
theorem yKR:ConOk Tryz.prog 231 ⟨yd3,ymX,fun x=>yi2 x.1⟩:=zkh (yHV) Tryz.func231 (by kernel_rfl) (by kernel_rfl) Tryz.ntmps231.symm (by decide) (fun x r h=>(yPB x).trans h)
def yh6 (a0:dM):dM:=yfT a0
theorem yND (a0:dM) (hk:zi9 yd3 (a0,())):yi2 a0=(fun n=>some ((n,()),())) (yh6 a0):=by
  have hb2:a0.2.1.length * 32≤2 ^ 47:=hk.1.2.1.1
  unfold yi2 yh6 yfT
  simp only [yaH,yay]
  cases hm:yo a0
  · rfl
  have h1:yn9 (yGE a0.2.1 a0.2.1.length yh a0)=some (.inl (yvj yh (ydz (fun _=>true) a0.2.1 a0.1,a0.2))) :=
    zks (step:=yaL) a0.2.1.length (fun i s=>ymi a0.2.1 a0.2.1.length i yh (s,a0.2)) (ye5 (fun _=>true) a0.2.1) (fun i s=>s.length=a0.1.length) (fun s=> .inl (yvj yh (s,a0.2))) (fun i s hi hs=>by
      have hw:=(yXa hm hi).1
      refine ⟨?_,yFh.trans hs⟩
      simp only [yaL,ymi,ymu,zjI (show (i:Int) < a0.2.1.length by omega),cond_true,wr (show -9223372036854775808≤(i:Int)+1 by omega) (by omega),Int.natCast_add,Int.natCast_one,Int.toNat_natCast,zkO hi,hs,hw,ye5,yj]) (fun s hs=>by simp only [yaL,ymi,ymu,zkm (Int.le_refl _),cond_false]) a0.1 rfl _ (by show _ < 18446744073709551616; omega)
  rw [h1]
  cases hf:a0.2.2.1
  · exact congrArg (fun z=>some (((ydz (fun _=>true) a0.2.1 a0.1,([]:List dW),z,a0.2.2.2),()),())) hf
  · rfl
def yyH:Con:=⟨yd3,ymX,fun x=>(fun n=>some ((n,()),())) (yh6 x.1)⟩
theorem yOj:ConOk Tryz.prog 231 yyH:=(yKR).mono (fun x r hk h=>(yND x.1 hk).trans h)
end
section
def ygN:Code:=(Tryz.f168.body).getD .skip
def ymG:Env:=zki TT [(154,yua),(231,yyH)] []
theorem yHS:FrOk Tryz.prog ⟨ymG,38,fun _=>none⟩ ygN:=zkp yb yc ⟨yEZ,yOj,trivial⟩
def yxZ:Nat→Option Seg:=fun _=>none
def yat:Shape:=⟨[(0,false,[.ptr 1000000000 0]),(8,false,[.int .i64]),(9,false,[.int .i64])],[(1000000000,[.int .i64,.int .i64,.int .i64,.at 800000000,.int .i64,.int .i64,.int .i64,.int .i64,.int .i64,.at 800000001,.int .i64,.bool,.bool])],[(800000000,tM,(.pr (.ow (.ow .fz)) (.pr (.ow (.pr .fz (.ow .fz))) (.pr .fz (.ow .fz))))),(800000001,tW,(.pr .fz (.ow .fz)))]⟩
def ydR:Shape:=⟨[(0,false,[.ptr 1000000000 0]),(8,false,[.int .i64]),(9,false,[.ci .i64 0])],[(1000000000,[.int .i64,.int .i64,.int .i64,.at 800000000,.int .i64,.int .i64,.int .i64,.int .i64,.int .i64,.at 800000001,.int .i64,.bool,.bool])],[(800000000,tM,(.pr (.ow (.ow .fz)) (.pr (.ow (.pr .fz (.ow .fz))) (.pr .fz (.ow .fz))))),(800000001,tW,(.pr .fz (.ow .fz)))]⟩
def ydM:Shape:=⟨[],[(1000000000,[.int .i64,.int .i64,.int .i64,.at 800000000,.int .i64,.int .i64,.int .i64,.int .i64,.int .i64,.at 800000001,.int .i64,.bool,.bool])],[(800000000,tM,(.pr (.ow (.ow .fz)) (.pr (.ow (.pr .fz (.ow .fz))) (.pr .fz (.ow .fz))))),(800000001,tW,(.pr .fz (.ow .fz)))]⟩
def ydW:Shape:=⟨[(2,false,[.bool])],[(1000000000,[.int .i64,.int .i64,.int .i64,.at 800000000,.int .i64,.int .i64,.int .i64,.int .i64,.int .i64,.at 800000001,.int .i64,.bool,.bool])],[(800000000,tM,(.pr (.ow (.ow .fz)) (.pr (.ow (.pr .fz (.ow .fz))) (.pr .fz (.ow .fz))))),(800000001,tW,(.pr .fz (.ow .fz)))]⟩
abbrev ygf (v0:Int) (v1:Int) (v2:dA):(yat).X:=((((),()),(v0,()),(v1,()),()),((v2.1,v2.2.1.1,v2.2.1.2,(),v2.2.2.2.1,v2.2.2.2.2.1,v2.2.2.2.2.2.1,v2.2.2.2.2.2.2.1,v2.2.2.2.2.2.2.2.1,(),v2.2.2.2.2.2.2.2.2.2.1,v2.2.2.2.2.2.2.2.2.2.2.1,v2.2.2.2.2.2.2.2.2.2.2.2,()),()),(v2.2.2.1,v2.2.2.2.2.2.2.2.2.1,()))
abbrev yGD (v0:Int) (v1:dA):(ydR).X:=((((),()),(v0,()),((),()),()),((v1.1,v1.2.1.1,v1.2.1.2,(),v1.2.2.2.1,v1.2.2.2.2.1,v1.2.2.2.2.2.1,v1.2.2.2.2.2.2.1,v1.2.2.2.2.2.2.2.1,(),v1.2.2.2.2.2.2.2.2.2.1,v1.2.2.2.2.2.2.2.2.2.2.1,v1.2.2.2.2.2.2.2.2.2.2.2,()),()),(v1.2.2.1,v1.2.2.2.2.2.2.2.2.1,()))
abbrev ymm (v0:dA):(ydM).X:=((),((v0.1,v0.2.1.1,v0.2.1.2,(),v0.2.2.2.1,v0.2.2.2.2.1,v0.2.2.2.2.2.1,v0.2.2.2.2.2.2.1,v0.2.2.2.2.2.2.2.1,(),v0.2.2.2.2.2.2.2.2.2.1,v0.2.2.2.2.2.2.2.2.2.2.1,v0.2.2.2.2.2.2.2.2.2.2.2,()),()),(v0.2.2.1,v0.2.2.2.2.2.2.2.2.1,()))
abbrev ymo (v0:Bool) (v1:dA):(ydW).X:=(((v0,()),()),((v1.1,v1.2.1.1,v1.2.1.2,(),v1.2.2.2.1,v1.2.2.2.2.1,v1.2.2.2.2.2.1,v1.2.2.2.2.2.2.1,v1.2.2.2.2.2.2.2.1,(),v1.2.2.2.2.2.2.2.2.2.1,v1.2.2.2.2.2.2.2.2.2.2.1,v1.2.2.2.2.2.2.2.2.2.2.2,()),()),(v1.2.2.1,v1.2.2.2.2.2.2.2.2.1,()))
def ymt (v0:Int) (v1:Int) (v2:Int) (v3:Int) (v4:Int) (v5:Int) (v6:Int) (v7:Int) (v8:Int) (v9:Int) (v10:Int) (v11:Bool) (v12:Bool) (v13:List dM) (v14:List dW):Option ((yat).X ⊕ ((ydM).X ⊕ (ydW).X)) :=
  bif (ltb v1 v0) then
    bif (inb v1 v13.length) then
      bif (((nth v13 v1 ([],[],false,[])).2).2).1 then
        some (.inl ((((),()),(v0,()),((IntKind.i64.wrap (v1+1)),()),()),((v2,v3,v4,(),v5,v6,v7,v8,v9,(),v10,v11,v12,()),()),(v13,v14,())))
      else
        let r3:=ygF (v2,(v3,v4),v13,v5,v6,v7,v8,v9,v14,v10,v11,v12)
        bif (!r3.1) then
          some (.inr (.inr (((false,()),()),((r3.2.1,r3.2.2.1.1,r3.2.2.1.2,(),r3.2.2.2.2.1,r3.2.2.2.2.2.1,r3.2.2.2.2.2.2.1,r3.2.2.2.2.2.2.2.1,r3.2.2.2.2.2.2.2.2.1,(),r3.2.2.2.2.2.2.2.2.2.2.1,r3.2.2.2.2.2.2.2.2.2.2.2.1,r3.2.2.2.2.2.2.2.2.2.2.2.2,()),()),(r3.2.2.2.1,r3.2.2.2.2.2.2.2.2.2.1,()))))
        else
          bif (inb v1 r3.2.2.2.1.length) then
            let r4:=yh6 ((nth r3.2.2.2.1 v1 ([],[],false,[])).1,((nth r3.2.2.2.1 v1 ([],[],false,[])).2).1,(((nth r3.2.2.2.1 v1 ([],[],false,[])).2).2))
            bif (inb v1 r3.2.2.2.1.length) then
              some (.inl ((((),()),(v0,()),((IntKind.i64.wrap (v1+1)),()),()),((r3.2.1,r3.2.2.1.1,r3.2.2.1.2,(),r3.2.2.2.2.1,r3.2.2.2.2.2.1,r3.2.2.2.2.2.2.1,r3.2.2.2.2.2.2.2.1,r3.2.2.2.2.2.2.2.2.1,(),r3.2.2.2.2.2.2.2.2.2.2.1,r3.2.2.2.2.2.2.2.2.2.2.2.1,r3.2.2.2.2.2.2.2.2.2.2.2.2,()),()),((r3.2.2.2.1.set (v1).toNat r4),r3.2.2.2.2.2.2.2.2.2.1,())))
            else none
          else none
    else none
  else
    some (.inr (.inl ((),((v2,v3,v4,(),v5,v6,v7,v8,v9,(),v10,v11,v12,()),()),(v13,v14,()))))
def yaK (x:(yat).X):=ymt x.1.2.1.1 x.1.2.2.1.1 x.2.1.1.1 x.2.1.1.2.1 x.2.1.1.2.2.1 x.2.1.1.2.2.2.2.1 x.2.1.1.2.2.2.2.2.1 x.2.1.1.2.2.2.2.2.2.1 x.2.1.1.2.2.2.2.2.2.2.1 x.2.1.1.2.2.2.2.2.2.2.2.1 x.2.1.1.2.2.2.2.2.2.2.2.2.2.1 x.2.1.1.2.2.2.2.2.2.2.2.2.2.2.1 x.2.1.1.2.2.2.2.2.2.2.2.2.2.2.2.1 x.2.2.1 x.2.2.2.1
def yuY (x:(ydR).X):(yat).X:=((((),()),(x.1.2.1.1,()),(0,()),()),((x.2.1.1.1,x.2.1.1.2.1,x.2.1.1.2.2.1,(),x.2.1.1.2.2.2.2.1,x.2.1.1.2.2.2.2.2.1,x.2.1.1.2.2.2.2.2.2.1,x.2.1.1.2.2.2.2.2.2.2.1,x.2.1.1.2.2.2.2.2.2.2.2.1,(),x.2.1.1.2.2.2.2.2.2.2.2.2.2.1,x.2.1.1.2.2.2.2.2.2.2.2.2.2.2.1,x.2.1.1.2.2.2.2.2.2.2.2.2.2.2.2.1,()),()),(x.2.2.1,x.2.2.2.1,()))
def ywn:Code:=(zdI ygN 64 52).getD .skip
theorem yHx:zdI ygN 64 13=some (.block 0 (.loop ywn)):=by kernel_rfl
theorem yI5 (x:(yat).X):zg7 ⟨ymG,38,yxZ⟩ 0 ywn 52 yat ydM ydW x=yaK x:=by kernel_rfl
def yu9 (x:(ydR).X):Nat:=(fun (u0:Int) (u1:Int) (u2:Int) (u3:Int) (u4:Int) (u5:Int) (u6:Int) (u7:Int) (u8:Int) (u9:Int) (u10:Bool) (u11:Bool) (u12:List dM) (u13:List dW)=>18446744073709551616) x.1.2.1.1 x.2.1.1.1 x.2.1.1.2.1 x.2.1.1.2.2.1 x.2.1.1.2.2.2.2.1 x.2.1.1.2.2.2.2.2.1 x.2.1.1.2.2.2.2.2.2.1 x.2.1.1.2.2.2.2.2.2.2.1 x.2.1.1.2.2.2.2.2.2.2.2.1 x.2.1.1.2.2.2.2.2.2.2.2.2.2.1 x.2.1.1.2.2.2.2.2.2.2.2.2.2.2.1 x.2.1.1.2.2.2.2.2.2.2.2.2.2.2.2.1 x.2.2.1 x.2.2.2.1
def yn8 (x:(ydR).X):Option ((ydM).X ⊕ (ydW).X):=zr yaK (yu9 x) (yuY x)
def yvm:Seg:=⟨ydR,ydM,ydW,yn8⟩
def yx0:Nat→Option Seg:=fun q=>bif Nat.beq q 13 then some yvm else yxZ q
theorem yHT:FrOk Tryz.prog ⟨ymG,38,yx0⟩ ygN:=(yHS).loop (sg:=yvm) yat yuY (by decide) yHx yaK yu9 (by decide) (fun _=>rfl) (fun x r _ h=>h) yI5
abbrev ycl:List Par:= [.pt tA (.pr .fz (.pr (.pr .fz .fz) (.pr (.ow (.pr (.ow (.ow .fz)) (.pr (.ow (.pr .fz (.ow .fz))) (.pr .fz (.ow .fz))))) (.pr .fz (.pr .fz (.pr .fz (.pr .fz (.pr .fz (.pr (.ow (.pr .fz (.ow .fz))) (.pr .fz (.pr .fz .fz)))))))))))]
abbrev yhE:List OT:= [⟨false,tB,.fz⟩]
def yi1 (a0:dA):Option (ResD yhE×MutD ycl) :=
  zjw (yn8 ((((),()),((a0.2.2.1.length:Int),()),((),()),()),((a0.1,a0.2.1.1,a0.2.1.2,(),a0.2.2.2.1,a0.2.2.2.2.1,a0.2.2.2.2.2.1,a0.2.2.2.2.2.2.1,a0.2.2.2.2.2.2.2.1,(),a0.2.2.2.2.2.2.2.2.2.1,a0.2.2.2.2.2.2.2.2.2.2.1,a0.2.2.2.2.2.2.2.2.2.2.2,()),()),(a0.2.2.1,a0.2.2.2.2.2.2.2.2.1,()))) (fun y4 =>
    some ((true,()),((y4.2.1.1.1,(y4.2.1.1.2.1,y4.2.1.1.2.2.1),y4.2.2.1,y4.2.1.1.2.2.2.2.1,y4.2.1.1.2.2.2.2.2.1,y4.2.1.1.2.2.2.2.2.2.1,y4.2.1.1.2.2.2.2.2.2.2.1,y4.2.1.1.2.2.2.2.2.2.2.2.1,y4.2.2.2.1,y4.2.1.1.2.2.2.2.2.2.2.2.2.2.1,y4.2.1.1.2.2.2.2.2.2.2.2.2.2.2.1,y4.2.1.1.2.2.2.2.2.2.2.2.2.2.2.2.1),()))) (fun y4 =>
    some ((y4.1.1.1,()),((y4.2.1.1.1,(y4.2.1.1.2.1,y4.2.1.1.2.2.1),y4.2.2.1,y4.2.1.1.2.2.2.2.1,y4.2.1.1.2.2.2.2.2.1,y4.2.1.1.2.2.2.2.2.2.1,y4.2.1.1.2.2.2.2.2.2.2.1,y4.2.1.1.2.2.2.2.2.2.2.2.1,y4.2.2.2.1,y4.2.1.1.2.2.2.2.2.2.2.2.2.2.1,y4.2.1.1.2.2.2.2.2.2.2.2.2.2.2.1,y4.2.1.1.2.2.2.2.2.2.2.2.2.2.2.2.1),())))
theorem yPA (x:InD ycl):zjH ⟨ymG,38,yx0⟩ Tryz.f168.results.toList ygN ycl yhE x=yi1 x.1:=by kernel_rfl
theorem yKQ:ConOk Tryz.prog 168 ⟨ycl,yhE,fun x=>yi1 x.1⟩:=zkh (yHT) Tryz.func168 (by kernel_rfl) (by kernel_rfl) Tryz.ntmps168.symm (by decide) (fun x r h=>(yPA x).trans h)
def yh5 (a0:dA):Bool×dA:=(!(yd (yH a0)),yH a0)
def yeo (a0:dA):Bool:= !(yd a0)
theorem yNC (a0:dA) (hk:zi9 ycl (a0,())) (hq:yeo a0=true):yi1 a0=(fun n=>some ((n.1,()),(n.2,()))) (yh5 a0):=by
  have hb:a0.2.2.1.length * 80≤2 ^ 47:=hk.1.2.2.1.1
  have h1:yn8 (yGD a0.2.2.1.length a0)=some (bif yd (yH a0) then .inr (ymo false (yH a0)) else .inl (ymm (yH a0))):=by
    have:=zkr (step:=yaK) a0.2.2.1.length (fun i s=>ygf a0.2.2.1.length i s) (fun i s=>bif yd (yF s i) then (.inr (yF s i):dA ⊕ dA) else .inl (yF s i)) (fun _ s=>s.2.2.1.length=a0.2.2.1.length∧yd s=false) id
      (fun b=>bif yd b then .inr (ymo false b) else .inl (ymm b)) (fun i s hi hs=>by
        constructor
        · rw [yXt hs.2]
          simp only [yaK,ygf,ymt,hs.1,zjI (show (i:Int) < a0.2.2.1.length by omega),cond_true,wr (show -9223372036854775808≤(i:Int)+1 by omega) (by omega),Int.natCast_add,Int.natCast_one,Int.toNat_natCast,zkO hi,zkV,yQE hs.2,ydD,yh6]
          cases hf:(nth s.2.2.1 i yh).2.2.1
          · cases ho:(opA s).1
            · have e:yF s i=(opA s).2:=by unfold yF; rw [hf,ho]; rfl
              have d:yd (opA s).2=true:=by rw [yUE hs.2,ho]; rfl
              rw [e]
              simp only [Bool.not_false,Bool.and_self,cond_true,cond_false,d,ydD,ymo]
            · have e:yF s i=yBL (opA s).2 i (yfT (nth s.2.2.1 i yh)):=by unfold yF; rw [hf,ho]; rfl
              rw [e]
              simp only [Bool.not_true,Bool.not_false,Bool.and_false,cond_true,cond_false,ygf,yBL,ydD,Int.toNat_natCast]
          · have e:yF s i=s:=by unfold yF; rw [hf]; rfl
            rw [e]; rfl
        · intro s' h
          cases hd:yd (yF s i)
          · rw [hd]at h
            cases h
            exact ⟨(ywc s i).trans hs.1,hd⟩
          · rw [hd]at h; cases h) (fun s hs=>by simp only [yaK,ygf,ymt,hs.2,zkm (Int.le_refl _),cond_false,id,ymm]) a0 ⟨rfl,by simpa [yeo] using hq⟩ 18446744073709551616 (by omega)
    rw [yBy (fun a i h=>yJi i h),← List.range_eq_range'] at this
    exact this
  unfold yi1 yh5
  rw [h1]
  cases hd:yd (yH a0)<;>rfl
def yen (a0:dA):Option (ResD yhE×MutD ycl):=bif yeo a0 then (fun n=>some ((n.1,()),(n.2,()))) (yh5 a0) else none
theorem ysD (a0:dA) (h:yeo a0=true):yen a0=(fun n=>some ((n.1,()),(n.2,()))) (yh5 a0):=by unfold yen; rw [h]; rfl
def yiV:Con:=⟨ycl,yhE,fun x=>yen x.1⟩
theorem ysC:ConOk Tryz.prog 168 yiV:=(yKQ).mono (fun x r hk h=>zkW h (fun hq=>yNC x.1 hk hq))
end
end
end Go.Tf
