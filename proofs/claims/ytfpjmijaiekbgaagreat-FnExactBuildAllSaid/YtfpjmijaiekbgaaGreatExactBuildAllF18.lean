/- Functions of the program, and what they come to. -/
import Derived.Test.YtfpjmijaiekbgaaGreatExactBuildAllF17
namespace Go.Tf
noncomputable section
open Go.Proofs
set_option synthInstance.maxHeartbeats 400000
set_option synthInstance.maxSize 10000
set_option linter.unusedVariables false
set_option linter.unusedSimpArgs false
set_option maxRecDepth 100000
section
def yaY:Code:=(Tryz.f216.body).getD .skip
def yc0:Env:=zki TT [(217,ylD),(251,ynN)] []
theorem ywv:FrOk Tryz.prog ⟨yc0,42,fun _=>none⟩ yaY:=zkp yb yc ⟨ywc,yAQ,trivial⟩
def ylY:Nat→Option Seg:=fun _=>none
def yq:Shape:=⟨[(0,false,[.at 800000000]),(1,false,[.fx 217 tI]),(5,false,[.int .i64]),(6,false,[.int .i64])],[],[(800000000,tI,.fz)]⟩
def y9:Shape:=⟨[(0,false,[.at 800000000]),(1,false,[.fx 217 tI]),(5,false,[.int .i64]),(6,false,[.int .i64])],[],[(800000000,tI,.fz)]⟩
def y5:Shape:=⟨[(0,false,[.at 800000000]),(5,false,[.int .i64])],[],[(800000000,tI,.fz)]⟩
def ybx:Shape:=⟨[],[],[]⟩
abbrev ya9 (v0:Int) (v1:Int) (v2:Int) (v3:List Int):(yq).X:=((((),()),(v0,()),(v1,()),(v2,()),()),(),(v3,()))
abbrev ywb (v0:Int) (v1:Int) (v2:Int) (v3:List Int):(y9).X:=((((),()),(v0,()),(v1,()),(v2,()),()),(),(v3,()))
abbrev yv9 (v0:Int) (v1:List Int):(y5).X:=((((),()),(v0,()),()),(),(v1,()))
def yd2 (v0:Int) (v1:Int) (v2:Int) (v3:List Int):Option ((yq).X ⊕ ((y5).X ⊕ (ybx).X)) :=
  bif (ltb v2 (v3.length:Int)) then
    bif (inb v2 v3.length) then
      let r3:=ycL (nth v3 v2 0) v0
      bif (!r3) then
        bif (inb v1 v3.length) then
          some (.inl ((((),()),(v0,()),((IntKind.i64.wrap (v1+1)),()),((IntKind.i64.wrap (v2+1)),()),()),(),((v3.set (v1).toNat (nth v3 v2 0)),())))
        else none
      else
        some (.inl ((((),()),(v0,()),(v1,()),((IntKind.i64.wrap (v2+1)),()),()),(),(v3,())))
    else none
  else
    some (.inr (.inl ((((),()),(v1,()),()),(),(v3,()))))
def yy (x:(yq).X):=yd2 x.1.2.1.1 x.1.2.2.1.1 x.1.2.2.2.1.1 x.2.2.1
def yjP (x:(y9).X):(yq).X:=((((),()),(x.1.2.1.1,()),(x.1.2.2.1.1,()),(x.1.2.2.2.1.1,()),()),(),(x.2.2.1,()))
def ylm:Code:=(zdI yaY 64 244).getD .skip
theorem ywt:zdI yaY 64 61=some (.block 0 (.loop ylm)):=by kernel_rfl
theorem ywD (x:(yq).X):zg7 ⟨yc0,42,ylY⟩ 0 ylm 244 yq y5 ybx x=yy x:=by kernel_rfl
def yjQ (x:(y9).X):Nat:=(fun (u0:Int) (u1:Int) (u2:Int) (u3:List Int)=>18446744073709551616) x.1.2.1.1 x.1.2.2.1.1 x.1.2.2.2.1.1 x.2.2.1
def yeq (x:(y9).X):Option ((y5).X ⊕ (ybx).X):=zr yy (yjQ x) (yjP x)
def yjR:Seg:=⟨y9,y5,ybx,yeq⟩
def ylZ:Nat→Option Seg:=fun q=>bif Nat.beq q 61 then some yjR else ylY q
theorem yww:FrOk Tryz.prog ⟨yc0,42,ylZ⟩ yaY:=(ywv).loop (sg:=yjR) yq yjP (by decide) ywt yy yjQ (by decide) (fun _=>rfl) (fun x r _ h=>h) ywD
abbrev yV:List Par:= [.kp tL (.ow .fz),.fn 217 tI]
abbrev yc1:List OT:= [⟨false,tL,(.ow .fz)⟩]
def ycl (a0:List Int) (a1:Int):Option (ResD yc1×MutD yV) :=
  let r1:=ybw a0 a1
  bif (r1==(-1)) then
    some ((a0,()),())
  else
    zjw (yeq ((((),()),(a1,()),(r1,()),((IntKind.i64.wrap (r1+1)),()),()),(),(a0,()))) (fun y3 =>
      bif (zjG y3.1.2.1.1 (y3.2.2.1.length:Int) y3.2.2.1.length) then
        bif (zjG 0 y3.1.2.1.1 (y3.2.2.1.take (y3.1.2.1.1).toNat++(List.replicate ((y3.2.2.1.length:Int) - y3.1.2.1.1).toNat (0:Int))++y3.2.2.1.drop ((y3.1.2.1.1).toNat+(List.replicate ((y3.2.2.1.length:Int) - y3.1.2.1.1).toNat (0:Int)).length)).length) then
          some (((((y3.2.2.1.take (y3.1.2.1.1).toNat++(List.replicate ((y3.2.2.1.length:Int) - y3.1.2.1.1).toNat (0:Int))++y3.2.2.1.drop ((y3.1.2.1.1).toNat+(List.replicate ((y3.2.2.1.length:Int) - y3.1.2.1.1).toNat (0:Int)).length)).drop (0:Int).toNat).take (y3.1.2.1.1 - 0).toNat),()),())
        else none
      else none) (fun y3 =>
      none)
theorem yAL (x:InD yV):zjH ⟨yc0,42,ylZ⟩ Tryz.f216.results.toList yaY yV yc1 x=ycl x.1 x.2.1:=by kernel_rfl
theorem yyD:ConOk Tryz.prog 216 ⟨yV,yc1,fun x=>ycl x.1 x.2.1⟩:=zkh (yww) Tryz.func216 (by kernel_rfl) (by kernel_rfl) Tryz.ntmps216.symm (by decide) (fun x r h=>(yAL x).trans h)
def yaZ (a0:List Int) (a1:Int):List Int:=ySg a0 a1
theorem yAo (a0:List Int) (a1:Int) (hk:zi9 yV (a0,a1,())):ycl a0 a1=(fun n=>some ((n,()),())) (yaZ a0 a1):=by
  have hb:a0.length * 8≤2 ^ 47:=hk.1.1
  have hs:ySg a0 a1=a0.filter (fun x=> !(x==a1)):=rfl
  unfold ycl yaZ ybw
  simp only []
  cases hi:leb 0 (yK (fun e:Int=>e==a1) a0)
  · rw [yVo hi,hs,yV5 hi]; rfl
  · obtain ⟨h1,h2⟩:=yUP (d:=(0:Int)) hi
    have h3:=zjP.1 h1
    have h4:=ySn hi
    generalize hk0:yK (fun e:Int=>e==a1) a0=k at *
    obtain ⟨k,rfl⟩: ∃ m:Nat,k=m:=⟨k.toNat,by omega⟩
    rw [Int.toNat_natCast]at h4
    rw [show ((k:Int)== -1)=false from beq_eq_false_iff_ne.2 (by omega),cond_false,wr (show -9223372036854775808≤(k:Int)+1 by omega) (by omega)]
    obtain ⟨b,e,i,s,rfl,q1,q2,q3⟩:=ziU (step:=yy) (fun x=>(a0.length - Int.toNat x.1.2.2.2.1.1))
      (fun x=> ∃ (i j:Nat) (s:List Int),x=ya9 a1 i j s∧i < j∧j≤a0.length∧s.length=a0.length∧s.take i=(a0.take j).filter (fun x=> !(x==a1))∧s.drop j=a0.drop j)
      (fun b=> ∃ (i:Nat) (s:List Int),b= .inl (yv9 i s)∧i≤a0.length∧s.length=a0.length∧s.take i=a0.filter (fun x=> !(x==a1)))
      (fun x hx=>by
        obtain ⟨i,j,s,rfl,p1,p2,p3,p4,p5⟩:=hx
        by_cases hj:j < a0.length
        · left
          have e1:nth s j 0=a0[j]:=by
            rw [zjW,zcq (by omega)]
            have:=List.getElem_drop (xs:=s) (i:=j) (j:=0) (h:=by rw [List.length_drop]; omega)
            have h6:(s.drop j)[0]'(by rw [List.length_drop]; omega)=(a0.drop j)[0]'(by rw [List.length_drop]; omega):=by simp only [p5]
            simpa using h6
          have e2:a0.take (j+1)=a0.take j++ [a0[j]]:=(List.take_append_getElem hj).symm
          simp only [yy,ya9,yd2,p3,zjI (show (j:Int) < a0.length by omega),zkO hj,zkO (show i < a0.length by omega),e1,ycL,wr (show -9223372036854775808≤(j:Int)+1 by omega) (by omega),wr (show -9223372036854775808≤(i:Int)+1 by omega) (by omega),cond_true,Int.toNat_natCast]
          cases hx:(a0[j]==a1)
          · refine ⟨_,rfl,⟨i+1,j+1,s.set i a0[j],rfl,by omega,by omega,by rw [List.length_set,p3],?_,?_⟩,by show a0.length - ((j:Int)+1).toNat < a0.length - ((j:Int)).toNat; omega⟩
            · rw [List.take_set,← List.take_append_getElem (show i < s.length by omega),List.set_append_right _ _ (by rw [List.length_take]; omega),p4,e2,List.filter_append,List.filter_cons,hx]
              have:i - (List.filter (fun x=> !x==a1) (a0.take j)).length=0:=by rw [← p4,List.length_take]; omega
              rw [this]; rfl
            · rw [List.drop_set_of_lt (by omega),← List.drop_drop,p5,List.drop_drop]
          · refine ⟨_,rfl,⟨i,j+1,s,rfl,by omega,by omega,p3,?_,?_⟩,by show a0.length - ((j:Int)+1).toNat < a0.length - ((j:Int)).toNat; omega⟩
            · rw [p4,e2,List.filter_append,List.filter_cons,hx]; simp
            · rw [← List.drop_drop,p5,List.drop_drop]
        · right
          have:j=a0.length:=by omega
          subst this
          rw [List.take_length]at p4
          refine ⟨_,?_,i,s,rfl,by omega,p3,p4⟩
          simp only [yy,ya9,yd2,p3,zkm (Int.le_refl _),cond_false]) 18446744073709551616 (ya9 a1 k (k+1:Nat) a0) ⟨k,k+1,a0,rfl,by omega,by omega,rfl,h4.symm,rfl⟩ (by show a0.length - ((k+1:Nat):Int).toNat < 18446744073709551616; omega)
    rw [show ((k+1:Nat):Int)=(k:Int)+1 by omega]at e
    rw [show yeq (ywb a1 k ((k:Int)+1) a0)=_ from e]
    rw [hs,← q3]
    have hL:(s.take i++List.replicate ((s.length:Int) - i).toNat (0:Int)++s.drop ((i:Int).toNat+(List.replicate ((s.length:Int) - i).toNat (0:Int)).length)).length=s.length:=by
      simp only [List.length_append,List.length_take,List.length_replicate,List.length_drop]; omega
    show (bif zjG i s.length s.length then bif zjG 0 i (s.take i++List.replicate ((s.length:Int) - i).toNat (0:Int)++s.drop ((i:Int).toNat+(List.replicate ((s.length:Int) - i).toNat (0:Int)).length)).length then some ((((s.take i++List.replicate ((s.length:Int) - i).toNat (0:Int)++s.drop ((i:Int).toNat+(List.replicate ((s.length:Int) - i).toNat (0:Int)).length)).drop 0).take ((i:Int) - 0).toNat,()),()) else none else none)=some ((s.take i,()),())
    rw [hL,zko.2 (show 0≤(i:Int)∧(i:Int)≤s.length∧(s.length:Int)≤s.length by omega),zko.2 (show (0:Int)≤0∧(0:Int)≤i∧(i:Int)≤s.length by omega),List.drop_zero,show ((i:Int) - 0).toNat=i by omega,List.append_assoc,List.take_append_of_le_length (by rw [List.length_take]; omega),List.take_take,Nat.min_self]; rfl
def ymH:Con:=⟨yV,yc1,fun x=>(fun n=>some ((n,()),())) (yaZ x.1 x.2.1)⟩
theorem yAs:ConOk Tryz.prog 216 ymH:=(yyD).mono (fun x r hk h=>(yAo x.1 x.2.1 hk).trans h)
end
section
def yAS:Code:=(Tryz.f155.body).getD .skip
def yBr:Env:=zki TT [(132,yjG),(151,ycK),(203,yut),(204,ymG),(215,ykw),(216,ymH)] []
theorem yGv:FrOk Tryz.prog ⟨yBr,51,fun _=>none⟩ yAS:=zkp yb yc ⟨yq9,yf1,yEy,yuz,ytn,yAs,trivial⟩
def yHI:Nat→Option Seg:=fun _=>none
abbrev yd5:List Par:= [.rd tM,.rd tI,.rd tL]
abbrev ymm:List OT:= [⟨false,tM,(.pr (.ow (.ow .fz)) (.pr (.ow (.pr .fz (.ow .fz))) (.pr .fz (.ow .fz))))⟩,⟨false,tB,.fz⟩]
def yiO (a0:dM) (a1:Int) (a2:List Int):Option (ResD ymm×MutD yd5) :=
  let r1:=yaJ a0
  let r2:=yaB a0
  bif (!(!r2)) then
    bif (!a0.2.2.1) then
      let r3:=yaF a0 a1
      bif (!(!r3)) then
        let r4:=yfT a2
        bif (!(!r4)) then
          bif ((a0.2.1.length:Int)==60) then
            some ((r1,false,()),())
          else
            let r5:=yi a2
            bif (zj4 r1.2.1.length ([(a1,r5)]:List dW).length 32) then
              let r6:=yaZ r1.2.2.2 a1
              some (((r1.1,(r1.2.1++([(a1,r5)]:List dW)),r1.2.2.1,r6),true,()),())
            else none
        else
          some ((r1,false,()),())
      else
        some ((r1,false,()),())
    else
      some ((r1,false,()),())
  else
    some ((r1,false,()),())
theorem yNv (x:InD yd5):zjH ⟨yBr,51,yHI⟩ Tryz.f155.results.toList yAS yd5 ymm x=yiO x.1 x.2.1 x.2.2.1:=by kernel_rfl
theorem yI9:ConOk Tryz.prog 155 ⟨yd5,ymm,fun x=>yiO x.1 x.2.1 x.2.2.1⟩:=zkh (yGv) Tryz.func155 (by kernel_rfl) (by kernel_rfl) Tryz.ntmps155.symm (by decide) (fun x r h=>(yNv x).trans h)
def yhU (a0:dM) (a1:Int) (a2:List Int):dM×Bool:=yif a0 a1 a2
theorem yLJ (a0:dM) (a1:Int) (a2:List Int) (hk:zi9 yd5 (a0,a1,a2,())):yiO a0 a1 a2=(fun n=>some ((n.1,n.2,()),())) (yhU a0 a1 a2):=by
  have hb1:a0.1.length * 24≤2 ^ 47:=hk.1.1.1
  unfold yiO yhU yif yus
  simp only [yaJ,yaB,yaF,yY,ynO (show a0.1.length≤1152921504606846976 by omega),yCb,yi,yaZ]
  cases hm:yn a0
  · rfl
  have hc:=(ye7 hm).2.2.2.2.2
  cases a0.2.2.1
  · cases inb a1 a0.1.length
    · rfl
    cases yaM a2
    · rfl
    by_cases h:(a0.2.1.length:Int) < 60
    · rw [zjI h,show ((a0.2.1.length:Int)==60)=false from beq_eq_false_iff_ne.2 (by omega),zkw.2 (show (a0.2.1.length+ [(a1,a2)].length) * 32≤140737488355328 by simp only [List.length_cons,List.length_nil]; omega)]; rfl
    · rw [zkm (by omega),show ((a0.2.1.length:Int)==60)=true from beq_iff_eq.2 (by omega)]; rfl
  · rfl
def yxu:Con:=⟨yd5,ymm,fun x=>(fun n=>some ((n.1,n.2,()),())) (yhU x.1 x.2.1 x.2.2.1)⟩
theorem yMn:ConOk Tryz.prog 155 yxu:=(yI9).mono (fun x r hk h=>(yLJ x.1 x.2.1 x.2.2.1 hk).trans h)
end
section
def yyJ:Code:=(Tryz.f78.body).getD .skip
def yzh:Env:=zki TT [(154,ys1),(155,yxu)] []
theorem yEJ:FrOk Tryz.prog ⟨yzh,39,fun _=>none⟩ yyJ:=zkp yb yc ⟨yDs,yMn,trivial⟩
def yFz:Nat→Option Seg:=fun _=>none
abbrev ybC:List Par:= [.pt tA (.pr .fz (.pr (.pr .fz .fz) (.pr (.ow (.pr (.ow (.ow .fz)) (.pr (.ow (.pr .fz (.ow .fz))) (.pr .fz (.ow .fz))))) (.pr .fz (.pr .fz (.pr .fz (.pr .fz (.pr .fz (.pr (.ow (.pr .fz (.ow .fz))) (.pr .fz (.pr .fz .fz))))))))))),.rd tI,.rd tI,.rd tL]
abbrev yfM:List OT:= [⟨false,tB,.fz⟩]
def yh3 (a0:dA) (a1:Int) (a2:Int) (a3:List Int):Option (ResD yfM×MutD ybC) :=
  bif (inb a1 a0.2.2.1.length) then
    bif (((nth a0.2.2.1 a1 ([],[],false,[])).2).2).1 then
      some ((true,()),(a0,()))
    else
      let r1:=ygx a0
      bif (!r1.1) then
        some ((false,()),(r1.2,()))
      else
        bif (inb a1 r1.2.2.2.1.length) then
          let r2:=yhU ((nth r1.2.2.2.1 a1 ([],[],false,[])).1,((nth r1.2.2.2.1 a1 ([],[],false,[])).2).1,(((nth r1.2.2.2.1 a1 ([],[],false,[])).2).2)) a2 a3
          bif (inb a1 r1.2.2.2.1.length) then
            some ((true,()),((r1.2.1,r1.2.2.1,(r1.2.2.2.1.set (a1).toNat r2.1),r1.2.2.2.2),()))
          else none
        else none
  else none
theorem yKm (x:InD ybC):zjH ⟨yzh,39,yFz⟩ Tryz.f78.results.toList yyJ ybC yfM x=yh3 x.1 x.2.1 x.2.2.1 x.2.2.2.1:=by kernel_rfl
theorem yHd:ConOk Tryz.prog 78 ⟨ybC,yfM,fun x=>yh3 x.1 x.2.1 x.2.2.1 x.2.2.2.1⟩:=zkh (yEJ) Tryz.func78 (by kernel_rfl) (by kernel_rfl) Tryz.ntmps78.symm (by decide) (fun x r h=>(yKm x).trans h)
def ydo (a0:dA) (a1 a2:Int) (a3:List Int):Bool×dA:=(!(yd (yic a0 a1 a2 a3)),yic a0 a1 a2 a3)
def ydr (a0:dA) (a1 a2:Int) (a3:List Int):Bool:=inb a1 a0.2.2.1.length&& !(yd a0)
theorem yIX (a0:dA) (a1 a2:Int) (a3:List Int) (hk:zi9 ybC (a0,a1,a2,a3,())) (hq:ydr a0 a1 a2 a3=true):yh3 a0 a1 a2 a3=(fun n=>some ((n.1,()),(n.2,()))) (ydo a0 a1 a2 a3):=by
  simp only [ydr,Bool.and_eq_true,Bool.not_eq_true'] at hq
  unfold yh3 ydo
  simp only [yV9 hq.2]
  unfold yic yAv
  simp only [yOv hq.2,ydq,hq.1,zkV,yhU]
  cases (nth a0.2.2.1 a1 yf).2.2.1<;>cases (opA a0).1<;>rfl
def yf0 (a0:dA) (a1:Int) (a2:Int) (a3:List Int):Option (ResD yfM×MutD ybC):=bif ydr a0 a1 a2 a3 then (fun n=>some ((n.1,()),(n.2,()))) (ydo a0 a1 a2 a3) else none
theorem yyh (a0:dA) (a1:Int) (a2:Int) (a3:List Int) (h:ydr a0 a1 a2 a3=true):yf0 a0 a1 a2 a3=(fun n=>some ((n.1,()),(n.2,()))) (ydo a0 a1 a2 a3):=by unfold yf0; rw [h]; rfl
def ynL:Con:=⟨ybC,yfM,fun x=>yf0 x.1 x.2.1 x.2.2.1 x.2.2.2.1⟩
theorem yyf:ConOk Tryz.prog 78 ynL:=(yHd).mono (fun x r hk h=>zkW h (fun hq=>yIX x.1 x.2.1 x.2.2.1 x.2.2.2.1 hk hq))
end
section
def yyK:Code:=(Tryz.f23.body).getD .skip
def yzi:Env:=zki TT [(51,yjF),(76,ykv),(77,yCV),(78,ynL),(79,ys2)] []
theorem yEK:FrOk Tryz.prog ⟨yzi,73,fun _=>none⟩ yyK:=zkp yb yc ⟨yq8,ytm,yTO,yyf,yDt,trivial⟩
def yFA:Nat→Option Seg:=fun _=>none
abbrev yc6:List Par:= [.rd tA]
abbrev ykb:List OT:= [⟨false,tA,(.pr .fz (.pr (.pr .fz .fz) (.pr (.ow (.pr (.ow (.ow .fz)) (.pr (.ow (.pr .fz (.ow .fz))) (.pr .fz (.ow .fz))))) (.pr .fz (.pr .fz (.pr .fz (.pr .fz (.pr .fz (.pr (.ow (.pr .fz (.ow .fz))) (.pr .fz (.pr .fz .fz)))))))))))⟩,⟨false,tI,.fz⟩]
def yh4 (a0:dA):Option (ResD ykb×MutD yc6) :=
  let r1:=yaI a0
  let r2:=yaA a0
  bif (!r2) then
    some ((r1,1,()),())
  else
    bif a0.2.2.2.2.2.2.2.2.2.2.1 then
      some ((r1,6,()),())
    else
      bif (!(a0.2.2.2.1==(-1))) then
        bif (inb a0.2.2.2.1 a0.2.2.1.length) then
          bif (!((((nth a0.2.2.1 a0.2.2.2.1 ([],[],false,[])).2).2).1)) then
            bif (a0.2.2.2.2.1==a0.2.1.2) then
              some ((r1,2,()),())
            else
              let r3:=yn1 a0 a0.2.2.2.2.1
              bif (!(!r3.2)) then
                bif a0.2.2.2.2.2.2.2.2.2.2.2 then
                  some ((r1,5,()),())
                else
                  let r4:=ylq a0.2.2.2.2.1
                  bif (inb a0.2.2.2.1 r3.1.length) then
                    bnd (yf0 r1 a0.2.2.2.1 r4 ([(nth r3.1 a0.2.2.2.1 0)]:List Int)) fun r5 =>
                    bif (!r5.1.1) then
                      some ((r5.2.1,6,()),())
                    else
                      some (((r5.2.1.1,r5.2.1.2.1,r5.2.1.2.2.1,r5.2.1.2.2.2.1,(IntKind.i64.wrap (r5.2.1.2.2.2.2.1+1)),r5.2.1.2.2.2.2.2),0,()),())
                  else none
              else
                some ((r1,5,()),())
          else
            some ((r1,2,()),())
        else none
      else
        some ((r1,2,()),())
theorem yKn (x:InD yc6):zjH ⟨yzi,73,yFA⟩ Tryz.f23.results.toList yyK yc6 ykb x=yh4 x.1:=by kernel_rfl
theorem yHe:ConOk Tryz.prog 23 ⟨yc6,ykb,fun x=>yh4 x.1⟩:=zkh (yEK) Tryz.func23 (by kernel_rfl) (by kernel_rfl) Tryz.ntmps23.symm (by decide) (fun x r h=>(yKn x).trans h)
def yfS (a0:dA):dA×Int:=yB a0
theorem yIY (a0:dA) (hk:zi9 yc6 (a0,())):yh4 a0=(fun n=>some ((n.1,n.2,()),())) (yfS a0):=by
  unfold yh4 yfS yB
  simp only [yaI,yaA,yn1,yDp]
  cases ha:yr a0
  · rfl
  have hg:=yam.1 (ye6 ha)
  have hb:=ySi ha
  cases hd:yd a0
  · rw [show a0.2.2.2.2.2.2.2.2.2.2.1=false from hd]
    cases hl:(a0.2.2.2.1== -1)
    · have hi:=yuy ha (beq_eq_false_iff_ne.1 hl)
      have hS:leb a0.2.1.2 a0.2.2.2.2.1=(a0.2.2.2.2.1==a0.2.1.2):=by rw [Bool.eq_iff_iff,zjQ,beq_iff_eq]; omega
      rw [hi,hS]
      cases (nth a0.2.2.1 a0.2.2.2.1 yf).2.2.1
      · cases hbs:(a0.2.2.2.2.1==a0.2.1.2)
        · have hne:=beq_eq_false_iff_ne.1 hbs
          cases hbr:a0.2.2.2.2.2.2.2.2.2.2.2
          · rw [yHz.2 (show yg a0.2.1=true∧0≤a0.2.2.2.2.1∧a0.2.2.2.2.1≤a0.2.1.2 - 1 from ⟨ye6 ha,by omega,by omega⟩)]
            simp only [Bool.not_false,Bool.not_true,Bool.and_self,cond_true,cond_false,Bool.false_or,Bool.or_false]
            unfold yr5
            cases hw:(ye5 a0 a0.2.2.2.2.1).2
            · rfl
            · rw [ySv hw,yUR ha (beq_eq_false_iff_ne.1 hl),yyh a0 a0.2.2.2.1 (yqf a0.2.2.2.2.1) [nth (ye5 a0 a0.2.2.2.2.1).1 a0.2.2.2.1 0] (by unfold ydr; rw [hi,hd]; rfl)]
              simp only [zky,ydo]
              show (bif !(!(yd (yb4 a0))) then some ((yb4 a0,6,()),()) else some ((yU4 (yb4 a0),0,()),()))=_
              cases yd (yb4 a0)<;>rfl
          · rfl
        · rfl
      · rfl
    · rfl
  · rw [show a0.2.2.2.2.2.2.2.2.2.2.1=true from hd]; rfl
def yvt:Con:=⟨yc6,ykb,fun x=>(fun n=>some ((n.1,n.2,()),())) (yfS x.1)⟩
theorem yJp:ConOk Tryz.prog 23 yvt:=(yHe).mono (fun x r hk h=>(yIY x.1 hk).trans h)
end
section
def yD0:Code:=(Tryz.f123.body).getD .skip
def yEh:Env:=zki TT [] []
theorem yKy:FrOk Tryz.prog ⟨yEh,4,fun _=>none⟩ yD0:=zkp yb yc trivial
def yMX:Nat→Option Seg:=fun _=>none
abbrev ylb:List Par:= [.rd tB]
abbrev yqI:List OT:= [⟨false,tI,.fz⟩]
def ytr (a0:Bool):Option (ResD yqI×MutD ylb) :=
  bif a0 then
    some ((0,()),())
  else
    some ((6,()),())
theorem ySG (x:InD ylb):zjH ⟨yEh,4,yMX⟩ Tryz.f123.results.toList yD0 ylb yqI x=ytr x.1:=by kernel_rfl
theorem yO1:ConOk Tryz.prog 123 ⟨ylb,yqI,fun x=>ytr x.1⟩:=zkh (yKy) Tryz.func123 (by kernel_rfl) (by kernel_rfl) Tryz.ntmps123.symm (by decide) (fun x r h=>(ySG x).trans h)
def yeu (a0:Bool):Int :=
  bif a0 then
    0
  else
    6
def ys4:Con:=⟨ylb,yqI,fun x=>(fun n=>some ((n,()),())) (yeu x.1)⟩
theorem yQ1 (a0:Bool):ytr a0=(fun n=>some ((n,()),())) (yeu a0):=zkS (p:=fun (n:Int)=>((n,()),())) (zkx (p:=fun (n:Int)=>((n,()),())) rfl rfl)
theorem yDu:ConOk Tryz.prog 123 ys4:=(yO1).mono (fun x r _ h=>(yQ1 x.1).trans h)
end
section
def ygF:Code:=(Tryz.f231.body).getD .skip
def yl3:Env:=zki TT [(132,yjG),(151,ycK),(215,ykw)] []
theorem yGs:FrOk Tryz.prog ⟨yl3,34,fun _=>none⟩ ygF:=zkp yb yc ⟨yq9,yf1,ytn,trivial⟩
def ywQ:Nat→Option Seg:=fun _=>none
def yav:Shape:=⟨[(2,false,[.ptr 64 0]),(3,false,[.ptr 4224 0]),(17,false,[.br tW]),(18,false,[.int .i64]),(19,false,[.int .i64])],[(64,[.nil,.nil,.bool,.nil]),(4224,[.at 800000000,.at 800000001,.bool,.at 800000002])],[(800000000,tL,(.ow .fz)),(800000001,tW,(.pr .fz (.ow .fz))),(800000002,tI,.fz)]⟩
def ydM:Shape:=⟨[(2,false,[.ptr 64 0]),(3,false,[.ptr 4224 0]),(17,false,[.br tW]),(18,false,[.int .i64]),(19,false,[.ci .i64 0])],[(64,[.nil,.nil,.bool,.nil]),(4224,[.at 800000000,.at 800000001,.bool,.at 800000002])],[(800000000,tL,(.ow .fz)),(800000001,tW,(.pr .fz (.ow .fz))),(800000002,tI,.fz)]⟩
def ydF:Shape:=⟨[(2,false,[.ptr 64 0]),(3,false,[.ptr 4224 0])],[(64,[.nil,.nil,.bool,.nil]),(4224,[.at 800000000,.at 800000001,.bool,.at 800000002])],[(800000000,tL,(.ow .fz)),(800000001,tW,(.pr .fz (.ow .fz))),(800000002,tI,.fz)]⟩
def yhx:Shape:=⟨[],[],[]⟩
abbrev ylF (v0:List dW) (v1:Int) (v2:Int) (v3:dM) (v4:dM):(yav).X:=((((),()),((),()),(v0,()),(v1,()),(v2,()),()),(((),(),v3.2.2.1,(),()),((),(),v4.2.2.1,(),()),()),(v4.1,v4.2.1,v4.2.2.2,()))
abbrev yEX (v0:List dW) (v1:Int) (v2:dM) (v3:dM):(ydM).X:=((((),()),((),()),(v0,()),(v1,()),((),()),()),(((),(),v2.2.2.1,(),()),((),(),v3.2.2.1,(),()),()),(v3.1,v3.2.1,v3.2.2.2,()))
abbrev yt8 (v0:dM) (v1:dM):(ydF).X:=((((),()),((),()),()),(((),(),v0.2.2.1,(),()),((),(),v1.2.2.1,(),()),()),(v1.1,v1.2.1,v1.2.2.2,()))
def ylP (v0:List dW) (v1:Int) (v2:Int) (v3:Bool) (v4:Bool) (v5:List (List Int)) (v6:List dW) (v7:List Int):Option ((yav).X ⊕ ((ydF).X ⊕ (yhx).X)) :=
  bif (ltb v2 v1) then
    bif (inb v2 v0.length) then
      let r4:=yi ((nth v0 v2 (0,[])).2)
      bif (inb ((nth v0 v2 (0,[])).1) v5.length) then
        some (.inl ((((),()),((),()),(v0,()),(v1,()),((IntKind.i64.wrap (v2+1)),()),()),(((),(),v3,(),()),((),(),v4,(),()),()),((v5.set ((nth v0 v2 (0,[])).1).toNat r4),v6,v7,())))
      else none
    else none
  else
    some (.inr (.inl ((((),()),((),()),()),(((),(),v3,(),()),((),(),v4,(),()),()),(v5,v6,v7,()))))
def yaP (x:(yav).X):=ylP x.1.2.2.1.1 x.1.2.2.2.1.1 x.1.2.2.2.2.1.1 x.2.1.1.2.2.1 x.2.1.2.1.2.2.1 x.2.2.1 x.2.2.2.1 x.2.2.2.2.1
def ytK (x:(ydM).X):(yav).X:=((((),()),((),()),(x.1.2.2.1.1,()),(x.1.2.2.2.1.1,()),(0,()),()),(((),(),x.2.1.1.2.2.1,(),()),((),(),x.2.1.2.1.2.2.1,(),()),()),(x.2.2.1,x.2.2.2.1,x.2.2.2.2.1,()))
def yvi:Code:=(zdI ygF 64 244).getD .skip
theorem yF2:zdI ygF 64 61=some (.block 0 (.loop yvi)):=by kernel_rfl
theorem yHp (x:(yav).X):zg7 ⟨yl3,34,ywQ⟩ 0 yvi 244 yav ydF yhx x=yaP x:=by kernel_rfl
def ytX (x:(ydM).X):Nat:=(fun (u0:List dW) (u1:Int) (u2:Bool) (u3:Bool) (u4:List (List Int)) (u5:List dW) (u6:List Int)=>18446744073709551616) x.1.2.2.1.1 x.1.2.2.2.1.1 x.2.1.1.2.2.1 x.2.1.2.1.2.2.1 x.2.2.1 x.2.2.2.1 x.2.2.2.2.1
def ynk (x:(ydM).X):Option ((ydF).X ⊕ (yhx).X):=zr yaP (ytX x) (ytK x)
def yue:Seg:=⟨ydM,ydF,yhx,ynk⟩
def ywR:Nat→Option Seg:=fun q=>bif Nat.beq q 61 then some yue else ywQ q
theorem yGt:FrOk Tryz.prog ⟨yl3,34,ywR⟩ ygF:=(yGs).loop (sg:=yue) yav ytK (by decide) yF2 yaP ytX (by decide) (fun _=>rfl) (fun x r _ h=>h) yHp
abbrev yd4:List Par:= [.rd tM]
abbrev ymk:List OT:= [⟨false,tM,(.pr (.ow (.ow .fz)) (.pr (.ow (.pr .fz (.ow .fz))) (.pr .fz (.ow .fz))))⟩]
def yiN (a0:dM):Option (ResD ymk×MutD yd4) :=
  let r1:=yaJ a0
  let r2:=yaB a0
  bif (!(!r2)) then
    bif a0.2.2.1 then
      some ((r1,()),())
    else
      zjw (ynk ((((),()),((),()),(a0.2.1,()),((a0.2.1.length:Int),()),((),()),()),(((),(),false,(),()),((),(),r1.2.2.1,(),()),()),(r1.1,r1.2.1,r1.2.2.2,()))) (fun y4 =>
        some (((y4.2.2.1,[],y4.2.1.2.1.2.2.1,y4.2.2.2.2.1),()),())) (fun y4 =>
        none)
  else
    some ((r1,()),())
theorem yNt (x:InD yd4):zjH ⟨yl3,34,ywR⟩ Tryz.f231.results.toList ygF yd4 ymk x=yiN x.1:=by kernel_rfl
theorem yI7:ConOk Tryz.prog 231 ⟨yd4,ymk,fun x=>yiN x.1⟩:=zkh (yGt) Tryz.func231 (by kernel_rfl) (by kernel_rfl) Tryz.ntmps231.symm (by decide) (fun x r h=>(yNt x).trans h)
def yhS (a0:dM):dM:=yfR a0
theorem yLH (a0:dM) (hk:zi9 yd4 (a0,())):yiN a0=(fun n=>some ((n,()),())) (yhS a0):=by
  have hb2:a0.2.1.length * 32≤2 ^ 47:=hk.1.2.1.1
  unfold yiN yhS yfR
  simp only [yaJ,yaB]
  cases hm:yn a0
  · rfl
  have h1:ynk (yEX a0.2.1 a0.2.1.length yf a0)=some (.inl (yt8 yf (ydn (fun _=>true) a0.2.1 a0.1,a0.2))) :=
    zks (step:=yaP) a0.2.1.length (fun i s=>ylF a0.2.1 a0.2.1.length i yf (s,a0.2)) (yeY (fun _=>true) a0.2.1) (fun i s=>s.length=a0.1.length) (fun s=> .inl (yt8 yf (s,a0.2))) (fun i s hi hs=>by
      have hw:=(yUT hm hi).1
      refine ⟨?_,yDI.trans hs⟩
      simp only [yaP,ylF,ylP,zjI (show (i:Int) < a0.2.1.length by omega),cond_true,wr (show -9223372036854775808≤(i:Int)+1 by omega) (by omega),Int.natCast_add,Int.natCast_one,Int.toNat_natCast,zkO hi,hs,hw,yeY,yi]) (fun s hs=>by simp only [yaP,ylF,ylP,zkm (Int.le_refl _),cond_false]) a0.1 rfl _ (by show _ < 18446744073709551616; omega)
  rw [h1]
  cases hf:a0.2.2.1
  · exact congrArg (fun z=>some (((ydn (fun _=>true) a0.2.1 a0.1,([]:List dW),z,a0.2.2.2),()),())) hf
  · rfl
def yxs:Con:=⟨yd4,ymk,fun x=>(fun n=>some ((n,()),())) (yhS x.1)⟩
theorem yMl:ConOk Tryz.prog 231 yxs:=(yI7).mono (fun x r hk h=>(yLH x.1 hk).trans h)
end
end
end Go.Tf
