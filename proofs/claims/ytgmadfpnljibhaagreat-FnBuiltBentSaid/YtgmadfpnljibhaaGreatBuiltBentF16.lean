/- Functions of the program, and what they come to. -/
import Derived.Test.YtgmadfpnljibhaaGreatBuiltBentF15
namespace Go.Tf
noncomputable section
open Go.Proofs
set_option synthInstance.maxHeartbeats 400000
set_option synthInstance.maxSize 10000
set_option linter.unusedVariables false
set_option linter.unusedSimpArgs false
set_option maxRecDepth 100000
section
def yy6:Code:=(Tryz.f223.body).getD .skip
def yzs:Env:=zki TT [] []
theorem yGK:FrOk Tryz.prog ⟨yzs,7,fun _=>none⟩ yy6:=zkp yc yd trivial
def yIi:Nat→Option Seg:=fun _=>none
abbrev yfI:List Par:= [.rd tI,.rp tI]
abbrev yjM:List OT:= [⟨false,tB,.fz⟩]
def ynu (a0:Int) (a1:Int):Option (ResD yjM×MutD yfI) :=
  some (((a0==a1),()),())
theorem yLY (x:InD yfI):zjH ⟨yzs,7,yIi⟩ Tryz.f223.results.toList yy6 yfI yjM x=ynu x.1 x.2.1:=by kernel_rfl
theorem yIS:ConOk Tryz.prog 223 ⟨yfI,yjM,fun x=>ynu x.1 x.2.1⟩:=zkh (yGK) Tryz.func223 (by kernel_rfl) (by kernel_rfl) Tryz.ntmps223.symm (by decide) (fun x r h=>(yLY x).trans h)
def ydw (a0:Int) (a1:Int):Bool :=
  (a0==a1)
def ynk:Con:=⟨yfI,yjM,fun x=>(fun n=>some ((n,()),())) (ydw x.1 x.2.1)⟩
theorem yKZ (a0:Int) (a1:Int):ynu a0 a1=(fun n=>some ((n,()),())) (ydw a0 a1):=zkS (p:=fun (n:Bool)=>((n,()),())) rfl
theorem yyy:ConOk Tryz.prog 223 ynk:=(yIS).mono (fun x r _ h=>(yKZ x.1 x.2.1).trans h)
end
section
def ybY:Code:=(Tryz.f268.body).getD .skip
def yex:Env:=zki TT [(223,ynk)] []
theorem yAF:FrOk Tryz.prog ⟨yex,19,fun _=>none⟩ ybY:=zkp yc yd ⟨yyy,trivial⟩
def yoW:Nat→Option Seg:=fun _=>none
def yO:Shape:=⟨[(0,false,[.br tI]),(1,false,[.fx 223 tI]),(7,false,[.int .i64]),(8,false,[.int .i64])],[],[]⟩
def yaS:Shape:=⟨[(0,false,[.br tI]),(1,false,[.fx 223 tI]),(7,false,[.int .i64]),(8,false,[.ci .i64 0])],[],[]⟩
def yaR:Shape:=⟨[],[],[]⟩
def yaT:Shape:=⟨[(4,false,[.int .i64])],[],[]⟩
abbrev yfC (v0:List Int) (v1:Int) (v2:Int) (v3:Int):(yO).X:=(((v0,()),(v1,()),(v2,()),(v3,()),()),(),())
abbrev yyU (v0:List Int) (v1:Int) (v2:Int):(yaS).X:=(((v0,()),(v1,()),(v2,()),((),()),()),(),())
abbrev yyT  :(yaR).X:=((),(),())
abbrev ymV (v0:Int):(yaT).X:=(((v0,()),()),(),())
def yfG (v0:List Int) (v1:Int) (v2:Int) (v3:Int):Option ((yO).X ⊕ ((yaR).X ⊕ (yaT).X)) :=
  bif (ltb v3 v2) then
    bif (inb v3 v0.length) then
      let r2:=ydw (nth v0 v3 0) v1
      bif r2 then
        some (.inr (.inr (((v3,()),()),(),())))
      else
        some (.inl (((v0,()),(v1,()),(v2,()),((IntKind.i64.wrap (v3+1)),()),()),(),()))
    else none
  else
    some (.inr (.inl ((),(),())))
def yY (x:(yO).X):=yfG x.1.1.1 x.1.2.1.1 x.1.2.2.1.1 x.1.2.2.2.1.1
def ymS (x:(yaS).X):(yO).X:=(((x.1.1.1,()),(x.1.2.1.1,()),(x.1.2.2.1.1,()),(0,()),()),(),())
def yog:Code:=(zdI ybY 64 52).getD .skip
theorem yAC:zdI ybY 64 13=some (.block 0 (.loop yog)):=by kernel_rfl
theorem yAM (x:(yO).X):zg7 ⟨yex,19,yoW⟩ 0 yog 52 yO yaR yaT x=yY x:=by kernel_rfl
def ymT (x:(yaS).X):Nat:=(fun (u0:List Int) (u1:Int) (u2:Int)=>18446744073709551616) x.1.1.1 x.1.2.1.1 x.1.2.2.1.1
def yge (x:(yaS).X):Option ((yaR).X ⊕ (yaT).X):=zr yY (ymT x) (ymS x)
def ynd:Seg:=⟨yaS,yaR,yaT,yge⟩
def yoX:Nat→Option Seg:=fun q=>bif Nat.beq q 13 then some ynd else yoW q
theorem yAG:FrOk Tryz.prog ⟨yex,19,yoX⟩ ybY:=(yAF).loop (sg:=ynd) yO ymS (by decide) yAC yY ymT (by decide) (fun _=>rfl) (fun x r _ h=>h) yAM
abbrev yaE:List Par:= [.rd tL,.fn 223 tI]
abbrev yey:List OT:= [⟨false,tI,.fz⟩]
def ydq (a0:List Int) (a1:Int):Option (ResD yey×MutD yaE) :=
  zjw (yge (((a0,()),(a1,()),((a0.length:Int),()),((),()),()),(),())) (fun y2 =>
    some (((-1),()),())) (fun y2 =>
    some ((y2.1.1.1,()),()))
theorem yEP (x:InD yaE):zjH ⟨yex,19,yoX⟩ Tryz.f268.results.toList ybY yaE yey x=ydq x.1 x.2.1:=by kernel_rfl
theorem yCw:ConOk Tryz.prog 268 ⟨yaE,yey,fun x=>ydq x.1 x.2.1⟩:=zkh (yAG) Tryz.func268 (by kernel_rfl) (by kernel_rfl) Tryz.ntmps268.symm (by decide) (fun x r h=>(yEP x).trans h)
def yb0 (a0:List Int) (a1:Int):Int:=yac (fun e:Int=>e==a1) a0
theorem yC6 (a0:List Int) (a1:Int) (hk:zi9 yaE (a0,a1,())):ydq a0 a1=(fun n=>some ((n,()),())) (yb0 a0 a1):=by
  have hb:a0.length * 8≤2 ^ 47:=hk.1.1
  have h1:yge (yyU a0 a1 a0.length)=some (bif leb 0 (yac (fun e:Int=>e==a1) a0) then .inr (ymV (yac (fun e:Int=>e==a1) a0)) else .inl yyT) :=
    yXi (step:=yY) a0 0 (fun i=>yfC a0 a1 a0.length i) (fun e:Int=>e==a1) (fun i=> .inr (ymV i)) _ (fun i hi=>by
      simp only [yY,yfC,yfG,zjI (show (i:Int) < a0.length by omega),cond_true,wr (show -9223372036854775808≤(i:Int)+1 by omega) (by omega),Int.natCast_add,Int.natCast_one,Int.toNat_natCast,zkO hi,zjW,ydw]
      cases (a0.getD i 0==a1)<;>rfl) (by simp only [yY,yfC,yfG,zkm (Int.le_refl _),cond_false]) _ (by show _ < 18446744073709551616; omega)
  unfold ydq yb0
  rw [h1]
  cases h:leb 0 (yac (fun e:Int=>e==a1) a0)
  · rw [yVv h]; rfl
  · rfl
def ypu:Con:=⟨yaE,yey,fun x=>(fun n=>some ((n,()),())) (yb0 x.1 x.2.1)⟩
theorem yC8:ConOk Tryz.prog 268 ypu:=(yCw).mono (fun x r hk h=>(yC6 x.1 x.2.1 hk).trans h)
end
section
def ybv:Code:=(Tryz.f222.body).getD .skip
def ydU:Env:=zki TT [(223,ynk),(268,ypu)] []
theorem yyR:FrOk Tryz.prog ⟨ydU,42,fun _=>none⟩ ybv:=zkp yc yd ⟨yyy,yC8,trivial⟩
def ynD:Nat→Option Seg:=fun _=>none
def yM:Shape:=⟨[(0,false,[.at 800000000]),(1,false,[.fx 223 tI]),(5,false,[.int .i64]),(6,false,[.int .i64])],[],[(800000000,tI,.fz)]⟩
def yaB:Shape:=⟨[(0,false,[.at 800000000]),(1,false,[.fx 223 tI]),(5,false,[.int .i64]),(6,false,[.int .i64])],[],[(800000000,tI,.fz)]⟩
def yaA:Shape:=⟨[(0,false,[.at 800000000]),(5,false,[.int .i64])],[],[(800000000,tI,.fz)]⟩
def yb3:Shape:=⟨[],[],[]⟩
abbrev ybJ (v0:Int) (v1:Int) (v2:Int) (v3:List Int):(yM).X:=((((),()),(v0,()),(v1,()),(v2,()),()),(),(v3,()))
abbrev yyw (v0:Int) (v1:Int) (v2:Int) (v3:List Int):(yaB).X:=((((),()),(v0,()),(v1,()),(v2,()),()),(),(v3,()))
abbrev yyu (v0:Int) (v1:List Int):(yaA).X:=((((),()),(v0,()),()),(),(v1,()))
def ye7 (v0:Int) (v1:Int) (v2:Int) (v3:List Int):Option ((yM).X ⊕ ((yaA).X ⊕ (yb3).X)) :=
  bif (ltb v2 (v3.length:Int)) then
    bif (inb v2 v3.length) then
      let r3:=ydw (nth v3 v2 0) v0
      bif (!r3) then
        bif (inb v1 v3.length) then
          some (.inl ((((),()),(v0,()),((IntKind.i64.wrap (v1+1)),()),((IntKind.i64.wrap (v2+1)),()),()),(),((v3.set (v1).toNat (nth v3 v2 0)),())))
        else none
      else
        some (.inl ((((),()),(v0,()),(v1,()),((IntKind.i64.wrap (v2+1)),()),()),(),(v3,())))
    else none
  else
    some (.inr (.inl ((((),()),(v1,()),()),(),(v3,()))))
def yR (x:(yM).X):=ye7 x.1.2.1.1 x.1.2.2.1.1 x.1.2.2.2.1.1 x.2.2.1
def ylr (x:(yaB).X):(yM).X:=((((),()),(x.1.2.1.1,()),(x.1.2.2.1.1,()),(x.1.2.2.2.1.1,()),()),(),(x.2.2.1,()))
def ymR:Code:=(zdI ybv 64 244).getD .skip
theorem yyO:zdI ybv 64 61=some (.block 0 (.loop ymR)):=by kernel_rfl
theorem yy1 (x:(yM).X):zg7 ⟨ydU,42,ynD⟩ 0 ymR 244 yM yaA yb3 x=yR x:=by kernel_rfl
def yls (x:(yaB).X):Nat:=(fun (u0:Int) (u1:Int) (u2:Int) (u3:List Int)=>18446744073709551616) x.1.2.1.1 x.1.2.2.1.1 x.1.2.2.2.1.1 x.2.2.1
def yfw (x:(yaB).X):Option ((yaA).X ⊕ (yb3).X):=zr yR (yls x) (ylr x)
def ylu:Seg:=⟨yaB,yaA,yb3,yfw⟩
def ynE:Nat→Option Seg:=fun q=>bif Nat.beq q 61 then some ylu else ynD q
theorem yyS:FrOk Tryz.prog ⟨ydU,42,ynE⟩ ybv:=(yyR).loop (sg:=ylu) yM ylr (by decide) yyO yR yls (by decide) (fun _=>rfl) (fun x r _ h=>h) yy1
abbrev yar:List Par:= [.kp tL (.ow .fz),.fn 223 tI]
abbrev ydV:List OT:= [⟨false,tL,(.ow .fz)⟩]
def ycV (a0:List Int) (a1:Int):Option (ResD ydV×MutD yar) :=
  let r1:=yb0 a0 a1
  bif (r1==(-1)) then
    some ((a0,()),())
  else
    zjw (yfw ((((),()),(a1,()),(r1,()),((IntKind.i64.wrap (r1+1)),()),()),(),(a0,()))) (fun y3 =>
      bif (zjG y3.1.2.1.1 (y3.2.2.1.length:Int) y3.2.2.1.length) then
        bif (zjG 0 y3.1.2.1.1 (y3.2.2.1.take (y3.1.2.1.1).toNat++(List.replicate ((y3.2.2.1.length:Int) - y3.1.2.1.1).toNat (0:Int))++y3.2.2.1.drop ((y3.1.2.1.1).toNat+(List.replicate ((y3.2.2.1.length:Int) - y3.1.2.1.1).toNat (0:Int)).length)).length) then
          some (((((y3.2.2.1.take (y3.1.2.1.1).toNat++(List.replicate ((y3.2.2.1.length:Int) - y3.1.2.1.1).toNat (0:Int))++y3.2.2.1.drop ((y3.1.2.1.1).toNat+(List.replicate ((y3.2.2.1.length:Int) - y3.1.2.1.1).toNat (0:Int)).length)).drop (0:Int).toNat).take (y3.1.2.1.1 - 0).toNat),()),())
        else none
      else none) (fun y3 =>
      none)
theorem yC4 (x:InD yar):zjH ⟨ydU,42,ynE⟩ Tryz.f222.results.toList ybv yar ydV x=ycV x.1 x.2.1:=by kernel_rfl
theorem yAL:ConOk Tryz.prog 222 ⟨yar,ydV,fun x=>ycV x.1 x.2.1⟩:=zkh (yyS) Tryz.func222 (by kernel_rfl) (by kernel_rfl) Tryz.ntmps222.symm (by decide) (fun x r h=>(yC4 x).trans h)
def ybw (a0:List Int) (a1:Int):List Int:=yW0 a0 a1
theorem yCv (a0:List Int) (a1:Int) (hk:zi9 yar (a0,a1,())):ycV a0 a1=(fun n=>some ((n,()),())) (ybw a0 a1):=by
  have hb:a0.length * 8≤2 ^ 47:=hk.1.1
  have hs:yW0 a0 a1=a0.filter (fun x=> !(x==a1)):=rfl
  unfold ycV ybw yb0
  simp only []
  cases hi:leb 0 (yac (fun e:Int=>e==a1) a0)
  · rw [yVv hi,hs,y1w hi]; rfl
  · obtain ⟨h1,h2⟩:=ywX (d:=(0:Int)) hi
    have h3:=zjP.1 h1
    have h4:=yXg hi
    generalize hk0:yac (fun e:Int=>e==a1) a0=k at *
    obtain ⟨k,rfl⟩: ∃ m:Nat,k=m:=⟨k.toNat,by omega⟩
    rw [Int.toNat_natCast]at h4
    rw [show ((k:Int)== -1)=false from beq_eq_false_iff_ne.2 (by omega),cond_false,wr (show -9223372036854775808≤(k:Int)+1 by omega) (by omega)]
    obtain ⟨b,e,i,s,rfl,q1,q2,q3⟩:=ziU (step:=yR) (fun x=>(a0.length - Int.toNat x.1.2.2.2.1.1))
      (fun x=> ∃ (i j:Nat) (s:List Int),x=ybJ a1 i j s∧i < j∧j≤a0.length∧s.length=a0.length∧s.take i=(a0.take j).filter (fun x=> !(x==a1))∧s.drop j=a0.drop j)
      (fun b=> ∃ (i:Nat) (s:List Int),b= .inl (yyu i s)∧i≤a0.length∧s.length=a0.length∧s.take i=a0.filter (fun x=> !(x==a1)))
      (fun x hx=>by
        obtain ⟨i,j,s,rfl,p1,p2,p3,p4,p5⟩:=hx
        by_cases hj:j < a0.length
        · left
          have e1:nth s j 0=a0[j]:=by
            rw [zjW,zcq (by omega)]
            have:=List.getElem_drop (xs:=s) (i:=j) (j:=0) (h:=by rw [List.length_drop]; omega)
            have h6:(s.drop j)[0]'(by rw [List.length_drop]; omega)=(a0.drop j)[0]'(by rw [List.length_drop]; omega):=by simp only [p5]
            simpa using h6
          have e2:a0.take (j+1)=a0.take j++ [a0[j]]:=(List.take_append_getElem hj).symm
          simp only [yR,ybJ,ye7,p3,zjI (show (j:Int) < a0.length by omega),zkO hj,zkO (show i < a0.length by omega),e1,ydw,wr (show -9223372036854775808≤(j:Int)+1 by omega) (by omega),wr (show -9223372036854775808≤(i:Int)+1 by omega) (by omega),cond_true,Int.toNat_natCast]
          cases hx:(a0[j]==a1)
          · refine ⟨_,rfl,⟨i+1,j+1,s.set i a0[j],rfl,by omega,by omega,by rw [List.length_set,p3],?_,?_⟩,by show a0.length - ((j:Int)+1).toNat < a0.length - ((j:Int)).toNat; omega⟩
            · rw [List.take_set,← List.take_append_getElem (show i < s.length by omega),List.set_append_right _ _ (by rw [List.length_take]; omega),p4,e2,List.filter_append,List.filter_cons,hx]
              have:i - (List.filter (fun x=> !x==a1) (a0.take j)).length=0:=by rw [← p4,List.length_take]; omega
              rw [this]; rfl
            · rw [List.drop_set_of_lt (by omega),← List.drop_drop,p5,List.drop_drop]
          · refine ⟨_,rfl,⟨i,j+1,s,rfl,by omega,by omega,p3,?_,?_⟩,by show a0.length - ((j:Int)+1).toNat < a0.length - ((j:Int)).toNat; omega⟩
            · rw [p4,e2,List.filter_append,List.filter_cons,hx]; simp
            · rw [← List.drop_drop,p5,List.drop_drop]
        · right
          have:j=a0.length:=by omega
          subst this
          rw [List.take_length]at p4
          refine ⟨_,?_,i,s,rfl,by omega,p3,p4⟩
          simp only [yR,ybJ,ye7,p3,zkm (Int.le_refl _),cond_false]) 18446744073709551616 (ybJ a1 k (k+1:Nat) a0) ⟨k,k+1,a0,rfl,by omega,by omega,rfl,h4.symm,rfl⟩ (by show a0.length - ((k+1:Nat):Int).toNat < 18446744073709551616; omega)
    rw [show ((k+1:Nat):Int)=(k:Int)+1 by omega]at e
    rw [show yfw (yyw a1 k ((k:Int)+1) a0)=_ from e]
    rw [hs,← q3]
    have hL:(s.take i++List.replicate ((s.length:Int) - i).toNat (0:Int)++s.drop ((i:Int).toNat+(List.replicate ((s.length:Int) - i).toNat (0:Int)).length)).length=s.length:=by
      simp only [List.length_append,List.length_take,List.length_replicate,List.length_drop]; omega
    show (bif zjG i s.length s.length then bif zjG 0 i (s.take i++List.replicate ((s.length:Int) - i).toNat (0:Int)++s.drop ((i:Int).toNat+(List.replicate ((s.length:Int) - i).toNat (0:Int)).length)).length then some ((((s.take i++List.replicate ((s.length:Int) - i).toNat (0:Int)++s.drop ((i:Int).toNat+(List.replicate ((s.length:Int) - i).toNat (0:Int)).length)).drop 0).take ((i:Int) - 0).toNat,()),()) else none else none)=some ((s.take i,()),())
    rw [hL,zko.2 (show 0≤(i:Int)∧(i:Int)≤s.length∧(s.length:Int)≤s.length by omega),zko.2 (show (0:Int)≤0∧(0:Int)≤i∧(i:Int)≤s.length by omega),List.drop_zero,show ((i:Int) - 0).toNat=i by omega,List.append_assoc,List.take_append_of_le_length (by rw [List.length_take]; omega),List.take_take,Nat.min_self]; rfl
def yoi:Con:=⟨yar,ydV,fun x=>(fun n=>some ((n,()),())) (ybw x.1 x.2.1)⟩
theorem yCz:ConOk Tryz.prog 222 yoi:=(yAL).mono (fun x r hk h=>(yCv x.1 x.2.1 hk).trans h)
end
section
def yDa:Code:=(Tryz.f129.body).getD .skip
def yDH:Env:=zki TT [(133,yk6),(200,ydu),(219,ylR),(220,yoh),(221,ywP),(222,yoi)] []
theorem yKh:FrOk Tryz.prog ⟨yDH,51,fun _=>none⟩ yDa:=zkp yc yd ⟨ysM,yhF,yvz,yw3,yH8,yCz,trivial⟩
def yLB:Nat→Option Seg:=fun _=>none
abbrev yfc:List Par:= [.rd tM,.rd tI,.rd tL]
abbrev ynU:List OT:= [⟨false,tM,(.pr (.ow (.ow .fz)) (.pr (.ow (.pr .fz (.ow .fz))) (.pr .fz (.ow .fz))))⟩,⟨false,tB,.fz⟩]
def yj6 (a0:dM) (a1:Int) (a2:List Int):Option (ResD ynU×MutD yfc) :=
  let r1:=ybm a0
  let r2:=ybh a0
  bif (!(!r2)) then
    bif (!a0.2.2.1) then
      let r3:=ybj a0 a1
      bif (!(!r3)) then
        let r4:=yhx a2
        bif (!(!r4)) then
          bif ((a0.2.1.length:Int)==60) then
            some ((r1,false,()),())
          else
            let r5:=yr a2
            bif (zj4 r1.2.1.length ([(a1,r5)]:List dW).length 32) then
              let r6:=ybw r1.2.2.2 a1
              some (((r1.1,(r1.2.1++([(a1,r5)]:List dW)),r1.2.2.1,r6),true,()),())
            else none
        else
          some ((r1,false,()),())
      else
        some ((r1,false,()),())
    else
      some ((r1,false,()),())
  else
    some ((r1,false,()),())
theorem yRW (x:InD yfc):zjH ⟨yDH,51,yLB⟩ Tryz.f129.results.toList yDa yfc ynU x=yj6 x.1 x.2.1 x.2.2.1:=by kernel_rfl
theorem yM7:ConOk Tryz.prog 129 ⟨yfc,ynU,fun x=>yj6 x.1 x.2.1 x.2.2.1⟩:=zkh (yKh) Tryz.func129 (by kernel_rfl) (by kernel_rfl) Tryz.ntmps129.symm (by decide) (fun x r h=>(yRW x).trans h)
def yjp (a0:dM) (a1:Int) (a2:List Int):dM×Bool:=yfH a0 a1 a2
theorem yPY (a0:dM) (a1:Int) (a2:List Int) (hk:zi9 yfc (a0,a1,a2,())):yj6 a0 a1 a2=(fun n=>some ((n.1,n.2,()),())) (yjp a0 a1 a2):=by
  have hb1:a0.1.length * 24≤2 ^ 47:=hk.1.1.1
  unfold yj6 yjp yfH ywN
  simp only [ybm,ybh,ybj,yaw,ypz (show a0.1.length≤1152921504606846976 by omega),yER,yr,ybw]
  cases hm:yp a0
  · rfl
  have hc:=(yao hm).2.2.2.2.2
  cases a0.2.2.1
  · cases inb a1 a0.1.length
    · rfl
    cases yaf a2
    · rfl
    by_cases h:(a0.2.1.length:Int) < 60
    · rw [zjI h,show ((a0.2.1.length:Int)==60)=false from beq_eq_false_iff_ne.2 (by omega),zkw.2 (show (a0.2.1.length+ [(a1,a2)].length) * 32≤140737488355328 by simp only [List.length_cons,List.length_nil]; omega)]; rfl
    · rw [zkm (by omega),show ((a0.2.1.length:Int)==60)=true from beq_iff_eq.2 (by omega)]; rfl
  · rfl
def yzK:Con:=⟨yfc,ynU,fun x=>(fun n=>some ((n.1,n.2,()),())) (yjp x.1 x.2.1 x.2.2.1)⟩
theorem yQE:ConOk Tryz.prog 129 yzK:=(yM7).mono (fun x r hk h=>(yPY x.1 x.2.1 x.2.2.1 hk).trans h)
end
section
def yHc:Code:=(Tryz.f205.body).getD .skip
def yHF:Env:=zki TT [] []
theorem yOw:FrOk Tryz.prog ⟨yHF,26,fun _=>none⟩ yHc:=zkp yc yd trivial
def yQ3:Nat→Option Seg:=fun _=>none
abbrev yms:List Par:= [.pt tA (.pr .fz (.pr (.pr .fz .fz) (.pr (.ow (.pr (.ow (.ow .fz)) (.pr (.ow (.pr .fz (.ow .fz))) (.pr .fz (.ow .fz))))) (.pr .fz (.pr .fz (.pr .fz (.pr .fz (.pr .fz (.pr (.ow (.pr .fz (.ow .fz))) (.pr .fz (.pr .fz .fz)))))))))))]
abbrev yr9:List OT:= [⟨false,tB,.fz⟩]
def yvC (a0:dA):Option (ResD yr9×MutD yms) :=
  bif (a0.2.2.2.2.2.2.2.2.2.1==0) then
    some ((false,()),((a0.1,a0.2.1,a0.2.2.1,a0.2.2.2.1,a0.2.2.2.2.1,a0.2.2.2.2.2.1,a0.2.2.2.2.2.2.1,a0.2.2.2.2.2.2.2.1,a0.2.2.2.2.2.2.2.2.1,(-1),true,a0.2.2.2.2.2.2.2.2.2.2.2),()))
  else
    bif (ltb 0 a0.2.2.2.2.2.2.2.2.2.1) then
      some ((true,()),((a0.1,a0.2.1,a0.2.2.1,a0.2.2.2.1,a0.2.2.2.2.1,a0.2.2.2.2.2.1,a0.2.2.2.2.2.2.1,a0.2.2.2.2.2.2.2.1,a0.2.2.2.2.2.2.2.2.1,(IntKind.i64.wrap (a0.2.2.2.2.2.2.2.2.2.1 - 1)),a0.2.2.2.2.2.2.2.2.2.2),()))
    else
      some ((true,()),(a0,()))
theorem yXw (x:InD yms):zjH ⟨yHF,26,yQ3⟩ Tryz.f205.results.toList yHc yms yr9 x=yvC x.1:=by kernel_rfl
theorem yTv:ConOk Tryz.prog 205 ⟨yms,yr9,fun x=>yvC x.1⟩:=zkh (yOw) Tryz.func205 (by kernel_rfl) (by kernel_rfl) Tryz.ntmps205.symm (by decide) (fun x r h=>(yXw x).trans h)
def yh8 (a0:dA):Bool×dA :=
  bif (a0.2.2.2.2.2.2.2.2.2.1==0) then
    (false,(a0.1,a0.2.1,a0.2.2.1,a0.2.2.2.1,a0.2.2.2.2.1,a0.2.2.2.2.2.1,a0.2.2.2.2.2.2.1,a0.2.2.2.2.2.2.2.1,a0.2.2.2.2.2.2.2.2.1,(-1),true,a0.2.2.2.2.2.2.2.2.2.2.2))
  else
    bif (ltb 0 a0.2.2.2.2.2.2.2.2.2.1) then
      (true,(a0.1,a0.2.1,a0.2.2.1,a0.2.2.2.1,a0.2.2.2.2.1,a0.2.2.2.2.2.1,a0.2.2.2.2.2.2.1,a0.2.2.2.2.2.2.2.1,a0.2.2.2.2.2.2.2.2.1,(IntKind.i64.wrap (a0.2.2.2.2.2.2.2.2.2.1 - 1)),a0.2.2.2.2.2.2.2.2.2.2))
    else
      (true,a0)
def yu4:Con:=⟨yms,yr9,fun x=>(fun n=>some ((n.1,()),(n.2,()))) (yh8 x.1)⟩
theorem yVy (a0:dA):yvC a0=(fun n=>some ((n.1,()),(n.2,()))) (yh8 a0):=zkS (p:=fun (n:Bool×dA)=>((n.1,()),(n.2,()))) (zkx (p:=fun (n:Bool×dA)=>((n.1,()),(n.2,()))) rfl (zkx (p:=fun (n:Bool×dA)=>((n.1,()),(n.2,()))) rfl rfl))
theorem yGn:ConOk Tryz.prog 205 yu4:=(yTv).mono (fun x r _ h=>(yVy x.1).trans h)
theorem yS1 {a:dA} (h:yg a=false):yh8 a=opA a:=by
  unfold yh8 opA
  rw [h]
  cases (a.2.2.2.2.2.2.2.2.2.1==0)
  · cases ltb 0 a.2.2.2.2.2.2.2.2.2.1
    · rfl
    · show (true,_)=(true,yYX a _ false)
      unfold yYX
      rw [show a.2.2.2.2.2.2.2.2.2.2=(yg a,a.2.2.2.2.2.2.2.2.2.2.2) from rfl,h]
  · rfl
end
section
def yAT:Code:=(Tryz.f107.body).getD .skip
def yBl:Env:=zki TT [(129,yzK),(205,yu4)] []
theorem yIr:FrOk Tryz.prog ⟨yBl,39,fun _=>none⟩ yAT:=zkp yc yd ⟨yQE,yGn,trivial⟩
def yJn:Nat→Option Seg:=fun _=>none
abbrev yb7:List Par:= [.pt tA (.pr .fz (.pr (.pr .fz .fz) (.pr (.ow (.pr (.ow (.ow .fz)) (.pr (.ow (.pr .fz (.ow .fz))) (.pr .fz (.ow .fz))))) (.pr .fz (.pr .fz (.pr .fz (.pr .fz (.pr .fz (.pr (.ow (.pr .fz (.ow .fz))) (.pr .fz (.pr .fz .fz))))))))))),.rd tI,.rd tI,.rd tL]
abbrev yhn:List OT:= [⟨false,tB,.fz⟩]
def yjy (a0:dA) (a1:Int) (a2:Int) (a3:List Int):Option (ResD yhn×MutD yb7) :=
  bif (inb a1 a0.2.2.1.length) then
    bif (((nth a0.2.2.1 a1 ([],[],false,[])).2).2).1 then
      some ((true,()),(a0,()))
    else
      let r1:=yh8 a0
      bif (!r1.1) then
        some ((false,()),(r1.2,()))
      else
        bif (inb a1 r1.2.2.2.1.length) then
          let r2:=yjp ((nth r1.2.2.2.1 a1 ([],[],false,[])).1,((nth r1.2.2.2.1 a1 ([],[],false,[])).2).1,(((nth r1.2.2.2.1 a1 ([],[],false,[])).2).2)) a2 a3
          bif (inb a1 r1.2.2.2.1.length) then
            some ((true,()),((r1.2.1,r1.2.2.1,(r1.2.2.2.1.set (a1).toNat r2.1),r1.2.2.2.2),()))
          else none
        else none
  else none
theorem yOn (x:InD yb7):zjH ⟨yBl,39,yJn⟩ Tryz.f107.results.toList yAT yb7 yhn x=yjy x.1 x.2.1 x.2.2.1 x.2.2.2.1:=by kernel_rfl
theorem yK2:ConOk Tryz.prog 107 ⟨yb7,yhn,fun x=>yjy x.1 x.2.1 x.2.2.1 x.2.2.2.1⟩:=zkh (yIr) Tryz.func107 (by kernel_rfl) (by kernel_rfl) Tryz.ntmps107.symm (by decide) (fun x r h=>(yOn x).trans h)
def yeq (a0:dA) (a1 a2:Int) (a3:List Int):Bool×dA:=(!(yg (ydT a0 a1 a2 a3)),ydT a0 a1 a2 a3)
def yer (a0:dA) (a1 a2:Int) (a3:List Int):Bool:=inb a1 a0.2.2.1.length&& !(yg a0)
theorem yMX (a0:dA) (a1 a2:Int) (a3:List Int) (hk:zi9 yb7 (a0,a1,a2,a3,())) (hq:yer a0 a1 a2 a3=true):yjy a0 a1 a2 a3=(fun n=>some ((n.1,()),(n.2,()))) (yeq a0 a1 a2 a3):=by
  simp only [yer,Bool.and_eq_true,Bool.not_eq_true'] at hq
  unfold yjy yeq
  simp only [y1A hq.2]
  unfold ydT ync
  simp only [yS1 hq.2,yaI,hq.1,zkV,yjp]
  cases (nth a0.2.2.1 a1 ye).2.2.1<;>cases (opA a0).1<;>rfl
def yhE (a0:dA) (a1:Int) (a2:Int) (a3:List Int):Option (ResD yhn×MutD yb7):=bif yer a0 a1 a2 a3 then (fun n=>some ((n.1,()),(n.2,()))) (yeq a0 a1 a2 a3) else none
theorem yAo (a0:dA) (a1:Int) (a2:Int) (a3:List Int) (h:yer a0 a1 a2 a3=true):yhE a0 a1 a2 a3=(fun n=>some ((n.1,()),(n.2,()))) (yeq a0 a1 a2 a3):=by unfold yhE; rw [h]; rfl
def ypr:Con:=⟨yb7,yhn,fun x=>yhE x.1 x.2.1 x.2.2.1 x.2.2.2.1⟩
theorem yAk:ConOk Tryz.prog 107 ypr:=(yK2).mono (fun x r hk h=>zkW h (fun hq=>yMX x.1 x.2.1 x.2.2.1 x.2.2.2.1 hk hq))
end
end
end Go.Tf
