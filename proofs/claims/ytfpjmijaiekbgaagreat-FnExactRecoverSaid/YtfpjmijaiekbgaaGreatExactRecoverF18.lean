/- Functions of the program, and what they come to. -/
import Derived.Test.YtfpjmijaiekbgaaGreatExactRecoverF17
namespace Go.Tf
noncomputable section
open Go.Proofs
set_option synthInstance.maxHeartbeats 400000
set_option synthInstance.maxSize 10000
set_option linter.unusedVariables false
set_option linter.unusedSimpArgs false
set_option maxRecDepth 100000
section
def ybU:Code:=(Tryz.f251.body).getD .skip
def yel:Env:=zki TT [(217,yn6)] []
theorem yCD:FrOk Tryz.prog ⟨yel,19,fun _=>none⟩ ybU:=zkp yb yc ⟨yz9,trivial⟩
def yp5:Nat→Option Seg:=fun _=>none
def yB:Shape:=⟨[(0,false,[.br tI]),(1,false,[.fx 217 tI]),(7,false,[.int .i64]),(8,false,[.int .i64])],[],[]⟩
def yau:Shape:=⟨[(0,false,[.br tI]),(1,false,[.fx 217 tI]),(7,false,[.int .i64]),(8,false,[.ci .i64 0])],[],[]⟩
def yat:Shape:=⟨[],[],[]⟩
def yav:Shape:=⟨[(4,false,[.int .i64])],[],[]⟩
abbrev yfp (v0:List Int) (v1:Int) (v2:Int) (v3:Int):(yB).X:=(((v0,()),(v1,()),(v2,()),(v3,()),()),(),())
abbrev yAx (v0:List Int) (v1:Int) (v2:Int):(yau).X:=(((v0,()),(v1,()),(v2,()),((),()),()),(),())
abbrev yAw  :(yat).X:=((),(),())
abbrev ynF (v0:Int):(yav).X:=(((v0,()),()),(),())
def yfs (v0:List Int) (v1:Int) (v2:Int) (v3:Int):Option ((yB).X ⊕ ((yat).X ⊕ (yav).X)) :=
  bif (ltb v3 v2) then
    bif (inb v3 v0.length) then
      let r2:=ydg (nth v0 v3 0) v1
      bif r2 then
        some (.inr (.inr (((v3,()),()),(),())))
      else
        some (.inl (((v0,()),(v1,()),(v2,()),((IntKind.i64.wrap (v3+1)),()),()),(),()))
    else none
  else
    some (.inr (.inl ((),(),())))
def yG (x:(yB).X):=yfs x.1.1.1 x.1.2.1.1 x.1.2.2.1.1 x.1.2.2.2.1.1
def ynD (x:(yau).X):(yB).X:=(((x.1.1.1,()),(x.1.2.1.1,()),(x.1.2.2.1.1,()),(0,()),()),(),())
def ypq:Code:=(zdI ybU 64 52).getD .skip
theorem yCB:zdI ybU 64 13=some (.block 0 (.loop ypq)):=by kernel_rfl
theorem yCH (x:(yB).X):zg7 ⟨yel,19,yp5⟩ 0 ypq 52 yB yat yav x=yG x:=by kernel_rfl
def ynE (x:(yau).X):Nat:=(fun (u0:List Int) (u1:Int) (u2:Int)=>18446744073709551616) x.1.1.1 x.1.2.1.1 x.1.2.2.1.1
def yf3 (x:(yau).X):Option ((yat).X ⊕ (yav).X):=zr yG (ynE x) (ynD x)
def ynV:Seg:=⟨yau,yat,yav,yf3⟩
def yp6:Nat→Option Seg:=fun q=>bif Nat.beq q 13 then some ynV else yp5 q
theorem yCE:FrOk Tryz.prog ⟨yel,19,yp6⟩ ybU:=(yCD).loop (sg:=ynV) yB ynD (by decide) yCB yG ynE (by decide) (fun _=>rfl) (fun x r _ h=>h) yCH
abbrev yai:List Par:= [.rd tL,.fn 217 tI]
abbrev yem:List OT:= [⟨false,tI,.fz⟩]
def yc6 (a0:List Int) (a1:Int):Option (ResD yem×MutD yai) :=
  zjw (yf3 (((a0,()),(a1,()),((a0.length:Int),()),((),()),()),(),())) (fun y2 =>
    some (((-1),()),())) (fun y2 =>
    some ((y2.1.1.1,()),()))
theorem yG3 (x:InD yai):zjH ⟨yel,19,yp6⟩ Tryz.f251.results.toList ybU yai yem x=yc6 x.1 x.2.1:=by kernel_rfl
theorem yEH:ConOk Tryz.prog 251 ⟨yai,yem,fun x=>yc6 x.1 x.2.1⟩:=zkh (yCE) Tryz.func251 (by kernel_rfl) (by kernel_rfl) Tryz.ntmps251.symm (by decide) (fun x r h=>(yG3 x).trans h)
def ybW (a0:List Int) (a1:Int):Int:=yz (fun e:Int=>e==a1) a0
theorem yE9 (a0:List Int) (a1:Int) (hk:zi9 yai (a0,a1,())):yc6 a0 a1=(fun n=>some ((n,()),())) (ybW a0 a1):=by
  have hb:a0.length * 8≤2 ^ 47:=hk.1.1
  have h1:yf3 (yAx a0 a1 a0.length)=some (bif leb 0 (yz (fun e:Int=>e==a1) a0) then .inr (ynF (yz (fun e:Int=>e==a1) a0)) else .inl yAw) :=
    yMc (step:=yG) a0 0 (fun i=>yfp a0 a1 a0.length i) (fun e:Int=>e==a1) (fun i=> .inr (ynF i)) _ (fun i hi=>by
      simp only [yG,yfp,yfs,zjI (show (i:Int) < a0.length by omega),cond_true,wr (show -9223372036854775808≤(i:Int)+1 by omega) (by omega),Int.natCast_add,Int.natCast_one,Int.toNat_natCast,zkO hi,zjW,ydg]
      cases (a0.getD i 0==a1)<;>rfl) (by simp only [yG,yfp,yfs,zkm (Int.le_refl _),cond_false]) _ (by show _ < 18446744073709551616; omega)
  unfold yc6 ybW
  rw [h1]
  cases h:leb 0 (yz (fun e:Int=>e==a1) a0)
  · rw [y13 h]; rfl
  · rfl
def yqw:Con:=⟨yai,yem,fun x=>(fun n=>some ((n,()),())) (ybW x.1 x.2.1)⟩
theorem yFc:ConOk Tryz.prog 251 yqw:=(yEH).mono (fun x r hk h=>(yE9 x.1 x.2.1 hk).trans h)
end
section
def ybh:Code:=(Tryz.f216.body).getD .skip
def ydC:Env:=zki TT [(217,yn6),(251,yqw)] []
theorem yAu:FrOk Tryz.prog ⟨ydC,42,fun _=>none⟩ ybh:=zkp yb yc ⟨yz9,yFc,trivial⟩
def yoA:Nat→Option Seg:=fun _=>none
def yx:Shape:=⟨[(0,false,[.at 800000000]),(1,false,[.fx 217 tI]),(5,false,[.int .i64]),(6,false,[.int .i64])],[],[(800000000,tI,.fz)]⟩
def yag:Shape:=⟨[(0,false,[.at 800000000]),(1,false,[.fx 217 tI]),(5,false,[.int .i64]),(6,false,[.int .i64])],[],[(800000000,tI,.fz)]⟩
def yaf:Shape:=⟨[(0,false,[.at 800000000]),(5,false,[.int .i64])],[],[(800000000,tI,.fz)]⟩
def ybX:Shape:=⟨[],[],[]⟩
abbrev ybx (v0:Int) (v1:Int) (v2:Int) (v3:List Int):(yx).X:=((((),()),(v0,()),(v1,()),(v2,()),()),(),(v3,()))
abbrev yz8 (v0:Int) (v1:Int) (v2:Int) (v3:List Int):(yag).X:=((((),()),(v0,()),(v1,()),(v2,()),()),(),(v3,()))
abbrev yz6 (v0:Int) (v1:List Int):(yaf).X:=((((),()),(v0,()),()),(),(v1,()))
def yeO (v0:Int) (v1:Int) (v2:Int) (v3:List Int):Option ((yx).X ⊕ ((yaf).X ⊕ (ybX).X)) :=
  bif (ltb v2 (v3.length:Int)) then
    bif (inb v2 v3.length) then
      let r3:=ydg (nth v3 v2 0) v0
      bif (!r3) then
        bif (inb v1 v3.length) then
          some (.inl ((((),()),(v0,()),((IntKind.i64.wrap (v1+1)),()),((IntKind.i64.wrap (v2+1)),()),()),(),((v3.set (v1).toNat (nth v3 v2 0)),())))
        else none
      else
        some (.inl ((((),()),(v0,()),(v1,()),((IntKind.i64.wrap (v2+1)),()),()),(),(v3,())))
    else none
  else
    some (.inr (.inl ((((),()),(v1,()),()),(),(v3,()))))
def yD (x:(yx).X):=yeO x.1.2.1.1 x.1.2.2.1.1 x.1.2.2.2.1.1 x.2.2.1
def ylP (x:(yag).X):(yx).X:=((((),()),(x.1.2.1.1,()),(x.1.2.2.1.1,()),(x.1.2.2.2.1.1,()),()),(),(x.2.2.1,()))
def ynC:Code:=(zdI ybh 64 244).getD .skip
theorem yAs:zdI ybh 64 61=some (.block 0 (.loop ynC)):=by kernel_rfl
theorem yAC (x:(yx).X):zg7 ⟨ydC,42,yoA⟩ 0 ynC 244 yx yaf ybX x=yD x:=by kernel_rfl
def ylQ (x:(yag).X):Nat:=(fun (u0:Int) (u1:Int) (u2:Int) (u3:List Int)=>18446744073709551616) x.1.2.1.1 x.1.2.2.1.1 x.1.2.2.2.1.1 x.2.2.1
def yfm (x:(yag).X):Option ((yaf).X ⊕ (ybX).X):=zr yD (ylQ x) (ylP x)
def ylR:Seg:=⟨yag,yaf,ybX,yfm⟩
def yoB:Nat→Option Seg:=fun q=>bif Nat.beq q 61 then some ylR else yoA q
theorem yAv:FrOk Tryz.prog ⟨ydC,42,yoB⟩ ybh:=(yAu).loop (sg:=ylR) yx ylP (by decide) yAs yD ylQ (by decide) (fun _=>rfl) (fun x r _ h=>h) yAC
abbrev yaa:List Par:= [.kp tL (.ow .fz),.fn 217 tI]
abbrev ydD:List OT:= [⟨false,tL,(.ow .fz)⟩]
def ycF (a0:List Int) (a1:Int):Option (ResD ydD×MutD yaa) :=
  let r1:=ybW a0 a1
  bif (r1==(-1)) then
    some ((a0,()),())
  else
    zjw (yfm ((((),()),(a1,()),(r1,()),((IntKind.i64.wrap (r1+1)),()),()),(),(a0,()))) (fun y3 =>
      bif (zjG y3.1.2.1.1 (y3.2.2.1.length:Int) y3.2.2.1.length) then
        bif (zjG 0 y3.1.2.1.1 (y3.2.2.1.take (y3.1.2.1.1).toNat++(List.replicate ((y3.2.2.1.length:Int) - y3.1.2.1.1).toNat (0:Int))++y3.2.2.1.drop ((y3.1.2.1.1).toNat+(List.replicate ((y3.2.2.1.length:Int) - y3.1.2.1.1).toNat (0:Int)).length)).length) then
          some (((((y3.2.2.1.take (y3.1.2.1.1).toNat++(List.replicate ((y3.2.2.1.length:Int) - y3.1.2.1.1).toNat (0:Int))++y3.2.2.1.drop ((y3.1.2.1.1).toNat+(List.replicate ((y3.2.2.1.length:Int) - y3.1.2.1.1).toNat (0:Int)).length)).drop (0:Int).toNat).take (y3.1.2.1.1 - 0).toNat),()),())
        else none
      else none) (fun y3 =>
      none)
theorem yE8 (x:InD yaa):zjH ⟨ydC,42,yoB⟩ Tryz.f216.results.toList ybh yaa ydD x=ycF x.1 x.2.1:=by kernel_rfl
theorem yCG:ConOk Tryz.prog 216 ⟨yaa,ydD,fun x=>ycF x.1 x.2.1⟩:=zkh (yAv) Tryz.func216 (by kernel_rfl) (by kernel_rfl) Tryz.ntmps216.symm (by decide) (fun x r h=>(yE8 x).trans h)
def ybi (a0:List Int) (a1:Int):List Int:=yZg a0 a1
theorem yEG (a0:List Int) (a1:Int) (hk:zi9 yaa (a0,a1,())):ycF a0 a1=(fun n=>some ((n,()),())) (ybi a0 a1):=by
  have hb:a0.length * 8≤2 ^ 47:=hk.1.1
  have hs:yZg a0 a1=a0.filter (fun x=> !(x==a1)):=rfl
  unfold ycF ybi ybW
  simp only []
  cases hi:leb 0 (yz (fun e:Int=>e==a1) a0)
  · rw [y13 hi,hs,y2A hi]; rfl
  · obtain ⟨h1,h2⟩:=yRp (d:=(0:Int)) hi
    have h3:=zjP.1 h1
    have h4:=yZm hi
    generalize hk0:yz (fun e:Int=>e==a1) a0=k at *
    obtain ⟨k,rfl⟩: ∃ m:Nat,k=m:=⟨k.toNat,by omega⟩
    rw [Int.toNat_natCast]at h4
    rw [show ((k:Int)== -1)=false from beq_eq_false_iff_ne.2 (by omega),cond_false,wr (show -9223372036854775808≤(k:Int)+1 by omega) (by omega)]
    obtain ⟨b,e,i,s,rfl,q1,q2,q3⟩:=ziU (step:=yD) (fun x=>(a0.length - Int.toNat x.1.2.2.2.1.1))
      (fun x=> ∃ (i j:Nat) (s:List Int),x=ybx a1 i j s∧i < j∧j≤a0.length∧s.length=a0.length∧s.take i=(a0.take j).filter (fun x=> !(x==a1))∧s.drop j=a0.drop j)
      (fun b=> ∃ (i:Nat) (s:List Int),b= .inl (yz6 i s)∧i≤a0.length∧s.length=a0.length∧s.take i=a0.filter (fun x=> !(x==a1)))
      (fun x hx=>by
        obtain ⟨i,j,s,rfl,p1,p2,p3,p4,p5⟩:=hx
        by_cases hj:j < a0.length
        · left
          have e1:nth s j 0=a0[j]:=by
            rw [zjW,zcq (by omega)]
            have:=List.getElem_drop (xs:=s) (i:=j) (j:=0) (h:=by rw [List.length_drop]; omega)
            have h6:(s.drop j)[0]'(by rw [List.length_drop]; omega)=(a0.drop j)[0]'(by rw [List.length_drop]; omega):=by simp only [p5]
            simpa using h6
          have e2:a0.take (j+1)=a0.take j++ [a0[j]]:=(List.take_append_getElem hj).symm
          simp only [yD,ybx,yeO,p3,zjI (show (j:Int) < a0.length by omega),zkO hj,zkO (show i < a0.length by omega),e1,ydg,wr (show -9223372036854775808≤(j:Int)+1 by omega) (by omega),wr (show -9223372036854775808≤(i:Int)+1 by omega) (by omega),cond_true,Int.toNat_natCast]
          cases hx:(a0[j]==a1)
          · refine ⟨_,rfl,⟨i+1,j+1,s.set i a0[j],rfl,by omega,by omega,by rw [List.length_set,p3],?_,?_⟩,by show a0.length - ((j:Int)+1).toNat < a0.length - ((j:Int)).toNat; omega⟩
            · rw [List.take_set,← List.take_append_getElem (show i < s.length by omega),List.set_append_right _ _ (by rw [List.length_take]; omega),p4,e2,List.filter_append,List.filter_cons,hx]
              have:i - (List.filter (fun x=> !x==a1) (a0.take j)).length=0:=by rw [← p4,List.length_take]; omega
              rw [this]; rfl
            · rw [List.drop_set_of_lt (by omega),← List.drop_drop,p5,List.drop_drop]
          · refine ⟨_,rfl,⟨i,j+1,s,rfl,by omega,by omega,p3,?_,?_⟩,by show a0.length - ((j:Int)+1).toNat < a0.length - ((j:Int)).toNat; omega⟩
            · rw [p4,e2,List.filter_append,List.filter_cons,hx]; simp
            · rw [← List.drop_drop,p5,List.drop_drop]
        · right
          have:j=a0.length:=by omega
          subst this
          rw [List.take_length]at p4
          refine ⟨_,?_,i,s,rfl,by omega,p3,p4⟩
          simp only [yD,ybx,yeO,p3,zkm (Int.le_refl _),cond_false]) 18446744073709551616 (ybx a1 k (k+1:Nat) a0) ⟨k,k+1,a0,rfl,by omega,by omega,rfl,h4.symm,rfl⟩ (by show a0.length - ((k+1:Nat):Int).toNat < 18446744073709551616; omega)
    rw [show ((k+1:Nat):Int)=(k:Int)+1 by omega]at e
    rw [show yfm (yz8 a1 k ((k:Int)+1) a0)=_ from e]
    rw [hs,← q3]
    have hL:(s.take i++List.replicate ((s.length:Int) - i).toNat (0:Int)++s.drop ((i:Int).toNat+(List.replicate ((s.length:Int) - i).toNat (0:Int)).length)).length=s.length:=by
      simp only [List.length_append,List.length_take,List.length_replicate,List.length_drop]; omega
    show (bif zjG i s.length s.length then bif zjG 0 i (s.take i++List.replicate ((s.length:Int) - i).toNat (0:Int)++s.drop ((i:Int).toNat+(List.replicate ((s.length:Int) - i).toNat (0:Int)).length)).length then some ((((s.take i++List.replicate ((s.length:Int) - i).toNat (0:Int)++s.drop ((i:Int).toNat+(List.replicate ((s.length:Int) - i).toNat (0:Int)).length)).drop 0).take ((i:Int) - 0).toNat,()),()) else none else none)=some ((s.take i,()),())
    rw [hL,zko.2 (show 0≤(i:Int)∧(i:Int)≤s.length∧(s.length:Int)≤s.length by omega),zko.2 (show (0:Int)≤0∧(0:Int)≤i∧(i:Int)≤s.length by omega),List.drop_zero,show ((i:Int) - 0).toNat=i by omega,List.append_assoc,List.take_append_of_le_length (by rw [List.length_take]; omega),List.take_take,Nat.min_self]; rfl
def ypt:Con:=⟨yaa,ydD,fun x=>(fun n=>some ((n,()),())) (ybi x.1 x.2.1)⟩
theorem yEL:ConOk Tryz.prog 216 ypt:=(yCG).mono (fun x r hk h=>(yEG x.1 x.2.1 hk).trans h)
end
section
def yFg:Code:=(Tryz.f155.body).getD .skip
def yFU:Env:=zki TT [(132,yeb),(151,yam),(203,yyi),(204,ypr),(215,ygZ),(216,ypt)] []
theorem yLI:FrOk Tryz.prog ⟨yFU,51,fun _=>none⟩ yFg:=zkp yb yc ⟨yhW,yca,yJM,yyn,ypy,yEL,trivial⟩
def yNj:Nat→Option Seg:=fun _=>none
abbrev yeU:List Par:= [.rd tM,.rd tI,.rd tL]
abbrev yo0:List OT:= [⟨false,tM,(.pr (.ow (.ow .fz)) (.pr (.ow (.pr .fz (.ow .fz))) (.pr .fz (.ow .fz))))⟩,⟨false,tB,.fz⟩]
def ykr (a0:dM) (a1:Int) (a2:List Int):Option (ResD yo0×MutD yeU) :=
  let r1:=yT a0
  let r2:=yE a0
  bif (!(!r2)) then
    bif (!a0.2.2.1) then
      let r3:=yaY a0 a1
      bif (!(!r3)) then
        let r4:=yg2 a2
        bif (!(!r4)) then
          bif ((a0.2.1.length:Int)==60) then
            some ((r1,false,()),())
          else
            let r5:=yj a2
            bif (zj4 r1.2.1.length ([(a1,r5)]:List dW).length 32) then
              let r6:=ybi r1.2.2.2 a1
              some (((r1.1,(r1.2.1++([(a1,r5)]:List dW)),r1.2.2.1,r6),true,()),())
            else none
        else
          some ((r1,false,()),())
      else
        some ((r1,false,()),())
    else
      some ((r1,false,()),())
  else
    some ((r1,false,()),())
theorem yT7 (x:InD yeU):zjH ⟨yFU,51,yNj⟩ Tryz.f155.results.toList yFg yeU yo0 x=ykr x.1 x.2.1 x.2.2.1:=by kernel_rfl
theorem yO2:ConOk Tryz.prog 155 ⟨yeU,yo0,fun x=>ykr x.1 x.2.1 x.2.2.1⟩:=zkh (yLI) Tryz.func155 (by kernel_rfl) (by kernel_rfl) Tryz.ntmps155.symm (by decide) (fun x r h=>(yT7 x).trans h)
def yjp (a0:dM) (a1:Int) (a2:List Int):dM×Bool:=yjK a0 a1 a2
theorem yRZ (a0:dM) (a1:Int) (a2:List Int) (hk:zi9 yeU (a0,a1,a2,())):ykr a0 a1 a2=(fun n=>some ((n.1,n.2,()),())) (yjp a0 a1 a2):=by
  have hb1:a0.1.length * 24≤2 ^ 47:=hk.1.1.1
  unfold ykr yjp yjK yyf
  simp only [yT,yE,yaY,yM,ytb (show a0.1.length≤1152921504606846976 by omega),yG4,yj,ybi]
  cases hm:yp a0
  · rfl
  have hc:=(yf7 hm).2.2.2.2.2
  cases a0.2.2.1
  · cases inb a1 a0.1.length
    · rfl
    cases ybz a2
    · rfl
    by_cases h:(a0.2.1.length:Int) < 60
    · rw [zjI h,show ((a0.2.1.length:Int)==60)=false from beq_eq_false_iff_ne.2 (by omega),zkw.2 (show (a0.2.1.length+ [(a1,a2)].length) * 32≤140737488355328 by simp only [List.length_cons,List.length_nil]; omega)]; rfl
    · rw [zkm (by omega),show ((a0.2.1.length:Int)==60)=true from beq_iff_eq.2 (by omega)]; rfl
  · rfl
def yBE:Con:=⟨yeU,yo0,fun x=>(fun n=>some ((n.1,n.2,()),())) (yjp x.1 x.2.1 x.2.2.1)⟩
theorem ySO:ConOk Tryz.prog 155 yBE:=(yO2).mono (fun x r hk h=>(yRZ x.1 x.2.1 x.2.2.1 hk).trans h)
end
section
def yCO:Code:=(Tryz.f78.body).getD .skip
def yDp:Env:=zki TT [(154,ywe),(155,yBE)] []
theorem yJ5:FrOk Tryz.prog ⟨yDp,39,fun _=>none⟩ yCO:=zkp yb yc ⟨yIj,ySO,trivial⟩
def yKT:Nat→Option Seg:=fun _=>none
abbrev yb0:List Par:= [.pt tA (.pr .fz (.pr (.pr .fz .fz) (.pr (.ow (.pr (.ow (.ow .fz)) (.pr (.ow (.pr .fz (.ow .fz))) (.pr .fz (.ow .fz))))) (.pr .fz (.pr .fz (.pr .fz (.pr .fz (.pr .fz (.pr (.ow (.pr .fz (.ow .fz))) (.pr .fz (.pr .fz .fz))))))))))),.rd tI,.rd tI,.rd tL]
abbrev ygU:List OT:= [⟨false,tB,.fz⟩]
def yjC (a0:dA) (a1:Int) (a2:Int) (a3:List Int):Option (ResD ygU×MutD yb0) :=
  bif (inb a1 a0.2.2.1.length) then
    bif (((nth a0.2.2.1 a1 ([],[],false,[])).2).2).1 then
      some ((true,()),(a0,()))
    else
      let r1:=yhQ a0
      bif (!r1.1) then
        some ((false,()),(r1.2,()))
      else
        bif (inb a1 r1.2.2.2.1.length) then
          let r2:=yjp ((nth r1.2.2.2.1 a1 ([],[],false,[])).1,((nth r1.2.2.2.1 a1 ([],[],false,[])).2).1,(((nth r1.2.2.2.1 a1 ([],[],false,[])).2).2)) a2 a3
          bif (inb a1 r1.2.2.2.1.length) then
            some ((true,()),((r1.2.1,r1.2.2.1,(r1.2.2.2.1.set (a1).toNat r2.1),r1.2.2.2.2),()))
          else none
        else none
  else none
theorem yQt (x:InD yb0):zjH ⟨yDp,39,yKT⟩ Tryz.f78.results.toList yCO yb0 ygU x=yjC x.1 x.2.1 x.2.2.1 x.2.2.2.1:=by kernel_rfl
theorem yMH:ConOk Tryz.prog 78 ⟨yb0,ygU,fun x=>yjC x.1 x.2.1 x.2.2.1 x.2.2.2.1⟩:=zkh (yJ5) Tryz.func78 (by kernel_rfl) (by kernel_rfl) Tryz.ntmps78.symm (by decide) (fun x r h=>(yQt x).trans h)
def yb9 (a0:dA) (a1 a2:Int) (a3:List Int):Bool×dA:=(!(ye (yf4 a0 a1 a2 a3)),yf4 a0 a1 a2 a3)
def ycb (a0:dA) (a1 a2:Int) (a3:List Int):Bool:=inb a1 a0.2.2.1.length&& !(ye a0)
theorem yOO (a0:dA) (a1 a2:Int) (a3:List Int) (hk:zi9 yb0 (a0,a1,a2,a3,())) (hq:ycb a0 a1 a2 a3=true):yjC a0 a1 a2 a3=(fun n=>some ((n.1,()),(n.2,()))) (yb9 a0 a1 a2 a3):=by
  simp only [ycb,Bool.and_eq_true,Bool.not_eq_true'] at hq
  unfold yjC yb9
  simp only [y2F hq.2]
  unfold yf4 yEN
  simp only [yU6 hq.2,yei,hq.1,zkV,yjp]
  cases (nth a0.2.2.1 a1 yf).2.2.1<;>cases (opA a0).1<;>rfl
def yeh (a0:dA) (a1:Int) (a2:Int) (a3:List Int):Option (ResD ygU×MutD yb0):=bif ycb a0 a1 a2 a3 then (fun n=>some ((n.1,()),(n.2,()))) (yb9 a0 a1 a2 a3) else none
theorem ysI (a0:dA) (a1:Int) (a2:Int) (a3:List Int) (h:ycb a0 a1 a2 a3=true):yeh a0 a1 a2 a3=(fun n=>some ((n.1,()),(n.2,()))) (yb9 a0 a1 a2 a3):=by unfold yeh; rw [h]; rfl
def yje:Con:=⟨yb0,ygU,fun x=>yeh x.1 x.2.1 x.2.2.1 x.2.2.2.1⟩
theorem ysG:ConOk Tryz.prog 78 yje:=(yMH).mono (fun x r hk h=>zkW h (fun hq=>yOO x.1 x.2.1 x.2.2.1 x.2.2.2.1 hk hq))
end
section
def yIY:Code:=(Tryz.f167.body).getD .skip
def yJn:Env:=zki TT [(230,yyh)] []
theorem yQF:FrOk Tryz.prog ⟨yJn,17,fun _=>none⟩ yIY:=zkp yb yc ⟨yJL,trivial⟩
def yTr:Nat→Option Seg:=fun _=>none
abbrev yhy:List Par:= [.rd tN]
abbrev ytB:List OT:= [⟨false,tL,(.ow .fz)⟩]
def ypC (a0:dN):Option (ResD ytB×MutD yhy) :=
  let r1:=ylz a0
  bif (!r1) then
    some (([],()),())
  else
    bif (zj4 ([21322,a0.1,a0.2.1,(a0.2.2.length:Int)]:List Int).length a0.2.2.length 8) then
      some (((([21322,a0.1,a0.2.1,(a0.2.2.length:Int)]:List Int)++a0.2.2),()),())
    else none
theorem yZE (x:InD yhy):zjH ⟨yJn,17,yTr⟩ Tryz.f167.results.toList yIY yhy ytB x=ypC x.1:=by kernel_rfl
theorem yVJ:ConOk Tryz.prog 167 ⟨yhy,ytB,fun x=>ypC x.1⟩:=zkh (yQF) Tryz.func167 (by kernel_rfl) (by kernel_rfl) Tryz.ntmps167.symm (by decide) (fun x r h=>(yZE x).trans h)
def ynJ (a0:dN):List Int:=yqK a0
theorem yXV (a0:dN) (hk:zi9 yhy (a0,())):ypC a0=(fun n=>some ((n,()),())) (ynJ a0):=by
  unfold ypC ynJ yqK
  simp only [yPW]
  cases hr:ym a0
  · rfl
  · have:=(yM8.1 hr).2.2.1
    rw [zkw.2 (show (([21322,a0.1,a0.2.1,(a0.2.2.length:Int)]:List Int).length+a0.2.2.length) * 8≤140737488355328 by simp only [List.length_cons,List.length_nil]; omega)]; rfl
def yGo:Con:=⟨yhy,ytB,fun x=>(fun n=>some ((n,()),())) (ynJ x.1)⟩
theorem yYR:ConOk Tryz.prog 167 yGo:=(yVJ).mono (fun x r hk h=>(yXV x.1 hk).trans h)
end
section
def yhZ:Code:=(Tryz.f231.body).getD .skip
def yoE:Env:=zki TT [(132,yeb),(151,yam),(215,ygZ)] []
theorem yLD:FrOk Tryz.prog ⟨yoE,34,fun _=>none⟩ yhZ:=zkp yb yc ⟨yhW,yca,ypy,trivial⟩
def yAS:Nat→Option Seg:=fun _=>none
def yaR:Shape:=⟨[(2,false,[.ptr 64 0]),(3,false,[.ptr 4224 0]),(17,false,[.br tW]),(18,false,[.int .i64]),(19,false,[.int .i64])],[(64,[.nil,.nil,.bool,.nil]),(4224,[.at 800000000,.at 800000001,.bool,.at 800000002])],[(800000000,tL,(.ow .fz)),(800000001,tW,(.pr .fz (.ow .fz))),(800000002,tI,.fz)]⟩
def yeD:Shape:=⟨[(2,false,[.ptr 64 0]),(3,false,[.ptr 4224 0]),(17,false,[.br tW]),(18,false,[.int .i64]),(19,false,[.ci .i64 0])],[(64,[.nil,.nil,.bool,.nil]),(4224,[.at 800000000,.at 800000001,.bool,.at 800000002])],[(800000000,tL,(.ow .fz)),(800000001,tW,(.pr .fz (.ow .fz))),(800000002,tI,.fz)]⟩
def yev:Shape:=⟨[(2,false,[.ptr 64 0]),(3,false,[.ptr 4224 0])],[(64,[.nil,.nil,.bool,.nil]),(4224,[.at 800000000,.at 800000001,.bool,.at 800000002])],[(800000000,tL,(.ow .fz)),(800000001,tW,(.pr .fz (.ow .fz))),(800000002,tI,.fz)]⟩
def yiY:Shape:=⟨[],[],[]⟩
abbrev yob (v0:List dW) (v1:Int) (v2:Int) (v3:dM) (v4:dM):(yaR).X:=((((),()),((),()),(v0,()),(v1,()),(v2,()),()),(((),(),v3.2.2.1,(),()),((),(),v4.2.2.1,(),()),()),(v4.1,v4.2.1,v4.2.2.2,()))
abbrev yKm (v0:List dW) (v1:Int) (v2:dM) (v3:dM):(yeD).X:=((((),()),((),()),(v0,()),(v1,()),((),()),()),(((),(),v2.2.2.1,(),()),((),(),v3.2.2.1,(),()),()),(v3.1,v3.2.1,v3.2.2.2,()))
abbrev yxS (v0:dM) (v1:dM):(yev).X:=((((),()),((),()),()),(((),(),v0.2.2.1,(),()),((),(),v1.2.2.1,(),()),()),(v1.1,v1.2.1,v1.2.2.2,()))
def yoq (v0:List dW) (v1:Int) (v2:Int) (v3:Bool) (v4:Bool) (v5:List (List Int)) (v6:List dW) (v7:List Int):Option ((yaR).X ⊕ ((yev).X ⊕ (yiY).X)) :=
  bif (ltb v2 v1) then
    bif (inb v2 v0.length) then
      let r4:=yj ((nth v0 v2 (0,[])).2)
      bif (inb ((nth v0 v2 (0,[])).1) v5.length) then
        some (.inl ((((),()),((),()),(v0,()),(v1,()),((IntKind.i64.wrap (v2+1)),()),()),(((),(),v3,(),()),((),(),v4,(),()),()),((v5.set ((nth v0 v2 (0,[])).1).toNat r4),v6,v7,())))
      else none
    else none
  else
    some (.inr (.inl ((((),()),((),()),()),(((),(),v3,(),()),((),(),v4,(),()),()),(v5,v6,v7,()))))
def ya7 (x:(yaR).X):=yoq x.1.2.2.1.1 x.1.2.2.2.1.1 x.1.2.2.2.2.1.1 x.2.1.1.2.2.1 x.2.1.2.1.2.2.1 x.2.2.1 x.2.2.2.1 x.2.2.2.2.1
def yxs (x:(yeD).X):(yaR).X:=((((),()),((),()),(x.1.2.2.1.1,()),(x.1.2.2.2.1.1,()),(0,()),()),(((),(),x.2.1.1.2.2.1,(),()),((),(),x.2.1.2.1.2.2.1,(),()),()),(x.2.2.1,x.2.2.2.1,x.2.2.2.2.1,()))
def yza:Code:=(zdI yhZ 64 244).getD .skip
theorem yLd:zdI yhZ 64 61=some (.block 0 (.loop yza)):=by kernel_rfl
theorem yMY (x:(yaR).X):zg7 ⟨yoE,34,yAS⟩ 0 yza 244 yaR yev yiY x=ya7 x:=by kernel_rfl
def yxG (x:(yeD).X):Nat:=(fun (u0:List dW) (u1:Int) (u2:Bool) (u3:Bool) (u4:List (List Int)) (u5:List dW) (u6:List Int)=>18446744073709551616) x.1.2.2.1.1 x.1.2.2.2.1.1 x.2.1.1.2.2.1 x.2.1.2.1.2.2.1 x.2.2.1 x.2.2.2.1 x.2.2.2.2.1
def yqa (x:(yeD).X):Option ((yev).X ⊕ (yiY).X):=zr ya7 (yxG x) (yxs x)
def yxZ:Seg:=⟨yeD,yev,yiY,yqa⟩
def yAT:Nat→Option Seg:=fun q=>bif Nat.beq q 61 then some yxZ else yAS q
theorem yLE:FrOk Tryz.prog ⟨yoE,34,yAT⟩ yhZ:=(yLD).loop (sg:=yxZ) yaR yxs (by decide) yLd ya7 yxG (by decide) (fun _=>rfl) (fun x r _ h=>h) yMY
abbrev yeR:List Par:= [.rd tM]
abbrev yoW:List OT:= [⟨false,tM,(.pr (.ow (.ow .fz)) (.pr (.ow (.pr .fz (.ow .fz))) (.pr .fz (.ow .fz))))⟩]
def yko (a0:dM):Option (ResD yoW×MutD yeR) :=
  let r1:=yT a0
  let r2:=yE a0
  bif (!(!r2)) then
    bif a0.2.2.1 then
      some ((r1,()),())
    else
      zjw (yqa ((((),()),((),()),(a0.2.1,()),((a0.2.1.length:Int),()),((),()),()),(((),(),false,(),()),((),(),r1.2.2.1,(),()),()),(r1.1,r1.2.1,r1.2.2.2,()))) (fun y4 =>
        some (((y4.2.2.1,[],y4.2.1.2.1.2.2.1,y4.2.2.2.2.1),()),())) (fun y4 =>
        none)
  else
    some ((r1,()),())
theorem yT3 (x:InD yeR):zjH ⟨yoE,34,yAT⟩ Tryz.f231.results.toList yhZ yeR yoW x=yko x.1:=by kernel_rfl
theorem yOY:ConOk Tryz.prog 231 ⟨yeR,yoW,fun x=>yko x.1⟩:=zkh (yLE) Tryz.func231 (by kernel_rfl) (by kernel_rfl) Tryz.ntmps231.symm (by decide) (fun x r h=>(yT3 x).trans h)
def yjm (a0:dM):dM:=yg0 a0
theorem yRV (a0:dM) (hk:zi9 yeR (a0,())):yko a0=(fun n=>some ((n,()),())) (yjm a0):=by
  have hb2:a0.2.1.length * 32≤2 ^ 47:=hk.1.2.1.1
  unfold yko yjm yg0
  simp only [yT,yE]
  cases hm:yp a0
  · rfl
  have h1:yqa (yKm a0.2.1 a0.2.1.length yf a0)=some (.inl (yxS yf (ycn (fun _=>true) a0.2.1 a0.1,a0.2))) :=
    zks (step:=ya7) a0.2.1.length (fun i s=>yob a0.2.1 a0.2.1.length i yf (s,a0.2)) (yco (fun _=>true) a0.2.1) (fun i s=>s.length=a0.1.length) (fun s=> .inl (yxS yf (s,a0.2))) (fun i s hi hs=>by
      have hw:=(yIB hm hi).1
      refine ⟨?_,ywD.trans hs⟩
      simp only [ya7,yob,yoq,zjI (show (i:Int) < a0.2.1.length by omega),cond_true,wr (show -9223372036854775808≤(i:Int)+1 by omega) (by omega),Int.natCast_add,Int.natCast_one,Int.toNat_natCast,zkO hi,hs,hw,yco,yj]) (fun s hs=>by simp only [ya7,yob,yoq,zkm (Int.le_refl _),cond_false]) a0.1 rfl _ (by show _ < 18446744073709551616; omega)
  rw [h1]
  cases hf:a0.2.2.1
  · exact congrArg (fun z=>some (((ycn (fun _=>true) a0.2.1 a0.1,([]:List dW),z,a0.2.2.2),()),())) hf
  · rfl
def yBB:Con:=⟨yeR,yoW,fun x=>(fun n=>some ((n,()),())) (yjm x.1)⟩
theorem ySL:ConOk Tryz.prog 231 yBB:=(yOY).mono (fun x r hk h=>(yRV x.1 hk).trans h)
end
end
end Go.Tf
