/- Functions of the program, and what they come to. -/
import Derived.Test.YtgmadfpnljibhaaGreatStripesF16
namespace Go.Tf
noncomputable section
open Go.Proofs
set_option synthInstance.maxHeartbeats 400000
set_option synthInstance.maxSize 10000
set_option linter.unusedVariables false
set_option linter.unusedSimpArgs false
set_option maxRecDepth 100000
section
def yzd:Code:=(Tryz.f223.body).getD .skip
def yzx:Env:=zki TT [] []
theorem yG0:FrOk Tryz.prog ⟨yzx,7,fun _=>none⟩ yzd:=zkp yb yd trivial
def yID:Nat→Option Seg:=fun _=>none
abbrev yfN:List Par:= [.rd tI,.rp tI]
abbrev yjQ:List OT:= [⟨false,tB,.fz⟩]
def ynN (a0 a1:Int):Option (ResD yjQ×MutD yfN) :=
 some (((a0==a1),()),())
theorem yMd (x:InD yfN):zjH ⟨yzx,7,yID⟩ Tryz.f223.results.toList yzd yfN yjQ x=ynN x.1 x.2.1:=by kernel_rfl
theorem yJc:ConOk Tryz.prog 223 ⟨yfN,yjQ,fun x=>ynN x.1 x.2.1⟩:=zkh (yG0) Tryz.func223 (by kernel_rfl) (by kernel_rfl) Tryz.ntmps223.symm (by decide) (fun x r h=>(yMd x).trans h)
def ydB (a0 a1:Int):Bool :=
 (a0==a1)
def ynC:Con:=⟨yfN,yjQ,fun x=>(fun n=>some ((n,()),())) (ydB x.1 x.2.1)⟩
theorem yK1 (a0 a1:Int):ynN a0 a1=(fun n=>some ((n,()),())) (ydB a0 a1):=zkS (p:=fun (n:Bool)=>((n,()),())) rfl
theorem yyB:ConOk Tryz.prog 223 ynC:=(yJc).mono (fun x r _ h=>(yK1 x.1 x.2.1).trans h)
end
section
def yb6:Code:=(Tryz.f268.body).getD .skip
def yeI:Env:=zki TT [(223,ynC)] []
theorem yAG:FrOk Tryz.prog ⟨yeI,19,fun _=>none⟩ yb6:=zkp yb yd ⟨yyB,trivial⟩
def ypc:Nat→Option Seg:=fun _=>none
def yQ:Shape:=⟨[(0,false,[.br tI]),(1,false,[.fx 223 tI]),(7,false,[.int .i64]),(8,false,[.int .i64])],[],[]⟩
def yaU:Shape:=⟨[(0,false,[.br tI]),(1,false,[.fx 223 tI]),(7,false,[.int .i64]),(8,false,[.ci .i64 0])],[],[]⟩
def yaT:Shape:=⟨[],[],[]⟩
def yaV:Shape:=⟨[(4,false,[.int .i64])],[],[]⟩
abbrev yfG (v0:List Int) (v1 v2 v3:Int):(yQ).X:=(((v0,()),(v1,()),(v2,()),(v3,()),()),(),())
abbrev yyZ (v0:List Int) (v1 v2:Int):(yaU).X:=(((v0,()),(v1,()),(v2,()),((),()),()),(),())
abbrev yyY  :(yaT).X:=((),(),())
abbrev ynd (v0:Int):(yaV).X:=(((v0,()),()),(),())
def yfK (v0:List Int) (v1 v2 v3:Int):Option ((yQ).X ⊕ ((yaT).X ⊕ (yaV).X)) :=
 bif (ltb v3 v2) then
 bif (inb v3 v0.length) then
 let r2:=ydB (nth v0 v3 0) v1
 bif r2 then
 some (.inr (.inr (((v3,()),()),(),())))
 else
 some (.inl (((v0,()),(v1,()),(v2,()),((IntKind.i64.wrap (v3+1)),()),()),(),()))
 else none
 else
 some (.inr (.inl ((),(),())))
def y9 (x:(yQ).X):=yfK x.1.1.1 x.1.2.1.1 x.1.2.2.1.1 x.1.2.2.2.1.1
def yna (x:(yaU).X):(yQ).X:=(((x.1.1.1,()),(x.1.2.1.1,()),(x.1.2.2.1.1,()),(0,()),()),(),())
def you:Code:=(zdI yb6 64 52).getD .skip
theorem yAD:zdI yb6 64 13=some (.block 0 (.loop you)):=by kernel_rfl
theorem yAN (x:(yQ).X):zg7 ⟨yeI,19,ypc⟩ 0 you 52 yQ yaT yaV x=y9 x:=by kernel_rfl
def ynb (x:(yaU).X):Nat:=18446744073709551616
def ygo (x:(yaU).X):Option ((yaT).X ⊕ (yaV).X):=zr y9 (ynb x) (yna x)
def ynr:Seg:=⟨yaU,yaT,yaV,ygo⟩
def ypd:Nat→Option Seg:=fun q=>bif Nat.beq q 13 then some ynr else ypc q
theorem yAH:FrOk Tryz.prog ⟨yeI,19,ypd⟩ yb6:=(yAG).loop (sg:=ynr) yQ yna (by decide) yAD y9 ynb (by decide) (fun _=>rfl) (fun x r _ h=>h) yAN
abbrev yaG:List Par:= [.rd tL,.fn 223 tI]
abbrev yeJ:List OT:= [⟨false,tI,.fz⟩]
def ydw (a0:List Int) (a1:Int):Option (ResD yeJ×MutD yaG) :=
 zjw (ygo (((a0,()),(a1,()),((a0.length:Int),()),((),()),()),(),())) (fun y2 =>
 some (((-1),()),())) (fun y2 =>
 some ((y2.1.1.1,()),()))
theorem yEV (x:InD yaG):zjH ⟨yeI,19,ypd⟩ Tryz.f268.results.toList yb6 yaG yeJ x=ydw x.1 x.2.1:=by kernel_rfl
theorem yCz:ConOk Tryz.prog 268 ⟨yaG,yeJ,fun x=>ydw x.1 x.2.1⟩:=zkh (yAH) Tryz.func268 (by kernel_rfl) (by kernel_rfl) Tryz.ntmps268.symm (by decide) (fun x r h=>(yEV x).trans h)
def yb9 (a0:List Int) (a1:Int):Int:=yad (fun e:Int=>e==a1) a0
theorem yC5 (a0:List Int) (a1:Int) (hk:zi9 yaG (a0,a1,())):ydw a0 a1=(fun n=>some ((n,()),())) (yb9 a0 a1):=by
 have hb:a0.length * 8≤2 ^ 47:=hk.1.1
 have h1:ygo (yyZ a0 a1 a0.length)=some (bif leb 0 (yad (fun e:Int=>e==a1) a0) then .inr (ynd (yad (fun e:Int=>e==a1) a0)) else .inl yyY) :=
  yXv (step:=y9) a0 0 (fun i=>yfG a0 a1 a0.length i) (fun e:Int=>e==a1) (fun i=> .inr (ynd i)) _ (fun i hi=>by
   simp only [y9,yfG,yfK,zjI (show (i:Int) < a0.length by omega),cond_true,wr (show -9223372036854775808≤(i:Int)+1 by omega) (by omega),Int.natCast_add,Int.natCast_one,Int.toNat_natCast,zkO hi,zjW,ydB]
   cases (a0.getD i 0==a1)<;>rfl) (by simp only [y9,yfG,yfK,zkm (Int.le_refl _),cond_false]) _ (by show _ < 18446744073709551616; omega)
 unfold ydw yb9
 rw [h1]
 cases h:leb 0 (yad (fun e:Int=>e==a1) a0)
 ·rw [yVI h]; rfl
 ·rfl
def ypA:Con:=⟨yaG,yeJ,fun x=>(fun n=>some ((n,()),())) (yb9 x.1 x.2.1)⟩
theorem yC7:ConOk Tryz.prog 268 ypA:=(yCz).mono (fun x r hk h=>(yC5 x.1 x.2.1 hk).trans h)
end
section
def ybw:Code:=(Tryz.f222.body).getD .skip
def yd5:Env:=zki TT [(223,ynC),(268,ypA)] []
theorem yyU:FrOk Tryz.prog ⟨yd5,42,fun _=>none⟩ ybw:=zkp yb yd ⟨yyB,yC7,trivial⟩
def ynW:Nat→Option Seg:=fun _=>none
def yL:Shape:=⟨[(0,false,[.at 800000000]),(1,false,[.fx 223 tI]),(5,false,[.int .i64]),(6,false,[.int .i64])],[],[(800000000,tI,.fz)]⟩
def yaE:Shape:=⟨[(0,false,[.at 800000000]),(1,false,[.fx 223 tI]),(5,false,[.int .i64]),(6,false,[.int .i64])],[],[(800000000,tI,.fz)]⟩
def yaD:Shape:=⟨[(0,false,[.at 800000000]),(5,false,[.int .i64])],[],[(800000000,tI,.fz)]⟩
def ycb:Shape:=⟨[],[],[]⟩
abbrev ybP (v0 v1 v2:Int) (v3:List Int):(yL).X:=((((),()),(v0,()),(v1,()),(v2,()),()),(),(v3,()))
abbrev yyA (v0 v1 v2:Int) (v3:List Int):(yaE).X:=((((),()),(v0,()),(v1,()),(v2,()),()),(),(v3,()))
abbrev yyy (v0:Int) (v1:List Int):(yaD).X:=((((),()),(v0,()),()),(),(v1,()))
def yfd (v0 v1 v2:Int) (v3:List Int):Option ((yL).X ⊕ ((yaD).X ⊕ (ycb).X)) :=
 bif (ltb v2 (v3.length:Int)) then
 bif (inb v2 v3.length) then
 let r3:=ydB (nth v3 v2 0) v0
 bif (!r3) then
 bif (inb v1 v3.length) then
 some (.inl ((((),()),(v0,()),((IntKind.i64.wrap (v1+1)),()),((IntKind.i64.wrap (v2+1)),()),()),(),((v3.set (v1).toNat (nth v3 v2 0)),())))
 else none
 else
 some (.inl ((((),()),(v0,()),(v1,()),((IntKind.i64.wrap (v2+1)),()),()),(),(v3,())))
 else none
 else
 some (.inr (.inl ((((),()),(v1,()),()),(),(v3,()))))
def yV (x:(yL).X):=yfd x.1.2.1.1 x.1.2.2.1.1 x.1.2.2.2.1.1 x.2.2.1
def ylI (x:(yaE).X):(yL).X:=((((),()),(x.1.2.1.1,()),(x.1.2.2.1.1,()),(x.1.2.2.2.1.1,()),()),(),(x.2.2.1,()))
def ym9:Code:=(zdI ybw 64 244).getD .skip
theorem yyR:zdI ybw 64 61=some (.block 0 (.loop ym9)):=by kernel_rfl
theorem yy6 (x:(yL).X):zg7 ⟨yd5,42,ynW⟩ 0 ym9 244 yL yaD ycb x=yV x:=by kernel_rfl
def ylK (x:(yaE).X):Nat:=18446744073709551616
def yfA (x:(yaE).X):Option ((yaD).X ⊕ (ycb).X):=zr yV (ylK x) (ylI x)
def ylN:Seg:=⟨yaE,yaD,ycb,yfA⟩
def ynX:Nat→Option Seg:=fun q=>bif Nat.beq q 61 then some ylN else ynW q
theorem yyV:FrOk Tryz.prog ⟨yd5,42,ynX⟩ ybw:=(yyU).loop (sg:=ylN) yL ylI (by decide) yyR yV ylK (by decide) (fun _=>rfl) (fun x r _ h=>h) yy6
abbrev yav:List Par:= [.kp tL (.ow .fz),.fn 223 tI]
abbrev yd6:List OT:= [⟨false,tL,(.ow .fz)⟩]
def yc1 (a0:List Int) (a1:Int):Option (ResD yd6×MutD yav) :=
 let r1:=yb9 a0 a1
 bif (r1==(-1)) then
 some ((a0,()),())
 else
 zjw (yfA ((((),()),(a1,()),(r1,()),((IntKind.i64.wrap (r1+1)),()),()),(),(a0,()))) (fun y3 =>
 bif (zjG y3.1.2.1.1 (y3.2.2.1.length:Int) y3.2.2.1.length) then
 bif (zjG 0 y3.1.2.1.1 (y3.2.2.1.take (y3.1.2.1.1).toNat++(List.replicate ((y3.2.2.1.length:Int) - y3.1.2.1.1).toNat (0:Int))++y3.2.2.1.drop ((y3.1.2.1.1).toNat+(List.replicate ((y3.2.2.1.length:Int) - y3.1.2.1.1).toNat (0:Int)).length)).length) then
 some (((((y3.2.2.1.take (y3.1.2.1.1).toNat++(List.replicate ((y3.2.2.1.length:Int) - y3.1.2.1.1).toNat (0:Int))++y3.2.2.1.drop ((y3.1.2.1.1).toNat+(List.replicate ((y3.2.2.1.length:Int) - y3.1.2.1.1).toNat (0:Int)).length)).drop (0:Int).toNat).take (y3.1.2.1.1 - 0).toNat),()),())
 else none
 else none) (fun y3 =>
 none)
theorem yC4 (x:InD yav):zjH ⟨yd5,42,ynX⟩ Tryz.f222.results.toList ybw yav yd6 x=yc1 x.1 x.2.1:=by kernel_rfl
theorem yAM:ConOk Tryz.prog 222 ⟨yav,yd6,fun x=>yc1 x.1 x.2.1⟩:=zkh (yyV) Tryz.func222 (by kernel_rfl) (by kernel_rfl) Tryz.ntmps222.symm (by decide) (fun x r h=>(yC4 x).trans h)
def ybz (a0:List Int) (a1:Int):List Int:=yHt a0 a1
theorem yCx (a0:List Int) (a1:Int) (hk:zi9 yav (a0,a1,())):yc1 a0 a1=(fun n=>some ((n,()),())) (ybz a0 a1):=by
 have hb:a0.length * 8≤2 ^ 47:=hk.1.1
 have hs:yHt a0 a1=a0.filter (fun x=> !(x==a1)):=rfl
 unfold yc1 ybz yb9
 simp only []
 cases hi:leb 0 (yad (fun e:Int=>e==a1) a0)
 ·rw [yVI hi,hs,y2l hi]; rfl
 ·obtain ⟨h1,h2⟩:=yte (d:=(0:Int)) hi
  have h3:=zjP.1 h1
  have h4:=yXr hi
  generalize hk0:yad (fun e:Int=>e==a1) a0=k at *
  obtain ⟨k,rfl⟩: ∃ m:Nat,k=m:=⟨k.toNat,by omega⟩
  rw [Int.toNat_natCast]at h4
  rw [show ((k:Int)== -1)=false from beq_eq_false_iff_ne.2 (by omega),cond_false,wr (show -9223372036854775808≤(k:Int)+1 by omega) (by omega)]
  obtain ⟨b,e,i,s,rfl,q1,q2,q3⟩:=ziU (step:=yV) (fun x=>(a0.length - Int.toNat x.1.2.2.2.1.1))
   (fun x=> ∃ (i j:Nat) (s:List Int),x=ybP a1 i j s∧i < j∧j≤a0.length∧s.length=a0.length∧s.take i=(a0.take j).filter (fun x=> !(x==a1))∧s.drop j=a0.drop j)
   (fun b=> ∃ (i:Nat) (s:List Int),b= .inl (yyy i s)∧i≤a0.length∧s.length=a0.length∧s.take i=a0.filter (fun x=> !(x==a1)))
   (fun x hx=>by
    obtain ⟨i,j,s,rfl,p1,p2,p3,p4,p5⟩:=hx
    by_cases hj:j < a0.length
    ·left
     have e1:nth s j 0=a0[j]:=by
      rw [zjW,zcq (by omega)]
      have:=List.getElem_drop (xs:=s) (i:=j) (j:=0) (h:=by rw [List.length_drop]; omega)
      have h6:(s.drop j)[0]'(by rw [List.length_drop]; omega)=(a0.drop j)[0]'(by rw [List.length_drop]; omega):=by simp only [p5]
      simpa using h6
     have e2:a0.take (j+1)=a0.take j++ [a0[j]]:=(List.take_append_getElem hj).symm
     simp only [yV,ybP,yfd,p3,zjI (show (j:Int) < a0.length by omega),zkO hj,zkO (show i < a0.length by omega),e1,ydB,wr (show -9223372036854775808≤(j:Int)+1 by omega) (by omega),wr (show -9223372036854775808≤(i:Int)+1 by omega) (by omega),cond_true,Int.toNat_natCast]
     cases hx:(a0[j]==a1)
     ·refine ⟨_,rfl,⟨i+1,j+1,s.set i a0[j],rfl,by omega,by omega,by rw [List.length_set,p3],?_,?_⟩,by show a0.length - ((j:Int)+1).toNat < a0.length - ((j:Int)).toNat; omega⟩
      ·rw [List.take_set,← List.take_append_getElem (show i < s.length by omega),List.set_append_right _ _ (by rw [List.length_take]; omega),p4,e2,List.filter_append,List.filter_cons,hx]
       have:i - (List.filter (fun x=> !x==a1) (a0.take j)).length=0:=by rw [← p4,List.length_take]; omega
       rw [this]; rfl
      ·rw [List.drop_set_of_lt (by omega),← List.drop_drop,p5,List.drop_drop]
     ·refine ⟨_,rfl,⟨i,j+1,s,rfl,by omega,by omega,p3,?_,?_⟩,by show a0.length - ((j:Int)+1).toNat < a0.length - ((j:Int)).toNat; omega⟩
      ·rw [p4,e2,List.filter_append,List.filter_cons,hx]; simp
      ·rw [← List.drop_drop,p5,List.drop_drop]
    ·right
     have:j=a0.length:=by omega
     subst this
     rw [List.take_length]at p4
     refine ⟨_,?_,i,s,rfl,by omega,p3,p4⟩
     simp only [yV,ybP,yfd,p3,zkm (Int.le_refl _),cond_false]) 18446744073709551616 (ybP a1 k (k+1:Nat) a0) ⟨k,k+1,a0,rfl,by omega,by omega,rfl,h4.symm,rfl⟩ (by show a0.length - ((k+1:Nat):Int).toNat < 18446744073709551616; omega)
  rw [show ((k+1:Nat):Int)=(k:Int)+1 by omega]at e
  rw [show yfA (yyA a1 k ((k:Int)+1) a0)=_ from e]
  rw [hs,← q3]
  have hL:(s.take i++List.replicate ((s.length:Int) - i).toNat (0:Int)++s.drop ((i:Int).toNat+(List.replicate ((s.length:Int) - i).toNat (0:Int)).length)).length=s.length:=by
   simp only [List.length_append,List.length_take,List.length_replicate,List.length_drop]; omega
  show (bif zjG i s.length s.length then bif zjG 0 i (s.take i++List.replicate ((s.length:Int) - i).toNat (0:Int)++s.drop ((i:Int).toNat+(List.replicate ((s.length:Int) - i).toNat (0:Int)).length)).length then some ((((s.take i++List.replicate ((s.length:Int) - i).toNat (0:Int)++s.drop ((i:Int).toNat+(List.replicate ((s.length:Int) - i).toNat (0:Int)).length)).drop 0).take ((i:Int) - 0).toNat,()),()) else none else none)=some ((s.take i,()),())
  rw [hL,zko.2 (show 0≤(i:Int)∧(i:Int)≤s.length∧(s.length:Int)≤s.length by omega),zko.2 (show (0:Int)≤0∧(0:Int)≤i∧(i:Int)≤s.length by omega),List.drop_zero,show ((i:Int) - 0).toNat=i by omega,List.append_assoc,List.take_append_of_le_length (by rw [List.length_take]; omega),List.take_take,Nat.min_self]; rfl
def yow:Con:=⟨yav,yd6,fun x=>(fun n=>some ((n,()),())) (ybz x.1 x.2.1)⟩
theorem yCB:ConOk Tryz.prog 222 yow:=(yAM).mono (fun x r hk h=>(yCx x.1 x.2.1 hk).trans h)
end
section
def yDa:Code:=(Tryz.f129.body).getD .skip
def yDH:Env:=zki TT [(133,ylc),(200,ybN),(219,yl6),(220,yov),(221,ywV),(222,yow)] []
theorem yKg:FrOk Tryz.prog ⟨yDH,51,fun _=>none⟩ yDa:=zkp yb yd ⟨ysR,yeB,yvM,ywZ,yIw,yCB,trivial⟩
def yLN:Nat→Option Seg:=fun _=>none
abbrev yfh:List Par:= [.rd tM,.rd tI,.rd tL]
abbrev yob:List OT:= [⟨false,tM,(.pr (.ow (.ow .fz)) (.pr (.ow (.pr .fz (.ow .fz))) (.pr .fz (.ow .fz))))⟩,⟨false,tB,.fz⟩]
def yke (a0:dM) (a1:Int) (a2:List Int):Option (ResD yob×MutD yfh) :=
 let r1:=ybn a0
 let r2:=ybf a0
 bif (!(!r2)) then
 bif (!a0.2.2.1) then
 let r3:=ybl a0 a1
 bif (!(!r3)) then
 let r4:=yhy a2
 bif (!(!r4)) then
 bif ((a0.2.1.length:Int)==60) then
 some ((r1,false,()),())
 else
 let r5:=yp a2
 bif (zj4 r1.2.1.length ([(a1,r5)]:List dW).length 32) then
 let r6:=ybz r1.2.2.2 a1
 some (((r1.1,(r1.2.1++([(a1,r5)]:List dW)),r1.2.2.1,r6),true,()),())
 else none
 else
 some ((r1,false,()),())
 else
 some ((r1,false,()),())
 else
 some ((r1,false,()),())
 else
 some ((r1,false,()),())
theorem ySa (x:InD yfh):zjH ⟨yDH,51,yLN⟩ Tryz.f129.results.toList yDa yfh yob x=yke x.1 x.2.1 x.2.2.1:=by kernel_rfl
theorem yNj:ConOk Tryz.prog 129 ⟨yfh,yob,fun x=>yke x.1 x.2.1 x.2.2.1⟩:=zkh (yKg) Tryz.func129 (by kernel_rfl) (by kernel_rfl) Tryz.ntmps129.symm (by decide) (fun x r h=>(ySa x).trans h)
def yji (a0:dM) (a1:Int) (a2:List Int):dM×Bool:=yG a0 a1 a2
theorem yQd (a0:dM) (a1:Int) (a2:List Int) (hk:zi9 yfh (a0,a1,a2,())):yke a0 a1 a2=(fun n=>some ((n.1,n.2,()),())) (yji a0 a1 a2):=by
 have hb1:a0.1.length * 24≤2 ^ 47:=hk.1.1.1
 unfold yke yji yG yaC
 simp only [ybn,ybf,ybl,yai,ypD (show a0.1.length≤1152921504606846976 by omega),yEW,yp,ybz]
 cases hm:yl a0
 ·rfl
 have hc:=(yar hm).2.2.2.2.2
 cases a0.2.2.1
 ·cases inb a1 a0.1.length
  ·rfl
  cases yab a2
  ·rfl
  by_cases h:(a0.2.1.length:Int) < 60
  ·rw [zjI h,show ((a0.2.1.length:Int)==60)=false from beq_eq_false_iff_ne.2 (by omega),zkw.2 (show (a0.2.1.length+ [(a1,a2)].length) * 32≤140737488355328 by simp only [List.length_cons,List.length_nil]; omega)]; rfl
  ·rw [zkm (by omega),show ((a0.2.1.length:Int)==60)=true from beq_iff_eq.2 (by omega)]; rfl
 ·rfl
def yzQ:Con:=⟨yfh,yob,fun x=>(fun n=>some ((n.1,n.2,()),())) (yji x.1 x.2.1 x.2.2.1)⟩
theorem yQR:ConOk Tryz.prog 129 yzQ:=(yNj).mono (fun x r hk h=>(yQd x.1 x.2.1 x.2.2.1 hk).trans h)
end
section
def yHx:Code:=(Tryz.f205.body).getD .skip
def yH3:Env:=zki TT [] []
theorem yOG:FrOk Tryz.prog ⟨yH3,26,fun _=>none⟩ yHx:=zkp yb yd trivial
def yRh:Nat→Option Seg:=fun _=>none
abbrev ymK:List Par:= [.pt tA (.pr .fz (.pr (.pr .fz .fz) (.pr (.ow (.pr (.ow (.ow .fz)) (.pr (.ow (.pr .fz (.ow .fz))) (.pr .fz (.ow .fz))))) (.pr .fz (.pr .fz (.pr .fz (.pr .fz (.pr .fz (.pr (.ow (.pr .fz (.ow .fz))) (.pr .fz (.pr .fz .fz)))))))))))]
abbrev ysd:List OT:= [⟨false,tB,.fz⟩]
def yvP (a0:dA):Option (ResD ysd×MutD ymK) :=
 bif (a0.2.2.2.2.2.2.2.2.2.1==0) then
 some ((false,()),((a0.1,a0.2.1,a0.2.2.1,a0.2.2.2.1,a0.2.2.2.2.1,a0.2.2.2.2.2.1,a0.2.2.2.2.2.2.1,a0.2.2.2.2.2.2.2.1,a0.2.2.2.2.2.2.2.2.1,(-1),true,a0.2.2.2.2.2.2.2.2.2.2.2),()))
 else
 bif (ltb 0 a0.2.2.2.2.2.2.2.2.2.1) then
 some ((true,()),((a0.1,a0.2.1,a0.2.2.1,a0.2.2.2.1,a0.2.2.2.2.1,a0.2.2.2.2.2.1,a0.2.2.2.2.2.2.1,a0.2.2.2.2.2.2.2.1,a0.2.2.2.2.2.2.2.2.1,(IntKind.i64.wrap (a0.2.2.2.2.2.2.2.2.2.1 - 1)),a0.2.2.2.2.2.2.2.2.2.2),()))
 else
 some ((true,()),(a0,()))
theorem yXP (x:InD ymK):zjH ⟨yH3,26,yRh⟩ Tryz.f205.results.toList yHx ymK ysd x=yvP x.1:=by kernel_rfl
theorem yTF:ConOk Tryz.prog 205 ⟨ymK,ysd,fun x=>yvP x.1⟩:=zkh (yOG) Tryz.func205 (by kernel_rfl) (by kernel_rfl) Tryz.ntmps205.symm (by decide) (fun x r h=>(yXP x).trans h)
def yh5 (a0:dA):Bool×dA :=
 bif (a0.2.2.2.2.2.2.2.2.2.1==0) then
 (false,(a0.1,a0.2.1,a0.2.2.1,a0.2.2.2.1,a0.2.2.2.2.1,a0.2.2.2.2.2.1,a0.2.2.2.2.2.2.1,a0.2.2.2.2.2.2.2.1,a0.2.2.2.2.2.2.2.2.1,(-1),true,a0.2.2.2.2.2.2.2.2.2.2.2))
 else
 bif (ltb 0 a0.2.2.2.2.2.2.2.2.2.1) then
 (true,(a0.1,a0.2.1,a0.2.2.1,a0.2.2.2.1,a0.2.2.2.2.1,a0.2.2.2.2.2.1,a0.2.2.2.2.2.2.1,a0.2.2.2.2.2.2.2.1,a0.2.2.2.2.2.2.2.2.1,(IntKind.i64.wrap (a0.2.2.2.2.2.2.2.2.2.1 - 1)),a0.2.2.2.2.2.2.2.2.2.2))
 else
 (true,a0)
def yva:Con:=⟨ymK,ysd,fun x=>(fun n=>some ((n.1,()),(n.2,()))) (yh5 x.1)⟩
theorem yVL (a0:dA):yvP a0=(fun n=>some ((n.1,()),(n.2,()))) (yh5 a0):=zkS (p:=fun (n:Bool×dA)=>((n.1,()),(n.2,()))) (zkx (p:=fun (n:Bool×dA)=>((n.1,()),(n.2,()))) rfl (zkx (p:=fun (n:Bool×dA)=>((n.1,()),(n.2,()))) rfl rfl))
theorem yGu:ConOk Tryz.prog 205 yva:=(yTF).mono (fun x r _ h=>(yVL x.1).trans h)
theorem yS5 {a:dA} (h:downA a=false):yh5 a=yY a:=by
 unfold yh5 yY
 rw [h]
 cases (a.2.2.2.2.2.2.2.2.2.1==0)
 ·cases ltb 0 a.2.2.2.2.2.2.2.2.2.1
  ·rfl
  ·show (true,_)=(true,yZf a _ false)
   unfold yZf
   rw [show a.2.2.2.2.2.2.2.2.2.2=(downA a,a.2.2.2.2.2.2.2.2.2.2.2) from rfl,h]
 ·rfl
end
section
def yAS:Code:=(Tryz.f107.body).getD .skip
def yBf:Env:=zki TT [(129,yzQ),(205,yva)] []
theorem yIO:FrOk Tryz.prog ⟨yBf,39,fun _=>none⟩ yAS:=zkp yb yd ⟨yQR,yGu,trivial⟩
def yJA:Nat→Option Seg:=fun _=>none
abbrev ych:List Par:= [.pt tA (.pr .fz (.pr (.pr .fz .fz) (.pr (.ow (.pr (.ow (.ow .fz)) (.pr (.ow (.pr .fz (.ow .fz))) (.pr .fz (.ow .fz))))) (.pr .fz (.pr .fz (.pr .fz (.pr .fz (.pr .fz (.pr (.ow (.pr .fz (.ow .fz))) (.pr .fz (.pr .fz .fz))))))))))),.rd tI,.rd tI,.rd tL]
abbrev yhr:List OT:= [⟨false,tB,.fz⟩]
def yju (a0:dA) (a1 a2:Int) (a3:List Int):Option (ResD yhr×MutD ych) :=
 bif (inb a1 a0.2.2.1.length) then
 bif (((nth a0.2.2.1 a1 ([],[],false,[])).2).2).1 then
 some ((true,()),(a0,()))
 else
 let r1:=yh5 a0
 bif (!r1.1) then
 some ((false,()),(r1.2,()))
 else
 bif (inb a1 r1.2.2.2.1.length) then
 let r2:=yji ((nth r1.2.2.2.1 a1 ([],[],false,[])).1,((nth r1.2.2.2.1 a1 ([],[],false,[])).2).1,(((nth r1.2.2.2.1 a1 ([],[],false,[])).2).2)) a2 a3
 bif (inb a1 r1.2.2.2.1.length) then
 some ((true,()),((r1.2.1,r1.2.2.1,(r1.2.2.2.1.set (a1).toNat r2.1),r1.2.2.2.2),()))
 else none
 else none
 else none
theorem yOB (x:InD ych):zjH ⟨yBf,39,yJA⟩ Tryz.f107.results.toList yAS ych yhr x=yju x.1 x.2.1 x.2.2.1 x.2.2.2.1:=by kernel_rfl
theorem yK5:ConOk Tryz.prog 107 ⟨ych,yhr,fun x=>yju x.1 x.2.1 x.2.2.1 x.2.2.2.1⟩:=zkh (yIO) Tryz.func107 (by kernel_rfl) (by kernel_rfl) Tryz.ntmps107.symm (by decide) (fun x r h=>(yOB x).trans h)
def yct (a0:dA) (a1 a2:Int) (a3:List Int):Bool×dA:=(!(downA (ybo a0 a1 a2 a3)),ybo a0 a1 a2 a3)
def ycv (a0:dA) (a1 a2:Int) (a3:List Int):Bool:=inb a1 a0.2.2.1.length&& !(downA a0)
theorem yNa (a0:dA) (a1 a2:Int) (a3:List Int) (hk:zi9 ych (a0,a1,a2,a3,())) (hq:ycv a0 a1 a2 a3=true):yju a0 a1 a2 a3=(fun n=>some ((n.1,()),(n.2,()))) (yct a0 a1 a2 a3):=by
 simp only [ycv,Bool.and_eq_true,Bool.not_eq_true'] at hq
 unfold yju yct
 simp only [y0b hq.2]
 unfold ybo setMem
 simp only [yS5 hq.2,yU,hq.1,zkV,yji]
 cases (nth a0.2.2.1 a1 noMem).2.2.1<;>cases (yY a0).1<;>rfl
def yeA (a0:dA) (a1 a2:Int) (a3:List Int):Option (ResD yhr×MutD ych):=bif ycv a0 a1 a2 a3 then (fun n=>some ((n.1,()),(n.2,()))) (yct a0 a1 a2 a3) else none
theorem yrA (a0:dA) (a1 a2:Int) (a3:List Int) (h:ycv a0 a1 a2 a3=true):yeA a0 a1 a2 a3=(fun n=>some ((n.1,()),(n.2,()))) (yct a0 a1 a2 a3):=by unfold yeA; rw [h]; rfl
def yje:Con:=⟨ych,yhr,fun x=>yeA x.1 x.2.1 x.2.2.1 x.2.2.2.1⟩
theorem yrz:ConOk Tryz.prog 107 yje:=(yK5).mono (fun x r hk h=>zkW h (fun hq=>yNa x.1 x.2.1 x.2.2.1 x.2.2.2.1 hk hq))
end
end
end Go.Tf
