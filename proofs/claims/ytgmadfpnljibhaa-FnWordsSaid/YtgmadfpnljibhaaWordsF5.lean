/- Functions of the program, and what they come to. -/
import Derived.Test.YtgmadfpnljibhaaWordsF4
namespace Go.Tf
noncomputable section
open Go.Proofs
set_option synthInstance.maxHeartbeats 400000
set_option synthInstance.maxSize 10000
set_option linter.unusedVariables false
set_option linter.unusedSimpArgs false
set_option maxRecDepth 100000
section
def ycO:Code:=(Try.f180.body).getD .skip
def yfc:Env:=zki TT [] []
theorem ywV:FrOk Try.prog ⟨yfc,23,fun _=>none⟩ ycO:=zkp yc yd trivial
def ynY:Nat→Option Seg:=fun _=>none
def yQ:Shape:=⟨[(0,false,[.br tI]),(1,false,[.int .i64]),(5,false,[.int .i64]),(6,false,[.int .i64])],[],[]⟩
def ybj:Shape:=⟨[(0,false,[.br tI]),(1,false,[.int .i64]),(5,false,[.ci .i64 0]),(6,false,[.ci .i64 0])],[],[]⟩
def ybh:Shape:=⟨[(5,false,[.int .i64])],[],[]⟩
def ydc:Shape:=⟨[],[],[]⟩
abbrev yf7 (v0:List Int) (v1:Int) (v2:Int) (v3:Int):(yQ).X:=(((v0,()),(v1,()),(v2,()),(v3,()),()),(),())
abbrev yvN (v0:List Int) (v1:Int):(ybj).X:=(((v0,()),(v1,()),((),()),((),()),()),(),())
abbrev yvL (v0:Int):(ybh).X:=(((v0,()),()),(),())
def ygb (v0:List Int) (v1:Int) (v2:Int) (v3:Int):Option ((yQ).X ⊕ ((ybh).X ⊕ (ydc).X)) :=
  bif (ltb v3 (v0.length:Int)) then
    bif (v3 !=v1) then
      bif (inb v3 v0.length) then
        some (.inl (((v0,()),(v1,()),((IntKind.i64.wrap ((BitVec.ofInt IntKind.i64.bits v2 ^^^ BitVec.ofInt IntKind.i64.bits (nth v0 v3 0)).toNat:Int)),()),((IntKind.i64.wrap (v3+1)),()),()),(),()))
      else none
    else
      some (.inl (((v0,()),(v1,()),(v2,()),((IntKind.i64.wrap (v3+1)),()),()),(),()))
  else
    some (.inr (.inl (((v2,()),()),(),())))
def y5 (x:(yQ).X):=ygb x.1.1.1 x.1.2.1.1 x.1.2.2.1.1 x.1.2.2.2.1.1
def yl0 (x:(ybj).X):(yQ).X:=(((x.1.1.1,()),(x.1.2.1.1,()),(0,()),(0,()),()),(),())
def ynL:Code:=(zdI ycO 64 116).getD .skip
theorem ywB:zdI ycO 64 29=some (.block 0 (.loop ynL)):=by kernel_rfl
theorem yw9 (x:(yQ).X):zg7 ⟨yfc,23,ynY⟩ 0 ynL 116 yQ ybh ydc x=y5 x:=by kernel_rfl
def yl2 (x:(ybj).X):Nat:=(fun (u0:List Int) (u1:Int)=>18446744073709551616) x.1.1.1 x.1.2.1.1
def ygJ (x:(ybj).X):Option ((ybh).X ⊕ (ydc).X):=zr y5 (yl2 x) (yl0 x)
def yl7:Seg:=⟨ybj,ybh,ydc,ygJ⟩
def ynZ:Nat→Option Seg:=fun q=>bif Nat.beq q 29 then some yl7 else ynY q
theorem ywW:FrOk Try.prog ⟨yfc,23,ynZ⟩ ycO:=(ywV).loop (sg:=yl7) yQ yl0 (by decide) ywB y5 yl2 (by decide) (fun _=>rfl) (fun x r _ h=>h) yw9
abbrev ybf:List Par:= [.rd tL,.rd tI]
abbrev yfH:List OT:= [⟨false,tI,.fz⟩]
def ydP (a0:List Int) (a1:Int):Option (ResD yfH×MutD ybf) :=
  zjw (ygJ (((a0,()),(a1,()),((),()),((),()),()),(),())) (fun y0 =>
    some ((y0.1.1.1,()),())) (fun y0 =>
    none)
theorem yzq (x:InD ybf):zjH ⟨yfc,23,ynZ⟩ Try.f180.results.toList ycO ybf yfH x=ydP x.1 x.2.1:=by kernel_rfl
theorem yxB:ConOk Try.prog 180 ⟨ybf,yfH,fun x=>ydP x.1 x.2.1⟩:=zkh (ywW) Try.func180 (by kernel_rfl) (by kernel_rfl) Try.ntmps180.symm (by decide) (fun x r h=>(yzq x).trans h)
def ycX (a0:List Int) (a1:Int):Int:=yke a0 a1
theorem yyO (a0:List Int) (a1:Int) (hk:zi9 ybf (a0,a1,())):ydP a0 a1=(fun n=>some ((n,()),())) (ycX a0 a1):=by
  have hb:a0.length * 8≤2 ^ 47:=hk.1.1
  have h1:=zks (step:=y5) a0.length (fun i s=>yf7 a0 a1 s i) (fun n (i:Nat)=>bif (i:Int) !=a1 then xw n (nth a0 i 0) else n) (fun _ _=>True) (fun s=> .inl (yvL s)) (fun i s hi _=>⟨by
    simp only [y5,yf7,ygb,zjI (show (i:Int) < a0.length by omega),cond_true,wr (show -9223372036854775808≤(i:Int)+1 by omega) (by omega),Int.natCast_add,Int.natCast_one,Int.toNat_natCast,zkO hi]
    cases ((i:Int) !=a1)<;>rfl,trivial⟩) (fun s _=>by simp only [y5,yf7,ygb,zkm (Int.le_refl _),cond_false]) 0 trivial 18446744073709551616 (by omega)
  rw [yNN]at h1
  unfold ydP ycX
  rw [show ygJ (yvN a0 a1)=_ from h1]; rfl
def yoO:Con:=⟨ybf,yfH,fun x=>(fun n=>some ((n,()),())) (ycX x.1 x.2.1)⟩
theorem yyT:ConOk Try.prog 180 yoO:=(yxB).mono (fun x r hk h=>(yyO x.1 x.2.1 hk).trans h)
end
section
def ygH:Code:=(Try.f156.body).getD .skip
def ykI:Env:=zki TT [(179,yvj),(180,yoO)] []
theorem yA7:FrOk Try.prog ⟨ykI,45,fun _=>none⟩ ygH:=zkp yc yd ⟨yJH,yyT,trivial⟩
def yss:Nat→Option Seg:=fun _=>none
def yaI:Shape:=⟨[(1,false,[.int .i64]),(2,false,[.ptr 0 0]),(6,false,[.at 800000000]),(7,false,[.int .i64]),(8,false,[.int .i64])],[(0,[.int .i64,.int .i64,.int .i64,.br tM,.int .i64,.int .i64,.int .i64,.int .i64,.int .i64,.br tW,.int .i64,.bool,.bool])],[(800000000,tI,.fz)]⟩
def ydC:Shape:=⟨[(1,false,[.int .i64]),(2,false,[.ptr 0 0]),(6,false,[.at 800000000]),(7,false,[.ci .i64 (-1)]),(8,false,[.ci .i64 0])],[(0,[.int .i64,.int .i64,.int .i64,.br tM,.int .i64,.int .i64,.int .i64,.int .i64,.int .i64,.br tW,.int .i64,.bool,.bool])],[(800000000,tI,.fz)]⟩
def ydv:Shape:=⟨[(6,false,[.at 800000000]),(7,false,[.int .i64])],[],[(800000000,tI,.fz)]⟩
def ydF:Shape:=⟨[(4,false,[.at 800000000]),(5,false,[.bool])],[],[(800000000,tI,.fz)]⟩
abbrev ykl (v0:Int) (v1:Int) (v2:Int) (v3:dA) (v4:List Int):(yaI).X:=(((v0,()),((),()),((),()),(v1,()),(v2,()),()),((v3.1,v3.2.1.1,v3.2.1.2,v3.2.2.1,v3.2.2.2.1,v3.2.2.2.2.1,v3.2.2.2.2.2.1,v3.2.2.2.2.2.2.1,v3.2.2.2.2.2.2.2.1,v3.2.2.2.2.2.2.2.2.1,v3.2.2.2.2.2.2.2.2.2.1,v3.2.2.2.2.2.2.2.2.2.2.1,v3.2.2.2.2.2.2.2.2.2.2.2,()),()),(v4,()))
abbrev yzV (v0:Int) (v1:dA) (v2:List Int):(ydC).X:=(((v0,()),((),()),((),()),((),()),((),()),()),((v1.1,v1.2.1.1,v1.2.1.2,v1.2.2.1,v1.2.2.2.1,v1.2.2.2.2.1,v1.2.2.2.2.2.1,v1.2.2.2.2.2.2.1,v1.2.2.2.2.2.2.2.1,v1.2.2.2.2.2.2.2.2.1,v1.2.2.2.2.2.2.2.2.2.1,v1.2.2.2.2.2.2.2.2.2.2.1,v1.2.2.2.2.2.2.2.2.2.2.2,()),()),(v2,()))
abbrev yzO (v0:Int) (v1:List Int):(ydv).X:=((((),()),(v0,()),()),(),(v1,()))
abbrev yzY (v0:Bool) (v1:List Int):(ydF).X:=((((),()),(v0,()),()),(),(v1,()))
def ykA (v0:Int) (v1:Int) (v2:Int) (v3:Int) (v4:Int) (v5:Int) (v6:List dM) (v7:Int) (v8:Int) (v9:Int) (v10:Int) (v11:Int) (v12:List dW) (v13:Int) (v14:Bool) (v15:Bool) (v16:List Int):Option ((yaI).X ⊕ ((ydv).X ⊕ (ydF).X)) :=
  bif (ltb v2 v4) then
    let r2:=yiQ (v3,(v4,v5),v6,v7,v8,v9,v10,v11,v12,v13,v14,v15) v2 v0
    bif (!r2.2) then
      bif (leb 0 v1) then
        some (.inr (.inr ((((),()),(false,()),()),(),(([]:List Int),()))))
      else
        bif (zj4 v16.length ([r2.1]:List Int).length 8) then
          some (.inl (((v0,()),((),()),((),()),(v2,()),((IntKind.i64.wrap (v2+1)),()),()),((v3,v4,v5,v6,v7,v8,v9,v10,v11,v12,v13,v14,v15,()),()),((v16++([r2.1]:List Int)),())))
        else none
    else
      bif (zj4 v16.length ([r2.1]:List Int).length 8) then
        some (.inl (((v0,()),((),()),((),()),(v1,()),((IntKind.i64.wrap (v2+1)),()),()),((v3,v4,v5,v6,v7,v8,v9,v10,v11,v12,v13,v14,v15,()),()),((v16++([r2.1]:List Int)),())))
      else none
  else
    some (.inr (.inl ((((),()),(v1,()),()),(),(v16,()))))
def yaT (x:(yaI).X):=ykA x.1.1.1 x.1.2.2.2.1.1 x.1.2.2.2.2.1.1 x.2.1.1.1 x.2.1.1.2.1 x.2.1.1.2.2.1 x.2.1.1.2.2.2.1 x.2.1.1.2.2.2.2.1 x.2.1.1.2.2.2.2.2.1 x.2.1.1.2.2.2.2.2.2.1 x.2.1.1.2.2.2.2.2.2.2.1 x.2.1.1.2.2.2.2.2.2.2.2.1 x.2.1.1.2.2.2.2.2.2.2.2.2.1 x.2.1.1.2.2.2.2.2.2.2.2.2.2.1 x.2.1.1.2.2.2.2.2.2.2.2.2.2.2.1 x.2.1.1.2.2.2.2.2.2.2.2.2.2.2.2.1 x.2.2.1
def yqp (x:(ydC).X):(yaI).X:=(((x.1.1.1,()),((),()),((),()),((-1),()),(0,()),()),((x.2.1.1.1,x.2.1.1.2.1,x.2.1.1.2.2.1,x.2.1.1.2.2.2.1,x.2.1.1.2.2.2.2.1,x.2.1.1.2.2.2.2.2.1,x.2.1.1.2.2.2.2.2.2.1,x.2.1.1.2.2.2.2.2.2.2.1,x.2.1.1.2.2.2.2.2.2.2.2.1,x.2.1.1.2.2.2.2.2.2.2.2.2.1,x.2.1.1.2.2.2.2.2.2.2.2.2.2.1,x.2.1.1.2.2.2.2.2.2.2.2.2.2.2.1,x.2.1.1.2.2.2.2.2.2.2.2.2.2.2.2.1,()),()),(x.2.2.1,()))
def yrj:Code:=(zdI ygH 64 244).getD .skip
theorem yAH:zdI ygH 64 61=some (.block 0 (.loop yrj)):=by kernel_rfl
theorem yBR (x:(yaI).X):zg7 ⟨ykI,45,yss⟩ 0 yrj 244 yaI ydv ydF x=yaT x:=by kernel_rfl
def yqB (x:(ydC).X):Nat:=(fun (u0:Int) (u1:Int) (u2:Int) (u3:Int) (u4:List dM) (u5:Int) (u6:Int) (u7:Int) (u8:Int) (u9:Int) (u10:List dW) (u11:Int) (u12:Bool) (u13:Bool) (u14:List Int)=>18446744073709551616) x.1.1.1 x.2.1.1.1 x.2.1.1.2.1 x.2.1.1.2.2.1 x.2.1.1.2.2.2.1 x.2.1.1.2.2.2.2.1 x.2.1.1.2.2.2.2.2.1 x.2.1.1.2.2.2.2.2.2.1 x.2.1.1.2.2.2.2.2.2.2.1 x.2.1.1.2.2.2.2.2.2.2.2.1 x.2.1.1.2.2.2.2.2.2.2.2.2.1 x.2.1.1.2.2.2.2.2.2.2.2.2.2.1 x.2.1.1.2.2.2.2.2.2.2.2.2.2.2.1 x.2.1.1.2.2.2.2.2.2.2.2.2.2.2.2.1 x.2.2.1
def ylu (x:(ydC).X):Option ((ydv).X ⊕ (ydF).X):=zr yaT (yqB x) (yqp x)
def yqP:Seg:=⟨ydC,ydv,ydF,ylu⟩
def yst:Nat→Option Seg:=fun q=>bif Nat.beq q 61 then some yqP else yss q
theorem yA8:FrOk Try.prog ⟨ykI,45,yst⟩ ygH:=(yA7).loop (sg:=yqP) yaI yqp (by decide) yAH yaT yqB (by decide) (fun _=>rfl) (fun x r _ h=>h) yBR
abbrev ycA:List Par:= [.rd tA,.rd tI]
abbrev yg8:List OT:= [⟨false,tL,(.ow .fz)⟩,⟨false,tB,.fz⟩]
def yh5 (a0:dA) (a1:Int):Option (ResD yg8×MutD ycA) :=
  zjw (ylu (((a1,()),((),()),((),()),((),()),((),()),()),((a0.1,a0.2.1.1,a0.2.1.2,a0.2.2.1,a0.2.2.2.1,a0.2.2.2.2.1,a0.2.2.2.2.2.1,a0.2.2.2.2.2.2.1,a0.2.2.2.2.2.2.2.1,a0.2.2.2.2.2.2.2.2.1,a0.2.2.2.2.2.2.2.2.2.1,a0.2.2.2.2.2.2.2.2.2.2.1,a0.2.2.2.2.2.2.2.2.2.2.2,()),()),(([]:List Int),()))) (fun y2 =>
    bif (leb 0 y2.1.2.1.1) then
      let r4:=ycX y2.2.2.1 y2.1.2.1.1
      bif (inb y2.1.2.1.1 y2.2.2.1.length) then
        some (((y2.2.2.1.set (y2.1.2.1.1).toNat r4),true,()),())
      else none
    else
      some ((y2.2.2.1,true,()),())) (fun y2 =>
    some ((y2.2.2.1,y2.1.2.1.1,()),()))
theorem yIn (x:InD ycA):zjH ⟨ykI,45,yst⟩ Try.f156.results.toList ygH ycA yg8 x=yh5 x.1 x.2.1:=by kernel_rfl
theorem yEe:ConOk Try.prog 156 ⟨ycA,yg8,fun x=>yh5 x.1 x.2.1⟩:=zkh (yA8) Try.func156 (by kernel_rfl) (by kernel_rfl) Try.ntmps156.symm (by decide) (fun x r h=>(yIn x).trans h)
def yd3 (a0:dA) (a1:Int):List Int×Bool:=yv a0 a1
def ypS (a0:dA) (a1:Int):Bool:=yb a0.2.1
theorem yGD (a0:dA) (a1:Int) (hk:zi9 ycA (a0,a1,())) (hq:ypS a0 a1=true):yh5 a0 a1=(fun n=>some ((n.1,n.2,()),())) (yd3 a0 a1):=by
  have hg:=yk.1 hq
  have h1:ylu (yzV a1 a0 [])=some (bif ycM (fun (i:Nat)=>yj a0 i a1) a0.2.1.1.toNat then .inr (yzY false []) else .inl (yzO (yn (fun (i:Nat)=>yj a0 i a1) a0.2.1.1.toNat) (yz a0 a1 a0.2.1.1.toNat))) :=
    zf4 (step:=yaT) (fun i=>ykl a1 (yn (fun (i:Nat)=>yj a0 i a1) i) i a0 (yz a0 a1 i)) a0.2.1.1.toNat (fun i=> !yj a0 i a1&&leb 0 (yn (fun (i:Nat)=>yj a0 i a1) i)) _ _ (fun i hi=>by
      simp only [yaT,ykl,ykA,zjI (show (i:Int) < a0.2.1.1 by omega),cond_true,wr (show -9223372036854775808≤(i:Int)+1 by omega) (by omega),Int.natCast_add,Int.natCast_one,Int.toNat_natCast,zkV,yiQ,yn]
      rw [zkw.2 (show ((yz a0 a1 i).length+ [ykB a0 i a1].length) * 8≤140737488355328 by simp only [List.length_cons,List.length_nil,yc2]; omega),yyC]
      cases yj a0 i a1<;>cases leb 0 (yn (fun (i:Nat)=>yj a0 i a1) i)<;>rfl) (by simp only [yaT,ykl,ykA,zkm (show a0.2.1.1≤(a0.2.1.1.toNat:Int) by omega),cond_false]) _ (by show _ < 18446744073709551616; omega)
  unfold yh5 yd3 yv
  rw [h1]
  cases ycM (fun (i:Nat)=>yj a0 i a1) a0.2.1.1.toNat
  · simp only [cond_false,zkJ,ycX]
    cases hm:leb 0 (yn (fun (i:Nat)=>yj a0 i a1) a0.2.1.1.toNat)
    · rfl
    · obtain ⟨h2,h3⟩:=yKb a0 a1 a0.2.1.1.toNat hm
      rw [h2,h3]; rfl
  · rfl
def yhw (a0:dA) (a1:Int):Option (ResD yg8×MutD ycA):=bif ypS a0 a1 then (fun n=>some ((n.1,n.2,()),())) (yd3 a0 a1) else none
theorem yvA (a0:dA) (a1:Int) (h:ypS a0 a1=true):yhw a0 a1=(fun n=>some ((n.1,n.2,()),())) (yd3 a0 a1):=by unfold yhw; rw [h]; rfl
def ym8:Con:=⟨ycA,yg8,fun x=>yhw x.1 x.2.1⟩
theorem yvx:ConOk Try.prog 156 ym8:=(yEe).mono (fun x r hk h=>zkW h (fun hq=>yGD x.1 x.2.1 hk hq))
end
section
def yua:Code:=(Try.f199.body).getD .skip
def yuF:Env:=zki TT [(60,yp),(91,ydY)] []
theorem yzE:FrOk Try.prog ⟨yuF,14,fun _=>none⟩ yua:=zkp yc yd ⟨yx,yiS,trivial⟩
def yAx:Nat→Option Seg:=fun _=>none
abbrev yfe:List Par:= [.rd tG,.rd tI]
abbrev yjj:List OT:= [⟨false,tB,.fz⟩]
def ylK (a0:dG) (a1:Int):Option (ResD yjj×MutD yfe) :=
  let r1:=yb a0
  bif r1 then
    let r2:=ya a1 0 (IntKind.i64.wrap (a0.2 - 1))
    some ((r2,()),())
  else
    some ((false,()),())
theorem yFx (x:InD yfe):zjH ⟨yuF,14,yAx⟩ Try.f199.results.toList yua yfe yjj x=ylK x.1 x.2.1:=by kernel_rfl
theorem yBG:ConOk Try.prog 199 ⟨yfe,yjj,fun x=>ylK x.1 x.2.1⟩:=zkh (yzE) Try.func199 (by kernel_rfl) (by kernel_rfl) Try.ntmps199.symm (by decide) (fun x r h=>(yFx x).trans h)
def yde (a0:dG) (a1:Int):Bool :=
  let r1:=yb a0
  bif r1 then
    let r2:=ya a1 0 (IntKind.i64.wrap (a0.2 - 1))
    r2
  else
    false
def yly:Con:=⟨yfe,yjj,fun x=>(fun n=>some ((n,()),())) (yde x.1 x.2.1)⟩
theorem yDX (a0:dG) (a1:Int):ylK a0 a1=(fun n=>some ((n,()),())) (yde a0 a1):=zkS (p:=fun (n:Bool)=>((n,()),())) (zkx (p:=fun (n:Bool)=>((n,()),())) rfl rfl)
theorem ytC:ConOk Try.prog 199 yly:=(yBG).mono (fun x r _ h=>(yDX x.1 x.2.1).trans h)
theorem yB3 (g:dG) (s:Int):yde g s=yV g s:=by
  unfold yde yV
  cases hg:yb g
  · rfl
  have:=yk.1 hg
  rw [ybB,wr (by omega) (by omega)]; rfl
end
section
def yt5:Code:=(Try.f193.body).getD .skip
def yuA:Env:=zki TT [(199,yly)] []
theorem yzx:FrOk Try.prog ⟨yuA,17,fun _=>none⟩ yt5:=zkp yc yd ⟨ytC,trivial⟩
def yAs:Nat→Option Seg:=fun _=>none
abbrev yc6:List Par:= [.rd tG,.rd tI]
abbrev yje:List OT:= [⟨false,tI,.fz⟩]
def ygu (a0:dG) (a1:Int):Option (ResD yje×MutD yc6) :=
  let r1:=yde a0 a1
  bif (!r1) then
    some (((-1),()),())
  else
    bif (a0.1 !=0) then
      some (((IntKind.i64.wrap ((IntKind.i64.wrap (a0.1 - 1)) - (a1.tmod a0.1))),()),())
    else none
theorem yFr (x:InD yc6):zjH ⟨yuA,17,yAs⟩ Try.f193.results.toList yt5 yc6 yje x=ygu x.1 x.2.1:=by kernel_rfl
theorem yBA:ConOk Try.prog 193 ⟨yc6,yje,fun x=>ygu x.1 x.2.1⟩:=zkh (yzx) Try.func193 (by kernel_rfl) (by kernel_rfl) Try.ntmps193.symm (by decide) (fun x r h=>(yFr x).trans h)
def ybW (a0:dG) (a1:Int):Int:=yf a0 a1
theorem yDR (a0:dG) (a1:Int) (hk:zi9 yc6 (a0,a1,())):ygu a0 a1=(fun n=>some ((n,()),())) (ybW a0 a1):=by
  unfold ygu ybW
  rw [yB3]
  cases hs:yV a0 a1
  · unfold yf; rw [hs]; rfl
  · have h1:=yX.1 hs
    have h2:=yk.1 h1.1
    have h3:=yf0 hs
    have h4:yf a0 a1=a0.1 - 1 - a1.tmod a0.1:=by unfold yf; rw [hs]; rfl
    rw [show (a0.1 !=0)=true from bne_iff_ne.2 (by omega),wr (show -9223372036854775808≤a0.1 - 1 by omega) (by omega),wr (show -9223372036854775808≤a0.1 - 1 - a1.tmod a0.1 by omega) (by omega),h4]; rfl
def ylw:Con:=⟨yc6,yje,fun x=>(fun n=>some ((n,()),())) (ybW x.1 x.2.1)⟩
theorem ytA:ConOk Try.prog 193 ylw:=(yBA).mono (fun x r hk h=>(yDR x.1 x.2.1 hk).trans h)
end
section
def yxT:Code:=(Try.f190.body).getD .skip
def yyj:Env:=zki TT [(60,yp),(193,ylw),(199,yly)] []
theorem yCO:FrOk Try.prog ⟨yyj,28,fun _=>none⟩ yxT:=zkp yc yd ⟨yx,ytA,ytC,trivial⟩
def yER:Nat→Option Seg:=fun _=>none
abbrev yeX:List Par:= [.rd tG,.rd tI,.rd tI]
abbrev ymu:List OT:= [⟨false,tI,.fz⟩]
def yjG (a0:dG) (a1:Int) (a2:Int):Option (ResD ymu×MutD yeX) :=
  let r1:=yde a0 a1
  bif (!(!r1)) then
    let r2:=ya a2 0 (IntKind.i64.wrap (a0.1 - 2))
    bif (!r2) then
      some (((-1),()),())
    else
      let r3:=ybW a0 a1
      bif (a0.1 !=0) then
        some ((((IntKind.i64.wrap ((IntKind.i64.wrap (r3+1))+a2)).tmod a0.1),()),())
      else none
  else
    some (((-1),()),())
theorem yKF (x:InD yeX):zjH ⟨yyj,28,yER⟩ Try.f190.results.toList yxT yeX ymu x=yjG x.1 x.2.1 x.2.2.1:=by kernel_rfl
theorem yGV:ConOk Try.prog 190 ⟨yeX,ymu,fun x=>yjG x.1 x.2.1 x.2.2.1⟩:=zkh (yCO) Try.func190 (by kernel_rfl) (by kernel_rfl) Try.ntmps190.symm (by decide) (fun x r h=>(yKF x).trans h)
def yiN (a0:dG) (a1 a2:Int):Int:=yaB a0 a1 a2
theorem yIM (a0:dG) (a1 a2:Int) (hk:zi9 yeX (a0,a1,a2,())):yjG a0 a1 a2=(fun n=>some ((n,()),())) (yiN a0 a1 a2):=by
  unfold yjG yiN yaB ybW
  rw [yB3]
  cases hs:yV a0 a1
  · rfl
  · have h1:=yX.1 hs
    have h2:=yk.1 h1.1
    have h3:=yf0 hs
    rw [ybB,wr (show -9223372036854775808≤a0.1 - 2 by omega) (by omega)]
    cases hi:(leb 0 a2&&leb a2 (a0.1 - 2))
    · rfl
    · rw [Bool.and_eq_true,zjQ,zjQ]at hi
      rw [show (a0.1 !=0)=true from bne_iff_ne.2 (by omega)]
      show some (((IntKind.i64.wrap (IntKind.i64.wrap (yf a0 a1+1)+a2)).tmod a0.1,()),())=some (((yf a0 a1+1+a2).tmod a0.1,()),())
      rw [wr (show -9223372036854775808≤yf a0 a1+1 by omega) (by omega),wr (show -9223372036854775808≤yf a0 a1+1+a2 by omega) (by omega)]
def yu7:Con:=⟨yeX,ymu,fun x=>(fun n=>some ((n,()),())) (yiN x.1 x.2.1 x.2.2.1)⟩
theorem yJv:ConOk Try.prog 190 yu7:=(yGV).mono (fun x r hk h=>(yIM x.1 x.2.1 x.2.2.1 hk).trans h)
end
section
def yif:Code:=(Try.f176.body).getD .skip
def ymb:Env:=zki TT [(156,ym8),(190,yu7)] []
theorem yC2:FrOk Try.prog ⟨ymb,41,fun _=>none⟩ yif:=zkp yc yd ⟨yvx,yJv,trivial⟩
def yum:Nat→Option Seg:=fun _=>none
def ya7:Shape:=⟨[(1,false,[.int .i64]),(2,false,[.ptr 0 0]),(6,false,[.at 800000000]),(7,false,[.bool]),(8,false,[.at 800000001]),(9,false,[.int .i64])],[(0,[.int .i64,.int .i64,.int .i64,.br tM,.int .i64,.int .i64,.int .i64,.int .i64,.int .i64,.br tW,.int .i64,.bool,.bool])],[(800000000,tI,.fz),(800000001,tI,.fz)]⟩
def yey:Shape:=⟨[(1,false,[.int .i64]),(2,false,[.ptr 0 0]),(6,false,[.at 800000000]),(7,false,[.bool]),(8,false,[.at 800000001]),(9,false,[.ci .i64 0])],[(0,[.int .i64,.int .i64,.int .i64,.br tM,.int .i64,.int .i64,.int .i64,.int .i64,.int .i64,.br tW,.int .i64,.bool,.bool])],[(800000000,tI,.fz),(800000001,tI,.fz)]⟩
def yen:Shape:=⟨[(7,false,[.bool]),(8,false,[.at 800000000])],[],[(800000000,tI,.fz)]⟩
def yhM:Shape:=⟨[],[],[]⟩
abbrev ydG (v0:Int) (v1:Bool) (v2:Int) (v3:dA) (v4:List Int) (v5:List Int):(ya7).X:=(((v0,()),((),()),((),()),(v1,()),((),()),(v2,()),()),((v3.1,v3.2.1.1,v3.2.1.2,v3.2.2.1,v3.2.2.2.1,v3.2.2.2.2.1,v3.2.2.2.2.2.1,v3.2.2.2.2.2.2.1,v3.2.2.2.2.2.2.2.1,v3.2.2.2.2.2.2.2.2.1,v3.2.2.2.2.2.2.2.2.2.1,v3.2.2.2.2.2.2.2.2.2.2.1,v3.2.2.2.2.2.2.2.2.2.2.2,()),()),(v4,v5,()))
abbrev yrR (v0:Int) (v1:Bool) (v2:dA) (v3:List Int) (v4:List Int):(yey).X:=(((v0,()),((),()),((),()),(v1,()),((),()),((),()),()),((v2.1,v2.2.1.1,v2.2.1.2,v2.2.2.1,v2.2.2.2.1,v2.2.2.2.2.1,v2.2.2.2.2.2.1,v2.2.2.2.2.2.2.1,v2.2.2.2.2.2.2.2.1,v2.2.2.2.2.2.2.2.2.1,v2.2.2.2.2.2.2.2.2.2.1,v2.2.2.2.2.2.2.2.2.2.2.1,v2.2.2.2.2.2.2.2.2.2.2.2,()),()),(v3,v4,()))
abbrev ylI (v0:Bool) (v1:List Int):(yen).X:=(((v0,()),((),()),()),(),(v1,()))
def ygA (v0:Int) (v1:Bool) (v2:Int) (v3:Int) (v4:Int) (v5:Int) (v6:List dM) (v7:Int) (v8:Int) (v9:Int) (v10:Int) (v11:Int) (v12:List dW) (v13:Int) (v14:Bool) (v15:Bool) (v16:List Int) (v17:List Int):Option ((ya7).X ⊕ ((yen).X ⊕ (yhM).X)) :=
  bif (ltb v2 (IntKind.i64.wrap (v4 - 1))) then
    bif v1 then
      let r3:=yiN (v4,v5) v0 v2
      bif (inb r3 v16.length) then
        bif (zj4 v17.length ([(nth v16 r3 0)]:List Int).length 8) then
          some (.inl (((v0,()),((),()),((),()),(v1,()),((),()),((IntKind.i64.wrap (v2+1)),()),()),((v3,v4,v5,v6,v7,v8,v9,v10,v11,v12,v13,v14,v15,()),()),(v16,(v17++([(nth v16 r3 0)]:List Int)),())))
        else none
      else none
    else
      some (.inr (.inl (((v1,()),((),()),()),(),(v17,()))))
  else
    some (.inr (.inl (((v1,()),((),()),()),(),(v17,()))))
def yY (x:(ya7).X):=ygA x.1.1.1 x.1.2.2.2.1.1 x.1.2.2.2.2.2.1.1 x.2.1.1.1 x.2.1.1.2.1 x.2.1.1.2.2.1 x.2.1.1.2.2.2.1 x.2.1.1.2.2.2.2.1 x.2.1.1.2.2.2.2.2.1 x.2.1.1.2.2.2.2.2.2.1 x.2.1.1.2.2.2.2.2.2.2.1 x.2.1.1.2.2.2.2.2.2.2.2.1 x.2.1.1.2.2.2.2.2.2.2.2.2.1 x.2.1.1.2.2.2.2.2.2.2.2.2.2.1 x.2.1.1.2.2.2.2.2.2.2.2.2.2.2.1 x.2.1.1.2.2.2.2.2.2.2.2.2.2.2.2.1 x.2.2.1 x.2.2.2.1
def yry (x:(yey).X):(ya7).X:=(((x.1.1.1,()),((),()),((),()),(x.1.2.2.2.1.1,()),((),()),(0,()),()),((x.2.1.1.1,x.2.1.1.2.1,x.2.1.1.2.2.1,x.2.1.1.2.2.2.1,x.2.1.1.2.2.2.2.1,x.2.1.1.2.2.2.2.2.1,x.2.1.1.2.2.2.2.2.2.1,x.2.1.1.2.2.2.2.2.2.2.1,x.2.1.1.2.2.2.2.2.2.2.2.1,x.2.1.1.2.2.2.2.2.2.2.2.2.1,x.2.1.1.2.2.2.2.2.2.2.2.2.2.1,x.2.1.1.2.2.2.2.2.2.2.2.2.2.2.1,x.2.1.1.2.2.2.2.2.2.2.2.2.2.2.2.1,()),()),(x.2.2.1,x.2.2.2.1,()))
def ysH:Code:=(zdI yif 64 244).getD .skip
theorem yCo:zdI yif 64 61=some (.block 0 (.loop ysH)):=by kernel_rfl
theorem yEy (x:(ya7).X):zg7 ⟨ymb,41,yum⟩ 0 ysH 244 ya7 yen yhM x=yY x:=by kernel_rfl
def yrJ (x:(yey).X):Nat:=(fun (u0:Int) (u1:Bool) (u2:Int) (u3:Int) (u4:Int) (u5:List dM) (u6:Int) (u7:Int) (u8:Int) (u9:Int) (u10:Int) (u11:List dW) (u12:Int) (u13:Bool) (u14:Bool) (u15:List Int) (u16:List Int)=>18446744073709551616) x.1.1.1 x.1.2.2.2.1.1 x.2.1.1.1 x.2.1.1.2.1 x.2.1.1.2.2.1 x.2.1.1.2.2.2.1 x.2.1.1.2.2.2.2.1 x.2.1.1.2.2.2.2.2.1 x.2.1.1.2.2.2.2.2.2.1 x.2.1.1.2.2.2.2.2.2.2.1 x.2.1.1.2.2.2.2.2.2.2.2.1 x.2.1.1.2.2.2.2.2.2.2.2.2.1 x.2.1.1.2.2.2.2.2.2.2.2.2.2.1 x.2.1.1.2.2.2.2.2.2.2.2.2.2.2.1 x.2.1.1.2.2.2.2.2.2.2.2.2.2.2.2.1 x.2.2.1 x.2.2.2.1
def yhE (x:(yey).X):Option ((yen).X ⊕ (yhM).X):=zr yY (yrJ x) (yry x)
def yrZ:Seg:=⟨yey,yen,yhM,yhE⟩
def yun:Nat→Option Seg:=fun q=>bif Nat.beq q 61 then some yrZ else yum q
theorem yC3:FrOk Try.prog ⟨ymb,41,yun⟩ yif:=(yC2).loop (sg:=yrZ) ya7 yry (by decide) yCo yY yrJ (by decide) (fun _=>rfl) (fun x r _ h=>h) yEy
abbrev ydi:List Par:= [.rd tA,.rd tI]
abbrev yiD:List OT:= [⟨false,tL,(.ow .fz)⟩,⟨false,tB,.fz⟩]
def yjL (a0:dA) (a1:Int):Option (ResD yiD×MutD ydi) :=
  bnd (yhw a0 a1) fun r1 =>
  zjw (yhE (((a1,()),((),()),((),()),(r1.1.2.1,()),((),()),((),()),()),((a0.1,a0.2.1.1,a0.2.1.2,a0.2.2.1,a0.2.2.2.1,a0.2.2.2.2.1,a0.2.2.2.2.2.1,a0.2.2.2.2.2.2.1,a0.2.2.2.2.2.2.2.1,a0.2.2.2.2.2.2.2.2.1,a0.2.2.2.2.2.2.2.2.2.1,a0.2.2.2.2.2.2.2.2.2.2.1,a0.2.2.2.2.2.2.2.2.2.2.2,()),()),(r1.1.1,([]:List Int),()))) (fun y3 =>
    some ((y3.2.2.1,y3.1.1.1,()),())) (fun y3 =>
    none)
theorem yKQ (x:InD ydi):zjH ⟨ymb,41,yun⟩ Try.f176.results.toList yif ydi yiD x=yjL x.1 x.2.1:=by kernel_rfl
theorem yG6:ConOk Try.prog 176 ⟨ydi,yiD,fun x=>yjL x.1 x.2.1⟩:=zkh (yC3) Try.func176 (by kernel_rfl) (by kernel_rfl) Try.ntmps176.symm (by decide) (fun x r h=>(yKQ x).trans h)
def ymN (a0:dA) (a1:Int):List Int×Bool:=yoP a0 a1
def yqX (a0:dA) (a1:Int):Bool:=yV a0.2.1 a1
theorem yIU (a0:dA) (a1:Int) (hk:zi9 ydi (a0,a1,())) (hq:yqX a0 a1=true):yjL a0 a1=(fun n=>some ((n.1,n.2,()),())) (ymN a0 a1):=by
  have hs:yV a0.2.1 a1=true:=hq
  have hg:=yk.1 (yX.1 hs).1
  unfold yjL ymN yoP
  rw [yvA a0 a1 (yX.1 hs).1,yd3]
  simp only [zky]
  cases hw:(yv a0 a1).2
  · have h1:yhE (yrR a1 false a0 (yv a0 a1).1 [])=some (.inl (ylI false [])) :=
      zjs (step:=yY) (fun i=>ydG a1 false i a0 (yv a0 a1).1 []) 0 _ (fun i hi=>absurd hi (Nat.not_lt_zero _)) (by
        simp only [yY,ydG,ygA,cond_false]
        cases ltb ((0:Nat):Int) (IntKind.i64.wrap (a0.2.1.1 - 1))<;>rfl) _ (by show _ < 18446744073709551616; omega)
    rw [h1]; rfl
  · have hL:=yAf hw
    have h1:yhE (yrR a1 true a0 (yv a0 a1).1 [])=some (.inl (ylI true ((List.range (a0.2.1.1 - 1).toNat).foldl (fun l (i:Nat)=>l++ [nth (yv a0 a1).1 (yaB a0.2.1 a1 i) 0]) []))) :=
      zks (step:=yY) (a0.2.1.1 - 1).toNat (fun i s=>ydG a1 true i a0 (yv a0 a1).1 s) (fun l (i:Nat)=>l++ [nth (yv a0 a1).1 (yaB a0.2.1 a1 i) 0]) (fun i s=>s.length=i) (fun s=> .inl (ylI true s)) (fun i s hi hs2=>⟨by
        have hd:=yH6 hs (show (0:Int)≤i by omega) (show (i:Int)≤a0.2.1.1 - 2 by omega)
        simp only [yY,ydG,ygA,wr (show -9223372036854775808≤a0.2.1.1 - 1 by omega) (by omega),zjI (show (i:Int) < a0.2.1.1 - 1 by omega),cond_true,wr (show -9223372036854775808≤(i:Int)+1 by omega) (by omega),Int.natCast_add,Int.natCast_one,Int.toNat_natCast,zkV,yiN,zjP.2 (show 0≤yaB a0.2.1 a1 i∧yaB a0.2.1 a1 i < (yv a0 a1).1.length by omega)]
        rw [zkw.2 (show (s.length+ [nth (yv a0 a1).1 (yaB a0.2.1 a1 i) 0].length) * 8≤140737488355328 by simp only [List.length_cons,List.length_nil]; omega)]; rfl,by simp [hs2]⟩) (fun s hs2=>by simp only [yY,ydG,ygA,wr (show -9223372036854775808≤a0.2.1.1 - 1 by omega) (by omega),zkm (show a0.2.1.1 - 1≤((a0.2.1.1 - 1).toNat:Int) by omega),cond_false]) [] rfl _ (by show _ < 18446744073709551616; omega)
    rw [h1,yr5]; rfl
def ymP (a0:dA) (a1:Int):Option (ResD yiD×MutD ydi):=bif yqX a0 a1 then (fun n=>some ((n.1,n.2,()),())) (ymN a0 a1) else none
theorem yJK (a0:dA) (a1:Int) (h:yqX a0 a1=true):ymP a0 a1=(fun n=>some ((n.1,n.2,()),())) (ymN a0 a1):=by unfold ymP; rw [h]; rfl
def yvf:Con:=⟨ydi,yiD,fun x=>ymP x.1 x.2.1⟩
theorem yJD:ConOk Try.prog 176 yvf:=(yG6).mono (fun x r hk h=>zkW h (fun hq=>yIU x.1 x.2.1 hk hq))
end
end
end Go.Tf
