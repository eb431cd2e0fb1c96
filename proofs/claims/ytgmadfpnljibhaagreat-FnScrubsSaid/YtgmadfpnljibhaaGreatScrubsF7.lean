/- Functions of the program, and what they come to. -/
import Derived.Test.YtgmadfpnljibhaaGreatScrubsF6
namespace Go.Tf
noncomputable section
open Go.Proofs
set_option synthInstance.maxHeartbeats 400000
set_option synthInstance.maxSize 10000
set_option linter.unusedVariables false
set_option linter.unusedSimpArgs false
set_option maxRecDepth 100000
section
def yfN:Code:=(Tryz.f287.body).getD .skip
def yki:Env:=zki TT [] []
theorem yGx:FrOk Tryz.prog ⟨yki,28,fun _=>none⟩ yfN:=zkp yc yd trivial
def yvD:Nat→Option Seg:=fun _=>none
def yaE:Shape:=⟨[(0,false,[.br tI]),(1,false,[.int .i64]),(5,false,[.at 800000000]),(6,false,[.int .i64])],[],[(800000000,tI,.fz)]⟩
def ydm:Shape:=⟨[(0,false,[.br tI]),(1,false,[.int .i64]),(5,false,[.at 800000000]),(6,false,[.ci .i64 0])],[],[(800000000,tI,.fz)]⟩
def ydj:Shape:=⟨[(5,false,[.at 800000000])],[],[(800000000,tI,.fz)]⟩
def ygB:Shape:=⟨[],[],[]⟩
abbrev ykC (v0:List Int) (v1:Int) (v2:Int) (v3:List Int):(yaE).X:=(((v0,()),(v1,()),((),()),(v2,()),()),(),(v3,()))
abbrev yEW (v0:List Int) (v1:Int) (v2:List Int):(ydm).X:=(((v0,()),(v1,()),((),()),((),()),()),(),(v2,()))
abbrev yET (v0:List Int):(ydj).X:=((((),()),()),(),(v0,()))
def ykV (v0:List Int) (v1:Int) (v2:Int) (v3:List Int):Option ((yaE).X ⊕ ((ydj).X ⊕ (ygB).X)) :=
  bif (ltb v2 (v0.length:Int)) then
    bif (inb v2 v0.length) then
      bif ((nth v0 v2 0) !=v1) then
        bif (inb v2 v0.length) then
          bif (zj4 v3.length ([(nth v0 v2 0)]:List Int).length 8) then
            some (.inl (((v0,()),(v1,()),((),()),((IntKind.i64.wrap (v2+1)),()),()),(),((v3++([(nth v0 v2 0)]:List Int)),())))
          else none
        else none
      else
        some (.inl (((v0,()),(v1,()),((),()),((IntKind.i64.wrap (v2+1)),()),()),(),(v3,())))
    else none
  else
    some (.inr (.inl ((((),()),()),(),(v3,()))))
def yaR (x:(yaE).X):=ykV x.1.1.1 x.1.2.1.1 x.1.2.2.2.1.1 x.2.2.1
def ytH (x:(ydm).X):(yaE).X:=(((x.1.1.1,()),(x.1.2.1.1,()),((),()),(0,()),()),(),(x.2.2.1,()))
def yup:Code:=(zdI yfN 64 116).getD .skip
theorem yGt:zdI yfN 64 29=some (.block 0 (.loop yup)):=by kernel_rfl
theorem yGQ (x:(yaE).X):zg7 ⟨yki,28,yvD⟩ 0 yup 116 yaE ydj ygB x=yaR x:=by kernel_rfl
def ytK (x:(ydm).X):Nat:=(fun (u0:List Int) (u1:Int) (u2:List Int)=>18446744073709551616) x.1.1.1 x.1.2.1.1 x.2.2.1
def yl6 (x:(ydm).X):Option ((ydj).X ⊕ (ygB).X):=zr yaR (ytK x) (ytH x)
def yuf:Seg:=⟨ydm,ydj,ygB,yl6⟩
def yvE:Nat→Option Seg:=fun q=>bif Nat.beq q 29 then some yuf else yvD q
theorem yGy:FrOk Tryz.prog ⟨yki,28,yvE⟩ yfN:=(yGx).loop (sg:=yuf) yaE ytH (by decide) yGt yaR ytK (by decide) (fun _=>rfl) (fun x r _ h=>h) yGQ
abbrev ydq:List Par:= [.rd tL,.rd tI]
abbrev ykn:List OT:= [⟨false,tL,(.ow .fz)⟩]
def yie (a0:List Int) (a1:Int):Option (ResD ykn×MutD ydq) :=
  zjw (yl6 (((a0,()),(a1,()),((),()),((),()),()),(),(([]:List Int),()))) (fun y0 =>
    some ((y0.2.2.1,()),())) (fun y0 =>
    none)
theorem yLu (x:InD ydq):zjH ⟨yki,28,yvE⟩ Tryz.f287.results.toList yfN ydq ykn x=yie x.1 x.2.1:=by kernel_rfl
theorem yIs:ConOk Tryz.prog 287 ⟨ydq,ykn,fun x=>yie x.1 x.2.1⟩:=zkh (yGy) Tryz.func287 (by kernel_rfl) (by kernel_rfl) Tryz.ntmps287.symm (by decide) (fun x r h=>(yLu x).trans h)
def ygv (a0:List Int) (a1:Int):List Int:=yN3 a0 a1
theorem yHD {α:Type} (p:α→Bool): ∀ (l:List α) (s:List α),l.foldl (fun s x=>bif p x then s++ [x] else s) s=s++l.filter p
  | [],s=>by simp
  | x::l,s=>by
    rw [List.foldl_cons,yHD p l,List.filter_cons]
    cases p x<;>simp
theorem yKd (a0:List Int) (a1:Int) (hk:zi9 ydq (a0,a1,())):yie a0 a1=(fun n=>some ((n,()),())) (ygv a0 a1):=by
  have hb:a0.length * 8≤2 ^ 47:=hk.1.1
  have h1:=zkk (step:=yaR) a0 0 (fun i s=>ykC a0 a1 i s) (fun s x=>bif x !=a1 then s++ [x] else s) (fun i s=>s.length≤i) (fun s=> .inl (yET s)) (fun i s hi hs=>by
      constructor
      · simp only [yaR,ykC,ykV,zjI (show (i:Int) < a0.length by omega),cond_true,wr (show -9223372036854775808≤(i:Int)+1 by omega) (by omega),Int.natCast_add,Int.natCast_one,Int.toNat_natCast,zkO hi,zjW]
        rw [zkw.2 (show (s.length+ [a0.getD i 0].length) * 8≤140737488355328 by simp only [List.length_cons,List.length_nil]; omega)]
        cases (a0.getD i 0 !=a1)<;>rfl
      · cases (a0.getD i 0 !=a1)
        · show s.length≤_; omega
        · simp only [cond_true,List.length_append,List.length_cons,List.length_nil]; omega) (fun s _=>by simp only [yaR,ykC,ykV,zkm (Int.le_refl _),cond_false]) [] (Nat.le_refl _) 18446744073709551616 (by omega)
  unfold yie ygv yN3
  rw [show yl6 (yEW a0 a1 [])=_ from h1,yHD]; rfl
def yvQ:Con:=⟨ydq,ykn,fun x=>(fun n=>some ((n,()),())) (ygv x.1 x.2.1)⟩
theorem yKA:ConOk Tryz.prog 287 yvQ:=(yIs).mono (fun x r hk h=>(yKd x.1 x.2.1 hk).trans h)
end
section
def yAF:Code:=(Tryz.f264.body).getD .skip
def yBi:Env:=zki TT [(135,yq),(152,yh3),(224,yfy),(269,yuW),(287,yvQ)] [(16832,(.pr .fz .fz))]
theorem yH1:FrOk Tryz.prog ⟨yBi,55,fun _=>none⟩ yAF:=zkp yc yd ⟨yu,yoZ,ylN,yGk,yKA,trivial⟩
def yI4:Nat→Option Seg:=fun _=>none
abbrev yeu:List Par:= [.rd tM,.rd tI,.rd tL]
abbrev ymF:List OT:= [⟨false,tM,(.pr (.ow .fz) (.pr (.ow (.pr .fz .fz)) (.pr .fz (.ow .fz))))⟩,⟨false,tB,.fz⟩]
def yiQ (a0:dM) (a1:Int) (a2:List Int):Option (ResD ymF×MutD yeu) :=
  let r1:=yae a0
  let r2:=yai a0
  bif (!(!r2)) then
    bif (!a0.2.2.1) then
      let r3:=ya a1 0 (IntKind.i64.wrap ((a0.1.length:Int) - 1))
      bif (!(!r3)) then
        let r4:=ygs a2
        bif (!(!r4)) then
          bif (leb 60 (a0.2.1.length:Int)) then
            some ((r1,false,()),())
          else
            bif (zj4 ([]:List Int).length a2.length 8) then
              bif (zj4 r1.2.1.length ([(a1,(([]:List Int)++a2))]:List dW).length 32) then
                let r5:=ygv a0.2.2.2 a1
                some (((r1.1,(r1.2.1++([(a1,(([]:List Int)++a2))]:List dW)),r1.2.2.1,r5),true,()),())
              else none
            else none
        else
          some ((r1,false,()),())
      else
        some ((r1,false,()),())
    else
      some ((r1,false,()),())
  else
    some ((r1,false,()),())
theorem yPf (x:InD yeu):zjH ⟨yBi,55,yI4⟩ Tryz.f264.results.toList yAF yeu ymF x=yiQ x.1 x.2.1 x.2.2.1:=by kernel_rfl
theorem yKv:ConOk Tryz.prog 264 ⟨yeu,ymF,fun x=>yiQ x.1 x.2.1 x.2.2.1⟩:=zkh (yH1) Tryz.func264 (by kernel_rfl) (by kernel_rfl) Tryz.ntmps264.symm (by decide) (fun x r h=>(yPf x).trans h)
def ycK (a0:dM) (a1:Int) (a2:List Int):dM×Bool:=yF a0 a1 a2
theorem yNe (a0:dM) (a1:Int) (a2:List Int) (hk:zi9 yeu (a0,a1,a2,())):yiQ a0 a1 a2=(fun n=>some ((n.1,n.2,()),())) (ycK a0 a1 a2):=by
  have hb1:a0.1.length * 24≤2 ^ 47:=hk.1.1.1
  have hb2:a2.length * 8≤2 ^ 47:=hk.2.2.1.1
  unfold yiQ ycK yF ybj
  simp only [yae,yai,yp9 (show a0.1.length≤1152921504606846976 by omega),yCM,ygv,List.nil_append]
  cases ym a0
  · rfl
  cases a0.2.2.1
  · cases inb a1 a0.1.length
    · rfl
    cases yV a2
    · rfl
    by_cases h:(a0.2.1.length:Int) < 60
    · rw [zjI h,zkZ h,zkw.2 (show (([]:List Int).length+a2.length) * 8≤140737488355328 by rw [List.length_nil]; omega),zkw.2 (show (a0.2.1.length+ [(a1,a2)].length) * 32≤140737488355328 by simp only [List.length_cons,List.length_nil]; omega)]; rfl
    · rw [zkm (by omega),zk0 (by omega)]; rfl
  · rfl
def ypw:Con:=⟨yeu,ymF,fun x=>(fun n=>some ((n.1,n.2,()),())) (ycK x.1 x.2.1 x.2.2.1)⟩
theorem yzV:ConOk Tryz.prog 264 ypw:=(yKv).mono (fun x r hk h=>(yNe x.1 x.2.1 x.2.2.1 hk).trans h)
end
section
def yG4:Code:=(Tryz.f207.body).getD .skip
def yHl:Env:=zki TT [(263,yww),(264,ypw)] []
theorem yP0:FrOk Tryz.prog ⟨yHl,43,fun _=>none⟩ yG4:=zkp yc yd ⟨yIv,yzV,trivial⟩
def ySo:Nat→Option Seg:=fun _=>none
abbrev yfR:List Par:= [.pt tA (.pr .fz (.pr (.pr .fz .fz) (.pr (.ow (.pr (.ow .fz) (.pr (.ow (.pr .fz .fz)) (.pr .fz (.ow .fz))))) (.pr .fz (.pr .fz (.pr .fz (.pr .fz (.pr .fz (.pr (.ow (.pr .fz .fz)) (.pr .fz (.pr .fz .fz))))))))))),.rd tI,.rd tI,.rd tL]
abbrev ynP:List OT:= []
def ypa (a0:dA) (a1:Int) (a2:Int) (a3:List Int):Option (ResD ynP×MutD yfR) :=
  bif (inb a1 a0.2.2.1.length) then
    bif (!((((nth a0.2.2.1 a1 ([],[],false,[])).2).2).1)) then
      let r1:=yqd a0
      bif (!r1.1) then
        some ((),(r1.2,()))
      else
        bif (inb a1 r1.2.2.2.1.length) then
          let r2:=ycK ((nth r1.2.2.2.1 a1 ([],[],false,[])).1,((nth r1.2.2.2.1 a1 ([],[],false,[])).2).1,(((nth r1.2.2.2.1 a1 ([],[],false,[])).2).2)) a2 a3
          bif (inb a1 r1.2.2.2.1.length) then
            some ((),((r1.2.1,r1.2.2.1,(r1.2.2.2.1.set (a1).toNat r2.1),r1.2.2.2.2),()))
          else none
        else none
    else
      some ((),(a0,()))
  else none
theorem yXm (x:InD yfR):zjH ⟨yHl,43,ySo⟩ Tryz.f207.results.toList yG4 yfR ynP x=ypa x.1 x.2.1 x.2.2.1 x.2.2.2.1:=by kernel_rfl
theorem yUb:ConOk Tryz.prog 207 ⟨yfR,ynP,fun x=>ypa x.1 x.2.1 x.2.2.1 x.2.2.2.1⟩:=zkh (yP0) Tryz.func207 (by kernel_rfl) (by kernel_rfl) Tryz.ntmps207.symm (by decide) (fun x r h=>(yXm x).trans h)
def yn6 (a0:dA) (a1 a2:Int) (a3:List Int):dA:=ydd a0 a1 a2 a3
def yz1 (a0:dA) (a1 a2:Int) (a3:List Int):Bool:=inb a1 a0.2.2.1.length
theorem yWj (a0:dA) (a1 a2:Int) (a3:List Int) (hk:zi9 yfR (a0,a1,a2,a3,())) (hq:yz1 a0 a1 a2 a3=true):ypa a0 a1 a2 a3=(fun n=>some ((),(n,()))) (yn6 a0 a1 a2 a3):=by
  have hq:inb a1 a0.2.2.1.length=true:=hq
  unfold ypa yn6 ydd setMem
  simp only [yR6,yaj,hq,zkV,ycK]
  cases (nth a0.2.2.1 a1 noMem).2.2.1<;>cases (yZ a0).1<;>rfl
def yec (a0:dA) (a1:Int) (a2:Int) (a3:List Int):Option (ResD ynP×MutD yfR):=bif yz1 a0 a1 a2 a3 then (fun n=>some ((),(n,()))) (yn6 a0 a1 a2 a3) else none
theorem ylQ (a0:dA) (a1:Int) (a2:Int) (a3:List Int) (h:yz1 a0 a1 a2 a3=true):yec a0 a1 a2 a3=(fun n=>some ((),(n,()))) (yn6 a0 a1 a2 a3):=by unfold yec; rw [h]; rfl
def yjP:Con:=⟨yfR,ynP,fun x=>yec x.1 x.2.1 x.2.2.1 x.2.2.2.1⟩
theorem yq8:ConOk Tryz.prog 207 yjP:=(yUb).mono (fun x r hk h=>zkW h (fun hq=>yWj x.1 x.2.1 x.2.2.1 x.2.2.2.1 hk hq))
end
section
def yg4:Code:=(Tryz.f286.body).getD .skip
def ymj:Env:=zki TT [(152,yh3),(224,yfy)] [(32768,(.pr .fz .fz))]
theorem yHT:FrOk Tryz.prog ⟨ymj,40,fun _=>none⟩ yg4:=zkp yc yd ⟨yoZ,ylN,trivial⟩
def ywS:Nat→Option Seg:=fun _=>none
def yaX:Shape:=⟨[(2,false,[.ptr 64 0]),(3,false,[.ptr 4224 0]),(4,false,[.int .i64])],[(64,[.nil,.nil,.bool,.nil]),(4224,[.at 800000000,.at 800000001,.bool,.at 800000002])],[(800000000,tL,.fz),(800000001,tW,(.pr .fz .fz)),(800000002,tI,.fz)]⟩
def yd3:Shape:=⟨[(2,false,[.ptr 64 0]),(3,false,[.ptr 4224 0]),(4,false,[.ci .i64 0])],[(64,[.nil,.nil,.bool,.nil]),(4224,[.at 800000000,.at 800000001,.bool,.at 800000002])],[(800000000,tL,.fz),(800000001,tW,(.pr .fz .fz)),(800000002,tI,.fz)]⟩
def ydZ:Shape:=⟨[(2,false,[.ptr 64 0]),(3,false,[.ptr 4224 0])],[(64,[.nil,.nil,.bool,.nil]),(4224,[.at 800000000,.at 800000001,.bool,.at 800000002])],[(800000000,tL,.fz),(800000001,tW,(.pr .fz .fz)),(800000002,tI,.fz)]⟩
def yhX:Shape:=⟨[],[],[]⟩
abbrev yl9 (v0:Int) (v1:dM) (v2:dM):(yaX).X:=((((),()),((),()),(v0,()),()),(((),(),v1.2.2.1,(),()),((),(),v2.2.2.1,(),()),()),(v2.1,v2.2.1,v2.2.2.2,()))
abbrev yGC (v0:dM) (v1:dM):(yd3).X:=((((),()),((),()),((),()),()),(((),(),v0.2.2.1,(),()),((),(),v1.2.2.1,(),()),()),(v1.1,v1.2.1,v1.2.2.2,()))
abbrev yuD (v0:dM) (v1:dM):(ydZ).X:=((((),()),((),()),()),(((),(),v0.2.2.1,(),()),((),(),v1.2.2.1,(),()),()),(v1.1,v1.2.1,v1.2.2.2,()))
def yme (v0:Int) (v1:Bool) (v2:Bool) (v3:List (List Int)) (v4:List dW) (v5:List Int):Option ((yaX).X ⊕ ((ydZ).X ⊕ (yhX).X)) :=
  bif (ltb v0 (v4.length:Int)) then
    bif (inb v0 v4.length) then
      bif (inb v0 v4.length) then
        bif (inb ((nth v4 v0 (0,[])).1) v3.length) then
          let r4:=(v3.set ((nth v4 v0 (0,[])).1).toNat ((nth v4 v0 (0,[])).2))
          some (.inl ((((),()),((),()),((IntKind.i64.wrap (v0+1)),()),()),(((),(),v1,(),()),((),(),v2,(),()),()),(r4,v4,v5,())))
        else none
      else none
    else none
  else
    some (.inr (.inl ((((),()),((),()),()),(((),(),v1,(),()),((),(),v2,(),()),()),(v3,v4,v5,()))))
def yba (x:(yaX).X):=yme x.1.2.2.1.1 x.2.1.1.2.2.1 x.2.1.2.1.2.2.1 x.2.2.1 x.2.2.2.1 x.2.2.2.2.1
def yuu (x:(yd3).X):(yaX).X:=((((),()),((),()),(0,()),()),(((),(),x.2.1.1.2.2.1,(),()),((),(),x.2.1.2.1.2.2.1,(),()),()),(x.2.2.1,x.2.2.2.1,x.2.2.2.2.1,()))
def yvM:Code:=(zdI yg4 64 244).getD .skip
theorem yHq:zdI yg4 64 61=some (.block 0 (.loop yvM)):=by kernel_rfl
theorem yIB (x:(yaX).X):zg7 ⟨ymj,40,ywS⟩ 0 yvM 244 yaX ydZ yhX x=yba x:=by kernel_rfl
def yuz (x:(yd3).X):Nat:=(fun (u0:Bool) (u1:Bool) (u2:List (List Int)) (u3:List dW) (u4:List Int)=>18446744073709551616) x.2.1.1.2.2.1 x.2.1.2.1.2.2.1 x.2.2.1 x.2.2.2.1 x.2.2.2.2.1
def ynA (x:(yd3).X):Option ((ydZ).X ⊕ (yhX).X):=zr yba (yuz x) (yuu x)
def yuH:Seg:=⟨yd3,ydZ,yhX,ynA⟩
def ywT:Nat→Option Seg:=fun q=>bif Nat.beq q 61 then some yuH else ywS q
theorem yHU:FrOk Tryz.prog ⟨ymj,40,ywT⟩ yg4:=(yHT).loop (sg:=yuH) yaX yuu (by decide) yHq yba yuz (by decide) (fun _=>rfl) (fun x r _ h=>h) yIB
abbrev yep:List Par:= [.rd tM]
abbrev ymz:List OT:= [⟨false,tM,(.pr (.ow .fz) (.pr (.ow (.pr .fz .fz)) (.pr .fz (.ow .fz))))⟩]
def yiL (a0:dM):Option (ResD ymz×MutD yep) :=
  let r1:=yae a0
  let r2:=yai a0
  bif (!(!r2)) then
    bif a0.2.2.1 then
      some ((r1,()),())
    else
      zjw (ynA ((((),()),((),()),((),()),()),(((),(),false,(),()),((),(),r1.2.2.1,(),()),()),(r1.1,r1.2.1,r1.2.2.2,()))) (fun y4 =>
        some (((y4.2.2.1,([]:List dW),y4.2.1.2.1.2.2.1,y4.2.2.2.2.1),()),())) (fun y4 =>
        none)
  else
    some ((r1,()),())
theorem yO9 (x:InD yep):zjH ⟨ymj,40,ywT⟩ Tryz.f286.results.toList yg4 yep ymz x=yiL x.1:=by kernel_rfl
theorem yKp:ConOk Tryz.prog 286 ⟨yep,ymz,fun x=>yiL x.1⟩:=zkh (yHU) Tryz.func286 (by kernel_rfl) (by kernel_rfl) Tryz.ntmps286.symm (by decide) (fun x r h=>(yO9 x).trans h)
def ycH (a0:dM):dM:=yr a0
theorem yM8 (a0:dM) (hk:zi9 yep (a0,())):yiL a0=(fun n=>some ((n,()),())) (ycH a0):=by
  have hb2:a0.2.1.length * 32≤2 ^ 47:=hk.1.2.1.1
  unfold yiL ycH yr
  simp only [yae,yai]
  cases hm:ym a0
  · rfl
  have h1:ynA (yGC noMem a0)=some (.inl (yuD noMem (yfC (fun _=>true) a0.2.1 a0.1,a0.2))) :=
    zks (step:=yba) a0.2.1.length (fun i s=>yl9 i noMem (s,a0.2)) (yb2 (fun _=>true) a0.2.1) (fun i s=>s.length=a0.1.length) (fun s=> .inl (yuD noMem (s,a0.2))) (fun i s hi hs=>by
      have hw:=(yZS hm hi).1
      refine ⟨?_,yEN.trans hs⟩
      simp only [yba,yl9,yme,zjI (show (i:Int) < a0.2.1.length by omega),cond_true,wr (show -9223372036854775808≤(i:Int)+1 by omega) (by omega),Int.natCast_add,Int.natCast_one,Int.toNat_natCast,zkO hi,hs,hw,yb2]) (fun s hs=>by simp only [yba,yl9,yme,zkm (Int.le_refl _),cond_false]) a0.1 rfl _ (by show _ < 18446744073709551616; omega)
  rw [h1]
  cases hf:a0.2.2.1
  · exact congrArg (fun z=>some (((yfC (fun _=>true) a0.2.1 a0.1,([]:List dW),z,a0.2.2.2),()),())) hf
  · rfl
def ypr:Con:=⟨yep,ymz,fun x=>(fun n=>some ((n,()),())) (ycH x.1)⟩
theorem yzQ:ConOk Tryz.prog 286 ypr:=(yKp).mono (fun x r hk h=>(yM8 x.1 hk).trans h)
end
section
def yk6:Code:=(Tryz.f261.body).getD .skip
def yqq:Env:=zki TT [(263,yww),(286,ypr)] []
theorem yMk:FrOk Tryz.prog ⟨yqq,39,fun _=>none⟩ yk6:=zkp yc yd ⟨yIv,yzQ,trivial⟩
def yA5:Nat→Option Seg:=fun _=>none
def ycz:Shape:=⟨[(0,false,[.ptr 1000000000 0]),(2,false,[.int .i64])],[(1000000000,[.int .i64,.int .i64,.int .i64,.at 800000000,.int .i64,.int .i64,.int .i64,.int .i64,.int .i64,.at 800000001,.int .i64,.bool,.bool])],[(800000000,tM,(.pr (.ow .fz) (.pr (.ow (.pr .fz .fz)) (.pr .fz (.ow .fz))))),(800000001,tW,(.pr .fz .fz))]⟩
def yhJ:Shape:=⟨[(0,false,[.ptr 1000000000 0]),(2,false,[.ci .i64 0])],[(1000000000,[.int .i64,.int .i64,.int .i64,.at 800000000,.int .i64,.int .i64,.int .i64,.int .i64,.int .i64,.at 800000001,.int .i64,.bool,.bool])],[(800000000,tM,(.pr (.ow .fz) (.pr (.ow (.pr .fz .fz)) (.pr .fz (.ow .fz))))),(800000001,tW,(.pr .fz .fz))]⟩
def yhs:Shape:=⟨[],[(1000000000,[.int .i64,.int .i64,.int .i64,.at 800000000,.int .i64,.int .i64,.int .i64,.int .i64,.int .i64,.at 800000001,.int .i64,.bool,.bool])],[(800000000,tM,(.pr (.ow .fz) (.pr (.ow (.pr .fz .fz)) (.pr .fz (.ow .fz))))),(800000001,tW,(.pr .fz .fz))]⟩
def ymN:Shape:=⟨[],[],[]⟩
abbrev yrP (v0:Int) (v1:dA):(ycz).X:=((((),()),(v0,()),()),((v1.1,v1.2.1.1,v1.2.1.2,(),v1.2.2.2.1,v1.2.2.2.2.1,v1.2.2.2.2.2.1,v1.2.2.2.2.2.2.1,v1.2.2.2.2.2.2.2.1,(),v1.2.2.2.2.2.2.2.2.2.1,v1.2.2.2.2.2.2.2.2.2.2.1,v1.2.2.2.2.2.2.2.2.2.2.2,()),()),(v1.2.2.1,v1.2.2.2.2.2.2.2.2.1,()))
abbrev yMM (v0:dA):(yhJ).X:=((((),()),((),()),()),((v0.1,v0.2.1.1,v0.2.1.2,(),v0.2.2.2.1,v0.2.2.2.2.1,v0.2.2.2.2.2.1,v0.2.2.2.2.2.2.1,v0.2.2.2.2.2.2.2.1,(),v0.2.2.2.2.2.2.2.2.2.1,v0.2.2.2.2.2.2.2.2.2.2.1,v0.2.2.2.2.2.2.2.2.2.2.2,()),()),(v0.2.2.1,v0.2.2.2.2.2.2.2.2.1,()))
abbrev yzL (v0:dA):(yhs).X:=((),((v0.1,v0.2.1.1,v0.2.1.2,(),v0.2.2.2.1,v0.2.2.2.2.1,v0.2.2.2.2.2.1,v0.2.2.2.2.2.2.1,v0.2.2.2.2.2.2.2.1,(),v0.2.2.2.2.2.2.2.2.2.1,v0.2.2.2.2.2.2.2.2.2.2.1,v0.2.2.2.2.2.2.2.2.2.2.2,()),()),(v0.2.2.1,v0.2.2.2.2.2.2.2.2.1,()))
def ysb (v0:Int) (v1:Int) (v2:Int) (v3:Int) (v4:Int) (v5:Int) (v6:Int) (v7:Int) (v8:Int) (v9:Int) (v10:Bool) (v11:Bool) (v12:List dM) (v13:List dW):Option ((ycz).X ⊕ ((yhs).X ⊕ (ymN).X)) :=
  bif (ltb v0 (v12.length:Int)) then
    bif (inb v0 v12.length) then
      bif (!((((nth v12 v0 ([],[],false,[])).2).2).1)) then
        let r3:=yqd (v1,(v2,v3),v12,v4,v5,v6,v7,v8,v13,v9,v10,v11)
        bif r3.1 then
          bif (inb v0 r3.2.2.2.1.length) then
            let r4:=ycH ((nth r3.2.2.2.1 v0 ([],[],false,[])).1,((nth r3.2.2.2.1 v0 ([],[],false,[])).2).1,(((nth r3.2.2.2.1 v0 ([],[],false,[])).2).2))
            bif (inb v0 r3.2.2.2.1.length) then
              some (.inl ((((),()),((IntKind.i64.wrap (v0+1)),()),()),((r3.2.1,r3.2.2.1.1,r3.2.2.1.2,(),r3.2.2.2.2.1,r3.2.2.2.2.2.1,r3.2.2.2.2.2.2.1,r3.2.2.2.2.2.2.2.1,r3.2.2.2.2.2.2.2.2.1,(),r3.2.2.2.2.2.2.2.2.2.2.1,r3.2.2.2.2.2.2.2.2.2.2.2.1,r3.2.2.2.2.2.2.2.2.2.2.2.2,()),()),((r3.2.2.2.1.set (v0).toNat r4),r3.2.2.2.2.2.2.2.2.2.1,())))
            else none
          else none
        else
          some (.inl ((((),()),((IntKind.i64.wrap (v0+1)),()),()),((r3.2.1,r3.2.2.1.1,r3.2.2.1.2,(),r3.2.2.2.2.1,r3.2.2.2.2.2.1,r3.2.2.2.2.2.2.1,r3.2.2.2.2.2.2.2.1,r3.2.2.2.2.2.2.2.2.1,(),r3.2.2.2.2.2.2.2.2.2.2.1,r3.2.2.2.2.2.2.2.2.2.2.2.1,r3.2.2.2.2.2.2.2.2.2.2.2.2,()),()),(r3.2.2.2.1,r3.2.2.2.2.2.2.2.2.2.1,())))
      else
        some (.inl ((((),()),((IntKind.i64.wrap (v0+1)),()),()),((v1,v2,v3,(),v4,v5,v6,v7,v8,(),v9,v10,v11,()),()),(v12,v13,())))
    else none
  else
    some (.inr (.inl ((),((v1,v2,v3,(),v4,v5,v6,v7,v8,(),v9,v10,v11,()),()),(v12,v13,()))))
def yc5 (x:(ycz).X):=ysb x.1.2.1.1 x.2.1.1.1 x.2.1.1.2.1 x.2.1.1.2.2.1 x.2.1.1.2.2.2.2.1 x.2.1.1.2.2.2.2.2.1 x.2.1.1.2.2.2.2.2.2.1 x.2.1.1.2.2.2.2.2.2.2.1 x.2.1.1.2.2.2.2.2.2.2.2.1 x.2.1.1.2.2.2.2.2.2.2.2.2.2.1 x.2.1.1.2.2.2.2.2.2.2.2.2.2.2.1 x.2.1.1.2.2.2.2.2.2.2.2.2.2.2.2.1 x.2.2.1 x.2.2.2.1
def yzi (x:(yhJ).X):(ycz).X:=((((),()),(0,()),()),((x.2.1.1.1,x.2.1.1.2.1,x.2.1.1.2.2.1,(),x.2.1.1.2.2.2.2.1,x.2.1.1.2.2.2.2.2.1,x.2.1.1.2.2.2.2.2.2.1,x.2.1.1.2.2.2.2.2.2.2.1,x.2.1.1.2.2.2.2.2.2.2.2.1,(),x.2.1.1.2.2.2.2.2.2.2.2.2.2.1,x.2.1.1.2.2.2.2.2.2.2.2.2.2.2.1,x.2.1.1.2.2.2.2.2.2.2.2.2.2.2.2.1,()),()),(x.2.2.1,x.2.2.2.1,()))
def yBC:Code:=(zdI yk6 64 12).getD .skip
theorem yOO:zdI yk6 64 3=some (.block 0 (.loop yBC)):=by kernel_rfl
theorem yR3 (x:(ycz).X):zg7 ⟨yqq,39,yA5⟩ 0 yBC 12 ycz yhs ymN x=yc5 x:=by kernel_rfl
def yzA (x:(yhJ).X):Nat:=(fun (u0:Int) (u1:Int) (u2:Int) (u3:Int) (u4:Int) (u5:Int) (u6:Int) (u7:Int) (u8:Int) (u9:Bool) (u10:Bool) (u11:List dM) (u12:List dW)=>18446744073709551616) x.2.1.1.1 x.2.1.1.2.1 x.2.1.1.2.2.1 x.2.1.1.2.2.2.2.1 x.2.1.1.2.2.2.2.2.1 x.2.1.1.2.2.2.2.2.2.1 x.2.1.1.2.2.2.2.2.2.2.1 x.2.1.1.2.2.2.2.2.2.2.2.1 x.2.1.1.2.2.2.2.2.2.2.2.2.2.1 x.2.1.1.2.2.2.2.2.2.2.2.2.2.2.1 x.2.1.1.2.2.2.2.2.2.2.2.2.2.2.2.1 x.2.2.1 x.2.2.2.1
def ysZ (x:(yhJ).X):Option ((yhs).X ⊕ (ymN).X):=zr yc5 (yzA x) (yzi x)
def yAl:Seg:=⟨yhJ,yhs,ymN,ysZ⟩
def yA6:Nat→Option Seg:=fun q=>bif Nat.beq q 3 then some yAl else yA5 q
theorem yMl:FrOk Tryz.prog ⟨yqq,39,yA6⟩ yk6:=(yMk).loop (sg:=yAl) ycz yzi (by decide) yOO yc5 yzA (by decide) (fun _=>rfl) (fun x r _ h=>h) yR3
abbrev ygU:List Par:= [.pt tA (.pr .fz (.pr (.pr .fz .fz) (.pr (.ow (.pr (.ow .fz) (.pr (.ow (.pr .fz .fz)) (.pr .fz (.ow .fz))))) (.pr .fz (.pr .fz (.pr .fz (.pr .fz (.pr .fz (.pr (.ow (.pr .fz .fz)) (.pr .fz (.pr .fz .fz)))))))))))]
abbrev yqX:List OT:= []
def yng (a0:dA):Option (ResD yqX×MutD ygU) :=
  zjw (ysZ ((((),()),((),()),()),((a0.1,a0.2.1.1,a0.2.1.2,(),a0.2.2.2.1,a0.2.2.2.2.1,a0.2.2.2.2.2.1,a0.2.2.2.2.2.2.1,a0.2.2.2.2.2.2.2.1,(),a0.2.2.2.2.2.2.2.2.2.1,a0.2.2.2.2.2.2.2.2.2.2.1,a0.2.2.2.2.2.2.2.2.2.2.2,()),()),(a0.2.2.1,a0.2.2.2.2.2.2.2.2.1,()))) (fun y4 =>
    some ((),((y4.2.1.1.1,(y4.2.1.1.2.1,y4.2.1.1.2.2.1),y4.2.2.1,y4.2.1.1.2.2.2.2.1,y4.2.1.1.2.2.2.2.2.1,y4.2.1.1.2.2.2.2.2.2.1,y4.2.1.1.2.2.2.2.2.2.2.1,y4.2.1.1.2.2.2.2.2.2.2.2.1,y4.2.2.2.1,y4.2.1.1.2.2.2.2.2.2.2.2.2.2.1,y4.2.1.1.2.2.2.2.2.2.2.2.2.2.2.1,y4.2.1.1.2.2.2.2.2.2.2.2.2.2.2.2.1),()))) (fun y4 =>
    none)
theorem yVY (x:InD ygU):zjH ⟨yqq,39,yA6⟩ Tryz.f261.results.toList yk6 ygU yqX x=yng x.1:=by kernel_rfl
theorem yRs:ConOk Tryz.prog 261 ⟨ygU,yqX,fun x=>yng x.1⟩:=zkh (yMl) Tryz.func261 (by kernel_rfl) (by kernel_rfl) Tryz.ntmps261.symm (by decide) (fun x r h=>(yVY x).trans h)
def ydc (a0:dA):dA:=yA a0
theorem yTK (a0:dA) (hk:zi9 ygU (a0,())):yng a0=(fun n=>some ((),(n,()))) (ydc a0):=by
  have hb:a0.2.2.1.length * 80≤2 ^ 47:=hk.1.2.2.1.1
  have h1:ysZ (yMM a0)=some (.inl (yzL (yA a0))) :=
    zks (step:=yc5) a0.2.2.1.length (fun i s=>yrP i s) yX (fun _ s=>s.2.2.1.length=a0.2.2.1.length) (fun s=> .inl (yzL s)) (fun i s hi hs=>⟨by
      simp only [yc5,yrP,ysb,hs,zjI (show (i:Int) < a0.2.2.1.length by omega),cond_true,wr (show -9223372036854775808≤(i:Int)+1 by omega) (by omega),Int.natCast_add,Int.natCast_one,Int.toNat_natCast,zkO hi,zkV,yR6,yaj,ycH,yX,setMem]
      cases (nth s.2.2.1 i noMem).2.2.1<;>cases (yZ s).1<;>simp only [cond_true,cond_false,Bool.not_true,Bool.not_false,yaj,Int.toNat_natCast],(yl3 s i).trans hs⟩) (fun s hs=>by simp only [yc5,yrP,ysb,hs,zkm (Int.le_refl _),cond_false]) a0 rfl _ (by show _ < 18446744073709551616; omega)
  unfold yng ydc
  rw [h1]; rfl
def ymV:Con:=⟨ygU,yqX,fun x=>(fun n=>some ((),(n,()))) (ydc x.1)⟩
theorem yu9:ConOk Tryz.prog 261 ymV:=(yRs).mono (fun x r hk h=>(yTK x.1 hk).trans h)
end
section
def yk5:Code:=(Tryz.f203.body).getD .skip
def yqp:Env:=zki TT [(140,ypt),(207,yjP),(261,ymV)] []
theorem yMi:FrOk Tryz.prog ⟨yqp,63,fun _=>none⟩ yk5:=zkp yc yd ⟨yzS,yq8,yu9,trivial⟩
def yA3:Nat→Option Seg:=fun _=>none
def ybP:Shape:=⟨[(0,false,[.ptr 1000000000 0]),(2,false,[.int .i64])],[(1000000000,[.int .i64,.int .i64,.int .i64,.at 800000000,.int .i64,.int .i64,.int .i64,.int .i64,.int .i64,.at 800000001,.int .i64,.bool,.bool])],[(800000000,tM,(.pr (.ow .fz) (.pr (.ow (.pr .fz .fz)) (.pr .fz (.ow .fz))))),(800000001,tW,(.pr .fz .fz))]⟩
def ygi:Shape:=⟨[(0,false,[.ptr 1000000000 0]),(2,false,[.ci .i64 0])],[(1000000000,[.int .i64,.int .i64,.int .i64,.at 800000000,.int .i64,.int .i64,.int .i64,.int .i64,.int .i64,.at 800000001,.int .i64,.bool,.bool])],[(800000000,tM,(.pr (.ow .fz) (.pr (.ow (.pr .fz .fz)) (.pr .fz (.ow .fz))))),(800000001,tW,(.pr .fz .fz))]⟩
def yf6:Shape:=⟨[(0,false,[.ptr 1000000000 0])],[(1000000000,[.int .i64,.int .i64,.int .i64,.at 800000000,.int .i64,.int .i64,.int .i64,.int .i64,.int .i64,.at 800000001,.int .i64,.bool,.bool])],[(800000000,tM,(.pr (.ow .fz) (.pr (.ow (.pr .fz .fz)) (.pr .fz (.ow .fz))))),(800000001,tW,(.pr .fz .fz))]⟩
def ykw:Shape:=⟨[],[],[]⟩
abbrev ypH (v0:Int) (v1:dA):(ybP).X:=((((),()),(v0,()),()),((v1.1,v1.2.1.1,v1.2.1.2,(),v1.2.2.2.1,v1.2.2.2.2.1,v1.2.2.2.2.2.1,v1.2.2.2.2.2.2.1,v1.2.2.2.2.2.2.2.1,(),v1.2.2.2.2.2.2.2.2.2.1,v1.2.2.2.2.2.2.2.2.2.2.1,v1.2.2.2.2.2.2.2.2.2.2.2,()),()),(v1.2.2.1,v1.2.2.2.2.2.2.2.2.1,()))
abbrev yJ7 (v0:dA):(ygi).X:=((((),()),((),()),()),((v0.1,v0.2.1.1,v0.2.1.2,(),v0.2.2.2.1,v0.2.2.2.2.1,v0.2.2.2.2.2.1,v0.2.2.2.2.2.2.1,v0.2.2.2.2.2.2.2.1,(),v0.2.2.2.2.2.2.2.2.2.1,v0.2.2.2.2.2.2.2.2.2.2.1,v0.2.2.2.2.2.2.2.2.2.2.2,()),()),(v0.2.2.1,v0.2.2.2.2.2.2.2.2.1,()))
abbrev yxI (v0:dA):(yf6).X:=((((),()),()),((v0.1,v0.2.1.1,v0.2.1.2,(),v0.2.2.2.1,v0.2.2.2.2.1,v0.2.2.2.2.2.1,v0.2.2.2.2.2.2.1,v0.2.2.2.2.2.2.2.1,(),v0.2.2.2.2.2.2.2.2.2.1,v0.2.2.2.2.2.2.2.2.2.2.1,v0.2.2.2.2.2.2.2.2.2.2.2,()),()),(v0.2.2.1,v0.2.2.2.2.2.2.2.2.1,()))
def ypW (v0:Int) (v1:Int) (v2:Int) (v3:Int) (v4:Int) (v5:Int) (v6:Int) (v7:Int) (v8:Int) (v9:Int) (v10:Bool) (v11:Bool) (v12:List dM) (v13:List dW):Option ((ybP).X ⊕ ((yf6).X ⊕ (ykw).X)) :=
  bif (ltb v0 (v12.length:Int)) then
    let r3:=yH (v1,v8,v0,v2,v3,v7,v4,v5)
    bnd (yec (v1,(v2,v3),v12,v4,v5,v6,v7,v8,v13,v9,v10,v11) v0 (v8.tmod 2) r3) fun r4 =>
    some (.inl ((((),()),((IntKind.i64.wrap (v0+1)),()),()),((r4.2.1.1,r4.2.1.2.1.1,r4.2.1.2.1.2,(),r4.2.1.2.2.2.1,r4.2.1.2.2.2.2.1,r4.2.1.2.2.2.2.2.1,r4.2.1.2.2.2.2.2.2.1,r4.2.1.2.2.2.2.2.2.2.1,(),r4.2.1.2.2.2.2.2.2.2.2.2.1,r4.2.1.2.2.2.2.2.2.2.2.2.2.1,r4.2.1.2.2.2.2.2.2.2.2.2.2.2,()),()),(r4.2.1.2.2.1,r4.2.1.2.2.2.2.2.2.2.2.1,())))
  else
    some (.inr (.inl ((((),()),()),((v1,v2,v3,(),v4,v5,v6,v7,v8,(),v9,v10,v11,()),()),(v12,v13,()))))
def ych (x:(ybP).X):=ypW x.1.2.1.1 x.2.1.1.1 x.2.1.1.2.1 x.2.1.1.2.2.1 x.2.1.1.2.2.2.2.1 x.2.1.1.2.2.2.2.2.1 x.2.1.1.2.2.2.2.2.2.1 x.2.1.1.2.2.2.2.2.2.2.1 x.2.1.1.2.2.2.2.2.2.2.2.1 x.2.1.1.2.2.2.2.2.2.2.2.2.2.1 x.2.1.1.2.2.2.2.2.2.2.2.2.2.2.1 x.2.1.1.2.2.2.2.2.2.2.2.2.2.2.2.1 x.2.2.1 x.2.2.2.1
def yxs (x:(ygi).X):(ybP).X:=((((),()),(0,()),()),((x.2.1.1.1,x.2.1.1.2.1,x.2.1.1.2.2.1,(),x.2.1.1.2.2.2.2.1,x.2.1.1.2.2.2.2.2.1,x.2.1.1.2.2.2.2.2.2.1,x.2.1.1.2.2.2.2.2.2.2.1,x.2.1.1.2.2.2.2.2.2.2.2.1,(),x.2.1.1.2.2.2.2.2.2.2.2.2.2.1,x.2.1.1.2.2.2.2.2.2.2.2.2.2.2.1,x.2.1.1.2.2.2.2.2.2.2.2.2.2.2.2.1,()),()),(x.2.2.1,x.2.2.2.1,()))
def yyM:Code:=(zdI yk5 64 52).getD .skip
theorem yLo:zdI yk5 64 13=some (.block 0 (.loop yyM)):=by kernel_rfl
theorem yN2 (x:(ybP).X):zg7 ⟨yqp,63,yA3⟩ 0 yyM 52 ybP yf6 ykw x=ych x:=by kernel_rfl
def yxE (x:(ygi).X):Nat:=(fun (u0:Int) (u1:Int) (u2:Int) (u3:Int) (u4:Int) (u5:Int) (u6:Int) (u7:Int) (u8:Int) (u9:Bool) (u10:Bool) (u11:List dM) (u12:List dW)=>18446744073709551616) x.2.1.1.1 x.2.1.1.2.1 x.2.1.1.2.2.1 x.2.1.1.2.2.2.2.1 x.2.1.1.2.2.2.2.2.1 x.2.1.1.2.2.2.2.2.2.1 x.2.1.1.2.2.2.2.2.2.2.1 x.2.1.1.2.2.2.2.2.2.2.2.1 x.2.1.1.2.2.2.2.2.2.2.2.2.2.1 x.2.1.1.2.2.2.2.2.2.2.2.2.2.2.1 x.2.1.1.2.2.2.2.2.2.2.2.2.2.2.2.1 x.2.2.1 x.2.2.2.1
def yro (x:(ygi).X):Option ((yf6).X ⊕ (ykw).X):=zr ych (yxE x) (yxs x)
def yxV:Seg:=⟨ygi,yf6,ykw,yro⟩
def yA4:Nat→Option Seg:=fun q=>bif Nat.beq q 13 then some yxV else yA3 q
theorem yMj:FrOk Tryz.prog ⟨yqp,63,yA4⟩ yk5:=(yMi).loop (sg:=yxV) ybP yxs (by decide) yLo ych yxE (by decide) (fun _=>rfl) (fun x r _ h=>h) yN2
abbrev ygT:List Par:= [.pt tA (.pr .fz (.pr (.pr .fz .fz) (.pr (.ow (.pr (.ow .fz) (.pr (.ow (.pr .fz .fz)) (.pr .fz (.ow .fz))))) (.pr .fz (.pr .fz (.pr .fz (.pr .fz (.pr .fz (.pr (.ow (.pr .fz .fz)) (.pr .fz (.pr .fz .fz)))))))))))]
abbrev yqW:List OT:= []
def ynf (a0:dA):Option (ResD yqW×MutD ygT) :=
  zjw (yro ((((),()),((),()),()),((a0.1,a0.2.1.1,a0.2.1.2,(),a0.2.2.2.1,a0.2.2.2.2.1,a0.2.2.2.2.2.1,a0.2.2.2.2.2.2.1,(IntKind.i64.wrap (a0.2.2.2.2.2.2.2.1+1)),(),a0.2.2.2.2.2.2.2.2.2.1,a0.2.2.2.2.2.2.2.2.2.2.1,a0.2.2.2.2.2.2.2.2.2.2.2,()),()),(a0.2.2.1,a0.2.2.2.2.2.2.2.2.1,()))) (fun y4 =>
    let r6:=ydc (y4.2.1.1.1,(y4.2.1.1.2.1,y4.2.1.1.2.2.1),y4.2.2.1,y4.2.1.1.2.2.2.2.1,y4.2.1.1.2.2.2.2.2.1,y4.2.1.1.2.2.2.2.2.2.1,y4.2.1.1.2.2.2.2.2.2.2.1,y4.2.1.1.2.2.2.2.2.2.2.2.1,y4.2.2.2.1,y4.2.1.1.2.2.2.2.2.2.2.2.2.2.1,y4.2.1.1.2.2.2.2.2.2.2.2.2.2.2.1,y4.2.1.1.2.2.2.2.2.2.2.2.2.2.2.2.1)
    some ((),(r6,()))) (fun y4 =>
    none)
theorem yVX (x:InD ygT):zjH ⟨yqp,63,yA4⟩ Tryz.f203.results.toList yk5 ygT yqW x=ynf x.1:=by kernel_rfl
theorem yRr:ConOk Tryz.prog 203 ⟨ygT,yqW,fun x=>ynf x.1⟩:=zkh (yMj) Tryz.func203 (by kernel_rfl) (by kernel_rfl) Tryz.ntmps203.symm (by decide) (fun x r h=>(yVX x).trans h)
def yax (a0:dA):dA:=markA a0
theorem yYj (a:dA) (i:Nat):(yb3 a i).2.2.1.length=a.2.2.1.length:=yl2 _ _ _ _
theorem yTJ (a0:dA) (hk:zi9 ygT (a0,())):ynf a0=(fun n=>some ((),(n,()))) (yax a0):=by
  have hb:a0.2.2.1.length * 80≤2 ^ 47:=hk.1.2.2.1.1
  have h1:yro (yJ7 (ya4 a0))=some (.inl (yxI ((List.range a0.2.2.1.length).foldl yb3 (ya4 a0)))) :=
    zks (step:=ych) a0.2.2.1.length (fun i s=>ypH i s) yb3 (fun _ s=>s.2.2.1.length=a0.2.2.1.length) (fun s=> .inl (yxI s)) (fun i s hi hs=>⟨by
      simp only [ych,ypH,ypW,hs,zjI (show (i:Int) < a0.2.2.1.length by omega),cond_true,wr (show -9223372036854775808≤(i:Int)+1 by omega) (by omega),Int.natCast_add,Int.natCast_one,Int.toNat_natCast,zkV]
      rw [ylQ s i (s.2.2.2.2.2.2.2.1.tmod 2) (yH (s.1,s.2.2.2.2.2.2.2.1,(i:Int),s.2.1.1,s.2.1.2,s.2.2.2.2.2.2.1,s.2.2.2.1,s.2.2.2.2.1)) (zkO (by rw [hs]; exact hi))]
      rfl,(yYj s i).trans hs⟩) (fun s hs=>by simp only [ych,ypH,ypW,hs,zkm (Int.le_refl _),cond_false]) (ya4 a0) rfl _ (by show _ < 18446744073709551616; omega)
  unfold ynf yax markA
  exact (congrArg (fun z=>zjw z _ _) h1).trans rfl
def ymU:Con:=⟨ygT,yqW,fun x=>(fun n=>some ((),(n,()))) (yax x.1)⟩
theorem yu8:ConOk Tryz.prog 203 ymU:=(yRr).mono (fun x r hk h=>(yTJ x.1 hk).trans h)
end
end
end Go.Tf
