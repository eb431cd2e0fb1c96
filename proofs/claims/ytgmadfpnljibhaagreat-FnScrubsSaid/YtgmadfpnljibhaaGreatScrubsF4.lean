/- Functions of the program, and what they come to. -/
import Derived.Test.YtgmadfpnljibhaaGreatScrubsF3
namespace Go.Tf
noncomputable section
open Go.Proofs
set_option synthInstance.maxHeartbeats 400000
set_option synthInstance.maxSize 10000
set_option linter.unusedVariables false
set_option linter.unusedSimpArgs false
set_option maxRecDepth 100000
section
def ynr:Code:=(Tryz.f238.body).getD .skip
def ysG:Env:=zki TT [] []
theorem yPU:FrOk Tryz.prog ⟨ysG,18,fun _=>none⟩ ynr:=zkp yc yd trivial
def yDo:Nat→Option Seg:=fun _=>none
def ycw:Shape:=⟨[(0,false,[.br tI]),(1,false,[.int .i64]),(5,false,[.int .i64])],[],[]⟩
def yhG:Shape:=⟨[(0,false,[.br tI]),(1,false,[.int .i64]),(5,false,[.ci .i64 0])],[],[]⟩
def yhp:Shape:=⟨[],[],[]⟩
def yh2:Shape:=⟨[(4,false,[.bool])],[],[]⟩
abbrev yrM (v0:List Int) (v1:Int) (v2:Int):(ycw).X:=(((v0,()),(v1,()),(v2,()),()),(),())
abbrev yMJ (v0:List Int) (v1:Int):(yhG).X:=(((v0,()),(v1,()),((),()),()),(),())
abbrev yMw  :(yhp).X:=((),(),())
abbrev yMW (v0:Bool):(yh2).X:=(((v0,()),()),(),())
def yr8 (v0:List Int) (v1:Int) (v2:Int):Option ((ycw).X ⊕ ((yhp).X ⊕ (yh2).X)) :=
  bif (ltb v2 (v0.length:Int)) then
    bif (inb v2 v0.length) then
      bif ((nth v0 v2 0)==v1) then
        some (.inr (.inr (((true,()),()),(),())))
      else
        some (.inl (((v0,()),(v1,()),((IntKind.i64.wrap (v2+1)),()),()),(),()))
    else none
  else
    some (.inr (.inl ((),(),())))
def yc2 (x:(ycw).X):=yr8 x.1.1.1 x.1.2.1.1 x.1.2.2.1.1
def yzf (x:(yhG).X):(ycw).X:=(((x.1.1.1,()),(x.1.2.1.1,()),(0,()),()),(),())
def yBz:Code:=(zdI ynr 64 52).getD .skip
theorem yOL:zdI ynr 64 13=some (.block 0 (.loop yBz)):=by kernel_rfl
theorem yR0 (x:(ycw).X):zg7 ⟨ysG,18,yDo⟩ 0 yBz 52 ycw yhp yh2 x=yc2 x:=by kernel_rfl
def yzx (x:(yhG).X):Nat:=(fun (u0:List Int) (u1:Int)=>18446744073709551616) x.1.1.1 x.1.2.1.1
def ysW (x:(yhG).X):Option ((yhp).X ⊕ (yh2).X):=zr yc2 (yzx x) (yzf x)
def yAi:Seg:=⟨yhG,yhp,yh2,ysW⟩
def yDp:Nat→Option Seg:=fun q=>bif Nat.beq q 13 then some yAi else yDo q
theorem yPV:FrOk Tryz.prog ⟨ysG,18,yDp⟩ ynr:=(yPU).loop (sg:=yAi) ycw yzf (by decide) yOL yc2 yzx (by decide) (fun _=>rfl) (fun x r _ h=>h) yR0
abbrev yjm:List Par:= [.rd tL,.rd tI]
abbrev ytm:List OT:= [⟨false,tB,.fz⟩]
def yo9 (a0:List Int) (a1:Int):Option (ResD ytm×MutD yjm) :=
  zjw (ysW (((a0,()),(a1,()),((),()),()),(),())) (fun y0 =>
    some ((false,()),())) (fun y0 =>
    some ((y0.1.1.1,()),()))
theorem yXh (x:InD yjm):zjH ⟨ysG,18,yDp⟩ Tryz.f238.results.toList ynr yjm ytm x=yo9 x.1 x.2.1:=by kernel_rfl
theorem yT6:ConOk Tryz.prog 238 ⟨yjm,ytm,fun x=>yo9 x.1 x.2.1⟩:=zkh (yPV) Tryz.func238 (by kernel_rfl) (by kernel_rfl) Tryz.ntmps238.symm (by decide) (fun x r h=>(yXh x).trans h)
def ygu (a0:List Int) (a1:Int):Bool:=a0.any (· ==a1)
theorem yWi (a0:List Int) (a1:Int) (hk:zi9 yjm (a0,a1,())):yo9 a0 a1=(fun n=>some ((n,()),())) (ygu a0 a1):=by
  have hb:a0.length * 8≤2 ^ 47:=hk.1.1
  have h1:ysW (yMJ a0 a1)=some (bif a0.all (· !=a1) then .inl yMw else .inr (yMW true)) :=
    zjS (step:=yc2) a0 0 (fun i=>yrM a0 a1 i) (· !=a1) _ _ (fun i hi=>by
      simp only [yc2,yrM,yr8,zjI (show (i:Int) < a0.length by omega),cond_true,wr (show -9223372036854775808≤(i:Int)+1 by omega) (by omega),Int.natCast_add,Int.natCast_one,Int.toNat_natCast,zkO hi,zjW,bne]
      cases (a0.getD i 0==a1)<;>rfl) (by simp only [yc2,yrM,yr8,zkm (Int.le_refl _),cond_false]) _ (by show _ < 18446744073709551616; omega)
  unfold yo9 ygu
  rw [h1,show a0.any (· ==a1)= !(a0.all (· !=a1)) by simp [List.all_eq_not_any_not,bne]]
  cases a0.all (· !=a1)<;>rfl
def yuZ:Con:=⟨yjm,ytm,fun x=>(fun n=>some ((n,()),())) (ygu x.1 x.2.1)⟩
theorem yGn:ConOk Tryz.prog 238 yuZ:=(yT6).mono (fun x r hk h=>(yWi x.1 x.2.1 hk).trans h)
end
section
def yiZ:Code:=(Tryz.f159.body).getD .skip
def yos:Env:=zki TT [(135,yq),(224,yfy),(238,yuZ)] []
theorem yJB:FrOk Tryz.prog ⟨yos,60,fun _=>none⟩ yiZ:=zkp yc yd ⟨yu,ylN,yGn,trivial⟩
def yyl:Nat→Option Seg:=fun _=>none
def ybg:Shape:=⟨[(1,false,[.int .i64]),(2,false,[.ptr 0 0]),(6,false,[.br tI]),(7,false,[.int .i64])],[(0,[.br tL,.br tW,.bool,.br tI])],[]⟩
def ye3:Shape:=⟨[(1,false,[.int .i64]),(2,false,[.ptr 0 0]),(6,false,[.br tI]),(7,false,[.ci .i64 0])],[(0,[.br tL,.br tW,.bool,.br tI])],[]⟩
def yeV:Shape:=⟨[(6,false,[.br tI])],[],[]⟩
def yiy:Shape:=⟨[],[],[]⟩
abbrev yn1 (v0:Int) (v1:List Int) (v2:Int) (v3:dM):(ybg).X:=(((v0,()),((),()),(v1,()),(v2,()),()),((v3.1,v3.2.1,v3.2.2.1,v3.2.2.2,()),()),())
abbrev yIg (v0:Int) (v1:List Int) (v2:dM):(ye3).X:=(((v0,()),((),()),(v1,()),((),()),()),((v2.1,v2.2.1,v2.2.2.1,v2.2.2.2,()),()),())
abbrev ywk (v0:List Int):(yeV).X:=(((v0,()),()),(),())
def yoi (v0:Int) (v1:List Int) (v2:Int) (v3:List (List Int)) (v4:List dW) (v5:Bool) (v6:List Int):Option ((ybg).X ⊕ ((yeV).X ⊕ (yiy).X)) :=
  bif (ltb v2 (v4.length:Int)) then
    bif (inb v2 v4.length) then
      bif ((nth v4 v2 (0,[])).1==v0) then
        bif (inb v2 v4.length) then
          some (.inl (((v0,()),((),()),((nth v4 v2 (0,[])).2,()),((IntKind.i64.wrap (v2+1)),()),()),((v3,v4,v5,v6,()),()),()))
        else none
      else
        some (.inl (((v0,()),((),()),(v1,()),((IntKind.i64.wrap (v2+1)),()),()),((v3,v4,v5,v6,()),()),()))
    else none
  else
    some (.inr (.inl (((v1,()),()),(),())))
def ybs (x:(ybg).X):=yoi x.1.1.1 x.1.2.2.1.1 x.1.2.2.2.1.1 x.2.1.1.1 x.2.1.1.2.1 x.2.1.1.2.2.1 x.2.1.1.2.2.2.1
def yvY (x:(ye3).X):(ybg).X:=(((x.1.1.1,()),((),()),(x.1.2.2.1.1,()),(0,()),()),((x.2.1.1.1,x.2.1.1.2.1,x.2.1.1.2.2.1,x.2.1.1.2.2.2.1,()),()),())
def yw3:Code:=(zdI yiZ 64 244).getD .skip
theorem yJe:zdI yiZ 64 61=some (.block 0 (.loop yw3)):=by kernel_rfl
theorem yKH (x:(ybg).X):zg7 ⟨yos,60,yyl⟩ 0 yw3 244 ybg yeV yiy x=ybs x:=by kernel_rfl
def ywb (x:(ye3).X):Nat:=(fun (u0:Int) (u1:List Int) (u2:List (List Int)) (u3:List dW) (u4:Bool) (u5:List Int)=>18446744073709551616) x.1.1.1 x.1.2.2.1.1 x.2.1.1.1 x.2.1.1.2.1 x.2.1.1.2.2.1 x.2.1.1.2.2.2.1
def ypm (x:(ye3).X):Option ((yeV).X ⊕ (yiy).X):=zr ybs (ywb x) (yvY x)
def yws:Seg:=⟨ye3,yeV,yiy,ypm⟩
def yym:Nat→Option Seg:=fun q=>bif Nat.beq q 61 then some yws else yyl q
theorem yJC:FrOk Tryz.prog ⟨yos,60,yym⟩ yiZ:=(yJB).loop (sg:=yws) ybg yvY (by decide) yJe ybs ywb (by decide) (fun _=>rfl) (fun x r _ h=>h) yKH
abbrev yfu:List Par:= [.rd tM,.rd tI]
abbrev yoI:List OT:= [⟨false,tL,(.ow .fz)⟩,⟨false,tB,.fz⟩]
def ykL (a0:dM) (a1:Int):Option (ResD yoI×MutD yfu) :=
  let r1:=yai a0
  bif (!(!r1)) then
    bif (!a0.2.2.1) then
      let r2:=ya a1 0 (IntKind.i64.wrap ((a0.1.length:Int) - 1))
      bif (!(!r2)) then
        let r3:=ygu a0.2.2.2 a1
        bif r3 then
          some ((([]:List Int),false,()),())
        else
          bif (inb a1 a0.1.length) then
            zjw (ypm (((a1,()),((),()),((nth a0.1 a1 []),()),((),()),()),((a0.1,a0.2.1,a0.2.2.1,a0.2.2.2,()),()),())) (fun y3 =>
              bif (zj4 ([]:List Int).length y3.1.1.1.length 8) then
                some (((([]:List Int)++y3.1.1.1),true,()),())
              else none) (fun y3 =>
              none)
          else none
      else
        some ((([]:List Int),false,()),())
    else
      some ((([]:List Int),false,()),())
  else
    some ((([]:List Int),false,()),())
theorem ySP (x:InD yfu):zjH ⟨yos,60,yym⟩ Tryz.f159.results.toList yiZ yfu yoI x=ykL x.1 x.2.1:=by kernel_rfl
theorem yNu:ConOk Tryz.prog 159 ⟨yfu,yoI,fun x=>ykL x.1 x.2.1⟩:=zkh (yJC) Tryz.func159 (by kernel_rfl) (by kernel_rfl) Tryz.ntmps159.symm (by decide) (fun x r h=>(ySP x).trans h)
def yjZ (a0:dM) (a1:Int):List Int×Bool:=ygZ a0 a1
theorem yQH (a0:dM) (a1:Int) (hk:zi9 yfu (a0,a1,())):ykL a0 a1=(fun n=>some ((n.1,n.2,()),())) (yjZ a0 a1):=by
  have hb1:a0.1.length * 24≤2 ^ 47:=hk.1.1.1
  have hb2:a0.2.1.length * 32≤2 ^ 47:=hk.1.2.1.1
  have h1: ∀ s,ypm (yIg a1 s a0)=some (.inl (ywk (ygw a1 a0.2.1 s))):=fun s =>
    zkk (step:=ybs) a0.2.1 (0,[]) (fun i s=>yn1 a1 s i a0) (fun s w=>bif w.1==a1 then w.2 else s) (fun _ _=>True) (fun s=> .inl (ywk s)) (fun i s hi _=>⟨by
      simp only [ybs,yn1,yoi,zjI (show (i:Int) < a0.2.1.length by omega),cond_true,wr (show -9223372036854775808≤(i:Int)+1 by omega) (by omega),Int.natCast_add,Int.natCast_one,Int.toNat_natCast,zkO hi,zjW]
      cases ((a0.2.1.getD i (0,[])).1==a1)<;>rfl,trivial⟩) (fun s _=>by simp only [ybs,yn1,yoi,zkm (Int.le_refl _),cond_false]) s trivial _ (by show _ < 18446744073709551616; omega)
  unfold ykL yjZ ygZ yx7
  rw [yp9 (show a0.1.length≤1152921504606846976 by omega)]
  unfold yai ygu
  simp only [h1,zkJ,List.nil_append]
  cases ym a0
  · rfl
  cases a0.2.2.1
  · cases hi:inb a1 a0.1.length
    · rfl
    · cases a0.2.2.2.any (· ==a1)
      · have hs:(ygw a1 a0.2.1 (nth a0.1 a1 [])).length * 8≤2 ^ 47 :=
          yEY (P:=fun s=>s.length * 8≤2 ^ 47) (yu3 (P:=fun s:List Int=>s.length * 8≤2 ^ 47) hi fun x hx=>(hk.1.1.2 x hx).1) fun w hw=>(hk.1.2.1.2 w hw).2.1
        simp only [Bool.not_true,Bool.not_false,cond_true,cond_false,Bool.true_and,show zj4 ([]:List Int).length (ygw a1 a0.2.1 (nth a0.1 a1 [])).length 8=true from zkw.2 (by rw [List.length_nil]; omega)]
      · rfl
  · rfl
def yyW:Con:=⟨yfu,yoI,fun x=>(fun n=>some ((n.1,n.2,()),())) (yjZ x.1 x.2.1)⟩
theorem yRD:ConOk Tryz.prog 159 yyW:=(yNu).mono (fun x r hk h=>(yQH x.1 x.2.1 hk).trans h)
end
section
def yFz:Code:=(Tryz.f215.body).getD .skip
def yGa:Env:=zki TT [(48,ytz),(141,ycD),(159,yyW)] []
theorem yMe:FrOk Tryz.prog ⟨yGa,36,fun _=>none⟩ yFz:=zkp yc yd ⟨yEn,yfH,yRD,trivial⟩
def yOv:Nat→Option Seg:=fun _=>none
abbrev ygS:List Par:= [.rd tA,.rd tI,.rd tI]
abbrev yqU:List OT:= [⟨false,tI,.fz⟩,⟨false,tB,.fz⟩]
def ynd (a0:dA) (a1:Int) (a2:Int):Option (ResD yqU×MutD ygS) :=
  let r1:=ydb a0 a1 a2
  bif (!r1) then
    some ((0,false,()),())
  else
    bif (inb a1 a0.2.2.1.length) then
      let r2:=yaw a2
      let r3:=yjZ ((nth a0.2.2.1 a1 ([],[],false,[])).1,((nth a0.2.2.1 a1 ([],[],false,[])).2).1,(((nth a0.2.2.1 a1 ([],[],false,[])).2).2)) r2
      bif (!(!r3.2)) then
        bif ((r3.1.length:Int) !=1) then
          some ((0,false,()),())
        else
          bif (inb 0 r3.1.length) then
            some (((nth r3.1 0 0),true,()),())
          else none
      else
        some ((0,false,()),())
    else none
theorem yVU (x:InD ygS):zjH ⟨yGa,36,yOv⟩ Tryz.f215.results.toList yFz ygS yqU x=ynd x.1 x.2.1 x.2.2.1:=by kernel_rfl
theorem yRo:ConOk Tryz.prog 215 ⟨ygS,yqU,fun x=>ynd x.1 x.2.1 x.2.2.1⟩:=zkh (yMe) Tryz.func215 (by kernel_rfl) (by kernel_rfl) Tryz.ntmps215.symm (by decide) (fun x r h=>(yVU x).trans h)
def yeN (a0:dA) (a1 a2:Int):Int×Bool:=(ygx a0 a1 a2,yl a0 a1 a2)
theorem yTG (a0:dA) (a1 a2:Int) (hk:zi9 ygS (a0,a1,a2,())):ynd a0 a1 a2=(fun n=>some ((n.1,n.2,()),())) (yeN a0 a1 a2):=by
  unfold ynd yeN ygx ydb
  simp only [zkV,ydG,yjZ]
  rw [show yl a0 a1 a2=(yby a0 a1 a2&&((yci a0 a1 a2).2&&((yci a0 a1 a2).1.length:Int)==1)) from rfl]
  rw [show ygZ (nth a0.2.2.1 a1 ([],[],false,[])) (dataAt a2)=yci a0 a1 a2 from rfl]
  cases hl:yby a0 a1 a2
  · rfl
  · rw [show inb a1 a0.2.2.1.length=true by unfold yby at hl; exact (Bool.and_eq_true_iff.1 hl).1]
    cases (yci a0 a1 a2).2
    · rfl
    · rw [bne]
      cases h1:(((yci a0 a1 a2).1.length:Int)==1)
      · rfl
      · rw [show inb 0 (yci a0 a1 a2).1.length=true from zjP.2 (by have:=beq_iff_eq.1 h1; omega)]; rfl
def ytE:Con:=⟨ygS,yqU,fun x=>(fun n=>some ((n.1,n.2,()),())) (yeN x.1 x.2.1 x.2.2.1)⟩
theorem yEr:ConOk Tryz.prog 215 ytE:=(yRo).mono (fun x r hk h=>(yTG x.1 x.2.1 x.2.2.1 hk).trans h)
end
section
def ydT:Code:=(Tryz.f262.body).getD .skip
def yg7:Env:=zki TT [] []
theorem yEd:FrOk Tryz.prog ⟨yg7,23,fun _=>none⟩ ydT:=zkp yc yd trivial
def ysu:Nat→Option Seg:=fun _=>none
def yag:Shape:=⟨[(0,false,[.br tI]),(1,false,[.int .i64]),(5,false,[.int .i64]),(6,false,[.int .i64])],[],[]⟩
def ybY:Shape:=⟨[(0,false,[.br tI]),(1,false,[.int .i64]),(5,false,[.ci .i64 0]),(6,false,[.ci .i64 0])],[],[]⟩
def ybW:Shape:=⟨[(5,false,[.int .i64])],[],[]⟩
def yex:Shape:=⟨[],[],[]⟩
abbrev yik (v0:List Int) (v1:Int) (v2:Int) (v3:Int):(yag).X:=(((v0,()),(v1,()),(v2,()),(v3,()),()),(),())
abbrev yCJ (v0:List Int) (v1:Int):(ybY).X:=(((v0,()),(v1,()),((),()),((),()),()),(),())
abbrev yCH (v0:Int):(ybW).X:=(((v0,()),()),(),())
def yio (v0:List Int) (v1:Int) (v2:Int) (v3:Int):Option ((yag).X ⊕ ((ybW).X ⊕ (yex).X)) :=
  bif (ltb v3 (v0.length:Int)) then
    bif (v3 !=v1) then
      bif (inb v3 v0.length) then
        some (.inl (((v0,()),(v1,()),((IntKind.i64.wrap ((BitVec.ofInt IntKind.i64.bits v2 ^^^ BitVec.ofInt IntKind.i64.bits (nth v0 v3 0)).toNat:Int)),()),((IntKind.i64.wrap (v3+1)),()),()),(),()))
      else none
    else
      some (.inl (((v0,()),(v1,()),(v2,()),((IntKind.i64.wrap (v3+1)),()),()),(),()))
  else
    some (.inr (.inl (((v2,()),()),(),())))
def yar (x:(yag).X):=yio x.1.1.1 x.1.2.1.1 x.1.2.2.1.1 x.1.2.2.2.1.1
def yp6 (x:(ybY).X):(yag).X:=(((x.1.1.1,()),(x.1.2.1.1,()),(0,()),(0,()),()),(),())
def ysh:Code:=(zdI ydT 64 116).getD .skip
theorem yDL:zdI ydT 64 29=some (.block 0 (.loop ysh)):=by kernel_rfl
theorem yEv (x:(yag).X):zg7 ⟨yg7,23,ysu⟩ 0 ysh 116 yag ybW yex x=yar x:=by kernel_rfl
def yp8 (x:(ybY).X):Nat:=(fun (u0:List Int) (u1:Int)=>18446744073709551616) x.1.1.1 x.1.2.1.1
def yi4 (x:(ybY).X):Option ((ybW).X ⊕ (yex).X):=zr yar (yp8 x) (yp6 x)
def yqf:Seg:=⟨ybY,ybW,yex,yi4⟩
def ysv:Nat→Option Seg:=fun q=>bif Nat.beq q 29 then some yqf else ysu q
theorem yEe:FrOk Tryz.prog ⟨yg7,23,ysv⟩ ydT:=(yEd).loop (sg:=yqf) yag yp6 (by decide) yDL yar yp8 (by decide) (fun _=>rfl) (fun x r _ h=>h) yEv
abbrev ybT:List Par:= [.rd tL,.rd tI]
abbrev yhO:List OT:= [⟨false,tI,.fz⟩]
def yfl (a0:List Int) (a1:Int):Option (ResD yhO×MutD ybT) :=
  zjw (yi4 (((a0,()),(a1,()),((),()),((),()),()),(),())) (fun y0 =>
    some ((y0.1.1.1,()),())) (fun y0 =>
    none)
theorem yHA (x:InD ybT):zjH ⟨yg7,23,ysv⟩ Tryz.f262.results.toList ydT ybT yhO x=yfl x.1 x.2.1:=by kernel_rfl
theorem yE2:ConOk Tryz.prog 262 ⟨ybT,yhO,fun x=>yfl x.1 x.2.1⟩:=zkh (yEe) Tryz.func262 (by kernel_rfl) (by kernel_rfl) Tryz.ntmps262.symm (by decide) (fun x r h=>(yHA x).trans h)
def yea (a0:List Int) (a1:Int):Int:=ynW a0 a1
theorem yGI (a0:List Int) (a1:Int) (hk:zi9 ybT (a0,a1,())):yfl a0 a1=(fun n=>some ((n,()),())) (yea a0 a1):=by
  have hb:a0.length * 8≤2 ^ 47:=hk.1.1
  have h1:=zks (step:=yar) a0.length (fun i s=>yik a0 a1 s i) (fun n (i:Nat)=>bif (i:Int) !=a1 then xw n (nth a0 i 0) else n) (fun _ _=>True) (fun s=> .inl (yCH s)) (fun i s hi _=>⟨by
    simp only [yar,yik,yio,zjI (show (i:Int) < a0.length by omega),cond_true,wr (show -9223372036854775808≤(i:Int)+1 by omega) (by omega),Int.natCast_add,Int.natCast_one,Int.toNat_natCast,zkO hi]
    cases ((i:Int) !=a1)<;>rfl,trivial⟩) (fun s _=>by simp only [yar,yik,yio,zkm (Int.le_refl _),cond_false]) 0 trivial 18446744073709551616 (by omega)
  rw [yZi]at h1
  unfold yfl yea
  rw [show yi4 (yCJ a0 a1)=_ from h1]; rfl
def ytA:Con:=⟨ybT,yhO,fun x=>(fun n=>some ((n,()),())) (yea x.1 x.2.1)⟩
theorem yGN:ConOk Tryz.prog 262 ytA:=(yE2).mono (fun x r hk h=>(yGI x.1 x.2.1 hk).trans h)
end
section
def yi2:Code:=(Tryz.f206.body).getD .skip
def yov:Env:=zki TT [(215,ytE),(262,ytA)] []
theorem yJL:FrOk Tryz.prog ⟨yov,45,fun _=>none⟩ yi2:=zkp yc yd ⟨yEr,yGN,trivial⟩
def yyr:Nat→Option Seg:=fun _=>none
def ybi:Shape:=⟨[(1,false,[.int .i64]),(2,false,[.ptr 0 0]),(6,false,[.at 800000000]),(7,false,[.int .i64]),(8,false,[.int .i64])],[(0,[.int .i64,.int .i64,.int .i64,.br tM,.int .i64,.int .i64,.int .i64,.int .i64,.int .i64,.br tW,.int .i64,.bool,.bool])],[(800000000,tI,.fz)]⟩
def ye5:Shape:=⟨[(1,false,[.int .i64]),(2,false,[.ptr 0 0]),(6,false,[.at 800000000]),(7,false,[.ci .i64 (-1)]),(8,false,[.ci .i64 0])],[(0,[.int .i64,.int .i64,.int .i64,.br tM,.int .i64,.int .i64,.int .i64,.int .i64,.int .i64,.br tW,.int .i64,.bool,.bool])],[(800000000,tI,.fz)]⟩
def yeX:Shape:=⟨[(6,false,[.at 800000000]),(7,false,[.int .i64])],[],[(800000000,tI,.fz)]⟩
def yfa:Shape:=⟨[(4,false,[.at 800000000]),(5,false,[.bool])],[],[(800000000,tI,.fz)]⟩
abbrev yn3 (v0:Int) (v1:Int) (v2:Int) (v3:dA) (v4:List Int):(ybi).X:=(((v0,()),((),()),((),()),(v1,()),(v2,()),()),((v3.1,v3.2.1.1,v3.2.1.2,v3.2.2.1,v3.2.2.2.1,v3.2.2.2.2.1,v3.2.2.2.2.2.1,v3.2.2.2.2.2.2.1,v3.2.2.2.2.2.2.2.1,v3.2.2.2.2.2.2.2.2.1,v3.2.2.2.2.2.2.2.2.2.1,v3.2.2.2.2.2.2.2.2.2.2.1,v3.2.2.2.2.2.2.2.2.2.2.2,()),()),(v4,()))
abbrev yIi (v0:Int) (v1:dA) (v2:List Int):(ye5).X:=(((v0,()),((),()),((),()),((),()),((),()),()),((v1.1,v1.2.1.1,v1.2.1.2,v1.2.2.1,v1.2.2.2.1,v1.2.2.2.2.1,v1.2.2.2.2.2.1,v1.2.2.2.2.2.2.1,v1.2.2.2.2.2.2.2.1,v1.2.2.2.2.2.2.2.2.1,v1.2.2.2.2.2.2.2.2.2.1,v1.2.2.2.2.2.2.2.2.2.2.1,v1.2.2.2.2.2.2.2.2.2.2.2,()),()),(v2,()))
abbrev yIb (v0:Int) (v1:List Int):(yeX).X:=((((),()),(v0,()),()),(),(v1,()))
abbrev yIn (v0:Bool) (v1:List Int):(yfa).X:=((((),()),(v0,()),()),(),(v1,()))
def yol (v0:Int) (v1:Int) (v2:Int) (v3:Int) (v4:Int) (v5:Int) (v6:List dM) (v7:Int) (v8:Int) (v9:Int) (v10:Int) (v11:Int) (v12:List dW) (v13:Int) (v14:Bool) (v15:Bool) (v16:List Int):Option ((ybi).X ⊕ ((yeX).X ⊕ (yfa).X)) :=
  bif (ltb v2 v4) then
    let r2:=yeN (v3,(v4,v5),v6,v7,v8,v9,v10,v11,v12,v13,v14,v15) v2 v0
    bif (!r2.2) then
      bif (leb 0 v1) then
        some (.inr (.inr ((((),()),(false,()),()),(),(([]:List Int),()))))
      else
        bif (zj4 v16.length ([r2.1]:List Int).length 8) then
          some (.inl (((v0,()),((),()),((),()),(v2,()),((IntKind.i64.wrap (v2+1)),()),()),((v3,v4,v5,v6,v7,v8,v9,v10,v11,v12,v13,v14,v15,()),()),((v16++([r2.1]:List Int)),())))
        else none
    else
      bif (zj4 v16.length ([r2.1]:List Int).length 8) then
        some (.inl (((v0,()),((),()),((),()),(v1,()),((IntKind.i64.wrap (v2+1)),()),()),((v3,v4,v5,v6,v7,v8,v9,v10,v11,v12,v13,v14,v15,()),()),((v16++([r2.1]:List Int)),())))
      else none
  else
    some (.inr (.inl ((((),()),(v1,()),()),(),(v16,()))))
def ybv (x:(ybi).X):=yol x.1.1.1 x.1.2.2.2.1.1 x.1.2.2.2.2.1.1 x.2.1.1.1 x.2.1.1.2.1 x.2.1.1.2.2.1 x.2.1.1.2.2.2.1 x.2.1.1.2.2.2.2.1 x.2.1.1.2.2.2.2.2.1 x.2.1.1.2.2.2.2.2.2.1 x.2.1.1.2.2.2.2.2.2.2.1 x.2.1.1.2.2.2.2.2.2.2.2.1 x.2.1.1.2.2.2.2.2.2.2.2.2.1 x.2.1.1.2.2.2.2.2.2.2.2.2.2.1 x.2.1.1.2.2.2.2.2.2.2.2.2.2.2.1 x.2.1.1.2.2.2.2.2.2.2.2.2.2.2.2.1 x.2.2.1
def yv1 (x:(ye5).X):(ybi).X:=(((x.1.1.1,()),((),()),((),()),((-1),()),(0,()),()),((x.2.1.1.1,x.2.1.1.2.1,x.2.1.1.2.2.1,x.2.1.1.2.2.2.1,x.2.1.1.2.2.2.2.1,x.2.1.1.2.2.2.2.2.1,x.2.1.1.2.2.2.2.2.2.1,x.2.1.1.2.2.2.2.2.2.2.1,x.2.1.1.2.2.2.2.2.2.2.2.1,x.2.1.1.2.2.2.2.2.2.2.2.2.1,x.2.1.1.2.2.2.2.2.2.2.2.2.2.1,x.2.1.1.2.2.2.2.2.2.2.2.2.2.2.1,x.2.1.1.2.2.2.2.2.2.2.2.2.2.2.2.1,()),()),(x.2.2.1,()))
def yw6:Code:=(zdI yi2 64 244).getD .skip
theorem yJh:zdI yi2 64 61=some (.block 0 (.loop yw6)):=by kernel_rfl
theorem yKK (x:(ybi).X):zg7 ⟨yov,45,yyr⟩ 0 yw6 244 ybi yeX yfa x=ybv x:=by kernel_rfl
def ywe (x:(ye5).X):Nat:=(fun (u0:Int) (u1:Int) (u2:Int) (u3:Int) (u4:List dM) (u5:Int) (u6:Int) (u7:Int) (u8:Int) (u9:Int) (u10:List dW) (u11:Int) (u12:Bool) (u13:Bool) (u14:List Int)=>18446744073709551616) x.1.1.1 x.2.1.1.1 x.2.1.1.2.1 x.2.1.1.2.2.1 x.2.1.1.2.2.2.1 x.2.1.1.2.2.2.2.1 x.2.1.1.2.2.2.2.2.1 x.2.1.1.2.2.2.2.2.2.1 x.2.1.1.2.2.2.2.2.2.2.1 x.2.1.1.2.2.2.2.2.2.2.2.1 x.2.1.1.2.2.2.2.2.2.2.2.2.1 x.2.1.1.2.2.2.2.2.2.2.2.2.2.1 x.2.1.1.2.2.2.2.2.2.2.2.2.2.2.1 x.2.1.1.2.2.2.2.2.2.2.2.2.2.2.2.1 x.2.2.1
def ypp (x:(ye5).X):Option ((yeX).X ⊕ (yfa).X):=zr ybv (ywe x) (yv1 x)
def ywv:Seg:=⟨ye5,yeX,yfa,ypp⟩
def yys:Nat→Option Seg:=fun q=>bif Nat.beq q 61 then some ywv else yyr q
theorem yJM:FrOk Tryz.prog ⟨yov,45,yys⟩ yi2:=(yJL).loop (sg:=ywv) ybi yv1 (by decide) yJh ybv ywe (by decide) (fun _=>rfl) (fun x r _ h=>h) yKK
abbrev yds:List Par:= [.rd tA,.rd tI]
abbrev yjF:List OT:= [⟨false,tL,(.ow .fz)⟩,⟨false,tB,.fz⟩]
def ykQ (a0:dA) (a1:Int):Option (ResD yjF×MutD yds) :=
  zjw (ypp (((a1,()),((),()),((),()),((),()),((),()),()),((a0.1,a0.2.1.1,a0.2.1.2,a0.2.2.1,a0.2.2.2.1,a0.2.2.2.2.1,a0.2.2.2.2.2.1,a0.2.2.2.2.2.2.1,a0.2.2.2.2.2.2.2.1,a0.2.2.2.2.2.2.2.2.1,a0.2.2.2.2.2.2.2.2.2.1,a0.2.2.2.2.2.2.2.2.2.2.1,a0.2.2.2.2.2.2.2.2.2.2.2,()),()),(([]:List Int),()))) (fun y2 =>
    bif (leb 0 y2.1.2.1.1) then
      let r4:=yea y2.2.2.1 y2.1.2.1.1
      bif (inb y2.1.2.1.1 y2.2.2.1.length) then
        some (((y2.2.2.1.set (y2.1.2.1.1).toNat r4),true,()),())
      else none
    else
      some ((y2.2.2.1,true,()),())) (fun y2 =>
    some ((y2.2.2.1,y2.1.2.1.1,()),()))
theorem ySW (x:InD yds):zjH ⟨yov,45,yys⟩ Tryz.f206.results.toList yi2 yds yjF x=ykQ x.1 x.2.1:=by kernel_rfl
theorem yNB:ConOk Tryz.prog 206 ⟨yds,yjF,fun x=>ykQ x.1 x.2.1⟩:=zkh (yJM) Tryz.func206 (by kernel_rfl) (by kernel_rfl) Tryz.ntmps206.symm (by decide) (fun x r h=>(ySW x).trans h)
def yfF (a0:dA) (a1:Int):List Int×Bool:=yy a0 a1
def yve (a0:dA) (a1:Int):Bool:=ye a0.2.1
theorem yQN (a0:dA) (a1:Int) (hk:zi9 yds (a0,a1,())) (hq:yve a0 a1=true):ykQ a0 a1=(fun n=>some ((n.1,n.2,()),())) (yfF a0 a1):=by
  have hg:=yg.1 hq
  have h1:ypp (yIi a1 a0 [])=some (bif ydQ (fun (i:Nat)=>yl a0 i a1) a0.2.1.1.toNat then .inr (yIn false []) else .inl (yIb (yp (fun (i:Nat)=>yl a0 i a1) a0.2.1.1.toNat) (yE a0 a1 a0.2.1.1.toNat))) :=
    zf4 (step:=ybv) (fun i=>yn3 a1 (yp (fun (i:Nat)=>yl a0 i a1) i) i a0 (yE a0 a1 i)) a0.2.1.1.toNat (fun i=> !yl a0 i a1&&leb 0 (yp (fun (i:Nat)=>yl a0 i a1) i)) _ _ (fun i hi=>by
      simp only [ybv,yn3,yol,zjI (show (i:Int) < a0.2.1.1 by omega),cond_true,wr (show -9223372036854775808≤(i:Int)+1 by omega) (by omega),Int.natCast_add,Int.natCast_one,Int.toNat_natCast,zkV,yeN,yp]
      rw [zkw.2 (show ((yE a0 a1 i).length+ [ygx a0 i a1].length) * 8≤140737488355328 by simp only [List.length_cons,List.length_nil,yeg]; omega),yGp]
      cases yl a0 i a1<;>cases leb 0 (yp (fun (i:Nat)=>yl a0 i a1) i)<;>rfl) (by simp only [ybv,yn3,yol,zkm (show a0.2.1.1≤(a0.2.1.1.toNat:Int) by omega),cond_false]) _ (by show _ < 18446744073709551616; omega)
  unfold ykQ yfF yy
  rw [h1]
  cases ydQ (fun (i:Nat)=>yl a0 i a1) a0.2.1.1.toNat
  · simp only [cond_false,zkJ,yea]
    cases hm:leb 0 (yp (fun (i:Nat)=>yl a0 i a1) a0.2.1.1.toNat)
    · rfl
    · obtain ⟨h2,h3⟩:=yU8 a0 a1 a0.2.1.1.toNat hm
      rw [h2,h3]; rfl
  · rfl
def yj8 (a0:dA) (a1:Int):Option (ResD yjF×MutD yds):=bif yve a0 a1 then (fun n=>some ((n.1,n.2,()),())) (yfF a0 a1) else none
theorem yCq (a0:dA) (a1:Int) (h:yve a0 a1=true):yj8 a0 a1=(fun n=>some ((n.1,n.2,()),())) (yfF a0 a1):=by unfold yj8; rw [h]; rfl
def yrw:Con:=⟨yds,yjF,fun x=>yj8 x.1 x.2.1⟩
theorem yCn:ConOk Tryz.prog 206 yrw:=(yNB).mono (fun x r hk h=>zkW h (fun hq=>yQN x.1 x.2.1 hk hq))
end
section
def yAH:Code:=(Tryz.f288.body).getD .skip
def yBk:Env:=zki TT [(134,yfx),(135,yq)] []
theorem yH3:FrOk Tryz.prog ⟨yBk,14,fun _=>none⟩ yAH:=zkp yc yd ⟨ylM,yu,trivial⟩
def yI6:Nat→Option Seg:=fun _=>none
abbrev yhc:List Par:= [.rd tG,.rd tI]
abbrev ymG:List OT:= [⟨false,tB,.fz⟩]
def ypL (a0:dG) (a1:Int):Option (ResD ymG×MutD yhc) :=
  let r1:=ye a0
  bif r1 then
    let r2:=ya a1 0 (IntKind.i64.wrap (a0.2 - 1))
    some ((r2,()),())
  else
    some ((false,()),())
theorem yPh (x:InD yhc):zjH ⟨yBk,14,yI6⟩ Tryz.f288.results.toList yAH yhc ymG x=ypL x.1 x.2.1:=by kernel_rfl
theorem yKx:ConOk Tryz.prog 288 ⟨yhc,ymG,fun x=>ypL x.1 x.2.1⟩:=zkh (yH3) Tryz.func288 (by kernel_rfl) (by kernel_rfl) Tryz.ntmps288.symm (by decide) (fun x r h=>(yPh x).trans h)
def yeB (a0:dG) (a1:Int):Bool :=
  let r1:=ye a0
  bif r1 then
    let r2:=ya a1 0 (IntKind.i64.wrap (a0.2 - 1))
    r2
  else
    false
def ypx:Con:=⟨yhc,ymG,fun x=>(fun n=>some ((n,()),())) (yeB x.1 x.2.1)⟩
theorem yNg (a0:dG) (a1:Int):ypL a0 a1=(fun n=>some ((n,()),())) (yeB a0 a1):=zkS (p:=fun (n:Bool)=>((n,()),())) (zkx (p:=fun (n:Bool)=>((n,()),())) rfl rfl)
theorem yzW:ConOk Tryz.prog 288 ypx:=(yKx).mono (fun x r _ h=>(yNg x.1 x.2.1).trans h)
theorem yKW (g:dG) (s:Int):yeB g s=yO g s:=by
  unfold yeB yO
  cases hg:ye g
  · rfl
  have:=yg.1 hg
  rw [ybC,wr (by omega) (by omega)]; rfl
end
end
end Go.Tf
