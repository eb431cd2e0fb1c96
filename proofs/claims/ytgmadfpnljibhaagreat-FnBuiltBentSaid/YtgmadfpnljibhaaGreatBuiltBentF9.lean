/- Functions of the program, and what they come to. -/
import Derived.Test.YtgmadfpnljibhaaGreatBuiltBentF8
namespace Go.Tf
noncomputable section
open Go.Proofs
set_option synthInstance.maxHeartbeats 400000
set_option synthInstance.maxSize 10000
set_option linter.unusedVariables false
set_option linter.unusedSimpArgs false
set_option maxRecDepth 100000
section
def yHr:Code:=(Tryz.f271.body).getD .skip
def yHU:Env:=zki TT [(239,yFZ)] []
theorem yOQ:FrOk Tryz.prog ⟨yHU,18,fun _=>none⟩ yHr:=zkp yc yd ⟨yYF,trivial⟩
def yRi:Nat→Option Seg:=fun _=>none
abbrev yh1:List Par:= [.rd tN]
abbrev ysp:List OT:= [⟨false,tL,(.ow .fz)⟩]
def yoB (a0:dN):Option (ResD ysp×MutD yh1) :=
  let r1:=ye3 a0
  bif (!r1) then
    some ((([]:List Int),()),())
  else
    bif (zj4 ([21322,a0.1,a0.2.1,(a0.2.2.length:Int)]:List Int).length a0.2.2.length 8) then
      some (((([21322,a0.1,a0.2.1,(a0.2.2.length:Int)]:List Int)++a0.2.2),()),())
    else none
theorem yXN (x:InD yh1):zjH ⟨yHU,18,yRi⟩ Tryz.f271.results.toList yHr yh1 ysp x=yoB x.1:=by kernel_rfl
theorem yTM:ConOk Tryz.prog 271 ⟨yh1,ysp,fun x=>yoB x.1⟩:=zkh (yOQ) Tryz.func271 (by kernel_rfl) (by kernel_rfl) Tryz.ntmps271.symm (by decide) (fun x r h=>(yXN x).trans h)
def ym3 (a0:dN):List Int:=yUl a0
theorem yVP (a0:dN) (hk:zi9 yh1 (a0,())):yoB a0=(fun n=>some ((n,()),())) (ym3 a0):=by
  unfold yoB ym3 yUl
  cases hr:ye3 a0
  · rfl
  · have:=(y09.1 hr).2.2.1
    rw [zkw.2 (show (([21322,a0.1,a0.2.1,(a0.2.2.length:Int)]:List Int).length+a0.2.2.length) * 8≤140737488355328 by simp only [List.length_cons,List.length_nil]; omega)]; rfl
def yEg:Con:=⟨yh1,ysp,fun x=>(fun n=>some ((n,()),())) (ym3 x.1)⟩
theorem yWH:ConOk Tryz.prog 271 yEg:=(yTM).mono (fun x r hk h=>(yVP x.1 hk).trans h)
end
section
def yoT:Code:=(Tryz.f229.body).getD .skip
def yui:Env:=zki TT [(160,yEh),(207,yk8),(261,yon),(271,yEg)] []
theorem ySS:FrOk Tryz.prog ⟨yui,24,fun _=>none⟩ yoT:=zkp yc yd ⟨yWI,ysO,yw8,yWH,trivial⟩
def yFz:Nat→Option Seg:=fun _=>none
def ydd:Shape:=⟨[(0,false,[.ptr 1000000000 0]),(3,false,[.ptr 0 0]),(4,false,[.int .i64])],[(0,[.int .i64,.int .i64,.br tI]),(1000000000,[.int .i64,.int .i64,.int .i64,.at 800000000,.int .i64,.int .i64,.int .i64,.int .i64,.int .i64,.at 800000001,.int .i64,.bool,.bool])],[(800000000,tM,(.pr (.ow .fz) (.pr (.ow (.pr .fz .fz)) (.pr .fz (.ow .fz))))),(800000001,tW,(.pr .fz .fz))]⟩
def yiT:Shape:=⟨[(0,false,[.ptr 1000000000 0]),(3,false,[.ptr 0 0]),(4,false,[.ci .i64 0])],[(0,[.int .i64,.int .i64,.br tI]),(1000000000,[.int .i64,.int .i64,.int .i64,.at 800000000,.int .i64,.int .i64,.int .i64,.int .i64,.int .i64,.at 800000001,.int .i64,.bool,.bool])],[(800000000,tM,(.pr (.ow .fz) (.pr (.ow (.pr .fz .fz)) (.pr .fz (.ow .fz))))),(800000001,tW,(.pr .fz .fz))]⟩
def yiE:Shape:=⟨[(0,false,[.ptr 1000000000 0])],[(1000000000,[.int .i64,.int .i64,.int .i64,.at 800000000,.int .i64,.int .i64,.int .i64,.int .i64,.int .i64,.at 800000001,.int .i64,.bool,.bool])],[(800000000,tM,(.pr (.ow .fz) (.pr (.ow (.pr .fz .fz)) (.pr .fz (.ow .fz))))),(800000001,tW,(.pr .fz .fz))]⟩
def yod:Shape:=⟨[],[],[]⟩
abbrev ytp (v0:Int) (v1:dN) (v2:dA):(ydd).X:=((((),()),((),()),(v0,()),()),((v1.1,v1.2.1,v1.2.2,()),(v2.1,v2.2.1.1,v2.2.1.2,(),v2.2.2.2.1,v2.2.2.2.2.1,v2.2.2.2.2.2.1,v2.2.2.2.2.2.2.1,v2.2.2.2.2.2.2.2.1,(),v2.2.2.2.2.2.2.2.2.2.1,v2.2.2.2.2.2.2.2.2.2.2.1,v2.2.2.2.2.2.2.2.2.2.2.2,()),()),(v2.2.2.1,v2.2.2.2.2.2.2.2.2.1,()))
abbrev yPH (v0:dN) (v1:dA):(yiT).X:=((((),()),((),()),((),()),()),((v0.1,v0.2.1,v0.2.2,()),(v1.1,v1.2.1.1,v1.2.1.2,(),v1.2.2.2.1,v1.2.2.2.2.1,v1.2.2.2.2.2.1,v1.2.2.2.2.2.2.1,v1.2.2.2.2.2.2.2.1,(),v1.2.2.2.2.2.2.2.2.2.1,v1.2.2.2.2.2.2.2.2.2.2.1,v1.2.2.2.2.2.2.2.2.2.2.2,()),()),(v1.2.2.1,v1.2.2.2.2.2.2.2.2.1,()))
abbrev yCt (v0:dA):(yiE).X:=((((),()),()),((v0.1,v0.2.1.1,v0.2.1.2,(),v0.2.2.2.1,v0.2.2.2.2.1,v0.2.2.2.2.2.1,v0.2.2.2.2.2.2.1,v0.2.2.2.2.2.2.2.1,(),v0.2.2.2.2.2.2.2.2.2.1,v0.2.2.2.2.2.2.2.2.2.2.1,v0.2.2.2.2.2.2.2.2.2.2.2,()),()),(v0.2.2.1,v0.2.2.2.2.2.2.2.2.1,()))
def ytO (v0:Int) (v1:Int) (v2:Int) (v3:List Int) (v4:Int) (v5:Int) (v6:Int) (v7:Int) (v8:Int) (v9:Int) (v10:Int) (v11:Int) (v12:Int) (v13:Bool) (v14:Bool) (v15:List dM) (v16:List dW):Option ((ydd).X ⊕ ((yiE).X ⊕ (yod).X)) :=
  bif (ltb v0 (v15.length:Int)) then
    let r4:=ym4 v1
    let r5:=ym3 (v1,v2,v3)
    bnd (ye5 (v4,(v5,v6),v15,v7,v8,v9,v10,v11,v16,v12,v13,v14) v0 r4 r5) fun r6 =>
    some (.inl ((((),()),((),()),((IntKind.i64.wrap (v0+1)),()),()),((v1,v2,v3,()),(r6.2.1.1,r6.2.1.2.1.1,r6.2.1.2.1.2,(),r6.2.1.2.2.2.1,r6.2.1.2.2.2.2.1,r6.2.1.2.2.2.2.2.1,r6.2.1.2.2.2.2.2.2.1,r6.2.1.2.2.2.2.2.2.2.1,(),r6.2.1.2.2.2.2.2.2.2.2.2.1,r6.2.1.2.2.2.2.2.2.2.2.2.2.1,r6.2.1.2.2.2.2.2.2.2.2.2.2.2,()),()),(r6.2.1.2.2.1,r6.2.1.2.2.2.2.2.2.2.2.1,())))
  else
    some (.inr (.inl ((((),()),()),((v4,v5,v6,(),v7,v8,v9,v10,v11,(),v12,v13,v14,()),()),(v15,v16,()))))
def ydK (x:(ydd).X):=ytO x.1.2.2.1.1 x.2.1.1.1 x.2.1.1.2.1 x.2.1.1.2.2.1 x.2.1.2.1.1 x.2.1.2.1.2.1 x.2.1.2.1.2.2.1 x.2.1.2.1.2.2.2.2.1 x.2.1.2.1.2.2.2.2.2.1 x.2.1.2.1.2.2.2.2.2.2.1 x.2.1.2.1.2.2.2.2.2.2.2.1 x.2.1.2.1.2.2.2.2.2.2.2.2.1 x.2.1.2.1.2.2.2.2.2.2.2.2.2.2.1 x.2.1.2.1.2.2.2.2.2.2.2.2.2.2.2.1 x.2.1.2.1.2.2.2.2.2.2.2.2.2.2.2.2.1 x.2.2.1 x.2.2.2.1
def yB5 (x:(yiT).X):(ydd).X:=((((),()),((),()),(0,()),()),((x.2.1.1.1,x.2.1.1.2.1,x.2.1.1.2.2.1,()),(x.2.1.2.1.1,x.2.1.2.1.2.1,x.2.1.2.1.2.2.1,(),x.2.1.2.1.2.2.2.2.1,x.2.1.2.1.2.2.2.2.2.1,x.2.1.2.1.2.2.2.2.2.2.1,x.2.1.2.1.2.2.2.2.2.2.2.1,x.2.1.2.1.2.2.2.2.2.2.2.2.1,(),x.2.1.2.1.2.2.2.2.2.2.2.2.2.2.1,x.2.1.2.1.2.2.2.2.2.2.2.2.2.2.2.1,x.2.1.2.1.2.2.2.2.2.2.2.2.2.2.2.2.1,()),()),(x.2.2.1,x.2.2.2.1,()))
def yD6:Code:=(zdI yoT 64 52).getD .skip
theorem yRH:zdI yoT 64 13=some (.block 0 (.loop yD6)):=by kernel_rfl
theorem yUy (x:(ydd).X):zg7 ⟨yui,24,yFz⟩ 0 yD6 52 ydd yiE yod x=ydK x:=by kernel_rfl
def yCl (x:(yiT).X):Nat:=(fun (u0:Int) (u1:Int) (u2:List Int) (u3:Int) (u4:Int) (u5:Int) (u6:Int) (u7:Int) (u8:Int) (u9:Int) (u10:Int) (u11:Int) (u12:Bool) (u13:Bool) (u14:List dM) (u15:List dW)=>18446744073709551616) x.2.1.1.1 x.2.1.1.2.1 x.2.1.1.2.2.1 x.2.1.2.1.1 x.2.1.2.1.2.1 x.2.1.2.1.2.2.1 x.2.1.2.1.2.2.2.2.1 x.2.1.2.1.2.2.2.2.2.1 x.2.1.2.1.2.2.2.2.2.2.1 x.2.1.2.1.2.2.2.2.2.2.2.1 x.2.1.2.1.2.2.2.2.2.2.2.2.1 x.2.1.2.1.2.2.2.2.2.2.2.2.2.2.1 x.2.1.2.1.2.2.2.2.2.2.2.2.2.2.2.1 x.2.1.2.1.2.2.2.2.2.2.2.2.2.2.2.2.1 x.2.2.1 x.2.2.2.1
def yux (x:(yiT).X):Option ((yiE).X ⊕ (yod).X):=zr ydK (yCl x) (yB5 x)
def yCX:Seg:=⟨yiT,yiE,yod,yux⟩
def yFA:Nat→Option Seg:=fun q=>bif Nat.beq q 13 then some yCX else yFz q
theorem yST:FrOk Tryz.prog ⟨yui,24,yFA⟩ yoT:=(ySS).loop (sg:=yCX) ydd yB5 (by decide) yRH ydK yCl (by decide) (fun _=>rfl) (fun x r _ h=>h) yUy
abbrev ykQ:List Par:= [.pt tA (.pr .fz (.pr (.pr .fz .fz) (.pr (.ow (.pr (.ow .fz) (.pr (.ow (.pr .fz .fz)) (.pr .fz (.ow .fz))))) (.pr .fz (.pr .fz (.pr .fz (.pr .fz (.pr .fz (.pr (.ow (.pr .fz .fz)) (.pr .fz (.pr .fz .fz))))))))))),.rd tN]
abbrev yu1:List OT:= []
def yqW (a0:dA) (a1:dN):Option (ResD yu1×MutD ykQ) :=
  zjw (yux ((((),()),((),()),((),()),()),((a1.1,a1.2.1,a1.2.2,()),(a0.1,a0.2.1.1,a0.2.1.2,(),a0.2.2.2.1,a0.2.2.2.2.1,a0.2.2.2.2.2.1,a0.2.2.2.2.2.2.1,a0.2.2.2.2.2.2.2.1,(),a0.2.2.2.2.2.2.2.2.2.1,a0.2.2.2.2.2.2.2.2.2.2.1,a0.2.2.2.2.2.2.2.2.2.2.2,()),()),(a0.2.2.1,a0.2.2.2.2.2.2.2.2.1,()))) (fun y6 =>
    let r8:=ydR (y6.2.1.1.1,(y6.2.1.1.2.1,y6.2.1.1.2.2.1),y6.2.2.1,y6.2.1.1.2.2.2.2.1,y6.2.1.1.2.2.2.2.2.1,y6.2.1.1.2.2.2.2.2.2.1,y6.2.1.1.2.2.2.2.2.2.2.1,y6.2.1.1.2.2.2.2.2.2.2.2.1,y6.2.2.2.1,y6.2.1.1.2.2.2.2.2.2.2.2.2.2.1,y6.2.1.1.2.2.2.2.2.2.2.2.2.2.2.1,y6.2.1.1.2.2.2.2.2.2.2.2.2.2.2.2.1)
    some ((),(r8,()))) (fun y6 =>
    none)
theorem yZu (x:InD ykQ):zjH ⟨yui,24,yFA⟩ Tryz.f229.results.toList yoT ykQ yu1 x=yqW x.1 x.2.1:=by kernel_rfl
theorem yWv:ConOk Tryz.prog 229 ⟨ykQ,yu1,fun x=>yqW x.1 x.2.1⟩:=zkh (yST) Tryz.func229 (by kernel_rfl) (by kernel_rfl) Tryz.ntmps229.symm (by decide) (fun x r h=>(yZu x).trans h)
def ylj (a0:dA) (a1:dN):dA:=yjF a0 a1
theorem yYv (a0:dA) (a1:dN) (hk:zi9 ykQ (a0,a1,())):yqW a0 a1=(fun n=>some ((),(n,()))) (ylj a0 a1):=by
  have hb:a0.2.2.1.length * 80≤2 ^ 47:=hk.1.2.2.1.1
  have h1:yux (yPH a1 a0)=some (.inl (yCt ((List.range a0.2.2.1.length).foldl (yyz a1) a0))) :=
    zks (step:=ydK) a0.2.2.1.length (fun i s=>ytp i a1 s) (yyz a1) (fun _ s=>s.2.2.1.length=a0.2.2.1.length) (fun s=> .inl (yCt s)) (fun i s hi hs=>⟨by
      simp only [ydK,ytp,ytO,hs,zjI (show (i:Int) < a0.2.2.1.length by omega),cond_true,wr (show -9223372036854775808≤(i:Int)+1 by omega) (by omega),Int.natCast_add,Int.natCast_one,Int.toNat_natCast,zkV,ym3]
      rw [yna s i (ym4 a1.1) (yUl a1) (zkO (by rw [hs]; exact hi))]
      rfl,(yvR a1 s i).trans hs⟩) (fun s hs=>by simp only [ydK,ytp,ytO,hs,zkm (Int.le_refl _),cond_false]) a0 rfl _ (by show _ < 18446744073709551616; omega)
  unfold yqW ylj yjF
  exact (congrArg (fun z=>zjw z _ _) h1).trans rfl
def yF6:Con:=⟨ykQ,yu1,fun x=>(fun n=>some ((),(n,()))) (ylj x.1 x.2.1)⟩
theorem yYM:ConOk Tryz.prog 229 yF6:=(yWv).mono (fun x r hk h=>(yYv x.1 x.2.1 hk).trans h)
end
section
def yoO:Code:=(Tryz.f289.body).getD .skip
def yud:Env:=zki TT [] []
theorem ySB:FrOk Tryz.prog ⟨yud,18,fun _=>none⟩ yoO:=zkp yc yd trivial
def yFp:Nat→Option Seg:=fun _=>none
def yc9:Shape:=⟨[(0,false,[.br tI]),(3,false,[.int .i64]),(4,false,[.int .i64])],[],[]⟩
def yiP:Shape:=⟨[(0,false,[.br tI]),(3,false,[.ci .i64 0]),(4,false,[.ci .i64 0])],[],[]⟩
def yiA:Shape:=⟨[(3,false,[.int .i64])],[],[]⟩
def yn9:Shape:=⟨[],[],[]⟩
abbrev ytl (v0:List Int) (v1:Int) (v2:Int):(yc9).X:=(((v0,()),(v1,()),(v2,()),()),(),())
abbrev yPD (v0:List Int):(yiP).X:=(((v0,()),((),()),((),()),()),(),())
abbrev yCr (v0:Int):(yiA).X:=(((v0,()),()),(),())
def ytK (v0:List Int) (v1:Int) (v2:Int):Option ((yc9).X ⊕ ((yiA).X ⊕ (yn9).X)) :=
  bif (ltb v2 (v0.length:Int)) then
    bif (inb v2 v0.length) then
      some (.inl (((v0,()),((IntKind.i64.wrap ((BitVec.ofInt IntKind.i64.bits v1 ^^^ BitVec.ofInt IntKind.i64.bits (nth v0 v2 0)).toNat:Int)),()),((IntKind.i64.wrap (v2+1)),()),()),(),()))
    else none
  else
    some (.inr (.inl (((v1,()),()),(),())))
def ydG (x:(yc9).X):=ytK x.1.1.1 x.1.2.1.1 x.1.2.2.1.1
def yB0 (x:(yiP).X):(yc9).X:=(((x.1.1.1,()),(0,()),(0,()),()),(),())
def yD1:Code:=(zdI yoO 64 116).getD .skip
theorem yRC:zdI yoO 64 29=some (.block 0 (.loop yD1)):=by kernel_rfl
theorem yUt (x:(yc9).X):zg7 ⟨yud,18,yFp⟩ 0 yD1 116 yc9 yiA yn9 x=ydG x:=by kernel_rfl
def yCg (x:(yiP).X):Nat:=(fun (u0:List Int)=>18446744073709551616) x.1.1.1
def yus (x:(yiP).X):Option ((yiA).X ⊕ (yn9).X):=zr ydG (yCg x) (yB0 x)
def yCS:Seg:=⟨yiP,yiA,yn9,yus⟩
def yFq:Nat→Option Seg:=fun q=>bif Nat.beq q 29 then some yCS else yFp q
theorem ySC:FrOk Tryz.prog ⟨yud,18,yFq⟩ yoO:=(ySB).loop (sg:=yCS) yc9 yB0 (by decide) yRC ydG yCg (by decide) (fun _=>rfl) (fun x r _ h=>h) yUt
abbrev ykL:List Par:= [.rd tL]
abbrev yuQ:List OT:= [⟨false,tI,.fz⟩]
def yqT (a0:List Int):Option (ResD yuQ×MutD ykL) :=
  zjw (yus (((a0,()),((),()),((),()),()),(),())) (fun y0 =>
    some ((y0.1.1.1,()),())) (fun y0 =>
    none)
theorem yZi (x:InD ykL):zjH ⟨yud,18,yFq⟩ Tryz.f289.results.toList yoO ykL yuQ x=yqT x.1:=by kernel_rfl
theorem yWj:ConOk Tryz.prog 289 ⟨ykL,yuQ,fun x=>yqT x.1⟩:=zkh (ySC) Tryz.func289 (by kernel_rfl) (by kernel_rfl) Tryz.ntmps289.symm (by decide) (fun x r h=>(yZi x).trans h)
def ylh (a0:List Int):Int:=yoK a0
theorem yYr (a0:List Int) (hk:zi9 ykL (a0,())):yqT a0=(fun n=>some ((n,()),())) (ylh a0):=by
  have hb:a0.length * 8≤2 ^ 47:=hk.1.1
  have h1:yus (yPD a0)=some (.inl (yCr (yoK a0))) :=
    zkk (step:=ydG) a0 0 (fun i s=>ytl a0 s i) xw (fun _ _=>True) (fun s=> .inl (yCr s)) (fun i s hi _=>⟨by
      simp only [ydG,ytl,ytK,zjI (show (i:Int) < a0.length by omega),cond_true,wr (show -9223372036854775808≤(i:Int)+1 by omega) (by omega),Int.natCast_add,Int.natCast_one,Int.toNat_natCast,zkO hi,zjW]; rfl,trivial⟩) (fun s _=>by simp only [ydG,ytl,ytK,zkm (Int.le_refl _),cond_false]) 0 trivial _ (by show _ < 18446744073709551616; omega)
  unfold yqT ylh
  rw [h1]; rfl
def yF0:Con:=⟨ykL,yuQ,fun x=>(fun n=>some ((n,()),())) (ylh x.1)⟩
theorem yYG:ConOk Tryz.prog 289 yF0:=(yWj).mono (fun x r hk h=>(yYr x.1 hk).trans h)
end
section
def yy7:Code:=(Tryz.f273.body).getD .skip
def yzt:Env:=zki TT [(289,yF0)] []
theorem yGL:FrOk Tryz.prog ⟨yzt,5,fun _=>none⟩ yy7:=zkp yc yd ⟨yYG,trivial⟩
def yIj:Nat→Option Seg:=fun _=>none
abbrev yfJ:List Par:= [.rd tL]
abbrev yjN:List OT:= [⟨false,tI,.fz⟩]
def ynv (a0:List Int):Option (ResD yjN×MutD yfJ) :=
  let r1:=ylh a0
  some ((r1,()),())
theorem yLZ (x:InD yfJ):zjH ⟨yzt,5,yIj⟩ Tryz.f273.results.toList yy7 yfJ yjN x=ynv x.1:=by kernel_rfl
theorem yIT:ConOk Tryz.prog 273 ⟨yfJ,yjN,fun x=>ynv x.1⟩:=zkh (yGL) Tryz.func273 (by kernel_rfl) (by kernel_rfl) Tryz.ntmps273.symm (by decide) (fun x r h=>(yLZ x).trans h)
def yj1 (a0:List Int):Int :=
  let r1:=ylh a0
  r1
def yv7:Con:=⟨yfJ,yjN,fun x=>(fun n=>some ((n,()),())) (yj1 x.1)⟩
theorem yK0 (a0:List Int):ynv a0=(fun n=>some ((n,()),())) (yj1 a0):=zkS (p:=fun (n:Int)=>((n,()),())) rfl
theorem yLc:ConOk Tryz.prog 273 yv7:=(yIT).mono (fun x r _ h=>(yK0 x.1).trans h)
end
section
def ymp:Code:=(Tryz.f230.body).getD .skip
def yr6:Env:=zki TT [(48,yva),(141,ydi),(207,yk8),(272,yrh),(273,yv7)] []
theorem yPf:FrOk Tryz.prog ⟨yr6,61,fun _=>none⟩ ymp:=zkp yc yd ⟨yGs,ygG,ysO,yCB,yLc,trivial⟩
def yDA:Nat→Option Seg:=fun _=>none
def ydc:Shape:=⟨[(0,false,[.ptr 1000000000 0]),(1,false,[.int .i64]),(2,false,[.br tI]),(6,false,[.int .i64]),(7,false,[.int .i64])],[(1000000000,[.int .i64,.int .i64,.int .i64,.at 800000000,.int .i64,.int .i64,.int .i64,.int .i64,.int .i64,.at 800000001,.int .i64,.bool,.bool])],[(800000000,tM,(.pr (.ow .fz) (.pr (.ow (.pr .fz .fz)) (.pr .fz (.ow .fz))))),(800000001,tW,(.pr .fz .fz))]⟩
def yiS:Shape:=⟨[(0,false,[.ptr 1000000000 0]),(1,false,[.int .i64]),(2,false,[.br tI]),(6,false,[.int .i64]),(7,false,[.ci .i64 0])],[(1000000000,[.int .i64,.int .i64,.int .i64,.at 800000000,.int .i64,.int .i64,.int .i64,.int .i64,.int .i64,.at 800000001,.int .i64,.bool,.bool])],[(800000000,tM,(.pr (.ow .fz) (.pr (.ow (.pr .fz .fz)) (.pr .fz (.ow .fz))))),(800000001,tW,(.pr .fz .fz))]⟩
def yiD:Shape:=⟨[],[(1000000000,[.int .i64,.int .i64,.int .i64,.at 800000000,.int .i64,.int .i64,.int .i64,.int .i64,.int .i64,.at 800000001,.int .i64,.bool,.bool])],[(800000000,tM,(.pr (.ow .fz) (.pr (.ow (.pr .fz .fz)) (.pr .fz (.ow .fz))))),(800000001,tW,(.pr .fz .fz))]⟩
def yoc:Shape:=⟨[],[],[]⟩
abbrev yto (v0:Int) (v1:List Int) (v2:Int) (v3:Int) (v4:dA):(ydc).X:=((((),()),(v0,()),(v1,()),(v2,()),(v3,()),()),((v4.1,v4.2.1.1,v4.2.1.2,(),v4.2.2.2.1,v4.2.2.2.2.1,v4.2.2.2.2.2.1,v4.2.2.2.2.2.2.1,v4.2.2.2.2.2.2.2.1,(),v4.2.2.2.2.2.2.2.2.2.1,v4.2.2.2.2.2.2.2.2.2.2.1,v4.2.2.2.2.2.2.2.2.2.2.2,()),()),(v4.2.2.1,v4.2.2.2.2.2.2.2.2.1,()))
abbrev yPG (v0:Int) (v1:List Int) (v2:Int) (v3:dA):(yiS).X:=((((),()),(v0,()),(v1,()),(v2,()),((),()),()),((v3.1,v3.2.1.1,v3.2.1.2,(),v3.2.2.2.1,v3.2.2.2.2.1,v3.2.2.2.2.2.1,v3.2.2.2.2.2.2.1,v3.2.2.2.2.2.2.2.1,(),v3.2.2.2.2.2.2.2.2.2.1,v3.2.2.2.2.2.2.2.2.2.2.1,v3.2.2.2.2.2.2.2.2.2.2.2,()),()),(v3.2.2.1,v3.2.2.2.2.2.2.2.2.1,()))
abbrev yCs (v0:dA):(yiD).X:=((),((v0.1,v0.2.1.1,v0.2.1.2,(),v0.2.2.2.1,v0.2.2.2.2.1,v0.2.2.2.2.2.1,v0.2.2.2.2.2.2.1,v0.2.2.2.2.2.2.2.1,(),v0.2.2.2.2.2.2.2.2.2.1,v0.2.2.2.2.2.2.2.2.2.2.1,v0.2.2.2.2.2.2.2.2.2.2.2,()),()),(v0.2.2.1,v0.2.2.2.2.2.2.2.2.1,()))
def ytN (v0:Int) (v1:List Int) (v2:Int) (v3:Int) (v4:Int) (v5:Int) (v6:Int) (v7:Int) (v8:Int) (v9:Int) (v10:Int) (v11:Int) (v12:Int) (v13:Bool) (v14:Bool) (v15:List dM) (v16:List dW):Option ((ydc).X ⊕ ((yiD).X ⊕ (yoc).X)) :=
  bif (ltb v3 (v15.length:Int)) then
    let r9:=yj1 v1
    bif (v3 !=v2) then
      bif (v5 !=0) then
        bif (inb ((IntKind.i64.wrap ((IntKind.i64.wrap ((IntKind.i64.wrap (v3 - v2)) - 1))+v5)).tmod v5) v1.length) then
          let r10:=ydQ (v4,(v5,v6),v15,v7,v8,v9,v10,v11,v16,v12,v13,v14) v3 v0
          bif r10 then
            let r11:=yaC v0
            bnd (ye5 (v4,(v5,v6),v15,v7,v8,v9,v10,v11,v16,v12,v13,v14) v3 r11 ([(nth v1 ((IntKind.i64.wrap ((IntKind.i64.wrap ((IntKind.i64.wrap (v3 - v2)) - 1))+v5)).tmod v5) 0)]:List Int)) fun r12 =>
            some (.inl ((((),()),(v0,()),(v1,()),(v2,()),((IntKind.i64.wrap (v3+1)),()),()),((r12.2.1.1,r12.2.1.2.1.1,r12.2.1.2.1.2,(),r12.2.1.2.2.2.1,r12.2.1.2.2.2.2.1,r12.2.1.2.2.2.2.2.1,r12.2.1.2.2.2.2.2.2.1,r12.2.1.2.2.2.2.2.2.2.1,(),r12.2.1.2.2.2.2.2.2.2.2.2.1,r12.2.1.2.2.2.2.2.2.2.2.2.2.1,r12.2.1.2.2.2.2.2.2.2.2.2.2.2,()),()),(r12.2.1.2.2.1,r12.2.1.2.2.2.2.2.2.2.2.1,())))
          else
            some (.inl ((((),()),(v0,()),(v1,()),(v2,()),((IntKind.i64.wrap (v3+1)),()),()),((v4,v5,v6,(),v7,v8,v9,v10,v11,(),v12,v13,v14,()),()),(v15,v16,())))
        else none
      else none
    else
      let r13:=ydQ (v4,(v5,v6),v15,v7,v8,v9,v10,v11,v16,v12,v13,v14) v3 v0
      bif r13 then
        let r14:=yaC v0
        bnd (ye5 (v4,(v5,v6),v15,v7,v8,v9,v10,v11,v16,v12,v13,v14) v3 r14 ([r9]:List Int)) fun r15 =>
        some (.inl ((((),()),(v0,()),(v1,()),(v2,()),((IntKind.i64.wrap (v3+1)),()),()),((r15.2.1.1,r15.2.1.2.1.1,r15.2.1.2.1.2,(),r15.2.1.2.2.2.1,r15.2.1.2.2.2.2.1,r15.2.1.2.2.2.2.2.1,r15.2.1.2.2.2.2.2.2.1,r15.2.1.2.2.2.2.2.2.2.1,(),r15.2.1.2.2.2.2.2.2.2.2.2.1,r15.2.1.2.2.2.2.2.2.2.2.2.2.1,r15.2.1.2.2.2.2.2.2.2.2.2.2.2,()),()),(r15.2.1.2.2.1,r15.2.1.2.2.2.2.2.2.2.2.1,())))
      else
        some (.inl ((((),()),(v0,()),(v1,()),(v2,()),((IntKind.i64.wrap (v3+1)),()),()),((v4,v5,v6,(),v7,v8,v9,v10,v11,(),v12,v13,v14,()),()),(v15,v16,())))
  else
    some (.inr (.inl ((),((v4,v5,v6,(),v7,v8,v9,v10,v11,(),v12,v13,v14,()),()),(v15,v16,()))))
def ydJ (x:(ydc).X):=ytN x.1.2.1.1 x.1.2.2.1.1 x.1.2.2.2.1.1 x.1.2.2.2.2.1.1 x.2.1.1.1 x.2.1.1.2.1 x.2.1.1.2.2.1 x.2.1.1.2.2.2.2.1 x.2.1.1.2.2.2.2.2.1 x.2.1.1.2.2.2.2.2.2.1 x.2.1.1.2.2.2.2.2.2.2.1 x.2.1.1.2.2.2.2.2.2.2.2.1 x.2.1.1.2.2.2.2.2.2.2.2.2.2.1 x.2.1.1.2.2.2.2.2.2.2.2.2.2.2.1 x.2.1.1.2.2.2.2.2.2.2.2.2.2.2.2.1 x.2.2.1 x.2.2.2.1
def yB4 (x:(yiS).X):(ydc).X:=((((),()),(x.1.2.1.1,()),(x.1.2.2.1.1,()),(x.1.2.2.2.1.1,()),(0,()),()),((x.2.1.1.1,x.2.1.1.2.1,x.2.1.1.2.2.1,(),x.2.1.1.2.2.2.2.1,x.2.1.1.2.2.2.2.2.1,x.2.1.1.2.2.2.2.2.2.1,x.2.1.1.2.2.2.2.2.2.2.1,x.2.1.1.2.2.2.2.2.2.2.2.1,(),x.2.1.1.2.2.2.2.2.2.2.2.2.2.1,x.2.1.1.2.2.2.2.2.2.2.2.2.2.2.1,x.2.1.1.2.2.2.2.2.2.2.2.2.2.2.2.1,()),()),(x.2.2.1,x.2.2.2.1,()))
def yD5:Code:=(zdI ymp 64 28).getD .skip
theorem yRG:zdI ymp 64 7=some (.block 0 (.loop yD5)):=by kernel_rfl
theorem yUx (x:(ydc).X):zg7 ⟨yr6,61,yDA⟩ 0 yD5 28 ydc yiD yoc x=ydJ x:=by kernel_rfl
def yCk (x:(yiS).X):Nat:=(fun (u0:Int) (u1:List Int) (u2:Int) (u3:Int) (u4:Int) (u5:Int) (u6:Int) (u7:Int) (u8:Int) (u9:Int) (u10:Int) (u11:Int) (u12:Bool) (u13:Bool) (u14:List dM) (u15:List dW)=>18446744073709551616) x.1.2.1.1 x.1.2.2.1.1 x.1.2.2.2.1.1 x.2.1.1.1 x.2.1.1.2.1 x.2.1.1.2.2.1 x.2.1.1.2.2.2.2.1 x.2.1.1.2.2.2.2.2.1 x.2.1.1.2.2.2.2.2.2.1 x.2.1.1.2.2.2.2.2.2.2.1 x.2.1.1.2.2.2.2.2.2.2.2.1 x.2.1.1.2.2.2.2.2.2.2.2.2.2.1 x.2.1.1.2.2.2.2.2.2.2.2.2.2.2.1 x.2.1.1.2.2.2.2.2.2.2.2.2.2.2.2.1 x.2.2.1 x.2.2.2.1
def yuw (x:(yiS).X):Option ((yiD).X ⊕ (yoc).X):=zr ydJ (yCk x) (yB4 x)
def yCW:Seg:=⟨yiS,yiD,yoc,yuw⟩
def yDB:Nat→Option Seg:=fun q=>bif Nat.beq q 7 then some yCW else yDA q
theorem yPg:FrOk Tryz.prog ⟨yr6,61,yDB⟩ ymp:=(yPf).loop (sg:=yCW) ydc yB4 (by decide) yRG ydJ yCk (by decide) (fun _=>rfl) (fun x r _ h=>h) yUx
abbrev yfA:List Par:= [.pt tA (.pr .fz (.pr (.pr .fz .fz) (.pr (.ow (.pr (.ow .fz) (.pr (.ow (.pr .fz .fz)) (.pr .fz (.ow .fz))))) (.pr .fz (.pr .fz (.pr .fz (.pr .fz (.pr .fz (.pr (.ow (.pr .fz .fz)) (.pr .fz (.pr .fz .fz))))))))))),.rd tI,.rd tL]
abbrev ymQ:List OT:= []
def yoH (a0:dA) (a1:Int) (a2:List Int):Option (ResD ymQ×MutD yfA) :=
  let r1:=ydm a0.2.1 a1
  zjw (yuw ((((),()),(a1,()),(a2,()),(r1,()),((),()),()),((a0.1,a0.2.1.1,a0.2.1.2,(),a0.2.2.2.1,a0.2.2.2.2.1,a0.2.2.2.2.2.1,a0.2.2.2.2.2.2.1,a0.2.2.2.2.2.2.2.1,(),a0.2.2.2.2.2.2.2.2.2.1,a0.2.2.2.2.2.2.2.2.2.2.1,a0.2.2.2.2.2.2.2.2.2.2.2,()),()),(a0.2.2.1,a0.2.2.2.2.2.2.2.2.1,()))) (fun y15 =>
    some ((),((y15.2.1.1.1,(y15.2.1.1.2.1,y15.2.1.1.2.2.1),y15.2.2.1,y15.2.1.1.2.2.2.2.1,y15.2.1.1.2.2.2.2.2.1,y15.2.1.1.2.2.2.2.2.2.1,y15.2.1.1.2.2.2.2.2.2.2.1,y15.2.1.1.2.2.2.2.2.2.2.2.1,y15.2.2.2.1,y15.2.1.1.2.2.2.2.2.2.2.2.2.2.1,y15.2.1.1.2.2.2.2.2.2.2.2.2.2.2.1,y15.2.1.1.2.2.2.2.2.2.2.2.2.2.2.2.1),()))) (fun y15 =>
    none)
theorem yX4 (x:InD yfA):zjH ⟨yr6,61,yDB⟩ Tryz.f230.results.toList ymp yfA ymQ x=yoH x.1 x.2.1 x.2.2.1:=by kernel_rfl
theorem yT3:ConOk Tryz.prog 230 ⟨yfA,ymQ,fun x=>yoH x.1 x.2.1 x.2.2.1⟩:=zkh (yPg) Tryz.func230 (by kernel_rfl) (by kernel_rfl) Tryz.ntmps230.symm (by decide) (fun x r h=>(yX4 x).trans h)
def ysH (a0:dA) (a1:Int) (a2:List Int):dA:=ydv a0 a1 a2
def ynb (a0:dA) (a1:Int) (a2:List Int):Bool:=ycW a0.2.1 a1&&((a2.length:Int)==a0.2.1.1 - 1&&(a0.2.2.1.length:Int)==a0.2.1.1)
theorem yV0 (a0:dA) (a1:Int) (a2:List Int) (hk:zi9 yfA (a0,a1,a2,())) (hq:ynb a0 a1 a2=true):yoH a0 a1 a2=(fun n=>some ((),(n,()))) (ysH a0 a1 a2):=by
  simp only [ynb,Bool.and_eq_true,beq_iff_eq]at hq
  have hg:=yk.1 (ye8.1 hq.1).1
  have hp:=yEK hq.1
  have h1:yuw (yPG a1 a2 (yu a0.2.1 a1) a0)=some (.inl (yCs (ydv a0 a1 a2))) :=
    zks (step:=ydJ) a0.2.2.1.length (fun i s=>yto a1 a2 (yu a0.2.1 a1) i s) (yfq (yu a0.2.1 a1) a0.2.1.1 a1 a2) (fun _ s=>s.2.2.1.length=a0.2.2.1.length∧s.2.1=a0.2.1) (fun s=> .inl (yCs s)) (fun i s hi hs=>⟨by
      have hN:s.2.1.1=a0.2.1.1:=by rw [hs.2]
      simp only [ydJ,yto,ytN,hs.1,zjI (show (i:Int) < a0.2.2.1.length by omega),cond_true,wr (show -9223372036854775808≤(i:Int)+1 by omega) (by omega),Int.natCast_add,Int.natCast_one,Int.toNat_natCast,zkV,ylh,yj1,ydQ,yet,yfq,yLu]
      rw [← hN]
      by_cases he:(i:Int)=yu a0.2.1 a1
      · rw [show ((i:Int) !=yu a0.2.1 a1)=false by simp [he],show ((i:Int)==yu a0.2.1 a1)=true from beq_iff_eq.2 he]
        rw [yna s i (ycA a1) [yoK a2] (zkO (by rw [hs.1]; exact hi))]
        cases ydk s i a1<;>rfl
      · have hd:=y2S (N:=s.2.1.1) (i:=i) (p:=yu a0.2.1 a1) ⟨by omega,by omega⟩ ⟨by omega,by omega⟩ ⟨hp.1,by omega⟩ he
        rw [show ((i:Int) !=yu a0.2.1 a1)=true from bne_iff_ne.2 he,show ((i:Int)==yu a0.2.1 a1)=false from beq_eq_false_iff_ne.2 he,show (s.2.1.1 !=0)=true from bne_iff_ne.2 (by omega),
          wr (show -9223372036854775808≤(i:Int) - yu a0.2.1 a1 by omega) (by omega),wr (show -9223372036854775808≤(i:Int) - yu a0.2.1 a1 - 1 by omega) (by omega),wr (show -9223372036854775808≤(i:Int) - yu a0.2.1 a1 - 1+s.2.1.1 by omega) (by omega),zjP.2 (show 0≤((i:Int) - yu a0.2.1 a1 - 1+s.2.1.1).tmod s.2.1.1∧((i:Int) - yu a0.2.1 a1 - 1+s.2.1.1).tmod s.2.1.1 < a2.length by omega)]
        rw [yna s i (ycA a1) [nth a2 (((i:Int) - yu a0.2.1 a1 - 1+s.2.1.1).tmod s.2.1.1) 0] (zkO (by rw [hs.1]; exact hi))]
        cases ydk s i a1<;>rfl,(yrQ _ _ _ _ s i).trans hs.1,(yen (yJY _ _ _ _ s i)).trans hs.2⟩) (fun s hs=>by simp only [ydJ,yto,ytN,hs.1,zkm (Int.le_refl _),cond_false]) a0 ⟨rfl,rfl⟩ _ (by show _ < 18446744073709551616; omega)
  unfold yoH ysH ydm
  exact (congrArg (fun z=>zjw z _ _) h1).trans rfl
def yh9 (a0:dA) (a1:Int) (a2:List Int):Option (ResD ymQ×MutD yfA):=bif ynb a0 a1 a2 then (fun n=>some ((),(n,()))) (ysH a0 a1 a2) else none
theorem yWX (a0:dA) (a1:Int) (a2:List Int) (h:ynb a0 a1 a2=true):yh9 a0 a1 a2=(fun n=>some ((),(n,()))) (ysH a0 a1 a2):=by unfold yh9; rw [h]; rfl
def yEr:Con:=⟨yfA,ymQ,fun x=>yh9 x.1 x.2.1 x.2.2.1⟩
theorem yWS:ConOk Tryz.prog 230 yEr:=(yT3).mono (fun x r hk h=>zkW h (fun hq=>yV0 x.1 x.2.1 x.2.2.1 hk hq))
end
section
def yFc:Code:=(Tryz.f147.body).getD .skip
def yFQ:Env:=zki TT [(208,ylS),(229,yF6),(230,yEr)] []
theorem yMz:FrOk Tryz.prog ⟨yFQ,54,fun _=>none⟩ yFc:=zkp yc yd ⟨yvA,yYM,yWS,trivial⟩
def yN2:Nat→Option Seg:=fun _=>none
abbrev yej:List Par:= [.pt tA (.pr .fz (.pr (.pr .fz .fz) (.pr (.ow (.pr (.ow .fz) (.pr (.ow (.pr .fz .fz)) (.pr .fz (.ow .fz))))) (.pr .fz (.pr .fz (.pr .fz (.pr .fz (.pr .fz (.pr (.ow (.pr .fz .fz)) (.pr .fz (.pr .fz .fz))))))))))),.rd tI,.rd tL]
abbrev yk1:List OT:= [⟨false,tI,.fz⟩]
def yme (a0:dA) (a1:Int) (a2:List Int):Option (ResD yk1×MutD yej) :=
  bif (leb 4 (IntKind.i64.wrap (a0.2.2.2.2.2.1 - a0.2.2.2.2.2.2.1))) then
    let r1:=ycC a0
    bif r1.2.2.2.2.2.2.2.2.2.2.1 then
      some ((6,()),(r1,()))
    else
      bif (zj4 ([]:List Int).length a2.length 8) then
        let r2:=ylj r1 (r1.2.2.2.2.2.1,a1,(([]:List Int)++a2))
        bif r2.2.2.2.2.2.2.2.2.2.2.1 then
          some ((6,()),(r2,()))
        else
          bnd (yh9 (r2.1,r2.2.1,r2.2.2.1,r2.2.2.2.1,r2.2.2.2.2.1,(IntKind.i64.wrap (r2.2.2.2.2.2.1+1)),r2.2.2.2.2.2.2) a1 a2) fun r3 =>
          bif r3.2.1.2.2.2.2.2.2.2.2.2.2.1 then
            some ((6,()),(r3.2.1,()))
          else
            some ((0,()),(r3.2.1,()))
      else none
  else
    bif a0.2.2.2.2.2.2.2.2.2.2.1 then
      some ((6,()),(a0,()))
    else
      bif (zj4 ([]:List Int).length a2.length 8) then
        let r4:=ylj a0 (a0.2.2.2.2.2.1,a1,(([]:List Int)++a2))
        bif r4.2.2.2.2.2.2.2.2.2.2.1 then
          some ((6,()),(r4,()))
        else
          bnd (yh9 (r4.1,r4.2.1,r4.2.2.1,r4.2.2.2.1,r4.2.2.2.2.1,(IntKind.i64.wrap (r4.2.2.2.2.2.1+1)),r4.2.2.2.2.2.2) a1 a2) fun r5 =>
          bif r5.2.1.2.2.2.2.2.2.2.2.2.2.1 then
            some ((6,()),(r5.2.1,()))
          else
            some ((0,()),(r5.2.1,()))
      else none
theorem yVp (x:InD yej):zjH ⟨yFQ,54,yN2⟩ Tryz.f147.results.toList yFc yej yk1 x=yme x.1 x.2.1 x.2.2.1:=by kernel_rfl
theorem yQz:ConOk Tryz.prog 147 ⟨yej,yk1,fun x=>yme x.1 x.2.1 x.2.2.1⟩:=zkh (yMz) Tryz.func147 (by kernel_rfl) (by kernel_rfl) Tryz.ntmps147.symm (by decide) (fun x r h=>(yVp x).trans h)
def ylk (a0:dA) (a1:Int) (a2:List Int):Int×dA:=ygd a0 a1 a2
def ylo (a0:dA) (a1:Int) (a2:List Int):Bool:=ycW a0.2.1 a1&&((a2.length:Int)==a0.2.1.1 - 1&&(a0.2.2.1.length:Int)==a0.2.1.1)
theorem yTt (a0:dA) (a1:Int) (a2:List Int) (hk:zi9 yej (a0,a1,a2,())) (hq:ylo a0 a1 a2=true):yme a0 a1 a2=(fun n=>some ((n.1,()),(n.2,()))) (ylk a0 a1 a2):=by
  have hq':=hq
  simp only [ylo,Bool.and_eq_true,beq_iff_eq]at hq
  have hg:=yk.1 (ye8.1 hq.1).1
  have hap:zj4 ([]:List Int).length a2.length 8=true:=zkw.2 (by simp only [List.length_nil]; omega)
  have key: ∀ b:dA,b.2.1=a0.2.1→b.2.2.1.length=a0.2.2.1.length→yh9 (yhP (yjF b (b.2.2.2.2.2.1,a1,a2))) a1 a2=some ((),(ydv (yhP (yjF b (b.2.2.2.2.2.1,a1,a2))) a1 a2,())):=fun b h1 h2=>yWX _ _ _ (by
    unfold ynb
    rw [show (yhP (yjF b (b.2.2.2.2.2.1,a1,a2))).2.1=a0.2.1 from (yen (yxk _ _)).trans h1,show (yhP (yjF b (b.2.2.2.2.2.1,a1,a2))).2.2.1.length=a0.2.2.1.length from (y1Z _ _).trans h2]
    exact hq')
  unfold yme ylk ygd yav
  simp only [yy4,ylj,List.nil_append,hap,cond_true]
  cases leb 4 (IntKind.i64.wrap (a0.2.2.2.2.2.1 - a0.2.2.2.2.2.2.1))
  · have hd:=key a0 rfl rfl
    simp only [cond_false]
    generalize yjF a0 (a0.2.2.2.2.2.1,a1,a2)=R at hd ⊢
    generalize ydv (yhP R) a1 a2=Q at hd ⊢
    unfold yhP at hd
    simp only [cond_false,hd,zky]
    unfold yg
    cases a0.2.2.2.2.2.2.2.2.2.2.1
    · cases R.2.2.2.2.2.2.2.2.2.2.1
      · cases Q.2.2.2.2.2.2.2.2.2.2.1<;>rfl
      · rfl
    · rfl
  · have hd:=key (yl a0) (yW5 a0) (yxQ a0)
    simp only [cond_true]
    generalize yl a0=C at hd ⊢
    generalize yjF C (C.2.2.2.2.2.1,a1,a2)=R at hd ⊢
    generalize ydv (yhP R) a1 a2=Q at hd ⊢
    unfold yhP at hd
    simp only [cond_true,hd,zky]
    unfold yg
    cases C.2.2.2.2.2.2.2.2.2.2.1
    · cases R.2.2.2.2.2.2.2.2.2.2.1
      · cases Q.2.2.2.2.2.2.2.2.2.2.1<;>rfl
      · rfl
    · rfl
def yqF (a0:dA) (a1:Int) (a2:List Int):Option (ResD yk1×MutD yej):=bif ylo a0 a1 a2 then (fun n=>some ((n.1,()),(n.2,()))) (ylk a0 a1 a2) else none
theorem yUk (a0:dA) (a1:Int) (a2:List Int) (h:ylo a0 a1 a2=true):yqF a0 a1 a2=(fun n=>some ((n.1,()),(n.2,()))) (ylk a0 a1 a2):=by unfold yqF; rw [h]; rfl
def yBQ:Con:=⟨yej,yk1,fun x=>yqF x.1 x.2.1 x.2.2.1⟩
theorem yUh:ConOk Tryz.prog 147 yBQ:=(yQz).mono (fun x r hk h=>zkW h (fun hq=>yTt x.1 x.2.1 x.2.2.1 hk hq))
end
end
end Go.Tf
