/- Functions of the program, and what they come to. -/
import Derived.Test.YtgmadfpnljibhaaGreatExactFlushAllF15
namespace Go.Tf
noncomputable section
open Go.Proofs
set_option synthInstance.maxHeartbeats 400000
set_option synthInstance.maxSize 10000
set_option linter.unusedVariables false
set_option linter.unusedSimpArgs false
set_option maxRecDepth 100000
section
def ypE:Code:=(Tryz.f289.body).getD .skip
def yva:Env:=zki TT [] []
theorem yUW:FrOk Tryz.prog ⟨yva,18,fun _=>none⟩ ypE:=zkp yb yc trivial
def yHq:Nat→Option Seg:=fun _=>none
def ycX:Shape:=⟨[(0,false,[.br tI]),(3,false,[.int .i64]),(4,false,[.int .i64])],[],[]⟩
def yiL:Shape:=⟨[(0,false,[.br tI]),(3,false,[.ci .i64 0]),(4,false,[.ci .i64 0])],[],[]⟩
def yis:Shape:=⟨[(3,false,[.int .i64])],[],[]⟩
def yoX:Shape:=⟨[],[],[]⟩
abbrev yui (v0:List Int) (v1 v2:Int):(ycX).X:=(((v0,()),(v1,()),(v2,()),()),(),())
abbrev yRC (v0:List Int):(yiL).X:=(((v0,()),((),()),((),()),()),(),())
abbrev yEq (v0:Int):(yis).X:=(((v0,()),()),(),())
def yuI (v0:List Int) (v1 v2:Int):Option ((ycX).X ⊕ ((yis).X ⊕ (yoX).X)) :=
 bif (ltb v2 (v0.length:Int)) then
 bif (inb v2 v0.length) then
 some (.inl (((v0,()),((IntKind.i64.wrap ((BitVec.ofInt IntKind.i64.bits v1 ^^^ BitVec.ofInt IntKind.i64.bits (nth v0 v2 0)).toNat:Int)),()),((IntKind.i64.wrap (v2+1)),()),()),(),()))
 else none
 else
 some (.inr (.inl (((v1,()),()),(),())))
def ydC (x:(ycX).X):=yuI x.1.1.1 x.1.2.1.1 x.1.2.2.1.1
def yDY (x:(yiL).X):(ycX).X:=(((x.1.1.1,()),(0,()),(0,()),()),(),())
def yF7:Code:=(zdI ypE 64 116).getD .skip
theorem yTK:zdI ypE 64 29=some (.block 0 (.loop yF7)):=by kernel_rfl
theorem yWS (x:(ycX).X):zg7 ⟨yva,18,yHq⟩ 0 yF7 116 ycX yis yoX x=ydC x:=by kernel_rfl
def yEf (x:(yiL).X):Nat:=18446744073709551616
def yvp (x:(yiL).X):Option ((yis).X ⊕ (yoX).X):=zr ydC (yEf x) (yDY x)
def yEQ:Seg:=⟨yiL,yis,yoX,yvp⟩
def yHr:Nat→Option Seg:=fun q=>bif Nat.beq q 29 then some yEQ else yHq q
theorem yUX:FrOk Tryz.prog ⟨yva,18,yHr⟩ ypE:=(yUW).loop (sg:=yEQ) ycX yDY (by decide) yTK ydC yEf (by decide) (fun _=>rfl) (fun x r _ h=>h) yWS
abbrev yk1:List Par:= [.rd tL]
abbrev yvV:List OT:= [⟨false,tI,.fz⟩]
def yrJ (a0:List Int):Option (ResD yvV×MutD yk1) :=
 zjw (yvp (((a0,()),((),()),((),()),()),(),())) (fun y0 =>
 some ((y0.1.1.1,()),())) (fun y0 =>
 none)
theorem y2w (x:InD yk1):zjH ⟨yva,18,yHr⟩ Tryz.f289.results.toList ypE yk1 yvV x=yrJ x.1:=by kernel_rfl
theorem yZa:ConOk Tryz.prog 289 ⟨yk1,yvV,fun x=>yrJ x.1⟩:=zkh (yUX) Tryz.func289 (by kernel_rfl) (by kernel_rfl) Tryz.ntmps289.symm (by decide) (fun x r h=>(y2w x).trans h)
def ylv (a0:List Int):Int:=yfm a0
theorem y1h (a0:List Int) (hk:zi9 yk1 (a0,())):yrJ a0=(fun n=>some ((n,()),())) (ylv a0):=by
 have hb:a0.length * 8≤2 ^ 47:=hk.1.1
 have h1:yvp (yRC a0)=some (.inl (yEq (yfm a0))) :=
  zkk (step:=ydC) a0 0 (fun i s=>yui a0 s i) xw (fun _ _=>True) (fun s=> .inl (yEq s)) (fun i s hi _=>⟨by
   simp only [ydC,yui,yuI,zjI (show (i:Int) < a0.length by omega),cond_true,wr (show -9223372036854775808≤(i:Int)+1 by omega) (by omega),Int.natCast_add,Int.natCast_one,Int.toNat_natCast,zkO hi,zjW]; rfl,trivial⟩) (fun s _=>by simp only [ydC,yui,yuI,zkm (Int.le_refl _),cond_false]) 0 trivial _ (by show _ < 18446744073709551616; omega)
 unfold yrJ ylv
 rw [h1]; rfl
def yH4:Con:=⟨yk1,yvV,fun x=>(fun n=>some ((n,()),())) (ylv x.1)⟩
theorem y1L:ConOk Tryz.prog 289 yH4:=(yZa).mono (fun x r hk h=>(y1h x.1 hk).trans h)
end
section
def yAH:Code:=(Tryz.f273.body).getD .skip
def yA9:Env:=zki TT [(289,yH4)] []
theorem yIO:FrOk Tryz.prog ⟨yA9,5,fun _=>none⟩ yAH:=zkp yb yc ⟨y1L,trivial⟩
def yJ8:Nat→Option Seg:=fun _=>none
abbrev yfF:List Par:= [.rd tL]
abbrev yjW:List OT:= [⟨false,tI,.fz⟩]
def yn0 (a0:List Int):Option (ResD yjW×MutD yfF) :=
 let r1:=ylv a0
 some ((r1,()),())
theorem yNY (x:InD yfF):zjH ⟨yA9,5,yJ8⟩ Tryz.f273.results.toList yAH yfF yjW x=yn0 x.1:=by kernel_rfl
theorem yKE:ConOk Tryz.prog 273 ⟨yfF,yjW,fun x=>yn0 x.1⟩:=zkh (yIO) Tryz.func273 (by kernel_rfl) (by kernel_rfl) Tryz.ntmps273.symm (by decide) (fun x r h=>(yNY x).trans h)
def ykb (a0:List Int):Int :=
 let r1:=ylv a0
 r1
def yxc:Con:=⟨yfF,yjW,fun x=>(fun n=>some ((n,()),())) (ykb x.1)⟩
theorem yMU (a0:List Int):yn0 a0=(fun n=>some ((n,()),())) (ykb a0):=zkS (p:=fun (n:Int)=>((n,()),())) rfl
theorem yM6:ConOk Tryz.prog 273 yxc:=(yKE).mono (fun x r _ h=>(yMU x.1).trans h)
end
section
def ym2:Code:=(Tryz.f230.body).getD .skip
def ys0:Env:=zki TT [(48,ywa),(141,yv8),(207,yrp),(272,yr7),(273,yxc)] []
theorem yRf:FrOk Tryz.prog ⟨ys0,61,fun _=>none⟩ ym2:=zkp yb yc ⟨yIu,yIt,yAv,yEB,yM6,trivial⟩
def yFE:Nat→Option Seg:=fun _=>none
def ycZ:Shape:=⟨[(0,false,[.ptr 1000000000 0]),(1,false,[.int .i64]),(2,false,[.br tI]),(6,false,[.int .i64]),(7,false,[.int .i64])],[(1000000000,[.int .i64,.int .i64,.int .i64,.at 800000000,.int .i64,.int .i64,.int .i64,.int .i64,.int .i64,.at 800000001,.int .i64,.bool,.bool])],[(800000000,tM,(.pr (.ow .fz) (.pr (.ow (.pr .fz .fz)) (.pr .fz (.ow .fz))))),(800000001,tW,(.pr .fz .fz))]⟩
def yiN:Shape:=⟨[(0,false,[.ptr 1000000000 0]),(1,false,[.int .i64]),(2,false,[.br tI]),(6,false,[.int .i64]),(7,false,[.ci .i64 0])],[(1000000000,[.int .i64,.int .i64,.int .i64,.at 800000000,.int .i64,.int .i64,.int .i64,.int .i64,.int .i64,.at 800000001,.int .i64,.bool,.bool])],[(800000000,tM,(.pr (.ow .fz) (.pr (.ow (.pr .fz .fz)) (.pr .fz (.ow .fz))))),(800000001,tW,(.pr .fz .fz))]⟩
def yiu:Shape:=⟨[],[(1000000000,[.int .i64,.int .i64,.int .i64,.at 800000000,.int .i64,.int .i64,.int .i64,.int .i64,.int .i64,.at 800000001,.int .i64,.bool,.bool])],[(800000000,tM,(.pr (.ow .fz) (.pr (.ow (.pr .fz .fz)) (.pr .fz (.ow .fz))))),(800000001,tW,(.pr .fz .fz))]⟩
def yoY:Shape:=⟨[],[],[]⟩
abbrev yuk (v0:Int) (v1:List Int) (v2 v3:Int) (v4:dA):(ycZ).X:=((((),()),(v0,()),(v1,()),(v2,()),(v3,()),()),((v4.1,v4.2.1.1,v4.2.1.2,(),v4.2.2.2.1,v4.2.2.2.2.1,v4.2.2.2.2.2.1,v4.2.2.2.2.2.2.1,v4.2.2.2.2.2.2.2.1,(),v4.2.2.2.2.2.2.2.2.2.1,v4.2.2.2.2.2.2.2.2.2.2.1,v4.2.2.2.2.2.2.2.2.2.2.2,()),()),(v4.2.2.1,v4.2.2.2.2.2.2.2.2.1,()))
abbrev yRE (v0:Int) (v1:List Int) (v2:Int) (v3:dA):(yiN).X:=((((),()),(v0,()),(v1,()),(v2,()),((),()),()),((v3.1,v3.2.1.1,v3.2.1.2,(),v3.2.2.2.1,v3.2.2.2.2.1,v3.2.2.2.2.2.1,v3.2.2.2.2.2.2.1,v3.2.2.2.2.2.2.2.1,(),v3.2.2.2.2.2.2.2.2.2.1,v3.2.2.2.2.2.2.2.2.2.2.1,v3.2.2.2.2.2.2.2.2.2.2.2,()),()),(v3.2.2.1,v3.2.2.2.2.2.2.2.2.1,()))
abbrev yEr (v0:dA):(yiu).X:=((),((v0.1,v0.2.1.1,v0.2.1.2,(),v0.2.2.2.1,v0.2.2.2.2.1,v0.2.2.2.2.2.1,v0.2.2.2.2.2.2.1,v0.2.2.2.2.2.2.2.1,(),v0.2.2.2.2.2.2.2.2.2.1,v0.2.2.2.2.2.2.2.2.2.2.1,v0.2.2.2.2.2.2.2.2.2.2.2,()),()),(v0.2.2.1,v0.2.2.2.2.2.2.2.2.1,()))
def yuK (v0:Int) (v1:List Int) (v2 v3 v4 v5 v6 v7 v8 v9 v10 v11 v12:Int) (v13 v14:Bool) (v15:List dM) (v16:List dW):Option ((ycZ).X ⊕ ((yiu).X ⊕ (yoY).X)) :=
 bif (ltb v3 (v15.length:Int)) then
 let r9:=ykb v1
 bif (v3 !=v2) then
 bif (v5 !=0) then
 bif (inb ((IntKind.i64.wrap ((IntKind.i64.wrap ((IntKind.i64.wrap (v3 - v2)) - 1))+v5)).tmod v5) v1.length) then
 let r10:=ydM (v4,(v5,v6),v15,v7,v8,v9,v10,v11,v16,v12,v13,v14) v3 v0
 bif r10 then
 let r11:=yfx v0
 bnd (yg9 (v4,(v5,v6),v15,v7,v8,v9,v10,v11,v16,v12,v13,v14) v3 r11 ([(nth v1 ((IntKind.i64.wrap ((IntKind.i64.wrap ((IntKind.i64.wrap (v3 - v2)) - 1))+v5)).tmod v5) 0)]:List Int)) fun r12 =>
 some (.inl ((((),()),(v0,()),(v1,()),(v2,()),((IntKind.i64.wrap (v3+1)),()),()),((r12.2.1.1,r12.2.1.2.1.1,r12.2.1.2.1.2,(),r12.2.1.2.2.2.1,r12.2.1.2.2.2.2.1,r12.2.1.2.2.2.2.2.1,r12.2.1.2.2.2.2.2.2.1,r12.2.1.2.2.2.2.2.2.2.1,(),r12.2.1.2.2.2.2.2.2.2.2.2.1,r12.2.1.2.2.2.2.2.2.2.2.2.2.1,r12.2.1.2.2.2.2.2.2.2.2.2.2.2,()),()),(r12.2.1.2.2.1,r12.2.1.2.2.2.2.2.2.2.2.1,())))
 else
 some (.inl ((((),()),(v0,()),(v1,()),(v2,()),((IntKind.i64.wrap (v3+1)),()),()),((v4,v5,v6,(),v7,v8,v9,v10,v11,(),v12,v13,v14,()),()),(v15,v16,())))
 else none
 else none
 else
 let r13:=ydM (v4,(v5,v6),v15,v7,v8,v9,v10,v11,v16,v12,v13,v14) v3 v0
 bif r13 then
 let r14:=yfx v0
 bnd (yg9 (v4,(v5,v6),v15,v7,v8,v9,v10,v11,v16,v12,v13,v14) v3 r14 ([r9]:List Int)) fun r15 =>
 some (.inl ((((),()),(v0,()),(v1,()),(v2,()),((IntKind.i64.wrap (v3+1)),()),()),((r15.2.1.1,r15.2.1.2.1.1,r15.2.1.2.1.2,(),r15.2.1.2.2.2.1,r15.2.1.2.2.2.2.1,r15.2.1.2.2.2.2.2.1,r15.2.1.2.2.2.2.2.2.1,r15.2.1.2.2.2.2.2.2.2.1,(),r15.2.1.2.2.2.2.2.2.2.2.2.1,r15.2.1.2.2.2.2.2.2.2.2.2.2.1,r15.2.1.2.2.2.2.2.2.2.2.2.2.2,()),()),(r15.2.1.2.2.1,r15.2.1.2.2.2.2.2.2.2.2.1,())))
 else
 some (.inl ((((),()),(v0,()),(v1,()),(v2,()),((IntKind.i64.wrap (v3+1)),()),()),((v4,v5,v6,(),v7,v8,v9,v10,v11,(),v12,v13,v14,()),()),(v15,v16,())))
 else
 some (.inr (.inl ((),((v4,v5,v6,(),v7,v8,v9,v10,v11,(),v12,v13,v14,()),()),(v15,v16,()))))
def ydE (x:(ycZ).X):=yuK x.1.2.1.1 x.1.2.2.1.1 x.1.2.2.2.1.1 x.1.2.2.2.2.1.1 x.2.1.1.1 x.2.1.1.2.1 x.2.1.1.2.2.1 x.2.1.1.2.2.2.2.1 x.2.1.1.2.2.2.2.2.1 x.2.1.1.2.2.2.2.2.2.1 x.2.1.1.2.2.2.2.2.2.2.1 x.2.1.1.2.2.2.2.2.2.2.2.1 x.2.1.1.2.2.2.2.2.2.2.2.2.2.1 x.2.1.1.2.2.2.2.2.2.2.2.2.2.2.1 x.2.1.1.2.2.2.2.2.2.2.2.2.2.2.2.1 x.2.2.1 x.2.2.2.1
def yD0 (x:(yiN).X):(ycZ).X:=((((),()),(x.1.2.1.1,()),(x.1.2.2.1.1,()),(x.1.2.2.2.1.1,()),(0,()),()),((x.2.1.1.1,x.2.1.1.2.1,x.2.1.1.2.2.1,(),x.2.1.1.2.2.2.2.1,x.2.1.1.2.2.2.2.2.1,x.2.1.1.2.2.2.2.2.2.1,x.2.1.1.2.2.2.2.2.2.2.1,x.2.1.1.2.2.2.2.2.2.2.2.1,(),x.2.1.1.2.2.2.2.2.2.2.2.2.2.1,x.2.1.1.2.2.2.2.2.2.2.2.2.2.2.1,x.2.1.1.2.2.2.2.2.2.2.2.2.2.2.2.1,()),()),(x.2.2.1,x.2.2.2.1,()))
def yF9:Code:=(zdI ym2 64 28).getD .skip
theorem yTM:zdI ym2 64 7=some (.block 0 (.loop yF9)):=by kernel_rfl
theorem yWU (x:(ycZ).X):zg7 ⟨ys0,61,yFE⟩ 0 yF9 28 ycZ yiu yoY x=ydE x:=by kernel_rfl
def yEh (x:(yiN).X):Nat:=18446744073709551616
def yvr (x:(yiN).X):Option ((yiu).X ⊕ (yoY).X):=zr ydE (yEh x) (yD0 x)
def yES:Seg:=⟨yiN,yiu,yoY,yvr⟩
def yFF:Nat→Option Seg:=fun q=>bif Nat.beq q 7 then some yES else yFE q
theorem yRg:FrOk Tryz.prog ⟨ys0,61,yFF⟩ ym2:=(yRf).loop (sg:=yES) ycZ yD0 (by decide) yTM ydE yEh (by decide) (fun _=>rfl) (fun x r _ h=>h) yWU
abbrev yfq:List Par:= [.pt tA (.pr .fz (.pr (.pr .fz .fz) (.pr (.ow (.pr (.ow .fz) (.pr (.ow (.pr .fz .fz)) (.pr .fz (.ow .fz))))) (.pr .fz (.pr .fz (.pr .fz (.pr .fz (.pr .fz (.pr (.ow (.pr .fz .fz)) (.pr .fz (.pr .fz .fz))))))))))),.rd tI,.rd tL]
abbrev ynn:List OT:= []
def ypw (a0:dA) (a1:Int) (a2:List Int):Option (ResD ynn×MutD yfq) :=
 let r1:=ydd a0.2.1 a1
 zjw (yvr ((((),()),(a1,()),(a2,()),(r1,()),((),()),()),((a0.1,a0.2.1.1,a0.2.1.2,(),a0.2.2.2.1,a0.2.2.2.2.1,a0.2.2.2.2.2.1,a0.2.2.2.2.2.2.1,a0.2.2.2.2.2.2.2.1,(),a0.2.2.2.2.2.2.2.2.2.1,a0.2.2.2.2.2.2.2.2.2.2.1,a0.2.2.2.2.2.2.2.2.2.2.2,()),()),(a0.2.2.1,a0.2.2.2.2.2.2.2.2.1,()))) (fun y15 =>
 some ((),((y15.2.1.1.1,(y15.2.1.1.2.1,y15.2.1.1.2.2.1),y15.2.2.1,y15.2.1.1.2.2.2.2.1,y15.2.1.1.2.2.2.2.2.1,y15.2.1.1.2.2.2.2.2.2.1,y15.2.1.1.2.2.2.2.2.2.2.1,y15.2.1.1.2.2.2.2.2.2.2.2.1,y15.2.2.2.1,y15.2.1.1.2.2.2.2.2.2.2.2.2.2.1,y15.2.1.1.2.2.2.2.2.2.2.2.2.2.2.1,y15.2.1.1.2.2.2.2.2.2.2.2.2.2.2.2.1),()))) (fun y15 =>
 none)
theorem y0L (x:InD yfq):zjH ⟨ys0,61,yFF⟩ Tryz.f230.results.toList ym2 yfq ynn x=ypw x.1 x.2.1 x.2.2.1:=by kernel_rfl
theorem yWj:ConOk Tryz.prog 230 ⟨yfq,ynn,fun x=>ypw x.1 x.2.1 x.2.2.1⟩:=zkh (yRg) Tryz.func230 (by kernel_rfl) (by kernel_rfl) Tryz.ntmps230.symm (by decide) (fun x r h=>(y0L x).trans h)
def ytI (a0:dA) (a1:Int) (a2:List Int):dA:=yL a0 a1 a2
def ynD (a0:dA) (a1:Int) (a2:List Int):Bool:=yK a0.2.1 a1&&((a2.length:Int)==a0.2.1.1 - 1&&(a0.2.2.1.length:Int)==a0.2.1.1)
theorem yYF (a0:dA) (a1:Int) (a2:List Int) (hk:zi9 yfq (a0,a1,a2,())) (hq:ynD a0 a1 a2=true):ypw a0 a1 a2=(fun n=>some ((),(n,()))) (ytI a0 a1 a2):=by
 simp only [ynD,Bool.and_eq_true,beq_iff_eq]at hq
 have hg:=yo.1 (ycv.1 hq.1).1
 have hp:=yqA hq.1
 have h1:yvr (yRE a1 a2 (yg a0.2.1 a1) a0)=some (.inl (yEr (yL a0 a1 a2))) :=
  zks (step:=ydE) a0.2.2.1.length (fun i s=>yuk a1 a2 (yg a0.2.1 a1) i s) (yeg (yg a0.2.1 a1) a0.2.1.1 a1 a2) (fun _ s=>s.2.2.1.length=a0.2.2.1.length∧s.2.1=a0.2.1) (fun s=> .inl (yEr s)) (fun i s hi hs=>⟨by
   have hN:s.2.1.1=a0.2.1.1:=by rw [hs.2]
   simp only [ydE,yuk,yuK,hs.1,zjI (show (i:Int) < a0.2.2.1.length by omega),cond_true,wr (show -9223372036854775808≤(i:Int)+1 by omega) (by omega),Int.natCast_add,Int.natCast_one,Int.toNat_natCast,zkV,ylv,ykb,ydM,yyz,yeg,yyK]
   rw [← hN]
   by_cases he:(i:Int)=yg a0.2.1 a1
   ·rw [show ((i:Int) !=yg a0.2.1 a1)=false by simp [he],show ((i:Int)==yg a0.2.1 a1)=true from beq_iff_eq.2 he]
    rw [ytN s i (ysI a1) [yfm a2] (zkO (by rw [hs.1]; exact hi))]
    cases yf3 s i a1<;>rfl
   ·have hd:=y5K (N:=s.2.1.1) (i:=i) (p:=yg a0.2.1 a1) ⟨by omega,by omega⟩ ⟨by omega,by omega⟩ ⟨hp.1,by omega⟩ he
    rw [show ((i:Int) !=yg a0.2.1 a1)=true from bne_iff_ne.2 he,show ((i:Int)==yg a0.2.1 a1)=false from beq_eq_false_iff_ne.2 he,show (s.2.1.1 !=0)=true from bne_iff_ne.2 (by omega),
     wr (show -9223372036854775808≤(i:Int) - yg a0.2.1 a1 by omega) (by omega),wr (show -9223372036854775808≤(i:Int) - yg a0.2.1 a1 - 1 by omega) (by omega),wr (show -9223372036854775808≤(i:Int) - yg a0.2.1 a1 - 1+s.2.1.1 by omega) (by omega),zjP.2 (show 0≤((i:Int) - yg a0.2.1 a1 - 1+s.2.1.1).tmod s.2.1.1∧((i:Int) - yg a0.2.1 a1 - 1+s.2.1.1).tmod s.2.1.1 < a2.length by omega)]
    rw [ytN s i (ysI a1) [nth a2 (((i:Int) - yg a0.2.1 a1 - 1+s.2.1.1).tmod s.2.1.1) 0] (zkO (by rw [hs.1]; exact hi))]
    cases yf3 s i a1<;>rfl,(yyJ _ _ _ _ s i).trans hs.1,(yx5 (yLM _ _ _ _ s i)).trans hs.2⟩) (fun s hs=>by simp only [ydE,yuk,yuK,hs.1,zkm (Int.le_refl _),cond_false]) a0 ⟨rfl,rfl⟩ _ (by show _ < 18446744073709551616; omega)
 unfold ypw ytI ydd
 exact (congrArg (fun z=>zjw z _ _) h1).trans rfl
def yhX (a0:dA) (a1:Int) (a2:List Int):Option (ResD ynn×MutD yfq):=bif ynD a0 a1 a2 then (fun n=>some ((),(n,()))) (ytI a0 a1 a2) else none
theorem yZJ (a0:dA) (a1:Int) (a2:List Int) (h:ynD a0 a1 a2=true):yhX a0 a1 a2=(fun n=>some ((),(n,()))) (ytI a0 a1 a2):=by unfold yhX; rw [h]; rfl
def yGz:Con:=⟨yfq,ynn,fun x=>yhX x.1 x.2.1 x.2.2.1⟩
theorem yZE:ConOk Tryz.prog 230 yGz:=(yWj).mono (fun x r hk h=>zkW h (fun hq=>yYF x.1 x.2.1 x.2.2.1 hk hq))
end
section
def yHa:Code:=(Tryz.f147.body).getD .skip
def yHJ:Env:=zki TT [(208,yDM),(229,yH6),(230,yGz)] []
theorem yOz:FrOk Tryz.prog ⟨yHJ,54,fun _=>none⟩ yHa:=zkp yb yc ⟨yWC,y1N,yZE,trivial⟩
def yP1:Nat→Option Seg:=fun _=>none
abbrev yd4:List Par:= [.pt tA (.pr .fz (.pr (.pr .fz .fz) (.pr (.ow (.pr (.ow .fz) (.pr (.ow (.pr .fz .fz)) (.pr .fz (.ow .fz))))) (.pr .fz (.pr .fz (.pr .fz (.pr .fz (.pr .fz (.pr (.ow (.pr .fz .fz)) (.pr .fz (.pr .fz .fz))))))))))),.rd tI,.rd tL]
abbrev yld:List OT:= [⟨false,tI,.fz⟩]
def ymM (a0:dA) (a1:Int) (a2:List Int):Option (ResD yld×MutD yd4) :=
 bif (leb 4 (IntKind.i64.wrap (a0.2.2.2.2.2.1 - a0.2.2.2.2.2.2.1))) then
 let r1:=yly a0
 bif r1.2.2.2.2.2.2.2.2.2.2.1 then
 some ((6,()),(r1,()))
 else
 bif (zj4 ([]:List Int).length a2.length 8) then
 let r2:=ylz r1 (r1.2.2.2.2.2.1,a1,(([]:List Int)++a2))
 bif r2.2.2.2.2.2.2.2.2.2.2.1 then
 some ((6,()),(r2,()))
 else
 bnd (yhX (r2.1,r2.2.1,r2.2.2.1,r2.2.2.2.1,r2.2.2.2.2.1,(IntKind.i64.wrap (r2.2.2.2.2.2.1+1)),r2.2.2.2.2.2.2) a1 a2) fun r3 =>
 bif r3.2.1.2.2.2.2.2.2.2.2.2.2.1 then
 some ((6,()),(r3.2.1,()))
 else
 some ((0,()),(r3.2.1,()))
 else none
 else
 bif a0.2.2.2.2.2.2.2.2.2.2.1 then
 some ((6,()),(a0,()))
 else
 bif (zj4 ([]:List Int).length a2.length 8) then
 let r4:=ylz a0 (a0.2.2.2.2.2.1,a1,(([]:List Int)++a2))
 bif r4.2.2.2.2.2.2.2.2.2.2.1 then
 some ((6,()),(r4,()))
 else
 bnd (yhX (r4.1,r4.2.1,r4.2.2.1,r4.2.2.2.1,r4.2.2.2.2.1,(IntKind.i64.wrap (r4.2.2.2.2.2.1+1)),r4.2.2.2.2.2.2) a1 a2) fun r5 =>
 bif r5.2.1.2.2.2.2.2.2.2.2.2.2.1 then
 some ((6,()),(r5.2.1,()))
 else
 some ((0,()),(r5.2.1,()))
 else none
theorem yXS (x:InD yd4):zjH ⟨yHJ,54,yP1⟩ Tryz.f147.results.toList yHa yd4 yld x=ymM x.1 x.2.1 x.2.2.1:=by kernel_rfl
theorem ySy:ConOk Tryz.prog 147 ⟨yd4,yld,fun x=>ymM x.1 x.2.1 x.2.2.1⟩:=zkh (yOz) Tryz.func147 (by kernel_rfl) (by kernel_rfl) Tryz.ntmps147.symm (by decide) (fun x r h=>(yXS x).trans h)
def ylA (a0:dA) (a1:Int) (a2:List Int):Int×dA:=ya5 a0 a1 a2
def ylD (a0:dA) (a1:Int) (a2:List Int):Bool:=yK a0.2.1 a1&&((a2.length:Int)==a0.2.1.1 - 1&&(a0.2.2.1.length:Int)==a0.2.1.1)
theorem yVI (a0:dA) (a1:Int) (a2:List Int) (hk:zi9 yd4 (a0,a1,a2,())) (hq:ylD a0 a1 a2=true):ymM a0 a1 a2=(fun n=>some ((n.1,()),(n.2,()))) (ylA a0 a1 a2):=by
 have hq':=hq
 simp only [ylD,Bool.and_eq_true,beq_iff_eq]at hq
 have hg:=yo.1 (ycv.1 hq.1).1
 have hap:zj4 ([]:List Int).length a2.length 8=true:=zkw.2 (by simp only [List.length_nil]; omega)
 have key: ∀ b:dA,b.2.1=a0.2.1→b.2.2.1.length=a0.2.2.1.length→yhX (yap (yao b (b.2.2.2.2.2.1,a1,a2))) a1 a2=some ((),(yL (yap (yao b (b.2.2.2.2.2.1,a1,a2))) a1 a2,())):=fun b h1 h2=>yZJ _ _ _ (by
  unfold ynD
  rw [show (yap (yao b (b.2.2.2.2.2.1,a1,a2))).2.1=a0.2.1 from (yx5 (yS9 _ _)).trans h1,show (yap (yao b (b.2.2.2.2.2.1,a1,a2))).2.2.1.length=a0.2.2.1.length from (y3w _ _).trans h2]
  exact hq')
 unfold ymM ylA ya5 ycM
 simp only [y1S,ylz,List.nil_append,hap,cond_true]
 cases leb 4 (IntKind.i64.wrap (a0.2.2.2.2.2.1 - a0.2.2.2.2.2.2.1))
 ·have hd:=key a0 rfl rfl
  simp only [cond_false]
  generalize yao a0 (a0.2.2.2.2.2.1,a1,a2)=R at hd ⊢
  generalize yL (yap R) a1 a2=Q at hd ⊢
  unfold yap at hd
  simp only [cond_false,hd,zky]
  unfold yd
  cases a0.2.2.2.2.2.2.2.2.2.2.1
  ·cases R.2.2.2.2.2.2.2.2.2.2.1
   ·cases Q.2.2.2.2.2.2.2.2.2.2.1<;>rfl
   ·rfl
  ·rfl
 ·have hd:=key (yv a0) (yLL a0) (yuR a0)
  simp only [cond_true]
  generalize yv a0=C at hd ⊢
  generalize yao C (C.2.2.2.2.2.1,a1,a2)=R at hd ⊢
  generalize yL (yap R) a1 a2=Q at hd ⊢
  unfold yap at hd
  simp only [cond_true,hd,zky]
  unfold yd
  cases C.2.2.2.2.2.2.2.2.2.2.1
  ·cases R.2.2.2.2.2.2.2.2.2.2.1
   ·cases Q.2.2.2.2.2.2.2.2.2.2.1<;>rfl
   ·rfl
  ·rfl
def yrx (a0:dA) (a1:Int) (a2:List Int):Option (ResD yld×MutD yd4):=bif ylD a0 a1 a2 then (fun n=>some ((n.1,()),(n.2,()))) (ylA a0 a1 a2) else none
theorem yWH (a0:dA) (a1:Int) (a2:List Int) (h:ylD a0 a1 a2=true):yrx a0 a1 a2=(fun n=>some ((n.1,()),(n.2,()))) (ylA a0 a1 a2):=by unfold yrx; rw [h]; rfl
def yDN:Con:=⟨yd4,yld,fun x=>yrx x.1 x.2.1 x.2.2.1⟩
theorem yWD:ConOk Tryz.prog 147 yDN:=(ySy).mono (fun x r hk h=>zkW h (fun hq=>yVI x.1 x.2.1 x.2.2.1 hk hq))
end
section
def yHb:Code:=(Tryz.f185.body).getD .skip
def yHK:Env:=zki TT [(146,yGy),(147,yDN),(243,yAk)] [(36928,(.pr .fz .fz))]
theorem yOA:FrOk Tryz.prog ⟨yHK,63,fun _=>none⟩ yHb:=zkp yb yc ⟨yZD,yWD,yM8,trivial⟩
def yP2:Nat→Option Seg:=fun _=>none
abbrev yd5:List Par:= [.pt tA (.pr .fz (.pr (.pr .fz .fz) (.pr (.ow (.pr (.ow .fz) (.pr (.ow (.pr .fz .fz)) (.pr .fz (.ow .fz))))) (.pr .fz (.pr .fz (.pr .fz (.pr .fz (.pr .fz (.pr (.ow (.pr .fz .fz)) (.pr .fz (.pr .fz .fz))))))))))),.rd tI]
abbrev yle:List OT:= [⟨false,tI,.fz⟩]
def ymN (a0:dA) (a1:Int):Option (ResD yle×MutD yd5) :=
 let r1:=yjD a0 a1
 bif (ltb r1 0) then
 some ((0,()),(a0,()))
 else
 bif (inb r1 a0.2.2.2.2.2.2.2.2.1.length) then
 let r2:=yk a0 a1 ((nth a0.2.2.2.2.2.2.2.2.1 r1 (0,[])).2)
 bif (r2 !=0) then
 some ((r2,()),(a0,()))
 else
 bif (inb r1 a0.2.2.2.2.2.2.2.2.1.length) then
 bnd (yrx a0 a1 ((nth a0.2.2.2.2.2.2.2.2.1 r1 (0,[])).2)) fun r3 =>
 bif (r3.1.1==0) then
 bif (zjG 0 r1 r3.2.1.2.2.2.2.2.2.2.2.1.length) then
 bif (zj4 ([]:List dW).length ((r3.2.1.2.2.2.2.2.2.2.2.1.drop (0:Int).toNat).take (r1 - 0).toNat).length 32) then
 bif (zjG (IntKind.i64.wrap (r1+1)) (r3.2.1.2.2.2.2.2.2.2.2.1.length:Int) r3.2.1.2.2.2.2.2.2.2.2.1.length) then
 bif (zj4 (([]:List dW)++((r3.2.1.2.2.2.2.2.2.2.2.1.drop (0:Int).toNat).take (r1 - 0).toNat)).length ((r3.2.1.2.2.2.2.2.2.2.2.1.drop ((IntKind.i64.wrap (r1+1))).toNat).take ((r3.2.1.2.2.2.2.2.2.2.2.1.length:Int) - (IntKind.i64.wrap (r1+1))).toNat).length 32) then
 some ((r3.1.1,()),((r3.2.1.1,r3.2.1.2.1,r3.2.1.2.2.1,r3.2.1.2.2.2.1,r3.2.1.2.2.2.2.1,r3.2.1.2.2.2.2.2.1,r3.2.1.2.2.2.2.2.2.1,r3.2.1.2.2.2.2.2.2.2.1,((([]:List dW)++((r3.2.1.2.2.2.2.2.2.2.2.1.drop (0:Int).toNat).take (r1 - 0).toNat))++((r3.2.1.2.2.2.2.2.2.2.2.1.drop ((IntKind.i64.wrap (r1+1))).toNat).take ((r3.2.1.2.2.2.2.2.2.2.2.1.length:Int) - (IntKind.i64.wrap (r1+1))).toNat)),r3.2.1.2.2.2.2.2.2.2.2.2),()))
 else none
 else none
 else none
 else none
 else
 some ((r3.1.1,()),(r3.2.1,()))
 else none
 else none
theorem yXT (x:InD yd5):zjH ⟨yHK,63,yP2⟩ Tryz.f185.results.toList yHb yd5 yle x=ymN x.1 x.2.1:=by kernel_rfl
theorem ySz:ConOk Tryz.prog 185 ⟨yd5,yle,fun x=>ymN x.1 x.2.1⟩:=zkh (yOA) Tryz.func185 (by kernel_rfl) (by kernel_rfl) Tryz.ntmps185.symm (by decide) (fun x r h=>(yXT x).trans h)
def ylB (a0:dA) (a1:Int):Int×dA:=yac a0 a1
def yyf (a0:dA) (a1:Int):Bool:=decide (a0.2.2.2.2.2.2.2.2.1.length≤1000)
theorem yVJ (a0:dA) (a1:Int) (hk:zi9 yd5 (a0,a1,())) (hq:yyf a0 a1=true):ymN a0 a1=(fun n=>some ((n.1,()),(n.2,()))) (ylB a0 a1):=by
 have hq:=of_decide_eq_true hq
 unfold ymN ylB yac
 simp only [yjD]
 cases h0:ltb (ym a0.2.2.2.2.2.2.2.2.1 a1) 0
 ·have h1:=zkU h0
  have hi:inb (ym a0.2.2.2.2.2.2.2.2.1 a1) a0.2.2.2.2.2.2.2.2.1.length=true:=(yua (d:=((0:Int),([]:List Int))) (zk0 h1)).1
  simp only [hi,cond_true,cond_false]
  generalize hD:(nth a0.2.2.2.2.2.2.2.2.1 (ym a0.2.2.2.2.2.2.2.2.1 a1) (0,[])).2=D
  cases hc:(yk a0 a1 D !=0)
  ·obtain ⟨ha,hl,hw,hd,hs,hb,_⟩:=yZT (bne_eq_false_iff_eq.1 hc)
   rw [yWH a0 a1 D (by unfold ylD; rw [hs,hl,yLJ ha]; simp)]
   simp only [zky,cond_false,ylA,yPR]
   have hk:=zjP.1 hi
   cases hr:((ya5 a0 a1 D).1==0)
   ·rfl
   ·generalize ym a0.2.2.2.2.2.2.2.2.1 a1=K at h1 hk
    rw [wr (show -9223372036854775808≤K+1 by omega) (by omega),zko.2 (show (0:Int)≤0∧0≤K∧K≤(a0.2.2.2.2.2.2.2.2.1.length:Int) by omega),zko.2 (show 0≤K+1∧K+1≤(a0.2.2.2.2.2.2.2.2.1.length:Int)∧(a0.2.2.2.2.2.2.2.2.1.length:Int)≤(a0.2.2.2.2.2.2.2.2.1.length:Int) by omega),
     zkw.2 (by rw [List.length_take,List.length_drop,List.length_nil]; omega),zkw.2 (by rw [List.length_append,List.length_take,List.length_take,List.length_drop,List.length_drop,List.length_nil]; omega),y3R h1 hk.2]
    rw [beq_iff_eq.1 hr]; rfl
  ·rfl
 ·rfl
def ygz (a0:dA) (a1:Int):Option (ResD yle×MutD yd5):=bif yyf a0 a1 then (fun n=>some ((n.1,()),(n.2,()))) (ylB a0 a1) else none
theorem yGM (a0:dA) (a1:Int) (h:yyf a0 a1=true):ygz a0 a1=(fun n=>some ((n.1,()),(n.2,()))) (ylB a0 a1):=by unfold ygz; rw [h]; rfl
def yt7:Con:=⟨yd5,yle,fun x=>ygz x.1 x.2.1⟩
theorem yGL:ConOk Tryz.prog 185 yt7:=(ySz).mono (fun x r hk h=>zkW h (fun hq=>yVJ x.1 x.2.1 hk hq))
end
section
def yyQ:Code:=(Tryz.f84.body).getD .skip
def yy2:Env:=zki TT [(103,ywc),(104,yx4),(135,yn),(185,yt7)] []
theorem yIh:FrOk Tryz.prog ⟨yy2,31,fun _=>none⟩ yyQ:=zkp yb yc ⟨yIv,yJ4,yr,yGL,trivial⟩
def yIB:Nat→Option Seg:=fun _=>none
abbrev ycj:List Par:= [.rd tA,.rd tI]
abbrev yiV:List OT:= [⟨false,tA,(.pr .fz (.pr (.pr .fz .fz) (.pr (.ow (.pr (.ow .fz) (.pr (.ow (.pr .fz .fz)) (.pr .fz (.ow .fz))))) (.pr .fz (.pr .fz (.pr .fz (.pr .fz (.pr .fz (.pr (.ow (.pr .fz .fz)) (.pr .fz (.pr .fz .fz)))))))))))⟩,⟨false,tI,.fz⟩]
def ygh (a0:dA) (a1:Int):Option (ResD yiV×MutD ycj) :=
 let r1:=yfy a0
 let r2:=ylC a0
 bif (r2==0) then
 let r3:=ya a1 0 (IntKind.i64.wrap (a0.2.1.2 - 1))
 bif (!r3) then
 some ((r1,2,()),())
 else
 bif (r2 !=0) then
 some ((r1,r2,()),())
 else
 bnd (ygz r1 a1) fun r4 =>
 some ((r4.2.1,r4.1.1,()),())
 else
 bif (r2 !=0) then
 some ((r1,r2,()),())
 else
 bnd (ygz r1 a1) fun r5 =>
 some ((r5.2.1,r5.1.1,()),())
theorem yLP (x:InD ycj):zjH ⟨yy2,31,yIB⟩ Tryz.f84.results.toList yyQ ycj yiV x=ygh x.1 x.2.1:=by kernel_rfl
theorem yIY:ConOk Tryz.prog 84 ⟨ycj,yiV,fun x=>ygh x.1 x.2.1⟩:=zkh (yIh) Tryz.func84 (by kernel_rfl) (by kernel_rfl) Tryz.ntmps84.symm (by decide) (fun x r h=>(yLP x).trans h)
def yeP (a0:dA) (a1:Int):dA×Int:=ylj a0 a1
theorem yKy (a0:dA) (a1:Int) (hk:zi9 ycj (a0,a1,())):ygh a0 a1=(fun n=>some ((n.1,n.2,()),())) (yeP a0 a1):=by
 unfold ygh yeP ylj
 simp only [yfy,y3Y]
 cases ha:yp a0
 ·rfl
 cases hd:yd a0
 ·have hg:=yo.1 (yaZ ha)
  rw [wr (show -9223372036854775808≤a0.2.1.2 - 1 by omega) (by omega),yff,show (leb 0 a1&&leb a1 (a0.2.1.2 - 1))=yK a0.2.1 a1 by unfold yK; rw [yaZ ha]; rfl]
  cases yK a0.2.1 a1
  ·rfl
  ·rw [yGM a0 a1 (decide_eq_true (Nat.le_trans (yGB (yuO ha) (yaZ ha)) (by omega)))]; rfl
 ·rfl
def yv9:Con:=⟨ycj,yiV,fun x=>(fun n=>some ((n.1,n.2,()),())) (yeP x.1 x.2.1)⟩
theorem yKG:ConOk Tryz.prog 84 yv9:=(yIY).mono (fun x r hk h=>(yKy x.1 x.2.1 hk).trans h)
end
end
end Go.Tf
