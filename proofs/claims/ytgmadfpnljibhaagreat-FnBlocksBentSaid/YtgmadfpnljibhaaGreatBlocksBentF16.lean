/- Functions of the program, and what they come to. -/
import Derived.Test.YtgmadfpnljibhaaGreatBlocksBentF15
namespace Go.Tf
noncomputable section
open Go.Proofs
set_option synthInstance.maxHeartbeats 400000
set_option synthInstance.maxSize 10000
set_option linter.unusedVariables false
set_option linter.unusedSimpArgs false
set_option maxRecDepth 100000
section
def yqI:Code:=(Tryz.f289.body).getD .skip
def yww:Env:=zj3 TT [] []
theorem yXI:FrOk Tryz.prog ⟨yww,18,fun _=>none⟩ yqI:=zj7 yb yc trivial
def yIG:Nat→Option Seg:=fun _=>none
def ydE:Shape:=⟨[(0,false,[.br tI]),(3,false,[.int .i64]),(4,false,[.int .i64])],[],[]⟩
def yjS:Shape:=⟨[(0,false,[.br tI]),(3,false,[.ci .i64 0]),(4,false,[.ci .i64 0])],[],[]⟩
def yjD:Shape:=⟨[(3,false,[.int .i64])],[],[]⟩
def yp2:Shape:=⟨[],[],[]⟩
abbrev yvw (v0:List Int) (v1 v2:Int):(ydE).X:=(((v0,()),(v1,()),(v2,()),()),(),())
abbrev yUe (v0:List Int):(yjS).X:=(((v0,()),((),()),((),()),()),(),())
abbrev yFa (v0:Int):(yjD).X:=(((v0,()),()),(),())
def yvV (v0:List Int) (v1 v2:Int):Option ((ydE).X ⊕ ((yjD).X ⊕ (yp2).X)) :=
 bif (ltb v2 (v0.length:Int)) then
 bif (inb v2 v0.length) then
 some (.inl (((v0,()),((IntKind.i64.wrap ((BitVec.ofInt IntKind.i64.bits v1 ^^^ BitVec.ofInt IntKind.i64.bits (nth v0 v2 0)).toNat:Int)),()),((IntKind.i64.wrap (v2+1)),()),()),(),()))
 else none
 else
 some (.inr (.inl (((v1,()),()),(),())))
def yei (x:(ydE).X):=yvV x.1.1.1 x.1.2.1.1 x.1.2.2.1.1
def yEI (x:(yjS).X):(ydE).X:=(((x.1.1.1,()),(0,()),(0,()),()),(),())
def yG9:Code:=(zdD yqI 64 116).getD .skip
theorem yWv:zdD yqI 64 29=some (.block 0 (.loop yG9)):=by kernel_rfl
theorem yZK (x:(ydE).X):zg0 ⟨yww,18,yIG⟩ 0 yG9 116 ydE yjD yp2 x=yei x:=by kernel_rfl
def yEY (x:(yjS).X):Nat:=18446744073709551616
def ywL (x:(yjS).X):Option ((yjD).X ⊕ (yp2).X):=zz yei (yEY x) (yEI x)
def yFJ:Seg:=⟨yjS,yjD,yp2,ywL⟩
def yIH:Nat→Option Seg:=fun q=>bif Nat.beq q 29 then some yFJ else yIG q
theorem yXJ:FrOk Tryz.prog ⟨yww,18,yIH⟩ yqI:=(yXI).loop (sg:=yFJ) ydE yEI (by decide) yWv yei yEY (by decide) (fun _=>rfl) (fun x r _ h=>h) yZK
abbrev yl2:List Par:= [.rd tL]
abbrev yw8:List OT:= [⟨false,tI,.fz⟩]
def ysO (a0:List Int):Option (ResD yw8×MutD yl2) :=
 zjZ (ywL (((a0,()),((),()),((),()),()),(),())) (fun y0 =>
 some ((y0.1.1.1,()),())) (fun y0 =>
 none)
theorem y4E (x:InD yl2):zjx ⟨yww,18,yIH⟩ Tryz.f289.results.toList yqI yl2 yw8 x=ysO x.1:=by kernel_rfl
theorem y1E:ConOk Tryz.prog 289 ⟨yl2,yw8,fun x=>ysO x.1⟩:=zj2 (yXJ) Tryz.func289 (by kernel_rfl) (by kernel_rfl) Tryz.ntmps289.symm (by decide) (fun x r h=>(y4E x).trans h)
def ymG (a0:List Int):Int:=ygi a0
theorem y3T (a0:List Int) (hk:zi2 yl2 (a0,())):ysO a0=(fun n=>some ((n,()),())) (ymG a0):=by
 have hb:a0.length * 8≤2 ^ 47:=hk.1.1
 have h1:ywL (yUe a0)=some (.inl (yFa (ygi a0))) :=
  zj4 (step:=yei) a0 0 (fun i s=>yvw a0 s i) xw (fun _ _=>True) (fun s=> .inl (yFa s)) (fun i s hi _=>⟨by
   simp only [yei,yvw,yvV,zj5 (show (i:Int) < a0.length by omega),cond_true,wr (show -9223372036854775808≤(i:Int)+1 by omega) (by omega),Int.natCast_add,Int.natCast_one,Int.toNat_natCast,zkm hi,zkn]; rfl,trivial⟩) (fun s _=>by simp only [yei,yvw,yvV,zky (Int.le_refl _),cond_false]) 0 trivial _ (by show _ < 18446744073709551616; omega)
 unfold ysO ymG
 rw [h1]; rfl
def yJn:Con:=⟨yl2,yw8,fun x=>(fun n=>some ((n,()),())) (ymG x.1)⟩
theorem y39:ConOk Tryz.prog 289 yJn:=(y1E).mono (fun x r hk h=>(y3T x.1 hk).trans h)
end
section
def yBQ:Code:=(Tryz.f273.body).getD .skip
def yCe:Env:=zj3 TT [(289,yJn)] []
theorem yKn:FrOk Tryz.prog ⟨yCe,5,fun _=>none⟩ yBQ:=zj7 yb yc ⟨y39,trivial⟩
def yMe:Nat→Option Seg:=fun _=>none
abbrev ygz:List Par:= [.rd tL]
abbrev ykY:List OT:= [⟨false,tI,.fz⟩]
def ypg (a0:List Int):Option (ResD ykY×MutD ygz) :=
 let r1:=ymG a0
 some ((r1,()),())
theorem yQo (x:InD ygz):zjx ⟨yCe,5,yMe⟩ Tryz.f273.results.toList yBQ ygz ykY x=ypg x.1:=by kernel_rfl
theorem yMT:ConOk Tryz.prog 273 ⟨ygz,ykY,fun x=>ypg x.1⟩:=zj2 (yKn) Tryz.func273 (by kernel_rfl) (by kernel_rfl) Tryz.ntmps273.symm (by decide) (fun x r h=>(yQo x).trans h)
def yle (a0:List Int):Int :=
 let r1:=ymG a0
 r1
def yyR:Con:=⟨ygz,ykY,fun x=>(fun n=>some ((n,()),())) (yle x.1)⟩
theorem yPd (a0:List Int):ypg a0=(fun n=>some ((n,()),())) (yle a0):=zkq (p:=fun (n:Int)=>((n,()),())) rfl
theorem yPo:ConOk Tryz.prog 273 yyR:=(yMT).mono (fun x r _ h=>(yPd x.1).trans h)
end
section
def ynY:Code:=(Tryz.f230.body).getD .skip
def yua:Env:=zj3 TT [(48,yxz),(141,ydT),(207,ymr),(272,ytf),(273,yyR)] []
theorem yTQ:FrOk Tryz.prog ⟨yua,61,fun _=>none⟩ ynY:=zj7 yb yc ⟨yJW,yhC,yu0,yFn,yPo,trivial⟩
def yGC:Nat→Option Seg:=fun _=>none
def ydH:Shape:=⟨[(0,false,[.ptr 1000000000 0]),(1,false,[.int .i64]),(2,false,[.br tI]),(6,false,[.int .i64]),(7,false,[.int .i64])],[(1000000000,[.int .i64,.int .i64,.int .i64,.at 800000000,.int .i64,.int .i64,.int .i64,.int .i64,.int .i64,.at 800000001,.int .i64,.bool,.bool])],[(800000000,tM,(.pr (.ow .fz) (.pr (.ow (.pr .fz .fz)) (.pr .fz (.ow .fz))))),(800000001,tW,(.pr .fz .fz))]⟩
def yjV:Shape:=⟨[(0,false,[.ptr 1000000000 0]),(1,false,[.int .i64]),(2,false,[.br tI]),(6,false,[.int .i64]),(7,false,[.ci .i64 0])],[(1000000000,[.int .i64,.int .i64,.int .i64,.at 800000000,.int .i64,.int .i64,.int .i64,.int .i64,.int .i64,.at 800000001,.int .i64,.bool,.bool])],[(800000000,tM,(.pr (.ow .fz) (.pr (.ow (.pr .fz .fz)) (.pr .fz (.ow .fz))))),(800000001,tW,(.pr .fz .fz))]⟩
def yjG:Shape:=⟨[],[(1000000000,[.int .i64,.int .i64,.int .i64,.at 800000000,.int .i64,.int .i64,.int .i64,.int .i64,.int .i64,.at 800000001,.int .i64,.bool,.bool])],[(800000000,tM,(.pr (.ow .fz) (.pr (.ow (.pr .fz .fz)) (.pr .fz (.ow .fz))))),(800000001,tW,(.pr .fz .fz))]⟩
def yp5:Shape:=⟨[],[],[]⟩
abbrev yvz (v0:Int) (v1:List Int) (v2 v3:Int) (v4:dA):(ydH).X:=((((),()),(v0,()),(v1,()),(v2,()),(v3,()),()),((v4.1,v4.2.1.1,v4.2.1.2,(),v4.2.2.2.1,v4.2.2.2.2.1,v4.2.2.2.2.2.1,v4.2.2.2.2.2.2.1,v4.2.2.2.2.2.2.2.1,(),v4.2.2.2.2.2.2.2.2.2.1,v4.2.2.2.2.2.2.2.2.2.2.1,v4.2.2.2.2.2.2.2.2.2.2.2,()),()),(v4.2.2.1,v4.2.2.2.2.2.2.2.2.1,()))
abbrev yUh (v0:Int) (v1:List Int) (v2:Int) (v3:dA):(yjV).X:=((((),()),(v0,()),(v1,()),(v2,()),((),()),()),((v3.1,v3.2.1.1,v3.2.1.2,(),v3.2.2.2.1,v3.2.2.2.2.1,v3.2.2.2.2.2.1,v3.2.2.2.2.2.2.1,v3.2.2.2.2.2.2.2.1,(),v3.2.2.2.2.2.2.2.2.2.1,v3.2.2.2.2.2.2.2.2.2.2.1,v3.2.2.2.2.2.2.2.2.2.2.2,()),()),(v3.2.2.1,v3.2.2.2.2.2.2.2.2.1,()))
abbrev yFb (v0:dA):(yjG).X:=((),((v0.1,v0.2.1.1,v0.2.1.2,(),v0.2.2.2.1,v0.2.2.2.2.1,v0.2.2.2.2.2.1,v0.2.2.2.2.2.2.1,v0.2.2.2.2.2.2.2.1,(),v0.2.2.2.2.2.2.2.2.2.1,v0.2.2.2.2.2.2.2.2.2.2.1,v0.2.2.2.2.2.2.2.2.2.2.2,()),()),(v0.2.2.1,v0.2.2.2.2.2.2.2.2.1,()))
def yvY (v0:Int) (v1:List Int) (v2 v3 v4 v5 v6 v7 v8 v9 v10 v11 v12:Int) (v13 v14:Bool) (v15:List dM) (v16:List dW):Option ((ydH).X ⊕ ((yjG).X ⊕ (yp5).X)) :=
 bif (ltb v3 (v15.length:Int)) then
 let r9:=yle v1
 bif (v3 !=v2) then
 bif (v5 !=0) then
 bif (inb ((IntKind.i64.wrap ((IntKind.i64.wrap ((IntKind.i64.wrap (v3 - v2)) - 1))+v5)).tmod v5) v1.length) then
 let r10:=yev (v4,(v5,v6),v15,v7,v8,v9,v10,v11,v16,v12,v13,v14) v3 v0
 bif r10 then
 let r11:=yaG v0
 bnd (yfM (v4,(v5,v6),v15,v7,v8,v9,v10,v11,v16,v12,v13,v14) v3 r11 ([(nth v1 ((IntKind.i64.wrap ((IntKind.i64.wrap ((IntKind.i64.wrap (v3 - v2)) - 1))+v5)).tmod v5) 0)]:List Int)) fun r12 =>
 some (.inl ((((),()),(v0,()),(v1,()),(v2,()),((IntKind.i64.wrap (v3+1)),()),()),((r12.2.1.1,r12.2.1.2.1.1,r12.2.1.2.1.2,(),r12.2.1.2.2.2.1,r12.2.1.2.2.2.2.1,r12.2.1.2.2.2.2.2.1,r12.2.1.2.2.2.2.2.2.1,r12.2.1.2.2.2.2.2.2.2.1,(),r12.2.1.2.2.2.2.2.2.2.2.2.1,r12.2.1.2.2.2.2.2.2.2.2.2.2.1,r12.2.1.2.2.2.2.2.2.2.2.2.2.2,()),()),(r12.2.1.2.2.1,r12.2.1.2.2.2.2.2.2.2.2.1,())))
 else
 some (.inl ((((),()),(v0,()),(v1,()),(v2,()),((IntKind.i64.wrap (v3+1)),()),()),((v4,v5,v6,(),v7,v8,v9,v10,v11,(),v12,v13,v14,()),()),(v15,v16,())))
 else none
 else none
 else
 let r13:=yev (v4,(v5,v6),v15,v7,v8,v9,v10,v11,v16,v12,v13,v14) v3 v0
 bif r13 then
 let r14:=yaG v0
 bnd (yfM (v4,(v5,v6),v15,v7,v8,v9,v10,v11,v16,v12,v13,v14) v3 r14 ([r9]:List Int)) fun r15 =>
 some (.inl ((((),()),(v0,()),(v1,()),(v2,()),((IntKind.i64.wrap (v3+1)),()),()),((r15.2.1.1,r15.2.1.2.1.1,r15.2.1.2.1.2,(),r15.2.1.2.2.2.1,r15.2.1.2.2.2.2.1,r15.2.1.2.2.2.2.2.1,r15.2.1.2.2.2.2.2.2.1,r15.2.1.2.2.2.2.2.2.2.1,(),r15.2.1.2.2.2.2.2.2.2.2.2.1,r15.2.1.2.2.2.2.2.2.2.2.2.2.1,r15.2.1.2.2.2.2.2.2.2.2.2.2.2,()),()),(r15.2.1.2.2.1,r15.2.1.2.2.2.2.2.2.2.2.1,())))
 else
 some (.inl ((((),()),(v0,()),(v1,()),(v2,()),((IntKind.i64.wrap (v3+1)),()),()),((v4,v5,v6,(),v7,v8,v9,v10,v11,(),v12,v13,v14,()),()),(v15,v16,())))
 else
 some (.inr (.inl ((),((v4,v5,v6,(),v7,v8,v9,v10,v11,(),v12,v13,v14,()),()),(v15,v16,()))))
def yel (x:(ydH).X):=yvY x.1.2.1.1 x.1.2.2.1.1 x.1.2.2.2.1.1 x.1.2.2.2.2.1.1 x.2.1.1.1 x.2.1.1.2.1 x.2.1.1.2.2.1 x.2.1.1.2.2.2.2.1 x.2.1.1.2.2.2.2.2.1 x.2.1.1.2.2.2.2.2.2.1 x.2.1.1.2.2.2.2.2.2.2.1 x.2.1.1.2.2.2.2.2.2.2.2.1 x.2.1.1.2.2.2.2.2.2.2.2.2.2.1 x.2.1.1.2.2.2.2.2.2.2.2.2.2.2.1 x.2.1.1.2.2.2.2.2.2.2.2.2.2.2.2.1 x.2.2.1 x.2.2.2.1
def yEM (x:(yjV).X):(ydH).X:=((((),()),(x.1.2.1.1,()),(x.1.2.2.1.1,()),(x.1.2.2.2.1.1,()),(0,()),()),((x.2.1.1.1,x.2.1.1.2.1,x.2.1.1.2.2.1,(),x.2.1.1.2.2.2.2.1,x.2.1.1.2.2.2.2.2.1,x.2.1.1.2.2.2.2.2.2.1,x.2.1.1.2.2.2.2.2.2.2.1,x.2.1.1.2.2.2.2.2.2.2.2.1,(),x.2.1.1.2.2.2.2.2.2.2.2.2.2.1,x.2.1.1.2.2.2.2.2.2.2.2.2.2.2.1,x.2.1.1.2.2.2.2.2.2.2.2.2.2.2.2.1,()),()),(x.2.2.1,x.2.2.2.1,()))
def yHd:Code:=(zdD ynY 64 28).getD .skip
theorem yWz:zdD ynY 64 7=some (.block 0 (.loop yHd)):=by kernel_rfl
theorem yZO (x:(ydH).X):zg0 ⟨yua,61,yGC⟩ 0 yHd 28 ydH yjG yp5 x=yel x:=by kernel_rfl
def yE2 (x:(yjV).X):Nat:=18446744073709551616
def ywP (x:(yjV).X):Option ((yjG).X ⊕ (yp5).X):=zz yel (yE2 x) (yEM x)
def yFN:Seg:=⟨yjV,yjG,yp5,ywP⟩
def yGD:Nat→Option Seg:=fun q=>bif Nat.beq q 7 then some yFN else yGC q
theorem yTR:FrOk Tryz.prog ⟨yua,61,yGD⟩ ynY:=(yTQ).loop (sg:=yFN) ydH yEM (by decide) yWz yel yE2 (by decide) (fun _=>rfl) (fun x r _ h=>h) yZO
abbrev ygn:List Par:= [.pt tA (.pr .fz (.pr (.pr .fz .fz) (.pr (.ow (.pr (.ow .fz) (.pr (.ow (.pr .fz .fz)) (.pr .fz (.ow .fz))))) (.pr .fz (.pr .fz (.pr .fz (.pr .fz (.pr .fz (.pr (.ow (.pr .fz .fz)) (.pr .fz (.pr .fz .fz))))))))))),.rd tI,.rd tL]
abbrev yos:List OT:= []
def yqC (a0:dA) (a1:Int) (a2:List Int):Option (ResD yos×MutD ygn) :=
 let r1:=ydW a0.2.1 a1
 zjZ (ywP ((((),()),(a1,()),(a2,()),(r1,()),((),()),()),((a0.1,a0.2.1.1,a0.2.1.2,(),a0.2.2.2.1,a0.2.2.2.2.1,a0.2.2.2.2.2.1,a0.2.2.2.2.2.2.1,a0.2.2.2.2.2.2.2.1,(),a0.2.2.2.2.2.2.2.2.2.1,a0.2.2.2.2.2.2.2.2.2.2.1,a0.2.2.2.2.2.2.2.2.2.2.2,()),()),(a0.2.2.1,a0.2.2.2.2.2.2.2.2.1,()))) (fun y15 =>
 some ((),((y15.2.1.1.1,(y15.2.1.1.2.1,y15.2.1.1.2.2.1),y15.2.2.1,y15.2.1.1.2.2.2.2.1,y15.2.1.1.2.2.2.2.2.1,y15.2.1.1.2.2.2.2.2.2.1,y15.2.1.1.2.2.2.2.2.2.2.1,y15.2.1.1.2.2.2.2.2.2.2.2.1,y15.2.2.2.1,y15.2.1.1.2.2.2.2.2.2.2.2.2.2.1,y15.2.1.1.2.2.2.2.2.2.2.2.2.2.2.1,y15.2.1.1.2.2.2.2.2.2.2.2.2.2.2.2.1),()))) (fun y15 =>
 none)
theorem y3y (x:InD ygn):zjx ⟨yua,61,yGD⟩ Tryz.f230.results.toList ynY ygn yos x=yqC x.1 x.2.1 x.2.2.1:=by kernel_rfl
theorem yZe:ConOk Tryz.prog 230 ⟨ygn,yos,fun x=>yqC x.1 x.2.1 x.2.2.1⟩:=zj2 (yTR) Tryz.func230 (by kernel_rfl) (by kernel_rfl) Tryz.ntmps230.symm (by decide) (fun x r h=>(y3y x).trans h)
def yuS (a0:dA) (a1:Int) (a2:List Int):dA:=yE a0 a1 a2
def yoQ (a0:dA) (a1:Int) (a2:List Int):Bool:=yP a0.2.1 a1&&((a2.length:Int)==a0.2.1.1 - 1&&(a0.2.2.1.length:Int)==a0.2.1.1)
theorem y1m (a0:dA) (a1:Int) (a2:List Int) (hk:zi2 ygn (a0,a1,a2,())) (hq:yoQ a0 a1 a2=true):yqC a0 a1 a2=(fun n=>some ((),(n,()))) (yuS a0 a1 a2):=by
 simp only [yoQ,Bool.and_eq_true,beq_iff_eq]at hq
 have hg:=yk.1 (yca.1 hq.1).1
 have hp:=yrL hq.1
 have h1:ywP (yUh a1 a2 (yh a0.2.1 a1) a0)=some (.inl (yFb (yE a0 a1 a2))) :=
  zj9 (step:=yel) a0.2.2.1.length (fun i s=>yvz a1 a2 (yh a0.2.1 a1) i s) (ybD (yh a0.2.1 a1) a0.2.1.1 a1 a2) (fun _ s=>s.2.2.1.length=a0.2.2.1.length∧s.2.1=a0.2.1) (fun s=> .inl (yFb s)) (fun i s hi hs=>⟨by
   have hN:s.2.1.1=a0.2.1.1:=by rw [hs.2]
   simp only [yel,yvz,yvY,hs.1,zj5 (show (i:Int) < a0.2.2.1.length by omega),cond_true,wr (show -9223372036854775808≤(i:Int)+1 by omega) (by omega),Int.natCast_add,Int.natCast_one,Int.toNat_natCast,zks,ymG,yle,yev,ye9,ybD,yz5]
   rw [← hN]
   by_cases he:(i:Int)=yh a0.2.1 a1
   ·rw [show ((i:Int) !=yh a0.2.1 a1)=false by simp [he],show ((i:Int)==yh a0.2.1 a1)=true from beq_iff_eq.2 he]
    rw [yoP s i (dataAt a1) [ygi a2] (zkm (by rw [hs.1]; exact hi))]
    cases yda s i a1<;>rfl
   ·have hd:=y73 (N:=s.2.1.1) (i:=i) (p:=yh a0.2.1 a1) ⟨by omega,by omega⟩ ⟨by omega,by omega⟩ ⟨hp.1,by omega⟩ he
    rw [show ((i:Int) !=yh a0.2.1 a1)=true from bne_iff_ne.2 he,show ((i:Int)==yh a0.2.1 a1)=false from beq_eq_false_iff_ne.2 he,show (s.2.1.1 !=0)=true from bne_iff_ne.2 (by omega),
     wr (show -9223372036854775808≤(i:Int) - yh a0.2.1 a1 by omega) (by omega),wr (show -9223372036854775808≤(i:Int) - yh a0.2.1 a1 - 1 by omega) (by omega),wr (show -9223372036854775808≤(i:Int) - yh a0.2.1 a1 - 1+s.2.1.1 by omega) (by omega),zjD.2 (show 0≤((i:Int) - yh a0.2.1 a1 - 1+s.2.1.1).tmod s.2.1.1∧((i:Int) - yh a0.2.1 a1 - 1+s.2.1.1).tmod s.2.1.1 < a2.length by omega)]
    rw [yoP s i (dataAt a1) [nth a2 (((i:Int) - yh a0.2.1 a1 - 1+s.2.1.1).tmod s.2.1.1) 0] (zkm (by rw [hs.1]; exact hi))]
    cases yda s i a1<;>rfl,(ytT _ _ _ _ s i).trans hs.1,(ynm (yNV _ _ _ _ s i)).trans hs.2⟩) (fun s hs=>by simp only [yel,yvz,yvY,hs.1,zky (Int.le_refl _),cond_false]) a0 ⟨rfl,rfl⟩ _ (by show _ < 18446744073709551616; omega)
 unfold yqC yuS ydW
 exact (congrArg (fun z=>zjZ z _ _) h1).trans rfl
def yja (a0:dA) (a1:Int) (a2:List Int):Option (ResD yos×MutD ygn):=bif yoQ a0 a1 a2 then (fun n=>some ((),(n,()))) (yuS a0 a1 a2) else none
theorem y2o (a0:dA) (a1:Int) (a2:List Int) (h:yoQ a0 a1 a2=true):yja a0 a1 a2=(fun n=>some ((),(n,()))) (yuS a0 a1 a2):=by unfold yja; rw [h]; rfl
def yHz:Con:=⟨ygn,yos,fun x=>yja x.1 x.2.1 x.2.2.1⟩
theorem y2j:ConOk Tryz.prog 230 yHz:=(yZe).mono (fun x r hk h=>zkt h (fun hq=>y1m x.1 x.2.1 x.2.2.1 hk hq))
end
section
def yIp:Code:=(Tryz.f147.body).getD .skip
def yJa:Env:=zj3 TT [(208,yvl),(229,yJs),(230,yHz)] []
theorem yQZ:FrOk Tryz.prog ⟨yJa,54,fun _=>none⟩ yIp:=zj7 yb yc ⟨yHN,y4e,y2j,trivial⟩
def ySD:Nat→Option Seg:=fun _=>none
abbrev ye0:List Par:= [.pt tA (.pr .fz (.pr (.pr .fz .fz) (.pr (.ow (.pr (.ow .fz) (.pr (.ow (.pr .fz .fz)) (.pr .fz (.ow .fz))))) (.pr .fz (.pr .fz (.pr .fz (.pr .fz (.pr .fz (.pr (.ow (.pr .fz .fz)) (.pr .fz (.pr .fz .fz))))))))))),.rd tI,.rd tL]
abbrev ymj:List OT:= [⟨false,tI,.fz⟩]
def ynL (a0:dA) (a1:Int) (a2:List Int):Option (ResD ymj×MutD ye0) :=
 bif (leb 4 (IntKind.i64.wrap (a0.2.2.2.2.2.1 - a0.2.2.2.2.2.2.1))) then
 let r1:=yhB a0
 bif r1.2.2.2.2.2.2.2.2.2.2.1 then
 some ((6,()),(r1,()))
 else
 bif (zjR ([]:List Int).length a2.length 8) then
 let r2:=ymI r1 (r1.2.2.2.2.2.1,a1,(([]:List Int)++a2))
 bif r2.2.2.2.2.2.2.2.2.2.2.1 then
 some ((6,()),(r2,()))
 else
 bnd (yja (r2.1,r2.2.1,r2.2.2.1,r2.2.2.2.1,r2.2.2.2.2.1,(IntKind.i64.wrap (r2.2.2.2.2.2.1+1)),r2.2.2.2.2.2.2) a1 a2) fun r3 =>
 bif r3.2.1.2.2.2.2.2.2.2.2.2.2.1 then
 some ((6,()),(r3.2.1,()))
 else
 some ((0,()),(r3.2.1,()))
 else none
 else
 bif a0.2.2.2.2.2.2.2.2.2.2.1 then
 some ((6,()),(a0,()))
 else
 bif (zjR ([]:List Int).length a2.length 8) then
 let r4:=ymI a0 (a0.2.2.2.2.2.1,a1,(([]:List Int)++a2))
 bif r4.2.2.2.2.2.2.2.2.2.2.1 then
 some ((6,()),(r4,()))
 else
 bnd (yja (r4.1,r4.2.1,r4.2.2.1,r4.2.2.2.1,r4.2.2.2.2.1,(IntKind.i64.wrap (r4.2.2.2.2.2.1+1)),r4.2.2.2.2.2.2) a1 a2) fun r5 =>
 bif r5.2.1.2.2.2.2.2.2.2.2.2.2.1 then
 some ((6,()),(r5.2.1,()))
 else
 some ((0,()),(r5.2.1,()))
 else none
theorem y0G (x:InD ye0):zjx ⟨yJa,54,ySD⟩ Tryz.f147.results.toList yIp ye0 ymj x=ynL x.1 x.2.1 x.2.2.1:=by kernel_rfl
theorem yVg:ConOk Tryz.prog 147 ⟨ye0,ymj,fun x=>ynL x.1 x.2.1 x.2.2.1⟩:=zj2 (yQZ) Tryz.func147 (by kernel_rfl) (by kernel_rfl) Tryz.ntmps147.symm (by decide) (fun x r h=>(y0G x).trans h)
def ymJ (a0:dA) (a1:Int) (a2:List Int):Int×dA:=yac a0 a1 a2
def ymS (a0:dA) (a1:Int) (a2:List Int):Bool:=yP a0.2.1 a1&&((a2.length:Int)==a0.2.1.1 - 1&&(a0.2.2.1.length:Int)==a0.2.1.1)
theorem yYA (a0:dA) (a1:Int) (a2:List Int) (hk:zi2 ye0 (a0,a1,a2,())) (hq:ymS a0 a1 a2=true):ynL a0 a1 a2=(fun n=>some ((n.1,()),(n.2,()))) (ymJ a0 a1 a2):=by
 have hq':=hq
 simp only [ymS,Bool.and_eq_true,beq_iff_eq]at hq
 have hg:=yk.1 (yca.1 hq.1).1
 have hap:zjR ([]:List Int).length a2.length 8=true:=zkb.2 (by simp only [List.length_nil]; omega)
 have key: ∀ b:dA,b.2.1=a0.2.1→b.2.2.1.length=a0.2.2.1.length→yja (yak (yam b (b.2.2.2.2.2.1,a1,a2))) a1 a2=some ((),(yE (yak (yam b (b.2.2.2.2.2.1,a1,a2))) a1 a2,())):=fun b h1 h2=>y2o _ _ _ (by
  unfold yoQ
  rw [show (yak (yam b (b.2.2.2.2.2.1,a1,a2))).2.1=a0.2.1 from (ynm (yvN _ _)).trans h1,show (yak (yam b (b.2.2.2.2.2.1,a1,a2))).2.2.1.length=a0.2.2.1.length from (y5R _ _).trans h2]
  exact hq')
 unfold ynL ymJ yac yad
 simp only [yL9,ymI,List.nil_append,hap,cond_true]
 cases leb 4 (IntKind.i64.wrap (a0.2.2.2.2.2.1 - a0.2.2.2.2.2.2.1))
 ·have hd:=key a0 rfl rfl
  simp only [cond_false]
  generalize yam a0 (a0.2.2.2.2.2.1,a1,a2)=R at hd ⊢
  generalize yE (yak R) a1 a2=Q at hd ⊢
  unfold yak at hd
  simp only [cond_false,hd,zkd]
  unfold ye
  cases a0.2.2.2.2.2.2.2.2.2.2.1
  ·cases R.2.2.2.2.2.2.2.2.2.2.1
   ·cases Q.2.2.2.2.2.2.2.2.2.2.1<;>rfl
   ·rfl
  ·rfl
 ·have hd:=key (checkA a0) (yNR a0) (yNS a0)
  simp only [cond_true]
  generalize checkA a0=C at hd ⊢
  generalize yam C (C.2.2.2.2.2.1,a1,a2)=R at hd ⊢
  generalize yE (yak R) a1 a2=Q at hd ⊢
  unfold yak at hd
  simp only [cond_true,hd,zkd]
  unfold ye
  cases C.2.2.2.2.2.2.2.2.2.2.1
  ·cases R.2.2.2.2.2.2.2.2.2.2.1
   ·cases Q.2.2.2.2.2.2.2.2.2.2.1<;>rfl
   ·rfl
  ·rfl
def ysF (a0:dA) (a1:Int) (a2:List Int):Option (ResD ymj×MutD ye0):=bif ymS a0 a1 a2 then (fun n=>some ((n.1,()),(n.2,()))) (ymJ a0 a1 a2) else none
theorem yZC (a0:dA) (a1:Int) (a2:List Int) (h:ymS a0 a1 a2=true):ysF a0 a1 a2=(fun n=>some ((n.1,()),(n.2,()))) (ymJ a0 a1 a2):=by unfold ysF; rw [h]; rfl
def yEA:Con:=⟨ye0,ymj,fun x=>ysF x.1 x.2.1 x.2.2.1⟩
theorem yZx:ConOk Tryz.prog 147 yEA:=(yVg).mono (fun x r hk h=>zkt h (fun hq=>yYA x.1 x.2.1 x.2.2.1 hk hq))
end
section
def yIr:Code:=(Tryz.f185.body).getD .skip
def yJc:Env:=zj3 TT [(146,yHy),(147,yEA),(243,yBx)] [(36928,(.pr .fz .fz))]
theorem yQ1:FrOk Tryz.prog ⟨yJc,63,fun _=>none⟩ yIr:=zj7 yb yc ⟨y2i,yZx,yPq,trivial⟩
def ySF:Nat→Option Seg:=fun _=>none
abbrev ye1:List Par:= [.pt tA (.pr .fz (.pr (.pr .fz .fz) (.pr (.ow (.pr (.ow .fz) (.pr (.ow (.pr .fz .fz)) (.pr .fz (.ow .fz))))) (.pr .fz (.pr .fz (.pr .fz (.pr .fz (.pr .fz (.pr (.ow (.pr .fz .fz)) (.pr .fz (.pr .fz .fz))))))))))),.rd tI]
abbrev ymk:List OT:= [⟨false,tI,.fz⟩]
def ynM (a0:dA) (a1:Int):Option (ResD ymk×MutD ye1) :=
 let r1:=ykO a0 a1
 bif (ltb r1 0) then
 some ((0,()),(a0,()))
 else
 bif (inb r1 a0.2.2.2.2.2.2.2.2.1.length) then
 let r2:=yp a0 a1 ((nth a0.2.2.2.2.2.2.2.2.1 r1 (0,[])).2)
 bif (r2 !=0) then
 some ((r2,()),(a0,()))
 else
 bif (inb r1 a0.2.2.2.2.2.2.2.2.1.length) then
 bnd (ysF a0 a1 ((nth a0.2.2.2.2.2.2.2.2.1 r1 (0,[])).2)) fun r3 =>
 bif (r3.1.1==0) then
 bif (zjw 0 r1 r3.2.1.2.2.2.2.2.2.2.2.1.length) then
 bif (zjR ([]:List dW).length ((r3.2.1.2.2.2.2.2.2.2.2.1.drop (0:Int).toNat).take (r1 - 0).toNat).length 32) then
 bif (zjw (IntKind.i64.wrap (r1+1)) (r3.2.1.2.2.2.2.2.2.2.2.1.length:Int) r3.2.1.2.2.2.2.2.2.2.2.1.length) then
 bif (zjR (([]:List dW)++((r3.2.1.2.2.2.2.2.2.2.2.1.drop (0:Int).toNat).take (r1 - 0).toNat)).length ((r3.2.1.2.2.2.2.2.2.2.2.1.drop ((IntKind.i64.wrap (r1+1))).toNat).take ((r3.2.1.2.2.2.2.2.2.2.2.1.length:Int) - (IntKind.i64.wrap (r1+1))).toNat).length 32) then
 some ((r3.1.1,()),((r3.2.1.1,r3.2.1.2.1,r3.2.1.2.2.1,r3.2.1.2.2.2.1,r3.2.1.2.2.2.2.1,r3.2.1.2.2.2.2.2.1,r3.2.1.2.2.2.2.2.2.1,r3.2.1.2.2.2.2.2.2.2.1,((([]:List dW)++((r3.2.1.2.2.2.2.2.2.2.2.1.drop (0:Int).toNat).take (r1 - 0).toNat))++((r3.2.1.2.2.2.2.2.2.2.2.1.drop ((IntKind.i64.wrap (r1+1))).toNat).take ((r3.2.1.2.2.2.2.2.2.2.2.1.length:Int) - (IntKind.i64.wrap (r1+1))).toNat)),r3.2.1.2.2.2.2.2.2.2.2.2),()))
 else none
 else none
 else none
 else none
 else
 some ((r3.1.1,()),(r3.2.1,()))
 else none
 else none
theorem y0I (x:InD ye1):zjx ⟨yJc,63,ySF⟩ Tryz.f185.results.toList yIr ye1 ymk x=ynM x.1 x.2.1:=by kernel_rfl
theorem yVi:ConOk Tryz.prog 185 ⟨ye1,ymk,fun x=>ynM x.1 x.2.1⟩:=zj2 (yQ1) Tryz.func185 (by kernel_rfl) (by kernel_rfl) Tryz.ntmps185.symm (by decide) (fun x r h=>(y0I x).trans h)
def ymK (a0:dA) (a1:Int):Int×dA:=flushE a0 a1
def yzR (a0:dA) (a1:Int):Bool:=decide (a0.2.2.2.2.2.2.2.2.1.length≤1000)
theorem yYB (a0:dA) (a1:Int) (hk:zi2 ye1 (a0,a1,())) (hq:yzR a0 a1=true):ynM a0 a1=(fun n=>some ((n.1,()),(n.2,()))) (ymK a0 a1):=by
 have hq:=of_decide_eq_true hq
 unfold ynM ymK flushE
 simp only [ykO]
 cases h0:ltb (yo a0.2.2.2.2.2.2.2.2.1 a1) 0
 ·have h1:=zkr h0
  have hi:inb (yo a0.2.2.2.2.2.2.2.2.1 a1) a0.2.2.2.2.2.2.2.2.1.length=true:=(yno (d:=((0:Int),([]:List Int))) (zkx h1)).1
  simp only [hi,cond_true,cond_false]
  generalize hD:(nth a0.2.2.2.2.2.2.2.2.1 (yo a0.2.2.2.2.2.2.2.2.1 a1) (0,[])).2=D
  cases hc:(yp a0 a1 D !=0)
  ·obtain ⟨ha,hl,hw,hd,hs,hb,_⟩:=yNT (bne_eq_false_iff_eq.1 hc)
   rw [yZC a0 a1 D (by unfold ymS; rw [hs,hl,yG0 ha]; simp)]
   simp only [zkd,cond_false,ymJ,ySo]
   have hk:=zjD.1 hi
   cases hr:((yac a0 a1 D).1==0)
   ·rfl
   ·generalize yo a0.2.2.2.2.2.2.2.2.1 a1=K at h1 hk
    rw [wr (show -9223372036854775808≤K+1 by omega) (by omega),zj6.2 (show (0:Int)≤0∧0≤K∧K≤(a0.2.2.2.2.2.2.2.2.1.length:Int) by omega),zj6.2 (show 0≤K+1∧K+1≤(a0.2.2.2.2.2.2.2.2.1.length:Int)∧(a0.2.2.2.2.2.2.2.2.1.length:Int)≤(a0.2.2.2.2.2.2.2.2.1.length:Int) by omega),
     zkb.2 (by rw [List.length_take,List.length_drop,List.length_nil]; omega),zkb.2 (by rw [List.length_append,List.length_take,List.length_take,List.length_drop,List.length_drop,List.length_nil]; omega),y6m h1 hk.2]
    rw [beq_iff_eq.1 hr]; rfl
  ·rfl
 ·rfl
def yaM (a0:dA) (a1:Int):Option (ResD ymk×MutD ye1):=bif yzR a0 a1 then (fun n=>some ((n.1,()),(n.2,()))) (ymK a0 a1) else none
theorem yx7 (a0:dA) (a1:Int) (h:yzR a0 a1=true):yaM a0 a1=(fun n=>some ((n.1,()),(n.2,()))) (ymK a0 a1):=by unfold yaM; rw [h]; rfl
def ynl:Con:=⟨ye1,ymk,fun x=>yaM x.1 x.2.1⟩
theorem yx6:ConOk Tryz.prog 185 ynl:=(yVi).mono (fun x r hk h=>zkt h (fun hq=>yYB x.1 x.2.1 hk hq))
end
section
def yAa:Code:=(Tryz.f84.body).getD .skip
def yAk:Env:=zj3 TT [(103,yqe),(104,yzC),(135,yn),(185,ynl)] []
theorem yJA:FrOk Tryz.prog ⟨yAk,31,fun _=>none⟩ yAa:=zj7 yb yc ⟨yzJ,yL5,yu,yx6,trivial⟩
def yKa:Nat→Option Seg:=fun _=>none
abbrev yc2:List Par:= [.rd tA,.rd tI]
abbrev yj5:List OT:= [⟨false,tA,(.pr .fz (.pr (.pr .fz .fz) (.pr (.ow (.pr (.ow .fz) (.pr (.ow (.pr .fz .fz)) (.pr .fz (.ow .fz))))) (.pr .fz (.pr .fz (.pr .fz (.pr .fz (.pr .fz (.pr (.ow (.pr .fz .fz)) (.pr .fz (.pr .fz .fz)))))))))))⟩,⟨false,tI,.fz⟩]
def yhj (a0:dA) (a1:Int):Option (ResD yj5×MutD yc2) :=
 let r1:=ycA a0
 let r2:=ymL a0
 bif (r2==0) then
 let r3:=ya a1 0 (IntKind.i64.wrap (a0.2.1.2 - 1))
 bif (!r3) then
 some ((r1,2,()),())
 else
 bif (r2 !=0) then
 some ((r1,r2,()),())
 else
 bnd (yaM r1 a1) fun r4 =>
 some ((r4.2.1,r4.1.1,()),())
 else
 bif (r2 !=0) then
 some ((r1,r2,()),())
 else
 bnd (yaM r1 a1) fun r5 =>
 some ((r5.2.1,r5.1.1,()),())
theorem yN2 (x:InD yc2):zjx ⟨yAk,31,yKa⟩ Tryz.f84.results.toList yAa yc2 yj5 x=yhj x.1 x.2.1:=by kernel_rfl
theorem yKG:ConOk Tryz.prog 84 ⟨yc2,yj5,fun x=>yhj x.1 x.2.1⟩:=zj2 (yJA) Tryz.func84 (by kernel_rfl) (by kernel_rfl) Tryz.ntmps84.symm (by decide) (fun x r h=>(yN2 x).trans h)
def yfK (a0:dA) (a1:Int):dA×Int:=yow a0 a1
theorem yMN (a0:dA) (a1:Int) (hk:zi2 yc2 (a0,a1,())):yhj a0 a1=(fun n=>some ((n.1,n.2,()),())) (yfK a0 a1):=by
 unfold yhj yfK yow
 simp only [ycA,y6z]
 cases ha:yx a0
 ·rfl
 cases hd:ye a0
 ·have hg:=yk.1 (yR ha)
  rw [wr (show -9223372036854775808≤a0.2.1.2 - 1 by omega) (by omega),ybE,show (leb 0 a1&&leb a1 (a0.2.1.2 - 1))=yP a0.2.1 a1 by unfold yP; rw [yR ha]; rfl]
  cases yP a0.2.1 a1
  ·rfl
  ·rw [yx7 a0 a1 (decide_eq_true (Nat.le_trans (yb6 (yet ha) (yR ha)) (by omega)))]; rfl
 ·rfl
def yxy:Con:=⟨yc2,yj5,fun x=>(fun n=>some ((n.1,n.2,()),())) (yfK x.1 x.2.1)⟩
theorem yMX:ConOk Tryz.prog 84 yxy:=(yKG).mono (fun x r hk h=>(yMN x.1 x.2.1 hk).trans h)
end
end
end Go.Tf
