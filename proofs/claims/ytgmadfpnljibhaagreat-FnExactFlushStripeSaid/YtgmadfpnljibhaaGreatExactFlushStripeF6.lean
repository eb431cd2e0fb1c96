/- Functions of the program, and what they come to. -/
import Derived.Test.YtgmadfpnljibhaaGreatExactFlushStripeF5
namespace Go.Tf
noncomputable section
open Go.Proofs
set_option synthInstance.maxHeartbeats 400000
set_option synthInstance.maxSize 10000
set_option linter.unusedVariables false
set_option linter.unusedSimpArgs false
set_option maxRecDepth 100000
section
def yBI:Code:=(Tryz.f107.body).getD .skip
def yCb:Env:=zki TT [(129,yAu),(205,yvk)] []
theorem yIY:FrOk Tryz.prog ⟨yCb,39,fun _=>none⟩ yBI:=zkp yb yc ⟨yQ9,yHb,trivial⟩
def yJQ:Nat→Option Seg:=fun _=>none
abbrev ybU:List Par:= [.pt tA (.pr .fz (.pr (.pr .fz .fz) (.pr (.ow (.pr (.ow (.ow .fz)) (.pr (.ow (.pr .fz (.ow .fz))) (.pr .fz (.ow .fz))))) (.pr .fz (.pr .fz (.pr .fz (.pr .fz (.pr .fz (.pr (.ow (.pr .fz (.ow .fz))) (.pr .fz (.pr .fz .fz))))))))))),.rd tI,.rd tI,.rd tL]
abbrev ygG:List OT:= [⟨false,tB,.fz⟩]
def yje (a0:dA) (a1 a2:Int) (a3:List Int):Option (ResD ygG×MutD ybU) :=
 bif (inb a1 a0.2.2.1.length) then
 bif (((nth a0.2.2.1 a1 ([],[],false,[])).2).2).1 then
 some ((true,()),(a0,()))
 else
 let r1:=yhD a0
 bif (!r1.1) then
 some ((false,()),(r1.2,()))
 else
 bif (inb a1 r1.2.2.2.1.length) then
 let r2:=yi5 ((nth r1.2.2.2.1 a1 ([],[],false,[])).1,((nth r1.2.2.2.1 a1 ([],[],false,[])).2).1,(((nth r1.2.2.2.1 a1 ([],[],false,[])).2).2)) a2 a3
 bif (inb a1 r1.2.2.2.1.length) then
 some ((true,()),((r1.2.1,r1.2.2.1,(r1.2.2.2.1.set (a1).toNat r2.1),r1.2.2.2.2),()))
 else none
 else none
 else none
theorem yOU (x:InD ybU):zjH ⟨yCb,39,yJQ⟩ Tryz.f107.results.toList yBI ybU ygG x=yje x.1 x.2.1 x.2.2.1 x.2.2.2.1:=by kernel_rfl
theorem yLB:ConOk Tryz.prog 107 ⟨ybU,ygG,fun x=>yje x.1 x.2.1 x.2.2.1 x.2.2.2.1⟩:=zkh (yIY) Tryz.func107 (by kernel_rfl) (by kernel_rfl) Tryz.ntmps107.symm (by decide) (fun x r h=>(yOU x).trans h)
def yb2 (a0:dA) (a1 a2:Int) (a3:List Int):Bool×dA:=(!(yd (yeF a0 a1 a2 a3)),yeF a0 a1 a2 a3)
def yb4 (a0:dA) (a1 a2:Int) (a3:List Int):Bool:=inb a1 a0.2.2.1.length&& !(yd a0)
theorem yNp (a0:dA) (a1 a2:Int) (a3:List Int) (hk:zi9 ybU (a0,a1,a2,a3,())) (hq:yb4 a0 a1 a2 a3=true):yje a0 a1 a2 a3=(fun n=>some ((n.1,()),(n.2,()))) (yb2 a0 a1 a2 a3):=by
 simp only [yb4,Bool.and_eq_true,Bool.not_eq_true'] at hq
 unfold yje yb2
 simp only [y2O hq.2]
 unfold yeF yy6
 simp only [yTy hq.2,yao,hq.1,zkV,yi5]
 cases (nth a0.2.2.1 a1 yh).2.2.1<;>cases (opA a0).1<;>rfl
def yd9 (a0:dA) (a1 a2:Int) (a3:List Int):Option (ResD ygG×MutD ybU):=bif yb4 a0 a1 a2 a3 then (fun n=>some ((n.1,()),(n.2,()))) (yb2 a0 a1 a2 a3) else none
theorem yrI (a0:dA) (a1 a2:Int) (a3:List Int) (h:yb4 a0 a1 a2 a3=true):yd9 a0 a1 a2 a3=(fun n=>some ((n.1,()),(n.2,()))) (yb2 a0 a1 a2 a3):=by unfold yd9; rw [h]; rfl
def yiW:Con:=⟨ybU,ygG,fun x=>yd9 x.1 x.2.1 x.2.2.1 x.2.2.2.1⟩
theorem yrH:ConOk Tryz.prog 107 yiW:=(yLB).mono (fun x r hk h=>zkW h (fun hq=>yNp x.1 x.2.1 x.2.2.1 x.2.2.2.1 hk hq))
end
section
def yFS:Code:=(Tryz.f128.body).getD .skip
def yGp:Env:=zki TT [] []
theorem yMK:FrOk Tryz.prog ⟨yGp,23,fun _=>none⟩ yFS:=zkp yb yc trivial
def yOu:Nat→Option Seg:=fun _=>none
abbrev ykw:List Par:= [.rd tA,.rd tI]
abbrev yqz:List OT:= [⟨false,tS,(.pr .fz (.pr .fz (.pr .fz (.pr .fz (.pr .fz (.pr .fz (.pr .fz .fz)))))))⟩]
def ytN (a0:dA) (a1:Int):Option (ResD yqz×MutD ykw) :=
 some (((a0.1,a0.2.2.2.2.2.2.2.1,a1,a0.2.1.1,a0.2.1.2,a0.2.2.2.2.2.2.1,a0.2.2.2.1,a0.2.2.2.2.1),()),())
theorem yVX (x:InD ykw):zjH ⟨yGp,23,yOu⟩ Tryz.f128.results.toList yFS ykw yqz x=ytN x.1 x.2.1:=by kernel_rfl
theorem yQO:ConOk Tryz.prog 128 ⟨ykw,yqz,fun x=>ytN x.1 x.2.1⟩:=zkh (yMK) Tryz.func128 (by kernel_rfl) (by kernel_rfl) Tryz.ntmps128.symm (by decide) (fun x r h=>(yVX x).trans h)
def yqT (a0:dA) (a1:Int):dS :=
 (a0.1,a0.2.2.2.2.2.2.2.1,a1,a0.2.1.1,a0.2.1.2,a0.2.2.2.2.2.2.1,a0.2.2.2.1,a0.2.2.2.2.1)
def yCy:Con:=⟨ykw,yqz,fun x=>(fun n=>some ((n,()),())) (yqT x.1 x.2.1)⟩
theorem yTL (a0:dA) (a1:Int):ytN a0 a1=(fun n=>some ((n,()),())) (yqT a0 a1):=zkS (p:=fun (n:dS)=>((n,()),())) rfl
theorem yUK:ConOk Tryz.prog 128 yCy:=(yQO).mono (fun x r _ h=>(yTL x.1 x.2.1).trans h)
end
section
def yFP:Code:=(Tryz.f218.body).getD .skip
def yGm:Env:=zki TT [(122,yqN),(126,yv),(131,yvp)] []
theorem yMA:FrOk Tryz.prog ⟨yGm,44,fun _=>none⟩ yFP:=zkp yb yc ⟨yzw,yP,yHe,trivial⟩
def yOr:Nat→Option Seg:=fun _=>none
abbrev ykr:List Par:= [.rd tS]
abbrev yqu:List OT:= [⟨false,tB,.fz⟩]
def ytK (a0:dS):Option (ResD yqu×MutD ykr) :=
 let r1:=ye a0.1 1 60000
 bif r1 then
 let r2:=ye a0.2.1 0 60000
 bif r2 then
 let r3:=ye a0.2.2.2.2.2.1 0 60000
 bif r3 then
 let r4:=yey (a0.2.2.2.1,a0.2.2.2.2.1)
 bif r4 then
 let r5:=ye a0.2.2.1 0 (IntKind.i64.wrap (a0.2.2.2.1 - 1))
 bif r5 then
 let r6:=yff (a0.2.2.2.1,a0.2.2.2.2.1) a0.2.2.2.2.2.2.1 a0.2.2.2.2.2.2.2
 some ((r6,()),())
 else
 some ((false,()),())
 else
 some ((false,()),())
 else
 some ((false,()),())
 else
 some ((false,()),())
 else
 some ((false,()),())
theorem yVR (x:InD ykr):zjH ⟨yGm,44,yOr⟩ Tryz.f218.results.toList yFP ykr yqu x=ytK x.1:=by kernel_rfl
theorem yQI:ConOk Tryz.prog 218 ⟨ykr,yqu,fun x=>ytK x.1⟩:=zkh (yMA) Tryz.func218 (by kernel_rfl) (by kernel_rfl) Tryz.ntmps218.symm (by decide) (fun x r h=>(yVR x).trans h)
def ygh (a0:dS):Bool :=
 let r1:=ye a0.1 1 60000
 bif r1 then
 let r2:=ye a0.2.1 0 60000
 bif r2 then
 let r3:=ye a0.2.2.2.2.2.1 0 60000
 bif r3 then
 let r4:=yey (a0.2.2.2.1,a0.2.2.2.2.1)
 bif r4 then
 let r5:=ye a0.2.2.1 0 (IntKind.i64.wrap (a0.2.2.2.1 - 1))
 bif r5 then
 let r6:=yff (a0.2.2.2.1,a0.2.2.2.2.1) a0.2.2.2.2.2.2.1 a0.2.2.2.2.2.2.2
 r6
 else
 false
 else
 false
 else
 false
 else
 false
 else
 false
def yCu:Con:=⟨ykr,yqu,fun x=>(fun n=>some ((n,()),())) (ygh x.1)⟩
theorem yTF (a0:dS):ytK a0=(fun n=>some ((n,()),())) (ygh a0):=zkS (p:=fun (n:Bool)=>((n,()),())) (zkx (p:=fun (n:Bool)=>((n,()),())) (zkx (p:=fun (n:Bool)=>((n,()),())) (zkx (p:=fun (n:Bool)=>((n,()),())) (zkx (p:=fun (n:Bool)=>((n,()),())) (zkx (p:=fun (n:Bool)=>((n,()),())) rfl rfl) rfl) rfl) rfl) rfl)
theorem yUG:ConOk Tryz.prog 218 yCu:=(yQI).mono (fun x r _ h=>(yTF x.1).trans h)
theorem yZc (s:dS):ygh s=ycl s:=by
 rw [Bool.eq_iff_iff,y1D]
 unfold ygh yff
 simp only [yTx,yaB]
 cases hg:yf (s.2.2.2.1,s.2.2.2.2.1)
 ·cases ya s.1 1 60000<;>cases ya s.2.1 0 60000<;>cases ya s.2.2.2.2.2.1 0 60000<;>simp
 have hg2:=ym.1 hg
 simp only at hg2
 rw [wr (show -9223372036854775808≤s.2.2.2.1 - 1 by omega) (by omega)]
 simp only [← yr9]
 cases ya s.1 1 60000
 ·simp
 cases ya s.2.1 0 60000
 ·simp
 cases ya s.2.2.2.2.2.1 0 60000
 ·simp
 cases ya s.2.2.1 0 (s.2.2.2.1 - 1)
 ·simp
 cases hl:ya s.2.2.2.2.2.2.1 (-1) (s.2.2.2.1 - 1)
 ·simp
 cases ya s.2.2.2.2.2.2.2 0 s.2.2.2.2.1
 ·simp
 have:=yr9.1 hl
 by_cases h0:s.2.2.2.2.2.2.2=0
 ·simp [h0]
 ·simp [h0]; omega
end
section
def yD3:Code:=(Tryz.f201.body).getD .skip
def yEH:Env:=zki TT [(218,yCu)] []
theorem yKI:FrOk Tryz.prog ⟨yEH,24,fun _=>none⟩ yD3:=zkp yb yc ⟨yUG,trivial⟩
def yL7:Nat→Option Seg:=fun _=>none
abbrev yhU:List Par:= [.rd tS]
abbrev yn7:List OT:= [⟨false,tL,(.ow .fz)⟩]
def yrJ (a0:dS):Option (ResD yn7×MutD yhU) :=
 let r1:=ygh a0
 bif (!r1) then
 some (([],()),())
 else
 some ((([21317,a0.1,a0.2.1,a0.2.2.1,a0.2.2.2.1,a0.2.2.2.2.1,a0.2.2.2.2.2.1,(IntKind.i64.wrap (a0.2.2.2.2.2.2.1+1)),a0.2.2.2.2.2.2.2]:List Int),()),())
theorem ySt (x:InD yhU):zjH ⟨yEH,24,yL7⟩ Tryz.f201.results.toList yD3 yhU yn7 x=yrJ x.1:=by kernel_rfl
theorem yNy:ConOk Tryz.prog 201 ⟨yhU,yn7,fun x=>yrJ x.1⟩:=zkh (yKI) Tryz.func201 (by kernel_rfl) (by kernel_rfl) Tryz.ntmps201.symm (by decide) (fun x r h=>(ySt x).trans h)
def yi4 (a0:dS):(List Int) :=
 let r1:=ygh a0
 bif (!r1) then
 []
 else
 ([21317,a0.1,a0.2.1,a0.2.2.1,a0.2.2.2.1,a0.2.2.2.2.1,a0.2.2.2.2.2.1,(IntKind.i64.wrap (a0.2.2.2.2.2.2.1+1)),a0.2.2.2.2.2.2.2]:List Int)
def yAt:Con:=⟨yhU,yn7,fun x=>(fun n=>some ((n,()),())) (yi4 x.1)⟩
theorem yQr (a0:dS):yrJ a0=(fun n=>some ((n,()),())) (yi4 a0):=zkS (p:=fun (n:(List Int))=>((n,()),())) (zkx (p:=fun (n:(List Int))=>((n,()),())) rfl rfl)
theorem yQ8:ConOk Tryz.prog 201 yAt:=(yNy).mono (fun x r _ h=>(yQr x.1).trans h)
theorem y1u (s:dS):yi4 s=yaD s:=by
 unfold yi4 yaD
 rw [yZc]
end
section
def yhK:Code:=(Tryz.f130.body).getD .skip
def ynP:Env:=zki TT [(133,yqO),(200,yde),(219,ylV)] []
theorem yKF:FrOk Tryz.prog ⟨ynP,34,fun _=>none⟩ yhK:=zkp yb yc ⟨yzx,ygU,yvP,trivial⟩
def yzQ:Nat→Option Seg:=fun _=>none
def yaP:Shape:=⟨[(2,false,[.ptr 64 0]),(3,false,[.ptr 4224 0]),(17,false,[.br tW]),(18,false,[.int .i64]),(19,false,[.int .i64])],[(64,[.nil,.nil,.bool,.nil]),(4224,[.at 800000000,.at 800000001,.bool,.at 800000002])],[(800000000,tL,(.ow .fz)),(800000001,tW,(.pr .fz (.ow .fz))),(800000002,tI,.fz)]⟩
def yer:Shape:=⟨[(2,false,[.ptr 64 0]),(3,false,[.ptr 4224 0]),(17,false,[.br tW]),(18,false,[.int .i64]),(19,false,[.ci .i64 0])],[(64,[.nil,.nil,.bool,.nil]),(4224,[.at 800000000,.at 800000001,.bool,.at 800000002])],[(800000000,tL,(.ow .fz)),(800000001,tW,(.pr .fz (.ow .fz))),(800000002,tI,.fz)]⟩
def yem:Shape:=⟨[(2,false,[.ptr 64 0]),(3,false,[.ptr 4224 0])],[(64,[.nil,.nil,.bool,.nil]),(4224,[.at 800000000,.at 800000001,.bool,.at 800000002])],[(800000000,tL,(.ow .fz)),(800000001,tW,(.pr .fz (.ow .fz))),(800000002,tI,.fz)]⟩
def yiH:Shape:=⟨[],[],[]⟩
abbrev yno (v0:List dW) (v1 v2:Int) (v3 v4:dM):(yaP).X:=((((),()),((),()),(v0,()),(v1,()),(v2,()),()),(((),(),v3.2.2.1,(),()),((),(),v4.2.2.1,(),()),()),(v4.1,v4.2.1,v4.2.2.2,()))
abbrev yI9 (v0:List dW) (v1:Int) (v2 v3:dM):(yer).X:=((((),()),((),()),(v0,()),(v1,()),((),()),()),(((),(),v2.2.2.1,(),()),((),(),v3.2.2.1,(),()),()),(v3.1,v3.2.1,v3.2.2.2,()))
abbrev ywM (v0 v1:dM):(yem).X:=((((),()),((),()),()),(((),(),v0.2.2.1,(),()),((),(),v1.2.2.1,(),()),()),(v1.1,v1.2.1,v1.2.2.2,()))
def ynB (v0:List dW) (v1 v2:Int) (v3 v4:Bool) (v5:List (List Int)) (v6:List dW) (v7:List Int):Option ((yaP).X ⊕ ((yem).X ⊕ (yiH).X)) :=
 bif (ltb v2 v1) then
 bif (inb v2 v0.length) then
 let r4:=yi ((nth v0 v2 (0,[])).2)
 bif (inb ((nth v0 v2 (0,[])).1) v5.length) then
 some (.inl ((((),()),((),()),(v0,()),(v1,()),((IntKind.i64.wrap (v2+1)),()),()),(((),(),v3,(),()),((),(),v4,(),()),()),((v5.set ((nth v0 v2 (0,[])).1).toNat r4),v6,v7,())))
 else none
 else none
 else
 some (.inr (.inl ((((),()),((),()),()),(((),(),v3,(),()),((),(),v4,(),()),()),(v5,v6,v7,()))))
def ya2 (x:(yaP).X):=ynB x.1.2.2.1.1 x.1.2.2.2.1.1 x.1.2.2.2.2.1.1 x.2.1.1.2.2.1 x.2.1.2.1.2.2.1 x.2.2.1 x.2.2.2.1 x.2.2.2.2.1
def yws (x:(yer).X):(yaP).X:=((((),()),((),()),(x.1.2.2.1.1,()),(x.1.2.2.2.1.1,()),(0,()),()),(((),(),x.2.1.1.2.2.1,(),()),((),(),x.2.1.2.1.2.2.1,(),()),()),(x.2.2.1,x.2.2.2.1,x.2.2.2.2.1,()))
def yyc:Code:=(zdI yhK 64 244).getD .skip
theorem yKg:zdI yhK 64 61=some (.block 0 (.loop yyc)):=by kernel_rfl
theorem yLR (x:(yaP).X):zg7 ⟨ynP,34,yzQ⟩ 0 yyc 244 yaP yem yiH x=ya2 x:=by kernel_rfl
def ywD (x:(yer).X):Nat:=18446744073709551616
def ypi (x:(yer).X):Option ((yem).X ⊕ (yiH).X):=zr ya2 (ywD x) (yws x)
def ywQ:Seg:=⟨yer,yem,yiH,ypi⟩
def yzR:Nat→Option Seg:=fun q=>bif Nat.beq q 61 then some ywQ else yzQ q
theorem yKG:FrOk Tryz.prog ⟨ynP,34,yzR⟩ yhK:=(yKF).loop (sg:=ywQ) yaP yws (by decide) yKg ya2 ywD (by decide) (fun _=>rfl) (fun x r _ h=>h) yLR
abbrev yeI:List Par:= [.rd tM]
abbrev yn5:List OT:= [⟨false,tM,(.pr (.ow (.ow .fz)) (.pr (.ow (.pr .fz (.ow .fz))) (.pr .fz (.ow .fz))))⟩]
def yjV (a0:dM):Option (ResD yn5×MutD yeI) :=
 let r1:=yaY a0
 let r2:=ycZ a0
 bif (!(!r2)) then
 bif a0.2.2.1 then
 some ((r1,()),())
 else
 zjw (ypi ((((),()),((),()),(a0.2.1,()),((a0.2.1.length:Int),()),((),()),()),(((),(),false,(),()),((),(),r1.2.2.1,(),()),()),(r1.1,r1.2.1,r1.2.2.2,()))) (fun y4 =>
 some (((y4.2.2.1,[],y4.2.1.2.1.2.2.1,y4.2.2.2.2.1),()),())) (fun y4 =>
 none)
 else
 some ((r1,()),())
theorem ySr (x:InD yeI):zjH ⟨ynP,34,yzR⟩ Tryz.f130.results.toList yhK yeI yn5 x=yjV x.1:=by kernel_rfl
theorem yNw:ConOk Tryz.prog 130 ⟨yeI,yn5,fun x=>yjV x.1⟩:=zkh (yKG) Tryz.func130 (by kernel_rfl) (by kernel_rfl) Tryz.ntmps130.symm (by decide) (fun x r h=>(ySr x).trans h)
def yi3 (a0:dM):dM:=yfc a0
theorem yQp (a0:dM) (hk:zi9 yeI (a0,())):yjV a0=(fun n=>some ((n,()),())) (yi3 a0):=by
 have hb2:a0.2.1.length * 32≤2 ^ 47:=hk.1.2.1.1
 unfold yjV yi3 yfc
 simp only [yaY,ycZ]
 cases hm:yr a0
 ·rfl
 have h1:ypi (yI9 a0.2.1 a0.2.1.length yh a0)=some (.inl (ywM yh (yd7 (fun _=>true) a0.2.1 a0.1,a0.2))) :=
  zks (step:=ya2) a0.2.1.length (fun i s=>yno a0.2.1 a0.2.1.length i yh (s,a0.2)) (yfM (fun _=>true) a0.2.1) (fun i s=>s.length=a0.1.length) (fun s=> .inl (ywM yh (s,a0.2))) (fun i s hi hs=>by
   have hw:=(y04 hm hi).1
   refine ⟨?_,yHB.trans hs⟩
   simp only [ya2,yno,ynB,zjI (show (i:Int) < a0.2.1.length by omega),cond_true,wr (show -9223372036854775808≤(i:Int)+1 by omega) (by omega),Int.natCast_add,Int.natCast_one,Int.toNat_natCast,zkO hi,hs,hw,yfM,yi]) (fun s hs=>by simp only [ya2,yno,ynB,zkm (Int.le_refl _),cond_false]) a0.1 rfl _ (by show _ < 18446744073709551616; omega)
 rw [h1]
 cases hf:a0.2.2.1
 ·exact congrArg (fun z=>some (((yd7 (fun _=>true) a0.2.1 a0.1,([]:List dW),z,a0.2.2.2),()),())) hf
 ·rfl
def yAs:Con:=⟨yeI,yn5,fun x=>(fun n=>some ((n,()),())) (yi3 x.1)⟩
theorem yQ7:ConOk Tryz.prog 130 yAs:=(yNw).mono (fun x r hk h=>(yQp x.1 hk).trans h)
end
section
def yhJ:Code:=(Tryz.f202.body).getD .skip
def ynO:Env:=zki TT [(130,yAs),(205,yvk)] []
theorem yKD:FrOk Tryz.prog ⟨ynO,38,fun _=>none⟩ yhJ:=zkp yb yc ⟨yQ7,yHb,trivial⟩
def yzO:Nat→Option Seg:=fun _=>none
def yaO:Shape:=⟨[(0,false,[.ptr 1000000000 0]),(8,false,[.int .i64]),(9,false,[.int .i64])],[(1000000000,[.int .i64,.int .i64,.int .i64,.at 800000000,.int .i64,.int .i64,.int .i64,.int .i64,.int .i64,.at 800000001,.int .i64,.bool,.bool])],[(800000000,tM,(.pr (.ow (.ow .fz)) (.pr (.ow (.pr .fz (.ow .fz))) (.pr .fz (.ow .fz))))),(800000001,tW,(.pr .fz (.ow .fz)))]⟩
def yeq:Shape:=⟨[(0,false,[.ptr 1000000000 0]),(8,false,[.int .i64]),(9,false,[.ci .i64 0])],[(1000000000,[.int .i64,.int .i64,.int .i64,.at 800000000,.int .i64,.int .i64,.int .i64,.int .i64,.int .i64,.at 800000001,.int .i64,.bool,.bool])],[(800000000,tM,(.pr (.ow (.ow .fz)) (.pr (.ow (.pr .fz (.ow .fz))) (.pr .fz (.ow .fz))))),(800000001,tW,(.pr .fz (.ow .fz)))]⟩
def yel:Shape:=⟨[],[(1000000000,[.int .i64,.int .i64,.int .i64,.at 800000000,.int .i64,.int .i64,.int .i64,.int .i64,.int .i64,.at 800000001,.int .i64,.bool,.bool])],[(800000000,tM,(.pr (.ow (.ow .fz)) (.pr (.ow (.pr .fz (.ow .fz))) (.pr .fz (.ow .fz))))),(800000001,tW,(.pr .fz (.ow .fz)))]⟩
def yev:Shape:=⟨[(2,false,[.bool])],[(1000000000,[.int .i64,.int .i64,.int .i64,.at 800000000,.int .i64,.int .i64,.int .i64,.int .i64,.int .i64,.at 800000001,.int .i64,.bool,.bool])],[(800000000,tM,(.pr (.ow (.ow .fz)) (.pr (.ow (.pr .fz (.ow .fz))) (.pr .fz (.ow .fz))))),(800000001,tW,(.pr .fz (.ow .fz)))]⟩
abbrev yhb (v0 v1:Int) (v2:dA):(yaO).X:=((((),()),(v0,()),(v1,()),()),((v2.1,v2.2.1.1,v2.2.1.2,(),v2.2.2.2.1,v2.2.2.2.2.1,v2.2.2.2.2.2.1,v2.2.2.2.2.2.2.1,v2.2.2.2.2.2.2.2.1,(),v2.2.2.2.2.2.2.2.2.2.1,v2.2.2.2.2.2.2.2.2.2.2.1,v2.2.2.2.2.2.2.2.2.2.2.2,()),()),(v2.2.2.1,v2.2.2.2.2.2.2.2.2.1,()))
abbrev yI8 (v0:Int) (v1:dA):(yeq).X:=((((),()),(v0,()),((),()),()),((v1.1,v1.2.1.1,v1.2.1.2,(),v1.2.2.2.1,v1.2.2.2.2.1,v1.2.2.2.2.2.1,v1.2.2.2.2.2.2.1,v1.2.2.2.2.2.2.2.1,(),v1.2.2.2.2.2.2.2.2.2.1,v1.2.2.2.2.2.2.2.2.2.2.1,v1.2.2.2.2.2.2.2.2.2.2.2,()),()),(v1.2.2.1,v1.2.2.2.2.2.2.2.2.1,()))
abbrev yns (v0:dA):(yel).X:=((),((v0.1,v0.2.1.1,v0.2.1.2,(),v0.2.2.2.1,v0.2.2.2.2.1,v0.2.2.2.2.2.1,v0.2.2.2.2.2.2.1,v0.2.2.2.2.2.2.2.1,(),v0.2.2.2.2.2.2.2.2.2.1,v0.2.2.2.2.2.2.2.2.2.2.1,v0.2.2.2.2.2.2.2.2.2.2.2,()),()),(v0.2.2.1,v0.2.2.2.2.2.2.2.2.1,()))
abbrev ynu (v0:Bool) (v1:dA):(yev).X:=(((v0,()),()),((v1.1,v1.2.1.1,v1.2.1.2,(),v1.2.2.2.1,v1.2.2.2.2.1,v1.2.2.2.2.2.1,v1.2.2.2.2.2.2.1,v1.2.2.2.2.2.2.2.1,(),v1.2.2.2.2.2.2.2.2.2.1,v1.2.2.2.2.2.2.2.2.2.2.1,v1.2.2.2.2.2.2.2.2.2.2.2,()),()),(v1.2.2.1,v1.2.2.2.2.2.2.2.2.1,()))
def ynA (v0 v1 v2 v3 v4 v5 v6 v7 v8 v9 v10:Int) (v11 v12:Bool) (v13:List dM) (v14:List dW):Option ((yaO).X ⊕ ((yel).X ⊕ (yev).X)) :=
 bif (ltb v1 v0) then
 bif (inb v1 v13.length) then
 bif (((nth v13 v1 ([],[],false,[])).2).2).1 then
 some (.inl ((((),()),(v0,()),((IntKind.i64.wrap (v1+1)),()),()),((v2,v3,v4,(),v5,v6,v7,v8,v9,(),v10,v11,v12,()),()),(v13,v14,())))
 else
 let r3:=yhD (v2,(v3,v4),v13,v5,v6,v7,v8,v9,v14,v10,v11,v12)
 bif (!r3.1) then
 some (.inr (.inr (((false,()),()),((r3.2.1,r3.2.2.1.1,r3.2.2.1.2,(),r3.2.2.2.2.1,r3.2.2.2.2.2.1,r3.2.2.2.2.2.2.1,r3.2.2.2.2.2.2.2.1,r3.2.2.2.2.2.2.2.2.1,(),r3.2.2.2.2.2.2.2.2.2.2.1,r3.2.2.2.2.2.2.2.2.2.2.2.1,r3.2.2.2.2.2.2.2.2.2.2.2.2,()),()),(r3.2.2.2.1,r3.2.2.2.2.2.2.2.2.2.1,()))))
 else
 bif (inb v1 r3.2.2.2.1.length) then
 let r4:=yi3 ((nth r3.2.2.2.1 v1 ([],[],false,[])).1,((nth r3.2.2.2.1 v1 ([],[],false,[])).2).1,(((nth r3.2.2.2.1 v1 ([],[],false,[])).2).2))
 bif (inb v1 r3.2.2.2.1.length) then
 some (.inl ((((),()),(v0,()),((IntKind.i64.wrap (v1+1)),()),()),((r3.2.1,r3.2.2.1.1,r3.2.2.1.2,(),r3.2.2.2.2.1,r3.2.2.2.2.2.1,r3.2.2.2.2.2.2.1,r3.2.2.2.2.2.2.2.1,r3.2.2.2.2.2.2.2.2.1,(),r3.2.2.2.2.2.2.2.2.2.2.1,r3.2.2.2.2.2.2.2.2.2.2.2.1,r3.2.2.2.2.2.2.2.2.2.2.2.2,()),()),((r3.2.2.2.1.set (v1).toNat r4),r3.2.2.2.2.2.2.2.2.2.1,())))
 else none
 else none
 else none
 else
 some (.inr (.inl ((),((v2,v3,v4,(),v5,v6,v7,v8,v9,(),v10,v11,v12,()),()),(v13,v14,()))))
def ya1 (x:(yaO).X):=ynA x.1.2.1.1 x.1.2.2.1.1 x.2.1.1.1 x.2.1.1.2.1 x.2.1.1.2.2.1 x.2.1.1.2.2.2.2.1 x.2.1.1.2.2.2.2.2.1 x.2.1.1.2.2.2.2.2.2.1 x.2.1.1.2.2.2.2.2.2.2.1 x.2.1.1.2.2.2.2.2.2.2.2.1 x.2.1.1.2.2.2.2.2.2.2.2.2.2.1 x.2.1.1.2.2.2.2.2.2.2.2.2.2.2.1 x.2.1.1.2.2.2.2.2.2.2.2.2.2.2.2.1 x.2.2.1 x.2.2.2.1
def ywr (x:(yeq).X):(yaO).X:=((((),()),(x.1.2.1.1,()),(0,()),()),((x.2.1.1.1,x.2.1.1.2.1,x.2.1.1.2.2.1,(),x.2.1.1.2.2.2.2.1,x.2.1.1.2.2.2.2.2.1,x.2.1.1.2.2.2.2.2.2.1,x.2.1.1.2.2.2.2.2.2.2.1,x.2.1.1.2.2.2.2.2.2.2.2.1,(),x.2.1.1.2.2.2.2.2.2.2.2.2.2.1,x.2.1.1.2.2.2.2.2.2.2.2.2.2.2.1,x.2.1.1.2.2.2.2.2.2.2.2.2.2.2.2.1,()),()),(x.2.2.1,x.2.2.2.1,()))
def yyb:Code:=(zdI yhJ 64 52).getD .skip
theorem yKf:zdI yhJ 64 13=some (.block 0 (.loop yyb)):=by kernel_rfl
theorem yLQ (x:(yaO).X):zg7 ⟨ynO,38,yzO⟩ 0 yyb 52 yaO yel yev x=ya1 x:=by kernel_rfl
def ywC (x:(yeq).X):Nat:=18446744073709551616
def yph (x:(yeq).X):Option ((yel).X ⊕ (yev).X):=zr ya1 (ywC x) (ywr x)
def ywP:Seg:=⟨yeq,yel,yev,yph⟩
def yzP:Nat→Option Seg:=fun q=>bif Nat.beq q 13 then some ywP else yzO q
theorem yKE:FrOk Tryz.prog ⟨ynO,38,yzP⟩ yhJ:=(yKD).loop (sg:=ywP) yaO ywr (by decide) yKf ya1 ywC (by decide) (fun _=>rfl) (fun x r _ h=>h) yLQ
abbrev ycE:List Par:= [.pt tA (.pr .fz (.pr (.pr .fz .fz) (.pr (.ow (.pr (.ow (.ow .fz)) (.pr (.ow (.pr .fz (.ow .fz))) (.pr .fz (.ow .fz))))) (.pr .fz (.pr .fz (.pr .fz (.pr .fz (.pr .fz (.pr (.ow (.pr .fz (.ow .fz))) (.pr .fz (.pr .fz .fz)))))))))))]
abbrev yiA:List OT:= [⟨false,tB,.fz⟩]
def yjU (a0:dA):Option (ResD yiA×MutD ycE) :=
 zjw (yph ((((),()),((a0.2.2.1.length:Int),()),((),()),()),((a0.1,a0.2.1.1,a0.2.1.2,(),a0.2.2.2.1,a0.2.2.2.2.1,a0.2.2.2.2.2.1,a0.2.2.2.2.2.2.1,a0.2.2.2.2.2.2.2.1,(),a0.2.2.2.2.2.2.2.2.2.1,a0.2.2.2.2.2.2.2.2.2.2.1,a0.2.2.2.2.2.2.2.2.2.2.2,()),()),(a0.2.2.1,a0.2.2.2.2.2.2.2.2.1,()))) (fun y4 =>
 some ((true,()),((y4.2.1.1.1,(y4.2.1.1.2.1,y4.2.1.1.2.2.1),y4.2.2.1,y4.2.1.1.2.2.2.2.1,y4.2.1.1.2.2.2.2.2.1,y4.2.1.1.2.2.2.2.2.2.1,y4.2.1.1.2.2.2.2.2.2.2.1,y4.2.1.1.2.2.2.2.2.2.2.2.1,y4.2.2.2.1,y4.2.1.1.2.2.2.2.2.2.2.2.2.2.1,y4.2.1.1.2.2.2.2.2.2.2.2.2.2.2.1,y4.2.1.1.2.2.2.2.2.2.2.2.2.2.2.2.1),()))) (fun y4 =>
 some ((y4.1.1.1,()),((y4.2.1.1.1,(y4.2.1.1.2.1,y4.2.1.1.2.2.1),y4.2.2.1,y4.2.1.1.2.2.2.2.1,y4.2.1.1.2.2.2.2.2.1,y4.2.1.1.2.2.2.2.2.2.1,y4.2.1.1.2.2.2.2.2.2.2.1,y4.2.1.1.2.2.2.2.2.2.2.2.1,y4.2.2.2.1,y4.2.1.1.2.2.2.2.2.2.2.2.2.2.1,y4.2.1.1.2.2.2.2.2.2.2.2.2.2.2.1,y4.2.1.1.2.2.2.2.2.2.2.2.2.2.2.2.1),())))
theorem ySq (x:InD ycE):zjH ⟨ynO,38,yzP⟩ Tryz.f202.results.toList yhJ ycE yiA x=yjU x.1:=by kernel_rfl
theorem yNv:ConOk Tryz.prog 202 ⟨ycE,yiA,fun x=>yjU x.1⟩:=zkh (yKE) Tryz.func202 (by kernel_rfl) (by kernel_rfl) Tryz.ntmps202.symm (by decide) (fun x r h=>(ySq x).trans h)
def yi2 (a0:dA):Bool×dA:=(!(yd (yw a0)),yw a0)
def ye6 (a0:dA):Bool:= !(yd a0)
theorem yQo (a0:dA) (hk:zi9 ycE (a0,())) (hq:ye6 a0=true):yjU a0=(fun n=>some ((n.1,()),(n.2,()))) (yi2 a0):=by
 have hb:a0.2.2.1.length * 80≤2 ^ 47:=hk.1.2.2.1.1
 have h1:yph (yI8 a0.2.2.1.length a0)=some (bif yd (yw a0) then .inr (ynu false (yw a0)) else .inl (yns (yw a0))):=by
  have:=zkr (step:=ya1) a0.2.2.1.length (fun i s=>yhb a0.2.2.1.length i s) (fun i s=>bif yd (yy s i) then (.inr (yy s i):dA ⊕ dA) else .inl (yy s i)) (fun _ s=>s.2.2.1.length=a0.2.2.1.length∧yd s=false) id
   (fun b=>bif yd b then .inr (ynu false b) else .inl (yns b)) (fun i s hi hs=>by
    constructor
    ·rw [y1k hs.2]
     simp only [ya1,yhb,ynA,hs.1,zjI (show (i:Int) < a0.2.2.1.length by omega),cond_true,wr (show -9223372036854775808≤(i:Int)+1 by omega) (by omega),Int.natCast_add,Int.natCast_one,Int.toNat_natCast,zkO hi,zkV,yTy hs.2,yao,yi3]
     cases hf:(nth s.2.2.1 i yh).2.2.1
     ·cases ho:(opA s).1
      ·have e:yy s i=(opA s).2:=by unfold yy; rw [hf,ho]; rfl
       have d:yd (opA s).2=true:=by rw [yX1 hs.2,ho]; rfl
       rw [e]
       simp only [Bool.not_false,Bool.and_self,cond_true,cond_false,d,yao,ynu]
      ·have e:yy s i=yy6 (opA s).2 i (yfc (nth s.2.2.1 i yh)):=by unfold yy; rw [hf,ho]; rfl
       rw [e]
       simp only [Bool.not_true,Bool.not_false,Bool.and_false,cond_true,cond_false,yhb,yy6,yao,Int.toNat_natCast]
     ·have e:yy s i=s:=by unfold yy; rw [hf]; rfl
      rw [e]; rfl
    ·intro s' h
     cases hd:yd (yy s i)
     ·rw [hd]at h
      cases h
      exact ⟨(ysd s i).trans hs.1,hd⟩
     ·rw [hd]at h; cases h) (fun s hs=>by simp only [ya1,yhb,ynA,hs.2,zkm (Int.le_refl _),cond_false,id,yns]) a0 ⟨rfl,by simpa [ye6] using hq⟩ 18446744073709551616 (by omega)
  rw [yDm (fun a i h=>yL0 i h),← List.range_eq_range'] at this
  exact this
 unfold yjU yi2
 rw [h1]
 cases hd:yd (yw a0)<;>rfl
def ye5 (a0:dA):Option (ResD yiA×MutD ycE):=bif ye6 a0 then (fun n=>some ((n.1,()),(n.2,()))) (yi2 a0) else none
theorem ytJ (a0:dA) (h:ye6 a0=true):ye5 a0=(fun n=>some ((n.1,()),(n.2,()))) (yi2 a0):=by unfold ye5; rw [h]; rfl
def yjP:Con:=⟨ycE,yiA,fun x=>ye5 x.1⟩
theorem ytI:ConOk Tryz.prog 202 yjP:=(yNv).mono (fun x r hk h=>zkW h (fun hq=>yQo x.1 hk hq))
end
end
end Go.Tf
