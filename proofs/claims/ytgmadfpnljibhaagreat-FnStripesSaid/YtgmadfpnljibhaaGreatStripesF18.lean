/- Functions of the program, and what they come to. -/
import Derived.Test.YtgmadfpnljibhaaGreatStripesF17
namespace Go.Tf
noncomputable section
open Go.Proofs
set_option synthInstance.maxHeartbeats 400000
set_option synthInstance.maxSize 10000
set_option linter.unusedVariables false
set_option linter.unusedSimpArgs false
set_option maxRecDepth 100000
section
def yFa:Code:=(Tryz.f128.body).getD .skip
def yFM:Env:=zki TT [] []
theorem yMq:FrOk Tryz.prog ⟨yFM,23,fun _=>none⟩ yFa:=zkp yb yd trivial
def yOa:Nat→Option Seg:=fun _=>none
abbrev ykI:List Par:= [.rd tA,.rd tI]
abbrev yqs:List OT:= [⟨false,tS,(.pr .fz (.pr .fz (.pr .fz (.pr .fz (.pr .fz (.pr .fz (.pr .fz .fz)))))))⟩]
def ytA (a0:dA) (a1:Int):Option (ResD yqs×MutD ykI) :=
 some (((a0.1,a0.2.2.2.2.2.2.2.1,a1,a0.2.1.1,a0.2.1.2,a0.2.2.2.2.2.2.1,a0.2.2.2.1,a0.2.2.2.2.1),()),())
theorem yVk (x:InD ykI):zjH ⟨yFM,23,yOa⟩ Tryz.f128.results.toList yFa ykI yqs x=ytA x.1 x.2.1:=by kernel_rfl
theorem yQw:ConOk Tryz.prog 128 ⟨ykI,yqs,fun x=>ytA x.1 x.2.1⟩:=zkh (yMq) Tryz.func128 (by kernel_rfl) (by kernel_rfl) Tryz.ntmps128.symm (by decide) (fun x r h=>(yVk x).trans h)
def yqM (a0:dA) (a1:Int):dS :=
 (a0.1,a0.2.2.2.2.2.2.2.1,a1,a0.2.1.1,a0.2.1.2,a0.2.2.2.2.2.2.1,a0.2.2.2.1,a0.2.2.2.2.1)
def yBF:Con:=⟨ykI,yqs,fun x=>(fun n=>some ((n,()),())) (yqM x.1 x.2.1)⟩
theorem yTr (a0:dA) (a1:Int):ytA a0 a1=(fun n=>some ((n,()),())) (yqM a0 a1):=zkS (p:=fun (n:dS)=>((n,()),())) rfl
theorem yUn:ConOk Tryz.prog 128 yBF:=(yQw).mono (fun x r _ h=>(yTr x.1 x.2.1).trans h)
end
section
def yE8:Code:=(Tryz.f218.body).getD .skip
def yFK:Env:=zki TT [(122,yqG),(126,yJ),(131,yvh)] []
theorem yMh:FrOk Tryz.prog ⟨yFK,44,fun _=>none⟩ yE8:=zkp yb yd ⟨yy1,yT,yGz,trivial⟩
def yN8:Nat→Option Seg:=fun _=>none
abbrev ykD:List Par:= [.rd tS]
abbrev yqo:List OT:= [⟨false,tB,.fz⟩]
def yty (a0:dS):Option (ResD yqo×MutD ykD) :=
 let r1:=yf a0.1 1 60000
 bif r1 then
 let r2:=yf a0.2.1 0 60000
 bif r2 then
 let r3:=yf a0.2.2.2.2.2.1 0 60000
 bif r3 then
 let r4:=ye3 (a0.2.2.2.1,a0.2.2.2.2.1)
 bif r4 then
 let r5:=yf a0.2.2.1 0 (IntKind.i64.wrap (a0.2.2.2.1 - 1))
 bif r5 then
 let r6:=yfJ (a0.2.2.2.1,a0.2.2.2.2.1) a0.2.2.2.2.2.2.1 a0.2.2.2.2.2.2.2
 some ((r6,()),())
 else
 some ((false,()),())
 else
 some ((false,()),())
 else
 some ((false,()),())
 else
 some ((false,()),())
 else
 some ((false,()),())
theorem yVf (x:InD ykD):zjH ⟨yFK,44,yN8⟩ Tryz.f218.results.toList yE8 ykD yqo x=yty x.1:=by kernel_rfl
theorem yQr:ConOk Tryz.prog 218 ⟨ykD,yqo,fun x=>yty x.1⟩:=zkh (yMh) Tryz.func218 (by kernel_rfl) (by kernel_rfl) Tryz.ntmps218.symm (by decide) (fun x r h=>(yVf x).trans h)
def ygM (a0:dS):Bool :=
 let r1:=yf a0.1 1 60000
 bif r1 then
 let r2:=yf a0.2.1 0 60000
 bif r2 then
 let r3:=yf a0.2.2.2.2.2.1 0 60000
 bif r3 then
 let r4:=ye3 (a0.2.2.2.1,a0.2.2.2.2.1)
 bif r4 then
 let r5:=yf a0.2.2.1 0 (IntKind.i64.wrap (a0.2.2.2.1 - 1))
 bif r5 then
 let r6:=yfJ (a0.2.2.2.1,a0.2.2.2.2.1) a0.2.2.2.2.2.2.1 a0.2.2.2.2.2.2.2
 r6
 else
 false
 else
 false
 else
 false
 else
 false
 else
 false
def yBB:Con:=⟨ykD,yqo,fun x=>(fun n=>some ((n,()),())) (ygM x.1)⟩
theorem yTm (a0:dS):yty a0=(fun n=>some ((n,()),())) (ygM a0):=zkS (p:=fun (n:Bool)=>((n,()),())) (zkx (p:=fun (n:Bool)=>((n,()),())) (zkx (p:=fun (n:Bool)=>((n,()),())) (zkx (p:=fun (n:Bool)=>((n,()),())) (zkx (p:=fun (n:Bool)=>((n,()),())) (zkx (p:=fun (n:Bool)=>((n,()),())) rfl rfl) rfl) rfl) rfl) rfl)
theorem yUj:ConOk Tryz.prog 218 yBB:=(yQr).mono (fun x r _ h=>(yTm x.1).trans h)
theorem yYt (s:dS):ygM s=yaJ s:=by
 rw [Bool.eq_iff_iff,y0L]
 unfold ygM yfJ
 simp only [yS4,yai]
 cases hg:yc (s.2.2.2.1,s.2.2.2.2.1)
 ·cases ya s.1 1 60000<;>cases ya s.2.1 0 60000<;>cases ya s.2.2.2.2.2.1 0 60000<;>simp
 have hg2:=yi.1 hg
 simp only at hg2
 rw [wr (show -9223372036854775808≤s.2.2.2.1 - 1 by omega) (by omega)]
 simp only [← yrY]
 cases ya s.1 1 60000
 ·simp
 cases ya s.2.1 0 60000
 ·simp
 cases ya s.2.2.2.2.2.1 0 60000
 ·simp
 cases ya s.2.2.1 0 (s.2.2.2.1 - 1)
 ·simp
 cases hl:ya s.2.2.2.2.2.2.1 (-1) (s.2.2.2.1 - 1)
 ·simp
 cases ya s.2.2.2.2.2.2.2 0 s.2.2.2.2.1
 ·simp
 have:=yrY.1 hl
 by_cases h0:s.2.2.2.2.2.2.2=0
 ·simp [h0]
 ·simp [h0]; omega
end
section
def yC9:Code:=(Tryz.f201.body).getD .skip
def yDG:Env:=zki TT [(218,yBB)] []
theorem yKf:FrOk Tryz.prog ⟨yDG,24,fun _=>none⟩ yC9:=zkp yb yd ⟨yUj,trivial⟩
def yLM:Nat→Option Seg:=fun _=>none
abbrev yik:List Par:= [.rd tS]
abbrev yoa:List OT:= [⟨false,tL,(.ow .fz)⟩]
def yrB (a0:dS):Option (ResD yoa×MutD yik) :=
 let r1:=ygM a0
 bif (!r1) then
 some (([],()),())
 else
 some ((([21317,a0.1,a0.2.1,a0.2.2.1,a0.2.2.2.1,a0.2.2.2.2.1,a0.2.2.2.2.2.1,(IntKind.i64.wrap (a0.2.2.2.2.2.2.1+1)),a0.2.2.2.2.2.2.2]:List Int),()),())
theorem yR9 (x:InD yik):zjH ⟨yDG,24,yLM⟩ Tryz.f201.results.toList yC9 yik yoa x=yrB x.1:=by kernel_rfl
theorem yNi:ConOk Tryz.prog 201 ⟨yik,yoa,fun x=>yrB x.1⟩:=zkh (yKf) Tryz.func201 (by kernel_rfl) (by kernel_rfl) Tryz.ntmps201.symm (by decide) (fun x r h=>(yR9 x).trans h)
def yjh (a0:dS):(List Int) :=
 let r1:=ygM a0
 bif (!r1) then
 []
 else
 ([21317,a0.1,a0.2.1,a0.2.2.1,a0.2.2.2.1,a0.2.2.2.2.1,a0.2.2.2.2.2.1,(IntKind.i64.wrap (a0.2.2.2.2.2.2.1+1)),a0.2.2.2.2.2.2.2]:List Int)
def yzP:Con:=⟨yik,yoa,fun x=>(fun n=>some ((n,()),())) (yjh x.1)⟩
theorem yQc (a0:dS):yrB a0=(fun n=>some ((n,()),())) (yjh a0):=zkS (p:=fun (n:(List Int))=>((n,()),())) (zkx (p:=fun (n:(List Int))=>((n,()),())) rfl rfl)
theorem yQQ:ConOk Tryz.prog 201 yzP:=(yNi).mono (fun x r _ h=>(yQc x.1).trans h)
theorem y0x (s:dS):yjh s=yz s:=by
 unfold yjh yz
 rw [yYt]
end
section
def yic:Code:=(Tryz.f130.body).getD .skip
def yn0:Env:=zki TT [(133,ylc),(200,ybN),(219,yl6)] []
theorem yKc:FrOk Tryz.prog ⟨yn0,34,fun _=>none⟩ yic:=zkp yb yd ⟨ysR,yeB,yvM,trivial⟩
def yzj:Nat→Option Seg:=fun _=>none
def yba:Shape:=⟨[(2,false,[.ptr 64 0]),(3,false,[.ptr 4224 0]),(17,false,[.br tW]),(18,false,[.int .i64]),(19,false,[.int .i64])],[(64,[.nil,.nil,.bool,.nil]),(4224,[.at 800000000,.at 800000001,.bool,.at 800000002])],[(800000000,tL,(.ow .fz)),(800000001,tW,(.pr .fz (.ow .fz))),(800000002,tI,.fz)]⟩
def yeX:Shape:=⟨[(2,false,[.ptr 64 0]),(3,false,[.ptr 4224 0]),(17,false,[.br tW]),(18,false,[.int .i64]),(19,false,[.ci .i64 0])],[(64,[.nil,.nil,.bool,.nil]),(4224,[.at 800000000,.at 800000001,.bool,.at 800000002])],[(800000000,tL,(.ow .fz)),(800000001,tW,(.pr .fz (.ow .fz))),(800000002,tI,.fz)]⟩
def yeR:Shape:=⟨[(2,false,[.ptr 64 0]),(3,false,[.ptr 4224 0])],[(64,[.nil,.nil,.bool,.nil]),(4224,[.at 800000000,.at 800000001,.bool,.at 800000002])],[(800000000,tL,(.ow .fz)),(800000001,tW,(.pr .fz (.ow .fz))),(800000002,tI,.fz)]⟩
def yi2:Shape:=⟨[],[],[]⟩
abbrev ynE (v0:List dW) (v1 v2:Int) (v3 v4:dM):(yba).X:=((((),()),((),()),(v0,()),(v1,()),(v2,()),()),(((),(),v3.2.2.1,(),()),((),(),v4.2.2.1,(),()),()),(v4.1,v4.2.1,v4.2.2.2,()))
abbrev yI0 (v0:List dW) (v1:Int) (v2 v3:dM):(yeX).X:=((((),()),((),()),(v0,()),(v1,()),((),()),()),(((),(),v2.2.2.1,(),()),((),(),v3.2.2.1,(),()),()),(v3.1,v3.2.1,v3.2.2.2,()))
abbrev ywC (v0 v1:dM):(yeR).X:=((((),()),((),()),()),(((),(),v0.2.2.1,(),()),((),(),v1.2.2.1,(),()),()),(v1.1,v1.2.1,v1.2.2.2,()))
def ynR (v0:List dW) (v1 v2:Int) (v3 v4:Bool) (v5:List (List Int)) (v6:List dW) (v7:List Int):Option ((yba).X ⊕ ((yeR).X ⊕ (yi2).X)) :=
 bif (ltb v2 v1) then
 bif (inb v2 v0.length) then
 let r4:=yp ((nth v0 v2 (0,[])).2)
 bif (inb ((nth v0 v2 (0,[])).1) v5.length) then
 some (.inl ((((),()),((),()),(v0,()),(v1,()),((IntKind.i64.wrap (v2+1)),()),()),(((),(),v3,(),()),((),(),v4,(),()),()),((v5.set ((nth v0 v2 (0,[])).1).toNat r4),v6,v7,())))
 else none
 else none
 else
 some (.inr (.inl ((((),()),((),()),()),(((),(),v3,(),()),((),(),v4,(),()),()),(v5,v6,v7,()))))
def ybr (x:(yba).X):=ynR x.1.2.2.1.1 x.1.2.2.2.1.1 x.1.2.2.2.2.1.1 x.2.1.1.2.2.1 x.2.1.2.1.2.2.1 x.2.2.1 x.2.2.2.1 x.2.2.2.2.1
def ywq (x:(yeX).X):(yba).X:=((((),()),((),()),(x.1.2.2.1.1,()),(x.1.2.2.2.1.1,()),(0,()),()),(((),(),x.2.1.1.2.2.1,(),()),((),(),x.2.1.2.1.2.2.1,(),()),()),(x.2.2.1,x.2.2.2.1,x.2.2.2.2.1,()))
def yxL:Code:=(zdI yic 64 244).getD .skip
theorem yJP:zdI yic 64 61=some (.block 0 (.loop yxL)):=by kernel_rfl
theorem yLm (x:(yba).X):zg7 ⟨yn0,34,yzj⟩ 0 yxL 244 yba yeR yi2 x=ybr x:=by kernel_rfl
def ywx (x:(yeX).X):Nat:=18446744073709551616
def ypg (x:(yeX).X):Option ((yeR).X ⊕ (yi2).X):=zr ybr (ywx x) (ywq x)
def ywH:Seg:=⟨yeX,yeR,yi2,ypg⟩
def yzk:Nat→Option Seg:=fun q=>bif Nat.beq q 61 then some ywH else yzj q
theorem yKd:FrOk Tryz.prog ⟨yn0,34,yzk⟩ yic:=(yKc).loop (sg:=ywH) yba ywq (by decide) yJP ybr ywx (by decide) (fun _=>rfl) (fun x r _ h=>h) yLm
abbrev yff:List Par:= [.rd tM]
abbrev yn8:List OT:= [⟨false,tM,(.pr (.ow (.ow .fz)) (.pr (.ow (.pr .fz (.ow .fz))) (.pr .fz (.ow .fz))))⟩]
def ykc (a0:dM):Option (ResD yn8×MutD yff) :=
 let r1:=ybn a0
 let r2:=ybf a0
 bif (!(!r2)) then
 bif a0.2.2.1 then
 some ((r1,()),())
 else
 zjw (ypg ((((),()),((),()),(a0.2.1,()),((a0.2.1.length:Int),()),((),()),()),(((),(),false,(),()),((),(),r1.2.2.1,(),()),()),(r1.1,r1.2.1,r1.2.2.2,()))) (fun y4 =>
 some (((y4.2.2.1,[],y4.2.1.2.1.2.2.1,y4.2.2.2.2.1),()),())) (fun y4 =>
 none)
 else
 some ((r1,()),())
theorem yR7 (x:InD yff):zjH ⟨yn0,34,yzk⟩ Tryz.f130.results.toList yic yff yn8 x=ykc x.1:=by kernel_rfl
theorem yNg:ConOk Tryz.prog 130 ⟨yff,yn8,fun x=>ykc x.1⟩:=zkh (yKd) Tryz.func130 (by kernel_rfl) (by kernel_rfl) Tryz.ntmps130.symm (by decide) (fun x r h=>(yR7 x).trans h)
def yjg (a0:dM):dM:=yq a0
theorem yQa (a0:dM) (hk:zi9 yff (a0,())):ykc a0=(fun n=>some ((n,()),())) (yjg a0):=by
 have hb2:a0.2.1.length * 32≤2 ^ 47:=hk.1.2.1.1
 unfold ykc yjg yq
 simp only [ybn,ybf]
 cases hm:yl a0
 ·rfl
 have h1:ypg (yI0 a0.2.1 a0.2.1.length noMem a0)=some (.inl (ywC noMem (yez (fun _=>true) a0.2.1 a0.1,a0.2))) :=
  zks (step:=ybr) a0.2.1.length (fun i s=>ynE a0.2.1 a0.2.1.length i noMem (s,a0.2)) (ybx (fun _=>true) a0.2.1) (fun i s=>s.length=a0.1.length) (fun s=> .inl (ywC noMem (s,a0.2))) (fun i s hi hs=>by
   have hw:=(yZ2 hm hi).1
   refine ⟨?_,yAJ.trans hs⟩
   simp only [ybr,ynE,ynR,zjI (show (i:Int) < a0.2.1.length by omega),cond_true,wr (show -9223372036854775808≤(i:Int)+1 by omega) (by omega),Int.natCast_add,Int.natCast_one,Int.toNat_natCast,zkO hi,hs,hw,ybx,yp]) (fun s hs=>by simp only [ybr,ynE,ynR,zkm (Int.le_refl _),cond_false]) a0.1 rfl _ (by show _ < 18446744073709551616; omega)
 rw [h1]
 cases hf:a0.2.2.1
 ·exact congrArg (fun z=>some (((yez (fun _=>true) a0.2.1 a0.1,([]:List dW),z,a0.2.2.2),()),())) hf
 ·rfl
def yzO:Con:=⟨yff,yn8,fun x=>(fun n=>some ((n,()),())) (yjg x.1)⟩
theorem yQP:ConOk Tryz.prog 130 yzO:=(yNg).mono (fun x r hk h=>(yQa x.1 hk).trans h)
end
section
def yib:Code:=(Tryz.f202.body).getD .skip
def ynZ:Env:=zki TT [(130,yzO),(205,yva)] []
theorem yKa:FrOk Tryz.prog ⟨ynZ,38,fun _=>none⟩ yib:=zkp yb yd ⟨yQP,yGu,trivial⟩
def yzh:Nat→Option Seg:=fun _=>none
def ya9:Shape:=⟨[(0,false,[.ptr 1000000000 0]),(8,false,[.int .i64]),(9,false,[.int .i64])],[(1000000000,[.int .i64,.int .i64,.int .i64,.at 800000000,.int .i64,.int .i64,.int .i64,.int .i64,.int .i64,.at 800000001,.int .i64,.bool,.bool])],[(800000000,tM,(.pr (.ow (.ow .fz)) (.pr (.ow (.pr .fz (.ow .fz))) (.pr .fz (.ow .fz))))),(800000001,tW,(.pr .fz (.ow .fz)))]⟩
def yeW:Shape:=⟨[(0,false,[.ptr 1000000000 0]),(8,false,[.int .i64]),(9,false,[.ci .i64 0])],[(1000000000,[.int .i64,.int .i64,.int .i64,.at 800000000,.int .i64,.int .i64,.int .i64,.int .i64,.int .i64,.at 800000001,.int .i64,.bool,.bool])],[(800000000,tM,(.pr (.ow (.ow .fz)) (.pr (.ow (.pr .fz (.ow .fz))) (.pr .fz (.ow .fz))))),(800000001,tW,(.pr .fz (.ow .fz)))]⟩
def yeQ:Shape:=⟨[],[(1000000000,[.int .i64,.int .i64,.int .i64,.at 800000000,.int .i64,.int .i64,.int .i64,.int .i64,.int .i64,.at 800000001,.int .i64,.bool,.bool])],[(800000000,tM,(.pr (.ow (.ow .fz)) (.pr (.ow (.pr .fz (.ow .fz))) (.pr .fz (.ow .fz))))),(800000001,tW,(.pr .fz (.ow .fz)))]⟩
def ye2:Shape:=⟨[(2,false,[.bool])],[(1000000000,[.int .i64,.int .i64,.int .i64,.at 800000000,.int .i64,.int .i64,.int .i64,.int .i64,.int .i64,.at 800000001,.int .i64,.bool,.bool])],[(800000000,tM,(.pr (.ow (.ow .fz)) (.pr (.ow (.pr .fz (.ow .fz))) (.pr .fz (.ow .fz))))),(800000001,tW,(.pr .fz (.ow .fz)))]⟩
abbrev yhJ (v0 v1:Int) (v2:dA):(ya9).X:=((((),()),(v0,()),(v1,()),()),((v2.1,v2.2.1.1,v2.2.1.2,(),v2.2.2.2.1,v2.2.2.2.2.1,v2.2.2.2.2.2.1,v2.2.2.2.2.2.2.1,v2.2.2.2.2.2.2.2.1,(),v2.2.2.2.2.2.2.2.2.2.1,v2.2.2.2.2.2.2.2.2.2.2.1,v2.2.2.2.2.2.2.2.2.2.2.2,()),()),(v2.2.2.1,v2.2.2.2.2.2.2.2.2.1,()))
abbrev yIZ (v0:Int) (v1:dA):(yeW).X:=((((),()),(v0,()),((),()),()),((v1.1,v1.2.1.1,v1.2.1.2,(),v1.2.2.2.1,v1.2.2.2.2.1,v1.2.2.2.2.2.1,v1.2.2.2.2.2.2.1,v1.2.2.2.2.2.2.2.1,(),v1.2.2.2.2.2.2.2.2.2.1,v1.2.2.2.2.2.2.2.2.2.2.1,v1.2.2.2.2.2.2.2.2.2.2.2,()),()),(v1.2.2.1,v1.2.2.2.2.2.2.2.2.1,()))
abbrev ynJ (v0:dA):(yeQ).X:=((),((v0.1,v0.2.1.1,v0.2.1.2,(),v0.2.2.2.1,v0.2.2.2.2.1,v0.2.2.2.2.2.1,v0.2.2.2.2.2.2.1,v0.2.2.2.2.2.2.2.1,(),v0.2.2.2.2.2.2.2.2.2.1,v0.2.2.2.2.2.2.2.2.2.2.1,v0.2.2.2.2.2.2.2.2.2.2.2,()),()),(v0.2.2.1,v0.2.2.2.2.2.2.2.2.1,()))
abbrev ynL (v0:Bool) (v1:dA):(ye2).X:=(((v0,()),()),((v1.1,v1.2.1.1,v1.2.1.2,(),v1.2.2.2.1,v1.2.2.2.2.1,v1.2.2.2.2.2.1,v1.2.2.2.2.2.2.1,v1.2.2.2.2.2.2.2.1,(),v1.2.2.2.2.2.2.2.2.2.1,v1.2.2.2.2.2.2.2.2.2.2.1,v1.2.2.2.2.2.2.2.2.2.2.2,()),()),(v1.2.2.1,v1.2.2.2.2.2.2.2.2.1,()))
def ynQ (v0 v1 v2 v3 v4 v5 v6 v7 v8 v9 v10:Int) (v11 v12:Bool) (v13:List dM) (v14:List dW):Option ((ya9).X ⊕ ((yeQ).X ⊕ (ye2).X)) :=
 bif (ltb v1 v0) then
 bif (inb v1 v13.length) then
 bif (((nth v13 v1 ([],[],false,[])).2).2).1 then
 some (.inl ((((),()),(v0,()),((IntKind.i64.wrap (v1+1)),()),()),((v2,v3,v4,(),v5,v6,v7,v8,v9,(),v10,v11,v12,()),()),(v13,v14,())))
 else
 let r3:=yh5 (v2,(v3,v4),v13,v5,v6,v7,v8,v9,v14,v10,v11,v12)
 bif (!r3.1) then
 some (.inr (.inr (((false,()),()),((r3.2.1,r3.2.2.1.1,r3.2.2.1.2,(),r3.2.2.2.2.1,r3.2.2.2.2.2.1,r3.2.2.2.2.2.2.1,r3.2.2.2.2.2.2.2.1,r3.2.2.2.2.2.2.2.2.1,(),r3.2.2.2.2.2.2.2.2.2.2.1,r3.2.2.2.2.2.2.2.2.2.2.2.1,r3.2.2.2.2.2.2.2.2.2.2.2.2,()),()),(r3.2.2.2.1,r3.2.2.2.2.2.2.2.2.2.1,()))))
 else
 bif (inb v1 r3.2.2.2.1.length) then
 let r4:=yjg ((nth r3.2.2.2.1 v1 ([],[],false,[])).1,((nth r3.2.2.2.1 v1 ([],[],false,[])).2).1,(((nth r3.2.2.2.1 v1 ([],[],false,[])).2).2))
 bif (inb v1 r3.2.2.2.1.length) then
 some (.inl ((((),()),(v0,()),((IntKind.i64.wrap (v1+1)),()),()),((r3.2.1,r3.2.2.1.1,r3.2.2.1.2,(),r3.2.2.2.2.1,r3.2.2.2.2.2.1,r3.2.2.2.2.2.2.1,r3.2.2.2.2.2.2.2.1,r3.2.2.2.2.2.2.2.2.1,(),r3.2.2.2.2.2.2.2.2.2.2.1,r3.2.2.2.2.2.2.2.2.2.2.2.1,r3.2.2.2.2.2.2.2.2.2.2.2.2,()),()),((r3.2.2.2.1.set (v1).toNat r4),r3.2.2.2.2.2.2.2.2.2.1,())))
 else none
 else none
 else none
 else
 some (.inr (.inl ((),((v2,v3,v4,(),v5,v6,v7,v8,v9,(),v10,v11,v12,()),()),(v13,v14,()))))
def ybq (x:(ya9).X):=ynQ x.1.2.1.1 x.1.2.2.1.1 x.2.1.1.1 x.2.1.1.2.1 x.2.1.1.2.2.1 x.2.1.1.2.2.2.2.1 x.2.1.1.2.2.2.2.2.1 x.2.1.1.2.2.2.2.2.2.1 x.2.1.1.2.2.2.2.2.2.2.1 x.2.1.1.2.2.2.2.2.2.2.2.1 x.2.1.1.2.2.2.2.2.2.2.2.2.2.1 x.2.1.1.2.2.2.2.2.2.2.2.2.2.2.1 x.2.1.1.2.2.2.2.2.2.2.2.2.2.2.2.1 x.2.2.1 x.2.2.2.1
def ywp (x:(yeW).X):(ya9).X:=((((),()),(x.1.2.1.1,()),(0,()),()),((x.2.1.1.1,x.2.1.1.2.1,x.2.1.1.2.2.1,(),x.2.1.1.2.2.2.2.1,x.2.1.1.2.2.2.2.2.1,x.2.1.1.2.2.2.2.2.2.1,x.2.1.1.2.2.2.2.2.2.2.1,x.2.1.1.2.2.2.2.2.2.2.2.1,(),x.2.1.1.2.2.2.2.2.2.2.2.2.2.1,x.2.1.1.2.2.2.2.2.2.2.2.2.2.2.1,x.2.1.1.2.2.2.2.2.2.2.2.2.2.2.2.1,()),()),(x.2.2.1,x.2.2.2.1,()))
def yxK:Code:=(zdI yib 64 52).getD .skip
theorem yJO:zdI yib 64 13=some (.block 0 (.loop yxK)):=by kernel_rfl
theorem yLl (x:(ya9).X):zg7 ⟨ynZ,38,yzh⟩ 0 yxK 52 ya9 yeQ ye2 x=ybq x:=by kernel_rfl
def yww (x:(yeW).X):Nat:=18446744073709551616
def ypf (x:(yeW).X):Option ((yeQ).X ⊕ (ye2).X):=zr ybq (yww x) (ywp x)
def ywG:Seg:=⟨yeW,yeQ,ye2,ypf⟩
def yzi:Nat→Option Seg:=fun q=>bif Nat.beq q 13 then some ywG else yzh q
theorem yKb:FrOk Tryz.prog ⟨ynZ,38,yzi⟩ yib:=(yKa).loop (sg:=ywG) ya9 ywp (by decide) yJO ybq yww (by decide) (fun _=>rfl) (fun x r _ h=>h) yLl
abbrev yc3:List Par:= [.pt tA (.pr .fz (.pr (.pr .fz .fz) (.pr (.ow (.pr (.ow (.ow .fz)) (.pr (.ow (.pr .fz (.ow .fz))) (.pr .fz (.ow .fz))))) (.pr .fz (.pr .fz (.pr .fz (.pr .fz (.pr .fz (.pr (.ow (.pr .fz (.ow .fz))) (.pr .fz (.pr .fz .fz)))))))))))]
abbrev yiT:List OT:= [⟨false,tB,.fz⟩]
def ykb (a0:dA):Option (ResD yiT×MutD yc3) :=
 zjw (ypf ((((),()),((a0.2.2.1.length:Int),()),((),()),()),((a0.1,a0.2.1.1,a0.2.1.2,(),a0.2.2.2.1,a0.2.2.2.2.1,a0.2.2.2.2.2.1,a0.2.2.2.2.2.2.1,a0.2.2.2.2.2.2.2.1,(),a0.2.2.2.2.2.2.2.2.2.1,a0.2.2.2.2.2.2.2.2.2.2.1,a0.2.2.2.2.2.2.2.2.2.2.2,()),()),(a0.2.2.1,a0.2.2.2.2.2.2.2.2.1,()))) (fun y4 =>
 some ((true,()),((y4.2.1.1.1,(y4.2.1.1.2.1,y4.2.1.1.2.2.1),y4.2.2.1,y4.2.1.1.2.2.2.2.1,y4.2.1.1.2.2.2.2.2.1,y4.2.1.1.2.2.2.2.2.2.1,y4.2.1.1.2.2.2.2.2.2.2.1,y4.2.1.1.2.2.2.2.2.2.2.2.1,y4.2.2.2.1,y4.2.1.1.2.2.2.2.2.2.2.2.2.2.1,y4.2.1.1.2.2.2.2.2.2.2.2.2.2.2.1,y4.2.1.1.2.2.2.2.2.2.2.2.2.2.2.2.1),()))) (fun y4 =>
 some ((y4.1.1.1,()),((y4.2.1.1.1,(y4.2.1.1.2.1,y4.2.1.1.2.2.1),y4.2.2.1,y4.2.1.1.2.2.2.2.1,y4.2.1.1.2.2.2.2.2.1,y4.2.1.1.2.2.2.2.2.2.1,y4.2.1.1.2.2.2.2.2.2.2.1,y4.2.1.1.2.2.2.2.2.2.2.2.1,y4.2.2.2.1,y4.2.1.1.2.2.2.2.2.2.2.2.2.2.1,y4.2.1.1.2.2.2.2.2.2.2.2.2.2.2.1,y4.2.1.1.2.2.2.2.2.2.2.2.2.2.2.2.1),())))
theorem yR6 (x:InD yc3):zjH ⟨ynZ,38,yzi⟩ Tryz.f202.results.toList yib yc3 yiT x=ykb x.1:=by kernel_rfl
theorem yNf:ConOk Tryz.prog 202 ⟨yc3,yiT,fun x=>ykb x.1⟩:=zkh (yKb) Tryz.func202 (by kernel_rfl) (by kernel_rfl) Tryz.ntmps202.symm (by decide) (fun x r h=>(yR6 x).trans h)
def yjf (a0:dA):Bool×dA:=(!(downA (yn a0)),yn a0)
def yfy (a0:dA):Bool:= !(downA a0)
theorem yP9 (a0:dA) (hk:zi9 yc3 (a0,())) (hq:yfy a0=true):ykb a0=(fun n=>some ((n.1,()),(n.2,()))) (yjf a0):=by
 have hb:a0.2.2.1.length * 80≤2 ^ 47:=hk.1.2.2.1.1
 have h1:ypf (yIZ a0.2.2.1.length a0)=some (bif downA (yn a0) then .inr (ynL false (yn a0)) else .inl (ynJ (yn a0))):=by
  have:=zkr (step:=ybq) a0.2.2.1.length (fun i s=>yhJ a0.2.2.1.length i s) (fun i s=>bif downA (yC s i) then (.inr (yC s i):dA ⊕ dA) else .inl (yC s i)) (fun _ s=>s.2.2.1.length=a0.2.2.1.length∧downA s=false) id
   (fun b=>bif downA b then .inr (ynL false b) else .inl (ynJ b)) (fun i s hi hs=>by
    constructor
    ·rw [yLs hs.2]
     simp only [ybq,yhJ,ynQ,hs.1,zjI (show (i:Int) < a0.2.2.1.length by omega),cond_true,wr (show -9223372036854775808≤(i:Int)+1 by omega) (by omega),Int.natCast_add,Int.natCast_one,Int.toNat_natCast,zkO hi,zkV,yS5 hs.2,yU,yjg]
     cases hf:(nth s.2.2.1 i noMem).2.2.1
     ·cases ho:(yY s).1
      ·have e:yC s i=(yY s).2:=by unfold yC; rw [hf,ho]; rfl
       have d:downA (yY s).2=true:=by rw [yW2 hs.2,ho]; rfl
       rw [e]
       simp only [Bool.not_false,Bool.and_self,cond_true,cond_false,d,yU,ynL]
      ·have e:yC s i=setMem (yY s).2 i (yq (nth s.2.2.1 i noMem)):=by unfold yC; rw [hf,ho]; rfl
       rw [e]
       simp only [Bool.not_true,Bool.not_false,Bool.and_false,cond_true,cond_false,yhJ,setMem,yU,Int.toNat_natCast]
     ·have e:yC s i=s:=by unfold yC; rw [hf]; rfl
      rw [e]; rfl
    ·intro s' h
     cases hd:downA (yC s i)
     ·rw [hd]at h
      cases h
      exact ⟨(yjI s i).trans hs.1,hd⟩
     ·rw [hd]at h; cases h) (fun s hs=>by simp only [ybq,yhJ,ynQ,hs.2,zkm (Int.le_refl _),cond_false,id,ynJ]) a0 ⟨rfl,by simpa [yfy] using hq⟩ 18446744073709551616 (by omega)
  rw [yCm (fun a i h=>yC0 i h),← List.range_eq_range'] at this
  exact this
 unfold ykb yjf
 rw [h1]
 cases hd:downA (yn a0)<;>rfl
def yfx (a0:dA):Option (ResD yiT×MutD yc3):=bif yfy a0 then (fun n=>some ((n.1,()),(n.2,()))) (yjf a0) else none
theorem ytx (a0:dA) (h:yfy a0=true):yfx a0=(fun n=>some ((n.1,()),(n.2,()))) (yjf a0):=by unfold yfx; rw [h]; rfl
def yj3:Con:=⟨yc3,yiT,fun x=>yfx x.1⟩
theorem ytv:ConOk Tryz.prog 202 yj3:=(yNf).mono (fun x r hk h=>zkW h (fun hq=>yP9 x.1 hk hq))
end
section
def yia:Code:=(Tryz.f101.body).getD .skip
def ynY:Env:=zki TT [(107,yje),(128,yBF),(201,yzP),(202,yj3)] []
theorem yJ8:FrOk Tryz.prog ⟨ynY,37,fun _=>none⟩ yia:=zkp yb yd ⟨yrz,yUn,yQQ,ytv,trivial⟩
def yzf:Nat→Option Seg:=fun _=>none
def ya8:Shape:=⟨[(0,false,[.ptr 1000000000 0]),(15,false,[.int .i64]),(16,false,[.int .i64])],[(1000000000,[.int .i64,.int .i64,.int .i64,.at 800000000,.int .i64,.int .i64,.int .i64,.int .i64,.int .i64,.at 800000001,.int .i64,.bool,.bool])],[(800000000,tM,(.pr (.ow (.ow .fz)) (.pr (.ow (.pr .fz (.ow .fz))) (.pr .fz (.ow .fz))))),(800000001,tW,(.pr .fz (.ow .fz)))]⟩
def yeV:Shape:=⟨[(0,false,[.ptr 1000000000 0]),(15,false,[.int .i64]),(16,false,[.ci .i64 0])],[(1000000000,[.int .i64,.int .i64,.int .i64,.at 800000000,.int .i64,.int .i64,.int .i64,.int .i64,.int .i64,.at 800000001,.int .i64,.bool,.bool])],[(800000000,tM,(.pr (.ow (.ow .fz)) (.pr (.ow (.pr .fz (.ow .fz))) (.pr .fz (.ow .fz))))),(800000001,tW,(.pr .fz (.ow .fz)))]⟩
def yeP:Shape:=⟨[(0,false,[.ptr 1000000000 0])],[(1000000000,[.int .i64,.int .i64,.int .i64,.at 800000000,.int .i64,.int .i64,.int .i64,.int .i64,.int .i64,.at 800000001,.int .i64,.bool,.bool])],[(800000000,tM,(.pr (.ow (.ow .fz)) (.pr (.ow (.pr .fz (.ow .fz))) (.pr .fz (.ow .fz))))),(800000001,tW,(.pr .fz (.ow .fz)))]⟩
def ye1:Shape:=⟨[(2,false,[.bool])],[(1000000000,[.int .i64,.int .i64,.int .i64,.at 800000000,.int .i64,.int .i64,.int .i64,.int .i64,.int .i64,.at 800000001,.int .i64,.bool,.bool])],[(800000000,tM,(.pr (.ow (.ow .fz)) (.pr (.ow (.pr .fz (.ow .fz))) (.pr .fz (.ow .fz))))),(800000001,tW,(.pr .fz (.ow .fz)))]⟩
abbrev ynD (v0 v1:Int) (v2:dA):(ya8).X:=((((),()),(v0,()),(v1,()),()),((v2.1,v2.2.1.1,v2.2.1.2,(),v2.2.2.2.1,v2.2.2.2.2.1,v2.2.2.2.2.2.1,v2.2.2.2.2.2.2.1,v2.2.2.2.2.2.2.2.1,(),v2.2.2.2.2.2.2.2.2.2.1,v2.2.2.2.2.2.2.2.2.2.2.1,v2.2.2.2.2.2.2.2.2.2.2.2,()),()),(v2.2.2.1,v2.2.2.2.2.2.2.2.2.1,()))
abbrev yIY (v0:Int) (v1:dA):(yeV).X:=((((),()),(v0,()),((),()),()),((v1.1,v1.2.1.1,v1.2.1.2,(),v1.2.2.2.1,v1.2.2.2.2.1,v1.2.2.2.2.2.1,v1.2.2.2.2.2.2.1,v1.2.2.2.2.2.2.2.1,(),v1.2.2.2.2.2.2.2.2.2.1,v1.2.2.2.2.2.2.2.2.2.2.1,v1.2.2.2.2.2.2.2.2.2.2.2,()),()),(v1.2.2.1,v1.2.2.2.2.2.2.2.2.1,()))
abbrev ynI (v0:dA):(yeP).X:=((((),()),()),((v0.1,v0.2.1.1,v0.2.1.2,(),v0.2.2.2.1,v0.2.2.2.2.1,v0.2.2.2.2.2.1,v0.2.2.2.2.2.2.1,v0.2.2.2.2.2.2.2.1,(),v0.2.2.2.2.2.2.2.2.2.1,v0.2.2.2.2.2.2.2.2.2.2.1,v0.2.2.2.2.2.2.2.2.2.2.2,()),()),(v0.2.2.1,v0.2.2.2.2.2.2.2.2.1,()))
abbrev ynK (v0:Bool) (v1:dA):(ye1).X:=(((v0,()),()),((v1.1,v1.2.1.1,v1.2.1.2,(),v1.2.2.2.1,v1.2.2.2.2.1,v1.2.2.2.2.2.1,v1.2.2.2.2.2.2.1,v1.2.2.2.2.2.2.2.1,(),v1.2.2.2.2.2.2.2.2.2.1,v1.2.2.2.2.2.2.2.2.2.2.1,v1.2.2.2.2.2.2.2.2.2.2.2,()),()),(v1.2.2.1,v1.2.2.2.2.2.2.2.2.1,()))
def ynP (v0 v1 v2 v3 v4 v5 v6 v7 v8 v9 v10:Int) (v11 v12:Bool) (v13:List dM) (v14:List dW):Option ((ya8).X ⊕ ((yeP).X ⊕ (ye1).X)) :=
 bif (ltb v1 v0) then
 let r4:=yqM (v2,(v3,v4),v13,v5,v6,v7,v8,v9,v14,v10,v11,v12) v1
 let r5:=yjh r4
 bnd (yeA (v2,(v3,v4),v13,v5,v6,v7,v8,v9,v14,v10,v11,v12) v1 (v9.tmod 2) r5) fun r6 =>
 bif (!r6.1.1) then
 some (.inr (.inr (((false,()),()),((r6.2.1.1,r6.2.1.2.1.1,r6.2.1.2.1.2,(),r6.2.1.2.2.2.1,r6.2.1.2.2.2.2.1,r6.2.1.2.2.2.2.2.1,r6.2.1.2.2.2.2.2.2.1,r6.2.1.2.2.2.2.2.2.2.1,(),r6.2.1.2.2.2.2.2.2.2.2.2.1,r6.2.1.2.2.2.2.2.2.2.2.2.2.1,r6.2.1.2.2.2.2.2.2.2.2.2.2.2,()),()),(r6.2.1.2.2.1,r6.2.1.2.2.2.2.2.2.2.2.1,()))))
 else
 some (.inl ((((),()),(v0,()),((IntKind.i64.wrap (v1+1)),()),()),((r6.2.1.1,r6.2.1.2.1.1,r6.2.1.2.1.2,(),r6.2.1.2.2.2.1,r6.2.1.2.2.2.2.1,r6.2.1.2.2.2.2.2.1,r6.2.1.2.2.2.2.2.2.1,r6.2.1.2.2.2.2.2.2.2.1,(),r6.2.1.2.2.2.2.2.2.2.2.2.1,r6.2.1.2.2.2.2.2.2.2.2.2.2.1,r6.2.1.2.2.2.2.2.2.2.2.2.2.2,()),()),(r6.2.1.2.2.1,r6.2.1.2.2.2.2.2.2.2.2.1,())))
 else
 some (.inr (.inl ((((),()),()),((v2,v3,v4,(),v5,v6,v7,v8,v9,(),v10,v11,v12,()),()),(v13,v14,()))))
def ybp (x:(ya8).X):=ynP x.1.2.1.1 x.1.2.2.1.1 x.2.1.1.1 x.2.1.1.2.1 x.2.1.1.2.2.1 x.2.1.1.2.2.2.2.1 x.2.1.1.2.2.2.2.2.1 x.2.1.1.2.2.2.2.2.2.1 x.2.1.1.2.2.2.2.2.2.2.1 x.2.1.1.2.2.2.2.2.2.2.2.1 x.2.1.1.2.2.2.2.2.2.2.2.2.2.1 x.2.1.1.2.2.2.2.2.2.2.2.2.2.2.1 x.2.1.1.2.2.2.2.2.2.2.2.2.2.2.2.1 x.2.2.1 x.2.2.2.1
def ywo (x:(yeV).X):(ya8).X:=((((),()),(x.1.2.1.1,()),(0,()),()),((x.2.1.1.1,x.2.1.1.2.1,x.2.1.1.2.2.1,(),x.2.1.1.2.2.2.2.1,x.2.1.1.2.2.2.2.2.1,x.2.1.1.2.2.2.2.2.2.1,x.2.1.1.2.2.2.2.2.2.2.1,x.2.1.1.2.2.2.2.2.2.2.2.1,(),x.2.1.1.2.2.2.2.2.2.2.2.2.2.1,x.2.1.1.2.2.2.2.2.2.2.2.2.2.2.1,x.2.1.1.2.2.2.2.2.2.2.2.2.2.2.2.1,()),()),(x.2.2.1,x.2.2.2.1,()))
def yxJ:Code:=(zdI yia 64 116).getD .skip
theorem yJN:zdI yia 64 29=some (.block 0 (.loop yxJ)):=by kernel_rfl
theorem yLk (x:(ya8).X):zg7 ⟨ynY,37,yzf⟩ 0 yxJ 116 ya8 yeP ye1 x=ybp x:=by kernel_rfl
def ywv (x:(yeV).X):Nat:=18446744073709551616
def ype (x:(yeV).X):Option ((yeP).X ⊕ (ye1).X):=zr ybp (ywv x) (ywo x)
def ywF:Seg:=⟨yeV,yeP,ye1,ype⟩
def yzg:Nat→Option Seg:=fun q=>bif Nat.beq q 29 then some ywF else yzf q
theorem yJ9:FrOk Tryz.prog ⟨ynY,37,yzg⟩ yia:=(yJ8).loop (sg:=ywF) ya8 ywo (by decide) yJN ybp ywv (by decide) (fun _=>rfl) (fun x r _ h=>h) yLk
abbrev yc2:List Par:= [.pt tA (.pr .fz (.pr (.pr .fz .fz) (.pr (.ow (.pr (.ow (.ow .fz)) (.pr (.ow (.pr .fz (.ow .fz))) (.pr .fz (.ow .fz))))) (.pr .fz (.pr .fz (.pr .fz (.pr .fz (.pr .fz (.pr (.ow (.pr .fz (.ow .fz))) (.pr .fz (.pr .fz .fz)))))))))))]
abbrev yiS:List OT:= [⟨false,tB,.fz⟩]
def yka (a0:dA):Option (ResD yiS×MutD yc2) :=
 zjw (ype ((((),()),((a0.2.2.1.length:Int),()),((),()),()),((a0.1,a0.2.1.1,a0.2.1.2,(),a0.2.2.2.1,a0.2.2.2.2.1,a0.2.2.2.2.2.1,a0.2.2.2.2.2.2.1,(IntKind.i64.wrap (a0.2.2.2.2.2.2.2.1+1)),(),a0.2.2.2.2.2.2.2.2.2.1,a0.2.2.2.2.2.2.2.2.2.2.1,a0.2.2.2.2.2.2.2.2.2.2.2,()),()),(a0.2.2.1,a0.2.2.2.2.2.2.2.2.1,()))) (fun y6 =>
 bnd (yfx (y6.2.1.1.1,(y6.2.1.1.2.1,y6.2.1.1.2.2.1),y6.2.2.1,y6.2.1.1.2.2.2.2.1,y6.2.1.1.2.2.2.2.2.1,y6.2.1.1.2.2.2.2.2.2.1,y6.2.1.1.2.2.2.2.2.2.2.1,y6.2.1.1.2.2.2.2.2.2.2.2.1,y6.2.2.2.1,y6.2.1.1.2.2.2.2.2.2.2.2.2.2.1,y6.2.1.1.2.2.2.2.2.2.2.2.2.2.2.1,y6.2.1.1.2.2.2.2.2.2.2.2.2.2.2.2.1)) fun r8 =>
 some ((r8.1.1,()),(r8.2.1,()))) (fun y6 =>
 some ((y6.1.1.1,()),((y6.2.1.1.1,(y6.2.1.1.2.1,y6.2.1.1.2.2.1),y6.2.2.1,y6.2.1.1.2.2.2.2.1,y6.2.1.1.2.2.2.2.2.1,y6.2.1.1.2.2.2.2.2.2.1,y6.2.1.1.2.2.2.2.2.2.2.1,y6.2.1.1.2.2.2.2.2.2.2.2.1,y6.2.2.2.1,y6.2.1.1.2.2.2.2.2.2.2.2.2.2.1,y6.2.1.1.2.2.2.2.2.2.2.2.2.2.2.1,y6.2.1.1.2.2.2.2.2.2.2.2.2.2.2.2.1),())))
theorem yR5 (x:InD yc2):zjH ⟨ynY,37,yzg⟩ Tryz.f101.results.toList yia yc2 yiS x=yka x.1:=by kernel_rfl
theorem yNe:ConOk Tryz.prog 101 ⟨yc2,yiS,fun x=>yka x.1⟩:=zkh (yJ9) Tryz.func101 (by kernel_rfl) (by kernel_rfl) Tryz.ntmps101.symm (by decide) (fun x r h=>(yR5 x).trans h)
def yoB (a0:dA):Bool×dA:=(!(downA (markA a0)),markA a0)
def yjq (a0:dA):Bool:= !(downA a0)
theorem yZ0 {a:dA} (i:Nat) (h:downA a=true):yP a i=a:=yw4 h _ _ _
theorem yP8 (a0:dA) (hk:zi9 yc2 (a0,())) (hq:yjq a0=true):yka a0=(fun n=>some ((n.1,()),(n.2,()))) (yoB a0):=by
 have hb:a0.2.2.1.length * 80≤2 ^ 47:=hk.1.2.2.1.1
 have hd0:downA a0=false:=by simpa [yjq] using hq
 have h1:ype (yIY a0.2.2.1.length (yaa a0))=some (bif downA ((List.range a0.2.2.1.length).foldl yP (yaa a0)) then .inr (ynK false ((List.range a0.2.2.1.length).foldl yP (yaa a0))) else .inl (ynI ((List.range a0.2.2.1.length).foldl yP (yaa a0)))):=by
  have:=zkr (step:=ybp) a0.2.2.1.length (fun i s=>ynD a0.2.2.1.length i s) (fun i s=>bif downA (yP s i) then (.inr (yP s i):dA ⊕ dA) else .inl (yP s i)) (fun _ s=>s.2.2.1.length=a0.2.2.1.length∧downA s=false) id
   (fun b=>bif downA b then .inr (ynK false b) else .inl (ynI b)) (fun i s hi hs=>by
    constructor
    ·simp only [ybp,ynD,ynP,zjI (show (i:Int) < a0.2.2.1.length by omega),cond_true,wr (show -9223372036854775808≤(i:Int)+1 by omega) (by omega),Int.natCast_add,Int.natCast_one,Int.toNat_natCast,zkV,y0x,yqM]
     rw [yrA s i (s.2.2.2.2.2.2.2.1.tmod 2) (yz (s.1,s.2.2.2.2.2.2.2.1,(i:Int),s.2.1.1,s.2.1.2,s.2.2.2.2.2.2.1,s.2.2.2.1,s.2.2.2.2.1)) (by unfold ycv; rw [zkO (by rw [hs.1]; exact hi),hs.2]; rfl)]
     simp only [zky,yct]
     rw [show ybo s i (s.2.2.2.2.2.2.2.1.tmod 2) (yz (s.1,s.2.2.2.2.2.2.2.1,(i:Int),s.2.1.1,s.2.1.2,s.2.2.2.2.2.2.1,s.2.2.2.1,s.2.2.2.2.1))=yP s i from rfl]
     cases hd:downA (yP s i)
     ·rfl
     ·simp only [hd,Bool.not_true,Bool.not_false,cond_true,ynK]
    ·intro s' h
     cases hd:downA (yP s i)
     ·rw [hd]at h
      cases h
      exact ⟨(yN0 s i).trans hs.1,hd⟩
     ·rw [hd]at h; cases h) (fun s hs=>by simp only [ybp,ynD,ynP,hs.2,zkm (Int.le_refl _),cond_false,id,ynI]) (yaa a0) ⟨rfl,hd0⟩ 18446744073709551616 (by omega)
  rw [yCm (fun a i h=>yZ0 i h),← List.range_eq_range'] at this
  exact this
 unfold yka yoB markA
 refine (congrArg (fun z=>zjw z _ _) h1).trans ?_
 cases hd:downA ((List.range a0.2.2.1.length).foldl yP (yaa a0))
 ·simp only [cond_false,zkJ,zkV]
  rw [ytx _ (by unfold yfy; rw [hd]; rfl)]; rfl
 ·rw [yER hd]
  simp only [cond_true,zkK,zkV]
  rw [hd]; rfl
def yjn (a0:dA):Option (ResD yiS×MutD yc2):=bif yjq a0 then (fun n=>some ((n.1,()),(n.2,()))) (yoB a0) else none
theorem yQ0 (a0:dA) (h:yjq a0=true):yjn a0=(fun n=>some ((n.1,()),(n.2,()))) (yoB a0):=by unfold yjn; rw [h]; rfl
def yzN:Con:=⟨yc2,yiS,fun x=>yjn x.1⟩
theorem yQO:ConOk Tryz.prog 101 yzN:=(yNe).mono (fun x r hk h=>zkW h (fun hq=>yP8 x.1 hk hq))
end
end
end Go.Tf
