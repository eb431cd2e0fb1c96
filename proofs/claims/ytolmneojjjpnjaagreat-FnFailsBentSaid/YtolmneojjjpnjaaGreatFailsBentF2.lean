/- Functions of the program, and what they come to. -/
import Derived.Test.YtolmneojjjpnjaaGreatFailsBentF1
namespace Go.Tf
noncomputable section
open Go.Proofs Go.Proofs.Tryz IntKind
set_option synthInstance.maxHeartbeats 400000
set_option synthInstance.maxSize 10000
set_option linter.unusedVariables false
set_option linter.unusedSimpArgs false
set_option maxRecDepth 100000
def yjE:Code:=(f224.body).getD .skip
def yo4:Env:=zkw TT [(76,ydU),(160,yeR)] [(32768,(.pr .fz .fz))]
theorem yDA:FrOk prog ⟨yo4,40,fun _=>none⟩ yjE:=zkA mixed yd ⟨yhY,yi3,trivial⟩
def yvo:Nat→Option Seg:=fun _=>none
def yaO:Shape:=⟨[(2,false,[.ptr 64 0]),(3,false,[.ptr 4224 0]),(4,false,[.int .i64])],[(64,[.nil,.nil,.bool,.nil]),(4224,[.at 800000000,.at 800000001,.bool,.at 800000002])],[(800000000,tL,.fz),(800000001,tW,(.pr .fz .fz)),(800000002,tI,.fz)]⟩
def ydE:Shape:=⟨[(2,false,[.ptr 64 0]),(3,false,[.ptr 4224 0]),(4,false,[.ci .i64 0])],[(64,[.nil,.nil,.bool,.nil]),(4224,[.at 800000000,.at 800000001,.bool,.at 800000002])],[(800000000,tL,.fz),(800000001,tW,(.pr .fz .fz)),(800000002,tI,.fz)]⟩
def ydw:Shape:=⟨[(2,false,[.ptr 64 0]),(3,false,[.ptr 4224 0])],[(64,[.nil,.nil,.bool,.nil]),(4224,[.at 800000000,.at 800000001,.bool,.at 800000002])],[(800000000,tL,.fz),(800000001,tW,(.pr .fz .fz)),(800000002,tI,.fz)]⟩
def ygv:Shape:=⟨[],[],[]⟩
abbrev yjk (v0:Int) (v1 v2:dM):(yaO).X:=((((),()),((),()),(v0,()),()),(((),(),v1.2.2.1,(),()),((),(),v2.2.2.1,(),()),()),(v2.1,v2.2.1,v2.2.2.2,()))
abbrev yCB (v0 v1:dM):(ydE).X:=((((),()),((),()),((),()),()),(((),(),v0.2.2.1,(),()),((),(),v1.2.2.1,(),()),()),(v1.1,v1.2.1,v1.2.2.2,()))
abbrev yri (v0 v1:dM):(ydw).X:=((((),()),((),()),()),(((),(),v0.2.2.1,(),()),((),(),v1.2.2.1,(),()),()),(v1.1,v1.2.1,v1.2.2.2,()))
def yjw (v0:Int) (v1 v2:Bool) (v3:List (List Int)) (v4:List dW) (v5:List Int):Option ((yaO).X ⊕ ((ydw).X ⊕ (ygv).X)) :=bif(ltb v0 (v4.length:Int))then bif(inb v0 v4.length)then bif(inb v0 v4.length)then bif(inb ((nth v4 v0 (0,[])).1) v3.length)then let r4:=(v3.set ((nth v4 v0 (0,[])).1).toNat ((nth v4 v0 (0,[])).2));some (.inl ((((),()),((),()),((i64.wrap (v0+1)),()),()),(((),(),v1,(),()),((),(),v2,(),()),()),(r4,v4,v5,()))) else none else none else none else some (.inr (.inl ((((),()),((),()),()),(((),(),v1,(),()),((),(),v2,(),()),()),(v3,v4,v5,()))))
def ya8 (x:(yaO).X):=yjw x.1.2.2.1.1 x.2.1.1.2.2.1 x.2.1.2.1.2.2.1 x.2.2.1 x.2.2.2.1 x.2.2.2.2.1
def yq5 (x:(ydE).X):(yaO).X:=((((),()),((),()),(0,()),()),(((),(),x.2.1.1.2.2.1,(),()),((),(),x.2.1.2.1.2.2.1,(),()),()),(x.2.2.1,x.2.2.2.1,x.2.2.2.2.1,()))
def ys6:Code:=(zd7 yjE 64 244).getD .skip
theorem yC6:zd7 yjE 64 61=some (.block 0 (.loop ys6)):=by kernel_rfl
theorem yEx (x:(yaO).X):zhu ⟨yo4,40,yvo⟩ 0 ys6 244 yaO ydw ygv x=ya8 x:=by kernel_rfl
def yre (x:(ydE).X):Nat:=18446744073709551616
def ykx (x:(ydE).X):Option ((ydw).X ⊕ (ygv).X):=zF ya8 (yre x) (yq5 x)
def yrs:Seg:=⟨ydE,ydw,ygv,ykx⟩
def yET:Nat→Option Seg:=fun q=>bif Nat.beq q 61 then some yrs else yvo q
theorem yDB:FrOk prog ⟨yo4,40,yET⟩ yjE:=(yDA).loop (sg:=yrs) yaO yq5 (by decide) yC6 ya8 yre (by decide) (fun _=>rfl) (fun x r _ h=>h) yEx
abbrev yjQ:List Par:= [.rd tM]
abbrev ypH:List OT:= [⟨false,tM,(.pr (.ow .fz) (.pr (.ow (.pr .fz .fz)) (.pr .fz (.ow .fz))))⟩]
def ymI (a0:dM):Option (zaY ypH×zak yjQ) :=let r1:=yI a0;let r2:=yU a0;bif(!(!r2))then bif a0.2.2.1 then some ((r1,()),()) else zkt (ykx ((((),()),((),()),((),()),()),(((),(),false,(),()),((),(),r1.2.2.1,(),()),()),(r1.1,r1.2.1,r1.2.2.2,()))) (fun y4 =>some (((y4.2.2.1,([]:List dW),y4.2.1.2.1.2.2.1,y4.2.2.2.2.1),()),())) (fun y4 =>none) else some ((r1,()),())
theorem yGq:ConOk prog 224 ⟨yjQ,ypH,fun x=>ymI x.1⟩:=zkI (yDB) func224 ntmps224.symm fun x=>by kernel_rfl
def ycw (a0:dM):dM:=ydg a0
theorem yIX (a0:dM) (hk:zjx yjQ (a0,())):ymI a0=(fun n=>some ((n,()),())) (ycw a0):=by
 have hb2:a0.2.1.length*32≤2^47:=hk.1.2.1.1;unfold ymI ycw ydg;simp only[yI,yU];cases hm:yq a0
 ·rfl
 have h1:ykx (yCB yc a0)=some (.inl (yri yc (yhI (fun _=>true) a0.2.1 a0.1,a0.2))) :=
  zkD (step:=ya8) a0.2.1.length (fun i s=>yjk i yc (s,a0.2)) (yqe (fun _=>true) a0.2.1) (fun i s=>s.length=a0.1.length) (fun s=> .inl (yri yc (s,a0.2))) (fun i s hi hs=>by
   have hw:=(yR2 hm hi).1;refine⟨?_,yBM.trans hs⟩
   simp only[ya8,yjk,yjw,zky (show(i:Int)<a0.2.1.length by omega),cond_true,wq ((i:Int)+1) (by omega) (by omega),Int.natCast_add,Int.natCast_one,Int.toNat_natCast,zkR hi,hs,hw,yqe]) (fun s hs=>by simp only[ya8,yjk,yjw,zk3 (Int.le_refl _),cond_false]) a0.1 rfl _ (by show _<18446744073709551616; omega)
 rw[h1];cases hf:a0.2.2.1
 ·exact congrArg (fun z=>some (((yhI (fun _=>true) a0.2.1 a0.1,([]:List dW),z,a0.2.2.2),()),())) hf
 ·rfl
def ymj:Con:=⟨yjQ,ypH,fun x=>(fun n=>some ((n,()),())) (ycw x.1)⟩
theorem yyI:ConOk prog 224 ymj:=(yGq).mono (fun x r hk h=>(yIX x.1 hk).trans h)
def ynb:Code:=(f208.body).getD .skip
def yub:Env:=zkw TT [(224,ymj),(228,yu1)] []
theorem yIc:FrOk prog ⟨yub,39,fun _=>none⟩ ynb:=zkA mixed yd ⟨yyI,yEm,trivial⟩
def yzs:Nat→Option Seg:=fun _=>none
def ycr:Shape:=⟨[(0,false,[.ptr 1000000000 0]),(2,false,[.int .i64])],[(1000000000,[.int .i64,.int .i64,.int .i64,.at 800000000,.int .i64,.int .i64,.int .i64,.int .i64,.int .i64,.at 800000001,.int .i64,.bool,.bool])],[(800000000,tM,(.pr (.ow .fz) (.pr (.ow (.pr .fz .fz)) (.pr .fz (.ow .fz))))),(800000001,tW,(.pr .fz .fz))]⟩
def ygl:Shape:=⟨[(0,false,[.ptr 1000000000 0]),(2,false,[.ci .i64 0])],[(1000000000,[.int .i64,.int .i64,.int .i64,.at 800000000,.int .i64,.int .i64,.int .i64,.int .i64,.int .i64,.at 800000001,.int .i64,.bool,.bool])],[(800000000,tM,(.pr (.ow .fz) (.pr (.ow (.pr .fz .fz)) (.pr .fz (.ow .fz))))),(800000001,tW,(.pr .fz .fz))]⟩
def yf7:Shape:=⟨[],[(1000000000,[.int .i64,.int .i64,.int .i64,.at 800000000,.int .i64,.int .i64,.int .i64,.int .i64,.int .i64,.at 800000001,.int .i64,.bool,.bool])],[(800000000,tM,(.pr (.ow .fz) (.pr (.ow (.pr .fz .fz)) (.pr .fz (.ow .fz))))),(800000001,tW,(.pr .fz .fz))]⟩
def yj6:Shape:=⟨[],[],[]⟩
abbrev yoa (v0:Int) (v1:dA):(ycr).X:=((((),()),(v0,()),()),((v1.1,v1.2.1.1,v1.2.1.2,(),v1.2.2.2.1,v1.2.2.2.2.1,v1.2.2.2.2.2.1,v1.2.2.2.2.2.2.1,v1.2.2.2.2.2.2.2.1,(),v1.2.2.2.2.2.2.2.2.2.1,v1.2.2.2.2.2.2.2.2.2.2.1,v1.2.2.2.2.2.2.2.2.2.2.2,()),()),(v1.2.2.1,v1.2.2.2.2.2.2.2.2.1,()))
abbrev yIB (v0:dA):(ygl).X:=((((),()),((),()),()),((v0.1,v0.2.1.1,v0.2.1.2,(),v0.2.2.2.1,v0.2.2.2.2.1,v0.2.2.2.2.2.1,v0.2.2.2.2.2.2.1,v0.2.2.2.2.2.2.2.1,(),v0.2.2.2.2.2.2.2.2.2.1,v0.2.2.2.2.2.2.2.2.2.2.1,v0.2.2.2.2.2.2.2.2.2.2.2,()),()),(v0.2.2.1,v0.2.2.2.2.2.2.2.2.1,()))
abbrev yyD (v0:dA):(yf7).X:=((),((v0.1,v0.2.1.1,v0.2.1.2,(),v0.2.2.2.1,v0.2.2.2.2.1,v0.2.2.2.2.2.1,v0.2.2.2.2.2.2.1,v0.2.2.2.2.2.2.2.1,(),v0.2.2.2.2.2.2.2.2.2.1,v0.2.2.2.2.2.2.2.2.2.2.1,v0.2.2.2.2.2.2.2.2.2.2.2,()),()),(v0.2.2.1,v0.2.2.2.2.2.2.2.2.1,()))
def yoF (v0 v1 v2 v3 v4 v5 v6 v7 v8 v9:Int) (v10 v11:Bool) (v12:List dM) (v13:List dW):Option ((ycr).X ⊕ ((yf7).X ⊕ (yj6).X)) :=bif(ltb v0 (v12.length:Int))then bif(inb v0 v12.length)then bif(!((((nth v12 v0 ([],[],false,[])).2).2).1))then let r3:=ym2 (v1,(v2,v3),v12,v4,v5,v6,v7,v8,v13,v9,v10,v11);bif r3.1 then bif(inb v0 r3.2.2.2.1.length)then let r4:=ycw ((nth r3.2.2.2.1 v0 ([],[],false,[])).1,((nth r3.2.2.2.1 v0 ([],[],false,[])).2).1,(((nth r3.2.2.2.1 v0 ([],[],false,[])).2).2));bif(inb v0 r3.2.2.2.1.length)then some (.inl ((((),()),((i64.wrap (v0+1)),()),()),((r3.2.1,r3.2.2.1.1,r3.2.2.1.2,(),r3.2.2.2.2.1,r3.2.2.2.2.2.1,r3.2.2.2.2.2.2.1,r3.2.2.2.2.2.2.2.1,r3.2.2.2.2.2.2.2.2.1,(),r3.2.2.2.2.2.2.2.2.2.2.1,r3.2.2.2.2.2.2.2.2.2.2.2.1,r3.2.2.2.2.2.2.2.2.2.2.2.2,()),()),((r3.2.2.2.1.set (v0).toNat r4),r3.2.2.2.2.2.2.2.2.2.1,()))) else none else none else some (.inl ((((),()),((i64.wrap (v0+1)),()),()),((r3.2.1,r3.2.2.1.1,r3.2.2.1.2,(),r3.2.2.2.2.1,r3.2.2.2.2.2.1,r3.2.2.2.2.2.2.1,r3.2.2.2.2.2.2.2.1,r3.2.2.2.2.2.2.2.2.1,(),r3.2.2.2.2.2.2.2.2.2.2.1,r3.2.2.2.2.2.2.2.2.2.2.2.1,r3.2.2.2.2.2.2.2.2.2.2.2.2,()),()),(r3.2.2.2.1,r3.2.2.2.2.2.2.2.2.2.1,()))) else some (.inl ((((),()),((i64.wrap (v0+1)),()),()),((v1,v2,v3,(),v4,v5,v6,v7,v8,(),v9,v10,v11,()),()),(v12,v13,()))) else none else some (.inr (.inl ((),((v1,v2,v3,(),v4,v5,v6,v7,v8,(),v9,v10,v11,()),()),(v12,v13,()))))
def ycP (x:(ycr).X):=yoF x.1.2.1.1 x.2.1.1.1 x.2.1.1.2.1 x.2.1.1.2.2.1 x.2.1.1.2.2.2.2.1 x.2.1.1.2.2.2.2.2.1 x.2.1.1.2.2.2.2.2.2.1 x.2.1.1.2.2.2.2.2.2.2.1 x.2.1.1.2.2.2.2.2.2.2.2.1 x.2.1.1.2.2.2.2.2.2.2.2.2.2.1 x.2.1.1.2.2.2.2.2.2.2.2.2.2.2.1 x.2.1.1.2.2.2.2.2.2.2.2.2.2.2.2.1 x.2.2.1 x.2.2.2.1
def yyj (x:(ygl).X):(ycr).X:=((((),()),(0,()),()),((x.2.1.1.1,x.2.1.1.2.1,x.2.1.1.2.2.1,(),x.2.1.1.2.2.2.2.1,x.2.1.1.2.2.2.2.2.1,x.2.1.1.2.2.2.2.2.2.1,x.2.1.1.2.2.2.2.2.2.2.1,x.2.1.1.2.2.2.2.2.2.2.2.1,(),x.2.1.1.2.2.2.2.2.2.2.2.2.2.1,x.2.1.1.2.2.2.2.2.2.2.2.2.2.2.1,x.2.1.1.2.2.2.2.2.2.2.2.2.2.2.2.1,()),()),(x.2.2.1,x.2.2.2.1,()))
def yzH:Code:=(zd7 ynb 64 12).getD .skip
theorem yKT:zd7 ynb 64 3=some (.block 0 (.loop yzH)):=by kernel_rfl
theorem yNn (x:(ycr).X):zhu ⟨yub,39,yzs⟩ 0 yzH 12 ycr yf7 yj6 x=ycP x:=by kernel_rfl
def yyx (x:(ygl).X):Nat:=18446744073709551616
def ypi (x:(ygl).X):Option ((yf7).X ⊕ (yj6).X):=zF ycP (yyx x) (yyj x)
def yzc:Seg:=⟨ygl,yf7,yj6,ypi⟩
def yKt:Nat→Option Seg:=fun q=>bif Nat.beq q 3 then some yzc else yzs q
theorem yId:FrOk prog ⟨yub,39,yKt⟩ ynb:=(yIc).loop (sg:=yzc) ycr yyj (by decide) yKT ycP yyx (by decide) (fun _=>rfl) (fun x r _ h=>h) yNn
abbrev ynl:List Par:= [.pt tA (.pr .fz (.pr (.pr .fz .fz) (.pr (.ow (.pr (.ow .fz) (.pr (.ow (.pr .fz .fz)) (.pr .fz (.ow .fz))))) (.pr .fz (.pr .fz (.pr .fz (.pr .fz (.pr .fz (.pr (.ow (.pr .fz .fz)) (.pr .fz (.pr .fz .fz)))))))))))]
abbrev yuZ:List OT:= []
def yqF (a0:dA):Option (zaY yuZ×zak ynl) :=zkt (ypi ((((),()),((),()),()),((a0.1,a0.2.1.1,a0.2.1.2,(),a0.2.2.2.1,a0.2.2.2.2.1,a0.2.2.2.2.2.1,a0.2.2.2.2.2.2.1,a0.2.2.2.2.2.2.2.1,(),a0.2.2.2.2.2.2.2.2.2.1,a0.2.2.2.2.2.2.2.2.2.2.1,a0.2.2.2.2.2.2.2.2.2.2.2,()),()),(a0.2.2.1,a0.2.2.2.2.2.2.2.2.1,()))) (fun y4 =>some ((),((y4.2.1.1.1,(y4.2.1.1.2.1,y4.2.1.1.2.2.1),y4.2.2.1,y4.2.1.1.2.2.2.2.1,y4.2.1.1.2.2.2.2.2.1,y4.2.1.1.2.2.2.2.2.2.1,y4.2.1.1.2.2.2.2.2.2.2.1,y4.2.1.1.2.2.2.2.2.2.2.2.1,y4.2.2.2.1,y4.2.1.1.2.2.2.2.2.2.2.2.2.2.1,y4.2.1.1.2.2.2.2.2.2.2.2.2.2.2.1,y4.2.1.1.2.2.2.2.2.2.2.2.2.2.2.2.1),()))) (fun y4 =>none)
theorem yMO:ConOk prog 208 ⟨ynl,yuZ,fun x=>yqF x.1⟩:=zkI (yId) func208 ntmps208.symm fun x=>by kernel_rfl
def ycU (a0:dA):dA:=yX a0
theorem yOP (a0:dA) (hk:zjx ynl (a0,())):yqF a0=(fun n=>some ((),(n,()))) (ycU a0):=by
 have hb:a0.2.2.1.length*80≤2^47:=hk.1.2.2.1.1
 have h1:ypi (yIB a0)=some (.inl (yyD (yX a0))) :=
  zkD (step:=ycP) a0.2.2.1.length (fun i s=>yoa i s) yy (fun _ s=>s.2.2.1.length=a0.2.2.1.length) (fun s=> .inl (yyD s)) (fun i s hi hs=>⟨by
   simp only[ycP,yoa,yoF,hs,zky (show(i:Int)<a0.2.2.1.length by omega),cond_true,wq ((i:Int)+1) (by omega) (by omega),Int.natCast_add,Int.natCast_one,Int.toNat_natCast,zkR hi,zkX,yNp,yan,ycw,yy,yh7]
   cases(nth s.2.2.1 i yc).2.2.1<;>cases(yV s).1<;>simp only[cond_true,cond_false,Bool.not_true,Bool.not_false,yan,Int.toNat_natCast],(yi7 s i).trans hs⟩) (fun s hs=>by simp only[ycP,yoa,yoF,hs,zk3 (Int.le_refl _),cond_false]) a0 rfl _ (by show _<18446744073709551616; omega)
 unfold yqF ycU;rw[h1]; rfl
def ykg:Con:=⟨ynl,yuZ,fun x=>(fun n=>some ((),(n,()))) (ycU x.1)⟩
theorem ysy:ConOk prog 208 ykg:=(yMO).mono (fun x r hk h=>(yOP x.1 hk).trans h)
def yna:Code:=(f174.body).getD .skip
def yua:Env:=zkw TT [(144,yml),(206,yhF),(208,ykg)] []
theorem yIa:FrOk prog ⟨yua,63,fun _=>none⟩ yna:=zkA mixed yd ⟨yyK,ynv,ysy,trivial⟩
def yzr:Nat→Option Seg:=fun _=>none
def ybV:Shape:=⟨[(0,false,[.ptr 1000000000 0]),(2,false,[.int .i64])],[(1000000000,[.int .i64,.int .i64,.int .i64,.at 800000000,.int .i64,.int .i64,.int .i64,.int .i64,.int .i64,.at 800000001,.int .i64,.bool,.bool])],[(800000000,tM,(.pr (.ow .fz) (.pr (.ow (.pr .fz .fz)) (.pr .fz (.ow .fz))))),(800000001,tW,(.pr .fz .fz))]⟩
def yfl:Shape:=⟨[(0,false,[.ptr 1000000000 0]),(2,false,[.ci .i64 0])],[(1000000000,[.int .i64,.int .i64,.int .i64,.at 800000000,.int .i64,.int .i64,.int .i64,.int .i64,.int .i64,.at 800000001,.int .i64,.bool,.bool])],[(800000000,tM,(.pr (.ow .fz) (.pr (.ow (.pr .fz .fz)) (.pr .fz (.ow .fz))))),(800000001,tW,(.pr .fz .fz))]⟩
def yfa:Shape:=⟨[(0,false,[.ptr 1000000000 0])],[(1000000000,[.int .i64,.int .i64,.int .i64,.at 800000000,.int .i64,.int .i64,.int .i64,.int .i64,.int .i64,.at 800000001,.int .i64,.bool,.bool])],[(800000000,tM,(.pr (.ow .fz) (.pr (.ow (.pr .fz .fz)) (.pr .fz (.ow .fz))))),(800000001,tW,(.pr .fz .fz))]⟩
def yiq:Shape:=⟨[],[],[]⟩
abbrev ymv (v0:Int) (v1:dA):(ybV).X:=((((),()),(v0,()),()),((v1.1,v1.2.1.1,v1.2.1.2,(),v1.2.2.2.1,v1.2.2.2.2.1,v1.2.2.2.2.2.1,v1.2.2.2.2.2.2.1,v1.2.2.2.2.2.2.2.1,(),v1.2.2.2.2.2.2.2.2.2.1,v1.2.2.2.2.2.2.2.2.2.2.1,v1.2.2.2.2.2.2.2.2.2.2.2,()),()),(v1.2.2.1,v1.2.2.2.2.2.2.2.2.1,()))
abbrev yF7 (v0:dA):(yfl).X:=((((),()),((),()),()),((v0.1,v0.2.1.1,v0.2.1.2,(),v0.2.2.2.1,v0.2.2.2.2.1,v0.2.2.2.2.2.1,v0.2.2.2.2.2.2.1,v0.2.2.2.2.2.2.2.1,(),v0.2.2.2.2.2.2.2.2.2.1,v0.2.2.2.2.2.2.2.2.2.2.1,v0.2.2.2.2.2.2.2.2.2.2.2,()),()),(v0.2.2.1,v0.2.2.2.2.2.2.2.2.1,()))
abbrev ywh (v0:dA):(yfa).X:=((((),()),()),((v0.1,v0.2.1.1,v0.2.1.2,(),v0.2.2.2.1,v0.2.2.2.2.1,v0.2.2.2.2.2.1,v0.2.2.2.2.2.2.1,v0.2.2.2.2.2.2.2.1,(),v0.2.2.2.2.2.2.2.2.2.1,v0.2.2.2.2.2.2.2.2.2.2.1,v0.2.2.2.2.2.2.2.2.2.2.2,()),()),(v0.2.2.1,v0.2.2.2.2.2.2.2.2.1,()))
def ymY (v0 v1 v2 v3 v4 v5 v6 v7 v8 v9:Int) (v10 v11:Bool) (v12:List dM) (v13:List dW):Option ((ybV).X ⊕ ((yfa).X ⊕ (yiq).X)) :=bif(ltb v0 (v12.length:Int))then let r3:=yC (v1,v8,v0,v2,v3,v7,v4,v5);bnd (ydN (v1,(v2,v3),v12,v4,v5,v6,v7,v8,v13,v9,v10,v11) v0 (v8.tmod 2) r3) fun r4 =>some (.inl ((((),()),((i64.wrap (v0+1)),()),()),((r4.2.1.1,r4.2.1.2.1.1,r4.2.1.2.1.2,(),r4.2.1.2.2.2.1,r4.2.1.2.2.2.2.1,r4.2.1.2.2.2.2.2.1,r4.2.1.2.2.2.2.2.2.1,r4.2.1.2.2.2.2.2.2.2.1,(),r4.2.1.2.2.2.2.2.2.2.2.2.1,r4.2.1.2.2.2.2.2.2.2.2.2.2.1,r4.2.1.2.2.2.2.2.2.2.2.2.2.2,()),()),(r4.2.1.2.2.1,r4.2.1.2.2.2.2.2.2.2.2.1,()))) else some (.inr (.inl ((((),()),()),((v1,v2,v3,(),v4,v5,v6,v7,v8,(),v9,v10,v11,()),()),(v12,v13,()))))
def yce (x:(ybV).X):=ymY x.1.2.1.1 x.2.1.1.1 x.2.1.1.2.1 x.2.1.1.2.2.1 x.2.1.1.2.2.2.2.1 x.2.1.1.2.2.2.2.2.1 x.2.1.1.2.2.2.2.2.2.1 x.2.1.1.2.2.2.2.2.2.2.1 x.2.1.1.2.2.2.2.2.2.2.2.1 x.2.1.1.2.2.2.2.2.2.2.2.2.2.1 x.2.1.1.2.2.2.2.2.2.2.2.2.2.2.1 x.2.1.1.2.2.2.2.2.2.2.2.2.2.2.2.1 x.2.2.1 x.2.2.2.1
def yv2 (x:(yfl).X):(ybV).X:=((((),()),(0,()),()),((x.2.1.1.1,x.2.1.1.2.1,x.2.1.1.2.2.1,(),x.2.1.1.2.2.2.2.1,x.2.1.1.2.2.2.2.2.1,x.2.1.1.2.2.2.2.2.2.1,x.2.1.1.2.2.2.2.2.2.2.1,x.2.1.1.2.2.2.2.2.2.2.2.1,(),x.2.1.1.2.2.2.2.2.2.2.2.2.2.1,x.2.1.1.2.2.2.2.2.2.2.2.2.2.2.1,x.2.1.1.2.2.2.2.2.2.2.2.2.2.2.2.1,()),()),(x.2.2.1,x.2.2.2.1,()))
def yxP:Code:=(zd7 yna 64 52).getD .skip
theorem yHl:zd7 yna 64 13=some (.block 0 (.loop yxP)):=by kernel_rfl
theorem yJ1 (x:(ybV).X):zhu ⟨yua,63,yzr⟩ 0 yxP 52 ybV yfa yiq x=yce x:=by kernel_rfl
def ywd (x:(yfl).X):Nat:=18446744073709551616
def ynL (x:(yfl).X):Option ((yfa).X ⊕ (yiq).X):=zF yce (ywd x) (yv2 x)
def ywx:Seg:=⟨yfl,yfa,yiq,ynL⟩
def yKs:Nat→Option Seg:=fun q=>bif Nat.beq q 13 then some ywx else yzr q
theorem yIb:FrOk prog ⟨yua,63,yKs⟩ yna:=(yIa).loop (sg:=ywx) ybV yv2 (by decide) yHl yce ywd (by decide) (fun _=>rfl) (fun x r _ h=>h) yJ1
abbrev ynk:List Par:= [.pt tA (.pr .fz (.pr (.pr .fz .fz) (.pr (.ow (.pr (.ow .fz) (.pr (.ow (.pr .fz .fz)) (.pr .fz (.ow .fz))))) (.pr .fz (.pr .fz (.pr .fz (.pr .fz (.pr .fz (.pr (.ow (.pr .fz .fz)) (.pr .fz (.pr .fz .fz)))))))))))]
abbrev yuY:List OT:= []
def yqE (a0:dA):Option (zaY yuY×zak ynk) :=zkt (ynL ((((),()),((),()),()),((a0.1,a0.2.1.1,a0.2.1.2,(),a0.2.2.2.1,a0.2.2.2.2.1,a0.2.2.2.2.2.1,a0.2.2.2.2.2.2.1,(i64.wrap (a0.2.2.2.2.2.2.2.1+1)),(),a0.2.2.2.2.2.2.2.2.2.1,a0.2.2.2.2.2.2.2.2.2.2.1,a0.2.2.2.2.2.2.2.2.2.2.2,()),()),(a0.2.2.1,a0.2.2.2.2.2.2.2.2.1,()))) (fun y4 =>let r6:=ycU (y4.2.1.1.1,(y4.2.1.1.2.1,y4.2.1.1.2.2.1),y4.2.2.1,y4.2.1.1.2.2.2.2.1,y4.2.1.1.2.2.2.2.2.1,y4.2.1.1.2.2.2.2.2.2.1,y4.2.1.1.2.2.2.2.2.2.2.1,y4.2.1.1.2.2.2.2.2.2.2.2.1,y4.2.2.2.1,y4.2.1.1.2.2.2.2.2.2.2.2.2.2.1,y4.2.1.1.2.2.2.2.2.2.2.2.2.2.2.1,y4.2.1.1.2.2.2.2.2.2.2.2.2.2.2.2.1);some ((),(r6,()))) (fun y4 =>none)
theorem yMN:ConOk prog 174 ⟨ynk,yuY,fun x=>yqE x.1⟩:=zkI (yIb) func174 ntmps174.symm fun x=>by kernel_rfl
def yai (a0:dA):dA:=yaH a0
theorem yGR (a:dA) (i:Nat):(yaj a i).2.2.1.length=a.2.2.1.length:=ysz _ _ _ _
theorem yOO (a0:dA) (hk:zjx ynk (a0,())):yqE a0=(fun n=>some ((),(n,()))) (yai a0):=by
 have hb:a0.2.2.1.length*80≤2^47:=hk.1.2.2.1.1
 have h1:ynL (yF7 (yeM a0))=some (.inl (ywh ((List.range a0.2.2.1.length).foldl yaj (yeM a0)))) :=
  zkD (step:=yce) a0.2.2.1.length (fun i s=>ymv i s) yaj (fun _ s=>s.2.2.1.length=a0.2.2.1.length) (fun s=> .inl (ywh s)) (fun i s hi hs=>⟨by
   simp only[yce,ymv,ymY,hs,zky (show(i:Int)<a0.2.2.1.length by omega),cond_true,wq ((i:Int)+1) (by omega) (by omega),Int.natCast_add,Int.natCast_one,Int.toNat_natCast,zkX];rw[yi4 s i (s.2.2.2.2.2.2.2.1.tmod 2) (yC (s.1,s.2.2.2.2.2.2.2.1,(i:Int),s.2.1.1,s.2.1.2,s.2.2.2.2.2.2.1,s.2.2.2.1,s.2.2.2.2.1)) (zkR (by rw[hs]; exact hi))]
   rfl,(yGR s i).trans hs⟩) (fun s hs=>by simp only[yce,ymv,ymY,hs,zk3 (Int.le_refl _),cond_false]) (yeM a0) rfl _ (by show _<18446744073709551616; omega)
 unfold yqE yai yaH;exact(congrArg (fun z=>zkt z _ _) h1).trans rfl
def ykf:Con:=⟨ynk,yuY,fun x=>(fun n=>some ((),(n,()))) (yai x.1)⟩
theorem ysx:ConOk prog 174 ykf:=(yMN).mono (fun x r hk h=>(yOO x.1 hk).trans h)
def yND:Code:=(f108.body).getD .skip
def yN6:Env:=zkw TT [(143,ynT),(174,ykf)] []
theorem yFG:FrOk prog ⟨yN6,62,fun _=>none⟩ yND:=zkA mixed yd ⟨yz9,ysx,trivial⟩
abbrev yhr:List Par:= [.pt tA (.pr .fz (.pr (.pr .fz .fz) (.pr (.ow (.pr (.ow .fz) (.pr (.ow (.pr .fz .fz)) (.pr .fz (.ow .fz))))) (.pr .fz (.pr .fz (.pr .fz (.pr .fz (.pr .fz (.pr (.ow (.pr .fz .fz)) (.pr .fz (.pr .fz .fz))))))))))),.rd tI]
abbrev ylD:List OT:= []
def yon (a0:dA) (a1:Int):Option (zaY ylD×zak yhr) :=bif(inb a1 a0.2.2.1.length)then let r1:=yhN ((nth a0.2.2.1 a1 ([],[],false,[])).1,((nth a0.2.2.1 a1 ([],[],false,[])).2).1,(((nth a0.2.2.1 a1 ([],[],false,[])).2).2));bif(inb a1 a0.2.2.1.length)then bif(!(a0.2.2.2.1==(-1)))then bif(a0.2.2.2.1==a1)then bif(!a0.2.2.2.2.2.2.2.2.2.2.1)then bif(!a0.2.2.2.2.2.2.2.2.2.2.2)then bif(ltb a0.2.2.2.2.2.2.2.1 60000)then let r2:=yai (a0.1,a0.2.1,(a0.2.2.1.set (a1).toNat r1),a1,0,a0.2.2.2.2.2);some ((),(r2,())) else some ((),((a0.1,a0.2.1,(a0.2.2.1.set (a1).toNat r1),a1,0,a0.2.2.2.2.2),())) else some ((),((a0.1,a0.2.1,(a0.2.2.1.set (a1).toNat r1),a1,0,a0.2.2.2.2.2),())) else some ((),((a0.1,a0.2.1,(a0.2.2.1.set (a1).toNat r1),a1,0,a0.2.2.2.2.2),())) else bif(!a0.2.2.2.2.2.2.2.2.2.2.1)then some ((),((a0.1,a0.2.1,(a0.2.2.1.set (a1).toNat r1),a0.2.2.2.1,a0.2.2.2.2.1,a0.2.2.2.2.2.1,a0.2.2.2.2.2.2.1,a0.2.2.2.2.2.2.2.1,a0.2.2.2.2.2.2.2.2.1,a0.2.2.2.2.2.2.2.2.2.1,a0.2.2.2.2.2.2.2.2.2.2.1,true),())) else some ((),((a0.1,a0.2.1,(a0.2.2.1.set (a1).toNat r1),a0.2.2.2.1,a0.2.2.2.2.1,a0.2.2.2.2.2.1,a0.2.2.2.2.2.2.1,a0.2.2.2.2.2.2.2.1,a0.2.2.2.2.2.2.2.2.1,a0.2.2.2.2.2.2.2.2.2.1,a0.2.2.2.2.2.2.2.2.2.2.1,true),())) else bif(!a0.2.2.2.2.2.2.2.2.2.2.1)then bif(!a0.2.2.2.2.2.2.2.2.2.2.2)then bif(ltb a0.2.2.2.2.2.2.2.1 60000)then let r3:=yai (a0.1,a0.2.1,(a0.2.2.1.set (a1).toNat r1),a1,0,a0.2.2.2.2.2);some ((),(r3,())) else some ((),((a0.1,a0.2.1,(a0.2.2.1.set (a1).toNat r1),a1,0,a0.2.2.2.2.2),())) else some ((),((a0.1,a0.2.1,(a0.2.2.1.set (a1).toNat r1),a1,0,a0.2.2.2.2.2),())) else some ((),((a0.1,a0.2.1,(a0.2.2.1.set (a1).toNat r1),a1,0,a0.2.2.2.2.2),())) else none else none
theorem yJq:ConOk prog 108 ⟨yhr,ylD,fun x=>yon x.1 x.2.1⟩:=zkI (yFG) func108 ntmps108.symm fun x=>by kernel_rfl
def ylV (a0:dA) (a1:Int):dA:=ylR a0 a1
def ysB (a0:dA) (a1:Int):Bool:=inb a1 a0.2.2.1.length
theorem yL9 (a0:dA) (a1:Int) (hk:zjx yhr (a0,a1,())) (hq:ysB a0 a1=true):yon a0 a1=(fun n=>some ((),(n,()))) (ylV a0 a1):=by
 have hq:inb a1 a0.2.2.1.length=true:=hq;unfold yon ylV ylR ycu ylQ ysm yi;simp only[hq,zkX,yhN,yI,yai];cases(a0.2.2.2.1== -1)<;>cases(a0.2.2.2.1==a1)<;>cases a0.2.2.2.2.2.2.2.2.2.2.1<;>cases a0.2.2.2.2.2.2.2.2.2.2.2<;>cases ltb a0.2.2.2.2.2.2.2.1 60000<;>rfl
def yeW (a0:dA) (a1:Int):Option (zaY ylD×zak yhr):=bif ysB a0 a1 then(fun n=>some ((),(n,()))) (ylV a0 a1)else none
theorem yAe (a0:dA) (a1:Int) (h:ysB a0 a1=true):yeW a0 a1=(fun n=>some ((),(n,()))) (ylV a0 a1):=by unfold yeW; rw[h]; rfl
def ynU:Con:=⟨yhr,ylD,fun x=>yeW x.1 x.2.1⟩
theorem yAa:ConOk prog 108 ynU:=(yJq).mono (fun x r hk h=>zkY h (fun hq=>yL9 x.1 x.2.1 hk hq))
def yjF:Code:=(f112.body).getD .skip
def yo5:Env:=zkw TT [(76,ydU),(82,yj),(160,yeR),(161,ysk)] []
theorem yDE:FrOk prog ⟨yo5,68,fun _=>none⟩ yjF:=zkA mixed yd ⟨yhY,ym,yi3,yCa,trivial⟩
def yvp:Nat→Option Seg:=fun _=>none
def yas:Shape:=⟨[(1,false,[.int .i64]),(4,false,[.ptr 64 0]),(5,false,[.ptr 4224 0]),(6,false,[.int .i64])],[(64,[.nil,.nil,.bool,.nil]),(4224,[.at 800000000,.at 800000001,.bool,.at 800000002])],[(800000000,tL,.fz),(800000001,tW,(.pr .fz .fz)),(800000002,tI,.fz)]⟩
def yc6:Shape:=⟨[(1,false,[.int .i64]),(4,false,[.ptr 64 0]),(5,false,[.ptr 4224 0]),(6,false,[.int .i64])],[(64,[.nil,.nil,.bool,.nil]),(4224,[.at 800000000,.at 800000001,.bool,.at 800000002])],[(800000000,tL,.fz),(800000001,tW,(.pr .fz .fz)),(800000002,tI,.fz)]⟩
def yc1:Shape:=⟨[(1,false,[.int .i64]),(4,false,[.ptr 64 0]),(5,false,[.ptr 4224 0]),(6,false,[.int .i64])],[(64,[.nil,.nil,.bool,.nil]),(4224,[.at 800000000,.at 800000001,.bool,.at 800000002])],[(800000000,tL,.fz),(800000001,tW,(.pr .fz .fz)),(800000002,tI,.fz)]⟩
def yfC:Shape:=⟨[],[],[]⟩
abbrev yiy (v0 v1:Int) (v2 v3:dM):(yas).X:=(((v0,()),((),()),((),()),(v1,()),()),(((),(),v2.2.2.1,(),()),((),(),v3.2.2.1,(),()),()),(v3.1,v3.2.1,v3.2.2.2,()))
abbrev yBR (v0 v1:Int) (v2 v3:dM):(yc6).X:=(((v0,()),((),()),((),()),(v1,()),()),(((),(),v2.2.2.1,(),()),((),(),v3.2.2.1,(),()),()),(v3.1,v3.2.1,v3.2.2.2,()))
abbrev yBN (v0 v1:Int) (v2 v3:dM):(yc1).X:=(((v0,()),((),()),((),()),(v1,()),()),(((),(),v2.2.2.1,(),()),((),(),v3.2.2.1,(),()),()),(v3.1,v3.2.1,v3.2.2.2,()))
def yiH (v0 v1:Int) (v2 v3:Bool) (v4:List (List Int)) (v5:List dW) (v6:List Int):Option ((yas).X ⊕ ((yc1).X ⊕ (yfC).X)) :=bif(ltb 0 v1)then bif(inb (i64.wrap (v1-1)) v6.length)then bif(ltb v0 (nth v6 (i64.wrap (v1-1)) 0))then bif(inb (i64.wrap (v1-1)) v6.length)then bif(inb v1 v6.length)then some (.inl (((v0,()),((),()),((),()),((i64.wrap (v1-1)),()),()),(((),(),v2,(),()),((),(),v3,(),()),()),(v4,v5,(v6.set (v1).toNat (nth v6 (i64.wrap (v1-1)) 0)),()))) else none else none else some (.inr (.inl (((v0,()),((),()),((),()),(v1,()),()),(((),(),v2,(),()),((),(),v3,(),()),()),(v4,v5,v6,())))) else none else some (.inr (.inl (((v0,()),((),()),((),()),(v1,()),()),(((),(),v2,(),()),((),(),v3,(),()),()),(v4,v5,v6,()))))
def yaF (x:(yas).X):=yiH x.1.1.1 x.1.2.2.2.1.1 x.2.1.1.2.2.1 x.2.1.2.1.2.2.1 x.2.2.1 x.2.2.2.1 x.2.2.2.2.1
def yp5 (x:(yc6).X):(yas).X:=(((x.1.1.1,()),((),()),((),()),(x.1.2.2.2.1.1,()),()),(((),(),x.2.1.1.2.2.1,(),()),((),(),x.2.1.2.1.2.2.1,(),()),()),(x.2.2.1,x.2.2.2.1,x.2.2.2.2.1,()))
def yqU:Code:=(zd7 yjF 64 504).getD .skip
theorem yCk:zd7 yjF 64 126=some (.block 0 (.loop yqU)):=by kernel_rfl
theorem yCP (x:(yas).X):zhu ⟨yo5,68,yvp⟩ 0 yqU 504 yas yc1 yfC x=yaF x:=by kernel_rfl
def yqa (x:(yc6).X):Nat:=18446744073709551616
def yja (x:(yc6).X):Option ((yc1).X ⊕ (yfC).X):=zF yaF (yqa x) (yp5 x)
def yqJ:Seg:=⟨yc6,yc1,yfC,yja⟩
def yEU:Nat→Option Seg:=fun q=>bif Nat.beq q 126 then some yqJ else yvp q
theorem yDF:FrOk prog ⟨yo5,68,yEU⟩ yjF:=(yDE).loop (sg:=yqJ) yas yp5 (by decide) yCk yaF yqa (by decide) (fun _=>rfl) (fun x r _ h=>h) yCP
abbrev yjS:List Par:= [.rd tM,.rd tI]
abbrev ypK:List OT:= [⟨false,tM,(.pr (.ow .fz) (.pr (.ow (.pr .fz .fz)) (.pr .fz (.ow .fz))))⟩]
def ymK (a0:dM) (a1:Int):Option (zaY ypK×zak yjS) :=let r1:=yI a0;let r2:=yU a0;bif(!(!r2))then let r3:=ya a1 0 (i64.wrap ((a0.1.length:Int)-1));bif(!(!r3))then let r4:=yfu a0.2.2.2 a1;bif r4 then some ((r1,()),()) else bif(zkl r1.2.2.2.length ([a1]:List Int).length 8)then zkt (yja (((a1,()),((),()),((),()),((i64.wrap (((r1.2.2.2++([a1]:List Int)).length:Int)-1)),()),()),(((),(),false,(),()),((),(),r1.2.2.1,(),()),()),(r1.1,r1.2.1,(r1.2.2.2++([a1]:List Int)),()))) (fun y4 =>bif(inb y4.1.2.2.2.1.1 y4.2.2.2.2.1.length)then some (((y4.2.2.1,y4.2.2.2.1,y4.2.1.2.1.2.2.1,(y4.2.2.2.2.1.set (y4.1.2.2.2.1.1).toNat y4.1.1.1)),()),()) else none) (fun y4 =>none) else none else some ((r1,()),()) else some ((r1,()),())
theorem yGt:ConOk prog 112 ⟨yjS,ypK,fun x=>ymK x.1 x.2.1⟩:=zkI (yDF) func112 ntmps112.symm fun x=>by kernel_rfl
def ybn (a0:dM) (a1:Int):dM:=spoil a0 a1
theorem yNq (n:Int) (m:dM) (p:List Int) (hp: ∀x∈p,x<n): ∀(j:Nat) (q1 q2:List Int) (x:Int) (fuel:Nat),q1.length=j→j<fuel→(∀y∈q1,n<y)→p.length+q1.length≤1000 →
  ∃(x':Int) (q':List Int),q1++q2=q'∧zF yaF fuel (yiy n ((p.length+q1.length:Nat):Int) yc (m.1,m.2.1,m.2.2.1,(p++q1)++x::q2))=some (.inl (yBN n (p.length:Nat) yc (m.1,m.2.1,m.2.2.1,p++x'::q')))
 | 0,q1,q2,x,fuel+1,hj,hf,hq,hb=>by
  have:q1= []:=List.length_eq_zero_iff.1 hj;subst this;refine⟨x,q2,rfl,?_⟩;simp only[zF,yaF,yiy,yiH,List.length_nil,Nat.add_zero,List.append_nil];rcases List.eq_nil_or_concat p with rfl | ⟨P,y,rfl⟩
  ·rfl
  ·have hy:=hp y (by simp)
   simp only[List.concat_eq_append,List.length_append,List.length_cons,List.length_nil,List.append_assoc,List.cons_append,List.nil_append]at hb ⊢
   rw[zky (show(0:Int)<((P.length+(0+1):Nat):Int)by omega),wq (((P.length+(0+1):Nat):Int)-1) (by omega) (by omega),show((P.length+(0+1):Nat):Int)-1=(P.length:Nat)by omega,
    zkR (by simp),zkS,ySH,zk3 (show y≤n by omega)]
   rfl
 | j+1,q1,q2,x,fuel+1,hj,hf,hq,hb=>by
  rcases List.eq_nil_or_concat q1 with rfl | ⟨Q,y,rfl⟩
  ·cases hj
  ·rw[List.concat_eq_append]at hj hq hb ⊢
   have hQ:Q.length=j:=by simpa using hj
   have hy:=hq y (by simp);obtain⟨x',q',e1,e2⟩:=yNq n m p hp j Q (y::q2) y fuel hQ (by omega) (fun z hz=>hq z (by simp[hz])) (by simp at hb; omega);refine⟨x',q',by rw[← e1]; simp,?_⟩;rw[← e2];have ea:((p++(Q++ [y]))++x::q2)=(p++Q)++y::x::q2:=by simp
   have el:p.length+(Q++ [y]).length=(p++Q).length+1:=by simp; omega
   have el2:p.length+Q.length=(p++Q).length:=by simp
   have hb2:(p++Q).length≤1000:=by simp at hb ⊢; omega
   rw[ea,el,el2];generalize p++Q=A at hb2;rw[zF];simp only[yaF,yiy,yiH]
   have es:(A++y::x::q2).set (A.length+1) y=A++y::y::q2:=by
    have:=ySL (A++ [y]) x y q2;simp at this ⊢
   rw[zky (show(0:Int)<((A.length+1:Nat):Int)by omega),wq (((A.length+1:Nat):Int)-1) (by omega) (by omega),show((A.length+1:Nat):Int)-1=(A.length:Nat)by omega,zkR (show A.length<(A++y::x::q2).length by simp),zkS,ySH,zky hy,
    zkR (show A.length+1<(A++y::x::q2).length by simp),Int.toNat_natCast,es]
   rfl
theorem yI0 (a0:dM) (a1:Int) (hk:zjx yjS (a0,a1,())):ymK a0 a1=(fun n=>some ((n,()),())) (ybn a0 a1):=by
 unfold ymK ybn spoil;simp only[yI,yU,ycf,yfu];cases hm:yq a0
 ·rfl
 obtain⟨h1,h2,h3,h4,h5,h6⟩:=yak hm;rw[yh9]at h3;have hlen:=yAX h3.2 (lo:=0) (n:=a0.1.length) h3.1 (by omega);rw[wq ((a0.1.length:Int)-1) (by omega) (by omega)]
 have hi:(leb 0 a1&&leb a1 ((a0.1.length:Int)-1))=inb a1 a0.1.length:=by
  rw[Bool.eq_iff_iff,Bool.and_eq_true,zj7,zj7,zj6]; omega
 rw[hi];cases hin:inb a1 a0.1.length
 ·rfl
 cases hh:a0.2.2.2.any (· ==a1)
 ·have hn:a1∉a0.2.2.2:=fun h=>by
   have:=List.any_eq_false.1 hh a1 h;simp at this
  have hsp:=ySa h3.2 hn;have hp: ∀x∈a0.2.2.2.filter (fun x=>ltb x a1),x<a1:=fun x hx=>zka.1 (List.mem_filter.1 hx).2
  have hq: ∀x∈a0.2.2.2.filter (fun x=>ltb a1 x),a1<x:=fun x hx=>zka.1 (List.mem_filter.1 hx).2
  unfold yqd;generalize a0.2.2.2.filter (fun x=>ltb x a1)=P at hsp hp;generalize a0.2.2.2.filter (fun x=>ltb a1 x)=Q at hsp hq;have hPQ:P.length+Q.length=a0.2.2.2.length:=by rw[hsp,List.length_append]
  obtain⟨x',q',e1,e2⟩:=yNq a1 a0 P hp Q.length Q [] a1 18446744073709551616 rfl (by omega) hq (by omega);rw[List.append_nil]at e1;subst e1;simp only[cond_true,cond_false,Bool.not_true,Bool.not_false,Bool.and_self]
  rw[zkF.2 (show(a0.2.2.2.length+ [a1].length)*8≤140737488355328 by simp only[List.length_cons,List.length_nil]; omega),wr (show -9223372036854775808≤((a0.2.2.2++ [a1]).length:Int)-1 by omega) (by simp only[List.length_append,List.length_cons,List.length_nil]; omega),
   show((a0.2.2.2++ [a1]).length:Int)-1=((P.length+Q.length:Nat):Int)by simp only[List.length_append,List.length_cons,List.length_nil]; omega,hsp,cond_true]
  refine(congrArg (fun z=>zkt z _ _) (show yja (yBR a1 ((P.length+Q.length:Nat):Int) yc (a0.1,a0.2.1,a0.2.2.1,(P++Q)++ [a1]))=_ from e2)).trans ?_;simp only[zkN];show(bif inb (P.length:Int) (P++x'::Q).length then some (((a0.1,a0.2.1,a0.2.2.1,(P++x'::Q).set (P.length:Int).toNat a1),()),())else none)=_;rw[zkR (by simp),Int.toNat_natCast,ySL]; rfl
 ·rfl
def yhh:Con:=⟨yjS,ypK,fun x=>(fun n=>some ((n,()),())) (ybn x.1 x.2.1)⟩
theorem yoc:ConOk prog 112 yhh:=(yGt).mono (fun x r hk h=>(yI0 x.1 x.2.1 hk).trans h)
def yQn:Code:=(f216.body).getD .skip
def yQL:Env:=zkw TT [(78,yhE),(82,yj),(200,yfo)] []
theorem yH6:FrOk prog ⟨yQL,48,fun _=>none⟩ yQn:=zkA mixed yd ⟨ynu,ym,ykn,trivial⟩
abbrev yuu:List Par:= [.rd tA,.rd tI,.rd tL]
abbrev yuW:List OT:= [⟨false,tI,.fz⟩]
def yAv (a0:dA) (a1:Int) (a2:List Int):Option (zaY yuW×zak yuu) :=let r1:=yag a0;bif(!(!r1))then bif(!((a2.length:Int) !=(i64.wrap (a0.2.1.1-1))))then let r2:=yG a2;bif(!r2)then some ((1,()),()) else bif a0.2.2.2.2.2.2.2.2.2.2.1 then some ((6,()),()) else let r3:=ya a1 0 (i64.wrap (a0.2.1.2-1));bif(!r3)then some ((2,()),()) else bif a0.2.2.2.2.2.2.2.2.2.2.2 then some ((5,()),()) else bif(!(leb 60000 a0.2.2.2.2.2.1))then bif(leb 59990 a0.2.2.2.2.2.2.2.1)then some ((7,()),()) else some ((0,()),()) else some ((7,()),()) else some ((1,()),()) else some ((1,()),())
theorem yMK:ConOk prog 216 ⟨yuu,yuW,fun x=>yAv x.1 x.2.1 x.2.2.1⟩:=zkI (yH6) func216 ntmps216.symm fun x=>by kernel_rfl
def yah (a0:dA) (a1:Int) (a2:List Int):Int :=let r1:=yag a0;bif(!(!r1))then bif(!((a2.length:Int) !=(i64.wrap (a0.2.1.1-1))))then let r2:=yG a2;bif(!r2)then 1 else bif a0.2.2.2.2.2.2.2.2.2.2.1 then 6 else let r3:=ya a1 0 (i64.wrap (a0.2.1.2-1));bif(!r3)then 2 else bif a0.2.2.2.2.2.2.2.2.2.2.2 then 5 else bif(!(leb 60000 a0.2.2.2.2.2.1))then bif(leb 59990 a0.2.2.2.2.2.2.2.1)then 7 else 0 else 7 else 1 else 1
def yzX:Con:=⟨yuu,yuW,fun x=>(fun n=>some ((n,()),())) (yah x.1 x.2.1 x.2.2.1)⟩
theorem yOM (a0:dA) (a1:Int) (a2:List Int):yAv a0 a1 a2=(fun n=>some ((n,()),())) (yah a0 a1 a2):=zkV (p:=fun(n:Int)=>((n,()),())) (zkG (p:=fun(n:Int)=>((n,()),())) (zkG (p:=fun(n:Int)=>((n,()),())) (zkG (p:=fun(n:Int)=>((n,()),())) rfl (zkG (p:=fun(n:Int)=>((n,()),())) rfl (zkG (p:=fun(n:Int)=>((n,()),())) rfl (zkG (p:=fun(n:Int)=>((n,()),())) rfl (zkG (p:=fun(n:Int)=>((n,()),())) (zkG (p:=fun(n:Int)=>((n,()),())) rfl rfl) rfl))))) rfl) rfl)
theorem yPt:ConOk prog 216 yzX:=(yMK).mono (fun x r _ h=>(yOM x.1 x.2.1 x.2.2.1).trans h)
def yEG (l:List dW) (k:Nat):List dW:=l.take k++l.drop (k+1)
def ygA (a:dA) (s:Int):Int×dA :=bif ltb (yQ a.2.2.2.2.2.2.2.2.1 s) 0 then(0,a)else bif yah a s (nth a.2.2.2.2.2.2.2.2.1 (yQ a.2.2.2.2.2.2.2.2.1 s) (0,[])).2 !=0 then(yah a s (nth a.2.2.2.2.2.2.2.2.1 (yQ a.2.2.2.2.2.2.2.2.1 s) (0,[])).2,a)else bif(yeI a s (nth a.2.2.2.2.2.2.2.2.1 (yQ a.2.2.2.2.2.2.2.2.1 s) (0,[])).2).1==0 then (0,yB0 (yeI a s (nth a.2.2.2.2.2.2.2.2.1 (yQ a.2.2.2.2.2.2.2.2.1 s) (0,[])).2).2 (yEG a.2.2.2.2.2.2.2.2.1 (yQ a.2.2.2.2.2.2.2.2.1 s).toNat)) else yeI a s (nth a.2.2.2.2.2.2.2.2.1 (yQ a.2.2.2.2.2.2.2.2.1 s) (0,[])).2
theorem yPI {a:dA} {s:Int} {d:List Int} (h:yah a s d=0):yP a=true∧(d.length:Int)=a.2.1.1-1∧d.all isW=true∧yi a=false∧ya0 a.2.1 s=true∧a.2.2.2.2.2.2.2.2.2.2.2=false∧a.2.2.2.2.2.1<60000∧a.2.2.2.2.2.2.2.1<59990:=by
 unfold yah at h;simp only[yag,yvg,ycf]at h;cases ha:yP a
 ·rw[ha]at h; exact absurd (show(1:Int)=0 from h) (by decide)
 have hg:=yk.1 (ykJ ha);rw[ha,wq (a.2.1.1-1) (by omega) (by omega),wq (a.2.1.2-1) (by omega) (by omega)]at h;cases hl:((d.length:Int) !=a.2.1.1-1)
 ·cases hw:d.all isW
  ·rw[hl,hw]at h; exact absurd (show(1:Int)=0 from h) (by decide)
  cases hd:a.2.2.2.2.2.2.2.2.2.2.1
  ·cases hs:(leb 0 s&&leb s (a.2.1.2-1))
   ·rw[hl,hw,hd,hs]at h; exact absurd (show(2:Int)=0 from h) (by decide)
   cases hb:a.2.2.2.2.2.2.2.2.2.2.2
   ·cases h6:leb 60000 a.2.2.2.2.2.1
    ·cases h7:leb 59990 a.2.2.2.2.2.2.2.1
     ·have e6: ¬(60000≤a.2.2.2.2.2.1):=fun g=>by rw[zk2 g]at h6; cases h6
      have e7: ¬(59990≤a.2.2.2.2.2.2.2.1):=fun g=>by rw[zk2 g]at h7; cases h7
      exact⟨rfl,bne_eq_false_iff_eq.1 hl,rfl,hd,by unfold ya0; rw[ykJ ha,hs]; rfl,rfl,by omega,by omega⟩
     ·rw[hl,hw,hd,hs,hb,h6,h7]at h; exact absurd (show(7:Int)=0 from h) (by decide)
    ·rw[hl,hw,hd,hs,hb,h6]at h; exact absurd (show(7:Int)=0 from h) (by decide)
   ·rw[hl,hw,hd,hs,hb]at h; exact absurd (show(5:Int)=0 from h) (by decide)
  ·rw[hl,hw,hd]at h; exact absurd (show(6:Int)=0 from h) (by decide)
 ·rw[hl]at h; exact absurd (show(1:Int)=0 from h) (by decide)
theorem yPH (a:dA):(yau a).2.2.2.2.2.2.2.2.1=a.2.2.2.2.2.2.2.2.1:=by
 unfold yau;cases leb 4 (i64.wrap (a.2.2.2.2.2.1-a.2.2.2.2.2.2.1))
 ·rfl
 ·exact ySn a
theorem ySx (a:dA):(yfG a).2.2.2.2.2.2.2.2.1=a.2.2.2.2.2.2.2.2.1:=rfl
theorem ySA (a:dA) (s:Int) (d:List Int):(yeI a s d).2.2.2.2.2.2.2.2.2.1=a.2.2.2.2.2.2.2.2.1:=by
 unfold yeI;have h2:=(yKY (ysR (yau a) ((yau a).2.2.2.2.2.1,s,d))).trans (yPH a);generalize yh6 (yau a) ((yau a).2.2.2.2.2.1,s,d)=R at h2 ⊢;have h3:=(yKY (yDc (yfG R) s d)).trans ((ySx R).trans h2);generalize ydV (yfG R) s d=Q at h3 ⊢;cases yi (yau a)
 ·cases yi R
  ·exact h3
  ·exact h2
 ·exact yPH a
theorem yTb {l:List dW} {k:Int} (h0:0≤k) (h1:k<(l.length:Int)):(([]:List dW)++((l.drop (0:Int).toNat).take (k-0).toNat))++((l.drop (k+1).toNat).take ((l.length:Int)-(k+1)).toNat)=yEG l k.toNat:=by
 unfold yEG;rw[List.nil_append,show(0:Int).toNat=0 from rfl,List.drop_zero,Int.sub_zero,show(k+1).toNat=k.toNat+1 by omega,List.take_of_length_le (l:=l.drop (k.toNat+1)) (by rw[List.length_drop]; omega)]
def yHm (_:Nat) (a:dA):dA ⊕ (Int×dA):=bif(ygA a (nth a.2.2.2.2.2.2.2.2.1 0 (0,[])).1).1 !=0 then .inr (ygA a (nth a.2.2.2.2.2.2.2.2.1 0 (0,[])).1)else .inl (ygA a (nth a.2.2.2.2.2.2.2.2.1 0 (0,[])).1).2
def ySQ (a:dA):Int×dA:=goE yHm (fun b=>(0,b)) a.2.2.2.2.2.2.2.2.1.length 0 a
theorem ySU {e:dW} {l:List dW}:yQ (e::l) e.1=0:=by
 unfold yQ;rw[ywC,show(e.1==e.1)=true from beq_self_eq_true _]; rfl
theorem ySV {a:dA} (h:0<a.2.2.2.2.2.2.2.2.1.length) (h0:(ygA a (nth a.2.2.2.2.2.2.2.2.1 0 (0,[])).1).1=0):(ygA a (nth a.2.2.2.2.2.2.2.2.1 0 (0,[])).1).2.2.2.2.2.2.2.2.2.1=a.2.2.2.2.2.2.2.2.1.drop 1:=by
 unfold ygA at h0 ⊢
 have hk:yQ a.2.2.2.2.2.2.2.2.1 (nth a.2.2.2.2.2.2.2.2.1 0 (0,[])).1=0:=by
  cases hl:a.2.2.2.2.2.2.2.2.1 with
  | nil=>rw[hl]at h; exact absurd h (Nat.lt_irrefl 0)
  | cons e l=>exact ySU
 rw[hk]at h0 ⊢;generalize (nth a.2.2.2.2.2.2.2.2.1 0 (0,[])).2=D at h0 ⊢;generalize (nth a.2.2.2.2.2.2.2.2.1 0 (0,[])).1=s at h0 ⊢;cases hc:(yah a s D !=0)
 ·rw[hc]at h0
  cases hr:((yeI a s D).1==0)
  ·rw[hr]at h0
   exact absurd (show(yeI a s D).1=0 from h0) (beq_eq_false_iff_ne.1 hr)
  ·rfl
 ·rw[hc]at h0
  exact absurd (show yah a s D=0 from h0) (bne_iff_ne.1 hc)
inductive Turned (a:dA):dA→Prop where
 | same:Turned a a
 | put (b x:Int):ylK a.2.1 b=true→isW x=true→Turned a (yEA a b x).2
 | flush (s:Int):Turned a (ygA a s).2
 | all:Turned a (ySQ a).2
 | fail (m:Int):a.2.2.2.1= -1→inb m a.2.2.1.length=true→Turned a (ylR a m)
 | spare:inb a.2.2.2.1 a.2.2.1.length=true→(nth a.2.2.1 a.2.2.2.1 yc).2.2.1=true→Turned a (yaH (yk5 a))
 | step:inb a.2.2.2.1 a.2.2.1.length=true→(nth a.2.2.1 a.2.2.2.1 yc).2.2.1=false→a.2.2.2.2.1<a.2.1.2→Turned a (yBz a).2
 | check:Turned a (yct a)
 | spoil (m s:Int):a.2.2.2.1= -1→inb m a.2.2.1.length=true→0≤s→s<a.2.1.2→Turned a (yh7 a m (spoil (nth a.2.2.1 m yc) (ybG s)))
def yRo (g:dG) (e:dW):Prop:=(0≤e.1∧e.1≤g.2-1)∧(e.2.length:Int)=g.1-1∧e.2.all isW=true
theorem yz0 {g:dG} {l:List dW}:yaB g l=true↔(∀e∈l,yRo g e)∧l.Pairwise (fun x y=>x.1<y.1):=by
 have bad: ∀i,yfK g l i=false↔yRo g (nth l i (0,[]))∧(0<i→(nth l ((i-1:Nat):Int) (0,[])).1<(nth l i (0,[])).1):=by
  intro i;unfold yfK yRo;simp only[Bool.or_eq_false_iff,Bool.not_eq_false',bne_eq_false_iff_eq,Bool.and_eq_true,Bool.and_eq_false_iff,decide_eq_false_iff_not,zj7];constructor
  ·rintro⟨h1,h2,h3,h4⟩
   refine⟨⟨h1,h2,h3⟩,fun h0=> ?_⟩;rcases h4 with h4 | h4
   ·exact absurd h0 h4
   ·have:=mt zk2 (by rw[h4]; simp: ¬leb (nth l i (0,[])).1 (nth l ((i-1:Nat):Int) (0,[])).1=true)
    omega
  ·rintro⟨⟨h1,h2,h3⟩,h4⟩
   refine⟨h1,h2,h3,?_⟩;by_cases h0:0<i
   ·exact .inr (zk1 (by have:=h4 h0; omega))
   ·exact .inl h0
 unfold yaB;simp only[Bool.not_eq_true',List.any_eq_false,List.mem_range,Bool.not_eq_true,bad];constructor
 ·intro h
  refine⟨fun e he=> ?_,?_⟩
  ·obtain⟨i,hi,rfl⟩:=List.getElem_of_mem he
   have:=(h i hi).1;rwa[zkS,zkJ hi]at this
  ·rw[List.pairwise_iff_getElem]
   have step: ∀(d i:Nat) (hi:i<l.length) (hj:i+d+1<l.length),l[i].1<l[i+d+1].1:=by
    intro d
    induction d with
    | zero =>
     intro i hi hj;have:=(h (i+1) hj).2 (by omega);rwa[Nat.add_sub_cancel,zkS,zkS,zkJ hi,zkJ hj]at this
    | succ d ih =>
     intro i hi hj;have h1:=ih i hi (by omega);have:=(h (i+d+1+1) hj).2 (by omega);rw[Nat.add_sub_cancel,zkS,zkS,zkJ (show i+d+1<l.length by omega),zkJ (show i+d+1+1<l.length from hj)]at this;exact Int.lt_trans h1 this
   intro i j hi hj hij;have:=step (j-i-1) i hi (by omega);have e:i+(j-i-1)+1=j:=by omega
   simp only[e]at this;exact this
 ·rintro⟨h1,h2⟩ i hi
  rw[List.pairwise_iff_getElem]at h2;refine⟨by rw[zkS,zkJ hi]; exact h1 _ (List.getElem_mem hi),fun h0=> ?_⟩;rw[zkS,zkS,zkJ hi,zkJ (show i-1<l.length by omega)];exact h2 (i-1) i (by omega) hi (by omega)
theorem yTc {g:dG} {l:List dW} (k:Nat) (h:yaB g l=true):yaB g (yEG l k)=true:=by
 rw[yz0]at h ⊢
 have hs:(yEG l k).Sublist l:=by
  unfold yEG;have:(l.take k++l.drop (k+1)).Sublist (l.take k++l.drop k):=List.Sublist.append_left (by rw[← List.drop_drop]; exact List.drop_sublist _ _) _;rwa[List.take_append_drop]at this
 exact⟨fun e he=>h.1 e (hs.subset he),h.2.sublist hs⟩
theorem yR7 (e:dW): ∀(l acc:List dW),l.foldl (ybI e) (true,acc)=(true,acc++l.filter (fun x=>x.1 !=e.1))
 | [],acc=>by simp
 | x::t,acc=>by
  rw[List.foldl_cons];have:ybI e (true,acc) x=(true,acc++(bif x.1 !=e.1 then[x]else[])):=rfl;rw[this,yR7 e t,List.filter_cons];cases x.1 !=e.1<;>simp
theorem yTr {e:dW} {l:List dW} (h:l.Pairwise (fun x y=>x.1<y.1)):yEp l e=l.filter (fun x=>ltb x.1 e.1)++e::l.filter (fun x=>ltb e.1 x.1):=by
 have: ∀(l acc:List dW),l.Pairwise (fun x y=>x.1<y.1)→(bif(l.foldl (ybI e) (false,acc)).1 then(l.foldl (ybI e) (false,acc)).2 else(l.foldl (ybI e) (false,acc)).2++ [e])=acc++(l.filter (fun x=>ltb x.1 e.1)++e::l.filter (fun x=>ltb e.1 x.1)):=by
  intro l
  induction l with
  | nil=>intro acc _; simp
  | cons x t ih =>
   intro acc h;obtain⟨hx,ht⟩:=List.pairwise_cons.1 h;rw[List.foldl_cons];by_cases hle:e.1≤x.1
   ·have h1:ybI e (false,acc) x=(true,(acc++ [e])++(bif x.1 !=e.1 then[x]else[])):=by
     unfold ybI; rw[zk2 hle]; rfl
    have h2:t.filter (fun x=>x.1 !=e.1)=t:=List.filter_eq_self.2 (fun y hy=>bne_iff_ne.2 (by have:=hx y hy; omega));have h3:t.filter (fun x=>ltb x.1 e.1)= []:=List.filter_eq_nil_iff.2 (fun y hy=>by rw[zk3 (by have:=hx y hy; omega)]; simp);have h4:t.filter (fun x=>ltb e.1 x.1)=t:=List.filter_eq_self.2 (fun y hy=>zky (by have:=hx y hy; omega));rw[h1,yR7,h2,List.filter_cons,List.filter_cons,h3,h4,zk3 (show e.1≤x.1 by omega)];by_cases he:x.1=e.1
    ·rw[show(x.1 !=e.1)=false from bne_eq_false_iff_eq.2 he,zk3 (show x.1≤e.1 by omega)]; simp
    ·rw[show(x.1 !=e.1)=true from bne_iff_ne.2 he,zky (show e.1<x.1 by omega)]; simp
   ·have h1:ybI e (false,acc) x=(false,acc++ [x]):=by
     unfold ybI; rw[zk1 (show x.1<e.1 by omega),show(x.1 !=e.1)=true from bne_iff_ne.2 (by omega)]; rfl
    rw[h1,ih _ ht,List.filter_cons,List.filter_cons,zky (show x.1<e.1 by omega),zk3 (show x.1≤e.1 by omega)];simp
 have:=this l [] h;rw[List.nil_append]at this;exact this
theorem yTd {g:dG} {l:List dW} {e:dW} (h:yaB g l=true) (he:yRo g e):yaB g (yEp l e)=true:=by
 rw[yz0]at h ⊢;rw[yTr h.2];refine⟨fun x hx=> ?_,?_⟩
 ·rcases List.mem_append.1 hx with h1 | h1
  ·exact h.1 x (List.mem_filter.1 h1).1
  ·rcases List.mem_cons.1 h1 with rfl | h1
   ·exact he
   ·exact h.1 x (List.mem_filter.1 h1).1
 ·rw[List.pairwise_append,List.pairwise_cons]
  refine⟨h.2.filter _,⟨fun y hy=>zka.1 (List.mem_filter.1 hy).2,h.2.filter _⟩,fun x hx y hy=> ?_⟩;have h1:=zka.1 (List.mem_filter.1 hx).2;rcases List.mem_cons.1 hy with rfl | hy
  ·exact h1
  ·exact Int.lt_trans h1 (zka.1 (List.mem_filter.1 hy).2)
theorem ytb {g:dG} {l:List dW} (h:yaB g l=true) (hg:ye g=true):l.length≤8:=by
 rw[yz0]at h;have hg:=yk.1 hg
 have:=yAX (l:=l.map (fun e=>e.1)) (lo:=0) (n:=g.2) (by rw[List.pairwise_map]; exact h.2) (fun x hx=>by
  obtain⟨e,he,rfl⟩:=List.mem_map.1 hx
  have:=(h.1 e he).1; omega) (by omega)
 rw[List.length_map]at this;omega
theorem yTQ {a:dA} (r:dN) (h:yaV a):yaV (yh6 a r) :=yDM (yiu (P:=yaV) (one:=yyZ r) (ywH r) (fun _ _ h hi=>yBL h (zkR hi)) _ a (Nat.le_refl _) h)
theorem yTO {a:dA} (r:dN) (h:ygU a):ygU (yh6 a r) :=yz3 (yiu (P:=ygU) (one:=yyZ r) (ywH r) (fun _ _ h _=>yBK h _ _ _) _ a (Nat.le_refl _) h)
theorem yTk {a:dA} (s:Int) (d:List Int) (h:yaV a):yaV (ydV a s d) :=
 yiu (P:=yaV) (one:=yhG (yn a.2.1 s) a.2.1.1 s d) (yAE _ _ _ _) (fun b i h hi=>by
  unfold yhG;cases yhJ b i s
  ·exact h
  ·exact yBL h (zkR hi)) _ a (Nat.le_refl _) h
theorem yTi {a:dA} (s:Int) (d:List Int) (h:ygU a):ygU (ydV a s d) :=
 yiu (P:=ygU) (one:=yhG (yn a.2.1 s) a.2.1.1 s d) (yAE _ _ _ _) (fun b i h hi=>by
  unfold yhG;cases yhJ b i s
  ·exact h
  ·exact yBK h _ _ _) _ a (Nat.le_refl _) h
theorem yUB {k:Int} {a:dA} (r:dN) (h:Wk k a):Wk k (yh6 a r):=ywJ (ysR _ _) (yTQ r h.2.1) (yTO r h.2.2.1) h
theorem yUj {k:Int} {a:dA} (s:Int) (d:List Int) (h:Wk k a):Wk k (ydV a s d):=ywJ (yDc _ _ _) (yTk s d h.2.1) (yTi s d h.2.2.1) h
theorem yTZ {k:Int} {a:dA} (h:Wk k a) (h1:a.2.2.2.2.2.1<60000) (h2:a.2.2.2.2.2.1-a.2.2.2.2.2.2.1≤3):Wk k (yfG a):=by
 obtain⟨⟨c1,c2,c3,c4,c5,c6,c7,c8,c9,c10,c11⟩,g2,g3,g4,g5⟩:=h;have e:i64.wrap (a.2.2.2.2.2.1+1)=a.2.2.2.2.2.1+1:=wr (by omega) (by omega);refine⟨⟨c1,c2,c3,c4,c5,c6,c7,⟨?_,?_⟩,?_,c10,c11⟩,g2,g3,g4,g5⟩
 ·show a.2.2.2.2.2.2.1≤i64.wrap (a.2.2.2.2.2.1+1); omega
 ·show i64.wrap (a.2.2.2.2.2.1+1)≤60000; omega
 ·show i64.wrap (a.2.2.2.2.2.1+1)≤a.2.2.2.2.2.2.1+4; omega
theorem yRW {a b:dA} (h:yw a=yw b):a.2.2.2.2.2.1=b.2.2.2.2.2.1:=congrArg (fun x=>x.2.2.2.2.1) h
theorem yPJ {a b:dA} (h:yw a=yw b):a.2.2.2.2.2.2.1=b.2.2.2.2.2.2.1:=congrArg (fun x=>x.2.2.2.2.2.1) h
theorem yKW {a:dA} (h:ygU a):yw (yct a)=yw (yeM (yqN a)):=by
 rw[yKX h,ytF];have:=yoJ a;unfold yw at this ⊢;simp only[Prod.mk.injEq]at this;obtain⟨h1,h2,h3,h4,h5,h6,h7,h8,h9⟩:=this;unfold yeM yqN;simp only[h1,h2,h3,h4,h5,h7,h8,h9]
theorem yUy {k:Int} {a:dA} (h:Wk k a) (hk:k+1≤60000):Wk (k+1) (yau a)∧(yau a).2.2.2.2.2.1=a.2.2.2.2.2.1∧(yau a).2.2.2.2.2.1-(yau a).2.2.2.2.2.2.1≤3:=by
 have c:=h.1;unfold ydJ at c;unfold yau;rw[wr (by omega) (by omega)];cases h4:leb 4 (a.2.2.2.2.2.1-a.2.2.2.2.2.2.1)
 ·refine⟨ycR h (by omega),rfl,?_⟩
  have: ¬(4≤a.2.2.2.2.2.1-a.2.2.2.2.2.2.1):=fun g=>by rw[zk2 g]at h4; cases h4
  show a.2.2.2.2.2.1-a.2.2.2.2.2.2.1≤3; omega
 ·have e1:(yct a).2.2.2.2.2.1=a.2.2.2.2.2.1:=(yRW (yKW h.2.2.1)).trans rfl
  have e2:(yct a).2.2.2.2.2.2.1=a.2.2.2.2.2.1:=(yPJ (yKW h.2.2.1)).trans rfl;rw[cond_true];exact⟨ySg h hk,e1,by omega⟩
theorem yT2 {k:Int} {a:dA} (s:Int) (d:List Int) (h:Wk k a) (hs:a.2.2.2.2.2.1<60000) (hk:k+1≤60000):Wk (k+1) (yeI a s d).2∧(yeI a s d).1=0:=by
 obtain⟨h1,h2,h3⟩:=yUy h hk;have h4:=yUB ((yau a).2.2.2.2.2.1,s,d) h1;have e1:=yRW (ysR (yau a) ((yau a).2.2.2.2.2.1,s,d));have e2:=yPJ (ysR (yau a) ((yau a).2.2.2.2.2.1,s,d));unfold yeI;generalize yh6 (yau a) ((yau a).2.2.2.2.2.1,s,d)=R at h4 e1 e2 ⊢;have h5:=yUj s d (yTZ h4 (by omega) (by omega));generalize ydV (yfG R) s d=Q at h5 ⊢;rw[h1.2.2.1.1,h4.2.2.1.1,h5.2.2.1.1];exact⟨h5,rfl⟩
theorem yGU {k:Int} {a:dA} {l:List dW} (h:Wk k a) (hd:yaB a.2.1 l=true):Wk k (yB0 a l):=by
 obtain⟨⟨c1,c2,c3,c4,c5,c6,c7,c8,c9,c10,c11⟩,g2,g3,g4,g5⟩:=h;exact⟨⟨c1,c2,hd,c4,c5,c6,c7,c8,c9,c10,c11⟩,g2,g3,g4,g5⟩
theorem yTG (a:dA) (s:Int) (d:List Int):(yeI a s d).2.2.1=a.2.1:=by
 unfold yeI;have h2:=(yit (ysR (yau a) ((yau a).2.2.2.2.2.1,s,d))).trans (ySE a);generalize yh6 (yau a) ((yau a).2.2.2.2.2.1,s,d)=R at h2 ⊢;have h3:=(yit (yDc (yfG R) s d)).trans (show(yfG R).2.1=a.2.1 from h2);generalize ydV (yfG R) s d=Q at h3 ⊢;cases yi (yau a)
 ·cases yi R
  ·exact h3
  ·exact h2
 ·exact ySE a
theorem ySh {k:Int} {a:dA} (s:Int) (h:Wk k a) (hk:k+1≤60000):Wk (k+1) (ygA a s).2:=by
 unfold ygA;cases ltb (yQ a.2.2.2.2.2.2.2.2.1 s) 0
 ·generalize hD:(nth a.2.2.2.2.2.2.2.2.1 (yQ a.2.2.2.2.2.2.2.2.1 s) (0,[])).2=D
  cases hc:(yah a s D !=0)
  ·have hz:=yPI (bne_eq_false_iff_eq.1 hc)
   obtain⟨h1,h2⟩:=yT2 s D h hz.2.2.2.2.2.2.1 hk;rw[show((yeI a s D).1==0)=true from beq_iff_eq.2 h2];exact yGU h1 (by rw[yTG]; exact yTc _ h.1.2.2.1)
  ·exact ycR h (by omega)
 ·exact ycR h (by omega)
theorem ySi {k:Int}: ∀(n i:Nat) (j:Int) (a:dA),Wk j a→j+n≤k→k≤60000→Wk k (goE yHm (fun b=>((0:Int),b)) n i a).2
 | 0,_,j,a,h,h1,_=>ycR h (by omega)
 | n+1,i,j,a,h,h1,h2=>by
  have h3:=ySh (nth a.2.2.2.2.2.2.2.2.1 0 (0,[])).1 h (by omega);unfold goE yHm;cases((ygA a (nth a.2.2.2.2.2.2.2.2.1 0 (0,[])).1).1 !=0)
  ·exact ySi n (i+1) (j+1) _ h3 (by omega) h2
  ·exact ycR h3 (by omega)
theorem yUx {k:Int} {a:dA} (h:Wk k a) (hk:k+8≤60000):Wk (k+8) (ySQ a).2:=by
 have:=ytb h.1.2.2.1 h.1.1;exact ySi _ 0 k a h (by omega) hk
theorem yUC {k:Int} {a:dA} {b n:Int} (h:Wk k a) (hb:ylK a.2.1 b=true) (hn:isW n=true):Wk k (yEA a b n).2:=by
 unfold yEA;cases hs:(ydR a (yd8 a.2.1 b)).2
 ·exact h
 ·have hstr:=yGT hb
  have hl:=yCe (yTB h) hstr hs;refine yGU h (yTd h.1.2.2.1 ⟨(yeP.1 hstr).2,by rw[List.length_set]; exact hl,ySM ?_ hn⟩);unfold ydR;cases hk:leb 0 (yQ a.2.2.2.2.2.2.2.2.1 (yd8 a.2.1 b))
  ·rw[h.2.2.2.1]; exact yTa _ _
  ·have:=(yso (d:=((0:Int),([]:List Int))) hk).1
   exact ylX (P:=fun e:dW=>e.2.all isW=true) this (fun e he=>((yz0.1 h.1.2.2.1).1 e he).2.2)
theorem yTE {k:Int} {a b:dA} (h:Wk k a) (ht:Turned a b) (hk:k+8≤60000):Wk (k+8) b:=by
 cases ht with
 | same=>exact ycR h (by omega)
 | put b x hb hx=>exact ycR (yUC h hb hx) (by omega)
 | flush s=>exact ycR (ySh s h (by omega)) (by omega)
 | all=>exact yUx h hk
 | fail m hl hm=>exact ycR (yUk h hl hm (by omega)) (by omega)
 | spare hl _=>exact ycR (yT0 h hl (by omega)) (by omega)
 | step hl _ hb=>exact ycR (yUl h hl hb) (by omega)
 | check=>exact ycR (ySg h (by omega)) (by omega)
 | spoil m s _ hm _ _=>exact ycR (yT1 h hm) (by omega)
def yQd:Code:=(f207.body).getD .skip
def yQB:Env:=zkw TT [(162,yA0)] []
theorem yHI:FrOk prog ⟨yQB,18,fun _=>none⟩ yQd:=zkA mixed yd ⟨yQ9,trivial⟩
abbrev yng:List Par:= [.rd tN]
abbrev yuJ:List OT:= [⟨false,tL,(.ow .fz)⟩]
def yqx (a0:dN):Option (zaY yuJ×zak yng) :=let r1:=yfs a0;bif(!r1)then some ((([]:List Int),()),()) else bif(zkl ([21322,a0.1,a0.2.1,(a0.2.2.length:Int)]:List Int).length a0.2.2.length 8)then some (((([21322,a0.1,a0.2.1,(a0.2.2.length:Int)]:List Int)++a0.2.2),()),()) else none
theorem yMu:ConOk prog 207 ⟨yng,yuJ,fun x=>yqx x.1⟩:=zkI (yHI) func207 ntmps207.symm fun x=>by kernel_rfl
def yiY (a0:dN):List Int:=yNa a0
theorem yOC (a0:dN) (hk:zjx yng (a0,())):yqx a0=(fun n=>some ((n,()),())) (yiY a0):=by
 unfold yqx yiY yNa;cases hr:yfs a0
 ·rfl
 ·have:=(yTt.1 hr).2.2.1
  rw[zkF.2 (show(([21322,a0.1,a0.2.1,(a0.2.2.length:Int)]:List Int).length+a0.2.2.length)*8≤140737488355328 by simp only[List.length_cons,List.length_nil]; omega)]; rfl
def yzN:Con:=⟨yng,yuJ,fun x=>(fun n=>some ((n,()),())) (yiY x.1)⟩
theorem yPj:ConOk prog 207 yzN:=(yMu).mono (fun x r hk h=>(yOC x.1 hk).trans h)
def yoQ:Code:=(f169.body).getD .skip
def yw2:Env:=zkw TT [(91,yzO),(206,yhF),(207,yzN),(208,ykg)] []
theorem yLz:FrOk prog ⟨yw2,24,fun _=>none⟩ yoQ:=zkA mixed yd ⟨yPk,ynv,yPj,ysy,trivial⟩
def yAT:Nat→Option Seg:=fun _=>none
def ycq:Shape:=⟨[(0,false,[.ptr 1000000000 0]),(3,false,[.ptr 0 0]),(4,false,[.int .i64])],[(0,[.int .i64,.int .i64,.br tI]),(1000000000,[.int .i64,.int .i64,.int .i64,.at 800000000,.int .i64,.int .i64,.int .i64,.int .i64,.int .i64,.at 800000001,.int .i64,.bool,.bool])],[(800000000,tM,(.pr (.ow .fz) (.pr (.ow (.pr .fz .fz)) (.pr .fz (.ow .fz))))),(800000001,tW,(.pr .fz .fz))]⟩
def ygk:Shape:=⟨[(0,false,[.ptr 1000000000 0]),(3,false,[.ptr 0 0]),(4,false,[.ci .i64 0])],[(0,[.int .i64,.int .i64,.br tI]),(1000000000,[.int .i64,.int .i64,.int .i64,.at 800000000,.int .i64,.int .i64,.int .i64,.int .i64,.int .i64,.at 800000001,.int .i64,.bool,.bool])],[(800000000,tM,(.pr (.ow .fz) (.pr (.ow (.pr .fz .fz)) (.pr .fz (.ow .fz))))),(800000001,tW,(.pr .fz .fz))]⟩
def yf6:Shape:=⟨[(0,false,[.ptr 1000000000 0])],[(1000000000,[.int .i64,.int .i64,.int .i64,.at 800000000,.int .i64,.int .i64,.int .i64,.int .i64,.int .i64,.at 800000001,.int .i64,.bool,.bool])],[(800000000,tM,(.pr (.ow .fz) (.pr (.ow (.pr .fz .fz)) (.pr .fz (.ow .fz))))),(800000001,tW,(.pr .fz .fz))]⟩
def yj5:Shape:=⟨[],[],[]⟩
abbrev yn9 (v0:Int) (v1:dN) (v2:dA):(ycq).X:=((((),()),((),()),(v0,()),()),((v1.1,v1.2.1,v1.2.2,()),(v2.1,v2.2.1.1,v2.2.1.2,(),v2.2.2.2.1,v2.2.2.2.2.1,v2.2.2.2.2.2.1,v2.2.2.2.2.2.2.1,v2.2.2.2.2.2.2.2.1,(),v2.2.2.2.2.2.2.2.2.2.1,v2.2.2.2.2.2.2.2.2.2.2.1,v2.2.2.2.2.2.2.2.2.2.2.2,()),()),(v2.2.2.1,v2.2.2.2.2.2.2.2.2.1,()))
abbrev yIA (v0:dN) (v1:dA):(ygk).X:=((((),()),((),()),((),()),()),((v0.1,v0.2.1,v0.2.2,()),(v1.1,v1.2.1.1,v1.2.1.2,(),v1.2.2.2.1,v1.2.2.2.2.1,v1.2.2.2.2.2.1,v1.2.2.2.2.2.2.1,v1.2.2.2.2.2.2.2.1,(),v1.2.2.2.2.2.2.2.2.2.1,v1.2.2.2.2.2.2.2.2.2.2.1,v1.2.2.2.2.2.2.2.2.2.2.2,()),()),(v1.2.2.1,v1.2.2.2.2.2.2.2.2.1,()))
abbrev yyC (v0:dA):(yf6).X:=((((),()),()),((v0.1,v0.2.1.1,v0.2.1.2,(),v0.2.2.2.1,v0.2.2.2.2.1,v0.2.2.2.2.2.1,v0.2.2.2.2.2.2.1,v0.2.2.2.2.2.2.2.1,(),v0.2.2.2.2.2.2.2.2.2.1,v0.2.2.2.2.2.2.2.2.2.2.1,v0.2.2.2.2.2.2.2.2.2.2.2,()),()),(v0.2.2.1,v0.2.2.2.2.2.2.2.2.1,()))
def yoE (v0 v1 v2:Int) (v3:List Int) (v4 v5 v6 v7 v8 v9 v10 v11 v12:Int) (v13 v14:Bool) (v15:List dM) (v16:List dW):Option ((ycq).X ⊕ ((yf6).X ⊕ (yj5).X)) :=bif(ltb v0 (v15.length:Int))then let r4:=yiZ v1;let r5:=yiY (v1,v2,v3);bnd (ydN (v4,(v5,v6),v15,v7,v8,v9,v10,v11,v16,v12,v13,v14) v0 r4 r5) fun r6 =>some (.inl ((((),()),((),()),((i64.wrap (v0+1)),()),()),((v1,v2,v3,()),(r6.2.1.1,r6.2.1.2.1.1,r6.2.1.2.1.2,(),r6.2.1.2.2.2.1,r6.2.1.2.2.2.2.1,r6.2.1.2.2.2.2.2.1,r6.2.1.2.2.2.2.2.2.1,r6.2.1.2.2.2.2.2.2.2.1,(),r6.2.1.2.2.2.2.2.2.2.2.2.1,r6.2.1.2.2.2.2.2.2.2.2.2.2.1,r6.2.1.2.2.2.2.2.2.2.2.2.2.2,()),()),(r6.2.1.2.2.1,r6.2.1.2.2.2.2.2.2.2.2.1,()))) else some (.inr (.inl ((((),()),()),((v4,v5,v6,(),v7,v8,v9,v10,v11,(),v12,v13,v14,()),()),(v15,v16,()))))
def ycO (x:(ycq).X):=yoE x.1.2.2.1.1 x.2.1.1.1 x.2.1.1.2.1 x.2.1.1.2.2.1 x.2.1.2.1.1 x.2.1.2.1.2.1 x.2.1.2.1.2.2.1 x.2.1.2.1.2.2.2.2.1 x.2.1.2.1.2.2.2.2.2.1 x.2.1.2.1.2.2.2.2.2.2.1 x.2.1.2.1.2.2.2.2.2.2.2.1 x.2.1.2.1.2.2.2.2.2.2.2.2.1 x.2.1.2.1.2.2.2.2.2.2.2.2.2.2.1 x.2.1.2.1.2.2.2.2.2.2.2.2.2.2.2.1 x.2.1.2.1.2.2.2.2.2.2.2.2.2.2.2.2.1 x.2.2.1 x.2.2.2.1
def yyi (x:(ygk).X):(ycq).X:=((((),()),((),()),(0,()),()),((x.2.1.1.1,x.2.1.1.2.1,x.2.1.1.2.2.1,()),(x.2.1.2.1.1,x.2.1.2.1.2.1,x.2.1.2.1.2.2.1,(),x.2.1.2.1.2.2.2.2.1,x.2.1.2.1.2.2.2.2.2.1,x.2.1.2.1.2.2.2.2.2.2.1,x.2.1.2.1.2.2.2.2.2.2.2.1,x.2.1.2.1.2.2.2.2.2.2.2.2.1,(),x.2.1.2.1.2.2.2.2.2.2.2.2.2.2.1,x.2.1.2.1.2.2.2.2.2.2.2.2.2.2.2.1,x.2.1.2.1.2.2.2.2.2.2.2.2.2.2.2.2.1,()),()),(x.2.2.1,x.2.2.2.1,()))
def yzG:Code:=(zd7 yoQ 64 52).getD .skip
theorem yKS:zd7 yoQ 64 13=some (.block 0 (.loop yzG)):=by kernel_rfl
theorem yNm (x:(ycq).X):zhu ⟨yw2,24,yAT⟩ 0 yzG 52 ycq yf6 yj5 x=ycO x:=by kernel_rfl
def yyw (x:(ygk).X):Nat:=18446744073709551616
def yph (x:(ygk).X):Option ((yf6).X ⊕ (yj5).X):=zF ycO (yyw x) (yyi x)
def yzb:Seg:=⟨ygk,yf6,yj5,yph⟩
def yNR:Nat→Option Seg:=fun q=>bif Nat.beq q 13 then some yzb else yAT q
theorem yLA:FrOk prog ⟨yw2,24,yNR⟩ yoQ:=(yLz).loop (sg:=yzb) ycq yyi (by decide) yKS ycO yyw (by decide) (fun _=>rfl) (fun x r _ h=>h) yNm
abbrev ypv:List Par:= [.pt tA (.pr .fz (.pr (.pr .fz .fz) (.pr (.ow (.pr (.ow .fz) (.pr (.ow (.pr .fz .fz)) (.pr .fz (.ow .fz))))) (.pr .fz (.pr .fz (.pr .fz (.pr .fz (.pr .fz (.pr (.ow (.pr .fz .fz)) (.pr .fz (.pr .fz .fz))))))))))),.rd tN]
abbrev yxC:List OT:= []
def ysM (a0:dA) (a1:dN):Option (zaY yxC×zak ypv) :=zkt (yph ((((),()),((),()),((),()),()),((a1.1,a1.2.1,a1.2.2,()),(a0.1,a0.2.1.1,a0.2.1.2,(),a0.2.2.2.1,a0.2.2.2.2.1,a0.2.2.2.2.2.1,a0.2.2.2.2.2.2.1,a0.2.2.2.2.2.2.2.1,(),a0.2.2.2.2.2.2.2.2.2.1,a0.2.2.2.2.2.2.2.2.2.2.1,a0.2.2.2.2.2.2.2.2.2.2.2,()),()),(a0.2.2.1,a0.2.2.2.2.2.2.2.2.1,()))) (fun y6 =>let r8:=ycU (y6.2.1.1.1,(y6.2.1.1.2.1,y6.2.1.1.2.2.1),y6.2.2.1,y6.2.1.1.2.2.2.2.1,y6.2.1.1.2.2.2.2.2.1,y6.2.1.1.2.2.2.2.2.2.1,y6.2.1.1.2.2.2.2.2.2.2.1,y6.2.1.1.2.2.2.2.2.2.2.2.1,y6.2.2.2.1,y6.2.1.1.2.2.2.2.2.2.2.2.2.2.1,y6.2.1.1.2.2.2.2.2.2.2.2.2.2.2.1,y6.2.1.1.2.2.2.2.2.2.2.2.2.2.2.2.1);some ((),(r8,()))) (fun y6 =>none)
theorem yPb:ConOk prog 169 ⟨ypv,yxC,fun x=>ysM x.1 x.2.1⟩:=zkI (yLA) func169 ntmps169.symm fun x=>by kernel_rfl
def yhT (a0:dA) (a1:dN):dA:=yh6 a0 a1
theorem yQ2 (a0:dA) (a1:dN) (hk:zjx ypv (a0,a1,())):ysM a0 a1=(fun n=>some ((),(n,()))) (yhT a0 a1):=by
 have hb:a0.2.2.1.length*80≤2^47:=hk.1.2.2.1.1
 have h1:yph (yIA a1 a0)=some (.inl (yyC ((List.range a0.2.2.1.length).foldl (yyZ a1) a0))) :=
  zkD (step:=ycO) a0.2.2.1.length (fun i s=>yn9 i a1 s) (yyZ a1) (fun _ s=>s.2.2.1.length=a0.2.2.1.length) (fun s=> .inl (yyC s)) (fun i s hi hs=>⟨by
   simp only[ycO,yn9,yoE,hs,zky (show(i:Int)<a0.2.2.1.length by omega),cond_true,wq ((i:Int)+1) (by omega) (by omega),Int.natCast_add,Int.natCast_one,Int.toNat_natCast,zkX,yiY];rw[yi4 s i (yiZ a1.1) (yNa a1) (zkR (by rw[hs]; exact hi))]
   rfl,(ywH a1 s i).trans hs⟩) (fun s hs=>by simp only[ycO,yn9,yoE,hs,zk3 (Int.le_refl _),cond_false]) a0 rfl _ (by show _<18446744073709551616; omega)
 unfold ysM yhT yh6;exact(congrArg (fun z=>zkt z _ _) h1).trans rfl
def yA6:Con:=⟨ypv,yxC,fun x=>(fun n=>some ((),(n,()))) (yhT x.1 x.2.1)⟩
theorem yRf:ConOk prog 169 yA6:=(yPb).mono (fun x r hk h=>(yQ2 x.1 x.2.1 hk).trans h)
def yoL:Code:=(f230.body).getD .skip
def ywX:Env:=zkw TT [] []
theorem yLi:FrOk prog ⟨ywX,18,fun _=>none⟩ yoL:=zkA mixed yd trivial
def yAO:Nat→Option Seg:=fun _=>none
def ycm:Shape:=⟨[(0,false,[.br tI]),(3,false,[.int .i64]),(4,false,[.int .i64])],[],[]⟩
def ygg:Shape:=⟨[(0,false,[.br tI]),(3,false,[.ci .i64 0]),(4,false,[.ci .i64 0])],[],[]⟩
def yf2:Shape:=⟨[(3,false,[.int .i64])],[],[]⟩
def yj1:Shape:=⟨[],[],[]⟩
abbrev yn5 (v0:List Int) (v1 v2:Int):(ycm).X:=(((v0,()),(v1,()),(v2,()),()),(),())
abbrev yIw (v0:List Int):(ygg).X:=(((v0,()),((),()),((),()),()),(),())
abbrev yyA (v0:Int):(yf2).X:=(((v0,()),()),(),())
def yoA (v0:List Int) (v1 v2:Int):Option ((ycm).X ⊕ ((yf2).X ⊕ (yj1).X)) :=bif(ltb v2 (v0.length:Int))then bif(inb v2 v0.length)then some (.inl (((v0,()),((i64.wrap ((BitVec.ofInt IntKind.i64.bits v1 ^^^ BitVec.ofInt IntKind.i64.bits (nth v0 v2 0)).toNat:Int)),()),((i64.wrap (v2+1)),()),()),(),())) else none else some (.inr (.inl (((v1,()),()),(),())))
def ycK (x:(ycm).X):=yoA x.1.1.1 x.1.2.1.1 x.1.2.2.1.1
def yyd (x:(ygg).X):(ycm).X:=(((x.1.1.1,()),(0,()),(0,()),()),(),())
def yzB:Code:=(zd7 yoL 64 116).getD .skip
theorem yKN:zd7 yoL 64 29=some (.block 0 (.loop yzB)):=by kernel_rfl
theorem yNh (x:(ycm).X):zhu ⟨ywX,18,yAO⟩ 0 yzB 116 ycm yf2 yj1 x=ycK x:=by kernel_rfl
def yyr (x:(ygg).X):Nat:=18446744073709551616
def ypc (x:(ygg).X):Option ((yf2).X ⊕ (yj1).X):=zF ycK (yyr x) (yyd x)
def yy6:Seg:=⟨ygg,yf2,yj1,ypc⟩
def yNM:Nat→Option Seg:=fun q=>bif Nat.beq q 29 then some yy6 else yAO q
theorem yLj:FrOk prog ⟨ywX,18,yNM⟩ yoL:=(yLi).loop (sg:=yy6) ycm yyd (by decide) yKN ycK yyr (by decide) (fun _=>rfl) (fun x r _ h=>h) yNh
abbrev ypr:List Par:= [.rd tL]
abbrev yxr:List OT:= [⟨false,tI,.fz⟩]
def ysJ (a0:List Int):Option (zaY yxr×zak ypr) :=zkt (ypc (((a0,()),((),()),((),()),()),(),())) (fun y0 =>some ((y0.1.1.1,()),())) (fun y0 =>none)
theorem yOZ:ConOk prog 230 ⟨ypr,yxr,fun x=>ysJ x.1⟩:=zkI (yLj) func230 ntmps230.symm fun x=>by kernel_rfl
def yhR (a0:List Int):Int:=yqQ a0
theorem yQY (a0:List Int) (hk:zjx ypr (a0,())):ysJ a0=(fun n=>some ((n,()),())) (yhR a0):=by
 have hb:a0.length*8≤2^47:=hk.1.1
 have h1:ypc (yIw a0)=some (.inl (yyA (yqQ a0))) :=
  zkx (step:=ycK) a0 0 (fun i s=>yn5 a0 s i) xw (fun _ _=>True) (fun s=> .inl (yyA s)) (fun i s hi _=>⟨by
   simp only[ycK,yn5,yoA,zky (show(i:Int)<a0.length by omega),cond_true,wq ((i:Int)+1) (by omega) (by omega),Int.natCast_add,Int.natCast_one,Int.toNat_natCast,zkR hi,zkS]; rfl,trivial⟩) (fun s _=>by simp only[ycK,yn5,yoA,zk3 (Int.le_refl _),cond_false]) 0 trivial _ (by show _<18446744073709551616; omega)
 unfold ysJ yhR;rw[h1]; rfl
def yA1:Con:=⟨ypr,yxr,fun x=>(fun n=>some ((n,()),())) (yhR x.1)⟩
theorem yRa:ConOk prog 230 yA1:=(yOZ).mono (fun x r hk h=>(yQY x.1 hk).trans h)
def yEL:Code:=(f210.body).getD .skip
def yEW:Env:=zkw TT [(230,yA1)] []
theorem yBJ:FrOk prog ⟨yEW,5,fun _=>none⟩ yEL:=zkA mixed yd ⟨yRa,trivial⟩
abbrev ymf:List Par:= [.rd tL]
abbrev ymh:List OT:= [⟨false,tI,.fz⟩]
def yrk (a0:List Int):Option (zaY ymh×zak ymf) :=let r1:=yhR a0;some ((r1,()),())
theorem yCH:ConOk prog 210 ⟨ymf,ymh,fun x=>yrk x.1⟩:=zkI (yBJ) func210 ntmps210.symm fun x=>by kernel_rfl
def yhj (a0:List Int):Int :=let r1:=yhR a0;r1
def yqX:Con:=⟨ymf,ymh,fun x=>(fun n=>some ((n,()),())) (yhj x.1)⟩
theorem yEe (a0:List Int):yrk a0=(fun n=>some ((n,()),())) (yhj a0):=zkV (p:=fun(n:Int)=>((n,()),())) rfl
theorem yEl:ConOk prog 210 yqX:=(yCH).mono (fun x r _ h=>(yEe x.1).trans h)
def ym9:Code:=(f170.body).getD .skip
def yt9:Env:=zkw TT [(113,yay),(206,yhF),(209,ymk),(210,yqX),(211,ypX)] []
theorem yH7:FrOk prog ⟨yt9,61,fun _=>none⟩ ym9:=zkA mixed yd ⟨yb3,ynv,yyJ,yEl,yBm,trivial⟩
def yzq:Nat→Option Seg:=fun _=>none
def ycp:Shape:=⟨[(0,false,[.ptr 1000000000 0]),(1,false,[.int .i64]),(2,false,[.br tI]),(6,false,[.int .i64]),(7,false,[.int .i64])],[(1000000000,[.int .i64,.int .i64,.int .i64,.at 800000000,.int .i64,.int .i64,.int .i64,.int .i64,.int .i64,.at 800000001,.int .i64,.bool,.bool])],[(800000000,tM,(.pr (.ow .fz) (.pr (.ow (.pr .fz .fz)) (.pr .fz (.ow .fz))))),(800000001,tW,(.pr .fz .fz))]⟩
def ygj:Shape:=⟨[(0,false,[.ptr 1000000000 0]),(1,false,[.int .i64]),(2,false,[.br tI]),(6,false,[.int .i64]),(7,false,[.ci .i64 0])],[(1000000000,[.int .i64,.int .i64,.int .i64,.at 800000000,.int .i64,.int .i64,.int .i64,.int .i64,.int .i64,.at 800000001,.int .i64,.bool,.bool])],[(800000000,tM,(.pr (.ow .fz) (.pr (.ow (.pr .fz .fz)) (.pr .fz (.ow .fz))))),(800000001,tW,(.pr .fz .fz))]⟩
def yf5:Shape:=⟨[],[(1000000000,[.int .i64,.int .i64,.int .i64,.at 800000000,.int .i64,.int .i64,.int .i64,.int .i64,.int .i64,.at 800000001,.int .i64,.bool,.bool])],[(800000000,tM,(.pr (.ow .fz) (.pr (.ow (.pr .fz .fz)) (.pr .fz (.ow .fz))))),(800000001,tW,(.pr .fz .fz))]⟩
def yj4:Shape:=⟨[],[],[]⟩
abbrev yn8 (v0:Int) (v1:List Int) (v2 v3:Int) (v4:dA):(ycp).X:=((((),()),(v0,()),(v1,()),(v2,()),(v3,()),()),((v4.1,v4.2.1.1,v4.2.1.2,(),v4.2.2.2.1,v4.2.2.2.2.1,v4.2.2.2.2.2.1,v4.2.2.2.2.2.2.1,v4.2.2.2.2.2.2.2.1,(),v4.2.2.2.2.2.2.2.2.2.1,v4.2.2.2.2.2.2.2.2.2.2.1,v4.2.2.2.2.2.2.2.2.2.2.2,()),()),(v4.2.2.1,v4.2.2.2.2.2.2.2.2.1,()))
abbrev yIz (v0:Int) (v1:List Int) (v2:Int) (v3:dA):(ygj).X:=((((),()),(v0,()),(v1,()),(v2,()),((),()),()),((v3.1,v3.2.1.1,v3.2.1.2,(),v3.2.2.2.1,v3.2.2.2.2.1,v3.2.2.2.2.2.1,v3.2.2.2.2.2.2.1,v3.2.2.2.2.2.2.2.1,(),v3.2.2.2.2.2.2.2.2.2.1,v3.2.2.2.2.2.2.2.2.2.2.1,v3.2.2.2.2.2.2.2.2.2.2.2,()),()),(v3.2.2.1,v3.2.2.2.2.2.2.2.2.1,()))
abbrev yyB (v0:dA):(yf5).X:=((),((v0.1,v0.2.1.1,v0.2.1.2,(),v0.2.2.2.1,v0.2.2.2.2.1,v0.2.2.2.2.2.1,v0.2.2.2.2.2.2.1,v0.2.2.2.2.2.2.2.1,(),v0.2.2.2.2.2.2.2.2.2.1,v0.2.2.2.2.2.2.2.2.2.2.1,v0.2.2.2.2.2.2.2.2.2.2.2,()),()),(v0.2.2.1,v0.2.2.2.2.2.2.2.2.1,()))
def yoD (v0:Int) (v1:List Int) (v2 v3 v4 v5 v6 v7 v8 v9 v10 v11 v12:Int) (v13 v14:Bool) (v15:List dM) (v16:List dW):Option ((ycp).X ⊕ ((yf5).X ⊕ (yj4).X)) :=bif(ltb v3 (v15.length:Int))then let r9:=yhj v1;bif(v3 !=v2)then bif(v5 !=0)then bif(inb ((i64.wrap ((i64.wrap ((i64.wrap (v3-v2))-1))+v5)).tmod v5) v1.length)then let r10:=ycS (v4,(v5,v6),v15,v7,v8,v9,v10,v11,v16,v12,v13,v14) v3 v0;bif r10 then let r11:=yK v0;bnd (ydN (v4,(v5,v6),v15,v7,v8,v9,v10,v11,v16,v12,v13,v14) v3 r11 ([(nth v1 ((i64.wrap ((i64.wrap ((i64.wrap (v3-v2))-1))+v5)).tmod v5) 0)]:List Int)) fun r12 =>some (.inl ((((),()),(v0,()),(v1,()),(v2,()),((i64.wrap (v3+1)),()),()),((r12.2.1.1,r12.2.1.2.1.1,r12.2.1.2.1.2,(),r12.2.1.2.2.2.1,r12.2.1.2.2.2.2.1,r12.2.1.2.2.2.2.2.1,r12.2.1.2.2.2.2.2.2.1,r12.2.1.2.2.2.2.2.2.2.1,(),r12.2.1.2.2.2.2.2.2.2.2.2.1,r12.2.1.2.2.2.2.2.2.2.2.2.2.1,r12.2.1.2.2.2.2.2.2.2.2.2.2.2,()),()),(r12.2.1.2.2.1,r12.2.1.2.2.2.2.2.2.2.2.1,()))) else some (.inl ((((),()),(v0,()),(v1,()),(v2,()),((i64.wrap (v3+1)),()),()),((v4,v5,v6,(),v7,v8,v9,v10,v11,(),v12,v13,v14,()),()),(v15,v16,()))) else none else none else let r13:=ycS (v4,(v5,v6),v15,v7,v8,v9,v10,v11,v16,v12,v13,v14) v3 v0;bif r13 then let r14:=yK v0;bnd (ydN (v4,(v5,v6),v15,v7,v8,v9,v10,v11,v16,v12,v13,v14) v3 r14 ([r9]:List Int)) fun r15 =>some (.inl ((((),()),(v0,()),(v1,()),(v2,()),((i64.wrap (v3+1)),()),()),((r15.2.1.1,r15.2.1.2.1.1,r15.2.1.2.1.2,(),r15.2.1.2.2.2.1,r15.2.1.2.2.2.2.1,r15.2.1.2.2.2.2.2.1,r15.2.1.2.2.2.2.2.2.1,r15.2.1.2.2.2.2.2.2.2.1,(),r15.2.1.2.2.2.2.2.2.2.2.2.1,r15.2.1.2.2.2.2.2.2.2.2.2.2.1,r15.2.1.2.2.2.2.2.2.2.2.2.2.2,()),()),(r15.2.1.2.2.1,r15.2.1.2.2.2.2.2.2.2.2.1,()))) else some (.inl ((((),()),(v0,()),(v1,()),(v2,()),((i64.wrap (v3+1)),()),()),((v4,v5,v6,(),v7,v8,v9,v10,v11,(),v12,v13,v14,()),()),(v15,v16,()))) else some (.inr (.inl ((),((v4,v5,v6,(),v7,v8,v9,v10,v11,(),v12,v13,v14,()),()),(v15,v16,()))))
def ycN (x:(ycp).X):=yoD x.1.2.1.1 x.1.2.2.1.1 x.1.2.2.2.1.1 x.1.2.2.2.2.1.1 x.2.1.1.1 x.2.1.1.2.1 x.2.1.1.2.2.1 x.2.1.1.2.2.2.2.1 x.2.1.1.2.2.2.2.2.1 x.2.1.1.2.2.2.2.2.2.1 x.2.1.1.2.2.2.2.2.2.2.1 x.2.1.1.2.2.2.2.2.2.2.2.1 x.2.1.1.2.2.2.2.2.2.2.2.2.2.1 x.2.1.1.2.2.2.2.2.2.2.2.2.2.2.1 x.2.1.1.2.2.2.2.2.2.2.2.2.2.2.2.1 x.2.2.1 x.2.2.2.1
def yyh (x:(ygj).X):(ycp).X:=((((),()),(x.1.2.1.1,()),(x.1.2.2.1.1,()),(x.1.2.2.2.1.1,()),(0,()),()),((x.2.1.1.1,x.2.1.1.2.1,x.2.1.1.2.2.1,(),x.2.1.1.2.2.2.2.1,x.2.1.1.2.2.2.2.2.1,x.2.1.1.2.2.2.2.2.2.1,x.2.1.1.2.2.2.2.2.2.2.1,x.2.1.1.2.2.2.2.2.2.2.2.1,(),x.2.1.1.2.2.2.2.2.2.2.2.2.2.1,x.2.1.1.2.2.2.2.2.2.2.2.2.2.2.1,x.2.1.1.2.2.2.2.2.2.2.2.2.2.2.2.1,()),()),(x.2.2.1,x.2.2.2.1,()))
def yzF:Code:=(zd7 ym9 64 28).getD .skip
theorem yKR:zd7 ym9 64 7=some (.block 0 (.loop yzF)):=by kernel_rfl
theorem yNl (x:(ycp).X):zhu ⟨yt9,61,yzq⟩ 0 yzF 28 ycp yf5 yj4 x=ycN x:=by kernel_rfl
def yyv (x:(ygj).X):Nat:=18446744073709551616
def ypg (x:(ygj).X):Option ((yf5).X ⊕ (yj4).X):=zF ycN (yyv x) (yyh x)
def yza:Seg:=⟨ygj,yf5,yj4,ypg⟩
def yKr:Nat→Option Seg:=fun q=>bif Nat.beq q 7 then some yza else yzq q
theorem yH8:FrOk prog ⟨yt9,61,yKr⟩ ym9:=(yH7).loop (sg:=yza) ycp yyh (by decide) yKR ycN yyv (by decide) (fun _=>rfl) (fun x r _ h=>h) yNl
abbrev yiO:List Par:= [.pt tA (.pr .fz (.pr (.pr .fz .fz) (.pr (.ow (.pr (.ow .fz) (.pr (.ow (.pr .fz .fz)) (.pr .fz (.ow .fz))))) (.pr .fz (.pr .fz (.pr .fz (.pr .fz (.pr .fz (.pr (.ow (.pr .fz .fz)) (.pr .fz (.pr .fz .fz))))))))))),.rd tI,.rd tL]
abbrev yno:List OT:= []
def yqD (a0:dA) (a1:Int) (a2:List Int):Option (zaY yno×zak yiO) :=let r1:=ycx a0.2.1 a1;zkt (ypg ((((),()),(a1,()),(a2,()),(r1,()),((),()),()),((a0.1,a0.2.1.1,a0.2.1.2,(),a0.2.2.2.1,a0.2.2.2.2.1,a0.2.2.2.2.2.1,a0.2.2.2.2.2.2.1,a0.2.2.2.2.2.2.2.1,(),a0.2.2.2.2.2.2.2.2.2.1,a0.2.2.2.2.2.2.2.2.2.2.1,a0.2.2.2.2.2.2.2.2.2.2.2,()),()),(a0.2.2.1,a0.2.2.2.2.2.2.2.2.1,()))) (fun y15 =>some ((),((y15.2.1.1.1,(y15.2.1.1.2.1,y15.2.1.1.2.2.1),y15.2.2.1,y15.2.1.1.2.2.2.2.1,y15.2.1.1.2.2.2.2.2.1,y15.2.1.1.2.2.2.2.2.2.1,y15.2.1.1.2.2.2.2.2.2.2.1,y15.2.1.1.2.2.2.2.2.2.2.2.1,y15.2.2.2.1,y15.2.1.1.2.2.2.2.2.2.2.2.2.2.1,y15.2.1.1.2.2.2.2.2.2.2.2.2.2.2.1,y15.2.1.1.2.2.2.2.2.2.2.2.2.2.2.2.1),()))) (fun y15 =>none)
theorem yML:ConOk prog 170 ⟨yiO,yno,fun x=>yqD x.1 x.2.1 x.2.2.1⟩:=zkI (yH8) func170 ntmps170.symm fun x=>by kernel_rfl
def ynq (a0:dA) (a1:Int) (a2:List Int):dA:=ydV a0 a1 a2
def yi5 (a0:dA) (a1:Int) (a2:List Int):Bool:=ya0 a0.2.1 a1&&((a2.length:Int)==a0.2.1.1-1&&(a0.2.2.1.length:Int)==a0.2.1.1)
theorem yON (a0:dA) (a1:Int) (a2:List Int) (hk:zjx yiO (a0,a1,a2,())) (hq:yi5 a0 a1 a2=true):yqD a0 a1 a2=(fun n=>some ((),(n,()))) (ynq a0 a1 a2):=by
 simp only[yi5,Bool.and_eq_true,beq_iff_eq]at hq;have hg:=yk.1 (yeP.1 hq.1).1;have hp:=yAh hq.1
 have h1:ypg (yIz a1 a2 (yn a0.2.1 a1) a0)=some (.inl (yyB (ydV a0 a1 a2))) :=
  zkD (step:=ycN) a0.2.2.1.length (fun i s=>yn8 a1 a2 (yn a0.2.1 a1) i s) (yhG (yn a0.2.1 a1) a0.2.1.1 a1 a2) (fun _ s=>s.2.2.1.length=a0.2.2.1.length∧s.2.1=a0.2.1) (fun s=> .inl (yyB s)) (fun i s hi hs=>⟨by
   have hN:s.2.1.1=a0.2.1.1:=by rw[hs.2]
   simp only[ycN,yn8,yoD,hs.1,zky (show(i:Int)<a0.2.2.1.length by omega),cond_true,wq ((i:Int)+1) (by omega) (by omega),Int.natCast_add,Int.natCast_one,Int.toNat_natCast,zkX,yhR,yhj,ycS,yaZ,yhG,yT4];rw[← hN];by_cases he:(i:Int)=yn a0.2.1 a1
   ·rw[show((i:Int) !=yn a0.2.1 a1)=false by simp[he],show((i:Int)==yn a0.2.1 a1)=true from beq_iff_eq.2 he]
    rw[yi4 s i (ybG a1) [yqQ a2] (zkR (by rw[hs.1]; exact hi))];cases yhJ s i a1<;>rfl
   ·have hd:=yUQ (N:=s.2.1.1) (i:=i) (p:=yn a0.2.1 a1) ⟨by omega,by omega⟩ ⟨by omega,by omega⟩ ⟨hp.1,by omega⟩ he
    rw[show((i:Int) !=yn a0.2.1 a1)=true from bne_iff_ne.2 he,show((i:Int)==yn a0.2.1 a1)=false from beq_eq_false_iff_ne.2 he,show(s.2.1.1 !=0)=true from bne_iff_ne.2 (by omega),
     wq ((i:Int)-yn a0.2.1 a1) (by omega) (by omega),wq ((i:Int)-yn a0.2.1 a1-1) (by omega) (by omega),wq ((i:Int)-yn a0.2.1 a1-1+s.2.1.1) (by omega) (by omega),zj6.2 (show 0≤((i:Int)-yn a0.2.1 a1-1+s.2.1.1).tmod s.2.1.1∧((i:Int)-yn a0.2.1 a1-1+s.2.1.1).tmod s.2.1.1<a2.length by omega)]
    rw[yi4 s i (ybG a1) [nth a2 (((i:Int)-yn a0.2.1 a1-1+s.2.1.1).tmod s.2.1.1) 0] (zkR (by rw[hs.1]; exact hi))]
    cases yhJ s i a1<;>rfl,(yAE _ _ _ _ s i).trans hs.1,(yit (yDb _ _ _ _ s i)).trans hs.2⟩) (fun s hs=>by simp only[ycN,yn8,yoD,hs.1,zk3 (Int.le_refl _),cond_false]) a0 ⟨rfl,rfl⟩ _ (by show _<18446744073709551616; omega)
 unfold yqD ynq ycx;exact(congrArg (fun z=>zkt z _ _) h1).trans rfl
def yfM (a0:dA) (a1:Int) (a2:List Int):Option (zaY yno×zak yiO):=bif yi5 a0 a1 a2 then(fun n=>some ((),(n,()))) (ynq a0 a1 a2)else none
theorem yPz (a0:dA) (a1:Int) (a2:List Int) (h:yi5 a0 a1 a2=true):yfM a0 a1 a2=(fun n=>some ((),(n,()))) (ynq a0 a1 a2):=by unfold yfM; rw[h]; rfl
def yzY:Con:=⟨yiO,yno,fun x=>yfM x.1 x.2.1 x.2.2.1⟩
theorem yPu:ConOk prog 170 yzY:=(yML).mono (fun x r hk h=>zkY h (fun hq=>yON x.1 x.2.1 x.2.2.1 hk hq))
def yNG:Code:=(f171.body).getD .skip
def yN9:Env:=zkw TT [(174,ykf),(208,ykg)] []
theorem yFP:FrOk prog ⟨yN9,17,fun _=>none⟩ yNG:=zkA mixed yd ⟨ysx,ysy,trivial⟩
abbrev yrT:List Par:= [.pt tA (.pr .fz (.pr (.pr .fz .fz) (.pr (.ow (.pr (.ow .fz) (.pr (.ow (.pr .fz .fz)) (.pr .fz (.ow .fz))))) (.pr .fz (.pr .fz (.pr .fz (.pr .fz (.pr .fz (.pr (.ow (.pr .fz .fz)) (.pr .fz (.pr .fz .fz)))))))))))]
abbrev ysf:List OT:= []
def yyY (a0:dA):Option (zaY ysf×zak yrT) :=let r1:=ycU a0;bif r1.2.2.2.2.2.2.2.2.2.2.1 then some ((),(r1,())) else let r2:=yai (r1.1,r1.2.1,r1.2.2.1,r1.2.2.2.1,r1.2.2.2.2.1,r1.2.2.2.2.2.1,r1.2.2.2.2.2.1,r1.2.2.2.2.2.2.2);some ((),(r2,()))
theorem yJw:ConOk prog 171 ⟨yrT,ysf,fun x=>yyY x.1⟩:=zkI (yFP) func171 ntmps171.symm fun x=>by kernel_rfl
def yeV (a0:dA):dA :=let r1:=ycU a0;bif r1.2.2.2.2.2.2.2.2.2.2.1 then r1 else let r2:=yai (r1.1,r1.2.1,r1.2.2.1,r1.2.2.2.1,r1.2.2.2.2.1,r1.2.2.2.2.2.1,r1.2.2.2.2.2.1,r1.2.2.2.2.2.2.2);r2
def ynW:Con:=⟨yrT,ysf,fun x=>(fun n=>some ((),(n,()))) (yeV x.1)⟩
theorem yMe (a0:dA):yyY a0=(fun n=>some ((),(n,()))) (yeV a0):=zkV (p:=fun(n:dA)=>((),(n,()))) (zkG (p:=fun(n:dA)=>((),(n,()))) rfl rfl)
theorem yAc:ConOk prog 171 ynW:=(yJw).mono (fun x r _ h=>(yMe x.1).trans h)
theorem yCd (a:dA):yeV a=yct a:=by
 unfold yeV yct ycU yai;show(bif yi (yX a)then yX a else yaH (yqN (yX a)))=_;rfl
def yNH:Code:=(f217.body).getD .skip
def yOa:Env:=zkw TT [(169,yA6),(170,yzY),(171,ynW)] []
theorem yFQ:FrOk prog ⟨yOa,54,fun _=>none⟩ yNH:=zkA mixed yd ⟨yRf,yPu,yAc,trivial⟩
abbrev yhv:List Par:= [.pt tA (.pr .fz (.pr (.pr .fz .fz) (.pr (.ow (.pr (.ow .fz) (.pr (.ow (.pr .fz .fz)) (.pr .fz (.ow .fz))))) (.pr .fz (.pr .fz (.pr .fz (.pr .fz (.pr .fz (.pr (.ow (.pr .fz .fz)) (.pr .fz (.pr .fz .fz))))))))))),.rd tI,.rd tL]
abbrev ylH:List OT:= [⟨false,tI,.fz⟩]
def yos (a0:dA) (a1:Int) (a2:List Int):Option (zaY ylH×zak yhv) :=bif(leb 4 (i64.wrap (a0.2.2.2.2.2.1-a0.2.2.2.2.2.2.1)))then let r1:=yeV a0;bif r1.2.2.2.2.2.2.2.2.2.2.1 then some ((6,()),(r1,())) else bif(zkl ([]:List Int).length a2.length 8)then let r2:=yhT r1 (r1.2.2.2.2.2.1,a1,(([]:List Int)++a2));bif r2.2.2.2.2.2.2.2.2.2.2.1 then some ((6,()),(r2,())) else bnd (yfM (r2.1,r2.2.1,r2.2.2.1,r2.2.2.2.1,r2.2.2.2.2.1,(i64.wrap (r2.2.2.2.2.2.1+1)),r2.2.2.2.2.2.2) a1 a2) fun r3 =>bif r3.2.1.2.2.2.2.2.2.2.2.2.2.1 then some ((6,()),(r3.2.1,())) else some ((0,()),(r3.2.1,())) else none else bif a0.2.2.2.2.2.2.2.2.2.2.1 then some ((6,()),(a0,())) else bif(zkl ([]:List Int).length a2.length 8)then let r4:=yhT a0 (a0.2.2.2.2.2.1,a1,(([]:List Int)++a2));bif r4.2.2.2.2.2.2.2.2.2.2.1 then some ((6,()),(r4,())) else bnd (yfM (r4.1,r4.2.1,r4.2.2.1,r4.2.2.2.1,r4.2.2.2.2.1,(i64.wrap (r4.2.2.2.2.2.1+1)),r4.2.2.2.2.2.2) a1 a2) fun r5 =>bif r5.2.1.2.2.2.2.2.2.2.2.2.2.1 then some ((6,()),(r5.2.1,())) else some ((0,()),(r5.2.1,())) else none
theorem yJx:ConOk prog 217 ⟨yhv,ylH,fun x=>yos x.1 x.2.1 x.2.2.1⟩:=zkI (yFQ) func217 ntmps217.symm fun x=>by kernel_rfl
def yhU (a0:dA) (a1:Int) (a2:List Int):Int×dA:=yeI a0 a1 a2
def yh0 (a0:dA) (a1:Int) (a2:List Int):Bool:=ya0 a0.2.1 a1&&((a2.length:Int)==a0.2.1.1-1&&(a0.2.2.1.length:Int)==a0.2.1.1)
theorem yMf (a0:dA) (a1:Int) (a2:List Int) (hk:zjx yhv (a0,a1,a2,())) (hq:yh0 a0 a1 a2=true):yos a0 a1 a2=(fun n=>some ((n.1,()),(n.2,()))) (yhU a0 a1 a2):=by
 have hq':=hq;simp only[yh0,Bool.and_eq_true,beq_iff_eq]at hq;have hg:=yk.1 (yeP.1 hq.1).1;have hap:zkl ([]:List Int).length a2.length 8=true:=zkF.2 (by simp only[List.length_nil]; omega)
 have key: ∀b:dA,b.2.1=a0.2.1→b.2.2.1.length=a0.2.2.1.length→yfM (yfG (yh6 b (b.2.2.2.2.2.1,a1,a2))) a1 a2=some ((),(ydV (yfG (yh6 b (b.2.2.2.2.2.1,a1,a2))) a1 a2,())):=fun b h1 h2=>yPz _ _ _ (by
  unfold yi5;rw[show(yfG (yh6 b (b.2.2.2.2.2.1,a1,a2))).2.1=a0.2.1 from(yit (ysR _ _)).trans h1,show(yfG (yh6 b (b.2.2.2.2.2.1,a1,a2))).2.2.1.length=a0.2.2.1.length from(yUg _ _).trans h2]
  exact hq')
 unfold yos yhU yeI yau;simp only[yCd,yhT,List.nil_append,hap,cond_true];cases leb 4 (i64.wrap (a0.2.2.2.2.2.1-a0.2.2.2.2.2.2.1))
 ·have hd:=key a0 rfl rfl
  simp only[cond_false];generalize yh6 a0 (a0.2.2.2.2.2.1,a1,a2)=R at hd ⊢;generalize ydV (yfG R) a1 a2=Q at hd ⊢;unfold yfG at hd;simp only[cond_false,hd,zkH];unfold yi;cases a0.2.2.2.2.2.2.2.2.2.2.1
  ·cases R.2.2.2.2.2.2.2.2.2.2.1
   ·cases Q.2.2.2.2.2.2.2.2.2.2.1<;>rfl
   ·rfl
  ·rfl
 ·have hd:=key (yct a0) (yPG a0) (yS8 a0)
  simp only[cond_true];generalize yct a0=C at hd ⊢;generalize yh6 C (C.2.2.2.2.2.1,a1,a2)=R at hd ⊢;generalize ydV (yfG R) a1 a2=Q at hd ⊢;unfold yfG at hd;simp only[cond_true,hd,zkH];unfold yi;cases C.2.2.2.2.2.2.2.2.2.2.1
  ·cases R.2.2.2.2.2.2.2.2.2.2.1
   ·cases Q.2.2.2.2.2.2.2.2.2.2.1<;>rfl
   ·rfl
  ·rfl
def yl0 (a0:dA) (a1:Int) (a2:List Int):Option (zaY ylH×zak yhv):=bif yh0 a0 a1 a2 then(fun n=>some ((n.1,()),(n.2,()))) (yhU a0 a1 a2)else none
theorem yM9 (a0:dA) (a1:Int) (a2:List Int) (h:yh0 a0 a1 a2=true):yl0 a0 a1 a2=(fun n=>some ((n.1,()),(n.2,()))) (yhU a0 a1 a2):=by unfold yl0; rw[h]; rfl
def yx6:Con:=⟨yhv,ylH,fun x=>yl0 x.1 x.2.1 x.2.2.1⟩
theorem yM5:ConOk prog 217 yx6:=(yJx).mono (fun x r hk h=>zkY h (fun hq=>yMf x.1 x.2.1 x.2.2.1 hk hq))
def yNI:Code:=(f179.body).getD .skip
def yOb:Env:=zkw TT [(215,yu2),(216,yzX),(217,yx6)] [(36928,(.pr .fz .fz))]
theorem yFR:FrOk prog ⟨yOb,63,fun _=>none⟩ yNI:=zkA mixed yd ⟨yEn,yPt,yM5,trivial⟩
abbrev yhw:List Par:= [.pt tA (.pr .fz (.pr (.pr .fz .fz) (.pr (.ow (.pr (.ow .fz) (.pr (.ow (.pr .fz .fz)) (.pr .fz (.ow .fz))))) (.pr .fz (.pr .fz (.pr .fz (.pr .fz (.pr .fz (.pr (.ow (.pr .fz .fz)) (.pr .fz (.pr .fz .fz))))))))))),.rd tI]
abbrev ylI:List OT:= [⟨false,tI,.fz⟩]
def yot (a0:dA) (a1:Int):Option (zaY ylI×zak yhw) :=let r1:=ygX a0 a1;bif(ltb r1 0)then some ((0,()),(a0,())) else bif(inb r1 a0.2.2.2.2.2.2.2.2.1.length)then let r2:=yah a0 a1 ((nth a0.2.2.2.2.2.2.2.2.1 r1 (0,[])).2);bif(r2 !=0)then some ((r2,()),(a0,())) else bif(inb r1 a0.2.2.2.2.2.2.2.2.1.length)then bnd (yl0 a0 a1 ((nth a0.2.2.2.2.2.2.2.2.1 r1 (0,[])).2)) fun r3 =>bif(r3.1.1==0)then bif(zj0 0 r1 r3.2.1.2.2.2.2.2.2.2.2.1.length)then bif(zkl ([]:List dW).length ((r3.2.1.2.2.2.2.2.2.2.2.1.drop (0:Int).toNat).take (r1-0).toNat).length 32)then bif(zj0 (i64.wrap (r1+1)) (r3.2.1.2.2.2.2.2.2.2.2.1.length:Int) r3.2.1.2.2.2.2.2.2.2.2.1.length)then bif(zkl (([]:List dW)++((r3.2.1.2.2.2.2.2.2.2.2.1.drop (0:Int).toNat).take (r1-0).toNat)).length ((r3.2.1.2.2.2.2.2.2.2.2.1.drop ((i64.wrap (r1+1))).toNat).take ((r3.2.1.2.2.2.2.2.2.2.2.1.length:Int)-(i64.wrap (r1+1))).toNat).length 32)then some ((r3.1.1,()),((r3.2.1.1,r3.2.1.2.1,r3.2.1.2.2.1,r3.2.1.2.2.2.1,r3.2.1.2.2.2.2.1,r3.2.1.2.2.2.2.2.1,r3.2.1.2.2.2.2.2.2.1,r3.2.1.2.2.2.2.2.2.2.1,((([]:List dW)++((r3.2.1.2.2.2.2.2.2.2.2.1.drop (0:Int).toNat).take (r1-0).toNat))++((r3.2.1.2.2.2.2.2.2.2.2.1.drop ((i64.wrap (r1+1))).toNat).take ((r3.2.1.2.2.2.2.2.2.2.2.1.length:Int)-(i64.wrap (r1+1))).toNat)),r3.2.1.2.2.2.2.2.2.2.2.2),())) else none else none else none else none else some ((r3.1.1,()),(r3.2.1,())) else none else none
theorem yJy:ConOk prog 179 ⟨yhw,ylI,fun x=>yot x.1 x.2.1⟩:=zkI (yFR) func179 ntmps179.symm fun x=>by kernel_rfl
def yhV (a0:dA) (a1:Int):Int×dA:=ygA a0 a1
def ysE (a0:dA) (a1:Int):Bool:=decide (a0.2.2.2.2.2.2.2.2.1.length≤1000)
theorem yMg (a0:dA) (a1:Int) (hk:zjx yhw (a0,a1,())) (hq:ysE a0 a1=true):yot a0 a1=(fun n=>some ((n.1,()),(n.2,()))) (yhV a0 a1):=by
 have hq:=of_decide_eq_true hq;unfold yot yhV ygA;simp only[ygX];cases h0:ltb (yQ a0.2.2.2.2.2.2.2.2.1 a1) 0
 ·have h1:=zkW h0
  have hi:inb (yQ a0.2.2.2.2.2.2.2.2.1 a1) a0.2.2.2.2.2.2.2.2.1.length=true:=(yso (d:=((0:Int),([]:List Int))) (zk2 h1)).1;simp only[hi,cond_true,cond_false];generalize hD:(nth a0.2.2.2.2.2.2.2.2.1 (yQ a0.2.2.2.2.2.2.2.2.1 a1) (0,[])).2=D;cases hc:(yah a0 a1 D !=0)
  ·obtain⟨ha,hl,hw,hd,hs,hb,_⟩:=yPI (bne_eq_false_iff_eq.1 hc)
   rw[yM9 a0 a1 D (by unfold yh0; rw[hs,hl,yC8 ha]; simp)];simp only[zkH,cond_false,yhU,ySA];have hk:=zj6.1 hi;cases hr:((yeI a0 a1 D).1==0)
   ·rfl
   ·generalize yQ a0.2.2.2.2.2.2.2.2.1 a1=K at h1 hk
    rw[wq (K+1) (by omega) (by omega),zkz.2 (show(0:Int)≤0∧0≤K∧K≤(a0.2.2.2.2.2.2.2.2.1.length:Int)by omega),zkz.2 (show 0≤K+1∧K+1≤(a0.2.2.2.2.2.2.2.2.1.length:Int)∧(a0.2.2.2.2.2.2.2.2.1.length:Int)≤(a0.2.2.2.2.2.2.2.2.1.length:Int)by omega),
     zkF.2 (by rw[List.length_take,List.length_drop,List.length_nil]; omega),zkF.2 (by rw[List.length_append,List.length_take,List.length_take,List.length_drop,List.length_drop,List.length_nil]; omega),yTb h1 hk.2]
    rw[beq_iff_eq.1 hr]; rfl
  ·rfl
 ·rfl
def yb2 (a0:dA) (a1:Int):Option (zaY ylI×zak yhw):=bif ysE a0 a1 then(fun n=>some ((n.1,()),(n.2,()))) (yhV a0 a1)else none
theorem yAg (a0:dA) (a1:Int) (h:ysE a0 a1=true):yb2 a0 a1=(fun n=>some ((n.1,()),(n.2,()))) (yhV a0 a1):=by unfold yb2; rw[h]; rfl
def ynX:Con:=⟨yhw,ylI,fun x=>yb2 x.1 x.2.1⟩
theorem yAd:ConOk prog 179 ynX:=(yJy).mono (fun x r hk h=>zkY h (fun hq=>yMg x.1 x.2.1 hk hq))
def yoR:Code:=(f117.body).getD .skip
def yw3:Env:=zkw TT [(179,ynX)] []
theorem yLB:FrOk prog ⟨yw3,22,fun _=>none⟩ yoR:=zkA mixed yd ⟨yAd,trivial⟩
def yAU:Nat→Option Seg:=fun _=>none
def ydd:Shape:=⟨[(0,false,[.ptr 1000000000 0])],[(1000000000,[.int .i64,.int .i64,.int .i64,.at 800000000,.int .i64,.int .i64,.int .i64,.int .i64,.int .i64,.at 800000001,.int .i64,.bool,.bool])],[(800000000,tM,(.pr (.ow .fz) (.pr (.ow (.pr .fz .fz)) (.pr .fz (.ow .fz))))),(800000001,tW,(.pr .fz .fz))]⟩
def yhz:Shape:=⟨[(0,false,[.ptr 1000000000 0])],[(1000000000,[.int .i64,.int .i64,.int .i64,.at 800000000,.int .i64,.int .i64,.int .i64,.int .i64,.int .i64,.at 800000001,.int .i64,.bool,.bool])],[(800000000,tM,(.pr (.ow .fz) (.pr (.ow (.pr .fz .fz)) (.pr .fz (.ow .fz))))),(800000001,tW,(.pr .fz .fz))]⟩
def yhx:Shape:=⟨[],[(1000000000,[.int .i64,.int .i64,.int .i64,.at 800000000,.int .i64,.int .i64,.int .i64,.int .i64,.int .i64,.at 800000001,.int .i64,.bool,.bool])],[(800000000,tM,(.pr (.ow .fz) (.pr (.ow (.pr .fz .fz)) (.pr .fz (.ow .fz))))),(800000001,tW,(.pr .fz .fz))]⟩
def yhB:Shape:=⟨[(2,false,[.int .i64])],[(1000000000,[.int .i64,.int .i64,.int .i64,.at 800000000,.int .i64,.int .i64,.int .i64,.int .i64,.int .i64,.at 800000001,.int .i64,.bool,.bool])],[(800000000,tM,(.pr (.ow .fz) (.pr (.ow (.pr .fz .fz)) (.pr .fz (.ow .fz))))),(800000001,tW,(.pr .fz .fz))]⟩
abbrev yqf (v0:dA):(ydd).X:=((((),()),()),((v0.1,v0.2.1.1,v0.2.1.2,(),v0.2.2.2.1,v0.2.2.2.2.1,v0.2.2.2.2.2.1,v0.2.2.2.2.2.2.1,v0.2.2.2.2.2.2.2.1,(),v0.2.2.2.2.2.2.2.2.2.1,v0.2.2.2.2.2.2.2.2.2.2.1,v0.2.2.2.2.2.2.2.2.2.2.2,()),()),(v0.2.2.1,v0.2.2.2.2.2.2.2.2.1,()))
abbrev yLP (v0:dA):(yhz).X:=((((),()),()),((v0.1,v0.2.1.1,v0.2.1.2,(),v0.2.2.2.1,v0.2.2.2.2.1,v0.2.2.2.2.2.1,v0.2.2.2.2.2.2.1,v0.2.2.2.2.2.2.2.1,(),v0.2.2.2.2.2.2.2.2.2.1,v0.2.2.2.2.2.2.2.2.2.2.1,v0.2.2.2.2.2.2.2.2.2.2.2,()),()),(v0.2.2.1,v0.2.2.2.2.2.2.2.2.1,()))
abbrev yLN (v0:dA):(yhx).X:=((),((v0.1,v0.2.1.1,v0.2.1.2,(),v0.2.2.2.1,v0.2.2.2.2.1,v0.2.2.2.2.2.1,v0.2.2.2.2.2.2.1,v0.2.2.2.2.2.2.2.1,(),v0.2.2.2.2.2.2.2.2.2.1,v0.2.2.2.2.2.2.2.2.2.2.1,v0.2.2.2.2.2.2.2.2.2.2.2,()),()),(v0.2.2.1,v0.2.2.2.2.2.2.2.2.1,()))
abbrev yLR (v0:Int) (v1:dA):(yhB).X:=(((v0,()),()),((v1.1,v1.2.1.1,v1.2.1.2,(),v1.2.2.2.1,v1.2.2.2.2.1,v1.2.2.2.2.2.1,v1.2.2.2.2.2.2.1,v1.2.2.2.2.2.2.2.1,(),v1.2.2.2.2.2.2.2.2.2.1,v1.2.2.2.2.2.2.2.2.2.2.1,v1.2.2.2.2.2.2.2.2.2.2.2,()),()),(v1.2.2.1,v1.2.2.2.2.2.2.2.2.1,()))
def yqL (v0 v1 v2 v3 v4 v5 v6 v7 v8:Int) (v9 v10:Bool) (v11:List dM) (v12:List dW):Option ((ydd).X ⊕ ((yhx).X ⊕ (yhB).X)) :=bif(ltb 0 (v12.length:Int))then bif(inb 0 v12.length)then bnd (yb2 (v0,(v1,v2),v11,v3,v4,v5,v6,v7,v12,v8,v9,v10) ((nth v12 0 (0,[])).1)) fun r2 =>bif(r2.1.1 !=0)then some (.inr (.inr (((r2.1.1,()),()),((r2.2.1.1,r2.2.1.2.1.1,r2.2.1.2.1.2,(),r2.2.1.2.2.2.1,r2.2.1.2.2.2.2.1,r2.2.1.2.2.2.2.2.1,r2.2.1.2.2.2.2.2.2.1,r2.2.1.2.2.2.2.2.2.2.1,(),r2.2.1.2.2.2.2.2.2.2.2.2.1,r2.2.1.2.2.2.2.2.2.2.2.2.2.1,r2.2.1.2.2.2.2.2.2.2.2.2.2.2,()),()),(r2.2.1.2.2.1,r2.2.1.2.2.2.2.2.2.2.2.1,())))) else some (.inl ((((),()),()),((r2.2.1.1,r2.2.1.2.1.1,r2.2.1.2.1.2,(),r2.2.1.2.2.2.1,r2.2.1.2.2.2.2.1,r2.2.1.2.2.2.2.2.1,r2.2.1.2.2.2.2.2.2.1,r2.2.1.2.2.2.2.2.2.2.1,(),r2.2.1.2.2.2.2.2.2.2.2.2.1,r2.2.1.2.2.2.2.2.2.2.2.2.2.1,r2.2.1.2.2.2.2.2.2.2.2.2.2.2,()),()),(r2.2.1.2.2.1,r2.2.1.2.2.2.2.2.2.2.2.1,()))) else none else some (.inr (.inl ((),((v0,v1,v2,(),v3,v4,v5,v6,v7,(),v8,v9,v10,()),()),(v11,v12,()))))
def ydm (x:(ydd).X):=yqL x.2.1.1.1 x.2.1.1.2.1 x.2.1.1.2.2.1 x.2.1.1.2.2.2.2.1 x.2.1.1.2.2.2.2.2.1 x.2.1.1.2.2.2.2.2.2.1 x.2.1.1.2.2.2.2.2.2.2.1 x.2.1.1.2.2.2.2.2.2.2.2.1 x.2.1.1.2.2.2.2.2.2.2.2.2.2.1 x.2.1.1.2.2.2.2.2.2.2.2.2.2.2.1 x.2.1.1.2.2.2.2.2.2.2.2.2.2.2.2.1 x.2.2.1 x.2.2.2.1
def yz1 (x:(yhz).X):(ydd).X:=((((),()),()),((x.2.1.1.1,x.2.1.1.2.1,x.2.1.1.2.2.1,(),x.2.1.1.2.2.2.2.1,x.2.1.1.2.2.2.2.2.1,x.2.1.1.2.2.2.2.2.2.1,x.2.1.1.2.2.2.2.2.2.2.1,x.2.1.1.2.2.2.2.2.2.2.2.1,(),x.2.1.1.2.2.2.2.2.2.2.2.2.2.1,x.2.1.1.2.2.2.2.2.2.2.2.2.2.2.1,x.2.1.1.2.2.2.2.2.2.2.2.2.2.2.2.1,()),()),(x.2.2.1,x.2.2.2.1,()))
def yAY:Code:=(zd7 yoR 64 24).getD .skip
theorem yOc:zd7 yoR 64 6=some (.block 0 (.loop yAY)):=by kernel_rfl
theorem yPA (x:(ydd).X):zhu ⟨yw3,22,yAU⟩ 0 yAY 24 ydd yhx yhB x=ydm x:=by kernel_rfl
def yz4 (x:(yhz).X):Nat:=18446744073709551616
def yrG (x:(yhz).X):Option ((yhx).X ⊕ (yhB).X):=zF ydm (yz4 x) (yz1 x)
def yAw:Seg:=⟨yhz,yhx,yhB,yrG⟩
def yNS:Nat→Option Seg:=fun q=>bif Nat.beq q 6 then some yAw else yAU q
theorem yLC:FrOk prog ⟨yw3,22,yNS⟩ yoR:=(yLB).loop (sg:=yAw) ydd yz1 (by decide) yOc ydm yz4 (by decide) (fun _=>rfl) (fun x r _ h=>h) yPA
abbrev ykC:List Par:= [.pt tA (.pr .fz (.pr (.pr .fz .fz) (.pr (.ow (.pr (.ow .fz) (.pr (.ow (.pr .fz .fz)) (.pr .fz (.ow .fz))))) (.pr .fz (.pr .fz (.pr .fz (.pr .fz (.pr .fz (.pr (.ow (.pr .fz .fz)) (.pr .fz (.pr .fz .fz)))))))))))]
abbrev ypP:List OT:= [⟨false,tI,.fz⟩]
def ysN (a0:dA):Option (zaY ypP×zak ykC) :=zkt (yrG ((((),()),()),((a0.1,a0.2.1.1,a0.2.1.2,(),a0.2.2.2.1,a0.2.2.2.2.1,a0.2.2.2.2.2.1,a0.2.2.2.2.2.2.1,a0.2.2.2.2.2.2.2.1,(),a0.2.2.2.2.2.2.2.2.2.1,a0.2.2.2.2.2.2.2.2.2.2.1,a0.2.2.2.2.2.2.2.2.2.2.2,()),()),(a0.2.2.1,a0.2.2.2.2.2.2.2.2.1,()))) (fun y2 =>some ((0,()),((y2.2.1.1.1,(y2.2.1.1.2.1,y2.2.1.1.2.2.1),y2.2.2.1,y2.2.1.1.2.2.2.2.1,y2.2.1.1.2.2.2.2.2.1,y2.2.1.1.2.2.2.2.2.2.1,y2.2.1.1.2.2.2.2.2.2.2.1,y2.2.1.1.2.2.2.2.2.2.2.2.1,y2.2.2.2.1,y2.2.1.1.2.2.2.2.2.2.2.2.2.2.1,y2.2.1.1.2.2.2.2.2.2.2.2.2.2.2.1,y2.2.1.1.2.2.2.2.2.2.2.2.2.2.2.2.1),()))) (fun y2 =>some ((y2.1.1.1,()),((y2.2.1.1.1,(y2.2.1.1.2.1,y2.2.1.1.2.2.1),y2.2.2.1,y2.2.1.1.2.2.2.2.1,y2.2.1.1.2.2.2.2.2.1,y2.2.1.1.2.2.2.2.2.2.1,y2.2.1.1.2.2.2.2.2.2.2.1,y2.2.1.1.2.2.2.2.2.2.2.2.1,y2.2.2.2.1,y2.2.1.1.2.2.2.2.2.2.2.2.2.2.1,y2.2.1.1.2.2.2.2.2.2.2.2.2.2.2.1,y2.2.1.1.2.2.2.2.2.2.2.2.2.2.2.2.1),())))
theorem yPc:ConOk prog 117 ⟨ykC,ypP,fun x=>ysN x.1⟩:=zkI (yLC) func117 ntmps117.symm fun x=>by kernel_rfl
def yqm (a0:dA):Int×dA:=ySQ a0
def yyP (a0:dA):Bool:=decide (a0.2.2.2.2.2.2.2.2.1.length≤1000)
theorem yQ3 (a0:dA) (hk:zjx ykC (a0,())) (hq:yyP a0=true):ysN a0=(fun n=>some ((n.1,()),(n.2,()))) (yqm a0):=by
 have hq:=of_decide_eq_true hq
 have h1:=zkC (step:=ydm) a0.2.2.2.2.2.2.2.2.1.length (fun _ s=>yqf s) yHm (fun i s=>s.2.2.2.2.2.2.2.2.1.length+i=a0.2.2.2.2.2.2.2.2.1.length) (fun b=>(0,b))
  (fun r=>bif r.1==0 then .inl (yLN r.2)else .inr (yLR r.1 r.2)) (fun i s hi hs=>by
   have hp:0<s.2.2.2.2.2.2.2.2.1.length:=by omega
   constructor
   ·simp only[ydm,yqf,yqL,zkX,zky (show(0:Int)<(s.2.2.2.2.2.2.2.2.1.length:Int)by omega),cond_true,show inb 0 s.2.2.2.2.2.2.2.2.1.length=true from zkR (i:=0) hp]
    rw[yAg s (nth s.2.2.2.2.2.2.2.2.1 0 (0,[])).1 (decide_eq_true (show s.2.2.2.2.2.2.2.2.1.length≤1000 by omega))];simp only[zkH,yhV];unfold yHm;generalize ygA s (nth s.2.2.2.2.2.2.2.2.1 0 (0,[])).1=R;cases hr:(R.1 !=0)
    ·rfl
    ·simp only[cond_true]
     rw[show(R.1==0)=false from beq_eq_false_iff_ne.2 (bne_iff_ne.1 hr)]; rfl
   ·intro s' h
    unfold yHm at h;cases hr:((ygA s (nth s.2.2.2.2.2.2.2.2.1 0 (0,[])).1).1 !=0)
    ·rw[hr]at h
     simp only[cond_false,Sum.inl.injEq]at h;rw[← h,ySV hp (bne_eq_false_iff_eq.1 hr),List.length_drop]; omega
    ·rw[hr]at h; cases h) (fun s hs=>by
   simp only[ydm,yqf,yqL,show ltb 0 (s.2.2.2.2.2.2.2.2.1.length:Int)=false from zk3 (by omega)]; rfl) a0 rfl 18446744073709551616 (by omega)
 unfold ysN yqm ySQ;refine(congrArg (fun z=>zkt z _ _) (show yrG (yLP a0)=_ from h1)).trans ?_;generalize goE yHm (fun b=>(0,b)) a0.2.2.2.2.2.2.2.2.1.length 0 a0=R;cases hr:(R.1==0)
 ·rfl
 ·simp only[cond_true,zkN,zkX]
  rw[show R.1=0 from beq_iff_eq.1 hr]
def yk1 (a0:dA):Option (zaY ypP×zak ykC):=bif yyP a0 then(fun n=>some ((n.1,()),(n.2,()))) (yqm a0)else none
theorem yRj (a0:dA) (h:yyP a0=true):yk1 a0=(fun n=>some ((n.1,()),(n.2,()))) (yqm a0):=by unfold yk1; rw[h]; rfl
def yA7:Con:=⟨ykC,ypP,fun x=>yk1 x.1⟩
theorem yRg:ConOk prog 117 yA7:=(yPc).mono (fun x r hk h=>zkY h (fun hq=>yQ3 x.1 hk hq))
def yQg:Code:=(f120.body).getD .skip
def yQE:Env:=zkw TT [(80,yb1)] []
theorem yHL:FrOk prog ⟨yQE,6,fun _=>none⟩ yQg:=zkA mixed yd ⟨yd6,trivial⟩
abbrev yun:List Par:= [.pt tU .fz]
abbrev yuM:List OT:= [⟨false,tI,.fz⟩]
def yW (a0:dU):Option (zaY yuM×zak yun) :=bnd (yp a0 ([0,1,2,7,255,256,4660,65535]:List Int)) fun r1 =>some ((r1.1.1,()),(r1.2.1,()))
theorem yMx:ConOk prog 120 ⟨yun,yuM,fun x=>yW x.1⟩:=zkI (yHL) func120 ntmps120.symm fun x=>by kernel_rfl
def ypZ:Con:=⟨yun,yuM,fun x=>yW x.1⟩
theorem yBn:ConOk prog 120 ypZ:=yMx
theorem ySF (u:List Int×Int×Int) (h:yx u): ∃(r:Int) (u':List Int×Int×Int),yW u=some ((r,()),(u',()))∧ya r 0 65535=true∧yx u':=by
 unfold yW;obtain⟨r1,u1,e1,q1,d1⟩:=yhH u [0,1,2,7,255,256,4660,65535] h (by simp);simp only[e1,zkH];refine⟨_,_,rfl,?_,d1⟩;simp only[List.mem_cons,List.not_mem_nil,or_false]at q1;exact yUR (by omega) (by omega)
def yKg:Code:=(f203.body).getD .skip
def yKE:Env:=zkw TT [(174,ykf),(177,ykc),(178,yke)] []
theorem yDI:FrOk prog ⟨yKE,27,fun _=>none⟩ yKg:=zkA mixed yd ⟨ysx,ysu,ysw,trivial⟩
abbrev yfT:List Par:= [.pt tA (.pr .fz (.pr (.pr .fz .fz) (.pr (.ow (.pr (.ow .fz) (.pr (.ow (.pr .fz .fz)) (.pr .fz (.ow .fz))))) (.pr .fz (.pr .fz (.pr .fz (.pr .fz (.pr .fz (.pr (.ow (.pr .fz .fz)) (.pr .fz (.pr .fz .fz)))))))))))]
abbrev yjZ:List OT:= [⟨false,tI,.fz⟩]
def ymN (a0:dA):Option (zaY yjZ×zak yfT) :=let r1:=ybK a0.2.1;let r2:=yaU r1;bif(inb a0.2.2.2.1 a0.2.2.1.length)then let r3:=yai (a0.1,a0.2.1,(a0.2.2.1.set (a0.2.2.2.1).toNat r2),a0.2.2.2.1,0,a0.2.2.2.2.2);bif r3.2.2.2.2.2.2.2.2.2.2.1 then some ((6,()),(r3,())) else some ((0,()),(r3,())) else none
theorem yGw:ConOk prog 203 ⟨yfT,yjZ,fun x=>ymN x.1⟩:=zkI (yDI) func203 ntmps203.symm fun x=>by kernel_rfl
def ykk (a0:dA):Int×dA:=(bif yi (yaH (yk5 a0))then 6 else 0,yaH (yk5 a0))
def ygP (a0:dA):Bool:=ye a0.2.1&&inb a0.2.2.2.1 a0.2.2.1.length
theorem yI3 (a0:dA) (hk:zjx yfT (a0,())) (hq:ygP a0=true):ymN a0=(fun n=>some ((n.1,()),(n.2,()))) (ykk a0):=by
 simp only[ygP,Bool.and_eq_true]at hq;have hg:=yk.1 hq.1;unfold ymN ykk;simp only[ybK,wq (6+a0.2.1.2) (by omega) (by omega),hq.2,yaU,yai];show(bif yi (yaH (yk5 a0))then some ((6,()),(yaH (yk5 a0),()))else some ((0,()),(yaH (yk5 a0),())))=_;cases yi (yaH (yk5 a0))<;>rfl
def ygL (a0:dA):Option (zaY yjZ×zak yfT):=bif ygP a0 then(fun n=>some ((n.1,()),(n.2,()))) (ykk a0)else none
theorem yJP (a0:dA) (h:ygP a0=true):ygL a0=(fun n=>some ((n.1,()),(n.2,()))) (ykk a0):=by unfold ygL; rw[h]; rfl
def yvQ:Con:=⟨yfT,yjZ,fun x=>ygL x.1⟩
theorem yJL:ConOk prog 203 yvQ:=(yGw).mono (fun x r hk h=>zkY h (fun hq=>yI3 x.1 hk hq))
def yNE:Code:=(f204.body).getD .skip
def yN7:Env:=zkw TT [(113,yay),(206,yhF),(227,ynV)] []
theorem yFH:FrOk prog ⟨yN7,49,fun _=>none⟩ yNE:=zkA mixed yd ⟨yb3,ynv,yAb,trivial⟩
abbrev yhs:List Par:= [.pt tA (.pr .fz (.pr (.pr .fz .fz) (.pr (.ow (.pr (.ow .fz) (.pr (.ow (.pr .fz .fz)) (.pr .fz (.ow .fz))))) (.pr .fz (.pr .fz (.pr .fz (.pr .fz (.pr .fz (.pr (.ow (.pr .fz .fz)) (.pr .fz (.pr .fz .fz)))))))))))]
abbrev ylE:List OT:= [⟨false,tI,.fz⟩]
def yoo (a0:dA):Option (zaY ylE×zak yhs) :=bnd (yhX a0 a0.2.2.2.2.1) fun r1 =>bif(!r1.1.2.1)then some ((5,()),(a0,())) else let r2:=yK a0.2.2.2.2.1;bif(inb a0.2.2.2.1 r1.1.1.length)then bnd (ydN a0 a0.2.2.2.1 r2 ([(nth r1.1.1 a0.2.2.2.1 0)]:List Int)) fun r3 =>bif r3.2.1.2.2.2.2.2.2.2.2.2.2.1 then some ((6,()),(r3.2.1,())) else some ((0,()),((r3.2.1.1,r3.2.1.2.1,r3.2.1.2.2.1,r3.2.1.2.2.2.1,(i64.wrap (r3.2.1.2.2.2.2.1+1)),r3.2.1.2.2.2.2.2),())) else none
theorem yJr:ConOk prog 204 ⟨yhs,ylE,fun x=>yoo x.1⟩:=zkI (yFH) func204 ntmps204.symm fun x=>by kernel_rfl
def ylW (a0:dA):Int×dA:=yBz a0
def yhZ (a0:dA):Bool:=ye a0.2.1&&(inb a0.2.2.2.1 a0.2.2.1.length&&inb a0.2.2.2.1 a0.2.1.1.toNat)
theorem yMa (a0:dA) (hk:zjx yhs (a0,())) (hq:yhZ a0=true):yoo a0=(fun n=>some ((n.1,()),(n.2,()))) (ylW a0):=by
 simp only[yhZ,Bool.and_eq_true]at hq;unfold yoo ylW yBz;rw[yAf a0 a0.2.2.2.2.1 hq.1];simp only[zkH,yeU,yaZ];cases hw:(ybp a0 a0.2.2.2.2.1).2
 ·rfl
 ·rw[yP0 hw,hq.2.2,yi4 a0 a0.2.2.2.1 (ybG a0.2.2.2.2.1) [nth (ybp a0 a0.2.2.2.2.1).1 a0.2.2.2.1 0] hq.2.1]
  simp only[zkH,yk0,Bool.not_true,cond_false,cond_true];show(bif yi (yfN a0)then some ((6,()),(yfN a0,()))else some ((0,()),(yTw (yfN a0),())))=_;cases yi (yfN a0)<;>rfl
def yhW (a0:dA):Option (zaY ylE×zak yhs):=bif yhZ a0 then(fun n=>some ((n.1,()),(n.2,()))) (ylW a0)else none
theorem yM7 (a0:dA) (h:yhZ a0=true):yhW a0=(fun n=>some ((n.1,()),(n.2,()))) (ylW a0):=by unfold yhW; rw[h]; rfl
def yx4:Con:=⟨yhs,ylE,fun x=>yhW x.1⟩
theorem yM3:ConOk prog 204 yx4:=(yJr).mono (fun x r hk h=>zkY h (fun hq=>yMa x.1 hk hq))
def yQl:Code:=(f163.body).getD .skip
def yQJ:Env:=zkw TT [(72,yr),(83,yp0),(108,ynU),(112,yhh),(113,yay),(117,yA7),(118,yA9),(119,ykb),(120,ypZ),(171,ynW),(179,ynX),(203,yvQ),(204,yx4)] []
theorem yH4:FrOk prog ⟨yQJ,160,fun _=>none⟩ yQl:=zkA mixed yd ⟨yD,yBo,yAa,yoc,yb3,yRg,yRi,yst,yBn,yAc,yAd,yJL,yM3,trivial⟩
abbrev yg:List Par:= [.pt tU .fz,.pt tA (.pr .fz (.pr (.pr .fz .fz) (.pr (.ow (.pr (.ow .fz) (.pr (.ow (.pr .fz .fz)) (.pr .fz (.ow .fz))))) (.pr .fz (.pr .fz (.pr .fz (.pr .fz (.pr .fz (.pr (.ow (.pr .fz .fz)) (.pr .fz (.pr .fz .fz)))))))))))]
abbrev yh:List OT:= []
def ygR (a0:dU) (a1:dA):Option (zaY yh×zak yg) :=bnd (yb a0 14) fun r1 =>let k1:Option (zaY yh×zak yg) :=bnd (yaA r1.2.1 3) fun r9 =>bif r9.1.1 then bif(a1.2.2.2.1==(-1))then bnd (yb r9.2.1 a1.2.1.1) fun r10 =>bnd (yeW a1 r10.1.1) fun r11 =>some ((),(r10.2.1,r11.2.1,())) else some ((),(r9.2.1,a1,())) else some ((),(r9.2.1,a1,()));let k2:Option (zaY yh×zak yg) :=bif(inb a1.2.2.2.1 a1.2.2.1.length)then bif(((nth a1.2.2.1 a1.2.2.2.1 ([],[],false,[])).2).2).1 then bnd (ygL a1) fun r12 =>some ((),(r1.2.1,r12.2.1,())) else some ((),(r1.2.1,a1,())) else none;let k3:Option (zaY yh×zak yg) :=bif(leb 0 a1.2.2.2.1)then k2 else some ((),(r1.2.1,a1,()));let k4:Option (zaY yh×zak yg) :=bif(inb a1.2.2.2.1 a1.2.2.1.length)then bif(!((((nth a1.2.2.1 a1.2.2.2.1 ([],[],false,[])).2).2).1))then bif(ltb a1.2.2.2.2.1 a1.2.1.2)then bnd (yhW a1) fun r13 =>some ((),(r1.2.1,r13.2.1,())) else some ((),(r1.2.1,a1,())) else some ((),(r1.2.1,a1,())) else none;let k5:Option (zaY yh×zak yg) :=bif(leb 0 a1.2.2.2.1)then k4 else some ((),(r1.2.1,a1,()));let k6:Option (zaY yh×zak yg) :=bnd (yaA r1.2.1 3) fun r15 =>bif r15.1.1 then bnd (yb r15.2.1 a1.2.1.1) fun r16 =>bif(inb r16.1.1 a1.2.2.1.length)then bnd (yb r16.2.1 a1.2.1.2) fun r17 =>let r18:=yK r17.1.1;let r19:=ybn ((nth a1.2.2.1 r16.1.1 ([],[],false,[])).1,((nth a1.2.2.1 r16.1.1 ([],[],false,[])).2).1,(((nth a1.2.2.1 r16.1.1 ([],[],false,[])).2).2)) r18;bif(inb r16.1.1 a1.2.2.1.length)then some ((),(r17.2.1,(a1.1,a1.2.1,(a1.2.2.1.set (r16.1.1).toNat r19),a1.2.2.2),())) else none else none else some ((),(r15.2.1,a1,()));let k7:Option (zaY yh×zak yg) :=bif(a1.2.2.2.1==(-1))then k6 else some ((),(r1.2.1,a1,()));let k8:Option (zaY yh×zak yg) :=bif(r1.1.1==12)then let r14:=yeV a1;some ((),(r1.2.1,r14,())) else k7;let k9:Option (zaY yh×zak yg) :=bif(r1.1.1==10)then k5 else k8;let k10:Option (zaY yh×zak yg) :=bif(r1.1.1==11)then k5 else k8;let k11:Option (zaY yh×zak yg) :=bif(r1.1.1==10)then k9 else k10;let k12:Option (zaY yh×zak yg) :=bif(r1.1.1==9)then k3 else k11;let k13:Option (zaY yh×zak yg) :=bif(r1.1.1==8)then k1 else k12;let k14:Option (zaY yh×zak yg) :=bif(r1.1.1==7)then bnd (yk1 a1) fun r8 =>some ((),(r1.2.1,r8.2.1,())) else k13;let k15:Option (zaY yh×zak yg) :=bif(r1.1.1==4)then bnd (yb r1.2.1 a1.2.1.2) fun r6 =>bnd (yb2 a1 r6.1.1) fun r7 =>some ((),(r6.2.1,r7.2.1,())) else k14;let k16:Option (zaY yh×zak yg) :=bif(r1.1.1==5)then bnd (yb r1.2.1 a1.2.1.2) fun r27 =>bnd (yb2 a1 r27.1.1) fun r28 =>some ((),(r27.2.1,r28.2.1,())) else k14;let k17:Option (zaY yh×zak yg) :=bif(r1.1.1==6)then bnd (yb r1.2.1 a1.2.1.2) fun r48 =>bnd (yb2 a1 r48.1.1) fun r49 =>some ((),(r48.2.1,r49.2.1,())) else k14;let k18:Option (zaY yh×zak yg) :=bif(r1.1.1==5)then k16 else k17;let k19:Option (zaY yh×zak yg) :=bif(r1.1.1==4)then k15 else k18;bif(r1.1.1==0)then bif(r1.1.1==0)then let r2:=yl a1.2.1;bnd (yb r1.2.1 r2) fun r3 =>bnd (yW r3.2.1) fun r4 =>bnd (ydO a1 r3.1.1 r4.1.1) fun r5 =>some ((),(r4.2.1,r5.2.1,())) else k19 else bif(r1.1.1==1)then bif(r1.1.1==1)then let r69:=yl a1.2.1;bnd (yb r1.2.1 r69) fun r70 =>bnd (yW r70.2.1) fun r71 =>bnd (ydO a1 r70.1.1 r71.1.1) fun r72 =>some ((),(r71.2.1,r72.2.1,())) else k19 else bif(r1.1.1==2)then bif(r1.1.1==2)then let r136:=yl a1.2.1;bnd (yb r1.2.1 r136) fun r137 =>bnd (yW r137.2.1) fun r138 =>bnd (ydO a1 r137.1.1 r138.1.1) fun r139 =>some ((),(r138.2.1,r139.2.1,())) else k19 else bif(r1.1.1==3)then let r203:=yl a1.2.1;bnd (yb r1.2.1 r203) fun r204 =>bnd (yW r204.2.1) fun r205 =>bnd (ydO a1 r204.1.1 r205.1.1) fun r206 =>some ((),(r205.2.1,r206.2.1,())) else k19
theorem yMI:ConOk prog 163 ⟨yg,yh,fun x=>ygR x.1 x.2.1⟩:=zkI (yH4) func163 ntmps163.symm fun x=>by kernel_rfl
def yzV:Con:=⟨yg,yh,fun x=>ygR x.1 x.2.1⟩
theorem yPr:ConOk prog 163 yzV:=yMI
def ysX (a:dA) (z:Option (zaY yh×zak yg)):Prop:= ∃(u':dU) (a':dA),z=some ((),(u',a',()))∧yx u'∧Turned a a'
def ySN (u:dU) (a:dA):Option (zaY yh×zak yg) :=bnd (yb u (yl a.2.1)) fun r3=>bnd (yW r3.2.1) fun r4=>bnd (ydO a r3.1.1 r4.1.1) fun r5=>some ((),(r4.2.1,r5.2.1,()))
def yPX (u:dU) (a:dA):Option (zaY yh×zak yg) :=bnd (yb u a.2.1.2) fun r6=>bnd (yb2 a r6.1.1) fun r7=>some ((),(r6.2.1,r7.2.1,()))
def ySe (u:dU) (a:dA):Option (zaY yh×zak yg) :=bnd (yaA u 3) fun r9=>bif r9.1.1 then(bif(a.2.2.2.1==(-1))then(bnd (yb r9.2.1 a.2.1.1) fun r10=>bnd (yeW a r10.1.1) fun r11=>some ((),(r10.2.1,r11.2.1,())))else some ((),(r9.2.1,a,())))else some ((),(r9.2.1,a,()))
def yPY (u:dU) (a:dA):Option (zaY yh×zak yg) :=bif leb 0 a.2.2.2.1 then(bif inb a.2.2.2.1 a.2.2.1.length then(bif(nth a.2.2.1 a.2.2.2.1 yc).2.2.1 then(bnd (ygL a) fun r12=>some ((),(u,r12.2.1,())))else some ((),(u,a,())))else none)else some ((),(u,a,()))
def ySf (u:dU) (a:dA):Option (zaY yh×zak yg) :=bif leb 0 a.2.2.2.1 then(bif inb a.2.2.2.1 a.2.2.1.length then(bif !(nth a.2.2.1 a.2.2.2.1 yc).2.2.1 then(bif ltb a.2.2.2.2.1 a.2.1.2 then(bnd (yhW a) fun r13=>some ((),(u,r13.2.1,())))else some ((),(u,a,())))else some ((),(u,a,())))else none)else some ((),(u,a,()))
def yEC (u:dU) (a:dA):Option (zaY yh×zak yg) :=bif(a.2.2.2.1==(-1))then(bnd (yaA u 3) fun r15=>bif r15.1.1 then(bnd (yb r15.2.1 a.2.1.1) fun r16=>bif inb r16.1.1 a.2.2.1.length then(bnd (yb r16.2.1 a.2.1.2) fun r17 =>bif inb r16.1.1 a.2.2.1.length then some ((),(r17.2.1,yh7 a r16.1.1 (spoil (nth a.2.2.1 r16.1.1 yc) (ybG r17.1.1)),()))else none)else none)else some ((),(r15.2.1,a,())))else some ((),(u,a,()))
theorem yB4 {u:dU} {a:dA} (h:ydJ a) (hk:yaV a) (hu:yx u):ysX a (ySN u a):=by
 have hg:=yk.1 h.1;have hd:=ytb h.2.2.1 h.1;obtain⟨b,u1,e1,q1,d1⟩:=yu u (yl a.2.1) hu;obtain⟨x,u2,e2,q2,d2⟩:=ySF u1 d1;have hx:isW x=true:=by rw[ycf]at q2; exact q2
 have hbl:0<yl a.2.1:=by
  rw[yBy h.1];exact Int.mul_pos (by omega) (by omega)
 have hb:ylK a.2.1 b=true:=by
  have:=q1.2.1 hbl;unfold ylK;rw[zk2 q1.1,zk2 (show b≤yl a.2.1-1 by omega)]; rfl
 unfold ySN;rw[e1,zkH,e2,zkH,yRl a b x (by unfold yk2; rw[ySB.2 ⟨h,hk⟩,hb]; exact decide_eq_true (show a.2.2.2.2.2.2.2.2.1.length≤1000 by omega)),zkH];exact⟨_,_,rfl,d2,.put b x hb hx⟩
theorem yB3 {u:dU} {a:dA} (h:ydJ a) (hu:yx u):ysX a (yPX u a):=by
 have hd:=ytb h.2.2.1 h.1;obtain⟨s,u1,e1,q1,d1⟩:=yu u a.2.1.2 hu;unfold yPX;rw[e1,zkH,yAg a s (decide_eq_true (show a.2.2.2.2.2.2.2.2.1.length≤1000 by omega)),zkH];exact⟨_,_,rfl,d1,.flush s⟩
theorem yTX {u:dU} {a:dA} (h:ydJ a) (hu:yx u):ysX a (bnd (yk1 a) fun r8=>some ((),(u,r8.2.1,()))):=by
 have hd:=ytb h.2.2.1 h.1;rw[yRj a (decide_eq_true (show a.2.2.2.2.2.2.2.2.1.length≤1000 by omega)),zkH];exact⟨_,_,rfl,hu,.all⟩
theorem yTA {u:dU} {a:dA} (h:ydJ a) (hk:yaV a) (hu:yx u):ysX a (ySe u a):=by
 have hg:=yk.1 h.1;have hl:=hk.1.2;obtain⟨r,u1,e1,d1⟩:=yOh u 3 hu;unfold ySe;rw[e1,zkH];cases r
 ·exact⟨_,_,rfl,d1,.same⟩
 ·cases h1:(a.2.2.2.1==(-1))
  ·exact⟨_,_,rfl,d1,.same⟩
  ·obtain⟨m,u2,e2,q2,d2⟩:=yu u1 a.2.1.1 d1
   have hm:inb m a.2.2.1.length=true:=zj6.2 ⟨q2.1,by have:=q2.2.1 (by omega); omega⟩;simp only[cond_true];rw[e2,zkH,yAe a m hm,zkH];exact⟨_,_,rfl,d2,.fail m (beq_iff_eq.1 h1) hm⟩
theorem yS3 {u:dU} {a:dA} (h:ydJ a) (hk:yaV a) (hu:yx u):ysX a (yPY u a):=by
 have hl:=hk.1.2;have hc:=h.2.2.2.1;unfold yPY;cases h0:leb 0 a.2.2.2.1
 ·exact⟨_,_,rfl,hu,.same⟩
 ·have hi:inb a.2.2.2.1 a.2.2.1.length=true:=zj6.2 ⟨zj7.1 h0,by omega⟩
  rw[hi];cases hf:(nth a.2.2.1 a.2.2.2.1 yc).2.2.1
  ·exact⟨_,_,rfl,hu,.same⟩
  ·simp only[cond_true]
   rw[yJP a (by unfold ygP; rw[h.1,hi]; rfl),zkH];exact⟨_,_,rfl,hu,.spare hi hf⟩
theorem yPZ {u:dU} {a:dA} (h:ydJ a) (hk:yaV a) (hu:yx u):ysX a (ySf u a):=by
 have hl:=hk.1.2;have hc:=h.2.2.2.1;unfold ySf;cases h0:leb 0 a.2.2.2.1
 ·exact⟨_,_,rfl,hu,.same⟩
 ·have h0':=zj7.1 h0
  have hi:inb a.2.2.2.1 a.2.2.1.length=true:=zj6.2 ⟨h0',by omega⟩;rw[hi];cases hf:(nth a.2.2.1 a.2.2.2.1 yc).2.2.1
  ·cases hb:ltb a.2.2.2.2.1 a.2.1.2
   ·exact⟨_,_,rfl,hu,.same⟩
   ·simp only[cond_true,Bool.not_false]
    rw[yM7 a (by unfold yhZ; rw[h.1,hi,zj6.2 (show 0≤a.2.2.2.1∧a.2.2.2.1<a.2.1.1.toNat by omega)]; rfl),zkH];exact⟨_,_,rfl,hu,.step hi hf (zka.1 hb)⟩
  ·exact⟨_,_,rfl,hu,.same⟩
theorem yS4 {u:dU} {a:dA} (h:ydJ a) (hk:yaV a) (hu:yx u):ysX a (yEC u a):=by
 have hg:=yk.1 h.1;have hl:=hk.1.2;unfold yEC;cases hlo:(a.2.2.2.1==(-1))
 ·exact⟨_,_,rfl,hu,.same⟩
 ·obtain⟨r,u1,e1,d1⟩:=yOh u 3 hu
  simp only[cond_true];rw[e1,zkH];cases r
  ·exact⟨_,_,rfl,d1,.same⟩
  ·obtain⟨m,u2,e2,q2,d2⟩:=yu u1 a.2.1.1 d1
   have hm:inb m a.2.2.1.length=true:=zj6.2 ⟨q2.1,by have:=q2.2.1 (by omega); omega⟩;obtain⟨s,u3,e3,q3,d3⟩:=yu u2 a.2.1.2 d2;simp only[cond_true];rw[e2,zkH];simp only[hm,cond_true];rw[e3,zkH];exact⟨_,_,rfl,d3,.spoil m s (beq_iff_eq.1 hlo) hm q3.1 (q3.2.1 (by omega))⟩
theorem yUc (u:dU) (a:dA) (hu:yx u) (h:ydJ a) (hk:yaV a):ysX a (ygR u a):=by
 obtain⟨r,u1,e1,q1,d1⟩:=yu u 14 hu;have hr:=q1.2.1 (by omega);have h0:=q1.1;unfold ygR;rw[e1,zkH];have hc:(r=0∨r=1∨r=2∨r=3)∨(r=4∨r=5∨r=6)∨r=7∨r=8∨r=9∨(r=10∨r=11)∨r=12∨r=13:=by omega
 rcases hc with(rfl | rfl | rfl | rfl) | (rfl | rfl | rfl) | rfl | rfl | rfl | (rfl | rfl) | rfl | rfl
 ·exact yB4 h hk d1
 ·exact yB4 h hk d1
 ·exact yB4 h hk d1
 ·exact yB4 h hk d1
 ·exact yB3 h d1
 ·exact yB3 h d1
 ·exact yB3 h d1
 ·exact yTX h d1
 ·exact yTA h hk d1
 ·exact yS3 h hk d1
 ·exact yPZ h hk d1
 ·exact yPZ h hk d1
 ·refine⟨u1,yct a,?_,d1,.check⟩
  rw[← yCd]; rfl
 ·have:=yS4 h hk d1
  unfold yEC at this;simp only[← yaZ]at this;exact this
def ym7:Code:=(f124.body).getD .skip
def yt7:Env:=zkw TT [(72,yr),(115,yzL),(116,yA5),(163,yzV)] []
theorem yHZ:FrOk prog ⟨yt7,24,fun _=>none⟩ ym7:=zkA mixed yd ⟨yD,yPh,yRe,yPr,trivial⟩
def yzo:Nat→Option Seg:=fun _=>none
def ybT:Shape:=⟨[(0,false,[.ptr 1000000000 0]),(4,false,[.ptr 0 0]),(5,false,[.ptr 4480 0]),(6,false,[.int .i64])],[(0,[.int .i64,.int .i64,.int .i64,.nil,.int .i64,.int .i64,.int .i64,.int .i64,.int .i64,.nil,.int .i64,.bool,.bool]),(4480,[.int .i64,.int .i64,.int .i64,.at 800000000,.int .i64,.int .i64,.int .i64,.int .i64,.int .i64,.at 800000001,.int .i64,.bool,.bool]),(1000000000,[.fz tY,.int .i64,.int .i64])],[(800000000,tM,(.pr (.ow .fz) (.pr (.ow (.pr .fz .fz)) (.pr .fz (.ow .fz))))),(800000001,tW,(.pr .fz .fz))]⟩
def yfj:Shape:=⟨[(0,false,[.ptr 1000000000 0]),(4,false,[.ptr 0 0]),(5,false,[.ptr 4480 0]),(6,false,[.int .i64])],[(0,[.int .i64,.int .i64,.int .i64,.nil,.int .i64,.int .i64,.int .i64,.int .i64,.int .i64,.nil,.int .i64,.bool,.bool]),(4480,[.int .i64,.int .i64,.int .i64,.at 800000000,.int .i64,.int .i64,.int .i64,.int .i64,.int .i64,.at 800000001,.int .i64,.bool,.bool]),(1000000000,[.fz tY,.int .i64,.int .i64])],[(800000000,tM,(.pr (.ow .fz) (.pr (.ow (.pr .fz .fz)) (.pr .fz (.ow .fz))))),(800000001,tW,(.pr .fz .fz))]⟩
def ye8:Shape:=⟨[(4,false,[.ptr 0 0]),(5,false,[.ptr 4480 0])],[(0,[.int .i64,.int .i64,.int .i64,.nil,.int .i64,.int .i64,.int .i64,.int .i64,.int .i64,.nil,.int .i64,.bool,.bool]),(4480,[.int .i64,.int .i64,.int .i64,.at 800000000,.int .i64,.int .i64,.int .i64,.int .i64,.int .i64,.at 800000001,.int .i64,.bool,.bool]),(1000000000,[.fz tY,.int .i64,.int .i64])],[(800000000,tM,(.pr (.ow .fz) (.pr (.ow (.pr .fz .fz)) (.pr .fz (.ow .fz))))),(800000001,tW,(.pr .fz .fz))]⟩
def yip:Shape:=⟨[],[],[]⟩
abbrev ymt (v0:Int) (v1 v2:dA) (v3:dU):(ybT).X:=((((),()),((),()),((),()),(v0,()),()),((v1.1,v1.2.1.1,v1.2.1.2,(),v1.2.2.2.1,v1.2.2.2.2.1,v1.2.2.2.2.2.1,v1.2.2.2.2.2.2.1,v1.2.2.2.2.2.2.2.1,(),v1.2.2.2.2.2.2.2.2.2.1,v1.2.2.2.2.2.2.2.2.2.2.1,v1.2.2.2.2.2.2.2.2.2.2.2,()),(v2.1,v2.2.1.1,v2.2.1.2,(),v2.2.2.2.1,v2.2.2.2.2.1,v2.2.2.2.2.2.1,v2.2.2.2.2.2.2.1,v2.2.2.2.2.2.2.2.1,(),v2.2.2.2.2.2.2.2.2.2.1,v2.2.2.2.2.2.2.2.2.2.2.1,v2.2.2.2.2.2.2.2.2.2.2.2,()),(v3.1,v3.2.1,v3.2.2,()),()),(v2.2.2.1,v2.2.2.2.2.2.2.2.2.1,()))
abbrev yF5 (v0:Int) (v1 v2:dA) (v3:dU):(yfj).X:=((((),()),((),()),((),()),(v0,()),()),((v1.1,v1.2.1.1,v1.2.1.2,(),v1.2.2.2.1,v1.2.2.2.2.1,v1.2.2.2.2.2.1,v1.2.2.2.2.2.2.1,v1.2.2.2.2.2.2.2.1,(),v1.2.2.2.2.2.2.2.2.2.1,v1.2.2.2.2.2.2.2.2.2.2.1,v1.2.2.2.2.2.2.2.2.2.2.2,()),(v2.1,v2.2.1.1,v2.2.1.2,(),v2.2.2.2.1,v2.2.2.2.2.1,v2.2.2.2.2.2.1,v2.2.2.2.2.2.2.1,v2.2.2.2.2.2.2.2.1,(),v2.2.2.2.2.2.2.2.2.2.1,v2.2.2.2.2.2.2.2.2.2.2.1,v2.2.2.2.2.2.2.2.2.2.2.2,()),(v3.1,v3.2.1,v3.2.2,()),()),(v2.2.2.1,v2.2.2.2.2.2.2.2.2.1,()))
abbrev yFW (v0 v1:dA) (v2:dU):(ye8).X:=((((),()),((),()),()),((v0.1,v0.2.1.1,v0.2.1.2,(),v0.2.2.2.1,v0.2.2.2.2.1,v0.2.2.2.2.2.1,v0.2.2.2.2.2.2.1,v0.2.2.2.2.2.2.2.1,(),v0.2.2.2.2.2.2.2.2.2.1,v0.2.2.2.2.2.2.2.2.2.2.1,v0.2.2.2.2.2.2.2.2.2.2.2,()),(v1.1,v1.2.1.1,v1.2.1.2,(),v1.2.2.2.1,v1.2.2.2.2.1,v1.2.2.2.2.2.1,v1.2.2.2.2.2.2.1,v1.2.2.2.2.2.2.2.1,(),v1.2.2.2.2.2.2.2.2.2.1,v1.2.2.2.2.2.2.2.2.2.2.1,v1.2.2.2.2.2.2.2.2.2.2.2,()),(v2.1,v2.2.1,v2.2.2,()),()),(v1.2.2.1,v1.2.2.2.2.2.2.2.2.1,()))
def ymW (v0 v1 v2 v3 v4 v5 v6 v7 v8 v9:Int) (v10 v11:Bool) (v12 v13 v14 v15 v16 v17 v18 v19 v20:Int) (v21 v22:Bool) (v23:List Int) (v24 v25:Int) (v26:List dM) (v27:List dW):Option ((ybT).X ⊕ ((ye8).X ⊕ (yip).X)) :=bif(ltb 0 v0)then bnd (ygR (v23,v24,v25) (v12,(v13,v14),v26,v15,v16,v17,v18,v19,v27,v20,v21,v22)) fun r6 =>some (.inl ((((),()),((),()),((),()),((i64.wrap (v0-1)),()),()),((v1,v2,v3,(),v4,v5,v6,v7,v8,(),v9,v10,v11,()),(r6.2.2.1.1,r6.2.2.1.2.1.1,r6.2.2.1.2.1.2,(),r6.2.2.1.2.2.2.1,r6.2.2.1.2.2.2.2.1,r6.2.2.1.2.2.2.2.2.1,r6.2.2.1.2.2.2.2.2.2.1,r6.2.2.1.2.2.2.2.2.2.2.1,(),r6.2.2.1.2.2.2.2.2.2.2.2.2.1,r6.2.2.1.2.2.2.2.2.2.2.2.2.2.1,r6.2.2.1.2.2.2.2.2.2.2.2.2.2.2,()),(r6.2.1.1,r6.2.1.2.1,r6.2.1.2.2,()),()),(r6.2.2.1.2.2.1,r6.2.2.1.2.2.2.2.2.2.2.2.1,()))) else some (.inr (.inl ((((),()),((),()),()),((v1,v2,v3,(),v4,v5,v6,v7,v8,(),v9,v10,v11,()),(v12,v13,v14,(),v15,v16,v17,v18,v19,(),v20,v21,v22,()),(v23,v24,v25,()),()),(v26,v27,()))))
def ycc (x:(ybT).X):=ymW x.1.2.2.2.1.1 x.2.1.1.1 x.2.1.1.2.1 x.2.1.1.2.2.1 x.2.1.1.2.2.2.2.1 x.2.1.1.2.2.2.2.2.1 x.2.1.1.2.2.2.2.2.2.1 x.2.1.1.2.2.2.2.2.2.2.1 x.2.1.1.2.2.2.2.2.2.2.2.1 x.2.1.1.2.2.2.2.2.2.2.2.2.2.1 x.2.1.1.2.2.2.2.2.2.2.2.2.2.2.1 x.2.1.1.2.2.2.2.2.2.2.2.2.2.2.2.1 x.2.1.2.1.1 x.2.1.2.1.2.1 x.2.1.2.1.2.2.1 x.2.1.2.1.2.2.2.2.1 x.2.1.2.1.2.2.2.2.2.1 x.2.1.2.1.2.2.2.2.2.2.1 x.2.1.2.1.2.2.2.2.2.2.2.1 x.2.1.2.1.2.2.2.2.2.2.2.2.1 x.2.1.2.1.2.2.2.2.2.2.2.2.2.2.1 x.2.1.2.1.2.2.2.2.2.2.2.2.2.2.2.1 x.2.1.2.1.2.2.2.2.2.2.2.2.2.2.2.2.1 x.2.1.2.2.1.1 x.2.1.2.2.1.2.1 x.2.1.2.2.1.2.2.1 x.2.2.1 x.2.2.2.1
def yv0 (x:(yfj).X):(ybT).X:=((((),()),((),()),((),()),(x.1.2.2.2.1.1,()),()),((x.2.1.1.1,x.2.1.1.2.1,x.2.1.1.2.2.1,(),x.2.1.1.2.2.2.2.1,x.2.1.1.2.2.2.2.2.1,x.2.1.1.2.2.2.2.2.2.1,x.2.1.1.2.2.2.2.2.2.2.1,x.2.1.1.2.2.2.2.2.2.2.2.1,(),x.2.1.1.2.2.2.2.2.2.2.2.2.2.1,x.2.1.1.2.2.2.2.2.2.2.2.2.2.2.1,x.2.1.1.2.2.2.2.2.2.2.2.2.2.2.2.1,()),(x.2.1.2.1.1,x.2.1.2.1.2.1,x.2.1.2.1.2.2.1,(),x.2.1.2.1.2.2.2.2.1,x.2.1.2.1.2.2.2.2.2.1,x.2.1.2.1.2.2.2.2.2.2.1,x.2.1.2.1.2.2.2.2.2.2.2.1,x.2.1.2.1.2.2.2.2.2.2.2.2.1,(),x.2.1.2.1.2.2.2.2.2.2.2.2.2.2.1,x.2.1.2.1.2.2.2.2.2.2.2.2.2.2.2.1,x.2.1.2.1.2.2.2.2.2.2.2.2.2.2.2.2.1,()),(x.2.1.2.2.1.1,x.2.1.2.2.1.2.1,x.2.1.2.2.1.2.2.1,()),()),(x.2.2.1,x.2.2.2.1,()))
def yxN:Code:=(zd7 ym7 64 116).getD .skip
theorem yHj:zd7 ym7 64 29=some (.block 0 (.loop yxN)):=by kernel_rfl
theorem yJZ (x:(ybT).X):zhu ⟨yt7,24,yzo⟩ 0 yxN 116 ybT ye8 yip x=ycc x:=by kernel_rfl
def ywb (x:(yfj).X):Nat:=18446744073709551616
def ynJ (x:(yfj).X):Option ((ye8).X ⊕ (yip).X):=zF ycc (ywb x) (yv0 x)
def ywv:Seg:=⟨yfj,ye8,yip,ynJ⟩
def yKp:Nat→Option Seg:=fun q=>bif Nat.beq q 29 then some ywv else yzo q
theorem yH0:FrOk prog ⟨yt7,24,yKp⟩ ym7:=(yHZ).loop (sg:=ywv) ybT yv0 (by decide) yHj ycc ywb (by decide) (fun _=>rfl) (fun x r _ h=>h) yJZ
abbrev yus:List Par:= [.pt tU .fz,.rd tI]
abbrev yuT:List OT:= [⟨false,tA,(.pr .fz (.pr (.pr .fz .fz) (.pr (.ow (.pr (.ow .fz) (.pr (.ow (.pr .fz .fz)) (.pr .fz (.ow .fz))))) (.pr .fz (.pr .fz (.pr .fz (.pr .fz (.pr .fz (.pr (.ow (.pr .fz .fz)) (.pr .fz (.pr .fz .fz)))))))))))⟩]
def ydY (a0:dU) (a1:Int):Option (zaY yuT×zak yus) :=bnd (yb a0 2) fun r1 =>bnd (yh5 r1.2.1) fun r2 =>let r3:=yiW (i64.wrap (1+r1.1.1)) r2.1.1;bnd (yb r2.2.1 (i64.wrap (a1+1))) fun r4 =>zkt (ynJ ((((),()),((),()),((),()),(r4.1.1,()),()),((0,0,0,(),0,0,0,0,0,(),0,false,false,()),(r3.1,r3.2.1.1,r3.2.1.2,(),r3.2.2.2.1,r3.2.2.2.2.1,r3.2.2.2.2.2.1,r3.2.2.2.2.2.2.1,r3.2.2.2.2.2.2.2.1,(),r3.2.2.2.2.2.2.2.2.2.1,r3.2.2.2.2.2.2.2.2.2.2.1,r3.2.2.2.2.2.2.2.2.2.2.2,()),(r4.2.1.1,r4.2.1.2.1,r4.2.1.2.2,()),()),(r3.2.2.1,r3.2.2.2.2.2.2.2.2.1,()))) (fun y6 =>some (((y6.2.1.2.1.1,(y6.2.1.2.1.2.1,y6.2.1.2.1.2.2.1),y6.2.2.1,y6.2.1.2.1.2.2.2.2.1,y6.2.1.2.1.2.2.2.2.2.1,y6.2.1.2.1.2.2.2.2.2.2.1,y6.2.1.2.1.2.2.2.2.2.2.2.1,y6.2.1.2.1.2.2.2.2.2.2.2.2.1,y6.2.2.2.1,y6.2.1.2.1.2.2.2.2.2.2.2.2.2.2.1,y6.2.1.2.1.2.2.2.2.2.2.2.2.2.2.2.1,y6.2.1.2.1.2.2.2.2.2.2.2.2.2.2.2.2.1),()),((y6.2.1.2.2.1.1,y6.2.1.2.2.1.2.1,y6.2.1.2.2.1.2.2.1),()))) (fun y6 =>none)
theorem yMF:ConOk prog 124 ⟨yus,yuT,fun x=>ydY x.1 x.2.1⟩:=zkI (yH0) func124 ntmps124.symm fun x=>by kernel_rfl
def yzT:Con:=⟨yus,yuT,fun x=>ydY x.1 x.2.1⟩
theorem yPp:ConOk prog 124 yzT:=yMF
theorem yPN {P:Int→dA→Prop} {K:Int} (hP: ∀k a,P k a→ydJ a∧yaV a) (hT: ∀k a b,P k a→Turned a b→k+16≤K→P (k+16) b): ∀(n:Nat) (k:Int) (a:dA) (u:dU) (fuel:Nat),n<fuel→n≤1000→yx u→P k a→k+16*n≤K →
  ∃(a':dA) (u':dU),zF ycc fuel (ymt n ycX a u)=some (.inl (yFW ycX a' u'))∧yx u'∧P (k+16*n) a'
 | 0,k,a,u,fuel+1,_,_,hu,h,_=>⟨a,u,by simp only[zF,ycc,ymt,ymW]; rfl,hu,by rw[show k+16*((0:Nat):Int)=k by omega]; exact h⟩
 | n+1,k,a,u,fuel+1,hf,hn,hu,h,hk=>by
  obtain⟨hc,hkp⟩:=hP k a h;obtain⟨u1,a1,e1,d1,h1⟩:=yUc u a hu hc hkp;obtain⟨a',u',e2,d2,h2⟩:=yPN hP hT n (k+16) a1 u1 fuel (by omega) (by omega) d1 (hT k a a1 h h1 (by omega)) (by omega);refine⟨a',u',?_,d2,by rw[show k+16*((n+1:Nat):Int)=k+16+16*(n:Int)by omega]; exact h2⟩;rw[← e2,zF];simp only[ycc,ymt,ymW,zky (show(0:Int)<((n+1:Nat):Int)by omega),cond_true,zkX,e1,zkH,show((n+1:Nat):Int)-1=(n:Int)by omega,wq ((n:Int)) (by omega) (by omega)]
theorem yST {P:Int→dA→Prop} {K:Int} (hP: ∀k a,P k a→ydJ a∧yaV a) (hT: ∀k a b,P k a→Turned a b→k+16≤K→P (k+16) b) (h0P: ∀id g,ye g=true→1≤id→id≤60000→P 0 (ysY id g))
  (u:dU) (most:Int) (h:yx u) (h0:0≤most) (h1:most≤1000) (hm:16*most≤K): ∃(a:dA) (u':dU) (k:Int),ydY u most=some ((a,()),(u',()))∧P k a∧k≤16*most∧yx u':=by
 obtain⟨r1,u1,e1,q1,d1⟩:=yu u 2 h;obtain⟨g,u2,e2,q2,d2⟩:=yTN u1 d1;obtain⟨r3,u3,e3,q3,d3⟩:=yu u2 (most+1) d2;have:=q1.1; have:=q1.2.1 (by omega); have:=q3.1; have:=q3.2.1 (by omega);have hn:=h0P (1+r1) g q2 (by omega) (by omega);obtain⟨a',u',e4,d4,h4⟩:=yPN hP hT r3.toNat 0 (ysY (1+r1) g) u3 18446744073709551616 (by omega) (by omega) d3 hn (by omega);rw[show((r3.toNat:Nat):Int)=r3 by omega]at e4;unfold ydY;simp only[e1,e2,zkH,wq (most+1) (by omega) (by omega),e3,wq (1+r1) (by omega) (by omega),yiW];refine⟨a',u',_,?_,h4,by omega,d4⟩;exact(congrArg (fun z=>zkt z _ _) (show ynJ (yF5 r3 ycX (ysY (1+r1) g) u3)=_ from e4)).trans rfl
theorem yTh (u:dU) (most:Int) (h:yx u) (h0:0≤most) (h1:most≤1000): ∃(a:dA) (u':dU),ydY u most=some ((a,()),(u',()))∧Wk 16000 a∧yx u':=by
 obtain⟨a,u',k,e,q,hk,d⟩:=yST (P:=fun k a=>Wk k a∧k≤16000) (K:=16000) (fun k a h=>⟨h.1.1,h.1.2.1⟩) (fun k a b h ht hk=>⟨ycR (yTE h.1 ht (by omega)) (by omega),by omega⟩) (fun id g h1 h2 h3=>⟨yUz h1 h2 h3,by omega⟩) u most h h0 h1 (by omega);exact⟨a,u',e,ycR q.1 (by omega),d⟩
def yoN:Code:=(f154.body).getD .skip
def ywZ:Env:=zkw TT [(72,yr),(120,ypZ)] []
theorem yLo:FrOk prog ⟨ywZ,18,fun _=>none⟩ yoN:=zkA mixed yd ⟨yD,yBn,trivial⟩
def yAQ:Nat→Option Seg:=fun _=>none
def ycn:Shape:=⟨[(0,false,[.ptr 1000000000 0]),(3,false,[.at 800000000]),(4,false,[.int .i64])],[(1000000000,[.fz tY,.int .i64,.int .i64])],[(800000000,tI,.fz)]⟩
def ygh:Shape:=⟨[(0,false,[.ptr 1000000000 0]),(3,false,[.at 800000000]),(4,false,[.int .i64])],[(1000000000,[.fz tY,.int .i64,.int .i64])],[(800000000,tI,.fz)]⟩
def yf3:Shape:=⟨[(3,false,[.at 800000000])],[(1000000000,[.fz tY,.int .i64,.int .i64])],[(800000000,tI,.fz)]⟩
def yj3:Shape:=⟨[],[],[]⟩
abbrev yn6 (v0:Int) (v1:dU) (v2:List Int):(ycn).X:=((((),()),((),()),(v0,()),()),((v1.1,v1.2.1,v1.2.2,()),()),(v2,()))
abbrev yIx (v0:Int) (v1:dU) (v2:List Int):(ygh).X:=((((),()),((),()),(v0,()),()),((v1.1,v1.2.1,v1.2.2,()),()),(v2,()))
abbrev yIn (v0:dU) (v1:List Int):(yf3).X:=((((),()),()),((v0.1,v0.2.1,v0.2.2,()),()),(v1,()))
def yoB (v0:Int) (v1:List Int) (v2 v3:Int) (v4:List Int):Option ((ycn).X ⊕ ((yf3).X ⊕ (yj3).X)) :=bif(ltb 0 v0)then bnd (yW (v1,v2,v3)) fun r3 =>bif(zkl v4.length ([r3.1.1]:List Int).length 8)then some (.inl ((((),()),((),()),((i64.wrap (v0-1)),()),()),((r3.2.1.1,r3.2.1.2.1,r3.2.1.2.2,()),()),((v4++([r3.1.1]:List Int)),()))) else none else some (.inr (.inl ((((),()),()),((v1,v2,v3,()),()),(v4,()))))
def ycL (x:(ycn).X):=yoB x.1.2.2.1.1 x.2.1.1.1 x.2.1.1.2.1 x.2.1.1.2.2.1 x.2.2.1
def yyf (x:(ygh).X):(ycn).X:=((((),()),((),()),(x.1.2.2.1.1,()),()),((x.2.1.1.1,x.2.1.1.2.1,x.2.1.1.2.2.1,()),()),(x.2.2.1,()))
def yzD:Code:=(zd7 yoN 64 116).getD .skip
theorem yKP:zd7 yoN 64 29=some (.block 0 (.loop yzD)):=by kernel_rfl
theorem yNj (x:(ycn).X):zhu ⟨ywZ,18,yAQ⟩ 0 yzD 116 ycn yf3 yj3 x=ycL x:=by kernel_rfl
def yyt (x:(ygh).X):Nat:=18446744073709551616
def ype (x:(ygh).X):Option ((yf3).X ⊕ (yj3).X):=zF ycL (yyt x) (yyf x)
def yy8:Seg:=⟨ygh,yf3,yj3,ype⟩
def yNO:Nat→Option Seg:=fun q=>bif Nat.beq q 29 then some yy8 else yAQ q
theorem yLp:FrOk prog ⟨ywZ,18,yNO⟩ yoN:=(yLo).loop (sg:=yy8) ycn yyf (by decide) yKP ycL yyt (by decide) (fun _=>rfl) (fun x r _ h=>h) yNj
abbrev yxc:List Par:= [.pt tU .fz]
abbrev yxv:List OT:= [⟨false,tL,(.ow .fz)⟩]
def ydl (a0:dU):Option (zaY yxv×zak yxc) :=bnd (yb a0 5) fun r1 =>zkt (ype ((((),()),((),()),(r1.1.1,()),()),((r1.2.1.1,r1.2.1.2.1,r1.2.1.2.2,()),()),(([]:List Int),()))) (fun y3 =>some ((y3.2.2.1,()),((y3.2.1.1.1,y3.2.1.1.2.1,y3.2.1.1.2.2.1),()))) (fun y3 =>none)
theorem yO3:ConOk prog 154 ⟨yxc,yxv,fun x=>ydl x.1⟩:=zkI (yLp) func154 ntmps154.symm fun x=>by kernel_rfl
def ylO:Con:=⟨yxc,yxv,fun x=>ydl x.1⟩
theorem yva:ConOk prog 154 ylO:=yO3
theorem yPK: ∀(n:Nat) (u:dU) (l:List Int) (fuel:Nat),n<fuel→yx u→n+l.length≤1000 →
  ∃(u':dU) (l':List Int),zF ycL fuel (yn6 n u l)=some (.inl (yIn u' l'))∧yx u'∧l'.length=n+l.length
 | 0,u,l,fuel+1,_,hu,_=>⟨u,l,by simp only[zF,ycL,yn6,yoB]; rfl,hu,by omega⟩
 | n+1,u,l,fuel+1,hf,hu,hl=>by
  obtain⟨x,u1,e1,_,d1⟩:=ySF u hu;obtain⟨u',l',e2,d2,h2⟩:=yPK n u1 (l++ [x]) fuel (by omega) d1 (by rw[List.length_append]; simp only[List.length_cons,List.length_nil]; omega);refine⟨u',l',?_,d2,by rw[h2,List.length_append]; simp only[List.length_cons,List.length_nil]; omega⟩;rw[← e2,zF]
  simp only[ycL,yn6,yoB,zky (show(0:Int)<((n+1:Nat):Int)by omega),cond_true,zkX,e1,zkH,show((n+1:Nat):Int)-1=(n:Int)by omega,wq ((n:Int)) (by omega) (by omega),
   zkF.2 (show(l.length+ [x].length)*8≤140737488355328 by simp only[List.length_cons,List.length_nil]; omega)]
theorem yHp (u:dU) (h:yx u): ∃(l:List Int) (u':dU),ydl u=some ((l,()),(u',()))∧l.length≤4∧yx u':=by
 obtain⟨r1,u1,e1,q1,d1⟩:=yu u 5 h;have:=q1.1; have:=q1.2.1 (by omega);obtain⟨u',l',e2,d2,h2⟩:=yPK r1.toNat u1 [] 18446744073709551616 (by omega) d1 (by simp only[List.length_nil]; omega);rw[show((r1.toNat:Nat):Int)=r1 by omega]at e2;unfold ydl;simp only[e1,zkH];refine⟨l',u',?_,by rw[h2]; simp only[List.length_nil]; omega,d2⟩;exact(congrArg (fun z=>zkt z _ _) (show ype (yIx r1 u1 [])=_ from e2)).trans rfl
def yRx:Code:=(f153.body).getD .skip
def yRL:Env:=zkw TT [(72,yr),(80,yb1),(154,ylO)] []
theorem yLk:FrOk prog ⟨yRL,23,fun _=>none⟩ yRx:=zkA mixed yd ⟨yD,yd6,yva,trivial⟩
abbrev yxa:List Par:= [.pt tU .fz]
abbrev yxs:List OT:= [⟨false,tL,(.ow .fz)⟩]
def ydk (a0:dU):Option (zaY yxs×zak yxa) :=bnd (ydl a0) fun r1 =>bnd (yb r1.2.1 10) fun r2 =>bif(r2.1.1==0)then bnd (yp r2.2.1 ([(-1),65536]:List Int)) fun r3 =>bif(zkl r1.1.1.length ([r3.1.1]:List Int).length 8)then some (((r1.1.1++([r3.1.1]:List Int)),()),(r3.2.1,())) else none else bif(r2.1.1==1)then bnd (yb r2.2.1 2) fun r4 =>bif(zks (i64.wrap (12+r4.1.1)) 8)then some (((List.replicate ((i64.wrap (12+r4.1.1))).toNat (0:Int)),()),(r4.2.1,())) else none else some ((r1.1.1,()),(r2.2.1,()))
theorem yO0:ConOk prog 153 ⟨yxa,yxs,fun x=>ydk x.1⟩:=zkI (yLk) func153 ntmps153.symm fun x=>by kernel_rfl
def ysj:Con:=⟨yxa,yxs,fun x=>ydk x.1⟩
theorem yB9:ConOk prog 153 ysj:=yO0
theorem yHo (u:dU) (h:yx u): ∃(l:List Int) (u':dU),ydk u=some ((l,()),(u',()))∧l.length≤14∧yx u':=by
 unfold ydk;obtain⟨l,u1,e1,q1,d1⟩:=yHp u h;obtain⟨r,u2,e2,q2,d2⟩:=yu u1 10 d1;simp only[e1,e2,zkH];cases(r==0)
 ·cases(r==1)
  ·exact⟨_,_,rfl,by omega,d2⟩
  ·obtain⟨r3,u3,e3,q3,d3⟩:=yu u2 2 d2
   have:=q3.1; have:=q3.2.1 (by omega);have hm:zks (i64.wrap (12+r3)) 8=true:=by rw[wr (by omega) (by omega),zkM]; omega
   simp only[cond_true,cond_false,e3,zkH,hm];exact⟨_,_,rfl,by simp only[List.length_replicate]; rw[wr (by omega) (by omega)]; omega,d3⟩
 ·obtain⟨r3,u3,e3,q3,d3⟩:=yhH u2 [(-1),65536] d2 (by simp)
  simp only[cond_true,e3,zkH];rw[zkF.2 (show(l.length+ [r3].length)*8≤140737488355328 by simp only[List.length_cons,List.length_nil]; omega)];exact⟨_,_,rfl,by simp only[List.length_append,List.length_cons,List.length_nil]; omega,d3⟩
def ym5:Code:=(f197.body).getD .skip
def yt5:Env:=zkw TT [(72,yr),(112,yhh),(154,ylO),(177,ykc),(224,ymj),(225,ymm)] []
theorem yHS:FrOk prog ⟨yt5,43,fun _=>none⟩ ym5:=zkA mixed yd ⟨yD,yoc,yva,ysu,yyI,yyL,trivial⟩
def yzl:Nat→Option Seg:=fun _=>none
def ybQ:Shape:=⟨[(0,false,[.ptr 1000000000 0]),(2,false,[.ptr 0 0]),(3,false,[.ptr 4352 0]),(4,false,[.int .i64])],[(0,[.nil,.nil,.bool,.nil]),(4352,[.at 800000000,.at 800000001,.bool,.at 800000002]),(1000000000,[.fz tY,.int .i64,.int .i64])],[(800000000,tL,.fz),(800000001,tW,(.pr .fz .fz)),(800000002,tI,.fz)]⟩
def yfg:Shape:=⟨[(0,false,[.ptr 1000000000 0]),(2,false,[.ptr 0 0]),(3,false,[.ptr 4352 0]),(4,false,[.int .i64])],[(0,[.nil,.nil,.bool,.nil]),(4352,[.at 800000000,.at 800000001,.bool,.at 800000002]),(1000000000,[.fz tY,.int .i64,.int .i64])],[(800000000,tL,.fz),(800000001,tW,(.pr .fz .fz)),(800000002,tI,.fz)]⟩
def ye5:Shape:=⟨[(2,false,[.ptr 0 0]),(3,false,[.ptr 4352 0])],[(0,[.nil,.nil,.bool,.nil]),(4352,[.at 800000000,.at 800000001,.bool,.at 800000002]),(1000000000,[.fz tY,.int .i64,.int .i64])],[(800000000,tL,.fz),(800000001,tW,(.pr .fz .fz)),(800000002,tI,.fz)]⟩
def yim:Shape:=⟨[],[],[]⟩
abbrev yeE (v0:Int) (v1 v2:dM) (v3:dU):(ybQ).X:=((((),()),((),()),((),()),(v0,()),()),(((),(),v1.2.2.1,(),()),((),(),v2.2.2.1,(),()),(v3.1,v3.2.1,v3.2.2,()),()),(v2.1,v2.2.1,v2.2.2.2,()))
abbrev yF3 (v0:Int) (v1 v2:dM) (v3:dU):(yfg).X:=((((),()),((),()),((),()),(v0,()),()),(((),(),v1.2.2.1,(),()),((),(),v2.2.2.1,(),()),(v3.1,v3.2.1,v3.2.2,()),()),(v2.1,v2.2.1,v2.2.2.2,()))
abbrev yFU (v0 v1:dM) (v2:dU):(ye5).X:=((((),()),((),()),()),(((),(),v0.2.2.1,(),()),((),(),v1.2.2.1,(),()),(v2.1,v2.2.1,v2.2.2,()),()),(v1.1,v1.2.1,v1.2.2.2,()))
def ymU (v0:Int) (v1 v2:Bool) (v3:List Int) (v4 v5:Int) (v6:List (List Int)) (v7:List dW) (v8:List Int):Option ((ybQ).X ⊕ ((ye5).X ⊕ (yim).X)) :=bif(ltb 0 v0)then bnd (yb (v3,v4,v5) 6) fun r11 =>bif(r11.1.1==0)then let r12:=ycw (v6,v7,v2,v8);some (.inl ((((),()),((),()),((),()),((i64.wrap (v0-1)),()),()),(((),(),v1,(),()),((),(),r12.2.2.1,(),()),(r11.2.1.1,r11.2.1.2.1,r11.2.1.2.2,()),()),(r12.1,r12.2.1,r12.2.2.2,()))) else bif(r11.1.1==1)then bnd (yb r11.2.1 (v6.length:Int)) fun r13 =>let r14:=ybn (v6,v7,v2,v8) r13.1.1;some (.inl ((((),()),((),()),((),()),((i64.wrap (v0-1)),()),()),(((),(),v1,(),()),((),(),r14.2.2.1,(),()),(r13.2.1.1,r13.2.1.2.1,r13.2.1.2.2,()),()),(r14.1,r14.2.1,r14.2.2.2,()))) else bnd (yb r11.2.1 (v6.length:Int)) fun r15 =>bnd (ydl r15.2.1) fun r16 =>let r17:=ycy (v6,v7,v2,v8) r15.1.1 r16.1.1;some (.inl ((((),()),((),()),((),()),((i64.wrap (v0-1)),()),()),(((),(),v1,(),()),((),(),r17.1.2.2.1,(),()),(r16.2.1.1,r16.2.1.2.1,r16.2.1.2.2,()),()),(r17.1.1,r17.1.2.1,r17.1.2.2.2,()))) else some (.inr (.inl ((((),()),((),()),()),(((),(),v1,(),()),((),(),v2,(),()),(v3,v4,v5,()),()),(v6,v7,v8,()))))
def yaS (x:(ybQ).X):=ymU x.1.2.2.2.1.1 x.2.1.1.2.2.1 x.2.1.2.1.2.2.1 x.2.1.2.2.1.1 x.2.1.2.2.1.2.1 x.2.1.2.2.1.2.2.1 x.2.2.1 x.2.2.2.1 x.2.2.2.2.1
def yvX (x:(yfg).X):(ybQ).X:=((((),()),((),()),((),()),(x.1.2.2.2.1.1,()),()),(((),(),x.2.1.1.2.2.1,(),()),((),(),x.2.1.2.1.2.2.1,(),()),(x.2.1.2.2.1.1,x.2.1.2.2.1.2.1,x.2.1.2.2.1.2.2.1,()),()),(x.2.2.1,x.2.2.2.1,x.2.2.2.2.1,()))
def yxK:Code:=(zd7 ym5 64 116).getD .skip
theorem yHg:zd7 ym5 64 29=some (.block 0 (.loop yxK)):=by kernel_rfl
theorem yJW (x:(ybQ).X):zhu ⟨yt5,43,yzl⟩ 0 yxK 116 ybQ ye5 yim x=yaS x:=by kernel_rfl
def yv8 (x:(yfg).X):Nat:=18446744073709551616
def ynH (x:(yfg).X):Option ((ye5).X ⊕ (yim).X):=zF yaS (yv8 x) (yvX x)
def yws:Seg:=⟨yfg,ye5,yim,ynH⟩
def yKm:Nat→Option Seg:=fun q=>bif Nat.beq q 29 then some yws else yzl q
theorem yHT:FrOk prog ⟨yt5,43,yKm⟩ ym5:=(yHS).loop (sg:=yws) ybQ yvX (by decide) yHg yaS yv8 (by decide) (fun _=>rfl) (fun x r _ h=>h) yJW
abbrev yur:List Par:= [.pt tU .fz]
abbrev yuR:List OT:= [⟨false,tM,(.pr (.ow .fz) (.pr (.ow (.pr .fz .fz)) (.pr .fz (.ow .fz))))⟩]
def ygQ (a0:dU):Option (zaY yuR×zak yur) :=bnd (yb a0 5) fun r1 =>let r2:=yaU (i64.wrap (3+r1.1.1));bnd (yb r1.2.1 8) fun r3 =>zkt (ynH ((((),()),((),()),((),()),(r3.1.1,()),()),(((),(),false,(),()),((),(),r2.2.2.1,(),()),(r3.2.1.1,r3.2.1.2.1,r3.2.1.2.2,()),()),(r2.1,r2.2.1,r2.2.2.2,()))) (fun y17 =>some (((y17.2.2.1,y17.2.2.2.1,y17.2.1.2.1.2.2.1,y17.2.2.2.2.1),()),((y17.2.1.2.2.1.1,y17.2.1.2.2.1.2.1,y17.2.1.2.2.1.2.2.1),()))) (fun y17 =>none)
theorem yMC:ConOk prog 197 ⟨yur,yuR,fun x=>ygQ x.1⟩:=zkI (yHT) func197 ntmps197.symm fun x=>by kernel_rfl
def yzR:Con:=⟨yur,yuR,fun x=>ygQ x.1⟩
theorem yPn:ConOk prog 197 yzR:=yMC
theorem yPM: ∀(n:Nat) (m:dM) (u:dU) (fuel:Nat),n<fuel→n≤1000→yx u→yq m=true →
  ∃(m':dM) (u':dU),zF yaS fuel (yeE n yc m u)=some (.inl (yFU yc m' u'))∧yx u'∧yq m'=true
 | 0,m,u,fuel+1,_,_,hu,h=>⟨m,u,by simp only[zF,yaS,yeE,ymU]; rfl,hu,h⟩
 | n+1,m,u,fuel+1,hf,hn,hu,h=>by
  have hlen:=(yak h).2.2.2
  have key: ∃(m1:dM) (u1:dU),yaS (yeE ((n+1:Nat):Int) yc m u)=some (.inl (yeE (n:Int) yc m1 u1))∧yx u1∧yq m1=true:=by
   obtain⟨r,u1,e1,_,d1⟩:=yu u 6 hu;simp only[yaS,yeE,ymU,zky (show(0:Int)<((n+1:Nat):Int)by omega),cond_true,zkX,e1,zkH,show((n+1:Nat):Int)-1=(n:Int)by omega,wq ((n:Int)) (by omega) (by omega)];cases(r==0)
   ·obtain⟨i,u2,e2,q2,d2⟩:=yu u1 (m.1.length:Int) d1
    cases(r==1)
    ·obtain⟨s,u3,e3,_,d3⟩:=yHp u2 d2
     simp only[cond_false,e2,zkH,e3,ycy];exact⟨(yd9 m i s).1,u3,rfl,d3,yJ3 i s h⟩
    ·simp only[cond_false,cond_true,e2,zkH,ybn]
     exact⟨spoil m i,u2,rfl,d2,yJ2 i h⟩
   ·simp only[cond_true,ycw]
    exact⟨ydg m,u1,rfl,d1,yHr h⟩
  obtain⟨m1,u1,e1,d1,h1⟩:=key;obtain⟨m',u',e2,d2,h2⟩:=yPM n m1 u1 fuel (by omega) (by omega) d1 h1;exact⟨m',u',by rw[← e2,zF,e1],d2,h2⟩
theorem yTe (u:dU) (h:yx u): ∃(m:dM) (u':dU),ygQ u=some ((m,()),(u',()))∧yq m=true∧yx u':=by
 obtain⟨r1,u1,e1,q1,d1⟩:=yu u 5 h;obtain⟨r3,u3,e3,q3,d3⟩:=yu u1 8 d1;have:=q1.1; have:=q1.2.1 (by omega); have:=q3.1; have:=q3.2.1 (by omega);obtain⟨m',u',e4,d4,h4⟩:=yPM r3.toNat (yc9 (3+r1)) u3 18446744073709551616 (by omega) (by omega) d3 (yPT (by omega) (by omega));rw[show((r3.toNat:Nat):Int)=r3 by omega]at e4;unfold ygQ;simp only[e1,e3,zkH,wq (3+r1) (by omega) (by omega),yaU];refine⟨m',u',?_,h4,d4⟩;exact(congrArg (fun z=>zkt z _ _) (show ynH (yF3 r3 yc (yc9 (3+r1)) u3)=_ from e4)).trans rfl
def yoO:Code:=(f146.body).getD .skip
def yw0:Env:=zkw TT [(72,yr),(80,yb1),(143,ynT),(153,ysj),(197,yzR)] [(25088,(.pr .fz .fz)),(53440,(.pr .fz .fz)),(61440,.fz)]
theorem yLq:FrOk prog ⟨yw0,62,fun _=>none⟩ yoO:=zkA mixed yd ⟨yD,yd6,yz9,yB9,yPn,trivial⟩
def yAR:Nat→Option Seg:=fun _=>none
def yaP:Shape:=⟨[(0,false,[.ptr 1000000000 0]),(2,false,[.ptr 0 0]),(3,false,[.ptr 4224 0])],[(0,[.nil,.nil,.bool,.nil]),(4224,[.at 800000000,.at 800000001,.bool,.at 800000002]),(1000000000,[.fz tY,.int .i64,.int .i64])],[(800000000,tL,.fz),(800000001,tW,(.pr .fz .fz)),(800000002,tI,.fz)]⟩
def ydF:Shape:=⟨[(0,false,[.ptr 1000000000 0]),(2,false,[.ptr 0 0]),(3,false,[.ptr 4224 0])],[(0,[.nil,.nil,.bool,.nil]),(4224,[.at 800000000,.at 800000001,.bool,.at 800000002]),(1000000000,[.fz tY,.int .i64,.int .i64])],[(800000000,tL,.fz),(800000001,tW,(.pr .fz .fz)),(800000002,tI,.fz)]⟩
def ydx:Shape:=⟨[(2,false,[.ptr 0 0]),(3,false,[.ptr 4224 0])],[(0,[.nil,.nil,.bool,.nil]),(4224,[.at 800000000,.at 800000001,.bool,.at 800000002]),(1000000000,[.fz tY,.int .i64,.int .i64])],[(800000000,tL,.fz),(800000001,tW,(.pr .fz .fz)),(800000002,tI,.fz)]⟩
def ygy:Shape:=⟨[],[],[]⟩
abbrev yfF (v0 v1:dM) (v2:dU):(yaP).X:=((((),()),((),()),((),()),()),(((),(),v0.2.2.1,(),()),((),(),v1.2.2.1,(),()),(v2.1,v2.2.1,v2.2.2,()),()),(v1.1,v1.2.1,v1.2.2.2,()))
abbrev yCC (v0 v1:dM) (v2:dU):(ydF).X:=((((),()),((),()),((),()),()),(((),(),v0.2.2.1,(),()),((),(),v1.2.2.1,(),()),(v2.1,v2.2.1,v2.2.2,()),()),(v1.1,v1.2.1,v1.2.2.2,()))
abbrev yCu (v0 v1:dM) (v2:dU):(ydx).X:=((((),()),((),()),()),(((),(),v0.2.2.1,(),()),((),(),v1.2.2.1,(),()),(v2.1,v2.2.1,v2.2.2,()),()),(v1.1,v1.2.1,v1.2.2.2,()))
def yfH (v0 v1:Bool) (v2:List Int) (v3 v4:Int) (v5:List (List Int)) (v6:List dW) (v7:List Int):Option ((yaP).X ⊕ ((ydx).X ⊕ (ygy).X)) :=bnd (yb (v2,v3,v4) 3) fun r9 =>bif(ltb (v6.length:Int) (i64.wrap (59+r9.1.1)))then bif(zkl v6.length ([(0,[])]:List dW).length 32)then some (.inl ((((),()),((),()),((),()),()),(((),(),v0,(),()),((),(),v1,(),()),(r9.2.1.1,r9.2.1.2.1,r9.2.1.2.2,()),()),(v5,(v6++([(0,[])]:List dW)),v7,()))) else none else some (.inr (.inl ((((),()),((),()),()),(((),(),v0,(),()),((),(),v1,(),()),(r9.2.1.1,r9.2.1.2.1,r9.2.1.2.2,()),()),(v5,v6,v7,()))))
def yac (x:(yaP).X):=yfH x.2.1.1.2.2.1 x.2.1.2.1.2.2.1 x.2.1.2.2.1.1 x.2.1.2.2.1.2.1 x.2.1.2.2.1.2.2.1 x.2.2.1 x.2.2.2.1 x.2.2.2.2.1
def yq6 (x:(ydF).X):(yaP).X:=((((),()),((),()),((),()),()),(((),(),x.2.1.1.2.2.1,(),()),((),(),x.2.1.2.1.2.2.1,(),()),(x.2.1.2.2.1.1,x.2.1.2.2.1.2.1,x.2.1.2.2.1.2.2.1,()),()),(x.2.2.1,x.2.2.2.1,x.2.2.2.2.1,()))
def ys7:Code:=(zd7 yoO 64 241656).getD .skip
theorem yC7:zd7 yoO 64 60414=some (.block 1 (.loop ys7)):=by kernel_rfl
theorem yEy (x:(yaP).X):zhu ⟨yw0,62,yAR⟩ 1 ys7 241656 yaP ydx ygy x=yac x:=by kernel_rfl
def yrf (x:(ydF).X):Nat:=18446744073709551616
def yky (x:(ydF).X):Option ((ydx).X ⊕ (ygy).X):=zF yac (yrf x) (yq6 x)
def yrt:Seg:=⟨ydF,ydx,ygy,yky⟩
def yNP:Nat→Option Seg:=fun q=>bif Nat.beq q 60414 then some yrt else yAR q
theorem yLr:FrOk prog ⟨yw0,62,yNP⟩ yoO:=(yLq).loop (sg:=yrt) yaP yq6 (by decide) yC7 yac yrf (by decide) (fun _=>rfl) (fun x r _ h=>h) yEy
abbrev yxd:List Par:= [.pt tU .fz]
abbrev yxw:List OT:= [⟨false,tM,(.pr (.ow .fz) (.pr (.ow (.pr .fz .fz)) (.pr .fz (.ow .fz))))⟩]
def yh2 (a0:dU):Option (zaY yxw×zak yxd) :=bnd (ygQ a0) fun r1 =>bnd (yb r1.2.1 14) fun r2 =>bif(r2.1.1==0)then bnd (ydk r2.2.1) fun r3 =>bif(inb 0 r1.1.1.1.length)then some ((((r1.1.1.1.set (0:Int).toNat r3.1.1),r1.1.1.2),()),(r3.2.1,())) else none else bif(r2.1.1==1)then bnd (yp r2.2.1 ([(-1),0,9]:List Int)) fun r4 =>bnd (ydk r4.2.1) fun r5 =>bif(zkl r1.1.1.2.1.length ([(r4.1.1,r5.1.1)]:List dW).length 32)then some (((r1.1.1.1,(r1.1.1.2.1++([(r4.1.1,r5.1.1)]:List dW)),r1.1.1.2.2),()),(r5.2.1,())) else none else bif(r2.1.1==2)then bnd (yp r2.2.1 ([(-1),0,9]:List Int)) fun r6 =>bif(zkl r1.1.1.2.2.2.length ([r6.1.1]:List Int).length 8)then some (((r1.1.1.1,r1.1.1.2.1,r1.1.1.2.2.1,(r1.1.1.2.2.2++([r6.1.1]:List Int))),()),(r6.2.1,())) else none else bif(r2.1.1==3)then let r7:=yhN r1.1.1;some ((r7,()),(r2.2.1,())) else bif(r2.1.1==4)then zkt (yky ((((),()),((),()),((),()),()),(((),(),false,(),()),((),(),r1.1.1.2.2.1,(),()),(r2.2.1.1,r2.2.1.2.1,r2.2.1.2.2,()),()),(r1.1.1.1,r1.1.1.2.1,r1.1.1.2.2.2,()))) (fun y9 =>some (((y9.2.2.1,y9.2.2.2.1,y9.2.1.2.1.2.2.1,y9.2.2.2.2.1),()),((y9.2.1.2.2.1.1,y9.2.1.2.2.1.2.1,y9.2.1.2.2.1.2.2.1),()))) (fun y9 =>none) else bif(r2.1.1==5)then some (((([]:List (List Int)),r1.1.1.2),()),(r2.2.1,())) else some ((r1.1.1,()),(r2.2.1,()))
theorem yO4:ConOk prog 146 ⟨yxd,yxw,fun x=>yh2 x.1⟩:=zkI (yLr) func146 ntmps146.symm fun x=>by kernel_rfl
def yA2:Con:=⟨yxd,yxw,fun x=>yh2 x.1⟩
theorem yRb:ConOk prog 146 yA2:=yO4
theorem yPL: ∀(n:Nat) (m:dM) (u:dU) (fuel:Nat),n<fuel→yx u→m.2.1.length+n=62∨(n=0∧61≤m.2.1.length∧m.2.1.length≤100) →
  ∃(m':dM) (u':dU),zF yac fuel (yfF yc m u)=some (.inl (yCu yc m' u'))∧yx u'∧m'.1=m.1∧m'.2.1.length≤100
 | 0,m,u,fuel+1,_,hu,hn=>by
  obtain⟨r,u1,e1,q1,d1⟩:=yu u 3 hu;have:=q1.1; have:=q1.2.1 (by omega);refine⟨m,u1,?_,d1,rfl,by omega⟩;rw[zF];simp only[yac,yfF,yfH,zkX,e1,zkH,wq (59+r) (by omega) (by omega),zk3 (show 59+r≤(m.2.1.length:Int)by omega),cond_false]
 | n+1,m,u,fuel+1,hf,hu,hn=>by
  obtain⟨r,u1,e1,q1,d1⟩:=yu u 3 hu;have:=q1.1; have:=q1.2.1 (by omega);by_cases hlt:(m.2.1.length:Int)<59+r
  ·obtain⟨m',u',e2,d2,l2⟩:=yPL n (m.1,m.2.1++ [(0,[])],m.2.2) u1 fuel (by omega) d1 (.inl (by
    show(m.2.1++ [((0:Int),([]:List Int))]).length+n=62
    rw[List.length_append]; simp only[List.length_cons,List.length_nil]; omega))
   refine⟨m',u',?_,d2,l2⟩;rw[← e2,zF];simp only[yac,yfF,yfH,zkX,e1,zkH,wq (59+r) (by omega) (by omega),zky hlt,cond_true,zkF.2 (show(m.2.1.length+ [((0:Int),([]:List Int))].length)*32≤140737488355328 by simp only[List.length_cons,List.length_nil]; omega)]
  ·refine⟨m,u1,?_,d1,rfl,by omega⟩
   rw[zF];simp only[yac,yfF,yfH,zkX,e1,zkH,wq (59+r) (by omega) (by omega),zk3 (show 59+r≤(m.2.1.length:Int)by omega),cond_false]
theorem yTM (u:dU) (h:yx u): ∃(m:dM) (u':dU),yh2 u=some ((m,()),(u',()))∧(m.1.length≤100∧m.2.1.length≤100)∧yx u':=by
 unfold yh2;obtain⟨m,u1,e1,q1,d1⟩:=yTe u h;obtain⟨r,u2,e2,_,d2⟩:=yu u1 14 d1;obtain⟨h1,h2,h3,h4,h5,h6⟩:=yak q1;rw[yh9]at h3;have hlen:=yAX h3.2 (lo:=0) (n:=m.1.length) h3.1 (by omega);simp only[e1,e2,zkH];cases(r==0)
 ·cases(r==1)
  ·cases(r==2)
   ·cases(r==3)
    ·cases(r==4)
     ·cases(r==5)
      ·exact⟨_,_,rfl,by omega,d2⟩
      ·exact⟨_,_,rfl,⟨Nat.zero_le _,by show m.2.1.length≤100; omega⟩,d2⟩
     ·obtain⟨m',u',e3,d3,l3,l4⟩:=yPL (62-m.2.1.length) m u2 18446744073709551616 (by omega) d2 (.inl (by omega))
      simp only[cond_true,cond_false];refine⟨m',u',?_,⟨by rw[l3]; omega,l4⟩,d3⟩;exact(congrArg (fun z=>zkt z _ _) (show yky (yCC yc m u2)=_ from e3)).trans rfl
    ·exact⟨_,_,rfl,⟨by show m.1.length≤100; omega,Nat.zero_le _⟩,d2⟩
   ·obtain⟨x,u3,e3,_,d3⟩:=yhH u2 [(-1),0,9] d2 (by simp)
    simp only[cond_true,cond_false,e3,zkH];rw[zkF.2 (show(m.2.2.2.length+ [x].length)*8≤140737488355328 by simp only[List.length_cons,List.length_nil]; omega)];exact⟨_,_,rfl,⟨by show m.1.length≤100; omega,by show m.2.1.length≤100; omega⟩,d3⟩
  ·obtain⟨x,u3,e3,_,d3⟩:=yhH u2 [(-1),0,9] d2 (by simp)
   obtain⟨l,u4,e4,_,d4⟩:=yHo u3 d3;simp only[cond_true,cond_false,e3,zkH,e4];rw[zkF.2 (show(m.2.1.length+ [(x,l)].length)*32≤140737488355328 by simp only[List.length_cons,List.length_nil]; omega)];exact⟨_,_,rfl,⟨by show m.1.length≤100; omega,by show(m.2.1++ [(x,l)]).length≤100; rw[List.length_append]; simp only[List.length_cons,List.length_nil]; omega⟩,d4⟩
 ·obtain⟨l,u3,e3,_,d3⟩:=yHo u2 d2
  simp only[cond_true,e3,zkH];rw[show inb 0 m.1.length=true from zkR (i:=0) (by omega)];exact⟨_,_,rfl,⟨by show(m.1.set _ _).length≤100; rw[List.length_set]; omega,by show m.2.1.length≤100; omega⟩,d3⟩
def yRA:Code:=(f196.body).getD .skip
def yRO:Env:=zkw TT [(72,yr)] []
theorem yLv:FrOk prog ⟨yRO,10,fun _=>none⟩ yRA:=zkA mixed yd ⟨yD,trivial⟩
abbrev yxf:List Par:= [.pt tU .fz]
abbrev yxz:List OT:= [⟨false,tG,(.pr .fz .fz)⟩]
def yh4 (a0:dU):Option (zaY yxz×zak yxf) :=bnd (yb a0 3) fun r1 =>bnd (yb r1.2.1 8) fun r2 =>some ((((i64.wrap (3+r1.1.1)),(i64.wrap (1+r2.1.1))),()),(r2.2.1,()))
theorem yO7:ConOk prog 196 ⟨yxf,yxz,fun x=>yh4 x.1⟩:=zkI (yLv) func196 ntmps196.symm fun x=>by kernel_rfl
def yA4:Con:=⟨yxf,yxz,fun x=>yh4 x.1⟩
theorem yRd:ConOk prog 196 yA4:=yO7
theorem yUp (u:List Int×Int×Int) (h:yx u): ∃(g:Int×Int) (u':List Int×Int×Int),yh4 u=some ((g,()),(u',()))∧ye g=true∧yx u':=by
 unfold yh4;obtain⟨r1,u1,e1,q1,d1⟩:=yu u 3 h;obtain⟨r2,u2,e2,q2,d2⟩:=yu u1 8 d1;simp only[e1,e2,zkH];refine⟨_,_,rfl,?_,d2⟩;have:=q1.2.1 (by omega); have:=q2.2.1 (by omega); have:=q1.1; have:=q2.1;rw[wr (by omega) (by omega),wr (by omega) (by omega)];exact yk.2 ⟨⟨by show 3≤3+r1; omega,by show 3+r1≤5; omega⟩,by show 1≤1+r2; omega,by show 1+r2≤8; omega⟩
def yRz:Code:=(f155.body).getD .skip
def yRN:Env:=zkw TT [(72,yr),(80,yb1),(196,yA4)] []
theorem yLu:FrOk prog ⟨yRN,21,fun _=>none⟩ yRz:=zkA mixed yd ⟨yD,yd6,yRd,trivial⟩
abbrev yxe:List Par:= [.pt tU .fz]
abbrev yxy:List OT:= [⟨false,tG,(.pr .fz .fz)⟩]
def yh3 (a0:dU):Option (zaY yxy×zak yxe) :=bnd (yh4 a0) fun r1 =>bnd (yb r1.2.1 8) fun r2 =>bif(r2.1.1==0)then bnd (yp r2.2.1 ([0,2,6,(-1)]:List Int)) fun r3 =>some (((r3.1.1,r1.1.1.2),()),(r3.2.1,())) else bif(r2.1.1==1)then bnd (yp r2.2.1 ([0,9,(-1)]:List Int)) fun r4 =>some (((r1.1.1.1,r4.1.1),()),(r4.2.1,())) else some ((r1.1.1,()),(r2.2.1,()))
theorem yO6:ConOk prog 155 ⟨yxe,yxy,fun x=>yh3 x.1⟩:=zkI (yLu) func155 ntmps155.symm fun x=>by kernel_rfl
def yA3:Con:=⟨yxe,yxy,fun x=>yh3 x.1⟩
theorem yRc:ConOk prog 155 yA3:=yO6
def GS (g:dG):Prop:=(-1000≤g.1∧g.1≤1000)∧ -1000≤g.2∧g.2≤1000
theorem yT5 {g:dG} (h:ye g=true):GS g:=by
 have:=yk.1 h;unfold GS;omega
theorem yTf (u:dU) (h:yx u): ∃(g:dG) (u':dU),yh3 u=some ((g,()),(u',()))∧GS g∧yx u':=by
 unfold yh3;obtain⟨g,u1,e1,q1,d1⟩:=yUp u h;obtain⟨r,u2,e2,_,d2⟩:=yu u1 8 d1;have hq:=yT5 q1;simp only[e1,e2,zkH];cases(r==0)
 ·cases(r==1)
  ·exact⟨_,_,rfl,hq,d2⟩
  ·obtain⟨r3,u3,e3,q3,d3⟩:=yhH u2 [0,9,(-1)] d2 (by simp)
   simp only[cond_true,cond_false,e3,zkH];simp only[List.mem_cons,List.not_mem_nil,or_false]at q3;exact⟨_,_,rfl,⟨hq.1,by show -1000≤r3∧r3≤1000; omega⟩,d3⟩
 ·obtain⟨r3,u3,e3,q3,d3⟩:=yhH u2 [0,2,6,(-1)] d2 (by simp)
  simp only[cond_true,e3,zkH];simp only[List.mem_cons,List.not_mem_nil,or_false]at q3;exact⟨_,_,rfl,⟨by show -1000≤r3∧r3≤1000; omega,hq.2⟩,d3⟩
def yRB:Code:=(f86.body).getD .skip
def yRP:Env:=zkw TT [(72,yr),(80,yb1),(113,yay),(124,yzT),(146,yA2),(153,ysj),(154,ylO),(155,yA3)] [(61952,(.pr .fz .fz))]
theorem yLw:FrOk prog ⟨yRP,92,fun _=>none⟩ yRB:=zkA mixed yd ⟨yD,yd6,yb3,yPp,yRb,yB9,yva,yRc,trivial⟩
abbrev yxg:List Par:= [.pt tU .fz,.rd tI]
abbrev yxA:List OT:= [⟨false,tA,(.pr .fz (.pr (.pr .fz .fz) (.pr (.ow (.pr (.ow .fz) (.pr (.ow (.pr .fz .fz)) (.pr .fz (.ow .fz))))) (.pr .fz (.pr .fz (.pr .fz (.pr .fz (.pr .fz (.pr (.ow (.pr .fz .fz)) (.pr .fz (.pr .fz .fz)))))))))))⟩]
def yb5 (a0:dU) (a1:Int):Option (zaY yxA×zak yxg) :=bnd (ydY a0 a1) fun r1 =>bnd (yb r1.2.1 (r1.1.1.2.2.1.length:Int)) fun r2 =>bnd (yb r2.2.1 20) fun r3 =>bif(r3.1.1==0)then bnd (yh2 r3.2.1) fun r4 =>bif(inb r2.1.1 r1.1.1.2.2.1.length)then some (((r1.1.1.1,r1.1.1.2.1,(r1.1.1.2.2.1.set (r2.1.1).toNat r4.1.1),r1.1.1.2.2.2),()),(r4.2.1,())) else none else bif(r3.1.1==1)then bnd (yp r3.2.1 ([(-2),(-1),0,5]:List Int)) fun r5 =>some (((r1.1.1.1,r1.1.1.2.1,r1.1.1.2.2.1,r5.1.1,r1.1.1.2.2.2.2),()),(r5.2.1,())) else bif(r3.1.1==2)then bnd (yp r3.2.1 ([(-1),1,9]:List Int)) fun r6 =>some (((r1.1.1.1,r1.1.1.2.1,r1.1.1.2.2.1,r1.1.1.2.2.2.1,r6.1.1,r1.1.1.2.2.2.2.2),()),(r6.2.1,())) else bif(r3.1.1==3)then bnd (yp r3.2.1 ([(-1),0,9,60000]:List Int)) fun r7 =>some (((r1.1.1.1,r1.1.1.2.1,r1.1.1.2.2.1,r1.1.1.2.2.2.1,r1.1.1.2.2.2.2.1,r7.1.1,r1.1.1.2.2.2.2.2.2),()),(r7.2.1,())) else bif(r3.1.1==4)then bnd (yp r3.2.1 ([(-1),60000,59990,60001]:List Int)) fun r8 =>some (((r1.1.1.1,r1.1.1.2.1,r1.1.1.2.2.1,r1.1.1.2.2.2.1,r1.1.1.2.2.2.2.1,r1.1.1.2.2.2.2.2.1,r1.1.1.2.2.2.2.2.2.1,r8.1.1,r1.1.1.2.2.2.2.2.2.2.2),()),(r8.2.1,())) else bif(r3.1.1==5)then bnd (yb r3.2.1 5) fun r9 =>bnd (ydk r9.2.1) fun r10 =>bif(zkl r1.1.1.2.2.2.2.2.2.2.2.1.length ([((i64.wrap (r9.1.1-1)),r10.1.1)]:List dW).length 32)then some (((r1.1.1.1,r1.1.1.2.1,r1.1.1.2.2.1,r1.1.1.2.2.2.1,r1.1.1.2.2.2.2.1,r1.1.1.2.2.2.2.2.1,r1.1.1.2.2.2.2.2.2.1,r1.1.1.2.2.2.2.2.2.2.1,(r1.1.1.2.2.2.2.2.2.2.2.1++([((i64.wrap (r9.1.1-1)),r10.1.1)]:List dW)),r1.1.1.2.2.2.2.2.2.2.2.2),()),(r10.2.1,())) else none else bif(r3.1.1==6)then some (((r1.1.1.1,r1.1.1.2.1,r1.1.1.2.2.1,r1.1.1.2.2.2.1,r1.1.1.2.2.2.2.1,r1.1.1.2.2.2.2.2.1,r1.1.1.2.2.2.2.2.2.1,r1.1.1.2.2.2.2.2.2.2.1,r1.1.1.2.2.2.2.2.2.2.2.1,r1.1.1.2.2.2.2.2.2.2.2.2.1,r1.1.1.2.2.2.2.2.2.2.2.2.2.1,true),()),(r3.2.1,())) else bif(r3.1.1==7)then bnd (yp r3.2.1 ([(-2),0,1,2,5,1001]:List Int)) fun r11 =>some (((r1.1.1.1,r1.1.1.2.1,r1.1.1.2.2.1,r1.1.1.2.2.2.1,r1.1.1.2.2.2.2.1,r1.1.1.2.2.2.2.2.1,r1.1.1.2.2.2.2.2.2.1,r1.1.1.2.2.2.2.2.2.2.1,r1.1.1.2.2.2.2.2.2.2.2.1,r11.1.1,r1.1.1.2.2.2.2.2.2.2.2.2.2),()),(r11.2.1,())) else bif(r3.1.1==8)then some (((r1.1.1.1,r1.1.1.2.1,r1.1.1.2.2.1,r1.1.1.2.2.2.1,r1.1.1.2.2.2.2.1,r1.1.1.2.2.2.2.2.1,r1.1.1.2.2.2.2.2.2.1,r1.1.1.2.2.2.2.2.2.2.1,r1.1.1.2.2.2.2.2.2.2.2.1,r1.1.1.2.2.2.2.2.2.2.2.2.1,true,r1.1.1.2.2.2.2.2.2.2.2.2.2.2),()),(r3.2.1,())) else bif(r3.1.1==9)then bif(inb r2.1.1 r1.1.1.2.2.1.length)then let r12:=yK 0;bnd (ydl r3.2.1) fun r13 =>bif(inb r12 ((nth r1.1.1.2.2.1 r2.1.1 ([],[],false,[])).1).length)then let r14:=(r1.1.1.2.2.1.set (r2.1.1).toNat ((((nth r1.1.1.2.2.1 r2.1.1 ([],[],false,[])).1).set (r12).toNat r13.1.1),((nth r1.1.1.2.2.1 r2.1.1 ([],[],false,[])).2).1,(((nth r1.1.1.2.2.1 r2.1.1 ([],[],false,[])).2).2).1,(((nth r1.1.1.2.2.1 r2.1.1 ([],[],false,[])).2).2).2));some (((r1.1.1.1,r1.1.1.2.1,r14,r1.1.1.2.2.2),()),(r13.2.1,())) else none else none else bif(r3.1.1==10)then bnd (yh3 r3.2.1) fun r15 =>some (((r1.1.1.1,r15.1.1,r1.1.1.2.2),()),(r15.2.1,())) else some ((r1.1.1,()),(r3.2.1,()))
theorem yO8:ConOk prog 86 ⟨yxg,yxA,fun x=>yb5 x.1 x.2.1⟩:=zkI (yLw) func86 ntmps86.symm fun x=>by kernel_rfl
def ylP:Con:=⟨yxg,yxA,fun x=>yb5 x.1 x.2.1⟩
theorem yvb:ConOk prog 86 ylP:=yO8
theorem yTg (u:dU) (most:Int) (h:yx u) (h0:0≤most) (h1:most≤1000): ∃(a:dA) (u':dU),yb5 u most=some ((a,()),(u',()))∧yg2 a∧GS a.2.1∧yx u':=by
 unfold yb5;obtain⟨a,u1,e1,q1,d1⟩:=yTh u most h h0 h1;have hg:=yk.1 q1.1.1;have hG:GS a.2.1:=yT5 q1.1.1;have hl:=q1.2.1.1.2;have hd:=ytb q1.1.2.2.1 q1.1.1;have hA:yg2 a:=yIf (yIK (yTB q1)) (by omega);have hL: ∀b:dA,b.2.2.1=a.2.2.1→b.2.2.2.2.2.2.2.2.1=a.2.2.2.2.2.2.2.2.1→yg2 b:=fun b e1 e2=>by unfold yg2; rw[e1,e2]; exact hA
 have hS: ∀(m:dM) (k:Nat),m.1.length≤1000000000→m.2.1.length≤1000000000→yg2 (a.1,a.2.1,a.2.2.1.set k m,a.2.2.2):=fun m k g1 g2=>⟨by show(a.2.2.1.set k m).length≤_; rw[List.length_set]; exact hA.1,fun x hx=>by
  rcases List.mem_or_eq_of_mem_set hx with h1 | rfl
  ·exact hA.2.1 x h1
  ·exact⟨g1,g2⟩,hA.2.2⟩
 obtain⟨m,u2,e2,q2,d2⟩:=yu u1 (a.2.2.1.length:Int) d1;obtain⟨r,u3,e3,_,d3⟩:=yu u2 20 d2;have hm:inb m a.2.2.1.length=true:=zj6.2 ⟨q2.1,q2.2.1 (by omega)⟩;simp only[e1,e2,e3,zkH,hm];cases(r==0)
 ·cases(r==1)
  ·cases(r==2)
   ·cases(r==3)
    ·cases(r==4)
     ·cases(r==5)
      ·cases(r==6)
       ·cases(r==7)
        ·cases(r==8)
         ·cases(r==9)
          ·cases(r==10)
           ·exact⟨_,_,rfl,hL _ rfl rfl,hG,d3⟩
           ·obtain⟨g,u4,e4,hG4,d4⟩:=yTf u3 d3
            simp only[cond_true,cond_false,e4,zkH];exact⟨_,_,rfl,hL _ rfl rfl,hG4,d4⟩
          ·obtain⟨l,u4,e4,_,d4⟩:=yHp u3 d3
           have hmi:=zj6.1 hm;have hs:=(q1.2.1.1.1 m.toNat (by omega)).2.1;rw[Int.toNat_of_nonneg hmi.1]at hs;simp only[cond_true,cond_false,e4,zkH,yaZ];rw[show ybG 0=6 from rfl,zj6.2 (show(0:Int)≤6∧(6:Int)<((nth a.2.2.1 m yc).1.length:Int)by omega)];have hnm:=ylX (P:=fun x:dM=>x.1.length≤1000000000∧x.2.1.length≤1000000000) (d:=yc) hm hA.2.1;exact⟨_,_,rfl,hS _ _ (by show((nth a.2.2.1 m yc).1.set _ _).length≤_; rw[List.length_set]; exact hnm.1) hnm.2,hG,d4⟩
         ·exact⟨_,_,rfl,hL _ rfl rfl,hG,d3⟩
        ·obtain⟨x,u4,e4,_,d4⟩:=yhH u3 [(-2),0,1,2,5,1001] d3 (by simp)
         simp only[cond_true,cond_false,e4,zkH];exact⟨_,_,rfl,hL _ rfl rfl,hG,d4⟩
       ·exact⟨_,_,rfl,hL _ rfl rfl,hG,d3⟩
      ·obtain⟨x,u4,e4,_,d4⟩:=yu u3 5 d3
       obtain⟨l,u5,e5,_,d5⟩:=yHo u4 d4;simp only[cond_true,cond_false,e4,zkH,e5];rw[zkF.2 (show(a.2.2.2.2.2.2.2.2.1.length+ [(i64.wrap (x-1),l)].length)*32≤140737488355328 by simp only[List.length_cons,List.length_nil]; omega)];exact⟨_,_,rfl,⟨hA.1,hA.2.1,by show(a.2.2.2.2.2.2.2.2.1++ [(i64.wrap (x-1),l)]).length≤1000000000; rw[List.length_append]; simp only[List.length_cons,List.length_nil]; omega⟩,hG,d5⟩
     ·obtain⟨x,u4,e4,_,d4⟩:=yhH u3 [(-1),60000,59990,60001] d3 (by simp)
      simp only[cond_true,cond_false,e4,zkH];exact⟨_,_,rfl,hL _ rfl rfl,hG,d4⟩
    ·obtain⟨x,u4,e4,_,d4⟩:=yhH u3 [(-1),0,9,60000] d3 (by simp)
     simp only[cond_true,cond_false,e4,zkH];exact⟨_,_,rfl,hL _ rfl rfl,hG,d4⟩
   ·obtain⟨x,u4,e4,_,d4⟩:=yhH u3 [(-1),1,9] d3 (by simp)
    simp only[cond_true,cond_false,e4,zkH];exact⟨_,_,rfl,hL _ rfl rfl,hG,d4⟩
  ·obtain⟨x,u4,e4,_,d4⟩:=yhH u3 [(-2),(-1),0,5] d3 (by simp)
   simp only[cond_true,cond_false,e4,zkH];exact⟨_,_,rfl,hL _ rfl rfl,hG,d4⟩
 ·obtain⟨x,u4,e4,q4,d4⟩:=yTM u3 d3
  simp only[cond_true,e4,zkH];exact⟨_,_,rfl,hS _ _ (by omega) (by omega),hG,d4⟩
theorem yHq (u:dU) (most:Int) (h:yx u) (h0:0≤most) (h1:most≤1000): ∃(a:dA) (u':dU),yb5 u most=some ((a,()),(u',()))∧yg2 a∧yx u':=by
 obtain⟨a,u',e,q,_,d⟩:=yTg u most h h0 h1;exact⟨a,u',e,q,d⟩
end
end Go.Tf
