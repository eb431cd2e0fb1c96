/- Functions of the program, and what they come to. -/
import Derived.Test.YtgmadfpnljibhaaGreatStripesF10
namespace Go.Tf
noncomputable section
open Go.Proofs
set_option synthInstance.maxHeartbeats 400000
set_option synthInstance.maxSize 10000
set_option linter.unusedVariables false
set_option linter.unusedSimpArgs false
set_option maxRecDepth 100000
section
def yFl:Code:=(Tryz.f185.body).getD .skip
def yFX:Env:=zki TT [(146,yvo),(147,ytb),(243,yyT)] [(36928,(.pr .fz .fz))]
theorem yMO:FrOk Tryz.prog ⟨yFX,63,fun _=>none⟩ yFl:=zkp yb yd ⟨yGD,yEH,yLg,trivial⟩
def yOl:Nat→Option Seg:=fun _=>none
abbrev yes:List Par:= [.pt tA (.pr .fz (.pr (.pr .fz .fz) (.pr (.ow (.pr (.ow .fz) (.pr (.ow (.pr .fz .fz)) (.pr .fz (.ow .fz))))) (.pr .fz (.pr .fz (.pr .fz (.pr .fz (.pr .fz (.pr (.ow (.pr .fz .fz)) (.pr .fz (.pr .fz .fz))))))))))),.rd tI]
abbrev yk8:List OT:= [⟨false,tI,.fz⟩]
def ymu (a0:dA) (a1:Int):Option (ResD yk8×MutD yes) :=
 let r1:=yjD a0 a1
 bif (ltb r1 0) then
 some ((0,()),(a0,()))
 else
 bif (inb r1 a0.2.2.2.2.2.2.2.2.1.length) then
 let r2:=yy a0 a1 ((nth a0.2.2.2.2.2.2.2.2.1 r1 (0,[])).2)
 bif (r2 !=0) then
 some ((r2,()),(a0,()))
 else
 bif (inb r1 a0.2.2.2.2.2.2.2.2.1.length) then
 bnd (ylB a0 a1 ((nth a0.2.2.2.2.2.2.2.2.1 r1 (0,[])).2)) fun r3 =>
 bif (r3.1.1==0) then
 bif (zjG 0 r1 r3.2.1.2.2.2.2.2.2.2.2.1.length) then
 bif (zj4 ([]:List dW).length ((r3.2.1.2.2.2.2.2.2.2.2.1.drop (0:Int).toNat).take (r1 - 0).toNat).length 32) then
 bif (zjG (IntKind.i64.wrap (r1+1)) (r3.2.1.2.2.2.2.2.2.2.2.1.length:Int) r3.2.1.2.2.2.2.2.2.2.2.1.length) then
 bif (zj4 (([]:List dW)++((r3.2.1.2.2.2.2.2.2.2.2.1.drop (0:Int).toNat).take (r1 - 0).toNat)).length ((r3.2.1.2.2.2.2.2.2.2.2.1.drop ((IntKind.i64.wrap (r1+1))).toNat).take ((r3.2.1.2.2.2.2.2.2.2.2.1.length:Int) - (IntKind.i64.wrap (r1+1))).toNat).length 32) then
 some ((r3.1.1,()),((r3.2.1.1,r3.2.1.2.1,r3.2.1.2.2.1,r3.2.1.2.2.2.1,r3.2.1.2.2.2.2.1,r3.2.1.2.2.2.2.2.1,r3.2.1.2.2.2.2.2.2.1,r3.2.1.2.2.2.2.2.2.2.1,((([]:List dW)++((r3.2.1.2.2.2.2.2.2.2.2.1.drop (0:Int).toNat).take (r1 - 0).toNat))++((r3.2.1.2.2.2.2.2.2.2.2.1.drop ((IntKind.i64.wrap (r1+1))).toNat).take ((r3.2.1.2.2.2.2.2.2.2.2.1.length:Int) - (IntKind.i64.wrap (r1+1))).toNat)),r3.2.1.2.2.2.2.2.2.2.2.2),()))
 else none
 else none
 else none
 else none
 else
 some ((r3.1.1,()),(r3.2.1,()))
 else none
 else none
theorem yVB (x:InD yes):zjH ⟨yFX,63,yOl⟩ Tryz.f185.results.toList yFl yes yk8 x=ymu x.1 x.2.1:=by kernel_rfl
theorem yQN:ConOk Tryz.prog 185 ⟨yes,yk8,fun x=>ymu x.1 x.2.1⟩:=zkh (yMO) Tryz.func185 (by kernel_rfl) (by kernel_rfl) Tryz.ntmps185.symm (by decide) (fun x r h=>(yVB x).trans h)
def ylw (a0:dA) (a1:Int):Int×dA:=flushE a0 a1
def yw9 (a0:dA) (a1:Int):Bool:=decide (a0.2.2.2.2.2.2.2.2.1.length≤1000)
theorem yTE (a0:dA) (a1:Int) (hk:zi9 yes (a0,a1,())) (hq:yw9 a0 a1=true):ymu a0 a1=(fun n=>some ((n.1,()),(n.2,()))) (ylw a0 a1):=by
 have hq:=of_decide_eq_true hq
 unfold ymu ylw flushE
 simp only [yjD]
 cases h0:ltb (yW a0.2.2.2.2.2.2.2.2.1 a1) 0
 ·have h1:=zkU h0
  have hi:inb (yW a0.2.2.2.2.2.2.2.2.1 a1) a0.2.2.2.2.2.2.2.2.1.length=true:=(yte (d:=((0:Int),([]:List Int))) (zk0 h1)).1
  simp only [hi,cond_true,cond_false]
  generalize hD:(nth a0.2.2.2.2.2.2.2.2.1 (yW a0.2.2.2.2.2.2.2.2.1 a1) (0,[])).2=D
  cases hc:(yy a0 a1 D !=0)
  ·obtain ⟨ha,hl,hw,hd,hs,hb,_⟩:=yt0 (bne_eq_false_iff_eq.1 hc)
   rw [yEK a0 a1 D (by unfold ygP; rw [hs,hl,ytV ha]; simp)]
   simp only [zky,cond_false,ylv,yN7]
   have hk:=zjP.1 hi
   cases hr:((yu a0 a1 D).1==0)
   ·rfl
   ·generalize yW a0.2.2.2.2.2.2.2.2.1 a1=K at h1 hk
    rw [wr (show -9223372036854775808≤K+1 by omega) (by omega),zko.2 (show (0:Int)≤0∧0≤K∧K≤(a0.2.2.2.2.2.2.2.2.1.length:Int) by omega),zko.2 (show 0≤K+1∧K+1≤(a0.2.2.2.2.2.2.2.2.1.length:Int)∧(a0.2.2.2.2.2.2.2.2.1.length:Int)≤(a0.2.2.2.2.2.2.2.2.1.length:Int) by omega),
     zkw.2 (by rw [List.length_take,List.length_drop,List.length_nil]; omega),zkw.2 (by rw [List.length_append,List.length_take,List.length_take,List.length_drop,List.length_drop,List.length_nil]; omega),y1x h1 hk.2]
    rw [beq_iff_eq.1 hr]; rfl
  ·rfl
 ·rfl
def ycO (a0:dA) (a1:Int):Option (ResD yk8×MutD yes):=bif yw9 a0 a1 then (fun n=>some ((n.1,()),(n.2,()))) (ylw a0 a1) else none
theorem yEL (a0:dA) (a1:Int) (h:yw9 a0 a1=true):ycO a0 a1=(fun n=>some ((n.1,()),(n.2,()))) (ylw a0 a1):=by unfold ycO; rw [h]; rfl
def ytc:Con:=⟨yes,yk8,fun x=>ycO x.1 x.2.1⟩
theorem yEI:ConOk Tryz.prog 185 ytc:=(yQN).mono (fun x r hk h=>zkW h (fun hq=>yTE x.1 x.2.1 hk hq))
end
section
def yo8:Code:=(Tryz.f186.body).getD .skip
def yuv:Env:=zki TT [(185,ytc)] []
theorem ySY:FrOk Tryz.prog ⟨yuv,22,fun _=>none⟩ yo8:=zkp yb yd ⟨yEI,trivial⟩
def yFG:Nat→Option Seg:=fun _=>none
def yeu:Shape:=⟨[(0,false,[.ptr 1000000000 0])],[(1000000000,[.int .i64,.int .i64,.int .i64,.at 800000000,.int .i64,.int .i64,.int .i64,.int .i64,.int .i64,.at 800000001,.int .i64,.bool,.bool])],[(800000000,tM,(.pr (.ow .fz) (.pr (.ow (.pr .fz .fz)) (.pr .fz (.ow .fz))))),(800000001,tW,(.pr .fz .fz))]⟩
def yk0:Shape:=⟨[(0,false,[.ptr 1000000000 0])],[(1000000000,[.int .i64,.int .i64,.int .i64,.at 800000000,.int .i64,.int .i64,.int .i64,.int .i64,.int .i64,.at 800000001,.int .i64,.bool,.bool])],[(800000000,tM,(.pr (.ow .fz) (.pr (.ow (.pr .fz .fz)) (.pr .fz (.ow .fz))))),(800000001,tW,(.pr .fz .fz))]⟩
def ykX:Shape:=⟨[],[(1000000000,[.int .i64,.int .i64,.int .i64,.at 800000000,.int .i64,.int .i64,.int .i64,.int .i64,.int .i64,.at 800000001,.int .i64,.bool,.bool])],[(800000000,tM,(.pr (.ow .fz) (.pr (.ow (.pr .fz .fz)) (.pr .fz (.ow .fz))))),(800000001,tW,(.pr .fz .fz))]⟩
def yla:Shape:=⟨[(2,false,[.int .i64])],[(1000000000,[.int .i64,.int .i64,.int .i64,.at 800000000,.int .i64,.int .i64,.int .i64,.int .i64,.int .i64,.at 800000001,.int .i64,.bool,.bool])],[(800000000,tM,(.pr (.ow .fz) (.pr (.ow (.pr .fz .fz)) (.pr .fz (.ow .fz))))),(800000001,tW,(.pr .fz .fz))]⟩
abbrev yvD (v0:dA):(yeu).X:=((((),()),()),((v0.1,v0.2.1.1,v0.2.1.2,(),v0.2.2.2.1,v0.2.2.2.2.1,v0.2.2.2.2.2.1,v0.2.2.2.2.2.2.1,v0.2.2.2.2.2.2.2.1,(),v0.2.2.2.2.2.2.2.2.2.1,v0.2.2.2.2.2.2.2.2.2.2.1,v0.2.2.2.2.2.2.2.2.2.2.2,()),()),(v0.2.2.1,v0.2.2.2.2.2.2.2.2.1,()))
abbrev yTe (v0:dA):(yk0).X:=((((),()),()),((v0.1,v0.2.1.1,v0.2.1.2,(),v0.2.2.2.1,v0.2.2.2.2.1,v0.2.2.2.2.2.1,v0.2.2.2.2.2.2.1,v0.2.2.2.2.2.2.2.1,(),v0.2.2.2.2.2.2.2.2.2.1,v0.2.2.2.2.2.2.2.2.2.2.1,v0.2.2.2.2.2.2.2.2.2.2.2,()),()),(v0.2.2.1,v0.2.2.2.2.2.2.2.2.1,()))
abbrev yTb (v0:dA):(ykX).X:=((),((v0.1,v0.2.1.1,v0.2.1.2,(),v0.2.2.2.1,v0.2.2.2.2.1,v0.2.2.2.2.2.1,v0.2.2.2.2.2.2.1,v0.2.2.2.2.2.2.2.1,(),v0.2.2.2.2.2.2.2.2.2.1,v0.2.2.2.2.2.2.2.2.2.2.1,v0.2.2.2.2.2.2.2.2.2.2.2,()),()),(v0.2.2.1,v0.2.2.2.2.2.2.2.2.1,()))
abbrev yTh (v0:Int) (v1:dA):(yla).X:=(((v0,()),()),((v1.1,v1.2.1.1,v1.2.1.2,(),v1.2.2.2.1,v1.2.2.2.2.1,v1.2.2.2.2.2.1,v1.2.2.2.2.2.2.1,v1.2.2.2.2.2.2.2.1,(),v1.2.2.2.2.2.2.2.2.2.1,v1.2.2.2.2.2.2.2.2.2.2.1,v1.2.2.2.2.2.2.2.2.2.2.2,()),()),(v1.2.2.1,v1.2.2.2.2.2.2.2.2.1,()))
def ywb (v0 v1 v2 v3 v4 v5 v6 v7 v8:Int) (v9 v10:Bool) (v11:List dM) (v12:List dW):Option ((yeu).X ⊕ ((ykX).X ⊕ (yla).X)) :=
 bif (ltb 0 (v12.length:Int)) then
 bif (inb 0 v12.length) then
 bnd (ycO (v0,(v1,v2),v11,v3,v4,v5,v6,v7,v12,v8,v9,v10) ((nth v12 0 (0,[])).1)) fun r2 =>
 bif (r2.1.1 !=0) then
 some (.inr (.inr (((r2.1.1,()),()),((r2.2.1.1,r2.2.1.2.1.1,r2.2.1.2.1.2,(),r2.2.1.2.2.2.1,r2.2.1.2.2.2.2.1,r2.2.1.2.2.2.2.2.1,r2.2.1.2.2.2.2.2.2.1,r2.2.1.2.2.2.2.2.2.2.1,(),r2.2.1.2.2.2.2.2.2.2.2.2.1,r2.2.1.2.2.2.2.2.2.2.2.2.2.1,r2.2.1.2.2.2.2.2.2.2.2.2.2.2,()),()),(r2.2.1.2.2.1,r2.2.1.2.2.2.2.2.2.2.2.1,()))))
 else
 some (.inl ((((),()),()),((r2.2.1.1,r2.2.1.2.1.1,r2.2.1.2.1.2,(),r2.2.1.2.2.2.1,r2.2.1.2.2.2.2.1,r2.2.1.2.2.2.2.2.1,r2.2.1.2.2.2.2.2.2.1,r2.2.1.2.2.2.2.2.2.2.1,(),r2.2.1.2.2.2.2.2.2.2.2.2.1,r2.2.1.2.2.2.2.2.2.2.2.2.2.1,r2.2.1.2.2.2.2.2.2.2.2.2.2.2,()),()),(r2.2.1.2.2.1,r2.2.1.2.2.2.2.2.2.2.2.1,())))
 else none
 else
 some (.inr (.inl ((),((v0,v1,v2,(),v3,v4,v5,v6,v7,(),v8,v9,v10,()),()),(v11,v12,()))))
def yeG (x:(yeu).X):=ywb x.2.1.1.1 x.2.1.1.2.1 x.2.1.1.2.2.1 x.2.1.1.2.2.2.2.1 x.2.1.1.2.2.2.2.2.1 x.2.1.1.2.2.2.2.2.2.1 x.2.1.1.2.2.2.2.2.2.2.1 x.2.1.1.2.2.2.2.2.2.2.2.1 x.2.1.1.2.2.2.2.2.2.2.2.2.2.1 x.2.1.1.2.2.2.2.2.2.2.2.2.2.2.1 x.2.1.1.2.2.2.2.2.2.2.2.2.2.2.2.1 x.2.2.1 x.2.2.2.1
def yEw (x:(yk0).X):(yeu).X:=((((),()),()),((x.2.1.1.1,x.2.1.1.2.1,x.2.1.1.2.2.1,(),x.2.1.1.2.2.2.2.1,x.2.1.1.2.2.2.2.2.1,x.2.1.1.2.2.2.2.2.2.1,x.2.1.1.2.2.2.2.2.2.2.1,x.2.1.1.2.2.2.2.2.2.2.2.1,(),x.2.1.1.2.2.2.2.2.2.2.2.2.2.1,x.2.1.1.2.2.2.2.2.2.2.2.2.2.2.1,x.2.1.1.2.2.2.2.2.2.2.2.2.2.2.2.1,()),()),(x.2.2.1,x.2.2.2.1,()))
def yF2:Code:=(zdI yo8 64 24).getD .skip
theorem yVa:zdI yo8 64 6=some (.block 0 (.loop yF2)):=by kernel_rfl
theorem yW7 (x:(yeu).X):zg7 ⟨yuv,22,yFG⟩ 0 yF2 24 yeu ykX yla x=yeG x:=by kernel_rfl
def yEA (x:(yk0).X):Nat:=18446744073709551616
def ywR (x:(yk0).X):Option ((ykX).X ⊕ (yla).X):=zr yeG (yEA x) (yEw x)
def yEN:Seg:=⟨yk0,ykX,yla,ywR⟩
def yFH:Nat→Option Seg:=fun q=>bif Nat.beq q 6 then some yEN else yFG q
theorem ySZ:FrOk Tryz.prog ⟨yuv,22,yFH⟩ yo8:=(ySY).loop (sg:=yEN) yeu yEw (by decide) yVa yeG yEA (by decide) (fun _=>rfl) (fun x r _ h=>h) yW7
abbrev yg0:List Par:= [.pt tA (.pr .fz (.pr (.pr .fz .fz) (.pr (.ow (.pr (.ow .fz) (.pr (.ow (.pr .fz .fz)) (.pr .fz (.ow .fz))))) (.pr .fz (.pr .fz (.pr .fz (.pr .fz (.pr .fz (.pr (.ow (.pr .fz .fz)) (.pr .fz (.pr .fz .fz)))))))))))]
abbrev ypu:List OT:= [⟨false,tI,.fz⟩]
def yq3 (a0:dA):Option (ResD ypu×MutD yg0) :=
 zjw (ywR ((((),()),()),((a0.1,a0.2.1.1,a0.2.1.2,(),a0.2.2.2.1,a0.2.2.2.2.1,a0.2.2.2.2.2.1,a0.2.2.2.2.2.2.1,a0.2.2.2.2.2.2.2.1,(),a0.2.2.2.2.2.2.2.2.2.1,a0.2.2.2.2.2.2.2.2.2.2.1,a0.2.2.2.2.2.2.2.2.2.2.2,()),()),(a0.2.2.1,a0.2.2.2.2.2.2.2.2.1,()))) (fun y2 =>
 some ((0,()),((y2.2.1.1.1,(y2.2.1.1.2.1,y2.2.1.1.2.2.1),y2.2.2.1,y2.2.1.1.2.2.2.2.1,y2.2.1.1.2.2.2.2.2.1,y2.2.1.1.2.2.2.2.2.2.1,y2.2.1.1.2.2.2.2.2.2.2.1,y2.2.1.1.2.2.2.2.2.2.2.2.1,y2.2.2.2.1,y2.2.1.1.2.2.2.2.2.2.2.2.2.2.1,y2.2.1.1.2.2.2.2.2.2.2.2.2.2.2.1,y2.2.1.1.2.2.2.2.2.2.2.2.2.2.2.2.1),()))) (fun y2 =>
 some ((y2.1.1.1,()),((y2.2.1.1.1,(y2.2.1.1.2.1,y2.2.1.1.2.2.1),y2.2.2.1,y2.2.1.1.2.2.2.2.1,y2.2.1.1.2.2.2.2.2.1,y2.2.1.1.2.2.2.2.2.2.1,y2.2.1.1.2.2.2.2.2.2.2.1,y2.2.1.1.2.2.2.2.2.2.2.2.1,y2.2.2.2.1,y2.2.1.1.2.2.2.2.2.2.2.2.2.2.1,y2.2.1.1.2.2.2.2.2.2.2.2.2.2.2.1,y2.2.1.1.2.2.2.2.2.2.2.2.2.2.2.2.1),())))
theorem yZI (x:InD yg0):zjH ⟨yuv,22,yFH⟩ Tryz.f186.results.toList yo8 yg0 ypu x=yq3 x.1:=by kernel_rfl
theorem yWE:ConOk Tryz.prog 186 ⟨yg0,ypu,fun x=>yq3 x.1⟩:=zkh (ySZ) Tryz.func186 (by kernel_rfl) (by kernel_rfl) Tryz.ntmps186.symm (by decide) (fun x r h=>(yZI x).trans h)
def yvI (a0:dA):Int×dA:=allE a0
def yCG (a0:dA):Bool:=decide (a0.2.2.2.2.2.2.2.2.1.length≤1000)
theorem yYN (a0:dA) (hk:zi9 yg0 (a0,())) (hq:yCG a0=true):yq3 a0=(fun n=>some ((n.1,()),(n.2,()))) (yvI a0):=by
 have hq:=of_decide_eq_true hq
 have h1:=zkr (step:=yeG) a0.2.2.2.2.2.2.2.2.1.length (fun _ s=>yvD s) ywT (fun i s=>s.2.2.2.2.2.2.2.2.1.length+i=a0.2.2.2.2.2.2.2.2.1.length) (fun b=>(0,b))
  (fun r=>bif r.1==0 then .inl (yTb r.2) else .inr (yTh r.1 r.2)) (fun i s hi hs=>by
   have hp:0 < s.2.2.2.2.2.2.2.2.1.length:=by omega
   constructor
   ·simp only [yeG,yvD,ywb,zkV,zjI (show (0:Int) < (s.2.2.2.2.2.2.2.2.1.length:Int) by omega),cond_true,show inb 0 s.2.2.2.2.2.2.2.2.1.length=true from zkO (i:=0) hp]
    rw [yEL s (nth s.2.2.2.2.2.2.2.2.1 0 (0,[])).1 (decide_eq_true (show s.2.2.2.2.2.2.2.2.1.length≤1000 by omega))]
    simp only [zky,ylw]
    unfold ywT
    generalize flushE s (nth s.2.2.2.2.2.2.2.2.1 0 (0,[])).1=R
    cases hr:(R.1 !=0)
    ·rfl
    ·simp only [cond_true]
     rw [show (R.1==0)=false from beq_eq_false_iff_ne.2 (bne_iff_ne.1 hr)]; rfl
   ·intro s' h
    unfold ywT at h
    cases hr:((flushE s (nth s.2.2.2.2.2.2.2.2.1 0 (0,[])).1).1 !=0)
    ·rw [hr]at h
     simp only [cond_false,Sum.inl.injEq]at h
     rw [← h,y1d hp (bne_eq_false_iff_eq.1 hr),List.length_drop]; omega
    ·rw [hr]at h; cases h) (fun s hs=>by
   simp only [yeG,yvD,ywb,show ltb 0 (s.2.2.2.2.2.2.2.2.1.length:Int)=false from zkm (by omega)]; rfl) a0 rfl 18446744073709551616 (by omega)
 unfold yq3 yvI allE
 refine (congrArg (fun z=>zjw z _ _) (show ywR (yTe a0)=_ from h1)).trans ?_
 generalize goE ywT (fun b=>(0,b)) a0.2.2.2.2.2.2.2.2.1.length 0 a0=R
 cases hr:(R.1==0)
 ·rfl
 ·simp only [cond_true,zkJ,zkV]
  rw [show R.1=0 from beq_iff_eq.1 hr]
def ypV (a0:dA):Option (ResD ypu×MutD yg0):=bif yCG a0 then (fun n=>some ((n.1,()),(n.2,()))) (yvI a0) else none
theorem yY7 (a0:dA) (h:yCG a0=true):ypV a0=(fun n=>some ((n.1,()),(n.2,()))) (yvI a0):=by unfold ypV; rw [h]; rfl
def yGe:Con:=⟨yg0,ypu,fun x=>ypV x.1⟩
theorem yY4:ConOk Tryz.prog 186 yGe:=(yWE).mono (fun x r hk h=>zkW h (fun hq=>yYN x.1 hk hq))
end
section
def yFd:Code:=(Tryz.f232.body).getD .skip
def yFP:Env:=zki TT [(152,yfv)] [(12288,(.pr .fz .fz))]
theorem yMy:FrOk Tryz.prog ⟨yFP,10,fun _=>none⟩ yFd:=zkp yb yd ⟨ylD,trivial⟩
def yOd:Nat→Option Seg:=fun _=>none
abbrev ykN:List Par:= [.rd tM]
abbrev yqx:List OT:= [⟨false,tM,(.pr (.ow .fz) (.pr (.ow (.pr .fz .fz)) (.pr .fz (.ow .fz))))⟩]
def ytB (a0:dM):Option (ResD yqx×MutD ykN) :=
 let r1:=yX a0
 some (((r1.1,([]:List dW),true,r1.2.2.2),()),())
theorem yVp (x:InD ykN):zjH ⟨yFP,10,yOd⟩ Tryz.f232.results.toList yFd ykN yqx x=ytB x.1:=by kernel_rfl
theorem yQB:ConOk Tryz.prog 232 ⟨ykN,yqx,fun x=>ytB x.1⟩:=zkh (yMy) Tryz.func232 (by kernel_rfl) (by kernel_rfl) Tryz.ntmps232.symm (by decide) (fun x r h=>(yVp x).trans h)
def yqN (a0:dM):dM :=
 let r1:=yX a0
 (r1.1,([]:List dW),true,r1.2.2.2)
def yBJ:Con:=⟨ykN,yqx,fun x=>(fun n=>some ((n,()),())) (yqN x.1)⟩
theorem yTt (a0:dM):ytB a0=(fun n=>some ((n,()),())) (yqN a0):=zkS (p:=fun (n:dM)=>((n,()),())) rfl
theorem yUr:ConOk Tryz.prog 232 yBJ:=(yQB).mono (fun x r _ h=>(yTt x.1).trans h)
end
section
def yFg:Code:=(Tryz.f199.body).getD .skip
def yFS:Env:=zki TT [(203,yoz),(232,yBJ)] []
theorem yMD:FrOk Tryz.prog ⟨yFS,62,fun _=>none⟩ yFg:=zkp yb yd ⟨yw2,yUr,trivial⟩
def yOg:Nat→Option Seg:=fun _=>none
abbrev yem:List Par:= [.pt tA (.pr .fz (.pr (.pr .fz .fz) (.pr (.ow (.pr (.ow .fz) (.pr (.ow (.pr .fz .fz)) (.pr .fz (.ow .fz))))) (.pr .fz (.pr .fz (.pr .fz (.pr .fz (.pr .fz (.pr (.ow (.pr .fz .fz)) (.pr .fz (.pr .fz .fz))))))))))),.rd tI]
abbrev yk3:List OT:= []
def ymo (a0:dA) (a1:Int):Option (ResD yk3×MutD yem) :=
 bif (inb a1 a0.2.2.1.length) then
 let r1:=yqN ((nth a0.2.2.1 a1 ([],[],false,[])).1,((nth a0.2.2.1 a1 ([],[],false,[])).2).1,(((nth a0.2.2.1 a1 ([],[],false,[])).2).2))
 bif (inb a1 a0.2.2.1.length) then
 bif (!(a0.2.2.2.1==(-1))) then
 bif (a0.2.2.2.1==a1) then
 bif (!a0.2.2.2.2.2.2.2.2.2.2.1) then
 bif (!a0.2.2.2.2.2.2.2.2.2.2.2) then
 bif (ltb a0.2.2.2.2.2.2.2.1 60000) then
 let r2:=yaF (a0.1,a0.2.1,(a0.2.2.1.set (a1).toNat r1),a1,0,a0.2.2.2.2.2)
 some ((),(r2,()))
 else
 some ((),((a0.1,a0.2.1,(a0.2.2.1.set (a1).toNat r1),a1,0,a0.2.2.2.2.2),()))
 else
 some ((),((a0.1,a0.2.1,(a0.2.2.1.set (a1).toNat r1),a1,0,a0.2.2.2.2.2),()))
 else
 some ((),((a0.1,a0.2.1,(a0.2.2.1.set (a1).toNat r1),a1,0,a0.2.2.2.2.2),()))
 else
 bif (!a0.2.2.2.2.2.2.2.2.2.2.1) then
 some ((),((a0.1,a0.2.1,(a0.2.2.1.set (a1).toNat r1),a0.2.2.2.1,a0.2.2.2.2.1,a0.2.2.2.2.2.1,a0.2.2.2.2.2.2.1,a0.2.2.2.2.2.2.2.1,a0.2.2.2.2.2.2.2.2.1,a0.2.2.2.2.2.2.2.2.2.1,a0.2.2.2.2.2.2.2.2.2.2.1,true),()))
 else
 some ((),((a0.1,a0.2.1,(a0.2.2.1.set (a1).toNat r1),a0.2.2.2.1,a0.2.2.2.2.1,a0.2.2.2.2.2.1,a0.2.2.2.2.2.2.1,a0.2.2.2.2.2.2.2.1,a0.2.2.2.2.2.2.2.2.1,a0.2.2.2.2.2.2.2.2.2.1,a0.2.2.2.2.2.2.2.2.2.2.1,true),()))
 else
 bif (!a0.2.2.2.2.2.2.2.2.2.2.1) then
 bif (!a0.2.2.2.2.2.2.2.2.2.2.2) then
 bif (ltb a0.2.2.2.2.2.2.2.1 60000) then
 let r3:=yaF (a0.1,a0.2.1,(a0.2.2.1.set (a1).toNat r1),a1,0,a0.2.2.2.2.2)
 some ((),(r3,()))
 else
 some ((),((a0.1,a0.2.1,(a0.2.2.1.set (a1).toNat r1),a1,0,a0.2.2.2.2.2),()))
 else
 some ((),((a0.1,a0.2.1,(a0.2.2.1.set (a1).toNat r1),a1,0,a0.2.2.2.2.2),()))
 else
 some ((),((a0.1,a0.2.1,(a0.2.2.1.set (a1).toNat r1),a1,0,a0.2.2.2.2.2),()))
 else none
 else none
theorem yVt (x:InD yem):zjH ⟨yFS,62,yOg⟩ Tryz.f199.results.toList yFg yem yk3 x=ymo x.1 x.2.1:=by kernel_rfl
theorem yQF:ConOk Tryz.prog 199 ⟨yem,yk3,fun x=>ymo x.1 x.2.1⟩:=zkh (yMD) Tryz.func199 (by kernel_rfl) (by kernel_rfl) Tryz.ntmps199.symm (by decide) (fun x r h=>(yVt x).trans h)
def yqO (a0:dA) (a1:Int):dA:=failOne a0 a1
def yw6 (a0:dA) (a1:Int):Bool:=inb a1 a0.2.2.1.length
theorem yTx (a0:dA) (a1:Int) (hk:zi9 yem (a0,a1,())) (hq:yw6 a0 a1=true):ymo a0 a1=(fun n=>some ((),(n,()))) (yqO a0 a1):=by
 have hq:inb a1 a0.2.2.1.length=true:=hq
 unfold ymo yqO failOne yex ySo yle downA
 simp only [hq,zkV,yqN,yX,yaF]
 cases (a0.2.2.2.1== -1)<;>cases (a0.2.2.2.1==a1)<;>cases a0.2.2.2.2.2.2.2.2.2.2.1<;>cases a0.2.2.2.2.2.2.2.2.2.2.2<;>cases ltb a0.2.2.2.2.2.2.2.1 60000<;>rfl
def yly (a0:dA) (a1:Int):Option (ResD yk3×MutD yem):=bif yw6 a0 a1 then (fun n=>some ((),(n,()))) (yqO a0 a1) else none
theorem yUz (a0:dA) (a1:Int) (h:yw6 a0 a1=true):yly a0 a1=(fun n=>some ((),(n,()))) (yqO a0 a1):=by unfold yly; rw [h]; rfl
def yBN:Con:=⟨yem,yk3,fun x=>yly x.1 x.2.1⟩
theorem yUv:ConOk Tryz.prog 199 yBN:=(yQF).mono (fun x r hk h=>zkW h (fun hq=>yTx x.1 x.2.1 hk hq))
end
section
def yih:Code:=(Tryz.f265.body).getD .skip
def yn5:Env:=zki TT [(135,yx),(152,yfv),(224,ygK),(238,ywX)] []
theorem yKs:FrOk Tryz.prog ⟨yn5,68,fun _=>none⟩ yih:=zkp yb yd ⟨yD,ylD,yno,yIy,trivial⟩
def yzt:Nat→Option Seg:=fun _=>none
def yaR:Shape:=⟨[(1,false,[.int .i64]),(4,false,[.ptr 64 0]),(5,false,[.ptr 4224 0]),(6,false,[.int .i64])],[(64,[.nil,.nil,.bool,.nil]),(4224,[.at 800000000,.at 800000001,.bool,.at 800000002])],[(800000000,tL,.fz),(800000001,tW,(.pr .fz .fz)),(800000002,tI,.fz)]⟩
def yeg:Shape:=⟨[(1,false,[.int .i64]),(4,false,[.ptr 64 0]),(5,false,[.ptr 4224 0]),(6,false,[.int .i64])],[(64,[.nil,.nil,.bool,.nil]),(4224,[.at 800000000,.at 800000001,.bool,.at 800000002])],[(800000000,tL,.fz),(800000001,tW,(.pr .fz .fz)),(800000002,tI,.fz)]⟩
def yeb:Shape:=⟨[(1,false,[.int .i64]),(4,false,[.ptr 64 0]),(5,false,[.ptr 4224 0]),(6,false,[.int .i64])],[(64,[.nil,.nil,.bool,.nil]),(4224,[.at 800000000,.at 800000001,.bool,.at 800000002])],[(800000000,tL,.fz),(800000001,tW,(.pr .fz .fz)),(800000002,tI,.fz)]⟩
def yhH:Shape:=⟨[],[],[]⟩
abbrev ymc (v0 v1:Int) (v2 v3:dM):(yaR).X:=(((v0,()),((),()),((),()),(v1,()),()),(((),(),v2.2.2.1,(),()),((),(),v3.2.2.1,(),()),()),(v3.1,v3.2.1,v3.2.2.2,()))
abbrev yHf (v0 v1:Int) (v2 v3:dM):(yeg).X:=(((v0,()),((),()),((),()),(v1,()),()),(((),(),v2.2.2.1,(),()),((),(),v3.2.2.1,(),()),()),(v3.1,v3.2.1,v3.2.2.2,()))
abbrev yHa (v0 v1:Int) (v2 v3:dM):(yeb).X:=(((v0,()),((),()),((),()),(v1,()),()),(((),(),v2.2.2.1,(),()),((),(),v3.2.2.1,(),()),()),(v3.1,v3.2.1,v3.2.2.2,()))
def ymz (v0 v1:Int) (v2 v3:Bool) (v4:List (List Int)) (v5:List dW) (v6:List Int):Option ((yaR).X ⊕ ((yeb).X ⊕ (yhH).X)) :=
 bif (ltb 0 v1) then
 bif (inb (IntKind.i64.wrap (v1 - 1)) v6.length) then
 bif (ltb v0 (nth v6 (IntKind.i64.wrap (v1 - 1)) 0)) then
 bif (inb (IntKind.i64.wrap (v1 - 1)) v6.length) then
 bif (inb v1 v6.length) then
 some (.inl (((v0,()),((),()),((),()),((IntKind.i64.wrap (v1 - 1)),()),()),(((),(),v2,(),()),((),(),v3,(),()),()),(v4,v5,(v6.set (v1).toNat (nth v6 (IntKind.i64.wrap (v1 - 1)) 0)),())))
 else none
 else none
 else
 some (.inr (.inl (((v0,()),((),()),((),()),(v1,()),()),(((),(),v2,(),()),((),(),v3,(),()),()),(v4,v5,v6,()))))
 else none
 else
 some (.inr (.inl (((v0,()),((),()),((),()),(v1,()),()),(((),(),v2,(),()),((),(),v3,(),()),()),(v4,v5,v6,()))))
def ya2 (x:(yaR).X):=ymz x.1.1.1 x.1.2.2.2.1.1 x.2.1.1.2.2.1 x.2.1.2.1.2.2.1 x.2.2.1 x.2.2.2.1 x.2.2.2.2.1
def yvu (x:(yeg).X):(yaR).X:=(((x.1.1.1,()),((),()),((),()),(x.1.2.2.2.1.1,()),()),(((),(),x.2.1.1.2.2.1,(),()),((),(),x.2.1.2.1.2.2.1,(),()),()),(x.2.2.1,x.2.2.2.1,x.2.2.2.2.1,()))
def ywi:Code:=(zdI yih 64 504).getD .skip
theorem yII:zdI yih 64 126=some (.block 0 (.loop ywi)):=by kernel_rfl
theorem yJm (x:(yaR).X):zg7 ⟨yn5,68,yzt⟩ 0 ywi 504 yaR yeb yhH x=ya2 x:=by kernel_rfl
def yvz (x:(yeg).X):Nat:=18446744073709551616
def ynA (x:(yeg).X):Option ((yeb).X ⊕ (yhH).X):=zr ya2 (yvz x) (yvu x)
def yv8:Seg:=⟨yeg,yeb,yhH,ynA⟩
def yzu:Nat→Option Seg:=fun q=>bif Nat.beq q 126 then some yv8 else yzt q
theorem yKt:FrOk Tryz.prog ⟨yn5,68,yzu⟩ yih:=(yKs).loop (sg:=yv8) yaR yvu (by decide) yII ya2 yvz (by decide) (fun _=>rfl) (fun x r _ h=>h) yJm
abbrev yfn:List Par:= [.rd tM,.rd tI]
abbrev yoj:List OT:= [⟨false,tM,(.pr (.ow .fz) (.pr (.ow (.pr .fz .fz)) (.pr .fz (.ow .fz))))⟩]
def ykk (a0:dM) (a1:Int):Option (ResD yoj×MutD yfn) :=
 let r1:=yX a0
 let r2:=yap a0
 bif (!(!r2)) then
 let r3:=ya a1 0 (IntKind.i64.wrap ((a0.1.length:Int) - 1))
 bif (!(!r3)) then
 let r4:=yhA a0.2.2.2 a1
 bif r4 then
 some ((r1,()),())
 else
 bif (zj4 r1.2.2.2.length ([a1]:List Int).length 8) then
 zjw (ynA (((a1,()),((),()),((),()),((IntKind.i64.wrap (((r1.2.2.2++([a1]:List Int)).length:Int) - 1)),()),()),(((),(),false,(),()),((),(),r1.2.2.1,(),()),()),(r1.1,r1.2.1,(r1.2.2.2++([a1]:List Int)),()))) (fun y4 =>
 bif (inb y4.1.2.2.2.1.1 y4.2.2.2.2.1.length) then
 some (((y4.2.2.1,y4.2.2.2.1,y4.2.1.2.1.2.2.1,(y4.2.2.2.2.1.set (y4.1.2.2.2.1.1).toNat y4.1.1.1)),()),())
 else none) (fun y4 =>
 none)
 else none
 else
 some ((r1,()),())
 else
 some ((r1,()),())
theorem ySi (x:InD yfn):zjH ⟨yn5,68,yzu⟩ Tryz.f265.results.toList yih yfn yoj x=ykk x.1 x.2.1:=by kernel_rfl
theorem yNr:ConOk Tryz.prog 265 ⟨yfn,yoj,fun x=>ykk x.1 x.2.1⟩:=zkh (yKt) Tryz.func265 (by kernel_rfl) (by kernel_rfl) Tryz.ntmps265.symm (by decide) (fun x r h=>(ySi x).trans h)
def yoD (a0:dM) (a1:Int):dM:=spoil a0 a1
theorem yUU (n:Int) (m:dM) (p:List Int) (hp: ∀ x∈p,x < n): ∀ (j:Nat) (q1 q2:List Int) (x:Int) (fuel:Nat),q1.length=j→j < fuel→(∀ y∈q1,n < y)→p.length+q1.length≤1000 →
  ∃ (x':Int) (q':List Int),q1++q2=q'∧zr ya2 fuel (ymc n ((p.length+q1.length:Nat):Int) noMem (m.1,m.2.1,m.2.2.1,(p++q1)++x::q2))=some (.inl (yHa n (p.length:Nat) noMem (m.1,m.2.1,m.2.2.1,p++x'::q')))
 | 0,q1,q2,x,fuel+1,hj,hf,hq,hb=>by
  have:q1= []:=List.length_eq_zero_iff.1 hj
  subst this
  refine ⟨x,q2,rfl,?_⟩
  simp only [zr,ya2,ymc,ymz,List.length_nil,Nat.add_zero,List.append_nil]
  rcases List.eq_nil_or_concat p with rfl | ⟨P,y,rfl⟩
  ·rfl
  ·have hy:=hp y (by simp)
   simp only [List.concat_eq_append,List.length_append,List.length_cons,List.length_nil,List.append_assoc,List.cons_append,List.nil_append]at hb ⊢
   rw [zjI (show (0:Int) < ((P.length+(0+1):Nat):Int) by omega),wr (show -9223372036854775808≤((P.length+(0+1):Nat):Int) - 1 by omega) (by omega),show ((P.length+(0+1):Nat):Int) - 1=(P.length:Nat) by omega,
    zkO (by simp),zjW,y0U,zkm (show y≤n by omega)]
   rfl
 | j+1,q1,q2,x,fuel+1,hj,hf,hq,hb=>by
  rcases List.eq_nil_or_concat q1 with rfl | ⟨Q,y,rfl⟩
  ·cases hj
  ·rw [List.concat_eq_append]at hj hq hb ⊢
   have hQ:Q.length=j:=by simpa using hj
   have hy:=hq y (by simp)
   obtain ⟨x',q',e1,e2⟩:=yUU n m p hp j Q (y::q2) y fuel hQ (by omega) (fun z hz=>hq z (by simp [hz])) (by simp at hb; omega)
   refine ⟨x',q',by rw [← e1]; simp,?_⟩
   rw [← e2]
   have ea:((p++(Q++ [y]))++x::q2)=(p++Q)++y::x::q2:=by simp
   have el:p.length+(Q++ [y]).length=(p++Q).length+1:=by simp; omega
   have el2:p.length+Q.length=(p++Q).length:=by simp
   have hb2:(p++Q).length≤1000:=by simp at hb ⊢; omega
   rw [ea,el,el2]
   generalize p++Q=A at hb2
   rw [zr]
   simp only [ya2,ymc,ymz]
   have es:(A++y::x::q2).set (A.length+1) y=A++y::y::q2:=by
    have:=y0Y (A++ [y]) x y q2
    simp at this ⊢
   rw [zjI (show (0:Int) < ((A.length+1:Nat):Int) by omega),wr (show -9223372036854775808≤((A.length+1:Nat):Int) - 1 by omega) (by omega),show ((A.length+1:Nat):Int) - 1=(A.length:Nat) by omega,zkO (show A.length < (A++y::x::q2).length by simp),zjW,y0U,zjI hy,
    zkO (show A.length+1 < (A++y::x::q2).length by simp),Int.toNat_natCast,es]
   rfl
theorem yQk (a0:dM) (a1:Int) (hk:zi9 yfn (a0,a1,())):ykk a0 a1=(fun n=>some ((n,()),())) (yoD a0 a1):=by
 unfold ykk yoD spoil
 simp only [yX,yap,ycd,yhA]
 cases hm:yl a0
 ·rfl
 obtain ⟨h1,h2,h3,h4,h5,h6⟩:=yar hm
 rw [ypx]at h3
 have hlen:=yLy h3.2 (lo:=0) (n:=a0.1.length) h3.1 (by omega)
 rw [wr (show -9223372036854775808≤(a0.1.length:Int) - 1 by omega) (by omega)]
 have hi:(leb 0 a1&&leb a1 ((a0.1.length:Int) - 1))=inb a1 a0.1.length:=by
  rw [Bool.eq_iff_iff,Bool.and_eq_true,zjQ,zjQ,zjP]; omega
 rw [hi]
 cases hin:inb a1 a0.1.length
 ·rfl
 cases hh:a0.2.2.2.any (· ==a1)
 ·have hn:a1∉a0.2.2.2:=fun h=>by
   have:=List.any_eq_false.1 hh a1 h
   simp at this
  have hsp:=y0e h3.2 hn
  have hp: ∀ x∈a0.2.2.2.filter (fun x=>ltb x a1),x < a1:=fun x hx=>zjT.1 (List.mem_filter.1 hx).2
  have hq: ∀ x∈a0.2.2.2.filter (fun x=>ltb a1 x),a1 < x:=fun x hx=>zjT.1 (List.mem_filter.1 hx).2
  unfold yGq
  generalize a0.2.2.2.filter (fun x=>ltb x a1)=P at hsp hp
  generalize a0.2.2.2.filter (fun x=>ltb a1 x)=Q at hsp hq
  have hPQ:P.length+Q.length=a0.2.2.2.length:=by rw [hsp,List.length_append]
  obtain ⟨x',q',e1,e2⟩:=yUU a1 a0 P hp Q.length Q [] a1 18446744073709551616 rfl (by omega) hq (by omega)
  rw [List.append_nil]at e1
  subst e1
  simp only [cond_true,cond_false,Bool.not_true,Bool.not_false,Bool.and_self]
  rw [zkw.2 (show (a0.2.2.2.length+ [a1].length) * 8≤140737488355328 by simp only [List.length_cons,List.length_nil]; omega),wr (show -9223372036854775808≤((a0.2.2.2++ [a1]).length:Int) - 1 by omega) (by simp only [List.length_append,List.length_cons,List.length_nil]; omega),
   show ((a0.2.2.2++ [a1]).length:Int) - 1=((P.length+Q.length:Nat):Int) by simp only [List.length_append,List.length_cons,List.length_nil]; omega,hsp,cond_true]
  refine (congrArg (fun z=>zjw z _ _) (show ynA (yHf a1 ((P.length+Q.length:Nat):Int) noMem (a0.1,a0.2.1,a0.2.2.1,(P++Q)++ [a1]))=_ from e2)).trans ?_
  simp only [zkJ]
  show (bif inb (P.length:Int) (P++x'::Q).length then some (((a0.1,a0.2.1,a0.2.2.1,(P++x'::Q).set (P.length:Int).toNat a1),()),()) else none)=_
  rw [zkO (by simp),Int.toNat_natCast,y0Y]; rfl
 ·rfl
def yzU:Con:=⟨yfn,yoj,fun x=>(fun n=>some ((n,()),())) (yoD x.1 x.2.1)⟩
theorem yQV:ConOk Tryz.prog 265 yzU:=(yNr).mono (fun x r hk h=>(yQk x.1 x.2.1 hk).trans h)
end
section
def yHW:Code:=(Tryz.f210.body).getD .skip
def yIs:Env:=zki TT [(105,yzX),(109,yBO),(110,yEk),(115,yEj),(121,yox),(141,yfu),(150,yew),(182,yGg),(185,ytc),(186,yGe),(199,yBN),(208,yta),(265,yzU)] []
theorem yPo:FrOk Tryz.prog ⟨yIs,160,fun _=>none⟩ yHW:=zkp yb yd ⟨yQY,yUw,yWS,yWR,yw0,ylC,yjp,yY6,yEI,yY4,yUv,yEG,yQV,trivial⟩
def yRG:Nat→Option Seg:=fun _=>none
abbrev yh:List Par:= [.pt tU .fz,.pt tA (.pr .fz (.pr (.pr .fz .fz) (.pr (.ow (.pr (.ow .fz) (.pr (.ow (.pr .fz .fz)) (.pr .fz (.ow .fz))))) (.pr .fz (.pr .fz (.pr .fz (.pr .fz (.pr .fz (.pr (.ow (.pr .fz .fz)) (.pr .fz (.pr .fz .fz)))))))))))]
abbrev yj:List OT:= []
def yfz (a0:dU) (a1:dA):Option (ResD yj×MutD yh) :=
 bnd (yg a0 14) fun r1 =>
 let k1:Option (ResD yj×MutD yh) :=
 bnd (yaX r1.2.1 3) fun r9 =>
 bif r9.1.1 then
 bif (a1.2.2.2.1==(-1)) then
 bnd (yg r9.2.1 a1.2.1.1) fun r10 =>
 bnd (yly a1 r10.1.1) fun r11 =>
 some ((),(r10.2.1,r11.2.1,()))
 else
 some ((),(r9.2.1,a1,()))
 else
 some ((),(r9.2.1,a1,()))
 let k2:Option (ResD yj×MutD yh) :=
 bif (inb a1.2.2.2.1 a1.2.2.1.length) then
 bif (((nth a1.2.2.1 a1.2.2.2.1 ([],[],false,[])).2).2).1 then
 bnd (yjo a1) fun r12 =>
 some ((),(r1.2.1,r12.2.1,()))
 else
 some ((),(r1.2.1,a1,()))
 else none
 let k3:Option (ResD yj×MutD yh) :=
 bif (leb 0 a1.2.2.2.1) then
 k2
 else
 some ((),(r1.2.1,a1,()))
 let k4:Option (ResD yj×MutD yh) :=
 bif (inb a1.2.2.2.1 a1.2.2.1.length) then
 bif (!((((nth a1.2.2.1 a1.2.2.2.1 ([],[],false,[])).2).2).1)) then
 bif (ltb a1.2.2.2.2.1 a1.2.1.2) then
 bnd (ylz a1) fun r13 =>
 some ((),(r1.2.1,r13.2.1,()))
 else
 some ((),(r1.2.1,a1,()))
 else
 some ((),(r1.2.1,a1,()))
 else none
 let k5:Option (ResD yj×MutD yh) :=
 bif (leb 0 a1.2.2.2.1) then
 k4
 else
 some ((),(r1.2.1,a1,()))
 let k6:Option (ResD yj×MutD yh) :=
 bnd (yaX r1.2.1 3) fun r15 =>
 bif r15.1.1 then
 bnd (yg r15.2.1 a1.2.1.1) fun r16 =>
 bif (inb r16.1.1 a1.2.2.1.length) then
 bnd (yg r16.2.1 a1.2.1.2) fun r17 =>
 let r18:=ybm r17.1.1
 let r19:=yoD ((nth a1.2.2.1 r16.1.1 ([],[],false,[])).1,((nth a1.2.2.1 r16.1.1 ([],[],false,[])).2).1,(((nth a1.2.2.1 r16.1.1 ([],[],false,[])).2).2)) r18
 bif (inb r16.1.1 a1.2.2.1.length) then
 some ((),(r17.2.1,(a1.1,a1.2.1,(a1.2.2.1.set (r16.1.1).toNat r19),a1.2.2.2),()))
 else none
 else none
 else
 some ((),(r15.2.1,a1,()))
 let k7:Option (ResD yj×MutD yh) :=
 bif (a1.2.2.2.1==(-1)) then
 k6
 else
 some ((),(r1.2.1,a1,()))
 let k8:Option (ResD yj×MutD yh) :=
 bif (r1.1.1==12) then
 let r14:=ygO a1
 some ((),(r1.2.1,r14,()))
 else
 k7
 let k9:Option (ResD yj×MutD yh) :=
 bif (r1.1.1==10) then
 k5
 else
 k8
 let k10:Option (ResD yj×MutD yh) :=
 bif (r1.1.1==11) then
 k5
 else
 k8
 let k11:Option (ResD yj×MutD yh) :=
 bif (r1.1.1==10) then
 k9
 else
 k10
 let k12:Option (ResD yj×MutD yh) :=
 bif (r1.1.1==9) then
 k3
 else
 k11
 let k13:Option (ResD yj×MutD yh) :=
 bif (r1.1.1==8) then
 k1
 else
 k12
 let k14:Option (ResD yj×MutD yh) :=
 bif (r1.1.1==7) then
 bnd (ypV a1) fun r8 =>
 some ((),(r1.2.1,r8.2.1,()))
 else
 k13
 let k15:Option (ResD yj×MutD yh) :=
 bif (r1.1.1==4) then
 bnd (yg r1.2.1 a1.2.1.2) fun r6 =>
 bnd (ycO a1 r6.1.1) fun r7 =>
 some ((),(r6.2.1,r7.2.1,()))
 else
 k14
 let k16:Option (ResD yj×MutD yh) :=
 bif (r1.1.1==5) then
 bnd (yg r1.2.1 a1.2.1.2) fun r27 =>
 bnd (ycO a1 r27.1.1) fun r28 =>
 some ((),(r27.2.1,r28.2.1,()))
 else
 k14
 let k17:Option (ResD yj×MutD yh) :=
 bif (r1.1.1==6) then
 bnd (yg r1.2.1 a1.2.1.2) fun r48 =>
 bnd (ycO a1 r48.1.1) fun r49 =>
 some ((),(r48.2.1,r49.2.1,()))
 else
 k14
 let k18:Option (ResD yj×MutD yh) :=
 bif (r1.1.1==5) then
 k16
 else
 k17
 let k19:Option (ResD yj×MutD yh) :=
 bif (r1.1.1==4) then
 k15
 else
 k18
 bif (r1.1.1==0) then
 bif (r1.1.1==0) then
 let r2:=yv a1.2.1
 bnd (yg r1.2.1 r2) fun r3 =>
 bnd (yas r3.2.1) fun r4 =>
 bnd (yfb a1 r3.1.1 r4.1.1) fun r5 =>
 some ((),(r4.2.1,r5.2.1,()))
 else
 k19
 else
 bif (r1.1.1==1) then
 bif (r1.1.1==1) then
 let r69:=yv a1.2.1
 bnd (yg r1.2.1 r69) fun r70 =>
 bnd (yas r70.2.1) fun r71 =>
 bnd (yfb a1 r70.1.1 r71.1.1) fun r72 =>
 some ((),(r71.2.1,r72.2.1,()))
 else
 k19
 else
 bif (r1.1.1==2) then
 bif (r1.1.1==2) then
 let r136:=yv a1.2.1
 bnd (yg r1.2.1 r136) fun r137 =>
 bnd (yas r137.2.1) fun r138 =>
 bnd (yfb a1 r137.1.1 r138.1.1) fun r139 =>
 some ((),(r138.2.1,r139.2.1,()))
 else
 k19
 else
 bif (r1.1.1==3) then
 let r203:=yv a1.2.1
 bnd (yg r1.2.1 r203) fun r204 =>
 bnd (yas r204.2.1) fun r205 =>
 bnd (yfb a1 r204.1.1 r205.1.1) fun r206 =>
 some ((),(r205.2.1,r206.2.1,()))
 else
 k19
theorem yYm (x:InD yh):zjH ⟨yIs,160,yRG⟩ Tryz.f210.results.toList yHW yh yj x=yfz x.1 x.2.1:=by kernel_rfl
theorem yUc:ConOk Tryz.prog 210 ⟨yh,yj,fun x=>yfz x.1 x.2.1⟩:=zkh (yPo) Tryz.func210 (by kernel_rfl) (by kernel_rfl) Tryz.ntmps210.symm (by decide) (fun x r h=>(yYm x).trans h)
def yEr:Con:=⟨yh,yj,fun x=>yfz x.1 x.2.1⟩
theorem yWZ:ConOk Tryz.prog 210 yEr:=yUc
def yxG (a:dA) (z:Option (ResD yj×MutD yh)):Prop:= ∃ (u':dU) (a':dA),z=some ((),(u',a',()))∧yd3 u'∧Turned a a'
def y02 (u:dU) (a:dA):Option (ResD yj×MutD yh) :=
 bnd (yg u (yv a.2.1)) fun r3=>bnd (yas r3.2.1) fun r4=>bnd (yfb a r3.1.1 r4.1.1) fun r5=>some ((),(r4.2.1,r5.2.1,()))
def yXF (u:dU) (a:dA):Option (ResD yj×MutD yh) :=
 bnd (yg u a.2.1.2) fun r6=>bnd (ycO a r6.1.1) fun r7=>some ((),(r6.2.1,r7.2.1,()))
def y0j (u:dU) (a:dA):Option (ResD yj×MutD yh) :=
 bnd (yaX u 3) fun r9=>bif r9.1.1 then (bif (a.2.2.2.1==(-1)) then (bnd (yg r9.2.1 a.2.1.1) fun r10=>bnd (yly a r10.1.1) fun r11=>some ((),(r10.2.1,r11.2.1,()))) else some ((),(r9.2.1,a,()))) else some ((),(r9.2.1,a,()))
def yXG (u:dU) (a:dA):Option (ResD yj×MutD yh) :=
 bif leb 0 a.2.2.2.1 then (bif inb a.2.2.2.1 a.2.2.1.length then (bif (nth a.2.2.1 a.2.2.2.1 noMem).2.2.1 then (bnd (yjo a) fun r12=>some ((),(u,r12.2.1,()))) else some ((),(u,a,()))) else none) else some ((),(u,a,()))
def y0k (u:dU) (a:dA):Option (ResD yj×MutD yh) :=
 bif leb 0 a.2.2.2.1 then (bif inb a.2.2.2.1 a.2.2.1.length then (bif !(nth a.2.2.1 a.2.2.2.1 noMem).2.2.1 then (bif ltb a.2.2.2.2.1 a.2.1.2 then (bnd (ylz a) fun r13=>some ((),(u,r13.2.1,()))) else some ((),(u,a,()))) else some ((),(u,a,()))) else none) else some ((),(u,a,()))
def yLt (u:dU) (a:dA):Option (ResD yj×MutD yh) :=
 bif (a.2.2.2.1==(-1)) then (bnd (yaX u 3) fun r15=>bif r15.1.1 then (bnd (yg r15.2.1 a.2.1.1) fun r16=>bif inb r16.1.1 a.2.2.1.length then (bnd (yg r16.2.1 a.2.1.2) fun r17 =>
 bif inb r16.1.1 a.2.2.1.length then some ((),(r17.2.1,setMem a r16.1.1 (spoil (nth a.2.2.1 r16.1.1 noMem) (dataAt r17.1.1)),())) else none) else none) else some ((),(r15.2.1,a,()))) else some ((),(u,a,()))
theorem yHv {u:dU} {a:dA} (h:coreOk a) (hk:Keep a) (hu:yd3 u):yxG a (y02 u a):=by
 have hg:=yi.1 h.1
 have hd:=ypC h.2.2.1 h.1
 obtain ⟨b,u1,e1,q1,d1⟩:=yfF u (yv a.2.1) hu
 obtain ⟨x,u2,e2,q2,d2⟩:=y2J u1 d1
 have hx:isW x=true:=by rw [ycd]at q2; exact q2
 have hbl:0 < yv a.2.1:=by
  rw [yGJ h.1]
  exact Int.mul_pos (by omega) (by omega)
 have hb:blkOk a.2.1 b=true:=by
  have:=q1.2.1 hbl
  unfold blkOk
  rw [zk0 q1.1,zk0 (show b≤yv a.2.1 - 1 by omega)]; rfl
 unfold y02
 rw [e1,zky,e2,zky,yY9 a b x (by unfold ypY; rw [yLx.2 ⟨h,hk⟩,hb]; exact decide_eq_true (show a.2.2.2.2.2.2.2.2.1.length≤1000 by omega)),zky]
 exact ⟨_,_,rfl,d2,.put b x hb hx⟩
theorem yHu {u:dU} {a:dA} (h:coreOk a) (hu:yd3 u):yxG a (yXF u a):=by
 have hd:=ypC h.2.2.1 h.1
 obtain ⟨s,u1,e1,q1,d1⟩:=yfF u a.2.1.2 hu
 unfold yXF
 rw [e1,zky,yEL a s (decide_eq_true (show a.2.2.2.2.2.2.2.2.1.length≤1000 by omega)),zky]
 exact ⟨_,_,rfl,d1,.flush s⟩
theorem y2x {u:dU} {a:dA} (h:coreOk a) (hu:yd3 u):yxG a (bnd (ypV a) fun r8=>some ((),(u,r8.2.1,()))):=by
 have hd:=ypC h.2.2.1 h.1
 rw [yY7 a (decide_eq_true (show a.2.2.2.2.2.2.2.2.1.length≤1000 by omega)),zky]
 exact ⟨_,_,rfl,hu,.all⟩
theorem y1R {u:dU} {a:dA} (h:coreOk a) (hk:Keep a) (hu:yd3 u):yxG a (y0j u a):=by
 have hg:=yi.1 h.1
 have hl:=hk.1.2
 obtain ⟨r,u1,e1,d1⟩:=y0P u 3 hu
 unfold y0j
 rw [e1,zky]
 cases r
 ·exact ⟨_,_,rfl,d1,.same⟩
 ·cases h1:(a.2.2.2.1==(-1))
  ·exact ⟨_,_,rfl,d1,.same⟩
  ·obtain ⟨m,u2,e2,q2,d2⟩:=yfF u1 a.2.1.1 d1
   have hm:inb m a.2.2.1.length=true:=zjP.2 ⟨q2.1,by have:=q2.2.1 (by omega); omega⟩
   simp only [cond_true]
   rw [e2,zky,yUz a m hm,zky]
   exact ⟨_,_,rfl,d2,.fail m (beq_iff_eq.1 h1) hm⟩
theorem y1o {u:dU} {a:dA} (h:coreOk a) (hk:Keep a) (hu:yd3 u):yxG a (yXG u a):=by
 have hl:=hk.1.2
 have hc:=h.2.2.2.1
 unfold yXG
 cases h0:leb 0 a.2.2.2.1
 ·exact ⟨_,_,rfl,hu,.same⟩
 ·have hi:inb a.2.2.2.1 a.2.2.1.length=true:=zjP.2 ⟨zjQ.1 h0,by omega⟩
  rw [hi]
  cases hf:(nth a.2.2.1 a.2.2.2.1 noMem).2.2.1
  ·exact ⟨_,_,rfl,hu,.same⟩
  ·simp only [cond_true]
   rw [yQ1 a (by unfold yjr; rw [h.1,hi]; rfl),zky]
   exact ⟨_,_,rfl,hu,.spare hi hf⟩
theorem yXH {u:dU} {a:dA} (h:coreOk a) (hk:Keep a) (hu:yd3 u):yxG a (y0k u a):=by
 have hl:=hk.1.2
 have hc:=h.2.2.2.1
 unfold y0k
 cases h0:leb 0 a.2.2.2.1
 ·exact ⟨_,_,rfl,hu,.same⟩
 ·have h0':=zjQ.1 h0
  have hi:inb a.2.2.2.1 a.2.2.1.length=true:=zjP.2 ⟨h0',by omega⟩
  rw [hi]
  cases hf:(nth a.2.2.1 a.2.2.2.1 noMem).2.2.1
  ·cases hb:ltb a.2.2.2.2.1 a.2.1.2
   ·exact ⟨_,_,rfl,hu,.same⟩
   ·simp only [cond_true,Bool.not_false]
    rw [yUA a (by unfold ylE; rw [h.1,hi,zjP.2 (show 0≤a.2.2.2.1∧a.2.2.2.1 < a.2.1.1.toNat by omega)]; rfl),zky]
    exact ⟨_,_,rfl,hu,.step hi hf (zjT.1 hb)⟩
  ·exact ⟨_,_,rfl,hu,.same⟩
theorem y1p {u:dU} {a:dA} (h:coreOk a) (hk:Keep a) (hu:yd3 u):yxG a (yLt u a):=by
 have hg:=yi.1 h.1
 have hl:=hk.1.2
 unfold yLt
 cases (a.2.2.2.1==(-1))
 ·exact ⟨_,_,rfl,hu,.same⟩
 ·obtain ⟨r,u1,e1,d1⟩:=y0P u 3 hu
  simp only [cond_true]
  rw [e1,zky]
  cases r
  ·exact ⟨_,_,rfl,d1,.same⟩
  ·obtain ⟨m,u2,e2,q2,d2⟩:=yfF u1 a.2.1.1 d1
   have hm:inb m a.2.2.1.length=true:=zjP.2 ⟨q2.1,by have:=q2.2.1 (by omega); omega⟩
   obtain ⟨s,u3,e3,q3,d3⟩:=yfF u2 a.2.1.2 d2
   simp only [cond_true]
   rw [e2,zky]
   simp only [hm,cond_true]
   rw [e3,zky]
   exact ⟨_,_,rfl,d3,.spoil m s hm q3.1 (q3.2.1 (by omega))⟩
theorem y2L (u:dU) (a:dA) (hu:yd3 u) (h:coreOk a) (hk:Keep a):yxG a (yfz u a):=by
 obtain ⟨r,u1,e1,q1,d1⟩:=yfF u 14 hu
 have hr:=q1.2.1 (by omega)
 have h0:=q1.1
 unfold yfz
 rw [e1,zky]
 have hc:(r=0∨r=1∨r=2∨r=3)∨(r=4∨r=5∨r=6)∨r=7∨r=8∨r=9∨(r=10∨r=11)∨r=12∨r=13:=by omega
 rcases hc with (rfl | rfl | rfl | rfl) | (rfl | rfl | rfl) | rfl | rfl | rfl | (rfl | rfl) | rfl | rfl
 ·exact yHv h hk d1
 ·exact yHv h hk d1
 ·exact yHv h hk d1
 ·exact yHv h hk d1
 ·exact yHu h d1
 ·exact yHu h d1
 ·exact yHu h d1
 ·exact y2x h d1
 ·exact y1R h hk d1
 ·exact y1o h hk d1
 ·exact yXH h hk d1
 ·exact yXH h hk d1
 ·refine ⟨u1,checkA a,?_,d1,.check⟩
  rw [← yIz]; rfl
 ·have:=y1p h hk d1
  unfold yLt at this
  simp only [← ygT]at this
  exact this
end
end
end Go.Tf
