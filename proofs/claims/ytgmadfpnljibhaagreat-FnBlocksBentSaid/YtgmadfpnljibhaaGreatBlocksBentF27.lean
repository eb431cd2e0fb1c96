/- Functions of the program, and what they come to. -/
import Derived.Test.YtgmadfpnljibhaaGreatBlocksBentF26
namespace Go.Tf
noncomputable section
open Go.Proofs
set_option synthInstance.maxHeartbeats 400000
set_option synthInstance.maxSize 10000
set_option linter.unusedVariables false
set_option linter.unusedSimpArgs false
set_option maxRecDepth 100000
section
def yqO:Code:=(Tryz.f186.body).getD .skip
def ywC:Env:=zj3 TT [(185,ynl)] []
theorem yX1:FrOk Tryz.prog ⟨ywC,22,fun _=>none⟩ yqO:=zj7 yb yc ⟨yx6,trivial⟩
def yIS:Nat→Option Seg:=fun _=>none
def ye2:Shape:=⟨[(0,false,[.ptr 1000000000 0])],[(1000000000,[.int .i64,.int .i64,.int .i64,.at 800000000,.int .i64,.int .i64,.int .i64,.int .i64,.int .i64,.at 800000001,.int .i64,.bool,.bool])],[(800000000,tM,(.pr (.ow .fz) (.pr (.ow (.pr .fz .fz)) (.pr .fz (.ow .fz))))),(800000001,tW,(.pr .fz .fz))]⟩
def ymc:Shape:=⟨[(0,false,[.ptr 1000000000 0])],[(1000000000,[.int .i64,.int .i64,.int .i64,.at 800000000,.int .i64,.int .i64,.int .i64,.int .i64,.int .i64,.at 800000001,.int .i64,.bool,.bool])],[(800000000,tM,(.pr (.ow .fz) (.pr (.ow (.pr .fz .fz)) (.pr .fz (.ow .fz))))),(800000001,tW,(.pr .fz .fz))]⟩
def yma:Shape:=⟨[],[(1000000000,[.int .i64,.int .i64,.int .i64,.at 800000000,.int .i64,.int .i64,.int .i64,.int .i64,.int .i64,.at 800000001,.int .i64,.bool,.bool])],[(800000000,tM,(.pr (.ow .fz) (.pr (.ow (.pr .fz .fz)) (.pr .fz (.ow .fz))))),(800000001,tW,(.pr .fz .fz))]⟩
def yml:Shape:=⟨[(2,false,[.int .i64])],[(1000000000,[.int .i64,.int .i64,.int .i64,.at 800000000,.int .i64,.int .i64,.int .i64,.int .i64,.int .i64,.at 800000001,.int .i64,.bool,.bool])],[(800000000,tM,(.pr (.ow .fz) (.pr (.ow (.pr .fz .fz)) (.pr .fz (.ow .fz))))),(800000001,tW,(.pr .fz .fz))]⟩
abbrev yxU (v0:dA):(ye2).X:=((((),()),()),((v0.1,v0.2.1.1,v0.2.1.2,(),v0.2.2.2.1,v0.2.2.2.2.1,v0.2.2.2.2.2.1,v0.2.2.2.2.2.2.1,v0.2.2.2.2.2.2.2.1,(),v0.2.2.2.2.2.2.2.2.2.1,v0.2.2.2.2.2.2.2.2.2.2.1,v0.2.2.2.2.2.2.2.2.2.2.2,()),()),(v0.2.2.1,v0.2.2.2.2.2.2.2.2.1,()))
abbrev yYc (v0:dA):(ymc).X:=((((),()),()),((v0.1,v0.2.1.1,v0.2.1.2,(),v0.2.2.2.1,v0.2.2.2.2.1,v0.2.2.2.2.2.1,v0.2.2.2.2.2.2.1,v0.2.2.2.2.2.2.2.1,(),v0.2.2.2.2.2.2.2.2.2.1,v0.2.2.2.2.2.2.2.2.2.2.1,v0.2.2.2.2.2.2.2.2.2.2.2,()),()),(v0.2.2.1,v0.2.2.2.2.2.2.2.2.1,()))
abbrev yYa (v0:dA):(yma).X:=((),((v0.1,v0.2.1.1,v0.2.1.2,(),v0.2.2.2.1,v0.2.2.2.2.1,v0.2.2.2.2.2.1,v0.2.2.2.2.2.2.1,v0.2.2.2.2.2.2.2.1,(),v0.2.2.2.2.2.2.2.2.2.1,v0.2.2.2.2.2.2.2.2.2.2.1,v0.2.2.2.2.2.2.2.2.2.2.2,()),()),(v0.2.2.1,v0.2.2.2.2.2.2.2.2.1,()))
abbrev yYe (v0:Int) (v1:dA):(yml).X:=(((v0,()),()),((v1.1,v1.2.1.1,v1.2.1.2,(),v1.2.2.2.1,v1.2.2.2.2.1,v1.2.2.2.2.2.1,v1.2.2.2.2.2.2.1,v1.2.2.2.2.2.2.2.1,(),v1.2.2.2.2.2.2.2.2.2.1,v1.2.2.2.2.2.2.2.2.2.2.1,v1.2.2.2.2.2.2.2.2.2.2.2,()),()),(v1.2.2.1,v1.2.2.2.2.2.2.2.2.1,()))
def yyw (v0 v1 v2 v3 v4 v5 v6 v7 v8:Int) (v9 v10:Bool) (v11:List dM) (v12:List dW):Option ((ye2).X ⊕ ((yma).X ⊕ (yml).X)) :=
 bif (ltb 0 (v12.length:Int)) then
 bif (inb 0 v12.length) then
 bnd (yaM (v0,(v1,v2),v11,v3,v4,v5,v6,v7,v12,v8,v9,v10) ((nth v12 0 (0,[])).1)) fun r2 =>
 bif (r2.1.1 !=0) then
 some (.inr (.inr (((r2.1.1,()),()),((r2.2.1.1,r2.2.1.2.1.1,r2.2.1.2.1.2,(),r2.2.1.2.2.2.1,r2.2.1.2.2.2.2.1,r2.2.1.2.2.2.2.2.1,r2.2.1.2.2.2.2.2.2.1,r2.2.1.2.2.2.2.2.2.2.1,(),r2.2.1.2.2.2.2.2.2.2.2.2.1,r2.2.1.2.2.2.2.2.2.2.2.2.2.1,r2.2.1.2.2.2.2.2.2.2.2.2.2.2,()),()),(r2.2.1.2.2.1,r2.2.1.2.2.2.2.2.2.2.2.1,()))))
 else
 some (.inl ((((),()),()),((r2.2.1.1,r2.2.1.2.1.1,r2.2.1.2.1.2,(),r2.2.1.2.2.2.1,r2.2.1.2.2.2.2.1,r2.2.1.2.2.2.2.2.1,r2.2.1.2.2.2.2.2.2.1,r2.2.1.2.2.2.2.2.2.2.1,(),r2.2.1.2.2.2.2.2.2.2.2.2.1,r2.2.1.2.2.2.2.2.2.2.2.2.2.1,r2.2.1.2.2.2.2.2.2.2.2.2.2.2,()),()),(r2.2.1.2.2.1,r2.2.1.2.2.2.2.2.2.2.2.1,())))
 else none
 else
 some (.inr (.inl ((),((v0,v1,v2,(),v3,v4,v5,v6,v7,(),v8,v9,v10,()),()),(v11,v12,()))))
def yfa (x:(ye2).X):=yyw x.2.1.1.1 x.2.1.1.2.1 x.2.1.1.2.2.1 x.2.1.1.2.2.2.2.1 x.2.1.1.2.2.2.2.2.1 x.2.1.1.2.2.2.2.2.2.1 x.2.1.1.2.2.2.2.2.2.2.1 x.2.1.1.2.2.2.2.2.2.2.2.1 x.2.1.1.2.2.2.2.2.2.2.2.2.2.1 x.2.1.1.2.2.2.2.2.2.2.2.2.2.2.1 x.2.1.1.2.2.2.2.2.2.2.2.2.2.2.2.1 x.2.2.1 x.2.2.2.1
def yHB (x:(ymc).X):(ye2).X:=((((),()),()),((x.2.1.1.1,x.2.1.1.2.1,x.2.1.1.2.2.1,(),x.2.1.1.2.2.2.2.1,x.2.1.1.2.2.2.2.2.1,x.2.1.1.2.2.2.2.2.2.1,x.2.1.1.2.2.2.2.2.2.2.1,x.2.1.1.2.2.2.2.2.2.2.2.1,(),x.2.1.1.2.2.2.2.2.2.2.2.2.2.1,x.2.1.1.2.2.2.2.2.2.2.2.2.2.2.1,x.2.1.1.2.2.2.2.2.2.2.2.2.2.2.2.1,()),()),(x.2.2.1,x.2.2.2.1,()))
def yJf:Code:=(zdD yqO 64 24).getD .skip
theorem y0c:zdD yqO 64 6=some (.block 0 (.loop yJf)):=by kernel_rfl
theorem y2q (x:(ye2).X):zg0 ⟨ywC,22,yIS⟩ 0 yJf 24 ye2 yma yml x=yfa x:=by kernel_rfl
def yHE (x:(ymc).X):Nat:=18446744073709551616
def yzs (x:(ymc).X):Option ((yma).X ⊕ (yml).X):=zz yfa (yHE x) (yHB x)
def yHQ:Seg:=⟨ymc,yma,yml,yzs⟩
def yIT:Nat→Option Seg:=fun q=>bif Nat.beq q 6 then some yHQ else yIS q
theorem yX2:FrOk Tryz.prog ⟨ywC,22,yIT⟩ yqO:=(yX1).loop (sg:=yHQ) ye2 yHB (by decide) y0c yfa yHE (by decide) (fun _=>rfl) (fun x r _ h=>h) y2q
abbrev yhO:List Par:= [.pt tA (.pr .fz (.pr (.pr .fz .fz) (.pr (.ow (.pr (.ow .fz) (.pr (.ow (.pr .fz .fz)) (.pr .fz (.ow .fz))))) (.pr .fz (.pr .fz (.pr .fz (.pr .fz (.pr .fz (.pr (.ow (.pr .fz .fz)) (.pr .fz (.pr .fz .fz)))))))))))]
abbrev yrl:List OT:= [⟨false,tI,.fz⟩]
def ysS (a0:dA):Option (ResD yrl×MutD yhO) :=
 zjZ (yzs ((((),()),()),((a0.1,a0.2.1.1,a0.2.1.2,(),a0.2.2.2.1,a0.2.2.2.2.1,a0.2.2.2.2.2.1,a0.2.2.2.2.2.2.1,a0.2.2.2.2.2.2.2.1,(),a0.2.2.2.2.2.2.2.2.2.1,a0.2.2.2.2.2.2.2.2.2.2.1,a0.2.2.2.2.2.2.2.2.2.2.2,()),()),(a0.2.2.1,a0.2.2.2.2.2.2.2.2.1,()))) (fun y2 =>
 some ((0,()),((y2.2.1.1.1,(y2.2.1.1.2.1,y2.2.1.1.2.2.1),y2.2.2.1,y2.2.1.1.2.2.2.2.1,y2.2.1.1.2.2.2.2.2.1,y2.2.1.1.2.2.2.2.2.2.1,y2.2.1.1.2.2.2.2.2.2.2.1,y2.2.1.1.2.2.2.2.2.2.2.2.1,y2.2.2.2.1,y2.2.1.1.2.2.2.2.2.2.2.2.2.2.1,y2.2.1.1.2.2.2.2.2.2.2.2.2.2.2.1,y2.2.1.1.2.2.2.2.2.2.2.2.2.2.2.2.1),()))) (fun y2 =>
 some ((y2.1.1.1,()),((y2.2.1.1.1,(y2.2.1.1.2.1,y2.2.1.1.2.2.1),y2.2.2.1,y2.2.1.1.2.2.2.2.1,y2.2.1.1.2.2.2.2.2.1,y2.2.1.1.2.2.2.2.2.2.1,y2.2.1.1.2.2.2.2.2.2.2.1,y2.2.1.1.2.2.2.2.2.2.2.2.1,y2.2.2.2.1,y2.2.1.1.2.2.2.2.2.2.2.2.2.2.1,y2.2.1.1.2.2.2.2.2.2.2.2.2.2.2.1,y2.2.1.1.2.2.2.2.2.2.2.2.2.2.2.2.1),())))
theorem y4R (x:InD yhO):zjx ⟨ywC,22,yIT⟩ Tryz.f186.results.toList yqO yhO yrl x=ysS x.1:=by kernel_rfl
theorem y1R:ConOk Tryz.prog 186 ⟨yhO,yrl,fun x=>ysS x.1⟩:=zj2 (yX2) Tryz.func186 (by kernel_rfl) (by kernel_rfl) Tryz.ntmps186.symm (by decide) (fun x r h=>(y4R x).trans h)
def yx0 (a0:dA):Int×dA:=allE a0
def yFy (a0:dA):Bool:=decide (a0.2.2.2.2.2.2.2.2.1.length≤1000)
theorem y3Y (a0:dA) (hk:zi2 yhO (a0,())) (hq:yFy a0=true):ysS a0=(fun n=>some ((n.1,()),(n.2,()))) (yx0 a0):=by
 have hq:=of_decide_eq_true hq
 have h1:=zj8 (step:=yfa) a0.2.2.2.2.2.2.2.2.1.length (fun _ s=>yxU s) yD9 (fun i s=>s.2.2.2.2.2.2.2.2.1.length+i=a0.2.2.2.2.2.2.2.2.1.length) (fun b=>(0,b))
  (fun r=>bif r.1==0 then .inl (yYa r.2) else .inr (yYe r.1 r.2)) (fun i s hi hs=>by
   have hp:0 < s.2.2.2.2.2.2.2.2.1.length:=by omega
   constructor
   ·simp only [yfa,yxU,yyw,zks,zj5 (show (0:Int) < (s.2.2.2.2.2.2.2.2.1.length:Int) by omega),cond_true,show inb 0 s.2.2.2.2.2.2.2.2.1.length=true from zkm (i:=0) hp]
    rw [yx7 s (nth s.2.2.2.2.2.2.2.2.1 0 (0,[])).1 (decide_eq_true (show s.2.2.2.2.2.2.2.2.1.length≤1000 by omega))]
    simp only [zkd,ymK]
    unfold yD9
    generalize flushE s (nth s.2.2.2.2.2.2.2.2.1 0 (0,[])).1=R
    cases hr:(R.1 !=0)
    ·rfl
    ·simp only [cond_true]
     rw [show (R.1==0)=false from beq_eq_false_iff_ne.2 (bne_iff_ne.1 hr)]; rfl
   ·intro s' h
    unfold yD9 at h
    cases hr:((flushE s (nth s.2.2.2.2.2.2.2.2.1 0 (0,[])).1).1 !=0)
    ·rw [hr]at h
     simp only [cond_false,Sum.inl.injEq]at h
     rw [← h,yXj hp (bne_eq_false_iff_eq.1 hr),List.length_drop]; omega
    ·rw [hr]at h; cases h) (fun s hs=>by
   simp only [yfa,yxU,yyw,show ltb 0 (s.2.2.2.2.2.2.2.2.1.length:Int)=false from zky (by omega)]; rfl) a0 rfl 18446744073709551616 (by omega)
 unfold ysS yx0 allE
 refine (congrArg (fun z=>zjZ z _ _) (show yzs (yYc a0)=_ from h1)).trans ?_
 generalize goE yD9 (fun b=>(0,b)) a0.2.2.2.2.2.2.2.2.1.length 0 a0=R
 cases hr:(R.1==0)
 ·rfl
 ·simp only [cond_true,zki,zks]
  rw [show R.1=0 from beq_iff_eq.1 hr]
def ymP (a0:dA):Option (ResD yrl×MutD yhO):=bif yFy a0 then (fun n=>some ((n.1,()),(n.2,()))) (yx0 a0) else none
theorem yL7 (a0:dA) (h:yFy a0=true):ymP a0=(fun n=>some ((n.1,()),(n.2,()))) (yx0 a0):=by unfold ymP; rw [h]; rfl
def yzB:Con:=⟨yhO,yrl,fun x=>ymP x.1⟩
theorem yL4:ConOk Tryz.prog 186 yzB:=(y1R).mono (fun x r hk h=>zkt h (fun hq=>y3Y x.1 hk hq))
end
section
def yIi:Code:=(Tryz.f232.body).getD .skip
def yI3:Env:=zj3 TT [(152,yf9)] [(12288,(.pr .fz .fz))]
theorem yQK:FrOk Tryz.prog ⟨yI3,10,fun _=>none⟩ yIi:=zj7 yb yc ⟨ymQ,trivial⟩
def ySw:Nat→Option Seg:=fun _=>none
abbrev ylZ:List Par:= [.rd tM]
abbrev ysn:List OT:= [⟨false,tM,(.pr (.ow .fz) (.pr (.ow (.pr .fz .fz)) (.pr .fz (.ow .fz))))⟩]
def yvK (a0:dM):Option (ResD ysn×MutD ylZ) :=
 let r1:=yX a0
 some (((r1.1,([]:List dW),true,r1.2.2.2),()),())
theorem y0v (x:InD ylZ):zjx ⟨yI3,10,ySw⟩ Tryz.f232.results.toList yIi ylZ ysn x=yvK x.1:=by kernel_rfl
theorem yU5:ConOk Tryz.prog 232 ⟨ylZ,ysn,fun x=>yvK x.1⟩:=zj2 (yQK) Tryz.func232 (by kernel_rfl) (by kernel_rfl) Tryz.ntmps232.symm (by decide) (fun x r h=>(y0v x).trans h)
def ymE (a0:dM):dM :=
 let r1:=yX a0
 (r1.1,([]:List dW),true,r1.2.2.2)
def yvi:Con:=⟨ylZ,ysn,fun x=>(fun n=>some ((n,()),())) (ymE x.1)⟩
theorem yYq (a0:dM):yvK a0=(fun n=>some ((n,()),())) (ymE a0):=zkq (p:=fun (n:dM)=>((n,()),())) rfl
theorem yHK:ConOk Tryz.prog 232 yvi:=(yU5).mono (fun x r _ h=>(yYq x.1).trans h)
end
section
def yIl:Code:=(Tryz.f199.body).getD .skip
def yI6:Env:=zj3 TT [(203,yqg),(232,yvi)] []
theorem yQP:FrOk Tryz.prog ⟨yI6,62,fun _=>none⟩ yIl:=zj7 yb yc ⟨yzL,yHK,trivial⟩
def ySz:Nat→Option Seg:=fun _=>none
abbrev yeV:List Par:= [.pt tA (.pr .fz (.pr (.pr .fz .fz) (.pr (.ow (.pr (.ow .fz) (.pr (.ow (.pr .fz .fz)) (.pr .fz (.ow .fz))))) (.pr .fz (.pr .fz (.pr .fz (.pr .fz (.pr .fz (.pr (.ow (.pr .fz .fz)) (.pr .fz (.pr .fz .fz))))))))))),.rd tI]
abbrev ymf:List OT:= []
def ynG (a0:dA) (a1:Int):Option (ResD ymf×MutD yeV) :=
 bif (inb a1 a0.2.2.1.length) then
 let r1:=ymE ((nth a0.2.2.1 a1 ([],[],false,[])).1,((nth a0.2.2.1 a1 ([],[],false,[])).2).1,(((nth a0.2.2.1 a1 ([],[],false,[])).2).2))
 bif (inb a1 a0.2.2.1.length) then
 bif (!(a0.2.2.2.1==(-1))) then
 bif (a0.2.2.2.1==a1) then
 bif (!a0.2.2.2.2.2.2.2.2.2.2.1) then
 bif (!a0.2.2.2.2.2.2.2.2.2.2.2) then
 bif (ltb a0.2.2.2.2.2.2.2.1 60000) then
 let r2:=yaH (a0.1,a0.2.1,(a0.2.2.1.set (a1).toNat r1),a1,0,a0.2.2.2.2.2)
 some ((),(r2,()))
 else
 some ((),((a0.1,a0.2.1,(a0.2.2.1.set (a1).toNat r1),a1,0,a0.2.2.2.2.2),()))
 else
 some ((),((a0.1,a0.2.1,(a0.2.2.1.set (a1).toNat r1),a1,0,a0.2.2.2.2.2),()))
 else
 some ((),((a0.1,a0.2.1,(a0.2.2.1.set (a1).toNat r1),a1,0,a0.2.2.2.2.2),()))
 else
 bif (!a0.2.2.2.2.2.2.2.2.2.2.1) then
 some ((),((a0.1,a0.2.1,(a0.2.2.1.set (a1).toNat r1),a0.2.2.2.1,a0.2.2.2.2.1,a0.2.2.2.2.2.1,a0.2.2.2.2.2.2.1,a0.2.2.2.2.2.2.2.1,a0.2.2.2.2.2.2.2.2.1,a0.2.2.2.2.2.2.2.2.2.1,a0.2.2.2.2.2.2.2.2.2.2.1,true),()))
 else
 some ((),((a0.1,a0.2.1,(a0.2.2.1.set (a1).toNat r1),a0.2.2.2.1,a0.2.2.2.2.1,a0.2.2.2.2.2.1,a0.2.2.2.2.2.2.1,a0.2.2.2.2.2.2.2.1,a0.2.2.2.2.2.2.2.2.1,a0.2.2.2.2.2.2.2.2.2.1,a0.2.2.2.2.2.2.2.2.2.2.1,true),()))
 else
 bif (!a0.2.2.2.2.2.2.2.2.2.2.1) then
 bif (!a0.2.2.2.2.2.2.2.2.2.2.2) then
 bif (ltb a0.2.2.2.2.2.2.2.1 60000) then
 let r3:=yaH (a0.1,a0.2.1,(a0.2.2.1.set (a1).toNat r1),a1,0,a0.2.2.2.2.2)
 some ((),(r3,()))
 else
 some ((),((a0.1,a0.2.1,(a0.2.2.1.set (a1).toNat r1),a1,0,a0.2.2.2.2.2),()))
 else
 some ((),((a0.1,a0.2.1,(a0.2.2.1.set (a1).toNat r1),a1,0,a0.2.2.2.2.2),()))
 else
 some ((),((a0.1,a0.2.1,(a0.2.2.1.set (a1).toNat r1),a1,0,a0.2.2.2.2.2),()))
 else none
 else none
theorem y0z (x:InD yeV):zjx ⟨yI6,62,ySz⟩ Tryz.f199.results.toList yIl yeV ymf x=ynG x.1 x.2.1:=by kernel_rfl
theorem yU9:ConOk Tryz.prog 199 ⟨yeV,ymf,fun x=>ynG x.1 x.2.1⟩:=zj2 (yQP) Tryz.func199 (by kernel_rfl) (by kernel_rfl) Tryz.ntmps199.symm (by decide) (fun x r h=>(y0z x).trans h)
def ysB (a0:dA) (a1:Int):dA:=failOne a0 a1
def yzO (a0:dA) (a1:Int):Bool:=inb a1 a0.2.2.1.length
theorem yYu (a0:dA) (a1:Int) (hk:zi2 yeV (a0,a1,())) (hq:yzO a0 a1=true):ynG a0 a1=(fun n=>some ((),(n,()))) (ysB a0 a1):=by
 have hq:inb a1 a0.2.2.1.length=true:=hq
 unfold ynG ysB failOne yKg yXi yDD ye
 simp only [hq,zks,ymE,yX,yaH]
 cases (a0.2.2.2.1== -1)<;>cases (a0.2.2.2.1==a1)<;>cases a0.2.2.2.2.2.2.2.2.2.2.1<;>cases a0.2.2.2.2.2.2.2.2.2.2.2<;>cases ltb a0.2.2.2.2.2.2.2.1 60000<;>rfl
def ymM (a0:dA) (a1:Int):Option (ResD ymf×MutD yeV):=bif yzO a0 a1 then (fun n=>some ((),(n,()))) (ysB a0 a1) else none
theorem yZz (a0:dA) (a1:Int) (h:yzO a0 a1=true):ymM a0 a1=(fun n=>some ((),(n,()))) (ysB a0 a1):=by unfold ymM; rw [h]; rfl
def yEx:Con:=⟨yeV,ymf,fun x=>ymM x.1 x.2.1⟩
theorem yZu:ConOk Tryz.prog 199 yEx:=(yU9).mono (fun x r hk h=>zkt h (fun hq=>yYu x.1 x.2.1 hk hq))
end
section
def yjm:Code:=(Tryz.f265.body).getD .skip
def ypA:Env:=zj3 TT [(135,yn),(152,yf9),(224,yhy),(238,yzA)] []
theorem yOC:FrOk Tryz.prog ⟨ypA,68,fun _=>none⟩ yjm:=zj7 yb yc ⟨yu,ymQ,yoO,yL3,trivial⟩
def yB9:Nat→Option Seg:=fun _=>none
def yaW:Shape:=⟨[(1,false,[.int .i64]),(4,false,[.ptr 64 0]),(5,false,[.ptr 4224 0]),(6,false,[.int .i64])],[(64,[.nil,.nil,.bool,.nil]),(4224,[.at 800000000,.at 800000001,.bool,.at 800000002])],[(800000000,tL,.fz),(800000001,tW,(.pr .fz .fz)),(800000002,tI,.fz)]⟩
def yeN:Shape:=⟨[(1,false,[.int .i64]),(4,false,[.ptr 64 0]),(5,false,[.ptr 4224 0]),(6,false,[.int .i64])],[(64,[.nil,.nil,.bool,.nil]),(4224,[.at 800000000,.at 800000001,.bool,.at 800000002])],[(800000000,tL,.fz),(800000001,tW,(.pr .fz .fz)),(800000002,tI,.fz)]⟩
def yeI:Shape:=⟨[(1,false,[.int .i64]),(4,false,[.ptr 64 0]),(5,false,[.ptr 4224 0]),(6,false,[.int .i64])],[(64,[.nil,.nil,.bool,.nil]),(4224,[.at 800000000,.at 800000001,.bool,.at 800000002])],[(800000000,tL,.fz),(800000001,tW,(.pr .fz .fz)),(800000002,tI,.fz)]⟩
def yiH:Shape:=⟨[],[],[]⟩
abbrev yns (v0 v1:Int) (v2 v3:dM):(yaW).X:=(((v0,()),((),()),((),()),(v1,()),()),(((),(),v2.2.2.1,(),()),((),(),v3.2.2.1,(),()),()),(v3.1,v3.2.1,v3.2.2.2,()))
abbrev yKy (v0 v1:Int) (v2 v3:dM):(yeN).X:=(((v0,()),((),()),((),()),(v1,()),()),(((),(),v2.2.2.1,(),()),((),(),v3.2.2.1,(),()),()),(v3.1,v3.2.1,v3.2.2.2,()))
abbrev yKt (v0 v1:Int) (v2 v3:dM):(yeI).X:=(((v0,()),((),()),((),()),(v1,()),()),(((),(),v2.2.2.1,(),()),((),(),v3.2.2.1,(),()),()),(v3.1,v3.2.1,v3.2.2.2,()))
def ynQ (v0 v1:Int) (v2 v3:Bool) (v4:List (List Int)) (v5:List dW) (v6:List Int):Option ((yaW).X ⊕ ((yeI).X ⊕ (yiH).X)) :=
 bif (ltb 0 v1) then
 bif (inb (IntKind.i64.wrap (v1 - 1)) v6.length) then
 bif (ltb v0 (nth v6 (IntKind.i64.wrap (v1 - 1)) 0)) then
 bif (inb (IntKind.i64.wrap (v1 - 1)) v6.length) then
 bif (inb v1 v6.length) then
 some (.inl (((v0,()),((),()),((),()),((IntKind.i64.wrap (v1 - 1)),()),()),(((),(),v2,(),()),((),(),v3,(),()),()),(v4,v5,(v6.set (v1).toNat (nth v6 (IntKind.i64.wrap (v1 - 1)) 0)),())))
 else none
 else none
 else
 some (.inr (.inl (((v0,()),((),()),((),()),(v1,()),()),(((),(),v2,(),()),((),(),v3,(),()),()),(v4,v5,v6,()))))
 else none
 else
 some (.inr (.inl (((v0,()),((),()),((),()),(v1,()),()),(((),(),v2,(),()),((),(),v3,(),()),()),(v4,v5,v6,()))))
def ybg (x:(yaW).X):=ynQ x.1.1.1 x.1.2.2.2.1.1 x.2.1.1.2.2.1 x.2.1.2.1.2.2.1 x.2.2.1 x.2.2.2.1 x.2.2.2.2.1
def yxJ (x:(yeN).X):(yaW).X:=(((x.1.1.1,()),((),()),((),()),(x.1.2.2.2.1.1,()),()),(((),(),x.2.1.1.2.2.1,(),()),((),(),x.2.1.2.1.2.2.1,(),()),()),(x.2.2.1,x.2.2.2.1,x.2.2.2.2.1,()))
def yyM:Code:=(zdD yjm 64 504).getD .skip
theorem yMi:zdD yjm 64 126=some (.block 0 (.loop yyM)):=by kernel_rfl
theorem yM2 (x:(yaW).X):zg0 ⟨ypA,68,yB9⟩ 0 yyM 504 yaW yeI yiH x=ybg x:=by kernel_rfl
def yxO (x:(yeN).X):Nat:=18446744073709551616
def yo0 (x:(yeN).X):Option ((yeI).X ⊕ (yiH).X):=zz ybg (yxO x) (yxJ x)
def yyu:Seg:=⟨yeN,yeI,yiH,yo0⟩
def yCa:Nat→Option Seg:=fun q=>bif Nat.beq q 126 then some yyu else yB9 q
theorem yOD:FrOk Tryz.prog ⟨ypA,68,yCa⟩ yjm:=(yOC).loop (sg:=yyu) yaW yxJ (by decide) yMi ybg yxO (by decide) (fun _=>rfl) (fun x r _ h=>h) yM2
abbrev yf3:List Par:= [.rd tM,.rd tI]
abbrev ypX:List OT:= [⟨false,tM,(.pr (.ow .fz) (.pr (.ow (.pr .fz .fz)) (.pr .fz (.ow .fz))))⟩]
def ylx (a0:dM) (a1:Int):Option (ResD ypX×MutD yf3) :=
 let r1:=yX a0
 let r2:=yar a0
 bif (!(!r2)) then
 let r3:=ya a1 0 (IntKind.i64.wrap ((a0.1.length:Int) - 1))
 bif (!(!r3)) then
 let r4:=yir a0.2.2.2 a1
 bif r4 then
 some ((r1,()),())
 else
 bif (zjR r1.2.2.2.length ([a1]:List Int).length 8) then
 zjZ (yo0 (((a1,()),((),()),((),()),((IntKind.i64.wrap (((r1.2.2.2++([a1]:List Int)).length:Int) - 1)),()),()),(((),(),false,(),()),((),(),r1.2.2.1,(),()),()),(r1.1,r1.2.1,(r1.2.2.2++([a1]:List Int)),()))) (fun y4 =>
 bif (inb y4.1.2.2.2.1.1 y4.2.2.2.2.1.length) then
 some (((y4.2.2.1,y4.2.2.2.1,y4.2.1.2.1.2.2.1,(y4.2.2.2.2.1.set (y4.1.2.2.2.1.1).toNat y4.1.1.1)),()),())
 else none) (fun y4 =>
 none)
 else none
 else
 some ((r1,()),())
 else
 some ((r1,()),())
theorem yXb (x:InD yf3):zjx ⟨ypA,68,yCa⟩ Tryz.f265.results.toList yjm yf3 ypX x=ylx x.1 x.2.1:=by kernel_rfl
theorem yRP:ConOk Tryz.prog 265 ⟨yf3,ypX,fun x=>ylx x.1 x.2.1⟩:=zj2 (yOD) Tryz.func265 (by kernel_rfl) (by kernel_rfl) Tryz.ntmps265.symm (by decide) (fun x r h=>(yXb x).trans h)
def yga (a0:dM) (a1:Int):dM:=spoil a0 a1
theorem yZT (n:Int) (m:dM) (p:List Int) (hp: ∀ x∈p,x < n): ∀ (j:Nat) (q1 q2:List Int) (x:Int) (fuel:Nat),q1.length=j→j < fuel→(∀ y∈q1,n < y)→p.length+q1.length≤1000 →
  ∃ (x':Int) (q':List Int),q1++q2=q'∧zz ybg fuel (yns n ((p.length+q1.length:Nat):Int) noMem (m.1,m.2.1,m.2.2.1,(p++q1)++x::q2))=some (.inl (yKt n (p.length:Nat) noMem (m.1,m.2.1,m.2.2.1,p++x'::q')))
 | 0,q1,q2,x,fuel+1,hj,hf,hq,hb=>by
  have:q1= []:=List.length_eq_zero_iff.1 hj
  subst this
  refine ⟨x,q2,rfl,?_⟩
  simp only [zz,ybg,yns,ynQ,List.length_nil,Nat.add_zero,List.append_nil]
  rcases List.eq_nil_or_concat p with rfl | ⟨P,y,rfl⟩
  ·rfl
  ·have hy:=hp y (by simp)
   simp only [List.concat_eq_append,List.length_append,List.length_cons,List.length_nil,List.append_assoc,List.cons_append,List.nil_append]at hb ⊢
   rw [zj5 (show (0:Int) < ((P.length+(0+1):Nat):Int) by omega),wr (show -9223372036854775808≤((P.length+(0+1):Nat):Int) - 1 by omega) (by omega),show ((P.length+(0+1):Nat):Int) - 1=(P.length:Nat) by omega,
    zkm (by simp),zkn,y5N,zky (show y≤n by omega)]
   rfl
 | j+1,q1,q2,x,fuel+1,hj,hf,hq,hb=>by
  rcases List.eq_nil_or_concat q1 with rfl | ⟨Q,y,rfl⟩
  ·cases hj
  ·rw [List.concat_eq_append]at hj hq hb ⊢
   have hQ:Q.length=j:=by simpa using hj
   have hy:=hq y (by simp)
   obtain ⟨x',q',e1,e2⟩:=yZT n m p hp j Q (y::q2) y fuel hQ (by omega) (fun z hz=>hq z (by simp [hz])) (by simp at hb; omega)
   refine ⟨x',q',by rw [← e1]; simp,?_⟩
   rw [← e2]
   have ea:((p++(Q++ [y]))++x::q2)=(p++Q)++y::x::q2:=by simp
   have el:p.length+(Q++ [y]).length=(p++Q).length+1:=by simp; omega
   have el2:p.length+Q.length=(p++Q).length:=by simp
   have hb2:(p++Q).length≤1000:=by simp at hb ⊢; omega
   rw [ea,el,el2]
   generalize p++Q=A at hb2
   rw [zz]
   simp only [ybg,yns,ynQ]
   have es:(A++y::x::q2).set (A.length+1) y=A++y::y::q2:=by
    have:=y5S (A++ [y]) x y q2
    simp at this ⊢
   rw [zj5 (show (0:Int) < ((A.length+1:Nat):Int) by omega),wr (show -9223372036854775808≤((A.length+1:Nat):Int) - 1 by omega) (by omega),show ((A.length+1:Nat):Int) - 1=(A.length:Nat) by omega,zkm (show A.length < (A++y::x::q2).length by simp),zkn,y5N,zj5 hy,
    zkm (show A.length+1 < (A++y::x::q2).length by simp),Int.toNat_natCast,es]
   rfl
theorem yUM (a0:dM) (a1:Int) (hk:zi2 yf3 (a0,a1,())):ylx a0 a1=(fun n=>some ((n,()),())) (yga a0 a1):=by
 unfold ylx yga spoil
 simp only [yX,yar,ybE,yir]
 cases hm:yw a0
 ·rfl
 obtain ⟨h1,h2,h3,h4,h5,h6⟩:=yby hm
 rw [yro]at h3
 have hlen:=yPH h3.2 (lo:=0) (n:=a0.1.length) h3.1 (by omega)
 rw [wr (show -9223372036854775808≤(a0.1.length:Int) - 1 by omega) (by omega)]
 have hi:(leb 0 a1&&leb a1 ((a0.1.length:Int) - 1))=inb a1 a0.1.length:=by
  rw [Bool.eq_iff_iff,Bool.and_eq_true,zjE,zjE,zjD]; omega
 rw [hi]
 cases hin:inb a1 a0.1.length
 ·rfl
 cases hh:a0.2.2.2.any (· ==a1)
 ·have hn:a1∉a0.2.2.2:=fun h=>by
   have:=List.any_eq_false.1 hh a1 h
   simp at this
  have hsp:=y5f h3.2 hn
  have hp: ∀ x∈a0.2.2.2.filter (fun x=>ltb x a1),x < a1:=fun x hx=>zjH.1 (List.mem_filter.1 hx).2
  have hq: ∀ x∈a0.2.2.2.filter (fun x=>ltb a1 x),a1 < x:=fun x hx=>zjH.1 (List.mem_filter.1 hx).2
  unfold yX9
  generalize a0.2.2.2.filter (fun x=>ltb x a1)=P at hsp hp
  generalize a0.2.2.2.filter (fun x=>ltb a1 x)=Q at hsp hq
  have hPQ:P.length+Q.length=a0.2.2.2.length:=by rw [hsp,List.length_append]
  obtain ⟨x',q',e1,e2⟩:=yZT a1 a0 P hp Q.length Q [] a1 18446744073709551616 rfl (by omega) hq (by omega)
  rw [List.append_nil]at e1
  subst e1
  simp only [cond_true,cond_false,Bool.not_true,Bool.not_false,Bool.and_self]
  rw [zkb.2 (show (a0.2.2.2.length+ [a1].length) * 8≤140737488355328 by simp only [List.length_cons,List.length_nil]; omega),wr (show -9223372036854775808≤((a0.2.2.2++ [a1]).length:Int) - 1 by omega) (by simp only [List.length_append,List.length_cons,List.length_nil]; omega),
   show ((a0.2.2.2++ [a1]).length:Int) - 1=((P.length+Q.length:Nat):Int) by simp only [List.length_append,List.length_cons,List.length_nil]; omega,hsp,cond_true]
  refine (congrArg (fun z=>zjZ z _ _) (show yo0 (yKy a1 ((P.length+Q.length:Nat):Int) noMem (a0.1,a0.2.1,a0.2.2.1,(P++Q)++ [a1]))=_ from e2)).trans ?_
  simp only [zki]
  show (bif inb (P.length:Int) (P++x'::Q).length then some (((a0.1,a0.2.1,a0.2.2.1,(P++x'::Q).set (P.length:Int).toNat a1),()),()) else none)=_
  rw [zkm (by simp),Int.toNat_natCast,y5S]; rfl
 ·rfl
def yth:Con:=⟨yf3,ypX,fun x=>(fun n=>some ((n,()),())) (yga x.1 x.2.1)⟩
theorem yFp:ConOk Tryz.prog 265 yth:=(yRP).mono (fun x r hk h=>(yUM x.1 x.2.1 hk).trans h)
end
section
def yLm:Code:=(Tryz.f210.body).getD .skip
def yLT:Env:=zj3 TT [(105,yCG),(109,yEy),(110,yxC),(115,yxB),(121,ykp),(141,ydT),(150,yz),(182,yzD),(185,ynl),(186,yzB),(199,yEx),(208,yvl),(265,yth)] []
theorem yTN:FrOk Tryz.prog ⟨yLT,160,fun _=>none⟩ yLm:=zj7 yb yc ⟨yVw,yZv,yJY,yJX,ysG,yhC,yO,yL6,yx6,yL4,yZu,yHN,yFp,trivial⟩
def yWi:Nat→Option Seg:=fun _=>none
abbrev yi:List Par:= [.pt tU .fz,.pt tA (.pr .fz (.pr (.pr .fz .fz) (.pr (.ow (.pr (.ow .fz) (.pr (.ow (.pr .fz .fz)) (.pr .fz (.ow .fz))))) (.pr .fz (.pr .fz (.pr .fz (.pr .fz (.pr .fz (.pr (.ow (.pr .fz .fz)) (.pr .fz (.pr .fz .fz)))))))))))]
abbrev yj:List OT:= []
def ygh (a0:dU) (a1:dA):Option (ResD yj×MutD yi) :=
 bnd (yd a0 14) fun r1 =>
 let k1:Option (ResD yj×MutD yi) :=
 bnd (yat r1.2.1 3) fun r9 =>
 bif r9.1.1 then
 bif (a1.2.2.2.1==(-1)) then
 bnd (yd r9.2.1 a1.2.1.1) fun r10 =>
 bnd (ymM a1 r10.1.1) fun r11 =>
 some ((),(r10.2.1,r11.2.1,()))
 else
 some ((),(r9.2.1,a1,()))
 else
 some ((),(r9.2.1,a1,()))
 let k2:Option (ResD yj×MutD yi) :=
 bif (inb a1.2.2.2.1 a1.2.2.1.length) then
 bif (((nth a1.2.2.1 a1.2.2.2.1 ([],[],false,[])).2).2).1 then
 bnd (ykD a1) fun r12 =>
 some ((),(r1.2.1,r12.2.1,()))
 else
 some ((),(r1.2.1,a1,()))
 else none
 let k3:Option (ResD yj×MutD yi) :=
 bif (leb 0 a1.2.2.2.1) then
 k2
 else
 some ((),(r1.2.1,a1,()))
 let k4:Option (ResD yj×MutD yi) :=
 bif (inb a1.2.2.2.1 a1.2.2.1.length) then
 bif (!((((nth a1.2.2.1 a1.2.2.2.1 ([],[],false,[])).2).2).1)) then
 bif (ltb a1.2.2.2.2.1 a1.2.1.2) then
 bnd (ymN a1) fun r13 =>
 some ((),(r1.2.1,r13.2.1,()))
 else
 some ((),(r1.2.1,a1,()))
 else
 some ((),(r1.2.1,a1,()))
 else none
 let k5:Option (ResD yj×MutD yi) :=
 bif (leb 0 a1.2.2.2.1) then
 k4
 else
 some ((),(r1.2.1,a1,()))
 let k6:Option (ResD yj×MutD yi) :=
 bnd (yat r1.2.1 3) fun r15 =>
 bif r15.1.1 then
 bnd (yd r15.2.1 a1.2.1.1) fun r16 =>
 bif (inb r16.1.1 a1.2.2.1.length) then
 bnd (yd r16.2.1 a1.2.1.2) fun r17 =>
 let r18:=yaG r17.1.1
 let r19:=yga ((nth a1.2.2.1 r16.1.1 ([],[],false,[])).1,((nth a1.2.2.1 r16.1.1 ([],[],false,[])).2).1,(((nth a1.2.2.1 r16.1.1 ([],[],false,[])).2).2)) r18
 bif (inb r16.1.1 a1.2.2.1.length) then
 some ((),(r17.2.1,(a1.1,a1.2.1,(a1.2.2.1.set (r16.1.1).toNat r19),a1.2.2.2),()))
 else none
 else none
 else
 some ((),(r15.2.1,a1,()))
 let k7:Option (ResD yj×MutD yi) :=
 bif (a1.2.2.2.1==(-1)) then
 k6
 else
 some ((),(r1.2.1,a1,()))
 let k8:Option (ResD yj×MutD yi) :=
 bif (r1.1.1==12) then
 let r14:=yhB a1
 some ((),(r1.2.1,r14,()))
 else
 k7
 let k9:Option (ResD yj×MutD yi) :=
 bif (r1.1.1==10) then
 k5
 else
 k8
 let k10:Option (ResD yj×MutD yi) :=
 bif (r1.1.1==11) then
 k5
 else
 k8
 let k11:Option (ResD yj×MutD yi) :=
 bif (r1.1.1==10) then
 k9
 else
 k10
 let k12:Option (ResD yj×MutD yi) :=
 bif (r1.1.1==9) then
 k3
 else
 k11
 let k13:Option (ResD yj×MutD yi) :=
 bif (r1.1.1==8) then
 k1
 else
 k12
 let k14:Option (ResD yj×MutD yi) :=
 bif (r1.1.1==7) then
 bnd (ymP a1) fun r8 =>
 some ((),(r1.2.1,r8.2.1,()))
 else
 k13
 let k15:Option (ResD yj×MutD yi) :=
 bif (r1.1.1==4) then
 bnd (yd r1.2.1 a1.2.1.2) fun r6 =>
 bnd (yaM a1 r6.1.1) fun r7 =>
 some ((),(r6.2.1,r7.2.1,()))
 else
 k14
 let k16:Option (ResD yj×MutD yi) :=
 bif (r1.1.1==5) then
 bnd (yd r1.2.1 a1.2.1.2) fun r27 =>
 bnd (yaM a1 r27.1.1) fun r28 =>
 some ((),(r27.2.1,r28.2.1,()))
 else
 k14
 let k17:Option (ResD yj×MutD yi) :=
 bif (r1.1.1==6) then
 bnd (yd r1.2.1 a1.2.1.2) fun r48 =>
 bnd (yaM a1 r48.1.1) fun r49 =>
 some ((),(r48.2.1,r49.2.1,()))
 else
 k14
 let k18:Option (ResD yj×MutD yi) :=
 bif (r1.1.1==5) then
 k16
 else
 k17
 let k19:Option (ResD yj×MutD yi) :=
 bif (r1.1.1==4) then
 k15
 else
 k18
 bif (r1.1.1==0) then
 bif (r1.1.1==0) then
 let r2:=ym a1.2.1
 bnd (yd r1.2.1 r2) fun r3 =>
 bnd (yai r3.2.1) fun r4 =>
 bnd (ycw a1 r3.1.1 r4.1.1) fun r5 =>
 some ((),(r4.2.1,r5.2.1,()))
 else
 k19
 else
 bif (r1.1.1==1) then
 bif (r1.1.1==1) then
 let r69:=ym a1.2.1
 bnd (yd r1.2.1 r69) fun r70 =>
 bnd (yai r70.2.1) fun r71 =>
 bnd (ycw a1 r70.1.1 r71.1.1) fun r72 =>
 some ((),(r71.2.1,r72.2.1,()))
 else
 k19
 else
 bif (r1.1.1==2) then
 bif (r1.1.1==2) then
 let r136:=ym a1.2.1
 bnd (yd r1.2.1 r136) fun r137 =>
 bnd (yai r137.2.1) fun r138 =>
 bnd (ycw a1 r137.1.1 r138.1.1) fun r139 =>
 some ((),(r138.2.1,r139.2.1,()))
 else
 k19
 else
 bif (r1.1.1==3) then
 let r203:=ym a1.2.1
 bnd (yd r1.2.1 r203) fun r204 =>
 bnd (yai r204.2.1) fun r205 =>
 bnd (ycw a1 r204.1.1 r205.1.1) fun r206 =>
 some ((),(r205.2.1,r206.2.1,()))
 else
 k19
theorem y3v (x:InD yi):zjx ⟨yLT,160,yWi⟩ Tryz.f210.results.toList yLm yi yj x=ygh x.1 x.2.1:=by kernel_rfl
theorem yZb:ConOk Tryz.prog 210 ⟨yi,yj,fun x=>ygh x.1 x.2.1⟩:=zj2 (yTN) Tryz.func210 (by kernel_rfl) (by kernel_rfl) Tryz.ntmps210.symm (by decide) (fun x r h=>(y3v x).trans h)
def yHw:Con:=⟨yi,yj,fun x=>ygh x.1 x.2.1⟩
theorem y2g:ConOk Tryz.prog 210 yHw:=yZb
def yAl (a:dA) (z:Option (ResD yj×MutD yi)):Prop:= ∃ (u':dU) (a':dA),z=some ((),(u',a',()))∧yG u'∧Turned a a'
def y5U (u:dU) (a:dA):Option (ResD yj×MutD yi) :=
 bnd (yd u (ym a.2.1)) fun r3=>bnd (yai r3.2.1) fun r4=>bnd (ycw a r3.1.1 r4.1.1) fun r5=>some ((),(r4.2.1,r5.2.1,()))
def y2Q (u:dU) (a:dA):Option (ResD yj×MutD yi) :=
 bnd (yd u a.2.1.2) fun r6=>bnd (yaM a r6.1.1) fun r7=>some ((),(r6.2.1,r7.2.1,()))
def y5k (u:dU) (a:dA):Option (ResD yj×MutD yi) :=
 bnd (yat u 3) fun r9=>bif r9.1.1 then (bif (a.2.2.2.1==(-1)) then (bnd (yd r9.2.1 a.2.1.1) fun r10=>bnd (ymM a r10.1.1) fun r11=>some ((),(r10.2.1,r11.2.1,()))) else some ((),(r9.2.1,a,()))) else some ((),(r9.2.1,a,()))
def y2R (u:dU) (a:dA):Option (ResD yj×MutD yi) :=
 bif leb 0 a.2.2.2.1 then (bif inb a.2.2.2.1 a.2.2.1.length then (bif (nth a.2.2.1 a.2.2.2.1 noMem).2.2.1 then (bnd (ykD a) fun r12=>some ((),(u,r12.2.1,()))) else some ((),(u,a,()))) else none) else some ((),(u,a,()))
def y5l (u:dU) (a:dA):Option (ResD yj×MutD yi) :=
 bif leb 0 a.2.2.2.1 then (bif inb a.2.2.2.1 a.2.2.1.length then (bif !(nth a.2.2.1 a.2.2.2.1 noMem).2.2.1 then (bif ltb a.2.2.2.2.1 a.2.1.2 then (bnd (ymN a) fun r13=>some ((),(u,r13.2.1,()))) else some ((),(u,a,()))) else some ((),(u,a,()))) else none) else some ((),(u,a,()))
def yPE (u:dU) (a:dA):Option (ResD yj×MutD yi) :=
 bif (a.2.2.2.1==(-1)) then (bnd (yat u 3) fun r15=>bif r15.1.1 then (bnd (yd r15.2.1 a.2.1.1) fun r16=>bif inb r16.1.1 a.2.2.1.length then (bnd (yd r16.2.1 a.2.1.2) fun r17 =>
 bif inb r16.1.1 a.2.2.1.length then some ((),(r17.2.1,setMem a r16.1.1 (spoil (nth a.2.2.1 r16.1.1 noMem) (dataAt r17.1.1)),())) else none) else none) else some ((),(r15.2.1,a,()))) else some ((),(u,a,()))
theorem yKV {u:dU} {a:dA} (h:yeP a) (hk:ybB a) (hu:yG u):yAl a (y5U u a):=by
 have hg:=yk.1 h.1
 have hd:=yb6 h.2.2.1 h.1
 obtain ⟨b,u1,e1,q1,d1⟩:=yA u (ym a.2.1) hu
 obtain ⟨x,u2,e2,q2,d2⟩:=y5H u1 d1
 have hx:isW x=true:=by rw [ybE]at q2; exact q2
 have hbl:0 < ym a.2.1:=by
  rw [yJ6 h.1]
  exact Int.mul_pos (by omega) (by omega)
 have hb:blkOk a.2.1 b=true:=by
  have:=q1.2.1 hbl
  unfold blkOk
  rw [zkx q1.1,zkx (show b≤ym a.2.1 - 1 by omega)]; rfl
 unfold y5U
 rw [e1,zkd,e2,zkd,yL8 a b x (by unfold ymT; rw [y0e.2 ⟨h,hk⟩,hb]; exact decide_eq_true (show a.2.2.2.2.2.2.2.2.1.length≤1000 by omega)),zkd]
 exact ⟨_,_,rfl,d2,.put b x hb hx⟩
theorem yKU {u:dU} {a:dA} (h:yeP a) (hu:yG u):yAl a (y2Q u a):=by
 have hd:=yb6 h.2.2.1 h.1
 obtain ⟨s,u1,e1,q1,d1⟩:=yA u a.2.1.2 hu
 unfold y2Q
 rw [e1,zkd,yx7 a s (decide_eq_true (show a.2.2.2.2.2.2.2.2.1.length≤1000 by omega)),zkd]
 exact ⟨_,_,rfl,d1,.flush s⟩
theorem y67 {u:dU} {a:dA} (h:yeP a) (hu:yG u):yAl a (bnd (ymP a) fun r8=>some ((),(u,r8.2.1,()))):=by
 have hd:=yb6 h.2.2.1 h.1
 rw [yL7 a (decide_eq_true (show a.2.2.2.2.2.2.2.2.1.length≤1000 by omega)),zkd]
 exact ⟨_,_,rfl,hu,.all⟩
theorem y6J {u:dU} {a:dA} (h:yeP a) (hk:ybB a) (hu:yG u):yAl a (y5k u a):=by
 have hg:=yk.1 h.1
 have hl:=hk.1.2
 obtain ⟨r,u1,e1,d1⟩:=y0h u 3 hu
 unfold y5k
 rw [e1,zkd]
 cases r
 ·exact ⟨_,_,rfl,d1,.same⟩
 ·cases h1:(a.2.2.2.1==(-1))
  ·exact ⟨_,_,rfl,d1,.same⟩
  ·obtain ⟨m,u2,e2,q2,d2⟩:=yA u1 a.2.1.1 d1
   have hm:inb m a.2.2.1.length=true:=zjD.2 ⟨q2.1,by have:=q2.2.1 (by omega); omega⟩
   simp only [cond_true]
   rw [e2,zkd,yZz a m hm,zkd]
   exact ⟨_,_,rfl,d2,.fail m (beq_iff_eq.1 h1) hm⟩
theorem y6d {u:dU} {a:dA} (h:yeP a) (hk:ybB a) (hu:yG u):yAl a (y2R u a):=by
 have hl:=hk.1.2
 have hc:=h.2.2.2.1
 unfold y2R
 cases h0:leb 0 a.2.2.2.1
 ·exact ⟨_,_,rfl,hu,.same⟩
 ·have hi:inb a.2.2.2.1 a.2.2.1.length=true:=zjD.2 ⟨zjE.1 h0,by omega⟩
  rw [hi]
  cases hf:(nth a.2.2.1 a.2.2.2.1 noMem).2.2.1
  ·exact ⟨_,_,rfl,hu,.same⟩
  ·simp only [cond_true]
   rw [yVy a (by unfold ykG; rw [h.1,hi]; rfl),zkd]
   exact ⟨_,_,rfl,hu,.spare hi hf⟩
theorem y2S {u:dU} {a:dA} (h:yeP a) (hk:ybB a) (hu:yG u):yAl a (y5l u a):=by
 have hl:=hk.1.2
 have hc:=h.2.2.2.1
 unfold y5l
 cases h0:leb 0 a.2.2.2.1
 ·exact ⟨_,_,rfl,hu,.same⟩
 ·have h0':=zjE.1 h0
  have hi:inb a.2.2.2.1 a.2.2.1.length=true:=zjD.2 ⟨h0',by omega⟩
  rw [hi]
  cases hf:(nth a.2.2.1 a.2.2.2.1 noMem).2.2.1
  ·cases hb:ltb a.2.2.2.2.1 a.2.1.2
   ·exact ⟨_,_,rfl,hu,.same⟩
   ·simp only [cond_true,Bool.not_false]
    rw [yZA a (by unfold ymR; rw [h.1,hi,zjD.2 (show 0≤a.2.2.2.1∧a.2.2.2.1 < a.2.1.1.toNat by omega)]; rfl),zkd]
    exact ⟨_,_,rfl,hu,.step hi hf (zjH.1 hb)⟩
  ·exact ⟨_,_,rfl,hu,.same⟩
theorem y6e {u:dU} {a:dA} (h:yeP a) (hk:ybB a) (hu:yG u):yAl a (yPE u a):=by
 have hg:=yk.1 h.1
 have hl:=hk.1.2
 unfold yPE
 cases (a.2.2.2.1==(-1))
 ·exact ⟨_,_,rfl,hu,.same⟩
 ·obtain ⟨r,u1,e1,d1⟩:=y0h u 3 hu
  simp only [cond_true]
  rw [e1,zkd]
  cases r
  ·exact ⟨_,_,rfl,d1,.same⟩
  ·obtain ⟨m,u2,e2,q2,d2⟩:=yA u1 a.2.1.1 d1
   have hm:inb m a.2.2.1.length=true:=zjD.2 ⟨q2.1,by have:=q2.2.1 (by omega); omega⟩
   obtain ⟨s,u3,e3,q3,d3⟩:=yA u2 a.2.1.2 d2
   simp only [cond_true]
   rw [e2,zkd]
   simp only [hm,cond_true]
   rw [e3,zkd]
   exact ⟨_,_,rfl,d3,.spoil m s hm q3.1 (q3.2.1 (by omega))⟩
theorem y7h (u:dU) (a:dA) (hu:yG u) (h:yeP a) (hk:ybB a):yAl a (ygh u a):=by
 obtain ⟨r,u1,e1,q1,d1⟩:=yA u 14 hu
 have hr:=q1.2.1 (by omega)
 have h0:=q1.1
 unfold ygh
 rw [e1,zkd]
 have hc:(r=0∨r=1∨r=2∨r=3)∨(r=4∨r=5∨r=6)∨r=7∨r=8∨r=9∨(r=10∨r=11)∨r=12∨r=13:=by omega
 rcases hc with (rfl | rfl | rfl | rfl) | (rfl | rfl | rfl) | rfl | rfl | rfl | (rfl | rfl) | rfl | rfl
 ·exact yKV h hk d1
 ·exact yKV h hk d1
 ·exact yKV h hk d1
 ·exact yKV h hk d1
 ·exact yKU h d1
 ·exact yKU h d1
 ·exact yKU h d1
 ·exact y67 h d1
 ·exact y6J h hk d1
 ·exact y6d h hk d1
 ·exact y2S h hk d1
 ·exact y2S h hk d1
 ·refine ⟨u1,checkA a,?_,d1,.check⟩
  rw [← yL9]; rfl
 ·have:=y6e h hk d1
  unfold yPE at this
  simp only [← ye9]at this
  exact this
end
section
def ynW:Code:=(Tryz.f113.body).getD .skip
def yt8:Env:=zj3 TT [(49,yHn),(150,yz),(209,yJr),(210,yHw)] []
theorem yTI:FrOk Tryz.prog ⟨yt8,24,fun _=>none⟩ ynW:=zj7 yb yc ⟨y14,yO,y4d,y2g,trivial⟩
def yGy:Nat→Option Seg:=fun _=>none
def ycO:Shape:=⟨[(0,false,[.ptr 1000000000 0]),(4,false,[.ptr 0 0]),(5,false,[.ptr 4480 0]),(6,false,[.int .i64])],[(0,[.int .i64,.int .i64,.int .i64,.nil,.int .i64,.int .i64,.int .i64,.int .i64,.int .i64,.nil,.int .i64,.bool,.bool]),(4480,[.int .i64,.int .i64,.int .i64,.at 800000000,.int .i64,.int .i64,.int .i64,.int .i64,.int .i64,.at 800000001,.int .i64,.bool,.bool]),(1000000000,[.fz tY,.int .i64,.int .i64])],[(800000000,tM,(.pr (.ow .fz) (.pr (.ow (.pr .fz .fz)) (.pr .fz (.ow .fz))))),(800000001,tW,(.pr .fz .fz))]⟩
def yic:Shape:=⟨[(0,false,[.ptr 1000000000 0]),(4,false,[.ptr 0 0]),(5,false,[.ptr 4480 0]),(6,false,[.int .i64])],[(0,[.int .i64,.int .i64,.int .i64,.nil,.int .i64,.int .i64,.int .i64,.int .i64,.int .i64,.nil,.int .i64,.bool,.bool]),(4480,[.int .i64,.int .i64,.int .i64,.at 800000000,.int .i64,.int .i64,.int .i64,.int .i64,.int .i64,.at 800000001,.int .i64,.bool,.bool]),(1000000000,[.fz tY,.int .i64,.int .i64])],[(800000000,tM,(.pr (.ow .fz) (.pr (.ow (.pr .fz .fz)) (.pr .fz (.ow .fz))))),(800000001,tW,(.pr .fz .fz))]⟩
def yh0:Shape:=⟨[(4,false,[.ptr 0 0]),(5,false,[.ptr 4480 0])],[(0,[.int .i64,.int .i64,.int .i64,.nil,.int .i64,.int .i64,.int .i64,.int .i64,.int .i64,.nil,.int .i64,.bool,.bool]),(4480,[.int .i64,.int .i64,.int .i64,.at 800000000,.int .i64,.int .i64,.int .i64,.int .i64,.int .i64,.at 800000001,.int .i64,.bool,.bool]),(1000000000,[.fz tY,.int .i64,.int .i64])],[(800000000,tM,(.pr (.ow .fz) (.pr (.ow (.pr .fz .fz)) (.pr .fz (.ow .fz))))),(800000001,tW,(.pr .fz .fz))]⟩
def yng:Shape:=⟨[],[],[]⟩
abbrev yts (v0:Int) (v1 v2:dA) (v3:dU):(ycO).X:=((((),()),((),()),((),()),(v0,()),()),((v1.1,v1.2.1.1,v1.2.1.2,(),v1.2.2.2.1,v1.2.2.2.2.1,v1.2.2.2.2.2.1,v1.2.2.2.2.2.2.1,v1.2.2.2.2.2.2.2.1,(),v1.2.2.2.2.2.2.2.2.2.1,v1.2.2.2.2.2.2.2.2.2.2.1,v1.2.2.2.2.2.2.2.2.2.2.2,()),(v2.1,v2.2.1.1,v2.2.1.2,(),v2.2.2.2.1,v2.2.2.2.2.1,v2.2.2.2.2.2.1,v2.2.2.2.2.2.2.1,v2.2.2.2.2.2.2.2.1,(),v2.2.2.2.2.2.2.2.2.2.1,v2.2.2.2.2.2.2.2.2.2.2.1,v2.2.2.2.2.2.2.2.2.2.2.2,()),(v3.1,v3.2.1,v3.2.2,()),()),(v2.2.2.1,v2.2.2.2.2.2.2.2.2.1,()))
abbrev yRh (v0:Int) (v1 v2:dA) (v3:dU):(yic).X:=((((),()),((),()),((),()),(v0,()),()),((v1.1,v1.2.1.1,v1.2.1.2,(),v1.2.2.2.1,v1.2.2.2.2.1,v1.2.2.2.2.2.1,v1.2.2.2.2.2.2.1,v1.2.2.2.2.2.2.2.1,(),v1.2.2.2.2.2.2.2.2.2.1,v1.2.2.2.2.2.2.2.2.2.2.1,v1.2.2.2.2.2.2.2.2.2.2.2,()),(v2.1,v2.2.1.1,v2.2.1.2,(),v2.2.2.2.1,v2.2.2.2.2.1,v2.2.2.2.2.2.1,v2.2.2.2.2.2.2.1,v2.2.2.2.2.2.2.2.1,(),v2.2.2.2.2.2.2.2.2.2.1,v2.2.2.2.2.2.2.2.2.2.2.1,v2.2.2.2.2.2.2.2.2.2.2.2,()),(v3.1,v3.2.1,v3.2.2,()),()),(v2.2.2.1,v2.2.2.2.2.2.2.2.2.1,()))
abbrev yQ7 (v0 v1:dA) (v2:dU):(yh0).X:=((((),()),((),()),()),((v0.1,v0.2.1.1,v0.2.1.2,(),v0.2.2.2.1,v0.2.2.2.2.1,v0.2.2.2.2.2.1,v0.2.2.2.2.2.2.1,v0.2.2.2.2.2.2.2.1,(),v0.2.2.2.2.2.2.2.2.2.1,v0.2.2.2.2.2.2.2.2.2.2.1,v0.2.2.2.2.2.2.2.2.2.2.2,()),(v1.1,v1.2.1.1,v1.2.1.2,(),v1.2.2.2.1,v1.2.2.2.2.1,v1.2.2.2.2.2.1,v1.2.2.2.2.2.2.1,v1.2.2.2.2.2.2.2.1,(),v1.2.2.2.2.2.2.2.2.2.1,v1.2.2.2.2.2.2.2.2.2.2.1,v1.2.2.2.2.2.2.2.2.2.2.2,()),(v2.1,v2.2.1,v2.2.2,()),()),(v1.2.2.1,v1.2.2.2.2.2.2.2.2.1,()))
def ytL (v0 v1 v2 v3 v4 v5 v6 v7 v8 v9:Int) (v10 v11:Bool) (v12 v13 v14 v15 v16 v17 v18 v19 v20:Int) (v21 v22:Bool) (v23:List Int) (v24 v25:Int) (v26:List dM) (v27:List dW):Option ((ycO).X ⊕ ((yh0).X ⊕ (yng).X)) :=
 bif (ltb 0 v0) then
 bnd (ygh (v23,v24,v25) (v12,(v13,v14),v26,v15,v16,v17,v18,v19,v27,v20,v21,v22)) fun r6 =>
 some (.inl ((((),()),((),()),((),()),((IntKind.i64.wrap (v0 - 1)),()),()),((v1,v2,v3,(),v4,v5,v6,v7,v8,(),v9,v10,v11,()),(r6.2.2.1.1,r6.2.2.1.2.1.1,r6.2.2.1.2.1.2,(),r6.2.2.1.2.2.2.1,r6.2.2.1.2.2.2.2.1,r6.2.2.1.2.2.2.2.2.1,r6.2.2.1.2.2.2.2.2.2.1,r6.2.2.1.2.2.2.2.2.2.2.1,(),r6.2.2.1.2.2.2.2.2.2.2.2.2.1,r6.2.2.1.2.2.2.2.2.2.2.2.2.2.1,r6.2.2.1.2.2.2.2.2.2.2.2.2.2.2,()),(r6.2.1.1,r6.2.1.2.1,r6.2.1.2.2,()),()),(r6.2.2.1.2.2.1,r6.2.2.1.2.2.2.2.2.2.2.2.1,())))
 else
 some (.inr (.inl ((((),()),((),()),()),((v1,v2,v3,(),v4,v5,v6,v7,v8,(),v9,v10,v11,()),(v12,v13,v14,(),v15,v16,v17,v18,v19,(),v20,v21,v22,()),(v23,v24,v25,()),()),(v26,v27,()))))
def ydo (x:(ycO).X):=ytL x.1.2.2.2.1.1 x.2.1.1.1 x.2.1.1.2.1 x.2.1.1.2.2.1 x.2.1.1.2.2.2.2.1 x.2.1.1.2.2.2.2.2.1 x.2.1.1.2.2.2.2.2.2.1 x.2.1.1.2.2.2.2.2.2.2.1 x.2.1.1.2.2.2.2.2.2.2.2.1 x.2.1.1.2.2.2.2.2.2.2.2.2.2.1 x.2.1.1.2.2.2.2.2.2.2.2.2.2.2.1 x.2.1.1.2.2.2.2.2.2.2.2.2.2.2.2.1 x.2.1.2.1.1 x.2.1.2.1.2.1 x.2.1.2.1.2.2.1 x.2.1.2.1.2.2.2.2.1 x.2.1.2.1.2.2.2.2.2.1 x.2.1.2.1.2.2.2.2.2.2.1 x.2.1.2.1.2.2.2.2.2.2.2.1 x.2.1.2.1.2.2.2.2.2.2.2.2.1 x.2.1.2.1.2.2.2.2.2.2.2.2.2.2.1 x.2.1.2.1.2.2.2.2.2.2.2.2.2.2.2.1 x.2.1.2.1.2.2.2.2.2.2.2.2.2.2.2.2.1 x.2.1.2.2.1.1 x.2.1.2.2.1.2.1 x.2.1.2.2.1.2.2.1 x.2.2.1 x.2.2.2.1
def yCQ (x:(yic).X):(ycO).X:=((((),()),((),()),((),()),(x.1.2.2.2.1.1,()),()),((x.2.1.1.1,x.2.1.1.2.1,x.2.1.1.2.2.1,(),x.2.1.1.2.2.2.2.1,x.2.1.1.2.2.2.2.2.1,x.2.1.1.2.2.2.2.2.2.1,x.2.1.1.2.2.2.2.2.2.2.1,x.2.1.1.2.2.2.2.2.2.2.2.1,(),x.2.1.1.2.2.2.2.2.2.2.2.2.2.1,x.2.1.1.2.2.2.2.2.2.2.2.2.2.2.1,x.2.1.1.2.2.2.2.2.2.2.2.2.2.2.2.1,()),(x.2.1.2.1.1,x.2.1.2.1.2.1,x.2.1.2.1.2.2.1,(),x.2.1.2.1.2.2.2.2.1,x.2.1.2.1.2.2.2.2.2.1,x.2.1.2.1.2.2.2.2.2.2.1,x.2.1.2.1.2.2.2.2.2.2.2.1,x.2.1.2.1.2.2.2.2.2.2.2.2.1,(),x.2.1.2.1.2.2.2.2.2.2.2.2.2.2.1,x.2.1.2.1.2.2.2.2.2.2.2.2.2.2.2.1,x.2.1.2.1.2.2.2.2.2.2.2.2.2.2.2.2.1,()),(x.2.1.2.2.1.1,x.2.1.2.2.1.2.1,x.2.1.2.2.1.2.2.1,()),()),(x.2.2.1,x.2.2.2.1,()))
def yEk:Code:=(zdD ynW 64 116).getD .skip
theorem ySP:zdD ynW 64 29=some (.block 0 (.loop yEk)):=by kernel_rfl
theorem yVJ (x:(ycO).X):zg0 ⟨yt8,24,yGy⟩ 0 yEk 116 ycO yh0 yng x=ydo x:=by kernel_rfl
def yC2 (x:(yic).X):Nat:=18446744073709551616
def yvd (x:(yic).X):Option ((yh0).X ⊕ (yng).X):=zz ydo (yC2 x) (yCQ x)
def yDk:Seg:=⟨yic,yh0,yng,yvd⟩
def yGz:Nat→Option Seg:=fun q=>bif Nat.beq q 29 then some yDk else yGy q
theorem yTJ:FrOk Tryz.prog ⟨yt8,24,yGz⟩ ynW:=(yTI).loop (sg:=yDk) ycO yCQ (by decide) ySP ydo yC2 (by decide) (fun _=>rfl) (fun x r _ h=>h) yVJ
abbrev yok:List Par:= [.pt tU .fz,.rd tI]
abbrev yuH:List OT:= [⟨false,tA,(.pr .fz (.pr (.pr .fz .fz) (.pr (.ow (.pr (.ow .fz) (.pr (.ow (.pr .fz .fz)) (.pr .fz (.ow .fz))))) (.pr .fz (.pr .fz (.pr .fz (.pr .fz (.pr .fz (.pr (.ow (.pr .fz .fz)) (.pr .fz (.pr .fz .fz)))))))))))⟩]
def yd2 (a0:dU) (a1:Int):Option (ResD yuH×MutD yok) :=
 bnd (yd a0 2) fun r1 =>
 bnd (yhH r1.2.1) fun r2 =>
 let r3:=yoH (IntKind.i64.wrap (1+r1.1.1)) r2.1.1
 bnd (yd r2.2.1 (IntKind.i64.wrap (a1+1))) fun r4 =>
 zjZ (yvd ((((),()),((),()),((),()),(r4.1.1,()),()),((0,0,0,(),0,0,0,0,0,(),0,false,false,()),(r3.1,r3.2.1.1,r3.2.1.2,(),r3.2.2.2.1,r3.2.2.2.2.1,r3.2.2.2.2.2.1,r3.2.2.2.2.2.2.1,r3.2.2.2.2.2.2.2.1,(),r3.2.2.2.2.2.2.2.2.2.1,r3.2.2.2.2.2.2.2.2.2.2.1,r3.2.2.2.2.2.2.2.2.2.2.2,()),(r4.2.1.1,r4.2.1.2.1,r4.2.1.2.2,()),()),(r3.2.2.1,r3.2.2.2.2.2.2.2.2.1,()))) (fun y6 =>
 some (((y6.2.1.2.1.1,(y6.2.1.2.1.2.1,y6.2.1.2.1.2.2.1),y6.2.2.1,y6.2.1.2.1.2.2.2.2.1,y6.2.1.2.1.2.2.2.2.2.1,y6.2.1.2.1.2.2.2.2.2.2.1,y6.2.1.2.1.2.2.2.2.2.2.2.1,y6.2.1.2.1.2.2.2.2.2.2.2.2.1,y6.2.2.2.1,y6.2.1.2.1.2.2.2.2.2.2.2.2.2.2.1,y6.2.1.2.1.2.2.2.2.2.2.2.2.2.2.2.1,y6.2.1.2.1.2.2.2.2.2.2.2.2.2.2.2.2.1),()),((y6.2.1.2.2.1.1,y6.2.1.2.2.1.2.1,y6.2.1.2.2.1.2.2.1),()))) (fun y6 =>
 none)
theorem y3s (x:InD yok):zjx ⟨yt8,24,yGz⟩ Tryz.f113.results.toList ynW yok yuH x=yd2 x.1 x.2.1:=by kernel_rfl
theorem yY8:ConOk Tryz.prog 113 ⟨yok,yuH,fun x=>yd2 x.1 x.2.1⟩:=zj2 (yTJ) Tryz.func113 (by kernel_rfl) (by kernel_rfl) Tryz.ntmps113.symm (by decide) (fun x r h=>(y3s x).trans h)
def yHu:Con:=⟨yok,yuH,fun x=>yd2 x.1 x.2.1⟩
theorem y2e:ConOk Tryz.prog 113 yHu:=yY8
theorem y2B {P:Int→dA→Prop} {K:Int} (hP: ∀ k a,P k a→yeP a∧ybB a) (hT: ∀ k a b,P k a→Turned a b→k+16≤K→P (k+16) b): ∀ (n:Nat) (k:Int) (a:dA) (u:dU) (fuel:Nat),n < fuel→n≤1000→yG u→P k a→k+16 * n≤K →
  ∃ (a':dA) (u':dU),zz ydo fuel (yts n yaC a u)=some (.inl (yQ7 yaC a' u'))∧yG u'∧P (k+16 * n) a'
 | 0,k,a,u,fuel+1,_,_,hu,h,_=>⟨a,u,by simp only [zz,ydo,yts,ytL]; rfl,hu,by rw [show k+16 * ((0:Nat):Int)=k by omega]; exact h⟩
 | n+1,k,a,u,fuel+1,hf,hn,hu,h,hk=>by
  obtain ⟨hc,hkp⟩:=hP k a h
  obtain ⟨u1,a1,e1,d1,h1⟩:=y7h u a hu hc hkp
  obtain ⟨a',u',e2,d2,h2⟩:=y2B hP hT n (k+16) a1 u1 fuel (by omega) (by omega) d1 (hT k a a1 h h1 (by omega)) (by omega)
  refine ⟨a',u',?_,d2,by rw [show k+16 * ((n+1:Nat):Int)=k+16+16 * (n:Int) by omega]; exact h2⟩
  rw [← e2,zz]
  simp only [ydo,yts,ytL,zj5 (show (0:Int) < ((n+1:Nat):Int) by omega),cond_true,zks,e1,zkd,show ((n+1:Nat):Int) - 1=(n:Int) by omega,wr (show -9223372036854775808≤(n:Int) by omega) (by omega)]
theorem y5X {P:Int→dA→Prop} {K:Int} (hP: ∀ k a,P k a→yeP a∧ybB a) (hT: ∀ k a b,P k a→Turned a b→k+16≤K→P (k+16) b) (h0P: ∀ id g,yg g=true→1≤id→id≤60000→P 0 (yAm id g))
  (u:dU) (most:Int) (h:yG u) (h0:0≤most) (h1:most≤1000) (hm:16 * most≤K): ∃ (a:dA) (u':dU) (k:Int),yd2 u most=some ((a,()),(u',()))∧P k a∧k≤16 * most∧yG u':=by
 obtain ⟨r1,u1,e1,q1,d1⟩:=yA u 2 h
 obtain ⟨g,u2,e2,q2,d2⟩:=y6X u1 d1
 obtain ⟨r3,u3,e3,q3,d3⟩:=yA u2 (most+1) d2
 have:=q1.1; have:=q1.2.1 (by omega); have:=q3.1; have:=q3.2.1 (by omega)
 have hn:=h0P (1+r1) g q2 (by omega) (by omega)
 obtain ⟨a',u',e4,d4,h4⟩:=y2B hP hT r3.toNat 0 (yAm (1+r1) g) u3 18446744073709551616 (by omega) (by omega) d3 hn (by omega)
 rw [show ((r3.toNat:Nat):Int)=r3 by omega]at e4
 unfold yd2
 simp only [e1,e2,zkd,wr (show -9223372036854775808≤most+1 by omega) (by omega),e3,wr (show -9223372036854775808≤1+r1 by omega) (by omega),yoH]
 refine ⟨a',u',_,?_,h4,by omega,d4⟩
 exact (congrArg (fun z=>zjZ z _ _) (show yvd (yRh r3 yaC (yAm (1+r1) g) u3)=_ from e4)).trans rfl
theorem y6q (u:dU) (most:Int) (h:yG u) (h0:0≤most) (h1:most≤1000): ∃ (a:dA) (u':dU),yd2 u most=some ((a,()),(u',()))∧Wk 16000 a∧yG u':=by
 obtain ⟨a,u',k,e,q,hk,d⟩:=y5X (P:=fun k a=>Wk k a∧k≤16000) (K:=16000) (fun k a h=>⟨h.1.1,h.1.2.1⟩) (fun k a b h ht hk=>⟨yep (y6N h.1 ht (by omega)) (by omega),by omega⟩) (fun id g h1 h2 h3=>⟨y7K h1 h2 h3,by omega⟩) u most h h0 h1 (by omega)
 exact ⟨a,u',e,yep q.1 (by omega),d⟩
end
end
end Go.Tf
