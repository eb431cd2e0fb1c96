/- Functions of the program, and what they come to. -/
import Derived.Test.YtgmadfpnljibhaaWordsF9
namespace Go.Tf
noncomputable section
open Go.Proofs
set_option synthInstance.maxHeartbeats 400000
set_option synthInstance.maxSize 10000
set_option linter.unusedVariables false
set_option linter.unusedSimpArgs false
set_option maxRecDepth 100000
section
def yjY:Code:=(Try.f123.body).getD .skip
def yn8:Env:=zki TT [(122,yna)] []
theorem yF6:FrOk Try.prog ⟨yn8,22,fun _=>none⟩ yjY:=zkp yc yd ⟨yvz,trivial⟩
def ywl:Nat→Option Seg:=fun _=>none
def ycD:Shape:=⟨[(0,false,[.ptr 1000000000 0])],[(1000000000,[.int .i64,.int .i64,.int .i64,.at 800000000,.int .i64,.int .i64,.int .i64,.int .i64,.int .i64,.at 800000001,.int .i64,.bool,.bool])],[(800000000,tM,(.pr (.ow .fz) (.pr (.ow (.pr .fz .fz)) (.pr .fz (.ow .fz))))),(800000001,tW,(.pr .fz .fz))]⟩
def yg2:Shape:=⟨[(0,false,[.ptr 1000000000 0])],[(1000000000,[.int .i64,.int .i64,.int .i64,.at 800000000,.int .i64,.int .i64,.int .i64,.int .i64,.int .i64,.at 800000001,.int .i64,.bool,.bool])],[(800000000,tM,(.pr (.ow .fz) (.pr (.ow (.pr .fz .fz)) (.pr .fz (.ow .fz))))),(800000001,tW,(.pr .fz .fz))]⟩
def yg0:Shape:=⟨[],[(1000000000,[.int .i64,.int .i64,.int .i64,.at 800000000,.int .i64,.int .i64,.int .i64,.int .i64,.int .i64,.at 800000001,.int .i64,.bool,.bool])],[(800000000,tM,(.pr (.ow .fz) (.pr (.ow (.pr .fz .fz)) (.pr .fz (.ow .fz))))),(800000001,tW,(.pr .fz .fz))]⟩
def yhb:Shape:=⟨[(2,false,[.int .i64])],[(1000000000,[.int .i64,.int .i64,.int .i64,.at 800000000,.int .i64,.int .i64,.int .i64,.int .i64,.int .i64,.at 800000001,.int .i64,.bool,.bool])],[(800000000,tM,(.pr (.ow .fz) (.pr (.ow (.pr .fz .fz)) (.pr .fz (.ow .fz))))),(800000001,tW,(.pr .fz .fz))]⟩
abbrev yoW (v0:dA):(ycD).X:=((((),()),()),((v0.1,v0.2.1.1,v0.2.1.2,(),v0.2.2.2.1,v0.2.2.2.2.1,v0.2.2.2.2.2.1,v0.2.2.2.2.2.2.1,v0.2.2.2.2.2.2.2.1,(),v0.2.2.2.2.2.2.2.2.2.1,v0.2.2.2.2.2.2.2.2.2.2.1,v0.2.2.2.2.2.2.2.2.2.2.2,()),()),(v0.2.2.1,v0.2.2.2.2.2.2.2.2.1,()))
abbrev yGl (v0:dA):(yg2).X:=((((),()),()),((v0.1,v0.2.1.1,v0.2.1.2,(),v0.2.2.2.1,v0.2.2.2.2.1,v0.2.2.2.2.2.1,v0.2.2.2.2.2.2.1,v0.2.2.2.2.2.2.2.1,(),v0.2.2.2.2.2.2.2.2.2.1,v0.2.2.2.2.2.2.2.2.2.2.1,v0.2.2.2.2.2.2.2.2.2.2.2,()),()),(v0.2.2.1,v0.2.2.2.2.2.2.2.2.1,()))
abbrev yGj (v0:dA):(yg0).X:=((),((v0.1,v0.2.1.1,v0.2.1.2,(),v0.2.2.2.1,v0.2.2.2.2.1,v0.2.2.2.2.2.1,v0.2.2.2.2.2.2.1,v0.2.2.2.2.2.2.2.1,(),v0.2.2.2.2.2.2.2.2.2.1,v0.2.2.2.2.2.2.2.2.2.2.1,v0.2.2.2.2.2.2.2.2.2.2.2,()),()),(v0.2.2.1,v0.2.2.2.2.2.2.2.2.1,()))
abbrev yGn (v0:Int) (v1:dA):(yhb).X:=(((v0,()),()),((v1.1,v1.2.1.1,v1.2.1.2,(),v1.2.2.2.1,v1.2.2.2.2.1,v1.2.2.2.2.2.1,v1.2.2.2.2.2.2.1,v1.2.2.2.2.2.2.2.1,(),v1.2.2.2.2.2.2.2.2.2.1,v1.2.2.2.2.2.2.2.2.2.2.1,v1.2.2.2.2.2.2.2.2.2.2.2,()),()),(v1.2.2.1,v1.2.2.2.2.2.2.2.2.1,()))
def ypk (v0:Int) (v1:Int) (v2:Int) (v3:Int) (v4:Int) (v5:Int) (v6:Int) (v7:Int) (v8:Int) (v9:Bool) (v10:Bool) (v11:List dM) (v12:List dW):Option ((ycD).X ⊕ ((yg0).X ⊕ (yhb).X)) :=
  bif (ltb 0 (v12.length:Int)) then
    bif (inb 0 v12.length) then
      bnd (ybp (v0,(v1,v2),v11,v3,v4,v5,v6,v7,v12,v8,v9,v10) ((nth v12 0 (0,[])).1)) fun r2 =>
      bif (r2.1.1 !=0) then
        some (.inr (.inr (((r2.1.1,()),()),((r2.2.1.1,r2.2.1.2.1.1,r2.2.1.2.1.2,(),r2.2.1.2.2.2.1,r2.2.1.2.2.2.2.1,r2.2.1.2.2.2.2.2.1,r2.2.1.2.2.2.2.2.2.1,r2.2.1.2.2.2.2.2.2.2.1,(),r2.2.1.2.2.2.2.2.2.2.2.2.1,r2.2.1.2.2.2.2.2.2.2.2.2.2.1,r2.2.1.2.2.2.2.2.2.2.2.2.2.2,()),()),(r2.2.1.2.2.1,r2.2.1.2.2.2.2.2.2.2.2.1,()))))
      else
        some (.inl ((((),()),()),((r2.2.1.1,r2.2.1.2.1.1,r2.2.1.2.1.2,(),r2.2.1.2.2.2.1,r2.2.1.2.2.2.2.1,r2.2.1.2.2.2.2.2.1,r2.2.1.2.2.2.2.2.2.1,r2.2.1.2.2.2.2.2.2.2.1,(),r2.2.1.2.2.2.2.2.2.2.2.2.1,r2.2.1.2.2.2.2.2.2.2.2.2.2.1,r2.2.1.2.2.2.2.2.2.2.2.2.2.2,()),()),(r2.2.1.2.2.1,r2.2.1.2.2.2.2.2.2.2.2.1,())))
    else none
  else
    some (.inr (.inl ((),((v0,v1,v2,(),v3,v4,v5,v6,v7,(),v8,v9,v10,()),()),(v11,v12,()))))
def ycK (x:(ycD).X):=ypk x.2.1.1.1 x.2.1.1.2.1 x.2.1.1.2.2.1 x.2.1.1.2.2.2.2.1 x.2.1.1.2.2.2.2.2.1 x.2.1.1.2.2.2.2.2.2.1 x.2.1.1.2.2.2.2.2.2.2.1 x.2.1.1.2.2.2.2.2.2.2.2.1 x.2.1.1.2.2.2.2.2.2.2.2.2.2.1 x.2.1.1.2.2.2.2.2.2.2.2.2.2.2.1 x.2.1.1.2.2.2.2.2.2.2.2.2.2.2.2.1 x.2.2.1 x.2.2.2.1
def yvo (x:(yg2).X):(ycD).X:=((((),()),()),((x.2.1.1.1,x.2.1.1.2.1,x.2.1.1.2.2.1,(),x.2.1.1.2.2.2.2.1,x.2.1.1.2.2.2.2.2.1,x.2.1.1.2.2.2.2.2.2.1,x.2.1.1.2.2.2.2.2.2.2.1,x.2.1.1.2.2.2.2.2.2.2.2.1,(),x.2.1.1.2.2.2.2.2.2.2.2.2.2.1,x.2.1.1.2.2.2.2.2.2.2.2.2.2.2.1,x.2.1.1.2.2.2.2.2.2.2.2.2.2.2.2.1,()),()),(x.2.2.1,x.2.2.2.1,()))
def ywD:Code:=(zdI yjY 64 24).getD .skip
theorem yH2:zdI yjY 64 6=some (.block 0 (.loop ywD)):=by kernel_rfl
theorem yJN (x:(ycD).X):zg7 ⟨yn8,22,ywl⟩ 0 ywD 24 ycD yg0 yhb x=ycK x:=by kernel_rfl
def yvs (x:(yg2).X):Nat:=(fun (u0:Int) (u1:Int) (u2:Int) (u3:Int) (u4:Int) (u5:Int) (u6:Int) (u7:Int) (u8:Int) (u9:Bool) (u10:Bool) (u11:List dM) (u12:List dW)=>18446744073709551616) x.2.1.1.1 x.2.1.1.2.1 x.2.1.1.2.2.1 x.2.1.1.2.2.2.2.1 x.2.1.1.2.2.2.2.2.1 x.2.1.1.2.2.2.2.2.2.1 x.2.1.1.2.2.2.2.2.2.2.1 x.2.1.1.2.2.2.2.2.2.2.2.1 x.2.1.1.2.2.2.2.2.2.2.2.2.2.1 x.2.1.1.2.2.2.2.2.2.2.2.2.2.2.1 x.2.1.1.2.2.2.2.2.2.2.2.2.2.2.2.1 x.2.2.1 x.2.2.2.1
def ypz (x:(yg2).X):Option ((yg0).X ⊕ (yhb).X):=zr ycK (yvs x) (yvo x)
def yvC:Seg:=⟨yg2,yg0,yhb,ypz⟩
def ywm:Nat→Option Seg:=fun q=>bif Nat.beq q 6 then some yvC else ywl q
theorem yF7:FrOk Try.prog ⟨yn8,22,ywm⟩ yjY:=(yF6).loop (sg:=yvC) ycD yvo (by decide) yH2 ycK yvs (by decide) (fun _=>rfl) (fun x r _ h=>h) yJN
abbrev yed:List Par:= [.pt tA (.pr .fz (.pr (.pr .fz .fz) (.pr (.ow (.pr (.ow .fz) (.pr (.ow (.pr .fz .fz)) (.pr .fz (.ow .fz))))) (.pr .fz (.pr .fz (.pr .fz (.pr .fz (.pr .fz (.pr (.ow (.pr .fz .fz)) (.pr .fz (.pr .fz .fz)))))))))))]
abbrev yj9:List OT:= [⟨false,tI,.fz⟩]
def ylh (a0:dA):Option (ResD yj9×MutD yed) :=
  zjw (ypz ((((),()),()),((a0.1,a0.2.1.1,a0.2.1.2,(),a0.2.2.2.1,a0.2.2.2.2.1,a0.2.2.2.2.2.1,a0.2.2.2.2.2.2.1,a0.2.2.2.2.2.2.2.1,(),a0.2.2.2.2.2.2.2.2.2.1,a0.2.2.2.2.2.2.2.2.2.2.1,a0.2.2.2.2.2.2.2.2.2.2.2,()),()),(a0.2.2.1,a0.2.2.2.2.2.2.2.2.1,()))) (fun y2 =>
    some ((0,()),((y2.2.1.1.1,(y2.2.1.1.2.1,y2.2.1.1.2.2.1),y2.2.2.1,y2.2.1.1.2.2.2.2.1,y2.2.1.1.2.2.2.2.2.1,y2.2.1.1.2.2.2.2.2.2.1,y2.2.1.1.2.2.2.2.2.2.2.1,y2.2.1.1.2.2.2.2.2.2.2.2.1,y2.2.2.2.1,y2.2.1.1.2.2.2.2.2.2.2.2.2.2.1,y2.2.1.1.2.2.2.2.2.2.2.2.2.2.2.1,y2.2.1.1.2.2.2.2.2.2.2.2.2.2.2.2.1),()))) (fun y2 =>
    some ((y2.1.1.1,()),((y2.2.1.1.1,(y2.2.1.1.2.1,y2.2.1.1.2.2.1),y2.2.2.1,y2.2.1.1.2.2.2.2.1,y2.2.1.1.2.2.2.2.2.1,y2.2.1.1.2.2.2.2.2.2.1,y2.2.1.1.2.2.2.2.2.2.2.1,y2.2.1.1.2.2.2.2.2.2.2.2.1,y2.2.2.2.1,y2.2.1.1.2.2.2.2.2.2.2.2.2.2.1,y2.2.1.1.2.2.2.2.2.2.2.2.2.2.2.1,y2.2.1.1.2.2.2.2.2.2.2.2.2.2.2.2.1),())))
theorem yL5 (x:InD yed):zjH ⟨yn8,22,ywm⟩ Try.f123.results.toList yjY yed yj9 x=ylh x.1:=by kernel_rfl
theorem yJk:ConOk Try.prog 123 ⟨yed,yj9,fun x=>ylh x.1⟩:=zkh (yF7) Try.func123 (by kernel_rfl) (by kernel_rfl) Try.ntmps123.symm (by decide) (fun x r h=>(yL5 x).trans h)
def yoZ (a0:dA):Int×dA:=allE a0
def ytG (a0:dA):Bool:=decide (a0.2.2.2.2.2.2.2.2.1.length≤1000)
theorem yLh (a0:dA) (hk:zi9 yed (a0,())) (hq:ytG a0=true):ylh a0=(fun n=>some ((n.1,()),(n.2,()))) (yoZ a0):=by
  have hq:=of_decide_eq_true hq
  have h1:=zkr (step:=ycK) a0.2.2.2.2.2.2.2.2.1.length (fun _ s=>yoW s) ypB (fun i s=>s.2.2.2.2.2.2.2.2.1.length+i=a0.2.2.2.2.2.2.2.2.1.length) (fun b=>(0,b))
    (fun r=>bif r.1==0 then .inl (yGj r.2) else .inr (yGn r.1 r.2)) (fun i s hi hs=>by
      have hp:0 < s.2.2.2.2.2.2.2.2.1.length:=by omega
      constructor
      · simp only [ycK,yoW,ypk,zkV,zjI (show (0:Int) < (s.2.2.2.2.2.2.2.2.1.length:Int) by omega),cond_true,show inb 0 s.2.2.2.2.2.2.2.2.1.length=true from zkO (i:=0) hp]
        rw [yvB s (nth s.2.2.2.2.2.2.2.2.1 0 (0,[])).1 (decide_eq_true (show s.2.2.2.2.2.2.2.2.1.length≤1000 by omega))]
        simp only [zky,yhs]
        unfold ypB
        generalize flushE s (nth s.2.2.2.2.2.2.2.2.1 0 (0,[])).1=R
        cases hr:(R.1 !=0)
        · rfl
        · simp only [cond_true]
          rw [show (R.1==0)=false from beq_eq_false_iff_ne.2 (bne_iff_ne.1 hr)]; rfl
      · intro s' h
        unfold ypB at h
        cases hr:((flushE s (nth s.2.2.2.2.2.2.2.2.1 0 (0,[])).1).1 !=0)
        · rw [hr]at h
          simp only [cond_false,Sum.inl.injEq]at h
          rw [← h,yNk hp (bne_eq_false_iff_eq.1 hr),List.length_drop]; omega
        · rw [hr]at h; cases h) (fun s hs=>by
      simp only [ycK,yoW,ypk,show ltb 0 (s.2.2.2.2.2.2.2.2.1.length:Int)=false from zkm (by omega)]; rfl) a0 rfl 18446744073709551616 (by omega)
  unfold ylh yoZ allE
  refine (congrArg (fun z=>zjw z _ _) (show ypz (yGl a0)=_ from h1)).trans ?_
  generalize goE ypB (fun b=>(0,b)) a0.2.2.2.2.2.2.2.2.1.length 0 a0=R
  cases hr:(R.1==0)
  · rfl
  · simp only [cond_true,zkJ,zkV]
    rw [show R.1=0 from beq_iff_eq.1 hr]
def ykn (a0:dA):Option (ResD yj9×MutD yed):=bif ytG a0 then (fun n=>some ((n.1,()),(n.2,()))) (yoZ a0) else none
theorem yLy (a0:dA) (h:ytG a0=true):ykn a0=(fun n=>some ((n.1,()),(n.2,()))) (yoZ a0):=by unfold ykn; rw [h]; rfl
def ywN:Con:=⟨yed,yj9,fun x=>ykn x.1⟩
theorem yLv:ConOk Try.prog 123 ywN:=(yJk).mono (fun x r hk h=>zkW h (fun hq=>yLh x.1 hk hq))
end
section
def yvU:Code:=(Try.f154.body).getD .skip
def ywr:Env:=zki TT [(98,yfS)] [(12288,(.pr .fz .fz))]
theorem yAV:FrOk Try.prog ⟨ywr,10,fun _=>none⟩ yvU:=zkp yc yd ⟨yk6,trivial⟩
def yB7:Nat→Option Seg:=fun _=>none
abbrev ygR:List Par:= [.rd tM]
abbrev ykO:List OT:= [⟨false,tM,(.pr (.ow .fz) (.pr (.ow (.pr .fz .fz)) (.pr .fz (.ow .fz))))⟩]
def ynq (a0:dM):Option (ResD ykO×MutD ygR) :=
  let r1:=yO a0
  some (((r1.1,([]:List dW),true,r1.2.2.2),()),())
theorem yIe (x:InD ygR):zjH ⟨ywr,10,yB7⟩ Try.f154.results.toList yvU ygR ykO x=ynq x.1:=by kernel_rfl
theorem yD5:ConOk Try.prog 154 ⟨ygR,ykO,fun x=>ynq x.1⟩:=zkh (yAV) Try.func154 (by kernel_rfl) (by kernel_rfl) Try.ntmps154.symm (by decide) (fun x r h=>(yIe x).trans h)
def ykZ (a0:dM):dM :=
  let r1:=yO a0
  (r1.1,([]:List dW),true,r1.2.2.2)
def ysP:Con:=⟨ygR,ykO,fun x=>(fun n=>some ((n,()),())) (ykZ x.1)⟩
theorem yGv (a0:dM):ynq a0=(fun n=>some ((n,()),())) (ykZ a0):=zkS (p:=fun (n:dM)=>((n,()),())) rfl
theorem yHl:ConOk Try.prog 154 ysP:=(yD5).mono (fun x r _ h=>(yGv x.1).trans h)
end
section
def yvX:Code:=(Try.f124.body).getD .skip
def ywu:Env:=zki TT [(154,ysP),(155,yjt)] []
theorem yA0:FrOk Try.prog ⟨ywu,62,fun _=>none⟩ yvX:=zkp yc yd ⟨yHl,ypN,trivial⟩
def yCa:Nat→Option Seg:=fun _=>none
abbrev ycw:List Par:= [.pt tA (.pr .fz (.pr (.pr .fz .fz) (.pr (.ow (.pr (.ow .fz) (.pr (.ow (.pr .fz .fz)) (.pr .fz (.ow .fz))))) (.pr .fz (.pr .fz (.pr .fz (.pr .fz (.pr .fz (.pr (.ow (.pr .fz .fz)) (.pr .fz (.pr .fz .fz))))))))))),.rd tI]
abbrev yg5:List OT:= []
def yh1 (a0:dA) (a1:Int):Option (ResD yg5×MutD ycw) :=
  bif (inb a1 a0.2.2.1.length) then
    let r1:=ykZ ((nth a0.2.2.1 a1 ([],[],false,[])).1,((nth a0.2.2.1 a1 ([],[],false,[])).2).1,(((nth a0.2.2.1 a1 ([],[],false,[])).2).2))
    bif (inb a1 a0.2.2.1.length) then
      bif (!(a0.2.2.2.1==(-1))) then
        bif (a0.2.2.2.1==a1) then
          bif (!a0.2.2.2.2.2.2.2.2.2.2.1) then
            bif (!a0.2.2.2.2.2.2.2.2.2.2.2) then
              bif (ltb a0.2.2.2.2.2.2.2.1 60000) then
                let r2:=yaa (a0.1,a0.2.1,(a0.2.2.1.set (a1).toNat r1),a1,0,a0.2.2.2.2.2)
                some ((),(r2,()))
              else
                some ((),((a0.1,a0.2.1,(a0.2.2.1.set (a1).toNat r1),a1,0,a0.2.2.2.2.2),()))
            else
              some ((),((a0.1,a0.2.1,(a0.2.2.1.set (a1).toNat r1),a1,0,a0.2.2.2.2.2),()))
          else
            some ((),((a0.1,a0.2.1,(a0.2.2.1.set (a1).toNat r1),a1,0,a0.2.2.2.2.2),()))
        else
          bif (!a0.2.2.2.2.2.2.2.2.2.2.1) then
            some ((),((a0.1,a0.2.1,(a0.2.2.1.set (a1).toNat r1),a0.2.2.2.1,a0.2.2.2.2.1,a0.2.2.2.2.2.1,a0.2.2.2.2.2.2.1,a0.2.2.2.2.2.2.2.1,a0.2.2.2.2.2.2.2.2.1,a0.2.2.2.2.2.2.2.2.2.1,a0.2.2.2.2.2.2.2.2.2.2.1,true),()))
          else
            some ((),((a0.1,a0.2.1,(a0.2.2.1.set (a1).toNat r1),a0.2.2.2.1,a0.2.2.2.2.1,a0.2.2.2.2.2.1,a0.2.2.2.2.2.2.1,a0.2.2.2.2.2.2.2.1,a0.2.2.2.2.2.2.2.2.1,a0.2.2.2.2.2.2.2.2.2.1,a0.2.2.2.2.2.2.2.2.2.2.1,true),()))
      else
        bif (!a0.2.2.2.2.2.2.2.2.2.2.1) then
          bif (!a0.2.2.2.2.2.2.2.2.2.2.2) then
            bif (ltb a0.2.2.2.2.2.2.2.1 60000) then
              let r3:=yaa (a0.1,a0.2.1,(a0.2.2.1.set (a1).toNat r1),a1,0,a0.2.2.2.2.2)
              some ((),(r3,()))
            else
              some ((),((a0.1,a0.2.1,(a0.2.2.1.set (a1).toNat r1),a1,0,a0.2.2.2.2.2),()))
          else
            some ((),((a0.1,a0.2.1,(a0.2.2.1.set (a1).toNat r1),a1,0,a0.2.2.2.2.2),()))
        else
          some ((),((a0.1,a0.2.1,(a0.2.2.1.set (a1).toNat r1),a1,0,a0.2.2.2.2.2),()))
    else none
  else none
theorem yIi (x:InD ycw):zjH ⟨ywu,62,yCa⟩ Try.f124.results.toList yvX ycw yg5 x=yh1 x.1 x.2.1:=by kernel_rfl
theorem yD9:ConOk Try.prog 124 ⟨ycw,yg5,fun x=>yh1 x.1 x.2.1⟩:=zkh (yA0) Try.func124 (by kernel_rfl) (by kernel_rfl) Try.ntmps124.symm (by decide) (fun x r h=>(yIi x).trans h)
def yk0 (a0:dA) (a1:Int):dA:=failOne a0 a1
def ypQ (a0:dA) (a1:Int):Bool:=inb a1 a0.2.2.1.length
theorem yGz (a0:dA) (a1:Int) (hk:zi9 ycw (a0,a1,())) (hq:ypQ a0 a1=true):yh1 a0 a1=(fun n=>some ((),(n,()))) (yk0 a0 a1):=by
  have hq:inb a1 a0.2.2.1.length=true:=hq
  unfold yh1 yk0 failOne ycG yFz yhe downA
  simp only [hq,zkV,ykZ,yO,yaa]
  cases (a0.2.2.2.1== -1)<;>cases (a0.2.2.2.1==a1)<;>cases a0.2.2.2.2.2.2.2.2.2.2.1<;>cases a0.2.2.2.2.2.2.2.2.2.2.2<;>cases ltb a0.2.2.2.2.2.2.2.1 60000<;>rfl
def yhu (a0:dA) (a1:Int):Option (ResD yg5×MutD ycw):=bif ypQ a0 a1 then (fun n=>some ((),(n,()))) (yk0 a0 a1) else none
theorem yHu (a0:dA) (a1:Int) (h:ypQ a0 a1=true):yhu a0 a1=(fun n=>some ((),(n,()))) (yk0 a0 a1):=by unfold yhu; rw [h]; rfl
def ysT:Con:=⟨ycw,yg5,fun x=>yhu x.1 x.2.1⟩
theorem yHp:ConOk Try.prog 124 ysT:=(yD9).mono (fun x r hk h=>zkW h (fun hq=>yGz x.1 x.2.1 hk hq))
end
section
def yt9:Code:=(Try.f125.body).getD .skip
def yuE:Env:=zki TT [(117,yoN),(118,yjs),(155,yjt)] []
theorem yzD:FrOk Try.prog ⟨yuE,27,fun _=>none⟩ yt9:=zkp yc yd ⟨yw5,ypM,ypN,trivial⟩
def yAw:Nat→Option Seg:=fun _=>none
abbrev ybC:List Par:= [.pt tA (.pr .fz (.pr (.pr .fz .fz) (.pr (.ow (.pr (.ow .fz) (.pr (.ow (.pr .fz .fz)) (.pr .fz (.ow .fz))))) (.pr .fz (.pr .fz (.pr .fz (.pr .fz (.pr .fz (.pr (.ow (.pr .fz .fz)) (.pr .fz (.pr .fz .fz)))))))))))]
abbrev yfI:List OT:= [⟨false,tI,.fz⟩]
def ygy (a0:dA):Option (ResD yfI×MutD ybC) :=
  let r1:=yaZ a0.2.1
  let r2:=yci r1
  bif (inb a0.2.2.2.1 a0.2.2.1.length) then
    let r3:=yaa (a0.1,a0.2.1,(a0.2.2.1.set (a0.2.2.2.1).toNat r2),a0.2.2.2.1,0,a0.2.2.2.2.2)
    bif r3.2.2.2.2.2.2.2.2.2.2.1 then
      some ((6,()),(r3,()))
    else
      some ((0,()),(r3,()))
  else none
theorem yFw (x:InD ybC):zjH ⟨yuE,27,yAw⟩ Try.f125.results.toList yt9 ybC yfI x=ygy x.1:=by kernel_rfl
theorem yBF:ConOk Try.prog 125 ⟨ybC,yfI,fun x=>ygy x.1⟩:=zkh (yzD) Try.func125 (by kernel_rfl) (by kernel_rfl) Try.ntmps125.symm (by decide) (fun x r h=>(yFw x).trans h)
def yjx (a0:dA):Int×dA:=(bif downA (markA (spareNew a0)) then 6 else 0,markA (spareNew a0))
def yf1 (a0:dA):Bool:=yb a0.2.1&&inb a0.2.2.2.1 a0.2.2.1.length
theorem yDW (a0:dA) (hk:zi9 ybC (a0,())) (hq:yf1 a0=true):ygy a0=(fun n=>some ((n.1,()),(n.2,()))) (yjx a0):=by
  simp only [yf1,Bool.and_eq_true]at hq
  have hg:=yk.1 hq.1
  unfold ygy yjx
  simp only [yaZ,wr (show -9223372036854775808≤6+a0.2.1.2 by omega) (by omega),hq.2,yci,yaa]
  show (bif downA (markA (spareNew a0)) then some ((6,()),(markA (spareNew a0),())) else some ((0,()),(markA (spareNew a0),())))=_
  cases downA (markA (spareNew a0))<;>rfl
def yfY (a0:dA):Option (ResD yfI×MutD ybC):=bif yf1 a0 then (fun n=>some ((n.1,()),(n.2,()))) (yjx a0) else none
theorem yEp (a0:dA) (h:yf1 a0=true):yfY a0=(fun n=>some ((n.1,()),(n.2,()))) (yjx a0):=by unfold yfY; rw [h]; rfl
def yrp:Con:=⟨ybC,yfI,fun x=>yfY x.1⟩
theorem yEn:ConOk Try.prog 125 yrp:=(yBF).mono (fun x r hk h=>zkW h (fun hq=>yDW x.1 hk hq))
end
section
def yvY:Code:=(Try.f126.body).getD .skip
def ywv:Env:=zki TT [(62,ydd),(156,ym8),(157,yhd)] []
theorem yA1:FrOk Try.prog ⟨ywv,49,fun _=>none⟩ yvY:=zkp yc yd ⟨yhx,yvx,ymR,trivial⟩
def yCb:Nat→Option Seg:=fun _=>none
abbrev ycx:List Par:= [.pt tA (.pr .fz (.pr (.pr .fz .fz) (.pr (.ow (.pr (.ow .fz) (.pr (.ow (.pr .fz .fz)) (.pr .fz (.ow .fz))))) (.pr .fz (.pr .fz (.pr .fz (.pr .fz (.pr .fz (.pr (.ow (.pr .fz .fz)) (.pr .fz (.pr .fz .fz)))))))))))]
abbrev yg6:List OT:= [⟨false,tI,.fz⟩]
def yh2 (a0:dA):Option (ResD yg6×MutD ycx) :=
  bnd (yhw a0 a0.2.2.2.2.1) fun r1 =>
  bif (!r1.1.2.1) then
    some ((5,()),(a0,()))
  else
    let r2:=yax a0.2.2.2.2.1
    bif (inb a0.2.2.2.1 r1.1.1.length) then
      bnd (ycZ a0 a0.2.2.2.1 r2 ([(nth r1.1.1 a0.2.2.2.1 0)]:List Int)) fun r3 =>
      bif r3.2.1.2.2.2.2.2.2.2.2.2.2.1 then
        some ((6,()),(r3.2.1,()))
      else
        some ((0,()),((r3.2.1.1,r3.2.1.2.1,r3.2.1.2.2.1,r3.2.1.2.2.2.1,(IntKind.i64.wrap (r3.2.1.2.2.2.2.1+1)),r3.2.1.2.2.2.2.2),()))
    else none
theorem yIj (x:InD ycx):zjH ⟨ywv,49,yCb⟩ Try.f126.results.toList yvY ycx yg6 x=yh2 x.1:=by kernel_rfl
theorem yEa:ConOk Try.prog 126 ⟨ycx,yg6,fun x=>yh2 x.1⟩:=zkh (yA1) Try.func126 (by kernel_rfl) (by kernel_rfl) Try.ntmps126.symm (by decide) (fun x r h=>(yIj x).trans h)
def yk1 (a0:dA):Int×dA:=stepOne a0
def yhy (a0:dA):Bool:=yb a0.2.1&&(inb a0.2.2.2.1 a0.2.2.1.length&&inb a0.2.2.2.1 a0.2.1.1.toNat)
theorem yGA (a0:dA) (hk:zi9 ycx (a0,())) (hq:yhy a0=true):yh2 a0=(fun n=>some ((n.1,()),(n.2,()))) (yk1 a0):=by
  simp only [yhy,Bool.and_eq_true]at hq
  unfold yh2 yk1 stepOne
  rw [yvA a0 a0.2.2.2.2.1 hq.1]
  simp only [zky,yd3,yd8]
  cases hw:(yv a0 a0.2.2.2.2.1).2
  · rfl
  · rw [yAf hw,hq.2.2,yiU a0 a0.2.2.2.1 (dataAt a0.2.2.2.2.1) [nth (yv a0 a0.2.2.2.2.1).1 a0.2.2.2.1 0] hq.2.1]
    simp only [zky,ykm,Bool.not_true,cond_false,cond_true]
    show (bif downA (yG a0) then some ((6,()),(yG a0,())) else some ((0,()),(yNS (yG a0),())))=_
    cases downA (yG a0)<;>rfl
def yhv (a0:dA):Option (ResD yg6×MutD ycx):=bif yhy a0 then (fun n=>some ((n.1,()),(n.2,()))) (yk1 a0) else none
theorem yHv (a0:dA) (h:yhy a0=true):yhv a0=(fun n=>some ((n.1,()),(n.2,()))) (yk1 a0):=by unfold yhv; rw [h]; rfl
def ysU:Con:=⟨ycx,yg6,fun x=>yhv x.1⟩
theorem yHq:ConOk Try.prog 126 ysU:=(yEa).mono (fun x r hk h=>zkW h (fun hq=>yGA x.1 hk hq))
end
section
def yx3:Code:=(Try.f79.body).getD .skip
def yyt:Env:=zki TT [(47,ycF),(61,yrm),(62,ydd),(86,yvc),(89,yjr),(120,ywP),(121,yvb),(122,yna),(123,ywN),(124,ysT),(125,yrp),(126,ysU),(127,ym9)] []
theorem yC9:FrOk Try.prog ⟨yyt,160,fun _=>none⟩ yx3:=zkp yc yd ⟨yfZ,yEk,yhx,yJA,ypL,yLx,yJz,yvz,yLv,yHp,yEn,yHq,yvy,trivial⟩
def yE1:Nat→Option Seg:=fun _=>none
abbrev yg:List Par:= [.pt tU .fz,.pt tA (.pr .fz (.pr (.pr .fz .fz) (.pr (.ow (.pr (.ow .fz) (.pr (.ow (.pr .fz .fz)) (.pr .fz (.ow .fz))))) (.pr .fz (.pr .fz (.pr .fz (.pr .fz (.pr .fz (.pr (.ow (.pr .fz .fz)) (.pr .fz (.pr .fz .fz)))))))))))]
abbrev yh:List OT:= []
def ydf (a0:dU) (a1:dA):Option (ResD yh×MutD yg) :=
  bnd (ye a0 14) fun r1 =>
  let k1:Option (ResD yh×MutD yg) :=
    bnd (yam r1.2.1 3) fun r9 =>
    bif r9.1.1 then
      bif (a1.2.2.2.1==(-1)) then
        bnd (ye r9.2.1 a1.2.1.1) fun r10 =>
        bnd (yhu a1 r10.1.1) fun r11 =>
        some ((),(r10.2.1,r11.2.1,()))
      else
        some ((),(r9.2.1,a1,()))
    else
      some ((),(r9.2.1,a1,()))
  let k2:Option (ResD yh×MutD yg) :=
    bif (inb a1.2.2.2.1 a1.2.2.1.length) then
      bif (((nth a1.2.2.1 a1.2.2.2.1 ([],[],false,[])).2).2).1 then
        bnd (yfY a1) fun r12 =>
        some ((),(r1.2.1,r12.2.1,()))
      else
        some ((),(r1.2.1,a1,()))
    else none
  let k3:Option (ResD yh×MutD yg) :=
    bif (leb 0 a1.2.2.2.1) then
      k2
    else
      some ((),(r1.2.1,a1,()))
  let k4:Option (ResD yh×MutD yg) :=
    bif (inb a1.2.2.2.1 a1.2.2.1.length) then
      bif (!((((nth a1.2.2.1 a1.2.2.2.1 ([],[],false,[])).2).2).1)) then
        bif (ltb a1.2.2.2.2.1 a1.2.1.2) then
          bnd (yhv a1) fun r13 =>
          some ((),(r1.2.1,r13.2.1,()))
        else
          some ((),(r1.2.1,a1,()))
      else
        some ((),(r1.2.1,a1,()))
    else none
  let k5:Option (ResD yh×MutD yg) :=
    bif (leb 0 a1.2.2.2.1) then
      k4
    else
      some ((),(r1.2.1,a1,()))
  let k6:Option (ResD yh×MutD yg) :=
    bnd (yam r1.2.1 3) fun r15 =>
    bif r15.1.1 then
      bnd (ye r15.2.1 a1.2.1.1) fun r16 =>
      bif (inb r16.1.1 a1.2.2.1.length) then
        bnd (ye r16.2.1 a1.2.1.2) fun r17 =>
        let r18:=yax r17.1.1
        let r19:=yjw ((nth a1.2.2.1 r16.1.1 ([],[],false,[])).1,((nth a1.2.2.1 r16.1.1 ([],[],false,[])).2).1,(((nth a1.2.2.1 r16.1.1 ([],[],false,[])).2).2)) r18
        bif (inb r16.1.1 a1.2.2.1.length) then
          some ((),(r17.2.1,(a1.1,a1.2.1,(a1.2.2.1.set (r16.1.1).toNat r19),a1.2.2.2),()))
        else none
      else none
    else
      some ((),(r15.2.1,a1,()))
  let k7:Option (ResD yh×MutD yg) :=
    bif (a1.2.2.2.1==(-1)) then
      k6
    else
      some ((),(r1.2.1,a1,()))
  let k8:Option (ResD yh×MutD yg) :=
    bif (r1.1.1==12) then
      let r14:=yd4 a1
      some ((),(r1.2.1,r14,()))
    else
      k7
  let k9:Option (ResD yh×MutD yg) :=
    bif (r1.1.1==10) then
      k5
    else
      k8
  let k10:Option (ResD yh×MutD yg) :=
    bif (r1.1.1==11) then
      k5
    else
      k8
  let k11:Option (ResD yh×MutD yg) :=
    bif (r1.1.1==10) then
      k9
    else
      k10
  let k12:Option (ResD yh×MutD yg) :=
    bif (r1.1.1==9) then
      k3
    else
      k11
  let k13:Option (ResD yh×MutD yg) :=
    bif (r1.1.1==8) then
      k1
    else
      k12
  let k14:Option (ResD yh×MutD yg) :=
    bif (r1.1.1==7) then
      bnd (ykn a1) fun r8 =>
      some ((),(r1.2.1,r8.2.1,()))
    else
      k13
  let k15:Option (ResD yh×MutD yg) :=
    bif (r1.1.1==4) then
      bnd (ye r1.2.1 a1.2.1.2) fun r6 =>
      bnd (ybp a1 r6.1.1) fun r7 =>
      some ((),(r6.2.1,r7.2.1,()))
    else
      k14
  let k16:Option (ResD yh×MutD yg) :=
    bif (r1.1.1==5) then
      bnd (ye r1.2.1 a1.2.1.2) fun r27 =>
      bnd (ybp a1 r27.1.1) fun r28 =>
      some ((),(r27.2.1,r28.2.1,()))
    else
      k14
  let k17:Option (ResD yh×MutD yg) :=
    bif (r1.1.1==6) then
      bnd (ye r1.2.1 a1.2.1.2) fun r48 =>
      bnd (ybp a1 r48.1.1) fun r49 =>
      some ((),(r48.2.1,r49.2.1,()))
    else
      k14
  let k18:Option (ResD yh×MutD yg) :=
    bif (r1.1.1==5) then
      k16
    else
      k17
  let k19:Option (ResD yh×MutD yg) :=
    bif (r1.1.1==4) then
      k15
    else
      k18
  bif (r1.1.1==0) then
    bif (r1.1.1==0) then
      let r2:=yo a1.2.1
      bnd (ye r1.2.1 r2) fun r3 =>
      bnd (yU r3.2.1) fun r4 =>
      bnd (yc0 a1 r3.1.1 r4.1.1) fun r5 =>
      some ((),(r4.2.1,r5.2.1,()))
    else
      k19
  else
    bif (r1.1.1==1) then
      bif (r1.1.1==1) then
        let r69:=yo a1.2.1
        bnd (ye r1.2.1 r69) fun r70 =>
        bnd (yU r70.2.1) fun r71 =>
        bnd (yc0 a1 r70.1.1 r71.1.1) fun r72 =>
        some ((),(r71.2.1,r72.2.1,()))
      else
        k19
    else
      bif (r1.1.1==2) then
        bif (r1.1.1==2) then
          let r136:=yo a1.2.1
          bnd (ye r1.2.1 r136) fun r137 =>
          bnd (yU r137.2.1) fun r138 =>
          bnd (yc0 a1 r137.1.1 r138.1.1) fun r139 =>
          some ((),(r138.2.1,r139.2.1,()))
        else
          k19
      else
        bif (r1.1.1==3) then
          let r203:=yo a1.2.1
          bnd (ye r1.2.1 r203) fun r204 =>
          bnd (yU r204.2.1) fun r205 =>
          bnd (yc0 a1 r204.1.1 r205.1.1) fun r206 =>
          some ((),(r205.2.1,r206.2.1,()))
        else
          k19
theorem yKU (x:InD yg):zjH ⟨yyt,160,yE1⟩ Try.f79.results.toList yx3 yg yh x=ydf x.1 x.2.1:=by kernel_rfl
theorem yHa:ConOk Try.prog 79 ⟨yg,yh,fun x=>ydf x.1 x.2.1⟩:=zkh (yC9) Try.func79 (by kernel_rfl) (by kernel_rfl) Try.ntmps79.symm (by decide) (fun x r h=>(yKU x).trans h)
def yvi:Con:=⟨yg,yh,fun x=>ydf x.1 x.2.1⟩
theorem yJG:ConOk Try.prog 79 yvi:=yHa
def yqa (a:dA) (z:Option (ResD yh×MutD yg)):Prop:= ∃ (u':dU) (a':dA),z=some ((),(u',a',()))∧ycl u'∧Turned a a'
def yNd (u:dU) (a:dA):Option (ResD yh×MutD yg) :=
  bnd (ye u (yo a.2.1)) fun r3=>bnd (yU r3.2.1) fun r4=>bnd (yc0 a r3.1.1 r4.1.1) fun r5=>some ((),(r4.2.1,r5.2.1,()))
def yKg (u:dU) (a:dA):Option (ResD yh×MutD yg) :=
  bnd (ye u a.2.1.2) fun r6=>bnd (ybp a r6.1.1) fun r7=>some ((),(r6.2.1,r7.2.1,()))
def yMz (u:dU) (a:dA):Option (ResD yh×MutD yg) :=
  bnd (yam u 3) fun r9=>bif r9.1.1 then (bif (a.2.2.2.1==(-1)) then (bnd (ye r9.2.1 a.2.1.1) fun r10=>bnd (yhu a r10.1.1) fun r11=>some ((),(r10.2.1,r11.2.1,()))) else some ((),(r9.2.1,a,()))) else some ((),(r9.2.1,a,()))
def yKh (u:dU) (a:dA):Option (ResD yh×MutD yg) :=
  bif leb 0 a.2.2.2.1 then (bif inb a.2.2.2.1 a.2.2.1.length then (bif (nth a.2.2.1 a.2.2.2.1 noMem).2.2.1 then (bnd (yfY a) fun r12=>some ((),(u,r12.2.1,()))) else some ((),(u,a,()))) else none) else some ((),(u,a,()))
def yMA (u:dU) (a:dA):Option (ResD yh×MutD yg) :=
  bif leb 0 a.2.2.2.1 then (bif inb a.2.2.2.1 a.2.2.1.length then (bif !(nth a.2.2.1 a.2.2.2.1 noMem).2.2.1 then (bif ltb a.2.2.2.2.1 a.2.1.2 then (bnd (yhv a) fun r13=>some ((),(u,r13.2.1,()))) else some ((),(u,a,()))) else some ((),(u,a,()))) else none) else some ((),(u,a,()))
def yAd (u:dU) (a:dA):Option (ResD yh×MutD yg) :=
  bif (a.2.2.2.1==(-1)) then (bnd (yam u 3) fun r15=>bif r15.1.1 then (bnd (ye r15.2.1 a.2.1.1) fun r16=>bif inb r16.1.1 a.2.2.1.length then (bnd (ye r16.2.1 a.2.1.2) fun r17 =>
    bif inb r16.1.1 a.2.2.1.length then some ((),(r17.2.1,setMem a r16.1.1 (spoil (nth a.2.2.1 r16.1.1 noMem) (dataAt r17.1.1)),())) else none) else none) else some ((),(r15.2.1,a,()))) else some ((),(u,a,()))
theorem yxG {u:dU} {a:dA} (h:coreOk a) (hk:Keep a) (hu:ycl u):yqa a (yNd u a):=by
  have hg:=yk.1 h.1
  have hd:=yqg h.2.2.1 h.1
  obtain ⟨b,u1,e1,q1,d1⟩:=ydl u (yo a.2.1) hu
  obtain ⟨x,u2,e2,q2,d2⟩:=yOD u1 d1
  have hx:isW x=true:=by rw [ybB]at q2; exact q2
  have hbl:0 < yo a.2.1:=by
    rw [yxa h.1]
    exact Int.mul_pos (by omega) (by omega)
  have hb:blkOk a.2.1 b=true:=by
    have:=q1.2.1 hbl
    unfold blkOk
    rw [zk0 q1.1,zk0 (show b≤yo a.2.1 - 1 by omega)]; rfl
  unfold yNd
  rw [e1,zky,e2,zky,yLA a b x (by unfold ykp; rw [yH4.2 ⟨h,hk⟩,hb]; exact decide_eq_true (show a.2.2.2.2.2.2.2.2.1.length≤1000 by omega)),zky]
  exact ⟨_,_,rfl,d2,.put b x hb hx⟩
theorem yxF {u:dU} {a:dA} (h:coreOk a) (hu:ycl u):yqa a (yKg u a):=by
  have hd:=yqg h.2.2.1 h.1
  obtain ⟨s,u1,e1,q1,d1⟩:=ydl u a.2.1.2 hu
  unfold yKg
  rw [e1,zky,yvB a s (decide_eq_true (show a.2.2.2.2.2.2.2.2.1.length≤1000 by omega)),zky]
  exact ⟨_,_,rfl,d1,.flush s⟩
theorem yOr {u:dU} {a:dA} (h:coreOk a) (hu:ycl u):yqa a (bnd (ykn a) fun r8=>some ((),(u,r8.2.1,()))):=by
  have hd:=yqg h.2.2.1 h.1
  rw [yLy a (decide_eq_true (show a.2.2.2.2.2.2.2.2.1.length≤1000 by omega)),zky]
  exact ⟨_,_,rfl,hu,.all⟩
theorem yNU {u:dU} {a:dA} (h:coreOk a) (hk:Keep a) (hu:ycl u):yqa a (yMz u a):=by
  have hg:=yk.1 h.1
  have hl:=hk.1.2
  obtain ⟨r,u1,e1,d1⟩:=yM2 u 3 hu
  unfold yMz
  rw [e1,zky]
  cases r
  · exact ⟨_,_,rfl,d1,.same⟩
  · cases h1:(a.2.2.2.1==(-1))
    · exact ⟨_,_,rfl,d1,.same⟩
    · obtain ⟨m,u2,e2,q2,d2⟩:=ydl u1 a.2.1.1 d1
      have hm:inb m a.2.2.1.length=true:=zjP.2 ⟨q2.1,by have:=q2.2.1 (by omega); omega⟩
      simp only [cond_true]
      rw [e2,zky,yHu a m hm,zky]
      exact ⟨_,_,rfl,d2,.fail m (beq_iff_eq.1 h1) hm⟩
theorem yNv {u:dU} {a:dA} (h:coreOk a) (hk:Keep a) (hu:ycl u):yqa a (yKh u a):=by
  have hl:=hk.1.2
  have hc:=h.2.2.2.1
  unfold yKh
  cases h0:leb 0 a.2.2.2.1
  · exact ⟨_,_,rfl,hu,.same⟩
  · have hi:inb a.2.2.2.1 a.2.2.1.length=true:=zjP.2 ⟨zjQ.1 h0,by omega⟩
    rw [hi]
    cases hf:(nth a.2.2.1 a.2.2.2.1 noMem).2.2.1
    · exact ⟨_,_,rfl,hu,.same⟩
    · simp only [cond_true]
      rw [yEp a (by unfold yf1; rw [h.1,hi]; rfl),zky]
      exact ⟨_,_,rfl,hu,.spare hi hf⟩
theorem yKi {u:dU} {a:dA} (h:coreOk a) (hk:Keep a) (hu:ycl u):yqa a (yMA u a):=by
  have hl:=hk.1.2
  have hc:=h.2.2.2.1
  unfold yMA
  cases h0:leb 0 a.2.2.2.1
  · exact ⟨_,_,rfl,hu,.same⟩
  · have h0':=zjQ.1 h0
    have hi:inb a.2.2.2.1 a.2.2.1.length=true:=zjP.2 ⟨h0',by omega⟩
    rw [hi]
    cases hf:(nth a.2.2.1 a.2.2.2.1 noMem).2.2.1
    · cases hb:ltb a.2.2.2.2.1 a.2.1.2
      · exact ⟨_,_,rfl,hu,.same⟩
      · simp only [cond_true,Bool.not_false]
        rw [yHv a (by unfold yhy; rw [h.1,hi,zjP.2 (show 0≤a.2.2.2.1∧a.2.2.2.1 < a.2.1.1.toNat by omega)]; rfl),zky]
        exact ⟨_,_,rfl,hu,.step hi hf (zjT.1 hb)⟩
    · exact ⟨_,_,rfl,hu,.same⟩
theorem yNw {u:dU} {a:dA} (h:coreOk a) (hk:Keep a) (hu:ycl u):yqa a (yAd u a):=by
  have hg:=yk.1 h.1
  have hl:=hk.1.2
  unfold yAd
  cases (a.2.2.2.1==(-1))
  · exact ⟨_,_,rfl,hu,.same⟩
  · obtain ⟨r,u1,e1,d1⟩:=yM2 u 3 hu
    simp only [cond_true]
    rw [e1,zky]
    cases r
    · exact ⟨_,_,rfl,d1,.same⟩
    · obtain ⟨m,u2,e2,q2,d2⟩:=ydl u1 a.2.1.1 d1
      have hm:inb m a.2.2.1.length=true:=zjP.2 ⟨q2.1,by have:=q2.2.1 (by omega); omega⟩
      obtain ⟨s,u3,e3,q3,d3⟩:=ydl u2 a.2.1.2 d2
      simp only [cond_true]
      rw [e2,zky]
      simp only [hm,cond_true]
      rw [e3,zky]
      exact ⟨_,_,rfl,d3,.spoil m s hm q3.1 (q3.2.1 (by omega))⟩
theorem yOF (u:dU) (a:dA) (hu:ycl u) (h:coreOk a) (hk:Keep a):yqa a (ydf u a):=by
  obtain ⟨r,u1,e1,q1,d1⟩:=ydl u 14 hu
  have hr:=q1.2.1 (by omega)
  have h0:=q1.1
  unfold ydf
  rw [e1,zky]
  have hc:(r=0∨r=1∨r=2∨r=3)∨(r=4∨r=5∨r=6)∨r=7∨r=8∨r=9∨(r=10∨r=11)∨r=12∨r=13:=by omega
  rcases hc with (rfl | rfl | rfl | rfl) | (rfl | rfl | rfl) | rfl | rfl | rfl | (rfl | rfl) | rfl | rfl
  · exact yxG h hk d1
  · exact yxG h hk d1
  · exact yxG h hk d1
  · exact yxG h hk d1
  · exact yxF h d1
  · exact yxF h d1
  · exact yxF h d1
  · exact yOr h d1
  · exact yNU h hk d1
  · exact yNv h hk d1
  · exact yKi h hk d1
  · exact yKi h hk d1
  · refine ⟨u1,checkA a,?_,d1,.check⟩
    rw [← yyB]; rfl
  · have:=yNw h hk d1
    unfold yAd at this
    simp only [← yd8]at this
    exact this
end
end
end Go.Tf
