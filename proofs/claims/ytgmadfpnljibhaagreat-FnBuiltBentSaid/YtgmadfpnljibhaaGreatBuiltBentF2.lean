/- Functions of the program, and what they come to. -/
import Derived.Test.YtgmadfpnljibhaaGreatBuiltBentF1
namespace Go.Tf
noncomputable section
open Go.Proofs
set_option synthInstance.maxHeartbeats 400000
set_option synthInstance.maxSize 10000
set_option linter.unusedVariables false
set_option linter.unusedSimpArgs false
set_option maxRecDepth 100000
section
def yE7:Code:=(Tryz.f226.body).getD .skip
def yFL:Env:=zki TT [(134,ygy),(135,yq)] []
theorem yMm:FrOk Tryz.prog ⟨yFL,60,fun _=>none⟩ yE7:=zkp yc yd ⟨ym7,yz,trivial⟩
def yNX:Nat→Option Seg:=fun _=>none
abbrev ykK:List Par:= [.rd tS]
abbrev yqs:List OT:= [⟨false,tB,.fz⟩]
def ytB (a0:dS):Option (ResD yqs×MutD ykK) :=
  let r1:=yf (a0.2.2.2.1,a0.2.2.2.2.1)
  bif (!(!r1)) then
    let r2:=ya a0.1 1 60000
    bif (!(!r2)) then
      let r3:=ya a0.2.1 0 60000
      bif (!(!r3)) then
        let r4:=ya a0.2.2.1 0 (IntKind.i64.wrap (a0.2.2.2.1 - 1))
        bif (!(!r4)) then
          let r5:=ya a0.2.2.2.2.2.1 0 60000
          bif (!r5) then
            some ((false,()),())
          else
            let r6:=ya a0.2.2.2.2.2.2.1 (-1) (IntKind.i64.wrap (a0.2.2.2.1 - 1))
            bif r6 then
              let r7:=ya a0.2.2.2.2.2.2.2 0 a0.2.2.2.2.1
              bif r7 then
                bif (!(leb 0 a0.2.2.2.2.2.2.1)) then
                  some (((a0.2.2.2.2.2.2.2==0),()),())
                else
                  some ((true,()),())
              else
                some ((false,()),())
            else
              some ((false,()),())
        else
          some ((false,()),())
      else
        some ((false,()),())
    else
      some ((false,()),())
  else
    some ((false,()),())
theorem yVg (x:InD ykK):zjH ⟨yFL,60,yNX⟩ Tryz.f226.results.toList yE7 ykK yqs x=ytB x.1:=by kernel_rfl
theorem yQq:ConOk Tryz.prog 226 ⟨ykK,yqs,fun x=>ytB x.1⟩:=zkh (yMm) Tryz.func226 (by kernel_rfl) (by kernel_rfl) Tryz.ntmps226.symm (by decide) (fun x r h=>(yVg x).trans h)
def yaH (a0:dS):Bool :=
  let r1:=yf (a0.2.2.2.1,a0.2.2.2.2.1)
  bif (!(!r1)) then
    let r2:=ya a0.1 1 60000
    bif (!(!r2)) then
      let r3:=ya a0.2.1 0 60000
      bif (!(!r3)) then
        let r4:=ya a0.2.2.1 0 (IntKind.i64.wrap (a0.2.2.2.1 - 1))
        bif (!(!r4)) then
          let r5:=ya a0.2.2.2.2.2.1 0 60000
          bif (!r5) then
            false
          else
            let r6:=ya a0.2.2.2.2.2.2.1 (-1) (IntKind.i64.wrap (a0.2.2.2.1 - 1))
            bif r6 then
              let r7:=ya a0.2.2.2.2.2.2.2 0 a0.2.2.2.2.1
              bif r7 then
                bif (!(leb 0 a0.2.2.2.2.2.2.1)) then
                  (a0.2.2.2.2.2.2.2==0)
                else
                  true
              else
                false
            else
              false
        else
          false
      else
        false
    else
      false
  else
    false
def yBO:Con:=⟨ykK,yqs,fun x=>(fun n=>some ((n,()),())) (yaH x.1)⟩
theorem yTm (a0:dS):ytB a0=(fun n=>some ((n,()),())) (yaH a0):=zkS (p:=fun (n:Bool)=>((n,()),())) (zkx (p:=fun (n:Bool)=>((n,()),())) (zkx (p:=fun (n:Bool)=>((n,()),())) (zkx (p:=fun (n:Bool)=>((n,()),())) (zkx (p:=fun (n:Bool)=>((n,()),())) (zkx (p:=fun (n:Bool)=>((n,()),())) rfl (zkx (p:=fun (n:Bool)=>((n,()),())) (zkx (p:=fun (n:Bool)=>((n,()),())) (zkx (p:=fun (n:Bool)=>((n,()),())) rfl rfl) rfl) rfl)) rfl) rfl) rfl) rfl)
theorem yUf:ConOk Tryz.prog 226 yBO:=(yQq).mono (fun x r _ h=>(yTm x.1).trans h)
abbrev yV3:dS:=(0,0,0,0,0,0,0,0)
theorem y0d {s:dS}:yaH s=true↔yf (s.2.2.2.1,s.2.2.2.2.1)=true∧(1≤s.1∧s.1≤60000)∧(0≤s.2.1∧s.2.1≤60000)∧(0≤s.2.2.1∧s.2.2.1≤s.2.2.2.1 - 1)∧(0≤s.2.2.2.2.2.1∧s.2.2.2.2.2.1≤60000)∧(-1≤s.2.2.2.2.2.2.1∧s.2.2.2.2.2.2.1≤s.2.2.2.1 - 1)∧(0≤s.2.2.2.2.2.2.2∧s.2.2.2.2.2.2.2≤s.2.2.2.2.1)∧(0≤s.2.2.2.2.2.2.1∨s.2.2.2.2.2.2.2=0):=by
  unfold yaH
  cases hg:yf (s.2.2.2.1,s.2.2.2.2.1)
  · simp
  have hg2:=yk.1 hg
  simp only at hg2
  rw [wr (show -9223372036854775808≤s.2.2.2.1 - 1 by omega) (by omega)]
  simp only [Bool.not_not,cond_true,true_and]
  simp only [← yrV]
  cases ya s.1 1 60000
  · simp
  cases ya s.2.1 0 60000
  · simp
  cases ya s.2.2.1 0 (s.2.2.2.1 - 1)
  · simp
  cases ya s.2.2.2.2.2.1 0 60000
  · simp
  cases ya s.2.2.2.2.2.2.1 (-1) (s.2.2.2.1 - 1)
  · simp
  cases ya s.2.2.2.2.2.2.2 0 s.2.2.2.2.1
  · simp
  cases hl:leb 0 s.2.2.2.2.2.2.1
  · have:=mt zk0 (by rw [hl]; simp: ¬ leb 0 s.2.2.2.2.2.2.1=true)
    simp [this]
  · simp [zjQ.1 hl]
def y0v (l:List Int):dS:=(nth l 1 0,nth l 2 0,nth l 3 0,nth l 4 0,nth l 5 0,nth l 6 0,IntKind.i64.wrap (nth l 7 0 - 1),nth l 8 0)
def yZB (l:List Int):dS×Bool:=bif (l.length:Int)==9&&(nth l 0 0==21317&&yaH (y0v l)) then (y0v l,true) else (yV3,false)
def y1o (m:dM) (i:Int):dS:=(yZB (ydy m i).1).1
def yY0 (m:dM) (id i:Int):Bool:=(ydy m i).2&&((yZB (ydy m i).1).2&&((y1o m i).1==id&&(y1o m i).2.1.tmod 2==i))
def yYZ (b:dS×Bool) (ok:Bool) (s:dS):dS×Bool:=bif ok&&(!b.2||ltb b.1.2.1 s.2.1) then (s,true) else b
def yxF (m:dM) (id:Int):dS×Bool:=(List.range 2).foldl (fun s (i:Nat)=>yYZ s (yY0 m id i) (y1o m i)) (yV3,false)
def y1M (m:dM) (i id:Int):Bool:= !m.2.2.1&&((yxF m id).2&&(yxF m id).1.2.2.1==i)
def yRL (l:List dM) (id:Int):dS×Bool:=(List.range l.length).foldl (fun s (i:Nat)=>yYZ s (y1M (nth l i ye) i id) (yxF (nth l i ye) id).1) (yV3,false)
def y1Q (l:List dM) (id:Int) (s:Int×Int×Bool) (i:Nat):Int×Int×Bool:=bif y1M (nth l i ye) i id then s else bif s.1== -1||s.1==i then ((i:Int),0,s.2.2) else (s.1,s.2.1,true)
def y2c (b:dS) (l:List dM) (id:Int) (s:Int×Int×Bool):dA:=(id,(b.2.2.2.1,b.2.2.2.2.1),l,s.1,s.2.1,b.2.2.2.2.2.1,b.2.2.2.2.2.1,b.2.1,[],-1,false,s.2.2)
def y0P (l:List dM) (id:Int):dA:=y2c (yRL l id).1 l id ((List.range l.length).foldl (y1Q l id) ((yRL l id).1.2.2.2.2.2.2.1,(yRL l id).1.2.2.2.2.2.2.2,false))
def y2P (l:List dM) (id:Int):dA×Bool:=bif (yRL l id).2&&((l.length:Int)==(yRL l id).1.2.2.2.1&&ym (y0P l id)) then (y0P l id,true) else (yU,false)
theorem y1n (b:dS×Bool) (s:dS):yYZ b false s=b:=rfl
theorem y0a {m:dM} {i:Int} (h:(ydy m i).2=true):yp m=true:=by
  unfold ydy at h
  cases hc:yAO m i
  · rw [hc]at h; cases h
  · exact (Bool.and_eq_true_iff.1 hc).1
theorem y1p {m:dM} {id i:Int} (h:yp m=false):yY0 m id i=false:=by
  unfold yY0
  cases hr:(ydy m i).2
  · rfl
  · rw [y0a hr]at h; cases h
theorem y2Q {m:dM} {id:Int} (h:(yxF m id).2=true):yp m=true:=by
  cases hm:yp m
  · unfold yxF at h
    simp only [y1p hm,y1n]at h
    exact h
  · rfl
end
section
def yDd:Code:=(Tryz.f140.body).getD .skip
def yDK:Env:=zki TT [(226,yBO)] []
theorem yKu:FrOk Tryz.prog ⟨yDK,25,fun _=>none⟩ yDd:=zkp yc yd ⟨yUf,trivial⟩
def yLE:Nat→Option Seg:=fun _=>none
abbrev yip:List Par:= [.rd tS]
abbrev yn2:List OT:= [⟨false,tL,(.ow .fz)⟩]
def yry (a0:dS):Option (ResD yn2×MutD yip) :=
  let r1:=yaH a0
  bif (!r1) then
    some ((([]:List Int),()),())
  else
    some ((([21317,a0.1,a0.2.1,a0.2.2.1,a0.2.2.2.1,a0.2.2.2.2.1,a0.2.2.2.2.2.1,(IntKind.i64.wrap (a0.2.2.2.2.2.2.1+1)),a0.2.2.2.2.2.2.2]:List Int),()),())
theorem yR4 (x:InD yip):zjH ⟨yDK,25,yLE⟩ Tryz.f140.results.toList yDd yip yn2 x=yry x.1:=by kernel_rfl
theorem yNf:ConOk Tryz.prog 140 ⟨yip,yn2,fun x=>yry x.1⟩:=zkh (yKu) Tryz.func140 (by kernel_rfl) (by kernel_rfl) Tryz.ntmps140.symm (by decide) (fun x r h=>(yR4 x).trans h)
def yK (a0:dS):(List Int) :=
  let r1:=yaH a0
  bif (!r1) then
    ([]:List Int)
  else
    ([21317,a0.1,a0.2.1,a0.2.2.1,a0.2.2.2.1,a0.2.2.2.2.1,a0.2.2.2.2.2.1,(IntKind.i64.wrap (a0.2.2.2.2.2.2.1+1)),a0.2.2.2.2.2.2.2]:List Int)
def yri:Con:=⟨yip,yn2,fun x=>(fun n=>some ((n,()),())) (yK x.1)⟩
theorem yP5 (a0:dS):yry a0=(fun n=>some ((n,()),())) (yK a0):=zkS (p:=fun (n:(List Int))=>((n,()),())) (zkx (p:=fun (n:(List Int))=>((n,()),())) rfl rfl)
theorem yCC:ConOk Tryz.prog 140 yri:=(yNf).mono (fun x r _ h=>(yP5 x.1).trans h)
abbrev yg (a:dA):Bool:=a.2.2.2.2.2.2.2.2.2.2.1
def yYX (a:dA) (f:Int) (d:Bool):dA:=(a.1,a.2.1,a.2.2.1,a.2.2.2.1,a.2.2.2.2.1,a.2.2.2.2.2.1,a.2.2.2.2.2.2.1,a.2.2.2.2.2.2.2.1,a.2.2.2.2.2.2.2.2.1,f,d,a.2.2.2.2.2.2.2.2.2.2.2)
def opA (a:dA):Bool×dA:=bif yg a then (false,a) else bif a.2.2.2.2.2.2.2.2.2.1==0 then (false,yYX a (-1) true) else bif ltb 0 a.2.2.2.2.2.2.2.2.2.1 then (true,yYX a (IntKind.i64.wrap (a.2.2.2.2.2.2.2.2.2.1 - 1)) (yg a)) else (true,a)
def ync (a:dA) (m:Int) (x:dM):dA:=(a.1,a.2.1,a.2.2.1.set m.toNat x,a.2.2.2)
def ydT (a:dA) (m n:Int) (s:List Int):dA:=bif (nth a.2.2.1 m ye).2.2.1 then a else bif (opA a).1 then ync (opA a).2 m (yfH (nth a.2.2.1 m ye) n s).1 else (opA a).2
def yF (a:dA) (i:Nat):dA:=bif (nth a.2.2.1 i ye).2.2.1 then a else bif (opA a).1 then ync (opA a).2 i (yeo (nth a.2.2.1 i ye)) else (opA a).2
def yC (a:dA):dA:=(List.range a.2.2.1.length).foldl yF a
def y2z (a:dA) (i:Int):dS:=(a.1,a.2.2.2.2.2.2.2.1,i,a.2.1.1,a.2.1.2,a.2.2.2.2.2.2.1,a.2.2.2.1,a.2.2.2.2.1)
def yaF (a:dA) (i:Nat):dA:=ydT a i (a.2.2.2.2.2.2.2.1.tmod 2) (yK (y2z a i))
def yez (a:dA):dA:=(a.1,a.2.1,a.2.2.1,a.2.2.2.1,a.2.2.2.2.1,a.2.2.2.2.2.1,a.2.2.2.2.2.2.1,IntKind.i64.wrap (a.2.2.2.2.2.2.2.1+1),a.2.2.2.2.2.2.2.2)
def yy (a:dA):dA:=yC ((List.range a.2.2.1.length).foldl yaF (yez a))
theorem yaI (a:dA):(opA a).2.2.2.1=a.2.2.1:=by
  unfold opA
  cases yg a
  · cases (a.2.2.2.2.2.2.2.2.2.1==0)
    · cases ltb 0 a.2.2.2.2.2.2.2.2.2.1<;>rfl
    · rfl
  · rfl
theorem yWT {a:dA} (h:yg a=false):yg (opA a).2= !(opA a).1:=by
  unfold opA
  rw [h]
  cases (a.2.2.2.2.2.2.2.2.2.1==0)
  · cases ltb 0 a.2.2.2.2.2.2.2.2.2.1
    · exact h
    · rfl
  · rfl
theorem y0s {a:dA} (h:yg a=true):opA a=(false,a):=by unfold opA; rw [h]; rfl
theorem yqI (a:dA) (m n:Int) (s:List Int):(ydT a m n s).2.2.1.length=a.2.2.1.length:=by
  unfold ydT
  cases (nth a.2.2.1 m ye).2.2.1
  · cases (opA a).1
    · show (opA a).2.2.2.1.length=_; rw [yaI]
    · show ((opA a).2.2.2.1.set m.toNat _).length=_; rw [List.length_set,yaI]
  · rfl
theorem ynf (a:dA) (i:Nat):(yF a i).2.2.1.length=a.2.2.1.length:=by
  unfold yF
  cases (nth a.2.2.1 i ye).2.2.1
  · cases (opA a).1
    · show (opA a).2.2.2.1.length=_; rw [yaI]
    · show ((opA a).2.2.2.1.set _ _).length=_; rw [List.length_set,yaI]
  · rfl
theorem ypy {one:dA→Nat→dA} (h: ∀ a i,(one a i).2.2.1.length=a.2.2.1.length): ∀ (l:List Nat) (a:dA),(l.foldl one a).2.2.1.length=a.2.2.1.length
  | [],_=>rfl
  | x::l,a=>by rw [List.foldl_cons,ypy h l,h]
theorem yC1 (a:dA):(yC a).2.2.1.length=a.2.2.1.length:=ypy ynf _ _
theorem yQM {a:dA} (h:yg a=true) (m n:Int) (s:List Int):ydT a m n s=a:=by
  unfold ydT
  rw [y0s h]
  cases (nth a.2.2.1 m ye).2.2.1<;>rfl
theorem yLq {a:dA} (i:Nat) (h:yg a=true):yF a i=a:=by
  unfold yF
  rw [y0s h]
  cases (nth a.2.2.1 i ye).2.2.1<;>rfl
theorem yJ6 {one:dA→Nat→dA} (hs: ∀ a i,yg a=true→one a i=a): ∀ (l:List Nat) (a:dA),yg a=true→l.foldl one a=a
  | [],_,_=>rfl
  | x::l,a,h=>by rw [List.foldl_cons,hs a x h]; exact yJ6 hs l a h
theorem y1b {a:dA} (h:yg a=true):yC a=a:=yJ6 (fun _ i h=>yLq i h) _ a h
theorem y1A {a:dA} (h:yg a=false) (m n:Int) (s:List Int):yg (ydT a m n s)=(!(nth a.2.2.1 m ye).2.2.1&& !(opA a).1):=by
  have:=yWT h
  unfold ydT
  cases (nth a.2.2.1 m ye).2.2.1
  · cases ho:(opA a).1
    · rw [ho]at this; exact this
    · rw [ho]at this; exact this
  · exact h
theorem yZT {a:dA} (h:yg a=false) (i:Nat):yg (yF a i)=(!(nth a.2.2.1 i ye).2.2.1&& !(opA a).1):=by
  have:=yWT h
  unfold yF
  cases (nth a.2.2.1 i ye).2.2.1
  · cases ho:(opA a).1
    · rw [ho]at this; exact this
    · rw [ho]at this; exact this
  · exact h
theorem yPm {one:dA→Nat→dA} (hs: ∀ a i,yg a=true→one a i=a): ∀ (k i:Nat) (s:dA),goE (fun i s=>bif yg (one s i) then (.inr (one s i):dA ⊕ dA) else .inl (one s i)) id k i s=(List.range' i k).foldl one s
  | 0,_,_=>rfl
  | k+1,i,s=>by
    rw [List.range'_succ,List.foldl_cons,goE]
    cases hd:yg (one s i)
    · exact yPm hs k (i+1) (one s i)
    · exact (yJ6 hs _ _ hd).symm
def yfB (a:dA) (m:Int):dA:=(a.1,a.2.1,a.2.2.1.set m.toNat (yAQ (nth a.2.2.1 m ye)),m,0,a.2.2.2.2.2)
def ylT (a:dA) (m:Int):dA:=(a.1,a.2.1,a.2.2.1.set m.toNat (yAQ (nth a.2.2.1 m ye)),a.2.2.2.1,a.2.2.2.2.1,a.2.2.2.2.2.1,a.2.2.2.2.2.2.1,a.2.2.2.2.2.2.2.1,a.2.2.2.2.2.2.2.2.1,a.2.2.2.2.2.2.2.2.2.1,a.2.2.2.2.2.2.2.2.2.2.1,true)
def yqA (a:dA) (m:Int):dA:=bif a.2.2.2.1== -1||a.2.2.2.1==m then (bif !(yg a)&&(!a.2.2.2.2.2.2.2.2.2.2.2&&ltb a.2.2.2.2.2.2.2.1 60000) then yy (yfB a m) else yfB a m) else ylT a m
def yZz (a:dA) (m:Int):dA:=bif ym a&&(inb m a.2.2.1.length&& !(nth a.2.2.1 m ye).2.2.1) then yqA a m else a
theorem yZO {a:dA} {m n:Int} {s:List Int} (h:yag a.2.2.1) (hm:inb m a.2.2.1.length=true):yag (ydT a m n s).2.2.1:=by
  unfold ydT
  cases (nth a.2.2.1 m ye).2.2.1
  · cases (opA a).1
    · show yag (opA a).2.2.2.1; rw [yaI]; exact h
    · show yag ((opA a).2.2.2.1.set m.toNat _); rw [yaI]; exact yvx h (yQZ _ _ (yLa h hm))
  · exact h
theorem yZU {a:dA} {i:Nat} (h:yag a.2.2.1) (hi:i < a.2.2.1.length):yag (yF a i).2.2.1:=by
  unfold yF
  cases (nth a.2.2.1 i ye).2.2.1
  · cases (opA a).1
    · show yag (opA a).2.2.2.1; rw [yaI]; exact h
    · show yag ((opA a).2.2.2.1.set _ _); rw [yaI]; exact yvx h (yOv (yLa h (zkO hi)))
  · exact h
theorem yJ5 {one:dA→Nat→dA} (hl: ∀ a i,(one a i).2.2.1.length=a.2.2.1.length) (ho: ∀ a i,yag a.2.2.1→i < a.2.2.1.length→yag (one a i).2.2.1): ∀ (n:Nat) (a:dA),n≤a.2.2.1.length→yag a.2.2.1→yag ((List.range n).foldl one a).2.2.1
  | 0,_,_,h=>h
  | n+1,a,hn,h=>by
    rw [List.range_succ,List.foldl_append]
    exact ho _ _ (yJ5 hl ho n a (by omega) h) (by rw [ypy hl]; exact hn)
theorem yEN {a:dA} (h:yag a.2.2.1):yag (yC a).2.2.1:=yJ5 ynf (fun _ _=>yZU) _ a (Nat.le_refl _) h
theorem yEx {a:dA} (h:yag a.2.2.1):yag (yy a).2.2.1 :=
  yEN (yJ5 (one:=yaF) (fun _ _=>yqI _ _ _ _) (fun _ _ h hi=>yZO h (zkO hi)) _ (yez a) (Nat.le_refl _) h)
theorem yCo (a:dA):(yy a).2.2.1.length=a.2.2.1.length:=(yC1 _).trans (ypy (one:=yaF) (fun _ _=>yqI _ _ _ _) _ (yez a))
theorem yG6 (a:dA):(opA a).2.2.2.2.2.2.2.2.2.1=a.2.2.2.2.2.2.2.2.1:=by
  unfold opA
  cases yg a
  · cases (a.2.2.2.2.2.2.2.2.2.1==0)
    · cases ltb 0 a.2.2.2.2.2.2.2.2.2.1<;>rfl
    · rfl
  · rfl
theorem yXn (a:dA) (m n:Int) (s:List Int):(ydT a m n s).2.2.2.2.2.2.2.2.1=a.2.2.2.2.2.2.2.2.1:=by
  unfold ydT
  cases (nth a.2.2.1 m ye).2.2.1
  · cases (opA a).1
    · exact yG6 a
    · exact yG6 a
  · rfl
theorem yYU (a:dA) (i:Nat):(yF a i).2.2.2.2.2.2.2.2.1=a.2.2.2.2.2.2.2.2.1:=by
  unfold yF
  cases (nth a.2.2.1 i ye).2.2.1
  · cases (opA a).1
    · exact yG6 a
    · exact yG6 a
  · rfl
theorem yGI {one:dA→Nat→dA} (h: ∀ a i,(one a i).2.2.2.2.2.2.2.2.1=a.2.2.2.2.2.2.2.2.1): ∀ (l:List Nat) (a:dA),(l.foldl one a).2.2.2.2.2.2.2.2.1=a.2.2.2.2.2.2.2.2.1
  | [],_=>rfl
  | x::l,a=>by rw [List.foldl_cons,yGI h l,h]
theorem yAN (a:dA):(yC a).2.2.2.2.2.2.2.2.1=a.2.2.2.2.2.2.2.2.1:=yGI yYU _ _
theorem yAI (a:dA):(yy a).2.2.2.2.2.2.2.2.1=a.2.2.2.2.2.2.2.2.1:=(yAN _).trans (yGI (one:=yaF) (fun _ _=>yXn _ _ _ _) _ (yez a))
theorem yxE {a x:dA} (ha:ytd a≤2097152) (hl:x.2.2.1.length≤5) (hm:yag x.2.2.1) (hd:x.2.2.2.2.2.2.2.2.1=a.2.2.2.2.2.2.2.2.1):ytd x≤2105000:=by
  have:=yLb hm
  have:x.2.2.1.length * 1041≤5 * 1041:=Nat.mul_le_mul_right _ hl
  unfold ytd at ha ⊢
  rw [hd]
  omega
theorem yOh {a:dA} (h:ym a=true):a.2.2.1.length≤5:=by
  have h1:=yk.1 (ybI h)
  have h2:=yxD h
  omega
theorem yNL {a:dA} {m:Int} (h:yag a.2.2.1) (hm:inb m a.2.2.1.length=true):yag (yfB a m).2.2.1∧(yfB a m).2.2.1.length=a.2.2.1.length:=⟨yvx h (y0m (yLa h hm)),List.length_set⟩
theorem y1U {a:dA} {m:Int} (ha:ytd a≤2097152):ytd (yZz a m)≤2105000:=by
  unfold yZz
  cases hc:(ym a&&(inb m a.2.2.1.length&& !(nth a.2.2.1 m ye).2.2.1))
  · show ytd a≤_; omega
  · simp only [Bool.and_eq_true]at hc
    have h5:=yOh hc.1
    have hf:=yNL (yAD hc.1) hc.2.1
    unfold yqA
    cases (a.2.2.2.1== -1||a.2.2.2.1==m)
    · exact yxE (x:=ylT a m) ha (by rw [show (ylT a m).2.2.1=(yfB a m).2.2.1 from rfl,hf.2]; exact h5) hf.1 rfl
    · cases (!(yg a)&&(!a.2.2.2.2.2.2.2.2.2.2.2&&ltb a.2.2.2.2.2.2.2.1 60000))
      · exact yxE (x:=yfB a m) ha (by rw [hf.2]; exact h5) hf.1 rfl
      · exact yxE (x:=yy (yfB a m)) ha (by rw [yCo,hf.2]; exact h5) (yEx hf.1) (yAI _)
def ybZ (n:Int):dM:=bif leb 1 n&&leb n 20 then (List.replicate n.toNat [],[],false,[]) else ye
theorem yEy {n:Int} (h1:1≤n) (h2:n≤20):yp (ybZ n)=true:=by
  unfold ybZ
  rw [zk0 h1,zk0 h2]
  refine ywZ ?_ rfl rfl ?_ ?_ (Nat.zero_le _)
  · show (List.replicate n.toNat ([]:List Int)).all yaf=true
    rw [List.all_eq_true]
    intro x hx
    rw [(List.mem_replicate.1 hx).2]; rfl
  · show 1≤(List.replicate n.toNat ([]:List Int)).length; rw [List.length_replicate]; omega
  · show (List.replicate n.toNat ([]:List Int)).length≤20; rw [List.length_replicate]; omega
def yx (a:dA):dA:=(a.1,a.2.1,a.2.2.1.set a.2.2.2.1.toNat (ybZ (6+a.2.1.2)),a.2.2.2.1,0,a.2.2.2.2.2)
def yL (a:dA):dA×Int :=
  bif !(ym a) then (a,1) else bif yg a then (a,6) else bif a.2.2.2.1== -1|| !((nth a.2.2.1 a.2.2.2.1 ye).2.2.1) then (a,2) else bif a.2.2.2.2.2.2.2.2.2.2.2 then (a,5) else bif leb 59990 a.2.2.2.2.2.2.2.1 then (a,7)
  else (yy (yx a),bif yg (yy (yx a)) then 6 else 0)
theorem yOi {a:dA} (h:ym a=true): -1≤a.2.2.2.1∧a.2.2.2.1≤a.2.1.1 - 1:=by
  simp only [ym,Bool.and_eq_true,zjQ]at h
  exact h.2.2.2.2.1
theorem ywY {a:dA} (h:ym a=true) (h2:a.2.2.2.1≠ -1):inb a.2.2.2.1 a.2.2.1.length=true:=by
  have:=yOi h
  have:=yxD h
  exact zjP.2 (by omega)
theorem y0c {a:dA} (h:ym a=true):yag (yx a).2.2.1∧(yx a).2.2.1.length=a.2.2.1.length:=by
  have hg:=yk.1 (ybI h)
  exact ⟨yvx (yAD h) (yEy (by omega) (by omega)),List.length_set⟩
def ye9 (a:dA):dA:=(a.1,a.2.1,a.2.2.1,a.2.2.2.1,a.2.2.2.2.1,a.2.2.2.2.2.1,a.2.2.2.2.2.1,a.2.2.2.2.2.2.2)
def yl (a:dA):dA:=bif yg (yC a) then yC a else yy (ye9 (yC a))
theorem yRN {a:dA} (h:yag a.2.2.1):yag (yl a).2.2.1:=by
  unfold yl
  cases yg (yC a)
  · exact yEx (a:=ye9 (yC a)) (yEN h)
  · exact yEN h
theorem yxQ (a:dA):(yl a).2.2.1.length=a.2.2.1.length:=by
  unfold yl
  cases yg (yC a)
  · exact (yCo (ye9 (yC a))).trans (yC1 a)
  · exact yC1 a
theorem yxq (a:dA):(yl a).2.2.2.2.2.2.2.2.1=a.2.2.2.2.2.2.2.2.1:=by
  unfold yl
  cases yg (yC a)
  · exact (yAI (ye9 (yC a))).trans (yAN a)
  · exact yAN a
def ybf (b:dA):dA:=(b.1,b.2.1,b.2.2.1,-1,0,b.2.2.2.2.2)
def yhs (a:dA):dA×Int:=bif yg (yl a) then (yl a,6) else (yy (ybf (yl a)),bif yg (yy (ybf (yl a))) then 6 else 0)
def ypp (a:dA):dA×Int :=
  bif !(ym a) then (a,1) else bif yg a then (a,6) else bif a.2.2.2.1== -1||((nth a.2.2.1 a.2.2.2.1 ye).2.2.1||ltb a.2.2.2.2.1 a.2.1.2) then (a,2) else bif a.2.2.2.2.2.2.2.2.2.2.2 then (a,5) else bif leb 59990 a.2.2.2.2.2.2.2.1 then (a,7) else yhs a
theorem y2t {a:dA} (ha:ytd a≤2097152):ytd (ypp a).1≤2105000:=by
  have h0:ytd a≤2105000:=by omega
  unfold ypp
  cases hk:ym a
  · exact h0
  have h5:=yOh hk
  have hc:=yRN (yAD hk)
  have hn:=yxE (x:=yy (ybf (yl a))) ha (by rw [yCo,show (ybf (yl a)).2.2.1=(yl a).2.2.1 from rfl,yxQ]; exact h5) (yEx (a:=ybf (yl a)) hc) ((yAI _).trans (yxq a))
  have hn2:=yxE (x:=yl a) ha (by rw [yxQ]; exact h5) hc (yxq a)
  cases yg a
  · cases (a.2.2.2.1== -1||((nth a.2.2.1 a.2.2.2.1 ye).2.2.1||ltb a.2.2.2.2.1 a.2.1.2))
    · cases a.2.2.2.2.2.2.2.2.2.2.2
      · cases leb 59990 a.2.2.2.2.2.2.2.1
        · show ytd (yhs a).1≤_
          unfold yhs
          cases yg (yl a)
          · exact hn
          · exact hn2
        · exact h0
      · exact h0
    · exact h0
  · exact h0
def y2h (id:Int) (g:dG) (i:Int):dS:=(id,0,i,g.1,g.2,0,-1,0)
def yGk (m:dM) (s:Nat):dM:=(m.1.set (s+6) [0],m.2)
def yyx (id:Int) (g:dG) (i:Int):dM:=((ybZ (6+g.2)).1.set 0 (yK (y2h id g i)),(ybZ (6+g.2)).2)
def yH (id:Int) (g:dG) (i:Int):dM:=(List.range g.2.toNat).foldl yGk (yyx id g i)
def yBq (a:dA) (m:dM):dA:=(a.1,a.2.1,a.2.2.1++ [m],a.2.2.2)
def yBs (id:Int) (g:dG):dA:=(id,g,[],-1,0,0,0,0,[],-1,false,false)
def yBr (id:Int) (g:dG):dA:=bif yf g&&(leb 1 id&&leb id 60000) then (List.range g.1.toNat).foldl (fun a (i:Nat)=>yBq a (yH id g i)) (yBs id g) else yU
theorem yZ7 (l:List Nat) (m:dM):(l.foldl yGk m).1.length=m.1.length:=by
  induction l generalizing m with
  | nil=>rfl
  | cons x t ih=>rw [List.foldl_cons,ih]; show (m.1.set _ _).length=_; rw [List.length_set]
def yD (a:dA):Int×(Int×Int)×Int×Int×Int×Int×Int×List dW×Bool:=(a.1,a.2.1,a.2.2.2.1,a.2.2.2.2.1,a.2.2.2.2.2.1,a.2.2.2.2.2.2.1,a.2.2.2.2.2.2.2.1,a.2.2.2.2.2.2.2.2.1,a.2.2.2.2.2.2.2.2.2.2.2)
theorem yGw (a:dA):yD (opA a).2=yD a:=by
  unfold opA
  cases yg a
  · cases (a.2.2.2.2.2.2.2.2.2.1==0)
    · cases ltb 0 a.2.2.2.2.2.2.2.2.2.1<;>rfl
    · rfl
  · rfl
theorem ytw (a:dA) (m n:Int) (s:List Int):yD (ydT a m n s)=yD a:=by
  unfold ydT
  cases (nth a.2.2.1 m ye).2.2.1
  · cases (opA a).1
    · exact yGw a
    · exact yGw a
  · rfl
theorem yZS (a:dA) (i:Nat):yD (yF a i)=yD a:=by
  unfold yF
  cases (nth a.2.2.1 i ye).2.2.1
  · cases (opA a).1
    · exact yGw a
    · exact yGw a
  · rfl
theorem yx9 {one:dA→Nat→dA} (h: ∀ a i,yD (one a i)=yD a): ∀ (l:List Nat) (a:dA),yD (l.foldl one a)=yD a
  | [],_=>rfl
  | x::l,a=>by rw [List.foldl_cons,yx9 h l,h]
theorem yt0 (a:dA):yD (yC a)=yD a:=yx9 yZS _ _
theorem ylt (a:dA):yD (yy a)=yD (yez a):=(yt0 _).trans (yx9 (one:=yaF) (fun _ _=>ytw _ _ _ _) _ _)
theorem yen {a b:dA} (h:yD a=yD b):a.2.1=b.2.1:=congrArg (fun x=>x.2.1) h
theorem yGG {a b:dA} (h:yD a=yD b):a.2.2.2.2.1=b.2.2.2.2.1:=congrArg (fun x=>x.2.2.2.1) h
theorem yRO {a b:dA} (h:yD a=yD b):a.2.2.2.2.2.2.2.2.1=b.2.2.2.2.2.2.2.2.1:=congrArg (fun x=>x.2.2.2.2.2.2.2.1) h
def yaQ (d:List dW) (x:dA):Prop:=x.2.2.1.length≤5∧yag x.2.2.1∧x.2.2.2.2.2.2.2.2.1=d
theorem yw0 {a:dA} (h:ym a=true):yaQ a.2.2.2.2.2.2.2.2.1 a:=⟨yOh h,yAD h,rfl⟩
theorem yPS {d:List dW} {a:dA} {m n:Int} {s:List Int} (h:yaQ d a) (hm:inb m a.2.2.1.length=true):yaQ d (ydT a m n s):=⟨by rw [yqI]; exact h.1,yZO h.2.1 hm,(yXn _ _ _ _).trans h.2.2⟩
theorem y07 {d:List dW} {a:dA} (h:yaQ d a):yaQ d (yC a):=⟨by rw [yC1]; exact h.1,yEN h.2.1,(yAN _).trans h.2.2⟩
theorem yKY {d:List dW} {a:dA} (h:yaQ d a):yaQ d (yy a):=⟨by rw [yCo]; exact h.1,yEx h.2.1,(yAI _).trans h.2.2⟩
theorem yTa {d:List dW} {a:dA} (h:yaQ d a):yaQ d (yl a):=⟨by rw [yxQ]; exact h.1,yRN h.2.1,(yxq _).trans h.2.2⟩
theorem y0H {d:List dW} {x:dA} (h:yaQ d x):ytd x≤y1L d+5205:=by
  have:=yLb h.2.1
  have:x.2.2.1.length * 1041≤5 * 1041:=Nat.mul_le_mul_right _ h.1
  unfold ytd
  rw [h.2.2]
  omega
theorem y2O {a x:dA} (ha:ytd a≤2097152) (h:yaQ a.2.2.2.2.2.2.2.2.1 x):ytd x≤2105000:=by
  have:=y0H h
  unfold ytd at ha
  omega
theorem yS9 {d:List dW} {a:dA} (h:yaQ d a):yaQ d (ypp a).1:=by
  have hn:yaQ d (yy (ybf (yl a))):=yKY (a:=ybf (yl a)) (yTa h)
  unfold ypp
  cases ym a
  · exact h
  cases yg a
  · cases (a.2.2.2.1== -1||((nth a.2.2.1 a.2.2.2.1 ye).2.2.1||ltb a.2.2.2.2.1 a.2.1.2))
    · cases a.2.2.2.2.2.2.2.2.2.2.2
      · cases leb 59990 a.2.2.2.2.2.2.2.1
        · show yaQ d (yhs a).1
          unfold yhs
          cases yg (yl a)
          · exact hn
          · exact yTa h
        · exact h
      · exact h
    · exact h
  · exact h
def yUG (b:dA):dA:=(b.1,b.2.1,b.2.2.1,b.2.2.2.1,IntKind.i64.wrap (b.2.2.2.2.1+1),b.2.2.2.2.2)
def yX (a:dA):dA:=ydT a a.2.2.2.1 (ycA a.2.2.2.2.1) [nth (yZ a a.2.2.2.2.1).1 a.2.2.2.1 0]
def ybn (a:dA):Int×dA:=bif (yZ a a.2.2.2.2.1).2 then (bif yg (yX a) then (6,yX a) else (0,yUG (yX a))) else (5,a)
def yN (a:dA):dA×Int :=
  bif !(ym a) then (a,1) else bif yg a then (a,6) else bif a.2.2.2.1== -1||((nth a.2.2.1 a.2.2.2.1 ye).2.2.1||leb a.2.1.2 a.2.2.2.2.1) then (a,2) else bif a.2.2.2.2.2.2.2.2.2.2.2 then (a,5) else ((ybn a).2,(ybn a).1)
def ygh:Nat→dA→dA×Int
  | 0,a=>(a,0)
  | n+1,a=>bif ltb a.2.2.2.2.1 a.2.1.2 then (bif (yN a).2 !=0 then yN a else ygh n (yN a).1) else (a,0)
def ypq (a:dA):dA×Int:=bif (yL a).2 !=0 then yL a else bif (ygh 8 (yL a).1).2 !=0 then ygh 8 (yL a).1 else ypp (ygh 8 (yL a).1).1
theorem yW3 {a:dA} (h:ym a=true):0≤a.2.2.2.2.1∧a.2.2.2.2.1≤a.2.1.2:=by
  simp only [ym,Bool.and_eq_true,zjQ]at h
  exact h.2.2.2.2.2.1
theorem yXm {d:List dW} {a:dA} (h:yaQ d a) (hl:inb a.2.2.2.1 a.2.2.1.length=true):yaQ d (ybn a).2:=by
  unfold ybn
  have hp:yaQ d (yX a):=yPS h hl
  cases (yZ a a.2.2.2.2.1).2
  · exact h
  · cases yg (yX a)
    · exact hp
    · exact hp
theorem yw1 {d:List dW} {a:dA} (h:yaQ d a):yaQ d (yN a).1:=by
  unfold yN
  cases ha:ym a
  · exact h
  cases yg a
  · cases hl:(a.2.2.2.1== -1)
    · cases ((nth a.2.2.1 a.2.2.2.1 ye).2.2.1||leb a.2.1.2 a.2.2.2.2.1)
      · cases a.2.2.2.2.2.2.2.2.2.2.2
        · exact yXm h (ywY ha (beq_eq_false_iff_ne.1 hl))
        · exact h
      · exact h
    · exact h
  · exact h
theorem yPR {d:List dW}: ∀ {n:Nat} {a:dA},yaQ d a→yaQ d (ygh n a).1
  | 0,_,h=>h
  | n+1,a,h=>by
    unfold ygh
    cases ltb a.2.2.2.2.1 a.2.1.2
    · exact h
    · cases ((yN a).2 !=0)
      · exact yPR (yw1 h)
      · exact yw1 h
theorem yAK {d:List dW} {a:dA} (h:yaQ d a):yaQ d (yL a).1:=by
  unfold yL
  cases ha:ym a
  · exact h
  have hs:=y0c ha
  cases yg a
  · cases (a.2.2.2.1== -1|| !((nth a.2.2.1 a.2.2.2.1 ye).2.2.1))
    · cases a.2.2.2.2.2.2.2.2.2.2.2
      · cases leb 59990 a.2.2.2.2.2.2.2.1
        · exact yKY (a:=yx a) ⟨by rw [hs.2]; exact h.1,hs.1,h.2.2⟩
        · exact h
      · exact h
    · exact h
  · exact h
theorem yYb {d:List dW} {a:dA} (h:yaQ d a):yaQ d (ypq a).1:=by
  unfold ypq
  cases ((yL a).2 !=0)
  · cases ((ygh 8 (yL a).1).2 !=0)
    · exact yS9 (yPR (yAK h))
    · exact yPR (yAK h)
  · exact yAK h
theorem yXp {a:dA} (h:(yN a).2=0):ym a=true∧a.2.2.2.2.1 < a.2.1.2∧(yN a).1.2.1=a.2.1∧(yN a).1.2.2.2.2.1=a.2.2.2.2.1+1:=by
  unfold yN at h ⊢
  cases ha:ym a
  · rw [ha]at h; exact absurd (show (1:Int)=0 from h) (by decide)
  rw [ha]at h
  have hg:=yk.1 (ybI ha)
  have hb:=yW3 ha
  cases hd:yg a
  · rw [hd]at h
    cases hc:(a.2.2.2.1== -1||((nth a.2.2.1 a.2.2.2.1 ye).2.2.1||leb a.2.1.2 a.2.2.2.2.1))
    · rw [hc]at h
      simp only [Bool.or_eq_false_iff]at hc
      have hS:a.2.2.2.2.1 < a.2.1.2:=by
        rcases Int.lt_or_le a.2.2.2.2.1 a.2.1.2 with h1 | h1
        · exact h1
        · have:=hc.2.2; rw [zk0 h1]at this; cases this
      cases hbr:a.2.2.2.2.2.2.2.2.2.2.2
      · rw [hbr]at h
        simp only [Bool.not_true,cond_false]at h ⊢
        unfold ybn at h ⊢
        cases hw:(yZ a a.2.2.2.2.1).2
        · rw [hw]at h; exact absurd (show (5:Int)=0 from h) (by decide)
        · rw [hw]at h
          cases hp:yg (yX a)
          · have hc2:=ytw a a.2.2.2.1 (ycA a.2.2.2.2.1) [nth (yZ a a.2.2.2.2.1).1 a.2.2.2.1 0]
            refine ⟨trivial,hS,(show (yX a).2.1=a.2.1 from yen hc2),?_⟩
            show IntKind.i64.wrap ((yX a).2.2.2.2.1+1)=_
            rw [show (yX a).2.2.2.2.1=a.2.2.2.2.1 from yGG hc2,wr (by omega) (by omega)]
          · rw [hp]at h; exact absurd (show (6:Int)=0 from h) (by decide)
      · rw [hbr]at h; exact absurd (show (5:Int)=0 from h) (by decide)
    · rw [hc]at h; exact absurd (show (2:Int)=0 from h) (by decide)
  · rw [hd]at h; exact absurd (show (6:Int)=0 from h) (by decide)
theorem y0h {n:Nat} {a:dA} (h:ltb a.2.2.2.2.1 a.2.1.2=false):ygh n a=(a,0):=by
  cases n
  · rfl
  · unfold ygh; rw [h]; rfl
theorem yUD {a:dA} (h:(yL a).2=0):(yL a).1.2.1=a.2.1∧(yL a).1.2.2.2.2.1=0∧yf a.2.1=true:=by
  unfold yL at h ⊢
  cases ha:ym a
  · rw [ha]at h; exact absurd (show (1:Int)=0 from h) (by decide)
  rw [ha]at h
  cases hd:yg a
  · rw [hd]at h
    cases hc:(a.2.2.2.1== -1|| !((nth a.2.2.1 a.2.2.2.1 ye).2.2.1))
    · rw [hc]at h
      cases hb:a.2.2.2.2.2.2.2.2.2.2.2
      · rw [hb]at h
        cases hg:leb 59990 a.2.2.2.2.2.2.2.1
        · have hm:=ylt (yx a)
          exact ⟨(show (yy (yx a)).2.1=(yez (yx a)).2.1 from yen hm),(show (yy (yx a)).2.2.2.2.1=(yez (yx a)).2.2.2.2.1 from yGG hm),ybI ha⟩
        · rw [hg]at h; exact absurd (show (7:Int)=0 from h) (by decide)
      · rw [hb]at h; exact absurd (show (5:Int)=0 from h) (by decide)
    · rw [hc]at h; exact absurd (show (2:Int)=0 from h) (by decide)
  · rw [hd]at h; exact absurd (show (6:Int)=0 from h) (by decide)
def yCp (lost:Int) (br:Bool) (S:Int) (i:Nat) (m:dM):Prop:=yp m=true∧(m.1.length:Int)=6+S∧(m.2.2.1=true→(i:Int)=lost∨br=true)
def yLz (lost:Int) (br:Bool) (S:Int) (l:List dM):Prop:= ∀ i,i < l.length→yCp lost br S i (nth l i ye)
theorem yKD {lost S:Int} {br:Bool} {l:List dM} {i:Nat} {x:dM} (h:yLz lost br S l) (hx:i < l.length→yCp lost br S i x):yLz lost br S (l.set i x):=fun j hj=>by
  rw [List.length_set]at hj
  by_cases e:j=i
  · subst e
    rw [zjW,zcq (by rw [List.length_set]; exact hj),List.getElem_set_self]; exact hx hj
  · have:=h j hj
    rw [zjW,zcq hj]at this
    rw [zjW,zcq (by rw [List.length_set]; exact hj),List.getElem_set_ne (fun e'=>e e'.symm)]; exact this
theorem y0G {a:dA}:ymU a=true↔yLz a.2.2.2.1 a.2.2.2.2.2.2.2.2.2.2.2 a.2.1.2 a.2.2.1∧(a.2.2.1.length:Int)=a.2.1.1:=by
  constructor
  · intro h
    refine ⟨fun i hi=>yXj h hi,?_⟩
    simp only [ymU,Bool.and_eq_true,beq_iff_eq]at h; exact h.2
  · rintro ⟨h1,h2⟩
    simp only [ymU,Bool.and_eq_true,beq_iff_eq,Bool.not_eq_true',List.any_eq_false,List.mem_range]
    refine ⟨fun i hi=> ?_,h2⟩
    obtain ⟨g1,g2,g3⟩:=h1 i hi
    unfold yhv
    rw [g1,show (((nth a.2.2.1 i ye).1.length:Int) !=6+a.2.1.2)=false from bne_eq_false_iff_eq.2 g2]
    cases hf:(nth a.2.2.1 i ye).2.2.1
    · simp
    · rcases g3 hf with e | e
      · rw [show ((i:Int) !=a.2.2.2.1)=false from bne_eq_false_iff_eq.2 e]; simp
      · rw [e]; simp
def fuz (a:dA):Int:=a.2.2.2.2.2.2.2.2.2.1
def ydS (a:dA):Prop:=(yLz a.2.2.2.1 a.2.2.2.2.2.2.2.2.2.2.2 a.2.1.2 a.2.2.1∧(a.2.2.1.length:Int)=a.2.1.1)∧ -1≤fuz a∧fuz a≤1000
def yBR (a:dA):Prop:=yf a.2.1=true∧(1≤a.1∧a.1≤60000)∧yaY a.2.1 a.2.2.2.2.2.2.2.2.1=true∧(-1≤a.2.2.2.1∧a.2.2.2.1≤a.2.1.1 - 1)∧(0≤a.2.2.2.2.1∧a.2.2.2.2.1≤a.2.1.2)∧(a.2.2.2.1= -1→a.2.2.2.2.1=0) ∧
  (0≤a.2.2.2.2.2.2.1∧a.2.2.2.2.2.2.1≤60000)∧(a.2.2.2.2.2.2.1≤a.2.2.2.2.2.1∧a.2.2.2.2.2.1≤60000)∧a.2.2.2.2.2.1≤a.2.2.2.2.2.2.1+4∧0≤a.2.2.2.2.2.2.2.1∧a.2.2.2.2.2.2.2.1≤60000
theorem y1P {a:dA}:ym a=true↔yBR a∧ydS a:=by
  unfold ym yBR ydS fuz
  simp only [Bool.and_eq_true,zjQ,y0G,Bool.not_eq_true',Bool.and_eq_false_iff,beq_eq_false_iff_ne,bne_eq_false_iff_eq]
  constructor
  · rintro ⟨h1,h2,h3,h4,h5,h6,h7,h8,h9,h10,h11,h12⟩
    exact ⟨⟨h1,h2,h4,h5,h6,fun e=>h7.resolve_left (fun g=>g e),h8,h9,h10,h11.1,h11.2⟩,h3,h12⟩
  · rintro ⟨⟨h1,h2,h4,h5,h6,h7,h8,h9,h10,h11,h11'⟩,h3,h12⟩
    exact ⟨h1,h2,h3,h4,h5,h6,(Decidable.em (a.2.2.2.1= -1)).elim (fun e=> .inr (h7 e)) (fun e=> .inl e),h8,h9,h10,⟨h11,h11'⟩,h12⟩
theorem y1R {a b:dA} (h:yD b=yD a) (ha:yBR a):yBR b:=by
  unfold yD at h
  simp only [Prod.mk.injEq]at h
  obtain ⟨h1,h2,h3,h4,h5,h6,h7,h8,h9⟩:=h
  unfold yBR at *
  rw [h1,h2,h3,h4,h5,h6,h7,h8]; exact ha
theorem y1W {a b:dA} (h:yD b=yD a) (hl:b.2.2.1.length=a.2.2.1.length) (hm:yLz a.2.2.2.1 a.2.2.2.2.2.2.2.2.2.2.2 a.2.1.2 b.2.2.1) (hn:(a.2.2.1.length:Int)=a.2.1.1) (hf: -1≤fuz b∧fuz b≤1000):ydS b:=by
  unfold yD at h
  simp only [Prod.mk.injEq]at h
  obtain ⟨h1,h2,h3,h4,h5,h6,h7,h8,h9⟩:=h
  unfold ydS
  rw [h2,h3,h9,hl]; exact ⟨⟨hm,hn⟩,hf⟩
theorem y2i {a:dA} (h: -1≤fuz a∧fuz a≤1000): -1≤fuz (opA a).2∧fuz (opA a).2≤1000:=by
  unfold opA
  cases yg a
  · cases h0:(a.2.2.2.2.2.2.2.2.2.1==0)
    · cases h1:ltb 0 a.2.2.2.2.2.2.2.2.2.1
      · exact h
      · have:=zjT.1 h1
        unfold fuz at h
        show -1≤IntKind.i64.wrap (a.2.2.2.2.2.2.2.2.2.1 - 1)∧IntKind.i64.wrap (a.2.2.2.2.2.2.2.2.2.1 - 1)≤1000
        rw [wr (by omega) (by omega)]; omega
    · show -1≤(-1:Int)∧(-1:Int)≤1000; omega
  · exact h
theorem yLy {a:dA} (h:ydS a):ydS (opA a).2:=y1W (yGw a) (by rw [yaI]) (by rw [yaI]; exact h.1.1) h.1.2 (y2i h.2)
theorem yES {a:dA} {m:Int} {x:dM} (h:ydS a) (hm:inb m a.2.2.1.length=true) (hx:yCp a.2.2.2.1 a.2.2.2.2.2.2.2.2.2.2.2 a.2.1.2 m.toNat (nth a.2.2.1 m ye)→yCp a.2.2.2.1 a.2.2.2.2.2.2.2.2.2.2.2 a.2.1.2 m.toNat x):ydS (ync a m x):=by
  have hm:=zjP.1 hm
  refine ⟨⟨yKD h.1.1 (fun hi=>hx ?_),by show ((a.2.2.1.set m.toNat x).length:Int)=_; rw [List.length_set]; exact h.1.2⟩,h.2⟩
  have:=h.1.1 m.toNat hi
  rwa [Int.toNat_of_nonneg hm.1]at this
theorem y0F {lost S:Int} {br:Bool} {i:Nat} {m:dM} (n:Int) (s:List Int) (h:yCp lost br S i m):yCp lost br S i (yfH m n s).1 :=
  ⟨yQZ n s h.1,by rw [(yXt m n s).1]; exact h.2.1,by rw [(yXt m n s).2]; exact h.2.2⟩
theorem y0E {lost S:Int} {br:Bool} {i:Nat} {m:dM} (h:yCp lost br S i m):yCp lost br S i (yeo m) :=
  ⟨yOv h.1,by rw [(yXd m).1]; exact h.2.1,by rw [(yXd m).2]; exact h.2.2⟩
theorem yGN {a:dA} {m n:Int} {s:List Int} (h:ydS a) (hm:inb m a.2.2.1.length=true):ydS (ydT a m n s):=by
  unfold ydT
  cases (nth a.2.2.1 m ye).2.2.1
  · cases (opA a).1
    · exact yLy h
    · exact yES (yLy h) (by rw [yaI]; exact hm) (fun g=>by rw [yaI]at g; exact y0F _ _ g)
  · exact h
theorem yZD {a:dA} {i:Nat} (h:ydS a) (hi:i < a.2.2.1.length):ydS (yF a i):=by
  unfold yF
  cases (nth a.2.2.1 i ye).2.2.1
  · cases (opA a).1
    · exact yLy h
    · exact yES (yLy h) (by rw [yaI]; exact zkO hi) (fun g=>by rw [yaI]at g; exact y0E g)
  · exact h
theorem ylU {P:dA→Prop} {one:dA→Nat→dA} (hl: ∀ a i,(one a i).2.2.1.length=a.2.2.1.length) (ho: ∀ a i,P a→i < a.2.2.1.length→P (one a i)): ∀ (n:Nat) (a:dA),n≤a.2.2.1.length→P a→P ((List.range n).foldl one a)
  | 0,_,_,h=>h
  | n+1,a,hn,h=>by
    rw [List.range_succ,List.foldl_append]
    exact ho _ _ (ylU hl ho n a (by omega) h) (by rw [ypy hl]; exact hn)
theorem yyo {a:dA} (h:ydS a):ydS (yC a):=ylU (P:=ydS) (one:=yF) ynf (fun _ _=>yZD) _ a (Nat.le_refl _) h
theorem yXh {a:dA} (h:ydS a):ydS (yy a) :=
  yyo (ylU (P:=ydS) (one:=yaF) (fun _ _=>yqI _ _ _ _) (fun _ _ h hi=>yGN h (zkO hi)) _ (yez a) (Nat.le_refl _) h)
theorem y2x {a:dA} (h:ydS a):ydS (yl a):=by
  unfold yl
  cases yg (yC a)
  · exact yXh (a:=ye9 (yC a)) (yyo h)
  · exact yyo h
def ygQ (a:dA):Prop:=yg a=false∧fuz a= -1
theorem y0r {a:dA} (h:ygQ a):opA a=(true,a):=by
  unfold opA
  rw [h.1,show a.2.2.2.2.2.2.2.2.2.1= -1 from h.2]; rfl
theorem yGM {a:dA} (h:ygQ a) (m n:Int) (s:List Int):ygQ (ydT a m n s):=by
  unfold ydT
  rw [y0r h]
  cases (nth a.2.2.1 m ye).2.2.1<;>exact h
theorem yZA {a:dA} (h:ygQ a) (i:Nat):ygQ (yF a i):=by
  unfold yF
  rw [y0r h]
  cases (nth a.2.2.1 i ye).2.2.1<;>exact h
theorem yya {a:dA} (h:ygQ a):ygQ (yC a):=ylU (P:=ygQ) (one:=yF) ynf (fun _ i h _=>yZA h i) _ a (Nat.le_refl _) h
theorem yXe {a:dA} (h:ygQ a):ygQ (yy a) :=
  yya (ylU (P:=ygQ) (one:=yaF) (fun _ _=>yqI _ _ _ _) (fun _ _ h _=>yGM h _ _ _) _ (yez a) (Nat.le_refl _) h)
theorem yGD {a:dA} (h:ygQ a):yl a=yy (ye9 (yC a)):=by
  unfold yl
  rw [(yya h).1]; rfl
theorem y2w {a:dA} (h:ygQ a):ygQ (yl a):=by
  rw [yGD h]; exact yXe (a:=ye9 (yC a)) (yya h)
def Wk (k:Int) (a:dA):Prop:=yBR a∧ydS a∧ygQ a∧a.2.2.2.2.2.2.2.2.2.2.2=false∧a.2.2.2.2.2.2.2.1≤k
theorem yZX {k:Int} {a:dA} (h:Wk k a):ym a=true:=y1P.2 ⟨h.1,h.2.1⟩
theorem yab {k j:Int} {a:dA} (h:Wk k a) (hj:k≤j):Wk j a:=⟨h.1,h.2.1,h.2.2.1,h.2.2.2.1,Int.le_trans h.2.2.2.2 hj⟩
theorem yAR {k:Int} {a b:dA} (hc:yD b=yD a) (hk:ydS b) (hf:ygQ b) (h:Wk k a):Wk k b:=by
  refine ⟨y1R hc h.1,hk,hf,?_⟩
  unfold yD at hc
  simp only [Prod.mk.injEq]at hc
  obtain ⟨_,_,_,_,_,_,h7,_,h9⟩:=hc
  rw [h7,h9]; exact h.2.2.2
theorem y2q {k:Int} {a:dA} {m n:Int} {s:List Int} (h:Wk k a) (hm:inb m a.2.2.1.length=true):Wk k (ydT a m n s):=yAR (ytw _ _ _ _) (yGN h.2.1 hm) (yGM h.2.2.1 _ _ _) h
theorem y19 {k:Int} {a:dA} (h:Wk k a):Wk k (yC a):=yAR (yt0 _) (yyo h.2.1) (yya h.2.2.1) h
theorem y1D {k:Int} {a:dA} (h:Wk k a) (hk:k+1≤60000):Wk (k+1) (yez a):=by
  obtain ⟨⟨c1,c2,c3,c4,c5,c6,c7,c8,c9,c10,c11⟩,h2,h3,h4,h5⟩:=h
  have e:IntKind.i64.wrap (a.2.2.2.2.2.2.2.1+1)=a.2.2.2.2.2.2.2.1+1:=wr (by omega) (by omega)
  refine ⟨⟨c1,c2,c3,c4,c5,c6,c7,c8,c9,?_,?_⟩,h2,h3,h4,?_⟩
  · show 0≤IntKind.i64.wrap (a.2.2.2.2.2.2.2.1+1); omega
  · show IntKind.i64.wrap (a.2.2.2.2.2.2.2.1+1)≤_; omega
  · show IntKind.i64.wrap (a.2.2.2.2.2.2.2.1+1)≤_; omega
theorem yW2 {k:Int} {a:dA} (h:Wk k a) (hk:k+1≤60000):Wk (k+1) (yy a):=yAR (ylt _) (yXh h.2.1) (yXe h.2.2.1) (y1D h hk)
theorem y1f {k:Int} {a:dA} (h:Wk k a):Wk k (ye9 a):=by
  obtain ⟨⟨c1,c2,c3,c4,c5,c6,c7,c8,c9,c10,c11⟩,h2,h3,h4,h5⟩:=h
  refine ⟨⟨c1,c2,c3,c4,c5,c6,⟨?_,?_⟩,⟨Int.le_refl _,c8.2⟩,?_,c10,c11⟩,h2,h3,h4,h5⟩
  · show 0≤a.2.2.2.2.2.1; omega
  · show a.2.2.2.2.2.1≤60000; omega
  · show a.2.2.2.2.2.1≤a.2.2.2.2.2.1+4; omega
theorem yZY {k:Int} {a:dA} (h:Wk k a) (hk:k+1≤60000):Wk (k+1) (yl a):=by
  rw [yGD h.2.2.1]; exact yW2 (y1f (y19 h)) hk
theorem y1e {k:Int} {a:dA} {m:Int} {x:dM} (h:Wk k a) (hm:inb m a.2.2.1.length=true) (hx:yCp a.2.2.2.1 a.2.2.2.2.2.2.2.2.2.2.2 a.2.1.2 m.toNat (nth a.2.2.1 m ye)→yCp a.2.2.2.1 a.2.2.2.2.2.2.2.2.2.2.2 a.2.1.2 m.toNat x):Wk k (ync a m x) :=
  yAR (a:=a) (b:=ync a m x) rfl (yES h.2.1 hm hx) h.2.2.1 h
theorem y13 {k m:Int} {a:dA} (h:Wk k a) (hl:a.2.2.2.1= -1) (hm:inb m a.2.2.1.length=true) (hk:k+1≤60000):Wk (k+1) (yqA a m):=by
  have hmi:=zjP.1 hm
  have hw:Wk k (yfB a m):=by
    obtain ⟨⟨c1,c2,c3,c4,c5,c6,c7,c8,c9,c10,c11⟩,⟨⟨g1,g2⟩,g3⟩,f,b,t⟩:=h
    refine ⟨⟨c1,c2,c3,⟨?_,?_⟩,⟨Int.le_refl _,by show (0:Int)≤a.2.1.2; omega⟩,fun e=>rfl,c7,c8,c9,c10,c11⟩,⟨⟨?_,?_⟩,g3⟩,f,b,t⟩
    · show -1≤m; omega
    · show m≤a.2.1.1 - 1; omega
    · show yLz m a.2.2.2.2.2.2.2.2.2.2.2 a.2.1.2 (a.2.2.1.set m.toNat (yAQ (nth a.2.2.1 m ye)))
      refine yKD (fun i hi=> ?_) (fun hi=> ?_)
      · obtain ⟨e1,e2,e3⟩:=g1 i hi
        refine ⟨e1,e2,fun e=> ?_⟩
        rcases e3 e with e | e
        · omega
        · exact .inr e
      · have:=g1 m.toNat hi
        rw [Int.toNat_of_nonneg hmi.1]at this
        exact ⟨y0m this.1,this.2.1,fun _=> .inl (Int.toNat_of_nonneg hmi.1)⟩
    · show ((a.2.2.1.set m.toNat (yAQ (nth a.2.2.1 m ye))).length:Int)=a.2.1.1
      rw [List.length_set]; exact g2
  unfold yqA
  rw [show (a.2.2.2.1== -1)=true from beq_iff_eq.2 hl,h.2.2.1.1,h.2.2.2.1]
  cases ltb a.2.2.2.2.2.2.2.1 60000
  · exact yab hw (by omega)
  · exact yW2 hw hk
theorem y1F {k:Int} {a:dA} (h:Wk k a) (hl:inb a.2.2.2.1 a.2.2.1.length=true) (hk:k+1≤60000):Wk (k+1) (yy (yx a)):=by
  have hmi:=zjP.1 hl
  refine yW2 ?_ hk
  obtain ⟨⟨c1,c2,c3,c4,c5,c6,c7,c8,c9,c10,c11⟩,⟨⟨g1,g2⟩,g3⟩,f,b,t⟩:=h
  have hg:=yk.1 c1
  refine ⟨⟨c1,c2,c3,c4,⟨Int.le_refl _,by show (0:Int)≤a.2.1.2; omega⟩,fun e=>rfl,c7,c8,c9,c10,c11⟩,⟨⟨yKD g1 (fun hi=>⟨yEy (by omega) (by omega),?_,fun e=> ?_⟩),?_⟩,g3⟩,f,b,t⟩
  · unfold ybZ
    rw [zk0 (show 1≤6+a.2.1.2 by omega),zk0 (show 6+a.2.1.2≤20 by omega)]
    show ((List.replicate (6+a.2.1.2).toNat ([]:List Int)).length:Int)=6+a.2.1.2
    rw [List.length_replicate]; omega
  · unfold ybZ at e
    rw [zk0 (show 1≤6+a.2.1.2 by omega),zk0 (show 6+a.2.1.2≤20 by omega)] at e
    cases e
  · show ((a.2.2.1.set a.2.2.2.1.toNat (ybZ (6+a.2.1.2))).length:Int)=a.2.1.1
    rw [List.length_set]; exact g2
theorem y16 {k:Int} {a:dA} (h:Wk k a) (hl:inb a.2.2.2.1 a.2.2.1.length=true) (hb:a.2.2.2.2.1 < a.2.1.2):Wk k (ybn a).2:=by
  have hp:Wk k (yX a):=y2q h hl
  have e:=ytw a a.2.2.2.1 (ycA a.2.2.2.2.1) [nth (yZ a a.2.2.2.2.1).1 a.2.2.2.1 0]
  have e1:(yX a).2.2.2.2.1=a.2.2.2.2.1:=yGG e
  have e2:(yX a).2.1=a.2.1:=yen e
  have e3:(yX a).2.2.2.1=a.2.2.2.1:=congrArg (fun x=>x.2.2.1) e
  unfold ybn
  cases (yZ a a.2.2.2.2.1).2
  · exact h
  · generalize yX a=R at hp e1 e2 e3 ⊢
    rw [hp.2.2.1.1]
    have hmi:=zjP.1 hl
    obtain ⟨⟨c1,c2,c3,c4,c5,c6,c7,c8,c9,c10,c11⟩,g2,g3,g4,g5⟩:=hp
    have hg:=yk.1 c1
    have e4:IntKind.i64.wrap (R.2.2.2.2.1+1)=R.2.2.2.2.1+1:=wr (by omega) (by omega)
    refine ⟨⟨c1,c2,c3,c4,⟨?_,?_⟩,fun e=> ?_,c7,c8,c9,c10,c11⟩,g2,g3,g4,g5⟩
    · show 0≤IntKind.i64.wrap (R.2.2.2.2.1+1); omega
    · show IntKind.i64.wrap (R.2.2.2.2.1+1)≤R.2.1.2; rw [e4,e1,e2]; omega
    · have:R.2.2.2.1= -1:=e
      omega
def yb2 (a:dA):Prop:=a.2.2.1.length≤1000000000∧(∀ m∈a.2.2.1,m.1.length≤1000000000∧m.2.1.length≤1000000000)∧a.2.2.2.2.2.2.2.2.1.length≤1000000000
theorem ytc {d:List dW} {a:dA} (h:yaQ d a) (hd:d.length≤1000000000):yb2 a:=by
  refine ⟨by have:=h.1; omega,fun m hm=> ?_,by rw [h.2.2]; exact hd⟩
  obtain ⟨_,_,_,_,h5,h6⟩:=yao (h.2.1 m hm)
  omega
theorem y03 {a:dA} (h:yb2 a):yb2 (yL a).1:=by
  cases ha:ym a
  · unfold yL; rw [ha]; exact h
  · exact ytc (yAK (yw0 ha)) h.2.2
theorem y1y {a:dA} (h:yb2 a):yb2 (yN a).1:=by
  cases ha:ym a
  · unfold yN; rw [ha]; exact h
  · exact ytc (yw1 (yw0 ha)) h.2.2
theorem y02 {a:dA} (h:yb2 a):yb2 (ypp a).1:=by
  cases ha:ym a
  · unfold ypp; rw [ha]; exact h
  · exact ytc (yS9 (yw0 ha)) h.2.2
theorem y1X {a:dA} (h:yb2 a):yb2 (ypq a).1:=by
  cases ha:ym a
  · have hs:yL a=(a,1):=by unfold yL; rw [ha]; rfl
    unfold ypq
    rw [hs]; exact h
  · exact ytc (yYb (yw0 ha)) h.2.2
theorem yJX {a b:dA} (h:yD a=yD b):a.2.2.2.1=b.2.2.2.1:=congrArg (fun x=>x.2.2.1) h
theorem yZP (s:dS):yaf (yK s)=true:=by
  unfold yK
  cases h:yaH s
  · rfl
  · unfold yaH at h
    simp only [ydj]at h
    cases hg:yf (s.2.2.2.1,s.2.2.2.2.1)
    · rw [hg]at h; cases h
    have hge:=yk.1 hg
    simp only at hge
    rw [hg,wr (show -9223372036854775808≤s.2.2.2.1 - 1 by omega) (by omega)] at h
    cases h2:(leb 1 s.1&&leb s.1 60000)
    · rw [h2]at h; cases h
    cases h3:(leb 0 s.2.1&&leb s.2.1 60000)
    · rw [h2,h3]at h; cases h
    cases h4:(leb 0 s.2.2.1&&leb s.2.2.1 (s.2.2.2.1 - 1))
    · rw [h2,h3,h4]at h; cases h
    cases h5:(leb 0 s.2.2.2.2.2.1&&leb s.2.2.2.2.2.1 60000)
    · rw [h2,h3,h4,h5]at h; cases h
    cases h6:(leb (-1) s.2.2.2.2.2.2.1&&leb s.2.2.2.2.2.2.1 (s.2.2.2.1 - 1))
    · rw [h2,h3,h4,h5,h6]at h; cases h
    cases h7:(leb 0 s.2.2.2.2.2.2.2&&leb s.2.2.2.2.2.2.2 s.2.2.2.2.1)
    · rw [h2,h3,h4,h5,h6,h7]at h; cases h
    simp only [Bool.and_eq_true,zjQ]at h2 h3 h4 h5 h6 h7
    rw [yyA]
    refine ⟨by show (9:Nat)≤12; omega,?_⟩
    have hw:IntKind.i64.wrap (s.2.2.2.2.2.2.1+1)=s.2.2.2.2.2.2.1+1:=wr (by omega) (by omega)
    simp only [Bool.not_true,cond_false,hw,List.mem_cons,List.not_mem_nil,or_false]
    rintro x (rfl | rfl | rfl | rfl | rfl | rfl | rfl | rfl | rfl)<;>omega
theorem y0I {g:dG} (id i:Int) (hg:yf g=true):yp (yH id g i)=true∧((yH id g i).1.length:Int)=6+g.2∧(yH id g i).2=([],false,[]):=by
  have hge:=yk.1 hg
  have hm:ybZ (6+g.2)=(List.replicate (6+g.2).toNat [],[],false,[]):=by
    unfold ybZ
    rw [zk0 (show 1≤6+g.2 by omega),zk0 (show 6+g.2≤20 by omega)]; rfl
  have key: ∀ (l:List Nat) (m:dM),m.1.all yaf=true∧m.2=([],false,[])→(l.foldl yGk m).1.all yaf=true∧(l.foldl yGk m).2=([],false,[]):=by
    intro l
    induction l with
    | nil=>intro m h; exact h
    | cons x t ih =>
      intro m h
      refine ih _ ⟨?_,h.2⟩
      rw [List.all_eq_true]
      intro y hy
      rcases List.mem_or_eq_of_mem_set hy with h1 | rfl
      · exact List.all_eq_true.1 h.1 y h1
      · rfl
  have ht:(yyx id g i).1.all yaf=true∧(yyx id g i).2=([],false,[]):=by
    unfold yyx
    rw [hm]
    refine ⟨?_,rfl⟩
    rw [List.all_eq_true]
    intro y hy
    rcases List.mem_or_eq_of_mem_set hy with h1 | rfl
    · rw [List.eq_of_mem_replicate h1]; rfl
    · exact yZP _
  have hl:((yH id g i).1.length:Int)=6+g.2:=by
    unfold yH
    rw [yZ7]
    unfold yyx
    rw [hm]
    show (((List.replicate (6+g.2).toNat ([]:List Int)).set 0 _).length:Int)=_
    rw [List.length_set,List.length_replicate]; omega
  obtain ⟨h1,h2⟩:=key (List.range g.2.toNat) _ ht
  refine ⟨ywZ h1 ?_ ?_ ?_ ?_ ?_,hl,h2⟩
  · show List.all ((yH id g i).2).1 _=true
    rw [show (yH id g i).2=([],false,[]) from h2]; rfl
  · show yqw _ ((yH id g i).2).2.2=true
    rw [show (yH id g i).2=([],false,[]) from h2,ylq]
    exact ⟨fun x hx=>absurd hx List.not_mem_nil,List.Pairwise.nil⟩
  · show 1≤(yH id g i).1.length; omega
  · show (yH id g i).1.length≤20; omega
  · show ((yH id g i).2).1.length≤60
    rw [show (yH id g i).2=([],false,[]) from h2]; exact Nat.zero_le _
theorem y0O {id:Int} {g:dG} (hg:yf g=true) (h1:1≤id) (h2:id≤60000):yBr id g=(id,g,(List.range g.1.toNat).map (fun (i:Nat)=>yH id g i),-1,0,0,0,0,[],-1,false,false):=by
  unfold yBr
  rw [hg,zk0 h1,zk0 h2]
  have: ∀ (n:Nat),(List.range n).foldl (fun a (i:Nat)=>yBq a (yH id g i)) (yBs id g)=(id,g,(List.range n).map (fun (i:Nat)=>yH id g i),-1,0,0,0,0,[],-1,false,false):=by
    intro n
    induction n with
    | zero=>rfl
    | succ n ih=>rw [List.range_succ,List.foldl_append,ih,List.map_append]; rfl
  exact this _
theorem y2p {id:Int} {g:dG} (hg:yf g=true) (h1:1≤id) (h2:id≤60000):Wk 0 (yBr id g):=by
  have hge:=yk.1 hg
  rw [y0O hg h1 h2]
  have hl:((List.range g.1.toNat).map (fun (i:Nat)=>yH id g i)).length=g.1.toNat:=by rw [List.length_map,List.length_range]
  refine ⟨⟨hg,⟨h1,h2⟩,?_,⟨Int.le_refl _,?_⟩,⟨Int.le_refl _,?_⟩,fun _=>rfl,?_,?_,?_,?_,?_⟩,⟨⟨fun i hi=> ?_,?_⟩,?_,?_⟩,⟨rfl,rfl⟩,rfl,Int.le_refl _⟩
  · rfl
  · show (-1:Int)≤g.1 - 1; omega
  · show (0:Int)≤g.2; omega
  · show (0:Int)≤0∧(0:Int)≤60000; omega
  · show (0:Int)≤0∧(0:Int)≤60000; omega
  · show (0:Int)≤0+4; omega
  · show (0:Int)≤0; omega
  · show (0:Int)≤60000; omega
  · have hi':i < ((List.range g.1.toNat).map (fun (i:Nat)=>yH id g i)).length:=hi
    show yCp (-1) false g.2 i (nth ((List.range g.1.toNat).map (fun (i:Nat)=>yH id g i)) i ye)
    rw [zjW,zcq hi',List.getElem_map,List.getElem_range]
    obtain ⟨k1,k2,k3⟩:=y0I id i hg
    refine ⟨k1,k2,fun e=> ?_⟩
    rw [show (yH id g i).2=([],false,[]) from k3]at e
    cases e
  · show (((List.range g.1.toNat).map (fun (i:Nat)=>yH id g i)).length:Int)=g.1
    rw [hl]; omega
  · show (-1:Int)≤ -1; omega
  · show (-1:Int)≤1000; omega
theorem y1G {k m n:Int} {a:dA} (h:Wk k a) (hm:inb m a.2.2.1.length=true):Wk k (ync a m (yxr (nth a.2.2.1 m ye) n)) :=
  y1e h hm (fun g=>⟨yZR n g.1,by rw [(yXo _ _).1]; exact g.2.1,by rw [(yXo _ _).2]; exact g.2.2⟩)
theorem yJW {α:Type} {c:Bool} {x y:α} (h:c=true):(bif !c then x else y)=y:=by subst h; rfl
theorem yGF {α:Type} {c:Bool} {x y:α} (h:c=false):(bif !c then x else y)=x:=by subst h; rfl
def Lo (d:List dW) (a:dA):Prop:=yaQ d a∧yf a.2.1=true∧(a.2.2.1.length:Int)=a.2.1.1∧ -1≤a.2.2.2.1∧a.2.2.2.1≤a.2.1.1 - 1
theorem y04 {a:dA} (h:ym a=true):Lo a.2.2.2.2.2.2.2.2.1 a:=⟨yw0 h,ybI h,yxD h,yOi h⟩
theorem y0C {d:List dW} {a b:dA} (hg:b.2.1=a.2.1) (hl:b.2.2.1.length=a.2.2.1.length) (ht:b.2.2.2.1=a.2.2.2.1) (hn:yaQ d b) (h:Lo d a):Lo d b:=⟨hn,by rw [hg]; exact h.2.1,by rw [hg,hl]; exact h.2.2.1,by rw [hg,ht]; exact h.2.2.2⟩
theorem y0n {d:List dW} {a:dA} (h:Lo d a):Lo d (yy a):=y0C ((yen (ylt a)).trans rfl) (yCo a) ((yJX (ylt a)).trans rfl) (yKY h.1) h
theorem yGP {d:List dW} {a:dA} (h:Lo d a) (h0:leb 0 a.2.2.2.1=true):inb a.2.2.2.1 a.2.2.1.length=true∧inb a.2.2.2.1 a.2.1.1.toNat=true:=by
  have h0:=zjQ.1 h0
  have h1:=h.2.2.1
  have h2:=h.2.2.2.2
  exact ⟨zjP.2 (by omega),zjP.2 (by omega)⟩
theorem y0o {d:List dW} {a:dA} (h:Lo d a) (h0:leb 0 a.2.2.2.1=true):Lo d (ybn a).2∧(ybn a).2.2.2.2.1=a.2.2.2.1:=by
  have hn:=yXm h.1 (yGP h h0).1
  have e:=ytw a a.2.2.2.1 (ycA a.2.2.2.2.1) [nth (yZ a a.2.2.2.2.1).1 a.2.2.2.1 0]
  have e1:(yX a).2.1=a.2.1:=yen e
  have e2:(yX a).2.2.1.length=a.2.2.1.length:=yqI _ _ _ _
  have e3:(yX a).2.2.2.1=a.2.2.2.1:=yJX e
  unfold ybn at hn ⊢
  cases hw:(yZ a a.2.2.2.2.1).2
  · exact ⟨h,rfl⟩
  · rw [hw]at hn
    generalize yX a=R at e1 e2 e3 hn ⊢
    cases hd:yg R
    · rw [hd]at hn; exact ⟨y0C (b:=yUG R) e1 e2 e3 hn h,e3⟩
    · rw [hd]at hn; exact ⟨y0C e1 e2 e3 hn h,e3⟩
theorem y1Y {d:List dW} {a:dA} {m:Int} (h:Lo d a) (hm:inb m a.2.2.1.length=true):Lo d (yqA a m):=by
  obtain ⟨f1,f2⟩:=yNL h.1.2.1 hm
  have hmi:=zjP.1 hm
  have h3:=h.2.2.1
  have hL:Lo d (yfB a m):=⟨⟨by rw [f2]; exact h.1.1,f1,h.1.2.2⟩,h.2.1,by rw [f2]; exact h.2.2.1,by show -1≤m; omega,by show m≤a.2.1.1 - 1; omega⟩
  have hB:Lo d (ylT a m):=⟨⟨by rw [show (ylT a m).2.2.1=(yfB a m).2.2.1 from rfl,f2]; exact h.1.1,f1,h.1.2.2⟩,h.2.1,by rw [show (ylT a m).2.2.1=(yfB a m).2.2.1 from rfl,f2]; exact h.2.2.1,h.2.2.2⟩
  unfold yqA
  cases (a.2.2.2.1== -1||a.2.2.2.1==m)
  · exact hB
  · cases (!(yg a)&&(!a.2.2.2.2.2.2.2.2.2.2.2&&ltb a.2.2.2.2.2.2.2.1 60000))
    · exact hL
    · exact y0n hL
theorem y1z {d:List dW} {a:dA} (h:Lo d a):Lo d (yy (yx a)):=by
  have hg:=yk.1 h.2.1
  have e:(yx a).2.2.1.length=a.2.2.1.length:=List.length_set
  exact y0n (a:=yx a) ⟨⟨by rw [e]; exact h.1.1,yvx h.1.2.1 (yEy (by omega) (by omega)),h.1.2.2⟩,h.2.1,by rw [e]; exact h.2.2.1,h.2.2.2⟩
end
section
def ymk:Code:=(Tryz.f138.body).getD .skip
def yr1:Env:=zki TT [(135,yq)] [(28864,.fz),(28928,.fz)]
theorem yOO:FrOk Tryz.prog ⟨yr1,22,fun _=>none⟩ ymk:=zkp yc yd ⟨yz,trivial⟩
def yDm:Nat→Option Seg:=fun _=>none
def yca:Shape:=⟨[(0,false,[.int .i64]),(2,false,[.ptr 0 0]),(3,false,[.ptr 12352 0]),(4,false,[.int .i64])],[(0,[.nil,.nil,.bool,.nil]),(12352,[.at 800000000,.nil,.bool,.nil])],[(800000000,tL,.fz)]⟩
def yhc:Shape:=⟨[(0,false,[.int .i64]),(2,false,[.ptr 0 0]),(3,false,[.ptr 12352 0]),(4,false,[.ci .i64 0])],[(0,[.nil,.nil,.bool,.nil]),(12352,[.at 800000000,.nil,.bool,.nil])],[(800000000,tL,.fz)]⟩
def yg0:Shape:=⟨[(2,false,[.ptr 0 0]),(3,false,[.ptr 12352 0])],[(0,[.nil,.nil,.bool,.nil]),(12352,[.at 800000000,.nil,.bool,.nil])],[(800000000,tL,.fz)]⟩
def ylH:Shape:=⟨[],[],[]⟩
abbrev yrn (v0:Int) (v1:Int) (v2:dM) (v3:dM):(yca).X:=(((v0,()),((),()),((),()),(v1,()),()),(((),(),v2.2.2.1,(),()),((),(),v3.2.2.1,(),()),()),(v3.1,()))
abbrev yMK (v0:Int) (v1:dM) (v2:dM):(yhc).X:=(((v0,()),((),()),((),()),((),()),()),(((),(),v1.2.2.1,(),()),((),(),v2.2.2.1,(),()),()),(v2.1,()))
abbrev yMC (v0:dM) (v1:dM):(yg0).X:=((((),()),((),()),()),(((),(),v0.2.2.1,(),()),((),(),v1.2.2.1,(),()),()),(v1.1,()))
def yrD (v0:Int) (v1:Int) (v2:Bool) (v3:Bool) (v4:List (List Int)):Option ((yca).X ⊕ ((yg0).X ⊕ (ylH).X)) :=
  bif (ltb v1 v0) then
    bif (zj4 v4.length ([([]:List Int)]:List (List Int)).length 24) then
      some (.inl (((v0,()),((),()),((),()),((IntKind.i64.wrap (v1+1)),()),()),(((),(),v2,(),()),((),(),v3,(),()),()),((v4++([([]:List Int)]:List (List Int))),())))
    else none
  else
    some (.inr (.inl ((((),()),((),()),()),(((),(),v2,(),()),((),(),v3,(),()),()),(v4,()))))
def ycN (x:(yca).X):=yrD x.1.1.1 x.1.2.2.2.1.1 x.2.1.1.2.2.1 x.2.1.2.1.2.2.1 x.2.2.1
def yzT (x:(yhc).X):(yca).X:=(((x.1.1.1,()),((),()),((),()),(0,()),()),(((),(),x.2.1.1.2.2.1,(),()),((),(),x.2.1.2.1.2.2.1,(),()),()),(x.2.2.1,()))
def yBw:Code:=(zdI ymk 64 244).getD .skip
theorem yN6:zdI ymk 64 61=some (.block 0 (.loop yBw)):=by kernel_rfl
theorem yQP (x:(yca).X):zg7 ⟨yr1,22,yDm⟩ 0 yBw 244 yca yg0 ylH x=ycN x:=by kernel_rfl
def yz5 (x:(yhc).X):Nat:=(fun (u0:Int) (u1:Bool) (u2:Bool) (u3:List (List Int))=>18446744073709551616) x.1.1.1 x.2.1.1.2.2.1 x.2.1.2.1.2.2.1 x.2.2.1
def ysV (x:(yhc).X):Option ((yg0).X ⊕ (ylH).X):=zr ycN (yz5 x) (yzT x)
def yAr:Seg:=⟨yhc,yg0,ylH,ysV⟩
def yDn:Nat→Option Seg:=fun q=>bif Nat.beq q 61 then some yAr else yDm q
theorem yOP:FrOk Tryz.prog ⟨yr1,22,yDn⟩ ymk:=(yOO).loop (sg:=yAr) yca yzT (by decide) yN6 ycN yz5 (by decide) (fun _=>rfl) (fun x r _ h=>h) yQP
abbrev yh0:List Par:= [.rd tI]
abbrev yso:List OT:= [⟨false,tM,(.pr (.ow .fz) (.pr (.ow (.pr .fz .fz)) (.pr .fz (.ow .fz))))⟩]
def yoA (a0:Int):Option (ResD yso×MutD yh0) :=
  let r1:=ya a0 1 20
  bif (!r1) then
    some ((([],[],false,[]),()),())
  else
    zjw (ysV (((a0,()),((),()),((),()),((),()),()),(((),(),false,(),()),((),(),false,(),()),()),([],()))) (fun y1 =>
      some (((y1.2.2.1,[],y1.2.1.2.1.2.2.1,[]),()),())) (fun y1 =>
      none)
theorem yXM (x:InD yh0):zjH ⟨yr1,22,yDn⟩ Tryz.f138.results.toList ymk yh0 yso x=yoA x.1:=by kernel_rfl
theorem yTL:ConOk Tryz.prog 138 ⟨yh0,yso,fun x=>yoA x.1⟩:=zkh (yOP) Tryz.func138 (by kernel_rfl) (by kernel_rfl) Tryz.ntmps138.symm (by decide) (fun x r h=>(yXM x).trans h)
def ybk (a0:Int):dM:=ybZ a0
theorem yVO (a0:Int) (hk:zi9 yh0 (a0,())):yoA a0=(fun n=>some ((n,()),())) (ybk a0):=by
  unfold yoA ybk ybZ
  simp only [ydj]
  cases hc:(leb 1 a0&&leb a0 20)
  · rfl
  · rw [Bool.and_eq_true,zjQ,zjQ]at hc
    have h1:ysV (yMK a0 ye ye)=some (.inl (yMC ye (List.replicate a0.toNat [],[],false,[]))) :=
      zjs (step:=ycN) (fun i=>yrn a0 i ye (List.replicate i [],[],false,[])) a0.toNat _ (fun i hi=>by
        simp only [ycN,yrn,yrD,zjI (show (i:Int) < a0 by omega),cond_true,wr (show -9223372036854775808≤(i:Int)+1 by omega) (by omega),Int.natCast_add,Int.natCast_one,Int.toNat_natCast]
        rw [zkw.2 (show ((List.replicate i ([]:List Int)).length+([[]]:List (List Int)).length) * 24≤140737488355328 by simp only [List.length_cons,List.length_nil,List.length_replicate]; omega),← List.replicate_succ']; rfl) (by simp only [ycN,yrn,yrD,zkm (show a0≤(a0.toNat:Int) by omega),cond_false]) _ (by show _ < 18446744073709551616; omega)
    rw [h1]; rfl
def yok:Con:=⟨yh0,yso,fun x=>(fun n=>some ((n,()),())) (ybk x.1)⟩
theorem yw5:ConOk Tryz.prog 138 yok:=(yTL).mono (fun x r hk h=>(yVO x.1 hk).trans h)
end
section
def yNG:Code:=(Tryz.f263.body).getD .skip
def yNI:Env:=zki TT [] []
theorem yVs:FrOk Tryz.prog ⟨yNI,31,fun _=>none⟩ yNG:=zkp yc yd trivial
def yXv:Nat→Option Seg:=fun _=>none
abbrev yrO:List Par:= [.pt tA (.pr .fz (.pr (.pr .fz .fz) (.pr (.ow (.pr (.ow .fz) (.pr (.ow (.pr .fz .fz)) (.pr .fz (.ow .fz))))) (.pr .fz (.pr .fz (.pr .fz (.pr .fz (.pr .fz (.pr (.ow (.pr .fz .fz)) (.pr .fz (.pr .fz .fz)))))))))))]
abbrev yxo:List OT:= [⟨false,tB,.fz⟩]
def yy3 (a0:dA):Option (ResD yxo×MutD yrO) :=
  bif a0.2.2.2.2.2.2.2.2.2.2.1 then
    some ((false,()),(a0,()))
  else
    bif (a0.2.2.2.2.2.2.2.2.2.1==0) then
      some ((false,()),((a0.1,a0.2.1,a0.2.2.1,a0.2.2.2.1,a0.2.2.2.2.1,a0.2.2.2.2.2.1,a0.2.2.2.2.2.2.1,a0.2.2.2.2.2.2.2.1,a0.2.2.2.2.2.2.2.2.1,(-1),true,a0.2.2.2.2.2.2.2.2.2.2.2),()))
    else
      bif (ltb 0 a0.2.2.2.2.2.2.2.2.2.1) then
        some ((true,()),((a0.1,a0.2.1,a0.2.2.1,a0.2.2.2.1,a0.2.2.2.2.1,a0.2.2.2.2.2.1,a0.2.2.2.2.2.2.1,a0.2.2.2.2.2.2.2.1,a0.2.2.2.2.2.2.2.2.1,(IntKind.i64.wrap (a0.2.2.2.2.2.2.2.2.2.1 - 1)),a0.2.2.2.2.2.2.2.2.2.2),()))
      else
        some ((true,()),(a0,()))
theorem yZ2 (x:InD yrO):zjH ⟨yNI,31,yXv⟩ Tryz.f263.results.toList yNG yrO yxo x=yy3 x.1:=by kernel_rfl
theorem yYB:ConOk Tryz.prog 263 ⟨yrO,yxo,fun x=>yy3 x.1⟩:=zkh (yVs) Tryz.func263 (by kernel_rfl) (by kernel_rfl) Tryz.ntmps263.symm (by decide) (fun x r h=>(yZ2 x).trans h)
def yrY (a0:dA):Bool×dA :=
  bif a0.2.2.2.2.2.2.2.2.2.2.1 then
    (false,a0)
  else
    bif (a0.2.2.2.2.2.2.2.2.2.1==0) then
      (false,(a0.1,a0.2.1,a0.2.2.1,a0.2.2.2.1,a0.2.2.2.2.1,a0.2.2.2.2.2.1,a0.2.2.2.2.2.2.1,a0.2.2.2.2.2.2.2.1,a0.2.2.2.2.2.2.2.2.1,(-1),true,a0.2.2.2.2.2.2.2.2.2.2.2))
    else
      bif (ltb 0 a0.2.2.2.2.2.2.2.2.2.1) then
        (true,(a0.1,a0.2.1,a0.2.2.1,a0.2.2.2.1,a0.2.2.2.2.1,a0.2.2.2.2.2.1,a0.2.2.2.2.2.2.1,a0.2.2.2.2.2.2.2.1,a0.2.2.2.2.2.2.2.2.1,(IntKind.i64.wrap (a0.2.2.2.2.2.2.2.2.2.1 - 1)),a0.2.2.2.2.2.2.2.2.2.2))
      else
        (true,a0)
def yyP:Con:=⟨yrO,yxo,fun x=>(fun n=>some ((n.1,()),(n.2,()))) (yrY x.1)⟩
theorem yZK (a0:dA):yy3 a0=(fun n=>some ((n.1,()),(n.2,()))) (yrY a0):=zkS (p:=fun (n:Bool×dA)=>((n.1,()),(n.2,()))) (zkx (p:=fun (n:Bool×dA)=>((n.1,()),(n.2,()))) rfl (zkx (p:=fun (n:Bool×dA)=>((n.1,()),(n.2,()))) rfl (zkx (p:=fun (n:Bool×dA)=>((n.1,()),(n.2,()))) rfl rfl)))
theorem yLd:ConOk Tryz.prog 263 yyP:=(yYB).mono (fun x r _ h=>(yZK x.1).trans h)
theorem yUE (a:dA):yrY a=opA a:=by kernel_rfl
end
section
def ydO:Code:=(Tryz.f152.body).getD .skip
def yhT:Env:=zki TT [] [(21056,.fz),(21120,.fz),(37952,(.pr .fz .fz)),(38016,(.pr .fz .fz))]
theorem yOX:FrOk Tryz.prog ⟨yhT,60,fun _=>none⟩ ydO:=zkp yc yd trivial
def yDo:Nat→Option Seg:=fun _=>none
def ycc:Shape:=⟨[(1,false,[.ptr 0 0]),(2,false,[.ptr 64 0]),(3,false,[.ptr 4544 0]),(4,false,[.int .i64])],[(0,[.br tL,.br tW,.bool,.br tI]),(64,[.nil,.nil,.bool,.nil]),(4544,[.at 800000001,.nil,.bool,.at 800000000])],[(800000001,tL,.fz),(800000000,tI,.fz)]⟩
def yhe:Shape:=⟨[(1,false,[.ptr 0 0]),(2,false,[.ptr 64 0]),(3,false,[.ptr 4544 0]),(4,false,[.ci .i64 0])],[(0,[.br tL,.br tW,.bool,.br tI]),(64,[.nil,.nil,.bool,.nil]),(4544,[.at 800000001,.nil,.bool,.at 800000000])],[(800000001,tL,.fz),(800000000,tI,.fz)]⟩
def yg2:Shape:=⟨[(1,false,[.ptr 0 0]),(2,false,[.ptr 64 0]),(3,false,[.ptr 4544 0])],[(0,[.br tL,.br tW,.bool,.br tI]),(64,[.nil,.nil,.bool,.nil]),(4544,[.at 800000000,.nil,.bool,.at 800000001])],[(800000000,tL,.fz),(800000001,tI,.fz)]⟩
def ylI:Shape:=⟨[],[],[]⟩
abbrev yrp (v0:Int) (v1:dM) (v2:dM) (v3:dM):(ycc).X:=((((),()),((),()),((),()),(v0,()),()),((v1.1,v1.2.1,v1.2.2.1,v1.2.2.2,()),((),(),v2.2.2.1,(),()),((),(),v3.2.2.1,(),()),()),(v3.1,v3.2.2.2,()))
abbrev yMM (v0:dM) (v1:dM) (v2:dM):(yhe).X:=((((),()),((),()),((),()),((),()),()),((v0.1,v0.2.1,v0.2.2.1,v0.2.2.2,()),((),(),v1.2.2.1,(),()),((),(),v2.2.2.1,(),()),()),(v2.1,v2.2.2.2,()))
abbrev yAg (v0:dM) (v1:dM) (v2:dM):(yg2).X:=((((),()),((),()),((),()),()),((v0.1,v0.2.1,v0.2.2.1,v0.2.2.2,()),((),(),v1.2.2.1,(),()),((),(),v2.2.2.1,(),()),()),(v2.1,v2.2.2.2,()))
def yrF (v0:Int) (v1:List (List Int)) (v2:List dW) (v3:Bool) (v4:List Int) (v5:Bool) (v6:Bool) (v7:List (List Int)) (v8:List Int):Option ((ycc).X ⊕ ((yg2).X ⊕ (ylI).X)) :=
  bif (ltb v0 (v1.length:Int)) then
    bif (inb v0 v1.length) then
      bif (zj4 ([]:List Int).length (nth v1 v0 []).length 8) then
        bif (zj4 v7.length ([(([]:List Int)++(nth v1 v0 []))]:List (List Int)).length 24) then
          some (.inl ((((),()),((),()),((),()),((IntKind.i64.wrap (v0+1)),()),()),((v1,v2,v3,v4,()),((),(),v5,(),()),((),(),v6,(),()),()),((v7++([(([]:List Int)++(nth v1 v0 []))]:List (List Int))),v8,())))
        else none
      else none
    else none
  else
    some (.inr (.inl ((((),()),((),()),((),()),()),((v1,v2,v3,v4,()),((),(),v5,(),()),((),(),v6,(),()),()),(v7,v8,()))))
def ycP (x:(ycc).X):=yrF x.1.2.2.2.1.1 x.2.1.1.1 x.2.1.1.2.1 x.2.1.1.2.2.1 x.2.1.1.2.2.2.1 x.2.1.2.1.2.2.1 x.2.1.2.2.1.2.2.1 x.2.2.1 x.2.2.2.1
def yzV (x:(yhe).X):(ycc).X:=((((),()),((),()),((),()),(0,()),()),((x.2.1.1.1,x.2.1.1.2.1,x.2.1.1.2.2.1,x.2.1.1.2.2.2.1,()),((),(),x.2.1.2.1.2.2.1,(),()),((),(),x.2.1.2.2.1.2.2.1,(),()),()),(x.2.2.1,x.2.2.2.1,()))
def yBy:Code:=(zdI ydO 64 116).getD .skip
theorem yN8:zdI ydO 64 29=some (.block 0 (.loop yBy)):=by kernel_rfl
theorem yQR (x:(ycc).X):zg7 ⟨yhT,60,yDo⟩ 0 yBy 116 ycc yg2 ylI x=ycP x:=by kernel_rfl
def yz7 (x:(yhe).X):Nat:=(fun (u0:List (List Int)) (u1:List dW) (u2:Bool) (u3:List Int) (u4:Bool) (u5:Bool) (u6:List (List Int)) (u7:List Int)=>18446744073709551616) x.2.1.1.1 x.2.1.1.2.1 x.2.1.1.2.2.1 x.2.1.1.2.2.2.1 x.2.1.2.1.2.2.1 x.2.1.2.2.1.2.2.1 x.2.2.1 x.2.2.2.1
def ysX (x:(yhe).X):Option ((yg2).X ⊕ (ylI).X):=zr ycP (yz7 x) (yzV x)
def yAt:Seg:=⟨yhe,yg2,ylI,ysX⟩
def yt7:Nat→Option Seg:=fun q=>bif Nat.beq q 29 then some yAt else yDo q
theorem yOY:FrOk Tryz.prog ⟨yhT,60,yt7⟩ ydO:=(yOX).loop (sg:=yAt) ycc yzV (by decide) yN8 ycP yz7 (by decide) (fun _=>rfl) (fun x r _ h=>h) yQR
def ycd:Shape:=⟨[(1,false,[.ptr 0 0]),(2,false,[.ptr 64 0]),(3,false,[.ptr 4544 0]),(5,false,[.int .i64])],[(0,[.br tL,.br tW,.bool,.br tI]),(64,[.nil,.nil,.bool,.nil]),(4544,[.at 800000000,.at 800000002,.bool,.at 800000001])],[(800000000,tL,.fz),(800000002,tW,(.pr .fz .fz)),(800000001,tI,.fz)]⟩
def yhf:Shape:=⟨[(1,false,[.ptr 0 0]),(2,false,[.ptr 64 0]),(3,false,[.ptr 4544 0]),(5,false,[.ci .i64 0])],[(0,[.br tL,.br tW,.bool,.br tI]),(64,[.nil,.nil,.bool,.nil]),(4544,[.at 800000000,.at 800000002,.bool,.at 800000001])],[(800000000,tL,.fz),(800000002,tW,(.pr .fz .fz)),(800000001,tI,.fz)]⟩
def yg3:Shape:=⟨[(2,false,[.ptr 64 0]),(3,false,[.ptr 4544 0])],[(64,[.nil,.nil,.bool,.nil]),(4544,[.at 800000000,.at 800000001,.bool,.at 800000002])],[(800000000,tL,.fz),(800000001,tW,(.pr .fz .fz)),(800000002,tI,.fz)]⟩
def ylJ:Shape:=⟨[],[],[]⟩
abbrev yrq (v0:Int) (v1:dM) (v2:dM) (v3:dM):(ycd).X:=((((),()),((),()),((),()),(v0,()),()),((v1.1,v1.2.1,v1.2.2.1,v1.2.2.2,()),((),(),v2.2.2.1,(),()),((),(),v3.2.2.1,(),()),()),(v3.1,v3.2.1,v3.2.2.2,()))
abbrev yMN (v0:dM) (v1:dM) (v2:dM):(yhf).X:=((((),()),((),()),((),()),((),()),()),((v0.1,v0.2.1,v0.2.2.1,v0.2.2.2,()),((),(),v1.2.2.1,(),()),((),(),v2.2.2.1,(),()),()),(v2.1,v2.2.1,v2.2.2.2,()))
abbrev yAh (v0:dM) (v1:dM):(yg3).X:=((((),()),((),()),()),(((),(),v0.2.2.1,(),()),((),(),v1.2.2.1,(),()),()),(v1.1,v1.2.1,v1.2.2.2,()))
def yrG (v0:Int) (v1:List (List Int)) (v2:List dW) (v3:Bool) (v4:List Int) (v5:Bool) (v6:Bool) (v7:List (List Int)) (v8:List dW) (v9:List Int):Option ((ycd).X ⊕ ((yg3).X ⊕ (ylJ).X)) :=
  bif (ltb v0 (v2.length:Int)) then
    bif (inb v0 v2.length) then
      bif (inb v0 v2.length) then
        bif (zj4 ([]:List Int).length ((nth v2 v0 (0,[])).2).length 8) then
          bif (zj4 v8.length ([((nth v2 v0 (0,[])).1,(([]:List Int)++((nth v2 v0 (0,[])).2)))]:List dW).length 32) then
            some (.inl ((((),()),((),()),((),()),((IntKind.i64.wrap (v0+1)),()),()),((v1,v2,v3,v4,()),((),(),v5,(),()),((),(),v6,(),()),()),(v7,(v8++([((nth v2 v0 (0,[])).1,(([]:List Int)++((nth v2 v0 (0,[])).2)))]:List dW)),v9,())))
          else none
        else none
      else none
    else none
  else
    some (.inr (.inl ((((),()),((),()),()),(((),(),v5,(),()),((),(),v6,(),()),()),(v7,v8,v9,()))))
def ycQ (x:(ycd).X):=yrG x.1.2.2.2.1.1 x.2.1.1.1 x.2.1.1.2.1 x.2.1.1.2.2.1 x.2.1.1.2.2.2.1 x.2.1.2.1.2.2.1 x.2.1.2.2.1.2.2.1 x.2.2.1 x.2.2.2.1 x.2.2.2.2.1
def yzW (x:(yhf).X):(ycd).X:=((((),()),((),()),((),()),(0,()),()),((x.2.1.1.1,x.2.1.1.2.1,x.2.1.1.2.2.1,x.2.1.1.2.2.2.1,()),((),(),x.2.1.2.1.2.2.1,(),()),((),(),x.2.1.2.2.1.2.2.1,(),()),()),(x.2.2.1,x.2.2.2.1,x.2.2.2.2.1,()))
def yBz:Code:=(zdI ydO 64 244).getD .skip
theorem yN9:zdI ydO 64 61=some (.block 2 (.loop yBz)):=by kernel_rfl
theorem yQS (x:(ycd).X):zg7 ⟨yhT,60,yt7⟩ 2 yBz 244 ycd yg3 ylJ x=ycQ x:=by kernel_rfl
def yz8 (x:(yhf).X):Nat:=(fun (u0:List (List Int)) (u1:List dW) (u2:Bool) (u3:List Int) (u4:Bool) (u5:Bool) (u6:List (List Int)) (u7:List dW) (u8:List Int)=>18446744073709551616) x.2.1.1.1 x.2.1.1.2.1 x.2.1.1.2.2.1 x.2.1.1.2.2.2.1 x.2.1.2.1.2.2.1 x.2.1.2.2.1.2.2.1 x.2.2.1 x.2.2.2.1 x.2.2.2.2.1
def ysY (x:(yhf).X):Option ((yg3).X ⊕ (ylJ).X):=zr ycQ (yz8 x) (yzW x)
def yAu:Seg:=⟨yhf,yg3,ylJ,ysY⟩
def yDp:Nat→Option Seg:=fun q=>bif Nat.beq q 61 then some yAu else yt7 q
theorem yOZ:FrOk Tryz.prog ⟨yhT,60,yDp⟩ ydO:=(yOY).loop (sg:=yAu) ycd yzW (by decide) yN9 ycQ yz8 (by decide) (fun _=>rfl) (fun x r _ h=>h) yQS
abbrev yh2:List Par:= [.rd tM]
abbrev ysw:List OT:= [⟨false,tM,(.pr (.ow .fz) (.pr (.ow (.pr .fz .fz)) (.pr .fz (.ow .fz))))⟩]
def yoC (a0:dM):Option (ResD ysw×MutD yh2) :=
  bif (zj4 ([]:List Int).length a0.2.2.2.length 8) then
    zjw (ysX ((((),()),((),()),((),()),((),()),()),((a0.1,a0.2.1,a0.2.2.1,a0.2.2.2,()),((),(),false,(),()),((),(),a0.2.2.1,(),()),()),([],(([]:List Int)++a0.2.2.2),()))) (fun y0 =>
      zjw (ysY ((((),()),((),()),((),()),((),()),()),((y0.2.1.1.1,y0.2.1.1.2.1,y0.2.1.1.2.2.1,y0.2.1.1.2.2.2.1,()),((),(),y0.2.1.2.1.2.2.1,(),()),((),(),y0.2.1.2.2.1.2.2.1,(),()),()),(y0.2.2.1,[],y0.2.2.2.1,()))) (fun y1 =>
        some (((y1.2.2.1,y1.2.2.2.1,y1.2.1.2.1.2.2.1,y1.2.2.2.2.1),()),())) (fun y1 =>
        none)) (fun y0 =>
      none)
  else none
theorem yXU (x:InD yh2):zjH ⟨yhT,60,yDp⟩ Tryz.f152.results.toList ydO yh2 ysw x=yoC x.1:=by kernel_rfl
theorem yTT:ConOk Tryz.prog 152 ⟨yh2,ysw,fun x=>yoC x.1⟩:=zkh (yOZ) Tryz.func152 (by kernel_rfl) (by kernel_rfl) Tryz.ntmps152.symm (by decide) (fun x r h=>(yXU x).trans h)
def yS (a0:dM):dM:=a0
theorem yVT (a0:dM) (hk:zi9 yh2 (a0,())):yoC a0=(fun n=>some ((n,()),())) (yS a0):=by
  have hb1:a0.1.length * 24≤2 ^ 47:=hk.1.1.1
  have hb2:a0.2.1.length * 32≤2 ^ 47:=hk.1.2.1.1
  have hb3:a0.2.2.2.length * 8≤2 ^ 47:=hk.1.2.2.2.1
  have hs: ∀ i,i < a0.1.length→(a0.1.getD i []).length * 8≤2 ^ 47:=fun i hi=>by rw [zcq hi]; exact (hk.1.1.2 _ (List.getElem_mem hi)).1
  have hc: ∀ i,i < a0.2.1.length→(a0.2.1.getD i (0,[])).2.length * 8≤2 ^ 47:=fun i hi=>by rw [zcq hi]; exact (hk.1.2.1.2 _ (List.getElem_mem hi)).2.1
  have h1:ysX (yMM a0 ye ([],[],a0.2.2.1,a0.2.2.2))=some (.inl (yAg a0 ye (a0.1,[],a0.2.2.1,a0.2.2.2))):=by
    have:=zkk (step:=ycP) a0.1 [] (fun i s=>yrp i a0 ye (s,[],a0.2.2.1,a0.2.2.2)) (fun s x=>s++ [x]) (fun i s=>s.length=i) (fun s=> .inl (yAg a0 ye (s,[],a0.2.2.1,a0.2.2.2))) (fun i s hi hs2=>⟨by
      have:=hs i hi
      simp only [ycP,yrp,yrF,zjI (show (i:Int) < a0.1.length by omega),cond_true,wr (show -9223372036854775808≤(i:Int)+1 by omega) (by omega),Int.natCast_add,Int.natCast_one,Int.toNat_natCast,zkO hi,zjW,List.nil_append]
      rw [zkw.2 (show (([]:List Int).length+(a0.1.getD i []).length) * 8≤140737488355328 by rw [List.length_nil]; omega),zkw.2 (show (s.length+ [a0.1.getD i []].length) * 24≤140737488355328 by simp only [List.length_cons,List.length_nil]; omega)]; rfl,by simp [hs2]⟩) (fun s _=>by simp only [ycP,yrp,yrF,zkm (Int.le_refl _),cond_false]) [] rfl 18446744073709551616 (by omega)
    rw [ytb]at this
    exact this
  have h2:ysY (yMN a0 ye (a0.1,[],a0.2.2.1,a0.2.2.2))=some (.inl (yAh ye a0)):=by
    have:=zkk (step:=ycQ) a0.2.1 (0,[]) (fun i s=>yrq i a0 ye (a0.1,s,a0.2.2.1,a0.2.2.2)) (fun s x=>s++ [x]) (fun i s=>s.length=i) (fun s=> .inl (yAh ye (a0.1,s,a0.2.2.1,a0.2.2.2))) (fun i s hi hs2=>⟨by
      have:=hc i hi
      simp only [ycQ,yrq,yrG,zjI (show (i:Int) < a0.2.1.length by omega),cond_true,wr (show -9223372036854775808≤(i:Int)+1 by omega) (by omega),Int.natCast_add,Int.natCast_one,Int.toNat_natCast,zkO hi,zjW,List.nil_append,zkV]
      rw [zkw.2 (show (([]:List Int).length+(a0.2.1.getD i (0,[])).2.length) * 8≤140737488355328 by rw [List.length_nil]; omega),zkw.2 (show (s.length+ [a0.2.1.getD i (0,[])].length) * 32≤140737488355328 by simp only [List.length_cons,List.length_nil]; omega)]; rfl,by simp [hs2]⟩) (fun s _=>by simp only [ycQ,yrq,yrG,zkm (Int.le_refl _),cond_false]) [] rfl 18446744073709551616 (by omega)
    rw [ytb]at this
    exact this
  unfold yoC yS
  rw [zkw.2 (show (([]:List Int).length+a0.2.2.2.length) * 8≤140737488355328 by rw [List.length_nil]; omega)]
  simp only [cond_true,List.nil_append,h1,zkJ,h2]
def yfp:Con:=⟨yh2,ysw,fun x=>(fun n=>some ((n,()),())) (yS x.1)⟩
theorem yln:ConOk Tryz.prog 152 yfp:=(yTT).mono (fun x r hk h=>(yVT x.1 hk).trans h)
end
section
def ygP:Code:=(Tryz.f287.body).getD .skip
def ylx:Env:=zki TT [] []
theorem yIA:FrOk Tryz.prog ⟨ylx,28,fun _=>none⟩ ygP:=zkp yc yd trivial
def yxy:Nat→Option Seg:=fun _=>none
def yaP:Shape:=⟨[(0,false,[.br tI]),(1,false,[.int .i64]),(5,false,[.at 800000000]),(6,false,[.int .i64])],[],[(800000000,tI,.fz)]⟩
def yd8:Shape:=⟨[(0,false,[.br tI]),(1,false,[.int .i64]),(5,false,[.at 800000000]),(6,false,[.ci .i64 0])],[],[(800000000,tI,.fz)]⟩
def yd3:Shape:=⟨[(5,false,[.at 800000000])],[],[(800000000,tI,.fz)]⟩
def yhL:Shape:=⟨[],[],[]⟩
abbrev ylY (v0:List Int) (v1:Int) (v2:Int) (v3:List Int):(yaP).X:=(((v0,()),(v1,()),((),()),(v2,()),()),(),(v3,()))
abbrev yGZ (v0:List Int) (v1:Int) (v2:List Int):(yd8).X:=(((v0,()),(v1,()),((),()),((),()),()),(),(v2,()))
abbrev yGU (v0:List Int):(yd3).X:=((((),()),()),(),(v0,()))
def ymj (v0:List Int) (v1:Int) (v2:Int) (v3:List Int):Option ((yaP).X ⊕ ((yd3).X ⊕ (yhL).X)) :=
  bif (ltb v2 (v0.length:Int)) then
    bif (inb v2 v0.length) then
      bif ((nth v0 v2 0) !=v1) then
        bif (inb v2 v0.length) then
          bif (zj4 v3.length ([(nth v0 v2 0)]:List Int).length 8) then
            some (.inl (((v0,()),(v1,()),((),()),((IntKind.i64.wrap (v2+1)),()),()),(),((v3++([(nth v0 v2 0)]:List Int)),())))
          else none
        else none
      else
        some (.inl (((v0,()),(v1,()),((),()),((IntKind.i64.wrap (v2+1)),()),()),(),(v3,())))
    else none
  else
    some (.inr (.inl ((((),()),()),(),(v3,()))))
def ya3 (x:(yaP).X):=ymj x.1.1.1 x.1.2.1.1 x.1.2.2.2.1.1 x.2.2.1
def yvj (x:(yd8).X):(yaP).X:=(((x.1.1.1,()),(x.1.2.1.1,()),((),()),(0,()),()),(),(x.2.2.1,()))
def yv6:Code:=(zdI ygP 64 116).getD .skip
theorem yIo:zdI ygP 64 29=some (.block 0 (.loop yv6)):=by kernel_rfl
theorem yI2 (x:(yaP).X):zg7 ⟨ylx,28,yxy⟩ 0 yv6 116 yaP yd3 yhL x=ya3 x:=by kernel_rfl
def yvo (x:(yd8).X):Nat:=(fun (u0:List Int) (u1:Int) (u2:List Int)=>18446744073709551616) x.1.1.1 x.1.2.1.1 x.2.2.1
def ynj (x:(yd8).X):Option ((yd3).X ⊕ (yhL).X):=zr ya3 (yvo x) (yvj x)
def yvW:Seg:=⟨yd8,yd3,yhL,ynj⟩
def yxz:Nat→Option Seg:=fun q=>bif Nat.beq q 29 then some yvW else yxy q
theorem yIB:FrOk Tryz.prog ⟨ylx,28,yxz⟩ ygP:=(yIA).loop (sg:=yvW) yaP yvj (by decide) yIo ya3 yvo (by decide) (fun _=>rfl) (fun x r _ h=>h) yI2
abbrev yeg:List Par:= [.rd tL,.rd tI]
abbrev ylF:List OT:= [⟨false,tL,(.ow .fz)⟩]
def yjB (a0:List Int) (a1:Int):Option (ResD ylF×MutD yeg) :=
  zjw (ynj (((a0,()),(a1,()),((),()),((),()),()),(),(([]:List Int),()))) (fun y0 =>
    some ((y0.2.2.1,()),())) (fun y0 =>
    none)
theorem yOu (x:InD yeg):zjH ⟨ylx,28,yxz⟩ Tryz.f287.results.toList ygP yeg ylF x=yjB x.1 x.2.1:=by kernel_rfl
theorem yK9:ConOk Tryz.prog 287 ⟨yeg,ylF,fun x=>yjB x.1 x.2.1⟩:=zkh (yIB) Tryz.func287 (by kernel_rfl) (by kernel_rfl) Tryz.ntmps287.symm (by decide) (fun x r h=>(yOu x).trans h)
def yhD (a0:List Int) (a1:Int):List Int:=yW0 a0 a1
theorem yJ7 {α:Type} (p:α→Bool): ∀ (l:List α) (s:List α),l.foldl (fun s x=>bif p x then s++ [x] else s) s=s++l.filter p
  | [],s=>by simp
  | x::l,s=>by
    rw [List.foldl_cons,yJ7 p l,List.filter_cons]
    cases p x<;>simp
theorem yM1 (a0:List Int) (a1:Int) (hk:zi9 yeg (a0,a1,())):yjB a0 a1=(fun n=>some ((n,()),())) (yhD a0 a1):=by
  have hb:a0.length * 8≤2 ^ 47:=hk.1.1
  have h1:=zkk (step:=ya3) a0 0 (fun i s=>ylY a0 a1 i s) (fun s x=>bif x !=a1 then s++ [x] else s) (fun i s=>s.length≤i) (fun s=> .inl (yGU s)) (fun i s hi hs=>by
      constructor
      · simp only [ya3,ylY,ymj,zjI (show (i:Int) < a0.length by omega),cond_true,wr (show -9223372036854775808≤(i:Int)+1 by omega) (by omega),Int.natCast_add,Int.natCast_one,Int.toNat_natCast,zkO hi,zjW]
        rw [zkw.2 (show (s.length+ [a0.getD i 0].length) * 8≤140737488355328 by simp only [List.length_cons,List.length_nil]; omega)]
        cases (a0.getD i 0 !=a1)<;>rfl
      · cases (a0.getD i 0 !=a1)
        · show s.length≤_; omega
        · simp only [cond_true,List.length_append,List.length_cons,List.length_nil]; omega) (fun s _=>by simp only [ya3,ylY,ymj,zkm (Int.le_refl _),cond_false]) [] (Nat.le_refl _) 18446744073709551616 (by omega)
  unfold yjB yhD yW0
  rw [show ynj (yGZ a0 a1 [])=_ from h1,yJ7]; rfl
def yxU:Con:=⟨yeg,ylF,fun x=>(fun n=>some ((n,()),())) (yhD x.1 x.2.1)⟩
theorem yNq:ConOk Tryz.prog 287 yxU:=(yK9).mono (fun x r hk h=>(yM1 x.1 x.2.1 hk).trans h)
end
end
end Go.Tf
