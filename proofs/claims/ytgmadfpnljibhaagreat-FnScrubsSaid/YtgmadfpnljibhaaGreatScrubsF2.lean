/- Functions of the program, and what they come to. -/
import Derived.Test.YtgmadfpnljibhaaGreatScrubsF1
namespace Go.Tf
noncomputable section
open Go.Proofs
set_option synthInstance.maxHeartbeats 400000
set_option synthInstance.maxSize 10000
set_option linter.unusedVariables false
set_option linter.unusedSimpArgs false
set_option maxRecDepth 100000
section
def yFv:Code:=(Tryz.f96.body).getD .skip
def yF6:Env:=zki TT [] []
theorem yLZ:FrOk Tryz.prog ⟨yF6,15,fun _=>none⟩ yFv:=zkp yc yd trivial
def yOr:Nat→Option Seg:=fun _=>none
abbrev ylk:List Par:= [.rd tYs,.rd tI]
abbrev yqO:List OT:= [⟨false,tI,.fz⟩]
def yt8 (a0:List Int) (a1:Int):Option (ResD yqO×MutD ylk) :=
  bif (ltb a1 (IntKind.i64.wrap (3+(IntKind.i64.wrap ((a0.length:Int).tdiv 12))))) then
    some ((a1,()),())
  else
    some (((IntKind.i64.wrap (3+(IntKind.i64.wrap ((a0.length:Int).tdiv 12)))),()),())
theorem yVL (x:InD ylk):zjH ⟨yF6,15,yOr⟩ Tryz.f96.results.toList yFv ylk yqO x=yt8 x.1 x.2.1:=by kernel_rfl
theorem yRf:ConOk Tryz.prog 96 ⟨ylk,yqO,fun x=>yt8 x.1 x.2.1⟩:=zkh (yLZ) Tryz.func96 (by kernel_rfl) (by kernel_rfl) Tryz.ntmps96.symm (by decide) (fun x r h=>(yVL x).trans h)
def yac (a0:List Int) (a1:Int):Int :=
  bif (ltb a1 (IntKind.i64.wrap (3+(IntKind.i64.wrap ((a0.length:Int).tdiv 12))))) then
    a1
  else
    (IntKind.i64.wrap (3+(IntKind.i64.wrap ((a0.length:Int).tdiv 12))))
def yez:Con:=⟨ylk,yqO,fun x=>(fun n=>some ((n,()),())) (yac x.1 x.2.1)⟩
theorem yTA (a0:List Int) (a1:Int):yt8 a0 a1=(fun n=>some ((n,()),())) (yac a0 a1):=zkS (p:=fun (n:Int)=>((n,()),())) (zkx (p:=fun (n:Int)=>((n,()),())) rfl rfl)
theorem yka:ConOk Tryz.prog 96 yez:=(yRf).mono (fun x r _ h=>(yTA x.1 x.2.1).trans h)
theorem yD7 (l:List Int) (n:Int) (hn:0≤n) (hl:l.length≤140737488355328):0≤yac l n∧yac l n≤n:=by
  unfold yac
  have h1:0≤(l.length:Int).tdiv 12:=Int.tdiv_nonneg (by omega) (by omega)
  have h2:(l.length:Int).tdiv 12≤(l.length:Int):=by
    rw [Int.tdiv_eq_ediv_of_nonneg (by omega)]
    exact Int.ediv_le_self _ (by omega)
  rw [wr (show -9223372036854775808≤(l.length:Int).tdiv 12 by omega) (by omega),wr (show -9223372036854775808≤3+(l.length:Int).tdiv 12 by omega) (by omega)]
  by_cases h:n < 3+(l.length:Int).tdiv 12
  · rw [zjI h]; exact ⟨hn,Int.le_refl _⟩
  · rw [zkm (by omega),cond_false]; omega
end
section
def yCU:Code:=(Tryz.f226.body).getD .skip
def yDD:Env:=zki TT [(134,yfx),(135,yq)] []
theorem yJD:FrOk Tryz.prog ⟨yDD,60,fun _=>none⟩ yCU:=zkp yc yd ⟨ylM,yu,trivial⟩
def yK5:Nat→Option Seg:=fun _=>none
abbrev yjh:List Par:= [.rd tS]
abbrev yoJ:List OT:= [⟨false,tB,.fz⟩]
def yrV (a0:dS):Option (ResD yoJ×MutD yjh) :=
  let r1:=ye (a0.2.2.2.1,a0.2.2.2.2.1)
  bif (!(!r1)) then
    let r2:=ya a0.1 1 60000
    bif (!(!r2)) then
      let r3:=ya a0.2.1 0 60000
      bif (!(!r3)) then
        let r4:=ya a0.2.2.1 0 (IntKind.i64.wrap (a0.2.2.2.1 - 1))
        bif (!(!r4)) then
          let r5:=ya a0.2.2.2.2.2.1 0 60000
          bif (!r5) then
            some ((false,()),())
          else
            let r6:=ya a0.2.2.2.2.2.2.1 (-1) (IntKind.i64.wrap (a0.2.2.2.1 - 1))
            bif r6 then
              let r7:=ya a0.2.2.2.2.2.2.2 0 a0.2.2.2.2.1
              bif r7 then
                bif (!(leb 0 a0.2.2.2.2.2.2.1)) then
                  some (((a0.2.2.2.2.2.2.2==0),()),())
                else
                  some ((true,()),())
              else
                some ((false,()),())
            else
              some ((false,()),())
        else
          some ((false,()),())
      else
        some ((false,()),())
    else
      some ((false,()),())
  else
    some ((false,()),())
theorem ySQ (x:InD yjh):zjH ⟨yDD,60,yK5⟩ Tryz.f226.results.toList yCU yjh yoJ x=yrV x.1:=by kernel_rfl
theorem yNv:ConOk Tryz.prog 226 ⟨yjh,yoJ,fun x=>yrV x.1⟩:=zkh (yJD) Tryz.func226 (by kernel_rfl) (by kernel_rfl) Tryz.ntmps226.symm (by decide) (fun x r h=>(ySQ x).trans h)
def yfE (a0:dS):Bool :=
  let r1:=ye (a0.2.2.2.1,a0.2.2.2.2.1)
  bif (!(!r1)) then
    let r2:=ya a0.1 1 60000
    bif (!(!r2)) then
      let r3:=ya a0.2.1 0 60000
      bif (!(!r3)) then
        let r4:=ya a0.2.2.1 0 (IntKind.i64.wrap (a0.2.2.2.1 - 1))
        bif (!(!r4)) then
          let r5:=ya a0.2.2.2.2.2.1 0 60000
          bif (!r5) then
            false
          else
            let r6:=ya a0.2.2.2.2.2.2.1 (-1) (IntKind.i64.wrap (a0.2.2.2.1 - 1))
            bif r6 then
              let r7:=ya a0.2.2.2.2.2.2.2 0 a0.2.2.2.2.1
              bif r7 then
                bif (!(leb 0 a0.2.2.2.2.2.2.1)) then
                  (a0.2.2.2.2.2.2.2==0)
                else
                  true
              else
                false
            else
              false
        else
          false
      else
        false
    else
      false
  else
    false
def yyX:Con:=⟨yjh,yoJ,fun x=>(fun n=>some ((n,()),())) (yfE x.1)⟩
theorem yQI (a0:dS):yrV a0=(fun n=>some ((n,()),())) (yfE a0):=zkS (p:=fun (n:Bool)=>((n,()),())) (zkx (p:=fun (n:Bool)=>((n,()),())) (zkx (p:=fun (n:Bool)=>((n,()),())) (zkx (p:=fun (n:Bool)=>((n,()),())) (zkx (p:=fun (n:Bool)=>((n,()),())) (zkx (p:=fun (n:Bool)=>((n,()),())) rfl (zkx (p:=fun (n:Bool)=>((n,()),())) (zkx (p:=fun (n:Bool)=>((n,()),())) (zkx (p:=fun (n:Bool)=>((n,()),())) rfl rfl) rfl) rfl)) rfl) rfl) rfl) rfl)
theorem yRE:ConOk Tryz.prog 226 yyX:=(yNv).mono (fun x r _ h=>(yQI x.1).trans h)
end
section
def yAD:Code:=(Tryz.f140.body).getD .skip
def yBg:Env:=zki TT [(226,yyX)] []
theorem yHX:FrOk Tryz.prog ⟨yBg,25,fun _=>none⟩ yAD:=zkp yc yd ⟨yRE,trivial⟩
def yI2:Nat→Option Seg:=fun _=>none
abbrev yhb:List Par:= [.rd tS]
abbrev ymC:List OT:= [⟨false,tL,(.ow .fz)⟩]
def ypK (a0:dS):Option (ResD ymC×MutD yhb) :=
  let r1:=yfE a0
  bif (!r1) then
    some ((([]:List Int),()),())
  else
    some ((([21317,a0.1,a0.2.1,a0.2.2.1,a0.2.2.2.1,a0.2.2.2.2.1,a0.2.2.2.2.2.1,(IntKind.i64.wrap (a0.2.2.2.2.2.2.1+1)),a0.2.2.2.2.2.2.2]:List Int),()),())
theorem yPc (x:InD yhb):zjH ⟨yBg,25,yI2⟩ Tryz.f140.results.toList yAD yhb ymC x=ypK x.1:=by kernel_rfl
theorem yKs:ConOk Tryz.prog 140 ⟨yhb,ymC,fun x=>ypK x.1⟩:=zkh (yHX) Tryz.func140 (by kernel_rfl) (by kernel_rfl) Tryz.ntmps140.symm (by decide) (fun x r h=>(yPc x).trans h)
def yH (a0:dS):(List Int) :=
  let r1:=yfE a0
  bif (!r1) then
    ([]:List Int)
  else
    ([21317,a0.1,a0.2.1,a0.2.2.1,a0.2.2.2.1,a0.2.2.2.2.1,a0.2.2.2.2.2.1,(IntKind.i64.wrap (a0.2.2.2.2.2.2.1+1)),a0.2.2.2.2.2.2.2]:List Int)
def ypt:Con:=⟨yhb,ymC,fun x=>(fun n=>some ((n,()),())) (yH x.1)⟩
theorem yNb (a0:dS):ypK a0=(fun n=>some ((n,()),())) (yH a0):=zkS (p:=fun (n:(List Int))=>((n,()),())) (zkx (p:=fun (n:(List Int))=>((n,()),())) rfl rfl)
theorem yzS:ConOk Tryz.prog 140 ypt:=(yKs).mono (fun x r _ h=>(yNb x.1).trans h)
abbrev downA (a:dA):Bool:=a.2.2.2.2.2.2.2.2.2.2.1
def y0a (a:dA) (f:Int) (d:Bool):dA:=(a.1,a.2.1,a.2.2.1,a.2.2.2.1,a.2.2.2.2.1,a.2.2.2.2.2.1,a.2.2.2.2.2.2.1,a.2.2.2.2.2.2.2.1,a.2.2.2.2.2.2.2.2.1,f,d,a.2.2.2.2.2.2.2.2.2.2.2)
def yZ (a:dA):Bool×dA:=bif downA a then (false,a) else bif a.2.2.2.2.2.2.2.2.2.1==0 then (false,y0a a (-1) true) else bif ltb 0 a.2.2.2.2.2.2.2.2.2.1 then (true,y0a a (IntKind.i64.wrap (a.2.2.2.2.2.2.2.2.2.1 - 1)) (downA a)) else (true,a)
def setMem (a:dA) (m:Int) (x:dM):dA:=(a.1,a.2.1,a.2.2.1.set m.toNat x,a.2.2.2)
def ydd (a:dA) (m n:Int) (s:List Int):dA:=bif (nth a.2.2.1 m noMem).2.2.1 then a else bif (yZ a).1 then setMem (yZ a).2 m (yF (nth a.2.2.1 m noMem) n s).1 else (yZ a).2
def yX (a:dA) (i:Nat):dA:=bif (nth a.2.2.1 i noMem).2.2.1 then a else bif (yZ a).1 then setMem (yZ a).2 i (yr (nth a.2.2.1 i noMem)) else (yZ a).2
def yA (a:dA):dA:=(List.range a.2.2.1.length).foldl yX a
def yIS (a:dA) (i:Int):dS:=(a.1,a.2.2.2.2.2.2.2.1,i,a.2.1.1,a.2.1.2,a.2.2.2.2.2.2.1,a.2.2.2.1,a.2.2.2.2.1)
def yb3 (a:dA) (i:Nat):dA:=ydd a i (a.2.2.2.2.2.2.2.1.tmod 2) (yH (yIS a i))
def ya4 (a:dA):dA:=(a.1,a.2.1,a.2.2.1,a.2.2.2.1,a.2.2.2.2.1,a.2.2.2.2.2.1,a.2.2.2.2.2.2.1,IntKind.i64.wrap (a.2.2.2.2.2.2.2.1+1),a.2.2.2.2.2.2.2.2)
def markA (a:dA):dA:=yA ((List.range a.2.2.1.length).foldl yb3 (ya4 a))
theorem yaj (a:dA):(yZ a).2.2.2.1=a.2.2.1:=by
  unfold yZ
  cases downA a
  · cases (a.2.2.2.2.2.2.2.2.2.1==0)
    · cases ltb 0 a.2.2.2.2.2.2.2.2.2.1<;>rfl
    · rfl
  · rfl
theorem yYD {a:dA} (h:downA a=false):downA (yZ a).2= !(yZ a).1:=by
  unfold yZ
  rw [h]
  cases (a.2.2.2.2.2.2.2.2.2.1==0)
  · cases ltb 0 a.2.2.2.2.2.2.2.2.2.1
    · exact h
    · rfl
  · rfl
theorem yYF {a:dA} (h:downA a=true):yZ a=(false,a):=by unfold yZ; rw [h]; rfl
theorem yl2 (a:dA) (m n:Int) (s:List Int):(ydd a m n s).2.2.1.length=a.2.2.1.length:=by
  unfold ydd
  cases (nth a.2.2.1 m noMem).2.2.1
  · cases (yZ a).1
    · show (yZ a).2.2.2.1.length=_; rw [yaj]
    · show ((yZ a).2.2.2.1.set m.toNat _).length=_; rw [List.length_set,yaj]
  · rfl
theorem yl3 (a:dA) (i:Nat):(yX a i).2.2.1.length=a.2.2.1.length:=by
  unfold yX
  cases (nth a.2.2.1 i noMem).2.2.1
  · cases (yZ a).1
    · show (yZ a).2.2.2.1.length=_; rw [yaj]
    · show ((yZ a).2.2.2.1.set _ _).length=_; rw [List.length_set,yaj]
  · rfl
theorem yii {one:dA→Nat→dA} (h: ∀ a i,(one a i).2.2.1.length=a.2.2.1.length): ∀ (l:List Nat) (a:dA),(l.foldl one a).2.2.1.length=a.2.2.1.length
  | [],_=>rfl
  | x::l,a=>by rw [List.foldl_cons,yii h l,h]
theorem yAo (a:dA):(yA a).2.2.1.length=a.2.2.1.length:=yii yl3 _ _
theorem yz0 {a:dA} (h:downA a=true) (m n:Int) (s:List Int):ydd a m n s=a:=by
  unfold ydd
  rw [yYF h]
  cases (nth a.2.2.1 m noMem).2.2.1<;>rfl
theorem yIE {a:dA} (i:Nat) (h:downA a=true):yX a i=a:=by
  unfold yX
  rw [yYF h]
  cases (nth a.2.2.1 i noMem).2.2.1<;>rfl
theorem yv3 {one:dA→Nat→dA} (hs: ∀ a i,downA a=true→one a i=a): ∀ (l:List Nat) (a:dA),downA a=true→l.foldl one a=a
  | [],_,_=>rfl
  | x::l,a,h=>by rw [List.foldl_cons,hs a x h]; exact yv3 hs l a h
theorem yVc {a:dA} (h:downA a=true):yA a=a:=yv3 (fun _ i h=>yIE i h) _ a h
theorem yZT {a:dA} (h:downA a=false) (m n:Int) (s:List Int):downA (ydd a m n s)=(!(nth a.2.2.1 m noMem).2.2.1&& !(yZ a).1):=by
  have:=yYD h
  unfold ydd
  cases (nth a.2.2.1 m noMem).2.2.1
  · cases ho:(yZ a).1
    · rw [ho]at this; exact this
    · rw [ho]at this; exact this
  · exact h
theorem yXW {a:dA} (h:downA a=false) (i:Nat):downA (yX a i)=(!(nth a.2.2.1 i noMem).2.2.1&& !(yZ a).1):=by
  have:=yYD h
  unfold yX
  cases (nth a.2.2.1 i noMem).2.2.1
  · cases ho:(yZ a).1
    · rw [ho]at this; exact this
    · rw [ho]at this; exact this
  · exact h
theorem yZK {one:dA→Nat→dA} (hs: ∀ a i,downA a=true→one a i=a): ∀ (k i:Nat) (s:dA),goE (fun i s=>bif downA (one s i) then (.inr (one s i):dA ⊕ dA) else .inl (one s i)) id k i s=(List.range' i k).foldl one s
  | 0,_,_=>rfl
  | k+1,i,s=>by
    rw [List.range'_succ,List.foldl_cons,goE]
    cases hd:downA (one s i)
    · exact yZK hs k (i+1) (one s i)
    · exact (yv3 hs _ _ hd).symm
def ydB (a:dA) (m:Int):dA:=(a.1,a.2.1,a.2.2.1.set m.toNat (yjQ (nth a.2.2.1 m noMem)),m,0,a.2.2.2.2.2)
def yPj (a:dA) (m:Int):dA:=(a.1,a.2.1,a.2.2.1.set m.toNat (yjQ (nth a.2.2.1 m noMem)),a.2.2.2.1,a.2.2.2.2.1,a.2.2.2.2.2.1,a.2.2.2.2.2.2.1,a.2.2.2.2.2.2.2.1,a.2.2.2.2.2.2.2.2.1,a.2.2.2.2.2.2.2.2.2.1,a.2.2.2.2.2.2.2.2.2.2.1,true)
def failOne (a:dA) (m:Int):dA:=bif a.2.2.2.1== -1||a.2.2.2.1==m then (bif !(downA a)&&(!a.2.2.2.2.2.2.2.2.2.2.2&&ltb a.2.2.2.2.2.2.2.1 60000) then markA (ydB a m) else ydB a m) else yPj a m
def y1o (a:dA) (m:Int):dA:=bif yo a&&(inb m a.2.2.1.length&& !(nth a.2.2.1 m noMem).2.2.1) then failOne a m else a
theorem yXS {a:dA} {m n:Int} {s:List Int} (h:yan a.2.2.1) (hm:inb m a.2.2.1.length=true):yan (ydd a m n s).2.2.1:=by
  unfold ydd
  cases (nth a.2.2.1 m noMem).2.2.1
  · cases (yZ a).1
    · show yan (yZ a).2.2.2.1; rw [yaj]; exact h
    · show yan ((yZ a).2.2.2.1.set m.toNat _); rw [yaj]; exact yE3 h (yFa _ _ (yVa h hm))
  · exact h
theorem yXX {a:dA} {i:Nat} (h:yan a.2.2.1) (hi:i < a.2.2.1.length):yan (yX a i).2.2.1:=by
  unfold yX
  cases (nth a.2.2.1 i noMem).2.2.1
  · cases (yZ a).1
    · show yan (yZ a).2.2.2.1; rw [yaj]; exact h
    · show yan ((yZ a).2.2.2.1.set _ _); rw [yaj]; exact yE3 h (yLv (yVa h (zkO hi)))
  · exact h
theorem yHB {one:dA→Nat→dA} (hl: ∀ a i,(one a i).2.2.1.length=a.2.2.1.length) (ho: ∀ a i,yan a.2.2.1→i < a.2.2.1.length→yan (one a i).2.2.1): ∀ (n:Nat) (a:dA),n≤a.2.2.1.length→yan a.2.2.1→yan ((List.range n).foldl one a).2.2.1
  | 0,_,_,h=>h
  | n+1,a,hn,h=>by
    rw [List.range_succ,List.foldl_append]
    exact ho _ _ (yHB hl ho n a (by omega) h) (by rw [yii hl]; exact hn)
theorem yCz {a:dA} (h:yan a.2.2.1):yan (yA a).2.2.1:=yHB yl3 (fun _ _=>yXX) _ a (Nat.le_refl _) h
theorem yH7 {a:dA} (h:yan a.2.2.1):yan (markA a).2.2.1 :=
  yCz (yHB (one:=yb3) (fun _ _=>yl2 _ _ _ _) (fun _ _ h hi=>yXS h (zkO hi)) _ (ya4 a) (Nat.le_refl _) h)
theorem yMo (a:dA):(markA a).2.2.1.length=a.2.2.1.length:=(yAo _).trans (yii (one:=yb3) (fun _ _=>yl2 _ _ _ _) _ (ya4 a))
theorem yE5 (a:dA):(yZ a).2.2.2.2.2.2.2.2.2.1=a.2.2.2.2.2.2.2.2.1:=by
  unfold yZ
  cases downA a
  · cases (a.2.2.2.2.2.2.2.2.2.1==0)
    · cases ltb 0 a.2.2.2.2.2.2.2.2.2.1<;>rfl
    · rfl
  · rfl
theorem yVb (a:dA) (m n:Int) (s:List Int):(ydd a m n s).2.2.2.2.2.2.2.2.1=a.2.2.2.2.2.2.2.2.1:=by
  unfold ydd
  cases (nth a.2.2.1 m noMem).2.2.1
  · cases (yZ a).1
    · exact yE5 a
    · exact yE5 a
  · rfl
theorem yWM (a:dA) (i:Nat):(yX a i).2.2.2.2.2.2.2.2.1=a.2.2.2.2.2.2.2.2.1:=by
  unfold yX
  cases (nth a.2.2.1 i noMem).2.2.1
  · cases (yZ a).1
    · exact yE5 a
    · exact yE5 a
  · rfl
theorem yEI {one:dA→Nat→dA} (h: ∀ a i,(one a i).2.2.2.2.2.2.2.2.1=a.2.2.2.2.2.2.2.2.1): ∀ (l:List Nat) (a:dA),(l.foldl one a).2.2.2.2.2.2.2.2.1=a.2.2.2.2.2.2.2.2.1
  | [],_=>rfl
  | x::l,a=>by rw [List.foldl_cons,yEI h l,h]
theorem yx5 (a:dA):(yA a).2.2.2.2.2.2.2.2.1=a.2.2.2.2.2.2.2.2.1:=yEI yWM _ _
theorem yEQ (a:dA):(markA a).2.2.2.2.2.2.2.2.1=a.2.2.2.2.2.2.2.2.1:=(yx5 _).trans (yEI (one:=yb3) (fun _ _=>yVb _ _ _ _) _ (ya4 a))
theorem yUM {a x:dA} (ha:ywy a≤2097152) (hl:x.2.2.1.length≤5) (hm:yan x.2.2.1) (hd:x.2.2.2.2.2.2.2.2.1=a.2.2.2.2.2.2.2.2.1):ywy x≤2105000:=by
  have:=yIt hm
  have:x.2.2.1.length * 1041≤5 * 1041:=Nat.mul_le_mul_right _ hl
  unfold ywy at ha ⊢
  rw [hd]
  omega
theorem yWS {a:dA} (h:yo a=true):a.2.2.1.length≤5:=by
  have h1:=yg.1 (yam h)
  have h2:=yvI h
  omega
def ya0 (n:Int):dM:=bif leb 1 n&&leb n 20 then (List.replicate n.toNat [],[],false,[]) else noMem
theorem yCg {n:Int} (h1:1≤n) (h2:n≤20):ym (ya0 n)=true:=by
  unfold ya0
  rw [zk0 h1,zk0 h2]
  refine yrA ?_ rfl rfl ?_ ?_ (Nat.zero_le _)
  · show (List.replicate n.toNat ([]:List Int)).all yV=true
    rw [List.all_eq_true]
    intro x hx
    rw [(List.mem_replicate.1 hx).2]; rfl
  · show 1≤(List.replicate n.toNat ([]:List Int)).length; rw [List.length_replicate]; omega
  · show (List.replicate n.toNat ([]:List Int)).length≤20; rw [List.length_replicate]; omega
def spareNew (a:dA):dA:=(a.1,a.2.1,a.2.2.1.set a.2.2.2.1.toNat (ya0 (6+a.2.1.2)),a.2.2.2.1,0,a.2.2.2.2.2)
def yee (a:dA):dA×Int :=
  bif !(yo a) then (a,1) else bif downA a then (a,6) else bif a.2.2.2.1== -1|| !((nth a.2.2.1 a.2.2.2.1 noMem).2.2.1) then (a,2) else bif a.2.2.2.2.2.2.2.2.2.2.2 then (a,5) else bif leb 59990 a.2.2.2.2.2.2.2.1 then (a,7)
  else (markA (spareNew a),bif downA (markA (spareNew a)) then 6 else 0)
theorem yZA {a:dA} (h:yo a=true): -1≤a.2.2.2.1∧a.2.2.2.1≤a.2.1.1 - 1:=by
  simp only [yo,Bool.and_eq_true,zjQ]at h
  exact h.2.2.2.2.1
theorem y0n {a:dA} (h:yo a=true) (h2:a.2.2.2.1≠ -1):inb a.2.2.2.1 a.2.2.1.length=true:=by
  have:=yZA h
  have:=yvI h
  exact zjP.2 (by omega)
theorem yYr {a:dA} (h:yo a=true):yan (spareNew a).2.2.1∧(spareNew a).2.2.1.length=a.2.2.1.length:=by
  have hg:=yg.1 (yam h)
  exact ⟨yE3 (yEB h) (yCg (by omega) (by omega)),List.length_set⟩
def yef (a:dA):dA:=(a.1,a.2.1,a.2.2.1,a.2.2.2.1,a.2.2.2.2.1,a.2.2.2.2.2.1,a.2.2.2.2.2.1,a.2.2.2.2.2.2.2)
def checkA (a:dA):dA:=bif downA (yA a) then yA a else markA (yef (yA a))
theorem yOT {a:dA} (h:yan a.2.2.1):yan (checkA a).2.2.1:=by
  unfold checkA
  cases downA (yA a)
  · exact yH7 (a:=yef (yA a)) (yCz h)
  · exact yCz h
theorem yvO (a:dA):(checkA a).2.2.1.length=a.2.2.1.length:=by
  unfold checkA
  cases downA (yA a)
  · exact (yMo (yef (yA a))).trans (yAo a)
  · exact yAo a
theorem yvz (a:dA):(checkA a).2.2.2.2.2.2.2.2.1=a.2.2.2.2.2.2.2.2.1:=by
  unfold checkA
  cases downA (yA a)
  · exact (yEQ (yef (yA a))).trans (yx5 a)
  · exact yx5 a
def yrp (b:dA):dA:=(b.1,b.2.1,b.2.2.1,-1,0,b.2.2.2.2.2)
def yyy (a:dA):dA×Int:=bif downA (checkA a) then (checkA a,6) else (markA (yrp (checkA a)),bif downA (markA (yrp (checkA a))) then 6 else 0)
def yyx (a:dA):dA×Int :=
  bif !(yo a) then (a,1) else bif downA a then (a,6) else bif a.2.2.2.1== -1||((nth a.2.2.1 a.2.2.2.1 noMem).2.2.1||ltb a.2.2.2.2.1 a.2.1.2) then (a,2) else bif a.2.2.2.2.2.2.2.2.2.2.2 then (a,5) else bif leb 59990 a.2.2.2.2.2.2.2.1 then (a,7) else yyy a
theorem y0U {a:dA} (ha:ywy a≤2097152):ywy (yyx a).1≤2105000:=by
  have h0:ywy a≤2105000:=by omega
  unfold yyx
  cases hk:yo a
  · exact h0
  have h5:=yWS hk
  have hc:=yOT (yEB hk)
  have hn:=yUM (x:=markA (yrp (checkA a))) ha (by rw [yMo,show (yrp (checkA a)).2.2.1=(checkA a).2.2.1 from rfl,yvO]; exact h5) (yH7 (a:=yrp (checkA a)) hc) ((yEQ _).trans (yvz a))
  have hn2:=yUM (x:=checkA a) ha (by rw [yvO]; exact h5) hc (yvz a)
  cases downA a
  · cases (a.2.2.2.1== -1||((nth a.2.2.1 a.2.2.2.1 noMem).2.2.1||ltb a.2.2.2.2.1 a.2.1.2))
    · cases a.2.2.2.2.2.2.2.2.2.2.2
      · cases leb 59990 a.2.2.2.2.2.2.2.1
        · show ywy (yyy a).1≤_
          unfold yyy
          cases downA (checkA a)
          · exact hn
          · exact hn2
        · exact h0
      · exact h0
    · exact h0
  · exact h0
def yXE (id:Int) (g:dG) (i:Int):dS:=(id,0,i,g.1,g.2,0,-1,0)
def ysp (m:dM) (s:Nat):dM:=(m.1.set (s+6) [0],m.2)
def yj5 (id:Int) (g:dG) (i:Int):dM:=((ya0 (6+g.2)).1.set 0 (yH (yXE id g i)),(ya0 (6+g.2)).2)
def yv (id:Int) (g:dG) (i:Int):dM:=(List.range g.2.toNat).foldl ysp (yj5 id g i)
def yyw (a:dA) (m:dM):dA:=(a.1,a.2.1,a.2.2.1++ [m],a.2.2.2)
def yyA (id:Int) (g:dG):dA:=(id,g,[],-1,0,0,0,0,[],-1,false,false)
def ylv (id:Int) (g:dG):dA:=bif ye g&&(leb 1 id&&leb id 60000) then (List.range g.1.toNat).foldl (fun a (i:Nat)=>yyw a (yv id g i)) (yyA id g) else yoV
theorem yKU (l:List Nat) (m:dM):(l.foldl ysp m).1.length=m.1.length:=by
  induction l generalizing m with
  | nil=>rfl
  | cons x t ih=>rw [List.foldl_cons,ih]; show (m.1.set _ _).length=_; rw [List.length_set]
def yn (a:dA):Int×(Int×Int)×Int×Int×Int×Int×Int×List dW×Bool:=(a.1,a.2.1,a.2.2.2.1,a.2.2.2.2.1,a.2.2.2.2.2.1,a.2.2.2.2.2.2.1,a.2.2.2.2.2.2.2.1,a.2.2.2.2.2.2.2.2.1,a.2.2.2.2.2.2.2.2.2.2.2)
theorem yEs (a:dA):yn (yZ a).2=yn a:=by
  unfold yZ
  cases downA a
  · cases (a.2.2.2.2.2.2.2.2.2.1==0)
    · cases ltb 0 a.2.2.2.2.2.2.2.2.2.1<;>rfl
    · rfl
  · rfl
theorem yn8 (a:dA) (m n:Int) (s:List Int):yn (ydd a m n s)=yn a:=by
  unfold ydd
  cases (nth a.2.2.1 m noMem).2.2.1
  · cases (yZ a).1
    · exact yEs a
    · exact yEs a
  · rfl
theorem yID (a:dA) (i:Nat):yn (yX a i)=yn a:=by
  unfold yX
  cases (nth a.2.2.1 i noMem).2.2.1
  · cases (yZ a).1
    · exact yEs a
    · exact yEs a
  · rfl
theorem yv2 {one:dA→Nat→dA} (h: ∀ a i,yn (one a i)=yn a): ∀ (l:List Nat) (a:dA),yn (l.foldl one a)=yn a
  | [],_=>rfl
  | x::l,a=>by rw [List.foldl_cons,yv2 h l,h]
theorem yig (a:dA):yn (yA a)=yn a:=yv2 yID _ _
theorem yso (a:dA):yn (markA a)=yn (ya4 a):=(yig _).trans (yv2 (one:=yb3) (fun _ _=>yn8 _ _ _ _) _ _)
theorem yaF {a b:dA} (h:yn a=yn b):a.2.1=b.2.1:=congrArg (fun x=>x.2.1) h
theorem yfh {a b:dA} (h:yn a=yn b):a.2.2.2.2.1=b.2.2.2.2.1:=congrArg (fun x=>x.2.2.2.1) h
theorem yOU {a b:dA} (h:yn a=yn b):a.2.2.2.2.2.2.2.2.1=b.2.2.2.2.2.2.2.2.1:=congrArg (fun x=>x.2.2.2.2.2.2.2.1) h
def yaZ (d:List dW) (x:dA):Prop:=x.2.2.1.length≤5∧yan x.2.2.1∧x.2.2.2.2.2.2.2.2.1=d
theorem yzM {a:dA} (h:yo a=true):yaZ a.2.2.2.2.2.2.2.2.1 a:=⟨yWS h,yEB h,rfl⟩
theorem yMY {d:List dW} {a:dA} {m n:Int} {s:List Int} (h:yaZ d a) (hm:inb m a.2.2.1.length=true):yaZ d (ydd a m n s):=⟨by rw [yl2]; exact h.1,yXS h.2.1 hm,(yVb _ _ _ _).trans h.2.2⟩
theorem yZk {d:List dW} {a:dA} (h:yaZ d a):yaZ d (yA a):=⟨by rw [yAo]; exact h.1,yCz h.2.1,(yx5 _).trans h.2.2⟩
theorem yU9 {d:List dW} {a:dA} (h:yaZ d a):yaZ d (markA a):=⟨by rw [yMo]; exact h.1,yH7 h.2.1,(yEQ _).trans h.2.2⟩
theorem yQu {d:List dW} {a:dA} (h:yaZ d a):yaZ d (checkA a):=⟨by rw [yvO]; exact h.1,yOT h.2.1,(yvz _).trans h.2.2⟩
theorem yYX {d:List dW} {x:dA} (h:yaZ d x):ywy x≤yZ8 d+5205:=by
  have:=yIt h.2.1
  have:x.2.2.1.length * 1041≤5 * 1041:=Nat.mul_le_mul_right _ h.1
  unfold ywy
  rw [h.2.2]
  omega
theorem y1l {a x:dA} (ha:ywy a≤2097152) (h:yaZ a.2.2.2.2.2.2.2.2.1 x):ywy x≤2105000:=by
  have:=yYX h
  unfold ywy at ha
  omega
theorem yQt {d:List dW} {a:dA} (h:yaZ d a):yaZ d (yyx a).1:=by
  have hn:yaZ d (markA (yrp (checkA a))):=yU9 (a:=yrp (checkA a)) (yQu h)
  unfold yyx
  cases yo a
  · exact h
  cases downA a
  · cases (a.2.2.2.1== -1||((nth a.2.2.1 a.2.2.2.1 noMem).2.2.1||ltb a.2.2.2.2.1 a.2.1.2))
    · cases a.2.2.2.2.2.2.2.2.2.2.2
      · cases leb 59990 a.2.2.2.2.2.2.2.1
        · show yaZ d (yyy a).1
          unfold yyy
          cases downA (checkA a)
          · exact hn
          · exact yQu h
        · exact h
      · exact h
    · exact h
  · exact h
def yZn (b:dA):dA:=(b.1,b.2.1,b.2.2.1,b.2.2.2.1,IntKind.i64.wrap (b.2.2.2.2.1+1),b.2.2.2.2.2)
def yR (a:dA):dA:=ydd a a.2.2.2.1 (dataAt a.2.2.2.2.1) [nth (yy a a.2.2.2.2.1).1 a.2.2.2.1 0]
def stepOne (a:dA):Int×dA:=bif (yy a a.2.2.2.2.1).2 then (bif downA (yR a) then (6,yR a) else (0,yZn (yR a))) else (5,a)
def yc9 (a:dA):dA×Int :=
  bif !(yo a) then (a,1) else bif downA a then (a,6) else bif a.2.2.2.1== -1||((nth a.2.2.1 a.2.2.2.1 noMem).2.2.1||leb a.2.1.2 a.2.2.2.2.1) then (a,2) else bif a.2.2.2.2.2.2.2.2.2.2.2 then (a,5) else ((stepOne a).2,(stepOne a).1)
def yxY:Nat→dA→dA×Int
  | 0,a=>(a,0)
  | n+1,a=>bif ltb a.2.2.2.2.1 a.2.1.2 then (bif (yc9 a).2 !=0 then yc9 a else yxY n (yc9 a).1) else (a,0)
def yEC (a:dA):dA×Int:=bif (yee a).2 !=0 then yee a else bif (yxY 8 (yee a).1).2 !=0 then yxY 8 (yee a).1 else yyx (yxY 8 (yee a).1).1
theorem yY3 {a:dA} (h:yo a=true):0≤a.2.2.2.2.1∧a.2.2.2.2.1≤a.2.1.2:=by
  simp only [yo,Bool.and_eq_true,zjQ]at h
  exact h.2.2.2.2.2.1
theorem yZj {d:List dW} {a:dA} (h:yaZ d a) (hl:inb a.2.2.2.1 a.2.2.1.length=true):yaZ d (stepOne a).2:=by
  unfold stepOne
  have hp:yaZ d (yR a):=yMY h hl
  cases (yy a a.2.2.2.2.1).2
  · exact h
  · cases downA (yR a)
    · exact hp
    · exact hp
theorem yu2 {d:List dW} {a:dA} (h:yaZ d a):yaZ d (yc9 a).1:=by
  unfold yc9
  cases ha:yo a
  · exact h
  cases downA a
  · cases hl:(a.2.2.2.1== -1)
    · cases ((nth a.2.2.1 a.2.2.2.1 noMem).2.2.1||leb a.2.1.2 a.2.2.2.2.1)
      · cases a.2.2.2.2.2.2.2.2.2.2.2
        · exact yZj h (y0n ha (beq_eq_false_iff_ne.1 hl))
        · exact h
      · exact h
    · exact h
  · exact h
theorem yMX {d:List dW}: ∀ {n:Nat} {a:dA},yaZ d a→yaZ d (yxY n a).1
  | 0,_,h=>h
  | n+1,a,h=>by
    unfold yxY
    cases ltb a.2.2.2.2.1 a.2.1.2
    · exact h
    · cases ((yc9 a).2 !=0)
      · exact yMX (yu2 h)
      · exact yu2 h
theorem yx3 {d:List dW} {a:dA} (h:yaZ d a):yaZ d (yee a).1:=by
  unfold yee
  cases ha:yo a
  · exact h
  have hs:=yYr ha
  cases downA a
  · cases (a.2.2.2.1== -1|| !((nth a.2.2.1 a.2.2.2.1 noMem).2.2.1))
    · cases a.2.2.2.2.2.2.2.2.2.2.2
      · cases leb 59990 a.2.2.2.2.2.2.2.1
        · exact yU9 (a:=spareNew a) ⟨by rw [hs.2]; exact h.1,hs.1,h.2.2⟩
        · exact h
      · exact h
    · exact h
  · exact h
theorem yV1 {d:List dW} {a:dA} (h:yaZ d a):yaZ d (yEC a).1:=by
  unfold yEC
  cases ((yee a).2 !=0)
  · cases ((yxY 8 (yee a).1).2 !=0)
    · exact yQt (yMX (yx3 h))
    · exact yMX (yx3 h)
  · exact yx3 h
theorem y1k {a:dA} (h:(yc9 a).2=0):yo a=true∧a.2.2.2.2.1 < a.2.1.2∧(yc9 a).1.2.1=a.2.1∧(yc9 a).1.2.2.2.2.1=a.2.2.2.2.1+1:=by
  unfold yc9 at h ⊢
  cases ha:yo a
  · rw [ha]at h; exact absurd (show (1:Int)=0 from h) (by decide)
  rw [ha]at h
  have hg:=yg.1 (yam ha)
  have hb:=yY3 ha
  cases hd:downA a
  · rw [hd]at h
    cases hc:(a.2.2.2.1== -1||((nth a.2.2.1 a.2.2.2.1 noMem).2.2.1||leb a.2.1.2 a.2.2.2.2.1))
    · rw [hc]at h
      simp only [Bool.or_eq_false_iff]at hc
      have hS:a.2.2.2.2.1 < a.2.1.2:=by
        rcases Int.lt_or_le a.2.2.2.2.1 a.2.1.2 with h1 | h1
        · exact h1
        · have:=hc.2.2; rw [zk0 h1]at this; cases this
      cases hbr:a.2.2.2.2.2.2.2.2.2.2.2
      · rw [hbr]at h
        simp only [Bool.not_true,cond_false]at h ⊢
        unfold stepOne at h ⊢
        cases hw:(yy a a.2.2.2.2.1).2
        · rw [hw]at h; exact absurd (show (5:Int)=0 from h) (by decide)
        · rw [hw]at h
          cases hp:downA (yR a)
          · have hc2:=yn8 a a.2.2.2.1 (dataAt a.2.2.2.2.1) [nth (yy a a.2.2.2.2.1).1 a.2.2.2.1 0]
            refine ⟨trivial,hS,(show (yR a).2.1=a.2.1 from yaF hc2),?_⟩
            show IntKind.i64.wrap ((yR a).2.2.2.2.1+1)=_
            rw [show (yR a).2.2.2.2.1=a.2.2.2.2.1 from yfh hc2,wr (by omega) (by omega)]
          · rw [hp]at h; exact absurd (show (6:Int)=0 from h) (by decide)
      · rw [hbr]at h; exact absurd (show (5:Int)=0 from h) (by decide)
    · rw [hc]at h; exact absurd (show (2:Int)=0 from h) (by decide)
  · rw [hd]at h; exact absurd (show (6:Int)=0 from h) (by decide)
theorem y1w {n:Nat} {a:dA} (h:ltb a.2.2.2.2.1 a.2.1.2=false):yxY n a=(a,0):=by
  cases n
  · rfl
  · unfold yxY; rw [h]; rfl
theorem y03 {a:dA} (h:(yee a).2=0):(yee a).1.2.1=a.2.1∧(yee a).1.2.2.2.2.1=0∧ye a.2.1=true:=by
  unfold yee at h ⊢
  cases ha:yo a
  · rw [ha]at h; exact absurd (show (1:Int)=0 from h) (by decide)
  rw [ha]at h
  cases hd:downA a
  · rw [hd]at h
    cases hc:(a.2.2.2.1== -1|| !((nth a.2.2.1 a.2.2.2.1 noMem).2.2.1))
    · rw [hc]at h
      cases hb:a.2.2.2.2.2.2.2.2.2.2.2
      · rw [hb]at h
        cases hg:leb 59990 a.2.2.2.2.2.2.2.1
        · have hm:=yso (spareNew a)
          exact ⟨(show (markA (spareNew a)).2.1=(ya4 (spareNew a)).2.1 from yaF hm),(show (markA (spareNew a)).2.2.2.2.1=(ya4 (spareNew a)).2.2.2.2.1 from yfh hm),yam ha⟩
        · rw [hg]at h; exact absurd (show (7:Int)=0 from h) (by decide)
      · rw [hb]at h; exact absurd (show (5:Int)=0 from h) (by decide)
    · rw [hc]at h; exact absurd (show (2:Int)=0 from h) (by decide)
  · rw [hd]at h; exact absurd (show (6:Int)=0 from h) (by decide)
def ywz (lost:Int) (br:Bool) (S:Int) (i:Nat) (m:dM):Prop:=ym m=true∧(m.1.length:Int)=6+S∧(m.2.2.1=true→(i:Int)=lost∨br=true)
def yER (lost:Int) (br:Bool) (S:Int) (l:List dM):Prop:= ∀ i,i < l.length→ywz lost br S i (nth l i noMem)
theorem ywg {lost S:Int} {br:Bool} {l:List dM} {i:Nat} {x:dM} (h:yER lost br S l) (hx:i < l.length→ywz lost br S i x):yER lost br S (l.set i x):=fun j hj=>by
  rw [List.length_set]at hj
  by_cases e:j=i
  · subst e
    rw [zjW,zcq (by rw [List.length_set]; exact hj),List.getElem_set_self]; exact hx hj
  · have:=h j hj
    rw [zjW,zcq hj]at this
    rw [zjW,zcq (by rw [List.length_set]; exact hj),List.getElem_set_ne (fun e'=>e e'.symm)]; exact this
theorem yYW {a:dA}:yly a=true↔yER a.2.2.2.1 a.2.2.2.2.2.2.2.2.2.2.2 a.2.1.2 a.2.2.1∧(a.2.2.1.length:Int)=a.2.1.1:=by
  constructor
  · intro h
    refine ⟨fun i hi=>yU5 h hi,?_⟩
    simp only [yly,Bool.and_eq_true,beq_iff_eq]at h; exact h.2
  · rintro ⟨h1,h2⟩
    simp only [yly,Bool.and_eq_true,beq_iff_eq,Bool.not_eq_true',List.any_eq_false,List.mem_range]
    refine ⟨fun i hi=> ?_,h2⟩
    obtain ⟨g1,g2,g3⟩:=h1 i hi
    unfold ygn
    rw [g1,show (((nth a.2.2.1 i noMem).1.length:Int) !=6+a.2.1.2)=false from bne_eq_false_iff_eq.2 g2]
    cases hf:(nth a.2.2.1 i noMem).2.2.1
    · simp
    · rcases g3 hf with e | e
      · rw [show ((i:Int) !=a.2.2.2.1)=false from bne_eq_false_iff_eq.2 e]; simp
      · rw [e]; simp
def fuz (a:dA):Int:=a.2.2.2.2.2.2.2.2.2.1
def Keep (a:dA):Prop:=(yER a.2.2.2.1 a.2.2.2.2.2.2.2.2.2.2.2 a.2.1.2 a.2.2.1∧(a.2.2.1.length:Int)=a.2.1.1)∧ -1≤fuz a∧fuz a≤1000
def coreOk (a:dA):Prop:=ye a.2.1=true∧(1≤a.1∧a.1≤60000)∧yaz a.2.1 a.2.2.2.2.2.2.2.2.1=true∧(-1≤a.2.2.2.1∧a.2.2.2.1≤a.2.1.1 - 1)∧(0≤a.2.2.2.2.1∧a.2.2.2.2.1≤a.2.1.2)∧(a.2.2.2.1= -1→a.2.2.2.2.1=0) ∧
  (0≤a.2.2.2.2.2.2.1∧a.2.2.2.2.2.2.1≤60000)∧(a.2.2.2.2.2.2.1≤a.2.2.2.2.2.1∧a.2.2.2.2.2.1≤60000)∧a.2.2.2.2.2.1≤a.2.2.2.2.2.2.1+4∧0≤a.2.2.2.2.2.2.2.1∧a.2.2.2.2.2.2.2.1≤60000
theorem ySw {a:dA}:yo a=true↔coreOk a∧Keep a:=by
  unfold yo coreOk Keep fuz
  simp only [Bool.and_eq_true,zjQ,yYW,Bool.not_eq_true',Bool.and_eq_false_iff,beq_eq_false_iff_ne,bne_eq_false_iff_eq]
  constructor
  · rintro ⟨h1,h2,h3,h4,h5,h6,h7,h8,h9,h10,h11,h12⟩
    exact ⟨⟨h1,h2,h4,h5,h6,fun e=>h7.resolve_left (fun g=>g e),h8,h9,h10,h11.1,h11.2⟩,h3,h12⟩
  · rintro ⟨⟨h1,h2,h4,h5,h6,h7,h8,h9,h10,h11,h11'⟩,h3,h12⟩
    exact ⟨h1,h2,h3,h4,h5,h6,(Decidable.em (a.2.2.2.1= -1)).elim (fun e=> .inr (h7 e)) (fun e=> .inl e),h8,h9,h10,⟨h11,h11'⟩,h12⟩
theorem yII {a b:dA} (h:yn b=yn a) (ha:coreOk a):coreOk b:=by
  unfold yn at h
  simp only [Prod.mk.injEq]at h
  obtain ⟨h1,h2,h3,h4,h5,h6,h7,h8,h9⟩:=h
  unfold coreOk at *
  rw [h1,h2,h3,h4,h5,h6,h7,h8]; exact ha
theorem y0m {a b:dA} (h:yn b=yn a) (hl:b.2.2.1.length=a.2.2.1.length) (hm:yER a.2.2.2.1 a.2.2.2.2.2.2.2.2.2.2.2 a.2.1.2 b.2.2.1) (hn:(a.2.2.1.length:Int)=a.2.1.1) (hf: -1≤fuz b∧fuz b≤1000):Keep b:=by
  unfold yn at h
  simp only [Prod.mk.injEq]at h
  obtain ⟨h1,h2,h3,h4,h5,h6,h7,h8,h9⟩:=h
  unfold Keep
  rw [h2,h3,h9,hl]; exact ⟨⟨hm,hn⟩,hf⟩
theorem y0J {a:dA} (h: -1≤fuz a∧fuz a≤1000): -1≤fuz (yZ a).2∧fuz (yZ a).2≤1000:=by
  unfold yZ
  cases downA a
  · cases h0:(a.2.2.2.2.2.2.2.2.2.1==0)
    · cases h1:ltb 0 a.2.2.2.2.2.2.2.2.2.1
      · exact h
      · have:=zjT.1 h1
        unfold fuz at h
        show -1≤IntKind.i64.wrap (a.2.2.2.2.2.2.2.2.2.1 - 1)∧IntKind.i64.wrap (a.2.2.2.2.2.2.2.2.2.1 - 1)≤1000
        rw [wr (by omega) (by omega)]; omega
    · show -1≤(-1:Int)∧(-1:Int)≤1000; omega
  · exact h
theorem yIP {a:dA} (h:Keep a):Keep (yZ a).2:=y0m (yEs a) (by rw [yaj]) (by rw [yaj]; exact h.1.1) h.1.2 (y0J h.2)
theorem yvA {a:dA} {m:Int} {x:dM} (h:Keep a) (hm:inb m a.2.2.1.length=true) (hx:ywz a.2.2.2.1 a.2.2.2.2.2.2.2.2.2.2.2 a.2.1.2 m.toNat (nth a.2.2.1 m noMem)→ywz a.2.2.2.1 a.2.2.2.2.2.2.2.2.2.2.2 a.2.1.2 m.toNat x):Keep (setMem a m x):=by
  have hm:=zjP.1 hm
  refine ⟨⟨ywg h.1.1 (fun hi=>hx ?_),by show ((a.2.2.1.set m.toNat x).length:Int)=_; rw [List.length_set]; exact h.1.2⟩,h.2⟩
  have:=h.1.1 m.toNat hi
  rwa [Int.toNat_of_nonneg hm.1]at this
theorem yYV {lost S:Int} {br:Bool} {i:Nat} {m:dM} (n:Int) (s:List Int) (h:ywz lost br S i m):ywz lost br S i (yF m n s).1 :=
  ⟨yFa n s h.1,by rw [(yCB m n s).1]; exact h.2.1,by rw [(yCB m n s).2]; exact h.2.2⟩
theorem yYU {lost S:Int} {br:Bool} {i:Nat} {m:dM} (h:ywz lost br S i m):ywz lost br S i (yr m) :=
  ⟨yLv h.1,by rw [(yB7 m).1]; exact h.2.1,by rw [(yB7 m).2]; exact h.2.2⟩
theorem yzD {a:dA} {m n:Int} {s:List Int} (h:Keep a) (hm:inb m a.2.2.1.length=true):Keep (ydd a m n s):=by
  unfold ydd
  cases (nth a.2.2.1 m noMem).2.2.1
  · cases (yZ a).1
    · exact yIP h
    · exact yvA (yIP h) (by rw [yaj]; exact hm) (fun g=>by rw [yaj]at g; exact yYV _ _ g)
  · exact h
theorem yXA {a:dA} {i:Nat} (h:Keep a) (hi:i < a.2.2.1.length):Keep (yX a i):=by
  unfold yX
  cases (nth a.2.2.1 i noMem).2.2.1
  · cases (yZ a).1
    · exact yIP h
    · exact yvA (yIP h) (by rw [yaj]; exact zkO hi) (fun g=>by rw [yaj]at g; exact yYU g)
  · exact h
theorem yky {P:dA→Prop} {one:dA→Nat→dA} (hl: ∀ a i,(one a i).2.2.1.length=a.2.2.1.length) (ho: ∀ a i,P a→i < a.2.2.1.length→P (one a i)): ∀ (n:Nat) (a:dA),n≤a.2.2.1.length→P a→P ((List.range n).foldl one a)
  | 0,_,_,h=>h
  | n+1,a,hn,h=>by
    rw [List.range_succ,List.foldl_append]
    exact ho _ _ (yky hl ho n a (by omega) h) (by rw [yii hl]; exact hn)
theorem ysn {a:dA} (h:Keep a):Keep (yA a):=yky (P:=Keep) (one:=yX) yl3 (fun _ _=>yXA) _ a (Nat.le_refl _) h
theorem yH6 {a:dA} (h:Keep a):Keep (markA a) :=
  ysn (yky (P:=Keep) (one:=yb3) (fun _ _=>yl2 _ _ _ _) (fun _ _ h hi=>yzD h (zkO hi)) _ (ya4 a) (Nat.le_refl _) h)
theorem y00 {a:dA} (h:Keep a):Keep (checkA a):=by
  unfold checkA
  cases downA (yA a)
  · exact yH6 (a:=yef (yA a)) (ysn h)
  · exact ysn h
def yfO (a:dA):Prop:=downA a=false∧fuz a= -1
theorem yYE {a:dA} (h:yfO a):yZ a=(true,a):=by
  unfold yZ
  rw [h.1,show a.2.2.2.2.2.2.2.2.2.1= -1 from h.2]; rfl
theorem yEK {a:dA} (h:yfO a) (m n:Int) (s:List Int):yfO (ydd a m n s):=by
  unfold ydd
  rw [yYE h]
  cases (nth a.2.2.1 m noMem).2.2.1<;>exact h
theorem yXs {a:dA} (h:yfO a) (i:Nat):yfO (yX a i):=by
  unfold yX
  rw [yYE h]
  cases (nth a.2.2.1 i noMem).2.2.1<;>exact h
theorem yv4 {a:dA} (h:yfO a):yfO (yA a):=yky (P:=yfO) (one:=yX) yl3 (fun _ i h _=>yXs h i) _ a (Nat.le_refl _) h
theorem yU1 {a:dA} (h:yfO a):yfO (markA a) :=
  yv4 (yky (P:=yfO) (one:=yb3) (fun _ _=>yl2 _ _ _ _) (fun _ _ h _=>yEK h _ _ _) _ (ya4 a) (Nat.le_refl _) h)
theorem yED {a:dA} (h:yfO a):checkA a=markA (yef (yA a)):=by
  unfold checkA
  rw [(yv4 h).1]; rfl
theorem y0X {a:dA} (h:yfO a):yfO (checkA a):=by
  rw [yED h]; exact yU1 (a:=yef (yA a)) (yv4 h)
def Wk (k:Int) (a:dA):Prop:=coreOk a∧Keep a∧yfO a∧a.2.2.2.2.2.2.2.2.2.2.2=false∧a.2.2.2.2.2.2.2.1≤k
theorem yZt {k:Int} {a:dA} (h:Wk k a):yo a=true:=ySw.2 ⟨h.1,h.2.1⟩
theorem ybw {k j:Int} {a:dA} (h:Wk k a) (hj:k≤j):Wk j a:=⟨h.1,h.2.1,h.2.2.1,h.2.2.2.1,Int.le_trans h.2.2.2.2 hj⟩
theorem yx8 {k:Int} {a b:dA} (hc:yn b=yn a) (hk:Keep b) (hf:yfO b) (h:Wk k a):Wk k b:=by
  refine ⟨yII hc h.1,hk,hf,?_⟩
  unfold yn at hc
  simp only [Prod.mk.injEq]at hc
  obtain ⟨_,_,_,_,_,_,h7,_,h9⟩:=hc
  rw [h7,h9]; exact h.2.2.2
theorem y0R {k:Int} {a:dA} {m n:Int} {s:List Int} (h:Wk k a) (hm:inb m a.2.2.1.length=true):Wk k (ydd a m n s):=yx8 (yn8 _ _ _ _) (yzD h.2.1 hm) (yEK h.2.2.1 _ _ _) h
theorem y0w {k:Int} {a:dA} (h:Wk k a):Wk k (yA a):=yx8 (yig _) (ysn h.2.1) (yv4 h.2.2.1) h
theorem yZ0 {k:Int} {a:dA} (h:Wk k a) (hk:k+1≤60000):Wk (k+1) (ya4 a):=by
  obtain ⟨⟨c1,c2,c3,c4,c5,c6,c7,c8,c9,c10,c11⟩,h2,h3,h4,h5⟩:=h
  have e:IntKind.i64.wrap (a.2.2.2.2.2.2.2.1+1)=a.2.2.2.2.2.2.2.1+1:=wr (by omega) (by omega)
  refine ⟨⟨c1,c2,c3,c4,c5,c6,c7,c8,c9,?_,?_⟩,h2,h3,h4,?_⟩
  · show 0≤IntKind.i64.wrap (a.2.2.2.2.2.2.2.1+1); omega
  · show IntKind.i64.wrap (a.2.2.2.2.2.2.2.1+1)≤_; omega
  · show IntKind.i64.wrap (a.2.2.2.2.2.2.2.1+1)≤_; omega
theorem yUK {k:Int} {a:dA} (h:Wk k a) (hk:k+1≤60000):Wk (k+1) (markA a):=yx8 (yso _) (yH6 h.2.1) (yU1 h.2.2.1) (yZ0 h hk)
theorem yZv {k:Int} {a:dA} (h:Wk k a):Wk k (yef a):=by
  obtain ⟨⟨c1,c2,c3,c4,c5,c6,c7,c8,c9,c10,c11⟩,h2,h3,h4,h5⟩:=h
  refine ⟨⟨c1,c2,c3,c4,c5,c6,⟨?_,?_⟩,⟨Int.le_refl _,c8.2⟩,?_,c10,c11⟩,h2,h3,h4,h5⟩
  · show 0≤a.2.2.2.2.2.1; omega
  · show a.2.2.2.2.2.1≤60000; omega
  · show a.2.2.2.2.2.1≤a.2.2.2.2.2.1+4; omega
theorem yX2 {k:Int} {a:dA} (h:Wk k a) (hk:k+1≤60000):Wk (k+1) (checkA a):=by
  rw [yED h.2.2.1]; exact yUK (yZv (y0w h)) hk
theorem yZu {k:Int} {a:dA} {m:Int} {x:dM} (h:Wk k a) (hm:inb m a.2.2.1.length=true) (hx:ywz a.2.2.2.1 a.2.2.2.2.2.2.2.2.2.2.2 a.2.1.2 m.toNat (nth a.2.2.1 m noMem)→ywz a.2.2.2.1 a.2.2.2.2.2.2.2.2.2.2.2 a.2.1.2 m.toNat x):Wk k (setMem a m x) :=
  yx8 (a:=a) (b:=setMem a m x) rfl (yvA h.2.1 hm hx) h.2.2.1 h
theorem y0u {k m:Int} {a:dA} (h:Wk k a) (hl:a.2.2.2.1= -1) (hm:inb m a.2.2.1.length=true) (hk:k+1≤60000):Wk (k+1) (failOne a m):=by
  have hmi:=zjP.1 hm
  have hw:Wk k (ydB a m):=by
    obtain ⟨⟨c1,c2,c3,c4,c5,c6,c7,c8,c9,c10,c11⟩,⟨⟨g1,g2⟩,g3⟩,f,b,t⟩:=h
    refine ⟨⟨c1,c2,c3,⟨?_,?_⟩,⟨Int.le_refl _,by show (0:Int)≤a.2.1.2; omega⟩,fun e=>rfl,c7,c8,c9,c10,c11⟩,⟨⟨?_,?_⟩,g3⟩,f,b,t⟩
    · show -1≤m; omega
    · show m≤a.2.1.1 - 1; omega
    · show yER m a.2.2.2.2.2.2.2.2.2.2.2 a.2.1.2 (a.2.2.1.set m.toNat (yjQ (nth a.2.2.1 m noMem)))
      refine ywg (fun i hi=> ?_) (fun hi=> ?_)
      · obtain ⟨e1,e2,e3⟩:=g1 i hi
        refine ⟨e1,e2,fun e=> ?_⟩
        rcases e3 e with e | e
        · omega
        · exact .inr e
      · have:=g1 m.toNat hi
        rw [Int.toNat_of_nonneg hmi.1]at this
        exact ⟨yYy this.1,this.2.1,fun _=> .inl (Int.toNat_of_nonneg hmi.1)⟩
    · show ((a.2.2.1.set m.toNat (yjQ (nth a.2.2.1 m noMem))).length:Int)=a.2.1.1
      rw [List.length_set]; exact g2
  unfold failOne
  rw [show (a.2.2.2.1== -1)=true from beq_iff_eq.2 hl,h.2.2.1.1,h.2.2.2.1]
  cases ltb a.2.2.2.2.2.2.2.1 60000
  · exact ybw hw (by omega)
  · exact yUK hw hk
theorem yZ2 {k:Int} {a:dA} (h:Wk k a) (hl:inb a.2.2.2.1 a.2.2.1.length=true) (hk:k+1≤60000):Wk (k+1) (markA (spareNew a)):=by
  have hmi:=zjP.1 hl
  refine yUK ?_ hk
  obtain ⟨⟨c1,c2,c3,c4,c5,c6,c7,c8,c9,c10,c11⟩,⟨⟨g1,g2⟩,g3⟩,f,b,t⟩:=h
  have hg:=yg.1 c1
  refine ⟨⟨c1,c2,c3,c4,⟨Int.le_refl _,by show (0:Int)≤a.2.1.2; omega⟩,fun e=>rfl,c7,c8,c9,c10,c11⟩,⟨⟨ywg g1 (fun hi=>⟨yCg (by omega) (by omega),?_,fun e=> ?_⟩),?_⟩,g3⟩,f,b,t⟩
  · unfold ya0
    rw [zk0 (show 1≤6+a.2.1.2 by omega),zk0 (show 6+a.2.1.2≤20 by omega)]
    show ((List.replicate (6+a.2.1.2).toNat ([]:List Int)).length:Int)=6+a.2.1.2
    rw [List.length_replicate]; omega
  · unfold ya0 at e
    rw [zk0 (show 1≤6+a.2.1.2 by omega),zk0 (show 6+a.2.1.2≤20 by omega)] at e
    cases e
  · show ((a.2.2.1.set a.2.2.2.1.toNat (ya0 (6+a.2.1.2))).length:Int)=a.2.1.1
    rw [List.length_set]; exact g2
theorem y0v {k:Int} {a:dA} (h:Wk k a) (hl:inb a.2.2.2.1 a.2.2.1.length=true) (hb:a.2.2.2.2.1 < a.2.1.2):Wk k (stepOne a).2:=by
  have hp:Wk k (yR a):=y0R h hl
  have e:=yn8 a a.2.2.2.1 (dataAt a.2.2.2.2.1) [nth (yy a a.2.2.2.2.1).1 a.2.2.2.1 0]
  have e1:(yR a).2.2.2.2.1=a.2.2.2.2.1:=yfh e
  have e2:(yR a).2.1=a.2.1:=yaF e
  have e3:(yR a).2.2.2.1=a.2.2.2.1:=congrArg (fun x=>x.2.2.1) e
  unfold stepOne
  cases (yy a a.2.2.2.2.1).2
  · exact h
  · generalize yR a=R at hp e1 e2 e3 ⊢
    rw [hp.2.2.1.1]
    have hmi:=zjP.1 hl
    obtain ⟨⟨c1,c2,c3,c4,c5,c6,c7,c8,c9,c10,c11⟩,g2,g3,g4,g5⟩:=hp
    have hg:=yg.1 c1
    have e4:IntKind.i64.wrap (R.2.2.2.2.1+1)=R.2.2.2.2.1+1:=wr (by omega) (by omega)
    refine ⟨⟨c1,c2,c3,c4,⟨?_,?_⟩,fun e=> ?_,c7,c8,c9,c10,c11⟩,g2,g3,g4,g5⟩
    · show 0≤IntKind.i64.wrap (R.2.2.2.2.1+1); omega
    · show IntKind.i64.wrap (R.2.2.2.2.1+1)≤R.2.1.2; rw [e4,e1,e2]; omega
    · have:R.2.2.2.1= -1:=e
      omega
def yml (a:dA):Prop:=a.2.2.1.length≤1000000000∧(∀ m∈a.2.2.1,m.1.length≤1000000000∧m.2.1.length≤1000000000)∧a.2.2.2.2.2.2.2.2.1.length≤1000000000
theorem yzE {d:List dW} {a:dA} (h:yaZ d a) (hd:d.length≤1000000000):yml a:=by
  refine ⟨by have:=h.1; omega,fun m hm=> ?_,by rw [h.2.2]; exact hd⟩
  obtain ⟨_,_,_,_,h5,h6⟩:=yW (h.2.1 m hm)
  omega
theorem y1h {a:dA} (h:yml a):yml (yee a).1:=by
  cases ha:yo a
  · unfold yee; rw [ha]; exact h
  · exact yzE (yx3 (yzM ha)) h.2.2
theorem y1r {a:dA} (h:yml a):yml (yc9 a).1:=by
  cases ha:yo a
  · unfold yc9; rw [ha]; exact h
  · exact yzE (yu2 (yzM ha)) h.2.2
theorem y1g {a:dA} (h:yml a):yml (yyx a).1:=by
  cases ha:yo a
  · unfold yyx; rw [ha]; exact h
  · exact yzE (yQt (yzM ha)) h.2.2
theorem y1A {a:dA} (h:yml a):yml (yEC a).1:=by
  cases ha:yo a
  · have hs:yee a=(a,1):=by unfold yee; rw [ha]; rfl
    unfold yEC
    rw [hs]; exact h
  · exact yzE (yV1 (yzM ha)) h.2.2
theorem ysj {a b:dA} (h:yn a=yn b):a.2.2.2.1=b.2.2.2.1:=congrArg (fun x=>x.2.2.1) h
theorem yXT (s:dS):yV (yH s)=true:=by
  unfold yH
  cases h:yfE s
  · rfl
  · unfold yfE at h
    simp only [ybC]at h
    cases hg:ye (s.2.2.2.1,s.2.2.2.2.1)
    · rw [hg]at h; cases h
    have hge:=yg.1 hg
    simp only at hge
    rw [hg,wr (show -9223372036854775808≤s.2.2.2.1 - 1 by omega) (by omega)] at h
    cases h2:(leb 1 s.1&&leb s.1 60000)
    · rw [h2]at h; cases h
    cases h3:(leb 0 s.2.1&&leb s.2.1 60000)
    · rw [h2,h3]at h; cases h
    cases h4:(leb 0 s.2.2.1&&leb s.2.2.1 (s.2.2.2.1 - 1))
    · rw [h2,h3,h4]at h; cases h
    cases h5:(leb 0 s.2.2.2.2.2.1&&leb s.2.2.2.2.2.1 60000)
    · rw [h2,h3,h4,h5]at h; cases h
    cases h6:(leb (-1) s.2.2.2.2.2.2.1&&leb s.2.2.2.2.2.2.1 (s.2.2.2.1 - 1))
    · rw [h2,h3,h4,h5,h6]at h; cases h
    cases h7:(leb 0 s.2.2.2.2.2.2.2&&leb s.2.2.2.2.2.2.2 s.2.2.2.2.1)
    · rw [h2,h3,h4,h5,h6,h7]at h; cases h
    simp only [Bool.and_eq_true,zjQ]at h2 h3 h4 h5 h6 h7
    rw [yoc]
    refine ⟨by show (9:Nat)≤12; omega,?_⟩
    have hw:IntKind.i64.wrap (s.2.2.2.2.2.2.1+1)=s.2.2.2.2.2.2.1+1:=wr (by omega) (by omega)
    simp only [Bool.not_true,cond_false,hw,List.mem_cons,List.not_mem_nil,or_false]
    rintro x (rfl | rfl | rfl | rfl | rfl | rfl | rfl | rfl | rfl)<;>omega
theorem yEX {g:dG} (id i:Int) (hg:ye g=true):ym (yv id g i)=true∧((yv id g i).1.length:Int)=6+g.2∧(yv id g i).2=([],false,[]):=by
  have hge:=yg.1 hg
  have hm:ya0 (6+g.2)=(List.replicate (6+g.2).toNat [],[],false,[]):=by
    unfold ya0
    rw [zk0 (show 1≤6+g.2 by omega),zk0 (show 6+g.2≤20 by omega)]; rfl
  have key: ∀ (l:List Nat) (m:dM),m.1.all yV=true∧m.2=([],false,[])→(l.foldl ysp m).1.all yV=true∧(l.foldl ysp m).2=([],false,[]):=by
    intro l
    induction l with
    | nil=>intro m h; exact h
    | cons x t ih =>
      intro m h
      refine ih _ ⟨?_,h.2⟩
      rw [List.all_eq_true]
      intro y hy
      rcases List.mem_or_eq_of_mem_set hy with h1 | rfl
      · exact List.all_eq_true.1 h.1 y h1
      · rfl
  have ht:(yj5 id g i).1.all yV=true∧(yj5 id g i).2=([],false,[]):=by
    unfold yj5
    rw [hm]
    refine ⟨?_,rfl⟩
    rw [List.all_eq_true]
    intro y hy
    rcases List.mem_or_eq_of_mem_set hy with h1 | rfl
    · rw [List.eq_of_mem_replicate h1]; rfl
    · exact yXT _
  have hl:((yv id g i).1.length:Int)=6+g.2:=by
    unfold yv
    rw [yKU]
    unfold yj5
    rw [hm]
    show (((List.replicate (6+g.2).toNat ([]:List Int)).set 0 _).length:Int)=_
    rw [List.length_set,List.length_replicate]; omega
  obtain ⟨h1,h2⟩:=key (List.range g.2.toNat) _ ht
  refine ⟨yrA h1 ?_ ?_ ?_ ?_ ?_,hl,h2⟩
  · show List.all ((yv id g i).2).1 _=true
    rw [show (yv id g i).2=([],false,[]) from h2]; rfl
  · show yoP _ ((yv id g i).2).2.2=true
    rw [show (yv id g i).2=([],false,[]) from h2,ykf]
    exact ⟨fun x hx=>absurd hx List.not_mem_nil,List.Pairwise.nil⟩
  · show 1≤(yv id g i).1.length; omega
  · show (yv id g i).1.length≤20; omega
  · show ((yv id g i).2).1.length≤60
    rw [show (yv id g i).2=([],false,[]) from h2]; exact Nat.zero_le _
theorem yHs {id:Int} {g:dG} (hg:ye g=true) (h1:1≤id) (h2:id≤60000):ylv id g=(id,g,(List.range g.1.toNat).map (fun (i:Nat)=>yv id g i),-1,0,0,0,0,[],-1,false,false):=by
  unfold ylv
  rw [hg,zk0 h1,zk0 h2]
  have: ∀ (n:Nat),(List.range n).foldl (fun a (i:Nat)=>yyw a (yv id g i)) (yyA id g)=(id,g,(List.range n).map (fun (i:Nat)=>yv id g i),-1,0,0,0,0,[],-1,false,false):=by
    intro n
    induction n with
    | zero=>rfl
    | succ n ih=>rw [List.range_succ,List.foldl_append,ih,List.map_append]; rfl
  exact this _
theorem yX5 {id:Int} {g:dG} (hg:ye g=true) (h1:1≤id) (h2:id≤60000):Wk 0 (ylv id g):=by
  have hge:=yg.1 hg
  rw [yHs hg h1 h2]
  have hl:((List.range g.1.toNat).map (fun (i:Nat)=>yv id g i)).length=g.1.toNat:=by rw [List.length_map,List.length_range]
  refine ⟨⟨hg,⟨h1,h2⟩,?_,⟨Int.le_refl _,?_⟩,⟨Int.le_refl _,?_⟩,fun _=>rfl,?_,?_,?_,?_,?_⟩,⟨⟨fun i hi=> ?_,?_⟩,?_,?_⟩,⟨rfl,rfl⟩,rfl,Int.le_refl _⟩
  · rfl
  · show (-1:Int)≤g.1 - 1; omega
  · show (0:Int)≤g.2; omega
  · show (0:Int)≤0∧(0:Int)≤60000; omega
  · show (0:Int)≤0∧(0:Int)≤60000; omega
  · show (0:Int)≤0+4; omega
  · show (0:Int)≤0; omega
  · show (0:Int)≤60000; omega
  · have hi':i < ((List.range g.1.toNat).map (fun (i:Nat)=>yv id g i)).length:=hi
    show ywz (-1) false g.2 i (nth ((List.range g.1.toNat).map (fun (i:Nat)=>yv id g i)) i noMem)
    rw [zjW,zcq hi',List.getElem_map,List.getElem_range]
    obtain ⟨k1,k2,k3⟩:=yEX id i hg
    refine ⟨k1,k2,fun e=> ?_⟩
    rw [show (yv id g i).2=([],false,[]) from k3]at e
    cases e
  · show (((List.range g.1.toNat).map (fun (i:Nat)=>yv id g i)).length:Int)=g.1
    rw [hl]; omega
  · show (-1:Int)≤ -1; omega
  · show (-1:Int)≤1000; omega
theorem yZ3 {k m n:Int} {a:dA} (h:Wk k a) (hm:inb m a.2.2.1.length=true):Wk k (setMem a m (spoil (nth a.2.2.1 m noMem) n)) :=
  yZu h hm (fun g=>⟨yN4 n g.1,by rw [(yCy _ _).1]; exact g.2.1,by rw [(yCy _ _).2]; exact g.2.2⟩)
end
section
def ykZ:Code:=(Tryz.f138.body).getD .skip
def yqj:Env:=zki TT [(135,yq)] [(28864,.fz),(28928,.fz)]
theorem yLS:FrOk Tryz.prog ⟨yqj,22,fun _=>none⟩ ykZ:=zkp yc yd ⟨yu,trivial⟩
def yAP:Nat→Option Seg:=fun _=>none
def ybH:Shape:=⟨[(0,false,[.int .i64]),(2,false,[.ptr 0 0]),(3,false,[.ptr 12352 0]),(4,false,[.int .i64])],[(0,[.nil,.nil,.bool,.nil]),(12352,[.at 800000000,.nil,.bool,.nil])],[(800000000,tL,.fz)]⟩
def yga:Shape:=⟨[(0,false,[.int .i64]),(2,false,[.ptr 0 0]),(3,false,[.ptr 12352 0]),(4,false,[.ci .i64 0])],[(0,[.nil,.nil,.bool,.nil]),(12352,[.at 800000000,.nil,.bool,.nil])],[(800000000,tL,.fz)]⟩
def yfY:Shape:=⟨[(2,false,[.ptr 0 0]),(3,false,[.ptr 12352 0])],[(0,[.nil,.nil,.bool,.nil]),(12352,[.at 800000000,.nil,.bool,.nil])],[(800000000,tL,.fz)]⟩
def ykq:Shape:=⟨[],[],[]⟩
abbrev ypB (v0:Int) (v1:Int) (v2:dM) (v3:dM):(ybH).X:=(((v0,()),((),()),((),()),(v1,()),()),(((),(),v2.2.2.1,(),()),((),(),v3.2.2.1,(),()),()),(v3.1,()))
abbrev yJ0 (v0:Int) (v1:dM) (v2:dM):(yga).X:=(((v0,()),((),()),((),()),((),()),()),(((),(),v1.2.2.1,(),()),((),(),v2.2.2.1,(),()),()),(v2.1,()))
abbrev yJS (v0:dM) (v1:dM):(yfY).X:=((((),()),((),()),()),(((),(),v0.2.2.1,(),()),((),(),v1.2.2.1,(),()),()),(v1.1,()))
def ypP (v0:Int) (v1:Int) (v2:Bool) (v3:Bool) (v4:List (List Int)):Option ((ybH).X ⊕ ((yfY).X ⊕ (ykq).X)) :=
  bif (ltb v1 v0) then
    bif (zj4 v4.length ([([]:List Int)]:List (List Int)).length 24) then
      some (.inl (((v0,()),((),()),((),()),((IntKind.i64.wrap (v1+1)),()),()),(((),(),v2,(),()),((),(),v3,(),()),()),((v4++([([]:List Int)]:List (List Int))),())))
    else none
  else
    some (.inr (.inl ((((),()),((),()),()),(((),(),v2,(),()),((),(),v3,(),()),()),(v4,()))))
def ycb (x:(ybH).X):=ypP x.1.1.1 x.1.2.2.2.1.1 x.2.1.1.2.2.1 x.2.1.2.1.2.2.1 x.2.2.1
def yxk (x:(yga).X):(ybH).X:=(((x.1.1.1,()),((),()),((),()),(0,()),()),(((),(),x.2.1.1.2.2.1,(),()),((),(),x.2.1.2.1.2.2.1,(),()),()),(x.2.2.1,()))
def yyE:Code:=(zdI ykZ 64 244).getD .skip
theorem yLg:zdI ykZ 64 61=some (.block 0 (.loop yyE)):=by kernel_rfl
theorem yNU (x:(ybH).X):zg7 ⟨yqj,22,yAP⟩ 0 yyE 244 ybH yfY ykq x=ycb x:=by kernel_rfl
def yxw (x:(yga).X):Nat:=(fun (u0:Int) (u1:Bool) (u2:Bool) (u3:List (List Int))=>18446744073709551616) x.1.1.1 x.2.1.1.2.2.1 x.2.1.2.1.2.2.1 x.2.2.1
def yrh (x:(yga).X):Option ((yfY).X ⊕ (ykq).X):=zr ycb (yxw x) (yxk x)
def yxN:Seg:=⟨yga,yfY,ykq,yrh⟩
def yAQ:Nat→Option Seg:=fun q=>bif Nat.beq q 61 then some yxN else yAP q
theorem yLT:FrOk Tryz.prog ⟨yqj,22,yAQ⟩ ykZ:=(yLS).loop (sg:=yxN) ybH yxk (by decide) yLg ycb yxw (by decide) (fun _=>rfl) (fun x r _ h=>h) yNU
abbrev ygP:List Par:= [.rd tI]
abbrev yqI:List OT:= [⟨false,tM,(.pr (.ow .fz) (.pr (.ow (.pr .fz .fz)) (.pr .fz (.ow .fz))))⟩]
def ym8 (a0:Int):Option (ResD yqI×MutD ygP) :=
  let r1:=ya a0 1 20
  bif (!r1) then
    some ((([],[],false,[]),()),())
  else
    zjw (yrh (((a0,()),((),()),((),()),((),()),()),(((),(),false,(),()),((),(),false,(),()),()),([],()))) (fun y1 =>
      some (((y1.2.2.1,[],y1.2.1.2.1.2.2.1,[]),()),())) (fun y1 =>
      none)
theorem yVF (x:InD ygP):zjH ⟨yqj,22,yAQ⟩ Tryz.f138.results.toList ykZ ygP yqI x=ym8 x.1:=by kernel_rfl
theorem yQ9:ConOk Tryz.prog 138 ⟨ygP,yqI,fun x=>ym8 x.1⟩:=zkh (yLT) Tryz.func138 (by kernel_rfl) (by kernel_rfl) Tryz.ntmps138.symm (by decide) (fun x r h=>(yVF x).trans h)
def ya3 (a0:Int):dM:=ya0 a0
theorem yTx (a0:Int) (hk:zi9 ygP (a0,())):ym8 a0=(fun n=>some ((n,()),())) (ya3 a0):=by
  unfold ym8 ya3 ya0
  simp only [ybC]
  cases hc:(leb 1 a0&&leb a0 20)
  · rfl
  · rw [Bool.and_eq_true,zjQ,zjQ]at hc
    have h1:yrh (yJ0 a0 noMem noMem)=some (.inl (yJS noMem (List.replicate a0.toNat [],[],false,[]))) :=
      zjs (step:=ycb) (fun i=>ypB a0 i noMem (List.replicate i [],[],false,[])) a0.toNat _ (fun i hi=>by
        simp only [ycb,ypB,ypP,zjI (show (i:Int) < a0 by omega),cond_true,wr (show -9223372036854775808≤(i:Int)+1 by omega) (by omega),Int.natCast_add,Int.natCast_one,Int.toNat_natCast]
        rw [zkw.2 (show ((List.replicate i ([]:List Int)).length+([[]]:List (List Int)).length) * 24≤140737488355328 by simp only [List.length_cons,List.length_nil,List.length_replicate]; omega),← List.replicate_succ']; rfl) (by simp only [ycb,ypB,ypP,zkm (show a0≤(a0.toNat:Int) by omega),cond_false]) _ (by show _ < 18446744073709551616; omega)
    rw [h1]; rfl
def ymR:Con:=⟨ygP,yqI,fun x=>(fun n=>some ((n,()),())) (ya3 x.1)⟩
theorem yu5:ConOk Tryz.prog 138 ymR:=(yQ9).mono (fun x r hk h=>(yTx x.1 hk).trans h)
end
section
def yFm:Code:=(Tryz.f141.body).getD .skip
def yFX:Env:=zki TT [(135,yq)] []
theorem yLO:FrOk Tryz.prog ⟨yFX,9,fun _=>none⟩ yFm:=zkp yc yd ⟨yu,trivial⟩
def yOi:Nat→Option Seg:=fun _=>none
abbrev ylf:List Par:= [.rd tI]
abbrev yqE:List OT:= [⟨false,tI,.fz⟩]
def yt6 (a0:Int):Option (ResD yqE×MutD ylf) :=
  let r1:=ya a0 0 1099511627776
  bif (!r1) then
    some (((-1),()),())
  else
    some (((IntKind.i64.wrap ((IntKind.i64.wrap (a0+2))+4)),()),())
theorem yVB (x:InD ylf):zjH ⟨yFX,9,yOi⟩ Tryz.f141.results.toList yFm ylf yqE x=yt6 x.1:=by kernel_rfl
theorem yQ5:ConOk Tryz.prog 141 ⟨ylf,yqE,fun x=>yt6 x.1⟩:=zkh (yLO) Tryz.func141 (by kernel_rfl) (by kernel_rfl) Tryz.ntmps141.symm (by decide) (fun x r h=>(yVB x).trans h)
def yaw (a0:Int):Int :=
  let r1:=ya a0 0 1099511627776
  bif (!r1) then
    (-1)
  else
    (IntKind.i64.wrap ((IntKind.i64.wrap (a0+2))+4))
def ycD:Con:=⟨ylf,yqE,fun x=>(fun n=>some ((n,()),())) (yaw x.1)⟩
theorem yTt (a0:Int):yt6 a0=(fun n=>some ((n,()),())) (yaw a0):=zkS (p:=fun (n:Int)=>((n,()),())) (zkx (p:=fun (n:Int)=>((n,()),())) rfl rfl)
theorem yfH:ConOk Tryz.prog 141 ycD:=(yQ5).mono (fun x r _ h=>(yTt x.1).trans h)
theorem ydG (s:Int):yaw s=dataAt s:=by
  unfold yaw dataAt
  rw [ybC]
  by_cases h:0≤s∧s≤1099511627776
  · rw [zk0 h.1,zk0 h.2,wr (show -9223372036854775808≤s+2 by omega) (by omega),wr (by omega) (by omega)]
    show s+2+4=s+6
    omega
  · cases h1:(leb 0 s&&leb s 1099511627776)
    · rfl
    · rw [Bool.and_eq_true,zjQ,zjQ]at h1; exact absurd h1 h
end
section
def yc7:Code:=(Tryz.f49.body).getD .skip
def ygF:Env:=zki TT [(134,yfx),(135,yq),(138,ymR),(139,ymT),(140,ypt),(141,ycD)] [(53440,(.pr (.ow .fz) (.pr (.ow (.pr .fz .fz)) (.pr .fz (.ow .fz))))),(53504,(.pr (.ow .fz) (.pr (.ow (.pr .fz .fz)) (.pr .fz (.ow .fz)))))]
theorem yLK:FrOk Tryz.prog ⟨ygF,60,fun _=>none⟩ yc7:=zkp yc yd ⟨ylM,yu,yu5,yu7,yzS,yfH,trivial⟩
def yAN:Nat→Option Seg:=fun _=>none
def yaC:Shape:=⟨[(0,false,[.int .i64]),(3,false,[.ptr 0 0]),(4,false,[.ptr 64 0]),(5,false,[.ptr 12480 0]),(6,false,[.int .i64]),(7,false,[.ptr 28864 0]),(8,false,[.int .i64])],[(0,[.int .i64,.int .i64]),(64,[.int .i64,.int .i64,.int .i64,.nil,.int .i64,.int .i64,.int .i64,.int .i64,.int .i64,.nil,.int .i64,.bool,.bool]),(12480,[.int .i64,.int .i64,.int .i64,.at 800000000,.int .i64,.int .i64,.int .i64,.int .i64,.int .i64,.nil,.int .i64,.bool,.bool]),(28864,[.at 800000001,.at 800000002,.bool,.at 800000003])],[(800000000,tM,(.pr (.ow .fz) (.pr (.ow (.pr .fz .fz)) (.pr .fz (.ow .fz))))),(800000001,tL,.fz),(800000002,tW,(.pr .fz .fz)),(800000003,tI,.fz)]⟩
def ydk:Shape:=⟨[(0,false,[.int .i64]),(3,false,[.ptr 0 0]),(4,false,[.ptr 64 0]),(5,false,[.ptr 12480 0]),(6,false,[.int .i64]),(7,false,[.ptr 28864 0]),(8,false,[.ci .i64 0])],[(0,[.int .i64,.int .i64]),(64,[.int .i64,.int .i64,.int .i64,.nil,.int .i64,.int .i64,.int .i64,.int .i64,.int .i64,.nil,.int .i64,.bool,.bool]),(12480,[.int .i64,.int .i64,.int .i64,.at 800000000,.int .i64,.int .i64,.int .i64,.int .i64,.int .i64,.nil,.int .i64,.bool,.bool]),(28864,[.at 800000001,.at 800000002,.bool,.at 800000003])],[(800000000,tM,(.pr (.ow .fz) (.pr (.ow (.pr .fz .fz)) (.pr .fz (.ow .fz))))),(800000001,tL,.fz),(800000002,tW,(.pr .fz .fz)),(800000003,tI,.fz)]⟩
def ydh:Shape:=⟨[(0,false,[.int .i64]),(3,false,[.ptr 0 0]),(4,false,[.ptr 64 0]),(5,false,[.ptr 12480 0]),(6,false,[.int .i64]),(7,false,[.ptr 28864 0])],[(0,[.int .i64,.int .i64]),(64,[.int .i64,.int .i64,.int .i64,.nil,.int .i64,.int .i64,.int .i64,.int .i64,.int .i64,.nil,.int .i64,.bool,.bool]),(12480,[.int .i64,.int .i64,.int .i64,.at 800000000,.int .i64,.int .i64,.int .i64,.int .i64,.int .i64,.nil,.int .i64,.bool,.bool]),(28864,[.at 800000001,.at 800000002,.bool,.at 800000003])],[(800000000,tM,(.pr (.ow .fz) (.pr (.ow (.pr .fz .fz)) (.pr .fz (.ow .fz))))),(800000001,tL,.fz),(800000002,tW,(.pr .fz .fz)),(800000003,tI,.fz)]⟩
def ygz:Shape:=⟨[],[],[]⟩
abbrev ykA (v0:Int) (v1:Int) (v2:Int) (v3:dG) (v4:dA) (v5:dA) (v6:dM):(yaC).X:=(((v0,()),((),()),((),()),((),()),(v1,()),((),()),(v2,()),()),((v3.1,v3.2,()),(v4.1,v4.2.1.1,v4.2.1.2,(),v4.2.2.2.1,v4.2.2.2.2.1,v4.2.2.2.2.2.1,v4.2.2.2.2.2.2.1,v4.2.2.2.2.2.2.2.1,(),v4.2.2.2.2.2.2.2.2.2.1,v4.2.2.2.2.2.2.2.2.2.2.1,v4.2.2.2.2.2.2.2.2.2.2.2,()),(v5.1,v5.2.1.1,v5.2.1.2,(),v5.2.2.2.1,v5.2.2.2.2.1,v5.2.2.2.2.2.1,v5.2.2.2.2.2.2.1,v5.2.2.2.2.2.2.2.1,(),v5.2.2.2.2.2.2.2.2.2.1,v5.2.2.2.2.2.2.2.2.2.2.1,v5.2.2.2.2.2.2.2.2.2.2.2,()),((),(),v6.2.2.1,(),()),()),(v5.2.2.1,v6.1,v6.2.1,v6.2.2.2,()))
abbrev yEU (v0:Int) (v1:Int) (v2:dG) (v3:dA) (v4:dA) (v5:dM):(ydk).X:=(((v0,()),((),()),((),()),((),()),(v1,()),((),()),((),()),()),((v2.1,v2.2,()),(v3.1,v3.2.1.1,v3.2.1.2,(),v3.2.2.2.1,v3.2.2.2.2.1,v3.2.2.2.2.2.1,v3.2.2.2.2.2.2.1,v3.2.2.2.2.2.2.2.1,(),v3.2.2.2.2.2.2.2.2.2.1,v3.2.2.2.2.2.2.2.2.2.2.1,v3.2.2.2.2.2.2.2.2.2.2.2,()),(v4.1,v4.2.1.1,v4.2.1.2,(),v4.2.2.2.1,v4.2.2.2.2.1,v4.2.2.2.2.2.1,v4.2.2.2.2.2.2.1,v4.2.2.2.2.2.2.2.1,(),v4.2.2.2.2.2.2.2.2.2.1,v4.2.2.2.2.2.2.2.2.2.2.1,v4.2.2.2.2.2.2.2.2.2.2.2,()),((),(),v5.2.2.1,(),()),()),(v4.2.2.1,v5.1,v5.2.1,v5.2.2.2,()))
abbrev ytQ (v0:Int) (v1:Int) (v2:dG) (v3:dA) (v4:dA) (v5:dM):(ydh).X:=(((v0,()),((),()),((),()),((),()),(v1,()),((),()),()),((v2.1,v2.2,()),(v3.1,v3.2.1.1,v3.2.1.2,(),v3.2.2.2.1,v3.2.2.2.2.1,v3.2.2.2.2.2.1,v3.2.2.2.2.2.2.1,v3.2.2.2.2.2.2.2.1,(),v3.2.2.2.2.2.2.2.2.2.1,v3.2.2.2.2.2.2.2.2.2.2.1,v3.2.2.2.2.2.2.2.2.2.2.2,()),(v4.1,v4.2.1.1,v4.2.1.2,(),v4.2.2.2.1,v4.2.2.2.2.1,v4.2.2.2.2.2.1,v4.2.2.2.2.2.2.1,v4.2.2.2.2.2.2.2.1,(),v4.2.2.2.2.2.2.2.2.2.1,v4.2.2.2.2.2.2.2.2.2.2.1,v4.2.2.2.2.2.2.2.2.2.2.2,()),((),(),v5.2.2.1,(),()),()),(v4.2.2.1,v5.1,v5.2.1,v5.2.2.2,()))
def ykT (v0:Int) (v1:Int) (v2:Int) (v3:Int) (v4:Int) (v5:Int) (v6:Int) (v7:Int) (v8:Int) (v9:Int) (v10:Int) (v11:Int) (v12:Int) (v13:Int) (v14:Bool) (v15:Bool) (v16:Int) (v17:Int) (v18:Int) (v19:Int) (v20:Int) (v21:Int) (v22:Int) (v23:Int) (v24:Int) (v25:Bool) (v26:Bool) (v27:Bool) (v28:List dM) (v29:List (List Int)) (v30:List dW) (v31:List Int):Option ((yaC).X ⊕ ((ydh).X ⊕ (ygz).X)) :=
  bif (ltb v2 v4) then
    let r13:=yaw v2
    bif (inb r13 v29.length) then
      some (.inl (((v0,()),((),()),((),()),((),()),(v1,()),((),()),((IntKind.i64.wrap (v2+1)),()),()),((v3,v4,()),(v5,v6,v7,(),v8,v9,v10,v11,v12,(),v13,v14,v15,()),(v16,v17,v18,(),v19,v20,v21,v22,v23,(),v24,v25,v26,()),((),(),v27,(),()),()),(v28,(v29.set (r13).toNat ([0]:List Int)),v30,v31,())))
    else none
  else
    some (.inr (.inl (((v0,()),((),()),((),()),((),()),(v1,()),((),()),()),((v3,v4,()),(v5,v6,v7,(),v8,v9,v10,v11,v12,(),v13,v14,v15,()),(v16,v17,v18,(),v19,v20,v21,v22,v23,(),v24,v25,v26,()),((),(),v27,(),()),()),(v28,v29,v30,v31,()))))
def yaP (x:(yaC).X):=ykT x.1.1.1 x.1.2.2.2.2.1.1 x.1.2.2.2.2.2.2.1.1 x.2.1.1.1 x.2.1.1.2.1 x.2.1.2.1.1 x.2.1.2.1.2.1 x.2.1.2.1.2.2.1 x.2.1.2.1.2.2.2.2.1 x.2.1.2.1.2.2.2.2.2.1 x.2.1.2.1.2.2.2.2.2.2.1 x.2.1.2.1.2.2.2.2.2.2.2.1 x.2.1.2.1.2.2.2.2.2.2.2.2.1 x.2.1.2.1.2.2.2.2.2.2.2.2.2.2.1 x.2.1.2.1.2.2.2.2.2.2.2.2.2.2.2.1 x.2.1.2.1.2.2.2.2.2.2.2.2.2.2.2.2.1 x.2.1.2.2.1.1 x.2.1.2.2.1.2.1 x.2.1.2.2.1.2.2.1 x.2.1.2.2.1.2.2.2.2.1 x.2.1.2.2.1.2.2.2.2.2.1 x.2.1.2.2.1.2.2.2.2.2.2.1 x.2.1.2.2.1.2.2.2.2.2.2.2.1 x.2.1.2.2.1.2.2.2.2.2.2.2.2.1 x.2.1.2.2.1.2.2.2.2.2.2.2.2.2.2.1 x.2.1.2.2.1.2.2.2.2.2.2.2.2.2.2.2.1 x.2.1.2.2.1.2.2.2.2.2.2.2.2.2.2.2.2.1 x.2.1.2.2.2.1.2.2.1 x.2.2.1 x.2.2.2.1 x.2.2.2.2.1 x.2.2.2.2.2.1
def ytF (x:(ydk).X):(yaC).X:=(((x.1.1.1,()),((),()),((),()),((),()),(x.1.2.2.2.2.1.1,()),((),()),(0,()),()),((x.2.1.1.1,x.2.1.1.2.1,()),(x.2.1.2.1.1,x.2.1.2.1.2.1,x.2.1.2.1.2.2.1,(),x.2.1.2.1.2.2.2.2.1,x.2.1.2.1.2.2.2.2.2.1,x.2.1.2.1.2.2.2.2.2.2.1,x.2.1.2.1.2.2.2.2.2.2.2.1,x.2.1.2.1.2.2.2.2.2.2.2.2.1,(),x.2.1.2.1.2.2.2.2.2.2.2.2.2.2.1,x.2.1.2.1.2.2.2.2.2.2.2.2.2.2.2.1,x.2.1.2.1.2.2.2.2.2.2.2.2.2.2.2.2.1,()),(x.2.1.2.2.1.1,x.2.1.2.2.1.2.1,x.2.1.2.2.1.2.2.1,(),x.2.1.2.2.1.2.2.2.2.1,x.2.1.2.2.1.2.2.2.2.2.1,x.2.1.2.2.1.2.2.2.2.2.2.1,x.2.1.2.2.1.2.2.2.2.2.2.2.1,x.2.1.2.2.1.2.2.2.2.2.2.2.2.1,(),x.2.1.2.2.1.2.2.2.2.2.2.2.2.2.2.1,x.2.1.2.2.1.2.2.2.2.2.2.2.2.2.2.2.1,x.2.1.2.2.1.2.2.2.2.2.2.2.2.2.2.2.2.1,()),((),(),x.2.1.2.2.2.1.2.2.1,(),()),()),(x.2.2.1,x.2.2.2.1,x.2.2.2.2.1,x.2.2.2.2.2.1,()))
def yun:Code:=(zdI yc7 64 125236).getD .skip
theorem yGr:zdI yc7 64 31309=some (.block 2 (.loop yun)):=by kernel_rfl
theorem yGO (x:(yaC).X):zg7 ⟨ygF,60,yAN⟩ 2 yun 125236 yaC ydh ygz x=yaP x:=by kernel_rfl
def ytI (x:(ydk).X):Nat:=(fun (u0:Int) (u1:Int) (u2:Int) (u3:Int) (u4:Int) (u5:Int) (u6:Int) (u7:Int) (u8:Int) (u9:Int) (u10:Int) (u11:Int) (u12:Int) (u13:Bool) (u14:Bool) (u15:Int) (u16:Int) (u17:Int) (u18:Int) (u19:Int) (u20:Int) (u21:Int) (u22:Int) (u23:Int) (u24:Bool) (u25:Bool) (u26:Bool) (u27:List dM) (u28:List (List Int)) (u29:List dW) (u30:List Int)=>18446744073709551616) x.1.1.1 x.1.2.2.2.2.1.1 x.2.1.1.1 x.2.1.1.2.1 x.2.1.2.1.1 x.2.1.2.1.2.1 x.2.1.2.1.2.2.1 x.2.1.2.1.2.2.2.2.1 x.2.1.2.1.2.2.2.2.2.1 x.2.1.2.1.2.2.2.2.2.2.1 x.2.1.2.1.2.2.2.2.2.2.2.1 x.2.1.2.1.2.2.2.2.2.2.2.2.1 x.2.1.2.1.2.2.2.2.2.2.2.2.2.2.1 x.2.1.2.1.2.2.2.2.2.2.2.2.2.2.2.1 x.2.1.2.1.2.2.2.2.2.2.2.2.2.2.2.2.1 x.2.1.2.2.1.1 x.2.1.2.2.1.2.1 x.2.1.2.2.1.2.2.1 x.2.1.2.2.1.2.2.2.2.1 x.2.1.2.2.1.2.2.2.2.2.1 x.2.1.2.2.1.2.2.2.2.2.2.1 x.2.1.2.2.1.2.2.2.2.2.2.2.1 x.2.1.2.2.1.2.2.2.2.2.2.2.2.1 x.2.1.2.2.1.2.2.2.2.2.2.2.2.2.2.1 x.2.1.2.2.1.2.2.2.2.2.2.2.2.2.2.2.1 x.2.1.2.2.1.2.2.2.2.2.2.2.2.2.2.2.2.1 x.2.1.2.2.2.1.2.2.1 x.2.2.1 x.2.2.2.1 x.2.2.2.2.1 x.2.2.2.2.2.1
def yl4 (x:(ydk).X):Option ((ydh).X ⊕ (ygz).X):=zr yaP (ytI x) (ytF x)
def yud:Seg:=⟨ydk,ydh,ygz,yl4⟩
def yst:Nat→Option Seg:=fun q=>bif Nat.beq q 31309 then some yud else yAN q
theorem yLL:FrOk Tryz.prog ⟨ygF,60,yst⟩ yc7:=(yLK).loop (sg:=yud) yaC ytF (by decide) yGr yaP ytI (by decide) (fun _=>rfl) (fun x r _ h=>h) yGO
def ybG:Shape:=⟨[(0,false,[.int .i64]),(3,false,[.ptr 0 0]),(4,false,[.ptr 64 0]),(5,false,[.ptr 12480 0]),(6,false,[.int .i64])],[(0,[.int .i64,.int .i64]),(64,[.int .i64,.int .i64,.int .i64,.nil,.int .i64,.int .i64,.int .i64,.int .i64,.int .i64,.nil,.int .i64,.bool,.bool]),(12480,[.int .i64,.int .i64,.int .i64,.at 800000000,.int .i64,.int .i64,.int .i64,.int .i64,.int .i64,.nil,.int .i64,.bool,.bool])],[(800000000,tM,(.pr (.ow .fz) (.pr (.ow (.pr .fz .fz)) (.pr .fz (.ow .fz)))))]⟩
def yf9:Shape:=⟨[(0,false,[.int .i64]),(3,false,[.ptr 0 0]),(4,false,[.ptr 64 0]),(5,false,[.ptr 12480 0]),(6,false,[.ci .i64 0])],[(0,[.int .i64,.int .i64]),(64,[.int .i64,.int .i64,.int .i64,.nil,.int .i64,.int .i64,.int .i64,.int .i64,.int .i64,.nil,.int .i64,.bool,.bool]),(12480,[.int .i64,.int .i64,.int .i64,.at 800000000,.int .i64,.int .i64,.int .i64,.int .i64,.int .i64,.nil,.int .i64,.bool,.bool])],[(800000000,tM,(.pr (.ow .fz) (.pr (.ow (.pr .fz .fz)) (.pr .fz (.ow .fz)))))]⟩
def yfX:Shape:=⟨[(4,false,[.ptr 64 0]),(5,false,[.ptr 12480 0])],[(64,[.int .i64,.int .i64,.int .i64,.nil,.int .i64,.int .i64,.int .i64,.int .i64,.int .i64,.nil,.int .i64,.bool,.bool]),(12480,[.int .i64,.int .i64,.int .i64,.at 800000000,.int .i64,.int .i64,.int .i64,.int .i64,.int .i64,.nil,.int .i64,.bool,.bool])],[(800000000,tM,(.pr (.ow .fz) (.pr (.ow (.pr .fz .fz)) (.pr .fz (.ow .fz)))))]⟩
def ykp:Shape:=⟨[],[],[]⟩
abbrev yiB (v0:Int) (v1:Int) (v2:dG) (v3:dA) (v4:dA):(ybG).X:=(((v0,()),((),()),((),()),((),()),(v1,()),()),((v2.1,v2.2,()),(v3.1,v3.2.1.1,v3.2.1.2,(),v3.2.2.2.1,v3.2.2.2.2.1,v3.2.2.2.2.2.1,v3.2.2.2.2.2.2.1,v3.2.2.2.2.2.2.2.1,(),v3.2.2.2.2.2.2.2.2.2.1,v3.2.2.2.2.2.2.2.2.2.2.1,v3.2.2.2.2.2.2.2.2.2.2.2,()),(v4.1,v4.2.1.1,v4.2.1.2,(),v4.2.2.2.1,v4.2.2.2.2.1,v4.2.2.2.2.2.1,v4.2.2.2.2.2.2.1,v4.2.2.2.2.2.2.2.1,(),v4.2.2.2.2.2.2.2.2.2.1,v4.2.2.2.2.2.2.2.2.2.2.1,v4.2.2.2.2.2.2.2.2.2.2.2,()),()),(v4.2.2.1,()))
abbrev yJZ (v0:Int) (v1:dG) (v2:dA) (v3:dA):(yf9).X:=(((v0,()),((),()),((),()),((),()),((),()),()),((v1.1,v1.2,()),(v2.1,v2.2.1.1,v2.2.1.2,(),v2.2.2.2.1,v2.2.2.2.2.1,v2.2.2.2.2.2.1,v2.2.2.2.2.2.2.1,v2.2.2.2.2.2.2.2.1,(),v2.2.2.2.2.2.2.2.2.2.1,v2.2.2.2.2.2.2.2.2.2.2.1,v2.2.2.2.2.2.2.2.2.2.2.2,()),(v3.1,v3.2.1.1,v3.2.1.2,(),v3.2.2.2.1,v3.2.2.2.2.1,v3.2.2.2.2.2.1,v3.2.2.2.2.2.2.1,v3.2.2.2.2.2.2.2.1,(),v3.2.2.2.2.2.2.2.2.2.1,v3.2.2.2.2.2.2.2.2.2.2.1,v3.2.2.2.2.2.2.2.2.2.2.2,()),()),(v3.2.2.1,()))
abbrev yxF (v0:dA) (v1:dA):(yfX).X:=((((),()),((),()),()),((v0.1,v0.2.1.1,v0.2.1.2,(),v0.2.2.2.1,v0.2.2.2.2.1,v0.2.2.2.2.2.1,v0.2.2.2.2.2.2.1,v0.2.2.2.2.2.2.2.1,(),v0.2.2.2.2.2.2.2.2.2.1,v0.2.2.2.2.2.2.2.2.2.2.1,v0.2.2.2.2.2.2.2.2.2.2.2,()),(v1.1,v1.2.1.1,v1.2.1.2,(),v1.2.2.2.1,v1.2.2.2.2.1,v1.2.2.2.2.2.1,v1.2.2.2.2.2.2.1,v1.2.2.2.2.2.2.2.1,(),v1.2.2.2.2.2.2.2.2.2.1,v1.2.2.2.2.2.2.2.2.2.2.1,v1.2.2.2.2.2.2.2.2.2.2.2,()),()),(v1.2.2.1,()))
def ypO (v0:Int) (v1:Int) (v2:Int) (v3:Int) (v4:Int) (v5:Int) (v6:Int) (v7:Int) (v8:Int) (v9:Int) (v10:Int) (v11:Int) (v12:Int) (v13:Bool) (v14:Bool) (v15:Int) (v16:Int) (v17:Int) (v18:Int) (v19:Int) (v20:Int) (v21:Int) (v22:Int) (v23:Int) (v24:Bool) (v25:Bool) (v26:List dM):Option ((ybG).X ⊕ ((yfX).X ⊕ (ykp).X)) :=
  bif (ltb v1 v2) then
    let r15:=ybD (v2,v3)
    let r16:=ya3 r15
    let r17:=yH (v0,0,v1,v2,v3,0,(-1),0)
    bif (inb 0 r16.1.length) then
      zjw (yl4 (((v0,()),((),()),((),()),((),()),(v1,()),((),()),((),()),()),((v2,v3,()),(v4,v5,v6,(),v7,v8,v9,v10,v11,(),v12,v13,v14,()),(v15,v16,v17,(),v18,v19,v20,v21,v22,(),v23,v24,v25,()),((),(),r16.2.2.1,(),()),()),(v26,(r16.1.set (0:Int).toNat r17),r16.2.1,r16.2.2.2,()))) (fun y17 =>
        bif (zj4 y17.2.2.1.length ([(y17.2.2.2.1,y17.2.2.2.2.1,y17.2.1.2.2.2.1.2.2.1,y17.2.2.2.2.2.1)]:List dM).length 80) then
          some (.inl (((y17.1.1.1,()),((),()),((),()),((),()),((IntKind.i64.wrap (y17.1.2.2.2.2.1.1+1)),()),()),((y17.2.1.1.1,y17.2.1.1.2.1,()),(y17.2.1.2.1.1,y17.2.1.2.1.2.1,y17.2.1.2.1.2.2.1,(),y17.2.1.2.1.2.2.2.2.1,y17.2.1.2.1.2.2.2.2.2.1,y17.2.1.2.1.2.2.2.2.2.2.1,y17.2.1.2.1.2.2.2.2.2.2.2.1,y17.2.1.2.1.2.2.2.2.2.2.2.2.1,(),y17.2.1.2.1.2.2.2.2.2.2.2.2.2.2.1,y17.2.1.2.1.2.2.2.2.2.2.2.2.2.2.2.1,y17.2.1.2.1.2.2.2.2.2.2.2.2.2.2.2.2.1,()),(y17.2.1.2.2.1.1,y17.2.1.2.2.1.2.1,y17.2.1.2.2.1.2.2.1,(),y17.2.1.2.2.1.2.2.2.2.1,y17.2.1.2.2.1.2.2.2.2.2.1,y17.2.1.2.2.1.2.2.2.2.2.2.1,y17.2.1.2.2.1.2.2.2.2.2.2.2.1,y17.2.1.2.2.1.2.2.2.2.2.2.2.2.1,(),y17.2.1.2.2.1.2.2.2.2.2.2.2.2.2.2.1,y17.2.1.2.2.1.2.2.2.2.2.2.2.2.2.2.2.1,y17.2.1.2.2.1.2.2.2.2.2.2.2.2.2.2.2.2.1,()),()),((y17.2.2.1++([(y17.2.2.2.1,y17.2.2.2.2.1,y17.2.1.2.2.2.1.2.2.1,y17.2.2.2.2.2.1)]:List dM)),())))
        else none) (fun y17 =>
        some (.inr (.inr ((),(),()))))
    else none
  else
    some (.inr (.inl ((((),()),((),()),()),((v4,v5,v6,(),v7,v8,v9,v10,v11,(),v12,v13,v14,()),(v15,v16,v17,(),v18,v19,v20,v21,v22,(),v23,v24,v25,()),()),(v26,()))))
def yca (x:(ybG).X):=ypO x.1.1.1 x.1.2.2.2.2.1.1 x.2.1.1.1 x.2.1.1.2.1 x.2.1.2.1.1 x.2.1.2.1.2.1 x.2.1.2.1.2.2.1 x.2.1.2.1.2.2.2.2.1 x.2.1.2.1.2.2.2.2.2.1 x.2.1.2.1.2.2.2.2.2.2.1 x.2.1.2.1.2.2.2.2.2.2.2.1 x.2.1.2.1.2.2.2.2.2.2.2.2.1 x.2.1.2.1.2.2.2.2.2.2.2.2.2.2.1 x.2.1.2.1.2.2.2.2.2.2.2.2.2.2.2.1 x.2.1.2.1.2.2.2.2.2.2.2.2.2.2.2.2.1 x.2.1.2.2.1.1 x.2.1.2.2.1.2.1 x.2.1.2.2.1.2.2.1 x.2.1.2.2.1.2.2.2.2.1 x.2.1.2.2.1.2.2.2.2.2.1 x.2.1.2.2.1.2.2.2.2.2.2.1 x.2.1.2.2.1.2.2.2.2.2.2.2.1 x.2.1.2.2.1.2.2.2.2.2.2.2.2.1 x.2.1.2.2.1.2.2.2.2.2.2.2.2.2.2.1 x.2.1.2.2.1.2.2.2.2.2.2.2.2.2.2.2.1 x.2.1.2.2.1.2.2.2.2.2.2.2.2.2.2.2.2.1 x.2.2.1
def yxj (x:(yf9).X):(ybG).X:=(((x.1.1.1,()),((),()),((),()),((),()),(0,()),()),((x.2.1.1.1,x.2.1.1.2.1,()),(x.2.1.2.1.1,x.2.1.2.1.2.1,x.2.1.2.1.2.2.1,(),x.2.1.2.1.2.2.2.2.1,x.2.1.2.1.2.2.2.2.2.1,x.2.1.2.1.2.2.2.2.2.2.1,x.2.1.2.1.2.2.2.2.2.2.2.1,x.2.1.2.1.2.2.2.2.2.2.2.2.1,(),x.2.1.2.1.2.2.2.2.2.2.2.2.2.2.1,x.2.1.2.1.2.2.2.2.2.2.2.2.2.2.2.1,x.2.1.2.1.2.2.2.2.2.2.2.2.2.2.2.2.1,()),(x.2.1.2.2.1.1,x.2.1.2.2.1.2.1,x.2.1.2.2.1.2.2.1,(),x.2.1.2.2.1.2.2.2.2.1,x.2.1.2.2.1.2.2.2.2.2.1,x.2.1.2.2.1.2.2.2.2.2.2.1,x.2.1.2.2.1.2.2.2.2.2.2.2.1,x.2.1.2.2.1.2.2.2.2.2.2.2.2.1,(),x.2.1.2.2.1.2.2.2.2.2.2.2.2.2.2.1,x.2.1.2.2.1.2.2.2.2.2.2.2.2.2.2.2.1,x.2.1.2.2.1.2.2.2.2.2.2.2.2.2.2.2.2.1,()),()),(x.2.2.1,()))
def yyD:Code:=(zdI yc7 64 244).getD .skip
theorem yLf:zdI yc7 64 61=some (.block 0 (.loop yyD)):=by kernel_rfl
theorem yNT (x:(ybG).X):zg7 ⟨ygF,60,yst⟩ 0 yyD 244 ybG yfX ykp x=yca x:=by kernel_rfl
def yxv (x:(yf9).X):Nat:=(fun (u0:Int) (u1:Int) (u2:Int) (u3:Int) (u4:Int) (u5:Int) (u6:Int) (u7:Int) (u8:Int) (u9:Int) (u10:Int) (u11:Int) (u12:Bool) (u13:Bool) (u14:Int) (u15:Int) (u16:Int) (u17:Int) (u18:Int) (u19:Int) (u20:Int) (u21:Int) (u22:Int) (u23:Bool) (u24:Bool) (u25:List dM)=>18446744073709551616) x.1.1.1 x.2.1.1.1 x.2.1.1.2.1 x.2.1.2.1.1 x.2.1.2.1.2.1 x.2.1.2.1.2.2.1 x.2.1.2.1.2.2.2.2.1 x.2.1.2.1.2.2.2.2.2.1 x.2.1.2.1.2.2.2.2.2.2.1 x.2.1.2.1.2.2.2.2.2.2.2.1 x.2.1.2.1.2.2.2.2.2.2.2.2.1 x.2.1.2.1.2.2.2.2.2.2.2.2.2.2.1 x.2.1.2.1.2.2.2.2.2.2.2.2.2.2.2.1 x.2.1.2.1.2.2.2.2.2.2.2.2.2.2.2.2.1 x.2.1.2.2.1.1 x.2.1.2.2.1.2.1 x.2.1.2.2.1.2.2.1 x.2.1.2.2.1.2.2.2.2.1 x.2.1.2.2.1.2.2.2.2.2.1 x.2.1.2.2.1.2.2.2.2.2.2.1 x.2.1.2.2.1.2.2.2.2.2.2.2.1 x.2.1.2.2.1.2.2.2.2.2.2.2.2.1 x.2.1.2.2.1.2.2.2.2.2.2.2.2.2.2.1 x.2.1.2.2.1.2.2.2.2.2.2.2.2.2.2.2.1 x.2.1.2.2.1.2.2.2.2.2.2.2.2.2.2.2.2.1 x.2.2.1
def yrg (x:(yf9).X):Option ((yfX).X ⊕ (ykp).X):=zr yca (yxv x) (yxj x)
def yxM:Seg:=⟨yf9,yfX,ykp,yrg⟩
def yAO:Nat→Option Seg:=fun q=>bif Nat.beq q 61 then some yxM else yst q
theorem yLM:FrOk Tryz.prog ⟨ygF,60,yAO⟩ yc7:=(yLL).loop (sg:=yxM) ybG yxj (by decide) yLf yca yxv (by decide) (fun _=>rfl) (fun x r _ h=>h) yNT
abbrev ygL:List Par:= [.rd tI,.rd tG]
abbrev yqC:List OT:= [⟨false,tA,(.pr .fz (.pr (.pr .fz .fz) (.pr (.ow (.pr (.ow .fz) (.pr (.ow (.pr .fz .fz)) (.pr .fz (.ow .fz))))) (.pr .fz (.pr .fz (.pr .fz (.pr .fz (.pr .fz (.pr (.ow (.pr .fz .fz)) (.pr .fz (.pr .fz .fz)))))))))))⟩]
def ym4 (a0:Int) (a1:dG):Option (ResD yqC×MutD ygL) :=
  let r1:=ye a1
  bif (!(!r1)) then
    let r2:=ya a0 1 60000
    bif (!r2) then
      some (((0,(0,0),[],0,0,0,0,0,[],0,false,false),()),())
    else
      zjw (yrg (((a0,()),((),()),((),()),((),()),((),()),()),((a1.1,a1.2,()),(0,0,0,(),0,0,0,0,0,(),0,false,false,()),(a0,a1.1,a1.2,(),(-1),0,0,0,0,(),(-1),false,false,()),()),([],()))) (fun y18 =>
        some (((y18.2.1.2.1.1,(y18.2.1.2.1.2.1,y18.2.1.2.1.2.2.1),y18.2.2.1,y18.2.1.2.1.2.2.2.2.1,y18.2.1.2.1.2.2.2.2.2.1,y18.2.1.2.1.2.2.2.2.2.2.1,y18.2.1.2.1.2.2.2.2.2.2.2.1,y18.2.1.2.1.2.2.2.2.2.2.2.2.1,[],y18.2.1.2.1.2.2.2.2.2.2.2.2.2.2.1,y18.2.1.2.1.2.2.2.2.2.2.2.2.2.2.2.1,y18.2.1.2.1.2.2.2.2.2.2.2.2.2.2.2.2.1),()),())) (fun y18 =>
        none)
  else
    some (((0,(0,0),[],0,0,0,0,0,[],0,false,false),()),())
theorem yVz (x:InD ygL):zjH ⟨ygF,60,yAO⟩ Tryz.f49.results.toList yc7 ygL yqC x=ym4 x.1 x.2.1:=by kernel_rfl
theorem yQ3:ConOk Tryz.prog 49 ⟨ygL,yqC,fun x=>ym4 x.1 x.2.1⟩:=zkh (yLM) Tryz.func49 (by kernel_rfl) (by kernel_rfl) Tryz.ntmps49.symm (by decide) (fun x r h=>(yVz x).trans h)
def ylE (a0:Int) (a1:dG):dA:=ylv a0 a1
theorem yTr (a0:Int) (a1:dG) (hk:zi9 ygL (a0,a1,())):ym4 a0 a1=(fun n=>some ((n,()),())) (ylE a0 a1):=by
  unfold ym4 ylE ylv
  simp only [ybC]
  cases hg:ye a1
  · rfl
  cases hid:(leb 1 a0&&leb a0 60000)
  · rfl
  have hge:=yg.1 hg
  have inner: ∀ (i:Int) (a:dA),yl4 (yEU a0 i a1 yoV a (yj5 a0 a1 i))=some (.inl (ytQ a0 i a1 yoV a (yv a0 a1 i))):=fun i a =>
    zks (step:=yaP) a1.2.toNat (fun s m=>ykA a0 i s a1 yoV a m) ysp (fun _ m=>(m.1.length:Int)=6+a1.2) (fun m=> .inl (ytQ a0 i a1 yoV a m)) (fun s m hs hm=>⟨by
      simp only [yaP,ykA,ykT,zjI (show (s:Int) < a1.2 by omega),cond_true,wr (show -9223372036854775808≤(s:Int)+1 by omega) (by omega),Int.natCast_add,Int.natCast_one,Int.toNat_natCast,ydG]
      have hd:dataAt (s:Int)=((s+6:Nat):Int):=by unfold dataAt; rw [zk0 (show (0:Int)≤s by omega),zk0 (show (s:Int)≤1099511627776 by omega)]; rfl
      rw [hd,zkO (show s+6 < m.1.length by omega),Int.toNat_natCast]; rfl,by show ((m.1.set _ _).length:Int)=_; rw [List.length_set]; exact hm⟩) (fun m hm=>by simp only [yaP,ykA,ykT,show ((a1.2.toNat:Nat):Int)=a1.2 by omega,zkm (Int.le_refl _),cond_false]) (yj5 a0 a1 i) (by
      unfold yj5 ya0
      rw [zk0 (show 1≤6+a1.2 by omega),zk0 (show 6+a1.2≤20 by omega)]
      show (((List.replicate (6+a1.2).toNat ([]:List Int)).set 0 _).length:Int)=_
      rw [List.length_set,List.length_replicate]; omega) 18446744073709551616 (by omega)
  have hmn:ya3 (ybD a1)=ya0 (6+a1.2):=by
    unfold ya3 ybD
    rw [wr (by omega) (by omega)]
  have h0:inb 0 (ya0 (6+a1.2)).1.length=true:=by
    unfold ya0
    rw [zk0 (show 1≤6+a1.2 by omega),zk0 (show 6+a1.2≤20 by omega)]
    show inb 0 (List.replicate (6+a1.2).toNat ([]:List Int)).length=true
    rw [List.length_replicate,zjP]; omega
  have outer:yrg (yJZ a0 a1 yoV (yyA a0 a1))=some (.inl (yxF yoV ((List.range a1.1.toNat).foldl (fun a (i:Nat)=>yyw a (yv a0 a1 i)) (yyA a0 a1)))) :=
    zks (step:=yca) a1.1.toNat (fun i a=>yiB a0 i a1 yoV a) (fun a i=>yyw a (yv a0 a1 i)) (fun i a=>a.2.2.1.length=i) (fun a=> .inl (yxF yoV a)) (fun i a hi ha=>⟨by
      simp only [yca,yiB,ypO,zjI (show (i:Int) < a1.1 by omega),cond_true,wr (show -9223372036854775808≤(i:Int)+1 by omega) (by omega),Int.natCast_add,Int.natCast_one,zkV,hmn,h0]
      refine (congrArg (fun z=>zjw z _ _) (inner i a)).trans ?_
      simp only [zkJ]
      show (bif zj4 a.2.2.1.length [yv a0 a1 i].length 80 then _ else _)=_
      rw [zkw.2 (show (a.2.2.1.length+ [yv a0 a1 i].length) * 80≤140737488355328 by simp only [List.length_cons,List.length_nil]; omega)]
      simp only [cond_true]
      show some (Sum.inl (yiB a0 (IntKind.i64.wrap ((i:Int)+1)) a1 yoV (yyw a (yv a0 a1 i))))=_
      rw [wr (show -9223372036854775808≤(i:Int)+1 by omega) (by omega)],by show (a.2.2.1++ [_]).length=_; rw [List.length_append,ha]; rfl⟩) (fun a ha=>by simp only [yca,yiB,ypO,show ((a1.1.toNat:Nat):Int)=a1.1 by omega,zkm (Int.le_refl _),cond_false]) (yyA a0 a1) rfl 18446744073709551616 (by omega)
  have hdr: ∀ (l:List Nat) (a:dA),a.2.2.2.2.2.2.2.2.1= []→(l.foldl (fun a (i:Nat)=>yyw a (yv a0 a1 i)) a).2.2.2.2.2.2.2.2.1= []:=by
    intro l
    induction l with
    | nil=>intro a h; exact h
    | cons x t ih=>intro a h; exact ih _ h
  have h:=hdr (List.range a1.1.toNat) (yyA a0 a1) rfl
  simp only [Bool.not_true,Bool.not_false,cond_true,cond_false,Bool.and_self]
  refine (congrArg (fun z=>zjw z _ _) outer).trans ?_
  generalize (List.range a1.1.toNat).foldl (fun a (i:Nat)=>yyw a (yv a0 a1 i)) (yyA a0 a1)=R at h
  simp only [zkJ]
  show some ((((R.1,R.2.1,R.2.2.1,R.2.2.2.1,R.2.2.2.2.1,R.2.2.2.2.2.1,R.2.2.2.2.2.2.1,R.2.2.2.2.2.2.2.1,[],R.2.2.2.2.2.2.2.2.2):dA),()),())=some ((R,()),())
  rw [← h]
def yBM:Con:=⟨ygL,yqC,fun x=>(fun n=>some ((n,()),())) (ylE x.1 x.2.1)⟩
theorem yUn:ConOk Tryz.prog 49 yBM:=(yQ3).mono (fun x r hk h=>(yTr x.1 x.2.1 hk).trans h)
end
end
end Go.Tf
