/- Functions of the program, and what they come to. -/
import Derived.Test.YtcpidpnglekceaaGreatWordsBentF2
namespace Go.Tf
noncomputable section
open Go.Proofs
set_option synthInstance.maxHeartbeats 400000
set_option synthInstance.maxSize 10000
set_option linter.unusedVariables false
set_option linter.unusedSimpArgs false
set_option maxRecDepth 100000
section
def yxw:Code:=(Tryz.f246.body).getD .skip
def yya:Env:=zki TT [(115,yq),(187,yd4)] []
theorem yCV:FrOk Tryz.prog ⟨yya,60,fun _=>none⟩ yxw:=zkp ye yf ⟨yu,yjq,trivial⟩
def yD5:Nat→Option Seg:=fun _=>none
abbrev yhm:List Par:= [.rd tS]
abbrev ylE:List OT:= [⟨false,tB,.fz⟩]
def yos (a0:dS):Option (ResD ylE×MutD yhm) :=
  let r1:=yd (a0.2.2.2.1,a0.2.2.2.2.1)
  bif (!(!r1)) then
    let r2:=yb a0.1 1 60000
    bif (!(!r2)) then
      let r3:=yb a0.2.1 0 60000
      bif (!(!r3)) then
        let r4:=yb a0.2.2.1 0 (IntKind.i64.wrap (a0.2.2.2.1 - 1))
        bif (!(!r4)) then
          let r5:=yb a0.2.2.2.2.2.1 0 60000
          bif (!r5) then
            some ((false,()),())
          else
            let r6:=yb a0.2.2.2.2.2.2.1 (-1) (IntKind.i64.wrap (a0.2.2.2.1 - 1))
            bif r6 then
              let r7:=yb a0.2.2.2.2.2.2.2 0 a0.2.2.2.2.1
              bif r7 then
                bif (!(leb 0 a0.2.2.2.2.2.2.1)) then
                  some (((a0.2.2.2.2.2.2.2==0),()),())
                else
                  some ((true,()),())
              else
                some ((false,()),())
            else
              some ((false,()),())
        else
          some ((false,()),())
      else
        some ((false,()),())
    else
      some ((false,()),())
  else
    some ((false,()),())
theorem yKG (x:InD yhm):zjH ⟨yya,60,yD5⟩ Tryz.f246.results.toList yxw yhm ylE x=yos x.1:=by kernel_rfl
theorem yGh:ConOk Tryz.prog 246 ⟨yhm,ylE,fun x=>yos x.1⟩:=zkh (yCV) Tryz.func246 (by kernel_rfl) (by kernel_rfl) Tryz.ntmps246.symm (by decide) (fun x r h=>(yKG x).trans h)
def yd7 (a0:dS):Bool :=
  let r1:=yd (a0.2.2.2.1,a0.2.2.2.2.1)
  bif (!(!r1)) then
    let r2:=yb a0.1 1 60000
    bif (!(!r2)) then
      let r3:=yb a0.2.1 0 60000
      bif (!(!r3)) then
        let r4:=yb a0.2.2.1 0 (IntKind.i64.wrap (a0.2.2.2.1 - 1))
        bif (!(!r4)) then
          let r5:=yb a0.2.2.2.2.2.1 0 60000
          bif (!r5) then
            false
          else
            let r6:=yb a0.2.2.2.2.2.2.1 (-1) (IntKind.i64.wrap (a0.2.2.2.1 - 1))
            bif r6 then
              let r7:=yb a0.2.2.2.2.2.2.2 0 a0.2.2.2.2.1
              bif r7 then
                bif (!(leb 0 a0.2.2.2.2.2.2.1)) then
                  (a0.2.2.2.2.2.2.2==0)
                else
                  true
              else
                false
            else
              false
        else
          false
      else
        false
    else
      false
  else
    false
def yuk:Con:=⟨yhm,ylE,fun x=>(fun n=>some ((n,()),())) (yd7 x.1)⟩
theorem yIV (a0:dS):yos a0=(fun n=>some ((n,()),())) (yd7 a0):=zkS (p:=fun (n:Bool)=>((n,()),())) (zkx (p:=fun (n:Bool)=>((n,()),())) (zkx (p:=fun (n:Bool)=>((n,()),())) (zkx (p:=fun (n:Bool)=>((n,()),())) (zkx (p:=fun (n:Bool)=>((n,()),())) (zkx (p:=fun (n:Bool)=>((n,()),())) rfl (zkx (p:=fun (n:Bool)=>((n,()),())) (zkx (p:=fun (n:Bool)=>((n,()),())) (zkx (p:=fun (n:Bool)=>((n,()),())) rfl rfl) rfl) rfl)) rfl) rfl) rfl) rfl)
theorem yJL:ConOk Tryz.prog 246 yuk:=(yGh).mono (fun x r _ h=>(yIV x.1).trans h)
end
section
def yvI:Code:=(Tryz.f192.body).getD .skip
def ywh:Env:=zki TT [(246,yuk)] []
theorem yBJ:FrOk Tryz.prog ⟨ywh,25,fun _=>none⟩ yvI:=zkp ye yf ⟨yJL,trivial⟩
def yCv:Nat→Option Seg:=fun _=>none
abbrev yfy:List Par:= [.rd tS]
abbrev yjQ:List OT:= [⟨false,tL,(.ow .fz)⟩]
def ymA (a0:dS):Option (ResD yjQ×MutD yfy) :=
  let r1:=yd7 a0
  bif (!r1) then
    some ((([]:List Int),()),())
  else
    some ((([21317,a0.1,a0.2.1,a0.2.2.1,a0.2.2.2.1,a0.2.2.2.2.1,a0.2.2.2.2.2.1,(IntKind.i64.wrap (a0.2.2.2.2.2.2.1+1)),a0.2.2.2.2.2.2.2]:List Int),()),())
theorem yHG (x:InD yfy):zjH ⟨ywh,25,yCv⟩ Tryz.f192.results.toList yvI yfy yjQ x=ymA x.1:=by kernel_rfl
theorem yDC:ConOk Tryz.prog 192 ⟨yfy,yjQ,fun x=>ymA x.1⟩:=zkh (yBJ) Tryz.func192 (by kernel_rfl) (by kernel_rfl) Tryz.ntmps192.symm (by decide) (fun x r h=>(yHG x).trans h)
def yav (a0:dS):(List Int) :=
  let r1:=yd7 a0
  bif (!r1) then
    ([]:List Int)
  else
    ([21317,a0.1,a0.2.1,a0.2.2.1,a0.2.2.2.1,a0.2.2.2.2.1,a0.2.2.2.2.2.1,(IntKind.i64.wrap (a0.2.2.2.2.2.2.1+1)),a0.2.2.2.2.2.2.2]:List Int)
def yml:Con:=⟨yfy,yjQ,fun x=>(fun n=>some ((n,()),())) (yav x.1)⟩
theorem yF3 (a0:dS):ymA a0=(fun n=>some ((n,()),())) (yav a0):=zkS (p:=fun (n:(List Int))=>((n,()),())) (zkx (p:=fun (n:(List Int))=>((n,()),())) rfl rfl)
theorem yvb:ConOk Tryz.prog 192 yml:=(yDC).mono (fun x r _ h=>(yF3 x.1).trans h)
abbrev yo (a:dA):Bool:=a.2.2.2.2.2.2.2.2.2.2.1
def yQL (a:dA) (f:Int) (d:Bool):dA:=(a.1,a.2.1,a.2.2.1,a.2.2.2.1,a.2.2.2.2.1,a.2.2.2.2.2.1,a.2.2.2.2.2.2.1,a.2.2.2.2.2.2.2.1,a.2.2.2.2.2.2.2.2.1,f,d,a.2.2.2.2.2.2.2.2.2.2.2)
def opA (a:dA):Bool×dA:=bif yo a then (false,a) else bif a.2.2.2.2.2.2.2.2.2.1==0 then (false,yQL a (-1) true) else bif ltb 0 a.2.2.2.2.2.2.2.2.2.1 then (true,yQL a (IntKind.i64.wrap (a.2.2.2.2.2.2.2.2.2.1 - 1)) (yo a)) else (true,a)
def yqv (a:dA) (m:Int) (x:dM):dA:=(a.1,a.2.1,a.2.2.1.set m.toNat x,a.2.2.2)
def ydT (a:dA) (m n:Int) (s:List Int):dA:=bif (nth a.2.2.1 m yg).2.2.1 then a else bif (opA a).1 then yqv (opA a).2 m (ygG (nth a.2.2.1 m yg) n s).1 else (opA a).2
def yao (a:dA) (i:Nat):dA:=bif (nth a.2.2.1 i yg).2.2.1 then a else bif (opA a).1 then yqv (opA a).2 i (ygz (nth a.2.2.1 i yg)) else (opA a).2
def yab (a:dA):dA:=(List.range a.2.2.1.length).foldl yao a
def yRt (a:dA) (i:Int):dS:=(a.1,a.2.2.2.2.2.2.2.1,i,a.2.1.1,a.2.1.2,a.2.2.2.2.2.2.1,a.2.2.2.1,a.2.2.2.2.1)
def yjw (a:dA) (i:Nat):dA:=ydT a i (a.2.2.2.2.2.2.2.1.tmod 2) (yav (yRt a i))
def yik (a:dA):dA:=(a.1,a.2.1,a.2.2.1,a.2.2.2.1,a.2.2.2.2.1,a.2.2.2.2.2.1,a.2.2.2.2.2.2.1,IntKind.i64.wrap (a.2.2.2.2.2.2.2.1+1),a.2.2.2.2.2.2.2.2)
def yau (a:dA):dA:=yab ((List.range a.2.2.1.length).foldl yjw (yik a))
theorem ybv (a:dA):(opA a).2.2.2.1=a.2.2.1:=by
  unfold opA
  cases yo a
  · cases (a.2.2.2.2.2.2.2.2.2.1==0)
    · cases ltb 0 a.2.2.2.2.2.2.2.2.2.1<;>rfl
    · rfl
  · rfl
theorem yPx {a:dA} (h:yo a=false):yo (opA a).2= !(opA a).1:=by
  unfold opA
  rw [h]
  cases (a.2.2.2.2.2.2.2.2.2.1==0)
  · cases ltb 0 a.2.2.2.2.2.2.2.2.2.1
    · exact h
    · rfl
  · rfl
theorem yPz {a:dA} (h:yo a=true):opA a=(false,a):=by unfold opA; rw [h]; rfl
theorem yoQ (a:dA) (m n:Int) (s:List Int):(ydT a m n s).2.2.1.length=a.2.2.1.length:=by
  unfold ydT
  cases (nth a.2.2.1 m yg).2.2.1
  · cases (opA a).1
    · show (opA a).2.2.2.1.length=_; rw [ybv]
    · show ((opA a).2.2.2.1.set m.toNat _).length=_; rw [List.length_set,ybv]
  · rfl
theorem ym2 (a:dA) (i:Nat):(yao a i).2.2.1.length=a.2.2.1.length:=by
  unfold yao
  cases (nth a.2.2.1 i yg).2.2.1
  · cases (opA a).1
    · show (opA a).2.2.2.1.length=_; rw [ybv]
    · show ((opA a).2.2.2.1.set _ _).length=_; rw [List.length_set,ybv]
  · rfl
theorem yk3 {one:dA→Nat→dA} (h: ∀ a i,(one a i).2.2.1.length=a.2.2.1.length): ∀ (l:List Nat) (a:dA),(l.foldl one a).2.2.1.length=a.2.2.1.length
  | [],_=>rfl
  | x::l,a=>by rw [List.foldl_cons,yk3 h l,h]
theorem yvB (a:dA):(yab a).2.2.1.length=a.2.2.1.length:=yk3 ym2 _ _
theorem yO2 {a:dA} (h:yo a=true) (m n:Int) (s:List Int):ydT a m n s=a:=by
  unfold ydT
  rw [yPz h]
  cases (nth a.2.2.1 m yg).2.2.1<;>rfl
theorem yO8 {a:dA} (i:Nat) (h:yo a=true):yao a i=a:=by
  unfold yao
  rw [yPz h]
  cases (nth a.2.2.1 i yg).2.2.1<;>rfl
theorem yBA {one:dA→Nat→dA} (hs: ∀ a i,yo a=true→one a i=a): ∀ (l:List Nat) (a:dA),yo a=true→l.foldl one a=a
  | [],_,_=>rfl
  | x::l,a,h=>by rw [List.foldl_cons,hs a x h]; exact yBA hs l a h
theorem yRJ {a:dA} (h:yo a=true):yab a=a:=yBA (fun _ i h=>yO8 i h) _ a h
theorem yRT {a:dA} (h:yo a=false) (m n:Int) (s:List Int):yo (ydT a m n s)=(!(nth a.2.2.1 m yg).2.2.1&& !(opA a).1):=by
  have:=yPx h
  unfold ydT
  cases (nth a.2.2.1 m yg).2.2.1
  · cases ho:(opA a).1
    · rw [ho]at this; exact this
    · rw [ho]at this; exact this
  · exact h
theorem yRb {a:dA} (h:yo a=false) (i:Nat):yo (yao a i)=(!(nth a.2.2.1 i yg).2.2.1&& !(opA a).1):=by
  have:=yPx h
  unfold yao
  cases (nth a.2.2.1 i yg).2.2.1
  · cases ho:(opA a).1
    · rw [ho]at this; exact this
    · rw [ho]at this; exact this
  · exact h
theorem yQx {one:dA→Nat→dA} (hs: ∀ a i,yo a=true→one a i=a): ∀ (k i:Nat) (s:dA),goE (fun i s=>bif yo (one s i) then (.inr (one s i):dA ⊕ dA) else .inl (one s i)) id k i s=(List.range' i k).foldl one s
  | 0,_,_=>rfl
  | k+1,i,s=>by
    rw [List.range'_succ,List.foldl_cons,goE]
    cases hd:yo (one s i)
    · exact yQx hs k (i+1) (one s i)
    · exact (yBA hs _ _ hd).symm
def yy5 (a:dA) (m:Int):dA:=(a.1,a.2.1,a.2.2.1.set m.toNat (ytB (nth a.2.2.1 m yg)),m,0,a.2.2.2.2.2)
def yHN (a:dA) (m:Int):dA:=(a.1,a.2.1,a.2.2.1.set m.toNat (ytB (nth a.2.2.1 m yg)),a.2.2.2.1,a.2.2.2.2.1,a.2.2.2.2.2.1,a.2.2.2.2.2.2.1,a.2.2.2.2.2.2.2.1,a.2.2.2.2.2.2.2.2.1,a.2.2.2.2.2.2.2.2.2.1,a.2.2.2.2.2.2.2.2.2.2.1,true)
def yyF (a:dA) (m:Int):dA:=bif a.2.2.2.1== -1||a.2.2.2.1==m then (bif !(yo a)&&(!a.2.2.2.2.2.2.2.2.2.2.2&&ltb a.2.2.2.2.2.2.2.1 60000) then yau (yy5 a m) else yy5 a m) else yHN a m
def yRN (a:dA) (m:Int):dA:=bif yv a&&(inb m a.2.2.1.length&& !(nth a.2.2.1 m yg).2.2.1) then yyF a m else a
theorem yO1 {a:dA} {m n:Int} {s:List Int} (h:yad a.2.2.1) (hm:inb m a.2.2.1.length=true):yad (ydT a m n s).2.2.1:=by
  unfold ydT
  cases (nth a.2.2.1 m yg).2.2.1
  · cases (opA a).1
    · show yad (opA a).2.2.2.1; rw [ybv]; exact h
    · show yad ((opA a).2.2.2.1.set m.toNat _); rw [ybv]; exact yzo h (yGM _ _ (yMJ h hm))
  · exact h
theorem yO7 {a:dA} {i:Nat} (h:yad a.2.2.1) (hi:i < a.2.2.1.length):yad (yao a i).2.2.1:=by
  unfold yao
  cases (nth a.2.2.1 i yg).2.2.1
  · cases (opA a).1
    · show yad (opA a).2.2.2.1; rw [ybv]; exact h
    · show yad ((opA a).2.2.2.1.set _ _); rw [ybv]; exact yzo h (yEv (yMJ h (zkO hi)))
  · exact h
theorem yBz {one:dA→Nat→dA} (hl: ∀ a i,(one a i).2.2.1.length=a.2.2.1.length) (ho: ∀ a i,yad a.2.2.1→i < a.2.2.1.length→yad (one a i).2.2.1): ∀ (n:Nat) (a:dA),n≤a.2.2.1.length→yad a.2.2.1→yad ((List.range n).foldl one a).2.2.1
  | 0,_,_,h=>h
  | n+1,a,hn,h=>by
    rw [List.range_succ,List.foldl_append]
    exact ho _ _ (yBz hl ho n a (by omega) h) (by rw [yk3 hl]; exact hn)
theorem yxj {a:dA} (h:yad a.2.2.1):yad (yab a).2.2.1:=yBz ym2 (fun _ _=>yO7) _ a (Nat.le_refl _) h
theorem yBR {a:dA} (h:yad a.2.2.1):yad (yau a).2.2.1 :=
  yxj (yBz (one:=yjw) (fun _ _=>yoQ _ _ _ _) (fun _ _ h hi=>yO1 h (zkO hi)) _ (yik a) (Nat.le_refl _) h)
theorem yFn (a:dA):(yau a).2.2.1.length=a.2.2.1.length:=(yvB _).trans (yk3 (one:=yjw) (fun _ _=>yoQ _ _ _ _) _ (yik a))
theorem yzp (a:dA):(opA a).2.2.2.2.2.2.2.2.2.1=a.2.2.2.2.2.2.2.2.1:=by
  unfold opA
  cases yo a
  · cases (a.2.2.2.2.2.2.2.2.2.1==0)
    · cases ltb 0 a.2.2.2.2.2.2.2.2.2.1<;>rfl
    · rfl
  · rfl
theorem yMK (a:dA) (m n:Int) (s:List Int):(ydT a m n s).2.2.2.2.2.2.2.2.1=a.2.2.2.2.2.2.2.2.1:=by
  unfold ydT
  cases (nth a.2.2.1 m yg).2.2.1
  · cases (opA a).1
    · exact yzp a
    · exact yzp a
  · rfl
theorem yOe (a:dA) (i:Nat):(yao a i).2.2.2.2.2.2.2.2.1=a.2.2.2.2.2.2.2.2.1:=by
  unfold yao
  cases (nth a.2.2.1 i yg).2.2.1
  · cases (opA a).1
    · exact yzp a
    · exact yzp a
  · rfl
theorem yy6 {one:dA→Nat→dA} (h: ∀ a i,(one a i).2.2.2.2.2.2.2.2.1=a.2.2.2.2.2.2.2.2.1): ∀ (l:List Nat) (a:dA),(l.foldl one a).2.2.2.2.2.2.2.2.1=a.2.2.2.2.2.2.2.2.1
  | [],_=>rfl
  | x::l,a=>by rw [List.foldl_cons,yy6 h l,h]
theorem ytA (a:dA):(yab a).2.2.2.2.2.2.2.2.1=a.2.2.2.2.2.2.2.2.1:=yy6 yOe _ _
theorem yzb (a:dA):(yau a).2.2.2.2.2.2.2.2.1=a.2.2.2.2.2.2.2.2.1:=(ytA _).trans (yy6 (one:=yjw) (fun _ _=>yMK _ _ _ _) _ (yik a))
theorem yMr {a x:dA} (ha:ysk a≤2097152) (hl:x.2.2.1.length≤5) (hm:yad x.2.2.1) (hd:x.2.2.2.2.2.2.2.2.1=a.2.2.2.2.2.2.2.2.1):ysk x≤2105000:=by
  have:=yCb hm
  have:x.2.2.1.length * 1041≤5 * 1041:=Nat.mul_le_mul_right _ hl
  unfold ysk at ha ⊢
  rw [hd]
  omega
theorem yOi {a:dA} (h:yv a=true):a.2.2.1.length≤5:=by
  have h1:=yn.1 (yac h)
  have h2:=yrD h
  omega
def ycJ (n:Int):dM:=bif leb 1 n&&leb n 20 then (List.replicate n.toNat [],[],false,[]) else yg
theorem yBS {n:Int} (h1:1≤n) (h2:n≤20):yz (ycJ n)=true:=by
  unfold ycJ
  rw [zk0 h1,zk0 h2]
  refine yq4 ?_ rfl rfl ?_ ?_ (Nat.zero_le _)
  · show (List.replicate n.toNat ([]:List Int)).all yR=true
    rw [List.all_eq_true]
    intro x hx
    rw [(List.mem_replicate.1 hx).2]; rfl
  · show 1≤(List.replicate n.toNat ([]:List Int)).length; rw [List.length_replicate]; omega
  · show (List.replicate n.toNat ([]:List Int)).length≤20; rw [List.length_replicate]; omega
def yaG (a:dA):dA:=(a.1,a.2.1,a.2.2.1.set a.2.2.2.1.toNat (ycJ (6+a.2.1.2)),a.2.2.2.1,0,a.2.2.2.2.2)
def yh0 (a:dA):dA×Int :=
  bif !(yv a) then (a,1) else bif yo a then (a,6) else bif a.2.2.2.1== -1|| !((nth a.2.2.1 a.2.2.2.1 yg).2.2.1) then (a,2) else bif a.2.2.2.2.2.2.2.2.2.2.2 then (a,5) else bif leb 59990 a.2.2.2.2.2.2.2.1 then (a,7)
  else (yau (yaG a),bif yo (yau (yaG a)) then 6 else 0)
theorem yQq {a:dA} (h:yv a=true): -1≤a.2.2.2.1∧a.2.2.2.1≤a.2.1.1 - 1:=by
  simp only [yv,Bool.and_eq_true,zjQ]at h
  exact h.2.2.2.2.1
theorem yQU {a:dA} (h:yv a=true) (h2:a.2.2.2.1≠ -1):inb a.2.2.2.1 a.2.2.1.length=true:=by
  have:=yQq h
  have:=yrD h
  exact zjP.2 (by omega)
theorem yPn {a:dA} (h:yv a=true):yad (yaG a).2.2.1∧(yaG a).2.2.1.length=a.2.2.1.length:=by
  have hg:=yn.1 (yac h)
  exact ⟨yzo (yy1 h) (yBS (by omega) (by omega)),List.length_set⟩
def yju (a:dA):dA:=(a.1,a.2.1,a.2.2.1,a.2.2.2.1,a.2.2.2.2.1,a.2.2.2.2.2.1,a.2.2.2.2.2.1,a.2.2.2.2.2.2.2)
def yC (a:dA):dA:=bif yo (yab a) then yab a else yau (yju (yab a))
theorem yHz {a:dA} (h:yad a.2.2.1):yad (yC a).2.2.1:=by
  unfold yC
  cases yo (yab a)
  · exact yBR (a:=yju (yab a)) (yxj h)
  · exact yxj h
theorem yrH (a:dA):(yC a).2.2.1.length=a.2.2.1.length:=by
  unfold yC
  cases yo (yab a)
  · exact (yFn (yju (yab a))).trans (yvB a)
  · exact yvB a
theorem yrt (a:dA):(yC a).2.2.2.2.2.2.2.2.1=a.2.2.2.2.2.2.2.2.1:=by
  unfold yC
  cases yo (yab a)
  · exact (yzb (yju (yab a))).trans (ytA a)
  · exact ytA a
def yn5 (b:dA):dA:=(b.1,b.2.1,b.2.2.1,-1,0,b.2.2.2.2.2)
def ytW (a:dA):dA×Int:=bif yo (yC a) then (yC a,6) else (yau (yn5 (yC a)),bif yo (yau (yn5 (yC a))) then 6 else 0)
def yBr (a:dA):dA×Int :=
  bif !(yv a) then (a,1) else bif yo a then (a,6) else bif a.2.2.2.1== -1||((nth a.2.2.1 a.2.2.2.1 yg).2.2.1||ltb a.2.2.2.2.1 a.2.1.2) then (a,2) else bif a.2.2.2.2.2.2.2.2.2.2.2 then (a,5) else bif leb 59990 a.2.2.2.2.2.2.2.1 then (a,7) else ytW a
theorem yRm {a:dA} (ha:ysk a≤2097152):ysk (yBr a).1≤2105000:=by
  have h0:ysk a≤2105000:=by omega
  unfold yBr
  cases hk:yv a
  · exact h0
  have h5:=yOi hk
  have hc:=yHz (yy1 hk)
  have hn:=yMr (x:=yau (yn5 (yC a))) ha (by rw [yFn,show (yn5 (yC a)).2.2.1=(yC a).2.2.1 from rfl,yrH]; exact h5) (yBR (a:=yn5 (yC a)) hc) ((yzb _).trans (yrt a))
  have hn2:=yMr (x:=yC a) ha (by rw [yrH]; exact h5) hc (yrt a)
  cases yo a
  · cases (a.2.2.2.1== -1||((nth a.2.2.1 a.2.2.2.1 yg).2.2.1||ltb a.2.2.2.2.1 a.2.1.2))
    · cases a.2.2.2.2.2.2.2.2.2.2.2
      · cases leb 59990 a.2.2.2.2.2.2.2.1
        · show ysk (ytW a).1≤_
          unfold ytW
          cases yo (yC a)
          · exact hn
          · exact hn2
        · exact h0
      · exact h0
    · exact h0
  · exact h0
def yQ9 (id:Int) (g:dG) (i:Int):dS:=(id,0,i,g.1,g.2,0,-1,0)
def yyN (m:dM) (s:Nat):dM:=(m.1.set (s+6) [0],m.2)
def yr7 (id:Int) (g:dG) (i:Int):dM:=((ycJ (6+g.2)).1.set 0 (yav (yQ9 id g i)),(ycJ (6+g.2)).2)
def yE (id:Int) (g:dG) (i:Int):dM:=(List.range g.2.toNat).foldl yyN (yr7 id g i)
def ytV (a:dA) (m:dM):dA:=(a.1,a.2.1,a.2.2.1++ [m],a.2.2.2)
def ytZ (id:Int) (g:dG):dA:=(id,g,[],-1,0,0,0,0,[],-1,false,false)
def ytY (id:Int) (g:dG):dA:=bif yd g&&(leb 1 id&&leb id 60000) then (List.range g.1.toNat).foldl (fun a (i:Nat)=>ytV a (yE id g i)) (ytZ id g) else ylO
theorem yPj (l:List Nat) (m:dM):(l.foldl yyN m).1.length=m.1.length:=by
  induction l generalizing m with
  | nil=>rfl
  | cons x t ih=>rw [List.foldl_cons,ih]; show (m.1.set _ _).length=_; rw [List.length_set]
def yG (a:dA):Int×(Int×Int)×Int×Int×Int×Int×Int×List dW×Bool:=(a.1,a.2.1,a.2.2.2.1,a.2.2.2.2.1,a.2.2.2.2.2.1,a.2.2.2.2.2.2.1,a.2.2.2.2.2.2.2.1,a.2.2.2.2.2.2.2.2.1,a.2.2.2.2.2.2.2.2.2.2.2)
theorem yyU (a:dA):yG (opA a).2=yG a:=by
  unfold opA
  cases yo a
  · cases (a.2.2.2.2.2.2.2.2.2.1==0)
    · cases ltb 0 a.2.2.2.2.2.2.2.2.2.1<;>rfl
    · rfl
  · rfl
theorem yrd (a:dA) (m n:Int) (s:List Int):yG (ydT a m n s)=yG a:=by
  unfold ydT
  cases (nth a.2.2.1 m yg).2.2.1
  · cases (opA a).1
    · exact yyU a
    · exact yyU a
  · rfl
theorem yO6 (a:dA) (i:Nat):yG (yao a i)=yG a:=by
  unfold yao
  cases (nth a.2.2.1 i yg).2.2.1
  · cases (opA a).1
    · exact yyU a
    · exact yyU a
  · rfl
theorem yrT {one:dA→Nat→dA} (h: ∀ a i,yG (one a i)=yG a): ∀ (l:List Nat) (a:dA),yG (l.foldl one a)=yG a
  | [],_=>rfl
  | x::l,a=>by rw [List.foldl_cons,yrT h l,h]
theorem yoR (a:dA):yG (yab a)=yG a:=yrT yO6 _ _
theorem yxa (a:dA):yG (yau a)=yG (yik a):=(yoR _).trans (yrT (one:=yjw) (fun _ _=>yrd _ _ _ _) _ _)
theorem ygy {a b:dA} (h:yG a=yG b):a.2.1=b.2.1:=congrArg (fun x=>x.2.1) h
theorem yy4 {a b:dA} (h:yG a=yG b):a.2.2.2.2.1=b.2.2.2.2.1:=congrArg (fun x=>x.2.2.2.1) h
theorem yHA {a b:dA} (h:yG a=yG b):a.2.2.2.2.2.2.2.2.1=b.2.2.2.2.2.2.2.2.1:=congrArg (fun x=>x.2.2.2.2.2.2.2.1) h
def yaK (d:List dW) (x:dA):Prop:=x.2.2.1.length≤5∧yad x.2.2.1∧x.2.2.2.2.2.2.2.2.1=d
theorem yRR {a:dA} (h:yv a=true):yaK a.2.2.2.2.2.2.2.2.1 a:=⟨yOi h,yy1 h,rfl⟩
theorem yFX {d:List dW} {a:dA} {m n:Int} {s:List Int} (h:yaK d a) (hm:inb m a.2.2.1.length=true):yaK d (ydT a m n s):=⟨by rw [yoQ]; exact h.1,yO1 h.2.1 hm,(yMK _ _ _ _).trans h.2.2⟩
theorem yQb {d:List dW} {a:dA} (h:yaK d a):yaK d (yab a):=⟨by rw [yvB]; exact h.1,yxj h.2.1,(ytA _).trans h.2.2⟩
theorem yMI {d:List dW} {a:dA} (h:yaK d a):yaK d (yau a):=⟨by rw [yFn]; exact h.1,yBR h.2.1,(yzb _).trans h.2.2⟩
theorem yIN {d:List dW} {a:dA} (h:yaK d a):yaK d (yC a):=⟨by rw [yrH]; exact h.1,yHz h.2.1,(yrt _).trans h.2.2⟩
theorem yPN {d:List dW} {x:dA} (h:yaK d x):ysk x≤yQJ d+5205:=by
  have:=yCb h.2.1
  have:x.2.2.1.length * 1041≤5 * 1041:=Nat.mul_le_mul_right _ h.1
  unfold ysk
  rw [h.2.2]
  omega
theorem yRK {a x:dA} (ha:ysk a≤2097152) (h:yaK a.2.2.2.2.2.2.2.2.1 x):ysk x≤2105000:=by
  have:=yPN h
  unfold ysk at ha
  omega
theorem yPM {d:List dW} {a:dA} (h:yaK d a):yaK d (yBr a).1:=by
  have hn:yaK d (yau (yn5 (yC a))):=yMI (a:=yn5 (yC a)) (yIN h)
  unfold yBr
  cases yv a
  · exact h
  cases yo a
  · cases (a.2.2.2.1== -1||((nth a.2.2.1 a.2.2.2.1 yg).2.2.1||ltb a.2.2.2.2.1 a.2.1.2))
    · cases a.2.2.2.2.2.2.2.2.2.2.2
      · cases leb 59990 a.2.2.2.2.2.2.2.1
        · show yaK d (ytW a).1
          unfold ytW
          cases yo (yC a)
          · exact hn
          · exact yIN h
        · exact h
      · exact h
    · exact h
  · exact h
def yQe (b:dA):dA:=(b.1,b.2.1,b.2.2.1,b.2.2.2.1,IntKind.i64.wrap (b.2.2.2.2.1+1),b.2.2.2.2.2)
def yaU (a:dA):dA:=ydT a a.2.2.2.1 (ycH a.2.2.2.2.1) [nth (yH a a.2.2.2.2.1).1 a.2.2.2.1 0]
def yl9 (a:dA):Int×dA:=bif (yH a a.2.2.2.2.1).2 then (bif yo (yaU a) then (6,yaU a) else (0,yQe (yaU a))) else (5,a)
def ydY (a:dA):dA×Int :=
  bif !(yv a) then (a,1) else bif yo a then (a,6) else bif a.2.2.2.1== -1||((nth a.2.2.1 a.2.2.2.1 yg).2.2.1||leb a.2.1.2 a.2.2.2.2.1) then (a,2) else bif a.2.2.2.2.2.2.2.2.2.2.2 then (a,5) else ((yl9 a).2,(yl9 a).1)
def ytx:Nat→dA→dA×Int
  | 0,a=>(a,0)
  | n+1,a=>bif ltb a.2.2.2.2.1 a.2.1.2 then (bif (ydY a).2 !=0 then ydY a else ytx n (ydY a).1) else (a,0)
def yOj (a:dA):dA×Int:=bif (yh0 a).2 !=0 then yh0 a else bif (ytx 8 (yh0 a).1).2 !=0 then ytx 8 (yh0 a).1 else yBr (ytx 8 (yh0 a).1).1
theorem yPV {a:dA} (h:yv a=true):0≤a.2.2.2.2.1∧a.2.2.2.2.1≤a.2.1.2:=by
  simp only [yv,Bool.and_eq_true,zjQ]at h
  exact h.2.2.2.2.2.1
theorem yQa {d:List dW} {a:dA} (h:yaK d a) (hl:inb a.2.2.2.1 a.2.2.1.length=true):yaK d (yl9 a).2:=by
  unfold yl9
  have hp:yaK d (yaU a):=yFX h hl
  cases (yH a a.2.2.2.2.1).2
  · exact h
  · cases yo (yaU a)
    · exact hp
    · exact hp
theorem yyM {d:List dW} {a:dA} (h:yaK d a):yaK d (ydY a).1:=by
  unfold ydY
  cases ha:yv a
  · exact h
  cases yo a
  · cases hl:(a.2.2.2.1== -1)
    · cases ((nth a.2.2.1 a.2.2.2.1 yg).2.2.1||leb a.2.1.2 a.2.2.2.2.1)
      · cases a.2.2.2.2.2.2.2.2.2.2.2
        · exact yQa h (yQU ha (beq_eq_false_iff_ne.1 hl))
        · exact h
      · exact h
    · exact h
  · exact h
theorem yFW {d:List dW}: ∀ {n:Nat} {a:dA},yaK d a→yaK d (ytx n a).1
  | 0,_,h=>h
  | n+1,a,h=>by
    unfold ytx
    cases ltb a.2.2.2.2.1 a.2.1.2
    · exact h
    · cases ((ydY a).2 !=0)
      · exact yFW (yyM h)
      · exact yyM h
theorem yzi {d:List dW} {a:dA} (h:yaK d a):yaK d (yh0 a).1:=by
  unfold yh0
  cases ha:yv a
  · exact h
  have hs:=yPn ha
  cases yo a
  · cases (a.2.2.2.1== -1|| !((nth a.2.2.1 a.2.2.2.1 yg).2.2.1))
    · cases a.2.2.2.2.2.2.2.2.2.2.2
      · cases leb 59990 a.2.2.2.2.2.2.2.1
        · exact yMI (a:=yaG a) ⟨by rw [hs.2]; exact h.1,hs.1,h.2.2⟩
        · exact h
      · exact h
    · exact h
  · exact h
theorem yQ3 {d:List dW} {a:dA} (h:yaK d a):yaK d (yOj a).1:=by
  unfold yOj
  cases ((yh0 a).2 !=0)
  · cases ((ytx 8 (yh0 a).1).2 !=0)
    · exact yPM (yFW (yzi h))
    · exact yFW (yzi h)
  · exact yzi h
theorem yRI {a:dA} (h:(ydY a).2=0):yv a=true∧a.2.2.2.2.1 < a.2.1.2∧(ydY a).1.2.1=a.2.1∧(ydY a).1.2.2.2.2.1=a.2.2.2.2.1+1:=by
  unfold ydY at h ⊢
  cases ha:yv a
  · rw [ha]at h; exact absurd (show (1:Int)=0 from h) (by decide)
  rw [ha]at h
  have hg:=yn.1 (yac ha)
  have hb:=yPV ha
  cases hd:yo a
  · rw [hd]at h
    cases hc:(a.2.2.2.1== -1||((nth a.2.2.1 a.2.2.2.1 yg).2.2.1||leb a.2.1.2 a.2.2.2.2.1))
    · rw [hc]at h
      simp only [Bool.or_eq_false_iff]at hc
      have hS:a.2.2.2.2.1 < a.2.1.2:=by
        rcases Int.lt_or_le a.2.2.2.2.1 a.2.1.2 with h1 | h1
        · exact h1
        · have:=hc.2.2; rw [zk0 h1]at this; cases this
      cases hbr:a.2.2.2.2.2.2.2.2.2.2.2
      · rw [hbr]at h
        simp only [Bool.not_true,cond_false]at h ⊢
        unfold yl9 at h ⊢
        cases hw:(yH a a.2.2.2.2.1).2
        · rw [hw]at h; exact absurd (show (5:Int)=0 from h) (by decide)
        · rw [hw]at h
          cases hp:yo (yaU a)
          · have hc2:=yrd a a.2.2.2.1 (ycH a.2.2.2.2.1) [nth (yH a a.2.2.2.2.1).1 a.2.2.2.1 0]
            refine ⟨trivial,hS,(show (yaU a).2.1=a.2.1 from ygy hc2),?_⟩
            show IntKind.i64.wrap ((yaU a).2.2.2.2.1+1)=_
            rw [show (yaU a).2.2.2.2.1=a.2.2.2.2.1 from yy4 hc2,wr (by omega) (by omega)]
          · rw [hp]at h; exact absurd (show (6:Int)=0 from h) (by decide)
      · rw [hbr]at h; exact absurd (show (5:Int)=0 from h) (by decide)
    · rw [hc]at h; exact absurd (show (2:Int)=0 from h) (by decide)
  · rw [hd]at h; exact absurd (show (6:Int)=0 from h) (by decide)
theorem yRY {n:Nat} {a:dA} (h:ltb a.2.2.2.2.1 a.2.1.2=false):ytx n a=(a,0):=by
  cases n
  · rfl
  · unfold ytx; rw [h]; rfl
theorem yRs {a:dA} (h:(yh0 a).2=0):(yh0 a).1.2.1=a.2.1∧(yh0 a).1.2.2.2.2.1=0∧yd a.2.1=true:=by
  unfold yh0 at h ⊢
  cases ha:yv a
  · rw [ha]at h; exact absurd (show (1:Int)=0 from h) (by decide)
  rw [ha]at h
  cases hd:yo a
  · rw [hd]at h
    cases hc:(a.2.2.2.1== -1|| !((nth a.2.2.1 a.2.2.2.1 yg).2.2.1))
    · rw [hc]at h
      cases hb:a.2.2.2.2.2.2.2.2.2.2.2
      · rw [hb]at h
        cases hg:leb 59990 a.2.2.2.2.2.2.2.1
        · have hm:=yxa (yaG a)
          exact ⟨(show (yau (yaG a)).2.1=(yik (yaG a)).2.1 from ygy hm),(show (yau (yaG a)).2.2.2.2.1=(yik (yaG a)).2.2.2.2.1 from yy4 hm),yac ha⟩
        · rw [hg]at h; exact absurd (show (7:Int)=0 from h) (by decide)
      · rw [hb]at h; exact absurd (show (5:Int)=0 from h) (by decide)
    · rw [hc]at h; exact absurd (show (2:Int)=0 from h) (by decide)
  · rw [hd]at h; exact absurd (show (6:Int)=0 from h) (by decide)
def yu1 (lost:Int) (br:Bool) (S:Int) (i:Nat) (m:dM):Prop:=yz m=true∧(m.1.length:Int)=6+S∧(m.2.2.1=true→(i:Int)=lost∨br=true)
def yCr (lost:Int) (br:Bool) (S:Int) (l:List dM):Prop:= ∀ i,i < l.length→yu1 lost br S i (nth l i yg)
theorem yBT {lost S:Int} {br:Bool} {l:List dM} {i:Nat} {x:dM} (h:yCr lost br S l) (hx:i < l.length→yu1 lost br S i x):yCr lost br S (l.set i x):=fun j hj=>by
  rw [List.length_set]at hj
  by_cases e:j=i
  · subst e
    rw [zjW,zcq (by rw [List.length_set]; exact hj),List.getElem_set_self]; exact hx hj
  · have:=h j hj
    rw [zjW,zcq hj]at this
    rw [zjW,zcq (by rw [List.length_set]; exact hj),List.getElem_set_ne (fun e'=>e e'.symm)]; exact this
theorem yPL {a:dA}:yjc a=true↔yCr a.2.2.2.1 a.2.2.2.2.2.2.2.2.2.2.2 a.2.1.2 a.2.2.1∧(a.2.2.1.length:Int)=a.2.1.1:=by
  constructor
  · intro h
    refine ⟨fun i hi=>yMF h hi,?_⟩
    simp only [yjc,Bool.and_eq_true,beq_iff_eq]at h; exact h.2
  · rintro ⟨h1,h2⟩
    simp only [yjc,Bool.and_eq_true,beq_iff_eq,Bool.not_eq_true',List.any_eq_false,List.mem_range]
    refine ⟨fun i hi=> ?_,h2⟩
    obtain ⟨g1,g2,g3⟩:=h1 i hi
    unfold yeT
    rw [g1,show (((nth a.2.2.1 i yg).1.length:Int) !=6+a.2.1.2)=false from bne_eq_false_iff_eq.2 g2]
    cases hf:(nth a.2.2.1 i yg).2.2.1
    · simp
    · rcases g3 hf with e | e
      · rw [show ((i:Int) !=a.2.2.2.1)=false from bne_eq_false_iff_eq.2 e]; simp
      · rw [e]; simp
def fuz (a:dA):Int:=a.2.2.2.2.2.2.2.2.2.1
def ycz (a:dA):Prop:=(yCr a.2.2.2.1 a.2.2.2.2.2.2.2.2.2.2.2 a.2.1.2 a.2.2.1∧(a.2.2.1.length:Int)=a.2.1.1)∧ -1≤fuz a∧fuz a≤1000
def yup (a:dA):Prop:=yd a.2.1=true∧(1≤a.1∧a.1≤60000)∧yay a.2.1 a.2.2.2.2.2.2.2.2.1=true∧(-1≤a.2.2.2.1∧a.2.2.2.1≤a.2.1.1 - 1)∧(0≤a.2.2.2.2.1∧a.2.2.2.2.1≤a.2.1.2)∧(a.2.2.2.1= -1→a.2.2.2.2.1=0) ∧
  (0≤a.2.2.2.2.2.2.1∧a.2.2.2.2.2.2.1≤60000)∧(a.2.2.2.2.2.2.1≤a.2.2.2.2.2.1∧a.2.2.2.2.2.1≤60000)∧a.2.2.2.2.2.1≤a.2.2.2.2.2.2.1+4∧0≤a.2.2.2.2.2.2.2.1∧a.2.2.2.2.2.2.2.1≤60000
theorem yQM {a:dA}:yv a=true↔yup a∧ycz a:=by
  unfold yv yup ycz fuz
  simp only [Bool.and_eq_true,zjQ,yPL,Bool.not_eq_true',Bool.and_eq_false_iff,beq_eq_false_iff_ne,bne_eq_false_iff_eq]
  constructor
  · rintro ⟨h1,h2,h3,h4,h5,h6,h7,h8,h9,h10,h11,h12⟩
    exact ⟨⟨h1,h2,h4,h5,h6,fun e=>h7.resolve_left (fun g=>g e),h8,h9,h10,h11.1,h11.2⟩,h3,h12⟩
  · rintro ⟨⟨h1,h2,h4,h5,h6,h7,h8,h9,h10,h11,h11'⟩,h3,h12⟩
    exact ⟨h1,h2,h3,h4,h5,h6,(Decidable.em (a.2.2.2.1= -1)).elim (fun e=> .inr (h7 e)) (fun e=> .inl e),h8,h9,h10,⟨h11,h11'⟩,h12⟩
theorem yQN {a b:dA} (h:yG b=yG a) (ha:yup a):yup b:=by
  unfold yG at h
  simp only [Prod.mk.injEq]at h
  obtain ⟨h1,h2,h3,h4,h5,h6,h7,h8,h9⟩:=h
  unfold yup at *
  rw [h1,h2,h3,h4,h5,h6,h7,h8]; exact ha
theorem yQT {a b:dA} (h:yG b=yG a) (hl:b.2.2.1.length=a.2.2.1.length) (hm:yCr a.2.2.2.1 a.2.2.2.2.2.2.2.2.2.2.2 a.2.1.2 b.2.2.1) (hn:(a.2.2.1.length:Int)=a.2.1.1) (hf: -1≤fuz b∧fuz b≤1000):ycz b:=by
  unfold yG at h
  simp only [Prod.mk.injEq]at h
  obtain ⟨h1,h2,h3,h4,h5,h6,h7,h8,h9⟩:=h
  unfold ycz
  rw [h2,h3,h9,hl]; exact ⟨⟨hm,hn⟩,hf⟩
theorem yRa {a:dA} (h: -1≤fuz a∧fuz a≤1000): -1≤fuz (opA a).2∧fuz (opA a).2≤1000:=by
  unfold opA
  cases yo a
  · cases h0:(a.2.2.2.2.2.2.2.2.2.1==0)
    · cases h1:ltb 0 a.2.2.2.2.2.2.2.2.2.1
      · exact h
      · have:=zjT.1 h1
        unfold fuz at h
        show -1≤IntKind.i64.wrap (a.2.2.2.2.2.2.2.2.2.1 - 1)∧IntKind.i64.wrap (a.2.2.2.2.2.2.2.2.2.1 - 1)≤1000
        rw [wr (by omega) (by omega)]; omega
    · show -1≤(-1:Int)∧(-1:Int)≤1000; omega
  · exact h
theorem yCq {a:dA} (h:ycz a):ycz (opA a).2:=yQT (yyU a) (by rw [ybv]) (by rw [ybv]; exact h.1.1) h.1.2 (yRa h.2)
theorem yxl {a:dA} {m:Int} {x:dM} (h:ycz a) (hm:inb m a.2.2.1.length=true) (hx:yu1 a.2.2.2.1 a.2.2.2.2.2.2.2.2.2.2.2 a.2.1.2 m.toNat (nth a.2.2.1 m yg)→yu1 a.2.2.2.1 a.2.2.2.2.2.2.2.2.2.2.2 a.2.1.2 m.toNat x):ycz (yqv a m x):=by
  have hm:=zjP.1 hm
  refine ⟨⟨yBT h.1.1 (fun hi=>hx ?_),by show ((a.2.2.1.set m.toNat x).length:Int)=_; rw [List.length_set]; exact h.1.2⟩,h.2⟩
  have:=h.1.1 m.toNat hi
  rwa [Int.toNat_of_nonneg hm.1]at this
theorem yPK {lost S:Int} {br:Bool} {i:Nat} {m:dM} (n:Int) (s:List Int) (h:yu1 lost br S i m):yu1 lost br S i (ygG m n s).1 :=
  ⟨yGM n s h.1,by rw [(yMP m n s).1]; exact h.2.1,by rw [(yMP m n s).2]; exact h.2.2⟩
theorem yPJ {lost S:Int} {br:Bool} {i:Nat} {m:dM} (h:yu1 lost br S i m):yu1 lost br S i (ygz m) :=
  ⟨yEv h.1,by rw [(yMB m).1]; exact h.2.1,by rw [(yMB m).2]; exact h.2.2⟩
theorem yy9 {a:dA} {m n:Int} {s:List Int} (h:ycz a) (hm:inb m a.2.2.1.length=true):ycz (ydT a m n s):=by
  unfold ydT
  cases (nth a.2.2.1 m yg).2.2.1
  · cases (opA a).1
    · exact yCq h
    · exact yxl (yCq h) (by rw [ybv]; exact hm) (fun g=>by rw [ybv]at g; exact yPK _ _ g)
  · exact h
theorem yOT {a:dA} {i:Nat} (h:ycz a) (hi:i < a.2.2.1.length):ycz (yao a i):=by
  unfold yao
  cases (nth a.2.2.1 i yg).2.2.1
  · cases (opA a).1
    · exact yCq h
    · exact yxl (yCq h) (by rw [ybv]; exact zkO hi) (fun g=>by rw [ybv]at g; exact yPJ g)
  · exact h
theorem yij {P:dA→Prop} {one:dA→Nat→dA} (hl: ∀ a i,(one a i).2.2.1.length=a.2.2.1.length) (ho: ∀ a i,P a→i < a.2.2.1.length→P (one a i)): ∀ (n:Nat) (a:dA),n≤a.2.2.1.length→P a→P ((List.range n).foldl one a)
  | 0,_,_,h=>h
  | n+1,a,hn,h=>by
    rw [List.range_succ,List.foldl_append]
    exact ho _ _ (yij hl ho n a (by omega) h) (by rw [yk3 hl]; exact hn)
theorem yr3 {a:dA} (h:ycz a):ycz (yab a):=yij (P:=ycz) (one:=yao) ym2 (fun _ _=>yOT) _ a (Nat.le_refl _) h
theorem yME {a:dA} (h:ycz a):ycz (yau a) :=
  yr3 (yij (P:=ycz) (one:=yjw) (fun _ _=>yoQ _ _ _ _) (fun _ _ h hi=>yy9 h (zkO hi)) _ (yik a) (Nat.le_refl _) h)
theorem yRq {a:dA} (h:ycz a):ycz (yC a):=by
  unfold yC
  cases yo (yab a)
  · exact yME (a:=yju (yab a)) (yr3 h)
  · exact yr3 h
def yei (a:dA):Prop:=yo a=false∧fuz a= -1
theorem yPy {a:dA} (h:yei a):opA a=(true,a):=by
  unfold opA
  rw [h.1,show a.2.2.2.2.2.2.2.2.2.1= -1 from h.2]; rfl
theorem yy8 {a:dA} (h:yei a) (m n:Int) (s:List Int):yei (ydT a m n s):=by
  unfold ydT
  rw [yPy h]
  cases (nth a.2.2.1 m yg).2.2.1<;>exact h
theorem yOR {a:dA} (h:yei a) (i:Nat):yei (yao a i):=by
  unfold yao
  rw [yPy h]
  cases (nth a.2.2.1 i yg).2.2.1<;>exact h
theorem yrU {a:dA} (h:yei a):yei (yab a):=yij (P:=yei) (one:=yao) ym2 (fun _ i h _=>yOR h i) _ a (Nat.le_refl _) h
theorem yMC {a:dA} (h:yei a):yei (yau a) :=
  yrU (yij (P:=yei) (one:=yjw) (fun _ _=>yoQ _ _ _ _) (fun _ _ h _=>yy8 h _ _ _) _ (yik a) (Nat.le_refl _) h)
theorem yy2 {a:dA} (h:yei a):yC a=yau (yju (yab a)):=by
  unfold yC
  rw [(yrU h).1]; rfl
theorem yRp {a:dA} (h:yei a):yei (yC a):=by
  rw [yy2 h]; exact yMC (a:=yju (yab a)) (yrU h)
def Wk (k:Int) (a:dA):Prop:=yup a∧ycz a∧yei a∧a.2.2.2.2.2.2.2.2.2.2.2=false∧a.2.2.2.2.2.2.2.1≤k
theorem yQh {k:Int} {a:dA} (h:Wk k a):yv a=true:=yQM.2 ⟨h.1,h.2.1⟩
theorem yP {k j:Int} {a:dA} (h:Wk k a) (hj:k≤j):Wk j a:=⟨h.1,h.2.1,h.2.2.1,h.2.2.2.1,Int.le_trans h.2.2.2.2 hj⟩
theorem ytC {k:Int} {a b:dA} (hc:yG b=yG a) (hk:ycz b) (hf:yei b) (h:Wk k a):Wk k b:=by
  refine ⟨yQN hc h.1,hk,hf,?_⟩
  unfold yG at hc
  simp only [Prod.mk.injEq]at hc
  obtain ⟨_,_,_,_,_,_,h7,_,h9⟩:=hc
  rw [h7,h9]; exact h.2.2.2
theorem yRj {k:Int} {a:dA} {m n:Int} {s:List Int} (h:Wk k a) (hm:inb m a.2.2.1.length=true):Wk k (ydT a m n s):=ytC (yrd _ _ _ _) (yy9 h.2.1 hm) (yy8 h.2.2.1 _ _ _) h
theorem yQ0 {k:Int} {a:dA} (h:Wk k a):Wk k (yab a):=ytC (yoR _) (yr3 h.2.1) (yrU h.2.2.1) h
theorem yQB {k:Int} {a:dA} (h:Wk k a) (hk:k+1≤60000):Wk (k+1) (yik a):=by
  obtain ⟨⟨c1,c2,c3,c4,c5,c6,c7,c8,c9,c10,c11⟩,h2,h3,h4,h5⟩:=h
  have e:IntKind.i64.wrap (a.2.2.2.2.2.2.2.1+1)=a.2.2.2.2.2.2.2.1+1:=wr (by omega) (by omega)
  refine ⟨⟨c1,c2,c3,c4,c5,c6,c7,c8,c9,?_,?_⟩,h2,h3,h4,?_⟩
  · show 0≤IntKind.i64.wrap (a.2.2.2.2.2.2.2.1+1); omega
  · show IntKind.i64.wrap (a.2.2.2.2.2.2.2.1+1)≤_; omega
  · show IntKind.i64.wrap (a.2.2.2.2.2.2.2.1+1)≤_; omega
theorem yMq {k:Int} {a:dA} (h:Wk k a) (hk:k+1≤60000):Wk (k+1) (yau a):=ytC (yxa _) (yME h.2.1) (yMC h.2.2.1) (yQB h hk)
theorem yQj {k:Int} {a:dA} (h:Wk k a):Wk k (yju a):=by
  obtain ⟨⟨c1,c2,c3,c4,c5,c6,c7,c8,c9,c10,c11⟩,h2,h3,h4,h5⟩:=h
  refine ⟨⟨c1,c2,c3,c4,c5,c6,⟨?_,?_⟩,⟨Int.le_refl _,c8.2⟩,?_,c10,c11⟩,h2,h3,h4,h5⟩
  · show 0≤a.2.2.2.2.2.1; omega
  · show a.2.2.2.2.2.1≤60000; omega
  · show a.2.2.2.2.2.1≤a.2.2.2.2.2.1+4; omega
theorem yPb {k:Int} {a:dA} (h:Wk k a) (hk:k+1≤60000):Wk (k+1) (yC a):=by
  rw [yy2 h.2.2.1]; exact yMq (yQj (yQ0 h)) hk
theorem yQi {k:Int} {a:dA} {m:Int} {x:dM} (h:Wk k a) (hm:inb m a.2.2.1.length=true) (hx:yu1 a.2.2.2.1 a.2.2.2.2.2.2.2.2.2.2.2 a.2.1.2 m.toNat (nth a.2.2.1 m yg)→yu1 a.2.2.2.1 a.2.2.2.2.2.2.2.2.2.2.2 a.2.1.2 m.toNat x):Wk k (yqv a m x) :=
  ytC (a:=a) (b:=yqv a m x) rfl (yxl h.2.1 hm hx) h.2.2.1 h
theorem yQY {k m:Int} {a:dA} (h:Wk k a) (hl:a.2.2.2.1= -1) (hm:inb m a.2.2.1.length=true) (hk:k+1≤60000):Wk (k+1) (yyF a m):=by
  have hmi:=zjP.1 hm
  have hw:Wk k (yy5 a m):=by
    obtain ⟨⟨c1,c2,c3,c4,c5,c6,c7,c8,c9,c10,c11⟩,⟨⟨g1,g2⟩,g3⟩,f,b,t⟩:=h
    refine ⟨⟨c1,c2,c3,⟨?_,?_⟩,⟨Int.le_refl _,by show (0:Int)≤a.2.1.2; omega⟩,fun e=>rfl,c7,c8,c9,c10,c11⟩,⟨⟨?_,?_⟩,g3⟩,f,b,t⟩
    · show -1≤m; omega
    · show m≤a.2.1.1 - 1; omega
    · show yCr m a.2.2.2.2.2.2.2.2.2.2.2 a.2.1.2 (a.2.2.1.set m.toNat (ytB (nth a.2.2.1 m yg)))
      refine yBT (fun i hi=> ?_) (fun hi=> ?_)
      · obtain ⟨e1,e2,e3⟩:=g1 i hi
        refine ⟨e1,e2,fun e=> ?_⟩
        rcases e3 e with e | e
        · omega
        · exact .inr e
      · have:=g1 m.toNat hi
        rw [Int.toNat_of_nonneg hmi.1]at this
        exact ⟨yQQ this.1,this.2.1,fun _=> .inl (Int.toNat_of_nonneg hmi.1)⟩
    · show ((a.2.2.1.set m.toNat (ytB (nth a.2.2.1 m yg))).length:Int)=a.2.1.1
      rw [List.length_set]; exact g2
  unfold yyF
  rw [show (a.2.2.2.1== -1)=true from beq_iff_eq.2 hl,h.2.2.1.1,h.2.2.2.1]
  cases ltb a.2.2.2.2.2.2.2.1 60000
  · exact yP hw (by omega)
  · exact yMq hw hk
theorem yQD {k:Int} {a:dA} (h:Wk k a) (hl:inb a.2.2.2.1 a.2.2.1.length=true) (hk:k+1≤60000):Wk (k+1) (yau (yaG a)):=by
  have hmi:=zjP.1 hl
  refine yMq ?_ hk
  obtain ⟨⟨c1,c2,c3,c4,c5,c6,c7,c8,c9,c10,c11⟩,⟨⟨g1,g2⟩,g3⟩,f,b,t⟩:=h
  have hg:=yn.1 c1
  refine ⟨⟨c1,c2,c3,c4,⟨Int.le_refl _,by show (0:Int)≤a.2.1.2; omega⟩,fun e=>rfl,c7,c8,c9,c10,c11⟩,⟨⟨yBT g1 (fun hi=>⟨yBS (by omega) (by omega),?_,fun e=> ?_⟩),?_⟩,g3⟩,f,b,t⟩
  · unfold ycJ
    rw [zk0 (show 1≤6+a.2.1.2 by omega),zk0 (show 6+a.2.1.2≤20 by omega)]
    show ((List.replicate (6+a.2.1.2).toNat ([]:List Int)).length:Int)=6+a.2.1.2
    rw [List.length_replicate]; omega
  · unfold ycJ at e
    rw [zk0 (show 1≤6+a.2.1.2 by omega),zk0 (show 6+a.2.1.2≤20 by omega)] at e
    cases e
  · show ((a.2.2.1.set a.2.2.2.1.toNat (ycJ (6+a.2.1.2))).length:Int)=a.2.1.1
    rw [List.length_set]; exact g2
theorem yQZ {k:Int} {a:dA} (h:Wk k a) (hl:inb a.2.2.2.1 a.2.2.1.length=true) (hb:a.2.2.2.2.1 < a.2.1.2):Wk k (yl9 a).2:=by
  have hp:Wk k (yaU a):=yRj h hl
  have e:=yrd a a.2.2.2.1 (ycH a.2.2.2.2.1) [nth (yH a a.2.2.2.2.1).1 a.2.2.2.1 0]
  have e1:(yaU a).2.2.2.2.1=a.2.2.2.2.1:=yy4 e
  have e2:(yaU a).2.1=a.2.1:=ygy e
  have e3:(yaU a).2.2.2.1=a.2.2.2.1:=congrArg (fun x=>x.2.2.1) e
  unfold yl9
  cases (yH a a.2.2.2.2.1).2
  · exact h
  · generalize yaU a=R at hp e1 e2 e3 ⊢
    rw [hp.2.2.1.1]
    have hmi:=zjP.1 hl
    obtain ⟨⟨c1,c2,c3,c4,c5,c6,c7,c8,c9,c10,c11⟩,g2,g3,g4,g5⟩:=hp
    have hg:=yn.1 c1
    have e4:IntKind.i64.wrap (R.2.2.2.2.1+1)=R.2.2.2.2.1+1:=wr (by omega) (by omega)
    refine ⟨⟨c1,c2,c3,c4,⟨?_,?_⟩,fun e=> ?_,c7,c8,c9,c10,c11⟩,g2,g3,g4,g5⟩
    · show 0≤IntKind.i64.wrap (R.2.2.2.2.1+1); omega
    · show IntKind.i64.wrap (R.2.2.2.2.1+1)≤R.2.1.2; rw [e4,e1,e2]; omega
    · have:R.2.2.2.1= -1:=e
      omega
theorem yO3 (s:dS):yR (yav s)=true:=by
  unfold yav
  cases h:yd7 s
  · rfl
  · unfold yd7 at h
    simp only [yaL]at h
    cases hg:yd (s.2.2.2.1,s.2.2.2.2.1)
    · rw [hg]at h; cases h
    have hge:=yn.1 hg
    simp only at hge
    rw [hg,wr (show -9223372036854775808≤s.2.2.2.1 - 1 by omega) (by omega)] at h
    cases h2:(leb 1 s.1&&leb s.1 60000)
    · rw [h2]at h; cases h
    cases h3:(leb 0 s.2.1&&leb s.2.1 60000)
    · rw [h2,h3]at h; cases h
    cases h4:(leb 0 s.2.2.1&&leb s.2.2.1 (s.2.2.2.1 - 1))
    · rw [h2,h3,h4]at h; cases h
    cases h5:(leb 0 s.2.2.2.2.2.1&&leb s.2.2.2.2.2.1 60000)
    · rw [h2,h3,h4,h5]at h; cases h
    cases h6:(leb (-1) s.2.2.2.2.2.2.1&&leb s.2.2.2.2.2.2.1 (s.2.2.2.1 - 1))
    · rw [h2,h3,h4,h5,h6]at h; cases h
    cases h7:(leb 0 s.2.2.2.2.2.2.2&&leb s.2.2.2.2.2.2.2 s.2.2.2.2.1)
    · rw [h2,h3,h4,h5,h6,h7]at h; cases h
    simp only [Bool.and_eq_true,zjQ]at h2 h3 h4 h5 h6 h7
    rw [yr9]
    refine ⟨by show (9:Nat)≤12; omega,?_⟩
    have hw:IntKind.i64.wrap (s.2.2.2.2.2.2.1+1)=s.2.2.2.2.2.2.1+1:=wr (by omega) (by omega)
    simp only [Bool.not_true,cond_false,hw,List.mem_cons,List.not_mem_nil,or_false]
    rintro x (rfl | rfl | rfl | rfl | rfl | rfl | rfl | rfl | rfl)<;>omega
theorem yPO {g:dG} (id i:Int) (hg:yd g=true):yz (yE id g i)=true∧((yE id g i).1.length:Int)=6+g.2∧(yE id g i).2=([],false,[]):=by
  have hge:=yn.1 hg
  have hm:ycJ (6+g.2)=(List.replicate (6+g.2).toNat [],[],false,[]):=by
    unfold ycJ
    rw [zk0 (show 1≤6+g.2 by omega),zk0 (show 6+g.2≤20 by omega)]; rfl
  have key: ∀ (l:List Nat) (m:dM),m.1.all yR=true∧m.2=([],false,[])→(l.foldl yyN m).1.all yR=true∧(l.foldl yyN m).2=([],false,[]):=by
    intro l
    induction l with
    | nil=>intro m h; exact h
    | cons x t ih =>
      intro m h
      refine ih _ ⟨?_,h.2⟩
      rw [List.all_eq_true]
      intro y hy
      rcases List.mem_or_eq_of_mem_set hy with h1 | rfl
      · exact List.all_eq_true.1 h.1 y h1
      · rfl
  have ht:(yr7 id g i).1.all yR=true∧(yr7 id g i).2=([],false,[]):=by
    unfold yr7
    rw [hm]
    refine ⟨?_,rfl⟩
    rw [List.all_eq_true]
    intro y hy
    rcases List.mem_or_eq_of_mem_set hy with h1 | rfl
    · rw [List.eq_of_mem_replicate h1]; rfl
    · exact yO3 _
  have hl:((yE id g i).1.length:Int)=6+g.2:=by
    unfold yE
    rw [yPj]
    unfold yr7
    rw [hm]
    show (((List.replicate (6+g.2).toNat ([]:List Int)).set 0 _).length:Int)=_
    rw [List.length_set,List.length_replicate]; omega
  obtain ⟨h1,h2⟩:=key (List.range g.2.toNat) _ ht
  refine ⟨yq4 h1 ?_ ?_ ?_ ?_ ?_,hl,h2⟩
  · show List.all ((yE id g i).2).1 _=true
    rw [show (yE id g i).2=([],false,[]) from h2]; rfl
  · show ylI _ ((yE id g i).2).2.2=true
    rw [show (yE id g i).2=([],false,[]) from h2,yh1]
    exact ⟨fun x hx=>absurd hx List.not_mem_nil,List.Pairwise.nil⟩
  · show 1≤(yE id g i).1.length; omega
  · show (yE id g i).1.length≤20; omega
  · show ((yE id g i).2).1.length≤60
    rw [show (yE id g i).2=([],false,[]) from h2]; exact Nat.zero_le _
theorem yPU {id:Int} {g:dG} (hg:yd g=true) (h1:1≤id) (h2:id≤60000):ytY id g=(id,g,(List.range g.1.toNat).map (fun (i:Nat)=>yE id g i),-1,0,0,0,0,[],-1,false,false):=by
  unfold ytY
  rw [hg,zk0 h1,zk0 h2]
  have: ∀ (n:Nat),(List.range n).foldl (fun a (i:Nat)=>ytV a (yE id g i)) (ytZ id g)=(id,g,(List.range n).map (fun (i:Nat)=>yE id g i),-1,0,0,0,0,[],-1,false,false):=by
    intro n
    induction n with
    | zero=>rfl
    | succ n ih=>rw [List.range_succ,List.foldl_append,ih,List.map_append]; rfl
  exact this _
theorem yRi {id:Int} {g:dG} (hg:yd g=true) (h1:1≤id) (h2:id≤60000):Wk 0 (ytY id g):=by
  have hge:=yn.1 hg
  rw [yPU hg h1 h2]
  have hl:((List.range g.1.toNat).map (fun (i:Nat)=>yE id g i)).length=g.1.toNat:=by rw [List.length_map,List.length_range]
  refine ⟨⟨hg,⟨h1,h2⟩,?_,⟨Int.le_refl _,?_⟩,⟨Int.le_refl _,?_⟩,fun _=>rfl,?_,?_,?_,?_,?_⟩,⟨⟨fun i hi=> ?_,?_⟩,?_,?_⟩,⟨rfl,rfl⟩,rfl,Int.le_refl _⟩
  · rfl
  · show (-1:Int)≤g.1 - 1; omega
  · show (0:Int)≤g.2; omega
  · show (0:Int)≤0∧(0:Int)≤60000; omega
  · show (0:Int)≤0∧(0:Int)≤60000; omega
  · show (0:Int)≤0+4; omega
  · show (0:Int)≤0; omega
  · show (0:Int)≤60000; omega
  · have hi':i < ((List.range g.1.toNat).map (fun (i:Nat)=>yE id g i)).length:=hi
    show yu1 (-1) false g.2 i (nth ((List.range g.1.toNat).map (fun (i:Nat)=>yE id g i)) i yg)
    rw [zjW,zcq hi',List.getElem_map,List.getElem_range]
    obtain ⟨k1,k2,k3⟩:=yPO id i hg
    refine ⟨k1,k2,fun e=> ?_⟩
    rw [show (yE id g i).2=([],false,[]) from k3]at e
    cases e
  · show (((List.range g.1.toNat).map (fun (i:Nat)=>yE id g i)).length:Int)=g.1
    rw [hl]; omega
  · show (-1:Int)≤ -1; omega
  · show (-1:Int)≤1000; omega
theorem yQE {k m n:Int} {a:dA} (h:Wk k a) (hm:inb m a.2.2.1.length=true):Wk k (yqv a m (yrv (nth a.2.2.1 m yg) n)) :=
  yQi h hm (fun g=>⟨yO5 n g.1,by rw [(yML _ _).1]; exact g.2.1,by rw [(yML _ _).2]; exact g.2.2⟩)
end
section
def yiH:Code:=(Tryz.f190.body).getD .skip
def ym6:Env:=zki TT [(115,yq)] [(28864,.fz),(28928,.fz)]
theorem yET:FrOk Tryz.prog ⟨ym6,22,fun _=>none⟩ yiH:=zkp ye yf ⟨yu,trivial⟩
def yvW:Nat→Option Seg:=fun _=>none
def yba:Shape:=⟨[(0,false,[.int .i64]),(2,false,[.ptr 0 0]),(3,false,[.ptr 12352 0]),(4,false,[.int .i64])],[(0,[.nil,.nil,.bool,.nil]),(12352,[.at 800000000,.nil,.bool,.nil])],[(800000000,tL,.fz)]⟩
def yeG:Shape:=⟨[(0,false,[.int .i64]),(2,false,[.ptr 0 0]),(3,false,[.ptr 12352 0]),(4,false,[.ci .i64 0])],[(0,[.nil,.nil,.bool,.nil]),(12352,[.at 800000000,.nil,.bool,.nil])],[(800000000,tL,.fz)]⟩
def yet:Shape:=⟨[(2,false,[.ptr 0 0]),(3,false,[.ptr 12352 0])],[(0,[.nil,.nil,.bool,.nil]),(12352,[.at 800000000,.nil,.bool,.nil])],[(800000000,tL,.fz)]⟩
def yia:Shape:=⟨[],[],[]⟩
abbrev yms (v0:Int) (v1:Int) (v2:dM) (v3:dM):(yba).X:=(((v0,()),((),()),((),()),(v1,()),()),(((),(),v2.2.2.1,(),()),((),(),v3.2.2.1,(),()),()),(v3.1,()))
abbrev yDk (v0:Int) (v1:dM) (v2:dM):(yeG).X:=(((v0,()),((),()),((),()),((),()),()),(((),(),v1.2.2.1,(),()),((),(),v2.2.2.1,(),()),()),(v2.1,()))
abbrev yDb (v0:dM) (v1:dM):(yet).X:=((((),()),((),()),()),(((),(),v0.2.2.1,(),()),((),(),v1.2.2.1,(),()),()),(v1.1,()))
def ymG (v0:Int) (v1:Int) (v2:Bool) (v3:Bool) (v4:List (List Int)):Option ((yba).X ⊕ ((yet).X ⊕ (yia).X)) :=
  bif (ltb v1 v0) then
    bif (zj4 v4.length ([([]:List Int)]:List (List Int)).length 24) then
      some (.inl (((v0,()),((),()),((),()),((IntKind.i64.wrap (v1+1)),()),()),(((),(),v2,(),()),((),(),v3,(),()),()),((v4++([([]:List Int)]:List (List Int))),())))
    else none
  else
    some (.inr (.inl ((((),()),((),()),()),(((),(),v2,(),()),((),(),v3,(),()),()),(v4,()))))
def ybE (x:(yba).X):=ymG x.1.1.1 x.1.2.2.2.1.1 x.2.1.1.2.2.1 x.2.1.2.1.2.2.1 x.2.2.1
def ysS (x:(yeG).X):(yba).X:=(((x.1.1.1,()),((),()),((),()),(0,()),()),(((),(),x.2.1.1.2.2.1,(),()),((),(),x.2.1.2.1.2.2.1,(),()),()),(x.2.2.1,()))
def yt5:Code:=(zdI yiH 64 244).getD .skip
theorem yEg:zdI yiH 64 61=some (.block 0 (.loop yt5)):=by kernel_rfl
theorem yGD (x:(yba).X):zg7 ⟨ym6,22,yvW⟩ 0 yt5 244 yba yet yia x=ybE x:=by kernel_rfl
def ys5 (x:(yeG).X):Nat:=(fun (u0:Int) (u1:Bool) (u2:Bool) (u3:List (List Int))=>18446744073709551616) x.1.1.1 x.2.1.1.2.2.1 x.2.1.2.1.2.2.1 x.2.2.1
def ynX (x:(yeG).X):Option ((yet).X ⊕ (yia).X):=zr ybE (ys5 x) (ysS x)
def ytn:Seg:=⟨yeG,yet,yia,ynX⟩
def yvX:Nat→Option Seg:=fun q=>bif Nat.beq q 61 then some ytn else yvW q
theorem yEU:FrOk Tryz.prog ⟨ym6,22,yvX⟩ yiH:=(yET).loop (sg:=ytn) yba ysS (by decide) yEg ybE ys5 (by decide) (fun _=>rfl) (fun x r _ h=>h) yGD
abbrev yfi:List Par:= [.rd tI]
abbrev ynv:List OT:= [⟨false,tM,(.pr (.ow .fz) (.pr (.ow (.pr .fz .fz)) (.pr .fz (.ow .fz))))⟩]
def ykn (a0:Int):Option (ResD ynv×MutD yfi) :=
  let r1:=yb a0 1 20
  bif (!r1) then
    some ((([],[],false,[]),()),())
  else
    zjw (ynX (((a0,()),((),()),((),()),((),()),()),(((),(),false,(),()),((),(),false,(),()),()),([],()))) (fun y1 =>
      some (((y1.2.2.1,[],y1.2.1.2.1.2.2.1,[]),()),())) (fun y1 =>
      none)
theorem yNa (x:InD yfi):zjH ⟨ym6,22,yvX⟩ Tryz.f190.results.toList yiH yfi ynv x=ykn x.1:=by kernel_rfl
theorem yJm:ConOk Tryz.prog 190 ⟨yfi,ynv,fun x=>ykn x.1⟩:=zkh (yEU) Tryz.func190 (by kernel_rfl) (by kernel_rfl) Tryz.ntmps190.symm (by decide) (fun x r h=>(yNa x).trans h)
def yaJ (a0:Int):dM:=ycJ a0
theorem yLf (a0:Int) (hk:zi9 yfi (a0,())):ykn a0=(fun n=>some ((n,()),())) (yaJ a0):=by
  unfold ykn yaJ ycJ
  simp only [yaL]
  cases hc:(leb 1 a0&&leb a0 20)
  · rfl
  · rw [Bool.and_eq_true,zjQ,zjQ]at hc
    have h1:ynX (yDk a0 yg yg)=some (.inl (yDb yg (List.replicate a0.toNat [],[],false,[]))) :=
      zjs (step:=ybE) (fun i=>yms a0 i yg (List.replicate i [],[],false,[])) a0.toNat _ (fun i hi=>by
        simp only [ybE,yms,ymG,zjI (show (i:Int) < a0 by omega),cond_true,wr (show -9223372036854775808≤(i:Int)+1 by omega) (by omega),Int.natCast_add,Int.natCast_one,Int.toNat_natCast]
        rw [zkw.2 (show ((List.replicate i ([]:List Int)).length+([[]]:List (List Int)).length) * 24≤140737488355328 by simp only [List.length_cons,List.length_nil,List.length_replicate]; omega),← List.replicate_succ']; rfl) (by simp only [ybE,yms,ymG,zkm (show a0≤(a0.toNat:Int) by omega),cond_false]) _ (by show _ < 18446744073709551616; omega)
    rw [h1]; rfl
def yj5:Con:=⟨yfi,ynv,fun x=>(fun n=>some ((n,()),())) (yaJ x.1)⟩
theorem yq7:ConOk Tryz.prog 190 yj5:=(yJm).mono (fun x r hk h=>(yLf x.1 hk).trans h)
end
section
def yct:Code:=(Tryz.f86.body).getD .skip
def ye7:Env:=zki TT [(115,yq),(121,yb3),(187,yd4),(190,yj5),(191,yj6),(192,yml)] [(53440,(.pr (.ow .fz) (.pr (.ow (.pr .fz .fz)) (.pr .fz (.ow .fz))))),(53504,(.pr (.ow .fz) (.pr (.ow (.pr .fz .fz)) (.pr .fz (.ow .fz)))))]
theorem yEJ:FrOk Tryz.prog ⟨ye7,60,fun _=>none⟩ yct:=zkp ye yf ⟨yu,yea,yjq,yq7,yq8,yvb,trivial⟩
def yvS:Nat→Option Seg:=fun _=>none
def yap:Shape:=⟨[(0,false,[.int .i64]),(3,false,[.ptr 0 0]),(4,false,[.ptr 64 0]),(5,false,[.ptr 12480 0]),(6,false,[.int .i64]),(7,false,[.ptr 28864 0]),(8,false,[.int .i64])],[(0,[.int .i64,.int .i64]),(64,[.int .i64,.int .i64,.int .i64,.nil,.int .i64,.int .i64,.int .i64,.int .i64,.int .i64,.nil,.int .i64,.bool,.bool]),(12480,[.int .i64,.int .i64,.int .i64,.at 800000000,.int .i64,.int .i64,.int .i64,.int .i64,.int .i64,.nil,.int .i64,.bool,.bool]),(28864,[.at 800000001,.at 800000002,.bool,.at 800000003])],[(800000000,tM,(.pr (.ow .fz) (.pr (.ow (.pr .fz .fz)) (.pr .fz (.ow .fz))))),(800000001,tL,.fz),(800000002,tW,(.pr .fz .fz)),(800000003,tI,.fz)]⟩
def ycE:Shape:=⟨[(0,false,[.int .i64]),(3,false,[.ptr 0 0]),(4,false,[.ptr 64 0]),(5,false,[.ptr 12480 0]),(6,false,[.int .i64]),(7,false,[.ptr 28864 0]),(8,false,[.ci .i64 0])],[(0,[.int .i64,.int .i64]),(64,[.int .i64,.int .i64,.int .i64,.nil,.int .i64,.int .i64,.int .i64,.int .i64,.int .i64,.nil,.int .i64,.bool,.bool]),(12480,[.int .i64,.int .i64,.int .i64,.at 800000000,.int .i64,.int .i64,.int .i64,.int .i64,.int .i64,.nil,.int .i64,.bool,.bool]),(28864,[.at 800000001,.at 800000002,.bool,.at 800000003])],[(800000000,tM,(.pr (.ow .fz) (.pr (.ow (.pr .fz .fz)) (.pr .fz (.ow .fz))))),(800000001,tL,.fz),(800000002,tW,(.pr .fz .fz)),(800000003,tI,.fz)]⟩
def ycB:Shape:=⟨[(0,false,[.int .i64]),(3,false,[.ptr 0 0]),(4,false,[.ptr 64 0]),(5,false,[.ptr 12480 0]),(6,false,[.int .i64]),(7,false,[.ptr 28864 0])],[(0,[.int .i64,.int .i64]),(64,[.int .i64,.int .i64,.int .i64,.nil,.int .i64,.int .i64,.int .i64,.int .i64,.int .i64,.nil,.int .i64,.bool,.bool]),(12480,[.int .i64,.int .i64,.int .i64,.at 800000000,.int .i64,.int .i64,.int .i64,.int .i64,.int .i64,.nil,.int .i64,.bool,.bool]),(28864,[.at 800000001,.at 800000002,.bool,.at 800000003])],[(800000000,tM,(.pr (.ow .fz) (.pr (.ow (.pr .fz .fz)) (.pr .fz (.ow .fz))))),(800000001,tL,.fz),(800000002,tW,(.pr .fz .fz)),(800000003,tI,.fz)]⟩
def ye1:Shape:=⟨[],[],[]⟩
abbrev yil (v0:Int) (v1:Int) (v2:Int) (v3:dG) (v4:dA) (v5:dA) (v6:dM):(yap).X:=(((v0,()),((),()),((),()),((),()),(v1,()),((),()),(v2,()),()),((v3.1,v3.2,()),(v4.1,v4.2.1.1,v4.2.1.2,(),v4.2.2.2.1,v4.2.2.2.2.1,v4.2.2.2.2.2.1,v4.2.2.2.2.2.2.1,v4.2.2.2.2.2.2.2.1,(),v4.2.2.2.2.2.2.2.2.2.1,v4.2.2.2.2.2.2.2.2.2.2.1,v4.2.2.2.2.2.2.2.2.2.2.2,()),(v5.1,v5.2.1.1,v5.2.1.2,(),v5.2.2.2.1,v5.2.2.2.2.1,v5.2.2.2.2.2.1,v5.2.2.2.2.2.2.1,v5.2.2.2.2.2.2.2.1,(),v5.2.2.2.2.2.2.2.2.2.1,v5.2.2.2.2.2.2.2.2.2.2.1,v5.2.2.2.2.2.2.2.2.2.2.2,()),((),(),v6.2.2.1,(),()),()),(v5.2.2.1,v6.1,v6.2.1,v6.2.2.2,()))
abbrev yzf (v0:Int) (v1:Int) (v2:dG) (v3:dA) (v4:dA) (v5:dM):(ycE).X:=(((v0,()),((),()),((),()),((),()),(v1,()),((),()),((),()),()),((v2.1,v2.2,()),(v3.1,v3.2.1.1,v3.2.1.2,(),v3.2.2.2.1,v3.2.2.2.2.1,v3.2.2.2.2.2.1,v3.2.2.2.2.2.2.1,v3.2.2.2.2.2.2.2.1,(),v3.2.2.2.2.2.2.2.2.2.1,v3.2.2.2.2.2.2.2.2.2.2.1,v3.2.2.2.2.2.2.2.2.2.2.2,()),(v4.1,v4.2.1.1,v4.2.1.2,(),v4.2.2.2.1,v4.2.2.2.2.1,v4.2.2.2.2.2.1,v4.2.2.2.2.2.2.1,v4.2.2.2.2.2.2.2.1,(),v4.2.2.2.2.2.2.2.2.2.1,v4.2.2.2.2.2.2.2.2.2.2.1,v4.2.2.2.2.2.2.2.2.2.2.2,()),((),(),v5.2.2.1,(),()),()),(v4.2.2.1,v5.1,v5.2.1,v5.2.2.2,()))
abbrev yp9 (v0:Int) (v1:Int) (v2:dG) (v3:dA) (v4:dA) (v5:dM):(ycB).X:=(((v0,()),((),()),((),()),((),()),(v1,()),((),()),()),((v2.1,v2.2,()),(v3.1,v3.2.1.1,v3.2.1.2,(),v3.2.2.2.1,v3.2.2.2.2.1,v3.2.2.2.2.2.1,v3.2.2.2.2.2.2.1,v3.2.2.2.2.2.2.2.1,(),v3.2.2.2.2.2.2.2.2.2.1,v3.2.2.2.2.2.2.2.2.2.2.1,v3.2.2.2.2.2.2.2.2.2.2.2,()),(v4.1,v4.2.1.1,v4.2.1.2,(),v4.2.2.2.1,v4.2.2.2.2.1,v4.2.2.2.2.2.1,v4.2.2.2.2.2.2.1,v4.2.2.2.2.2.2.2.1,(),v4.2.2.2.2.2.2.2.2.2.1,v4.2.2.2.2.2.2.2.2.2.2.1,v4.2.2.2.2.2.2.2.2.2.2.2,()),((),(),v5.2.2.1,(),()),()),(v4.2.2.1,v5.1,v5.2.1,v5.2.2.2,()))
def yiA (v0:Int) (v1:Int) (v2:Int) (v3:Int) (v4:Int) (v5:Int) (v6:Int) (v7:Int) (v8:Int) (v9:Int) (v10:Int) (v11:Int) (v12:Int) (v13:Int) (v14:Bool) (v15:Bool) (v16:Int) (v17:Int) (v18:Int) (v19:Int) (v20:Int) (v21:Int) (v22:Int) (v23:Int) (v24:Int) (v25:Bool) (v26:Bool) (v27:Bool) (v28:List dM) (v29:List (List Int)) (v30:List dW) (v31:List Int):Option ((yap).X ⊕ ((ycB).X ⊕ (ye1).X)) :=
  bif (ltb v2 v4) then
    let r13:=yh v2
    bif (inb r13 v29.length) then
      some (.inl (((v0,()),((),()),((),()),((),()),(v1,()),((),()),((IntKind.i64.wrap (v2+1)),()),()),((v3,v4,()),(v5,v6,v7,(),v8,v9,v10,v11,v12,(),v13,v14,v15,()),(v16,v17,v18,(),v19,v20,v21,v22,v23,(),v24,v25,v26,()),((),(),v27,(),()),()),(v28,(v29.set (r13).toNat ([0]:List Int)),v30,v31,())))
    else none
  else
    some (.inr (.inl (((v0,()),((),()),((),()),((),()),(v1,()),((),()),()),((v3,v4,()),(v5,v6,v7,(),v8,v9,v10,v11,v12,(),v13,v14,v15,()),(v16,v17,v18,(),v19,v20,v21,v22,v23,(),v24,v25,v26,()),((),(),v27,(),()),()),(v28,v29,v30,v31,()))))
def yaz (x:(yap).X):=yiA x.1.1.1 x.1.2.2.2.2.1.1 x.1.2.2.2.2.2.2.1.1 x.2.1.1.1 x.2.1.1.2.1 x.2.1.2.1.1 x.2.1.2.1.2.1 x.2.1.2.1.2.2.1 x.2.1.2.1.2.2.2.2.1 x.2.1.2.1.2.2.2.2.2.1 x.2.1.2.1.2.2.2.2.2.2.1 x.2.1.2.1.2.2.2.2.2.2.2.1 x.2.1.2.1.2.2.2.2.2.2.2.2.1 x.2.1.2.1.2.2.2.2.2.2.2.2.2.2.1 x.2.1.2.1.2.2.2.2.2.2.2.2.2.2.2.1 x.2.1.2.1.2.2.2.2.2.2.2.2.2.2.2.2.1 x.2.1.2.2.1.1 x.2.1.2.2.1.2.1 x.2.1.2.2.1.2.2.1 x.2.1.2.2.1.2.2.2.2.1 x.2.1.2.2.1.2.2.2.2.2.1 x.2.1.2.2.1.2.2.2.2.2.2.1 x.2.1.2.2.1.2.2.2.2.2.2.2.1 x.2.1.2.2.1.2.2.2.2.2.2.2.2.1 x.2.1.2.2.1.2.2.2.2.2.2.2.2.2.2.1 x.2.1.2.2.1.2.2.2.2.2.2.2.2.2.2.2.1 x.2.1.2.2.1.2.2.2.2.2.2.2.2.2.2.2.2.1 x.2.1.2.2.2.1.2.2.1 x.2.2.1 x.2.2.2.1 x.2.2.2.2.1 x.2.2.2.2.2.1
def yp0 (x:(ycE).X):(yap).X:=(((x.1.1.1,()),((),()),((),()),((),()),(x.1.2.2.2.2.1.1,()),((),()),(0,()),()),((x.2.1.1.1,x.2.1.1.2.1,()),(x.2.1.2.1.1,x.2.1.2.1.2.1,x.2.1.2.1.2.2.1,(),x.2.1.2.1.2.2.2.2.1,x.2.1.2.1.2.2.2.2.2.1,x.2.1.2.1.2.2.2.2.2.2.1,x.2.1.2.1.2.2.2.2.2.2.2.1,x.2.1.2.1.2.2.2.2.2.2.2.2.1,(),x.2.1.2.1.2.2.2.2.2.2.2.2.2.2.1,x.2.1.2.1.2.2.2.2.2.2.2.2.2.2.2.1,x.2.1.2.1.2.2.2.2.2.2.2.2.2.2.2.2.1,()),(x.2.1.2.2.1.1,x.2.1.2.2.1.2.1,x.2.1.2.2.1.2.2.1,(),x.2.1.2.2.1.2.2.2.2.1,x.2.1.2.2.1.2.2.2.2.2.1,x.2.1.2.2.1.2.2.2.2.2.2.1,x.2.1.2.2.1.2.2.2.2.2.2.2.1,x.2.1.2.2.1.2.2.2.2.2.2.2.2.1,(),x.2.1.2.2.1.2.2.2.2.2.2.2.2.2.2.1,x.2.1.2.2.1.2.2.2.2.2.2.2.2.2.2.2.1,x.2.1.2.2.1.2.2.2.2.2.2.2.2.2.2.2.2.1,()),((),(),x.2.1.2.2.2.1.2.2.1,(),()),()),(x.2.2.1,x.2.2.2.1,x.2.2.2.2.1,x.2.2.2.2.2.1,()))
def yqC:Code:=(zdI yct 64 125236).getD .skip
theorem yAw:zdI yct 64 31309=some (.block 2 (.loop yqC)):=by kernel_rfl
theorem yAP (x:(yap).X):zg7 ⟨ye7,60,yvS⟩ 2 yqC 125236 yap ycB ye1 x=yaz x:=by kernel_rfl
def yp4 (x:(ycE).X):Nat:=(fun (u0:Int) (u1:Int) (u2:Int) (u3:Int) (u4:Int) (u5:Int) (u6:Int) (u7:Int) (u8:Int) (u9:Int) (u10:Int) (u11:Int) (u12:Int) (u13:Bool) (u14:Bool) (u15:Int) (u16:Int) (u17:Int) (u18:Int) (u19:Int) (u20:Int) (u21:Int) (u22:Int) (u23:Int) (u24:Bool) (u25:Bool) (u26:Bool) (u27:List dM) (u28:List (List Int)) (u29:List dW) (u30:List Int)=>18446744073709551616) x.1.1.1 x.1.2.2.2.2.1.1 x.2.1.1.1 x.2.1.1.2.1 x.2.1.2.1.1 x.2.1.2.1.2.1 x.2.1.2.1.2.2.1 x.2.1.2.1.2.2.2.2.1 x.2.1.2.1.2.2.2.2.2.1 x.2.1.2.1.2.2.2.2.2.2.1 x.2.1.2.1.2.2.2.2.2.2.2.1 x.2.1.2.1.2.2.2.2.2.2.2.2.1 x.2.1.2.1.2.2.2.2.2.2.2.2.2.2.1 x.2.1.2.1.2.2.2.2.2.2.2.2.2.2.2.1 x.2.1.2.1.2.2.2.2.2.2.2.2.2.2.2.2.1 x.2.1.2.2.1.1 x.2.1.2.2.1.2.1 x.2.1.2.2.1.2.2.1 x.2.1.2.2.1.2.2.2.2.1 x.2.1.2.2.1.2.2.2.2.2.1 x.2.1.2.2.1.2.2.2.2.2.2.1 x.2.1.2.2.1.2.2.2.2.2.2.2.1 x.2.1.2.2.1.2.2.2.2.2.2.2.2.1 x.2.1.2.2.1.2.2.2.2.2.2.2.2.2.2.1 x.2.1.2.2.1.2.2.2.2.2.2.2.2.2.2.2.1 x.2.1.2.2.1.2.2.2.2.2.2.2.2.2.2.2.2.1 x.2.1.2.2.2.1.2.2.1 x.2.2.1 x.2.2.2.1 x.2.2.2.2.1 x.2.2.2.2.2.1
def yjy (x:(ycE).X):Option ((ycB).X ⊕ (ye1).X):=zr yaz (yp4 x) (yp0 x)
def yqw:Seg:=⟨ycE,ycB,ye1,yjy⟩
def yoU:Nat→Option Seg:=fun q=>bif Nat.beq q 31309 then some yqw else yvS q
theorem yEK:FrOk Tryz.prog ⟨ye7,60,yoU⟩ yct:=(yEJ).loop (sg:=yqw) yap yp0 (by decide) yAw yaz yp4 (by decide) (fun _=>rfl) (fun x r _ h=>h) yAP
def ya8:Shape:=⟨[(0,false,[.int .i64]),(3,false,[.ptr 0 0]),(4,false,[.ptr 64 0]),(5,false,[.ptr 12480 0]),(6,false,[.int .i64])],[(0,[.int .i64,.int .i64]),(64,[.int .i64,.int .i64,.int .i64,.nil,.int .i64,.int .i64,.int .i64,.int .i64,.int .i64,.nil,.int .i64,.bool,.bool]),(12480,[.int .i64,.int .i64,.int .i64,.at 800000000,.int .i64,.int .i64,.int .i64,.int .i64,.int .i64,.nil,.int .i64,.bool,.bool])],[(800000000,tM,(.pr (.ow .fz) (.pr (.ow (.pr .fz .fz)) (.pr .fz (.ow .fz)))))]⟩
def yeE:Shape:=⟨[(0,false,[.int .i64]),(3,false,[.ptr 0 0]),(4,false,[.ptr 64 0]),(5,false,[.ptr 12480 0]),(6,false,[.ci .i64 0])],[(0,[.int .i64,.int .i64]),(64,[.int .i64,.int .i64,.int .i64,.nil,.int .i64,.int .i64,.int .i64,.int .i64,.int .i64,.nil,.int .i64,.bool,.bool]),(12480,[.int .i64,.int .i64,.int .i64,.at 800000000,.int .i64,.int .i64,.int .i64,.int .i64,.int .i64,.nil,.int .i64,.bool,.bool])],[(800000000,tM,(.pr (.ow .fz) (.pr (.ow (.pr .fz .fz)) (.pr .fz (.ow .fz)))))]⟩
def yer:Shape:=⟨[(4,false,[.ptr 64 0]),(5,false,[.ptr 12480 0])],[(64,[.int .i64,.int .i64,.int .i64,.nil,.int .i64,.int .i64,.int .i64,.int .i64,.int .i64,.nil,.int .i64,.bool,.bool]),(12480,[.int .i64,.int .i64,.int .i64,.at 800000000,.int .i64,.int .i64,.int .i64,.int .i64,.int .i64,.nil,.int .i64,.bool,.bool])],[(800000000,tM,(.pr (.ow .fz) (.pr (.ow (.pr .fz .fz)) (.pr .fz (.ow .fz)))))]⟩
def yh8:Shape:=⟨[],[],[]⟩
abbrev ygR (v0:Int) (v1:Int) (v2:dG) (v3:dA) (v4:dA):(ya8).X:=(((v0,()),((),()),((),()),((),()),(v1,()),()),((v2.1,v2.2,()),(v3.1,v3.2.1.1,v3.2.1.2,(),v3.2.2.2.1,v3.2.2.2.2.1,v3.2.2.2.2.2.1,v3.2.2.2.2.2.2.1,v3.2.2.2.2.2.2.2.1,(),v3.2.2.2.2.2.2.2.2.2.1,v3.2.2.2.2.2.2.2.2.2.2.1,v3.2.2.2.2.2.2.2.2.2.2.2,()),(v4.1,v4.2.1.1,v4.2.1.2,(),v4.2.2.2.1,v4.2.2.2.2.1,v4.2.2.2.2.2.1,v4.2.2.2.2.2.2.1,v4.2.2.2.2.2.2.2.1,(),v4.2.2.2.2.2.2.2.2.2.1,v4.2.2.2.2.2.2.2.2.2.2.1,v4.2.2.2.2.2.2.2.2.2.2.2,()),()),(v4.2.2.1,()))
abbrev yDi (v0:Int) (v1:dG) (v2:dA) (v3:dA):(yeE).X:=(((v0,()),((),()),((),()),((),()),((),()),()),((v1.1,v1.2,()),(v2.1,v2.2.1.1,v2.2.1.2,(),v2.2.2.2.1,v2.2.2.2.2.1,v2.2.2.2.2.2.1,v2.2.2.2.2.2.2.1,v2.2.2.2.2.2.2.2.1,(),v2.2.2.2.2.2.2.2.2.2.1,v2.2.2.2.2.2.2.2.2.2.2.1,v2.2.2.2.2.2.2.2.2.2.2.2,()),(v3.1,v3.2.1.1,v3.2.1.2,(),v3.2.2.2.1,v3.2.2.2.2.1,v3.2.2.2.2.2.1,v3.2.2.2.2.2.2.1,v3.2.2.2.2.2.2.2.1,(),v3.2.2.2.2.2.2.2.2.2.1,v3.2.2.2.2.2.2.2.2.2.2.1,v3.2.2.2.2.2.2.2.2.2.2.2,()),()),(v3.2.2.1,()))
abbrev yte (v0:dA) (v1:dA):(yer).X:=((((),()),((),()),()),((v0.1,v0.2.1.1,v0.2.1.2,(),v0.2.2.2.1,v0.2.2.2.2.1,v0.2.2.2.2.2.1,v0.2.2.2.2.2.2.1,v0.2.2.2.2.2.2.2.1,(),v0.2.2.2.2.2.2.2.2.2.1,v0.2.2.2.2.2.2.2.2.2.2.1,v0.2.2.2.2.2.2.2.2.2.2.2,()),(v1.1,v1.2.1.1,v1.2.1.2,(),v1.2.2.2.1,v1.2.2.2.2.1,v1.2.2.2.2.2.1,v1.2.2.2.2.2.2.1,v1.2.2.2.2.2.2.2.1,(),v1.2.2.2.2.2.2.2.2.2.1,v1.2.2.2.2.2.2.2.2.2.2.1,v1.2.2.2.2.2.2.2.2.2.2.2,()),()),(v1.2.2.1,()))
def ymE (v0:Int) (v1:Int) (v2:Int) (v3:Int) (v4:Int) (v5:Int) (v6:Int) (v7:Int) (v8:Int) (v9:Int) (v10:Int) (v11:Int) (v12:Int) (v13:Bool) (v14:Bool) (v15:Int) (v16:Int) (v17:Int) (v18:Int) (v19:Int) (v20:Int) (v21:Int) (v22:Int) (v23:Int) (v24:Bool) (v25:Bool) (v26:List dM):Option ((ya8).X ⊕ ((yer).X ⊕ (yh8).X)) :=
  bif (ltb v1 v2) then
    let r15:=ya4 (v2,v3)
    let r16:=yaJ r15
    let r17:=yav (v0,0,v1,v2,v3,0,(-1),0)
    bif (inb 0 r16.1.length) then
      zjw (yjy (((v0,()),((),()),((),()),((),()),(v1,()),((),()),((),()),()),((v2,v3,()),(v4,v5,v6,(),v7,v8,v9,v10,v11,(),v12,v13,v14,()),(v15,v16,v17,(),v18,v19,v20,v21,v22,(),v23,v24,v25,()),((),(),r16.2.2.1,(),()),()),(v26,(r16.1.set (0:Int).toNat r17),r16.2.1,r16.2.2.2,()))) (fun y17 =>
        bif (zj4 y17.2.2.1.length ([(y17.2.2.2.1,y17.2.2.2.2.1,y17.2.1.2.2.2.1.2.2.1,y17.2.2.2.2.2.1)]:List dM).length 80) then
          some (.inl (((y17.1.1.1,()),((),()),((),()),((),()),((IntKind.i64.wrap (y17.1.2.2.2.2.1.1+1)),()),()),((y17.2.1.1.1,y17.2.1.1.2.1,()),(y17.2.1.2.1.1,y17.2.1.2.1.2.1,y17.2.1.2.1.2.2.1,(),y17.2.1.2.1.2.2.2.2.1,y17.2.1.2.1.2.2.2.2.2.1,y17.2.1.2.1.2.2.2.2.2.2.1,y17.2.1.2.1.2.2.2.2.2.2.2.1,y17.2.1.2.1.2.2.2.2.2.2.2.2.1,(),y17.2.1.2.1.2.2.2.2.2.2.2.2.2.2.1,y17.2.1.2.1.2.2.2.2.2.2.2.2.2.2.2.1,y17.2.1.2.1.2.2.2.2.2.2.2.2.2.2.2.2.1,()),(y17.2.1.2.2.1.1,y17.2.1.2.2.1.2.1,y17.2.1.2.2.1.2.2.1,(),y17.2.1.2.2.1.2.2.2.2.1,y17.2.1.2.2.1.2.2.2.2.2.1,y17.2.1.2.2.1.2.2.2.2.2.2.1,y17.2.1.2.2.1.2.2.2.2.2.2.2.1,y17.2.1.2.2.1.2.2.2.2.2.2.2.2.1,(),y17.2.1.2.2.1.2.2.2.2.2.2.2.2.2.2.1,y17.2.1.2.2.1.2.2.2.2.2.2.2.2.2.2.2.1,y17.2.1.2.2.1.2.2.2.2.2.2.2.2.2.2.2.2.1,()),()),((y17.2.2.1++([(y17.2.2.2.1,y17.2.2.2.2.1,y17.2.1.2.2.2.1.2.2.1,y17.2.2.2.2.2.1)]:List dM)),())))
        else none) (fun y17 =>
        some (.inr (.inr ((),(),()))))
    else none
  else
    some (.inr (.inl ((((),()),((),()),()),((v4,v5,v6,(),v7,v8,v9,v10,v11,(),v12,v13,v14,()),(v15,v16,v17,(),v18,v19,v20,v21,v22,(),v23,v24,v25,()),()),(v26,()))))
def ybC (x:(ya8).X):=ymE x.1.1.1 x.1.2.2.2.2.1.1 x.2.1.1.1 x.2.1.1.2.1 x.2.1.2.1.1 x.2.1.2.1.2.1 x.2.1.2.1.2.2.1 x.2.1.2.1.2.2.2.2.1 x.2.1.2.1.2.2.2.2.2.1 x.2.1.2.1.2.2.2.2.2.2.1 x.2.1.2.1.2.2.2.2.2.2.2.1 x.2.1.2.1.2.2.2.2.2.2.2.2.1 x.2.1.2.1.2.2.2.2.2.2.2.2.2.2.1 x.2.1.2.1.2.2.2.2.2.2.2.2.2.2.2.1 x.2.1.2.1.2.2.2.2.2.2.2.2.2.2.2.2.1 x.2.1.2.2.1.1 x.2.1.2.2.1.2.1 x.2.1.2.2.1.2.2.1 x.2.1.2.2.1.2.2.2.2.1 x.2.1.2.2.1.2.2.2.2.2.1 x.2.1.2.2.1.2.2.2.2.2.2.1 x.2.1.2.2.1.2.2.2.2.2.2.2.1 x.2.1.2.2.1.2.2.2.2.2.2.2.2.1 x.2.1.2.2.1.2.2.2.2.2.2.2.2.2.2.1 x.2.1.2.2.1.2.2.2.2.2.2.2.2.2.2.2.1 x.2.1.2.2.1.2.2.2.2.2.2.2.2.2.2.2.2.1 x.2.2.1
def ysQ (x:(yeE).X):(ya8).X:=(((x.1.1.1,()),((),()),((),()),((),()),(0,()),()),((x.2.1.1.1,x.2.1.1.2.1,()),(x.2.1.2.1.1,x.2.1.2.1.2.1,x.2.1.2.1.2.2.1,(),x.2.1.2.1.2.2.2.2.1,x.2.1.2.1.2.2.2.2.2.1,x.2.1.2.1.2.2.2.2.2.2.1,x.2.1.2.1.2.2.2.2.2.2.2.1,x.2.1.2.1.2.2.2.2.2.2.2.2.1,(),x.2.1.2.1.2.2.2.2.2.2.2.2.2.2.1,x.2.1.2.1.2.2.2.2.2.2.2.2.2.2.2.1,x.2.1.2.1.2.2.2.2.2.2.2.2.2.2.2.2.1,()),(x.2.1.2.2.1.1,x.2.1.2.2.1.2.1,x.2.1.2.2.1.2.2.1,(),x.2.1.2.2.1.2.2.2.2.1,x.2.1.2.2.1.2.2.2.2.2.1,x.2.1.2.2.1.2.2.2.2.2.2.1,x.2.1.2.2.1.2.2.2.2.2.2.2.1,x.2.1.2.2.1.2.2.2.2.2.2.2.2.1,(),x.2.1.2.2.1.2.2.2.2.2.2.2.2.2.2.1,x.2.1.2.2.1.2.2.2.2.2.2.2.2.2.2.2.1,x.2.1.2.2.1.2.2.2.2.2.2.2.2.2.2.2.2.1,()),()),(x.2.2.1,()))
def yt3:Code:=(zdI yct 64 244).getD .skip
theorem yEe:zdI yct 64 61=some (.block 0 (.loop yt3)):=by kernel_rfl
theorem yGB (x:(ya8).X):zg7 ⟨ye7,60,yoU⟩ 0 yt3 244 ya8 yer yh8 x=ybC x:=by kernel_rfl
def ys3 (x:(yeE).X):Nat:=(fun (u0:Int) (u1:Int) (u2:Int) (u3:Int) (u4:Int) (u5:Int) (u6:Int) (u7:Int) (u8:Int) (u9:Int) (u10:Int) (u11:Int) (u12:Bool) (u13:Bool) (u14:Int) (u15:Int) (u16:Int) (u17:Int) (u18:Int) (u19:Int) (u20:Int) (u21:Int) (u22:Int) (u23:Bool) (u24:Bool) (u25:List dM)=>18446744073709551616) x.1.1.1 x.2.1.1.1 x.2.1.1.2.1 x.2.1.2.1.1 x.2.1.2.1.2.1 x.2.1.2.1.2.2.1 x.2.1.2.1.2.2.2.2.1 x.2.1.2.1.2.2.2.2.2.1 x.2.1.2.1.2.2.2.2.2.2.1 x.2.1.2.1.2.2.2.2.2.2.2.1 x.2.1.2.1.2.2.2.2.2.2.2.2.1 x.2.1.2.1.2.2.2.2.2.2.2.2.2.2.1 x.2.1.2.1.2.2.2.2.2.2.2.2.2.2.2.1 x.2.1.2.1.2.2.2.2.2.2.2.2.2.2.2.2.1 x.2.1.2.2.1.1 x.2.1.2.2.1.2.1 x.2.1.2.2.1.2.2.1 x.2.1.2.2.1.2.2.2.2.1 x.2.1.2.2.1.2.2.2.2.2.1 x.2.1.2.2.1.2.2.2.2.2.2.1 x.2.1.2.2.1.2.2.2.2.2.2.2.1 x.2.1.2.2.1.2.2.2.2.2.2.2.2.1 x.2.1.2.2.1.2.2.2.2.2.2.2.2.2.2.1 x.2.1.2.2.1.2.2.2.2.2.2.2.2.2.2.2.1 x.2.1.2.2.1.2.2.2.2.2.2.2.2.2.2.2.2.1 x.2.2.1
def ynV (x:(yeE).X):Option ((yer).X ⊕ (yh8).X):=zr ybC (ys3 x) (ysQ x)
def ytl:Seg:=⟨yeE,yer,yh8,ynV⟩
def yvT:Nat→Option Seg:=fun q=>bif Nat.beq q 61 then some ytl else yoU q
theorem yEL:FrOk Tryz.prog ⟨ye7,60,yvT⟩ yct:=(yEK).loop (sg:=ytl) ya8 ysQ (by decide) yEe ybC ys3 (by decide) (fun _=>rfl) (fun x r _ h=>h) yGB
abbrev yfd:List Par:= [.rd tI,.rd tG]
abbrev yno:List OT:= [⟨false,tA,(.pr .fz (.pr (.pr .fz .fz) (.pr (.ow (.pr (.ow .fz) (.pr (.ow (.pr .fz .fz)) (.pr .fz (.ow .fz))))) (.pr .fz (.pr .fz (.pr .fz (.pr .fz (.pr .fz (.pr (.ow (.pr .fz .fz)) (.pr .fz (.pr .fz .fz)))))))))))⟩]
def yki (a0:Int) (a1:dG):Option (ResD yno×MutD yfd) :=
  let r1:=yd a1
  bif (!(!r1)) then
    let r2:=yb a0 1 60000
    bif (!r2) then
      some (((0,(0,0),[],0,0,0,0,0,[],0,false,false),()),())
    else
      zjw (ynV (((a0,()),((),()),((),()),((),()),((),()),()),((a1.1,a1.2,()),(0,0,0,(),0,0,0,0,0,(),0,false,false,()),(a0,a1.1,a1.2,(),(-1),0,0,0,0,(),(-1),false,false,()),()),([],()))) (fun y18 =>
        some (((y18.2.1.2.1.1,(y18.2.1.2.1.2.1,y18.2.1.2.1.2.2.1),y18.2.2.1,y18.2.1.2.1.2.2.2.2.1,y18.2.1.2.1.2.2.2.2.2.1,y18.2.1.2.1.2.2.2.2.2.2.1,y18.2.1.2.1.2.2.2.2.2.2.2.1,y18.2.1.2.1.2.2.2.2.2.2.2.2.1,[],y18.2.1.2.1.2.2.2.2.2.2.2.2.2.2.1,y18.2.1.2.1.2.2.2.2.2.2.2.2.2.2.2.1,y18.2.1.2.1.2.2.2.2.2.2.2.2.2.2.2.2.1),()),())) (fun y18 =>
        none)
  else
    some (((0,(0,0),[],0,0,0,0,0,[],0,false,false),()),())
theorem yM3 (x:InD yfd):zjH ⟨ye7,60,yvT⟩ Tryz.f86.results.toList yct yfd yno x=yki x.1 x.2.1:=by kernel_rfl
theorem yJf:ConOk Tryz.prog 86 ⟨yfd,yno,fun x=>yki x.1 x.2.1⟩:=zkh (yEL) Tryz.func86 (by kernel_rfl) (by kernel_rfl) Tryz.ntmps86.symm (by decide) (fun x r h=>(yM3 x).trans h)
def yji (a0:Int) (a1:dG):dA:=ytY a0 a1
theorem yK8 (a0:Int) (a1:dG) (hk:zi9 yfd (a0,a1,())):yki a0 a1=(fun n=>some ((n,()),())) (yji a0 a1):=by
  unfold yki yji ytY
  simp only [yaL]
  cases hg:yd a1
  · rfl
  cases hid:(leb 1 a0&&leb a0 60000)
  · rfl
  have hge:=yn.1 hg
  have inner: ∀ (i:Int) (a:dA),yjy (yzf a0 i a1 ylO a (yr7 a0 a1 i))=some (.inl (yp9 a0 i a1 ylO a (yE a0 a1 i))):=fun i a =>
    zks (step:=yaz) a1.2.toNat (fun s m=>yil a0 i s a1 ylO a m) yyN (fun _ m=>(m.1.length:Int)=6+a1.2) (fun m=> .inl (yp9 a0 i a1 ylO a m)) (fun s m hs hm=>⟨by
      simp only [yaz,yil,yiA,zjI (show (s:Int) < a1.2 by omega),cond_true,wr (show -9223372036854775808≤(s:Int)+1 by omega) (by omega),Int.natCast_add,Int.natCast_one,Int.toNat_natCast,ycV]
      have hd:ycH (s:Int)=((s+6:Nat):Int):=by unfold ycH; rw [zk0 (show (0:Int)≤s by omega),zk0 (show (s:Int)≤1099511627776 by omega)]; rfl
      rw [hd,zkO (show s+6 < m.1.length by omega),Int.toNat_natCast]; rfl,by show ((m.1.set _ _).length:Int)=_; rw [List.length_set]; exact hm⟩) (fun m hm=>by simp only [yaz,yil,yiA,show ((a1.2.toNat:Nat):Int)=a1.2 by omega,zkm (Int.le_refl _),cond_false]) (yr7 a0 a1 i) (by
      unfold yr7 ycJ
      rw [zk0 (show 1≤6+a1.2 by omega),zk0 (show 6+a1.2≤20 by omega)]
      show (((List.replicate (6+a1.2).toNat ([]:List Int)).set 0 _).length:Int)=_
      rw [List.length_set,List.length_replicate]; omega) 18446744073709551616 (by omega)
  have hmn:yaJ (ya4 a1)=ycJ (6+a1.2):=by
    unfold yaJ ya4
    rw [wr (by omega) (by omega)]
  have h0:inb 0 (ycJ (6+a1.2)).1.length=true:=by
    unfold ycJ
    rw [zk0 (show 1≤6+a1.2 by omega),zk0 (show 6+a1.2≤20 by omega)]
    show inb 0 (List.replicate (6+a1.2).toNat ([]:List Int)).length=true
    rw [List.length_replicate,zjP]; omega
  have outer:ynV (yDi a0 a1 ylO (ytZ a0 a1))=some (.inl (yte ylO ((List.range a1.1.toNat).foldl (fun a (i:Nat)=>ytV a (yE a0 a1 i)) (ytZ a0 a1)))) :=
    zks (step:=ybC) a1.1.toNat (fun i a=>ygR a0 i a1 ylO a) (fun a i=>ytV a (yE a0 a1 i)) (fun i a=>a.2.2.1.length=i) (fun a=> .inl (yte ylO a)) (fun i a hi ha=>⟨by
      simp only [ybC,ygR,ymE,zjI (show (i:Int) < a1.1 by omega),cond_true,wr (show -9223372036854775808≤(i:Int)+1 by omega) (by omega),Int.natCast_add,Int.natCast_one,zkV,hmn,h0]
      refine (congrArg (fun z=>zjw z _ _) (inner i a)).trans ?_
      simp only [zkJ]
      show (bif zj4 a.2.2.1.length [yE a0 a1 i].length 80 then _ else _)=_
      rw [zkw.2 (show (a.2.2.1.length+ [yE a0 a1 i].length) * 80≤140737488355328 by simp only [List.length_cons,List.length_nil]; omega)]
      simp only [cond_true]
      show some (Sum.inl (ygR a0 (IntKind.i64.wrap ((i:Int)+1)) a1 ylO (ytV a (yE a0 a1 i))))=_
      rw [wr (show -9223372036854775808≤(i:Int)+1 by omega) (by omega)],by show (a.2.2.1++ [_]).length=_; rw [List.length_append,ha]; rfl⟩) (fun a ha=>by simp only [ybC,ygR,ymE,show ((a1.1.toNat:Nat):Int)=a1.1 by omega,zkm (Int.le_refl _),cond_false]) (ytZ a0 a1) rfl 18446744073709551616 (by omega)
  have hdr: ∀ (l:List Nat) (a:dA),a.2.2.2.2.2.2.2.2.1= []→(l.foldl (fun a (i:Nat)=>ytV a (yE a0 a1 i)) a).2.2.2.2.2.2.2.2.1= []:=by
    intro l
    induction l with
    | nil=>intro a h; exact h
    | cons x t ih=>intro a h; exact ih _ h
  have h:=hdr (List.range a1.1.toNat) (ytZ a0 a1) rfl
  simp only [Bool.not_true,Bool.not_false,cond_true,cond_false,Bool.and_self]
  refine (congrArg (fun z=>zjw z _ _) outer).trans ?_
  generalize (List.range a1.1.toNat).foldl (fun a (i:Nat)=>ytV a (yE a0 a1 i)) (ytZ a0 a1)=R at h
  simp only [zkJ]
  show some ((((R.1,R.2.1,R.2.2.1,R.2.2.2.1,R.2.2.2.2.1,R.2.2.2.2.2.1,R.2.2.2.2.2.2.1,R.2.2.2.2.2.2.2.1,[],R.2.2.2.2.2.2.2.2.2):dA),()),())=some ((R,()),())
  rw [← h]
def ywP:Con:=⟨yfd,yno,fun x=>(fun n=>some ((n,()),())) (yji x.1 x.2.1)⟩
theorem yL5:ConOk Tryz.prog 86 ywP:=(yJf).mono (fun x r hk h=>(yK8 x.1 x.2.1 hk).trans h)
end
section
def yA4:Code:=(Tryz.f172.body).getD .skip
def yBl:Env:=zki TT [(124,yD)] []
theorem yIt:FrOk Tryz.prog ⟨yBl,10,fun _=>none⟩ yA4:=zkp ye yf ⟨yL,trivial⟩
def yKu:Nat→Option Seg:=fun _=>none
abbrev ykY:List Par:= [.pt tU .fz]
abbrev ypR:List OT:= [⟨false,tG,(.pr .fz .fz)⟩]
def yeg (a0:dU):Option (ResD ypR×MutD ykY) :=
  bnd (ya a0 3) fun r1 =>
  bnd (ya r1.2.1 4) fun r2 =>
  some ((((IntKind.i64.wrap (3+r1.1.1)),(IntKind.i64.wrap (1+r2.1.1))),()),(r2.2.1,()))
theorem yOK (x:InD ykY):zjH ⟨yBl,10,yKu⟩ Tryz.f172.results.toList yA4 ykY ypR x=yeg x.1:=by kernel_rfl
theorem yLR:ConOk Tryz.prog 172 ⟨ykY,ypR,fun x=>yeg x.1⟩:=zkh (yIt) Tryz.func172 (by kernel_rfl) (by kernel_rfl) Tryz.ntmps172.symm (by decide) (fun x r h=>(yOK x).trans h)
def yyy:Con:=⟨ykY,ypR,fun x=>yeg x.1⟩
theorem yN5:ConOk Tryz.prog 172 yyy:=yLR
theorem yQv (u:dU) (h:yM u): ∃ (g:dG) (u':dU),yeg u=some ((g,()),(u',()))∧yd g=true∧yM u':=by
  unfold yeg
  obtain ⟨r1,u1,e1,q1,d1⟩:=yB u 3 h
  obtain ⟨r2,u2,e2,q2,d2⟩:=yB u1 4 d1
  simp only [e1,e2,zky]
  refine ⟨_,_,rfl,?_,d2⟩
  have:=q1.2.1 (by omega); have:=q2.2.1 (by omega); have:=q1.1; have:=q2.1
  rw [wr (by omega) (by omega),wr (by omega) (by omega)]
  exact yn.2 ⟨⟨by show 3≤3+r1; omega,by show 3+r1≤5; omega⟩,by show 1≤1+r2; omega,by show 1+r2≤8; omega⟩
end
section
def ycu:Code:=(Tryz.f128.body).getD .skip
def ye8:Env:=zki TT [] [(21056,.fz),(21120,.fz),(37952,(.pr .fz .fz)),(38016,(.pr .fz .fz))]
theorem yE2:FrOk Tryz.prog ⟨ye8,60,fun _=>none⟩ ycu:=zkp ye yf trivial
def yvY:Nat→Option Seg:=fun _=>none
def ybc:Shape:=⟨[(1,false,[.ptr 0 0]),(2,false,[.ptr 64 0]),(3,false,[.ptr 4544 0]),(4,false,[.int .i64])],[(0,[.br tL,.br tW,.bool,.br tI]),(64,[.nil,.nil,.bool,.nil]),(4544,[.at 800000001,.nil,.bool,.at 800000000])],[(800000001,tL,.fz),(800000000,tI,.fz)]⟩
def yeI:Shape:=⟨[(1,false,[.ptr 0 0]),(2,false,[.ptr 64 0]),(3,false,[.ptr 4544 0]),(4,false,[.ci .i64 0])],[(0,[.br tL,.br tW,.bool,.br tI]),(64,[.nil,.nil,.bool,.nil]),(4544,[.at 800000001,.nil,.bool,.at 800000000])],[(800000001,tL,.fz),(800000000,tI,.fz)]⟩
def yev:Shape:=⟨[(1,false,[.ptr 0 0]),(2,false,[.ptr 64 0]),(3,false,[.ptr 4544 0])],[(0,[.br tL,.br tW,.bool,.br tI]),(64,[.nil,.nil,.bool,.nil]),(4544,[.at 800000000,.nil,.bool,.at 800000001])],[(800000000,tL,.fz),(800000001,tI,.fz)]⟩
def yib:Shape:=⟨[],[],[]⟩
abbrev ymu (v0:Int) (v1:dM) (v2:dM) (v3:dM):(ybc).X:=((((),()),((),()),((),()),(v0,()),()),((v1.1,v1.2.1,v1.2.2.1,v1.2.2.2,()),((),(),v2.2.2.1,(),()),((),(),v3.2.2.1,(),()),()),(v3.1,v3.2.2.2,()))
abbrev yDm (v0:dM) (v1:dM) (v2:dM):(yeI).X:=((((),()),((),()),((),()),((),()),()),((v0.1,v0.2.1,v0.2.2.1,v0.2.2.2,()),((),(),v1.2.2.1,(),()),((),(),v2.2.2.1,(),()),()),(v2.1,v2.2.2.2,()))
abbrev ytf (v0:dM) (v1:dM) (v2:dM):(yev).X:=((((),()),((),()),((),()),()),((v0.1,v0.2.1,v0.2.2.1,v0.2.2.2,()),((),(),v1.2.2.1,(),()),((),(),v2.2.2.1,(),()),()),(v2.1,v2.2.2.2,()))
def ymI (v0:Int) (v1:List (List Int)) (v2:List dW) (v3:Bool) (v4:List Int) (v5:Bool) (v6:Bool) (v7:List (List Int)) (v8:List Int):Option ((ybc).X ⊕ ((yev).X ⊕ (yib).X)) :=
  bif (ltb v0 (v1.length:Int)) then
    bif (inb v0 v1.length) then
      bif (zj4 ([]:List Int).length (nth v1 v0 []).length 8) then
        bif (zj4 v7.length ([(([]:List Int)++(nth v1 v0 []))]:List (List Int)).length 24) then
          some (.inl ((((),()),((),()),((),()),((IntKind.i64.wrap (v0+1)),()),()),((v1,v2,v3,v4,()),((),(),v5,(),()),((),(),v6,(),()),()),((v7++([(([]:List Int)++(nth v1 v0 []))]:List (List Int))),v8,())))
        else none
      else none
    else none
  else
    some (.inr (.inl ((((),()),((),()),((),()),()),((v1,v2,v3,v4,()),((),(),v5,(),()),((),(),v6,(),()),()),(v7,v8,()))))
def ybG (x:(ybc).X):=ymI x.1.2.2.2.1.1 x.2.1.1.1 x.2.1.1.2.1 x.2.1.1.2.2.1 x.2.1.1.2.2.2.1 x.2.1.2.1.2.2.1 x.2.1.2.2.1.2.2.1 x.2.2.1 x.2.2.2.1
def ysU (x:(yeI).X):(ybc).X:=((((),()),((),()),((),()),(0,()),()),((x.2.1.1.1,x.2.1.1.2.1,x.2.1.1.2.2.1,x.2.1.1.2.2.2.1,()),((),(),x.2.1.2.1.2.2.1,(),()),((),(),x.2.1.2.2.1.2.2.1,(),()),()),(x.2.2.1,x.2.2.2.1,()))
def yt7:Code:=(zdI ycu 64 116).getD .skip
theorem yEi:zdI ycu 64 29=some (.block 0 (.loop yt7)):=by kernel_rfl
theorem yGF (x:(ybc).X):zg7 ⟨ye8,60,yvY⟩ 0 yt7 116 ybc yev yib x=ybG x:=by kernel_rfl
def ys7 (x:(yeI).X):Nat:=(fun (u0:List (List Int)) (u1:List dW) (u2:Bool) (u3:List Int) (u4:Bool) (u5:Bool) (u6:List (List Int)) (u7:List Int)=>18446744073709551616) x.2.1.1.1 x.2.1.1.2.1 x.2.1.1.2.2.1 x.2.1.1.2.2.2.1 x.2.1.2.1.2.2.1 x.2.1.2.2.1.2.2.1 x.2.2.1 x.2.2.2.1
def ynZ (x:(yeI).X):Option ((yev).X ⊕ (yib).X):=zr ybG (ys7 x) (ysU x)
def ytp:Seg:=⟨yeI,yev,yib,ynZ⟩
def yoX:Nat→Option Seg:=fun q=>bif Nat.beq q 29 then some ytp else yvY q
theorem yE3:FrOk Tryz.prog ⟨ye8,60,yoX⟩ ycu:=(yE2).loop (sg:=ytp) ybc ysU (by decide) yEi ybG ys7 (by decide) (fun _=>rfl) (fun x r _ h=>h) yGF
def ybd:Shape:=⟨[(1,false,[.ptr 0 0]),(2,false,[.ptr 64 0]),(3,false,[.ptr 4544 0]),(5,false,[.int .i64])],[(0,[.br tL,.br tW,.bool,.br tI]),(64,[.nil,.nil,.bool,.nil]),(4544,[.at 800000000,.at 800000002,.bool,.at 800000001])],[(800000000,tL,.fz),(800000002,tW,(.pr .fz .fz)),(800000001,tI,.fz)]⟩
def yeJ:Shape:=⟨[(1,false,[.ptr 0 0]),(2,false,[.ptr 64 0]),(3,false,[.ptr 4544 0]),(5,false,[.ci .i64 0])],[(0,[.br tL,.br tW,.bool,.br tI]),(64,[.nil,.nil,.bool,.nil]),(4544,[.at 800000000,.at 800000002,.bool,.at 800000001])],[(800000000,tL,.fz),(800000002,tW,(.pr .fz .fz)),(800000001,tI,.fz)]⟩
def yew:Shape:=⟨[(2,false,[.ptr 64 0]),(3,false,[.ptr 4544 0])],[(64,[.nil,.nil,.bool,.nil]),(4544,[.at 800000000,.at 800000001,.bool,.at 800000002])],[(800000000,tL,.fz),(800000001,tW,(.pr .fz .fz)),(800000002,tI,.fz)]⟩
def yic:Shape:=⟨[],[],[]⟩
abbrev ymv (v0:Int) (v1:dM) (v2:dM) (v3:dM):(ybd).X:=((((),()),((),()),((),()),(v0,()),()),((v1.1,v1.2.1,v1.2.2.1,v1.2.2.2,()),((),(),v2.2.2.1,(),()),((),(),v3.2.2.1,(),()),()),(v3.1,v3.2.1,v3.2.2.2,()))
abbrev yDn (v0:dM) (v1:dM) (v2:dM):(yeJ).X:=((((),()),((),()),((),()),((),()),()),((v0.1,v0.2.1,v0.2.2.1,v0.2.2.2,()),((),(),v1.2.2.1,(),()),((),(),v2.2.2.1,(),()),()),(v2.1,v2.2.1,v2.2.2.2,()))
abbrev ytg (v0:dM) (v1:dM):(yew).X:=((((),()),((),()),()),(((),(),v0.2.2.1,(),()),((),(),v1.2.2.1,(),()),()),(v1.1,v1.2.1,v1.2.2.2,()))
def ymJ (v0:Int) (v1:List (List Int)) (v2:List dW) (v3:Bool) (v4:List Int) (v5:Bool) (v6:Bool) (v7:List (List Int)) (v8:List dW) (v9:List Int):Option ((ybd).X ⊕ ((yew).X ⊕ (yic).X)) :=
  bif (ltb v0 (v2.length:Int)) then
    bif (inb v0 v2.length) then
      bif (inb v0 v2.length) then
        bif (zj4 ([]:List Int).length ((nth v2 v0 (0,[])).2).length 8) then
          bif (zj4 v8.length ([((nth v2 v0 (0,[])).1,(([]:List Int)++((nth v2 v0 (0,[])).2)))]:List dW).length 32) then
            some (.inl ((((),()),((),()),((),()),((IntKind.i64.wrap (v0+1)),()),()),((v1,v2,v3,v4,()),((),(),v5,(),()),((),(),v6,(),()),()),(v7,(v8++([((nth v2 v0 (0,[])).1,(([]:List Int)++((nth v2 v0 (0,[])).2)))]:List dW)),v9,())))
          else none
        else none
      else none
    else none
  else
    some (.inr (.inl ((((),()),((),()),()),(((),(),v5,(),()),((),(),v6,(),()),()),(v7,v8,v9,()))))
def ybH (x:(ybd).X):=ymJ x.1.2.2.2.1.1 x.2.1.1.1 x.2.1.1.2.1 x.2.1.1.2.2.1 x.2.1.1.2.2.2.1 x.2.1.2.1.2.2.1 x.2.1.2.2.1.2.2.1 x.2.2.1 x.2.2.2.1 x.2.2.2.2.1
def ysV (x:(yeJ).X):(ybd).X:=((((),()),((),()),((),()),(0,()),()),((x.2.1.1.1,x.2.1.1.2.1,x.2.1.1.2.2.1,x.2.1.1.2.2.2.1,()),((),(),x.2.1.2.1.2.2.1,(),()),((),(),x.2.1.2.2.1.2.2.1,(),()),()),(x.2.2.1,x.2.2.2.1,x.2.2.2.2.1,()))
def yt8:Code:=(zdI ycu 64 244).getD .skip
theorem yEj:zdI ycu 64 61=some (.block 2 (.loop yt8)):=by kernel_rfl
theorem yGG (x:(ybd).X):zg7 ⟨ye8,60,yoX⟩ 2 yt8 244 ybd yew yic x=ybH x:=by kernel_rfl
def ys8 (x:(yeJ).X):Nat:=(fun (u0:List (List Int)) (u1:List dW) (u2:Bool) (u3:List Int) (u4:Bool) (u5:Bool) (u6:List (List Int)) (u7:List dW) (u8:List Int)=>18446744073709551616) x.2.1.1.1 x.2.1.1.2.1 x.2.1.1.2.2.1 x.2.1.1.2.2.2.1 x.2.1.2.1.2.2.1 x.2.1.2.2.1.2.2.1 x.2.2.1 x.2.2.2.1 x.2.2.2.2.1
def yn0 (x:(yeJ).X):Option ((yew).X ⊕ (yic).X):=zr ybH (ys8 x) (ysV x)
def ytq:Seg:=⟨yeJ,yew,yic,yn0⟩
def yvZ:Nat→Option Seg:=fun q=>bif Nat.beq q 61 then some ytq else yoX q
theorem yE4:FrOk Tryz.prog ⟨ye8,60,yvZ⟩ ycu:=(yE3).loop (sg:=ytq) ybd ysV (by decide) yEj ybH ys8 (by decide) (fun _=>rfl) (fun x r _ h=>h) yGG
abbrev yfk:List Par:= [.rd tM]
abbrev ynD:List OT:= [⟨false,tM,(.pr (.ow .fz) (.pr (.ow (.pr .fz .fz)) (.pr .fz (.ow .fz))))⟩]
def ykp (a0:dM):Option (ResD ynD×MutD yfk) :=
  bif (zj4 ([]:List Int).length a0.2.2.2.length 8) then
    zjw (ynZ ((((),()),((),()),((),()),((),()),()),((a0.1,a0.2.1,a0.2.2.1,a0.2.2.2,()),((),(),false,(),()),((),(),a0.2.2.1,(),()),()),([],(([]:List Int)++a0.2.2.2),()))) (fun y0 =>
      zjw (yn0 ((((),()),((),()),((),()),((),()),()),((y0.2.1.1.1,y0.2.1.1.2.1,y0.2.1.1.2.2.1,y0.2.1.1.2.2.2.1,()),((),(),y0.2.1.2.1.2.2.1,(),()),((),(),y0.2.1.2.2.1.2.2.1,(),()),()),(y0.2.2.1,[],y0.2.2.2.1,()))) (fun y1 =>
        some (((y1.2.2.1,y1.2.2.2.1,y1.2.1.2.1.2.2.1,y1.2.2.2.2.1),()),())) (fun y1 =>
        none)) (fun y0 =>
      none)
  else none
theorem yNi (x:InD yfk):zjH ⟨ye8,60,yvZ⟩ Tryz.f128.results.toList ycu yfk ynD x=ykp x.1:=by kernel_rfl
theorem yJu:ConOk Tryz.prog 128 ⟨yfk,ynD,fun x=>ykp x.1⟩:=zkh (yE4) Tryz.func128 (by kernel_rfl) (by kernel_rfl) Tryz.ntmps128.symm (by decide) (fun x r h=>(yNi x).trans h)
def yX (a0:dM):dM:=a0
theorem yLk (a0:dM) (hk:zi9 yfk (a0,())):ykp a0=(fun n=>some ((n,()),())) (yX a0):=by
  have hb1:a0.1.length * 24≤2 ^ 47:=hk.1.1.1
  have hb2:a0.2.1.length * 32≤2 ^ 47:=hk.1.2.1.1
  have hb3:a0.2.2.2.length * 8≤2 ^ 47:=hk.1.2.2.2.1
  have hs: ∀ i,i < a0.1.length→(a0.1.getD i []).length * 8≤2 ^ 47:=fun i hi=>by rw [zcq hi]; exact (hk.1.1.2 _ (List.getElem_mem hi)).1
  have hc: ∀ i,i < a0.2.1.length→(a0.2.1.getD i (0,[])).2.length * 8≤2 ^ 47:=fun i hi=>by rw [zcq hi]; exact (hk.1.2.1.2 _ (List.getElem_mem hi)).2.1
  have h1:ynZ (yDm a0 yg ([],[],a0.2.2.1,a0.2.2.2))=some (.inl (ytf a0 yg (a0.1,[],a0.2.2.1,a0.2.2.2))):=by
    have:=zkk (step:=ybG) a0.1 [] (fun i s=>ymu i a0 yg (s,[],a0.2.2.1,a0.2.2.2)) (fun s x=>s++ [x]) (fun i s=>s.length=i) (fun s=> .inl (ytf a0 yg (s,[],a0.2.2.1,a0.2.2.2))) (fun i s hi hs2=>⟨by
      have:=hs i hi
      simp only [ybG,ymu,ymI,zjI (show (i:Int) < a0.1.length by omega),cond_true,wr (show -9223372036854775808≤(i:Int)+1 by omega) (by omega),Int.natCast_add,Int.natCast_one,Int.toNat_natCast,zkO hi,zjW,List.nil_append]
      rw [zkw.2 (show (([]:List Int).length+(a0.1.getD i []).length) * 8≤140737488355328 by rw [List.length_nil]; omega),zkw.2 (show (s.length+ [a0.1.getD i []].length) * 24≤140737488355328 by simp only [List.length_cons,List.length_nil]; omega)]; rfl,by simp [hs2]⟩) (fun s _=>by simp only [ybG,ymu,ymI,zkm (Int.le_refl _),cond_false]) [] rfl 18446744073709551616 (by omega)
    rw [yOQ]at this
    exact this
  have h2:yn0 (yDn a0 yg (a0.1,[],a0.2.2.1,a0.2.2.2))=some (.inl (ytg yg a0)):=by
    have:=zkk (step:=ybH) a0.2.1 (0,[]) (fun i s=>ymv i a0 yg (a0.1,s,a0.2.2.1,a0.2.2.2)) (fun s x=>s++ [x]) (fun i s=>s.length=i) (fun s=> .inl (ytg yg (a0.1,s,a0.2.2.1,a0.2.2.2))) (fun i s hi hs2=>⟨by
      have:=hc i hi
      simp only [ybH,ymv,ymJ,zjI (show (i:Int) < a0.2.1.length by omega),cond_true,wr (show -9223372036854775808≤(i:Int)+1 by omega) (by omega),Int.natCast_add,Int.natCast_one,Int.toNat_natCast,zkO hi,zjW,List.nil_append,zkV]
      rw [zkw.2 (show (([]:List Int).length+(a0.2.1.getD i (0,[])).2.length) * 8≤140737488355328 by rw [List.length_nil]; omega),zkw.2 (show (s.length+ [a0.2.1.getD i (0,[])].length) * 32≤140737488355328 by simp only [List.length_cons,List.length_nil]; omega)]; rfl,by simp [hs2]⟩) (fun s _=>by simp only [ybH,ymv,ymJ,zkm (Int.le_refl _),cond_false]) [] rfl 18446744073709551616 (by omega)
    rw [yOQ]at this
    exact this
  unfold ykp yX
  rw [zkw.2 (show (([]:List Int).length+a0.2.2.2.length) * 8≤140737488355328 by rw [List.length_nil]; omega)]
  simp only [cond_true,List.nil_append,h1,zkJ,h2]
def ygq:Con:=⟨yfk,ynD,fun x=>(fun n=>some ((n,()),())) (yX x.1)⟩
theorem ylS:ConOk Tryz.prog 128 ygq:=(yJu).mono (fun x r hk h=>(yLk x.1 hk).trans h)
end
end
end Go.Tf
