/- Functions of the program, and what they come to. -/
import Derived.Test.YtgmadfpnljibhaaGreatExactFlushStripeF10
namespace Go.Tf
noncomputable section
open Go.Proofs
set_option synthInstance.maxHeartbeats 400000
set_option synthInstance.maxSize 10000
set_option linter.unusedVariables false
set_option linter.unusedSimpArgs false
set_option maxRecDepth 100000
section
def yzI:Code:=(Tryz.f145.body).getD .skip
def yz8:Env:=zki TT [(111,yyl),(164,ywm),(165,yym),(200,yde)] []
theorem yHw:FrOk Tryz.prog ⟨yz8,44,fun _=>none⟩ yzI:=zkp yb yc ⟨yNP,yLH,yNQ,ygU,trivial⟩
def yIM:Nat→Option Seg:=fun _=>none
abbrev yar:List Par:= [.pt tA (.pr .fz (.pr (.pr .fz .fz) (.pr (.ow (.pr (.ow (.ow .fz)) (.pr (.ow (.pr .fz (.ow .fz))) (.pr .fz (.ow .fz))))) (.pr .fz (.pr .fz (.pr .fz (.pr .fz (.pr .fz (.pr (.ow (.pr .fz (.ow .fz))) (.pr .fz (.pr .fz .fz))))))))))),.rd tI,.rd tL]
abbrev ydd:List OT:= [⟨false,tB,.fz⟩]
def yhf (a0:dA) (a1:Int) (a2:List Int):Option (ResD ydd×MutD yar) :=
 bif (leb 4 (IntKind.i64.wrap (a0.2.2.2.2.2.1 - a0.2.2.2.2.2.2.1))) then
 bnd (yl1 a0) fun r1 =>
 bif (!r1.1.1) then
 some ((false,()),(r1.2.1,()))
 else
 let r2:=yi a2
 bnd (ydg r1.2.1 (r1.2.1.2.2.2.2.2.1,a1,r2)) fun r3 =>
 bif (!r3.1.1) then
 some ((false,()),(r3.2.1,()))
 else
 bnd (yb3 (r3.2.1.1,r3.2.1.2.1,r3.2.1.2.2.1,r3.2.1.2.2.2.1,r3.2.1.2.2.2.2.1,(IntKind.i64.wrap (r3.2.1.2.2.2.2.2.1+1)),r3.2.1.2.2.2.2.2.2) a1 a2) fun r4 =>
 some ((r4.1.1,()),(r4.2.1,()))
 else
 let r5:=yi a2
 bnd (ydg a0 (a0.2.2.2.2.2.1,a1,r5)) fun r6 =>
 bif (!r6.1.1) then
 some ((false,()),(r6.2.1,()))
 else
 bnd (yb3 (r6.2.1.1,r6.2.1.2.1,r6.2.1.2.2.1,r6.2.1.2.2.2.1,r6.2.1.2.2.2.2.1,(IntKind.i64.wrap (r6.2.1.2.2.2.2.2.1+1)),r6.2.1.2.2.2.2.2.2) a1 a2) fun r7 =>
 some ((r7.1.1,()),(r7.2.1,()))
theorem yMw (x:InD yar):zjH ⟨yz8,44,yIM⟩ Tryz.f145.results.toList yzI yar ydd x=yhf x.1 x.2.1 x.2.2.1:=by kernel_rfl
theorem yJh:ConOk Tryz.prog 145 ⟨yar,ydd,fun x=>yhf x.1 x.2.1 x.2.2.1⟩:=zkh (yHw) Tryz.func145 (by kernel_rfl) (by kernel_rfl) Tryz.ntmps145.symm (by decide) (fun x r h=>(yMw x).trans h)
def yfQ (a0:dA) (a1:Int) (a2:List Int):Bool×dA:=(!(yd (yaW a0 a1 a2).2),(yaW a0 a1 a2).2)
def yfT (a0:dA) (a1:Int) (a2:List Int):Bool:= !(yd a0)&&(yL a0.2.1 a1&&((a2.length:Int)==a0.2.1.1 - 1&&(a0.2.2.1.length:Int)==a0.2.1.1))
theorem yLv (a0:dA) (a1:Int) (a2:List Int) (hk:zi9 yar (a0,a1,a2,())) (hq:yfT a0 a1 a2=true):yhf a0 a1 a2=(fun n=>some ((n.1,()),(n.2,()))) (yfQ a0 a1 a2):=by
 simp only [yfT,Bool.and_eq_true,beq_iff_eq,Bool.not_eq_true'] at hq
 obtain ⟨hd0,hs0,hl0,hm0⟩:=hq
 have key: ∀ b:dA,b.2.1=a0.2.1→b.2.2.1.length=a0.2.2.1.length→yd (yaj b (b.2.2.2.2.2.1,a1,a2))=false→yb3 (yak (yaj b (b.2.2.2.2.2.1,a1,a2))) a1 a2=some ((!(yd (yI (yak (yaj b (b.2.2.2.2.2.1,a1,a2))) a1 a2)),()),(yI (yak (yaj b (b.2.2.2.2.2.1,a1,a2))) a1 a2,())):=fun b h1 h2 h3=>yNV _ _ _ (by
  unfold ygV
  rw [show yd (yak (yaj b (b.2.2.2.2.2.1,a1,a2)))=yd (yaj b (b.2.2.2.2.2.1,a1,a2)) from rfl,h3,show (yak (yaj b (b.2.2.2.2.2.1,a1,a2))).2.1=a0.2.1 from (yw9 (yRD _ _)).trans h1,show (yak (yaj b (b.2.2.2.2.2.1,a1,a2))).2.2.1.length=a0.2.2.1.length from (y1M _ _).trans h2,hs0,hl0,hm0]
  simp)
 have fin: ∀ b:dA,b.2.1=a0.2.1→b.2.2.1.length=a0.2.2.1.length→yd b=false →
   (bnd (ydg b (b.2.2.2.2.2.1,a1,a2)) fun r3=>bif !r3.1.1 then some ((false,()),(r3.2.1,())) else bnd (yb3 (yak r3.2.1) a1 a2) fun r4=>(some ((r4.1.1,()),(r4.2.1,())):Option (ResD ydd×MutD yar))) =
   some ((!(yd (bif yd (yaj b (b.2.2.2.2.2.1,a1,a2)) then (6,yaj b (b.2.2.2.2.2.1,a1,a2)) else (bif yd (yI (yak (yaj b (b.2.2.2.2.2.1,a1,a2))) a1 a2) then 6 else 0,yI (yak (yaj b (b.2.2.2.2.2.1,a1,a2))) a1 a2):Int×dA).2),()),((bif yd (yaj b (b.2.2.2.2.2.1,a1,a2)) then (6,yaj b (b.2.2.2.2.2.1,a1,a2)) else (bif yd (yI (yak (yaj b (b.2.2.2.2.2.1,a1,a2))) a1 a2) then 6 else 0,yI (yak (yaj b (b.2.2.2.2.2.1,a1,a2))) a1 a2):Int×dA).2,())):=fun b h1 h2 h3=>by
  rw [yLN b _ (by unfold yfS; rw [h3]; rfl)]
  have hk:=key b h1 h2
  simp only [zky,yfP]
  generalize yaj b (b.2.2.2.2.2.1,a1,a2)=R at hk ⊢
  rcases Bool.eq_false_or_eq_true (yd R) with hr | hr
  ·simp only [hr,Bool.not_true,Bool.not_false,cond_true]
  ·rw [hk hr]
   simp only [hr,Bool.not_false,Bool.not_true,cond_false,zky]
 unfold yhf yfQ yaW ycC
 simp only [yi]
 cases h4:leb 4 (IntKind.i64.wrap (a0.2.2.2.2.2.1 - a0.2.2.2.2.2.2.1))
 ·simp only [cond_false]
  have:=fin a0 rfl rfl hd0
  unfold yak at this ⊢
  rw [this]
  rw [show yd a0=false from hd0]; rfl
 ·simp only [cond_true]
  rw [yNU a0 (by unfold yl4; rw [hd0]; rfl)]
  simp only [zky,ygM]
  rcases Bool.eq_false_or_eq_true (yd (yu a0)) with hc | hc
  ·simp only [hc,Bool.not_true,Bool.not_false,cond_true]
  ·have:=fin (yu a0) (yKs a0) (yua a0) hc
   simp only [hc,Bool.not_false,Bool.not_true,cond_false]
   unfold yak at this ⊢
   exact this
def yjS (a0:dA) (a1:Int) (a2:List Int):Option (ResD ydd×MutD yar):=bif yfT a0 a1 a2 then (fun n=>some ((n.1,()),(n.2,()))) (yfQ a0 a1 a2) else none
theorem yLO (a0:dA) (a1:Int) (a2:List Int) (h:yfT a0 a1 a2=true):yjS a0 a1 a2=(fun n=>some ((n.1,()),(n.2,()))) (yfQ a0 a1 a2):=by unfold yjS; rw [h]; rfl
def ywn:Con:=⟨yar,ydd,fun x=>yjS x.1 x.2.1 x.2.2.1⟩
theorem yLI:ConOk Tryz.prog 145 ywn:=(yJh).mono (fun x r hk h=>zkW h (fun hq=>yLv x.1 x.2.1 x.2.2.1 hk hq))
end
section
def yIe:Code:=(Tryz.f146.body).getD .skip
def yID:Env:=zki TT [(46,yw7),(135,yl),(225,ygJ)] []
theorem yPM:FrOk Tryz.prog ⟨yID,48,fun _=>none⟩ yIe:=zkp yb yc ⟨yIK,yp,yoF,trivial⟩
def yR3:Nat→Option Seg:=fun _=>none
abbrev ymR:List Par:= [.rd tA,.rd tI,.rd tL]
abbrev ysX:List OT:= [⟨false,tI,.fz⟩]
def yv9 (a0:dA) (a1:Int) (a2:List Int):Option (ResD ysX×MutD ymR) :=
 let r1:=ybM a0
 bif (!(!r1)) then
 bif (!((a2.length:Int) !=(IntKind.i64.wrap (a0.2.1.1 - 1)))) then
 let r2:=yF a2
 bif (!r2) then
 some ((1,()),())
 else
 bif a0.2.2.2.2.2.2.2.2.2.2.1 then
 some ((6,()),())
 else
 let r3:=ya a1 0 (IntKind.i64.wrap (a0.2.1.2 - 1))
 bif (!r3) then
 some ((2,()),())
 else
 bif a0.2.2.2.2.2.2.2.2.2.2.2 then
 some ((5,()),())
 else
 bif (!(leb 60000 a0.2.2.2.2.2.1)) then
 bif (leb 59990 a0.2.2.2.2.2.2.2.1) then
 some ((7,()),())
 else
 some ((0,()),())
 else
 some ((7,()),())
 else
 some ((1,()),())
 else
 some ((1,()),())
theorem yY5 (x:InD ymR):zjH ⟨yID,48,yR3⟩ Tryz.f146.results.toList yIe ymR ysX x=yv9 x.1 x.2.1 x.2.2.1:=by kernel_rfl
theorem yUB:ConOk Tryz.prog 146 ⟨ymR,ysX,fun x=>yv9 x.1 x.2.1 x.2.2.1⟩:=zkh (yPM) Tryz.func146 (by kernel_rfl) (by kernel_rfl) Tryz.ntmps146.symm (by decide) (fun x r h=>(yY5 x).trans h)
def yo (a0:dA) (a1:Int) (a2:List Int):Int :=
 let r1:=ybM a0
 bif (!(!r1)) then
 bif (!((a2.length:Int) !=(IntKind.i64.wrap (a0.2.1.1 - 1)))) then
 let r2:=yF a2
 bif (!r2) then
 1
 else
 bif a0.2.2.2.2.2.2.2.2.2.2.1 then
 6
 else
 let r3:=ya a1 0 (IntKind.i64.wrap (a0.2.1.2 - 1))
 bif (!r3) then
 2
 else
 bif a0.2.2.2.2.2.2.2.2.2.2.2 then
 5
 else
 bif (!(leb 60000 a0.2.2.2.2.2.1)) then
 bif (leb 59990 a0.2.2.2.2.2.2.2.1) then
 7
 else
 0
 else
 7
 else
 1
 else
 1
def yFu:Con:=⟨ymR,ysX,fun x=>(fun n=>some ((n,()),())) (yo x.1 x.2.1 x.2.2.1)⟩
theorem yWZ (a0:dA) (a1:Int) (a2:List Int):yv9 a0 a1 a2=(fun n=>some ((n,()),())) (yo a0 a1 a2):=zkS (p:=fun (n:Int)=>((n,()),())) (zkx (p:=fun (n:Int)=>((n,()),())) (zkx (p:=fun (n:Int)=>((n,()),())) (zkx (p:=fun (n:Int)=>((n,()),())) rfl (zkx (p:=fun (n:Int)=>((n,()),())) rfl (zkx (p:=fun (n:Int)=>((n,()),())) rfl (zkx (p:=fun (n:Int)=>((n,()),())) rfl (zkx (p:=fun (n:Int)=>((n,()),())) (zkx (p:=fun (n:Int)=>((n,()),())) rfl rfl) rfl))))) rfl) rfl)
theorem yXY:ConOk Tryz.prog 146 yFu:=(yUB).mono (fun x r _ h=>(yWZ x.1 x.2.1 x.2.2.1).trans h)
def yxQ (l:List dW) (k:Nat):List dW:=l.take k++l.drop (k+1)
def yi1 (a:dA) (s:Int):Int×dA :=
 bif ltb (yq a.2.2.2.2.2.2.2.2.1 s) 0 then (0,a) else
 bif yo a s (nth a.2.2.2.2.2.2.2.2.1 (yq a.2.2.2.2.2.2.2.2.1 s) (0,[])).2 !=0 then (yo a s (nth a.2.2.2.2.2.2.2.2.1 (yq a.2.2.2.2.2.2.2.2.1 s) (0,[])).2,a) else
 bif (yaW a s (nth a.2.2.2.2.2.2.2.2.1 (yq a.2.2.2.2.2.2.2.2.1 s) (0,[])).2).1==0 then
 (0,yHQ (yaW a s (nth a.2.2.2.2.2.2.2.2.1 (yq a.2.2.2.2.2.2.2.2.1 s) (0,[])).2).2 (yxQ a.2.2.2.2.2.2.2.2.1 (yq a.2.2.2.2.2.2.2.2.1 s).toNat))
 else yaW a s (nth a.2.2.2.2.2.2.2.2.1 (yq a.2.2.2.2.2.2.2.2.1 s) (0,[])).2
theorem yYd {a:dA} {s:Int} {d:List Int} (h:yo a s d=0):yB a=true∧(d.length:Int)=a.2.1.1 - 1∧d.all isW=true∧yd a=false∧yL a.2.1 s=true∧a.2.2.2.2.2.2.2.2.2.2.2=false∧a.2.2.2.2.2.1 < 60000∧a.2.2.2.2.2.2.2.1 < 59990:=by
 unfold yo at h
 simp only [ybM,yne,ye1]at h
 cases ha:yB a
 ·rw [ha]at h; exact absurd (show (1:Int)=0 from h) (by decide)
 have hg:=ym.1 (yew ha)
 rw [ha,wr (show -9223372036854775808≤a.2.1.1 - 1 by omega) (by omega),wr (show -9223372036854775808≤a.2.1.2 - 1 by omega) (by omega)] at h
 cases hl:((d.length:Int) !=a.2.1.1 - 1)
 ·cases hw:d.all isW
  ·rw [hl,hw]at h; exact absurd (show (1:Int)=0 from h) (by decide)
  cases hd:a.2.2.2.2.2.2.2.2.2.2.1
  ·cases hs:(leb 0 s&&leb s (a.2.1.2 - 1))
   ·rw [hl,hw,hd,hs]at h; exact absurd (show (2:Int)=0 from h) (by decide)
   cases hb:a.2.2.2.2.2.2.2.2.2.2.2
   ·cases h6:leb 60000 a.2.2.2.2.2.1
    ·cases h7:leb 59990 a.2.2.2.2.2.2.2.1
     ·have e6: ¬ (60000≤a.2.2.2.2.2.1):=fun g=>by rw [zk0 g]at h6; cases h6
      have e7: ¬ (59990≤a.2.2.2.2.2.2.2.1):=fun g=>by rw [zk0 g]at h7; cases h7
      exact ⟨rfl,bne_eq_false_iff_eq.1 hl,rfl,hd,by unfold yL; rw [yew ha,hs]; rfl,rfl,by omega,by omega⟩
     ·rw [hl,hw,hd,hs,hb,h6,h7]at h; exact absurd (show (7:Int)=0 from h) (by decide)
    ·rw [hl,hw,hd,hs,hb,h6]at h; exact absurd (show (7:Int)=0 from h) (by decide)
   ·rw [hl,hw,hd,hs,hb]at h; exact absurd (show (5:Int)=0 from h) (by decide)
  ·rw [hl,hw,hd]at h; exact absurd (show (6:Int)=0 from h) (by decide)
 ·rw [hl]at h; exact absurd (show (1:Int)=0 from h) (by decide)
theorem yYc (a:dA):(ycC a).2.2.2.2.2.2.2.2.1=a.2.2.2.2.2.2.2.2.1:=by
 unfold ycC
 cases leb 4 (IntKind.i64.wrap (a.2.2.2.2.2.1 - a.2.2.2.2.2.2.1))
 ·rfl
 ·exact yxN a
theorem y1A (a:dA):(yak a).2.2.2.2.2.2.2.2.1=a.2.2.2.2.2.2.2.2.1:=rfl
theorem yOq (a:dA) (s:Int) (d:List Int):(yaW a s d).2.2.2.2.2.2.2.2.2.1=a.2.2.2.2.2.2.2.2.1:=by
 unfold yaW
 have h2:=(ySo (yRD (ycC a) ((ycC a).2.2.2.2.2.1,s,d))).trans (yYc a)
 generalize yaj (ycC a) ((ycC a).2.2.2.2.2.1,s,d)=R at h2 ⊢
 have h3:=(ySo (y2b (yak R) s d)).trans ((y1A R).trans h2)
 generalize yI (yak R) s d=Q at h3 ⊢
 cases yd (ycC a)
 ·cases yd R
  ·exact h3
  ·exact h2
 ·exact yYc a
theorem y2c {l:List dW} {k:Int} (h0:0≤k) (h1:k < (l.length:Int)):(([]:List dW)++((l.drop (0:Int).toNat).take (k - 0).toNat))++((l.drop (k+1).toNat).take ((l.length:Int) - (k+1)).toNat)=yxQ l k.toNat:=by
 unfold yxQ
 rw [List.nil_append,show (0:Int).toNat=0 from rfl,List.drop_zero,Int.sub_zero,show (k+1).toNat=k.toNat+1 by omega,List.take_of_length_le (l:=l.drop (k.toNat+1)) (by rw [List.length_drop]; omega)]
def y34 (_:Nat) (a:dA):dA ⊕ (Int×dA):=bif (yi1 a (nth a.2.2.2.2.2.2.2.2.1 0 (0,[])).1).1 !=0 then .inr (yi1 a (nth a.2.2.2.2.2.2.2.2.1 0 (0,[])).1) else .inl (yi1 a (nth a.2.2.2.2.2.2.2.2.1 0 (0,[])).1).2
def y3o (a:dA):Int×dA:=goE y34 (fun b=>(0,b)) a.2.2.2.2.2.2.2.2.1.length 0 a
theorem y1O {e:dW} {l:List dW}:yq (e::l) e.1=0:=by
 unfold yq
 rw [yvD,show (e.1==e.1)=true from beq_self_eq_true _]; rfl
theorem y3I {a:dA} (h:0 < a.2.2.2.2.2.2.2.2.1.length) (h0:(yi1 a (nth a.2.2.2.2.2.2.2.2.1 0 (0,[])).1).1=0):(yi1 a (nth a.2.2.2.2.2.2.2.2.1 0 (0,[])).1).2.2.2.2.2.2.2.2.2.1=a.2.2.2.2.2.2.2.2.1.drop 1:=by
 unfold yi1 at h0 ⊢
 have hk:yq a.2.2.2.2.2.2.2.2.1 (nth a.2.2.2.2.2.2.2.2.1 0 (0,[])).1=0:=by
  cases hl:a.2.2.2.2.2.2.2.2.1 with
  | nil=>rw [hl]at h; exact absurd h (Nat.lt_irrefl 0)
  | cons e l=>exact y1O
 rw [hk]at h0 ⊢
 generalize (nth a.2.2.2.2.2.2.2.2.1 0 (0,[])).2=D at h0 ⊢
 generalize (nth a.2.2.2.2.2.2.2.2.1 0 (0,[])).1=s at h0 ⊢
 cases hc:(yo a s D !=0)
 ·rw [hc]at h0
  cases hr:((yaW a s D).1==0)
  ·rw [hr]at h0
   exact absurd (show (yaW a s D).1=0 from h0) (beq_eq_false_iff_ne.1 hr)
  ·rfl
 ·rw [hc]at h0
  exact absurd (show yo a s D=0 from h0) (bne_iff_ne.1 hc)
def y0i (g:dG) (e:dW):Prop:=(0≤e.1∧e.1≤g.2 - 1)∧(e.2.length:Int)=g.1 - 1∧e.2.all isW=true
theorem yFx {g:dG} {l:List dW}:yaE g l=true↔(∀ e∈l,y0i g e)∧l.Pairwise (fun x y=>x.1 < y.1):=by
 have bad: ∀ i,yhC g l i=false↔y0i g (nth l i (0,[]))∧(0 < i→(nth l ((i - 1:Nat):Int) (0,[])).1 < (nth l i (0,[])).1):=by
  intro i
  unfold yhC y0i
  simp only [Bool.or_eq_false_iff,Bool.not_eq_false',bne_eq_false_iff_eq,Bool.and_eq_true,Bool.and_eq_false_iff,decide_eq_false_iff_not,zjQ]
  constructor
  ·rintro ⟨h1,h2,h3,h4⟩
   refine ⟨⟨h1,h2,h3⟩,fun h0=> ?_⟩
   rcases h4 with h4 | h4
   ·exact absurd h0 h4
   ·have:=mt zk0 (by rw [h4]; simp: ¬ leb (nth l i (0,[])).1 (nth l ((i - 1:Nat):Int) (0,[])).1=true)
    omega
  ·rintro ⟨⟨h1,h2,h3⟩,h4⟩
   refine ⟨h1,h2,h3,?_⟩
   by_cases h0:0 < i
   ·exact .inr (zkZ (by have:=h4 h0; omega))
   ·exact .inl h0
 unfold yaE
 simp only [Bool.not_eq_true',List.any_eq_false,List.mem_range,Bool.not_eq_true,bad]
 constructor
 ·intro h
  refine ⟨fun e he=> ?_,?_⟩
  ·obtain ⟨i,hi,rfl⟩:=List.getElem_of_mem he
   have:=(h i hi).1
   rwa [zjW,zcq hi]at this
  ·rw [List.pairwise_iff_getElem]
   have step: ∀ (d i:Nat) (hi:i < l.length) (hj:i+d+1 < l.length),l[i].1 < l[i+d+1].1:=by
    intro d
    induction d with
    | zero =>
     intro i hi hj
     have:=(h (i+1) hj).2 (by omega)
     rwa [Nat.add_sub_cancel,zjW,zjW,zcq hi,zcq hj]at this
    | succ d ih =>
     intro i hi hj
     have h1:=ih i hi (by omega)
     have:=(h (i+d+1+1) hj).2 (by omega)
     rw [Nat.add_sub_cancel,zjW,zjW,zcq (show i+d+1 < l.length by omega),zcq (show i+d+1+1 < l.length from hj)] at this
     exact Int.lt_trans h1 this
   intro i j hi hj hij
   have:=step (j - i - 1) i hi (by omega)
   have e:i+(j - i - 1)+1=j:=by omega
   simp only [e]at this
   exact this
 ·rintro ⟨h1,h2⟩ i hi
  rw [List.pairwise_iff_getElem]at h2
  refine ⟨by rw [zjW,zcq hi]; exact h1 _ (List.getElem_mem hi),fun h0=> ?_⟩
  rw [zjW,zjW,zcq hi,zcq (show i - 1 < l.length by omega)]
  exact h2 (i - 1) i (by omega) hi (by omega)
theorem y32 {g:dG} {l:List dW} (k:Nat) (h:yaE g l=true):yaE g (yxQ l k)=true:=by
 rw [yFx]at h ⊢
 have hs:(yxQ l k).Sublist l:=by
  unfold yxQ
  have:(l.take k++l.drop (k+1)).Sublist (l.take k++l.drop k):=List.Sublist.append_left (by rw [← List.drop_drop]; exact List.drop_sublist _ _) _
  rwa [List.take_append_drop]at this
 exact ⟨fun e he=>h.1 e (hs.subset he),h.2.sublist hs⟩
theorem y1g (e:dW): ∀ (l acc:List dW),l.foldl (ybN e) (true,acc)=(true,acc++l.filter (fun x=>x.1 !=e.1))
 | [],acc=>by simp
 | x::t,acc=>by
  rw [List.foldl_cons]
  have:ybN e (true,acc) x=(true,acc++(bif x.1 !=e.1 then [x] else [])):=rfl
  rw [this,y1g e t,List.filter_cons]
  cases x.1 !=e.1<;>simp
theorem yYn {e:dW} {l:List dW} (h:l.Pairwise (fun x y=>x.1 < y.1)):yHj l e=l.filter (fun x=>ltb x.1 e.1)++e::l.filter (fun x=>ltb e.1 x.1):=by
 have: ∀ (l acc:List dW),l.Pairwise (fun x y=>x.1 < y.1)→(bif (l.foldl (ybN e) (false,acc)).1 then (l.foldl (ybN e) (false,acc)).2 else (l.foldl (ybN e) (false,acc)).2++ [e])=acc++(l.filter (fun x=>ltb x.1 e.1)++e::l.filter (fun x=>ltb e.1 x.1)):=by
  intro l
  induction l with
  | nil=>intro acc _; simp
  | cons x t ih =>
   intro acc h
   obtain ⟨hx,ht⟩:=List.pairwise_cons.1 h
   rw [List.foldl_cons]
   by_cases hle:e.1≤x.1
   ·have h1:ybN e (false,acc) x=(true,(acc++ [e])++(bif x.1 !=e.1 then [x] else [])):=by
     unfold ybN; rw [zk0 hle]; rfl
    have h2:t.filter (fun x=>x.1 !=e.1)=t:=List.filter_eq_self.2 (fun y hy=>bne_iff_ne.2 (by have:=hx y hy; omega))
    have h3:t.filter (fun x=>ltb x.1 e.1)= []:=List.filter_eq_nil_iff.2 (fun y hy=>by rw [zkm (by have:=hx y hy; omega)]; simp)
    have h4:t.filter (fun x=>ltb e.1 x.1)=t:=List.filter_eq_self.2 (fun y hy=>zjI (by have:=hx y hy; omega))
    rw [h1,y1g,h2,List.filter_cons,List.filter_cons,h3,h4,zkm (show e.1≤x.1 by omega)]
    by_cases he:x.1=e.1
    ·rw [show (x.1 !=e.1)=false from bne_eq_false_iff_eq.2 he,zkm (show x.1≤e.1 by omega)]; simp
    ·rw [show (x.1 !=e.1)=true from bne_iff_ne.2 he,zjI (show e.1 < x.1 by omega)]; simp
   ·have h1:ybN e (false,acc) x=(false,acc++ [x]):=by
     unfold ybN; rw [zkZ (show x.1 < e.1 by omega),show (x.1 !=e.1)=true from bne_iff_ne.2 (by omega)]; rfl
    rw [h1,ih _ ht,List.filter_cons,List.filter_cons,zjI (show x.1 < e.1 by omega),zkm (show x.1≤e.1 by omega)]
    simp
 have:=this l [] h
 rw [List.nil_append]at this
 exact this
theorem y33 {g:dG} {l:List dW} {e:dW} (h:yaE g l=true) (he:y0i g e):yaE g (yHj l e)=true:=by
 rw [yFx]at h ⊢
 rw [yYn h.2]
 refine ⟨fun x hx=> ?_,?_⟩
 ·rcases List.mem_append.1 hx with h1 | h1
  ·exact h.1 x (List.mem_filter.1 h1).1
  ·rcases List.mem_cons.1 h1 with rfl | h1
   ·exact he
   ·exact h.1 x (List.mem_filter.1 h1).1
 ·rw [List.pairwise_append,List.pairwise_cons]
  refine ⟨h.2.filter _,⟨fun y hy=>zjT.1 (List.mem_filter.1 hy).2,h.2.filter _⟩,fun x hx y hy=> ?_⟩
  have h1:=zjT.1 (List.mem_filter.1 hx).2
  rcases List.mem_cons.1 hy with rfl | hy
  ·exact h1
  ·exact Int.lt_trans h1 (zjT.1 (List.mem_filter.1 hy).2)
theorem yYe {g:dG} {l:List dW} (h:yaE g l=true) (hg:yf g=true):l.length≤8:=by
 rw [yFx]at h
 have hg:=ym.1 hg
 have:=yVN (l:=l.map (fun e=>e.1)) (lo:=0) (n:=g.2) (by rw [List.pairwise_map]; exact h.2) (fun x hx=>by
  obtain ⟨e,he,rfl⟩:=List.mem_map.1 hx
  have:=(h.1 e he).1; omega) (by omega)
 rw [List.length_map]at this
 omega
def yRG (a:dA) (s:Int) (d:List Int):dA×Int:=bif yo a s d !=0 then (a,yo a s d) else ((yaW a s d).2,(yaW a s d).1)
theorem y17 (a:dA) (s:Int) (d:List Int):(yaW a s d).1=bif yd (yaW a s d).2 then 6 else 0:=by
 unfold yaW
 generalize ycC a=C
 generalize yaj C (C.2.2.2.2.2.1,s,d)=R
 generalize yI (yak R) s d=Q
 rcases Bool.eq_false_or_eq_true (yd C) with h | h
 ·rw [h,cond_true]
  exact (congrArg (fun x=>bif x then (6:Int) else 0) h).symm
 ·rw [h,cond_false]
  rcases Bool.eq_false_or_eq_true (yd R) with h2 | h2
  ·rw [h2,cond_true]
   exact (congrArg (fun x=>bif x then (6:Int) else 0) h2).symm
  ·rw [h2,cond_false]
end
section
def yxV:Code:=(Tryz.f53.body).getD .skip
def yx7:Env:=zki TT [(45,yw5),(98,ytt),(102,yFd),(116,yci),(144,yvn),(145,ywn)] []
theorem yG3:FrOk Tryz.prog ⟨yx7,55,fun _=>none⟩ yxV:=zkp yb yc ⟨yII,yFD,yXH,yfR,yHc,yLI,trivial⟩
def yHm:Nat→Option Seg:=fun _=>none
abbrev yb7:List Par:= [.rd tA,.rd tI,.rd tL]
abbrev yiC:List OT:= [⟨false,tA,(.pr .fz (.pr (.pr .fz .fz) (.pr (.ow (.pr (.ow (.ow .fz)) (.pr (.ow (.pr .fz (.ow .fz))) (.pr .fz (.ow .fz))))) (.pr .fz (.pr .fz (.pr .fz (.pr .fz (.pr .fz (.pr (.ow (.pr .fz (.ow .fz))) (.pr .fz (.pr .fz .fz)))))))))))⟩,⟨false,tI,.fz⟩]
def yf0 (a0:dA) (a1:Int) (a2:List Int):Option (ResD yiC×MutD yb7) :=
 let r1:=yan a0
 let r2:=ygL a0
 bif (!(!r2)) then
 let r3:=ydz a0.2.1 a2
 bif (!r3) then
 some ((r1,1,()),())
 else
 bif a0.2.2.2.2.2.2.2.2.2.2.1 then
 some ((r1,6,()),())
 else
 let r4:=yR a0.2.1 a1
 bif (!r4) then
 some ((r1,2,()),())
 else
 bif a0.2.2.2.2.2.2.2.2.2.2.2 then
 some ((r1,5,()),())
 else
 bif (!(a0.2.2.2.2.2.1==60000)) then
 bif (leb 59990 a0.2.2.2.2.2.2.2.1) then
 some ((r1,7,()),())
 else
 bnd (yjS r1 a1 a2) fun r5 =>
 let r6:=ys3 r5.1.1
 some ((r5.2.1,r6,()),())
 else
 some ((r1,7,()),())
 else
 some ((r1,1,()),())
theorem yKv (x:InD yb7):zjH ⟨yx7,55,yHm⟩ Tryz.f53.results.toList yxV yb7 yiC x=yf0 x.1 x.2.1 x.2.2.1:=by kernel_rfl
theorem yHI:ConOk Tryz.prog 53 ⟨yb7,yiC,fun x=>yf0 x.1 x.2.1 x.2.2.1⟩:=zkh (yG3) Tryz.func53 (by kernel_rfl) (by kernel_rfl) Tryz.ntmps53.symm (by decide) (fun x r h=>(yKv x).trans h)
def yez (a0:dA) (a1:Int) (a2:List Int):dA×Int:=yRG a0 a1 a2
theorem yJd (a0:dA) (a1:Int) (a2:List Int) (hk:zi9 yb7 (a0,a1,a2,())):yf0 a0 a1 a2=(fun n=>some ((n.1,n.2,()),())) (yez a0 a1 a2):=by
 have hz:=fun h=>yYd (a:=a0) (s:=a1) (d:=a2) h
 unfold yf0 yez yRG
 unfold yo at hz ⊢
 simp only [yan,ygL,ybM,yne,ye1]at hz ⊢
 cases ha:yB a0
 ·rfl
 have hg:=ym.1 (yew ha)
 have hc:=(y21.1 ha).1
 unfold yGX at hc
 have hdo:ydz a0.2.1 a2=((a2.length:Int)==a0.2.1.1 - 1&&a2.all isW):=by
  unfold ydz
  rw [yvE,wr (show -9223372036854775808≤a0.2.1.1 - 1 by omega) (by omega)]
  cases ((a2.length:Int)==a0.2.1.1 - 1)<;>rfl
 rw [hdo,yxR,show yL a0.2.1 a1=(leb 0 a1&&leb a1 (a0.2.1.2 - 1)) by unfold yL; rw [yew ha]; rfl]
 rw [ha,wr (show -9223372036854775808≤a0.2.1.1 - 1 by omega) (by omega),wr (show -9223372036854775808≤a0.2.1.2 - 1 by omega) (by omega)] at hz
 rw [wr (show -9223372036854775808≤a0.2.1.1 - 1 by omega) (by omega),wr (show -9223372036854775808≤a0.2.1.2 - 1 by omega) (by omega)]
 rw [show (a0.2.2.2.2.2.1==60000)=leb 60000 a0.2.2.2.2.2.1 by rw [Bool.eq_iff_iff,beq_iff_eq,zjQ]; omega]
 unfold bne at hz ⊢
 cases hl:((a2.length:Int)==a0.2.1.1 - 1)
 ·rfl
 cases hw:a2.all isW
 ·rfl
 rcases Bool.eq_false_or_eq_true a0.2.2.2.2.2.2.2.2.2.2.1 with hd | hd
 ·simp only [hd,Bool.not_true,Bool.not_false,Bool.and_self,cond_true,cond_false]; rfl
 cases hs:(leb 0 a1&&leb a1 (a0.2.1.2 - 1))
 ·simp only [hd,Bool.not_true,Bool.not_false,Bool.and_self,cond_true,cond_false]; rfl
 rcases Bool.eq_false_or_eq_true a0.2.2.2.2.2.2.2.2.2.2.2 with hb | hb
 ·simp only [hd,hb,Bool.not_true,Bool.not_false,Bool.and_self,cond_true,cond_false]; rfl
 cases h6:leb 60000 a0.2.2.2.2.2.1
 ·cases h7:leb 59990 a0.2.2.2.2.2.2.2.1
  ·simp only [hd,hb,Bool.not_true,Bool.not_false,Bool.and_self,cond_true,cond_false,beq_self_eq_true]
   have hso:yL a0.2.1 a1=true:=by unfold yL; rw [yew ha,hs]; rfl
   rw [yLO a0 a1 a2 (by unfold yfT; rw [show yd a0=false from hd,hso,hl,beq_iff_eq.2 (yKp ha)]; rfl)]
   simp only [zky,yfQ,ys3]
   rw [y17]
   cases yd (yaW a0 a1 a2).2<;>rfl
  ·simp only [hd,hb,Bool.not_true,Bool.not_false,Bool.and_self,cond_true,cond_false]; rfl
 ·simp only [hd,hb,Bool.not_true,Bool.not_false,Bool.and_self,cond_true,cond_false]; rfl
def yvm:Con:=⟨yb7,yiC,fun x=>(fun n=>some ((n.1,n.2,()),())) (yez x.1 x.2.1 x.2.2.1)⟩
theorem yJm:ConOk Tryz.prog 53 yvm:=(yHI).mono (fun x r hk h=>(yJd x.1 x.2.1 x.2.2.1 hk).trans h)
end
section
def yJN:Code:=(Tryz.f104.body).getD .skip
def yKc:Env:=zki TT [(46,yw7)] []
theorem yTt:FrOk Tryz.prog ⟨yKc,8,fun _=>none⟩ yJN:=zkp yb yc ⟨yIK,trivial⟩
def yVK:Nat→Option Seg:=fun _=>none
abbrev ypI:List Par:= [.rd tA]
abbrev yvg:List OT:= [⟨false,tI,.fz⟩]
def yxD (a0:dA):Option (ResD yvg×MutD ypI) :=
 let r1:=ybM a0
 bif (!r1) then
 some ((1,()),())
 else
 bif a0.2.2.2.2.2.2.2.2.2.2.1 then
 some ((6,()),())
 else
 some ((0,()),())
theorem y0T (x:InD ypI):zjH ⟨yKc,8,yVK⟩ Tryz.f104.results.toList yJN ypI yvg x=yxD x.1:=by kernel_rfl
theorem yXz:ConOk Tryz.prog 104 ⟨ypI,yvg,fun x=>yxD x.1⟩:=zkh (yTt) Tryz.func104 (by kernel_rfl) (by kernel_rfl) Tryz.ntmps104.symm (by decide) (fun x r h=>(y0T x).trans h)
def yp0 (a0:dA):Int :=
 let r1:=ybM a0
 bif (!r1) then
 1
 else
 bif a0.2.2.2.2.2.2.2.2.2.2.1 then
 6
 else
 0
def yGV:Con:=⟨ypI,yvg,fun x=>(fun n=>some ((n,()),())) (yp0 x.1)⟩
theorem yZH (a0:dA):yxD a0=(fun n=>some ((n,()),())) (yp0 a0):=zkS (p:=fun (n:Int)=>((n,()),())) (zkx (p:=fun (n:Int)=>((n,()),())) rfl (zkx (p:=fun (n:Int)=>((n,()),())) rfl rfl))
theorem y0b:ConOk Tryz.prog 104 yGV:=(yXz).mono (fun x r _ h=>(yZH x.1).trans h)
def yC5 (a:dA) (s:Int):dA×Int:=bif !(yB a) then (a,1) else bif yd a then (a,6) else bif !(yL a.2.1 s) then (a,2) else ((yi1 a s).2,(yi1 a s).1)
def y4a (a:dA):dA×Int:=bif !(yB a) then (a,1) else bif yd a then (a,6) else ((y3o a).2,(y3o a).1)
theorem y3t (a:dA):yp0 a=bif !(yB a) then 1 else bif yd a then 6 else 0:=by
 unfold yp0 ybM; rfl
end
section
def yH8:Code:=(Tryz.f48.body).getD .skip
def yIx:Env:=zki TT [(135,yl)] []
theorem yPw:FrOk Tryz.prog ⟨yIx,34,fun _=>none⟩ yH8:=zkp yb yc ⟨yp,trivial⟩
def yRX:Nat→Option Seg:=fun _=>none
abbrev yhv:List Par:= [.rd tA,.rd tI,.rd tI]
abbrev ysP:List OT:= [⟨false,tB,.fz⟩]
def yoS (a0:dA) (a1 a2:Int):Option (ResD ysP×MutD yhv) :=
 let r1:=ya a1 0 (IntKind.i64.wrap ((a0.2.2.1.length:Int) - 1))
 bif r1 then
 bif (inb a1 a0.2.2.1.length) then
 bif (!((((nth a0.2.2.1 a1 ([],[],false,[])).2).2).1)) then
 bif (!(a1 !=a0.2.2.2.1)) then
 some (((ltb a2 a0.2.2.2.2.1),()),())
 else
 some ((true,()),())
 else
 some ((false,()),())
 else none
 else
 some ((false,()),())
theorem yYV (x:InD yhv):zjH ⟨yIx,34,yRX⟩ Tryz.f48.results.toList yH8 yhv ysP x=yoS x.1 x.2.1 x.2.2.1:=by kernel_rfl
theorem yUr:ConOk Tryz.prog 48 ⟨yhv,ysP,fun x=>yoS x.1 x.2.1 x.2.2.1⟩:=zkh (yPw) Tryz.func48 (by kernel_rfl) (by kernel_rfl) Tryz.ntmps48.symm (by decide) (fun x r h=>(yYV x).trans h)
def ydB (a0:dA) (a1 a2:Int):Bool:=yfN a0 a1 a2
theorem yWP (a0:dA) (a1 a2:Int) (hk:zi9 yhv (a0,a1,a2,())):yoS a0 a1 a2=(fun n=>some ((n,()),())) (ydB a0 a1 a2):=by
 have hb:a0.2.2.1.length * 80≤2 ^ 47:=hk.1.2.2.1.1
 unfold yoS ydB yfN yh
 rw [yvF (show a0.2.2.1.length≤1152921504606846976 by omega)]
 cases inb a1 a0.2.2.1.length
 ·rfl
 ·cases (nth a0.2.2.1 a1 ([],[],false,[])).2.2.1<;>cases (a1 !=a0.2.2.2.1)<;>rfl
def yvt:Con:=⟨yhv,ysP,fun x=>(fun n=>some ((n,()),())) (ydB x.1 x.2.1 x.2.2.1)⟩
theorem yHh:ConOk Tryz.prog 48 yvt:=(yUr).mono (fun x r hk h=>(yWP x.1 x.2.1 x.2.2.1 hk).trans h)
end
section
def yo8:Code:=(Tryz.f238.body).getD .skip
def yuu:Env:=zki TT [] []
theorem yTo:FrOk Tryz.prog ⟨yuu,18,fun _=>none⟩ yo8:=zkp yb yc trivial
def yGg:Nat→Option Seg:=fun _=>none
def ycO:Shape:=⟨[(0,false,[.br tI]),(1,false,[.int .i64]),(5,false,[.int .i64])],[],[]⟩
def yiu:Shape:=⟨[(0,false,[.br tI]),(1,false,[.int .i64]),(5,false,[.ci .i64 0])],[],[]⟩
def yib:Shape:=⟨[],[],[]⟩
def yiV:Shape:=⟨[(4,false,[.bool])],[],[]⟩
abbrev ytD (v0:List Int) (v1 v2:Int):(ycO).X:=(((v0,()),(v1,()),(v2,()),()),(),())
abbrev yQb (v0:List Int) (v1:Int):(yiu).X:=(((v0,()),(v1,()),((),()),()),(),())
abbrev yP1  :(yib).X:=((),(),())
abbrev yQm (v0:Bool):(yiV).X:=(((v0,()),()),(),())
def yt3 (v0:List Int) (v1 v2:Int):Option ((ycO).X ⊕ ((yib).X ⊕ (yiV).X)) :=
 bif (ltb v2 (v0.length:Int)) then
 bif (inb v2 v0.length) then
 bif ((nth v0 v2 0)==v1) then
 some (.inr (.inr (((true,()),()),(),())))
 else
 some (.inl (((v0,()),(v1,()),((IntKind.i64.wrap (v2+1)),()),()),(),()))
 else none
 else
 some (.inr (.inl ((),(),())))
def yds (x:(ycO).X):=yt3 x.1.1.1 x.1.2.1.1 x.1.2.2.1.1
def yCZ (x:(yiu).X):(ycO).X:=(((x.1.1.1,()),(x.1.2.1.1,()),(0,()),()),(),())
def yE3:Code:=(zdI yo8 64 52).getD .skip
theorem ySf:zdI yo8 64 13=some (.block 0 (.loop yE3)):=by kernel_rfl
theorem yVg (x:(ycO).X):zg7 ⟨yuu,18,yGg⟩ 0 yE3 52 ycO yib yiV x=yds x:=by kernel_rfl
def yDh (x:(yiu).X):Nat:=18446744073709551616
def yuI (x:(yiu).X):Option ((yib).X ⊕ (yiV).X):=zr yds (yDh x) (yCZ x)
def yDQ:Seg:=⟨yiu,yib,yiV,yuI⟩
def yGh:Nat→Option Seg:=fun q=>bif Nat.beq q 13 then some yDQ else yGg q
theorem yTp:FrOk Tryz.prog ⟨yuu,18,yGh⟩ yo8:=(yTo).loop (sg:=yDQ) ycO yCZ (by decide) ySf yds yDh (by decide) (fun _=>rfl) (fun x r _ h=>h) yVg
abbrev ykG:List Par:= [.rd tL,.rd tI]
abbrev yve:List OT:= [⟨false,tB,.fz⟩]
def yrb (a0:List Int) (a1:Int):Option (ResD yve×MutD ykG) :=
 zjw (yuI (((a0,()),(a1,()),((),()),()),(),())) (fun y0 =>
 some ((false,()),())) (fun y0 =>
 some ((y0.1.1.1,()),()))
theorem y0Q (x:InD ykG):zjH ⟨yuu,18,yGh⟩ Tryz.f238.results.toList yo8 ykG yve x=yrb x.1 x.2.1:=by kernel_rfl
theorem yXw:ConOk Tryz.prog 238 ⟨ykG,yve,fun x=>yrb x.1 x.2.1⟩:=zkh (yTp) Tryz.func238 (by kernel_rfl) (by kernel_rfl) Tryz.ntmps238.symm (by decide) (fun x r h=>(y0Q x).trans h)
def ypZ (a0:List Int) (a1:Int):Bool:=a0.any (· ==a1)
theorem yZE (a0:List Int) (a1:Int) (hk:zi9 ykG (a0,a1,())):yrb a0 a1=(fun n=>some ((n,()),())) (ypZ a0 a1):=by
 have hb:a0.length * 8≤2 ^ 47:=hk.1.1
 have h1:yuI (yQb a0 a1)=some (bif a0.all (· !=a1) then .inl yP1 else .inr (yQm true)) :=
  zjS (step:=yds) a0 0 (fun i=>ytD a0 a1 i) (· !=a1) _ _ (fun i hi=>by
   simp only [yds,ytD,yt3,zjI (show (i:Int) < a0.length by omega),cond_true,wr (show -9223372036854775808≤(i:Int)+1 by omega) (by omega),Int.natCast_add,Int.natCast_one,Int.toNat_natCast,zkO hi,zjW,bne]
   cases (a0.getD i 0==a1)<;>rfl) (by simp only [yds,ytD,yt3,zkm (Int.le_refl _),cond_false]) _ (by show _ < 18446744073709551616; omega)
 unfold yrb ypZ
 rw [h1,show a0.any (· ==a1)= !(a0.all (· !=a1)) by simp [List.all_eq_not_any_not,bne]]
 cases a0.all (· !=a1)<;>rfl
def yGT:Con:=⟨ykG,yve,fun x=>(fun n=>some ((n,()),())) (ypZ x.1 x.2.1)⟩
theorem yZ9:ConOk Tryz.prog 238 yGT:=(yXw).mono (fun x r hk h=>(yZE x.1 x.2.1 hk).trans h)
end
end
end Go.Tf
