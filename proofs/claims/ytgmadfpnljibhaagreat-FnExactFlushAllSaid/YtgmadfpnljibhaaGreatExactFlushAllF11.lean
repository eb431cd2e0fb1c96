/- Functions of the program, and what they come to. -/
import Derived.Test.YtgmadfpnljibhaaGreatExactFlushAllF10
namespace Go.Tf
noncomputable section
open Go.Proofs
set_option synthInstance.maxHeartbeats 400000
set_option synthInstance.maxSize 10000
set_option linter.unusedVariables false
set_option linter.unusedSimpArgs false
set_option maxRecDepth 100000
section
def yAE:Code:=(Tryz.f145.body).getD .skip
def yA6:Env:=zki TT [(111,yzg),(164,yw9),(165,yzh),(200,ydp)] []
theorem yIL:FrOk Tryz.prog ⟨yA6,44,fun _=>none⟩ yAE:=zkp yb yc ⟨yPg,yM3,yPh,yha,trivial⟩
def yJ5:Nat→Option Seg:=fun _=>none
abbrev yax:List Par:= [.pt tA (.pr .fz (.pr (.pr .fz .fz) (.pr (.ow (.pr (.ow (.ow .fz)) (.pr (.ow (.pr .fz (.ow .fz))) (.pr .fz (.ow .fz))))) (.pr .fz (.pr .fz (.pr .fz (.pr .fz (.pr .fz (.pr (.ow (.pr .fz (.ow .fz))) (.pr .fz (.pr .fz .fz))))))))))),.rd tI,.rd tL]
abbrev ydo:List OT:= [⟨false,tB,.fz⟩]
def yhv (a0:dA) (a1:Int) (a2:List Int):Option (ResD ydo×MutD yax) :=
 bif (leb 4 (IntKind.i64.wrap (a0.2.2.2.2.2.1 - a0.2.2.2.2.2.2.1))) then
 bnd (ymu a0) fun r1 =>
 bif (!r1.1.1) then
 some ((false,()),(r1.2.1,()))
 else
 let r2:=yi a2
 bnd (ydr r1.2.1 (r1.2.1.2.2.2.2.2.1,a1,r2)) fun r3 =>
 bif (!r3.1.1) then
 some ((false,()),(r3.2.1,()))
 else
 bnd (yce (r3.2.1.1,r3.2.1.2.1,r3.2.1.2.2.1,r3.2.1.2.2.2.1,r3.2.1.2.2.2.2.1,(IntKind.i64.wrap (r3.2.1.2.2.2.2.2.1+1)),r3.2.1.2.2.2.2.2.2) a1 a2) fun r4 =>
 some ((r4.1.1,()),(r4.2.1,()))
 else
 let r5:=yi a2
 bnd (ydr a0 (a0.2.2.2.2.2.1,a1,r5)) fun r6 =>
 bif (!r6.1.1) then
 some ((false,()),(r6.2.1,()))
 else
 bnd (yce (r6.2.1.1,r6.2.1.2.1,r6.2.1.2.2.1,r6.2.1.2.2.2.1,r6.2.1.2.2.2.2.1,(IntKind.i64.wrap (r6.2.1.2.2.2.2.2.1+1)),r6.2.1.2.2.2.2.2.2) a1 a2) fun r7 =>
 some ((r7.1.1,()),(r7.2.1,()))
theorem yNV (x:InD yax):zjH ⟨yA6,44,yJ5⟩ Tryz.f145.results.toList yAE yax ydo x=yhv x.1 x.2.1 x.2.2.1:=by kernel_rfl
theorem yKB:ConOk Tryz.prog 145 ⟨yax,ydo,fun x=>yhv x.1 x.2.1 x.2.2.1⟩:=zkh (yIL) Tryz.func145 (by kernel_rfl) (by kernel_rfl) Tryz.ntmps145.symm (by decide) (fun x r h=>(yNV x).trans h)
def yf6 (a0:dA) (a1:Int) (a2:List Int):Bool×dA:=(!(yd (ya5 a0 a1 a2).2),(ya5 a0 a1 a2).2)
def yf9 (a0:dA) (a1:Int) (a2:List Int):Bool:= !(yd a0)&&(yK a0.2.1 a1&&((a2.length:Int)==a0.2.1.1 - 1&&(a0.2.2.1.length:Int)==a0.2.1.1))
theorem yMR (a0:dA) (a1:Int) (a2:List Int) (hk:zi9 yax (a0,a1,a2,())) (hq:yf9 a0 a1 a2=true):yhv a0 a1 a2=(fun n=>some ((n.1,()),(n.2,()))) (yf6 a0 a1 a2):=by
 simp only [yf9,Bool.and_eq_true,beq_iff_eq,Bool.not_eq_true'] at hq
 obtain ⟨hd0,hs0,hl0,hm0⟩:=hq
 have key: ∀ b:dA,b.2.1=a0.2.1→b.2.2.1.length=a0.2.2.1.length→yd (yao b (b.2.2.2.2.2.1,a1,a2))=false→yce (yap (yao b (b.2.2.2.2.2.1,a1,a2))) a1 a2=some ((!(yd (yL (yap (yao b (b.2.2.2.2.2.1,a1,a2))) a1 a2)),()),(yL (yap (yao b (b.2.2.2.2.2.1,a1,a2))) a1 a2,())):=fun b h1 h2 h3=>yPm _ _ _ (by
  unfold yhb
  rw [show yd (yap (yao b (b.2.2.2.2.2.1,a1,a2)))=yd (yao b (b.2.2.2.2.2.1,a1,a2)) from rfl,h3,show (yap (yao b (b.2.2.2.2.2.1,a1,a2))).2.1=a0.2.1 from (yx5 (yS9 _ _)).trans h1,show (yap (yao b (b.2.2.2.2.2.1,a1,a2))).2.2.1.length=a0.2.2.1.length from (y3w _ _).trans h2,hs0,hl0,hm0]
  simp)
 have fin: ∀ b:dA,b.2.1=a0.2.1→b.2.2.1.length=a0.2.2.1.length→yd b=false →
   (bnd (ydr b (b.2.2.2.2.2.1,a1,a2)) fun r3=>bif !r3.1.1 then some ((false,()),(r3.2.1,())) else bnd (yce (yap r3.2.1) a1 a2) fun r4=>(some ((r4.1.1,()),(r4.2.1,())):Option (ResD ydo×MutD yax))) =
   some ((!(yd (bif yd (yao b (b.2.2.2.2.2.1,a1,a2)) then (6,yao b (b.2.2.2.2.2.1,a1,a2)) else (bif yd (yL (yap (yao b (b.2.2.2.2.2.1,a1,a2))) a1 a2) then 6 else 0,yL (yap (yao b (b.2.2.2.2.2.1,a1,a2))) a1 a2):Int×dA).2),()),((bif yd (yao b (b.2.2.2.2.2.1,a1,a2)) then (6,yao b (b.2.2.2.2.2.1,a1,a2)) else (bif yd (yL (yap (yao b (b.2.2.2.2.2.1,a1,a2))) a1 a2) then 6 else 0,yL (yap (yao b (b.2.2.2.2.2.1,a1,a2))) a1 a2):Int×dA).2,())):=fun b h1 h2 h3=>by
  rw [yM9 b _ (by unfold yf8; rw [h3]; rfl)]
  have hk:=key b h1 h2
  simp only [zky,yf5]
  generalize yao b (b.2.2.2.2.2.1,a1,a2)=R at hk ⊢
  rcases Bool.eq_false_or_eq_true (yd R) with hr | hr
  ·simp only [hr,Bool.not_true,Bool.not_false,cond_true]
  ·rw [hk hr]
   simp only [hr,Bool.not_false,Bool.not_true,cond_false,zky]
 unfold yhv yf6 ya5 ycM
 simp only [yi]
 cases h4:leb 4 (IntKind.i64.wrap (a0.2.2.2.2.2.1 - a0.2.2.2.2.2.2.1))
 ·simp only [cond_false]
  have:=fin a0 rfl rfl hd0
  unfold yap at this ⊢
  rw [this]
  rw [show yd a0=false from hd0]; rfl
 ·simp only [cond_true]
  rw [yPl a0 (by unfold ymx; rw [hd0]; rfl)]
  simp only [zky,yg3]
  rcases Bool.eq_false_or_eq_true (yd (yv a0)) with hc | hc
  ·simp only [hc,Bool.not_true,Bool.not_false,cond_true]
  ·have:=fin (yv a0) (yLL a0) (yuR a0) hc
   simp only [hc,Bool.not_false,Bool.not_true,cond_false]
   unfold yap at this ⊢
   exact this
def ykc (a0:dA) (a1:Int) (a2:List Int):Option (ResD ydo×MutD yax):=bif yf9 a0 a1 a2 then (fun n=>some ((n.1,()),(n.2,()))) (yf6 a0 a1 a2) else none
theorem yNa (a0:dA) (a1:Int) (a2:List Int) (h:yf9 a0 a1 a2=true):ykc a0 a1 a2=(fun n=>some ((n.1,()),(n.2,()))) (yf6 a0 a1 a2):=by unfold ykc; rw [h]; rfl
def yxa:Con:=⟨yax,ydo,fun x=>ykc x.1 x.2.1 x.2.2.1⟩
theorem yM4:ConOk Tryz.prog 145 yxa:=(yKB).mono (fun x r hk h=>zkW h (fun hq=>yMR x.1 x.2.1 x.2.2.1 hk hq))
end
section
def yJt:Code:=(Tryz.f146.body).getD .skip
def yJS:Env:=zki TT [(46,yx2),(135,yn),(225,yg1)] []
theorem yRe:FrOk Tryz.prog ⟨yJS,48,fun _=>none⟩ yJt:=zkp yb yc ⟨yJ2,yr,ypc,trivial⟩
def yTz:Nat→Option Seg:=fun _=>none
abbrev ynk:List Par:= [.rd tA,.rd tI,.rd tL]
abbrev ytz:List OT:= [⟨false,tI,.fz⟩]
def ywV (a0:dA) (a1:Int) (a2:List Int):Option (ResD ytz×MutD ynk) :=
 let r1:=yan a0
 bif (!(!r1)) then
 bif (!((a2.length:Int) !=(IntKind.i64.wrap (a0.2.1.1 - 1)))) then
 let r2:=yH a2
 bif (!r2) then
 some ((1,()),())
 else
 bif a0.2.2.2.2.2.2.2.2.2.2.1 then
 some ((6,()),())
 else
 let r3:=ya a1 0 (IntKind.i64.wrap (a0.2.1.2 - 1))
 bif (!r3) then
 some ((2,()),())
 else
 bif a0.2.2.2.2.2.2.2.2.2.2.2 then
 some ((5,()),())
 else
 bif (!(leb 60000 a0.2.2.2.2.2.1)) then
 bif (leb 59990 a0.2.2.2.2.2.2.2.1) then
 some ((7,()),())
 else
 some ((0,()),())
 else
 some ((7,()),())
 else
 some ((1,()),())
 else
 some ((1,()),())
theorem y0K (x:InD ynk):zjH ⟨yJS,48,yTz⟩ Tryz.f146.results.toList yJt ynk ytz x=ywV x.1 x.2.1 x.2.2.1:=by kernel_rfl
theorem yWi:ConOk Tryz.prog 146 ⟨ynk,ytz,fun x=>ywV x.1 x.2.1 x.2.2.1⟩:=zkh (yRe) Tryz.func146 (by kernel_rfl) (by kernel_rfl) Tryz.ntmps146.symm (by decide) (fun x r h=>(y0K x).trans h)
def yk (a0:dA) (a1:Int) (a2:List Int):Int :=
 let r1:=yan a0
 bif (!(!r1)) then
 bif (!((a2.length:Int) !=(IntKind.i64.wrap (a0.2.1.1 - 1)))) then
 let r2:=yH a2
 bif (!r2) then
 1
 else
 bif a0.2.2.2.2.2.2.2.2.2.2.1 then
 6
 else
 let r3:=ya a1 0 (IntKind.i64.wrap (a0.2.1.2 - 1))
 bif (!r3) then
 2
 else
 bif a0.2.2.2.2.2.2.2.2.2.2.2 then
 5
 else
 bif (!(leb 60000 a0.2.2.2.2.2.1)) then
 bif (leb 59990 a0.2.2.2.2.2.2.2.1) then
 7
 else
 0
 else
 7
 else
 1
 else
 1
def yGy:Con:=⟨ynk,ytz,fun x=>(fun n=>some ((n,()),())) (yk x.1 x.2.1 x.2.2.1)⟩
theorem yYE (a0:dA) (a1:Int) (a2:List Int):ywV a0 a1 a2=(fun n=>some ((n,()),())) (yk a0 a1 a2):=zkS (p:=fun (n:Int)=>((n,()),())) (zkx (p:=fun (n:Int)=>((n,()),())) (zkx (p:=fun (n:Int)=>((n,()),())) (zkx (p:=fun (n:Int)=>((n,()),())) rfl (zkx (p:=fun (n:Int)=>((n,()),())) rfl (zkx (p:=fun (n:Int)=>((n,()),())) rfl (zkx (p:=fun (n:Int)=>((n,()),())) rfl (zkx (p:=fun (n:Int)=>((n,()),())) (zkx (p:=fun (n:Int)=>((n,()),())) rfl rfl) rfl))))) rfl) rfl)
theorem yZD:ConOk Tryz.prog 146 yGy:=(yWi).mono (fun x r _ h=>(yYE x.1 x.2.1 x.2.2.1).trans h)
def yyL (l:List dW) (k:Nat):List dW:=l.take k++l.drop (k+1)
def yac (a:dA) (s:Int):Int×dA :=
 bif ltb (ym a.2.2.2.2.2.2.2.2.1 s) 0 then (0,a) else
 bif yk a s (nth a.2.2.2.2.2.2.2.2.1 (ym a.2.2.2.2.2.2.2.2.1 s) (0,[])).2 !=0 then (yk a s (nth a.2.2.2.2.2.2.2.2.1 (ym a.2.2.2.2.2.2.2.2.1 s) (0,[])).2,a) else
 bif (ya5 a s (nth a.2.2.2.2.2.2.2.2.1 (ym a.2.2.2.2.2.2.2.2.1 s) (0,[])).2).1==0 then
 (0,yI5 (ya5 a s (nth a.2.2.2.2.2.2.2.2.1 (ym a.2.2.2.2.2.2.2.2.1 s) (0,[])).2).2 (yyL a.2.2.2.2.2.2.2.2.1 (ym a.2.2.2.2.2.2.2.2.1 s).toNat))
 else ya5 a s (nth a.2.2.2.2.2.2.2.2.1 (ym a.2.2.2.2.2.2.2.2.1 s) (0,[])).2
theorem yZT {a:dA} {s:Int} {d:List Int} (h:yk a s d=0):yp a=true∧(d.length:Int)=a.2.1.1 - 1∧d.all isW=true∧yd a=false∧yK a.2.1 s=true∧a.2.2.2.2.2.2.2.2.2.2.2=false∧a.2.2.2.2.2.1 < 60000∧a.2.2.2.2.2.2.2.1 < 59990:=by
 unfold yk at h
 simp only [yan,yhY,yff]at h
 cases ha:yp a
 ·rw [ha]at h; exact absurd (show (1:Int)=0 from h) (by decide)
 have hg:=yo.1 (yaZ ha)
 rw [ha,wr (show -9223372036854775808≤a.2.1.1 - 1 by omega) (by omega),wr (show -9223372036854775808≤a.2.1.2 - 1 by omega) (by omega)] at h
 cases hl:((d.length:Int) !=a.2.1.1 - 1)
 ·cases hw:d.all isW
  ·rw [hl,hw]at h; exact absurd (show (1:Int)=0 from h) (by decide)
  cases hd:a.2.2.2.2.2.2.2.2.2.2.1
  ·cases hs:(leb 0 s&&leb s (a.2.1.2 - 1))
   ·rw [hl,hw,hd,hs]at h; exact absurd (show (2:Int)=0 from h) (by decide)
   cases hb:a.2.2.2.2.2.2.2.2.2.2.2
   ·cases h6:leb 60000 a.2.2.2.2.2.1
    ·cases h7:leb 59990 a.2.2.2.2.2.2.2.1
     ·have e6: ¬ (60000≤a.2.2.2.2.2.1):=fun g=>by rw [zk0 g]at h6; cases h6
      have e7: ¬ (59990≤a.2.2.2.2.2.2.2.1):=fun g=>by rw [zk0 g]at h7; cases h7
      exact ⟨rfl,bne_eq_false_iff_eq.1 hl,rfl,hd,by unfold yK; rw [yaZ ha,hs]; rfl,rfl,by omega,by omega⟩
     ·rw [hl,hw,hd,hs,hb,h6,h7]at h; exact absurd (show (7:Int)=0 from h) (by decide)
    ·rw [hl,hw,hd,hs,hb,h6]at h; exact absurd (show (7:Int)=0 from h) (by decide)
   ·rw [hl,hw,hd,hs,hb]at h; exact absurd (show (5:Int)=0 from h) (by decide)
  ·rw [hl,hw,hd]at h; exact absurd (show (6:Int)=0 from h) (by decide)
 ·rw [hl]at h; exact absurd (show (1:Int)=0 from h) (by decide)
theorem yZS (a:dA):(ycM a).2.2.2.2.2.2.2.2.1=a.2.2.2.2.2.2.2.2.1:=by
 unfold ycM
 cases leb 4 (IntKind.i64.wrap (a.2.2.2.2.2.1 - a.2.2.2.2.2.2.1))
 ·rfl
 ·exact yyI a
theorem y3l (a:dA):(yap a).2.2.2.2.2.2.2.2.1=a.2.2.2.2.2.2.2.2.1:=rfl
theorem yPR (a:dA) (s:Int) (d:List Int):(ya5 a s d).2.2.2.2.2.2.2.2.2.1=a.2.2.2.2.2.2.2.2.1:=by
 unfold ya5
 have h2:=(yTU (yS9 (ycM a) ((ycM a).2.2.2.2.2.1,s,d))).trans (yZS a)
 generalize yao (ycM a) ((ycM a).2.2.2.2.2.1,s,d)=R at h2 ⊢
 have h3:=(yTU (y3Q (yap R) s d)).trans ((y3l R).trans h2)
 generalize yL (yap R) s d=Q at h3 ⊢
 cases yd (ycM a)
 ·cases yd R
  ·exact h3
  ·exact h2
 ·exact yZS a
theorem y3R {l:List dW} {k:Int} (h0:0≤k) (h1:k < (l.length:Int)):(([]:List dW)++((l.drop (0:Int).toNat).take (k - 0).toNat))++((l.drop (k+1).toNat).take ((l.length:Int) - (k+1)).toNat)=yyL l k.toNat:=by
 unfold yyL
 rw [List.nil_append,show (0:Int).toNat=0 from rfl,List.drop_zero,Int.sub_zero,show (k+1).toNat=k.toNat+1 by omega,List.take_of_length_le (l:=l.drop (k.toNat+1)) (by rw [List.length_drop]; omega)]
def yIE (_:Nat) (a:dA):dA ⊕ (Int×dA):=bif (yac a (nth a.2.2.2.2.2.2.2.2.1 0 (0,[])).1).1 !=0 then .inr (yac a (nth a.2.2.2.2.2.2.2.2.1 0 (0,[])).1) else .inl (yac a (nth a.2.2.2.2.2.2.2.2.1 0 (0,[])).1).2
def yXr (a:dA):Int×dA:=goE yIE (fun b=>(0,b)) a.2.2.2.2.2.2.2.2.1.length 0 a
theorem yUi {e:dW} {l:List dW}:ym (e::l) e.1=0:=by
 unfold ym
 rw [ywl,show (e.1==e.1)=true from beq_self_eq_true _]; rfl
theorem yUj {a:dA} (h:0 < a.2.2.2.2.2.2.2.2.1.length) (h0:(yac a (nth a.2.2.2.2.2.2.2.2.1 0 (0,[])).1).1=0):(yac a (nth a.2.2.2.2.2.2.2.2.1 0 (0,[])).1).2.2.2.2.2.2.2.2.2.1=a.2.2.2.2.2.2.2.2.1.drop 1:=by
 unfold yac at h0 ⊢
 have hk:ym a.2.2.2.2.2.2.2.2.1 (nth a.2.2.2.2.2.2.2.2.1 0 (0,[])).1=0:=by
  cases hl:a.2.2.2.2.2.2.2.2.1 with
  | nil=>rw [hl]at h; exact absurd h (Nat.lt_irrefl 0)
  | cons e l=>exact yUi
 rw [hk]at h0 ⊢
 generalize (nth a.2.2.2.2.2.2.2.2.1 0 (0,[])).2=D at h0 ⊢
 generalize (nth a.2.2.2.2.2.2.2.2.1 0 (0,[])).1=s at h0 ⊢
 cases hc:(yk a s D !=0)
 ·rw [hc]at h0
  cases hr:((ya5 a s D).1==0)
  ·rw [hr]at h0
   exact absurd (show (ya5 a s D).1=0 from h0) (beq_eq_false_iff_ne.1 hr)
  ·rfl
 ·rw [hc]at h0
  exact absurd (show yk a s D=0 from h0) (bne_iff_ne.1 hc)
def y1W (g:dG) (e:dW):Prop:=(0≤e.1∧e.1≤g.2 - 1)∧(e.2.length:Int)=g.1 - 1∧e.2.all isW=true
theorem yzm {g:dG} {l:List dW}:yaK g l=true↔(∀ e∈l,y1W g e)∧l.Pairwise (fun x y=>x.1 < y.1):=by
 have bad: ∀ i,yhS g l i=false↔y1W g (nth l i (0,[]))∧(0 < i→(nth l ((i - 1:Nat):Int) (0,[])).1 < (nth l i (0,[])).1):=by
  intro i
  unfold yhS y1W
  simp only [Bool.or_eq_false_iff,Bool.not_eq_false',bne_eq_false_iff_eq,Bool.and_eq_true,Bool.and_eq_false_iff,decide_eq_false_iff_not,zjQ]
  constructor
  ·rintro ⟨h1,h2,h3,h4⟩
   refine ⟨⟨h1,h2,h3⟩,fun h0=> ?_⟩
   rcases h4 with h4 | h4
   ·exact absurd h0 h4
   ·have:=mt zk0 (by rw [h4]; simp: ¬ leb (nth l i (0,[])).1 (nth l ((i - 1:Nat):Int) (0,[])).1=true)
    omega
  ·rintro ⟨⟨h1,h2,h3⟩,h4⟩
   refine ⟨h1,h2,h3,?_⟩
   by_cases h0:0 < i
   ·exact .inr (zkZ (by have:=h4 h0; omega))
   ·exact .inl h0
 unfold yaK
 simp only [Bool.not_eq_true',List.any_eq_false,List.mem_range,Bool.not_eq_true,bad]
 constructor
 ·intro h
  refine ⟨fun e he=> ?_,?_⟩
  ·obtain ⟨i,hi,rfl⟩:=List.getElem_of_mem he
   have:=(h i hi).1
   rwa [zjW,zcq hi]at this
  ·rw [List.pairwise_iff_getElem]
   have step: ∀ (d i:Nat) (hi:i < l.length) (hj:i+d+1 < l.length),l[i].1 < l[i+d+1].1:=by
    intro d
    induction d with
    | zero =>
     intro i hi hj
     have:=(h (i+1) hj).2 (by omega)
     rwa [Nat.add_sub_cancel,zjW,zjW,zcq hi,zcq hj]at this
    | succ d ih =>
     intro i hi hj
     have h1:=ih i hi (by omega)
     have:=(h (i+d+1+1) hj).2 (by omega)
     rw [Nat.add_sub_cancel,zjW,zjW,zcq (show i+d+1 < l.length by omega),zcq (show i+d+1+1 < l.length from hj)] at this
     exact Int.lt_trans h1 this
   intro i j hi hj hij
   have:=step (j - i - 1) i hi (by omega)
   have e:i+(j - i - 1)+1=j:=by omega
   simp only [e]at this
   exact this
 ·rintro ⟨h1,h2⟩ i hi
  rw [List.pairwise_iff_getElem]at h2
  refine ⟨by rw [zjW,zcq hi]; exact h1 _ (List.getElem_mem hi),fun h0=> ?_⟩
  rw [zjW,zjW,zcq hi,zcq (show i - 1 < l.length by omega)]
  exact h2 (i - 1) i (by omega) hi (by omega)
theorem y5E {g:dG} {l:List dW} (k:Nat) (h:yaK g l=true):yaK g (yyL l k)=true:=by
 rw [yzm]at h ⊢
 have hs:(yyL l k).Sublist l:=by
  unfold yyL
  have:(l.take k++l.drop (k+1)).Sublist (l.take k++l.drop k):=List.Sublist.append_left (by rw [← List.drop_drop]; exact List.drop_sublist _ _) _
  rwa [List.take_append_drop]at this
 exact ⟨fun e he=>h.1 e (hs.subset he),h.2.sublist hs⟩
theorem y20 (e:dW): ∀ (l acc:List dW),l.foldl (ybY e) (true,acc)=(true,acc++l.filter (fun x=>x.1 !=e.1))
 | [],acc=>by simp
 | x::t,acc=>by
  rw [List.foldl_cons]
  have:ybY e (true,acc) x=(true,acc++(bif x.1 !=e.1 then [x] else [])):=rfl
  rw [this,y20 e t,List.filter_cons]
  cases x.1 !=e.1<;>simp
theorem yZ2 {e:dW} {l:List dW} (h:l.Pairwise (fun x y=>x.1 < y.1)):yIx l e=l.filter (fun x=>ltb x.1 e.1)++e::l.filter (fun x=>ltb e.1 x.1):=by
 have: ∀ (l acc:List dW),l.Pairwise (fun x y=>x.1 < y.1)→(bif (l.foldl (ybY e) (false,acc)).1 then (l.foldl (ybY e) (false,acc)).2 else (l.foldl (ybY e) (false,acc)).2++ [e])=acc++(l.filter (fun x=>ltb x.1 e.1)++e::l.filter (fun x=>ltb e.1 x.1)):=by
  intro l
  induction l with
  | nil=>intro acc _; simp
  | cons x t ih =>
   intro acc h
   obtain ⟨hx,ht⟩:=List.pairwise_cons.1 h
   rw [List.foldl_cons]
   by_cases hle:e.1≤x.1
   ·have h1:ybY e (false,acc) x=(true,(acc++ [e])++(bif x.1 !=e.1 then [x] else [])):=by
     unfold ybY; rw [zk0 hle]; rfl
    have h2:t.filter (fun x=>x.1 !=e.1)=t:=List.filter_eq_self.2 (fun y hy=>bne_iff_ne.2 (by have:=hx y hy; omega))
    have h3:t.filter (fun x=>ltb x.1 e.1)= []:=List.filter_eq_nil_iff.2 (fun y hy=>by rw [zkm (by have:=hx y hy; omega)]; simp)
    have h4:t.filter (fun x=>ltb e.1 x.1)=t:=List.filter_eq_self.2 (fun y hy=>zjI (by have:=hx y hy; omega))
    rw [h1,y20,h2,List.filter_cons,List.filter_cons,h3,h4,zkm (show e.1≤x.1 by omega)]
    by_cases he:x.1=e.1
    ·rw [show (x.1 !=e.1)=false from bne_eq_false_iff_eq.2 he,zkm (show x.1≤e.1 by omega)]; simp
    ·rw [show (x.1 !=e.1)=true from bne_iff_ne.2 he,zjI (show e.1 < x.1 by omega)]; simp
   ·have h1:ybY e (false,acc) x=(false,acc++ [x]):=by
     unfold ybY; rw [zkZ (show x.1 < e.1 by omega),show (x.1 !=e.1)=true from bne_iff_ne.2 (by omega)]; rfl
    rw [h1,ih _ ht,List.filter_cons,List.filter_cons,zjI (show x.1 < e.1 by omega),zkm (show x.1≤e.1 by omega)]
    simp
 have:=this l [] h
 rw [List.nil_append]at this
 exact this
theorem y5F {g:dG} {l:List dW} {e:dW} (h:yaK g l=true) (he:y1W g e):yaK g (yIx l e)=true:=by
 rw [yzm]at h ⊢
 rw [yZ2 h.2]
 refine ⟨fun x hx=> ?_,?_⟩
 ·rcases List.mem_append.1 hx with h1 | h1
  ·exact h.1 x (List.mem_filter.1 h1).1
  ·rcases List.mem_cons.1 h1 with rfl | h1
   ·exact he
   ·exact h.1 x (List.mem_filter.1 h1).1
 ·rw [List.pairwise_append,List.pairwise_cons]
  refine ⟨h.2.filter _,⟨fun y hy=>zjT.1 (List.mem_filter.1 hy).2,h.2.filter _⟩,fun x hx y hy=> ?_⟩
  have h1:=zjT.1 (List.mem_filter.1 hx).2
  rcases List.mem_cons.1 hy with rfl | hy
  ·exact h1
  ·exact Int.lt_trans h1 (zjT.1 (List.mem_filter.1 hy).2)
theorem yGB {g:dG} {l:List dW} (h:yaK g l=true) (hg:yf g=true):l.length≤8:=by
 rw [yzm]at h
 have hg:=yo.1 hg
 have:=yXs (l:=l.map (fun e=>e.1)) (lo:=0) (n:=g.2) (by rw [List.pairwise_map]; exact h.2) (fun x hx=>by
  obtain ⟨e,he,rfl⟩:=List.mem_map.1 hx
  have:=(h.1 e he).1; omega) (by omega)
 rw [List.length_map]at this
 omega
def yTc (a:dA) (s:Int) (d:List Int):dA×Int:=bif yk a s d !=0 then (a,yk a s d) else ((ya5 a s d).2,(ya5 a s d).1)
theorem y3K (a:dA) (s:Int) (d:List Int):(ya5 a s d).1=bif yd (ya5 a s d).2 then 6 else 0:=by
 unfold ya5
 generalize ycM a=C
 generalize yao C (C.2.2.2.2.2.1,s,d)=R
 generalize yL (yap R) s d=Q
 rcases Bool.eq_false_or_eq_true (yd C) with h | h
 ·rw [h,cond_true]
  exact (congrArg (fun x=>bif x then (6:Int) else 0) h).symm
 ·rw [h,cond_false]
  rcases Bool.eq_false_or_eq_true (yd R) with h2 | h2
  ·rw [h2,cond_true]
   exact (congrArg (fun x=>bif x then (6:Int) else 0) h2).symm
  ·rw [h2,cond_false]
end
section
def yyP:Code:=(Tryz.f53.body).getD .skip
def yy1:Env:=zki TT [(45,yrm),(98,ymn),(102,yGi),(116,yct),(144,yv4),(145,yxa)] []
theorem yIg:FrOk Tryz.prog ⟨yy1,55,fun _=>none⟩ yyP:=zkp yb yc ⟨yAs,ywA,yZn,yf7,yIp,yM4,trivial⟩
def yIA:Nat→Option Seg:=fun _=>none
abbrev yci:List Par:= [.rd tA,.rd tI,.rd tL]
abbrev yiU:List OT:= [⟨false,tA,(.pr .fz (.pr (.pr .fz .fz) (.pr (.ow (.pr (.ow (.ow .fz)) (.pr (.ow (.pr .fz (.ow .fz))) (.pr .fz (.ow .fz))))) (.pr .fz (.pr .fz (.pr .fz (.pr .fz (.pr .fz (.pr (.ow (.pr .fz (.ow .fz))) (.pr .fz (.pr .fz .fz)))))))))))⟩,⟨false,tI,.fz⟩]
def ygg (a0:dA) (a1:Int) (a2:List Int):Option (ResD yiU×MutD yci) :=
 let r1:=yx a0
 let r2:=yc9 a0
 bif (!(!r2)) then
 let r3:=ydK a0.2.1 a2
 bif (!r3) then
 some ((r1,1,()),())
 else
 bif a0.2.2.2.2.2.2.2.2.2.2.1 then
 some ((r1,6,()),())
 else
 let r4:=yS a0.2.1 a1
 bif (!r4) then
 some ((r1,2,()),())
 else
 bif a0.2.2.2.2.2.2.2.2.2.2.2 then
 some ((r1,5,()),())
 else
 bif (!(a0.2.2.2.2.2.1==60000)) then
 bif (leb 59990 a0.2.2.2.2.2.2.2.1) then
 some ((r1,7,()),())
 else
 bnd (ykc r1 a1 a2) fun r5 =>
 let r6:=ytF r5.1.1
 some ((r5.2.1,r6,()),())
 else
 some ((r1,7,()),())
 else
 some ((r1,1,()),())
theorem yLO (x:InD yci):zjH ⟨yy1,55,yIA⟩ Tryz.f53.results.toList yyP yci yiU x=ygg x.1 x.2.1 x.2.2.1:=by kernel_rfl
theorem yIX:ConOk Tryz.prog 53 ⟨yci,yiU,fun x=>ygg x.1 x.2.1 x.2.2.1⟩:=zkh (yIg) Tryz.func53 (by kernel_rfl) (by kernel_rfl) Tryz.ntmps53.symm (by decide) (fun x r h=>(yLO x).trans h)
def yeM (a0:dA) (a1:Int) (a2:List Int):dA×Int:=yTc a0 a1 a2
theorem yKx (a0:dA) (a1:Int) (a2:List Int) (hk:zi9 yci (a0,a1,a2,())):ygg a0 a1 a2=(fun n=>some ((n.1,n.2,()),())) (yeM a0 a1 a2):=by
 have hz:=fun h=>yZT (a:=a0) (s:=a1) (d:=a2) h
 unfold ygg yeM yTc
 unfold yk at hz ⊢
 simp only [yx,yc9,yan,yhY,yff]at hz ⊢
 cases ha:yp a0
 ·rfl
 have hg:=yo.1 (yaZ ha)
 have hc:=(y4G.1 ha).1
 unfold yH9 at hc
 have hdo:ydK a0.2.1 a2=((a2.length:Int)==a0.2.1.1 - 1&&a2.all isW):=by
  unfold ydK
  rw [ywm,wr (show -9223372036854775808≤a0.2.1.1 - 1 by omega) (by omega)]
  cases ((a2.length:Int)==a0.2.1.1 - 1)<;>rfl
 rw [hdo,yyM,show yK a0.2.1 a1=(leb 0 a1&&leb a1 (a0.2.1.2 - 1)) by unfold yK; rw [yaZ ha]; rfl]
 rw [ha,wr (show -9223372036854775808≤a0.2.1.1 - 1 by omega) (by omega),wr (show -9223372036854775808≤a0.2.1.2 - 1 by omega) (by omega)] at hz
 rw [wr (show -9223372036854775808≤a0.2.1.1 - 1 by omega) (by omega),wr (show -9223372036854775808≤a0.2.1.2 - 1 by omega) (by omega)]
 rw [show (a0.2.2.2.2.2.1==60000)=leb 60000 a0.2.2.2.2.2.1 by rw [Bool.eq_iff_iff,beq_iff_eq,zjQ]; omega]
 unfold bne at hz ⊢
 cases hl:((a2.length:Int)==a0.2.1.1 - 1)
 ·rfl
 cases hw:a2.all isW
 ·rfl
 rcases Bool.eq_false_or_eq_true a0.2.2.2.2.2.2.2.2.2.2.1 with hd | hd
 ·simp only [hd,Bool.not_true,Bool.not_false,Bool.and_self,cond_true,cond_false]; rfl
 cases hs:(leb 0 a1&&leb a1 (a0.2.1.2 - 1))
 ·simp only [hd,Bool.not_true,Bool.not_false,Bool.and_self,cond_true,cond_false]; rfl
 rcases Bool.eq_false_or_eq_true a0.2.2.2.2.2.2.2.2.2.2.2 with hb | hb
 ·simp only [hd,hb,Bool.not_true,Bool.not_false,Bool.and_self,cond_true,cond_false]; rfl
 cases h6:leb 60000 a0.2.2.2.2.2.1
 ·cases h7:leb 59990 a0.2.2.2.2.2.2.2.1
  ·simp only [hd,hb,Bool.not_true,Bool.not_false,Bool.and_self,cond_true,cond_false,beq_self_eq_true]
   have hso:yK a0.2.1 a1=true:=by unfold yK; rw [yaZ ha,hs]; rfl
   rw [yNa a0 a1 a2 (by unfold yf9; rw [show yd a0=false from hd,hso,hl,beq_iff_eq.2 (yLJ ha)]; rfl)]
   simp only [zky,yf6,ytF]
   rw [y3K]
   cases yd (ya5 a0 a1 a2).2<;>rfl
  ·simp only [hd,hb,Bool.not_true,Bool.not_false,Bool.and_self,cond_true,cond_false]; rfl
 ·simp only [hd,hb,Bool.not_true,Bool.not_false,Bool.and_self,cond_true,cond_false]; rfl
def yv3:Con:=⟨yci,yiU,fun x=>(fun n=>some ((n.1,n.2,()),())) (yeM x.1 x.2.1 x.2.2.1)⟩
theorem yKF:ConOk Tryz.prog 53 yv3:=(yIX).mono (fun x r hk h=>(yKx x.1 x.2.1 x.2.2.1 hk).trans h)
end
section
def yK6:Code:=(Tryz.f104.body).getD .skip
def yLv:Env:=zki TT [(46,yx2)] []
theorem yU5:FrOk Tryz.prog ⟨yLv,8,fun _=>none⟩ yK6:=zkp yb yc ⟨yJ2,trivial⟩
def yXn:Nat→Option Seg:=fun _=>none
abbrev yqh:List Par:= [.rd tA]
abbrev yvY:List OT:= [⟨false,tI,.fz⟩]
def yyy (a0:dA):Option (ResD yvY×MutD yqh) :=
 let r1:=yan a0
 bif (!r1) then
 some ((1,()),())
 else
 bif a0.2.2.2.2.2.2.2.2.2.2.1 then
 some ((6,()),())
 else
 some ((0,()),())
theorem y2B (x:InD yqh):zjH ⟨yLv,8,yXn⟩ Tryz.f104.results.toList yK6 yqh yvY x=yyy x.1:=by kernel_rfl
theorem yZf:ConOk Tryz.prog 104 ⟨yqh,yvY,fun x=>yyy x.1⟩:=zkh (yU5) Tryz.func104 (by kernel_rfl) (by kernel_rfl) Tryz.ntmps104.symm (by decide) (fun x r h=>(y2B x).trans h)
def ylC (a0:dA):Int :=
 let r1:=yan a0
 bif (!r1) then
 1
 else
 bif a0.2.2.2.2.2.2.2.2.2.2.1 then
 6
 else
 0
def yx4:Con:=⟨yqh,yvY,fun x=>(fun n=>some ((n,()),())) (ylC x.1)⟩
theorem y1m (a0:dA):yyy a0=(fun n=>some ((n,()),())) (ylC a0):=zkS (p:=fun (n:Int)=>((n,()),())) (zkx (p:=fun (n:Int)=>((n,()),())) rfl (zkx (p:=fun (n:Int)=>((n,()),())) rfl rfl))
theorem yJ4:ConOk Tryz.prog 104 yx4:=(yZf).mono (fun x r _ h=>(y1m x.1).trans h)
def ylj (a:dA) (s:Int):dA×Int:=bif !(yp a) then (a,1) else bif yd a then (a,6) else bif !(yK a.2.1 s) then (a,2) else ((yac a s).2,(yac a s).1)
def yt8 (a:dA):dA×Int:=bif !(yp a) then (a,1) else bif yd a then (a,6) else ((yXr a).2,(yXr a).1)
theorem y3Y (a:dA):ylC a=bif !(yp a) then 1 else bif yd a then 6 else 0:=by
 unfold ylC yan; rfl
end
section
def yJn:Code:=(Tryz.f48.body).getD .skip
def yJM:Env:=zki TT [(135,yn)] []
theorem yQY:FrOk Tryz.prog ⟨yJM,34,fun _=>none⟩ yJn:=zkp yb yc ⟨yr,trivial⟩
def yTt:Nat→Option Seg:=fun _=>none
abbrev yhL:List Par:= [.rd tA,.rd tI,.rd tI]
abbrev ytr:List OT:= [⟨false,tB,.fz⟩]
def ypp (a0:dA) (a1 a2:Int):Option (ResD ytr×MutD yhL) :=
 let r1:=ya a1 0 (IntKind.i64.wrap ((a0.2.2.1.length:Int) - 1))
 bif r1 then
 bif (inb a1 a0.2.2.1.length) then
 bif (!((((nth a0.2.2.1 a1 ([],[],false,[])).2).2).1)) then
 bif (!(a1 !=a0.2.2.2.1)) then
 some (((ltb a2 a0.2.2.2.2.1),()),())
 else
 some ((true,()),())
 else
 some ((false,()),())
 else none
 else
 some ((false,()),())
theorem y0A (x:InD yhL):zjH ⟨yJM,34,yTt⟩ Tryz.f48.results.toList yJn yhL ytr x=ypp x.1 x.2.1 x.2.2.1:=by kernel_rfl
theorem yV8:ConOk Tryz.prog 48 ⟨yhL,ytr,fun x=>ypp x.1 x.2.1 x.2.2.1⟩:=zkh (yQY) Tryz.func48 (by kernel_rfl) (by kernel_rfl) Tryz.ntmps48.symm (by decide) (fun x r h=>(y0A x).trans h)
def ydM (a0:dA) (a1 a2:Int):Bool:=yf3 a0 a1 a2
theorem yYu (a0:dA) (a1 a2:Int) (hk:zi9 yhL (a0,a1,a2,())):ypp a0 a1 a2=(fun n=>some ((n,()),())) (ydM a0 a1 a2):=by
 have hb:a0.2.2.1.length * 80≤2 ^ 47:=hk.1.2.2.1.1
 unfold ypp ydM yf3 yh
 rw [ywn (show a0.2.2.1.length≤1152921504606846976 by omega)]
 cases inb a1 a0.2.2.1.length
 ·rfl
 ·cases (nth a0.2.2.1 a1 ([],[],false,[])).2.2.1<;>cases (a1 !=a0.2.2.2.1)<;>rfl
def ywa:Con:=⟨yhL,ytr,fun x=>(fun n=>some ((n,()),())) (ydM x.1 x.2.1 x.2.2.1)⟩
theorem yIu:ConOk Tryz.prog 48 ywa:=(yV8).mono (fun x r hk h=>(yYu x.1 x.2.1 x.2.2.1 hk).trans h)
end
section
def ypF:Code:=(Tryz.f238.body).getD .skip
def yvb:Env:=zki TT [] []
theorem yUY:FrOk Tryz.prog ⟨yvb,18,fun _=>none⟩ ypF:=zkp yb yc trivial
def yHs:Nat→Option Seg:=fun _=>none
def ycY:Shape:=⟨[(0,false,[.br tI]),(1,false,[.int .i64]),(5,false,[.int .i64])],[],[]⟩
def yiM:Shape:=⟨[(0,false,[.br tI]),(1,false,[.int .i64]),(5,false,[.ci .i64 0])],[],[]⟩
def yit:Shape:=⟨[],[],[]⟩
def yje:Shape:=⟨[(4,false,[.bool])],[],[]⟩
abbrev yuj (v0:List Int) (v1 v2:Int):(ycY).X:=(((v0,()),(v1,()),(v2,()),()),(),())
abbrev yRD (v0:List Int) (v1:Int):(yiM).X:=(((v0,()),(v1,()),((),()),()),(),())
abbrev yRt  :(yit).X:=((),(),())
abbrev yRO (v0:Bool):(yje).X:=(((v0,()),()),(),())
def yuJ (v0:List Int) (v1 v2:Int):Option ((ycY).X ⊕ ((yit).X ⊕ (yje).X)) :=
 bif (ltb v2 (v0.length:Int)) then
 bif (inb v2 v0.length) then
 bif ((nth v0 v2 0)==v1) then
 some (.inr (.inr (((true,()),()),(),())))
 else
 some (.inl (((v0,()),(v1,()),((IntKind.i64.wrap (v2+1)),()),()),(),()))
 else none
 else
 some (.inr (.inl ((),(),())))
def ydD (x:(ycY).X):=yuJ x.1.1.1 x.1.2.1.1 x.1.2.2.1.1
def yDZ (x:(yiM).X):(ycY).X:=(((x.1.1.1,()),(x.1.2.1.1,()),(0,()),()),(),())
def yF8:Code:=(zdI ypF 64 52).getD .skip
theorem yTL:zdI ypF 64 13=some (.block 0 (.loop yF8)):=by kernel_rfl
theorem yWT (x:(ycY).X):zg7 ⟨yvb,18,yHs⟩ 0 yF8 52 ycY yit yje x=ydD x:=by kernel_rfl
def yEg (x:(yiM).X):Nat:=18446744073709551616
def yvq (x:(yiM).X):Option ((yit).X ⊕ (yje).X):=zr ydD (yEg x) (yDZ x)
def yER:Seg:=⟨yiM,yit,yje,yvq⟩
def yHt:Nat→Option Seg:=fun q=>bif Nat.beq q 13 then some yER else yHs q
theorem yUZ:FrOk Tryz.prog ⟨yvb,18,yHt⟩ ypF:=(yUY).loop (sg:=yER) ycY yDZ (by decide) yTL ydD yEg (by decide) (fun _=>rfl) (fun x r _ h=>h) yWT
abbrev yk2:List Par:= [.rd tL,.rd tI]
abbrev yvW:List OT:= [⟨false,tB,.fz⟩]
def yrK (a0:List Int) (a1:Int):Option (ResD yvW×MutD yk2) :=
 zjw (yvq (((a0,()),(a1,()),((),()),()),(),())) (fun y0 =>
 some ((false,()),())) (fun y0 =>
 some ((y0.1.1.1,()),()))
theorem y2x (x:InD yk2):zjH ⟨yvb,18,yHt⟩ Tryz.f238.results.toList ypF yk2 yvW x=yrK x.1 x.2.1:=by kernel_rfl
theorem yZb:ConOk Tryz.prog 238 ⟨yk2,yvW,fun x=>yrK x.1 x.2.1⟩:=zkh (yUZ) Tryz.func238 (by kernel_rfl) (by kernel_rfl) Tryz.ntmps238.symm (by decide) (fun x r h=>(y2x x).trans h)
def yqz (a0:List Int) (a1:Int):Bool:=a0.any (· ==a1)
theorem y1i (a0:List Int) (a1:Int) (hk:zi9 yk2 (a0,a1,())):yrK a0 a1=(fun n=>some ((n,()),())) (yqz a0 a1):=by
 have hb:a0.length * 8≤2 ^ 47:=hk.1.1
 have h1:yvq (yRD a0 a1)=some (bif a0.all (· !=a1) then .inl yRt else .inr (yRO true)) :=
  zjS (step:=ydD) a0 0 (fun i=>yuj a0 a1 i) (· !=a1) _ _ (fun i hi=>by
   simp only [ydD,yuj,yuJ,zjI (show (i:Int) < a0.length by omega),cond_true,wr (show -9223372036854775808≤(i:Int)+1 by omega) (by omega),Int.natCast_add,Int.natCast_one,Int.toNat_natCast,zkO hi,zjW,bne]
   cases (a0.getD i 0==a1)<;>rfl) (by simp only [ydD,yuj,yuJ,zkm (Int.le_refl _),cond_false]) _ (by show _ < 18446744073709551616; omega)
 unfold yrK yqz
 rw [h1,show a0.any (· ==a1)= !(a0.all (· !=a1)) by simp [List.all_eq_not_any_not,bne]]
 cases a0.all (· !=a1)<;>rfl
def yH5:Con:=⟨yk2,yvW,fun x=>(fun n=>some ((n,()),())) (yqz x.1 x.2.1)⟩
theorem y1M:ConOk Tryz.prog 238 yH5:=(yZb).mono (fun x r hk h=>(y1i x.1 x.2.1 hk).trans h)
end
end
end Go.Tf
