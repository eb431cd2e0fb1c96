/- Functions of the program, and what they come to. -/
import Derived.Test.YtgmadfpnljibhaaGreatBlocksBentF10
namespace Go.Tf
noncomputable section
open Go.Proofs
set_option synthInstance.maxHeartbeats 400000
set_option synthInstance.maxSize 10000
set_option linter.unusedVariables false
set_option linter.unusedSimpArgs false
set_option maxRecDepth 100000
section
def yBN:Code:=(Tryz.f145.body).getD .skip
def yCb:Env:=zj3 TT [(111,yAx),(164,yyO),(165,yAy),(200,yaS)] []
theorem yKk:FrOk Tryz.prog ⟨yCb,44,fun _=>none⟩ yBN:=zj7 yb yc ⟨yRV,yPl,yRW,ycT,trivial⟩
def yMb:Nat→Option Seg:=fun _=>none
abbrev yaR:List Par:= [.pt tA (.pr .fz (.pr (.pr .fz .fz) (.pr (.ow (.pr (.ow (.ow .fz)) (.pr (.ow (.pr .fz (.ow .fz))) (.pr .fz (.ow .fz))))) (.pr .fz (.pr .fz (.pr .fz (.pr .fz (.pr .fz (.pr (.ow (.pr .fz (.ow .fz))) (.pr .fz (.pr .fz .fz))))))))))),.rd tI,.rd tL]
abbrev yd6:List OT:= [⟨false,tB,.fz⟩]
def yiO (a0:dA) (a1:Int) (a2:List Int):Option (ResD yd6×MutD yaR) :=
 bif (leb 4 (IntKind.i64.wrap (a0.2.2.2.2.2.1 - a0.2.2.2.2.2.2.1))) then
 bnd (ynv a0) fun r1 =>
 bif (!r1.1.1) then
 some ((false,()),(r1.2.1,()))
 else
 let r2:=yl a2
 bnd (yd8 r1.2.1 (r1.2.1.2.2.2.2.2.1,a1,r2)) fun r3 =>
 bif (!r3.1.1) then
 some ((false,()),(r3.2.1,()))
 else
 bnd (ycS (r3.2.1.1,r3.2.1.2.1,r3.2.1.2.2.1,r3.2.1.2.2.2.1,r3.2.1.2.2.2.2.1,(IntKind.i64.wrap (r3.2.1.2.2.2.2.2.1+1)),r3.2.1.2.2.2.2.2.2) a1 a2) fun r4 =>
 some ((r4.1.1,()),(r4.2.1,()))
 else
 let r5:=yl a2
 bnd (yd8 a0 (a0.2.2.2.2.2.1,a1,r5)) fun r6 =>
 bif (!r6.1.1) then
 some ((false,()),(r6.2.1,()))
 else
 bnd (ycS (r6.2.1.1,r6.2.1.2.1,r6.2.1.2.2.1,r6.2.1.2.2.2.1,r6.2.1.2.2.2.2.1,(IntKind.i64.wrap (r6.2.1.2.2.2.2.2.1+1)),r6.2.1.2.2.2.2.2.2) a1 a2) fun r7 =>
 some ((r7.1.1,()),(r7.2.1,()))
theorem yQl (x:InD yaR):zjx ⟨yCb,44,yMb⟩ Tryz.f145.results.toList yBN yaR yd6 x=yiO x.1 x.2.1 x.2.2.1:=by kernel_rfl
theorem yMQ:ConOk Tryz.prog 145 ⟨yaR,yd6,fun x=>yiO x.1 x.2.1 x.2.2.1⟩:=zj2 (yKk) Tryz.func145 (by kernel_rfl) (by kernel_rfl) Tryz.ntmps145.symm (by decide) (fun x r h=>(yQl x).trans h)
def yg5 (a0:dA) (a1:Int) (a2:List Int):Bool×dA:=(!(ye (yac a0 a1 a2).2),(yac a0 a1 a2).2)
def yg7 (a0:dA) (a1:Int) (a2:List Int):Bool:= !(ye a0)&&(yP a0.2.1 a1&&((a2.length:Int)==a0.2.1.1 - 1&&(a0.2.2.1.length:Int)==a0.2.1.1))
theorem yPa (a0:dA) (a1:Int) (a2:List Int) (hk:zi2 yaR (a0,a1,a2,())) (hq:yg7 a0 a1 a2=true):yiO a0 a1 a2=(fun n=>some ((n.1,()),(n.2,()))) (yg5 a0 a1 a2):=by
 simp only [yg7,Bool.and_eq_true,beq_iff_eq,Bool.not_eq_true'] at hq
 obtain ⟨hd0,hs0,hl0,hm0⟩:=hq
 have key: ∀ b:dA,b.2.1=a0.2.1→b.2.2.1.length=a0.2.2.1.length→ye (yam b (b.2.2.2.2.2.1,a1,a2))=false→ycS (yak (yam b (b.2.2.2.2.2.1,a1,a2))) a1 a2=some ((!(ye (yE (yak (yam b (b.2.2.2.2.2.1,a1,a2))) a1 a2)),()),(yE (yak (yam b (b.2.2.2.2.2.1,a1,a2))) a1 a2,())):=fun b h1 h2 h3=>yR0 _ _ _ (by
  unfold yit
  rw [show ye (yak (yam b (b.2.2.2.2.2.1,a1,a2)))=ye (yam b (b.2.2.2.2.2.1,a1,a2)) from rfl,h3,show (yak (yam b (b.2.2.2.2.2.1,a1,a2))).2.1=a0.2.1 from (ynm (yvN _ _)).trans h1,show (yak (yam b (b.2.2.2.2.2.1,a1,a2))).2.2.1.length=a0.2.2.1.length from (y5R _ _).trans h2,hs0,hl0,hm0]
  simp)
 have fin: ∀ b:dA,b.2.1=a0.2.1→b.2.2.1.length=a0.2.2.1.length→ye b=false →
   (bnd (yd8 b (b.2.2.2.2.2.1,a1,a2)) fun r3=>bif !r3.1.1 then some ((false,()),(r3.2.1,())) else bnd (ycS (yak r3.2.1) a1 a2) fun r4=>(some ((r4.1.1,()),(r4.2.1,())):Option (ResD yd6×MutD yaR))) =
   some ((!(ye (bif ye (yam b (b.2.2.2.2.2.1,a1,a2)) then (6,yam b (b.2.2.2.2.2.1,a1,a2)) else (bif ye (yE (yak (yam b (b.2.2.2.2.2.1,a1,a2))) a1 a2) then 6 else 0,yE (yak (yam b (b.2.2.2.2.2.1,a1,a2))) a1 a2):Int×dA).2),()),((bif ye (yam b (b.2.2.2.2.2.1,a1,a2)) then (6,yam b (b.2.2.2.2.2.1,a1,a2)) else (bif ye (yE (yak (yam b (b.2.2.2.2.2.1,a1,a2))) a1 a2) then 6 else 0,yE (yak (yam b (b.2.2.2.2.2.1,a1,a2))) a1 a2):Int×dA).2,())):=fun b h1 h2 h3=>by
  rw [yPr b _ (by unfold yg6; rw [h3]; rfl)]
  have hk:=key b h1 h2
  simp only [zkd,yg4]
  generalize yam b (b.2.2.2.2.2.1,a1,a2)=R at hk ⊢
  rcases Bool.eq_false_or_eq_true (ye R) with hr | hr
  ·simp only [hr,Bool.not_true,Bool.not_false,cond_true]
  ·rw [hk hr]
   simp only [hr,Bool.not_false,Bool.not_true,cond_false,zkd]
 unfold yiO yg5 yac yad
 simp only [yl]
 cases h4:leb 4 (IntKind.i64.wrap (a0.2.2.2.2.2.1 - a0.2.2.2.2.2.2.1))
 ·simp only [cond_false]
  have:=fin a0 rfl rfl hd0
  unfold yak at this ⊢
  rw [this]
  rw [show ye a0=false from hd0]; rfl
 ·simp only [cond_true]
  rw [yRZ a0 (by unfold ynw; rw [hd0]; rfl)]
  simp only [zkd,yio]
  rcases Bool.eq_false_or_eq_true (ye (checkA a0)) with hc | hc
  ·simp only [hc,Bool.not_true,Bool.not_false,cond_true]
  ·have:=fin (checkA a0) (yNR a0) (yNS a0) hc
   simp only [hc,Bool.not_false,Bool.not_true,cond_false]
   unfold yak at this ⊢
   exact this
def ylf (a0:dA) (a1:Int) (a2:List Int):Option (ResD yd6×MutD yaR):=bif yg7 a0 a1 a2 then (fun n=>some ((n.1,()),(n.2,()))) (yg5 a0 a1 a2) else none
theorem yPs (a0:dA) (a1:Int) (a2:List Int) (h:yg7 a0 a1 a2=true):ylf a0 a1 a2=(fun n=>some ((n.1,()),(n.2,()))) (yg5 a0 a1 a2):=by unfold ylf; rw [h]; rfl
def yyP:Con:=⟨yaR,yd6,fun x=>ylf x.1 x.2.1 x.2.2.1⟩
theorem yPm:ConOk Tryz.prog 145 yyP:=(yMQ).mono (fun x r hk h=>zkt h (fun hq=>yPa x.1 x.2.1 x.2.2.1 hk hq))
end
section
def yLo:Code:=(Tryz.f146.body).getD .skip
def yLV:Env:=zj3 TT [(46,ysw),(135,yn),(225,yim)] []
theorem yTP:FrOk Tryz.prog ⟨yLV,48,fun _=>none⟩ yLo:=zj7 yb yc ⟨yBE,yu,yqm,trivial⟩
def yWk:Nat→Option Seg:=fun _=>none
abbrev yom:List Par:= [.rd tA,.rd tI,.rd tL]
abbrev yuK:List OT:= [⟨false,tI,.fz⟩]
def yyp (a0:dA) (a1:Int) (a2:List Int):Option (ResD yuK×MutD yom) :=
 let r1:=yZ a0
 bif (!(!r1)) then
 bif (!((a2.length:Int) !=(IntKind.i64.wrap (a0.2.1.1 - 1)))) then
 let r2:=yU a2
 bif (!r2) then
 some ((1,()),())
 else
 bif a0.2.2.2.2.2.2.2.2.2.2.1 then
 some ((6,()),())
 else
 let r3:=ya a1 0 (IntKind.i64.wrap (a0.2.1.2 - 1))
 bif (!r3) then
 some ((2,()),())
 else
 bif a0.2.2.2.2.2.2.2.2.2.2.2 then
 some ((5,()),())
 else
 bif (!(leb 60000 a0.2.2.2.2.2.1)) then
 bif (leb 59990 a0.2.2.2.2.2.2.2.1) then
 some ((7,()),())
 else
 some ((0,()),())
 else
 some ((7,()),())
 else
 some ((1,()),())
 else
 some ((1,()),())
theorem y3x (x:InD yom):zjx ⟨yLV,48,yWk⟩ Tryz.f146.results.toList yLo yom yuK x=yyp x.1 x.2.1 x.2.2.1:=by kernel_rfl
theorem yZd:ConOk Tryz.prog 146 ⟨yom,yuK,fun x=>yyp x.1 x.2.1 x.2.2.1⟩:=zj2 (yTP) Tryz.func146 (by kernel_rfl) (by kernel_rfl) Tryz.ntmps146.symm (by decide) (fun x r h=>(y3x x).trans h)
def yp (a0:dA) (a1:Int) (a2:List Int):Int :=
 let r1:=yZ a0
 bif (!(!r1)) then
 bif (!((a2.length:Int) !=(IntKind.i64.wrap (a0.2.1.1 - 1)))) then
 let r2:=yU a2
 bif (!r2) then
 1
 else
 bif a0.2.2.2.2.2.2.2.2.2.2.1 then
 6
 else
 let r3:=ya a1 0 (IntKind.i64.wrap (a0.2.1.2 - 1))
 bif (!r3) then
 2
 else
 bif a0.2.2.2.2.2.2.2.2.2.2.2 then
 5
 else
 bif (!(leb 60000 a0.2.2.2.2.2.1)) then
 bif (leb 59990 a0.2.2.2.2.2.2.2.1) then
 7
 else
 0
 else
 7
 else
 1
 else
 1
def yHy:Con:=⟨yom,yuK,fun x=>(fun n=>some ((n,()),())) (yp x.1 x.2.1 x.2.2.1)⟩
theorem y1l (a0:dA) (a1:Int) (a2:List Int):yyp a0 a1 a2=(fun n=>some ((n,()),())) (yp a0 a1 a2):=zkq (p:=fun (n:Int)=>((n,()),())) (zkc (p:=fun (n:Int)=>((n,()),())) (zkc (p:=fun (n:Int)=>((n,()),())) (zkc (p:=fun (n:Int)=>((n,()),())) rfl (zkc (p:=fun (n:Int)=>((n,()),())) rfl (zkc (p:=fun (n:Int)=>((n,()),())) rfl (zkc (p:=fun (n:Int)=>((n,()),())) rfl (zkc (p:=fun (n:Int)=>((n,()),())) (zkc (p:=fun (n:Int)=>((n,()),())) rfl rfl) rfl))))) rfl) rfl)
theorem y2i:ConOk Tryz.prog 146 yHy:=(yZd).mono (fun x r _ h=>(y1l x.1 x.2.1 x.2.2.1).trans h)
def yDq (l:List dW) (k:Nat):List dW:=l.take k++l.drop (k+1)
def flushE (a:dA) (s:Int):Int×dA :=
 bif ltb (yo a.2.2.2.2.2.2.2.2.1 s) 0 then (0,a) else
 bif yp a s (nth a.2.2.2.2.2.2.2.2.1 (yo a.2.2.2.2.2.2.2.2.1 s) (0,[])).2 !=0 then (yp a s (nth a.2.2.2.2.2.2.2.2.1 (yo a.2.2.2.2.2.2.2.2.1 s) (0,[])).2,a) else
 bif (yac a s (nth a.2.2.2.2.2.2.2.2.1 (yo a.2.2.2.2.2.2.2.2.1 s) (0,[])).2).1==0 then
 (0,yFB (yac a s (nth a.2.2.2.2.2.2.2.2.1 (yo a.2.2.2.2.2.2.2.2.1 s) (0,[])).2).2 (yDq a.2.2.2.2.2.2.2.2.1 (yo a.2.2.2.2.2.2.2.2.1 s).toNat))
 else yac a s (nth a.2.2.2.2.2.2.2.2.1 (yo a.2.2.2.2.2.2.2.2.1 s) (0,[])).2
theorem yNT {a:dA} {s:Int} {d:List Int} (h:yp a s d=0):yx a=true∧(d.length:Int)=a.2.1.1 - 1∧d.all isW=true∧ye a=false∧yP a.2.1 s=true∧a.2.2.2.2.2.2.2.2.2.2.2=false∧a.2.2.2.2.2.1 < 60000∧a.2.2.2.2.2.2.2.1 < 59990:=by
 unfold yp at h
 simp only [yZ,yjb,ybE]at h
 cases ha:yx a
 ·rw [ha]at h; exact absurd (show (1:Int)=0 from h) (by decide)
 have hg:=yk.1 (yR ha)
 rw [ha,wr (show -9223372036854775808≤a.2.1.1 - 1 by omega) (by omega),wr (show -9223372036854775808≤a.2.1.2 - 1 by omega) (by omega)] at h
 cases hl:((d.length:Int) !=a.2.1.1 - 1)
 ·cases hw:d.all isW
  ·rw [hl,hw]at h; exact absurd (show (1:Int)=0 from h) (by decide)
  cases hd:a.2.2.2.2.2.2.2.2.2.2.1
  ·cases hs:(leb 0 s&&leb s (a.2.1.2 - 1))
   ·rw [hl,hw,hd,hs]at h; exact absurd (show (2:Int)=0 from h) (by decide)
   cases hb:a.2.2.2.2.2.2.2.2.2.2.2
   ·cases h6:leb 60000 a.2.2.2.2.2.1
    ·cases h7:leb 59990 a.2.2.2.2.2.2.2.1
     ·have e6: ¬ (60000≤a.2.2.2.2.2.1):=fun g=>by rw [zkx g]at h6; cases h6
      have e7: ¬ (59990≤a.2.2.2.2.2.2.2.1):=fun g=>by rw [zkx g]at h7; cases h7
      exact ⟨rfl,bne_eq_false_iff_eq.1 hl,rfl,hd,by unfold yP; rw [yR ha,hs]; rfl,rfl,by omega,by omega⟩
     ·rw [hl,hw,hd,hs,hb,h6,h7]at h; exact absurd (show (7:Int)=0 from h) (by decide)
    ·rw [hl,hw,hd,hs,hb,h6]at h; exact absurd (show (7:Int)=0 from h) (by decide)
   ·rw [hl,hw,hd,hs,hb]at h; exact absurd (show (5:Int)=0 from h) (by decide)
  ·rw [hl,hw,hd]at h; exact absurd (show (6:Int)=0 from h) (by decide)
 ·rw [hl]at h; exact absurd (show (1:Int)=0 from h) (by decide)
theorem y2w (a:dA):(yad a).2.2.2.2.2.2.2.2.1=a.2.2.2.2.2.2.2.2.1:=by
 unfold yad
 cases leb 4 (IntKind.i64.wrap (a.2.2.2.2.2.1 - a.2.2.2.2.2.2.1))
 ·rfl
 ·exact ySk a
theorem y5A (a:dA):(yak a).2.2.2.2.2.2.2.2.1=a.2.2.2.2.2.2.2.2.1:=rfl
theorem ySo (a:dA) (s:Int) (d:List Int):(yac a s d).2.2.2.2.2.2.2.2.2.1=a.2.2.2.2.2.2.2.2.1:=by
 unfold yac
 have h2:=(yWI (yvN (yad a) ((yad a).2.2.2.2.2.1,s,d))).trans (y2w a)
 generalize yam (yad a) ((yad a).2.2.2.2.2.1,s,d)=R at h2 ⊢
 have h3:=(yWI (yNW (yak R) s d)).trans ((y5A R).trans h2)
 generalize yE (yak R) s d=Q at h3 ⊢
 cases ye (yad a)
 ·cases ye R
  ·exact h3
  ·exact h2
 ·exact y2w a
theorem y6m {l:List dW} {k:Int} (h0:0≤k) (h1:k < (l.length:Int)):(([]:List dW)++((l.drop (0:Int).toNat).take (k - 0).toNat))++((l.drop (k+1).toNat).take ((l.length:Int) - (k+1)).toNat)=yDq l k.toNat:=by
 unfold yDq
 rw [List.nil_append,show (0:Int).toNat=0 from rfl,List.drop_zero,Int.sub_zero,show (k+1).toNat=k.toNat+1 by omega,List.take_of_length_le (l:=l.drop (k.toNat+1)) (by rw [List.length_drop]; omega)]
def yD9 (_:Nat) (a:dA):dA ⊕ (Int×dA):=bif (flushE a (nth a.2.2.2.2.2.2.2.2.1 0 (0,[])).1).1 !=0 then .inr (flushE a (nth a.2.2.2.2.2.2.2.2.1 0 (0,[])).1) else .inl (flushE a (nth a.2.2.2.2.2.2.2.2.1 0 (0,[])).1).2
def allE (a:dA):Int×dA:=goE yD9 (fun b=>(0,b)) a.2.2.2.2.2.2.2.2.1.length 0 a
theorem yXh {e:dW} {l:List dW}:yo (e::l) e.1=0:=by
 unfold yo
 rw [yxQ,show (e.1==e.1)=true from beq_self_eq_true _]; rfl
theorem yXj {a:dA} (h:0 < a.2.2.2.2.2.2.2.2.1.length) (h0:(flushE a (nth a.2.2.2.2.2.2.2.2.1 0 (0,[])).1).1=0):(flushE a (nth a.2.2.2.2.2.2.2.2.1 0 (0,[])).1).2.2.2.2.2.2.2.2.2.1=a.2.2.2.2.2.2.2.2.1.drop 1:=by
 unfold flushE at h0 ⊢
 have hk:yo a.2.2.2.2.2.2.2.2.1 (nth a.2.2.2.2.2.2.2.2.1 0 (0,[])).1=0:=by
  cases hl:a.2.2.2.2.2.2.2.2.1 with
  | nil=>rw [hl]at h; exact absurd h (Nat.lt_irrefl 0)
  | cons e l=>exact yXh
 rw [hk]at h0 ⊢
 generalize (nth a.2.2.2.2.2.2.2.2.1 0 (0,[])).2=D at h0 ⊢
 generalize (nth a.2.2.2.2.2.2.2.2.1 0 (0,[])).1=s at h0 ⊢
 cases hc:(yp a s D !=0)
 ·rw [hc]at h0
  cases hr:((yac a s D).1==0)
  ·rw [hr]at h0
   exact absurd (show (yac a s D).1=0 from h0) (beq_eq_false_iff_ne.1 hr)
  ·rfl
 ·rw [hc]at h0
  exact absurd (show yp a s D=0 from h0) (bne_iff_ne.1 hc)
def y4i (g:dG) (e:dW):Prop:=(0≤e.1∧e.1≤g.2 - 1)∧(e.2.length:Int)=g.1 - 1∧e.2.all isW=true
theorem yrt {g:dG} {l:List dW}:yaK g l=true↔(∀ e∈l,y4i g e)∧l.Pairwise (fun x y=>x.1 < y.1):=by
 have bad: ∀ i,yi7 g l i=false↔y4i g (nth l i (0,[]))∧(0 < i→(nth l ((i - 1:Nat):Int) (0,[])).1 < (nth l i (0,[])).1):=by
  intro i
  unfold yi7 y4i
  simp only [Bool.or_eq_false_iff,Bool.not_eq_false',bne_eq_false_iff_eq,Bool.and_eq_true,Bool.and_eq_false_iff,decide_eq_false_iff_not,zjE]
  constructor
  ·rintro ⟨h1,h2,h3,h4⟩
   refine ⟨⟨h1,h2,h3⟩,fun h0=> ?_⟩
   rcases h4 with h4 | h4
   ·exact absurd h0 h4
   ·have:=mt zkx (by rw [h4]; simp: ¬ leb (nth l i (0,[])).1 (nth l ((i - 1:Nat):Int) (0,[])).1=true)
    omega
  ·rintro ⟨⟨h1,h2,h3⟩,h4⟩
   refine ⟨h1,h2,h3,?_⟩
   by_cases h0:0 < i
   ·exact .inr (zkw (by have:=h4 h0; omega))
   ·exact .inl h0
 unfold yaK
 simp only [Bool.not_eq_true',List.any_eq_false,List.mem_range,Bool.not_eq_true,bad]
 constructor
 ·intro h
  refine ⟨fun e he=> ?_,?_⟩
  ·obtain ⟨i,hi,rfl⟩:=List.getElem_of_mem he
   have:=(h i hi).1
   rwa [zkn,zke hi]at this
  ·rw [List.pairwise_iff_getElem]
   have step: ∀ (d i:Nat) (hi:i < l.length) (hj:i+d+1 < l.length),l[i].1 < l[i+d+1].1:=by
    intro d
    induction d with
    | zero =>
     intro i hi hj
     have:=(h (i+1) hj).2 (by omega)
     rwa [Nat.add_sub_cancel,zkn,zkn,zke hi,zke hj]at this
    | succ d ih =>
     intro i hi hj
     have h1:=ih i hi (by omega)
     have:=(h (i+d+1+1) hj).2 (by omega)
     rw [Nat.add_sub_cancel,zkn,zkn,zke (show i+d+1 < l.length by omega),zke (show i+d+1+1 < l.length from hj)] at this
     exact Int.lt_trans h1 this
   intro i j hi hj hij
   have:=step (j - i - 1) i hi (by omega)
   have e:i+(j - i - 1)+1=j:=by omega
   simp only [e]at this
   exact this
 ·rintro ⟨h1,h2⟩ i hi
  rw [List.pairwise_iff_getElem]at h2
  refine ⟨by rw [zkn,zke hi]; exact h1 _ (List.getElem_mem hi),fun h0=> ?_⟩
  rw [zkn,zkn,zke hi,zke (show i - 1 < l.length by omega)]
  exact h2 (i - 1) i (by omega) hi (by omega)
theorem y6n {g:dG} {l:List dW} (k:Nat) (h:yaK g l=true):yaK g (yDq l k)=true:=by
 rw [yrt]at h ⊢
 have hs:(yDq l k).Sublist l:=by
  unfold yDq
  have:(l.take k++l.drop (k+1)).Sublist (l.take k++l.drop k):=List.Sublist.append_left (by rw [← List.drop_drop]; exact List.drop_sublist _ _) _
  rwa [List.take_append_drop]at this
 exact ⟨fun e he=>h.1 e (hs.subset he),h.2.sublist hs⟩
theorem y5b (e:dW): ∀ (l acc:List dW),l.foldl (ycx e) (true,acc)=(true,acc++l.filter (fun x=>x.1 !=e.1))
 | [],acc=>by simp
 | x::t,acc=>by
  rw [List.foldl_cons]
  have:ycx e (true,acc) x=(true,acc++(bif x.1 !=e.1 then [x] else [])):=rfl
  rw [this,y5b e t,List.filter_cons]
  cases x.1 !=e.1<;>simp
theorem y2L {e:dW} {l:List dW} (h:l.Pairwise (fun x y=>x.1 < y.1)):yFv l e=l.filter (fun x=>ltb x.1 e.1)++e::l.filter (fun x=>ltb e.1 x.1):=by
 have: ∀ (l acc:List dW),l.Pairwise (fun x y=>x.1 < y.1)→(bif (l.foldl (ycx e) (false,acc)).1 then (l.foldl (ycx e) (false,acc)).2 else (l.foldl (ycx e) (false,acc)).2++ [e])=acc++(l.filter (fun x=>ltb x.1 e.1)++e::l.filter (fun x=>ltb e.1 x.1)):=by
  intro l
  induction l with
  | nil=>intro acc _; simp
  | cons x t ih =>
   intro acc h
   obtain ⟨hx,ht⟩:=List.pairwise_cons.1 h
   rw [List.foldl_cons]
   by_cases hle:e.1≤x.1
   ·have h1:ycx e (false,acc) x=(true,(acc++ [e])++(bif x.1 !=e.1 then [x] else [])):=by
     unfold ycx; rw [zkx hle]; rfl
    have h2:t.filter (fun x=>x.1 !=e.1)=t:=List.filter_eq_self.2 (fun y hy=>bne_iff_ne.2 (by have:=hx y hy; omega))
    have h3:t.filter (fun x=>ltb x.1 e.1)= []:=List.filter_eq_nil_iff.2 (fun y hy=>by rw [zky (by have:=hx y hy; omega)]; simp)
    have h4:t.filter (fun x=>ltb e.1 x.1)=t:=List.filter_eq_self.2 (fun y hy=>zj5 (by have:=hx y hy; omega))
    rw [h1,y5b,h2,List.filter_cons,List.filter_cons,h3,h4,zky (show e.1≤x.1 by omega)]
    by_cases he:x.1=e.1
    ·rw [show (x.1 !=e.1)=false from bne_eq_false_iff_eq.2 he,zky (show x.1≤e.1 by omega)]; simp
    ·rw [show (x.1 !=e.1)=true from bne_iff_ne.2 he,zj5 (show e.1 < x.1 by omega)]; simp
   ·have h1:ycx e (false,acc) x=(false,acc++ [x]):=by
     unfold ycx; rw [zkw (show x.1 < e.1 by omega),show (x.1 !=e.1)=true from bne_iff_ne.2 (by omega)]; rfl
    rw [h1,ih _ ht,List.filter_cons,List.filter_cons,zj5 (show x.1 < e.1 by omega),zky (show x.1≤e.1 by omega)]
    simp
 have:=this l [] h
 rw [List.nil_append]at this
 exact this
theorem y6o {g:dG} {l:List dW} {e:dW} (h:yaK g l=true) (he:y4i g e):yaK g (yFv l e)=true:=by
 rw [yrt]at h ⊢
 rw [y2L h.2]
 refine ⟨fun x hx=> ?_,?_⟩
 ·rcases List.mem_append.1 hx with h1 | h1
  ·exact h.1 x (List.mem_filter.1 h1).1
  ·rcases List.mem_cons.1 h1 with rfl | h1
   ·exact he
   ·exact h.1 x (List.mem_filter.1 h1).1
 ·rw [List.pairwise_append,List.pairwise_cons]
  refine ⟨h.2.filter _,⟨fun y hy=>zjH.1 (List.mem_filter.1 hy).2,h.2.filter _⟩,fun x hx y hy=> ?_⟩
  have h1:=zjH.1 (List.mem_filter.1 hx).2
  rcases List.mem_cons.1 hy with rfl | hy
  ·exact h1
  ·exact Int.lt_trans h1 (zjH.1 (List.mem_filter.1 hy).2)
theorem yb6 {g:dG} {l:List dW} (h:yaK g l=true) (hg:yg g=true):l.length≤8:=by
 rw [yrt]at h
 have hg:=yk.1 hg
 have:=yPH (l:=l.map (fun e=>e.1)) (lo:=0) (n:=g.2) (by rw [List.pairwise_map]; exact h.2) (fun x hx=>by
  obtain ⟨e,he,rfl⟩:=List.mem_map.1 hx
  have:=(h.1 e he).1; omega) (by omega)
 rw [List.length_map]at this
 omega
def yVN (a:dA) (s:Int) (d:List Int):dA×Int:=bif yp a s d !=0 then (a,yp a s d) else ((yac a s d).2,(yac a s d).1)
theorem y6g (a:dA) (s:Int) (d:List Int):(yac a s d).1=bif ye (yac a s d).2 then 6 else 0:=by
 unfold yac
 generalize yad a=C
 generalize yam C (C.2.2.2.2.2.1,s,d)=R
 generalize yE (yak R) s d=Q
 rcases Bool.eq_false_or_eq_true (ye C) with h | h
 ·rw [h,cond_true]
  exact (congrArg (fun x=>bif x then (6:Int) else 0) h).symm
 ·rw [h,cond_false]
  rcases Bool.eq_false_or_eq_true (ye R) with h2 | h2
  ·rw [h2,cond_true]
   exact (congrArg (fun x=>bif x then (6:Int) else 0) h2).symm
  ·rw [h2,cond_false]
end
section
def yz9:Code:=(Tryz.f53.body).getD .skip
def yAj:Env:=zj3 TT [(45,yhw),(98,yil),(102,yHl),(116,ybt),(144,yxu),(145,yyP)] []
theorem yJx:FrOk Tryz.prog ⟨yAj,55,fun _=>none⟩ yz9:=zj7 yb yc ⟨yoM,yql,y1Z,yd9,yJT,yPm,trivial⟩
def yJ9:Nat→Option Seg:=fun _=>none
abbrev yc0:List Par:= [.rd tA,.rd tI,.rd tL]
abbrev yj3:List OT:= [⟨false,tA,(.pr .fz (.pr (.pr .fz .fz) (.pr (.ow (.pr (.ow (.ow .fz)) (.pr (.ow (.pr .fz (.ow .fz))) (.pr .fz (.ow .fz))))) (.pr .fz (.pr .fz (.pr .fz (.pr .fz (.pr .fz (.pr (.ow (.pr .fz (.ow .fz))) (.pr .fz (.pr .fz .fz)))))))))))⟩,⟨false,tI,.fz⟩]
def yhh (a0:dA) (a1:Int) (a2:List Int):Option (ResD yj3×MutD yc0) :=
 let r1:=yC a0
 let r2:=yah a0
 bif (!(!r2)) then
 let r3:=yeu a0.2.1 a2
 bif (!r3) then
 some ((r1,1,()),())
 else
 bif a0.2.2.2.2.2.2.2.2.2.2.1 then
 some ((r1,6,()),())
 else
 let r4:=yY a0.2.1 a1
 bif (!r4) then
 some ((r1,2,()),())
 else
 bif a0.2.2.2.2.2.2.2.2.2.2.2 then
 some ((r1,5,()),())
 else
 bif (!(a0.2.2.2.2.2.1==60000)) then
 bif (leb 59990 a0.2.2.2.2.2.2.2.1) then
 some ((r1,7,()),())
 else
 bnd (ylf r1 a1 a2) fun r5 =>
 let r6:=yuQ r5.1.1
 some ((r5.2.1,r6,()),())
 else
 some ((r1,7,()),())
 else
 some ((r1,1,()),())
theorem yN0 (x:InD yc0):zjx ⟨yAj,55,yJ9⟩ Tryz.f53.results.toList yz9 yc0 yj3 x=yhh x.1 x.2.1 x.2.2.1:=by kernel_rfl
theorem yKE:ConOk Tryz.prog 53 ⟨yc0,yj3,fun x=>yhh x.1 x.2.1 x.2.2.1⟩:=zj2 (yJx) Tryz.func53 (by kernel_rfl) (by kernel_rfl) Tryz.ntmps53.symm (by decide) (fun x r h=>(yN0 x).trans h)
def yfH (a0:dA) (a1:Int) (a2:List Int):dA×Int:=yVN a0 a1 a2
theorem yML (a0:dA) (a1:Int) (a2:List Int) (hk:zi2 yc0 (a0,a1,a2,())):yhh a0 a1 a2=(fun n=>some ((n.1,n.2,()),())) (yfH a0 a1 a2):=by
 have hz:=fun h=>yNT (a:=a0) (s:=a1) (d:=a2) h
 unfold yhh yfH yVN
 unfold yp at hz ⊢
 simp only [yC,yah,yZ,yjb,ybE]at hz ⊢
 cases ha:yx a0
 ·rfl
 have hg:=yk.1 (yR ha)
 have hc:=(y0e.1 ha).1
 unfold yeP at hc
 have hdo:yeu a0.2.1 a2=((a2.length:Int)==a0.2.1.1 - 1&&a2.all isW):=by
  unfold yeu
  rw [yxR,wr (show -9223372036854775808≤a0.2.1.1 - 1 by omega) (by omega)]
  cases ((a2.length:Int)==a0.2.1.1 - 1)<;>rfl
 rw [hdo,ytY,show yP a0.2.1 a1=(leb 0 a1&&leb a1 (a0.2.1.2 - 1)) by unfold yP; rw [yR ha]; rfl]
 rw [ha,wr (show -9223372036854775808≤a0.2.1.1 - 1 by omega) (by omega),wr (show -9223372036854775808≤a0.2.1.2 - 1 by omega) (by omega)] at hz
 rw [wr (show -9223372036854775808≤a0.2.1.1 - 1 by omega) (by omega),wr (show -9223372036854775808≤a0.2.1.2 - 1 by omega) (by omega)]
 rw [show (a0.2.2.2.2.2.1==60000)=leb 60000 a0.2.2.2.2.2.1 by rw [Bool.eq_iff_iff,beq_iff_eq,zjE]; omega]
 unfold bne at hz ⊢
 cases hl:((a2.length:Int)==a0.2.1.1 - 1)
 ·rfl
 cases hw:a2.all isW
 ·rfl
 rcases Bool.eq_false_or_eq_true a0.2.2.2.2.2.2.2.2.2.2.1 with hd | hd
 ·simp only [hd,Bool.not_true,Bool.not_false,Bool.and_self,cond_true,cond_false]; rfl
 cases hs:(leb 0 a1&&leb a1 (a0.2.1.2 - 1))
 ·simp only [hd,Bool.not_true,Bool.not_false,Bool.and_self,cond_true,cond_false]; rfl
 rcases Bool.eq_false_or_eq_true a0.2.2.2.2.2.2.2.2.2.2.2 with hb | hb
 ·simp only [hd,hb,Bool.not_true,Bool.not_false,Bool.and_self,cond_true,cond_false]; rfl
 cases h6:leb 60000 a0.2.2.2.2.2.1
 ·cases h7:leb 59990 a0.2.2.2.2.2.2.2.1
  ·simp only [hd,hb,Bool.not_true,Bool.not_false,Bool.and_self,cond_true,cond_false,beq_self_eq_true]
   have hso:yP a0.2.1 a1=true:=by unfold yP; rw [yR ha,hs]; rfl
   rw [yPs a0 a1 a2 (by unfold yg7; rw [show ye a0=false from hd,hso,hl,beq_iff_eq.2 (yG0 ha)]; rfl)]
   simp only [zkd,yg5,yuQ]
   rw [y6g]
   cases ye (yac a0 a1 a2).2<;>rfl
  ·simp only [hd,hb,Bool.not_true,Bool.not_false,Bool.and_self,cond_true,cond_false]; rfl
 ·simp only [hd,hb,Bool.not_true,Bool.not_false,Bool.and_self,cond_true,cond_false]; rfl
def yxt:Con:=⟨yc0,yj3,fun x=>(fun n=>some ((n.1,n.2,()),())) (yfH x.1 x.2.1 x.2.2.1)⟩
theorem yMV:ConOk Tryz.prog 53 yxt:=(yKE).mono (fun x r hk h=>(yML x.1 x.2.1 x.2.2.1 hk).trans h)
end
section
def yNk:Code:=(Tryz.f104.body).getD .skip
def yNG:Env:=zj3 TT [(46,ysw)] []
theorem yX3:FrOk Tryz.prog ⟨yNG,8,fun _=>none⟩ yNk:=zj7 yb yc ⟨yBE,trivial⟩
def y0a:Nat→Option Seg:=fun _=>none
abbrev yrj:List Par:= [.rd tA]
abbrev yxk:List OT:= [⟨false,tI,.fz⟩]
def yz0 (a0:dA):Option (ResD yxk×MutD yrj) :=
 let r1:=yZ a0
 bif (!r1) then
 some ((1,()),())
 else
 bif a0.2.2.2.2.2.2.2.2.2.2.1 then
 some ((6,()),())
 else
 some ((0,()),())
theorem y4S (x:InD yrj):zjx ⟨yNG,8,y0a⟩ Tryz.f104.results.toList yNk yrj yxk x=yz0 x.1:=by kernel_rfl
theorem y1S:ConOk Tryz.prog 104 ⟨yrj,yxk,fun x=>yz0 x.1⟩:=zj2 (yX3) Tryz.func104 (by kernel_rfl) (by kernel_rfl) Tryz.ntmps104.symm (by decide) (fun x r h=>(y4S x).trans h)
def ymL (a0:dA):Int :=
 let r1:=yZ a0
 bif (!r1) then
 1
 else
 bif a0.2.2.2.2.2.2.2.2.2.2.1 then
 6
 else
 0
def yzC:Con:=⟨yrj,yxk,fun x=>(fun n=>some ((n,()),())) (ymL x.1)⟩
theorem y3Z (a0:dA):yz0 a0=(fun n=>some ((n,()),())) (ymL a0):=zkq (p:=fun (n:Int)=>((n,()),())) (zkc (p:=fun (n:Int)=>((n,()),())) rfl (zkc (p:=fun (n:Int)=>((n,()),())) rfl rfl))
theorem yL5:ConOk Tryz.prog 104 yzC:=(y1S).mono (fun x r _ h=>(y3Z x.1).trans h)
def yow (a:dA) (s:Int):dA×Int:=bif !(yx a) then (a,1) else bif ye a then (a,6) else bif !(yP a.2.1 s) then (a,2) else ((flushE a s).2,(flushE a s).1)
def yzE (a:dA):dA×Int:=bif !(yx a) then (a,1) else bif ye a then (a,6) else ((allE a).2,(allE a).1)
theorem y6z (a:dA):ymL a=bif !(yx a) then 1 else bif ye a then 6 else 0:=by
 unfold ymL yZ; rfl
end
section
def yLd:Code:=(Tryz.f48.body).getD .skip
def yLK:Env:=zj3 TT [(135,yn)] []
theorem yTo:FrOk Tryz.prog ⟨yLK,34,fun _=>none⟩ yLd:=zj7 yb yc ⟨yu,trivial⟩
def yV9:Nat→Option Seg:=fun _=>none
abbrev yiZ:List Par:= [.rd tA,.rd tI,.rd tI]
abbrev yuv:List OT:= [⟨false,tB,.fz⟩]
def yqu (a0:dA) (a1 a2:Int):Option (ResD yuv×MutD yiZ) :=
 let r1:=ya a1 0 (IntKind.i64.wrap ((a0.2.2.1.length:Int) - 1))
 bif r1 then
 bif (inb a1 a0.2.2.1.length) then
 bif (!((((nth a0.2.2.1 a1 ([],[],false,[])).2).2).1)) then
 bif (!(a1 !=a0.2.2.2.1)) then
 some (((ltb a2 a0.2.2.2.2.1),()),())
 else
 some ((true,()),())
 else
 some ((false,()),())
 else none
 else
 some ((false,()),())
theorem y3f (x:InD yiZ):zjx ⟨yLK,34,yV9⟩ Tryz.f48.results.toList yLd yiZ yuv x=yqu x.1 x.2.1 x.2.2.1:=by kernel_rfl
theorem yYV:ConOk Tryz.prog 48 ⟨yiZ,yuv,fun x=>yqu x.1 x.2.1 x.2.2.1⟩:=zj2 (yTo) Tryz.func48 (by kernel_rfl) (by kernel_rfl) Tryz.ntmps48.symm (by decide) (fun x r h=>(y3f x).trans h)
def yev (a0:dA) (a1 a2:Int):Bool:=yda a0 a1 a2
theorem y09 (a0:dA) (a1 a2:Int) (hk:zi2 yiZ (a0,a1,a2,())):yqu a0 a1 a2=(fun n=>some ((n,()),())) (yev a0 a1 a2):=by
 have hb:a0.2.2.1.length * 80≤2 ^ 47:=hk.1.2.2.1.1
 unfold yqu yev yda noMem
 rw [yru (show a0.2.2.1.length≤1152921504606846976 by omega)]
 cases inb a1 a0.2.2.1.length
 ·rfl
 ·cases (nth a0.2.2.1 a1 ([],[],false,[])).2.2.1<;>cases (a1 !=a0.2.2.2.1)<;>rfl
def yxz:Con:=⟨yiZ,yuv,fun x=>(fun n=>some ((n,()),())) (yev x.1 x.2.1 x.2.2.1)⟩
theorem yJW:ConOk Tryz.prog 48 yxz:=(yYV).mono (fun x r hk h=>(y09 x.1 x.2.1 x.2.2.1 hk).trans h)
end
section
def yqM:Code:=(Tryz.f238.body).getD .skip
def ywA:Env:=zj3 TT [] []
theorem yXS:FrOk Tryz.prog ⟨ywA,18,fun _=>none⟩ yqM:=zj7 yb yc trivial
def yIO:Nat→Option Seg:=fun _=>none
def ydG:Shape:=⟨[(0,false,[.br tI]),(1,false,[.int .i64]),(5,false,[.int .i64])],[],[]⟩
def yjU:Shape:=⟨[(0,false,[.br tI]),(1,false,[.int .i64]),(5,false,[.ci .i64 0])],[],[]⟩
def yjF:Shape:=⟨[],[],[]⟩
def ykm:Shape:=⟨[(4,false,[.bool])],[],[]⟩
abbrev yvy (v0:List Int) (v1 v2:Int):(ydG).X:=(((v0,()),(v1,()),(v2,()),()),(),())
abbrev yUg (v0:List Int) (v1:Int):(yjU).X:=(((v0,()),(v1,()),((),()),()),(),())
abbrev yT5  :(yjF).X:=((),(),())
abbrev yUr (v0:Bool):(ykm).X:=(((v0,()),()),(),())
def yvX (v0:List Int) (v1 v2:Int):Option ((ydG).X ⊕ ((yjF).X ⊕ (ykm).X)) :=
 bif (ltb v2 (v0.length:Int)) then
 bif (inb v2 v0.length) then
 bif ((nth v0 v2 0)==v1) then
 some (.inr (.inr (((true,()),()),(),())))
 else
 some (.inl (((v0,()),(v1,()),((IntKind.i64.wrap (v2+1)),()),()),(),()))
 else none
 else
 some (.inr (.inl ((),(),())))
def yek (x:(ydG).X):=yvX x.1.1.1 x.1.2.1.1 x.1.2.2.1.1
def yEL (x:(yjU).X):(ydG).X:=(((x.1.1.1,()),(x.1.2.1.1,()),(0,()),()),(),())
def yHc:Code:=(zdD yqM 64 52).getD .skip
theorem yWy:zdD yqM 64 13=some (.block 0 (.loop yHc)):=by kernel_rfl
theorem yZN (x:(ydG).X):zg0 ⟨ywA,18,yIO⟩ 0 yHc 52 ydG yjF ykm x=yek x:=by kernel_rfl
def yE1 (x:(yjU).X):Nat:=18446744073709551616
def ywO (x:(yjU).X):Option ((yjF).X ⊕ (ykm).X):=zz yek (yE1 x) (yEL x)
def yFM:Seg:=⟨yjU,yjF,ykm,ywO⟩
def yIP:Nat→Option Seg:=fun q=>bif Nat.beq q 13 then some yFM else yIO q
theorem yXT:FrOk Tryz.prog ⟨ywA,18,yIP⟩ yqM:=(yXS).loop (sg:=yFM) ydG yEL (by decide) yWy yek yE1 (by decide) (fun _=>rfl) (fun x r _ h=>h) yZN
abbrev yl5:List Par:= [.rd tL,.rd tI]
abbrev yxe:List OT:= [⟨false,tB,.fz⟩]
def ysP (a0:List Int) (a1:Int):Option (ResD yxe×MutD yl5) :=
 zjZ (ywO (((a0,()),(a1,()),((),()),()),(),())) (fun y0 =>
 some ((false,()),())) (fun y0 =>
 some ((y0.1.1.1,()),()))
theorem y4K (x:InD yl5):zjx ⟨ywA,18,yIP⟩ Tryz.f238.results.toList yqM yl5 yxe x=ysP x.1 x.2.1:=by kernel_rfl
theorem y1K:ConOk Tryz.prog 238 ⟨yl5,yxe,fun x=>ysP x.1 x.2.1⟩:=zj2 (yXT) Tryz.func238 (by kernel_rfl) (by kernel_rfl) Tryz.ntmps238.symm (by decide) (fun x r h=>(y4K x).trans h)
def yir (a0:List Int) (a1:Int):Bool:=a0.any (· ==a1)
theorem y3V (a0:List Int) (a1:Int) (hk:zi2 yl5 (a0,a1,())):ysP a0 a1=(fun n=>some ((n,()),())) (yir a0 a1):=by
 have hb:a0.length * 8≤2 ^ 47:=hk.1.1
 have h1:ywO (yUg a0 a1)=some (bif a0.all (· !=a1) then .inl yT5 else .inr (yUr true)) :=
  zjG (step:=yek) a0 0 (fun i=>yvy a0 a1 i) (· !=a1) _ _ (fun i hi=>by
   simp only [yek,yvy,yvX,zj5 (show (i:Int) < a0.length by omega),cond_true,wr (show -9223372036854775808≤(i:Int)+1 by omega) (by omega),Int.natCast_add,Int.natCast_one,Int.toNat_natCast,zkm hi,zkn,bne]
   cases (a0.getD i 0==a1)<;>rfl) (by simp only [yek,yvy,yvX,zky (Int.le_refl _),cond_false]) _ (by show _ < 18446744073709551616; omega)
 unfold ysP yir
 rw [h1,show a0.any (· ==a1)= !(a0.all (· !=a1)) by simp [List.all_eq_not_any_not,bne]]
 cases a0.all (· !=a1)<;>rfl
def yzA:Con:=⟨yl5,yxe,fun x=>(fun n=>some ((n,()),())) (yir x.1 x.2.1)⟩
theorem yL3:ConOk Tryz.prog 238 yzA:=(y1K).mono (fun x r hk h=>(y3V x.1 x.2.1 hk).trans h)
end
end
end Go.Tf
