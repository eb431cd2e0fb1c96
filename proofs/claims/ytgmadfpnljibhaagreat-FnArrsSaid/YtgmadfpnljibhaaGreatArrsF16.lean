/- Functions of the program, and what they come to. -/
import Derived.Test.YtgmadfpnljibhaaGreatArrsF15
namespace Go.Tf
noncomputable section
open Go.Proofs
set_option synthInstance.maxHeartbeats 400000
set_option synthInstance.maxSize 10000
set_option linter.unusedVariables false
set_option linter.unusedSimpArgs false
set_option maxRecDepth 100000
section
def yJt:Code:=(Tryz.f239.body).getD .skip
def yJM:Env:=zj2 TT [(135,yr),(225,yhd)] []
theorem ySO:FrOk Tryz.prog ⟨yJM,22,fun _=>none⟩ yJt:=zj6 yc yd ⟨yx,yov,trivial⟩
def yVb:Nat→Option Seg:=fun _=>none
abbrev ypg:List Par:= [.rd tN]
abbrev yuL:List OT:= [⟨false,tB,.fz⟩]
def yxl (a0:dN):Option (ResD yuL×MutD ypg) :=
 let r1:=ya a0.1 0 60000
 bif r1 then
 let r2:=ya a0.2.1 0 7
 bif r2 then
 let r3:=ya (a0.2.2.length:Int) 2 4
 bif r3 then
 let r4:=yK a0.2.2
 some ((r4,()),())
 else
 some ((false,()),())
 else
 some ((false,()),())
 else
 some ((false,()),())
theorem yZG (x:InD ypg):zjx ⟨yJM,22,yVb⟩ Tryz.f239.results.toList yJt ypg yuL x=yxl x.1:=by kernel_rfl
theorem yWJ:ConOk Tryz.prog 239 ⟨ypg,yuL,fun x=>yxl x.1⟩:=zj1 (ySO) Tryz.func239 (by kernel_rfl) (by kernel_rfl) Tryz.ntmps239.symm (by decide) (fun x r h=>(yZG x).trans h)
def yhk (a0:dN):Bool :=
 let r1:=ya a0.1 0 60000
 bif r1 then
 let r2:=ya a0.2.1 0 7
 bif r2 then
 let r3:=ya (a0.2.2.length:Int) 2 4
 bif r3 then
 let r4:=yK a0.2.2
 r4
 else
 false
 else
 false
 else
 false
def yGo:Con:=⟨ypg,yuL,fun x=>(fun n=>some ((n,()),())) (yhk x.1)⟩
theorem yYO (a0:dN):yxl a0=(fun n=>some ((n,()),())) (yhk a0):=zkp (p:=fun (n:Bool)=>((n,()),())) (zkb (p:=fun (n:Bool)=>((n,()),())) (zkb (p:=fun (n:Bool)=>((n,()),())) (zkb (p:=fun (n:Bool)=>((n,()),())) rfl rfl) rfl) rfl)
theorem yY6:ConOk Tryz.prog 239 yGo:=(yWJ).mono (fun x r _ h=>(yYO x.1).trans h)
def yUK (r:dN):List Int:=bif yhk r then 21322::r.1::r.2.1::(r.2.2.length:Int)::r.2.2 else []
theorem y1D {r:dN}:yhk r=true↔(0≤r.1∧r.1≤60000)∧(0≤r.2.1∧r.2.1≤7)∧(2≤(r.2.2.length:Int)∧(r.2.2.length:Int)≤4)∧r.2.2.all isW=true:=by
 unfold yhk
 simp only [yy3,← yvo]
 cases ya r.1 0 60000<;>cases ya r.2.1 0 7<;>cases ya (r.2.2.length:Int) 2 4<;>simp
def yCI (r:dN) (a:dA) (i:Nat):dA:=ypQ a i (ymX r.1) (yUK r)
def ylg (a:dA) (r:dN):dA:=ycI ((List.range a.2.2.1.length).foldl (yCI r) a)
theorem yAN (r:dN) (a:dA) (i:Nat):(yCI r a i).2.2.1.length=a.2.2.1.length:=yAQ _ _ _ _
theorem y2I (a:dA) (r:dN):(ylg a r).2.2.1.length=a.2.2.1.length:=(yHm _).trans (yB1 (yAN r) _ _)
theorem yxn (a:dA) (r:dN):yF (ylg a r)=yF a:=(ytX _).trans (yya (one:=yCI r) (fun _ _=>yCC _ _ _ _) _ _)
def y2t (p N x:Int) (data:List Int) (i:Int):Int:=bif i==p then x else nth data ((i - p - 1+N).tmod N) 0
def ykZ (p N s:Int) (data:List Int) (a:dA) (i:Nat):dA:=bif yc3 a i s then ypQ a i (dataAt s) [y2t p N (xorOf data) data i] else a
def ye9 (a:dA) (s:Int) (data:List Int):dA:=(List.range a.2.2.1.length).foldl (ykZ (yn a.2.1 s) a.2.1.1 s data) a
theorem yE2 (p N s:Int) (data:List Int) (a:dA) (i:Nat):(ykZ p N s data a i).2.2.1.length=a.2.2.1.length:=by
 unfold ykZ; cases yc3 a i s
 ·rfl
 ·exact yAQ _ _ _ _
theorem yJ6 (p N s:Int) (data:List Int) (a:dA) (i:Nat):yF (ykZ p N s data a i)=yF a:=by
 unfold ykZ; cases yc3 a i s
 ·rfl
 ·exact yCC _ _ _ _
theorem yJ7 (a:dA) (s:Int) (data:List Int):yF (ye9 a s data)=yF a:=yya (yJ6 _ _ _ _) _ _
theorem y3h {N i p:Int} (h:3≤N∧N≤5) (hi:0≤i∧i < N) (hp:0≤p∧p≤N - 1) (hne:i≠p):0≤(i - p - 1+N).tmod N∧(i - p - 1+N).tmod N < N - 1:=by
 rw [Int.tmod_eq_emod_of_nonneg (by omega)]
 have:N=3∨N=4∨N=5:=by omega
 rcases this with rfl | rfl | rfl<;>omega
def dsk (a:dA) (i:Int):dM:=nth a.2.2.1 i noMem
def yG5 (L B i s:Int) (m:dM):Bool:= !m.2.2.1&&(i !=L||ltb s B)
theorem y2F {a:dA} {i s:Int} (hi:inb i a.2.2.1.length=true):yc3 a i s=yG5 a.2.2.2.1 a.2.2.2.2.1 i s (dsk a i):=by
 unfold yc3 yG5 dsk
 rw [hi]; rfl
def yaD (a:dA):dA:=bif leb 4 (IntKind.i64.wrap (a.2.2.2.2.2.1 - a.2.2.2.2.2.2.1)) then checkA a else a
def yf4 (a:dA) (s:Int) (d:List Int):Int×dA :=
 bif downA (yaD a) then (6,yaD a) else
 bif downA (ylg (yaD a) ((yaD a).2.2.2.2.2.1,s,d)) then (6,ylg (yaD a) ((yaD a).2.2.2.2.2.1,s,d)) else
 (bif downA (ye9 (yhz (ylg (yaD a) ((yaD a).2.2.2.2.2.1,s,d))) s d) then 6 else 0,ye9 (yhz (ylg (yaD a) ((yaD a).2.2.2.2.2.1,s,d))) s d)
theorem yXw (a:dA):(checkA a).2.1=a.2.1:=by
 unfold checkA
 cases downA (ycI a)
 ·exact (ypz (yKM (yv7 (ycI a)))).trans (show (ycI a).2.1=a.2.1 from ypz (ytX a))
 ·exact ypz (ytX a)
theorem y0M (a:dA):(yaD a).2.1=a.2.1:=by
 unfold yaD
 cases leb 4 (IntKind.i64.wrap (a.2.2.2.2.2.1 - a.2.2.2.2.2.2.1))
 ·rfl
 ·exact yXw a
def yLA (l:List dW) (k:Nat):List dW:=l.take k++l.drop (k+1)
def flushE (a:dA) (s:Int):Int×dA :=
 bif ltb (yC a.2.2.2.2.2.2.2.2.1 s) 0 then (0,a) else
 bif yar a s (nth a.2.2.2.2.2.2.2.2.1 (yC a.2.2.2.2.2.2.2.2.1 s) (0,[])).2 !=0 then (yar a s (nth a.2.2.2.2.2.2.2.2.1 (yC a.2.2.2.2.2.2.2.2.1 s) (0,[])).2,a) else
 bif (yf4 a s (nth a.2.2.2.2.2.2.2.2.1 (yC a.2.2.2.2.2.2.2.2.1 s) (0,[])).2).1==0 then
 (0,yHk (yf4 a s (nth a.2.2.2.2.2.2.2.2.1 (yC a.2.2.2.2.2.2.2.2.1 s) (0,[])).2).2 (yLA a.2.2.2.2.2.2.2.2.1 (yC a.2.2.2.2.2.2.2.2.1 s).toNat))
 else yf4 a s (nth a.2.2.2.2.2.2.2.2.1 (yC a.2.2.2.2.2.2.2.2.1 s) (0,[])).2
theorem yXy {a:dA} {s:Int} {d:List Int} (h:yar a s d=0):yV a=true∧(d.length:Int)=a.2.1.1 - 1∧d.all isW=true∧downA a=false∧yaM a.2.1 s=true∧a.2.2.2.2.2.2.2.2.2.2.2=false∧a.2.2.2.2.2.1 < 60000∧a.2.2.2.2.2.2.2.1 < 59990:=by
 unfold yar at h
 simp only [yeG,yy3,ybX]at h
 cases ha:yV a
 ·rw [ha]at h; exact absurd (show (1:Int)=0 from h) (by decide)
 have hg:=yi.1 (ypu ha)
 rw [ha,wr (show -9223372036854775808≤a.2.1.1 - 1 by omega) (by omega),wr (show -9223372036854775808≤a.2.1.2 - 1 by omega) (by omega)] at h
 cases hl:((d.length:Int) !=a.2.1.1 - 1)
 ·cases hw:d.all isW
  ·rw [hl,hw]at h; exact absurd (show (1:Int)=0 from h) (by decide)
  cases hd:a.2.2.2.2.2.2.2.2.2.2.1
  ·cases hs:(leb 0 s&&leb s (a.2.1.2 - 1))
   ·rw [hl,hw,hd,hs]at h; exact absurd (show (2:Int)=0 from h) (by decide)
   cases hb:a.2.2.2.2.2.2.2.2.2.2.2
   ·cases h6:leb 60000 a.2.2.2.2.2.1
    ·cases h7:leb 59990 a.2.2.2.2.2.2.2.1
     ·have e6: ¬ (60000≤a.2.2.2.2.2.1):=fun g=>by rw [zkw g]at h6; cases h6
      have e7: ¬ (59990≤a.2.2.2.2.2.2.2.1):=fun g=>by rw [zkw g]at h7; cases h7
      exact ⟨rfl,bne_eq_false_iff_eq.1 hl,rfl,hd,by unfold yaM; rw [ypu ha,hs]; rfl,rfl,by omega,by omega⟩
     ·rw [hl,hw,hd,hs,hb,h6,h7]at h; exact absurd (show (7:Int)=0 from h) (by decide)
    ·rw [hl,hw,hd,hs,hb,h6]at h; exact absurd (show (7:Int)=0 from h) (by decide)
   ·rw [hl,hw,hd,hs,hb]at h; exact absurd (show (5:Int)=0 from h) (by decide)
  ·rw [hl,hw,hd]at h; exact absurd (show (6:Int)=0 from h) (by decide)
 ·rw [hl]at h; exact absurd (show (1:Int)=0 from h) (by decide)
theorem yXx (a:dA):(yaD a).2.2.2.2.2.2.2.2.1=a.2.2.2.2.2.2.2.2.1:=by
 unfold yaD
 cases leb 4 (IntKind.i64.wrap (a.2.2.2.2.2.1 - a.2.2.2.2.2.2.1))
 ·rfl
 ·exact y0w a
theorem y0I (a:dA):(yhz a).2.2.2.2.2.2.2.2.1=a.2.2.2.2.2.2.2.2.1:=rfl
theorem y0K (a:dA) (s:Int) (d:List Int):(yf4 a s d).2.2.2.2.2.2.2.2.2.1=a.2.2.2.2.2.2.2.2.1:=by
 unfold yf4
 have h2:=(yR1 (yxn (yaD a) ((yaD a).2.2.2.2.2.1,s,d))).trans (yXx a)
 generalize ylg (yaD a) ((yaD a).2.2.2.2.2.1,s,d)=R at h2 ⊢
 have h3:=(yR1 (yJ7 (yhz R) s d)).trans ((y0I R).trans h2)
 generalize ye9 (yhz R) s d=Q at h3 ⊢
 cases downA (yaD a)
 ·cases downA R
  ·exact h3
  ·exact h2
 ·exact yXx a
theorem y1m {l:List dW} {k:Int} (h0:0≤k) (h1:k < (l.length:Int)):(([]:List dW)++((l.drop (0:Int).toNat).take (k - 0).toNat))++((l.drop (k+1).toNat).take ((l.length:Int) - (k+1)).toNat)=yLA l k.toNat:=by
 unfold yLA
 rw [List.nil_append,show (0:Int).toNat=0 from rfl,List.drop_zero,Int.sub_zero,show (k+1).toNat=k.toNat+1 by omega,List.take_of_length_le (l:=l.drop (k.toNat+1)) (by rw [List.length_drop]; omega)]
def yOq (_:Nat) (a:dA):dA ⊕ (Int×dA):=bif (flushE a (nth a.2.2.2.2.2.2.2.2.1 0 (0,[])).1).1 !=0 then .inr (flushE a (nth a.2.2.2.2.2.2.2.2.1 0 (0,[])).1) else .inl (flushE a (nth a.2.2.2.2.2.2.2.2.1 0 (0,[])).1).2
def allE (a:dA):Int×dA:=goE yOq (fun b=>(0,b)) a.2.2.2.2.2.2.2.2.1.length 0 a
theorem y03 {e:dW} {l:List dW}:yC (e::l) e.1=0:=by
 unfold yC
 rw [yAJ,show (e.1==e.1)=true from beq_self_eq_true _]; rfl
theorem y04 {a:dA} (h:0 < a.2.2.2.2.2.2.2.2.1.length) (h0:(flushE a (nth a.2.2.2.2.2.2.2.2.1 0 (0,[])).1).1=0):(flushE a (nth a.2.2.2.2.2.2.2.2.1 0 (0,[])).1).2.2.2.2.2.2.2.2.2.1=a.2.2.2.2.2.2.2.2.1.drop 1:=by
 unfold flushE at h0 ⊢
 have hk:yC a.2.2.2.2.2.2.2.2.1 (nth a.2.2.2.2.2.2.2.2.1 0 (0,[])).1=0:=by
  cases hl:a.2.2.2.2.2.2.2.2.1 with
  | nil=>rw [hl]at h; exact absurd h (Nat.lt_irrefl 0)
  | cons e l=>exact y03
 rw [hk]at h0 ⊢
 generalize (nth a.2.2.2.2.2.2.2.2.1 0 (0,[])).2=D at h0 ⊢
 generalize (nth a.2.2.2.2.2.2.2.2.1 0 (0,[])).1=s at h0 ⊢
 cases hc:(yar a s D !=0)
 ·rw [hc]at h0
  cases hr:((yf4 a s D).1==0)
  ·rw [hr]at h0
   exact absurd (show (yf4 a s D).1=0 from h0) (beq_eq_false_iff_ne.1 hr)
  ·rfl
 ·rw [hc]at h0
  exact absurd (show yar a s D=0 from h0) (bne_iff_ne.1 hc)
inductive Turned (a:dA):dA→Prop where
 | same:Turned a a
 | put (b x:Int):blkOk a.2.1 b=true→isW x=true→Turned a (setOne a b x).2
 | flush (s:Int):Turned a (flushE a s).2
 | all:Turned a (allE a).2
 | fail (m:Int):a.2.2.2.1= -1→inb m a.2.2.1.length=true→Turned a (failOne a m)
 | spare:inb a.2.2.2.1 a.2.2.1.length=true→(nth a.2.2.1 a.2.2.2.1 noMem).2.2.1=true→Turned a (markA (spareNew a))
 | step:inb a.2.2.2.1 a.2.2.1.length=true→(nth a.2.2.1 a.2.2.2.1 noMem).2.2.1=false→a.2.2.2.2.1 < a.2.1.2→Turned a (stepOne a).2
 | check:Turned a (checkA a)
 | spoil (m s:Int):inb m a.2.2.1.length=true→0≤s→s < a.2.1.2→Turned a (setMem a m (spoil (nth a.2.2.1 m noMem) (dataAt s)))
def yZj (g:dG) (e:dW):Prop:=(0≤e.1∧e.1≤g.2 - 1)∧(e.2.length:Int)=g.1 - 1∧e.2.all isW=true
theorem yEE {g:dG} {l:List dW}:yaO g l=true↔(∀ e∈l,yZj g e)∧l.Pairwise (fun x y=>x.1 < y.1):=by
 have bad: ∀ i,yhT g l i=false↔yZj g (nth l i (0,[]))∧(0 < i→(nth l ((i - 1:Nat):Int) (0,[])).1 < (nth l i (0,[])).1):=by
  intro i
  unfold yhT yZj
  simp only [Bool.or_eq_false_iff,Bool.not_eq_false',bne_eq_false_iff_eq,Bool.and_eq_true,Bool.and_eq_false_iff,decide_eq_false_iff_not,zjE]
  constructor
  ·rintro ⟨h1,h2,h3,h4⟩
   refine ⟨⟨h1,h2,h3⟩,fun h0=> ?_⟩
   rcases h4 with h4 | h4
   ·exact absurd h0 h4
   ·have:=mt zkw (by rw [h4]; simp: ¬ leb (nth l i (0,[])).1 (nth l ((i - 1:Nat):Int) (0,[])).1=true)
    omega
  ·rintro ⟨⟨h1,h2,h3⟩,h4⟩
   refine ⟨h1,h2,h3,?_⟩
   by_cases h0:0 < i
   ·exact .inr (zkv (by have:=h4 h0; omega))
   ·exact .inl h0
 unfold yaO
 simp only [Bool.not_eq_true',List.any_eq_false,List.mem_range,Bool.not_eq_true,bad]
 constructor
 ·intro h
  refine ⟨fun e he=> ?_,?_⟩
  ·obtain ⟨i,hi,rfl⟩:=List.getElem_of_mem he
   have:=(h i hi).1
   rwa [zkm,zkd hi]at this
  ·rw [List.pairwise_iff_getElem]
   have step: ∀ (d i:Nat) (hi:i < l.length) (hj:i+d+1 < l.length),l[i].1 < l[i+d+1].1:=by
    intro d
    induction d with
    | zero =>
     intro i hi hj
     have:=(h (i+1) hj).2 (by omega)
     rwa [Nat.add_sub_cancel,zkm,zkm,zkd hi,zkd hj]at this
    | succ d ih =>
     intro i hi hj
     have h1:=ih i hi (by omega)
     have:=(h (i+d+1+1) hj).2 (by omega)
     rw [Nat.add_sub_cancel,zkm,zkm,zkd (show i+d+1 < l.length by omega),zkd (show i+d+1+1 < l.length from hj)] at this
     exact Int.lt_trans h1 this
   intro i j hi hj hij
   have:=step (j - i - 1) i hi (by omega)
   have e:i+(j - i - 1)+1=j:=by omega
   simp only [e]at this
   exact this
 ·rintro ⟨h1,h2⟩ i hi
  rw [List.pairwise_iff_getElem]at h2
  refine ⟨by rw [zkm,zkd hi]; exact h1 _ (List.getElem_mem hi),fun h0=> ?_⟩
  rw [zkm,zkm,zkd hi,zkd (show i - 1 < l.length by omega)]
  exact h2 (i - 1) i (by omega) hi (by omega)
theorem y1n {g:dG} {l:List dW} (k:Nat) (h:yaO g l=true):yaO g (yLA l k)=true:=by
 rw [yEE]at h ⊢
 have hs:(yLA l k).Sublist l:=by
  unfold yLA
  have:(l.take k++l.drop (k+1)).Sublist (l.take k++l.drop k):=List.Sublist.append_left (by rw [← List.drop_drop]; exact List.drop_sublist _ _) _
  rwa [List.take_append_drop]at this
 exact ⟨fun e he=>h.1 e (hs.subset he),h.2.sublist hs⟩
theorem y0k (e:dW): ∀ (l acc:List dW),l.foldl (ybV e) (true,acc)=(true,acc++l.filter (fun x=>x.1 !=e.1))
 | [],acc=>by simp
 | x::t,acc=>by
  rw [List.foldl_cons]
  have:ybV e (true,acc) x=(true,acc++(bif x.1 !=e.1 then [x] else [])):=rfl
  rw [this,y0k e t,List.filter_cons]
  cases x.1 !=e.1<;>simp
theorem y1B {e:dW} {l:List dW} (h:l.Pairwise (fun x y=>x.1 < y.1)):yLl l e=l.filter (fun x=>ltb x.1 e.1)++e::l.filter (fun x=>ltb e.1 x.1):=by
 have: ∀ (l acc:List dW),l.Pairwise (fun x y=>x.1 < y.1)→(bif (l.foldl (ybV e) (false,acc)).1 then (l.foldl (ybV e) (false,acc)).2 else (l.foldl (ybV e) (false,acc)).2++ [e])=acc++(l.filter (fun x=>ltb x.1 e.1)++e::l.filter (fun x=>ltb e.1 x.1)):=by
  intro l
  induction l with
  | nil=>intro acc _; simp
  | cons x t ih =>
   intro acc h
   obtain ⟨hx,ht⟩:=List.pairwise_cons.1 h
   rw [List.foldl_cons]
   by_cases hle:e.1≤x.1
   ·have h1:ybV e (false,acc) x=(true,(acc++ [e])++(bif x.1 !=e.1 then [x] else [])):=by
     unfold ybV; rw [zkw hle]; rfl
    have h2:t.filter (fun x=>x.1 !=e.1)=t:=List.filter_eq_self.2 (fun y hy=>bne_iff_ne.2 (by have:=hx y hy; omega))
    have h3:t.filter (fun x=>ltb x.1 e.1)= []:=List.filter_eq_nil_iff.2 (fun y hy=>by rw [zkx (by have:=hx y hy; omega)]; simp)
    have h4:t.filter (fun x=>ltb e.1 x.1)=t:=List.filter_eq_self.2 (fun y hy=>zj4 (by have:=hx y hy; omega))
    rw [h1,y0k,h2,List.filter_cons,List.filter_cons,h3,h4,zkx (show e.1≤x.1 by omega)]
    by_cases he:x.1=e.1
    ·rw [show (x.1 !=e.1)=false from bne_eq_false_iff_eq.2 he,zkx (show x.1≤e.1 by omega)]; simp
    ·rw [show (x.1 !=e.1)=true from bne_iff_ne.2 he,zj4 (show e.1 < x.1 by omega)]; simp
   ·have h1:ybV e (false,acc) x=(false,acc++ [x]):=by
     unfold ybV; rw [zkv (show x.1 < e.1 by omega),show (x.1 !=e.1)=true from bne_iff_ne.2 (by omega)]; rfl
    rw [h1,ih _ ht,List.filter_cons,List.filter_cons,zj4 (show x.1 < e.1 by omega),zkx (show x.1≤e.1 by omega)]
    simp
 have:=this l [] h
 rw [List.nil_append]at this
 exact this
theorem y1o {g:dG} {l:List dW} {e:dW} (h:yaO g l=true) (he:yZj g e):yaO g (yLl l e)=true:=by
 rw [yEE]at h ⊢
 rw [y1B h.2]
 refine ⟨fun x hx=> ?_,?_⟩
 ·rcases List.mem_append.1 hx with h1 | h1
  ·exact h.1 x (List.mem_filter.1 h1).1
  ·rcases List.mem_cons.1 h1 with rfl | h1
   ·exact he
   ·exact h.1 x (List.mem_filter.1 h1).1
 ·rw [List.pairwise_append,List.pairwise_cons]
  refine ⟨h.2.filter _,⟨fun y hy=>zjH.1 (List.mem_filter.1 hy).2,h.2.filter _⟩,fun x hx y hy=> ?_⟩
  have h1:=zjH.1 (List.mem_filter.1 hx).2
  rcases List.mem_cons.1 hy with rfl | hy
  ·exact h1
  ·exact Int.lt_trans h1 (zjH.1 (List.mem_filter.1 hy).2)
theorem yxX {g:dG} {l:List dW} (h:yaO g l=true) (hg:yb g=true):l.length≤8:=by
 rw [yEE]at h
 have hg:=yi.1 hg
 have:=yLy (l:=l.map (fun e=>e.1)) (lo:=0) (n:=g.2) (by rw [List.pairwise_map]; exact h.2) (fun x hx=>by
  obtain ⟨e,he,rfl⟩:=List.mem_map.1 hx
  have:=(h.1 e he).1; omega) (by omega)
 rw [List.length_map]at this
 omega
theorem y2a {a:dA} (r:dN) (h:Keep a):Keep (ylg a r) :=
 yKK (ylF (P:=Keep) (one:=yCI r) (yAN r) (fun _ _ h hi=>yG3 h (zkl hi)) _ a (Nat.le_refl _) h)
theorem y13 {a:dA} (r:dN) (h:yjk a):yjk (ylg a r) :=
 yEJ (ylF (P:=yjk) (one:=yCI r) (yAN r) (fun _ _ h _=>yG2 h _ _ _) _ a (Nat.le_refl _) h)
theorem y1u {a:dA} (s:Int) (d:List Int) (h:Keep a):Keep (ye9 a s d) :=
 ylF (P:=Keep) (one:=ykZ (yn a.2.1 s) a.2.1.1 s d) (yE2 _ _ _ _) (fun b i h hi=>by
  unfold ykZ
  cases yc3 b i s
  ·exact h
  ·exact yG3 h (zkl hi)) _ a (Nat.le_refl _) h
theorem y1s {a:dA} (s:Int) (d:List Int) (h:yjk a):yjk (ye9 a s d) :=
 ylF (P:=yjk) (one:=ykZ (yn a.2.1 s) a.2.1.1 s d) (yE2 _ _ _ _) (fun b i h hi=>by
  unfold ykZ
  cases yc3 b i s
  ·exact h
  ·exact yG2 h _ _ _) _ a (Nat.le_refl _) h
theorem y22 {k:Int} {a:dA} (r:dN) (h:Wk k a):Wk k (ylg a r):=yAR (yxn _ _) (y2a r h.2.1) (y13 r h.2.2.1) h
theorem y2L {k:Int} {a:dA} (s:Int) (d:List Int) (h:Wk k a):Wk k (ye9 a s d):=yAR (yJ7 _ _ _) (y1u s d h.2.1) (y1s s d h.2.2.1) h
theorem y2n {k:Int} {a:dA} (h:Wk k a) (h1:a.2.2.2.2.2.1 < 60000) (h2:a.2.2.2.2.2.1 - a.2.2.2.2.2.2.1≤3):Wk k (yhz a):=by
 obtain ⟨⟨c1,c2,c3,c4,c5,c6,c7,c8,c9,c10,c11⟩,g2,g3,g4,g5⟩:=h
 have e:IntKind.i64.wrap (a.2.2.2.2.2.1+1)=a.2.2.2.2.2.1+1:=wr (by omega) (by omega)
 refine ⟨⟨c1,c2,c3,c4,c5,c6,c7,⟨?_,?_⟩,?_,c10,c11⟩,g2,g3,g4,g5⟩
 ·show a.2.2.2.2.2.2.1≤IntKind.i64.wrap (a.2.2.2.2.2.1+1); omega
 ·show IntKind.i64.wrap (a.2.2.2.2.2.1+1)≤60000; omega
 ·show IntKind.i64.wrap (a.2.2.2.2.2.1+1)≤a.2.2.2.2.2.2.1+4; omega
theorem yZp {a b:dA} (h:yF a=yF b):a.2.2.2.2.2.1=b.2.2.2.2.2.1:=congrArg (fun x=>x.2.2.2.2.1) h
theorem yXz {a b:dA} (h:yF a=yF b):a.2.2.2.2.2.2.1=b.2.2.2.2.2.2.1:=congrArg (fun x=>x.2.2.2.2.2.1) h
theorem yRY {a:dA} (h:yjk a):yF (checkA a)=yF (ysI (yv7 a)):=by
 rw [yRZ h,yKM]
 have:=ytX a
 unfold yF at this ⊢
 simp only [Prod.mk.injEq]at this
 obtain ⟨h1,h2,h3,h4,h5,h6,h7,h8,h9⟩:=this
 unfold ysI yv7
 simp only [h1,h2,h3,h4,h5,h7,h8,h9]
theorem y20 {k:Int} {a:dA} (h:Wk k a) (hk:k+1≤60000):Wk (k+1) (yaD a)∧(yaD a).2.2.2.2.2.1=a.2.2.2.2.2.1∧(yaD a).2.2.2.2.2.1 - (yaD a).2.2.2.2.2.2.1≤3:=by
 have c:=h.1
 unfold coreOk at c
 unfold yaD
 rw [wr (by omega) (by omega)]
 cases h4:leb 4 (a.2.2.2.2.2.1 - a.2.2.2.2.2.2.1)
 ·refine ⟨ydw h (by omega),rfl,?_⟩
  have: ¬ (4≤a.2.2.2.2.2.1 - a.2.2.2.2.2.2.1):=fun g=>by rw [zkw g]at h4; cases h4
  show a.2.2.2.2.2.1 - a.2.2.2.2.2.2.1≤3; omega
 ·have e1:(checkA a).2.2.2.2.2.1=a.2.2.2.2.2.1:=(yZp (yRY h.2.2.1)).trans rfl
  have e2:(checkA a).2.2.2.2.2.2.1=a.2.2.2.2.2.1:=(yXz (yRY h.2.2.1)).trans rfl
  rw [cond_true]
  exact ⟨y0s h hk,e1,by omega⟩
theorem y2q {k:Int} {a:dA} (s:Int) (d:List Int) (h:Wk k a) (hs:a.2.2.2.2.2.1 < 60000) (hk:k+1≤60000):Wk (k+1) (yf4 a s d).2∧(yf4 a s d).1=0:=by
 obtain ⟨h1,h2,h3⟩:=y20 h hk
 have h4:=y22 ((yaD a).2.2.2.2.2.1,s,d) h1
 have e1:=yZp (yxn (yaD a) ((yaD a).2.2.2.2.2.1,s,d))
 have e2:=yXz (yxn (yaD a) ((yaD a).2.2.2.2.2.1,s,d))
 unfold yf4
 generalize ylg (yaD a) ((yaD a).2.2.2.2.2.1,s,d)=R at h4 e1 e2 ⊢
 have h5:=y2L s d (y2n h4 (by omega) (by omega))
 generalize ye9 (yhz R) s d=Q at h5 ⊢
 rw [h1.2.2.1.1,h4.2.2.1.1,h5.2.2.1.1]
 exact ⟨h5,rfl⟩
theorem yNX {k:Int} {a:dA} {l:List dW} (h:Wk k a) (hd:yaO a.2.1 l=true):Wk k (yHk a l):=by
 obtain ⟨⟨c1,c2,c3,c4,c5,c6,c7,c8,c9,c10,c11⟩,g2,g3,g4,g5⟩:=h
 exact ⟨⟨c1,c2,hd,c4,c5,c6,c7,c8,c9,c10,c11⟩,g2,g3,g4,g5⟩
theorem y1P (a:dA) (s:Int) (d:List Int):(yf4 a s d).2.2.1=a.2.1:=by
 unfold yf4
 have h2:=(ypz (yxn (yaD a) ((yaD a).2.2.2.2.2.1,s,d))).trans (y0M a)
 generalize ylg (yaD a) ((yaD a).2.2.2.2.2.1,s,d)=R at h2 ⊢
 have h3:=(ypz (yJ7 (yhz R) s d)).trans (show (yhz R).2.1=a.2.1 from h2)
 generalize ye9 (yhz R) s d=Q at h3 ⊢
 cases downA (yaD a)
 ·cases downA R
  ·exact h3
  ·exact h2
 ·exact y0M a
theorem y0t {k:Int} {a:dA} (s:Int) (h:Wk k a) (hk:k+1≤60000):Wk (k+1) (flushE a s).2:=by
 unfold flushE
 cases ltb (yC a.2.2.2.2.2.2.2.2.1 s) 0
 ·generalize hD:(nth a.2.2.2.2.2.2.2.2.1 (yC a.2.2.2.2.2.2.2.2.1 s) (0,[])).2=D
  cases hc:(yar a s D !=0)
  ·have hz:=yXy (bne_eq_false_iff_eq.1 hc)
   obtain ⟨h1,h2⟩:=y2q s D h hz.2.2.2.2.2.2.1 hk
   rw [show ((yf4 a s D).1==0)=true from beq_iff_eq.2 h2]
   exact yNX h1 (by rw [y1P]; exact y1n _ h.1.2.2.1)
  ·exact ydw h (by omega)
 ·exact ydw h (by omega)
theorem y0u {k:Int}: ∀ (n i:Nat) (j:Int) (a:dA),Wk j a→j+n≤k→k≤60000→Wk k (goE yOq (fun b=>((0:Int),b)) n i a).2
 | 0,_,j,a,h,h1,_=>ydw h (by omega)
 | n+1,i,j,a,h,h1,h2=>by
  have h3:=y0t (nth a.2.2.2.2.2.2.2.2.1 0 (0,[])).1 h (by omega)
  unfold goE yOq
  cases ((flushE a (nth a.2.2.2.2.2.2.2.2.1 0 (0,[])).1).1 !=0)
  ·exact y0u n (i+1) (j+1) _ h3 (by omega) h2
  ·exact ydw h3 (by omega)
theorem y2Z {k:Int} {a:dA} (h:Wk k a) (hk:k+8≤60000):Wk (k+8) (allE a).2:=by
 have:=yxX h.1.2.2.1 h.1.1
 exact y0u _ 0 k a h (by omega) hk
theorem y23 {k:Int} {a:dA} {b n:Int} (h:Wk k a) (hb:blkOk a.2.1 b=true) (hn:isW n=true):Wk k (setOne a b n).2:=by
 unfold setOne
 cases hs:(yY a (yT a.2.1 b)).2
 ·exact h
 ·have hstr:=yxz hb
  have hl:=yy4 (yU3 h) hstr hs
  refine yNX h (y1o h.1.2.2.1 ⟨(ybC.1 hstr).2,by rw [List.length_set]; exact hl,y0V ?_ hn⟩)
  unfold yY
  cases hk:leb 0 (yC a.2.2.2.2.2.2.2.2.1 (yT a.2.1 b))
  ·rw [h.2.2.2.1]; exact y1l _ _
  ·have:=(ytc (d:=((0:Int),([]:List Int))) hk).1
   exact yAP (P:=fun e:dW=>e.2.all isW=true) this (fun e he=>((yEE.1 h.1.2.2.1).1 e he).2.2)
theorem y2z {a:dA} (h:Keep a) {i:Int} (h0:0≤i) (h1:i < a.2.1.1):yq (dsk a i)=true∧((dsk a i).1.length:Int)=6+a.2.1.2∧((dsk a i).2.2.1=true→i=a.2.2.2.1∨a.2.2.2.2.2.2.2.2.2.2.2=true):=by
 have:=h.1.1 i.toNat (by have:=h.1.2; omega)
 unfold yyP at this
 rw [Int.toNat_of_nonneg h0]at this
 exact this
theorem y0Z {s:Int} (h0:0≤s) (h1:s≤1000):dataAt s=s+6:=by
 unfold dataAt
 rw [zkw h0,zkw (show s≤1099511627776 by omega)]; rfl
def yk0 (a:dA) (s i:Int):Bool:=yG5 a.2.2.2.1 a.2.2.2.2.1 i s (dsk a i)&& !(yOr (dsk a i) (s+6))
def View (V:Int→Int→Int) (a:dA):Prop:= ∀ i s,0≤i→i < a.2.1.1→0≤s→s < a.2.1.2→yk0 a s i=true→yZq (dsk a i) (s+6)= [V s i]
def vlist (V:Int→Int→Int) (N:Int) (s:Int):List Int:=(List.range N.toNat).map (fun (i:Nat)=>V s i)
structure EvV (g:dG) (V:Int→Int→Int):Prop where
 ev: ∀ s,0≤s→s < g.2→xorOf (vlist V g.1 s)=0
 ew: ∀ s i,0≤s→s < g.2→0≤i→i < g.1→isW (V s i)=true
theorem ytY {V:Int→Int→Int} {a:dA} {i s:Int} (hg:yb a.2.1=true) (hk:Keep a) (hv:View V a) (i0:0≤i) (i1:i < a.2.1.1) (s0:0≤s) (s1:s < a.2.1.2):ym a i s=yk0 a s i∧(yk0 a s i=true→yjr a i s=V s i):=by
 have hge:=yi.1 hg
 have hin:inb i a.2.2.1.length=true:=zjD.2 (by have:=hk.1.2; omega)
 obtain ⟨d1,d2,d3⟩:=y2z hk i0 i1
 have key:yG5 a.2.2.2.1 a.2.2.2.2.1 i s (dsk a i)=true→ycG a i s=bif yOr (dsk a i) (s+6) then ([],false) else (yZq (dsk a i) (s+6),true):=fun hl=>by
  simp only [yG5,Bool.and_eq_true,Bool.not_eq_true'] at hl
  unfold ycG
  rw [y0Z s0 (by omega)]
  exact y2f d1 hl.1 (zjD.2 (show 0≤s+6∧s+6 < ((dsk a i).1.length:Int) by omega))
 have hw:ym a i s=yk0 a s i:=by
  unfold ym
  rw [y2F hin]
  cases hl:yG5 a.2.2.2.1 a.2.2.2.2.1 i s (dsk a i)
  ·unfold yk0; rw [hl]; rfl
  ·rw [key hl]
   cases hb:yOr (dsk a i) (s+6)
   ·have hh:yk0 a s i=true:=by unfold yk0; rw [hl,hb]; rfl
    rw [hh,cond_false,hv i s i0 i1 s0 s1 hh]; rfl
   ·unfold yk0; rw [hl,hb]; rfl
 refine ⟨hw,fun hh=> ?_⟩
 unfold yjr
 rw [hw,hh,cond_true]
 have hh':=hh
 unfold yk0 at hh'
 rw [Bool.and_eq_true,Bool.not_eq_true'] at hh'
 rw [key hh'.1,hh'.2,cond_false,hv i s i0 i1 s0 s1 hh]; rfl
theorem y2s: ∀ (l:List Int) (k:Nat) (x:Int),k < l.length→yhp (l.set k x)=yhp l ^^^ bv (nth l k 0) ^^^ bv x:=by
 intro l k x hk
 have e1:l=l.take k++nth l k 0::l.drop (k+1):=by
  rw [zkm,zkd hk,← List.drop_eq_getElem_cons hk,List.take_append_drop]
 have e2:l.set k x=l.take k++x::l.drop (k+1):=by
  rw [List.set_eq_take_append_cons_drop,if_pos hk]
 have fo: ∀ (l:List Int) (v:BitVec 64),l.foldl (fun v x=>v ^^^ bv x) v=v ^^^ yhp l:=by
  intro l
  induction l with
  | nil=>intro v; show v=v ^^^ 0#64; rw [BitVec.xor_zero]
  | cons y t ih =>
   intro v
   unfold yhp
   rw [List.foldl_cons,List.foldl_cons,ih,ih (0#64 ^^^ bv y),BitVec.zero_xor,BitVec.xor_assoc]
 have cut: ∀ (A:List Int) (y:Int) (B:List Int),yhp (A++y::B)=yhp A ^^^ bv y ^^^ yhp B:=fun A y B=>by
  show (A++y::B).foldl _ _=_
  rw [List.foldl_append,List.foldl_cons,fo]; rfl
 rw [e2,cut]
 conv=>rhs; rw [e1]
 rw [cut]
 have hn:nth (List.take k l++nth l (↑k) 0::List.drop (k+1) l) (k:Int) 0=nth l k 0:=by rw [← e1]
 rw [hn,BitVec.xor_assoc (yhp (l.take k)),BitVec.xor_assoc (yhp (l.take k)),BitVec.xor_comm (bv (nth l k 0)),BitVec.xor_assoc (yhp (l.take k)),yXS,BitVec.xor_comm (bv x),BitVec.xor_assoc]
theorem y1h {l:List Int} (h:xorOf l=0):yhp l=0#64:=by
 rw [yxo]at h
 have:=congrArg bv h
 rw [yBj]at this
 rw [this]; rfl
theorem yXK {p:Nat→Bool}: ∀ {n:Nat},yfa p n=false→ ∀ j,j < n→p j=true∨(j:Int)=yo p n
 | 0,_,j,hj=>absurd hj (Nat.not_lt_zero _)
 | n+1,h,j,hj=>by
  have h':yfa p n=false:=by
   unfold yfa at h ⊢
   rw [List.range_succ,List.any_append,Bool.or_eq_false_iff]at h
   exact h.1
  have hl:(!p n&&leb 0 (yo p n))=false:=by
   unfold yfa at h
   rw [List.range_succ,List.any_append,Bool.or_eq_false_iff]at h
   simpa using h.2
  unfold yo
  rcases Nat.lt_succ_iff_lt_or_eq.1 hj with hj | rfl
  ·rcases yXK h' j hj with h1 | h1
   ·exact .inl h1
   ·cases hp:p n
    ·rw [hp,← h1]at hl
     rw [zkw (show (0:Int)≤j by omega)] at hl; cases hl
    ·exact .inr h1
  ·cases hp:p j
   ·exact .inr rfl
   ·exact .inl rfl
theorem yXJ {p:Nat→Bool}: ∀ {n:Nat},leb 0 (yo p n)=false→ ∀ j,j < n→p j=true
 | 0,_,j,hj=>absurd hj (Nat.not_lt_zero _)
 | n+1,h,j,hj=>by
  unfold yo at h
  cases hp:p n
  ·rw [hp,cond_false,zkw (show (0:Int)≤n by omega)] at h; cases h
  ·rw [hp,cond_true]at h
   rcases Nat.lt_succ_iff_lt_or_eq.1 hj with hj | rfl
   ·exact yXJ h j hj
   ·exact hp
theorem yLv (V:Int→Int→Int) (N s:Int):(vlist V N s).length=N.toNat:=by unfold vlist; rw [List.length_map,List.length_range]
theorem y1J (V:Int→Int→Int) (N s:Int) {j:Nat} (h:j < (vlist V N s).length):(vlist V N s)[j]=V s j:=by simp [vlist]
theorem y2j (V:Int→Int→Int) {N s i:Int} (h0:0≤i) (h1:i < N):nth (vlist V N s) i 0=V s i:=by
 unfold vlist nth
 rw [zkd (by rw [List.length_map,List.length_range]; omega),List.getElem_map,List.getElem_range,Int.toNat_of_nonneg h0]
theorem y1g {V:Int→Int→Int} {a:dA} {s:Int} (hg:yb a.2.1=true) (hk:Keep a) (he:EvV a.2.1 V) (hv:View V a) (s0:0≤s) (s1:s < a.2.1.2) :
  yN a s=bif yfa (fun (i:Nat)=>yk0 a s i) a.2.1.1.toNat then ([],false) else (vlist V a.2.1.1 s,true):=by
 have hw: ∀ i:Nat,i < a.2.1.1.toNat→ym a i s=yk0 a s i:=fun i hi=>(ytY hg hk hv (by omega) (by omega) s0 s1).1
 have hm: ∀ n,n≤a.2.1.1.toNat→yo (fun (i:Nat)=>ym a i s) n=yo (fun (i:Nat)=>yk0 a s i) n:=by
  intro n
  induction n with
  | zero=>intro _; rfl
  | succ n ih=>intro hn; unfold yo; rw [hw n (by omega),ih (by omega)]
 have h2:yfa (fun (i:Nat)=>ym a i s) a.2.1.1.toNat=yfa (fun (i:Nat)=>yk0 a s i) a.2.1.1.toNat:=by
  unfold yfa
  rw [Bool.eq_iff_iff,List.any_eq_true,List.any_eq_true]
  constructor
  ·rintro ⟨i,hi,h⟩
   have hi':=List.mem_range.1 hi
   exact ⟨i,hi,by dsimp only at h ⊢; rw [hw i hi',hm i (by omega)] at h; exact h⟩
  ·rintro ⟨i,hi,h⟩
   have hi':=List.mem_range.1 hi
   exact ⟨i,hi,by dsimp only at h ⊢; rw [hw i hi',hm i (by omega)]; exact h⟩
 unfold yN
 rw [h2,hm _ (Nat.le_refl _)]
 cases hc:yfa (fun (i:Nat)=>yk0 a s i) a.2.1.1.toNat
 ·simp only [cond_false]
  cases hn:leb 0 (yo (fun (i:Nat)=>yk0 a s i) a.2.1.1.toNat)
  ·simp only [cond_false]
   congr 1
   refine List.map_congr_left fun i hi=> ?_
   have hi':=List.mem_range.1 hi
   exact (ytY hg hk hv (by omega) (by omega) s0 s1).2 (yXJ hn i hi')
  ·simp only [cond_true]
   congr 1
   rcases yKP (fun (i:Nat)=>yk0 a s i) a.2.1.1.toNat with h3 | ⟨k0,k1,k2⟩
   ·rw [h3]at hn; cases hn
   ·have hu:=yXK hc
    generalize yo (fun (i:Nat)=>yk0 a s i) a.2.1.1.toNat=k at *
    obtain ⟨k,rfl⟩: ∃ m:Nat,k=m:=⟨k.toNat,by omega⟩
    rw [Int.toNat_natCast]at k2 ⊢
    have hkl:k < (vlist V a.2.1.1 s).length:=by rw [yLv]; omega
    have e:yE a s a.2.1.1.toNat=(vlist V a.2.1.1 s).set k 0:=by
     refine List.ext_getElem (by rw [yeM,List.length_set,yLv]) fun j h3 h4=> ?_
     rw [yeM]at h3
     rw [List.getElem_set]
     have e1:(yE a s a.2.1.1.toNat)[j]'(by rw [yeM]; exact h3)=yjr a j s:=by unfold yE; simp
     have e2:(vlist V a.2.1.1 s)[j]'(by rw [yLv]; exact h3)=V s j:=by unfold vlist; simp
     rw [e1]
     by_cases hj:k=j
     ·subst hj
      rw [if_pos rfl]
      unfold yjr
      rw [hw k (by omega),k2]; rfl
     ·rw [if_neg hj,e2]
      rcases hu j h3 with h5 | h5
      ·exact (ytY hg hk hv (by omega) (by omega) s0 s1).2 h5
      ·exact absurd h5 (by omega)
    have hx:xorOf (yE a s a.2.1.1.toNat)=V s k:=by
     rw [e,yxo,y2s _ _ _ hkl,y1h (he.ev s s0 s1),BitVec.zero_xor,show bv 0=0#64 by decide,BitVec.xor_zero,y2j V (by omega) (by omega)]
     have:=yLD.1 (he.ew s k s0 s1 (by omega) (by omega))
     exact y2h (by omega) (by omega)
    rw [hx,e,List.set_set]
    refine List.ext_getElem (by rw [List.length_set]) fun j h3 h4=> ?_
    rw [List.getElem_set]
    by_cases hj:k=j
    ·subst hj
     rw [if_pos rfl]
     exact (y1J _ _ _ h4).symm
    ·rw [if_neg hj]
 ·rfl
theorem y1N {k:Int} {a b:dA} (h:Wk k a) (ht:Turned a b) (hk:k+8≤60000):Wk (k+8) b:=by
 cases ht with
 | same=>exact ydw h (by omega)
 | put b x hb hx=>exact ydw (y23 h hb hx) (by omega)
 | flush s=>exact ydw (y0t s h (by omega)) (by omega)
 | all=>exact y2Z h hk
 | fail m hl hm=>exact ydw (y2M h hl hm (by omega)) (by omega)
 | spare hl _=>exact ydw (y2o h hl (by omega)) (by omega)
 | step hl _ hb=>exact ydw (y2N h hl hb) (by omega)
 | check=>exact ydw (y0s h (by omega)) (by omega)
 | spoil m s hm _ _=>exact ydw (y2p h hm) (by omega)
structure Ix (k:Int) (V:Int→Int→Int) (a:dA):Prop where
 xc:coreOk a
 xk:Keep a
 xu:downA a=false
 xb:a.2.2.2.2.2.2.2.2.2.2.2=false
 xg:a.2.2.2.2.2.2.2.1≤k
 xs:a.2.2.2.2.2.1≤k
 xe:EvV a.2.1 V
 xv:View V a
 xn: ∀ i,0≤i→i < a.2.1.1→((dsk a i).2.1.length:Int)≤1+(bif i==a.2.2.2.1 then a.2.2.2.2.1 else 0)
theorem yTg {k:Int} {V:Int→Int→Int} {a:dA} (h:Ix k V a):yV a=true:=yVp.2 ⟨h.xc,h.xk⟩
theorem y1R (x:Int) (l:List Int):yhp (x::l)=bv x ^^^ yhp l:=by
 have fo: ∀ (l:List Int) (v:BitVec 64),l.foldl (fun v x=>v ^^^ bv x) v=v ^^^ yhp l:=by
  intro l
  induction l with
  | nil=>intro v; show v=v ^^^ 0#64; rw [BitVec.xor_zero]
  | cons y t ih =>
   intro v
   unfold yhp
   rw [List.foldl_cons,List.foldl_cons,ih,ih (0#64 ^^^ bv y),BitVec.zero_xor,BitVec.xor_assoc]
 show l.foldl _ (0#64 ^^^ bv x)=_
 rw [fo,BitVec.zero_xor]
theorem ytV {S:Int} (h:1≤S∧S≤8):yO (6+S)=(List.replicate (6+S).toNat [],[],false,[]):=by
 unfold yO
 rw [zkw (show 1≤6+S by omega),zkw (show 6+S≤20 by omega)]; rfl
theorem yNV {id i:Int} {g:dG} (hg:yb g=true): ∀ n:Nat,n≤g.2.toNat→ ∀ k:Int,0≤k→nth ((List.range n).foldl yqG (yjf id g i)).1 k []=bif leb 6 k&&ltb k (6+n) then [0] else bif k==0 then yl (ybU id g i) else []:=by
 have hge:=yi.1 hg
 intro n
 induction n with
 | zero =>
  intro _ k hk
  show nth (yjf id g i).1 k []=_
  unfold yjf
  rw [ytV hge.2]
  have h0:inb 0 (List.replicate (6+g.2).toNat ([]:List Int)).length=true:=by rw [List.length_replicate]; exact zjD.2 (by omega)
  have:=y0g (x:=yl (ybU id g i)) (d:=([]:List Int)) h0 hk
  rw [show (0:Int).toNat=0 from rfl]at this
  rw [this]
  have e1:(leb 6 k&&ltb k (6+((0:Nat):Int)))=false:=by
   cases h:(leb 6 k&&ltb k (6+((0:Nat):Int)))
   ·rfl
   ·rw [Bool.and_eq_true,zjE,zjH]at h; omega
  rw [e1,cond_false]
  by_cases h:k=0
  ·rw [show ((0:Int)==k)=true from beq_iff_eq.2 h.symm,show (k==0)=true from beq_iff_eq.2 h]; rfl
  ·rw [show ((0:Int)==k)=false from beq_eq_false_iff_ne.2 (fun e=>h e.symm),show (k==0)=false from beq_eq_false_iff_ne.2 h,cond_false,cond_false]
   unfold nth
   rw [List.getD_eq_getElem?_getD,List.getElem?_replicate]
   split<;>rfl
 | succ n ih =>
  intro hn k hk
  rw [List.range_succ,List.foldl_append,List.foldl_cons,List.foldl_nil]
  have hlen:((List.range n).foldl yqG (yjf id g i)).1.length=(6+g.2).toNat:=by
   rw [yNU]
   show ((yO (6+g.2)).1.set 0 _).length=_
   rw [List.length_set,ytV hge.2]
   show (List.replicate (6+g.2).toNat ([]:List Int)).length=_
   rw [List.length_replicate]
  have h1:=ih (by omega) k hk
  generalize (List.range n).foldl yqG (yjf id g i)=M at h1 hlen ⊢
  show nth (M.1.set (n+6) [0]) k []=_
  have:=y0g (l:=M.1) (i:=((n+6:Nat):Int)) (x:= [0]) (d:=([]:List Int)) (zkl (by omega)) hk
  rw [Int.toNat_natCast]at this
  rw [this,h1]
  by_cases h:((n+6:Nat):Int)=k
  ·rw [show (((n+6:Nat):Int)==k)=true from beq_iff_eq.2 h,zkw (show 6≤k by omega),zj4 (show k < 6+((n+1:Nat):Int) by omega)]; rfl
  ·rw [show (((n+6:Nat):Int)==k)=false from beq_eq_false_iff_ne.2 h,cond_false,show ltb k (6+((n+1:Nat):Int))=ltb k (6+(n:Int)) by rw [Bool.eq_iff_iff,zjH,zjH]; omega]
theorem y12 (g:dG):EvV g (fun _ _=>0):=by
 refine ⟨fun s _ _=> ?_,fun _ _ _ _ _ _=>rfl⟩
 unfold vlist
 rw [yxo]
 have: ∀ l:List Nat,yhp (l.map (fun (_:Nat)=>(0:Int)))=0#64:=by
  intro l
  induction l with
  | nil=>rfl
  | cons x t ih=>rw [List.map_cons,y1R,ih]; decide
 rw [this]; rfl
theorem y1y {id:Int} {g:dG} (hg:yb g=true) (h1:1≤id) (h2:id≤60000) {i:Int} (i0:0≤i) (i1:i < g.1):dsk (yw id g) i=yh id g i:=by
 rw [ygb hg h1 h2]
 show nth ((List.range g.1.toNat).map (fun (i:Nat)=>yh id g i)) i noMem=_
 unfold nth
 rw [zkd (by rw [List.length_map,List.length_range]; omega),List.getElem_map,List.getElem_range,Int.toNat_of_nonneg i0]
theorem yZ1 {id:Int} {g:dG} (hg:yb g=true) (h1:1≤id) (h2:id≤60000):Ix 0 (fun _ _=>0) (yw id g):=by
 have hw:=yU4 hg h1 h2
 have hge:=yi.1 hg
 have e:=ygb hg h1 h2
 have eg:(yw id g).2.1=g:=by rw [e]
 have ed: ∀ i,0≤i→i < g.1→dsk (yw id g) i=yh id g i:=fun i i0 i1=>y1y hg h1 h2 i0 i1
 refine ⟨hw.1,hw.2.1,hw.2.2.1.1,hw.2.2.2.1,hw.2.2.2.2,by rw [e]; exact Int.le_refl _,y12 _,fun i s i0 i1 s0 s1 _=> ?_,fun i i0 i1=> ?_⟩
 ·rw [eg]at i1 s1
  rw [ed i i0 i1]
  obtain ⟨_,_,n3⟩:=ylN id i hg
  unfold yZq
  rw [n3]
  show nth (yh id g i).1 (s+6) []=_
  unfold yh
  rw [yNV hg g.2.toNat (Nat.le_refl _) (s+6) (by omega),zkw (show 6≤s+6 by omega),zj4 (show s+6 < 6+(g.2.toNat:Int) by omega)]; rfl
 ·rw [eg]at i1
  rw [ed i i0 i1,(ylN id i hg).2.2,e]
  show ((([]:List dW).length:Nat):Int)≤1+(bif i== -1 then 0 else 0)
  rw [List.length_nil]
  cases (i== -1)<;>decide
def yjM (a:dA) (s:Int):Nat:=yi4 (fun (i:Nat)=>yk0 a s i) a.2.1.1.toNat
theorem y19 {k:Int} {V:Int→Int→Int} {a:dA} {s:Int} (h:Ix k V a) (s0:0≤s) (s1:s < a.2.1.2):yN a s=bif decide (yjM a s < 2) then (vlist V a.2.1.1 s,true) else ([],false):=by
 rw [y1g h.xc.1 h.xk h.xe h.xv s0 s1,(yTh _ _).2]
 show (bif decide (2≤yjM a s) then ([],false) else (vlist V a.2.1.1 s,true))=_
 by_cases h2:yjM a s < 2
 ·rw [decide_eq_true h2,decide_eq_false (by omega)]; rfl
 ·rw [decide_eq_false h2,decide_eq_true (by omega)]; rfl
def yLz (V:Int→Int→Int) (g:dG) (s:Int):List Int:=(List.range (g.1 - 1).toNat).map (fun (i:Nat)=>nth (vlist V g.1 s) (yc1 g s i) 0)
theorem y16 {k:Int} {V:Int→Int→Int} {a:dA} {s:Int} (h:Ix k V a) (s0:0≤s) (s1:s < a.2.1.2):yaM a.2.1 s=true:=ybC.2 ⟨h.xc.1,s0,by omega⟩
theorem y05 {k:Int} {V:Int→Int→Int} {a:dA} {s:Int} (h:Ix k V a) (s0:0≤s) (s1:s < a.2.1.2):yBK a s=bif decide (yjM a s < 2) then (yLz V a.2.1 s,true) else ([],false):=by
 unfold yBK yAE
 rw [yTg h,h.xb,y16 h s0 s1,y19 h s0 s1]
 cases decide (yjM a s < 2)<;>rfl
theorem y2c (c:List dW) (x:dW) (l:List (List Int)):yde (fun _=>true) (c++ [x]) l=(yde (fun _=>true) c l).set x.1.toNat x.2:=by
 have key: ∀ n,n≤c.length→(List.range n).foldl (yfZ (fun _=>true) (c++ [x])) l=(List.range n).foldl (yfZ (fun _=>true) c) l:=by
  intro n
  induction n with
  | zero=>intro _; rfl
  | succ n ih =>
   intro hn
   rw [List.range_succ,List.foldl_append,List.foldl_append,ih (by omega)]
   have:nth (c++ [x]) (n:Int) (0,[])=nth c (n:Int) (0,[]):=by
    rw [zkm,zkm,List.getD_eq_getElem?_getD,List.getD_eq_getElem?_getD,List.getElem?_append_left (by omega)]
   show yfZ (fun _=>true) (c++ [x]) _ n=yfZ (fun _=>true) c _ n
   unfold yfZ
   rw [this]
 unfold yde
 rw [List.length_append,List.length_singleton,List.range_succ,List.foldl_append,key _ (Nat.le_refl _)]
 have:nth (c++ [x]) ((c.length:Nat):Int) (0,[])=x:=by
  rw [zkm,List.getD_eq_getElem?_getD,List.getElem?_append_right (Nat.le_refl _),Nat.sub_self]; rfl
 show yfZ (fun _=>true) (c++ [x]) _ c.length=_
 unfold yfZ
 rw [this]; rfl
def wDc (id:Int) (g:dG) (i:Int) (n:Nat):List dW:=(0,yl (ybU id g i))::(List.range n).map (fun (s:Nat)=>(((s+6:Nat):Int),[0]))
def wD (id:Int) (g:dG) (i:Int) (n:Nat):dM:=((yO (6+g.2)).1,wDc id g i n,false,[])
theorem y0r (id:Int) (g:dG) (i:Int) (n:Nat):wDc id g i (n+1)=wDc id g i n++ [(((n+6:Nat):Int),[0])]:=by
 unfold wDc
 rw [List.range_succ,List.map_append]; rfl
theorem y1K {id i:Int} {g:dG} (hg:yb g=true): ∀ n:Nat,yde (fun _=>true) (wDc id g i n) (yO (6+g.2)).1=((List.range n).foldl yqG (yjf id g i)).1
 | 0=>rfl
 | n+1=>by
  rw [y0r,y2c,y1K hg n,List.range_succ,List.foldl_append]; rfl
theorem y2x {id i:Int} {g:dG} (hg:yb g=true) {n:Nat} (hn:n≤g.2.toNat):yq (wD id g i n)=true:=by
 have hge:=yi.1 hg
 unfold wD
 rw [ytV hge.2]
 refine ytd ?_ ?_ ?_ ?_ ?_ ?_
 ·rw [List.all_eq_true]
  intro y hy
  rw [List.eq_of_mem_replicate hy]; rfl
 ·rw [List.all_eq_true]
  intro w hw
  show yrL (List.replicate (6+g.2).toNat ([]:List Int)).length w=true
  rw [List.length_replicate]
  unfold yrL
  rcases List.mem_cons.1 hw with rfl | hw
  ·rw [zjD.2 (show (0:Int)≤0∧(0:Int) < ((6+g.2).toNat:Int) by omega),yCD]; rfl
  ·obtain ⟨s,hs,rfl⟩:=List.mem_map.1 hw
   have:=List.mem_range.1 hs
   rw [zkl (show s+6 < (6+g.2).toNat by omega)]; rfl
 ·rw [ylh]
  exact ⟨fun x hx=>absurd hx List.not_mem_nil,List.Pairwise.nil⟩
 ·show 1≤(List.replicate (6+g.2).toNat ([]:List Int)).length
  rw [List.length_replicate]; omega
 ·show (List.replicate (6+g.2).toNat ([]:List Int)).length≤20
  rw [List.length_replicate]; omega
 ·show (wDc id g i n).length≤60
  unfold wDc
  rw [List.length_cons,List.length_map,List.length_range]; omega
theorem y2K {id i:Int} {g:dG} (hg:yb g=true) {n:Nat} (hn:n < g.2.toNat):ya8 (wD id g i n) (dataAt (n:Int)) [0]=(wD id g i (n+1),true):=by
 have hge:=yi.1 hg
 have hd:dataAt (n:Int)=((n+6:Nat):Int):=by unfold dataAt; rw [zkw (show (0:Int)≤n by omega),zkw (show (n:Int)≤1099511627776 by omega)]; rfl
 have hl:(wD id g i n).1.length=(6+g.2).toNat:=by
  unfold wD
  rw [ytV hge.2]
  exact List.length_replicate
 have hc:yjl (wD id g i n) (dataAt (n:Int)) [0]=true:=by
  unfold yjl
  rw [y2x hg (Nat.le_of_lt hn),hl,hd,zkl (show n+6 < (6+g.2).toNat by omega),show yS [0]=true from rfl]
  show ltb ((wDc id g i n).length:Int) 60=true
  unfold wDc
  rw [List.length_cons,List.length_map,List.length_range]
  exact zj4 (by omega)
 unfold ya8
 rw [hc,hd,cond_true]
 unfold wD
 rw [y0r]; rfl
theorem y2k {id i:Int} {g:dG} (hg:yb g=true):ya8 (yO (6+g.2)) 0 (yl (ybU id g i))=(wD id g i 0,true):=by
 have hge:=yi.1 hg
 have hm:yq (yO (6+g.2))=true:=yKN (by omega) (by omega)
 have hc:yjl (yO (6+g.2)) 0 (yl (ybU id g i))=true:=by
  unfold yjl
  rw [hm,yCD,ytV hge.2]
  show (inb 0 (List.replicate (6+g.2).toNat ([]:List Int)).length&&_)=true
  rw [List.length_replicate,zjD.2 (show (0:Int)≤0∧(0:Int) < ((6+g.2).toNat:Int) by omega)]; rfl
 unfold ya8
 rw [hc,cond_true]
 unfold wD
 rw [ytV hge.2]; rfl
theorem y2l {id i:Int} {g:dG} (hg:yb g=true):ybx (wD id g i g.2.toNat)=yh id g i:=by
 unfold ybx
 rw [y2x hg (Nat.le_refl _)]
 show (yde (fun _=>true) (wDc id g i g.2.toNat) (yO (6+g.2)).1,[],false,[])=_
 rw [y1K hg]
 exact Prod.ext rfl (ylN id i hg).2.2.symm
theorem yXM {id i:Int} {g:dG} (hg:yb g=true) (h1:1≤id) (h2:id≤60000) (i0:0≤i) (i1:i < g.1):yA (ybU id g i)=true:=by
 have hge:=yi.1 hg
 exact yFg.2 ⟨hg,⟨h1,h2⟩,⟨Int.le_refl _,show (0:Int)≤60000 by decide⟩,⟨i0,show i≤g.1 - 1 by omega⟩,⟨Int.le_refl _,show (0:Int)≤60000 by decide⟩,⟨Int.le_refl _,show (-1:Int)≤g.1 - 1 by omega⟩,⟨Int.le_refl _,show (0:Int)≤g.2 by omega⟩,.inr rfl⟩
def yPY (id:Int) (g:dG) (l:List dM):dA:=(id,g,l,-1,0,0,0,0,[],-1,false,false)
theorem yvq (p:Nat→Bool): ∀ n,decide (yi4 p n=0)=(List.range n).all p
 | 0=>rfl
 | n+1=>by
  rw [List.range_succ,List.all_append,← yvq p n,yvp]
  cases hp:p n
  ·simp [hp]
  ·simp [hp]
theorem yZ2 {k:Int} {V:Int→Int→Int} {a:dA} {s:Int} (h:Ix k V a) (s0:0≤s) (s1:s < a.2.1.2):yga a s=(0,decide (yjM a s=0)):=by
 have hlen:=h.xk.1.2
 have hN:a.2.2.1.length=a.2.1.1.toNat:=by omega
 have hw:yBh a s=decide (yjM a s=0):=by
  unfold yBh yjM
  rw [yvq,hN,Bool.eq_iff_iff,List.all_eq_true,List.all_eq_true]
  constructor
  ·intro g i hi
   have hi':=List.mem_range.1 hi
   have:=g i hi
   rwa [(ytY h.xc.1 h.xk h.xv (show (0:Int)≤(i:Int) by omega) (by omega) s0 s1).1]at this
  ·intro g i hi
   have hi':=List.mem_range.1 hi
   rw [(ytY h.xc.1 h.xk h.xv (show (0:Int)≤(i:Int) by omega) (by omega) s0 s1).1]
   exact g i hi
 unfold yga
 rw [hw]
 cases hd:decide (yjM a s=0)
 ·rfl
 ·rw [cond_true,hN]
  congr 1
  have:(List.range a.2.1.1.toNat).map (fun (i:Nat)=>yjr a i s)=vlist V a.2.1.1 s:=by
   unfold vlist
   refine List.map_congr_left fun i hi=> ?_
   have hi':=List.mem_range.1 hi
   refine (ytY h.xc.1 h.xk h.xv (show (0:Int)≤(i:Int) by omega) (by omega) s0 s1).2 ?_
   unfold yjM at hd
   rw [yvq,List.all_eq_true]at hd
   exact hd i hi
  rw [this]
  exact h.xe.ev s s0 s1
theorem y2D {k:Int} {V:Int→Int→Int} {a:dA} (h:Ix k V a):yZk a=true:=by
 unfold yZk
 rw [List.all_eq_true]
 intro s hs
 have:=List.mem_range.1 hs
 rw [yZ2 h (by omega) (by omega)]
 simp
theorem y2C {k:Int} {V:Int→Int→Int} {a:dA} (h:Ix k V a):yZn a=(yi4 (fun (s:Nat)=>decide (yjM a s=0)) a.2.1.2.toNat:Nat):=by
 unfold yZn
 rw [yTg h,cond_true]
 have: ∀ n,n≤a.2.1.2.toNat→yi4 (fun (s:Nat)=>(yga a s).2) n=yi4 (fun (s:Nat)=>decide (yjM a s=0)) n:=by
  intro n
  induction n with
  | zero=>intro _; rfl
  | succ n ih=>intro hn; rw [yvp,yvp,ih (by omega),yZ2 h (show (0:Int)≤(n:Int) by omega) (by omega)]
 rw [this _ (Nat.le_refl _)]
theorem yYB {s:dS} (h:yA s=true):yfm (yl s)=(s,true):=by
 have hs:=yFg.1 h
 have hg:=yi.1 hs.1
 simp only at hg
 have hp:yl s= [21317,s.1,s.2.1,s.2.2.1,s.2.2.2.1,s.2.2.2.2.1,s.2.2.2.2.2.1,s.2.2.2.2.2.2.1+1,s.2.2.2.2.2.2.2]:=by
  unfold yl
  rw [h,wr (show -9223372036854775808≤s.2.2.2.2.2.2.1+1 by omega) (by omega)]; rfl
 have ha:yGQ (yl s)=s:=by
  rw [hp]
  show (s.1,s.2.1,s.2.2.1,s.2.2.2.1,s.2.2.2.2.1,s.2.2.2.2.2.1,IntKind.i64.wrap (s.2.2.2.2.2.2.1+1 - 1),s.2.2.2.2.2.2.2)=s
  rw [wr (show -9223372036854775808≤s.2.2.2.2.2.2.1+1 - 1 by omega) (by omega),Int.add_sub_cancel]
 unfold yfm
 rw [ha,h,hp]; rfl
theorem y0a {id i:Int} {g:dG} (hg:yb g=true) {k:Int} (k0:0≤k) (k1:k < 6):yU (yh id g i) k=(bif k==0 then yl (ybU id g i) else [],true):=by
 have hge:=yi.1 hg
 obtain ⟨n1,n2,n3⟩:=ylN id i hg
 have hc:yqx (yh id g i) k=true:=by
  unfold yqx
  rw [n1,n3,zjD.2 (show 0≤k∧k < ((yh id g i).1.length:Int) by omega)]; rfl
 unfold yU
 rw [hc,n3,cond_true]
 show (nth (yh id g i).1 k [],true)=_
 unfold yh
 rw [yNV hg g.2.toNat (Nat.le_refl _) k k0,zkv (show k < 6 by omega)]; rfl
theorem yPZ {id i:Int} {g:dG} (hg:yb g=true) (h1:1≤id) (h2:id≤60000) (i0:0≤i) (i1:i < g.1):ya5 (yh id g i) id=(ybU id g i,true):=by
 have r0:=y0a (id:=id) (i:=i) hg (show (0:Int)≤0 by omega) (by omega)
 have r1:=y0a (id:=id) (i:=i) hg (show (0:Int)≤1 by omega) (by omega)
 have gp:=yYB (yXM hg h1 h2 i0 i1)
 have c0:yGT (yh id g i) 0=ybU id g i:=by
  unfold yGT
  rw [r0]
  show (yfm (yl (ybU id g i))).1=_
  rw [gp]
 have k0:ypw (yh id g i) id 0=true:=by
  unfold ypw
  rw [c0,r0]
  show (true&&((yfm (yl (ybU id g i))).2&&((ybU id g i).1==id&&(ybU id g i).2.1.tmod 2==0)))=true
  rw [gp]
  show (true&&(true&&(id==id&&(0:Int).tmod 2==0)))=true
  rw [beq_self_eq_true]; rfl
 have k1:ypw (yh id g i) id 1=false:=by
  unfold ypw
  rw [r1]; rfl
 show ymG (ymG (yfe,false) (ypw (yh id g i) id ((0:Nat):Int)) (yGT (yh id g i) ((0:Nat):Int))) (ypw (yh id g i) id ((1:Nat):Int)) (yGT (yh id g i) ((1:Nat):Int))=_
 rw [show ((0:Nat):Int)=0 from rfl,show ((1:Nat):Int)=1 from rfl,k0,k1,c0]; rfl
theorem yVZ {id i:Int} {g:dG} (hg:yb g=true) (h1:1≤id) (h2:id≤60000) (i0:0≤i) (i1:i < g.1):ysO (yh id g i) i id=true:=by
 unfold ysO
 rw [yPZ hg h1 h2 i0 i1,(ylN id i hg).2.2]
 show (true&&(true&&(i==i)))=true
 rw [beq_self_eq_true]; rfl
theorem yVY {id:Int} {g:dG} {i:Nat} (hi:i < g.1.toNat):nth ((List.range g.1.toNat).map (fun (i:Nat)=>yh id g i)) (i:Int) noMem=yh id g i:=by
 rw [zkm,zkd (by rw [List.length_map,List.length_range]; exact hi),List.getElem_map,List.getElem_range]
theorem y1z {id:Int} {g:dG} (hg:yb g=true) (h1:1≤id) (h2:id≤60000):ye8 ((List.range g.1.toNat).map (fun (i:Nat)=>yh id g i)) id=(ybU id g 0,true):=by
 have hge:=yi.1 hg
 have key: ∀ n,n+1≤g.1.toNat→(List.range (n+1)).foldl (fun s (i:Nat)=>ymG s (ysO (nth ((List.range g.1.toNat).map (fun (i:Nat)=>yh id g i)) i noMem) i id) (ya5 (nth ((List.range g.1.toNat).map (fun (i:Nat)=>yh id g i)) i noMem) id).1) (yfe,false)=(ybU id g 0,true):=by
  intro n
  induction n with
  | zero =>
   intro hn
   show ymG (yfe,false) (ysO (nth _ ((0:Nat):Int) noMem) ((0:Nat):Int) id) (ya5 (nth _ ((0:Nat):Int) noMem) id).1=_
   rw [yVY (by omega),yVZ hg h1 h2 (by omega) (by omega),yPZ hg h1 h2 (by omega) (by omega)]; rfl
  | succ n ih =>
   intro hn
   rw [List.range_succ,List.foldl_append,ih (by omega)]
   show ymG (ybU id g 0,true) (ysO (nth _ ((n+1:Nat):Int) noMem) ((n+1:Nat):Int) id) (ya5 (nth _ ((n+1:Nat):Int) noMem) id).1=_
   rw [yVY (by omega),yVZ hg h1 h2 (by omega) (by omega),yPZ hg h1 h2 (by omega) (by omega)]; rfl
 have:=key (g.1.toNat - 1) (by omega)
 rw [show g.1.toNat - 1+1=g.1.toNat by omega]at this
 unfold ye8
 rw [List.length_map,List.length_range]
 exact this
theorem y2G {id:Int} {g:dG} (hg:yb g=true) (h1:1≤id) (h2:id≤60000):yGS (yw id g).2.2.1 id=(yw id g,true):=by
 have hge:=yi.1 hg
 have ha:=yU3 (yU4 hg h1 h2)
 have e:=ygb hg h1 h2
 have hb:=y1z hg h1 h2
 have hs: ∀ (n:Nat),n≤g.1.toNat→(List.range n).foldl (yne ((List.range g.1.toNat).map (fun (i:Nat)=>yh id g i)) id) ((-1:Int),(0:Int),false)=(-1,0,false):=by
  intro n
  induction n with
  | zero=>intro _; rfl
  | succ n ih =>
   intro hn
   rw [List.range_succ,List.foldl_append,ih (by omega)]
   show yne _ id (-1,0,false) n=_
   unfold yne
   rw [yVY (by omega),yVZ hg h1 h2 (by omega) (by omega)]; rfl
 have hall:yJ4 ((List.range g.1.toNat).map (fun (i:Nat)=>yh id g i)) id=yw id g:=by
  unfold yJ4
  rw [hb,List.length_map,List.length_range]
  show yuZ (ybU id g 0) _ id ((List.range g.1.toNat).foldl (yne _ id) ((-1:Int),(0:Int),false))=_
  rw [hs _ (Nat.le_refl _),e]; rfl
 have hm:(yw id g).2.2.1=(List.range g.1.toNat).map (fun (i:Nat)=>yh id g i):=by rw [e]
 rw [hm]
 unfold yGS
 rw [hall,ha,hb,List.length_map,List.length_range]
 show (bif true&&(((g.1.toNat:Nat):Int)==g.1&&true) then _ else _)=_
 rw [show (((g.1.toNat:Nat):Int)==g.1)=true from beq_iff_eq.2 (by omega)]; rfl
theorem y2H {id:Int} {g:dG} (hg:yb g=true) (h1:1≤id) (h2:id≤60000) {i s:Int} (i0:0≤i) (i1:i < g.1):yk0 (yw id g) s i=true:=by
 unfold yk0
 rw [y1y hg h1 h2 i0 i1]
 unfold yG5 yOr
 rw [(ylN id i hg).2.2,ygb hg h1 h2]
 show ((true&&(i != -1||ltb s 0))&& !(([]:List Int).any _))=true
 rw [show (i != -1)=true from bne_iff_ne.2 (by omega)]; rfl
theorem yZ9 {id:Int} {g:dG} (hg:yb g=true) (h1:1≤id) (h2:id≤60000) (s:Int):yjM (yw id g) s=0:=by
 have hge:=yi.1 hg
 have:decide (yjM (yw id g) s=0)=true:=by
  unfold yjM
  rw [yvq,List.all_eq_true]
  intro i hi
  have hi:=List.mem_range.1 hi
  have:(yw id g).2.1.1=g.1:=by rw [ygb hg h1 h2]
  rw [this]at hi
  exact y2H hg h1 h2 (by omega) (by omega)
 exact of_decide_eq_true this
theorem y2e {id:Int} {g:dG} (hg:yb g=true) (h1:1≤id) (h2:id≤60000):yZn (yw id g)=0:=by
 rw [y2C (yZ1 hg h1 h2)]
 have:decide (yi4 (fun (s:Nat)=>decide (yjM (yw id g) s=0)) (yw id g).2.1.2.toNat=0)=true:=by
  rw [yvq,List.all_eq_true]
  intro s _
  exact decide_eq_true (yZ9 hg h1 h2 s)
 rw [of_decide_eq_true this]; rfl
theorem yZ8 {id:Int} {g:dG} (hg:yb g=true) (h1:1≤id) (h2:id≤60000):yGU (yw id g)=List.replicate (yg g).toNat 0:=by
 have hge:=yi.1 hg
 have hi:=yZ1 hg h1 h2
 have e:=ygb hg h1 h2
 have eg:(yw id g).2.1=g:=by rw [e]
 have hB:=yq0 g
 have key: ∀ b:Nat,b < (yg g).toNat→yc2 (yw id g) (b:Int)=(0,0):=fun b hb=>by
  have hbo:blkOk g (b:Int)=true:=by unfold blkOk; rw [zkw (show (0:Int)≤(b:Int) by omega),zkw (show (b:Int)≤yg g - 1 by omega)]; rfl
  have hs:=yxz hbo
  obtain ⟨_,s0,s1⟩:=ybC.1 hs
  have hd:=y05 hi (s:=yT g b) s0 (by rw [eg]; omega)
  rw [yZ9 hg h1 h2]at hd
  have hn:yY (yw id g) (yT g b)=(yLz (fun _ _=>0) g (yT g b),true):=by
   rw [eg]at hd
   unfold yBK at hd
   rw [yTg hi,hi.xb,eg,hs]at hd
   unfold yY
   rw [show (yw id g).2.2.2.2.2.2.2.2.1= [] by rw [e],show (yw id g).2.2.2.2.2.2.2.2.2.2.2=false from hi.xb]
   exact hd
  have hc:yi1 (yw id g) (b:Int)=0:=by
   unfold yi1
   rw [yTg hi,eg,hbo,show (yw id g).2.2.2.2.2.2.2.2.2.2.1=false by rw [e]]; rfl
  unfold yc2
  rw [hc,eg,hn]
  show (nth (yLz (fun _ _=>0) g (yT g b)) (yd5 g b) 0,(0:Int))=(0,0)
  have hz: ∀ (l:List Int) (k:Int),(∀ x∈l,x=0)→nth l k 0=0:=fun l k hl=>by
   unfold nth
   rw [List.getD_eq_getElem?_getD]
   cases hq:l[k.toNat]? with
   | none=>rfl
   | some x=>exact hl x (List.mem_of_getElem? hq)
  rw [hz _ _ (fun x hx=>by
   unfold yLz at hx
   obtain ⟨j,_,rfl⟩:=List.mem_map.1 hx
   exact hz _ _ (fun y hy=>by
    unfold vlist at hy
    obtain ⟨_,_,rfl⟩:=List.mem_map.1 hy
    rfl))]
 unfold yGU
 rw [eg,show (List.range (yg g).toNat).all (fun (b:Nat)=> !((yc2 (yw id g) b).2 !=0))=true from List.all_eq_true.2 (fun b hb=>by rw [key b (List.mem_range.1 hb)]; rfl),cond_true]
 apply List.ext_getElem
 ·simp
 ·intro j hj1 hj2
  rw [List.getElem_map,List.getElem_range,List.getElem_replicate,key j (by simpa using hj1)]
end
section
def ydx:Code:=(Tryz.f42.body).getD .skip
def yhB:Env:=zj2 TT [(99,yEn),(100,ys6),(108,yu0),(122,ygn),(126,yv),(127,ywf),(128,yBA),(129,yrf),(130,yzJ)] []
theorem yOA:FrOk Tryz.prog ⟨yhB,56,fun _=>none⟩ ydx:=zj6 yc yd ⟨yW4,yEQ,yGE,ym2,yB,yLf,yUv,yCu,yQO,trivial⟩
def yDo:Nat→Option Seg:=fun _=>none
def yaw:Shape:=⟨[(3,false,[.ptr 0 0]),(4,false,[.ptr 64 0]),(5,false,[.ptr 12480 0]),(7,false,[.ptr 29120 0]),(22,false,[.int .i64]),(23,false,[.int .i64]),(34,false,[.int .i64]),(35,false,[.int .i64])],[(0,[.int .i64,.int .i64]),(64,[.int .i64,.int .i64,.int .i64,.nil,.int .i64,.int .i64,.int .i64,.int .i64,.int .i64,.nil,.int .i64,.bool,.bool]),(12480,[.int .i64,.int .i64,.int .i64,.at 800000000,.int .i64,.int .i64,.int .i64,.int .i64,.int .i64,.nil,.int .i64,.bool,.bool]),(29120,[.at 800000001,.at 800000002,.bool,.at 800000003])],[(800000000,tM,(.pr (.ow (.ow .fz)) (.pr (.ow (.pr .fz (.ow .fz))) (.pr .fz (.ow .fz))))),(800000001,tL,(.ow .fz)),(800000002,tW,(.pr .fz (.ow .fz))),(800000003,tI,.fz)]⟩
def ydL:Shape:=⟨[(3,false,[.ptr 0 0]),(4,false,[.ptr 64 0]),(5,false,[.ptr 12480 0]),(7,false,[.ptr 29120 0]),(22,false,[.int .i64]),(23,false,[.int .i64]),(34,false,[.int .i64]),(35,false,[.ci .i64 0])],[(0,[.int .i64,.int .i64]),(64,[.int .i64,.int .i64,.int .i64,.nil,.int .i64,.int .i64,.int .i64,.int .i64,.int .i64,.nil,.int .i64,.bool,.bool]),(12480,[.int .i64,.int .i64,.int .i64,.at 800000000,.int .i64,.int .i64,.int .i64,.int .i64,.int .i64,.nil,.int .i64,.bool,.bool]),(29120,[.at 800000001,.at 800000002,.bool,.at 800000003])],[(800000000,tM,(.pr (.ow (.ow .fz)) (.pr (.ow (.pr .fz (.ow .fz))) (.pr .fz (.ow .fz))))),(800000001,tL,(.ow .fz)),(800000002,tW,(.pr .fz (.ow .fz))),(800000003,tI,.fz)]⟩
def ydE:Shape:=⟨[(3,false,[.ptr 0 0]),(4,false,[.ptr 64 0]),(5,false,[.ptr 12480 0]),(7,false,[.ptr 29120 0]),(22,false,[.int .i64]),(23,false,[.int .i64])],[(0,[.int .i64,.int .i64]),(64,[.int .i64,.int .i64,.int .i64,.nil,.int .i64,.int .i64,.int .i64,.int .i64,.int .i64,.nil,.int .i64,.bool,.bool]),(12480,[.int .i64,.int .i64,.int .i64,.at 800000000,.int .i64,.int .i64,.int .i64,.int .i64,.int .i64,.nil,.int .i64,.bool,.bool]),(29120,[.at 800000001,.at 800000002,.bool,.at 800000003])],[(800000000,tM,(.pr (.ow (.ow .fz)) (.pr (.ow (.pr .fz (.ow .fz))) (.pr .fz (.ow .fz))))),(800000001,tL,(.ow .fz)),(800000002,tW,(.pr .fz (.ow .fz))),(800000003,tI,.fz)]⟩
def yhr:Shape:=⟨[],[],[]⟩
abbrev ylG (v0 v1 v2 v3:Int) (v4:dG) (v5 v6:dA) (v7:dM):(yaw).X:=((((),()),((),()),((),()),((),()),(v0,()),(v1,()),(v2,()),(v3,()),()),((v4.1,v4.2,()),(v5.1,v5.2.1.1,v5.2.1.2,(),v5.2.2.2.1,v5.2.2.2.2.1,v5.2.2.2.2.2.1,v5.2.2.2.2.2.2.1,v5.2.2.2.2.2.2.2.1,(),v5.2.2.2.2.2.2.2.2.2.1,v5.2.2.2.2.2.2.2.2.2.2.1,v5.2.2.2.2.2.2.2.2.2.2.2,()),(v6.1,v6.2.1.1,v6.2.1.2,(),v6.2.2.2.1,v6.2.2.2.2.1,v6.2.2.2.2.2.1,v6.2.2.2.2.2.2.1,v6.2.2.2.2.2.2.2.1,(),v6.2.2.2.2.2.2.2.2.2.1,v6.2.2.2.2.2.2.2.2.2.2.1,v6.2.2.2.2.2.2.2.2.2.2.2,()),((),(),v7.2.2.1,(),()),()),(v6.2.2.1,v7.1,v7.2.1,v7.2.2.2,()))
abbrev yvz (v0 v1 v2:Int) (v3:dG) (v4 v5:dA) (v6:dM):(ydL).X:=((((),()),((),()),((),()),((),()),(v0,()),(v1,()),(v2,()),((),()),()),((v3.1,v3.2,()),(v4.1,v4.2.1.1,v4.2.1.2,(),v4.2.2.2.1,v4.2.2.2.2.1,v4.2.2.2.2.2.1,v4.2.2.2.2.2.2.1,v4.2.2.2.2.2.2.2.1,(),v4.2.2.2.2.2.2.2.2.2.1,v4.2.2.2.2.2.2.2.2.2.2.1,v4.2.2.2.2.2.2.2.2.2.2.2,()),(v5.1,v5.2.1.1,v5.2.1.2,(),v5.2.2.2.1,v5.2.2.2.2.1,v5.2.2.2.2.2.1,v5.2.2.2.2.2.2.1,v5.2.2.2.2.2.2.2.1,(),v5.2.2.2.2.2.2.2.2.2.1,v5.2.2.2.2.2.2.2.2.2.2.1,v5.2.2.2.2.2.2.2.2.2.2.2,()),((),(),v6.2.2.1,(),()),()),(v5.2.2.1,v6.1,v6.2.1,v6.2.2.2,()))
abbrev yvv (v0 v1:Int) (v2:dG) (v3 v4:dA) (v5:dM):(ydE).X:=((((),()),((),()),((),()),((),()),(v0,()),(v1,()),()),((v2.1,v2.2,()),(v3.1,v3.2.1.1,v3.2.1.2,(),v3.2.2.2.1,v3.2.2.2.2.1,v3.2.2.2.2.2.1,v3.2.2.2.2.2.2.1,v3.2.2.2.2.2.2.2.1,(),v3.2.2.2.2.2.2.2.2.2.1,v3.2.2.2.2.2.2.2.2.2.2.1,v3.2.2.2.2.2.2.2.2.2.2.2,()),(v4.1,v4.2.1.1,v4.2.1.2,(),v4.2.2.2.1,v4.2.2.2.2.1,v4.2.2.2.2.2.1,v4.2.2.2.2.2.2.1,v4.2.2.2.2.2.2.2.1,(),v4.2.2.2.2.2.2.2.2.2.1,v4.2.2.2.2.2.2.2.2.2.2.1,v4.2.2.2.2.2.2.2.2.2.2.2,()),((),(),v5.2.2.1,(),()),()),(v4.2.2.1,v5.1,v5.2.1,v5.2.2.2,()))
def yl3 (v0 v1 v2 v3 v4 v5 v6 v7 v8 v9 v10 v11 v12 v13 v14:Int) (v15 v16:Bool) (v17 v18 v19 v20 v21 v22 v23 v24 v25:Int) (v26 v27 v28:Bool) (v29:List dM) (v30:List (List Int)) (v31:List dW) (v32:List Int):Option ((yaw).X ⊕ ((ydE).X ⊕ (yhr).X)) :=
 bif (ltb v3 v2) then
 let r19:=ymQ v3
 let r20:=ybA (v30,v31,v28,v32) r19 ([0]:List Int)
 some (.inl ((((),()),((),()),((),()),((),()),(v0,()),(v1,()),(v2,()),((IntKind.i64.wrap (v3+1)),()),()),((v4,v5,()),(v6,v7,v8,(),v9,v10,v11,v12,v13,(),v14,v15,v16,()),(v17,v18,v19,(),v20,v21,v22,v23,v24,(),v25,v26,v27,()),((),(),r20.1.2.2.1,(),()),()),(v29,r20.1.1,r20.1.2.1,r20.1.2.2.2,())))
 else
 some (.inr (.inl ((((),()),((),()),((),()),((),()),(v0,()),(v1,()),()),((v4,v5,()),(v6,v7,v8,(),v9,v10,v11,v12,v13,(),v14,v15,v16,()),(v17,v18,v19,(),v20,v21,v22,v23,v24,(),v25,v26,v27,()),((),(),v28,(),()),()),(v29,v30,v31,v32,()))))
def yaP (x:(yaw).X):=yl3 x.1.2.2.2.2.1.1 x.1.2.2.2.2.2.1.1 x.1.2.2.2.2.2.2.1.1 x.1.2.2.2.2.2.2.2.1.1 x.2.1.1.1 x.2.1.1.2.1 x.2.1.2.1.1 x.2.1.2.1.2.1 x.2.1.2.1.2.2.1 x.2.1.2.1.2.2.2.2.1 x.2.1.2.1.2.2.2.2.2.1 x.2.1.2.1.2.2.2.2.2.2.1 x.2.1.2.1.2.2.2.2.2.2.2.1 x.2.1.2.1.2.2.2.2.2.2.2.2.1 x.2.1.2.1.2.2.2.2.2.2.2.2.2.2.1 x.2.1.2.1.2.2.2.2.2.2.2.2.2.2.2.1 x.2.1.2.1.2.2.2.2.2.2.2.2.2.2.2.2.1 x.2.1.2.2.1.1 x.2.1.2.2.1.2.1 x.2.1.2.2.1.2.2.1 x.2.1.2.2.1.2.2.2.2.1 x.2.1.2.2.1.2.2.2.2.2.1 x.2.1.2.2.1.2.2.2.2.2.2.1 x.2.1.2.2.1.2.2.2.2.2.2.2.1 x.2.1.2.2.1.2.2.2.2.2.2.2.2.1 x.2.1.2.2.1.2.2.2.2.2.2.2.2.2.2.1 x.2.1.2.2.1.2.2.2.2.2.2.2.2.2.2.2.1 x.2.1.2.2.1.2.2.2.2.2.2.2.2.2.2.2.2.1 x.2.1.2.2.2.1.2.2.1 x.2.2.1 x.2.2.2.1 x.2.2.2.2.1 x.2.2.2.2.2.1
def yva (x:(ydL).X):(yaw).X:=((((),()),((),()),((),()),((),()),(x.1.2.2.2.2.1.1,()),(x.1.2.2.2.2.2.1.1,()),(x.1.2.2.2.2.2.2.1.1,()),(0,()),()),((x.2.1.1.1,x.2.1.1.2.1,()),(x.2.1.2.1.1,x.2.1.2.1.2.1,x.2.1.2.1.2.2.1,(),x.2.1.2.1.2.2.2.2.1,x.2.1.2.1.2.2.2.2.2.1,x.2.1.2.1.2.2.2.2.2.2.1,x.2.1.2.1.2.2.2.2.2.2.2.1,x.2.1.2.1.2.2.2.2.2.2.2.2.1,(),x.2.1.2.1.2.2.2.2.2.2.2.2.2.2.1,x.2.1.2.1.2.2.2.2.2.2.2.2.2.2.2.1,x.2.1.2.1.2.2.2.2.2.2.2.2.2.2.2.2.1,()),(x.2.1.2.2.1.1,x.2.1.2.2.1.2.1,x.2.1.2.2.1.2.2.1,(),x.2.1.2.2.1.2.2.2.2.1,x.2.1.2.2.1.2.2.2.2.2.1,x.2.1.2.2.1.2.2.2.2.2.2.1,x.2.1.2.2.1.2.2.2.2.2.2.2.1,x.2.1.2.2.1.2.2.2.2.2.2.2.2.1,(),x.2.1.2.2.1.2.2.2.2.2.2.2.2.2.2.1,x.2.1.2.2.1.2.2.2.2.2.2.2.2.2.2.2.1,x.2.1.2.2.1.2.2.2.2.2.2.2.2.2.2.2.2.1,()),((),(),x.2.1.2.2.2.1.2.2.1,(),()),()),(x.2.2.1,x.2.2.2.1,x.2.2.2.2.1,x.2.2.2.2.2.1,()))
def yv8:Code:=(zdD ydx 64 250676).getD .skip
theorem yIF:zdD ydx 64 62669=some (.block 2 (.loop yv8)):=by kernel_rfl
theorem yJg (x:(yaw).X):zg0 ⟨yhB,56,yDo⟩ 2 yv8 250676 yaw ydE yhr x=yaP x:=by kernel_rfl
def yvh (x:(ydL).X):Nat:=18446744073709551616
def yhq (x:(ydL).X):Option ((ydE).X ⊕ (yhr).X):=zz yaP (yvh x) (yva x)
def yvW:Seg:=⟨ydL,ydE,yhr,yhq⟩
def ytZ:Nat→Option Seg:=fun q=>bif Nat.beq q 62669 then some yvW else yDo q
theorem yOB:FrOk Tryz.prog ⟨yhB,56,ytZ⟩ ydx:=(yOA).loop (sg:=yvW) yaw yva (by decide) yIF yaP yvh (by decide) (fun _=>rfl) (fun x r _ h=>h) yJg
def ybZ:Shape:=⟨[(3,false,[.ptr 0 0]),(4,false,[.ptr 64 0]),(5,false,[.ptr 12480 0]),(22,false,[.int .i64]),(23,false,[.int .i64])],[(0,[.int .i64,.int .i64]),(64,[.int .i64,.int .i64,.int .i64,.nil,.int .i64,.int .i64,.int .i64,.int .i64,.int .i64,.nil,.int .i64,.bool,.bool]),(12480,[.int .i64,.int .i64,.int .i64,.at 800000000,.int .i64,.int .i64,.int .i64,.int .i64,.int .i64,.nil,.int .i64,.bool,.bool])],[(800000000,tM,(.pr (.ow (.ow .fz)) (.pr (.ow (.pr .fz (.ow .fz))) (.pr .fz (.ow .fz)))))]⟩
def ygX:Shape:=⟨[(3,false,[.ptr 0 0]),(4,false,[.ptr 64 0]),(5,false,[.ptr 12480 0]),(22,false,[.int .i64]),(23,false,[.ci .i64 0])],[(0,[.int .i64,.int .i64]),(64,[.int .i64,.int .i64,.int .i64,.nil,.int .i64,.int .i64,.int .i64,.int .i64,.int .i64,.nil,.int .i64,.bool,.bool]),(12480,[.int .i64,.int .i64,.int .i64,.at 800000000,.int .i64,.int .i64,.int .i64,.int .i64,.int .i64,.nil,.int .i64,.bool,.bool])],[(800000000,tM,(.pr (.ow (.ow .fz)) (.pr (.ow (.pr .fz (.ow .fz))) (.pr .fz (.ow .fz)))))]⟩
def ygL:Shape:=⟨[(4,false,[.ptr 64 0]),(5,false,[.ptr 12480 0])],[(64,[.int .i64,.int .i64,.int .i64,.nil,.int .i64,.int .i64,.int .i64,.int .i64,.int .i64,.nil,.int .i64,.bool,.bool]),(12480,[.int .i64,.int .i64,.int .i64,.at 800000000,.int .i64,.int .i64,.int .i64,.int .i64,.int .i64,.nil,.int .i64,.bool,.bool])],[(800000000,tM,(.pr (.ow (.ow .fz)) (.pr (.ow (.pr .fz (.ow .fz))) (.pr .fz (.ow .fz)))))]⟩
def ylv:Shape:=⟨[],[],[]⟩
abbrev yrm (v0 v1:Int) (v2:dG) (v3 v4:dA):(ybZ).X:=((((),()),((),()),((),()),(v0,()),(v1,()),()),((v2.1,v2.2,()),(v3.1,v3.2.1.1,v3.2.1.2,(),v3.2.2.2.1,v3.2.2.2.2.1,v3.2.2.2.2.2.1,v3.2.2.2.2.2.2.1,v3.2.2.2.2.2.2.2.1,(),v3.2.2.2.2.2.2.2.2.2.1,v3.2.2.2.2.2.2.2.2.2.2.1,v3.2.2.2.2.2.2.2.2.2.2.2,()),(v4.1,v4.2.1.1,v4.2.1.2,(),v4.2.2.2.1,v4.2.2.2.2.1,v4.2.2.2.2.2.1,v4.2.2.2.2.2.2.1,v4.2.2.2.2.2.2.2.1,(),v4.2.2.2.2.2.2.2.2.2.1,v4.2.2.2.2.2.2.2.2.2.2.1,v4.2.2.2.2.2.2.2.2.2.2.2,()),()),(v4.2.2.1,()))
abbrev yMT (v0:Int) (v1:dG) (v2 v3:dA):(ygX).X:=((((),()),((),()),((),()),(v0,()),((),()),()),((v1.1,v1.2,()),(v2.1,v2.2.1.1,v2.2.1.2,(),v2.2.2.2.1,v2.2.2.2.2.1,v2.2.2.2.2.2.1,v2.2.2.2.2.2.2.1,v2.2.2.2.2.2.2.2.1,(),v2.2.2.2.2.2.2.2.2.2.1,v2.2.2.2.2.2.2.2.2.2.2.1,v2.2.2.2.2.2.2.2.2.2.2.2,()),(v3.1,v3.2.1.1,v3.2.1.2,(),v3.2.2.2.1,v3.2.2.2.2.1,v3.2.2.2.2.2.1,v3.2.2.2.2.2.2.1,v3.2.2.2.2.2.2.2.1,(),v3.2.2.2.2.2.2.2.2.2.1,v3.2.2.2.2.2.2.2.2.2.2.1,v3.2.2.2.2.2.2.2.2.2.2.2,()),()),(v3.2.2.1,()))
abbrev yAj (v0 v1:dA):(ygL).X:=((((),()),((),()),()),((v0.1,v0.2.1.1,v0.2.1.2,(),v0.2.2.2.1,v0.2.2.2.2.1,v0.2.2.2.2.2.1,v0.2.2.2.2.2.2.1,v0.2.2.2.2.2.2.2.1,(),v0.2.2.2.2.2.2.2.2.2.1,v0.2.2.2.2.2.2.2.2.2.2.1,v0.2.2.2.2.2.2.2.2.2.2.2,()),(v1.1,v1.2.1.1,v1.2.1.2,(),v1.2.2.2.1,v1.2.2.2.2.1,v1.2.2.2.2.2.1,v1.2.2.2.2.2.2.1,v1.2.2.2.2.2.2.2.1,(),v1.2.2.2.2.2.2.2.2.2.1,v1.2.2.2.2.2.2.2.2.2.2.1,v1.2.2.2.2.2.2.2.2.2.2.2,()),()),(v1.2.2.1,()))
def yrA (v0 v1 v2 v3 v4 v5 v6 v7 v8 v9 v10 v11 v12:Int) (v13 v14:Bool) (v15 v16 v17 v18 v19 v20 v21 v22 v23:Int) (v24 v25:Bool) (v26:List dM):Option ((ybZ).X ⊕ ((ygL).X ⊕ (ylv).X)) :=
 bif (ltb v1 v0) then
 let r23:=yd7 (v2,v3)
 let r24:=ymT r23
 let r25:=yqD (v15,(v16,v17),v26,v18,v19,v20,v21,v22,[],v23,v24,v25) v1
 let r26:=yf2 r24 r25
 zkh (yhq ((((),()),((),()),((),()),((),()),(v0,()),(v1,()),(v3,()),((),()),()),((v2,v3,()),(v4,v5,v6,(),v7,v8,v9,v10,v11,(),v12,v13,v14,()),(v15,v16,v17,(),v18,v19,v20,v21,v22,(),v23,v24,v25,()),((),(),r26.2.2.1,(),()),()),(v26,r26.1,r26.2.1,r26.2.2.2,()))) (fun y26 =>
 let r28:=yi7 (y26.2.2.2.1,y26.2.2.2.2.1,y26.2.1.2.2.2.1.2.2.1,y26.2.2.2.2.2.1)
 bif (zjR y26.2.2.1.length ([r28]:List dM).length 80) then
 some (.inl ((((),()),((),()),((),()),(y26.1.2.2.2.2.1.1,()),((IntKind.i64.wrap (y26.1.2.2.2.2.2.1.1+1)),()),()),((y26.2.1.1.1,y26.2.1.1.2.1,()),(y26.2.1.2.1.1,y26.2.1.2.1.2.1,y26.2.1.2.1.2.2.1,(),y26.2.1.2.1.2.2.2.2.1,y26.2.1.2.1.2.2.2.2.2.1,y26.2.1.2.1.2.2.2.2.2.2.1,y26.2.1.2.1.2.2.2.2.2.2.2.1,y26.2.1.2.1.2.2.2.2.2.2.2.2.1,(),y26.2.1.2.1.2.2.2.2.2.2.2.2.2.2.1,y26.2.1.2.1.2.2.2.2.2.2.2.2.2.2.2.1,y26.2.1.2.1.2.2.2.2.2.2.2.2.2.2.2.2.1,()),(y26.2.1.2.2.1.1,y26.2.1.2.2.1.2.1,y26.2.1.2.2.1.2.2.1,(),y26.2.1.2.2.1.2.2.2.2.1,y26.2.1.2.2.1.2.2.2.2.2.1,y26.2.1.2.2.1.2.2.2.2.2.2.1,y26.2.1.2.2.1.2.2.2.2.2.2.2.1,y26.2.1.2.2.1.2.2.2.2.2.2.2.2.1,(),y26.2.1.2.2.1.2.2.2.2.2.2.2.2.2.2.1,y26.2.1.2.2.1.2.2.2.2.2.2.2.2.2.2.2.1,y26.2.1.2.2.1.2.2.2.2.2.2.2.2.2.2.2.2.1,()),()),((y26.2.2.1++([r28]:List dM)),())))
 else none) (fun y26 =>
 some (.inr (.inr ((),(),()))))
 else
 some (.inr (.inl ((((),()),((),()),()),((v4,v5,v6,(),v7,v8,v9,v10,v11,(),v12,v13,v14,()),(v15,v16,v17,(),v18,v19,v20,v21,v22,(),v23,v24,v25,()),()),(v26,()))))
def ycw (x:(ybZ).X):=yrA x.1.2.2.2.1.1 x.1.2.2.2.2.1.1 x.2.1.1.1 x.2.1.1.2.1 x.2.1.2.1.1 x.2.1.2.1.2.1 x.2.1.2.1.2.2.1 x.2.1.2.1.2.2.2.2.1 x.2.1.2.1.2.2.2.2.2.1 x.2.1.2.1.2.2.2.2.2.2.1 x.2.1.2.1.2.2.2.2.2.2.2.1 x.2.1.2.1.2.2.2.2.2.2.2.2.1 x.2.1.2.1.2.2.2.2.2.2.2.2.2.2.1 x.2.1.2.1.2.2.2.2.2.2.2.2.2.2.2.1 x.2.1.2.1.2.2.2.2.2.2.2.2.2.2.2.2.1 x.2.1.2.2.1.1 x.2.1.2.2.1.2.1 x.2.1.2.2.1.2.2.1 x.2.1.2.2.1.2.2.2.2.1 x.2.1.2.2.1.2.2.2.2.2.1 x.2.1.2.2.1.2.2.2.2.2.2.1 x.2.1.2.2.1.2.2.2.2.2.2.2.1 x.2.1.2.2.1.2.2.2.2.2.2.2.2.1 x.2.1.2.2.1.2.2.2.2.2.2.2.2.2.2.1 x.2.1.2.2.1.2.2.2.2.2.2.2.2.2.2.2.1 x.2.1.2.2.1.2.2.2.2.2.2.2.2.2.2.2.2.1 x.2.2.1
def yzV (x:(ygX).X):(ybZ).X:=((((),()),((),()),((),()),(x.1.2.2.2.1.1,()),(0,()),()),((x.2.1.1.1,x.2.1.1.2.1,()),(x.2.1.2.1.1,x.2.1.2.1.2.1,x.2.1.2.1.2.2.1,(),x.2.1.2.1.2.2.2.2.1,x.2.1.2.1.2.2.2.2.2.1,x.2.1.2.1.2.2.2.2.2.2.1,x.2.1.2.1.2.2.2.2.2.2.2.1,x.2.1.2.1.2.2.2.2.2.2.2.2.1,(),x.2.1.2.1.2.2.2.2.2.2.2.2.2.2.1,x.2.1.2.1.2.2.2.2.2.2.2.2.2.2.2.1,x.2.1.2.1.2.2.2.2.2.2.2.2.2.2.2.2.1,()),(x.2.1.2.2.1.1,x.2.1.2.2.1.2.1,x.2.1.2.2.1.2.2.1,(),x.2.1.2.2.1.2.2.2.2.1,x.2.1.2.2.1.2.2.2.2.2.1,x.2.1.2.2.1.2.2.2.2.2.2.1,x.2.1.2.2.1.2.2.2.2.2.2.2.1,x.2.1.2.2.1.2.2.2.2.2.2.2.2.1,(),x.2.1.2.2.1.2.2.2.2.2.2.2.2.2.2.1,x.2.1.2.2.1.2.2.2.2.2.2.2.2.2.2.2.1,x.2.1.2.2.1.2.2.2.2.2.2.2.2.2.2.2.2.1,()),()),(x.2.2.1,()))
def yBk:Code:=(zdD ydx 64 244).getD .skip
theorem yOe:zdD ydx 64 61=some (.block 0 (.loop yBk)):=by kernel_rfl
theorem yQ2 (x:(ybZ).X):zg0 ⟨yhB,56,ytZ⟩ 0 yBk 244 ybZ ygL ylv x=ycw x:=by kernel_rfl
def yz7 (x:(ygX).X):Nat:=18446744073709551616
def ysU (x:(ygX).X):Option ((ygL).X ⊕ (ylv).X):=zz ycw (yz7 x) (yzV x)
def yAp:Seg:=⟨ygX,ygL,ylv,ysU⟩
def yDp:Nat→Option Seg:=fun q=>bif Nat.beq q 61 then some yAp else ytZ q
theorem yOC:FrOk Tryz.prog ⟨yhB,56,yDp⟩ ydx:=(yOB).loop (sg:=yAp) ybZ yzV (by decide) yOe ycw yz7 (by decide) (fun _=>rfl) (fun x r _ h=>h) yQ2
abbrev yhE:List Par:= [.rd tI,.rd tG]
abbrev ysa:List OT:= [⟨false,tA,(.pr .fz (.pr (.pr .fz .fz) (.pr (.ow (.pr (.ow (.ow .fz)) (.pr (.ow (.pr .fz (.ow .fz))) (.pr .fz (.ow .fz))))) (.pr .fz (.pr .fz (.pr .fz (.pr .fz (.pr .fz (.pr (.ow (.pr .fz (.ow .fz))) (.pr .fz (.pr .fz .fz)))))))))))⟩]
def yow (a0:Int) (a1:dG):Option (ResD ysa×MutD yhE) :=
 let r1:=ya6 a1
 bif (!(!r1)) then
 let r2:=yf a0 1 60000
 bif (!r2) then
 some (((0,(0,0),[],0,0,0,0,0,[],0,false,false),()),())
 else
 zkh (ysU ((((),()),((),()),((),()),(a1.1,()),((),()),()),((a1.1,a1.2,()),(0,0,0,(),0,0,0,0,0,(),0,false,false,()),(a0,a1.1,a1.2,(),(-1),0,0,0,0,(),(-1),false,false,()),()),([],()))) (fun y28 =>
 some (((y28.2.1.2.1.1,(y28.2.1.2.1.2.1,y28.2.1.2.1.2.2.1),y28.2.2.1,y28.2.1.2.1.2.2.2.2.1,y28.2.1.2.1.2.2.2.2.2.1,y28.2.1.2.1.2.2.2.2.2.2.1,y28.2.1.2.1.2.2.2.2.2.2.2.1,y28.2.1.2.1.2.2.2.2.2.2.2.2.1,[],y28.2.1.2.1.2.2.2.2.2.2.2.2.2.2.1,y28.2.1.2.1.2.2.2.2.2.2.2.2.2.2.2.1,y28.2.1.2.1.2.2.2.2.2.2.2.2.2.2.2.2.1),()),())) (fun y28 =>
 none)
 else
 some (((0,(0,0),[],0,0,0,0,0,[],0,false,false),()),())
theorem yXX (x:InD yhE):zjx ⟨yhB,56,yDp⟩ Tryz.f42.results.toList ydx yhE ysa x=yow x.1 x.2.1:=by kernel_rfl
theorem yTO:ConOk Tryz.prog 42 ⟨yhE,ysa,fun x=>yow x.1 x.2.1⟩:=zj1 (yOC) Tryz.func42 (by kernel_rfl) (by kernel_rfl) Tryz.ntmps42.symm (by decide) (fun x r h=>(yXX x).trans h)
def ymP (a0:Int) (a1:dG):dA:=yw a0 a1
theorem yV0 (a0:Int) (a1:dG) (hk:zi2 yhE (a0,a1,())):yow a0 a1=(fun n=>some ((n,()),())) (ymP a0 a1):=by
 unfold yow ymP
 simp only [yKJ,yP,ybX,Bool.not_not]
 cases hg:yb a1
 ·unfold yw; rw [hg]; rfl
 cases hid:(leb 1 a0&&leb a0 60000)
 ·unfold yw; rw [hg,hid]; rfl
 have hge:=yi.1 hg
 rw [Bool.and_eq_true,zjE,zjE]at hid
 have inner: ∀ (i:Int) (a:dA),yhq (yvz a1.1 i a1.2 a1 yZ a (wD a0 a1 i 0))=some (.inl (yvv a1.1 i a1 yZ a (wD a0 a1 i a1.2.toNat))):=fun i a =>
  zkf (step:=yaP) (fun s=>ylG a1.1 i a1.2 s a1 yZ a (wD a0 a1 i s)) a1.2.toNat (.inl (yvv a1.1 i a1 yZ a (wD a0 a1 i a1.2.toNat))) (fun s hs=>by
   have hw:=y2K (id:=a0) (i:=i) hg hs
   simp only [yaP,ylG,yl3,zj4 (show (s:Int) < a1.2 by omega),cond_true,wr (show -9223372036854775808≤(s:Int)+1 by omega) (by omega),Int.natCast_add,Int.natCast_one,zkr,yGD,ybA,hw]) (by
   simp only [yaP,ylG,yl3,show ((a1.2.toNat:Nat):Int)=a1.2 by omega,zkx (Int.le_refl _),cond_false]) 18446744073709551616 (by omega)
 have outer:ysU (yMT a1.1 a1 yZ (yPY a0 a1 []))=some (.inl (yAj yZ (yPY a0 a1 ((List.range a1.1.toNat).map (fun (i:Nat)=>yh a0 a1 i))))) :=
  zkf (step:=ycw) (fun i=>yrm a1.1 i a1 yZ (yPY a0 a1 ((List.range i).map (fun (i:Nat)=>yh a0 a1 i)))) a1.1.toNat (.inl (yAj yZ (yPY a0 a1 ((List.range a1.1.toNat).map (fun (i:Nat)=>yh a0 a1 i))))) (fun i hi=>by
   have hsec:yd7 a1=6+a1.2:=by unfold yd7; exact wr (by omega) (by omega)
   have hsup:yqD (yPY a0 a1 ((List.range i).map (fun (i:Nat)=>yh a0 a1 i))) (i:Int)=ybU a0 a1 i:=rfl
   have hws:yf2 (yO (6+a1.2)) (ybU a0 a1 i)=wD a0 a1 i 0:=by
    unfold yf2
    rw [yyO,yXM hg hid.1 hid.2 (show (0:Int)≤(i:Int) by omega) (by omega)]
    simp only [Bool.not_true,cond_false,y0C,ybA]
    show (ya8 (yO (6+a1.2)) 0 (yl (ybU a0 a1 i))).1=_
    rw [y2k hg]
   have hin:=inner i (yPY a0 a1 ((List.range i).map (fun (i:Nat)=>yh a0 a1 i)))
   simp only [ycw,yrm,yrA,zj4 (show (i:Int) < a1.1 by omega),cond_true,ymT,zkr,hsec]
   refine (congrArg (fun z=>zkh (yhq (yvz a1.1 i a1.2 a1 yZ (yPY a0 a1 ((List.range i).map (fun (i:Nat)=>yh a0 a1 i))) z)) _ _) hws).trans ?_
   refine (congrArg (fun z=>zkh z _ _) hin).trans ?_
   simp only [zki,yi7,zkr]
   show (bif zjR ((List.range i).map (fun (i:Nat)=>yh a0 a1 i)).length [ybx (wD a0 a1 i a1.2.toNat)].length 80 then _ else _)=_
   rw [zka.2 (show (((List.range i).map (fun (i:Nat)=>yh a0 a1 i)).length+ [ybx (wD a0 a1 i a1.2.toNat)].length) * 80≤140737488355328 by rw [List.length_map,List.length_range]; simp only [List.length_cons,List.length_nil]; omega),cond_true,y2l hg,List.range_succ,List.map_append,wr (show -9223372036854775808≤(i:Int)+1 by omega) (by omega)]
   rfl) (by simp only [ycw,yrm,yrA,show ((a1.1.toNat:Nat):Int)=a1.1 by omega,zkx (Int.le_refl _),cond_false]) 18446744073709551616 (by omega)
 rw [ygb hg hid.1 hid.2]
 simp only [Bool.not_true,Bool.not_false,cond_true,cond_false,Bool.and_self]
 refine (congrArg (fun z=>zkh z _ _) outer).trans ?_
 rfl
def yEk:Con:=⟨yhE,ysa,fun x=>(fun n=>some ((n,()),())) (ymP x.1 x.2.1)⟩
theorem yW1:ConOk Tryz.prog 42 yEk:=(yTO).mono (fun x r hk h=>(yV0 x.1 x.2.1 hk).trans h)
end
section
def yHK:Code:=(Tryz.f96.body).getD .skip
def yIh:Env:=zj2 TT [] []
theorem yO5:FrOk Tryz.prog ⟨yIh,15,fun _=>none⟩ yHK:=zj6 yc yd trivial
def yRA:Nat→Option Seg:=fun _=>none
abbrev ymw:List Par:= [.rd tYs,.rd tI]
abbrev ysy:List OT:= [⟨false,tI,.fz⟩]
def yvS (a0:List Int) (a1:Int):Option (ResD ysy×MutD ymw) :=
 bif (ltb a1 (IntKind.i64.wrap (3+(IntKind.i64.wrap ((a0.length:Int).tdiv 12))))) then
 some ((a1,()),())
 else
 some (((IntKind.i64.wrap (3+(IntKind.i64.wrap ((a0.length:Int).tdiv 12)))),()),())
theorem yYm (x:InD ymw):zjx ⟨yIh,15,yRA⟩ Tryz.f96.results.toList yHK ymw ysy x=yvS x.1 x.2.1:=by kernel_rfl
theorem yUd:ConOk Tryz.prog 96 ⟨ymw,ysy,fun x=>yvS x.1 x.2.1⟩:=zj1 (yO5) Tryz.func96 (by kernel_rfl) (by kernel_rfl) Tryz.ntmps96.symm (by decide) (fun x r h=>(yYm x).trans h)
def yft (a0:List Int) (a1:Int):Int :=
 bif (ltb a1 (IntKind.i64.wrap (3+(IntKind.i64.wrap ((a0.length:Int).tdiv 12))))) then
 a1
 else
 (IntKind.i64.wrap (3+(IntKind.i64.wrap ((a0.length:Int).tdiv 12))))
def yu9:Con:=⟨ymw,ysy,fun x=>(fun n=>some ((n,()),())) (yft x.1 x.2.1)⟩
theorem yWm (a0:List Int) (a1:Int):yvS a0 a1=(fun n=>some ((n,()),())) (yft a0 a1):=zkp (p:=fun (n:Int)=>((n,()),())) (zkb (p:=fun (n:Int)=>((n,()),())) rfl rfl)
theorem yGK:ConOk Tryz.prog 96 yu9:=(yUd).mono (fun x r _ h=>(yWm x.1 x.2.1).trans h)
theorem y0Q (l:List Int) (n:Int) (hn:0≤n) (hl:l.length≤140737488355328):0≤yft l n∧yft l n≤n:=by
 unfold yft
 have h1:0≤(l.length:Int).tdiv 12:=Int.tdiv_nonneg (by omega) (by omega)
 have h2:(l.length:Int).tdiv 12≤(l.length:Int):=by
  rw [Int.tdiv_eq_ediv_of_nonneg (by omega)]
  exact Int.ediv_le_self _ (by omega)
 rw [wr (show -9223372036854775808≤(l.length:Int).tdiv 12 by omega) (by omega),wr (show -9223372036854775808≤3+(l.length:Int).tdiv 12 by omega) (by omega)]
 by_cases h:n < 3+(l.length:Int).tdiv 12
 ·rw [zj4 h]; exact ⟨hn,Int.le_refl _⟩
 ·rw [zkx (by omega),cond_false]; omega
end
section
def ymb:Code:=(Tryz.f138.body).getD .skip
def yr2:Env:=zj2 TT [(135,yr)] [(28864,.fz),(28928,.fz)]
theorem yOY:FrOk Tryz.prog ⟨yr2,22,fun _=>none⟩ ymb:=zj6 yc yd ⟨yx,trivial⟩
def yDu:Nat→Option Seg:=fun _=>none
def yb2:Shape:=⟨[(0,false,[.int .i64]),(2,false,[.ptr 0 0]),(3,false,[.ptr 12352 0]),(4,false,[.int .i64])],[(0,[.nil,.nil,.bool,.nil]),(12352,[.at 800000000,.nil,.bool,.nil])],[(800000000,tL,.fz)]⟩
def yg0:Shape:=⟨[(0,false,[.int .i64]),(2,false,[.ptr 0 0]),(3,false,[.ptr 12352 0]),(4,false,[.ci .i64 0])],[(0,[.nil,.nil,.bool,.nil]),(12352,[.at 800000000,.nil,.bool,.nil])],[(800000000,tL,.fz)]⟩
def ygO:Shape:=⟨[(2,false,[.ptr 0 0]),(3,false,[.ptr 12352 0])],[(0,[.nil,.nil,.bool,.nil]),(12352,[.at 800000000,.nil,.bool,.nil])],[(800000000,tL,.fz)]⟩
def ylx:Shape:=⟨[],[],[]⟩
abbrev yro (v0 v1:Int) (v2 v3:dM):(yb2).X:=(((v0,()),((),()),((),()),(v1,()),()),(((),(),v2.2.2.1,(),()),((),(),v3.2.2.1,(),()),()),(v3.1,()))
abbrev yMW (v0:Int) (v1 v2:dM):(yg0).X:=(((v0,()),((),()),((),()),((),()),()),(((),(),v1.2.2.1,(),()),((),(),v2.2.2.1,(),()),()),(v2.1,()))
abbrev yMO (v0 v1:dM):(ygO).X:=((((),()),((),()),()),(((),(),v0.2.2.1,(),()),((),(),v1.2.2.1,(),()),()),(v1.1,()))
def yrD (v0 v1:Int) (v2 v3:Bool) (v4:List (List Int)):Option ((yb2).X ⊕ ((ygO).X ⊕ (ylx).X)) :=
 bif (ltb v1 v0) then
 bif (zjR v4.length ([([]:List Int)]:List (List Int)).length 24) then
 some (.inl (((v0,()),((),()),((),()),((IntKind.i64.wrap (v1+1)),()),()),(((),(),v2,(),()),((),(),v3,(),()),()),((v4++([([]:List Int)]:List (List Int))),())))
 else none
 else
 some (.inr (.inl ((((),()),((),()),()),(((),(),v2,(),()),((),(),v3,(),()),()),(v4,()))))
def ycz (x:(yb2).X):=yrD x.1.1.1 x.1.2.2.2.1.1 x.2.1.1.2.2.1 x.2.1.2.1.2.2.1 x.2.2.1
def yzY (x:(yg0).X):(yb2).X:=(((x.1.1.1,()),((),()),((),()),(0,()),()),(((),(),x.2.1.1.2.2.1,(),()),((),(),x.2.1.2.1.2.2.1,(),()),()),(x.2.2.1,()))
def yBn:Code:=(zdD ymb 64 244).getD .skip
theorem yOh:zdD ymb 64 61=some (.block 0 (.loop yBn)):=by kernel_rfl
theorem yQ5 (x:(yb2).X):zg0 ⟨yr2,22,yDu⟩ 0 yBn 244 yb2 ygO ylx x=ycz x:=by kernel_rfl
def yAa (x:(yg0).X):Nat:=18446744073709551616
def ysX (x:(yg0).X):Option ((ygO).X ⊕ (ylx).X):=zz ycz (yAa x) (yzY x)
def yAs:Seg:=⟨yg0,ygO,ylx,ysX⟩
def yDv:Nat→Option Seg:=fun q=>bif Nat.beq q 61 then some yAs else yDu q
theorem yOZ:FrOk Tryz.prog ⟨yr2,22,yDv⟩ ymb:=(yOY).loop (sg:=yAs) yb2 yzY (by decide) yOh ycz yAa (by decide) (fun _=>rfl) (fun x r _ h=>h) yQ5
abbrev yhN:List Par:= [.rd tI]
abbrev yss:List OT:= [⟨false,tM,(.pr (.ow .fz) (.pr (.ow (.pr .fz .fz)) (.pr .fz (.ow .fz))))⟩]
def yoG (a0:Int):Option (ResD yss×MutD yhN) :=
 let r1:=ya a0 1 20
 bif (!r1) then
 some ((([],[],false,[]),()),())
 else
 zkh (ysX (((a0,()),((),()),((),()),((),()),()),(((),(),false,(),()),((),(),false,(),()),()),([],()))) (fun y1 =>
 some (((y1.2.2.1,[],y1.2.1.2.1.2.2.1,[]),()),())) (fun y1 =>
 none)
theorem yYg (x:InD yhN):zjx ⟨yr2,22,yDv⟩ Tryz.f138.results.toList ymb yhN yss x=yoG x.1:=by kernel_rfl
theorem yT7:ConOk Tryz.prog 138 ⟨yhN,yss,fun x=>yoG x.1⟩:=zj1 (yOZ) Tryz.func138 (by kernel_rfl) (by kernel_rfl) Tryz.ntmps138.symm (by decide) (fun x r h=>(yYg x).trans h)
def ybc (a0:Int):dM:=yO a0
theorem yWj (a0:Int) (hk:zi2 yhN (a0,())):yoG a0=(fun n=>some ((n,()),())) (ybc a0):=by
 unfold yoG ybc yO
 simp only [ybX]
 cases hc:(leb 1 a0&&leb a0 20)
 ·rfl
 ·rw [Bool.and_eq_true,zjE,zjE]at hc
  have h1:ysX (yMW a0 noMem noMem)=some (.inl (yMO noMem (List.replicate a0.toNat [],[],false,[]))) :=
   zkf (step:=ycz) (fun i=>yro a0 i noMem (List.replicate i [],[],false,[])) a0.toNat _ (fun i hi=>by
    simp only [ycz,yro,yrD,zj4 (show (i:Int) < a0 by omega),cond_true,wr (show -9223372036854775808≤(i:Int)+1 by omega) (by omega),Int.natCast_add,Int.natCast_one,Int.toNat_natCast]
    rw [zka.2 (show ((List.replicate i ([]:List Int)).length+([[]]:List (List Int)).length) * 24≤140737488355328 by simp only [List.length_cons,List.length_nil,List.length_replicate]; omega),← List.replicate_succ']; rfl) (by simp only [ycz,yro,yrD,zkx (show a0≤(a0.toNat:Int) by omega),cond_false]) _ (by show _ < 18446744073709551616; omega)
  rw [h1]; rfl
def yoo:Con:=⟨yhN,yss,fun x=>(fun n=>some ((n,()),())) (ybc x.1)⟩
theorem yw8:ConOk Tryz.prog 138 yoo:=(yT7).mono (fun x r hk h=>(yWj x.1 hk).trans h)
end
section
def ydy:Code:=(Tryz.f49.body).getD .skip
def yhC:Env:=zj2 TT [(134,ygp),(135,yr),(138,yoo),(139,yop),(140,yri),(141,yc0)] [(53440,(.pr (.ow .fz) (.pr (.ow (.pr .fz .fz)) (.pr .fz (.ow .fz))))),(53504,(.pr (.ow .fz) (.pr (.ow (.pr .fz .fz)) (.pr .fz (.ow .fz)))))]
theorem yOR:FrOk Tryz.prog ⟨yhC,60,fun _=>none⟩ ydy:=zj6 yc yd ⟨ym4,yx,yw8,yw9,yCy,ygu,trivial⟩
def yDs:Nat→Option Seg:=fun _=>none
def yaA:Shape:=⟨[(0,false,[.int .i64]),(3,false,[.ptr 0 0]),(4,false,[.ptr 64 0]),(5,false,[.ptr 12480 0]),(6,false,[.int .i64]),(7,false,[.ptr 28864 0]),(8,false,[.int .i64])],[(0,[.int .i64,.int .i64]),(64,[.int .i64,.int .i64,.int .i64,.nil,.int .i64,.int .i64,.int .i64,.int .i64,.int .i64,.nil,.int .i64,.bool,.bool]),(12480,[.int .i64,.int .i64,.int .i64,.at 800000000,.int .i64,.int .i64,.int .i64,.int .i64,.int .i64,.nil,.int .i64,.bool,.bool]),(28864,[.at 800000001,.at 800000002,.bool,.at 800000003])],[(800000000,tM,(.pr (.ow .fz) (.pr (.ow (.pr .fz .fz)) (.pr .fz (.ow .fz))))),(800000001,tL,.fz),(800000002,tW,(.pr .fz .fz)),(800000003,tI,.fz)]⟩
def ydP:Shape:=⟨[(0,false,[.int .i64]),(3,false,[.ptr 0 0]),(4,false,[.ptr 64 0]),(5,false,[.ptr 12480 0]),(6,false,[.int .i64]),(7,false,[.ptr 28864 0]),(8,false,[.ci .i64 0])],[(0,[.int .i64,.int .i64]),(64,[.int .i64,.int .i64,.int .i64,.nil,.int .i64,.int .i64,.int .i64,.int .i64,.int .i64,.nil,.int .i64,.bool,.bool]),(12480,[.int .i64,.int .i64,.int .i64,.at 800000000,.int .i64,.int .i64,.int .i64,.int .i64,.int .i64,.nil,.int .i64,.bool,.bool]),(28864,[.at 800000001,.at 800000002,.bool,.at 800000003])],[(800000000,tM,(.pr (.ow .fz) (.pr (.ow (.pr .fz .fz)) (.pr .fz (.ow .fz))))),(800000001,tL,.fz),(800000002,tW,(.pr .fz .fz)),(800000003,tI,.fz)]⟩
def ydI:Shape:=⟨[(0,false,[.int .i64]),(3,false,[.ptr 0 0]),(4,false,[.ptr 64 0]),(5,false,[.ptr 12480 0]),(6,false,[.int .i64]),(7,false,[.ptr 28864 0])],[(0,[.int .i64,.int .i64]),(64,[.int .i64,.int .i64,.int .i64,.nil,.int .i64,.int .i64,.int .i64,.int .i64,.int .i64,.nil,.int .i64,.bool,.bool]),(12480,[.int .i64,.int .i64,.int .i64,.at 800000000,.int .i64,.int .i64,.int .i64,.int .i64,.int .i64,.nil,.int .i64,.bool,.bool]),(28864,[.at 800000001,.at 800000002,.bool,.at 800000003])],[(800000000,tM,(.pr (.ow .fz) (.pr (.ow (.pr .fz .fz)) (.pr .fz (.ow .fz))))),(800000001,tL,.fz),(800000002,tW,(.pr .fz .fz)),(800000003,tI,.fz)]⟩
def yhv:Shape:=⟨[],[],[]⟩
abbrev ylK (v0 v1 v2:Int) (v3:dG) (v4 v5:dA) (v6:dM):(yaA).X:=(((v0,()),((),()),((),()),((),()),(v1,()),((),()),(v2,()),()),((v3.1,v3.2,()),(v4.1,v4.2.1.1,v4.2.1.2,(),v4.2.2.2.1,v4.2.2.2.2.1,v4.2.2.2.2.2.1,v4.2.2.2.2.2.2.1,v4.2.2.2.2.2.2.2.1,(),v4.2.2.2.2.2.2.2.2.2.1,v4.2.2.2.2.2.2.2.2.2.2.1,v4.2.2.2.2.2.2.2.2.2.2.2,()),(v5.1,v5.2.1.1,v5.2.1.2,(),v5.2.2.2.1,v5.2.2.2.2.1,v5.2.2.2.2.2.1,v5.2.2.2.2.2.2.1,v5.2.2.2.2.2.2.2.1,(),v5.2.2.2.2.2.2.2.2.2.1,v5.2.2.2.2.2.2.2.2.2.2.1,v5.2.2.2.2.2.2.2.2.2.2.2,()),((),(),v6.2.2.1,(),()),()),(v5.2.2.1,v6.1,v6.2.1,v6.2.2.2,()))
abbrev yHc (v0 v1:Int) (v2:dG) (v3 v4:dA) (v5:dM):(ydP).X:=(((v0,()),((),()),((),()),((),()),(v1,()),((),()),((),()),()),((v2.1,v2.2,()),(v3.1,v3.2.1.1,v3.2.1.2,(),v3.2.2.2.1,v3.2.2.2.2.1,v3.2.2.2.2.2.1,v3.2.2.2.2.2.2.1,v3.2.2.2.2.2.2.2.1,(),v3.2.2.2.2.2.2.2.2.2.1,v3.2.2.2.2.2.2.2.2.2.2.1,v3.2.2.2.2.2.2.2.2.2.2.2,()),(v4.1,v4.2.1.1,v4.2.1.2,(),v4.2.2.2.1,v4.2.2.2.2.1,v4.2.2.2.2.2.1,v4.2.2.2.2.2.2.1,v4.2.2.2.2.2.2.2.1,(),v4.2.2.2.2.2.2.2.2.2.1,v4.2.2.2.2.2.2.2.2.2.2.1,v4.2.2.2.2.2.2.2.2.2.2.2,()),((),(),v5.2.2.1,(),()),()),(v4.2.2.1,v5.1,v5.2.1,v5.2.2.2,()))
abbrev yvy (v0 v1:Int) (v2:dG) (v3 v4:dA) (v5:dM):(ydI).X:=(((v0,()),((),()),((),()),((),()),(v1,()),((),()),()),((v2.1,v2.2,()),(v3.1,v3.2.1.1,v3.2.1.2,(),v3.2.2.2.1,v3.2.2.2.2.1,v3.2.2.2.2.2.1,v3.2.2.2.2.2.2.1,v3.2.2.2.2.2.2.2.1,(),v3.2.2.2.2.2.2.2.2.2.1,v3.2.2.2.2.2.2.2.2.2.2.1,v3.2.2.2.2.2.2.2.2.2.2.2,()),(v4.1,v4.2.1.1,v4.2.1.2,(),v4.2.2.2.1,v4.2.2.2.2.1,v4.2.2.2.2.2.1,v4.2.2.2.2.2.2.1,v4.2.2.2.2.2.2.2.1,(),v4.2.2.2.2.2.2.2.2.2.1,v4.2.2.2.2.2.2.2.2.2.2.1,v4.2.2.2.2.2.2.2.2.2.2.2,()),((),(),v5.2.2.1,(),()),()),(v4.2.2.1,v5.1,v5.2.1,v5.2.2.2,()))
def yl7 (v0 v1 v2 v3 v4 v5 v6 v7 v8 v9 v10 v11 v12 v13:Int) (v14 v15:Bool) (v16 v17 v18 v19 v20 v21 v22 v23 v24:Int) (v25 v26 v27:Bool) (v28:List dM) (v29:List (List Int)) (v30:List dW) (v31:List Int):Option ((yaA).X ⊕ ((ydI).X ⊕ (yhv).X)) :=
 bif (ltb v2 v4) then
 let r13:=yaq v2
 bif (inb r13 v29.length) then
 some (.inl (((v0,()),((),()),((),()),((),()),(v1,()),((),()),((IntKind.i64.wrap (v2+1)),()),()),((v3,v4,()),(v5,v6,v7,(),v8,v9,v10,v11,v12,(),v13,v14,v15,()),(v16,v17,v18,(),v19,v20,v21,v22,v23,(),v24,v25,v26,()),((),(),v27,(),()),()),(v28,(v29.set (r13).toNat ([0]:List Int)),v30,v31,())))
 else none
 else
 some (.inr (.inl (((v0,()),((),()),((),()),((),()),(v1,()),((),()),()),((v3,v4,()),(v5,v6,v7,(),v8,v9,v10,v11,v12,(),v13,v14,v15,()),(v16,v17,v18,(),v19,v20,v21,v22,v23,(),v24,v25,v26,()),((),(),v27,(),()),()),(v28,v29,v30,v31,()))))
def yaT (x:(yaA).X):=yl7 x.1.1.1 x.1.2.2.2.2.1.1 x.1.2.2.2.2.2.2.1.1 x.2.1.1.1 x.2.1.1.2.1 x.2.1.2.1.1 x.2.1.2.1.2.1 x.2.1.2.1.2.2.1 x.2.1.2.1.2.2.2.2.1 x.2.1.2.1.2.2.2.2.2.1 x.2.1.2.1.2.2.2.2.2.2.1 x.2.1.2.1.2.2.2.2.2.2.2.1 x.2.1.2.1.2.2.2.2.2.2.2.2.1 x.2.1.2.1.2.2.2.2.2.2.2.2.2.2.1 x.2.1.2.1.2.2.2.2.2.2.2.2.2.2.2.1 x.2.1.2.1.2.2.2.2.2.2.2.2.2.2.2.2.1 x.2.1.2.2.1.1 x.2.1.2.2.1.2.1 x.2.1.2.2.1.2.2.1 x.2.1.2.2.1.2.2.2.2.1 x.2.1.2.2.1.2.2.2.2.2.1 x.2.1.2.2.1.2.2.2.2.2.2.1 x.2.1.2.2.1.2.2.2.2.2.2.2.1 x.2.1.2.2.1.2.2.2.2.2.2.2.2.1 x.2.1.2.2.1.2.2.2.2.2.2.2.2.2.2.1 x.2.1.2.2.1.2.2.2.2.2.2.2.2.2.2.2.1 x.2.1.2.2.1.2.2.2.2.2.2.2.2.2.2.2.2.1 x.2.1.2.2.2.1.2.2.1 x.2.2.1 x.2.2.2.1 x.2.2.2.2.1 x.2.2.2.2.2.1
def yve (x:(ydP).X):(yaA).X:=(((x.1.1.1,()),((),()),((),()),((),()),(x.1.2.2.2.2.1.1,()),((),()),(0,()),()),((x.2.1.1.1,x.2.1.1.2.1,()),(x.2.1.2.1.1,x.2.1.2.1.2.1,x.2.1.2.1.2.2.1,(),x.2.1.2.1.2.2.2.2.1,x.2.1.2.1.2.2.2.2.2.1,x.2.1.2.1.2.2.2.2.2.2.1,x.2.1.2.1.2.2.2.2.2.2.2.1,x.2.1.2.1.2.2.2.2.2.2.2.2.1,(),x.2.1.2.1.2.2.2.2.2.2.2.2.2.2.1,x.2.1.2.1.2.2.2.2.2.2.2.2.2.2.2.1,x.2.1.2.1.2.2.2.2.2.2.2.2.2.2.2.2.1,()),(x.2.1.2.2.1.1,x.2.1.2.2.1.2.1,x.2.1.2.2.1.2.2.1,(),x.2.1.2.2.1.2.2.2.2.1,x.2.1.2.2.1.2.2.2.2.2.1,x.2.1.2.2.1.2.2.2.2.2.2.1,x.2.1.2.2.1.2.2.2.2.2.2.2.1,x.2.1.2.2.1.2.2.2.2.2.2.2.2.1,(),x.2.1.2.2.1.2.2.2.2.2.2.2.2.2.2.1,x.2.1.2.2.1.2.2.2.2.2.2.2.2.2.2.2.1,x.2.1.2.2.1.2.2.2.2.2.2.2.2.2.2.2.2.1,()),((),(),x.2.1.2.2.2.1.2.2.1,(),()),()),(x.2.2.1,x.2.2.2.1,x.2.2.2.2.1,x.2.2.2.2.2.1,()))
def ywc:Code:=(zdD ydy 64 125236).getD .skip
theorem yIJ:zdD ydy 64 31309=some (.block 2 (.loop ywc)):=by kernel_rfl
theorem yJk (x:(yaA).X):zg0 ⟨yhC,60,yDs⟩ 2 ywc 125236 yaA ydI yhv x=yaT x:=by kernel_rfl
def yvl (x:(ydP).X):Nat:=18446744073709551616
def yni (x:(ydP).X):Option ((ydI).X ⊕ (yhv).X):=zz yaT (yvl x) (yve x)
def yv0:Seg:=⟨ydP,ydI,yhv,yni⟩
def yt2:Nat→Option Seg:=fun q=>bif Nat.beq q 31309 then some yv0 else yDs q
theorem yOS:FrOk Tryz.prog ⟨yhC,60,yt2⟩ ydy:=(yOR).loop (sg:=yv0) yaA yve (by decide) yIJ yaT yvl (by decide) (fun _=>rfl) (fun x r _ h=>h) yJk
def yb1:Shape:=⟨[(0,false,[.int .i64]),(3,false,[.ptr 0 0]),(4,false,[.ptr 64 0]),(5,false,[.ptr 12480 0]),(6,false,[.int .i64])],[(0,[.int .i64,.int .i64]),(64,[.int .i64,.int .i64,.int .i64,.nil,.int .i64,.int .i64,.int .i64,.int .i64,.int .i64,.nil,.int .i64,.bool,.bool]),(12480,[.int .i64,.int .i64,.int .i64,.at 800000000,.int .i64,.int .i64,.int .i64,.int .i64,.int .i64,.nil,.int .i64,.bool,.bool])],[(800000000,tM,(.pr (.ow .fz) (.pr (.ow (.pr .fz .fz)) (.pr .fz (.ow .fz)))))]⟩
def ygZ:Shape:=⟨[(0,false,[.int .i64]),(3,false,[.ptr 0 0]),(4,false,[.ptr 64 0]),(5,false,[.ptr 12480 0]),(6,false,[.ci .i64 0])],[(0,[.int .i64,.int .i64]),(64,[.int .i64,.int .i64,.int .i64,.nil,.int .i64,.int .i64,.int .i64,.int .i64,.int .i64,.nil,.int .i64,.bool,.bool]),(12480,[.int .i64,.int .i64,.int .i64,.at 800000000,.int .i64,.int .i64,.int .i64,.int .i64,.int .i64,.nil,.int .i64,.bool,.bool])],[(800000000,tM,(.pr (.ow .fz) (.pr (.ow (.pr .fz .fz)) (.pr .fz (.ow .fz)))))]⟩
def ygN:Shape:=⟨[(4,false,[.ptr 64 0]),(5,false,[.ptr 12480 0])],[(64,[.int .i64,.int .i64,.int .i64,.nil,.int .i64,.int .i64,.int .i64,.int .i64,.int .i64,.nil,.int .i64,.bool,.bool]),(12480,[.int .i64,.int .i64,.int .i64,.at 800000000,.int .i64,.int .i64,.int .i64,.int .i64,.int .i64,.nil,.int .i64,.bool,.bool])],[(800000000,tM,(.pr (.ow .fz) (.pr (.ow (.pr .fz .fz)) (.pr .fz (.ow .fz)))))]⟩
def ylw:Shape:=⟨[],[],[]⟩
abbrev yjN (v0 v1:Int) (v2:dG) (v3 v4:dA):(yb1).X:=(((v0,()),((),()),((),()),((),()),(v1,()),()),((v2.1,v2.2,()),(v3.1,v3.2.1.1,v3.2.1.2,(),v3.2.2.2.1,v3.2.2.2.2.1,v3.2.2.2.2.2.1,v3.2.2.2.2.2.2.1,v3.2.2.2.2.2.2.2.1,(),v3.2.2.2.2.2.2.2.2.2.1,v3.2.2.2.2.2.2.2.2.2.2.1,v3.2.2.2.2.2.2.2.2.2.2.2,()),(v4.1,v4.2.1.1,v4.2.1.2,(),v4.2.2.2.1,v4.2.2.2.2.1,v4.2.2.2.2.2.1,v4.2.2.2.2.2.2.1,v4.2.2.2.2.2.2.2.1,(),v4.2.2.2.2.2.2.2.2.2.1,v4.2.2.2.2.2.2.2.2.2.2.1,v4.2.2.2.2.2.2.2.2.2.2.2,()),()),(v4.2.2.1,()))
abbrev yMV (v0:Int) (v1:dG) (v2 v3:dA):(ygZ).X:=(((v0,()),((),()),((),()),((),()),((),()),()),((v1.1,v1.2,()),(v2.1,v2.2.1.1,v2.2.1.2,(),v2.2.2.2.1,v2.2.2.2.2.1,v2.2.2.2.2.2.1,v2.2.2.2.2.2.2.1,v2.2.2.2.2.2.2.2.1,(),v2.2.2.2.2.2.2.2.2.2.1,v2.2.2.2.2.2.2.2.2.2.2.1,v2.2.2.2.2.2.2.2.2.2.2.2,()),(v3.1,v3.2.1.1,v3.2.1.2,(),v3.2.2.2.1,v3.2.2.2.2.1,v3.2.2.2.2.2.1,v3.2.2.2.2.2.2.1,v3.2.2.2.2.2.2.2.1,(),v3.2.2.2.2.2.2.2.2.2.1,v3.2.2.2.2.2.2.2.2.2.2.1,v3.2.2.2.2.2.2.2.2.2.2.2,()),()),(v3.2.2.1,()))
abbrev yAk (v0 v1:dA):(ygN).X:=((((),()),((),()),()),((v0.1,v0.2.1.1,v0.2.1.2,(),v0.2.2.2.1,v0.2.2.2.2.1,v0.2.2.2.2.2.1,v0.2.2.2.2.2.2.1,v0.2.2.2.2.2.2.2.1,(),v0.2.2.2.2.2.2.2.2.2.1,v0.2.2.2.2.2.2.2.2.2.2.1,v0.2.2.2.2.2.2.2.2.2.2.2,()),(v1.1,v1.2.1.1,v1.2.1.2,(),v1.2.2.2.1,v1.2.2.2.2.1,v1.2.2.2.2.2.1,v1.2.2.2.2.2.2.1,v1.2.2.2.2.2.2.2.1,(),v1.2.2.2.2.2.2.2.2.2.1,v1.2.2.2.2.2.2.2.2.2.2.1,v1.2.2.2.2.2.2.2.2.2.2.2,()),()),(v1.2.2.1,()))
def yrC (v0 v1 v2 v3 v4 v5 v6 v7 v8 v9 v10 v11 v12:Int) (v13 v14:Bool) (v15 v16 v17 v18 v19 v20 v21 v22 v23:Int) (v24 v25:Bool) (v26:List dM):Option ((yb1).X ⊕ ((ygN).X ⊕ (ylw).X)) :=
 bif (ltb v1 v2) then
 let r15:=ybY (v2,v3)
 let r16:=ybc r15
 let r17:=yl (v0,0,v1,v2,v3,0,(-1),0)
 bif (inb 0 r16.1.length) then
 zkh (yni (((v0,()),((),()),((),()),((),()),(v1,()),((),()),((),()),()),((v2,v3,()),(v4,v5,v6,(),v7,v8,v9,v10,v11,(),v12,v13,v14,()),(v15,v16,v17,(),v18,v19,v20,v21,v22,(),v23,v24,v25,()),((),(),r16.2.2.1,(),()),()),(v26,(r16.1.set (0:Int).toNat r17),r16.2.1,r16.2.2.2,()))) (fun y17 =>
 bif (zjR y17.2.2.1.length ([(y17.2.2.2.1,y17.2.2.2.2.1,y17.2.1.2.2.2.1.2.2.1,y17.2.2.2.2.2.1)]:List dM).length 80) then
 some (.inl (((y17.1.1.1,()),((),()),((),()),((),()),((IntKind.i64.wrap (y17.1.2.2.2.2.1.1+1)),()),()),((y17.2.1.1.1,y17.2.1.1.2.1,()),(y17.2.1.2.1.1,y17.2.1.2.1.2.1,y17.2.1.2.1.2.2.1,(),y17.2.1.2.1.2.2.2.2.1,y17.2.1.2.1.2.2.2.2.2.1,y17.2.1.2.1.2.2.2.2.2.2.1,y17.2.1.2.1.2.2.2.2.2.2.2.1,y17.2.1.2.1.2.2.2.2.2.2.2.2.1,(),y17.2.1.2.1.2.2.2.2.2.2.2.2.2.2.1,y17.2.1.2.1.2.2.2.2.2.2.2.2.2.2.2.1,y17.2.1.2.1.2.2.2.2.2.2.2.2.2.2.2.2.1,()),(y17.2.1.2.2.1.1,y17.2.1.2.2.1.2.1,y17.2.1.2.2.1.2.2.1,(),y17.2.1.2.2.1.2.2.2.2.1,y17.2.1.2.2.1.2.2.2.2.2.1,y17.2.1.2.2.1.2.2.2.2.2.2.1,y17.2.1.2.2.1.2.2.2.2.2.2.2.1,y17.2.1.2.2.1.2.2.2.2.2.2.2.2.1,(),y17.2.1.2.2.1.2.2.2.2.2.2.2.2.2.2.1,y17.2.1.2.2.1.2.2.2.2.2.2.2.2.2.2.2.1,y17.2.1.2.2.1.2.2.2.2.2.2.2.2.2.2.2.2.1,()),()),((y17.2.2.1++([(y17.2.2.2.1,y17.2.2.2.2.1,y17.2.1.2.2.2.1.2.2.1,y17.2.2.2.2.2.1)]:List dM)),())))
 else none) (fun y17 =>
 some (.inr (.inr ((),(),()))))
 else none
 else
 some (.inr (.inl ((((),()),((),()),()),((v4,v5,v6,(),v7,v8,v9,v10,v11,(),v12,v13,v14,()),(v15,v16,v17,(),v18,v19,v20,v21,v22,(),v23,v24,v25,()),()),(v26,()))))
def ycy (x:(yb1).X):=yrC x.1.1.1 x.1.2.2.2.2.1.1 x.2.1.1.1 x.2.1.1.2.1 x.2.1.2.1.1 x.2.1.2.1.2.1 x.2.1.2.1.2.2.1 x.2.1.2.1.2.2.2.2.1 x.2.1.2.1.2.2.2.2.2.1 x.2.1.2.1.2.2.2.2.2.2.1 x.2.1.2.1.2.2.2.2.2.2.2.1 x.2.1.2.1.2.2.2.2.2.2.2.2.1 x.2.1.2.1.2.2.2.2.2.2.2.2.2.2.1 x.2.1.2.1.2.2.2.2.2.2.2.2.2.2.2.1 x.2.1.2.1.2.2.2.2.2.2.2.2.2.2.2.2.1 x.2.1.2.2.1.1 x.2.1.2.2.1.2.1 x.2.1.2.2.1.2.2.1 x.2.1.2.2.1.2.2.2.2.1 x.2.1.2.2.1.2.2.2.2.2.1 x.2.1.2.2.1.2.2.2.2.2.2.1 x.2.1.2.2.1.2.2.2.2.2.2.2.1 x.2.1.2.2.1.2.2.2.2.2.2.2.2.1 x.2.1.2.2.1.2.2.2.2.2.2.2.2.2.2.1 x.2.1.2.2.1.2.2.2.2.2.2.2.2.2.2.2.1 x.2.1.2.2.1.2.2.2.2.2.2.2.2.2.2.2.2.1 x.2.2.1
def yzX (x:(ygZ).X):(yb1).X:=(((x.1.1.1,()),((),()),((),()),((),()),(0,()),()),((x.2.1.1.1,x.2.1.1.2.1,()),(x.2.1.2.1.1,x.2.1.2.1.2.1,x.2.1.2.1.2.2.1,(),x.2.1.2.1.2.2.2.2.1,x.2.1.2.1.2.2.2.2.2.1,x.2.1.2.1.2.2.2.2.2.2.1,x.2.1.2.1.2.2.2.2.2.2.2.1,x.2.1.2.1.2.2.2.2.2.2.2.2.1,(),x.2.1.2.1.2.2.2.2.2.2.2.2.2.2.1,x.2.1.2.1.2.2.2.2.2.2.2.2.2.2.2.1,x.2.1.2.1.2.2.2.2.2.2.2.2.2.2.2.2.1,()),(x.2.1.2.2.1.1,x.2.1.2.2.1.2.1,x.2.1.2.2.1.2.2.1,(),x.2.1.2.2.1.2.2.2.2.1,x.2.1.2.2.1.2.2.2.2.2.1,x.2.1.2.2.1.2.2.2.2.2.2.1,x.2.1.2.2.1.2.2.2.2.2.2.2.1,x.2.1.2.2.1.2.2.2.2.2.2.2.2.1,(),x.2.1.2.2.1.2.2.2.2.2.2.2.2.2.2.1,x.2.1.2.2.1.2.2.2.2.2.2.2.2.2.2.2.1,x.2.1.2.2.1.2.2.2.2.2.2.2.2.2.2.2.2.1,()),()),(x.2.2.1,()))
def yBm:Code:=(zdD ydy 64 244).getD .skip
theorem yOg:zdD ydy 64 61=some (.block 0 (.loop yBm)):=by kernel_rfl
theorem yQ4 (x:(yb1).X):zg0 ⟨yhC,60,yt2⟩ 0 yBm 244 yb1 ygN ylw x=ycy x:=by kernel_rfl
def yz9 (x:(ygZ).X):Nat:=18446744073709551616
def ysW (x:(ygZ).X):Option ((ygN).X ⊕ (ylw).X):=zz ycy (yz9 x) (yzX x)
def yAr:Seg:=⟨ygZ,ygN,ylw,ysW⟩
def yDt:Nat→Option Seg:=fun q=>bif Nat.beq q 61 then some yAr else yt2 q
theorem yOT:FrOk Tryz.prog ⟨yhC,60,yDt⟩ ydy:=(yOS).loop (sg:=yAr) yb1 yzX (by decide) yOg ycy yz9 (by decide) (fun _=>rfl) (fun x r _ h=>h) yQ4
abbrev yhK:List Par:= [.rd tI,.rd tG]
abbrev ysn:List OT:= [⟨false,tA,(.pr .fz (.pr (.pr .fz .fz) (.pr (.ow (.pr (.ow .fz) (.pr (.ow (.pr .fz .fz)) (.pr .fz (.ow .fz))))) (.pr .fz (.pr .fz (.pr .fz (.pr .fz (.pr .fz (.pr (.ow (.pr .fz .fz)) (.pr .fz (.pr .fz .fz)))))))))))⟩]
def yoD (a0:Int) (a1:dG):Option (ResD ysn×MutD yhK) :=
 let r1:=yb a1
 bif (!(!r1)) then
 let r2:=ya a0 1 60000
 bif (!r2) then
 some (((0,(0,0),[],0,0,0,0,0,[],0,false,false),()),())
 else
 zkh (ysW (((a0,()),((),()),((),()),((),()),((),()),()),((a1.1,a1.2,()),(0,0,0,(),0,0,0,0,0,(),0,false,false,()),(a0,a1.1,a1.2,(),(-1),0,0,0,0,(),(-1),false,false,()),()),([],()))) (fun y18 =>
 some (((y18.2.1.2.1.1,(y18.2.1.2.1.2.1,y18.2.1.2.1.2.2.1),y18.2.2.1,y18.2.1.2.1.2.2.2.2.1,y18.2.1.2.1.2.2.2.2.2.1,y18.2.1.2.1.2.2.2.2.2.2.1,y18.2.1.2.1.2.2.2.2.2.2.2.1,y18.2.1.2.1.2.2.2.2.2.2.2.2.1,[],y18.2.1.2.1.2.2.2.2.2.2.2.2.2.2.1,y18.2.1.2.1.2.2.2.2.2.2.2.2.2.2.2.1,y18.2.1.2.1.2.2.2.2.2.2.2.2.2.2.2.2.1),()),())) (fun y18 =>
 none)
 else
 some (((0,(0,0),[],0,0,0,0,0,[],0,false,false),()),())
theorem yYb (x:InD yhK):zjx ⟨yhC,60,yDt⟩ Tryz.f49.results.toList ydy yhK ysn x=yoD x.1 x.2.1:=by kernel_rfl
theorem yT2:ConOk Tryz.prog 49 ⟨yhK,ysn,fun x=>yoD x.1 x.2.1⟩:=zj1 (yOT) Tryz.func49 (by kernel_rfl) (by kernel_rfl) Tryz.ntmps49.symm (by decide) (fun x r h=>(yYb x).trans h)
def yfs (a0:Int) (a1:dG):dA:=yw a0 a1
theorem yWe (a0:Int) (a1:dG) (hk:zi2 yhK (a0,a1,())):yoD a0 a1=(fun n=>some ((n,()),())) (yfs a0 a1):=by
 unfold yoD yfs yw
 simp only [ybX]
 cases hg:yb a1
 ·rfl
 cases hid:(leb 1 a0&&leb a0 60000)
 ·rfl
 have hge:=yi.1 hg
 have inner: ∀ (i:Int) (a:dA),yni (yHc a0 i a1 yZ a (yjf a0 a1 i))=some (.inl (yvy a0 i a1 yZ a (yh a0 a1 i))):=fun i a =>
  zj8 (step:=yaT) a1.2.toNat (fun s m=>ylK a0 i s a1 yZ a m) yqG (fun _ m=>(m.1.length:Int)=6+a1.2) (fun m=> .inl (yvy a0 i a1 yZ a m)) (fun s m hs hm=>⟨by
   simp only [yaT,ylK,yl7,zj4 (show (s:Int) < a1.2 by omega),cond_true,wr (show -9223372036854775808≤(s:Int)+1 by omega) (by omega),Int.natCast_add,Int.natCast_one,Int.toNat_natCast,yd9]
   have hd:dataAt (s:Int)=((s+6:Nat):Int):=by unfold dataAt; rw [zkw (show (0:Int)≤s by omega),zkw (show (s:Int)≤1099511627776 by omega)]; rfl
   rw [hd,zkl (show s+6 < m.1.length by omega),Int.toNat_natCast]; rfl,by show ((m.1.set _ _).length:Int)=_; rw [List.length_set]; exact hm⟩) (fun m hm=>by simp only [yaT,ylK,yl7,show ((a1.2.toNat:Nat):Int)=a1.2 by omega,zkx (Int.le_refl _),cond_false]) (yjf a0 a1 i) (by
   unfold yjf yO
   rw [zkw (show 1≤6+a1.2 by omega),zkw (show 6+a1.2≤20 by omega)]
   show (((List.replicate (6+a1.2).toNat ([]:List Int)).set 0 _).length:Int)=_
   rw [List.length_set,List.length_replicate]; omega) 18446744073709551616 (by omega)
 have hmn:ybc (ybY a1)=yO (6+a1.2):=by
  unfold ybc ybY
  rw [wr (by omega) (by omega)]
 have h0:inb 0 (yO (6+a1.2)).1.length=true:=by
  unfold yO
  rw [zkw (show 1≤6+a1.2 by omega),zkw (show 6+a1.2≤20 by omega)]
  show inb 0 (List.replicate (6+a1.2).toNat ([]:List Int)).length=true
  rw [List.length_replicate,zjD]; omega
 have outer:ysW (yMV a0 a1 yZ (yBi a0 a1))=some (.inl (yAk yZ ((List.range a1.1.toNat).foldl (fun a (i:Nat)=>yBg a (yh a0 a1 i)) (yBi a0 a1)))) :=
  zj8 (step:=ycy) a1.1.toNat (fun i a=>yjN a0 i a1 yZ a) (fun a i=>yBg a (yh a0 a1 i)) (fun i a=>a.2.2.1.length=i) (fun a=> .inl (yAk yZ a)) (fun i a hi ha=>⟨by
   simp only [ycy,yjN,yrC,zj4 (show (i:Int) < a1.1 by omega),cond_true,wr (show -9223372036854775808≤(i:Int)+1 by omega) (by omega),Int.natCast_add,Int.natCast_one,zkr,hmn,h0]
   refine (congrArg (fun z=>zkh z _ _) (inner i a)).trans ?_
   simp only [zki]
   show (bif zjR a.2.2.1.length [yh a0 a1 i].length 80 then _ else _)=_
   rw [zka.2 (show (a.2.2.1.length+ [yh a0 a1 i].length) * 80≤140737488355328 by simp only [List.length_cons,List.length_nil]; omega)]
   simp only [cond_true]
   show some (Sum.inl (yjN a0 (IntKind.i64.wrap ((i:Int)+1)) a1 yZ (yBg a (yh a0 a1 i))))=_
   rw [wr (show -9223372036854775808≤(i:Int)+1 by omega) (by omega)],by show (a.2.2.1++ [_]).length=_; rw [List.length_append,ha]; rfl⟩) (fun a ha=>by simp only [ycy,yjN,yrC,show ((a1.1.toNat:Nat):Int)=a1.1 by omega,zkx (Int.le_refl _),cond_false]) (yBi a0 a1) rfl 18446744073709551616 (by omega)
 have hdr: ∀ (l:List Nat) (a:dA),a.2.2.2.2.2.2.2.2.1= []→(l.foldl (fun a (i:Nat)=>yBg a (yh a0 a1 i)) a).2.2.2.2.2.2.2.2.1= []:=by
  intro l
  induction l with
  | nil=>intro a h; exact h
  | cons x t ih=>intro a h; exact ih _ h
 have h:=hdr (List.range a1.1.toNat) (yBi a0 a1) rfl
 simp only [Bool.not_true,Bool.not_false,cond_true,cond_false,Bool.and_self]
 refine (congrArg (fun z=>zkh z _ _) outer).trans ?_
 generalize (List.range a1.1.toNat).foldl (fun a (i:Nat)=>yBg a (yh a0 a1 i)) (yBi a0 a1)=R at h
 simp only [zki]
 show some ((((R.1,R.2.1,R.2.2.1,R.2.2.2.1,R.2.2.2.2.1,R.2.2.2.2.2.1,R.2.2.2.2.2.2.1,R.2.2.2.2.2.2.2.1,[],R.2.2.2.2.2.2.2.2.2):dA),()),())=some ((R,()),())
 rw [← h]
def yu6:Con:=⟨yhK,ysn,fun x=>(fun n=>some ((n,()),())) (yfs x.1 x.2.1)⟩
theorem yGI:ConOk Tryz.prog 49 yu6:=(yT2).mono (fun x r hk h=>(yWe x.1 x.2.1 hk).trans h)
end
section
def yJA:Code:=(Tryz.f209.body).getD .skip
def yJT:Env:=zj2 TT [(150,yz)] []
theorem yS5:FrOk Tryz.prog ⟨yJT,10,fun _=>none⟩ yJA:=zj6 yc yd ⟨yM,trivial⟩
def yVi:Nat→Option Seg:=fun _=>none
abbrev ypp:List Par:= [.pt tU .fz]
abbrev yuX:List OT:= [⟨false,tG,(.pr .fz .fz)⟩]
def ygz (a0:dU):Option (ResD yuX×MutD ypp) :=
 bnd (ye a0 3) fun r1 =>
 bnd (ye r1.2.1 4) fun r2 =>
 some ((((IntKind.i64.wrap (3+r1.1.1)),(IntKind.i64.wrap (1+r2.1.1))),()),(r2.2.1,()))
theorem yZS (x:InD ypp):zjx ⟨yJT,10,yVi⟩ Tryz.f209.results.toList yJA ypp yuX x=ygz x.1:=by kernel_rfl
theorem yWV:ConOk Tryz.prog 209 ⟨ypp,yuX,fun x=>ygz x.1⟩:=zj1 (yS5) Tryz.func209 (by kernel_rfl) (by kernel_rfl) Tryz.ntmps209.symm (by decide) (fun x r h=>(yZS x).trans h)
def yGs:Con:=⟨ypp,yuX,fun x=>ygz x.1⟩
theorem yZa:ConOk Tryz.prog 209 yGs:=yWV
theorem y11 (u:dU) (h:yD u): ∃ (g:dG) (u':dU),ygz u=some ((g,()),(u',()))∧yb g=true∧yD u':=by
 unfold ygz
 obtain ⟨r1,u1,e1,q1,d1⟩:=yy u 3 h
 obtain ⟨r2,u2,e2,q2,d2⟩:=yy u1 4 d1
 simp only [e1,e2,zkc]
 refine ⟨_,_,rfl,?_,d2⟩
 have:=q1.2.1 (by omega); have:=q2.2.1 (by omega); have:=q1.1; have:=q2.1
 rw [wr (by omega) (by omega),wr (by omega) (by omega)]
 exact yi.2 ⟨⟨by show 3≤3+r1; omega,by show 3+r1≤5; omega⟩,by show 1≤1+r2; omega,by show 1+r2≤8; omega⟩
end
end
end Go.Tf
