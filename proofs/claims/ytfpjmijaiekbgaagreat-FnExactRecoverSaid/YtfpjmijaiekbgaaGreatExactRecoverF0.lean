/- Functions of the program, and what they come to. -/
import Derived.Test.YtfpjmijaiekbgaaGreatExactRecoverTt
namespace Go.Tf
noncomputable section
open Go.Proofs
set_option synthInstance.maxHeartbeats 400000
set_option synthInstance.maxSize 10000
set_option linter.unusedVariables false
set_option linter.unusedSimpArgs false
set_option maxRecDepth 100000
section
def ync:Code:=(Tryz.f17.body).getD .skip
def ytm:Env:=zki TT [] []
theorem yQQ:FrOk Tryz.prog ⟨ytm,26,fun _=>none⟩ ync:=zkp yb yc trivial
def yFt:Nat→Option Seg:=fun _=>none
def yd5:Shape:=⟨[(0,false,[.br tI]),(1,false,[.br tI]),(5,false,[.int .i64])],[],[]⟩
def yl7:Shape:=⟨[(0,false,[.br tI]),(1,false,[.br tI]),(5,false,[.ci .i64 0])],[],[]⟩
def yl1:Shape:=⟨[],[],[]⟩
def ymj:Shape:=⟨[(4,false,[.bool])],[],[]⟩
def ysP (v0:List Int) (v1:List Int) (v2:Int):Option ((yd5).X ⊕ ((yl1).X ⊕ (ymj).X)) :=
  bif (ltb v2 (v0.length:Int)) then
    bif (inb v2 v0.length) then
      bif (inb v2 v1.length) then
        bif ((nth v0 v2 0) !=(nth v1 v2 0)) then
          some (.inr (.inr (((false,()),()),(),())))
        else
          some (.inl (((v0,()),(v1,()),((IntKind.i64.wrap (v2+1)),()),()),(),()))
      else none
    else none
  else
    some (.inr (.inl ((),(),())))
def yct (x:(yd5).X):=ysP x.1.1.1 x.1.2.1.1 x.1.2.2.1.1
def yBU (x:(yl7).X):(yd5).X:=(((x.1.1.1,()),(x.1.2.1.1,()),(0,()),()),(),())
def yDv:Code:=(zdI ync 64 116).getD .skip
theorem yQd:zdI ync 64 29=some (.block 0 (.loop yDv)):=by kernel_rfl
theorem yS8 (x:(yd5).X):zg7 ⟨ytm,26,yFt⟩ 0 yDv 116 yd5 yl1 ymj x=yct x:=by kernel_rfl
def yB8 (x:(yl7).X):Nat:=(fun (u0:List Int) (u1:List Int)=>18446744073709551616) x.1.1.1 x.1.2.1.1
def yue (x:(yl7).X):Option ((yl1).X ⊕ (ymj).X):=zr yct (yB8 x) (yBU x)
def yCp:Seg:=⟨yl7,yl1,ymj,yue⟩
def yFu:Nat→Option Seg:=fun q=>bif Nat.beq q 29 then some yCp else yFt q
theorem yQR:FrOk Tryz.prog ⟨ytm,26,yFu⟩ ync:=(yQQ).loop (sg:=yCp) yd5 yBU (by decide) yQd yct yB8 (by decide) (fun _=>rfl) (fun x r _ h=>h) yS8
abbrev yhB:List Par:= [.rd tL,.rd tL]
abbrev ytK:List OT:= [⟨false,tB,.fz⟩]
def ypF (a0:List Int) (a1:List Int):Option (ResD ytK×MutD yhB) :=
  bif ((a0.length:Int) !=(a1.length:Int)) then
    some ((false,()),())
  else
    zjw (yue (((a0,()),(a1,()),((),()),()),(),())) (fun y0 =>
      some ((true,()),())) (fun y0 =>
      some ((y0.1.1.1,()),()))
theorem yZN (x:InD yhB):zjH ⟨ytm,26,yFu⟩ Tryz.f17.results.toList ync yhB ytK x=ypF x.1 x.2.1:=by kernel_rfl
theorem yVS:ConOk Tryz.prog 17 ⟨yhB,ytK,fun x=>ypF x.1 x.2.1⟩:=zkh (yQR) Tryz.func17 (by kernel_rfl) (by kernel_rfl) Tryz.ntmps17.symm (by decide) (fun x r h=>(yZN x).trans h)
def yy (a0 a1:List Int):Bool:=decide (a0=a1)
theorem yX4 (a0 a1:List Int) (hk:zi9 yhB (a0,a1,())):ypF a0 a1=(fun n=>some ((n,()),())) (yy a0 a1):=by
  have hb:a0.length * 8≤2 ^ 47:=hk.1.1
  have hl:a0.length=a1.length→yue (((a0,()),(a1,()),((),()),()),(),())=some (bif (List.range a0.length).any (fun i=>a0.getD i 0 !=a1.getD i 0) then .inr (((false,()),()),(),()) else .inl ((),(),())):=fun hL =>
    zf4 (step:=yct) (fun i=>(((a0,()),(a1,()),((i:Int),()),()),(),())) a0.length (fun i=>a0.getD i 0 !=a1.getD i 0) _ _ (fun i hi=>by
      simp only [yct,ysP,zkO hi,zkO (hL ▸ hi),zjW,zjI (show (i:Int) < a0.length by omega),cond_true,wr (show -9223372036854775808≤(i:Int)+1 by omega) (by omega),Int.natCast_add,Int.natCast_one]
      cases (a0.getD i 0 !=a1.getD i 0)<;>rfl) (by simp only [yct,ysP,zkm (Int.le_refl _),cond_false]) _ (by show _ < 18446744073709551616; omega)
  unfold ypF yy
  by_cases h:a0.length=a1.length
  · rw [show ((a0.length:Int) !=(a1.length:Int))=false by simp [h],zkX,hl h]
    by_cases e:a0=a1
    · subst e
      have:(List.range a0.length).any (fun i=>a0.getD i 0 !=a0.getD i 0)=false:=by simp
      rw [this,decide_eq_true rfl]
      rfl
    · have:(List.range a0.length).any (fun i=>a0.getD i 0 !=a1.getD i 0)=true:=by
        rcases Bool.eq_false_or_eq_true ((List.range a0.length).any (fun i=>a0.getD i 0 !=a1.getD i 0)) with h2 | h2
        · exact h2
        · refine absurd (List.ext_getElem h fun i h3 h4=> ?_) e
          rw [List.any_eq_false]at h2
          have:=h2 i (List.mem_range.2 h3)
          simpa [h3,h4] using this
      rw [this,decide_eq_false e]
      rfl
  · rw [show ((a0.length:Int) !=(a1.length:Int))=true from bne_iff_ne.2 (by omega),zkY,decide_eq_false (fun e=>h (congrArg _ e))]
theorem yjh (a b:List Int):yy a b=decide (a=b):=rfl
def yfe:Con:=⟨yhB,ytK,fun x=>(fun n=>some ((n,()),())) (yy x.1 x.2.1)⟩
theorem ylL:ConOk Tryz.prog 17 yfe:=(yVS).mono (fun x r hk h=>(yX4 x.1 x.2.1 hk).trans h)
theorem yUq (a:List Int):yy a a=true:=by rw [yjh]; exact decide_eq_true rfl
def yz {α:Type} (p:α→Bool) (l:List α):Int:=bif l.any p then ((l.takeWhile (fun x=> !p x)).length:Int) else -1
theorem yZl {α:Type} (p:α→Bool):yz p []= -1:=rfl
theorem yIz {α:Type} (p:α→Bool) (x:α) (l:List α):yz p (x::l)=bif p x then 0 else bif leb 0 (yz p l) then yz p l+1 else -1:=by
  unfold yz
  rw [List.any_cons,List.takeWhile_cons]
  cases p x
  · cases l.any p
    · rfl
    · simp only [Bool.false_or,Bool.not_false,if_true,cond_true,cond_false,List.length_cons]
      rw [zk0 (show (0:Int)≤((l.takeWhile (fun x=> !p x)).length:Int) by omega),cond_true]; omega
  · simp
theorem yRp {α:Type} {p:α→Bool} {d:α}: ∀ {l:List α},leb 0 (yz p l)=true→inb (yz p l) l.length=true∧p (nth l (yz p l) d)=true
  | [],h=>by rw [yZl]at h; cases h
  | x::l,h=>by
    rw [yIz]at h ⊢
    cases hx:p x
    · rw [hx]at h
      cases hl:leb 0 (yz p l)
      · rw [hl]at h; cases h
      · obtain ⟨h1,h2⟩:=yRp (d:=d) hl
        have h3:=zjP.1 h1
        have h4:=zjQ.1 hl
        simp only [cond_false,cond_true,List.length_cons]
        refine ⟨zjP.2 (by omega),?_⟩
        unfold nth at h2 ⊢
        rw [show (yz p l+1).toNat=(yz p l).toNat+1 by omega,List.getD_cons_succ]
        exact h2
    · simp only [cond_true,List.length_cons]
      refine ⟨zjP.2 (by omega),?_⟩
      exact hx
theorem yMc {A B α:Type} {step:A→Option (A ⊕ B)} (l:List α) (d:α) (f:Nat→A) (p:α→Bool) (b:Int→B) (c:B)
    (h: ∀ i,i < l.length→step (f i)=some (bif p (l.getD i d) then .inr (b i) else .inl (f (i+1)))) (e:step (f l.length)=some (.inr c)) (fuel:Nat) (hf:l.length < fuel) :
    zr step fuel (f 0)=some (bif leb 0 (yz p l) then b (yz p l) else c):=by
  have: ∀ (t q:List α) (fuel:Nat),q++t=l→t.length < fuel→zr step fuel (f q.length)=some (bif leb 0 (yz p t) then b (q.length+yz p t) else c):=by
    intro t
    induction t with
    | nil =>
      intro q fuel hq hf
      obtain ⟨fuel,rfl⟩: ∃ m,fuel=m+1:=⟨fuel - 1,by omega⟩
      rw [List.append_nil]at hq
      subst hq
      simp only [zr,e]; rfl
    | cons x t ih =>
      intro q fuel hq hf
      obtain ⟨fuel,rfl⟩: ∃ m,fuel=m+1:=⟨fuel - 1,by omega⟩
      have hx:l.getD q.length d=x:=by
        subst hq
        rw [zcq (by simp)]; simp
      have hs:=h q.length (by rw [← hq]; simp)
      rw [hx]at hs
      rw [yIz]
      cases hp:p x
      · rw [hp]at hs
        have:=ih (q++ [x]) fuel (by rw [← hq]; simp) (by simp at hf; omega)
        simp only [List.length_append,List.length_cons,List.length_nil]at this
        simp only [zr,hs,cond_false]
        rw [show q.length+1=q.length+(0+1) by omega,this]
        cases hl:leb 0 (yz p t)
        · rfl
        · have:=zjQ.1 hl
          rw [cond_true,cond_true,zk0 (show 0≤yz p t+1 by omega),cond_true]
          congr 2; omega
      · rw [hp]at hs
        simp only [zr,hs,cond_true]
        rw [zk0 (Int.le_refl 0),cond_true,Int.add_zero]
  have:=this l [] fuel rfl hf
  simpa using this
theorem yCC {α β:Type} (f:α→β): ∀ (l:List α) (s:List β),l.foldl (fun s i=>s++ [f i]) s=s++l.map f
  | [],s=>by simp
  | x::l,s=>by rw [List.foldl_cons,yCC f l]; simp
theorem yux {α:Type} (l:List α):l.foldl (fun s i=>s++ [i]) []=l:=by
  have:=yCC id l []
  simpa using this
theorem y2o {α:Type} (l:List α) (d:α) {i:Nat} (h:i < l.length):l.take i++ [nth l i d]=l.take (i+1):=by rw [zjW,zcq h,List.take_append_getElem h]
theorem y1E {α:Type} (f:α→Nat) (c:Nat): ∀ l:List α,(l.map (fun x=>c+f x)).sum=c * l.length+(l.map f).sum
  | []=>by simp
  | x::l=>by rw [List.map_cons,List.sum_cons,y1E f c l,List.map_cons,List.sum_cons,List.length_cons,Nat.mul_add]; omega
theorem y1I {α:Type} {u:α→Int→Int} {m:α→Nat} {l:List α} {k:Int} (hu: ∀ x∈l,∀ k,0≤k→k≤1048576→0≤u x k→(m x:Int)≤k∧u x k≤k - m x) (h0:0≤k) (h1:k≤1048576) (hl:l.length≤17592186044416)
    (h:0≤(bif ltb (IntKind.i64.wrap (k - (l.length:Int))) 0 then (-1) else (szG u l (IntKind.i64.wrap (k - (l.length:Int)))).getD (-1))) :
    ((l.length+(l.map m).sum:Nat):Int)≤k - (bif ltb (IntKind.i64.wrap (k - (l.length:Int))) 0 then (-1) else (szG u l (IntKind.i64.wrap (k - (l.length:Int)))).getD (-1))∧(bif ltb (IntKind.i64.wrap (k - (l.length:Int))) 0 then (-1) else (szG u l (IntKind.i64.wrap (k - (l.length:Int)))).getD (-1))≤k:=by
  rw [wr (show -9223372036854775808≤k - (l.length:Int) by omega) (by omega)] at h ⊢
  by_cases h2:k - (l.length:Int) < 0
  · rw [zjI h2]at h; exact absurd (show (0:Int)≤ -1 from h) (by omega)
  · rw [zkm (Int.not_lt.1 h2),cond_false]at h ⊢
    cases hg:szG u l (k - (l.length:Int)) with
    | none=>rw [hg]at h; exact absurd (show (0:Int)≤ -1 from h) (by omega)
    | some r =>
      have:=zke hu (by omega) (by omega) hg
      rw [Option.getD_some]
      omega
def ysw (m:dM):Nat:=(m.1.map (fun x:List Int=>x.length)).sum+(m.2.1.map (fun x:dW=>1+x.2.length)).sum+1+m.2.2.2.length
def ykh (l:List dM):Nat:=(l.map ysw).sum
def yU8 (l:List dW):Nat:=(l.map (fun x:dW=>1+x.2.length)).sum
def yn7 (a:dA):Nat:=ykh a.2.2.1+yU8 a.2.2.2.2.2.2.2.2.1
abbrev yf:dM:=([],[],false,[])
def isW (x:Int):Bool:=leb 0 x&&leb x 65535
def ybz (s:List Int):Bool:=leb (s.length:Int) 12&&s.all isW
theorem y2U {x:Int}:isW x=true↔0≤x∧x≤65535:=by simp [isW,zjQ]
theorem yGY {s:List Int}:ybz s=true↔s.length≤12∧ ∀ x∈s,0≤x∧x≤65535:=by
  simp only [ybz,Bool.and_eq_true,zjQ,List.all_eq_true,y2U]
  constructor
  · rintro ⟨h1,h2⟩; exact ⟨by omega,h2⟩
  · rintro ⟨h1,h2⟩; exact ⟨by omega,h2⟩
theorem y1Y: ∀ {l:List Int},l.Pairwise (· < ·)↔ ∀ i,i+1 < l.length→l.getD i 0 < l.getD (i+1) 0
  | []=>by simp
  | [x]=>by simp
  | x::y::l=>by
    have ih:=y1Y (l:=y::l)
    constructor
    · intro h i hi
      cases h with
      | cons h1 h2 =>
        cases i with
        | zero=>exact h1 y List.mem_cons_self
        | succ i=>exact ih.1 h2 i (by simpa using hi)
    · intro h
      have h2:(y::l).Pairwise (· < ·):=ih.2 fun i hi=>h (i+1) (by simpa using hi)
      refine .cons (fun z hz=> ?_) h2
      have h3:x < y:=h 0 (by simp)
      rcases List.mem_cons.1 hz with rfl | hz
      · exact h3
      · cases h2 with
        | cons h4 _=>exact Int.lt_trans h3 (h4 z hz)
def ywb (n:Nat) (l:List Int):Bool:=l.all (fun x=>inb x n)&&decide (l.Pairwise (· < ·))
def yyF (n:Nat) (w:dW):Bool:=inb w.1 n&&ybz w.2
def yp (m:dM):Bool:=m.1.all ybz&&m.2.1.all (yyF m.1.length)&&ywb m.1.length m.2.2.2&&leb 1 (m.1.length:Int)&&leb (m.1.length:Int) 20&&leb (m.2.1.length:Int) 60
def yF3 (n:Nat) (l:List Int) (i:Nat):Bool:= !(inb (l.getD i 0) n)||(decide (0 < i)&&leb (l.getD i 0) (l.getD (i - 1) 0))
theorem yZj (n:Nat) (l:List Int):(List.range l.length).any (yF3 n l)= !(ywb n l):=by
  rw [Bool.eq_iff_iff,List.any_eq_true,Bool.not_eq_true',ywb,Bool.and_eq_false_iff,decide_eq_false_iff_not,y1Y,List.all_eq_false]
  simp only [List.mem_range,yF3,Bool.or_eq_true,Bool.not_eq_true',Bool.and_eq_true,decide_eq_true_eq,zjQ]
  constructor
  · rintro ⟨i,hi,h | ⟨h1,h2⟩⟩
    · exact .inl ⟨l[i],List.getElem_mem hi,by rw [zcq hi]at h; simp [h]⟩
    · refine .inr fun h3=> ?_
      have:=h3 (i - 1) (by omega)
      rw [show i - 1+1=i by omega]at this
      omega
  · rintro (⟨x,hx,h⟩ | h)
    · obtain ⟨i,hi,rfl⟩:=List.getElem_of_mem hx
      exact ⟨i,hi,.inl (by rw [zcq hi]; simpa using h)⟩
    · refine Classical.byContradiction fun hc=>h fun i hi=> ?_
      refine Classical.byContradiction fun h4=>hc ⟨i+1,hi,.inr ⟨by omega,?_⟩⟩
      rw [Nat.add_sub_cancel]; omega
def yIi (n:Int) (c:List dW) (s:List Int):List Int:=c.foldl (fun s w=>bif w.1==n then w.2 else s) s
def yNd (m:dM) (n:Int):Bool:=yp m&&(!m.2.2.1&&(inb n m.1.length&& !(m.2.2.2.any (· ==n))))
def yk (m:dM) (n:Int):List Int×Bool:=bif yNd m n then (yIi n m.2.1 (nth m.1 n []),true) else ([],false)
theorem yVc {P:List Int→Prop} {n:Int}: ∀ {c:List dW} {s:List Int},P s→(∀ w∈c,P w.2)→P (yIi n c s)
  | [],_,h,_=>h
  | w::c,s,h,hc=>yVc (c:=c) (zkM (hc w List.mem_cons_self) h) (fun x hx=>hc x (List.mem_cons_of_mem _ hx))
theorem y16 {α:Type} {P:α→Prop} {l:List α} {i:Int} {d:α} (h:inb i l.length=true) (hl: ∀ x∈l,P x):P (nth l i d):=by
  obtain ⟨h1,h2⟩:=zjP.1 h
  unfold nth
  rw [zcq (show i.toNat < l.length by omega)]
  exact hl _ (List.getElem_mem _)
theorem y13 {α:Type} {p:α→Bool} {l:List α} (h:leb 0 (yz p l)=false):yz p l= -1:=by
  unfold yz at h ⊢
  cases ha:l.any p
  · rfl
  · rw [ha,cond_true,zk0 (show (0:Int)≤((l.takeWhile (fun x=> !p x)).length:Int) by omega)] at h; cases h
theorem yZm {α:Type} {p:α→Bool}: ∀ {l:List α},leb 0 (yz p l)=true→(l.take ((yz p l).toNat+1)).filter (fun x=> !p x)=l.take (yz p l).toNat
  | [],h=>by rw [yZl]at h; cases h
  | x::l,h=>by
    rw [yIz]at h ⊢
    cases hx:p x
    · rw [hx]at h
      cases hl:leb 0 (yz p l)
      · rw [hl]at h; cases h
      · have h4:=zjQ.1 hl
        simp only [cond_false,cond_true]
        rw [show (yz p l+1).toNat=(yz p l).toNat+1 by omega,List.take_succ_cons,List.take_succ_cons,List.filter_cons,hx,yZm hl]; rfl
    · simp only [cond_true]
      show List.filter (fun x=> !p x) [x]= []
      rw [List.filter_cons,hx]; rfl
theorem y2A {α:Type} {p:α→Bool} {l:List α} (h:leb 0 (yz p l)=false):l.filter (fun x=> !p x)=l:=by
  rw [List.filter_eq_self]
  intro x hx
  unfold yz at h
  cases ha:l.any p
  · have:=List.any_eq_false.1 ha x hx
    simpa using this
  · rw [ha,cond_true,zk0 (show (0:Int)≤((l.takeWhile (fun x=> !p x)).length:Int) by omega)] at h; cases h
def ywk (s:Int):Int:=bif leb 0 s&&leb s 1099511627776 then s+6 else -1
def ylr (a:dA) (m s:Int):Bool:=inb m a.2.2.1.length&&(!(nth a.2.2.1 m yf).2.2.1&&(m !=a.2.2.2.1||ltb s a.2.2.2.2.1))
def yZh (a:dA) (m s:Int):List Int×Bool:=yk (nth a.2.2.1 m yf) (ywk s)
def y2p (a:dA) (m s:Int):Bool:=ylr a m s&&((yZh a m s).2&&((yZh a m s).1.length:Int)==1)
def y3w (a:dA) (m s:Int):Int:=bif y2p a m s then nth (yZh a m s).1 0 0 else 0
def xw (a b:Int):Int:=IntKind.i64.wrap ((BitVec.ofInt IntKind.i64.bits a ^^^ BitVec.ofInt IntKind.i64.bits b).toNat:Int)
def ypV (l:List Int):Int:=l.foldl xw 0
def y2q (a:dA) (s:Int):Bool:=(List.range a.2.2.1.length).all (fun (i:Nat)=>y2p a i s)
def y2M (a:dA) (s:Int):Int×Bool:=bif y2q a s then (ypV ((List.range a.2.2.1.length).map (fun (i:Nat)=>y3w a i s)),true) else (0,false)
def y3z (a:dA):Bool:=(List.range (min a.2.1.2.toNat 20)).all (fun (s:Nat)=> !((y2M a s).2&&(y2M a s).1 !=0))
abbrev ya2:dA:=(0,(0,0),[],0,0,0,0,0,[],0,false,false)
def yF4 (k:Int) (i:Nat):Bool:=IntKind.i64.wrap ((BitVec.ofInt IntKind.i64.bits (k.fdiv (2 ^ (min (i:Int).toNat IntKind.i64.bits))) &&& BitVec.ofInt IntKind.i64.bits 1).toNat:Int)==1
def yU7 (k:Int):Int:=bif leb 0 k&&leb k 1048575 then k else 0
def yco (b:Nat→Bool) (c:List dW) (l:List (List Int)) (i:Nat):List (List Int):=bif b i then l.set (nth c i (0,[])).1.toNat (nth c i (0,[])).2 else l
def ycn (b:Nat→Bool) (c:List dW) (l:List (List Int)):List (List Int):=(List.range c.length).foldl (yco b c) l
def ydf (m:dM) (k:Int):dM:=bif yp m then (ycn (fun i=>decide (i < 20)&&yF4 (yU7 k) i) m.2.1 m.1,[],m.2.2.1,m.2.2.2) else m
def ywC (ks:List Int) (i:Nat):Int:=bif decide (i < ks.length) then nth ks i 0 else 0
def yaA (l:List dM) (ks:List Int):List dM:=(List.range l.length).map (fun (i:Nat)=>ydf (nth l i yf) (ywC ks i))
theorem yf7 {m:dM} (h:yp m=true):m.1.all ybz=true∧m.2.1.all (yyF m.1.length)=true∧ywb m.1.length m.2.2.2=true∧1≤m.1.length∧m.1.length≤20∧m.2.1.length≤60:=by
  simp only [yp,Bool.and_eq_true,zjQ]at h
  exact ⟨h.1.1.1.1.1,h.1.1.1.1.2,h.1.1.1.2,by omega,by omega,by omega⟩
theorem yIB {m:dM} (h:yp m=true) {i:Nat} (hi:i < m.2.1.length):inb (nth m.2.1 i (0,[])).1 m.1.length=true∧ybz (nth m.2.1 i (0,[])).2=true:=by
  have h1:=List.all_eq_true.1 (yf7 h).2.1 m.2.1[i] (List.getElem_mem hi)
  rw [zjW,zcq hi]
  exact Bool.and_eq_true_iff.1 h1
theorem ywD {b:Nat→Bool} {c:List dW} {l:List (List Int)} {i:Nat}:(yco b c l i).length=l.length:=by
  unfold yco; cases b i
  · rfl
  · exact List.length_set
theorem yUs {α β:Type} (P:β→Prop) (f:β→α→β) (h: ∀ s x,P s→P (f s x)): ∀ (l:List α) (s:β),P s→P (l.foldl f s)
  | [],_,hs=>hs
  | x::l,s,hs=>yUs P f h l (f s x) (h s x hs)
theorem ytc {b:Nat→Bool} {c:List dW} {l:List (List Int)}:(ycn b c l).length=l.length :=
  yUs (fun x=>x.length=l.length) _ (fun s x hs=>by rw [ywD]; exact hs) _ l rfl
theorem y1S (b:Nat→Bool) (c:List dW) (l:List (List Int)):ycn (fun i=>decide (i < 20)&&b i) c l=(List.range (min c.length 20)).foldl (yco b c) l:=by
  have h1: ∀ n,n≤20→ ∀ l,(List.range n).foldl (yco (fun i=>decide (i < 20)&&b i) c) l=(List.range n).foldl (yco b c) l:=by
    intro n
    induction n with
    | zero=>intro _ _; rfl
    | succ n ih =>
      intro hn l
      rw [List.range_succ,List.foldl_append,List.foldl_append,ih (by omega)]
      simp only [List.foldl_cons,List.foldl_nil,yco,show decide (n < 20)=true from decide_eq_true (by omega),Bool.true_and]
  have h2: ∀ n,20≤n→ ∀ l,(List.range n).foldl (yco (fun i=>decide (i < 20)&&b i) c) l=(List.range 20).foldl (yco b c) l:=by
    intro n
    induction n with
    | zero=>intro h; omega
    | succ n ih =>
      intro hn l
      by_cases h:20≤n
      · rw [List.range_succ,List.foldl_append,ih h]
        simp only [List.foldl_cons,List.foldl_nil,yco,show decide (n < 20)=false from decide_eq_false (by omega),Bool.false_and,cond_false]
      · rw [h1 (n+1) (by omega),show n+1=20 by omega]
  unfold ycn
  by_cases h:c.length≤20
  · rw [h1 _ h,Nat.min_eq_left h]
  · rw [h2 _ (by omega),Nat.min_eq_right (by omega)]
theorem yWQ {l:List (List Int)} {b:Nat} (h:l.length≤20) (hs: ∀ x∈l,x.length≤b):(l.map (fun x:List Int=>x.length)).sum≤20 * b:=by
  have:=zi5 (f:=fun x:List Int=>x.length) hs
  exact Nat.le_trans this (Nat.mul_le_mul_right _ h)
theorem yPY {P:List Int→Prop} {b:Nat→Bool} {c:List dW} {l:List (List Int)} (hl: ∀ x∈l,P x) (hc: ∀ w∈c,P w.2): ∀ x∈ycn b c l,P x:=by
  have: ∀ (n:Nat),n≤c.length→ ∀ x∈(List.range n).foldl (yco b c) l,P x:=by
    intro n
    induction n with
    | zero=>intro _; exact hl
    | succ n ih =>
      intro hn x hx
      rw [List.range_succ,List.foldl_append,List.foldl_cons,List.foldl_nil,yco]at hx
      cases hb:b n
      · rw [hb]at hx; exact ih (by omega) x hx
      · rw [hb,cond_true]at hx
        rcases List.mem_or_eq_of_mem_set hx with h | h
        · exact ih (by omega) x h
        · rw [h,zjW,zcq (show n < c.length by omega)]
          exact hc _ (List.getElem_mem _)
  exact this _ (Nat.le_refl _)
theorem y18 (m:dM) (k:Int):ysw (ydf m k)≤ysw m+240:=by
  unfold ydf
  cases hm:yp m
  · exact Nat.le_add_right _ _
  · obtain ⟨h1,h2,_,_,h3,_⟩:=yf7 hm
    have hs: ∀ x∈ycn (fun i=>decide (i < 20)&&yF4 (yU7 k) i) m.2.1 m.1,x.length≤12 :=
      yPY (P:=fun x=>x.length≤12) (fun x hx=>(yGY.1 (List.all_eq_true.1 h1 x hx)).1) (fun w hw=>(yGY.1 (Bool.and_eq_true_iff.1 (List.all_eq_true.1 h2 w hw)).2).1)
    have:=yWQ (b:=12) (by rw [ytc]; exact h3) hs
    unfold ysw
    simp only [cond_true,List.map_nil,List.sum_nil]
    omega
theorem y20 (l:List dM) (ks:List Int):ykh (yaA l ks)≤ykh l+240 * l.length:=by
  have: ∀ n,n≤l.length→(((List.range n).map (fun (i:Nat)=>ydf (nth l i yf) (ywC ks i))).map ysw).sum≤((l.take n).map ysw).sum+240 * n:=by
    intro n
    induction n with
    | zero=>intro _; simp
    | succ n ih =>
      intro hn
      rw [List.range_succ,List.map_append,List.map_append,List.sum_append,← List.take_append_getElem (show n < l.length by omega),List.map_append,List.sum_append]
      have:=ih (by omega)
      have h2:=y18 (nth l n yf) (ywC ks n)
      rw [zjW,zcq (show n < l.length by omega)] at h2
      simp only [List.map_cons,List.map_nil,List.sum_cons,List.sum_nil]
      rw [zjW l n,zcq (show n < l.length by omega)]
      omega
  have h:=this l.length (Nat.le_refl _)
  rw [List.take_length]at h
  exact h
def yyf (m:dM) (n:Int) (s:List Int):Bool:=yp m&&(!m.2.2.1&&(inb n m.1.length&&(ybz s&&ltb (m.2.1.length:Int) 60)))
def yZg (l:List Int) (n:Int):List Int:=l.filter (· !=n)
def yjK (m:dM) (n:Int) (s:List Int):dM×Bool:=bif yyf m n s then ((m.1,m.2.1++ [(n,s)],m.2.2.1,yZg m.2.2.2 n),true) else (m,false)
def yg0 (m:dM):dM:=bif yp m&& !m.2.2.1 then (ycn (fun _=>true) m.2.1 m.1,[],m.2.2.1,m.2.2.2) else m
def y2T (m:dM):dM:=(m.1,[],true,m.2.2.2)
end
section
def ykO:Code:=(Tryz.f193.body).getD .skip
def yrb:Env:=zki TT [(17,yfe)] []
theorem yN7:FrOk Tryz.prog ⟨yrb,27,fun _=>none⟩ ykO:=zkp yb yc ⟨ylL,trivial⟩
def yC4:Nat→Option Seg:=fun _=>none
def yc8:Shape:=⟨[(0,false,[.br tL]),(1,false,[.br tL]),(5,false,[.int .i64])],[],[]⟩
def yjU:Shape:=⟨[(0,false,[.br tL]),(1,false,[.br tL]),(5,false,[.ci .i64 0])],[],[]⟩
def yjN:Shape:=⟨[],[],[]⟩
def yj8:Shape:=⟨[(4,false,[.bool])],[],[]⟩
def yqU (v0:List (List Int)) (v1:List (List Int)) (v2:Int):Option ((yc8).X ⊕ ((yjN).X ⊕ (yj8).X)) :=
  bif (ltb v2 (v0.length:Int)) then
    bif (inb v2 v0.length) then
      bif (inb v2 v1.length) then
        let r2:=yy (nth v0 v2 []) (nth v1 v2 [])
        bif (!r2) then
          some (.inr (.inr (((false,()),()),(),())))
        else
          some (.inl (((v0,()),(v1,()),((IntKind.i64.wrap (v2+1)),()),()),(),()))
      else none
    else none
  else
    some (.inr (.inl ((),(),())))
def ybJ (x:(yc8).X):=yqU x.1.1.1 x.1.2.1.1 x.1.2.2.1.1
def yzy (x:(yjU).X):(yc8).X:=(((x.1.1.1,()),(x.1.2.1.1,()),(0,()),()),(),())
def yBo:Code:=(zdI ykO 64 116).getD .skip
theorem yNz:zdI ykO 64 29=some (.block 0 (.loop yBo)):=by kernel_rfl
theorem yPB (x:(yc8).X):zg7 ⟨yrb,27,yC4⟩ 0 yBo 116 yc8 yjN yj8 x=ybJ x:=by kernel_rfl
def yzR (x:(yjU).X):Nat:=(fun (u0:List (List Int)) (u1:List (List Int))=>18446744073709551616) x.1.1.1 x.1.2.1.1
def ysi (x:(yjU).X):Option ((yjN).X ⊕ (yj8).X):=zr ybJ (yzR x) (yzy x)
def yAh:Seg:=⟨yjU,yjN,yj8,ysi⟩
def yC5:Nat→Option Seg:=fun q=>bif Nat.beq q 29 then some yAh else yC4 q
theorem yN8:FrOk Tryz.prog ⟨yrb,27,yC5⟩ ykO:=(yN7).loop (sg:=yAh) yc8 yzy (by decide) yNz ybJ yzR (by decide) (fun _=>rfl) (fun x r _ h=>h) yPB
abbrev ygg:List Par:= [.rd tLL,.rd tLL]
abbrev yru:List OT:= [⟨false,tB,.fz⟩]
def ymQ (a0:List (List Int)) (a1:List (List Int)):Option (ResD yru×MutD ygg) :=
  bif ((a0.length:Int) !=(a1.length:Int)) then
    some ((false,()),())
  else
    zjw (ysi (((a0,()),(a1,()),((),()),()),(),())) (fun y2 =>
      some ((true,()),())) (fun y2 =>
      some ((y2.1.1.1,()),()))
theorem yXl (x:InD ygg):zjH ⟨yrb,27,yC5⟩ Tryz.f193.results.toList ykO ygg yru x=ymQ x.1 x.2.1:=by kernel_rfl
theorem ySt:ConOk Tryz.prog 193 ⟨ygg,yru,fun x=>ymQ x.1 x.2.1⟩:=zkh (yN8) Tryz.func193 (by kernel_rfl) (by kernel_rfl) Tryz.ntmps193.symm (by decide) (fun x r h=>(yXl x).trans h)
def yef (a0 a1:List (List Int)):Bool:=decide (a0=a1)
theorem yVo (a0 a1:List (List Int)) (hk:zi9 ygg (a0,a1,())):ymQ a0 a1=(fun n=>some ((n,()),())) (yef a0 a1):=by
  have hb:a0.length * 24≤2 ^ 47:=hk.1.1
  unfold ymQ yef
  by_cases h:a0.length=a1.length
  · have hl:ysi (((a0,()),(a1,()),((),()),()),(),())=some (bif decide (a0=a1) then .inl ((),(),()) else .inr (((false,()),()),(),())) :=
      zkF (step:=ybJ) a0 a1 ([]:List Int) (fun i=>(((a0,()),(a1,()),((i:Int),()),()),(),())) yy yjh _ _ h (fun i hi=>by
        simp only [ybJ,yqU,zkO (h ▸ hi),zkO hi,zjW,Int.toNat_natCast,zjI (show (i:Int) < a0.length by omega),cond_true,wr (show -9223372036854775808≤(i:Int)+1 by omega) (by omega),Int.natCast_add,Int.natCast_one,zkV]
        cases yy (a0.getD i []) (a1.getD i [])<;>rfl) (by simp only [ybJ,yqU,zkm (Int.le_refl _),cond_false]) _ (by show _ < 18446744073709551616; omega)
    rw [show ((a0.length:Int) !=(a1.length:Int))=false by simp [h],zkX,hl]
    cases decide (a0=a1)<;>rfl
  · rw [show ((a0.length:Int) !=(a1.length:Int))=true from bne_iff_ne.2 (by omega),zkY,decide_eq_false (fun e=>h (congrArg _ e))]
theorem yEg (a0 a1:List (List Int)):yef a0 a1=decide (a0=a1):=rfl
def yDP:Con:=⟨ygg,yru,fun x=>(fun n=>some ((n,()),())) (yef x.1 x.2.1)⟩
theorem yWl:ConOk Tryz.prog 193 yDP:=(ySt).mono (fun x r hk h=>(yVo x.1 x.2.1 hk).trans h)
theorem y2v (a:List (List Int)):yef a a=true:=by rw [yEg]; exact decide_eq_true rfl
end
section
def yPM:Code:=(Tryz.f240.body).getD .skip
def yPR:Env:=zki TT [(17,yfe)] []
theorem yXF:FrOk Tryz.prog ⟨yPR,16,fun _=>none⟩ yPM:=zkp yb yc ⟨ylL,trivial⟩
def yZu:Nat→Option Seg:=fun _=>none
abbrev ys3:List Par:= [.rd tW,.rd tW]
abbrev yyJ:List OT:= [⟨false,tB,.fz⟩]
def yAD (a0:dW) (a1:dW):Option (ResD yyJ×MutD ys3) :=
  bif (a0.1 !=a1.1) then
    some ((false,()),())
  else
    let r1:=yy a0.2 a1.2
    bif (!r1) then
      some ((false,()),())
    else
      some ((true,()),())
theorem y1L (x:InD ys3):zjH ⟨yPR,16,yZu⟩ Tryz.f240.results.toList yPM ys3 yyJ x=yAD x.1 x.2.1:=by kernel_rfl
theorem y0y:ConOk Tryz.prog 240 ⟨ys3,yyJ,fun x=>yAD x.1 x.2.1⟩:=zkh (yXF) Tryz.func240 (by kernel_rfl) (by kernel_rfl) Tryz.ntmps240.symm (by decide) (fun x r h=>(y1L x).trans h)
def yf8 (a0:dW) (a1:dW):Bool :=
  bif (a0.1 !=a1.1) then
    false
  else
    let r1:=yy a0.2 a1.2
    bif (!r1) then
      false
    else
      true
def yJE:Con:=⟨ys3,yyJ,fun x=>(fun n=>some ((n,()),())) (yf8 x.1 x.2.1)⟩
theorem y1p (a0:dW) (a1:dW):yAD a0 a1=(fun n=>some ((n,()),())) (yf8 a0 a1):=zkS (p:=fun (n:Bool)=>((n,()),())) (zkx (p:=fun (n:Bool)=>((n,()),())) rfl (zkx (p:=fun (n:Bool)=>((n,()),())) rfl rfl))
theorem y1w:ConOk Tryz.prog 240 yJE:=(y0y).mono (fun x r _ h=>(y1p x.1 x.2.1).trans h)
theorem yJI (a b:dW):yf8 a b=decide (a=b):=by
  unfold yf8
  simp only [zkz,zkA,zkB,zkC,zkD,yjh,Prod.ext_iff,Bool.decide_and,Bool.and_true]
theorem y2Z (a:dW):yf8 a a=true:=by rw [yJI]; exact decide_eq_true rfl
end
section
def ypY:Code:=(Tryz.f194.body).getD .skip
def yvt:Env:=zki TT [(240,yJE)] []
theorem yUI:FrOk Tryz.prog ⟨yvt,27,fun _=>none⟩ ypY:=zkp yb yc ⟨y1w,trivial⟩
def yHt:Nat→Option Seg:=fun _=>none
def ye9:Shape:=⟨[(0,false,[.br tW]),(1,false,[.br tW]),(5,false,[.int .i64])],[],[]⟩
def yoS:Shape:=⟨[(0,false,[.br tW]),(1,false,[.br tW]),(5,false,[.ci .i64 0])],[],[]⟩
def yoP:Shape:=⟨[],[],[]⟩
def ypj:Shape:=⟨[(4,false,[.bool])],[],[]⟩
def yu0 (v0:List dW) (v1:List dW) (v2:Int):Option ((ye9).X ⊕ ((yoP).X ⊕ (ypj).X)) :=
  bif (ltb v2 (v0.length:Int)) then
    bif (inb v2 v0.length) then
      bif (inb v2 v1.length) then
        let r2:=yf8 (nth v0 v2 (0,[])) (nth v1 v2 (0,[]))
        bif (!r2) then
          some (.inr (.inr (((false,()),()),(),())))
        else
          some (.inl (((v0,()),(v1,()),((IntKind.i64.wrap (v2+1)),()),()),(),()))
      else none
    else none
  else
    some (.inr (.inl ((),(),())))
def ydm (x:(ye9).X):=yu0 x.1.1.1 x.1.2.1.1 x.1.2.2.1.1
def yD6 (x:(yoS).X):(ye9).X:=(((x.1.1.1,()),(x.1.2.1.1,()),(0,()),()),(),())
def yGa:Code:=(zdI ypY 64 116).getD .skip
theorem yTM:zdI ypY 64 29=some (.block 0 (.loop yGa)):=by kernel_rfl
theorem yWG (x:(ye9).X):zg7 ⟨yvt,27,yHt⟩ 0 yGa 116 ye9 yoP ypj x=ydm x:=by kernel_rfl
def yEo (x:(yoS).X):Nat:=(fun (u0:List dW) (u1:List dW)=>18446744073709551616) x.1.1.1 x.1.2.1.1
def yvE (x:(yoS).X):Option ((yoP).X ⊕ (ypj).X):=zr ydm (yEo x) (yD6 x)
def yET:Seg:=⟨yoS,yoP,ypj,yvE⟩
def yHu:Nat→Option Seg:=fun q=>bif Nat.beq q 29 then some yET else yHt q
theorem yUJ:FrOk Tryz.prog ⟨yvt,27,yHu⟩ ypY:=(yUI).loop (sg:=yET) ye9 yD6 (by decide) yTM ydm yEo (by decide) (fun _=>rfl) (fun x r _ h=>h) yWG
abbrev yk5:List Par:= [.rd tWs,.rd tWs]
abbrev yvY:List OT:= [⟨false,tB,.fz⟩]
def yr0 (a0:List dW) (a1:List dW):Option (ResD yvY×MutD yk5) :=
  bif ((a0.length:Int) !=(a1.length:Int)) then
    some ((false,()),())
  else
    zjw (yvE (((a0,()),(a1,()),((),()),()),(),())) (fun y2 =>
      some ((true,()),())) (fun y2 =>
      some ((y2.1.1.1,()),()))
theorem y06 (x:InD yk5):zjH ⟨yvt,27,yHu⟩ Tryz.f194.results.toList ypY yk5 yvY x=yr0 x.1 x.2.1:=by kernel_rfl
theorem yYz:ConOk Tryz.prog 194 ⟨yk5,yvY,fun x=>yr0 x.1 x.2.1⟩:=zkh (yUJ) Tryz.func194 (by kernel_rfl) (by kernel_rfl) Tryz.ntmps194.symm (by decide) (fun x r h=>(y06 x).trans h)
def yg4 (a0 a1:List (dW)):Bool:=decide (a0=a1)
theorem y0j (a0 a1:List (dW)) (hk:zi9 yk5 (a0,a1,())):yr0 a0 a1=(fun n=>some ((n,()),())) (yg4 a0 a1):=by
  have hb:a0.length * 32≤2 ^ 47:=hk.1.1
  unfold yr0 yg4
  by_cases h:a0.length=a1.length
  · have hl:yvE (((a0,()),(a1,()),((),()),()),(),())=some (bif decide (a0=a1) then .inl ((),(),()) else .inr (((false,()),()),(),())) :=
      zkF (step:=ydm) a0 a1 ((0,[]):dW) (fun i=>(((a0,()),(a1,()),((i:Int),()),()),(),())) yf8 yJI _ _ h (fun i hi=>by
        simp only [ydm,yu0,zkO (h ▸ hi),zkO hi,zjW,Int.toNat_natCast,zjI (show (i:Int) < a0.length by omega),cond_true,wr (show -9223372036854775808≤(i:Int)+1 by omega) (by omega),Int.natCast_add,Int.natCast_one,zkV]
        cases yf8 (a0.getD i (0,[])) (a1.getD i (0,[]))<;>rfl) (by simp only [ydm,yu0,zkm (Int.le_refl _),cond_false]) _ (by show _ < 18446744073709551616; omega)
    rw [show ((a0.length:Int) !=(a1.length:Int))=false by simp [h],zkX,hl]
    cases decide (a0=a1)<;>rfl
  · rw [show ((a0.length:Int) !=(a1.length:Int))=true from bne_iff_ne.2 (by omega),zkY,decide_eq_false (fun e=>h (congrArg _ e))]
theorem yIc (a0 a1:List (dW)):yg4 a0 a1=decide (a0=a1):=rfl
def yHZ:Con:=⟨yk5,yvY,fun x=>(fun n=>some ((n,()),())) (yg4 x.1 x.2.1)⟩
theorem y0J:ConOk Tryz.prog 194 yHZ:=(yYz).mono (fun x r hk h=>(y0j x.1 x.2.1 hk).trans h)
theorem y2S (a:List dW):yg4 a a=true:=by rw [yIc]; exact decide_eq_true rfl
end
section
def yKK:Code:=(Tryz.f115.body).getD .skip
def yK1:Env:=zki TT [(17,yfe),(193,yDP),(194,yHZ)] []
theorem yUH:FrOk Tryz.prog ⟨yK1,28,fun _=>none⟩ yKK:=zkp yb yc ⟨ylL,yWl,y0J,trivial⟩
def yWY:Nat→Option Seg:=fun _=>none
abbrev yqp:List Par:= [.rd tM,.rd tM]
abbrev yvX:List OT:= [⟨false,tB,.fz⟩]
def yyz (a0:dM) (a1:dM):Option (ResD yvX×MutD yqp) :=
  let r1:=yef a0.1 a1.1
  bif (!r1) then
    some ((false,()),())
  else
    let r2:=yg4 a0.2.1 a1.2.1
    bif (!r2) then
      some ((false,()),())
    else
      bif (!(a0.2.2.1==a1.2.2.1)) then
        some ((false,()),())
      else
        let r3:=yy a0.2.2.2 a1.2.2.2
        bif (!r3) then
          some ((false,()),())
        else
          some ((true,()),())
theorem y05 (x:InD yqp):zjH ⟨yK1,28,yWY⟩ Tryz.f115.results.toList yKK yqp yvX x=yyz x.1 x.2.1:=by kernel_rfl
theorem yYy:ConOk Tryz.prog 115 ⟨yqp,yvX,fun x=>yyz x.1 x.2.1⟩:=zkh (yUH) Tryz.func115 (by kernel_rfl) (by kernel_rfl) Tryz.ntmps115.symm (by decide) (fun x r h=>(y05 x).trans h)
def yeM (a0:dM) (a1:dM):Bool :=
  let r1:=yef a0.1 a1.1
  bif (!r1) then
    false
  else
    let r2:=yg4 a0.2.1 a1.2.1
    bif (!r2) then
      false
    else
      bif (!(a0.2.2.1==a1.2.2.1)) then
        false
      else
        let r3:=yy a0.2.2.2 a1.2.2.2
        bif (!r3) then
          false
        else
          true
def yHY:Con:=⟨yqp,yvX,fun x=>(fun n=>some ((n,()),())) (yeM x.1 x.2.1)⟩
theorem y0i (a0:dM) (a1:dM):yyz a0 a1=(fun n=>some ((n,()),())) (yeM a0 a1):=zkS (p:=fun (n:Bool)=>((n,()),())) (zkx (p:=fun (n:Bool)=>((n,()),())) rfl (zkx (p:=fun (n:Bool)=>((n,()),())) rfl (zkx (p:=fun (n:Bool)=>((n,()),())) rfl (zkx (p:=fun (n:Bool)=>((n,()),())) rfl rfl))))
theorem y0I:ConOk Tryz.prog 115 yHY:=(yYy).mono (fun x r _ h=>(y0i x.1 x.2.1).trans h)
theorem yIb (a b:dM):yeM a b=decide (a=b):=by
  unfold yeM
  simp only [zkz,zkA,zkB,zkC,zkD,yjh,yEg,yIc,Prod.ext_iff,Bool.decide_and,Bool.and_true]
theorem y2R (a:dM):yeM a a=true:=by rw [yIb]; exact decide_eq_true rfl
end
section
def ynd:Code:=(Tryz.f40.body).getD .skip
def ytn:Env:=zki TT [(115,yHY)] []
theorem yQS:FrOk Tryz.prog ⟨ytn,27,fun _=>none⟩ ynd:=zkp yb yc ⟨y0I,trivial⟩
def yFv:Nat→Option Seg:=fun _=>none
def yd6:Shape:=⟨[(0,false,[.br tM]),(1,false,[.br tM]),(5,false,[.int .i64])],[],[]⟩
def yl8:Shape:=⟨[(0,false,[.br tM]),(1,false,[.br tM]),(5,false,[.ci .i64 0])],[],[]⟩
def yl2:Shape:=⟨[],[],[]⟩
def ymk:Shape:=⟨[(4,false,[.bool])],[],[]⟩
def ysQ (v0:List dM) (v1:List dM) (v2:Int):Option ((yd6).X ⊕ ((yl2).X ⊕ (ymk).X)) :=
  bif (ltb v2 (v0.length:Int)) then
    bif (inb v2 v0.length) then
      bif (inb v2 v1.length) then
        let r2:=yeM ((nth v0 v2 ([],[],false,[])).1,((nth v0 v2 ([],[],false,[])).2).1,(((nth v0 v2 ([],[],false,[])).2).2)) ((nth v1 v2 ([],[],false,[])).1,((nth v1 v2 ([],[],false,[])).2).1,(((nth v1 v2 ([],[],false,[])).2).2))
        bif (!r2) then
          some (.inr (.inr (((false,()),()),(),())))
        else
          some (.inl (((v0,()),(v1,()),((IntKind.i64.wrap (v2+1)),()),()),(),()))
      else none
    else none
  else
    some (.inr (.inl ((),(),())))
def ycu (x:(yd6).X):=ysQ x.1.1.1 x.1.2.1.1 x.1.2.2.1.1
def yBV (x:(yl8).X):(yd6).X:=(((x.1.1.1,()),(x.1.2.1.1,()),(0,()),()),(),())
def yDw:Code:=(zdI ynd 64 116).getD .skip
theorem yQe:zdI ynd 64 29=some (.block 0 (.loop yDw)):=by kernel_rfl
theorem yS9 (x:(yd6).X):zg7 ⟨ytn,27,yFv⟩ 0 yDw 116 yd6 yl2 ymk x=ycu x:=by kernel_rfl
def yB9 (x:(yl8).X):Nat:=(fun (u0:List dM) (u1:List dM)=>18446744073709551616) x.1.1.1 x.1.2.1.1
def yuf (x:(yl8).X):Option ((yl2).X ⊕ (ymk).X):=zr ycu (yB9 x) (yBV x)
def yCq:Seg:=⟨yl8,yl2,ymk,yuf⟩
def yFw:Nat→Option Seg:=fun q=>bif Nat.beq q 29 then some yCq else yFv q
theorem yQT:FrOk Tryz.prog ⟨ytn,27,yFw⟩ ynd:=(yQS).loop (sg:=yCq) yd6 yBV (by decide) yQe ycu yB9 (by decide) (fun _=>rfl) (fun x r _ h=>h) yS9
abbrev yhC:List Par:= [.rd tMs,.rd tMs]
abbrev ytL:List OT:= [⟨false,tB,.fz⟩]
def ypG (a0:List dM) (a1:List dM):Option (ResD ytL×MutD yhC) :=
  bif ((a0.length:Int) !=(a1.length:Int)) then
    some ((false,()),())
  else
    zjw (yuf (((a0,()),(a1,()),((),()),()),(),())) (fun y2 =>
      some ((true,()),())) (fun y2 =>
      some ((y2.1.1.1,()),()))
theorem yZO (x:InD yhC):zjH ⟨ytn,27,yFw⟩ Tryz.f40.results.toList ynd yhC ytL x=ypG x.1 x.2.1:=by kernel_rfl
theorem yVT:ConOk Tryz.prog 40 ⟨yhC,ytL,fun x=>ypG x.1 x.2.1⟩:=zkh (yQT) Tryz.func40 (by kernel_rfl) (by kernel_rfl) Tryz.ntmps40.symm (by decide) (fun x r h=>(yZO x).trans h)
def ydy (a0 a1:List (dM)):Bool:=decide (a0=a1)
theorem yX5 (a0 a1:List (dM)) (hk:zi9 yhC (a0,a1,())):ypG a0 a1=(fun n=>some ((n,()),())) (ydy a0 a1):=by
  have hb:a0.length * 80≤2 ^ 47:=hk.1.1
  unfold ypG ydy
  by_cases h:a0.length=a1.length
  · have hl:yuf (((a0,()),(a1,()),((),()),()),(),())=some (bif decide (a0=a1) then .inl ((),(),()) else .inr (((false,()),()),(),())) :=
      zkF (step:=ycu) a0 a1 (([],[],false,[]):dM) (fun i=>(((a0,()),(a1,()),((i:Int),()),()),(),())) yeM yIb _ _ h (fun i hi=>by
        simp only [ycu,ysQ,zkO (h ▸ hi),zkO hi,zjW,Int.toNat_natCast,zjI (show (i:Int) < a0.length by omega),cond_true,wr (show -9223372036854775808≤(i:Int)+1 by omega) (by omega),Int.natCast_add,Int.natCast_one,zkV]
        cases yeM (a0.getD i ([],[],false,[])) (a1.getD i ([],[],false,[]))<;>rfl) (by simp only [ycu,ysQ,zkm (Int.le_refl _),cond_false]) _ (by show _ < 18446744073709551616; omega)
    rw [show ((a0.length:Int) !=(a1.length:Int))=false by simp [h],zkX,hl]
    cases decide (a0=a1)<;>rfl
  · rw [show ((a0.length:Int) !=(a1.length:Int))=true from bne_iff_ne.2 (by omega),zkY,decide_eq_false (fun e=>h (congrArg _ e))]
theorem yGK (a0 a1:List (dM)):ydy a0 a1=decide (a0=a1):=rfl
def ywh:Con:=⟨yhC,ytL,fun x=>(fun n=>some ((n,()),())) (ydy x.1 x.2.1)⟩
theorem yIm:ConOk Tryz.prog 40 ywh:=(yVT).mono (fun x r hk h=>(yX5 x.1 x.2.1 hk).trans h)
theorem yUr (a:List dM):ydy a a=true:=by rw [yGK]; exact decide_eq_true rfl
end
end
end Go.Tf
